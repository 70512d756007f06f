import Derived.Test.YtbjijbbkfgcleaaGreatDoorW01
import Derived.Test.YtbjijbbkfgcleaaGreatDoorProg
import Derived.Shelf.Strconv.Itoa4
/- A part of the proof: walks of the program. -/
set_option autoImplicit false
set_option linter.unusedSimpArgs false
set_option linter.unusedVariables false
set_option linter.unnecessarySimpa false
namespace Go.Proofs.YtbjijbbkfgcleaaGreatDoor
open Go.Gv
open Go.RowKit
open Go.Sn
theorem ty_3 : TyF Tryz.prog 3 (.int .i64 0) 1 8 := TyF.mk' (by kernel_rfl)
theorem ty_4 : TyF Tryz.prog 4 (.bool false) 1 1 := TyF.mk' (by kernel_rfl)
theorem ty_5 : TyF Tryz.prog 5 (.int .u8 0) 1 1 := TyF.mk' (by kernel_rfl)
theorem ty_25 : TyF Tryz.prog 25 (.slice none 0 0) 1 24 := TyF.mk' (by kernel_rfl)
theorem ty_27 : TyF Tryz.prog 27 (.agg #[.slice none 0 0, .slice none 0 0, .slice none 0 0, .slice none 0 0]) 4 96 := TyF.mk' (by kernel_rfl)
theorem ty_29 : TyF Tryz.prog 29 (.slice none 0 0) 1 24 := TyF.mk' (by kernel_rfl)
theorem ty_31 : TyF Tryz.prog 31 (.agg #[.slice none 0 0, .slice none 0 0, .slice none 0 0]) 3 72 := TyF.mk' (by kernel_rfl)
theorem ty_36 : TyF Tryz.prog 36 (.slice none 0 0) 1 24 := TyF.mk' (by kernel_rfl)
theorem ty_49 : TyF Tryz.prog 49 (.agg #[.string ⟨#[]⟩, .int .i64 0, .int .i64 0]) 3 32 := TyF.mk' (by kernel_rfl)
theorem ty_51 : TyF Tryz.prog 51 (.agg #[.int .i64 0, .int .i64 0]) 2 16 := TyF.mk' (by kernel_rfl)
theorem ty_53 : TyF Tryz.prog 53 (.agg #[.string ⟨#[]⟩, .int .i64 0, .int .i64 0, .int .i64 0, .int .i64 0, .int .i64 0]) 6 56 := TyF.mk' (by kernel_rfl)
theorem ty_56 : TyF Tryz.prog 56 (.agg #[.string ⟨#[]⟩, .int .i64 0, .int .i64 0, .int .i64 0, .slice none 0 0]) 5 64 := TyF.mk' (by kernel_rfl)
theorem ty_58 : TyF Tryz.prog 58 (.agg #[.string ⟨#[]⟩, .int .i64 0, .int .i64 0, .int .i64 0, .int .i64 0, .bool false]) 6 56 := TyF.mk' (by kernel_rfl)
theorem ty_65 : TyF Tryz.prog 65 (.agg #[.int .i64 0, .int .i64 0, .slice none 0 0, .int .i64 0, .int .i64 0, .int .i64 0]) 6 64 := TyF.mk' (by kernel_rfl)
theorem ty_69 : TyF Tryz.prog 69 (.agg #[.int .i64 0, .int .i64 0]) 2 16 := TyF.mk' (by kernel_rfl)
theorem ty_81 : TyF Tryz.prog 81 (.agg #[.int .i64 0, .int .i64 0, .int .i64 0]) 3 24 := TyF.mk' (by kernel_rfl)
theorem ty_82 : TyF Tryz.prog 82 (.slice none 0 0) 1 24 := TyF.mk' (by kernel_rfl)
theorem ty_84 : TyF Tryz.prog 84 (.agg (List.replicate 128 (.int .i64 0)).toArray) 128 1024 := TyF.mk' (by kernel_rfl)
theorem ty_85 : TyF Tryz.prog 85 (.int .u64 0) 1 8 := TyF.mk' (by kernel_rfl)
theorem ty_87 : TyF Tryz.prog 87 (.agg #[.int .u64 0, .int .u64 0]) 2 16 := TyF.mk' (by kernel_rfl)
theorem ty_90 : TyF Tryz.prog 90 (.agg #[.int .i64 0, .int .i64 0, .int .i64 0]) 3 24 := TyF.mk' (by kernel_rfl)
theorem ty_93 : TyF Tryz.prog 93 (.pointer none) 1 8 := TyF.mk' (by kernel_rfl)
theorem ty_104 : TyF Tryz.prog 104 (.agg #[.int .i64 0, .int .i64 0, .int .i64 0, .int .i64 0]) 4 32 := TyF.mk' (by kernel_rfl)
theorem ty_107 : TyF Tryz.prog 107 (.agg #[.int .i64 0, .int .i64 0]) 2 16 := TyF.mk' (by kernel_rfl)
theorem ty_114 : TyF Tryz.prog 114 (.agg #[.bool false, .int .i64 0, .int .i64 0, .slice none 0 0]) 4 48 := TyF.mk' (by kernel_rfl)
theorem ty_115 : TyF Tryz.prog 115 (.slice none 0 0) 1 24 := TyF.mk' (by kernel_rfl)
theorem ty_123 : TyF Tryz.prog 123 (.agg #[.int .i64 0, .int .i64 0, .int .i64 0]) 3 24 := TyF.mk' (by kernel_rfl)
theorem ty_124 : TyF Tryz.prog 124 (.slice none 0 0) 1 24 := TyF.mk' (by kernel_rfl)
theorem ty_135 : TyF Tryz.prog 135 (.pointer none) 1 8 := TyF.mk' (by kernel_rfl)
theorem fa_27_0 (ad : Addr) (w : World) : (Instr.fieldAt 27 (.pointer (some ad)) 0).run Tryz.prog w = .ok (.pointer (some (ad.add 0))) w := by cases ad; kernel_rfl
theorem fa_27_1 (ad : Addr) (w : World) : (Instr.fieldAt 27 (.pointer (some ad)) 1).run Tryz.prog w = .ok (.pointer (some (ad.add 1))) w := by cases ad; kernel_rfl
theorem fa_27_2 (ad : Addr) (w : World) : (Instr.fieldAt 27 (.pointer (some ad)) 2).run Tryz.prog w = .ok (.pointer (some (ad.add 2))) w := by cases ad; kernel_rfl
theorem fa_27_3 (ad : Addr) (w : World) : (Instr.fieldAt 27 (.pointer (some ad)) 3).run Tryz.prog w = .ok (.pointer (some (ad.add 3))) w := by cases ad; kernel_rfl
theorem fa_31_0 (ad : Addr) (w : World) : (Instr.fieldAt 31 (.pointer (some ad)) 0).run Tryz.prog w = .ok (.pointer (some (ad.add 0))) w := by cases ad; kernel_rfl
theorem fa_31_1 (ad : Addr) (w : World) : (Instr.fieldAt 31 (.pointer (some ad)) 1).run Tryz.prog w = .ok (.pointer (some (ad.add 1))) w := by cases ad; kernel_rfl
theorem fa_31_2 (ad : Addr) (w : World) : (Instr.fieldAt 31 (.pointer (some ad)) 2).run Tryz.prog w = .ok (.pointer (some (ad.add 2))) w := by cases ad; kernel_rfl
theorem fa_49_0 (ad : Addr) (w : World) : (Instr.fieldAt 49 (.pointer (some ad)) 0).run Tryz.prog w = .ok (.pointer (some (ad.add 0))) w := by cases ad; kernel_rfl
theorem fa_49_1 (ad : Addr) (w : World) : (Instr.fieldAt 49 (.pointer (some ad)) 1).run Tryz.prog w = .ok (.pointer (some (ad.add 1))) w := by cases ad; kernel_rfl
theorem fa_49_2 (ad : Addr) (w : World) : (Instr.fieldAt 49 (.pointer (some ad)) 2).run Tryz.prog w = .ok (.pointer (some (ad.add 2))) w := by cases ad; kernel_rfl
theorem fa_51_0 (ad : Addr) (w : World) : (Instr.fieldAt 51 (.pointer (some ad)) 0).run Tryz.prog w = .ok (.pointer (some (ad.add 0))) w := by cases ad; kernel_rfl
theorem fa_51_1 (ad : Addr) (w : World) : (Instr.fieldAt 51 (.pointer (some ad)) 1).run Tryz.prog w = .ok (.pointer (some (ad.add 1))) w := by cases ad; kernel_rfl
theorem fa_53_0 (ad : Addr) (w : World) : (Instr.fieldAt 53 (.pointer (some ad)) 0).run Tryz.prog w = .ok (.pointer (some (ad.add 0))) w := by cases ad; kernel_rfl
theorem fa_53_1 (ad : Addr) (w : World) : (Instr.fieldAt 53 (.pointer (some ad)) 1).run Tryz.prog w = .ok (.pointer (some (ad.add 1))) w := by cases ad; kernel_rfl
theorem fa_53_2 (ad : Addr) (w : World) : (Instr.fieldAt 53 (.pointer (some ad)) 2).run Tryz.prog w = .ok (.pointer (some (ad.add 2))) w := by cases ad; kernel_rfl
theorem fa_53_3 (ad : Addr) (w : World) : (Instr.fieldAt 53 (.pointer (some ad)) 3).run Tryz.prog w = .ok (.pointer (some (ad.add 4))) w := by cases ad; kernel_rfl
theorem fa_53_4 (ad : Addr) (w : World) : (Instr.fieldAt 53 (.pointer (some ad)) 4).run Tryz.prog w = .ok (.pointer (some (ad.add 5))) w := by cases ad; kernel_rfl
theorem fa_56_0 (ad : Addr) (w : World) : (Instr.fieldAt 56 (.pointer (some ad)) 0).run Tryz.prog w = .ok (.pointer (some (ad.add 0))) w := by cases ad; kernel_rfl
theorem fa_56_1 (ad : Addr) (w : World) : (Instr.fieldAt 56 (.pointer (some ad)) 1).run Tryz.prog w = .ok (.pointer (some (ad.add 1))) w := by cases ad; kernel_rfl
theorem fa_56_2 (ad : Addr) (w : World) : (Instr.fieldAt 56 (.pointer (some ad)) 2).run Tryz.prog w = .ok (.pointer (some (ad.add 2))) w := by cases ad; kernel_rfl
theorem fa_56_3 (ad : Addr) (w : World) : (Instr.fieldAt 56 (.pointer (some ad)) 3).run Tryz.prog w = .ok (.pointer (some (ad.add 4))) w := by cases ad; kernel_rfl
theorem fa_58_0 (ad : Addr) (w : World) : (Instr.fieldAt 58 (.pointer (some ad)) 0).run Tryz.prog w = .ok (.pointer (some (ad.add 0))) w := by cases ad; kernel_rfl
theorem fa_58_1 (ad : Addr) (w : World) : (Instr.fieldAt 58 (.pointer (some ad)) 1).run Tryz.prog w = .ok (.pointer (some (ad.add 1))) w := by cases ad; kernel_rfl
theorem fa_58_2 (ad : Addr) (w : World) : (Instr.fieldAt 58 (.pointer (some ad)) 2).run Tryz.prog w = .ok (.pointer (some (ad.add 2))) w := by cases ad; kernel_rfl
theorem fa_58_3 (ad : Addr) (w : World) : (Instr.fieldAt 58 (.pointer (some ad)) 3).run Tryz.prog w = .ok (.pointer (some (ad.add 3))) w := by cases ad; kernel_rfl
theorem fa_58_4 (ad : Addr) (w : World) : (Instr.fieldAt 58 (.pointer (some ad)) 4).run Tryz.prog w = .ok (.pointer (some (ad.add 4))) w := by cases ad; kernel_rfl
theorem fa_58_5 (ad : Addr) (w : World) : (Instr.fieldAt 58 (.pointer (some ad)) 5).run Tryz.prog w = .ok (.pointer (some (ad.add 5))) w := by cases ad; kernel_rfl
theorem fa_65_0 (ad : Addr) (w : World) : (Instr.fieldAt 65 (.pointer (some ad)) 0).run Tryz.prog w = .ok (.pointer (some (ad.add 0))) w := by cases ad; kernel_rfl
theorem fa_65_1 (ad : Addr) (w : World) : (Instr.fieldAt 65 (.pointer (some ad)) 1).run Tryz.prog w = .ok (.pointer (some (ad.add 1))) w := by cases ad; kernel_rfl
theorem fa_65_2 (ad : Addr) (w : World) : (Instr.fieldAt 65 (.pointer (some ad)) 2).run Tryz.prog w = .ok (.pointer (some (ad.add 2))) w := by cases ad; kernel_rfl
theorem fa_65_3 (ad : Addr) (w : World) : (Instr.fieldAt 65 (.pointer (some ad)) 3).run Tryz.prog w = .ok (.pointer (some (ad.add 3))) w := by cases ad; kernel_rfl
theorem fa_65_4 (ad : Addr) (w : World) : (Instr.fieldAt 65 (.pointer (some ad)) 4).run Tryz.prog w = .ok (.pointer (some (ad.add 4))) w := by cases ad; kernel_rfl
theorem fa_65_5 (ad : Addr) (w : World) : (Instr.fieldAt 65 (.pointer (some ad)) 5).run Tryz.prog w = .ok (.pointer (some (ad.add 5))) w := by cases ad; kernel_rfl
theorem fa_69_0 (ad : Addr) (w : World) : (Instr.fieldAt 69 (.pointer (some ad)) 0).run Tryz.prog w = .ok (.pointer (some (ad.add 0))) w := by cases ad; kernel_rfl
theorem fa_69_1 (ad : Addr) (w : World) : (Instr.fieldAt 69 (.pointer (some ad)) 1).run Tryz.prog w = .ok (.pointer (some (ad.add 1))) w := by cases ad; kernel_rfl
theorem fa_81_0 (ad : Addr) (w : World) : (Instr.fieldAt 81 (.pointer (some ad)) 0).run Tryz.prog w = .ok (.pointer (some (ad.add 0))) w := by cases ad; kernel_rfl
theorem fa_97_0 (ad : Addr) (w : World) : (Instr.fieldAt 97 (.pointer (some ad)) 0).run Tryz.prog w = .ok (.pointer (some (ad.add 0))) w := by cases ad; kernel_rfl
theorem fa_97_1 (ad : Addr) (w : World) : (Instr.fieldAt 97 (.pointer (some ad)) 1).run Tryz.prog w = .ok (.pointer (some (ad.add 1))) w := by cases ad; kernel_rfl
theorem fa_104_0 (ad : Addr) (w : World) : (Instr.fieldAt 104 (.pointer (some ad)) 0).run Tryz.prog w = .ok (.pointer (some (ad.add 0))) w := by cases ad; kernel_rfl
theorem fa_104_1 (ad : Addr) (w : World) : (Instr.fieldAt 104 (.pointer (some ad)) 1).run Tryz.prog w = .ok (.pointer (some (ad.add 1))) w := by cases ad; kernel_rfl
theorem fa_104_2 (ad : Addr) (w : World) : (Instr.fieldAt 104 (.pointer (some ad)) 2).run Tryz.prog w = .ok (.pointer (some (ad.add 2))) w := by cases ad; kernel_rfl
theorem fa_104_3 (ad : Addr) (w : World) : (Instr.fieldAt 104 (.pointer (some ad)) 3).run Tryz.prog w = .ok (.pointer (some (ad.add 3))) w := by cases ad; kernel_rfl
theorem fa_107_0 (ad : Addr) (w : World) : (Instr.fieldAt 107 (.pointer (some ad)) 0).run Tryz.prog w = .ok (.pointer (some (ad.add 0))) w := by cases ad; kernel_rfl
theorem fa_107_1 (ad : Addr) (w : World) : (Instr.fieldAt 107 (.pointer (some ad)) 1).run Tryz.prog w = .ok (.pointer (some (ad.add 1))) w := by cases ad; kernel_rfl
theorem fa_114_0 (ad : Addr) (w : World) : (Instr.fieldAt 114 (.pointer (some ad)) 0).run Tryz.prog w = .ok (.pointer (some (ad.add 0))) w := by cases ad; kernel_rfl
theorem fa_114_1 (ad : Addr) (w : World) : (Instr.fieldAt 114 (.pointer (some ad)) 1).run Tryz.prog w = .ok (.pointer (some (ad.add 1))) w := by cases ad; kernel_rfl
theorem fa_114_2 (ad : Addr) (w : World) : (Instr.fieldAt 114 (.pointer (some ad)) 2).run Tryz.prog w = .ok (.pointer (some (ad.add 2))) w := by cases ad; kernel_rfl
theorem fa_114_3 (ad : Addr) (w : World) : (Instr.fieldAt 114 (.pointer (some ad)) 3).run Tryz.prog w = .ok (.pointer (some (ad.add 3))) w := by cases ad; kernel_rfl
theorem fa_138_0 (ad : Addr) (w : World) : (Instr.fieldAt 138 (.pointer (some ad)) 0).run Tryz.prog w = .ok (.pointer (some (ad.add 0))) w := by cases ad; kernel_rfl
theorem fa_138_1 (ad : Addr) (w : World) : (Instr.fieldAt 138 (.pointer (some ad)) 1).run Tryz.prog w = .ok (.pointer (some (ad.add 4))) w := by cases ad; kernel_rfl
theorem bd_27_0_1_2_3 (x1a : Option Addr) (x1n x1c : Nat) (x2a : Option Addr) (x2n x2c : Nat) (x3a : Option Addr) (x3n x3c : Nat) (x4a : Option Addr) (x4n x4c : Nat) {w : World} : (Instr.build 27 #[(0, .slice x1a x1n x1c), (1, .slice x2a x2n x2c), (2, .slice x3a x3n x3c), (3, .slice x4a x4n x4c)]).run Tryz.prog w = .ok (.agg #[.slice x1a x1n x1c, .slice x2a x2n x2c, .slice x3a x3n x3c, .slice x4a x4n x4c]) w := by kernel_rfl
theorem bd_31_0_1_2 (x1a : Option Addr) (x1n x1c : Nat) (x2a : Option Addr) (x2n x2c : Nat) (x3a : Option Addr) (x3n x3c : Nat) {w : World} : (Instr.build 31 #[(0, .slice x1a x1n x1c), (1, .slice x2a x2n x2c), (2, .slice x3a x3n x3c)]).run Tryz.prog w = .ok (.agg #[.slice x1a x1n x1c, .slice x2a x2n x2c, .slice x3a x3n x3c]) w := by kernel_rfl
theorem bd_49_0_1_2 (x1 : ByteArray) (x2 : Int) (x3 : Int) {w : World} : (Instr.build 49 #[(0, .string x1), (1, .int .i64 x2), (2, .int .i64 x3)]).run Tryz.prog w = .ok (.agg #[.string x1, .int .i64 x2, .int .i64 x3]) w := by kernel_rfl
theorem bd_51_0_1 (x1 : Int) (x2 : Int) {w : World} : (Instr.build 51 #[(0, .int .i64 x1), (1, .int .i64 x2)]).run Tryz.prog w = .ok (.agg #[.int .i64 x1, .int .i64 x2]) w := by kernel_rfl
theorem bd_53_0_1_2_3_4 (x1 : ByteArray) (x2 : Int) (x3 : Int) (x4 : Int) (x5 : Int) (x6 : Int) {w : World} : (Instr.build 53 #[(0, .string x1), (1, .int .i64 x2), (2, .agg #[.int .i64 x3, .int .i64 x4]), (3, .int .i64 x5), (4, .int .i64 x6)]).run Tryz.prog w = .ok (.agg #[.string x1, .int .i64 x2, .int .i64 x3, .int .i64 x4, .int .i64 x5, .int .i64 x6]) w := by kernel_rfl
theorem bd_56_0_2_3 (x1 : ByteArray) (x2 : Int) (x3 : Int) (x4a : Option Addr) (x4n x4c : Nat) {w : World} : (Instr.build 56 #[(0, .string x1), (2, .agg #[.int .i64 x2, .int .i64 x3]), (3, .slice x4a x4n x4c)]).run Tryz.prog w = .ok (.agg #[.string x1, .int .i64 0, .int .i64 x2, .int .i64 x3, .slice x4a x4n x4c]) w := by kernel_rfl
theorem bd_58_0_3 (x1 : ByteArray) (x2 : Int) {w : World} : (Instr.build 58 #[(0, .string x1), (3, .int .i64 x2)]).run Tryz.prog w = .ok (.agg #[.string x1, .int .i64 0, .int .i64 0, .int .i64 x2, .int .i64 0, .bool false]) w := by kernel_rfl
theorem bd_58_0_3_4 (x1 : ByteArray) (x2 : Int) (x3 : Int) {w : World} : (Instr.build 58 #[(0, .string x1), (3, .int .i64 x2), (4, .int .i64 x3)]).run Tryz.prog w = .ok (.agg #[.string x1, .int .i64 0, .int .i64 0, .int .i64 x2, .int .i64 x3, .bool false]) w := by kernel_rfl
theorem bd_58_0_3_5 (x1 : ByteArray) (x2 : Int) (x3 : Bool) {w : World} : (Instr.build 58 #[(0, .string x1), (3, .int .i64 x2), (5, .bool x3)]).run Tryz.prog w = .ok (.agg #[.string x1, .int .i64 0, .int .i64 0, .int .i64 x2, .int .i64 0, .bool x3]) w := by kernel_rfl
theorem bd_65_  {w : World} : (Instr.build 65 #[]).run Tryz.prog w = .ok (.agg #[.int .i64 0, .int .i64 0, .slice none 0 0, .int .i64 0, .int .i64 0, .int .i64 0]) w := by kernel_rfl
theorem bd_65_0_1_2_3_4_5 (x1 : Int) (x2 : Int) (x3a : Option Addr) (x3n x3c : Nat) (x4 : Int) (x5 : Int) (x6 : Int) {w : World} : (Instr.build 65 #[(0, .int .i64 x1), (1, .int .i64 x2), (2, .slice x3a x3n x3c), (3, .int .i64 x4), (4, .int .i64 x5), (5, .int .i64 x6)]).run Tryz.prog w = .ok (.agg #[.int .i64 x1, .int .i64 x2, .slice x3a x3n x3c, .int .i64 x4, .int .i64 x5, .int .i64 x6]) w := by kernel_rfl
theorem bd_65_1_2_4_5 (x1 : Int) (x2a : Option Addr) (x2n x2c : Nat) (x3 : Int) (x4 : Int) {w : World} : (Instr.build 65 #[(1, .int .i64 x1), (2, .slice x2a x2n x2c), (4, .int .i64 x3), (5, .int .i64 x4)]).run Tryz.prog w = .ok (.agg #[.int .i64 0, .int .i64 x1, .slice x2a x2n x2c, .int .i64 0, .int .i64 x3, .int .i64 x4]) w := by kernel_rfl
theorem bd_69_0_1 (x1 : Int) (x2 : Int) {w : World} : (Instr.build 69 #[(0, .int .i64 x1), (1, .int .i64 x2)]).run Tryz.prog w = .ok (.agg #[.int .i64 x1, .int .i64 x2]) w := by kernel_rfl
theorem bd_69_1 (x1 : Int) {w : World} : (Instr.build 69 #[(1, .int .i64 x1)]).run Tryz.prog w = .ok (.agg #[.int .i64 0, .int .i64 x1]) w := by kernel_rfl
theorem bd_81_0_1 (x1 : Int) (x2 : Int) (x3 : Int) {w : World} : (Instr.build 81 #[(0, .agg #[.int .i64 x1, .int .i64 x2]), (1, .int .i64 x3)]).run Tryz.prog w = .ok (.agg #[.int .i64 x1, .int .i64 x2, .int .i64 x3]) w := by kernel_rfl
theorem bd_90_  {w : World} : (Instr.build 90 #[]).run Tryz.prog w = .ok (.agg #[.int .i64 0, .int .i64 0, .int .i64 0]) w := by kernel_rfl
theorem bd_90_0_1 (x1 : Int) (x2 : Int) {w : World} : (Instr.build 90 #[(0, .int .i64 x1), (1, .int .i64 x2)]).run Tryz.prog w = .ok (.agg #[.int .i64 x1, .int .i64 x2, .int .i64 0]) w := by kernel_rfl
theorem bd_90_0_1_2 (x1 : Int) (x2 : Int) (x3 : Int) {w : World} : (Instr.build 90 #[(0, .int .i64 x1), (1, .int .i64 x2), (2, .int .i64 x3)]).run Tryz.prog w = .ok (.agg #[.int .i64 x1, .int .i64 x2, .int .i64 x3]) w := by kernel_rfl
theorem bd_97_0_1 (x1a : Option Addr) (x1n x1c : Nat) (x2 : Option Nat) {w : World} : (Instr.build 97 #[(0, .slice x1a x1n x1c), (1, .map x2)]).run Tryz.prog w = .ok (.agg #[.slice x1a x1n x1c, .map x2]) w := by kernel_rfl
theorem bd_104_0_2_3 (x1 : Int) (x2 : Int) (x3 : Int) {w : World} : (Instr.build 104 #[(0, .int .i64 x1), (2, .int .i64 x2), (3, .int .i64 x3)]).run Tryz.prog w = .ok (.agg #[.int .i64 x1, .int .i64 0, .int .i64 x2, .int .i64 x3]) w := by kernel_rfl
theorem bd_104_1_2_3 (x1 : Int) (x2 : Int) (x3 : Int) {w : World} : (Instr.build 104 #[(1, .int .i64 x1), (2, .int .i64 x2), (3, .int .i64 x3)]).run Tryz.prog w = .ok (.agg #[.int .i64 0, .int .i64 x1, .int .i64 x2, .int .i64 x3]) w := by kernel_rfl
theorem bd_104_2_3 (x1 : Int) (x2 : Int) {w : World} : (Instr.build 104 #[(2, .int .i64 x1), (3, .int .i64 x2)]).run Tryz.prog w = .ok (.agg #[.int .i64 0, .int .i64 0, .int .i64 x1, .int .i64 x2]) w := by kernel_rfl
theorem bd_107_0_1 (x1 : Int) (x2 : Int) {w : World} : (Instr.build 107 #[(0, .int .i64 x1), (1, .int .i64 x2)]).run Tryz.prog w = .ok (.agg #[.int .i64 x1, .int .i64 x2]) w := by kernel_rfl
theorem bd_114_0_2_1 (x1 : Bool) (x2 : Int) (x3 : Int) {w : World} : (Instr.build 114 #[(0, .bool x1), (2, .int .i64 x2), (1, .int .i64 x3)]).run Tryz.prog w = .ok (.agg #[.bool x1, .int .i64 x3, .int .i64 x2, .slice none 0 0]) w := by kernel_rfl
theorem bd_114_0_2_1_3 (x1 : Bool) (x2 : Int) (x3 : Int) (x4a : Option Addr) (x4n x4c : Nat) {w : World} : (Instr.build 114 #[(0, .bool x1), (2, .int .i64 x2), (1, .int .i64 x3), (3, .slice x4a x4n x4c)]).run Tryz.prog w = .ok (.agg #[.bool x1, .int .i64 x3, .int .i64 x2, .slice x4a x4n x4c]) w := by kernel_rfl
theorem bd_123_0 (x1 : Int) {w : World} : (Instr.build 123 #[(0, .int .i64 x1)]).run Tryz.prog w = .ok (.agg #[.int .i64 x1, .int .i64 0, .int .i64 0]) w := by kernel_rfl
theorem bd_123_0_1 (x1 : Int) (x2 : Int) (x3 : Int) {w : World} : (Instr.build 123 #[(0, .int .i64 x1), (1, .agg #[.int .i64 x2, .int .i64 x3])]).run Tryz.prog w = .ok (.agg #[.int .i64 x1, .int .i64 x2, .int .i64 x3]) w := by kernel_rfl
theorem bd_138_0_1 (x1a : Option Addr) (x1n x1c : Nat) (x2a : Option Addr) (x2n x2c : Nat) (x3a : Option Addr) (x3n x3c : Nat) (x4a : Option Addr) (x4n x4c : Nat) (x5 : Option Nat) {w : World} : (Instr.build 138 #[(0, .agg #[.slice x1a x1n x1c, .slice x2a x2n x2c, .slice x3a x3n x3c, .slice x4a x4n x4c]), (1, .map x5)]).run Tryz.prog w = .ok (.agg #[.slice x1a x1n x1c, .slice x2a x2n x2c, .slice x3a x3n x3c, .slice x4a x4n x4c, .map x5]) w := by kernel_rfl
theorem bs_22_1_0 (x1 : ByteArray) (x2 : Int) (x3 : Int) {w : World} : (Instr.buildSlice 22 1 #[(0, .agg #[.string x1, .int .i64 x2, .int .i64 x3])]).run Tryz.prog w = .ok (.slice (some ⟨w.heap.size, 0, none⟩) 1 1) (w.alloc (.cells [.string x1, .int .i64 x2, .int .i64 x3].toArray 49)) := by kernel_rfl
theorem bs_23_2_0_1 (x1 : ByteArray) (x2 : Int) (x3 : Int) (x4 : Int) (x5 : Int) (x6 : Int) (x7 : ByteArray) (x8 : Int) (x9 : Int) (x10 : Int) (x11 : Int) (x12 : Int) {w : World} : (Instr.buildSlice 23 2 #[(0, .agg #[.string x1, .int .i64 x2, .int .i64 x3, .int .i64 x4, .int .i64 x5, .int .i64 x6]), (1, .agg #[.string x7, .int .i64 x8, .int .i64 x9, .int .i64 x10, .int .i64 x11, .int .i64 x12])]).run Tryz.prog w = .ok (.slice (some ⟨w.heap.size, 0, none⟩) 2 2) (w.alloc (.cells [.string x1, .int .i64 x2, .int .i64 x3, .int .i64 x4, .int .i64 x5, .int .i64 x6, .string x7, .int .i64 x8, .int .i64 x9, .int .i64 x10, .int .i64 x11, .int .i64 x12].toArray 53)) := by kernel_rfl
theorem bs_24_3_0_1_2 (x1 : ByteArray) (x2 : Int) (x3 : Int) (x4 : Int) (x5a : Option Addr) (x5n x5c : Nat) (x6 : ByteArray) (x7 : Int) (x8 : Int) (x9 : Int) (x10a : Option Addr) (x10n x10c : Nat) (x11 : ByteArray) (x12 : Int) (x13 : Int) (x14 : Int) (x15a : Option Addr) (x15n x15c : Nat) {w : World} : (Instr.buildSlice 24 3 #[(0, .agg #[.string x1, .int .i64 x2, .int .i64 x3, .int .i64 x4, .slice x5a x5n x5c]), (1, .agg #[.string x6, .int .i64 x7, .int .i64 x8, .int .i64 x9, .slice x10a x10n x10c]), (2, .agg #[.string x11, .int .i64 x12, .int .i64 x13, .int .i64 x14, .slice x15a x15n x15c])]).run Tryz.prog w = .ok (.slice (some ⟨w.heap.size, 0, none⟩) 3 3) (w.alloc (.cells [.string x1, .int .i64 x2, .int .i64 x3, .int .i64 x4, .slice x5a x5n x5c, .string x6, .int .i64 x7, .int .i64 x8, .int .i64 x9, .slice x10a x10n x10c, .string x11, .int .i64 x12, .int .i64 x13, .int .i64 x14, .slice x15a x15n x15c].toArray 56)) := by kernel_rfl
theorem bs_25_1_0 (x1 : ByteArray) (x2 : Int) (x3 : Int) (x4 : Int) (x5 : Int) (x6 : Bool) {w : World} : (Instr.buildSlice 25 1 #[(0, .agg #[.string x1, .int .i64 x2, .int .i64 x3, .int .i64 x4, .int .i64 x5, .bool x6])]).run Tryz.prog w = .ok (.slice (some ⟨w.heap.size, 0, none⟩) 1 1) (w.alloc (.cells [.string x1, .int .i64 x2, .int .i64 x3, .int .i64 x4, .int .i64 x5, .bool x6].toArray 58)) := by kernel_rfl
theorem bs_25_3_0_1_2 (x1 : ByteArray) (x2 : Int) (x3 : Int) (x4 : Int) (x5 : Int) (x6 : Bool) (x7 : ByteArray) (x8 : Int) (x9 : Int) (x10 : Int) (x11 : Int) (x12 : Bool) (x13 : ByteArray) (x14 : Int) (x15 : Int) (x16 : Int) (x17 : Int) (x18 : Bool) {w : World} : (Instr.buildSlice 25 3 #[(0, .agg #[.string x1, .int .i64 x2, .int .i64 x3, .int .i64 x4, .int .i64 x5, .bool x6]), (1, .agg #[.string x7, .int .i64 x8, .int .i64 x9, .int .i64 x10, .int .i64 x11, .bool x12]), (2, .agg #[.string x13, .int .i64 x14, .int .i64 x15, .int .i64 x16, .int .i64 x17, .bool x18])]).run Tryz.prog w = .ok (.slice (some ⟨w.heap.size, 0, none⟩) 3 3) (w.alloc (.cells [.string x1, .int .i64 x2, .int .i64 x3, .int .i64 x4, .int .i64 x5, .bool x6, .string x7, .int .i64 x8, .int .i64 x9, .int .i64 x10, .int .i64 x11, .bool x12, .string x13, .int .i64 x14, .int .i64 x15, .int .i64 x16, .int .i64 x17, .bool x18].toArray 58)) := by kernel_rfl
theorem bs_28_1_0 (x1a : Option Addr) (x1n x1c : Nat) {w : World} : (Instr.buildSlice 28 1 #[(0, .slice x1a x1n x1c)]).run Tryz.prog w = .ok (.slice (some ⟨w.heap.size, 0, none⟩) 1 1) (w.alloc (.cells [.slice x1a x1n x1c].toArray 29)) := by kernel_rfl
theorem bs_29_0_  {w : World} : (Instr.buildSlice 29 0 #[]).run Tryz.prog w = .ok (.slice (some ⟨w.heap.size, 0, none⟩) 0 0) (w.alloc (.cells [].toArray 3)) := by kernel_rfl
theorem bs_29_1_0 (x1 : Int) {w : World} : (Instr.buildSlice 29 1 #[(0, .int .i64 x1)]).run Tryz.prog w = .ok (.slice (some ⟨w.heap.size, 0, none⟩) 1 1) (w.alloc (.cells [.int .i64 x1].toArray 3)) := by kernel_rfl
theorem bs_29_2_0_1 (x1 : Int) (x2 : Int) {w : World} : (Instr.buildSlice 29 2 #[(0, .int .i64 x1), (1, .int .i64 x2)]).run Tryz.prog w = .ok (.slice (some ⟨w.heap.size, 0, none⟩) 2 2) (w.alloc (.cells [.int .i64 x1, .int .i64 x2].toArray 3)) := by kernel_rfl
theorem bs_29_3_0_1_2 (x1 : Int) (x2 : Int) (x3 : Int) {w : World} : (Instr.buildSlice 29 3 #[(0, .int .i64 x1), (1, .int .i64 x2), (2, .int .i64 x3)]).run Tryz.prog w = .ok (.slice (some ⟨w.heap.size, 0, none⟩) 3 3) (w.alloc (.cells [.int .i64 x1, .int .i64 x2, .int .i64 x3].toArray 3)) := by kernel_rfl
theorem bs_29_4_0_1_2_3 (x1 : Int) (x2 : Int) (x3 : Int) (x4 : Int) {w : World} : (Instr.buildSlice 29 4 #[(0, .int .i64 x1), (1, .int .i64 x2), (2, .int .i64 x3), (3, .int .i64 x4)]).run Tryz.prog w = .ok (.slice (some ⟨w.heap.size, 0, none⟩) 4 4) (w.alloc (.cells [.int .i64 x1, .int .i64 x2, .int .i64 x3, .int .i64 x4].toArray 3)) := by kernel_rfl
theorem bs_36_1_0 (x1 : Int) (x2 : Int) {w : World} : (Instr.buildSlice 36 1 #[(0, .agg #[.int .i64 x1, .int .i64 x2])]).run Tryz.prog w = .ok (.slice (some ⟨w.heap.size, 0, none⟩) 1 1) (w.alloc (.cells [.int .i64 x1, .int .i64 x2].toArray 69)) := by kernel_rfl
theorem bs_40_1_0 (x1 : Int) (x2 : Int) (x3 : Int) {w : World} : (Instr.buildSlice 40 1 #[(0, .agg #[.int .i64 x1, .int .i64 x2, .int .i64 x3])]).run Tryz.prog w = .ok (.slice (some ⟨w.heap.size, 0, none⟩) 1 1) (w.alloc (.cells [.int .i64 x1, .int .i64 x2, .int .i64 x3].toArray 81)) := by kernel_rfl
theorem bs_54_1_0 (x1 : Int) (x2 : Int) (x3 : Int) (x4 : Int) {w : World} : (Instr.buildSlice 54 1 #[(0, .agg #[.int .i64 x1, .int .i64 x2, .int .i64 x3, .int .i64 x4])]).run Tryz.prog w = .ok (.slice (some ⟨w.heap.size, 0, none⟩) 1 1) (w.alloc (.cells [.int .i64 x1, .int .i64 x2, .int .i64 x3, .int .i64 x4].toArray 104)) := by kernel_rfl
theorem bs_124_1_0 (x1 : Int) (x2 : Int) {w : World} : (Instr.buildSlice 124 1 #[(0, .agg #[.int .i64 x1, .int .i64 x2])]).run Tryz.prog w = .ok (.slice (some ⟨w.heap.size, 0, none⟩) 1 1) (w.alloc (.cells [.int .i64 x1, .int .i64 x2].toArray 107)) := by kernel_rfl
theorem bs_127_1_0 (x1a : Option Addr) (x1n x1c : Nat) {w : World} : (Instr.buildSlice 127 1 #[(0, .slice x1a x1n x1c)]).run Tryz.prog w = .ok (.slice (some ⟨w.heap.size, 0, none⟩) 1 1) (w.alloc (.cells [.slice x1a x1n x1c].toArray 124)) := by kernel_rfl
theorem fd_123_0 (x1 : Int) (x2 : Int) (x3 : Int) (w : World) : (Instr.field 123 (.agg #[.int .i64 x1, .int .i64 x2, .int .i64 x3]) 0).run Tryz.prog w = .ok (.int .i64 x1) w := by kernel_rfl
theorem fd_123_1 (x1 : Int) (x2 : Int) (x3 : Int) (w : World) : (Instr.field 123 (.agg #[.int .i64 x1, .int .i64 x2, .int .i64 x3]) 1).run Tryz.prog w = .ok (.agg #[.int .i64 x2, .int .i64 x3]) w := by kernel_rfl
end Go.Proofs.YtbjijbbkfgcleaaGreatDoor
namespace Go.Proofs.YtbjijbbkfgcleaaGreatDoor
open Go.Gv
open Go.RowKit
open Go.Sn
namespace Sx
def withinB (n a b : Int) : Bool := decide (a ≤ n) && decide (n ≤ b)
theorem letter_or {c : Nat} (hc : c < 256) : (decide (97 ≤ c ||| 32) && decide (c ||| 32 ≤ 122)) = letterB c := letterB_or ⟨c, hc⟩
theorem gcd_step (a b : Nat) (hb : b ≠ 0) : Nat.gcd a b = Nat.gcd b (a % b) := by rw [Nat.gcd_comm, Nat.gcd_rec, Nat.gcd_comm]
end Sx
open Sx
set_option maxRecDepth 100000 in
set_option maxHeartbeats 1000000 in
theorem within_ok (n a b : Int) (w0 : World) : Sp Tryz.prog 83 [.int .i64 n, .int .i64 a, .int .i64 b] w0 [] (RV (.bool (withinB n a b))) := by
  refine spec_enter Tryz.func83 rfl Tryz.ntmps83 rfl (Own.refl _) ?_
  simp only [argEnv]
  refine gc_seq <| gc_region <| gl_op <| op_rd rfl (rd_assign rfl) <| gl_nil <| gx_then <| gc_seq <| gc_region <| gl_op <| op_rd rfl (rd_move rfl) <| gl_op <| op_rd rfl (rd_move rfl) <| gl_op (op_rd rfl (rd_geq rfl rfl) (gk_dec (fun hd1 => ?_) (fun hd1 => ?_)))
  · refine gl_op <| op_rd rfl (rd_move rfl) <| gl_yes rfl rfl <| op_rd rfl (rd_move rfl) <| gl_yes rfl rfl <| op_rd rfl (rd_move rfl) <| gl_yes rfl rfl <| op_rd rfl (rd_leq rfl rfl) <| gl_op <| op_rd rfl (rd_pick_t rfl rfl) <| gl_op <| op_rd rfl (rd_assign rfl) <| gl_nil <| gx_then <| gc_ret <| gx_ret1 (.inl rfl) Tryz.results83 rfl [] (by decide) ?_
    refine ⟨congrArg Value.bool (Eq.symm ?_), rfl⟩
    (simp [withinB, *]; done)
  refine gl_op <| op_rd rfl (rd_move rfl) <| gl_no rfl rfl rfl <| gl_no rfl rfl rfl <| gl_no rfl rfl rfl <| gl_op <| op_rd rfl (rd_pick_f rfl rfl) <| gl_op <| op_rd rfl (rd_assign rfl) <| gl_nil <| gx_then <| gc_ret <| gx_ret1 (.inl rfl) Tryz.results83 rfl [] (by decide) ?_
  refine ⟨congrArg Value.bool (Eq.symm ?_), rfl⟩
  (simp [withinB, *]; done)
set_option maxRecDepth 100000 in
set_option maxHeartbeats 1000000 in
theorem letter_ok (c : Nat) (hc : c < 256) (w0 : World) : Sp Tryz.prog 91 [.int .u8 ((c : Nat) : Int)] w0 [] (RV (.bool (letterB c))) := by
  refine spec_enter Tryz.func91 rfl Tryz.ntmps91 rfl (Own.refl _) ?_
  simp only [argEnv]
  refine gc_seq <| gc_region <| gl_op <| op_rd rfl (rd_assign rfl) <| gl_nil <| gx_then <| gc_seq <| gc_region <| gl_op <| op_rd rfl (rd_move rfl) <| gl_op (op_rd rfl (rd_or8 (a := c) (b := 32) rfl rfl hc (by decide)) ?_)
  refine gl_op (op_rd rfl (rd_geq rfl rfl) (gk_dec (fun hd1 => ?_) (fun hd1 => ?_)))
  · refine gl_op <| op_rd rfl (rd_move rfl) <| gl_yes rfl rfl <| op_rd rfl (rd_move rfl) <| gl_yes rfl rfl (op_rd rfl (rd_or8 (a := c) (b := 32) rfl rfl hc (by decide)) ?_)
    refine gl_yes rfl rfl <| op_rd rfl (rd_leq rfl rfl) <| gl_op <| op_rd rfl (rd_pick_t rfl rfl) <| gl_op <| op_rd rfl (rd_assign rfl) <| gl_nil <| gx_then <| gc_ret <| gx_ret1 (.inl rfl) Tryz.results91 rfl [] (by decide) ?_
    refine ⟨congrArg Value.bool (Eq.symm ?_), rfl⟩
    rw [← letter_or hc]
    (rw [Bool.eq_iff_iff]; simp [*]; omega)
  refine gl_op <| op_rd rfl (rd_move rfl) <| gl_no rfl rfl rfl <| gl_no rfl rfl rfl <| gl_no rfl rfl rfl <| gl_op <| op_rd rfl (rd_pick_f rfl rfl) <| gl_op <| op_rd rfl (rd_assign rfl) <| gl_nil <| gx_then <| gc_ret <| gx_ret1 (.inl rfl) Tryz.results91 rfl [] (by decide) ?_
  refine ⟨congrArg Value.bool (Eq.symm ?_), rfl⟩
  rw [← letter_or hc]
  (simp [*]; omega)
set_option maxRecDepth 100000 in
set_option maxHeartbeats 1000000 in
theorem digit_ok (c : Nat) (w0 : World) : Sp Tryz.prog 92 [.int .u8 ((c : Nat) : Int)] w0 [] (RV (.bool (digitB c))) := by
  refine spec_enter Tryz.func92 rfl Tryz.ntmps92 rfl (Own.refl _) ?_
  simp only [argEnv]
  refine gc_seq <| gc_region <| gl_op <| op_rd rfl (rd_assign rfl) <| gl_nil <| gx_then <| gc_seq <| gc_region <| gl_op <| op_rd rfl (rd_move rfl) <| gl_op (op_rd rfl (rd_geq rfl rfl) (gk_dec (fun hd1 => ?_) (fun hd1 => ?_)))
  · refine gl_op <| op_rd rfl (rd_move rfl) <| gl_yes rfl rfl <| op_rd rfl (rd_move rfl) <| gl_yes rfl rfl <| op_rd rfl (rd_leq rfl rfl) <| gl_op <| op_rd rfl (rd_pick_t rfl rfl) <| gl_op <| op_rd rfl (rd_assign rfl) <| gl_nil <| gx_then <| gc_ret <| gx_ret1 (.inl rfl) Tryz.results92 rfl [] (by decide) ?_
    refine ⟨congrArg Value.bool (Eq.symm ?_), rfl⟩
    (rw [Bool.eq_iff_iff]; simp [digitB, *]; omega)
  refine gl_op <| op_rd rfl (rd_move rfl) <| gl_no rfl rfl rfl <| gl_no rfl rfl rfl <| gl_op <| op_rd rfl (rd_pick_f rfl rfl) <| gl_op <| op_rd rfl (rd_assign rfl) <| gl_nil <| gx_then <| gc_ret <| gx_ret1 (.inl rfl) Tryz.results92 rfl [] (by decide) ?_
  refine ⟨congrArg Value.bool (Eq.symm ?_), rfl⟩
  (simp [digitB, *]; omega)
set_option maxRecDepth 100000 in
set_option maxHeartbeats 1000000 in
theorem rletter_ok (c : Nat) (w0 : World) : Sp Tryz.prog 87 [.int .u8 ((c : Nat) : Int)] w0 [] (RV (.bool (letterB c))) := by
  refine spec_enter Tryz.func87 rfl Tryz.ntmps87 rfl (Own.refl _) ?_
  simp only [argEnv]
  refine gc_seq <| gc_region <| gl_op <| op_rd rfl (rd_assign rfl) <| gl_nil <| gx_then <| gc_seq <| gc_region <| gl_op <| op_rd rfl (rd_move rfl) <| gl_op (op_rd rfl (rd_geq rfl rfl) (gk_dec (fun hd1 => ?_) (fun hd1 => ?_)))
  · refine gl_op <| op_rd rfl (rd_move rfl) <| gl_yes rfl rfl <| op_rd rfl (rd_move rfl) <| gl_yes rfl rfl (op_rd rfl (rd_leq rfl rfl) (gk_dec (fun hd2 => ?_) (fun hd2 => ?_)))
    · refine gl_op <| op_rd rfl (rd_pick_t rfl rfl) <| gl_op <| op_rd rfl (rd_move rfl) <| gl_no rfl rfl rfl <| gl_no rfl rfl rfl <| gl_no rfl rfl rfl <| gl_noU rfl rfl rfl <| gl_noU rfl rfl rfl <| gl_no rfl rfl rfl <| gl_op <| op_rd rfl (rd_pick_t rfl rfl) <| gl_op <| op_rd rfl (rd_assign rfl) <| gl_nil <| gx_then <| gc_ret <| gx_ret1 (.inl rfl) Tryz.results87 rfl [] (by decide) ?_
      refine ⟨congrArg Value.bool (Eq.symm ?_), rfl⟩
      (simp [letterB, *]; omega)
    refine gl_op <| op_rd rfl (rd_pick_t rfl rfl) <| gl_op <| op_rd rfl (rd_move rfl) <| gl_yes rfl rfl <| op_rd rfl (rd_move rfl) <| gl_yes rfl rfl (op_rd rfl (rd_geq rfl rfl) (gk_dec (fun hd3 => ?_) (fun hd3 => ?_)))
    · refine gl_yes rfl rfl <| op_rd rfl (rd_move rfl) <| gl_yes rfl rfl <| op_rd rfl (rd_move rfl) <| gl_yes rfl rfl <| op_rd rfl (rd_leq rfl rfl) <| gl_yes rfl rfl <| op_rd rfl (rd_pick_t rfl rfl) <| gl_op <| op_rd rfl (rd_pick_f rfl rfl) <| gl_op <| op_rd rfl (rd_assign rfl) <| gl_nil <| gx_then <| gc_ret <| gx_ret1 (.inl rfl) Tryz.results87 rfl [] (by decide) ?_
      refine ⟨congrArg Value.bool (Eq.symm ?_), rfl⟩
      (rw [Bool.eq_iff_iff]; simp [letterB, *]; omega)
    refine gl_yes rfl rfl <| op_rd rfl (rd_move rfl) <| gl_no rfl rfl rfl <| gl_no rfl rfl rfl <| gl_yes rfl rfl <| op_rd rfl (rd_pick_f rfl rfl) <| gl_op <| op_rd rfl (rd_pick_f rfl rfl) <| gl_op <| op_rd rfl (rd_assign rfl) <| gl_nil <| gx_then <| gc_ret <| gx_ret1 (.inl rfl) Tryz.results87 rfl [] (by decide) ?_
    refine ⟨congrArg Value.bool (Eq.symm ?_), rfl⟩
    (simp [letterB, *]; omega)
  refine gl_op <| op_rd rfl (rd_move rfl) <| gl_no rfl rfl rfl <| gl_no rfl rfl rfl <| gl_op <| op_rd rfl (rd_pick_f rfl rfl) <| gl_op <| op_rd rfl (rd_move rfl) <| gl_yes rfl rfl <| op_rd rfl (rd_move rfl) <| gl_yes rfl rfl (op_rd rfl (rd_geq rfl rfl) (gk_dec (fun hd4 => ?_) (fun hd4 => ?_)))
  · refine gl_yes rfl rfl <| op_rd rfl (rd_move rfl) <| gl_yes rfl rfl <| op_rd rfl (rd_move rfl) <| gl_yes rfl rfl <| op_rd rfl (rd_leq rfl rfl) <| gl_yes rfl rfl <| op_rd rfl (rd_pick_t rfl rfl) <| gl_op <| op_rd rfl (rd_pick_f rfl rfl) <| gl_op <| op_rd rfl (rd_assign rfl) <| gl_nil <| gx_then <| gc_ret <| gx_ret1 (.inl rfl) Tryz.results87 rfl [] (by decide) ?_
    refine ⟨congrArg Value.bool (Eq.symm ?_), rfl⟩
    (rw [Bool.eq_iff_iff]; simp [letterB, *]; omega)
  refine gl_yes rfl rfl <| op_rd rfl (rd_move rfl) <| gl_no rfl rfl rfl <| gl_no rfl rfl rfl <| gl_yes rfl rfl <| op_rd rfl (rd_pick_f rfl rfl) <| gl_op <| op_rd rfl (rd_pick_f rfl rfl) <| gl_op <| op_rd rfl (rd_assign rfl) <| gl_nil <| gx_then <| gc_ret <| gx_ret1 (.inl rfl) Tryz.results87 rfl [] (by decide) ?_
  refine ⟨congrArg Value.bool (Eq.symm ?_), rfl⟩
  (simp [letterB, *]; omega)
set_option maxRecDepth 100000 in
set_option maxHeartbeats 1000000 in
theorem rdigit_ok (c : Nat) (w0 : World) : Sp Tryz.prog 88 [.int .u8 ((c : Nat) : Int)] w0 [] (RV (.bool (digitB c))) := by
  refine spec_enter Tryz.func88 rfl Tryz.ntmps88 rfl (Own.refl _) ?_
  simp only [argEnv]
  refine gc_seq <| gc_region <| gl_op <| op_rd rfl (rd_assign rfl) <| gl_nil <| gx_then <| gc_seq <| gc_region <| gl_op <| op_rd rfl (rd_move rfl) <| gl_op (op_rd rfl (rd_geq rfl rfl) (gk_dec (fun hd1 => ?_) (fun hd1 => ?_)))
  · refine gl_op <| op_rd rfl (rd_move rfl) <| gl_yes rfl rfl <| op_rd rfl (rd_move rfl) <| gl_yes rfl rfl <| op_rd rfl (rd_leq rfl rfl) <| gl_op <| op_rd rfl (rd_pick_t rfl rfl) <| gl_op <| op_rd rfl (rd_assign rfl) <| gl_nil <| gx_then <| gc_ret <| gx_ret1 (.inl rfl) Tryz.results88 rfl [] (by decide) ?_
    refine ⟨congrArg Value.bool (Eq.symm ?_), rfl⟩
    (rw [Bool.eq_iff_iff]; simp [digitB, *]; omega)
  refine gl_op <| op_rd rfl (rd_move rfl) <| gl_no rfl rfl rfl <| gl_no rfl rfl rfl <| gl_op <| op_rd rfl (rd_pick_f rfl rfl) <| gl_op <| op_rd rfl (rd_assign rfl) <| gl_nil <| gx_then <| gc_ret <| gx_ret1 (.inl rfl) Tryz.results88 rfl [] (by decide) ?_
  refine ⟨congrArg Value.bool (Eq.symm ?_), rfl⟩
  (simp [digitB, *]; omega)
set_option maxRecDepth 100000 in
set_option maxHeartbeats 1000000 in
theorem note_ok (n : Int) (w0 : World) : Sp Tryz.prog 76 [.int .i64 n] w0 [] (RV (.bool (withinB n 0 127))) := by
  refine spec_enter Tryz.func76 rfl Tryz.ntmps76 rfl (Own.refl _) ?_
  simp only [argEnv]
  refine gc_seq <| gc_region <| gl_op <| op_rd rfl (rd_assign rfl) <| gl_nil <| gx_then <| gc_seq <| gc_region <| gl_op <| op_rd rfl (rd_move rfl) <| gl_op (op_rd rfl (rd_geq rfl rfl) (gk_dec (fun hd1 => ?_) (fun hd1 => ?_)))
  · refine gl_op <| op_rd rfl (rd_move rfl) <| gl_yes rfl rfl <| op_rd rfl (rd_move rfl) <| gl_yes rfl rfl <| op_rd rfl (rd_leq rfl rfl) <| gl_op <| op_rd rfl (rd_pick_t rfl rfl) <| gl_op <| op_rd rfl (rd_assign rfl) <| gl_nil <| gx_then <| gc_ret <| gx_ret1 (.inl rfl) Tryz.results76 rfl [] (by decide) ?_
    refine ⟨congrArg Value.bool (Eq.symm ?_), rfl⟩
    (simp [withinB, *]; done)
  refine gl_op <| op_rd rfl (rd_move rfl) <| gl_no rfl rfl rfl <| gl_no rfl rfl rfl <| gl_op <| op_rd rfl (rd_pick_f rfl rfl) <| gl_op <| op_rd rfl (rd_assign rfl) <| gl_nil <| gx_then <| gc_ret <| gx_ret1 (.inl rfl) Tryz.results76 rfl [] (by decide) ?_
  refine ⟨congrArg Value.bool (Eq.symm ?_), rfl⟩
  (simp [withinB, *]; done)
set_option maxRecDepth 100000 in
set_option maxHeartbeats 1000000 in
theorem index_ok (i : Int) (n : Nat) (w0 : World) : Sp Tryz.prog 78 [.int .i64 i, natV n] w0 [] (RV (.bool (idxB i n))) := by
  refine spec_enter Tryz.func78 rfl Tryz.ntmps78 rfl (Own.refl _) ?_
  simp only [argEnv]
  refine gc_seq <| gc_region <| gl_op <| op_rd rfl (rd_assign rfl) <| gl_nil <| gx_then <| gc_seq <| gc_region <| gl_op <| op_rd rfl (rd_move rfl) <| gl_op (op_rd rfl (rd_geq rfl rfl) (gk_dec (fun hd1 => ?_) (fun hd1 => ?_)))
  · refine gl_op <| op_rd rfl (rd_move rfl) <| gl_yes rfl rfl <| op_rd rfl (rd_move rfl) <| gl_yes rfl rfl <| op_rd rfl (rd_move rfl) <| gl_yes rfl rfl <| op_rd rfl (rd_lss rfl rfl) <| gl_op <| op_rd rfl (rd_pick_t rfl rfl) <| gl_op <| op_rd rfl (rd_assign rfl) <| gl_nil <| gx_then <| gc_ret <| gx_ret1 (.inl rfl) Tryz.results78 rfl [] (by decide) ?_
    refine ⟨congrArg Value.bool (Eq.symm ?_), rfl⟩
    (simp [idxB, *]; done)
  refine gl_op <| op_rd rfl (rd_move rfl) <| gl_no rfl rfl rfl <| gl_no rfl rfl rfl <| gl_no rfl rfl rfl <| gl_op <| op_rd rfl (rd_pick_f rfl rfl) <| gl_op <| op_rd rfl (rd_assign rfl) <| gl_nil <| gx_then <| gc_ret <| gx_ret1 (.inl rfl) Tryz.results78 rfl [] (by decide) ?_
  refine ⟨congrArg Value.bool (Eq.symm ?_), rfl⟩
  (simp [idxB, *]; done)
end Go.Proofs.YtbjijbbkfgcleaaGreatDoor
namespace Go.Proofs.YtbjijbbkfgcleaaGreatDoor
open Go.Gv
open Go.RowKit
open Go.Sn
open Sx
set_option maxRecDepth 100000 in
set_option maxHeartbeats 1000000 in
theorem Name_ok (s : ByteArray) (hs : s.size ≤ 140737488355328) (w0 : World) : Sp Tryz.prog 85 [.string s] w0 [] (RV (.bool (nameB s))) := by
  refine spec_enter Tryz.func85 rfl Tryz.ntmps85 rfl (Own.refl _) ?_
  simp only [argEnv]
  refine gc_seq <| gc_region <| gl_op <| op_rd rfl (rd_assign rfl) <| gl_nil <| gx_then <| gc_seq <| gc_seq <| gc_region <| gl_op <| op_rd rfl (rd_move rfl) <| gl_op <| op_rd rfl (rd_lenString Tryz.underlying9 rfl) <| gl_op <| op_rd rfl (rd_move rfl) <| gl_nil <| gx_then <| gc_block <| gc_loopF (ι := Nat) [(0, _), (6, _)] [] (fun k => k ≤ s.size ∧ ∀ i, i < k → okAt s i = true) (fun k Fr0 => ((7, natV k) :: Fr0)) (fun k Fr0 => Fr0) (fun k => s.size - k) 0 (⟨Nat.zero_le _, fun i hi => absurd hi (Nat.not_lt_zero i)⟩) ⟨rfl, rfl, rfl, trivial⟩ ⟨[], by decide, rfl⟩ ?_
  rintro k ⟨hk, hall⟩
  refine gc_seq <| gc_region <| gl_op (op_rd rfl (rd_lss rfl rfl) (gk_dec (fun h8 => ?_) (fun h8 => ?_)))
  · refine gl_nil <| gx_then <| gc_seq <| gc_cond_t rfl <| gc_skip <| gx_then <| gc_seq <| gc_block <| gc_seq <| gc_region <| gl_op <| op_rd rfl (rd_move rfl) <| gl_op <| op_rd rfl (rd_assign rfl) <| gl_nil <| gx_then <| gc_seq <| gc_region <| gl_op <| op_rd rfl (rd_move rfl) <| gl_op <| op_rd rfl (rd_move rfl) <| gl_op (op_rd rfl (rd_indexStr Tryz.underlying9 rfl rfl (byteAt_get s k (by omega))) ?_)
    refine gl_op <| op_rd rfl (rd_assign rfl) <| gl_nil <| gx_then <| gc_seq <| gc_region <| gl_op <| op_rd rfl (rd_move rfl) <| gl_op (op_call rfl (vf := []) (vc := []) rfl rfl Tryz.call91 (fun w1 ho => letter_ok (byteAt s k) (byteAt_lt s k) w1) ?_)
    rintro _ _ ⟨rfl, rfl⟩
    refine gk_bool (fun hl => ?_) (fun hl => ?_)
    · refine gl_op <| op_rd rfl (rd_not rfl) <| gl_op <| op_rd rfl (rd_move rfl) <| gl_no rfl rfl rfl <| gl_no rfl rfl rfl <| gl_no rfl rfl rfl <| gl_noU rfl rfl rfl <| gl_noU rfl rfl rfl <| gl_noU rfl rfl rfl <| gl_noU rfl rfl rfl <| gl_noU rfl rfl rfl <| gl_noU rfl rfl rfl <| gl_noU rfl rfl rfl <| gl_no rfl rfl rfl <| gl_op <| op_rd rfl (rd_pick_f rfl rfl) <| gl_nil <| gx_then <| gc_cond_f rfl <| gc_skip <| gx_block <| gx_then <| gc_region <| gl_op (op_rd rfl (by exact rd_addN (b := 1) rfl rfl (by omega)) ?_)
      refine gl_op <| op_rd rfl (rd_move rfl) <| gl_nil <| gx_then ?_
      exact gx_cut (k + 1) ⟨⟨by omega, fun i hi => by
        rcases Nat.lt_or_eq_of_le (Nat.le_of_lt_succ hi) with h | rfl
        · exact hall i h
        · simp [okAt, *]⟩, by omega⟩ ⟨rfl, rfl, rfl, trivial⟩ ⟨[], by decide, rfl⟩
    refine gl_op <| op_rd rfl (rd_not rfl) <| gl_op <| op_rd rfl (rd_move rfl) <| gl_yes rfl rfl <| op_rd rfl (rd_move rfl) <| gl_yes rfl rfl (op_rd rfl (rd_eql rfl rfl) (gk_dec (fun h18 => ?_) (fun h18 => ?_)))
    · replace h18 : k = 0 := by omega
      refine gl_yes rfl rfl <| op_rd rfl (rd_move rfl) <| gl_no rfl rfl rfl <| gl_no rfl rfl rfl <| gl_no rfl rfl rfl <| gl_noU rfl rfl rfl <| gl_noU rfl rfl rfl <| gl_noU rfl rfl rfl <| gl_no rfl rfl rfl <| gl_yes rfl rfl <| op_rd rfl (rd_pick_t rfl rfl) <| gl_op <| op_rd rfl (rd_pick_t rfl rfl) <| gl_nil <| gx_then <| gc_cond_t rfl <| gc_seq <| gc_region <| gl_op <| op_rd rfl (rd_assign rfl) <| gl_nil <| gx_then <| gc_ret <| gx_block_ret <| gx_then_ret <| gx_then_ret <| gx_block_ret <| gx_then_ret <| gx_ret1 (.inl rfl) Tryz.results85 rfl [] (by decide) ?_
      refine ⟨congrArg Value.bool (Eq.symm ?_), rfl⟩
      exact nameB_no (i := k) (by omega) (by (subst h18; simp [okAt, hl]; done))
    replace h18 : k ≠ 0 := by omega
    refine gl_yes rfl rfl <| op_rd rfl (rd_move rfl) <| gl_yes rfl rfl <| op_rd rfl (rd_move rfl) <| gl_yes rfl rfl (op_rd rfl (rd_neq rfl rfl) (gk_dec (fun h21 => ?_) (fun h21 => ?_)))
    · replace h21 : byteAt s k ≠ 95 := by unfold byteAt; omega
      refine gl_yes rfl rfl <| op_rd rfl (rd_move rfl) <| gl_yes rfl rfl <| op_rd rfl (rd_move rfl) <| gl_yes rfl rfl (op_call rfl (vf := []) (vc := []) rfl rfl Tryz.call92 (fun w1 ho => digit_ok (byteAt s k) w1) ?_)
      rintro _ _ ⟨rfl, rfl⟩
      refine gk_bool (fun hdg => ?_) (fun hdg => ?_)
      · refine gl_yes rfl rfl <| op_rd rfl (rd_not rfl) <| gl_yes rfl rfl <| op_rd rfl (rd_pick_t rfl rfl) <| gl_yes rfl rfl <| op_rd rfl (rd_pick_f rfl rfl) <| gl_op <| op_rd rfl (rd_pick_t rfl rfl) <| gl_nil <| gx_then <| gc_cond_f rfl <| gc_skip <| gx_block <| gx_then <| gc_region <| gl_op (op_rd rfl (by exact rd_addN (b := 1) rfl rfl (by omega)) ?_)
        refine gl_op <| op_rd rfl (rd_move rfl) <| gl_nil <| gx_then ?_
        exact gx_cut (k + 1) ⟨⟨by omega, fun i hi => by
          rcases Nat.lt_or_eq_of_le (Nat.le_of_lt_succ hi) with h | rfl
          · exact hall i h
          · simp [okAt, *]⟩, by omega⟩ ⟨rfl, rfl, rfl, trivial⟩ ⟨[], by decide, rfl⟩
      refine gl_yes rfl rfl <| op_rd rfl (rd_not rfl) <| gl_yes rfl rfl <| op_rd rfl (rd_pick_t rfl rfl) <| gl_yes rfl rfl <| op_rd rfl (rd_pick_f rfl rfl) <| gl_op <| op_rd rfl (rd_pick_t rfl rfl) <| gl_nil <| gx_then <| gc_cond_t rfl <| gc_seq <| gc_region <| gl_op <| op_rd rfl (rd_assign rfl) <| gl_nil <| gx_then <| gc_ret <| gx_block_ret <| gx_then_ret <| gx_then_ret <| gx_block_ret <| gx_then_ret <| gx_ret1 (.inl rfl) Tryz.results85 rfl [] (by decide) ?_
      refine ⟨congrArg Value.bool (Eq.symm ?_), rfl⟩
      exact nameB_no (i := k) (by omega) (by simp [okAt, *])
    replace h21 : byteAt s k = 95 := by unfold byteAt; omega
    refine gl_yes rfl rfl <| op_rd rfl (rd_move rfl) <| gl_no rfl rfl rfl <| gl_no rfl rfl rfl <| gl_no rfl rfl rfl <| gl_yes rfl rfl <| op_rd rfl (rd_pick_f rfl rfl) <| gl_yes rfl rfl <| op_rd rfl (rd_pick_f rfl rfl) <| gl_op <| op_rd rfl (rd_pick_t rfl rfl) <| gl_nil <| gx_then <| gc_cond_f rfl <| gc_skip <| gx_block <| gx_then <| gc_region <| gl_op (op_rd rfl (by exact rd_addN (b := 1) rfl rfl (by omega)) ?_)
    refine gl_op <| op_rd rfl (rd_move rfl) <| gl_nil <| gx_then ?_
    exact gx_cut (k + 1) ⟨⟨by omega, fun i hi => by
      rcases Nat.lt_or_eq_of_le (Nat.le_of_lt_succ hi) with h | rfl
      · exact hall i h
      · simp [okAt, *]⟩, by omega⟩ ⟨rfl, rfl, rfl, trivial⟩ ⟨[], by decide, rfl⟩
  refine gl_nil <| gx_then <| gc_seq <| gc_cond_f rfl <| gc_exit <| gx_then_exit <| gx_then_exit <| gx_block_exit <| gx_then <| gc_seq <| gc_region <| gl_op <| op_rd rfl (rd_move rfl) <| gl_op <| op_rd rfl (rd_lenString Tryz.underlying9 rfl) <| gl_op (op_rd rfl (rd_geq rfl rfl) (gk_dec (fun hd1 => ?_) (fun hd1 => ?_)))
  · refine gl_op <| op_rd rfl (rd_move rfl) <| gl_yes rfl rfl <| op_rd rfl (rd_move rfl) <| gl_yes rfl rfl <| op_rd rfl (rd_lenString Tryz.underlying9 rfl) <| gl_yes rfl rfl <| op_rd rfl (rd_leq rfl rfl) <| gl_op <| op_rd rfl (rd_pick_t rfl rfl) <| gl_op <| op_rd rfl (rd_assign rfl) <| gl_nil <| gx_then <| gc_ret <| gx_ret1 (.inl rfl) Tryz.results85 rfl [] (by decide) ?_
    refine ⟨congrArg Value.bool (Eq.symm ?_), rfl⟩
    rw [nameB_all (fun i hi => hall i (by omega))]
    (rw [Bool.eq_iff_iff]; simp; omega)
  refine gl_op <| op_rd rfl (rd_move rfl) <| gl_no rfl rfl rfl <| gl_no rfl rfl rfl <| gl_no rfl rfl rfl <| gl_op <| op_rd rfl (rd_pick_f rfl rfl) <| gl_op <| op_rd rfl (rd_assign rfl) <| gl_nil <| gx_then <| gc_ret <| gx_ret1 (.inl rfl) Tryz.results85 rfl [] (by decide) ?_
  refine ⟨congrArg Value.bool (Eq.symm ?_), rfl⟩
  rw [nameB_all (fun i hi => hall i (by omega))]
  (simp; omega)
set_option maxRecDepth 100000 in
set_option maxHeartbeats 1000000 in
theorem rName_ok (s : ByteArray) (hs : s.size ≤ 140737488355328) (w0 : World) : Sp Tryz.prog 75 [.string s] w0 [] (RV (.bool (nameB s))) := by
  refine spec_enter Tryz.func75 rfl Tryz.ntmps75 rfl (Own.refl _) ?_
  simp only [argEnv]
  refine gc_seq <| gc_region <| gl_op <| op_rd rfl (rd_assign rfl) <| gl_nil <| gx_then <| gc_seq <| gc_seq <| gc_region <| gl_op <| op_rd rfl (rd_move rfl) <| gl_op <| op_rd rfl (rd_lenString Tryz.underlying9 rfl) <| gl_op (op_rd rfl (rd_lss rfl rfl) (gk_dec (fun h6 => ?_) (fun h6 => ?_)))
  · refine gl_op <| op_rd rfl (rd_move rfl) <| gl_no rfl rfl rfl <| gl_no rfl rfl rfl <| gl_no rfl rfl rfl <| gl_op <| op_rd rfl (rd_pick_t rfl rfl) <| gl_op <| op_rd rfl (rd_move rfl) <| gl_no rfl rfl rfl <| gl_no rfl rfl rfl <| gl_no rfl rfl rfl <| gl_no rfl rfl rfl <| gl_op <| op_rd rfl (rd_pick_t rfl rfl) <| gl_nil <| gx_then <| gc_cond_t rfl <| gc_seq <| gc_region <| gl_op <| op_rd rfl (rd_assign rfl) <| gl_nil <| gx_then <| gc_ret <| gx_then_ret <| gx_ret1 (.inl rfl) Tryz.results75 rfl [] (by decide) ?_
    refine ⟨congrArg Value.bool (Eq.symm ?_), rfl⟩
    unfold nameB; simp; omega
  refine gl_op <| op_rd rfl (rd_move rfl) <| gl_yes rfl rfl <| op_rd rfl (rd_move rfl) <| gl_yes rfl rfl <| op_rd rfl (rd_lenString Tryz.underlying9 rfl) <| gl_yes rfl rfl (op_rd rfl (rd_gtr rfl rfl) (gk_dec (fun h10 => ?_) (fun h10 => ?_)))
  · refine gl_op <| op_rd rfl (rd_pick_f rfl rfl) <| gl_op <| op_rd rfl (rd_move rfl) <| gl_no rfl rfl rfl <| gl_no rfl rfl rfl <| gl_no rfl rfl rfl <| gl_no rfl rfl rfl <| gl_op <| op_rd rfl (rd_pick_t rfl rfl) <| gl_nil <| gx_then <| gc_cond_t rfl <| gc_seq <| gc_region <| gl_op <| op_rd rfl (rd_assign rfl) <| gl_nil <| gx_then <| gc_ret <| gx_then_ret <| gx_ret1 (.inl rfl) Tryz.results75 rfl [] (by decide) ?_
    refine ⟨congrArg Value.bool (Eq.symm ?_), rfl⟩
    unfold nameB; simp; omega
  refine gl_op <| op_rd rfl (rd_pick_f rfl rfl) <| gl_op <| op_rd rfl (rd_move rfl) <| gl_yes rfl rfl <| op_rd rfl (rd_move rfl) <| gl_yes rfl rfl (op_rd rfl (rd_indexStr Tryz.underlying9 rfl rfl (byteAt_get s 0 (by omega))) ?_)
  refine gl_yes rfl rfl (op_call rfl (vf := []) (vc := []) rfl rfl Tryz.call87 (fun w1 ho => rletter_ok (byteAt s 0) w1) ?_)
  rintro _ _ ⟨rfl, rfl⟩
  refine gk_bool (fun hl0 => ?_) (fun hl0 => ?_)
  · refine gl_yes rfl rfl <| op_rd rfl (rd_not rfl) <| gl_op <| op_rd rfl (rd_pick_f rfl rfl) <| gl_nil <| gx_then <| gc_cond_f rfl <| gc_skip <| gx_then <| gc_seq <| gc_seq <| gc_region <| gl_op <| op_rd rfl (rd_assign rfl) <| gl_nil <| gx_then <| gc_block <| gc_loopF (ι := Nat) [(0, _)] [] (fun k => k ≤ s.size ∧ ∀ i, i < k → okAt s i = true) (fun k Fr0 => ((3, natV k) :: Fr0)) (fun k Fr0 => Fr0) (fun k => s.size - k) 0 (⟨Nat.zero_le _, fun i hi => absurd hi (Nat.not_lt_zero i)⟩) ⟨rfl, rfl, trivial⟩ ⟨[], by decide, rfl⟩ ?_
    rintro k ⟨hk, hall⟩
    refine gc_seq <| gc_seq <| gc_region <| gl_op <| op_rd rfl (rd_move rfl) <| gl_op <| op_rd rfl (rd_move rfl) <| gl_op <| op_rd rfl (rd_lenString Tryz.underlying9 rfl) <| gl_op (op_rd rfl (rd_lss rfl rfl) (gk_dec (fun h21 => ?_) (fun h21 => ?_)))
    · refine gl_nil <| gx_then <| gc_cond_t rfl <| gc_skip <| gx_then <| gc_seq <| gc_block <| gc_seq <| gc_region <| gl_op <| op_rd rfl (rd_move rfl) <| gl_op <| op_rd rfl (rd_move rfl) <| gl_op (op_rd rfl (rd_indexStr Tryz.underlying9 rfl rfl (byteAt_get s k (by omega))) ?_)
      refine gl_op (op_call rfl (vf := []) (vc := []) rfl rfl Tryz.call87 (fun w1 ho => rletter_ok (byteAt s k) w1) ?_)
      rintro _ _ ⟨rfl, rfl⟩
      refine gk_bool (fun hl => ?_) (fun hl => ?_)
      · refine gl_op <| op_rd rfl (rd_not rfl) <| gl_op <| op_rd rfl (rd_move rfl) <| gl_no rfl rfl rfl <| gl_no rfl rfl rfl <| gl_no rfl rfl rfl <| gl_no rfl rfl rfl <| gl_no rfl rfl rfl <| gl_op <| op_rd rfl (rd_pick_f rfl rfl) <| gl_op <| op_rd rfl (rd_move rfl) <| gl_no rfl rfl rfl <| gl_no rfl rfl rfl <| gl_no rfl rfl rfl <| gl_no rfl rfl rfl <| gl_op <| op_rd rfl (rd_pick_f rfl rfl) <| gl_nil <| gx_then <| gc_cond_f rfl <| gc_skip <| gx_block <| gx_then <| gc_region <| gl_op <| op_rd rfl (rd_move rfl) <| gl_op (op_rd rfl (by exact rd_addN (b := 1) rfl rfl (by omega)) ?_)
        refine gl_op <| op_rd rfl (rd_assign rfl) <| gl_nil <| gx_then ?_
        exact gx_cut (k + 1) ⟨⟨by omega, fun i hi => by
          rcases Nat.lt_or_eq_of_le (Nat.le_of_lt_succ hi) with h | rfl
          · exact hall i h
          · rcases Nat.eq_zero_or_pos i with hi0 | hi0
            · subst hi0; unfold okAt; rw [hl0]; rfl
            · have hi1 : i ≠ 0 := by omega
              simp [okAt, *]⟩, by omega⟩ ⟨rfl, rfl, trivial⟩ ⟨[], by decide, rfl⟩
      refine gl_op <| op_rd rfl (rd_not rfl) <| gl_op <| op_rd rfl (rd_move rfl) <| gl_yes rfl rfl <| op_rd rfl (rd_move rfl) <| gl_yes rfl rfl <| op_rd rfl (rd_move rfl) <| gl_yes rfl rfl (op_rd rfl (rd_indexStr Tryz.underlying9 rfl rfl (byteAt_get s k (by omega))) ?_)
      refine gl_yes rfl rfl (op_call rfl (vf := []) (vc := []) rfl rfl Tryz.call88 (fun w1 ho => rdigit_ok (byteAt s k) w1) ?_)
      rintro _ _ ⟨rfl, rfl⟩
      refine gk_bool (fun hdg => ?_) (fun hdg => ?_)
      · refine gl_yes rfl rfl <| op_rd rfl (rd_not rfl) <| gl_op <| op_rd rfl (rd_pick_t rfl rfl) <| gl_op <| op_rd rfl (rd_move rfl) <| gl_no rfl rfl rfl <| gl_no rfl rfl rfl <| gl_no rfl rfl rfl <| gl_no rfl rfl rfl <| gl_op <| op_rd rfl (rd_pick_f rfl rfl) <| gl_nil <| gx_then <| gc_cond_f rfl <| gc_skip <| gx_block <| gx_then <| gc_region <| gl_op <| op_rd rfl (rd_move rfl) <| gl_op (op_rd rfl (by exact rd_addN (b := 1) rfl rfl (by omega)) ?_)
        refine gl_op <| op_rd rfl (rd_assign rfl) <| gl_nil <| gx_then ?_
        exact gx_cut (k + 1) ⟨⟨by omega, fun i hi => by
          rcases Nat.lt_or_eq_of_le (Nat.le_of_lt_succ hi) with h | rfl
          · exact hall i h
          · rcases Nat.eq_zero_or_pos i with hi0 | hi0
            · subst hi0; unfold okAt; rw [hl0]; rfl
            · have hi1 : i ≠ 0 := by omega
              simp [okAt, *]⟩, by omega⟩ ⟨rfl, rfl, trivial⟩ ⟨[], by decide, rfl⟩
      refine gl_yes rfl rfl <| op_rd rfl (rd_not rfl) <| gl_op <| op_rd rfl (rd_pick_t rfl rfl) <| gl_op <| op_rd rfl (rd_move rfl) <| gl_yes rfl rfl <| op_rd rfl (rd_move rfl) <| gl_yes rfl rfl <| op_rd rfl (rd_move rfl) <| gl_yes rfl rfl (op_rd rfl (rd_indexStr Tryz.underlying9 rfl rfl (byteAt_get s k (by omega))) ?_)
      refine gl_yes rfl rfl (op_rd rfl (rd_neq rfl rfl) (gk_dec (fun h40 => ?_) (fun h40 => ?_)))
      · replace h40 : byteAt s k ≠ 95 := by unfold byteAt; omega
        refine gl_op <| op_rd rfl (rd_pick_t rfl rfl) <| gl_nil <| gx_then <| gc_cond_t rfl <| gc_seq <| gc_region <| gl_op <| op_rd rfl (rd_assign rfl) <| gl_nil <| gx_then <| gc_ret <| gx_block_ret <| gx_then_ret <| gx_then_ret <| gx_block_ret <| gx_then_ret <| gx_ret1 (.inl rfl) Tryz.results75 rfl [] (by decide) ?_
        refine ⟨congrArg Value.bool (Eq.symm ?_), rfl⟩
        have hk0 : k ≠ 0 := fun e => by subst e; simp_all
        exact nameB_no (i := k) (by omega) (by simp [okAt, *])
      replace h40 : byteAt s k = 95 := by unfold byteAt; omega
      refine gl_op <| op_rd rfl (rd_pick_t rfl rfl) <| gl_nil <| gx_then <| gc_cond_f rfl <| gc_skip <| gx_block <| gx_then <| gc_region <| gl_op <| op_rd rfl (rd_move rfl) <| gl_op (op_rd rfl (by exact rd_addN (b := 1) rfl rfl (by omega)) ?_)
      refine gl_op <| op_rd rfl (rd_assign rfl) <| gl_nil <| gx_then ?_
      exact gx_cut (k + 1) ⟨⟨by omega, fun i hi => by
        rcases Nat.lt_or_eq_of_le (Nat.le_of_lt_succ hi) with h | rfl
        · exact hall i h
        · rcases Nat.eq_zero_or_pos i with hi0 | hi0
          · subst hi0; unfold okAt; rw [hl0]; rfl
          · have hi1 : i ≠ 0 := by omega
            simp [okAt, *]⟩, by omega⟩ ⟨rfl, rfl, trivial⟩ ⟨[], by decide, rfl⟩
    refine gl_nil <| gx_then <| gc_cond_f rfl <| gc_exit <| gx_then_exit <| gx_then_exit <| gx_block_exit <| gx_then <| gc_seq <| gc_region <| gl_op <| op_rd rfl (rd_assign rfl) <| gl_nil <| gx_then <| gc_ret <| gx_ret1 (.inl rfl) Tryz.results75 rfl [] (by decide) ?_
    refine ⟨congrArg Value.bool (Eq.symm ?_), rfl⟩
    rw [nameB_all (fun i hi => hall i (by omega))]
    simp; omega
  refine gl_yes rfl rfl <| op_rd rfl (rd_not rfl) <| gl_op <| op_rd rfl (rd_pick_f rfl rfl) <| gl_nil <| gx_then <| gc_cond_t rfl <| gc_seq <| gc_region <| gl_op <| op_rd rfl (rd_assign rfl) <| gl_nil <| gx_then <| gc_ret <| gx_then_ret <| gx_ret1 (.inl rfl) Tryz.results75 rfl [] (by decide) ?_
  refine ⟨congrArg Value.bool (Eq.symm ?_), rfl⟩
  exact nameB_no (i := 0) (by omega) (by simp [okAt, *])
end Go.Proofs.YtbjijbbkfgcleaaGreatDoor
namespace Go.Proofs.YtbjijbbkfgcleaaGreatDoor
open Go.Gv
open Go.RowKit
open Go.Sn
open Go.Shelf Go.Sort Go.Proofs
def ren171 : Ren := ⟨(fun x => match x with | 171 => 95 | 243 => 98 | 246 => 96 | 283 => 99 | 284 => 100 | 285 => 101 | 286 => 102 | 129 => 104 | 317 => 103 | 318 => 105 | 319 => 106 | 320 => 107 | 337 => 108 | 338 => 61 | n => n), (fun x => match x with | 3 => 3 | 9 => 9 | 2 => 2 | 4 => 4 | 171 => 167 | 0 => 0 | 53 => 85 | 37 => 169 | 5 => 5 | 173 => 170 | 212 => 174 | 51 => 175 | 20 => 20 | 213 => 176 | 46 => 157 | 232 => 179 | 233 => 156 | n => n), (fun x => match x with | 17 => 1 | 18 => 2 | 19 => 0 | n => n)⟩
theorem laid171 : Lays.n171 Tryz.prog ren171 := { mixed := by kernel_rfl, f129 := Eq.trans Tryz.func104 (congrArg some (by kernel_rfl)), f171 := Eq.trans Tryz.func95 (congrArg some (by kernel_rfl)), f243 := Eq.trans Tryz.func98 (congrArg some (by kernel_rfl)), f246 := Eq.trans Tryz.func96 (congrArg some (by kernel_rfl)), f283 := Eq.trans Tryz.func99 (congrArg some (by kernel_rfl)), f284 := Eq.trans Tryz.func100 (congrArg some (by kernel_rfl)), f285 := Eq.trans Tryz.func101 (congrArg some (by kernel_rfl)), f286 := Eq.trans Tryz.func102 (congrArg some (by kernel_rfl)), f317 := Eq.trans Tryz.func103 (congrArg some (by kernel_rfl)), f318 := Eq.trans Tryz.func105 (congrArg some (by kernel_rfl)), f319 := Eq.trans Tryz.func106 (congrArg some (by kernel_rfl)), f320 := Eq.trans Tryz.func107 (congrArg some (by kernel_rfl)), f337 := Eq.trans Tryz.func108 (congrArg some (by kernel_rfl)), f338 := Eq.trans Tryz.func61 (congrArg some (by kernel_rfl)), t0 := Tryz.underlying0, a0 := Tryz.isAgg0, z0 := Tryz.sizeOf0, v0 := Tryz.zeroValue0, t2 := Tryz.underlying2, a2 := Tryz.isAgg2, z2 := Tryz.sizeOf2, v2 := Tryz.zeroValue2, t3 := Tryz.underlying3, a3 := Tryz.isAgg3, z3 := Tryz.sizeOf3, v3 := Tryz.zeroValue3, t4 := Tryz.underlying4, a4 := Tryz.isAgg4, z4 := Tryz.sizeOf4, v4 := Tryz.zeroValue4, t5 := Tryz.underlying5, a5 := Tryz.isAgg5, z5 := Tryz.sizeOf5, v5 := Tryz.zeroValue5, t9 := Tryz.underlying9, a9 := Tryz.isAgg9, z9 := Tryz.sizeOf9, v9 := Tryz.zeroValue9, t20 := Tryz.underlying20, a20 := Tryz.isAgg20, z20 := Tryz.sizeOf20, v20 := Tryz.zeroValue20, t37 := Tryz.underlying169, a37 := Tryz.isAgg169, z37 := Tryz.sizeOf169, v37 := Tryz.zeroValue169, t46 := Tryz.underlying157, a46 := Tryz.isAgg157, z46 := Tryz.sizeOf157, v46 := Tryz.zeroValue157, t51 := Tryz.underlying175, a51 := Tryz.isAgg175, z51 := Tryz.sizeOf175, v51 := Tryz.zeroValue175, t53 := Tryz.underlying85, a53 := Tryz.isAgg85, z53 := Tryz.sizeOf85, v53 := Tryz.zeroValue85, t171 := Tryz.underlying167, a171 := Tryz.isAgg167, z171 := Tryz.sizeOf167, v171 := Tryz.zeroValue167, t173 := Tryz.underlying170, a173 := Tryz.isAgg170, z173 := Tryz.sizeOf170, v173 := Tryz.zeroValue170, t212 := Tryz.underlying174, a212 := Tryz.isAgg174, z212 := Tryz.sizeOf174, v212 := Tryz.zeroValue174, t213 := Tryz.underlying176, a213 := Tryz.isAgg176, z213 := Tryz.sizeOf176, t232 := Tryz.underlying179, a232 := Tryz.isAgg179, z232 := Tryz.sizeOf179, v232 := Tryz.zeroValue179, t233 := Tryz.underlying156, a233 := Tryz.isAgg156, z233 := Tryz.sizeOf156, v233 := Tryz.zeroValue156, g17 := by kernel_rfl, g18 := by kernel_rfl, g19 := by kernel_rfl }
def ren173 : Ren := ⟨(fun x => match x with | 173 => 93 | 246 => 96 | 283 => 99 | 284 => 100 | 285 => 101 | 286 => 102 | 129 => 104 | 317 => 103 | 318 => 105 | 319 => 106 | 320 => 107 | 337 => 108 | 338 => 61 | n => n), (fun x => match x with | 2 => 2 | 3 => 3 | 9 => 9 | 4 => 4 | 171 => 167 | 0 => 0 | 53 => 85 | 37 => 169 | 5 => 5 | 173 => 170 | 212 => 174 | 51 => 175 | 20 => 20 | 213 => 176 | 46 => 157 | 232 => 179 | 233 => 156 | n => n), (fun x => match x with | 17 => 1 | 18 => 2 | 19 => 0 | n => n)⟩
theorem laid173 : Lays.n173 Tryz.prog ren173 := { mixed := by kernel_rfl, f129 := Eq.trans Tryz.func104 (congrArg some (by kernel_rfl)), f173 := Eq.trans Tryz.func93 (congrArg some (by kernel_rfl)), f246 := Eq.trans Tryz.func96 (congrArg some (by kernel_rfl)), f283 := Eq.trans Tryz.func99 (congrArg some (by kernel_rfl)), f284 := Eq.trans Tryz.func100 (congrArg some (by kernel_rfl)), f285 := Eq.trans Tryz.func101 (congrArg some (by kernel_rfl)), f286 := Eq.trans Tryz.func102 (congrArg some (by kernel_rfl)), f317 := Eq.trans Tryz.func103 (congrArg some (by kernel_rfl)), f318 := Eq.trans Tryz.func105 (congrArg some (by kernel_rfl)), f319 := Eq.trans Tryz.func106 (congrArg some (by kernel_rfl)), f320 := Eq.trans Tryz.func107 (congrArg some (by kernel_rfl)), f337 := Eq.trans Tryz.func108 (congrArg some (by kernel_rfl)), f338 := Eq.trans Tryz.func61 (congrArg some (by kernel_rfl)), t0 := Tryz.underlying0, a0 := Tryz.isAgg0, z0 := Tryz.sizeOf0, v0 := Tryz.zeroValue0, t2 := Tryz.underlying2, a2 := Tryz.isAgg2, z2 := Tryz.sizeOf2, v2 := Tryz.zeroValue2, t3 := Tryz.underlying3, a3 := Tryz.isAgg3, z3 := Tryz.sizeOf3, v3 := Tryz.zeroValue3, t4 := Tryz.underlying4, a4 := Tryz.isAgg4, z4 := Tryz.sizeOf4, v4 := Tryz.zeroValue4, t5 := Tryz.underlying5, a5 := Tryz.isAgg5, z5 := Tryz.sizeOf5, v5 := Tryz.zeroValue5, t9 := Tryz.underlying9, a9 := Tryz.isAgg9, z9 := Tryz.sizeOf9, v9 := Tryz.zeroValue9, t20 := Tryz.underlying20, a20 := Tryz.isAgg20, z20 := Tryz.sizeOf20, v20 := Tryz.zeroValue20, t37 := Tryz.underlying169, a37 := Tryz.isAgg169, z37 := Tryz.sizeOf169, v37 := Tryz.zeroValue169, t46 := Tryz.underlying157, a46 := Tryz.isAgg157, z46 := Tryz.sizeOf157, v46 := Tryz.zeroValue157, t51 := Tryz.underlying175, a51 := Tryz.isAgg175, z51 := Tryz.sizeOf175, v51 := Tryz.zeroValue175, t53 := Tryz.underlying85, a53 := Tryz.isAgg85, z53 := Tryz.sizeOf85, v53 := Tryz.zeroValue85, t171 := Tryz.underlying167, a171 := Tryz.isAgg167, z171 := Tryz.sizeOf167, v171 := Tryz.zeroValue167, t173 := Tryz.underlying170, a173 := Tryz.isAgg170, z173 := Tryz.sizeOf170, v173 := Tryz.zeroValue170, t212 := Tryz.underlying174, a212 := Tryz.isAgg174, z212 := Tryz.sizeOf174, v212 := Tryz.zeroValue174, t213 := Tryz.underlying176, a213 := Tryz.isAgg176, z213 := Tryz.sizeOf176, t232 := Tryz.underlying179, a232 := Tryz.isAgg179, z232 := Tryz.sizeOf179, v232 := Tryz.zeroValue179, t233 := Tryz.underlying156, a233 := Tryz.isAgg156, z233 := Tryz.sizeOf156, v233 := Tryz.zeroValue156, g17 := by kernel_rfl, g18 := by kernel_rfl, g19 := by kernel_rfl }
theorem calls_sp {f : Nat} {args : List Value} {w0 : World} {v0 : Value} (h : Calls Tryz.prog f args.toArray w0 fun e w' => e = .returned v0 ∧ w' = w0) : Sp Tryz.prog f args w0 [] (RV v0) := by
  unfold Sp
  refine h.mono ?_
  rintro e w' ⟨rfl, rfl⟩
  exact ⟨v0, [], rfl, ⟨rfl, rfl⟩, Own.refl _⟩
theorem Itoa_ok (i : Nat) (hi : i < 100) (w0 : World) : Sp Tryz.prog 95 [natV i] w0 [] (RV (.string (decS i))) := calls_sp (Any.strconv_Itoa_small laid171 i hi w0)
theorem FmtInt_ok (i : Nat) (hi : i < 100) (w0 : World) : Sp Tryz.prog 93 [natV i, natV 10] w0 [] (RV (.string (decS i))) := calls_sp (Any.strconv_FormatInt_10_small laid173 i hi w0)
end Go.Proofs.YtbjijbbkfgcleaaGreatDoor
namespace Go.Proofs.YtbjijbbkfgcleaaGreatDoor
open Go.Gv
open Go.RowKit
open Go.Sn
open Sx
namespace Sx
theorem gcd_one {a b : Nat} (hb : 1 ≤ b) (h : ∀ i, 2 ≤ i → i ≤ b → ¬ (a % i = 0 ∧ b % i = 0)) : Nat.gcd a b = 1 := by
  have h1 : Nat.gcd a b ∣ b := Nat.gcd_dvd_right a b
  have h2 : Nat.gcd a b ∣ a := Nat.gcd_dvd_left a b
  have h3 : Nat.gcd a b ≤ b := Nat.le_of_dvd (by omega) h1
  have h4 : 0 < Nat.gcd a b := Nat.gcd_pos_of_pos_right _ (by omega)
  rcases Nat.lt_or_ge (Nat.gcd a b) 2 with h5 | h5
  · omega
  · exact absurd ⟨Nat.mod_eq_zero_of_dvd h2, Nat.mod_eq_zero_of_dvd h1⟩ (h _ h5 h3)
theorem gcd_not_one {a b i : Nat} (hi : 2 ≤ i) (h1 : a % i = 0) (h2 : b % i = 0) : Nat.gcd a b ≠ 1 := fun h => by
  have h3 : i ∣ Nat.gcd a b := Nat.dvd_gcd (Nat.dvd_of_mod_eq_zero h1) (Nat.dvd_of_mod_eq_zero h2)
  rw [h] at h3
  have := Nat.le_of_dvd (by omega) h3
  omega
theorem feetB_nat {a b : Nat} : feetB (a : Int) (b : Int) = (decide (1 ≤ b) && decide (b ≤ 15) && decide (1 ≤ a) && decide (a ≤ 64 * b) && decide (Nat.gcd a b = 1)) := by
  unfold feetB
  simp only [Int.toNat_natCast]
  congr 1
  congr 1
  · congr 1
    · congr 1
      · rw [Bool.eq_iff_iff]; simp; omega
      · rw [Bool.eq_iff_iff]; simp; omega
    · rw [Bool.eq_iff_iff]; simp; omega
  · rw [Bool.eq_iff_iff]; simp; omega
theorem decS_le (i : Nat) (hi : i < 100) : (decS i).size ≤ 3 := by
  show (Lib.decDigits i).toArray.size ≤ 3
  by_cases h : i < 10
  · rw [Lib.decDigits_one h]; simp
  · rw [Lib.decDigits_two h hi]; simp
theorem size_add (a b : ByteArray) : (a ++ b).size = a.size + b.size := ByteArray.size_append
end Sx
open Sx
set_option maxRecDepth 100000 in
set_option maxHeartbeats 1000000 in
theorem gcd_ok (a b : Nat) (ha : a ≤ 9223372036854775807) (hb : b ≤ 9223372036854775807) (w0 : World) : Sp Tryz.prog 97 [natV a, natV b] w0 [] (RV (natV (Nat.gcd a b))) := by
  refine spec_enter Tryz.func97 rfl Tryz.ntmps97 rfl (Own.refl _) ?_
  simp only [argEnv]
  refine gc_seq <| gc_region <| gl_op <| op_rd rfl (rd_assign rfl) <| gl_nil <| gx_then <| gc_seq <| gc_block <| gc_loopF (ι := Nat × Nat) [] [] (fun j => Nat.gcd j.1 j.2 = Nat.gcd a b ∧ j.1 ≤ 9223372036854775807 ∧ j.2 ≤ 9223372036854775807) (fun j Fr0 => ((0, natV j.1) :: (1, natV j.2) :: Fr0)) (fun j Fr0 => Fr0) (fun j => j.2) (a, b) (⟨rfl, ha, hb⟩) ⟨rfl, rfl, trivial⟩ ⟨[], by decide, rfl⟩ ?_
  rintro ⟨x, y⟩ ⟨hg, hx, hy⟩
  simp only at hg hx hy ⊢
  refine gc_seq <| gc_seq <| gc_region <| gl_op <| op_rd rfl (rd_move rfl) <| gl_op (op_rd rfl (rd_neq rfl rfl) (gk_dec (fun h6 => ?_) (fun h6 => ?_)))
  · refine gl_nil <| gx_then <| gc_cond_t rfl <| gc_skip <| gx_then <| gc_block <| gc_drawP [] true 5 rfl <| ga_first 0 (bm 6 1) rfl rfl rfl rfl (by kernel_rfl) (by kernel_rfl) ⟨[], by decide, rfl⟩ (qt_rd (rd_move rfl)) ?_
    refine ga_first 1 (bm 6 3) rfl rfl rfl rfl (by kernel_rfl) (by kernel_rfl) ⟨[], by decide, rfl⟩ (qt_rd (rd_move rfl)) ?_
    refine ga_first 2 (bm 6 7) rfl rfl rfl rfl (by kernel_rfl) (by kernel_rfl) ⟨[], by decide, rfl⟩ (qt_rd (rd_move rfl)) ?_
    refine ga_first 3 (bm 6 15) rfl rfl rfl rfl (by kernel_rfl) (by kernel_rfl) ⟨[], by decide, rfl⟩ (qt_rd (by exact rd_remN rfl rfl (by omega))) ?_
    refine ga_first 4 (bm 6 31) rfl rfl rfl rfl (by kernel_rfl) (by kernel_rfl) ⟨[], by decide, rfl⟩ (qt_rd (rd_assign rfl)) ?_
    refine ga_first 5 (bm 6 63) rfl rfl rfl rfl (by kernel_rfl) (by kernel_rfl) ⟨[], by decide, rfl⟩ (qt_rd (rd_assign rfl)) ?_
    refine ga_end (by kernel_rfl) (.inr ⟨[], by decide, rfl⟩) ?_
    refine gx_block <| gx_then ?_
    exact gx_cut ((y, x % y)) ⟨⟨by simp only; rw [← hg]; exact (gcd_step x y (by omega)).symm, hy, by simp only; have := Nat.mod_lt x (show 0 < y by omega); omega⟩, Nat.mod_lt x (by omega)⟩ ⟨rfl, rfl, trivial⟩ ⟨[], by decide, rfl⟩
  refine gl_nil <| gx_then <| gc_cond_f rfl <| gc_exit <| gx_then_exit <| gx_then_exit <| gx_block_exit <| gx_then <| gc_seq <| gc_region <| gl_op <| op_rd rfl (rd_move rfl) <| gl_op <| op_rd rfl (rd_assign rfl) <| gl_nil <| gx_then <| gc_ret <| gx_ret1 (.inl rfl) Tryz.results97 rfl [] (by decide) ?_
  refine ⟨?_, rfl⟩
  obtain rfl : y = 0 := by omega
  rw [← hg, Nat.gcd_zero_right]
set_option maxRecDepth 100000 in
set_option maxHeartbeats 1000000 in
theorem common_ok (a b : Nat) (hb1 : 1 ≤ b) (ha : a ≤ 9223372036854775807) (hb : b ≤ 1000) (w0 : World) : Sp Tryz.prog 89 [natV a, natV b] w0 [] (RV (.bool (decide (Nat.gcd a b ≠ 1)))) := by
  refine spec_enter Tryz.func89 rfl Tryz.ntmps89 rfl (Own.refl _) ?_
  simp only [argEnv]
  refine gc_seq <| gc_region <| gl_op <| op_rd rfl (rd_assign rfl) <| gl_nil <| gx_then <| gc_seq <| gc_seq <| gc_region <| gl_op <| op_rd rfl (rd_assign rfl) <| gl_nil <| gx_then <| gc_block <| gc_loopF (ι := Nat) [(0, _), (1, _)] [] (fun k => 2 ≤ k ∧ k ≤ b + 2 ∧ ∀ i, 2 ≤ i → i < k → ¬ (a % i = 0 ∧ b % i = 0)) (fun k Fr0 => ((5, natV k) :: Fr0)) (fun k Fr0 => Fr0) (fun k => b + 2 - k) 2 (⟨by omega, by omega, fun i h1 h2 => by omega⟩) ⟨rfl, rfl, rfl, trivial⟩ ⟨[], by decide, rfl⟩ ?_
  rintro k ⟨hk2, hkb, hall⟩
  refine gc_seq <| gc_seq <| gc_region <| gl_op <| op_rd rfl (rd_move rfl) <| gl_op <| op_rd rfl (rd_move rfl) <| gl_op (op_rd rfl (rd_leq rfl rfl) (gk_dec (fun h8 => ?_) (fun h8 => ?_)))
  · refine gl_nil <| gx_then <| gc_cond_t rfl <| gc_skip <| gx_then <| gc_seq <| gc_block <| gc_seq <| gc_region <| gl_op <| op_rd rfl (rd_move rfl) <| gl_op <| op_rd rfl (rd_move rfl) <| gl_op (op_rd rfl (by exact rd_remN rfl rfl (by omega)) ?_)
    refine gl_op (op_rd rfl (rd_eql rfl rfl) (gk_dec (fun h14 => ?_) (fun h14 => ?_)))
    · refine gl_op <| op_rd rfl (rd_move rfl) <| gl_yes rfl rfl <| op_rd rfl (rd_move rfl) <| gl_yes rfl rfl <| op_rd rfl (rd_move rfl) <| gl_yes rfl rfl (op_rd rfl (by exact rd_remN rfl rfl (by omega)) ?_)
      refine gl_yes rfl rfl (op_rd rfl (rd_eql rfl rfl) (gk_dec (fun h19 => ?_) (fun h19 => ?_)))
      · refine gl_op <| op_rd rfl (rd_pick_t rfl rfl) <| gl_nil <| gx_then <| gc_cond_t rfl <| gc_seq <| gc_region <| gl_op <| op_rd rfl (rd_assign rfl) <| gl_nil <| gx_then <| gc_ret <| gx_block_ret <| gx_then_ret <| gx_then_ret <| gx_block_ret <| gx_then_ret <| gx_ret1 (.inl rfl) Tryz.results89 rfl [] (by decide) ?_
        refine ⟨congrArg Value.bool (Eq.symm ?_), rfl⟩
        exact decide_eq_true (gcd_not_one hk2 (by omega) (by omega))
      refine gl_op <| op_rd rfl (rd_pick_t rfl rfl) <| gl_nil <| gx_then <| gc_cond_f rfl <| gc_skip <| gx_block <| gx_then <| gc_region <| gl_op <| op_rd rfl (rd_move rfl) <| gl_op (op_rd rfl (by exact rd_addN (b := 1) rfl rfl (by omega)) ?_)
      refine gl_op <| op_rd rfl (rd_assign rfl) <| gl_nil <| gx_then ?_
      exact gx_cut (k + 1) ⟨⟨by omega, by omega, fun i h1 h2 => by
        rcases Nat.lt_or_eq_of_le (Nat.le_of_lt_succ h2) with h | rfl
        · exact hall i h1 h
        · omega⟩, by omega⟩ ⟨rfl, rfl, rfl, trivial⟩ ⟨[], by decide, rfl⟩
    refine gl_op <| op_rd rfl (rd_move rfl) <| gl_no rfl rfl rfl <| gl_no rfl rfl rfl <| gl_no rfl rfl rfl <| gl_no rfl rfl rfl <| gl_op <| op_rd rfl (rd_pick_f rfl rfl) <| gl_nil <| gx_then <| gc_cond_f rfl <| gc_skip <| gx_block <| gx_then <| gc_region <| gl_op <| op_rd rfl (rd_move rfl) <| gl_op (op_rd rfl (by exact rd_addN (b := 1) rfl rfl (by omega)) ?_)
    refine gl_op <| op_rd rfl (rd_assign rfl) <| gl_nil <| gx_then ?_
    exact gx_cut (k + 1) ⟨⟨by omega, by omega, fun i h1 h2 => by
      rcases Nat.lt_or_eq_of_le (Nat.le_of_lt_succ h2) with h | rfl
      · exact hall i h1 h
      · omega⟩, by omega⟩ ⟨rfl, rfl, rfl, trivial⟩ ⟨[], by decide, rfl⟩
  refine gl_nil <| gx_then <| gc_cond_f rfl <| gc_exit <| gx_then_exit <| gx_then_exit <| gx_block_exit <| gx_then <| gc_seq <| gc_region <| gl_op <| op_rd rfl (rd_assign rfl) <| gl_nil <| gx_then <| gc_ret <| gx_ret1 (.inl rfl) Tryz.results89 rfl [] (by decide) ?_
  refine ⟨congrArg Value.bool (Eq.symm ?_), rfl⟩
  exact decide_eq_false (fun h => h (gcd_one hb1 (fun i h1 h2 => hall i h1 (by omega))))
set_option maxRecDepth 100000 in
set_option maxHeartbeats 1000000 in
theorem valid_ok (num den : Int) (w0 : World) : Sp Tryz.prog 94 [.agg #[.int .i64 num, .int .i64 den]] w0 [] (RV (.bool (feetB num den))) := by
  refine spec_enter Tryz.func94 rfl Tryz.ntmps94 rfl (Own.refl _) ?_
  simp only [argEnv]
  refine gc_seq <| gc_region <| gl_op (op_box rfl rfl rfl (fun b1 => ?_))
  refine gl_op <| op_rd rfl (rd_assign rfl) <| gl_nil <| gx_then <| gc_seq <| gc_region <| gl_op <| op_rd rfl (rd_fieldAddr rfl (fa_51_1 _)) <| gl_op (op_rd rfl (rd_load Tryz.underlying3 rfl rfl (by exact ld_blk 0 rfl rfl)) ?_)
  refine gl_op (op_rd rfl (rd_geq rfl rfl) (gk_dec (fun h5 => ?_) (fun h5 => ?_)))
  · refine gl_op <| op_rd rfl (rd_move rfl) <| gl_yes rfl rfl <| op_rd rfl (rd_fieldAddr rfl (fa_51_1 _)) <| gl_yes rfl rfl (op_rd rfl (rd_load Tryz.underlying3 rfl rfl (by exact ld_blk 0 rfl rfl)) ?_)
    refine gl_yes rfl rfl (op_rd rfl (rd_leq rfl rfl) (gk_dec (fun h9 => ?_) (fun h9 => ?_)))
    · refine gl_op <| op_rd rfl (rd_pick_t rfl rfl) <| gl_op <| op_rd rfl (rd_move rfl) <| gl_yes rfl rfl <| op_rd rfl (rd_fieldAddr rfl (fa_51_0 _)) <| gl_yes rfl rfl (op_rd rfl (rd_load Tryz.underlying3 rfl rfl (by exact ld_blk 0 rfl rfl)) ?_)
      refine gl_yes rfl rfl (op_rd rfl (rd_geq rfl rfl) (gk_dec (fun h14 => ?_) (fun h14 => ?_)))
      · refine gl_op <| op_rd rfl (rd_pick_t rfl rfl) <| gl_op <| op_rd rfl (rd_move rfl) <| gl_yes rfl rfl <| op_rd rfl (rd_fieldAddr rfl (fa_51_0 _)) <| gl_yes rfl rfl (op_rd rfl (rd_load Tryz.underlying3 rfl rfl (by exact ld_blk 0 rfl rfl)) ?_)
        refine gl_yes rfl rfl <| op_rd rfl (rd_fieldAddr rfl (fa_51_1 _)) <| gl_yes rfl rfl (op_rd rfl (rd_load Tryz.underlying3 rfl rfl (by exact ld_blk 0 rfl rfl)) ?_)
        refine gl_yes rfl rfl (op_rd rfl (by exact rd_mul rfl rfl (by omega) (by omega)) ?_)
        refine gl_yes rfl rfl (op_rd rfl (rd_leq rfl rfl) (gk_dec (fun h22 => ?_) (fun h22 => ?_)))
        · obtain ⟨a, rfl⟩ : ∃ a : Nat, num = (a : Int) := ⟨num.toNat, by omega⟩
          obtain ⟨b, rfl⟩ : ∃ b : Nat, den = (b : Int) := ⟨den.toNat, by omega⟩
          refine gl_op <| op_rd rfl (rd_pick_t rfl rfl) <| gl_op <| op_rd rfl (rd_move rfl) <| gl_yes rfl rfl <| op_rd rfl (rd_fieldAddr rfl (fa_51_0 _)) <| gl_yes rfl rfl (op_rd rfl (rd_load Tryz.underlying3 rfl rfl (by exact ld_blk 0 rfl rfl)) ?_)
          refine gl_yes rfl rfl <| op_rd rfl (rd_fieldAddr rfl (fa_51_1 _)) <| gl_yes rfl rfl (op_rd rfl (rd_load Tryz.underlying3 rfl rfl (by exact ld_blk 0 rfl rfl)) ?_)
          refine gl_yes rfl rfl (op_call rfl (vf := []) (vc := []) rfl rfl Tryz.call97 (fun w1 ho => gcd_ok a b (by omega) (by omega) w1) ?_)
          rintro _ _ ⟨rfl, rfl⟩
          refine gl_yes rfl rfl <| op_rd rfl (rd_eql rfl rfl) <| gl_op <| op_rd rfl (rd_pick_t rfl rfl) <| gl_op <| op_rd rfl (rd_assign rfl) <| gl_nil <| gx_then <| gc_ret <| gx_ret1 (.inl rfl) Tryz.results94 rfl [] (by decide) ?_
          refine ⟨congrArg Value.bool (Eq.symm ?_), rfl⟩
          rw [feetB_nat]
          rw [Bool.eq_iff_iff]; simp; omega
        refine gl_op <| op_rd rfl (rd_pick_t rfl rfl) <| gl_op <| op_rd rfl (rd_move rfl) <| gl_no rfl rfl rfl <| gl_no rfl rfl rfl <| gl_no rfl rfl rfl <| gl_no rfl rfl rfl <| gl_no rfl rfl rfl <| gl_no rfl rfl rfl <| gl_op <| op_rd rfl (rd_pick_f rfl rfl) <| gl_op <| op_rd rfl (rd_assign rfl) <| gl_nil <| gx_then <| gc_ret <| gx_ret1 (.inl rfl) Tryz.results94 rfl [] (by decide) ?_
        refine ⟨congrArg Value.bool (Eq.symm ?_), rfl⟩
        unfold feetB
        rw [Bool.eq_false_iff]
        simp
        omega
      refine gl_op <| op_rd rfl (rd_pick_t rfl rfl) <| gl_op <| op_rd rfl (rd_move rfl) <| gl_no rfl rfl rfl <| gl_no rfl rfl rfl <| gl_no rfl rfl rfl <| gl_no rfl rfl rfl <| gl_no rfl rfl rfl <| gl_no rfl rfl rfl <| gl_op <| op_rd rfl (rd_pick_f rfl rfl) <| gl_op <| op_rd rfl (rd_move rfl) <| gl_no rfl rfl rfl <| gl_no rfl rfl rfl <| gl_no rfl rfl rfl <| gl_no rfl rfl rfl <| gl_no rfl rfl rfl <| gl_no rfl rfl rfl <| gl_op <| op_rd rfl (rd_pick_f rfl rfl) <| gl_op <| op_rd rfl (rd_assign rfl) <| gl_nil <| gx_then <| gc_ret <| gx_ret1 (.inl rfl) Tryz.results94 rfl [] (by decide) ?_
      refine ⟨congrArg Value.bool (Eq.symm ?_), rfl⟩
      unfold feetB
      rw [Bool.eq_false_iff]
      simp
      omega
    refine gl_op <| op_rd rfl (rd_pick_t rfl rfl) <| gl_op <| op_rd rfl (rd_move rfl) <| gl_no rfl rfl rfl <| gl_no rfl rfl rfl <| gl_no rfl rfl rfl <| gl_op <| op_rd rfl (rd_pick_f rfl rfl) <| gl_op <| op_rd rfl (rd_move rfl) <| gl_no rfl rfl rfl <| gl_no rfl rfl rfl <| gl_no rfl rfl rfl <| gl_no rfl rfl rfl <| gl_no rfl rfl rfl <| gl_no rfl rfl rfl <| gl_op <| op_rd rfl (rd_pick_f rfl rfl) <| gl_op <| op_rd rfl (rd_move rfl) <| gl_no rfl rfl rfl <| gl_no rfl rfl rfl <| gl_no rfl rfl rfl <| gl_no rfl rfl rfl <| gl_no rfl rfl rfl <| gl_no rfl rfl rfl <| gl_op <| op_rd rfl (rd_pick_f rfl rfl) <| gl_op <| op_rd rfl (rd_assign rfl) <| gl_nil <| gx_then ?_
    refine gc_ret <| gx_ret1 (.inl rfl) Tryz.results94 rfl [] (by decide) ?_
    refine ⟨congrArg Value.bool (Eq.symm ?_), rfl⟩
    unfold feetB
    rw [Bool.eq_false_iff]
    simp
    omega
  refine gl_op <| op_rd rfl (rd_move rfl) <| gl_no rfl rfl rfl <| gl_no rfl rfl rfl <| gl_no rfl rfl rfl <| gl_op <| op_rd rfl (rd_pick_f rfl rfl) <| gl_op <| op_rd rfl (rd_move rfl) <| gl_no rfl rfl rfl <| gl_no rfl rfl rfl <| gl_no rfl rfl rfl <| gl_op <| op_rd rfl (rd_pick_f rfl rfl) <| gl_op <| op_rd rfl (rd_move rfl) <| gl_no rfl rfl rfl <| gl_no rfl rfl rfl <| gl_no rfl rfl rfl <| gl_no rfl rfl rfl <| gl_no rfl rfl rfl <| gl_no rfl rfl rfl <| gl_op <| op_rd rfl (rd_pick_f rfl rfl) <| gl_op <| op_rd rfl (rd_move rfl) <| gl_no rfl rfl rfl <| gl_no rfl rfl rfl <| gl_no rfl rfl rfl <| gl_no rfl rfl rfl <| gl_no rfl rfl rfl <| gl_no rfl rfl rfl ?_
  refine gl_op <| op_rd rfl (rd_pick_f rfl rfl) <| gl_op <| op_rd rfl (rd_assign rfl) <| gl_nil <| gx_then <| gc_ret <| gx_ret1 (.inl rfl) Tryz.results94 rfl [] (by decide) ?_
  refine ⟨congrArg Value.bool (Eq.symm ?_), rfl⟩
  unfold feetB
  rw [Bool.eq_false_iff]
  simp
  omega
set_option maxRecDepth 100000 in
set_option maxHeartbeats 1000000 in
theorem rValid_ok (num den : Int) (w0 : World) : Sp Tryz.prog 77 [.agg #[.int .i64 num, .int .i64 den]] w0 [] (RV (.bool (feetB num den))) := by
  refine spec_enter Tryz.func77 rfl Tryz.ntmps77 rfl (Own.refl _) ?_
  simp only [argEnv]
  refine gc_seq <| gc_region <| gl_op (op_box rfl rfl rfl (fun b1 => ?_))
  refine gl_op <| op_rd rfl (rd_assign rfl) <| gl_nil <| gx_then <| gc_seq <| gc_region <| gl_op <| op_rd rfl (rd_fieldAddr rfl (fa_51_1 _)) <| gl_op (op_rd rfl (rd_load Tryz.underlying3 rfl rfl (by exact ld_blk 0 rfl rfl)) ?_)
  refine gl_op (op_rd rfl (rd_geq rfl rfl) (gk_dec (fun h5 => ?_) (fun h5 => ?_)))
  · refine gl_op <| op_rd rfl (rd_move rfl) <| gl_yes rfl rfl <| op_rd rfl (rd_fieldAddr rfl (fa_51_1 _)) <| gl_yes rfl rfl (op_rd rfl (rd_load Tryz.underlying3 rfl rfl (by exact ld_blk 0 rfl rfl)) ?_)
    refine gl_yes rfl rfl (op_rd rfl (rd_leq rfl rfl) (gk_dec (fun h9 => ?_) (fun h9 => ?_)))
    · refine gl_op <| op_rd rfl (rd_pick_t rfl rfl) <| gl_op <| op_rd rfl (rd_move rfl) <| gl_yes rfl rfl <| op_rd rfl (rd_fieldAddr rfl (fa_51_0 _)) <| gl_yes rfl rfl (op_rd rfl (rd_load Tryz.underlying3 rfl rfl (by exact ld_blk 0 rfl rfl)) ?_)
      refine gl_yes rfl rfl (op_rd rfl (rd_geq rfl rfl) (gk_dec (fun h14 => ?_) (fun h14 => ?_)))
      · refine gl_op <| op_rd rfl (rd_pick_t rfl rfl) <| gl_op <| op_rd rfl (rd_move rfl) <| gl_yes rfl rfl <| op_rd rfl (rd_fieldAddr rfl (fa_51_0 _)) <| gl_yes rfl rfl (op_rd rfl (rd_load Tryz.underlying3 rfl rfl (by exact ld_blk 0 rfl rfl)) ?_)
        refine gl_yes rfl rfl <| op_rd rfl (rd_fieldAddr rfl (fa_51_1 _)) <| gl_yes rfl rfl (op_rd rfl (rd_load Tryz.underlying3 rfl rfl (by exact ld_blk 0 rfl rfl)) ?_)
        refine gl_yes rfl rfl (op_rd rfl (by exact rd_mul rfl rfl (by omega) (by omega)) ?_)
        refine gl_yes rfl rfl (op_rd rfl (rd_leq rfl rfl) (gk_dec (fun h22 => ?_) (fun h22 => ?_)))
        · obtain ⟨a, rfl⟩ : ∃ a : Nat, num = (a : Int) := ⟨num.toNat, by omega⟩
          obtain ⟨b, rfl⟩ : ∃ b : Nat, den = (b : Int) := ⟨den.toNat, by omega⟩
          refine gl_op <| op_rd rfl (rd_pick_t rfl rfl) <| gl_op <| op_rd rfl (rd_move rfl) <| gl_yes rfl rfl <| op_rd rfl (rd_fieldAddr rfl (fa_51_0 _)) <| gl_yes rfl rfl (op_rd rfl (rd_load Tryz.underlying3 rfl rfl (by exact ld_blk 0 rfl rfl)) ?_)
          refine gl_yes rfl rfl <| op_rd rfl (rd_fieldAddr rfl (fa_51_1 _)) <| gl_yes rfl rfl (op_rd rfl (rd_load Tryz.underlying3 rfl rfl (by exact ld_blk 0 rfl rfl)) ?_)
          refine gl_yes rfl rfl (op_call rfl (vf := []) (vc := []) rfl rfl Tryz.call89 (fun w1 ho => common_ok a b (by omega) (by omega) (by omega) w1) ?_)
          rintro _ _ ⟨rfl, rfl⟩
          refine gl_yes rfl rfl <| op_rd rfl (rd_not rfl) <| gl_op <| op_rd rfl (rd_pick_t rfl rfl) <| gl_op <| op_rd rfl (rd_assign rfl) <| gl_nil <| gx_then <| gc_ret <| gx_ret1 (.inl rfl) Tryz.results77 rfl [] (by decide) ?_
          refine ⟨congrArg Value.bool (Eq.symm ?_), rfl⟩
          rw [feetB_nat]
          rw [Bool.eq_iff_iff]; simp; omega
        refine gl_op <| op_rd rfl (rd_pick_t rfl rfl) <| gl_op <| op_rd rfl (rd_move rfl) <| gl_no rfl rfl rfl <| gl_no rfl rfl rfl <| gl_no rfl rfl rfl <| gl_no rfl rfl rfl <| gl_no rfl rfl rfl <| gl_no rfl rfl rfl <| gl_op <| op_rd rfl (rd_pick_f rfl rfl) <| gl_op <| op_rd rfl (rd_assign rfl) <| gl_nil <| gx_then <| gc_ret <| gx_ret1 (.inl rfl) Tryz.results77 rfl [] (by decide) ?_
        refine ⟨congrArg Value.bool (Eq.symm ?_), rfl⟩
        unfold feetB
        rw [Bool.eq_false_iff]
        simp
        omega
      refine gl_op <| op_rd rfl (rd_pick_t rfl rfl) <| gl_op <| op_rd rfl (rd_move rfl) <| gl_no rfl rfl rfl <| gl_no rfl rfl rfl <| gl_no rfl rfl rfl <| gl_no rfl rfl rfl <| gl_no rfl rfl rfl <| gl_no rfl rfl rfl <| gl_op <| op_rd rfl (rd_pick_f rfl rfl) <| gl_op <| op_rd rfl (rd_move rfl) <| gl_no rfl rfl rfl <| gl_no rfl rfl rfl <| gl_no rfl rfl rfl <| gl_no rfl rfl rfl <| gl_no rfl rfl rfl <| gl_no rfl rfl rfl <| gl_op <| op_rd rfl (rd_pick_f rfl rfl) <| gl_op <| op_rd rfl (rd_assign rfl) <| gl_nil <| gx_then <| gc_ret <| gx_ret1 (.inl rfl) Tryz.results77 rfl [] (by decide) ?_
      refine ⟨congrArg Value.bool (Eq.symm ?_), rfl⟩
      unfold feetB
      rw [Bool.eq_false_iff]
      simp
      omega
    refine gl_op <| op_rd rfl (rd_pick_t rfl rfl) <| gl_op <| op_rd rfl (rd_move rfl) <| gl_no rfl rfl rfl <| gl_no rfl rfl rfl <| gl_no rfl rfl rfl <| gl_op <| op_rd rfl (rd_pick_f rfl rfl) <| gl_op <| op_rd rfl (rd_move rfl) <| gl_no rfl rfl rfl <| gl_no rfl rfl rfl <| gl_no rfl rfl rfl <| gl_no rfl rfl rfl <| gl_no rfl rfl rfl <| gl_no rfl rfl rfl <| gl_op <| op_rd rfl (rd_pick_f rfl rfl) <| gl_op <| op_rd rfl (rd_move rfl) <| gl_no rfl rfl rfl <| gl_no rfl rfl rfl <| gl_no rfl rfl rfl <| gl_no rfl rfl rfl <| gl_no rfl rfl rfl <| gl_no rfl rfl rfl <| gl_op <| op_rd rfl (rd_pick_f rfl rfl) <| gl_op <| op_rd rfl (rd_assign rfl) <| gl_nil <| gx_then ?_
    refine gc_ret <| gx_ret1 (.inl rfl) Tryz.results77 rfl [] (by decide) ?_
    refine ⟨congrArg Value.bool (Eq.symm ?_), rfl⟩
    unfold feetB
    rw [Bool.eq_false_iff]
    simp
    omega
  refine gl_op <| op_rd rfl (rd_move rfl) <| gl_no rfl rfl rfl <| gl_no rfl rfl rfl <| gl_no rfl rfl rfl <| gl_op <| op_rd rfl (rd_pick_f rfl rfl) <| gl_op <| op_rd rfl (rd_move rfl) <| gl_no rfl rfl rfl <| gl_no rfl rfl rfl <| gl_no rfl rfl rfl <| gl_op <| op_rd rfl (rd_pick_f rfl rfl) <| gl_op <| op_rd rfl (rd_move rfl) <| gl_no rfl rfl rfl <| gl_no rfl rfl rfl <| gl_no rfl rfl rfl <| gl_no rfl rfl rfl <| gl_no rfl rfl rfl <| gl_no rfl rfl rfl <| gl_op <| op_rd rfl (rd_pick_f rfl rfl) <| gl_op <| op_rd rfl (rd_move rfl) <| gl_no rfl rfl rfl <| gl_no rfl rfl rfl <| gl_no rfl rfl rfl <| gl_no rfl rfl rfl <| gl_no rfl rfl rfl <| gl_no rfl rfl rfl ?_
  refine gl_op <| op_rd rfl (rd_pick_f rfl rfl) <| gl_op <| op_rd rfl (rd_assign rfl) <| gl_nil <| gx_then <| gc_ret <| gx_ret1 (.inl rfl) Tryz.results77 rfl [] (by decide) ?_
  refine ⟨congrArg Value.bool (Eq.symm ?_), rfl⟩
  unfold feetB
  rw [Bool.eq_false_iff]
  simp
  omega
set_option maxRecDepth 100000 in
set_option maxHeartbeats 1000000 in
theorem Digits_ok (i : Nat) (hi : i < 100) (w0 : World) : Sp Tryz.prog 86 [natV i] w0 [] (RV (.string (decS i))) := by
  refine spec_enter Tryz.func86 rfl Tryz.ntmps86 rfl (Own.refl _) ?_
  simp only [argEnv]
  refine gc_seq <| gc_region <| gl_op <| op_rd rfl (rd_assign rfl) <| gl_nil <| gx_then <| gc_seq <| gc_region <| gl_op <| op_rd rfl (rd_move rfl) <| gl_op (op_call rfl (vf := []) (vc := []) rfl rfl Tryz.call93 (fun w1 ho => FmtInt_ok i hi w1) ?_)
  rintro _ _ ⟨rfl, rfl⟩
  refine gl_op <| op_rd rfl (rd_assign rfl) <| gl_nil <| gx_then <| gc_ret <| gx_ret1 (.inl rfl) Tryz.results86 rfl [] (by decide) ?_
  exact ⟨rfl, rfl⟩
end Go.Proofs.YtbjijbbkfgcleaaGreatDoor
namespace Go.Proofs.YtbjijbbkfgcleaaGreatDoor
open Go.Gv
open Go.RowKit
open Go.Sn
open Sx
namespace Sx
def CB (s : Org) (cb mb : Nat) : HL := .blk cb [.slice s.da s.ds.length s.dc, .slice s.ra s.rs.length s.rc, .slice s.sa s.ss.length s.sc, .slice s.ca s.cs.length s.cc, .map (some mb)] 138
def OB (mb : Nat) (K : List ByteArray) : HL := .obj mb (seenO K)
def RC (s : Org) (cb mb : Nat) (v0 : Int) (K : List ByteArray) : Value → List HL → Prop := fun v L => v = .int .i64 v0 ∧ L = [CB s cb mb, OB mb K]
end Sx
open Sx
set_option maxRecDepth 100000 in
set_option maxHeartbeats 1000000 in
theorem named_ok (s : Org) (cb mb : Nat) (K : List ByteArray) (kind name : ByteArray) (hk : kind.size ≤ 1000) (hz : name.size ≤ 140737488355328) (w0 : World) (hown : Own w0 [cb, mb] w0 [CB s cb mb, OB mb K]) : Sp Tryz.prog 82 [.pointer (some ⟨cb, 0, none⟩), .string kind, .string name] w0 [cb, mb] (RC s cb mb (namedP K kind name) (namedK K kind name)) := by
  unfold CB OB at hown
  refine spec_enter Tryz.func82 rfl Tryz.ntmps82 rfl hown ?_
  simp only [argEnv]
  refine gc_seq <| gc_region <| gl_op <| op_rd rfl (rd_assign rfl) <| gl_nil <| gx_then <| gc_seq <| gc_seq <| gc_region <| gl_op <| op_rd rfl (rd_move rfl) <| gl_op (op_call rfl (vf := []) (vc := []) rfl rfl Tryz.call85 (fun w1 ho => Name_ok name hz w1) ?_)
  rintro _ _ ⟨rfl, rfl⟩
  refine gk_bool (fun hn => ?_) (fun hn => ?_)
  · obtain ⟨hn1, hn2⟩ := nameB_le hn
    refine gl_op <| op_rd rfl (rd_not rfl) <| gl_nil <| gx_then <| gc_cond_f rfl <| gc_skip <| gx_then <| gc_seq <| gc_seq <| gc_region <| gl_op <| op_rd rfl (rd_move rfl) <| gl_op <| op_rd rfl (rd_nilCheck rfl) <| gl_op <| op_rd rfl (rd_fieldAddr rfl (fa_138_1 _)) <| gl_op (op_rd rfl (rd_load Tryz.underlying136 rfl rfl (by exact ld_blk 0 rfl rfl)) ?_)
    refine gl_op <| op_rd rfl (rd_move rfl) <| gl_op (op_rd rfl (rd_addStr Tryz.underlying9 rfl rfl (by (show kind.size + 1 ≤ _; omega))) ?_)
    refine gl_op <| op_rd rfl (rd_move rfl) <| gl_op (op_rd rfl (rd_addStr Tryz.underlying9 rfl rfl (by (rw [size_add]; show (kind.size + 1) + name.size ≤ _; omega))) ?_)
    refine gl_op <| op_rd rfl (rd_seen 1 rfl Tryz.underlying136 Tryz.underlying9 ty_4 rfl rfl) <| gk_bool (fun hm => ?_) (fun hm => ?_)
    · change memB (seeKey kind name) K = true at hm
      refine gl_nil <| gx_then <| gc_cond_t rfl <| gc_seq <| gc_region <| gl_op <| op_rd rfl (rd_assign rfl) <| gl_nil <| gx_then <| gc_ret <| gx_then_ret <| gx_ret1 (.inl rfl) Tryz.results82 rfl [0, 1] (by decide) ?_
      have hp : namedP K kind name = 8 := by unfold namedP; rw [if_neg (by rw [hn]; decide), if_pos hm]
      have hk : namedK K kind name = K := by unfold namedK; rw [if_neg (by rw [hp]; decide)]
      rw [hp, hk]
      exact ⟨rfl, rfl⟩
    change memB (seeKey kind name) K = false at hm
    refine gl_nil <| gx_then <| gc_cond_f rfl <| gc_skip <| gx_then <| gc_seq <| gc_region <| gl_op <| op_rd rfl (rd_move rfl) <| gl_op <| op_rd rfl (rd_nilCheck rfl) <| gl_op <| op_rd rfl (rd_fieldAddr rfl (fa_138_1 _)) <| gl_op (op_rd rfl (rd_load Tryz.underlying136 rfl rfl (by exact ld_blk 0 rfl rfl)) ?_)
    refine gl_op <| op_rd rfl (rd_move rfl) <| gl_op (op_rd rfl (rd_addStr Tryz.underlying9 rfl rfl (by (show kind.size + 1 ≤ _; omega))) ?_)
    refine gl_op <| op_rd rfl (rd_move rfl) <| gl_op (op_rd rfl (rd_addStr Tryz.underlying9 rfl rfl (by (rw [size_add]; show (kind.size + 1) + name.size ≤ _; omega))) ?_)
    refine gl_op <| op_see 1 Tryz.underlying136 Tryz.underlying9 rfl rfl rfl rfl hm rfl <| gl_nil <| gx_then <| gc_seq <| gc_region <| gl_op <| op_rd rfl (rd_assign rfl) <| gl_nil <| gx_then <| gc_ret <| gx_ret1 (.inl rfl) Tryz.results82 rfl [0, 1] (by decide) ?_
    have hp : namedP K kind name = 0 := by unfold namedP; rw [if_neg (by rw [hn]; decide), if_neg (by rw [hm]; decide)]
    have hk : namedK K kind name = K ++ [seeKey kind name] := by unfold namedK; rw [if_pos hp]
    rw [hp, hk]
    exact ⟨rfl, rfl⟩
  refine gl_op <| op_rd rfl (rd_not rfl) <| gl_nil <| gx_then <| gc_cond_t rfl <| gc_seq <| gc_region <| gl_op <| op_rd rfl (rd_assign rfl) <| gl_nil <| gx_then <| gc_ret <| gx_then_ret <| gx_ret1 (.inl rfl) Tryz.results82 rfl [0, 1] (by decide) ?_
  have hp : namedP K kind name = 6 := by unfold namedP; rw [if_pos hn]
  have hk : namedK K kind name = K := by unfold namedK; rw [if_neg (by rw [hp]; decide)]
  rw [hp, hk]
  exact ⟨rfl, rfl⟩
set_option maxRecDepth 100000 in
set_option maxHeartbeats 1000000 in
theorem division_ok (s : Org) (cb mb : Nat) (K : List ByteArray) (d : Dv) (hz : d.name.size ≤ 140737488355328) (w0 : World) (hown : Own w0 [cb, mb] w0 [CB s cb mb, OB mb K]) : Sp Tryz.prog 65 [.pointer (some ⟨cb, 0, none⟩), d.val] w0 [cb, mb] (RC s cb mb (dvE K d) (dvK K d)) := by
  unfold CB OB at hown
  refine spec_enter Tryz.func65 rfl Tryz.ntmps65 rfl hown ?_
  simp only [argEnv]
  refine gc_seq <| gc_region <| gl_op (op_box rfl rfl rfl (fun b3 => ?_))
  refine gl_op <| op_rd rfl (rd_assign rfl) <| gl_nil <| gx_then <| gc_seq <| gc_seq <| gc_region <| gl_op <| op_rd rfl (rd_move rfl) <| gl_op <| op_rd rfl (rd_fieldAddr rfl (fa_49_0 _)) <| gl_op (op_rd rfl (rd_load Tryz.underlying9 rfl rfl (by exact ld_blk 0 rfl rfl)) ?_)
  refine gl_op (op_callM [1, 2] [0] rfl (vf := []) (vc := []) rfl rfl Tryz.call82 (by decide) rfl (fun w how hc => named_ok s cb mb K kDiv d.name (by decide) hz w hc) ?_)
  rintro _ _ ⟨rfl, rfl⟩
  refine gl_op <| op_rd rfl (rd_assign rfl) <| gl_nil <| gx_then <| gc_seq <| gc_region <| gl_op <| op_rd rfl (rd_move rfl) <| gl_op (op_rd rfl (rd_neq rfl rfl) (gk_dec (fun hnm => ?_) (fun hnm => ?_)))
  · refine gl_nil <| gx_then <| gc_cond_t rfl <| gc_seq <| gc_region <| gl_op <| op_rd rfl (rd_move rfl) <| gl_op <| op_rd rfl (rd_assign rfl) <| gl_nil <| gx_then <| gc_ret <| gx_then_ret <| gx_ret1 (.inl rfl) Tryz.results65 rfl [0, 1] (by decide) ?_
    refine ⟨congrArg (Value.int .i64) (Eq.symm ?_), rfl⟩
    unfold dvE
    rw [if_pos hnm]
  refine gl_nil <| gx_then <| gc_cond_f rfl <| gc_skip <| gx_then <| gc_seq <| gc_seq <| gc_region <| gl_op <| op_rd rfl (rd_fieldAddr rfl (fa_49_1 _)) <| gl_op (op_rd rfl (rd_load Tryz.underlying3 rfl rfl (by exact ld_blk 2 rfl rfl)) ?_)
  refine gl_op (op_call rfl (vf := []) (vc := []) rfl rfl Tryz.call83 (fun w1 ho => within_ok _ _ _ w1) ?_)
  rintro _ _ ⟨rfl, rfl⟩
  refine gk_bool (fun hw15 => ?_) (fun hw15 => ?_)
  · refine gl_op <| op_rd rfl (rd_not rfl) <| gl_op <| op_rd rfl (rd_move rfl) <| gl_yes rfl rfl <| op_rd rfl (rd_fieldAddr rfl (fa_49_2 _)) <| gl_yes rfl rfl (op_rd rfl (rd_load Tryz.underlying3 rfl rfl (by exact ld_blk 2 rfl rfl)) ?_)
    refine gl_yes rfl rfl <| op_rd rfl (rd_fieldAddr rfl (fa_49_1 _)) <| gl_yes rfl rfl (op_rd rfl (rd_load Tryz.underlying3 rfl rfl (by exact ld_blk 2 rfl rfl)) ?_)
    refine gl_yes rfl rfl <| op_rd rfl (rd_fieldAddr rfl (fa_49_1 _)) <| gl_yes rfl rfl (op_rd rfl (rd_load Tryz.underlying3 rfl rfl (by exact ld_blk 2 rfl rfl)) ?_)
    refine gl_yes rfl rfl (op_rd rfl (by exact rd_add rfl rfl (by simp only [withinB, Bool.and_eq_true, decide_eq_true_eq] at hw15; omega) (by simp only [withinB, Bool.and_eq_true, decide_eq_true_eq] at hw15; omega)) ?_)
    refine gl_yes rfl rfl (op_rd rfl (by exact rd_sub rfl rfl (by simp only [withinB, Bool.and_eq_true, decide_eq_true_eq] at hw15; omega) (by simp only [withinB, Bool.and_eq_true, decide_eq_true_eq] at hw15; omega)) ?_)
    refine gl_yes rfl rfl <| op_rd rfl (rd_min2I rfl rfl) <| gl_yes rfl rfl (op_call rfl (vf := []) (vc := []) rfl rfl Tryz.call83 (fun w1 ho => within_ok _ _ _ w1) ?_)
    rintro _ _ ⟨rfl, rfl⟩
    refine gk_bool (fun hw27 => ?_) (fun hw27 => ?_)
    · refine gl_yes rfl rfl <| op_rd rfl (rd_not rfl) <| gl_op <| op_rd rfl (rd_pick_f rfl rfl) <| gl_nil <| gx_then <| gc_cond_f rfl <| gc_skip <| gx_then <| gc_seq <| gc_region <| gl_op <| op_rd rfl (rd_assign rfl) <| gl_nil <| gx_then <| gc_ret <| gx_ret1 (.inl rfl) Tryz.results65 rfl [0, 1] (by decide) ?_
      refine ⟨congrArg (Value.int .i64) (Eq.symm ?_), rfl⟩
      unfold dvE
      rw [if_neg (by omega)]
      rw [if_neg]
      unfold dvBad
      rw [Bool.not_eq_true]
      try simp only [withinB] at *
      simp only [Bool.not_eq_true', Bool.not_eq_false', Bool.and_eq_false_iff, Bool.and_eq_true, decide_eq_true_eq, decide_eq_false_iff_not] at *
      omega
    refine gl_yes rfl rfl <| op_rd rfl (rd_not rfl) <| gl_op <| op_rd rfl (rd_pick_f rfl rfl) <| gl_nil <| gx_then <| gc_cond_t rfl <| gc_seq <| gc_region <| gl_op <| op_rd rfl (rd_assign rfl) <| gl_nil <| gx_then <| gc_ret <| gx_then_ret <| gx_ret1 (.inl rfl) Tryz.results65 rfl [0, 1] (by decide) ?_
    refine ⟨congrArg (Value.int .i64) (Eq.symm ?_), rfl⟩
    unfold dvE
    rw [if_neg (by omega)]
    rw [if_pos]
    unfold dvBad
    try simp only [withinB] at *
    simp only [Bool.not_eq_true', Bool.not_eq_false', Bool.and_eq_false_iff, Bool.and_eq_true, decide_eq_true_eq, decide_eq_false_iff_not] at *
    omega
  refine gl_op <| op_rd rfl (rd_not rfl) <| gl_op <| op_rd rfl (rd_move rfl) <| gl_no rfl rfl rfl <| gl_no rfl rfl rfl <| gl_no rfl rfl rfl <| gl_no rfl rfl rfl <| gl_no rfl rfl rfl <| gl_no rfl rfl rfl <| gl_no rfl rfl rfl <| gl_no rfl rfl rfl <| gl_no rfl rfl rfl <| gl_no rfl rfl rfl <| gl_no rfl rfl rfl <| gl_op <| op_rd rfl (rd_pick_t rfl rfl) <| gl_nil <| gx_then <| gc_cond_t rfl <| gc_seq <| gc_region <| gl_op <| op_rd rfl (rd_assign rfl) <| gl_nil <| gx_then <| gc_ret <| gx_then_ret <| gx_ret1 (.inl rfl) Tryz.results65 rfl [0, 1] (by decide) ?_
  refine ⟨congrArg (Value.int .i64) (Eq.symm ?_), rfl⟩
  unfold dvE
  rw [if_neg (by omega)]
  rw [if_pos]
  unfold dvBad
  try simp only [withinB] at *
  simp only [Bool.not_eq_true', Bool.not_eq_false', Bool.and_eq_false_iff, Bool.and_eq_true, decide_eq_true_eq, decide_eq_false_iff_not] at *
  omega
end Go.Proofs.YtbjijbbkfgcleaaGreatDoor
namespace Go.Proofs.YtbjijbbkfgcleaaGreatDoor
open Go.Gv
open Go.RowKit
open Go.Sn
open Sx
namespace Sx
theorem one_size (x : UInt8) : (⟨#[x]⟩ : ByteArray).size = 1 := rfl
theorem feet_ok {num den : Int} (h : feetB num den = true) : ∃ a b : Nat, num = (a : Int) ∧ den = (b : Int) ∧ 1 ≤ b ∧ b ≤ 15 ∧ 1 ≤ a ∧ a ≤ 64 * b := by
  unfold feetB at h
  simp only [Bool.and_eq_true, decide_eq_true_eq] at h
  exact ⟨num.toNat, den.toNat, by omega, by omega, by omega, by omega, by omega, by omega⟩
theorem DigitsI_ok (z : Int) (h0 : 0 ≤ z) (h1 : z < 100) (w0 : World) : Sp Tryz.prog 86 [.int .i64 z] w0 [] (RV (.string (decS z.toNat))) := by
  obtain ⟨i, rfl⟩ : ∃ i : Nat, z = i := ⟨z.toNat, by omega⟩
  exact Digits_ok i (by omega) w0
theorem stop_size (i : Nat) (hi : i < 100) : (kStop ++ decS i).size ≤ 1000 := by
  rw [size_add]
  have := decS_le i hi
  have h5 : kStop.size = 5 := rfl
  omega
end Sx
open Sx
set_option maxRecDepth 100000 in
set_option maxHeartbeats 1000000 in
theorem Feet_ok (num den : Int) (w0 : World) : Sp Tryz.prog 90 [.agg #[.int .i64 num, .int .i64 den]] w0 [] (fun v L => L = [] ∧ ∃ t, v = .tuple #[.string t, .int .i64 (if feetB num den = true then 0 else 2)]) := by
  refine spec_enter Tryz.func90 rfl Tryz.ntmps90 rfl (Own.refl _) ?_
  simp only [argEnv]
  refine gc_seq <| gc_region <| gl_op (op_box rfl rfl rfl (fun b1 => ?_))
  refine gl_op <| op_rd rfl (rd_assign rfl) <| gl_op <| op_rd rfl (rd_assign rfl) <| gl_nil <| gx_then <| gc_seq <| gc_seq <| gc_region <| gl_op (op_rd rfl (rd_loadAgg Tryz.underlying51 rfl ty_51 rfl (by exact cs_blk 0 (off := 0) (k := 2) rfl rfl) rfl) ?_)
  refine gl_op (op_call rfl (vf := []) (vc := []) rfl rfl Tryz.call94 (fun w1 ho => valid_ok num den w1) ?_)
  rintro _ _ ⟨rfl, rfl⟩
  refine gk_bool (fun hv => ?_) (fun hv => ?_)
  · obtain ⟨a, b, rfl, rfl, hb1, hb2, hb3, hb4⟩ := feet_ok hv
    have hq : a / b ≤ 64 := Nat.div_le_of_le_mul (by rw [Nat.mul_comm]; exact hb4)
    have hr : a % b < b := Nat.mod_lt a (by omega)
    have hs1 := decS_le (a % b) (by omega)
    have hs2 := decS_le b (by omega)
    have hs3 := decS_le (a / b) (by omega)
    refine gl_op <| op_rd rfl (rd_not rfl) <| gl_nil <| gx_then <| gc_cond_f rfl <| gc_skip <| gx_then <| gc_seq <| gc_drawP [0] true 11 rfl <| ga_first 0 (bm 12 1) rfl rfl rfl rfl (by kernel_rfl) (by kernel_rfl) ⟨[0], by decide, rfl⟩ (qt_rd (rd_fieldAddr rfl (fa_51_0 _))) ?_
    refine ga_first 1 (bm 12 3) rfl rfl rfl rfl (by kernel_rfl) (by kernel_rfl) ⟨[0], by decide, rfl⟩ (qt_rd (rd_load Tryz.underlying3 rfl rfl (by exact ld_blk 0 rfl rfl))) ?_
    refine ga_first 2 (bm 12 7) rfl rfl rfl rfl (by kernel_rfl) (by kernel_rfl) ⟨[0], by decide, rfl⟩ (qt_rd (rd_fieldAddr rfl (fa_51_1 _))) ?_
    refine ga_first 3 (bm 12 15) rfl rfl rfl rfl (by kernel_rfl) (by kernel_rfl) ⟨[0], by decide, rfl⟩ (qt_rd (rd_load Tryz.underlying3 rfl rfl (by exact ld_blk 0 rfl rfl))) ?_
    refine ga_first 4 (bm 12 31) rfl rfl rfl rfl (by kernel_rfl) (by kernel_rfl) ⟨[0], by decide, rfl⟩ (qt_rd (by exact rd_quoN rfl rfl (by omega) (by omega))) ?_
    refine ga_first 5 (bm 12 63) rfl rfl rfl rfl (by kernel_rfl) (by kernel_rfl) ⟨[0], by decide, rfl⟩ (qt_rd (rd_fieldAddr rfl (fa_51_0 _))) ?_
    refine ga_first 6 (bm 12 127) rfl rfl rfl rfl (by kernel_rfl) (by kernel_rfl) ⟨[0], by decide, rfl⟩ (qt_rd (rd_load Tryz.underlying3 rfl rfl (by exact ld_blk 0 rfl rfl))) ?_
    refine ga_first 7 (bm 12 255) rfl rfl rfl rfl (by kernel_rfl) (by kernel_rfl) ⟨[0], by decide, rfl⟩ (qt_rd (rd_fieldAddr rfl (fa_51_1 _))) ?_
    refine ga_first 8 (bm 12 511) rfl rfl rfl rfl (by kernel_rfl) (by kernel_rfl) ⟨[0], by decide, rfl⟩ (qt_rd (rd_load Tryz.underlying3 rfl rfl (by exact ld_blk 0 rfl rfl))) ?_
    refine ga_first 9 (bm 12 1023) rfl rfl rfl rfl (by kernel_rfl) (by kernel_rfl) ⟨[0], by decide, rfl⟩ (qt_rd (by exact rd_remN rfl rfl (by omega))) ?_
    refine ga_first 10 (bm 12 2047) rfl rfl rfl rfl (by kernel_rfl) (by kernel_rfl) ⟨[0], by decide, rfl⟩ (qt_rd (rd_assign rfl)) ?_
    refine ga_first 11 (bm 12 4095) rfl rfl rfl rfl (by kernel_rfl) (by kernel_rfl) ⟨[0], by decide, rfl⟩ (qt_rd (rd_assign rfl)) ?_
    refine ga_end (by kernel_rfl) (.inr ⟨[0], by decide, rfl⟩) ?_
    refine gx_then <| gc_seq <| gc_drawP [0] true 7 rfl <| ga_first 0 (bm 8 1) rfl rfl rfl rfl (by kernel_rfl) (by kernel_rfl) ⟨[0], by decide, rfl⟩ (qt_rd (rd_move rfl)) ?_
    refine ga_first 1 (bm 8 3) rfl rfl rfl rfl (by kernel_rfl) (by kernel_rfl) ⟨[0], by decide, rfl⟩ (qt_call (vf := []) (vc := []) rfl rfl Tryz.call95 (fun w1 ho => Itoa_ok (a % b) (by omega) w1) (by rintro _ _ ⟨h, _⟩; exact h)) ?_
    refine ga_first 2 (bm 8 7) rfl rfl rfl rfl (by kernel_rfl) (by kernel_rfl) ⟨[0], by decide, rfl⟩ (qt_rd (rd_addStr Tryz.underlying9 rfl rfl (by simp only [size_add, one_size]; omega))) ?_
    refine ga_first 3 (bm 8 15) rfl rfl rfl rfl (by kernel_rfl) (by kernel_rfl) ⟨[0], by decide, rfl⟩ (qt_rd (rd_fieldAddr rfl (fa_51_1 _))) ?_
    refine ga_first 4 (bm 8 31) rfl rfl rfl rfl (by kernel_rfl) (by kernel_rfl) ⟨[0], by decide, rfl⟩ (qt_rd (rd_load Tryz.underlying3 rfl rfl (by exact ld_blk 0 rfl rfl))) ?_
    refine ga_first 5 (bm 8 63) rfl rfl rfl rfl (by kernel_rfl) (by kernel_rfl) ⟨[0], by decide, rfl⟩ (qt_call (vf := []) (vc := []) rfl rfl Tryz.call95 (fun w1 ho => Itoa_ok (b) (by omega) w1) (by rintro _ _ ⟨h, _⟩; exact h)) ?_
    refine ga_first 6 (bm 8 127) rfl rfl rfl rfl (by kernel_rfl) (by kernel_rfl) ⟨[0], by decide, rfl⟩ (qt_rd (rd_addStr Tryz.underlying9 rfl rfl (by simp only [size_add, one_size]; omega))) ?_
    refine ga_first 7 (bm 8 255) rfl rfl rfl rfl (by kernel_rfl) (by kernel_rfl) ⟨[0], by decide, rfl⟩ (qt_rd (rd_assign rfl)) ?_
    refine ga_end (by kernel_rfl) (.inr ⟨[0], by decide, rfl⟩) ?_
    refine gx_then <| gc_seq <| gc_block <| gc_seq <| gc_region <| gl_op <| op_rd rfl (rd_fieldAddr rfl (fa_51_1 _)) <| gl_op (op_rd rfl (rd_load Tryz.underlying3 rfl rfl (by exact ld_blk 0 rfl rfl)) ?_)
    refine gl_op (op_rd rfl (rd_eql rfl rfl) (gk_dec (fun h30 => ?_) (fun h30 => ?_)))
    · refine gl_op <| op_rd rfl (rd_assign rfl) <| gl_nil <| gx_then <| gc_cond_t rfl <| gc_seq <| gc_region <| gl_op <| op_rd rfl (rd_move rfl) <| gl_op (op_call rfl (vf := []) (vc := []) rfl rfl Tryz.call95 (fun w1 ho => Itoa_ok (a / b) (by omega) w1) ?_)
      rintro _ _ ⟨rfl, rfl⟩
      refine gl_op <| op_rd rfl (rd_assign rfl) <| gl_op <| op_rd rfl (rd_assign rfl) <| gl_nil <| gx_then <| gc_ret <| gx_block_ret <| gx_then_ret <| gx_ret2 (.inl rfl) Tryz.results90 rfl rfl [] (by decide) ?_
      exact ⟨rfl, _, by rw [hv]; rfl⟩
    refine gl_op <| op_rd rfl (rd_assign rfl) <| gl_nil <| gx_then <| gc_cond_f rfl <| gc_seq <| gc_region <| gl_op <| op_rd rfl (rd_move rfl) <| gl_op (op_rd rfl (rd_eql rfl rfl) (gk_dec (fun h35 => ?_) (fun h35 => ?_)))
    · refine gl_op <| op_rd rfl (rd_assign rfl) <| gl_nil <| gx_then <| gc_cond_t rfl <| gc_seq <| gc_region <| gl_op <| op_rd rfl (rd_move rfl) <| gl_op <| op_rd rfl (rd_assign rfl) <| gl_op <| op_rd rfl (rd_assign rfl) <| gl_nil <| gx_then <| gc_ret <| gx_block_ret <| gx_then_ret <| gx_ret2 (.inl rfl) Tryz.results90 rfl rfl [] (by decide) ?_
      exact ⟨rfl, _, by rw [hv]; rfl⟩
    refine gl_op <| op_rd rfl (rd_assign rfl) <| gl_nil <| gx_then <| gc_cond_f rfl <| gc_skip <| gx_block <| gx_then <| gc_seq <| gc_region <| gl_op <| op_rd rfl (rd_move rfl) <| gl_op (op_call rfl (vf := []) (vc := []) rfl rfl Tryz.call95 (fun w1 ho => Itoa_ok (a / b) (by omega) w1) ?_)
    rintro _ _ ⟨rfl, rfl⟩
    refine gl_op (op_rd rfl (rd_addStr Tryz.underlying9 rfl rfl (by simp only [size_add, one_size]; omega)) ?_)
    refine gl_op <| op_rd rfl (rd_move rfl) <| gl_op (op_rd rfl (rd_addStr Tryz.underlying9 rfl rfl (by simp only [size_add, one_size]; omega)) ?_)
    refine gl_op <| op_rd rfl (rd_assign rfl) <| gl_op <| op_rd rfl (rd_assign rfl) <| gl_nil <| gx_then <| gc_ret <| gx_ret2 (.inl rfl) Tryz.results90 rfl rfl [] (by decide) ?_
    exact ⟨rfl, _, by rw [hv]; rfl⟩
  refine gl_op <| op_rd rfl (rd_not rfl) <| gl_nil <| gx_then <| gc_cond_t rfl <| gc_seq <| gc_region <| gl_op <| op_rd rfl (rd_assign rfl) <| gl_op <| op_rd rfl (rd_assign rfl) <| gl_nil <| gx_then <| gc_ret <| gx_then_ret <| gx_ret2 (.inl rfl) Tryz.results90 rfl rfl [] (by decide) ?_
  exact ⟨rfl, _, by rw [hv]; rfl⟩
set_option maxRecDepth 100000 in
set_option maxHeartbeats 1000000 in
theorem footage_ok (num den : Int) (w0 : World) : Sp Tryz.prog 84 [.agg #[.int .i64 num, .int .i64 den]] w0 [] (RV (.bool (feetB num den))) := by
  refine spec_enter Tryz.func84 rfl Tryz.ntmps84 rfl (Own.refl _) ?_
  simp only [argEnv]
  refine gc_seq <| gc_region <| gl_op (op_box rfl rfl rfl (fun b1 => ?_))
  refine gl_op <| op_rd rfl (rd_assign rfl) <| gl_nil <| gx_then <| gc_seq <| gc_region <| gl_op (op_rd rfl (rd_loadAgg Tryz.underlying51 rfl ty_51 rfl (by exact cs_blk 0 (off := 0) (k := 2) rfl rfl) rfl) ?_)
  refine gl_op (op_call rfl (vf := []) (vc := []) rfl rfl Tryz.call90 (fun w1 ho => Feet_ok num den w1) ?_)
  rintro _ _ ⟨rfl, t, rfl⟩
  refine gl_op <| op_rd rfl (rd_move rfl) <| gl_op <| op_rd rfl (rd_extract rfl rfl) <| gl_op <| op_rd rfl (rd_extract rfl rfl) <| gl_op <| op_rd rfl (rd_assign rfl) <| gl_op <| op_rd rfl (rd_assign rfl) <| gl_nil <| gx_then <| gc_seq <| gc_region <| gl_op <| op_rd rfl (rd_move rfl) <| gl_op <| op_rd rfl (rd_eql rfl rfl) <| gl_op <| op_rd rfl (rd_assign rfl) <| gl_nil <| gx_then <| gc_ret <| gx_ret1 (.inl rfl) Tryz.results84 rfl [] (by decide) ?_
  refine ⟨congrArg Value.bool ?_, rfl⟩
  cases feetB num den <;> rfl
set_option maxRecDepth 100000 in
set_option maxHeartbeats 1000000 in
theorem rank_ok (s : Org) (cb mb : Nat) (K : List ByteArray) (r : Rk) (hz : r.name.size ≤ 140737488355328) (w0 : World) (hown : Own w0 [cb, mb] w0 [CB s cb mb, OB mb K]) : Sp Tryz.prog 67 [.pointer (some ⟨cb, 0, none⟩), r.val] w0 [cb, mb] (RC s cb mb (rkE K r) (rkK K r)) := by
  unfold CB OB at hown
  refine spec_enter Tryz.func67 rfl Tryz.ntmps67 rfl hown ?_
  simp only [argEnv]
  refine gc_seq <| gc_region <| gl_op (op_box rfl rfl rfl (fun b3 => ?_))
  refine gl_op <| op_rd rfl (rd_assign rfl) <| gl_nil <| gx_then <| gc_seq <| gc_seq <| gc_region <| gl_op <| op_rd rfl (rd_move rfl) <| gl_op <| op_rd rfl (rd_fieldAddr rfl (fa_53_0 _)) <| gl_op (op_rd rfl (rd_load Tryz.underlying9 rfl rfl (by exact ld_blk 0 rfl rfl)) ?_)
  refine gl_op (op_callM [1, 2] [0] rfl (vf := []) (vc := []) rfl rfl Tryz.call82 (by decide) rfl (fun w how hc => named_ok s cb mb K kRank r.name (by decide) hz w hc) ?_)
  rintro _ _ ⟨rfl, rfl⟩
  refine gl_op <| op_rd rfl (rd_assign rfl) <| gl_nil <| gx_then <| gc_seq <| gc_region <| gl_op <| op_rd rfl (rd_move rfl) <| gl_op (op_rd rfl (rd_neq rfl rfl) (gk_dec (fun hnm => ?_) (fun hnm => ?_)))
  · refine gl_nil <| gx_then <| gc_cond_t rfl <| gc_seq <| gc_region <| gl_op <| op_rd rfl (rd_move rfl) <| gl_op <| op_rd rfl (rd_assign rfl) <| gl_nil <| gx_then <| gc_ret <| gx_then_ret <| gx_ret1 (.inl rfl) Tryz.results67 rfl [0, 1] (by decide) ?_
    refine ⟨congrArg (Value.int .i64) (Eq.symm ?_), rfl⟩
    unfold rkE
    rw [if_pos hnm]
  refine gl_nil <| gx_then <| gc_cond_f rfl <| gc_skip <| gx_then <| gc_seq <| gc_seq <| gc_region <| gl_op <| op_rd rfl (rd_fieldAddr rfl (fa_53_1 _)) <| gl_op (op_rd rfl (rd_load Tryz.underlying3 rfl rfl (by exact ld_blk 2 rfl rfl)) ?_)
  refine gl_op (op_call rfl (vf := []) (vc := []) rfl rfl Tryz.call83 (fun w1 ho => within_ok _ _ _ w1) ?_)
  rintro _ _ ⟨rfl, rfl⟩
  refine gk_bool (fun hw15 => ?_) (fun hw15 => ?_)
  · refine gl_op <| op_rd rfl (rd_not rfl) <| gl_op <| op_rd rfl (rd_move rfl) <| gl_yes rfl rfl <| op_rd rfl (rd_fieldAddr rfl (fa_53_2 _)) <| gl_yes rfl rfl (op_rd rfl (rd_loadAgg Tryz.underlying51 rfl ty_51 rfl (by exact cs_blk 2 (off := 2) (k := 2) rfl rfl) rfl) ?_)
    refine gl_yes rfl rfl (op_call rfl (vf := []) (vc := []) rfl rfl Tryz.call84 (fun w1 ho => footage_ok r.num r.den w1) ?_)
    rintro _ _ ⟨rfl, rfl⟩
    refine gk_bool (fun hft => ?_) (fun hft => ?_)
    · refine gl_yes rfl rfl <| op_rd rfl (rd_not rfl) <| gl_op <| op_rd rfl (rd_pick_f rfl rfl) <| gl_nil <| gx_then <| gc_cond_f rfl <| gc_skip <| gx_then <| gc_seq <| gc_seq <| gc_region <| gl_op <| op_rd rfl (rd_fieldAddr rfl (fa_53_4 _)) <| gl_op (op_rd rfl (rd_load Tryz.underlying3 rfl rfl (by exact ld_blk 2 rfl rfl)) ?_)
      refine gl_op (op_call rfl (vf := []) (vc := []) rfl rfl Tryz.call83 (fun w1 ho => within_ok _ _ _ w1) ?_)
      rintro _ _ ⟨rfl, rfl⟩
      refine gk_bool (fun hw25 => ?_) (fun hw25 => ?_)
      · refine gl_op <| op_rd rfl (rd_not rfl) <| gl_op <| op_rd rfl (rd_move rfl) <| gl_yes rfl rfl <| op_rd rfl (rd_fieldAddr rfl (fa_53_3 _)) <| gl_yes rfl rfl (op_rd rfl (rd_load Tryz.underlying3 rfl rfl (by exact ld_blk 2 rfl rfl)) ?_)
        refine gl_yes rfl rfl <| op_rd rfl (rd_fieldAddr rfl (fa_53_4 _)) <| gl_yes rfl rfl (op_rd rfl (rd_load Tryz.underlying3 rfl rfl (by exact ld_blk 2 rfl rfl)) ?_)
        refine gl_yes rfl rfl (op_rd rfl (by exact rd_sub rfl rfl (by simp only [withinB, Bool.and_eq_true, decide_eq_true_eq] at hw25; omega) (by simp only [withinB, Bool.and_eq_true, decide_eq_true_eq] at hw25; omega)) ?_)
        refine gl_yes rfl rfl (op_call rfl (vf := []) (vc := []) rfl rfl Tryz.call83 (fun w1 ho => within_ok _ _ _ w1) ?_)
        rintro _ _ ⟨rfl, rfl⟩
        refine gk_bool (fun hw33 => ?_) (fun hw33 => ?_)
        · refine gl_yes rfl rfl <| op_rd rfl (rd_not rfl) <| gl_op <| op_rd rfl (rd_pick_f rfl rfl) <| gl_nil <| gx_then <| gc_cond_f rfl <| gc_skip <| gx_then <| gc_seq <| gc_region <| gl_op <| op_rd rfl (rd_assign rfl) <| gl_nil <| gx_then <| gc_ret <| gx_ret1 (.inl rfl) Tryz.results67 rfl [0, 1] (by decide) ?_
          refine ⟨congrArg (Value.int .i64) (Eq.symm ?_), rfl⟩
          unfold rkE
          rw [if_neg (by omega)]
          rw [if_neg (by unfold rkArg; rw [hft]; simp only [withinB] at hw15; simp at hw15 ⊢; omega)]
          rw [if_neg]
          unfold rkBad
          rw [Bool.not_eq_true]
          try simp only [withinB] at *
          simp only [Bool.not_eq_true', Bool.not_eq_false', Bool.and_eq_false_iff, Bool.and_eq_true, decide_eq_true_eq, decide_eq_false_iff_not] at *
          omega
        refine gl_yes rfl rfl <| op_rd rfl (rd_not rfl) <| gl_op <| op_rd rfl (rd_pick_f rfl rfl) <| gl_nil <| gx_then <| gc_cond_t rfl <| gc_seq <| gc_region <| gl_op <| op_rd rfl (rd_assign rfl) <| gl_nil <| gx_then <| gc_ret <| gx_then_ret <| gx_ret1 (.inl rfl) Tryz.results67 rfl [0, 1] (by decide) ?_
        refine ⟨congrArg (Value.int .i64) (Eq.symm ?_), rfl⟩
        unfold rkE
        rw [if_neg (by omega)]
        rw [if_neg (by unfold rkArg; rw [hft]; simp only [withinB] at hw15; simp at hw15 ⊢; omega)]
        rw [if_pos]
        unfold rkBad
        try simp only [withinB] at *
        simp only [Bool.not_eq_true', Bool.not_eq_false', Bool.and_eq_false_iff, Bool.and_eq_true, decide_eq_true_eq, decide_eq_false_iff_not] at *
        omega
      refine gl_op <| op_rd rfl (rd_not rfl) <| gl_op <| op_rd rfl (rd_move rfl) <| gl_no rfl rfl rfl <| gl_no rfl rfl rfl <| gl_no rfl rfl rfl <| gl_no rfl rfl rfl <| gl_no rfl rfl rfl <| gl_no rfl rfl rfl <| gl_no rfl rfl rfl <| gl_op <| op_rd rfl (rd_pick_t rfl rfl) <| gl_nil <| gx_then <| gc_cond_t rfl <| gc_seq <| gc_region <| gl_op <| op_rd rfl (rd_assign rfl) <| gl_nil <| gx_then <| gc_ret <| gx_then_ret <| gx_ret1 (.inl rfl) Tryz.results67 rfl [0, 1] (by decide) ?_
      refine ⟨congrArg (Value.int .i64) (Eq.symm ?_), rfl⟩
      unfold rkE
      rw [if_neg (by omega)]
      rw [if_neg (by unfold rkArg; rw [hft]; simp only [withinB] at hw15; simp at hw15 ⊢; omega)]
      rw [if_pos]
      unfold rkBad
      try simp only [withinB] at *
      simp only [Bool.not_eq_true', Bool.not_eq_false', Bool.and_eq_false_iff, Bool.and_eq_true, decide_eq_true_eq, decide_eq_false_iff_not] at *
      omega
    refine gl_yes rfl rfl <| op_rd rfl (rd_not rfl) <| gl_op <| op_rd rfl (rd_pick_f rfl rfl) <| gl_nil <| gx_then <| gc_cond_t rfl <| gc_seq <| gc_region <| gl_op <| op_rd rfl (rd_assign rfl) <| gl_nil <| gx_then <| gc_ret <| gx_then_ret <| gx_ret1 (.inl rfl) Tryz.results67 rfl [0, 1] (by decide) ?_
    refine ⟨congrArg (Value.int .i64) (Eq.symm ?_), rfl⟩
    unfold rkE
    rw [if_neg (by omega)]
    rw [if_pos]
    unfold rkArg
    try simp only [withinB] at *
    cases hfb : feetB r.num r.den <;> simp_all <;> omega
  refine gl_op <| op_rd rfl (rd_not rfl) <| gl_op <| op_rd rfl (rd_move rfl) <| gl_no rfl rfl rfl <| gl_no rfl rfl rfl <| gl_no rfl rfl rfl <| gl_no rfl rfl rfl <| gl_op <| op_rd rfl (rd_pick_t rfl rfl) <| gl_nil <| gx_then <| gc_cond_t rfl <| gc_seq <| gc_region <| gl_op <| op_rd rfl (rd_assign rfl) <| gl_nil <| gx_then <| gc_ret <| gx_then_ret <| gx_ret1 (.inl rfl) Tryz.results67 rfl [0, 1] (by decide) ?_
  refine ⟨congrArg (Value.int .i64) (Eq.symm ?_), rfl⟩
  unfold rkE
  rw [if_neg (by omega)]
  rw [if_pos]
  unfold rkArg
  try simp only [withinB] at *
  cases hfb : feetB r.num r.den <;> simp_all <;> omega
set_option maxRecDepth 100000 in
set_option maxHeartbeats 1000000 in
theorem stop_ok (s : Org) (cb mb : Nat) (K : List ByteArray) (x : St) (hz : x.name.size ≤ 140737488355328) (hsd : s.ds.length ≤ 6) (w0 : World) (hown : Own w0 [cb, mb] w0 [CB s cb mb, OB mb K]) : Sp Tryz.prog 68 [.pointer (some ⟨cb, 0, none⟩), x.val] w0 [cb, mb] (RC s cb mb (stE s.ds.length K x) (stK s.ds.length K x)) := by
  unfold CB OB at hown
  refine spec_enter Tryz.func68 rfl Tryz.ntmps68 rfl hown ?_
  simp only [argEnv]
  refine gc_seq <| gc_region <| gl_op (op_box rfl rfl rfl (fun b3 => ?_))
  refine gl_op <| op_rd rfl (rd_assign rfl) <| gl_nil <| gx_then <| gc_seq <| gc_block <| gc_seq <| gc_region <| gl_op <| op_rd rfl (rd_fieldAddr rfl (fa_56_0 _)) <| gl_op (op_rd rfl (rd_load Tryz.underlying9 rfl rfl (by exact ld_blk 0 rfl rfl)) ?_)
  refine gl_op (op_call rfl (vf := []) (vc := []) rfl rfl Tryz.call85 (fun w1 ho => Name_ok x.name hz w1) ?_)
  rintro _ _ ⟨rfl, rfl⟩
  refine gk_bool (fun hnm => ?_) (fun hnm => ?_)
  · refine gl_op <| op_rd rfl (rd_not rfl) <| gl_op <| op_rd rfl (rd_assign rfl) <| gl_nil <| gx_then <| gc_cond_f rfl <| gc_seq <| gc_drawP [0, 1, 2] true 11 rfl <| ga_first 0 (bm 12 1) rfl rfl rfl rfl (by kernel_rfl) (by kernel_rfl) ⟨[0, 1, 2], by decide, rfl⟩ (qt_rd (rd_fieldAddr rfl (fa_56_1 _))) ?_
    refine ga_first 1 (bm 12 3) rfl rfl rfl rfl (by kernel_rfl) (by kernel_rfl) ⟨[0, 1, 2], by decide, rfl⟩ (qt_rd (rd_load Tryz.underlying3 rfl rfl (by exact ld_blk 0 rfl rfl))) ?_
    refine ga_first 2 (bm 12 7) rfl rfl rfl rfl (by kernel_rfl) (by kernel_rfl) ⟨[0, 1, 2], by decide, rfl⟩ (qt_rd (rd_move rfl)) ?_
    refine ga_first 3 (bm 12 15) rfl rfl rfl rfl (by kernel_rfl) (by kernel_rfl) ⟨[0, 1, 2], by decide, rfl⟩ (qt_rd (rd_nilCheck rfl)) ?_
    refine ga_first 4 (bm 12 31) rfl rfl rfl rfl (by kernel_rfl) (by kernel_rfl) ⟨[0, 1, 2], by decide, rfl⟩ (qt_rd (rd_fieldAddr rfl (fa_138_0 _))) ?_
    refine ga_first 5 (bm 12 63) rfl rfl rfl rfl (by kernel_rfl) (by kernel_rfl) ⟨[0, 1, 2], by decide, rfl⟩ (qt_rd (rd_fieldAddr rfl (fa_27_0 _))) ?_
    refine ga_first 6 (bm 12 127) rfl rfl rfl rfl (by kernel_rfl) (by kernel_rfl) ⟨[0, 1, 2], by decide, rfl⟩ (qt_rd (rd_load Tryz.underlying22 rfl rfl (by exact ld_blk 1 rfl rfl))) ?_
    refine ga_first 7 (bm 12 255) rfl rfl rfl rfl (by kernel_rfl) (by kernel_rfl) ⟨[0, 1, 2], by decide, rfl⟩ (qt_rd (rd_lenSlice Tryz.underlying22 rfl)) ?_
    refine ga_first 8 (bm 12 511) rfl rfl rfl rfl (by kernel_rfl) (by kernel_rfl) ⟨[0, 1, 2], by decide, rfl⟩ (qt_rd (by exact rd_sub rfl rfl (by omega) (by omega))) ?_
    refine ga_first 9 (bm 12 1023) rfl rfl rfl rfl (by kernel_rfl) (by kernel_rfl) ⟨[0, 1, 2], by decide, rfl⟩ (qt_call (vf := []) (vc := []) rfl rfl Tryz.call83 (fun w1 ho => within_ok _ _ _ w1) (by rintro _ _ ⟨h, _⟩; exact h)) ?_
    refine gk_bool (fun hw21 => ?_) (fun hw21 => ?_)
    · replace hw21 : idxB x.div s.ds.length = true := by
        unfold idxB; unfold withinB at hw21; rw [Bool.eq_iff_iff] at hw21 ⊢; simp at hw21 ⊢; omega
      have hix := hw21
      have hdl : 0 ≤ x.div ∧ x.div < s.ds.length := by unfold idxB at hix; simpa using hix
      refine ga_first 10 (bm 12 2047) rfl rfl rfl rfl (by kernel_rfl) (by kernel_rfl) ⟨[0, 1, 2], by decide, rfl⟩ (qt_rd (rd_not rfl)) ?_
      refine ga_first 11 (bm 12 4095) rfl rfl rfl rfl (by kernel_rfl) (by kernel_rfl) ⟨[0, 1, 2], by decide, rfl⟩ (qt_rd (rd_assign rfl)) ?_
      refine ga_end (by kernel_rfl) (.inr ⟨[0, 1, 2], by decide, rfl⟩) ?_
      refine gx_then <| gc_cond_f rfl <| gc_skip <| gx_block <| gx_then <| gc_seq <| gc_seq <| gc_drawP [0] true 8 rfl <| ga_first 0 (bm 9 1) rfl rfl rfl rfl (by kernel_rfl) (by kernel_rfl) ⟨[0], by decide, rfl⟩ (qt_rd (rd_move rfl)) ?_
      refine ga_first 1 (bm 9 3) rfl rfl rfl rfl (by kernel_rfl) (by kernel_rfl) ⟨[0], by decide, rfl⟩ (qt_rd (rd_fieldAddr rfl (fa_56_1 _))) ?_
      refine ga_first 2 (bm 9 7) rfl rfl rfl rfl (by kernel_rfl) (by kernel_rfl) ⟨[0], by decide, rfl⟩ (qt_rd (rd_load Tryz.underlying3 rfl rfl (by exact ld_blk 0 rfl rfl))) ?_
      refine ga_first 3 (bm 9 15) rfl rfl rfl rfl (by kernel_rfl) (by kernel_rfl) ⟨[0], by decide, rfl⟩ (qt_call (vf := []) (vc := []) rfl rfl Tryz.call86 (fun w1 ho => DigitsI_ok x.div (by omega) (by omega) w1) (by rintro _ _ ⟨h, _⟩; exact h)) ?_
      refine ga_first 4 (bm 9 31) rfl rfl rfl rfl (by kernel_rfl) (by kernel_rfl) ⟨[0], by decide, rfl⟩ (qt_rd (rd_addStr Tryz.underlying9 rfl rfl (by have := decS_le x.div.toNat (by omega); show 5 + (decS x.div.toNat).size ≤ _; omega))) ?_
      refine ga_first 5 (bm 9 63) rfl rfl rfl rfl (by kernel_rfl) (by kernel_rfl) ⟨[0], by decide, rfl⟩ (qt_rd (rd_fieldAddr rfl (fa_56_0 _))) ?_
      refine ga_first 6 (bm 9 127) rfl rfl rfl rfl (by kernel_rfl) (by kernel_rfl) ⟨[0], by decide, rfl⟩ (qt_rd (rd_load Tryz.underlying9 rfl rfl (by exact ld_blk 0 rfl rfl))) ?_
      refine ga_only 7 (bm 9 255) rfl rfl (by kernel_rfl) (by kernel_rfl) (.inr ⟨[0], by decide, rfl⟩) (op_callM [1, 2] [0] rfl (vf := []) (vc := []) rfl rfl Tryz.call82 (by decide) rfl (fun w how hc => named_ok s cb mb K (kStop ++ decS x.div.toNat) x.name (stop_size x.div.toNat (by omega)) hz w hc) ?_)
      rintro _ _ ⟨rfl, rfl⟩
      refine ga_first 8 (bm 9 511) rfl rfl rfl rfl (by kernel_rfl) (by kernel_rfl) ⟨[2], by decide, rfl⟩ (qt_rd (rd_assign rfl)) ?_
      refine ga_end (by kernel_rfl) (.inr ⟨[2], by decide, rfl⟩) ?_
      refine gx_then <| gc_seq <| gc_region <| gl_op <| op_rd rfl (rd_move rfl) <| gl_op (op_rd rfl (rd_neq rfl rfl) (gk_dec (fun hn2 => ?_) (fun hn2 => ?_)))
      · refine gl_nil <| gx_then <| gc_cond_t rfl <| gc_seq <| gc_region <| gl_op <| op_rd rfl (rd_move rfl) <| gl_op <| op_rd rfl (rd_assign rfl) <| gl_nil <| gx_then <| gc_ret <| gx_then_ret <| gx_ret1 (.inl rfl) Tryz.results68 rfl [0, 1] (by decide) ?_
        have he : stE s.ds.length K x = namedP K (kStop ++ decS x.div.toNat) x.name := by unfold stE; rw [if_neg (by rw [hnm]; decide), if_neg (by rw [hix]; decide), if_pos hn2]
        have hk : stK s.ds.length K x = namedK K (kStop ++ decS x.div.toNat) x.name := by unfold stK; rw [if_neg (by rw [hnm, hix]; decide)]
        rw [he, hk]
        exact ⟨rfl, rfl⟩
      refine gl_nil <| gx_then <| gc_cond_f rfl <| gc_skip <| gx_then <| gc_seq <| gc_block <| gc_seq <| gc_region <| gl_op <| op_rd rfl (rd_fieldAddr rfl (fa_56_2 _)) <| gl_op (op_rd rfl (rd_loadAgg Tryz.underlying51 rfl ty_51 rfl (by exact cs_blk 2 (off := 2) (k := 2) rfl rfl) rfl) ?_)
      refine gl_op (op_call rfl (vf := []) (vc := []) rfl rfl Tryz.call84 (fun w1 ho => footage_ok x.num x.den w1) ?_)
      rintro _ _ ⟨rfl, rfl⟩
      refine gk_bool (fun hft => ?_) (fun hft => ?_)
      · refine gl_op <| op_rd rfl (rd_not rfl) <| gl_op <| op_rd rfl (rd_move rfl) <| gl_yes rfl rfl <| op_rd rfl (rd_fieldAddr rfl (fa_56_3 _)) <| gl_yes rfl rfl (op_rd rfl (rd_load Tryz.underlying54 rfl rfl (by exact ld_blk 2 rfl rfl)) ?_)
        refine gl_yes rfl rfl <| op_rd rfl (rd_lenSlice Tryz.underlying54 rfl) <| gl_yes rfl rfl (op_rd rfl (rd_eql rfl rfl) (gk_dec (fun h43 => ?_) (fun h43 => ?_)))
        · refine gl_op <| op_rd rfl (rd_pick_f rfl rfl) <| gl_op <| op_rd rfl (rd_assign rfl) <| gl_nil <| gx_then <| gc_cond_t rfl <| gc_seq <| gc_region <| gl_op <| op_rd rfl (rd_assign rfl) <| gl_nil <| gx_then <| gc_ret <| gx_block_ret <| gx_then_ret <| gx_ret1 (.inl rfl) Tryz.results68 rfl [0, 1] (by decide) ?_
          have he : stE s.ds.length K x = 2 := by unfold stE; rw [if_neg (by rw [hnm]; decide), if_neg (by rw [hix]; decide), if_neg hn2, if_pos]; rw [hft, decide_eq_true (show x.ps.length = 0 by omega)]; rfl
          have hk : stK s.ds.length K x = namedK K (kStop ++ decS x.div.toNat) x.name := by unfold stK; rw [if_neg (by rw [hnm, hix]; decide)]
          rw [he, hk]
          exact ⟨rfl, rfl⟩
        refine gl_op <| op_rd rfl (rd_pick_f rfl rfl) <| gl_op <| op_rd rfl (rd_assign rfl) <| gl_nil <| gx_then <| gc_cond_f rfl <| gc_seq <| gc_region <| gl_op <| op_rd rfl (rd_fieldAddr rfl (fa_56_3 _)) <| gl_op (op_rd rfl (rd_load Tryz.underlying54 rfl rfl (by exact ld_blk 2 rfl rfl)) ?_)
        refine gl_op <| op_rd rfl (rd_lenSlice Tryz.underlying54 rfl) <| gl_op (op_rd rfl (rd_gtr rfl rfl) (gk_dec (fun h49 => ?_) (fun h49 => ?_)))
        · refine gl_op <| op_rd rfl (rd_assign rfl) <| gl_nil <| gx_then <| gc_cond_t rfl <| gc_seq <| gc_region <| gl_op <| op_rd rfl (rd_assign rfl) <| gl_nil <| gx_then <| gc_ret <| gx_block_ret <| gx_then_ret <| gx_ret1 (.inl rfl) Tryz.results68 rfl [0, 1] (by decide) ?_
          have he : stE s.ds.length K x = 3 := by unfold stE; rw [if_neg (by rw [hnm]; decide), if_neg (by rw [hix]; decide), if_neg hn2, if_neg (by rw [hft, decide_eq_false (show ¬ x.ps.length = 0 by omega)]; decide), if_pos (decide_eq_true (by omega))]
          have hk : stK s.ds.length K x = namedK K (kStop ++ decS x.div.toNat) x.name := by unfold stK; rw [if_neg (by rw [hnm, hix]; decide)]
          rw [he, hk]
          exact ⟨rfl, rfl⟩
        refine gl_op <| op_rd rfl (rd_assign rfl) <| gl_nil <| gx_then <| gc_cond_f rfl <| gc_skip <| gx_block <| gx_then <| gc_seq <| gc_region <| gl_op <| op_rd rfl (rd_assign rfl) <| gl_nil <| gx_then <| gc_ret <| gx_ret1 (.inl rfl) Tryz.results68 rfl [0, 1] (by decide) ?_
        have he : stE s.ds.length K x = 0 := by unfold stE; rw [if_neg (by rw [hnm]; decide), if_neg (by rw [hix]; decide), if_neg hn2, if_neg (by rw [hft, decide_eq_false (show ¬ x.ps.length = 0 by omega)]; decide), if_neg (by rw [decide_eq_false (show ¬ 12 < x.ps.length by omega)]; decide)]
        have hk : stK s.ds.length K x = namedK K (kStop ++ decS x.div.toNat) x.name := by unfold stK; rw [if_neg (by rw [hnm, hix]; decide)]
        rw [he, hk]
        exact ⟨rfl, rfl⟩
      refine gl_op <| op_rd rfl (rd_not rfl) <| gl_op <| op_rd rfl (rd_move rfl) <| gl_no rfl rfl rfl <| gl_no rfl rfl rfl <| gl_no rfl rfl rfl <| gl_no rfl rfl rfl <| gl_op <| op_rd rfl (rd_pick_t rfl rfl) <| gl_op <| op_rd rfl (rd_assign rfl) <| gl_nil <| gx_then <| gc_cond_t rfl <| gc_seq <| gc_region <| gl_op <| op_rd rfl (rd_assign rfl) <| gl_nil <| gx_then <| gc_ret <| gx_block_ret <| gx_then_ret <| gx_ret1 (.inl rfl) Tryz.results68 rfl [0, 1] (by decide) ?_
      have he : stE s.ds.length K x = 2 := by unfold stE; rw [if_neg (by rw [hnm]; decide), if_neg (by rw [hix]; decide), if_neg hn2, if_pos]; rw [hft]; rfl
      have hk : stK s.ds.length K x = namedK K (kStop ++ decS x.div.toNat) x.name := by unfold stK; rw [if_neg (by rw [hnm, hix]; decide)]
      rw [he, hk]
      exact ⟨rfl, rfl⟩
    replace hw21 : idxB x.div s.ds.length = false := by
      unfold idxB; unfold withinB at hw21; rw [Bool.eq_iff_iff] at hw21 ⊢; simp at hw21 ⊢; omega
    have hix := hw21
    refine ga_first 10 (bm 12 2047) rfl rfl rfl rfl (by kernel_rfl) (by kernel_rfl) ⟨[0, 1, 2], by decide, rfl⟩ (qt_rd (rd_not rfl)) ?_
    refine ga_first 11 (bm 12 4095) rfl rfl rfl rfl (by kernel_rfl) (by kernel_rfl) ⟨[0, 1, 2], by decide, rfl⟩ (qt_rd (rd_assign rfl)) ?_
    refine ga_end (by kernel_rfl) (.inr ⟨[0, 1, 2], by decide, rfl⟩) ?_
    refine gx_then <| gc_cond_t rfl <| gc_seq <| gc_region <| gl_op <| op_rd rfl (rd_assign rfl) <| gl_nil <| gx_then <| gc_ret <| gx_block_ret <| gx_then_ret <| gx_ret1 (.inl rfl) Tryz.results68 rfl [1, 2] (by decide) ?_
    have he : stE s.ds.length K x = 4 := by unfold stE; rw [if_neg (by rw [hnm]; decide), if_pos hix]
    have hk : stK s.ds.length K x = K := by unfold stK; rw [if_pos (.inr hix)]
    rw [he, hk]
    exact ⟨rfl, rfl⟩
  refine gl_op <| op_rd rfl (rd_not rfl) <| gl_op <| op_rd rfl (rd_assign rfl) <| gl_nil <| gx_then <| gc_cond_t rfl <| gc_seq <| gc_region <| gl_op <| op_rd rfl (rd_assign rfl) <| gl_nil <| gx_then <| gc_ret <| gx_block_ret <| gx_then_ret <| gx_ret1 (.inl rfl) Tryz.results68 rfl [1, 2] (by decide) ?_
  have he : stE s.ds.length K x = 6 := by unfold stE; rw [if_pos hnm]
  have hk : stK s.ds.length K x = K := by unfold stK; rw [if_pos (.inl hnm)]
  rw [he, hk]
  exact ⟨rfl, rfl⟩
end Go.Proofs.YtbjijbbkfgcleaaGreatDoor
namespace Go.Proofs.YtbjijbbkfgcleaaGreatDoor
open Go.Gv
open Go.RowKit
open Go.Sn
open Sx
set_option maxRecDepth 100000 in
set_option maxHeartbeats 1000000 in
theorem coupler_ok (s : Org) (cb mb : Nat) (K : List ByteArray) (x : Cp) (hz : x.name.size ≤ 140737488355328) (hsd : s.ds.length ≤ 6) (w0 : World) (hown : Own w0 [cb, mb] w0 [CB s cb mb, OB mb K]) : Sp Tryz.prog 73 [.pointer (some ⟨cb, 0, none⟩), x.val] w0 [cb, mb] (RC s cb mb (cpE s.ds.length K x) (cpK K x)) := by
  unfold CB OB at hown
  refine spec_enter Tryz.func73 rfl Tryz.ntmps73 rfl hown ?_
  simp only [argEnv]
  refine gc_seq <| gc_region <| gl_op (op_box rfl rfl rfl (fun b3 => ?_))
  refine gl_op <| op_rd rfl (rd_assign rfl) <| gl_nil <| gx_then <| gc_seq <| gc_seq <| gc_region <| gl_op <| op_rd rfl (rd_move rfl) <| gl_op <| op_rd rfl (rd_fieldAddr rfl (fa_58_0 _)) <| gl_op (op_rd rfl (rd_load Tryz.underlying9 rfl rfl (by exact ld_blk 0 rfl rfl)) ?_)
  refine gl_op (op_callM [1, 2] [0] rfl (vf := []) (vc := []) rfl rfl Tryz.call82 (by decide) rfl (fun w how hc => named_ok s cb mb K kCoup x.name (by decide) hz w hc) ?_)
  rintro _ _ ⟨rfl, rfl⟩
  refine gl_op <| op_rd rfl (rd_assign rfl) <| gl_nil <| gx_then <| gc_seq <| gc_region <| gl_op <| op_rd rfl (rd_move rfl) <| gl_op (op_rd rfl (rd_neq rfl rfl) (gk_dec (fun hnm => ?_) (fun hnm => ?_)))
  · refine gl_nil <| gx_then <| gc_cond_t rfl <| gc_seq <| gc_region <| gl_op <| op_rd rfl (rd_move rfl) <| gl_op <| op_rd rfl (rd_assign rfl) <| gl_nil <| gx_then <| gc_ret <| gx_then_ret <| gx_ret1 (.inl rfl) Tryz.results73 rfl [0, 1] (by decide) ?_
    refine ⟨congrArg (Value.int .i64) (Eq.symm ?_), rfl⟩
    unfold cpE
    rw [if_pos hnm]
  refine gl_nil <| gx_then <| gc_cond_f rfl <| gc_skip <| gx_then <| gc_seq <| gc_region <| gl_op <| op_rd rfl (rd_move rfl) <| gl_op <| op_rd rfl (rd_nilCheck rfl) <| gl_op <| op_rd rfl (rd_fieldAddr rfl (fa_138_0 _)) <| gl_op <| op_rd rfl (rd_fieldAddr rfl (fa_27_0 _)) <| gl_op (op_rd rfl (rd_load Tryz.underlying22 rfl rfl (by exact ld_blk 0 rfl rfl)) ?_)
  refine gl_op <| op_rd rfl (rd_lenSlice Tryz.underlying22 rfl) <| gl_op (op_rd rfl (by exact rd_sub rfl rfl (by omega) (by omega)) ?_)
  refine gl_op <| op_rd rfl (rd_assign rfl) <| gl_nil <| gx_then <| gc_seq <| gc_seq <| gc_region <| gl_op <| op_rd rfl (rd_fieldAddr rfl (fa_58_1 _)) <| gl_op (op_rd rfl (rd_load Tryz.underlying3 rfl rfl (by exact ld_blk 2 rfl rfl)) ?_)
  refine gl_op <| op_rd rfl (rd_move rfl) <| gl_op (op_call rfl (vf := []) (vc := []) rfl rfl Tryz.call83 (fun w1 ho => within_ok _ _ _ w1) ?_)
  rintro _ _ ⟨rfl, rfl⟩
  refine gk_bool (fun hw25 => ?_) (fun hw25 => ?_)
  · replace hw25 : idxB x.src s.ds.length = true := by
      unfold idxB; unfold withinB at hw25; rw [Bool.eq_iff_iff] at hw25 ⊢; simp at hw25 ⊢; omega
    refine gl_op <| op_rd rfl (rd_not rfl) <| gl_op <| op_rd rfl (rd_move rfl) <| gl_yes rfl rfl <| op_rd rfl (rd_fieldAddr rfl (fa_58_2 _)) <| gl_yes rfl rfl (op_rd rfl (rd_load Tryz.underlying3 rfl rfl (by exact ld_blk 2 rfl rfl)) ?_)
    refine gl_yes rfl rfl <| op_rd rfl (rd_move rfl) <| gl_yes rfl rfl (op_call rfl (vf := []) (vc := []) rfl rfl Tryz.call83 (fun w1 ho => within_ok _ _ _ w1) ?_)
    rintro _ _ ⟨rfl, rfl⟩
    refine gk_bool (fun hw31 => ?_) (fun hw31 => ?_)
    · replace hw31 : idxB x.dst s.ds.length = true := by
        unfold idxB; unfold withinB at hw31; rw [Bool.eq_iff_iff] at hw31 ⊢; simp at hw31 ⊢; omega
      refine gl_yes rfl rfl <| op_rd rfl (rd_not rfl) <| gl_op <| op_rd rfl (rd_pick_f rfl rfl) <| gl_nil <| gx_then <| gc_cond_f rfl <| gc_skip <| gx_then <| gc_seq <| gc_region <| gl_op <| op_rd rfl (rd_fieldAddr rfl (fa_58_3 _)) <| gl_op (op_rd rfl (rd_load Tryz.underlying3 rfl rfl (by exact ld_blk 2 rfl rfl)) ?_)
      refine gl_op (op_rd rfl (rd_eql rfl rfl) (gk_dec (fun h36 => ?_) (fun h36 => ?_)))
      · refine gl_op <| op_rd rfl (rd_move rfl) <| gl_no rfl rfl rfl <| gl_no rfl rfl rfl <| gl_no rfl rfl rfl <| gl_op <| op_rd rfl (rd_pick_t rfl rfl) <| gl_op <| op_rd rfl (rd_move rfl) <| gl_no rfl rfl rfl <| gl_no rfl rfl rfl <| gl_no rfl rfl rfl <| gl_no rfl rfl rfl <| gl_noU rfl rfl rfl <| gl_noU rfl rfl rfl <| gl_noU rfl rfl rfl <| gl_noU rfl rfl rfl <| gl_noU rfl rfl rfl <| gl_no rfl rfl rfl <| gl_op <| op_rd rfl (rd_pick_t rfl rfl) <| gl_op <| op_rd rfl (rd_assign rfl) <| gl_nil <| gx_then <| gc_seq <| gc_seq <| gc_region <| gl_op <| op_rd rfl (rd_move rfl) <| gl_op <| op_rd rfl (rd_not rfl) ?_
        refine gl_op <| op_rd rfl (rd_move rfl) <| gl_yes rfl rfl <| op_rd rfl (rd_fieldAddr rfl (fa_58_4 _)) <| gl_yes rfl rfl (op_rd rfl (rd_load Tryz.underlying3 rfl rfl (by exact ld_blk 2 rfl rfl)) ?_)
        refine gl_yes rfl rfl (op_call rfl (vf := []) (vc := []) rfl rfl Tryz.call83 (fun w1 ho => within_ok _ _ _ w1) ?_)
        rintro _ _ ⟨rfl, rfl⟩
        refine gk_bool (fun hw59 => ?_) (fun hw59 => ?_)
        · refine gl_yes rfl rfl <| op_rd rfl (rd_not rfl) <| gl_op <| op_rd rfl (rd_pick_f rfl rfl) <| gl_op <| op_rd rfl (rd_move rfl) <| gl_yes rfl rfl <| op_rd rfl (rd_fieldAddr rfl (fa_58_5 _)) <| gl_yes rfl rfl (op_rd rfl (rd_load Tryz.underlying4 rfl rfl (by exact ld_blk 2 rfl rfl)) ?_)
          refine gk_bool (fun h64 => ?_) (fun h64 => ?_)
          · refine gl_yes rfl rfl <| op_rd rfl (rd_move rfl) <| gl_yes rfl rfl <| op_rd rfl (rd_fieldAddr rfl (fa_58_4 _)) <| gl_yes rfl rfl (op_rd rfl (rd_load Tryz.underlying3 rfl rfl (by exact ld_blk 2 rfl rfl)) ?_)
            refine gl_yes rfl rfl (op_rd rfl (rd_neq rfl rfl) (gk_dec (fun h68 => ?_) (fun h68 => ?_)))
            · refine gl_yes rfl rfl <| op_rd rfl (rd_pick_t rfl rfl) <| gl_op <| op_rd rfl (rd_pick_f rfl rfl) <| gl_nil <| gx_then <| gc_cond_t rfl <| gc_seq <| gc_region <| gl_op <| op_rd rfl (rd_assign rfl) <| gl_nil <| gx_then <| gc_ret <| gx_then_ret <| gx_ret1 (.inl rfl) Tryz.results73 rfl [0, 1] (by decide) ?_
              refine ⟨congrArg (Value.int .i64) (Eq.symm ?_), rfl⟩
              unfold cpE
              rw [if_neg (by omega)]
              rw [if_neg (by simp [*])]
              rw [if_pos]
              (simp [cpArg, *]; done)
            refine gl_yes rfl rfl <| op_rd rfl (rd_pick_t rfl rfl) <| gl_op <| op_rd rfl (rd_pick_f rfl rfl) <| gl_nil <| gx_then <| gc_cond_f rfl <| gc_skip <| gx_then <| gc_seq <| gc_region <| gl_op <| op_rd rfl (rd_assign rfl) <| gl_nil <| gx_then <| gc_ret <| gx_ret1 (.inl rfl) Tryz.results73 rfl [0, 1] (by decide) ?_
            refine ⟨congrArg (Value.int .i64) (Eq.symm ?_), rfl⟩
            unfold cpE
            rw [if_neg (by omega)]
            rw [if_neg (by simp [*])]
            rw [if_neg]
            rw [Bool.not_eq_true]
            (simp only [withinB] at *; unfold cpArg; simp at *; omega)
          refine gl_yes rfl rfl <| op_rd rfl (rd_move rfl) <| gl_no rfl rfl rfl <| gl_no rfl rfl rfl <| gl_no rfl rfl rfl <| gl_yes rfl rfl <| op_rd rfl (rd_pick_f rfl rfl) <| gl_op <| op_rd rfl (rd_pick_f rfl rfl) <| gl_nil <| gx_then <| gc_cond_f rfl <| gc_skip <| gx_then <| gc_seq <| gc_region <| gl_op <| op_rd rfl (rd_assign rfl) <| gl_nil <| gx_then <| gc_ret <| gx_ret1 (.inl rfl) Tryz.results73 rfl [0, 1] (by decide) ?_
          refine ⟨congrArg (Value.int .i64) (Eq.symm ?_), rfl⟩
          unfold cpE
          rw [if_neg (by omega)]
          rw [if_neg (by simp [*])]
          rw [if_neg]
          rw [Bool.not_eq_true]
          (simp only [withinB] at *; unfold cpArg; rw [h64]; clear h64; simp at *; omega)
        refine gl_yes rfl rfl <| op_rd rfl (rd_not rfl) <| gl_op <| op_rd rfl (rd_pick_f rfl rfl) <| gl_op <| op_rd rfl (rd_move rfl) <| gl_no rfl rfl rfl <| gl_no rfl rfl rfl <| gl_no rfl rfl rfl <| gl_noU rfl rfl rfl <| gl_noU rfl rfl rfl <| gl_noU rfl rfl rfl <| gl_no rfl rfl rfl <| gl_op <| op_rd rfl (rd_pick_t rfl rfl) <| gl_nil <| gx_then <| gc_cond_t rfl <| gc_seq <| gc_region <| gl_op <| op_rd rfl (rd_assign rfl) <| gl_nil <| gx_then <| gc_ret <| gx_then_ret <| gx_ret1 (.inl rfl) Tryz.results73 rfl [0, 1] (by decide) ?_
        refine ⟨congrArg (Value.int .i64) (Eq.symm ?_), rfl⟩
        unfold cpE
        rw [if_neg (by omega)]
        rw [if_neg (by simp [*])]
        rw [if_pos]
        (simp only [withinB] at *; unfold cpArg; simp at *; omega)
      refine gl_op <| op_rd rfl (rd_move rfl) <| gl_yes rfl rfl <| op_rd rfl (rd_fieldAddr rfl (fa_58_3 _)) <| gl_yes rfl rfl (op_rd rfl (rd_load Tryz.underlying3 rfl rfl (by exact ld_blk 2 rfl rfl)) ?_)
      refine gl_yes rfl rfl (op_rd rfl (rd_eql rfl rfl) (gk_dec (fun h40 => ?_) (fun h40 => ?_)))
      · refine gl_op <| op_rd rfl (rd_pick_f rfl rfl) <| gl_op <| op_rd rfl (rd_move rfl) <| gl_no rfl rfl rfl <| gl_no rfl rfl rfl <| gl_no rfl rfl rfl <| gl_no rfl rfl rfl <| gl_noU rfl rfl rfl <| gl_noU rfl rfl rfl <| gl_noU rfl rfl rfl <| gl_noU rfl rfl rfl <| gl_noU rfl rfl rfl <| gl_no rfl rfl rfl <| gl_op <| op_rd rfl (rd_pick_t rfl rfl) <| gl_op <| op_rd rfl (rd_assign rfl) <| gl_nil <| gx_then <| gc_seq <| gc_seq <| gc_region <| gl_op <| op_rd rfl (rd_move rfl) <| gl_op <| op_rd rfl (rd_not rfl) <| gl_op <| op_rd rfl (rd_move rfl) <| gl_yes rfl rfl <| op_rd rfl (rd_fieldAddr rfl (fa_58_4 _)) <| gl_yes rfl rfl (op_rd rfl (rd_load Tryz.underlying3 rfl rfl (by exact ld_blk 2 rfl rfl)) ?_)
        refine gl_yes rfl rfl (op_call rfl (vf := []) (vc := []) rfl rfl Tryz.call83 (fun w1 ho => within_ok _ _ _ w1) ?_)
        rintro _ _ ⟨rfl, rfl⟩
        refine gk_bool (fun hw59 => ?_) (fun hw59 => ?_)
        · refine gl_yes rfl rfl <| op_rd rfl (rd_not rfl) <| gl_op <| op_rd rfl (rd_pick_f rfl rfl) <| gl_op <| op_rd rfl (rd_move rfl) <| gl_yes rfl rfl <| op_rd rfl (rd_fieldAddr rfl (fa_58_5 _)) <| gl_yes rfl rfl (op_rd rfl (rd_load Tryz.underlying4 rfl rfl (by exact ld_blk 2 rfl rfl)) ?_)
          refine gk_bool (fun h64 => ?_) (fun h64 => ?_)
          · refine gl_yes rfl rfl <| op_rd rfl (rd_move rfl) <| gl_yes rfl rfl <| op_rd rfl (rd_fieldAddr rfl (fa_58_4 _)) <| gl_yes rfl rfl (op_rd rfl (rd_load Tryz.underlying3 rfl rfl (by exact ld_blk 2 rfl rfl)) ?_)
            refine gl_yes rfl rfl (op_rd rfl (rd_neq rfl rfl) (gk_dec (fun h68 => ?_) (fun h68 => ?_)))
            · refine gl_yes rfl rfl <| op_rd rfl (rd_pick_t rfl rfl) <| gl_op <| op_rd rfl (rd_pick_f rfl rfl) <| gl_nil <| gx_then <| gc_cond_t rfl <| gc_seq <| gc_region <| gl_op <| op_rd rfl (rd_assign rfl) <| gl_nil <| gx_then <| gc_ret <| gx_then_ret <| gx_ret1 (.inl rfl) Tryz.results73 rfl [0, 1] (by decide) ?_
              refine ⟨congrArg (Value.int .i64) (Eq.symm ?_), rfl⟩
              unfold cpE
              rw [if_neg (by omega)]
              rw [if_neg (by simp [*])]
              rw [if_pos]
              (simp [cpArg, *]; done)
            refine gl_yes rfl rfl <| op_rd rfl (rd_pick_t rfl rfl) <| gl_op <| op_rd rfl (rd_pick_f rfl rfl) <| gl_nil <| gx_then <| gc_cond_f rfl <| gc_skip <| gx_then <| gc_seq <| gc_region <| gl_op <| op_rd rfl (rd_assign rfl) <| gl_nil <| gx_then <| gc_ret <| gx_ret1 (.inl rfl) Tryz.results73 rfl [0, 1] (by decide) ?_
            refine ⟨congrArg (Value.int .i64) (Eq.symm ?_), rfl⟩
            unfold cpE
            rw [if_neg (by omega)]
            rw [if_neg (by simp [*])]
            rw [if_neg]
            rw [Bool.not_eq_true]
            (simp only [withinB] at *; unfold cpArg; simp at *; omega)
          refine gl_yes rfl rfl <| op_rd rfl (rd_move rfl) <| gl_no rfl rfl rfl <| gl_no rfl rfl rfl <| gl_no rfl rfl rfl <| gl_yes rfl rfl <| op_rd rfl (rd_pick_f rfl rfl) <| gl_op <| op_rd rfl (rd_pick_f rfl rfl) <| gl_nil <| gx_then <| gc_cond_f rfl <| gc_skip <| gx_then <| gc_seq <| gc_region <| gl_op <| op_rd rfl (rd_assign rfl) <| gl_nil <| gx_then <| gc_ret <| gx_ret1 (.inl rfl) Tryz.results73 rfl [0, 1] (by decide) ?_
          refine ⟨congrArg (Value.int .i64) (Eq.symm ?_), rfl⟩
          unfold cpE
          rw [if_neg (by omega)]
          rw [if_neg (by simp [*])]
          rw [if_neg]
          rw [Bool.not_eq_true]
          (simp only [withinB] at *; unfold cpArg; rw [h64]; clear h64; simp at *; omega)
        refine gl_yes rfl rfl <| op_rd rfl (rd_not rfl) <| gl_op <| op_rd rfl (rd_pick_f rfl rfl) <| gl_op <| op_rd rfl (rd_move rfl) <| gl_no rfl rfl rfl <| gl_no rfl rfl rfl <| gl_no rfl rfl rfl <| gl_noU rfl rfl rfl <| gl_noU rfl rfl rfl <| gl_noU rfl rfl rfl <| gl_no rfl rfl rfl <| gl_op <| op_rd rfl (rd_pick_t rfl rfl) <| gl_nil <| gx_then <| gc_cond_t rfl <| gc_seq <| gc_region <| gl_op <| op_rd rfl (rd_assign rfl) <| gl_nil <| gx_then <| gc_ret <| gx_then_ret <| gx_ret1 (.inl rfl) Tryz.results73 rfl [0, 1] (by decide) ?_
        refine ⟨congrArg (Value.int .i64) (Eq.symm ?_), rfl⟩
        unfold cpE
        rw [if_neg (by omega)]
        rw [if_neg (by simp [*])]
        rw [if_pos]
        (simp only [withinB] at *; unfold cpArg; simp at *; omega)
      refine gl_op <| op_rd rfl (rd_pick_f rfl rfl) <| gl_op <| op_rd rfl (rd_move rfl) <| gl_yes rfl rfl <| op_rd rfl (rd_fieldAddr rfl (fa_58_3 _)) <| gl_yes rfl rfl (op_rd rfl (rd_load Tryz.underlying3 rfl rfl (by exact ld_blk 2 rfl rfl)) ?_)
      refine gl_yes rfl rfl (op_rd rfl (rd_eql rfl rfl) (gk_dec (fun h45 => ?_) (fun h45 => ?_)))
      · refine gl_yes rfl rfl <| op_rd rfl (rd_move rfl) <| gl_yes rfl rfl <| op_rd rfl (rd_fieldAddr rfl (fa_58_1 _)) <| gl_yes rfl rfl (op_rd rfl (rd_load Tryz.underlying3 rfl rfl (by exact ld_blk 2 rfl rfl)) ?_)
        refine gl_yes rfl rfl <| op_rd rfl (rd_fieldAddr rfl (fa_58_2 _)) <| gl_yes rfl rfl (op_rd rfl (rd_load Tryz.underlying3 rfl rfl (by exact ld_blk 2 rfl rfl)) ?_)
        refine gl_yes rfl rfl (op_rd rfl (rd_neq rfl rfl) (gk_dec (fun h51 => ?_) (fun h51 => ?_)))
        · refine gl_yes rfl rfl <| op_rd rfl (rd_pick_t rfl rfl) <| gl_op <| op_rd rfl (rd_pick_f rfl rfl) <| gl_op <| op_rd rfl (rd_assign rfl) <| gl_nil <| gx_then <| gc_seq <| gc_seq <| gc_region <| gl_op <| op_rd rfl (rd_move rfl) <| gl_op <| op_rd rfl (rd_not rfl) <| gl_op <| op_rd rfl (rd_move rfl) <| gl_yes rfl rfl <| op_rd rfl (rd_fieldAddr rfl (fa_58_4 _)) <| gl_yes rfl rfl (op_rd rfl (rd_load Tryz.underlying3 rfl rfl (by exact ld_blk 2 rfl rfl)) ?_)
          refine gl_yes rfl rfl (op_call rfl (vf := []) (vc := []) rfl rfl Tryz.call83 (fun w1 ho => within_ok _ _ _ w1) ?_)
          rintro _ _ ⟨rfl, rfl⟩
          refine gk_bool (fun hw59 => ?_) (fun hw59 => ?_)
          · refine gl_yes rfl rfl <| op_rd rfl (rd_not rfl) <| gl_op <| op_rd rfl (rd_pick_f rfl rfl) <| gl_op <| op_rd rfl (rd_move rfl) <| gl_yes rfl rfl <| op_rd rfl (rd_fieldAddr rfl (fa_58_5 _)) <| gl_yes rfl rfl (op_rd rfl (rd_load Tryz.underlying4 rfl rfl (by exact ld_blk 2 rfl rfl)) ?_)
            refine gk_bool (fun h64 => ?_) (fun h64 => ?_)
            · refine gl_yes rfl rfl <| op_rd rfl (rd_move rfl) <| gl_yes rfl rfl <| op_rd rfl (rd_fieldAddr rfl (fa_58_4 _)) <| gl_yes rfl rfl (op_rd rfl (rd_load Tryz.underlying3 rfl rfl (by exact ld_blk 2 rfl rfl)) ?_)
              refine gl_yes rfl rfl (op_rd rfl (rd_neq rfl rfl) (gk_dec (fun h68 => ?_) (fun h68 => ?_)))
              · refine gl_yes rfl rfl <| op_rd rfl (rd_pick_t rfl rfl) <| gl_op <| op_rd rfl (rd_pick_f rfl rfl) <| gl_nil <| gx_then <| gc_cond_t rfl <| gc_seq <| gc_region <| gl_op <| op_rd rfl (rd_assign rfl) <| gl_nil <| gx_then <| gc_ret <| gx_then_ret <| gx_ret1 (.inl rfl) Tryz.results73 rfl [0, 1] (by decide) ?_
                refine ⟨congrArg (Value.int .i64) (Eq.symm ?_), rfl⟩
                unfold cpE
                rw [if_neg (by omega)]
                rw [if_neg (by simp [*])]
                rw [if_pos]
                (simp [cpArg, *]; done)
              refine gl_yes rfl rfl <| op_rd rfl (rd_pick_t rfl rfl) <| gl_op <| op_rd rfl (rd_pick_f rfl rfl) <| gl_nil <| gx_then <| gc_cond_f rfl <| gc_skip <| gx_then <| gc_seq <| gc_region <| gl_op <| op_rd rfl (rd_assign rfl) <| gl_nil <| gx_then <| gc_ret <| gx_ret1 (.inl rfl) Tryz.results73 rfl [0, 1] (by decide) ?_
              refine ⟨congrArg (Value.int .i64) (Eq.symm ?_), rfl⟩
              unfold cpE
              rw [if_neg (by omega)]
              rw [if_neg (by simp [*])]
              rw [if_neg]
              rw [Bool.not_eq_true]
              (simp only [withinB] at *; unfold cpArg; simp at *; omega)
            refine gl_yes rfl rfl <| op_rd rfl (rd_move rfl) <| gl_no rfl rfl rfl <| gl_no rfl rfl rfl <| gl_no rfl rfl rfl <| gl_yes rfl rfl <| op_rd rfl (rd_pick_f rfl rfl) <| gl_op <| op_rd rfl (rd_pick_f rfl rfl) <| gl_nil <| gx_then <| gc_cond_f rfl <| gc_skip <| gx_then <| gc_seq <| gc_region <| gl_op <| op_rd rfl (rd_assign rfl) <| gl_nil <| gx_then <| gc_ret <| gx_ret1 (.inl rfl) Tryz.results73 rfl [0, 1] (by decide) ?_
            refine ⟨congrArg (Value.int .i64) (Eq.symm ?_), rfl⟩
            unfold cpE
            rw [if_neg (by omega)]
            rw [if_neg (by simp [*])]
            rw [if_neg]
            rw [Bool.not_eq_true]
            (simp only [withinB] at *; unfold cpArg; rw [h64]; clear h64; simp at *; omega)
          refine gl_yes rfl rfl <| op_rd rfl (rd_not rfl) <| gl_op <| op_rd rfl (rd_pick_f rfl rfl) <| gl_op <| op_rd rfl (rd_move rfl) <| gl_no rfl rfl rfl <| gl_no rfl rfl rfl <| gl_no rfl rfl rfl <| gl_noU rfl rfl rfl <| gl_noU rfl rfl rfl <| gl_noU rfl rfl rfl <| gl_no rfl rfl rfl <| gl_op <| op_rd rfl (rd_pick_t rfl rfl) <| gl_nil <| gx_then <| gc_cond_t rfl <| gc_seq <| gc_region <| gl_op <| op_rd rfl (rd_assign rfl) <| gl_nil <| gx_then <| gc_ret <| gx_then_ret <| gx_ret1 (.inl rfl) Tryz.results73 rfl [0, 1] (by decide) ?_
          refine ⟨congrArg (Value.int .i64) (Eq.symm ?_), rfl⟩
          unfold cpE
          rw [if_neg (by omega)]
          rw [if_neg (by simp [*])]
          rw [if_pos]
          (simp only [withinB] at *; unfold cpArg; simp at *; omega)
        refine gl_yes rfl rfl <| op_rd rfl (rd_pick_t rfl rfl) <| gl_op <| op_rd rfl (rd_pick_f rfl rfl) <| gl_op <| op_rd rfl (rd_assign rfl) <| gl_nil <| gx_then <| gc_seq <| gc_seq <| gc_region <| gl_op <| op_rd rfl (rd_move rfl) <| gl_op <| op_rd rfl (rd_not rfl) <| gl_op <| op_rd rfl (rd_move rfl) <| gl_no rfl rfl rfl <| gl_no rfl rfl rfl <| gl_no rfl rfl rfl <| gl_no rfl rfl rfl <| gl_op <| op_rd rfl (rd_pick_t rfl rfl) <| gl_op <| op_rd rfl (rd_move rfl) <| gl_no rfl rfl rfl <| gl_no rfl rfl rfl <| gl_no rfl rfl rfl <| gl_noU rfl rfl rfl <| gl_noU rfl rfl rfl <| gl_noU rfl rfl rfl <| gl_no rfl rfl rfl <| gl_op <| op_rd rfl (rd_pick_t rfl rfl) ?_
        refine gl_nil <| gx_then <| gc_cond_t rfl <| gc_seq <| gc_region <| gl_op <| op_rd rfl (rd_assign rfl) <| gl_nil <| gx_then <| gc_ret <| gx_then_ret <| gx_ret1 (.inl rfl) Tryz.results73 rfl [0, 1] (by decide) ?_
        refine ⟨congrArg (Value.int .i64) (Eq.symm ?_), rfl⟩
        unfold cpE
        rw [if_neg (by omega)]
        rw [if_neg (by simp [*])]
        rw [if_pos]
        (simp [cpArg, *]; done)
      refine gl_yes rfl rfl <| op_rd rfl (rd_move rfl) <| gl_no rfl rfl rfl <| gl_no rfl rfl rfl <| gl_no rfl rfl rfl <| gl_no rfl rfl rfl <| gl_no rfl rfl rfl <| gl_yes rfl rfl <| op_rd rfl (rd_pick_f rfl rfl) <| gl_op <| op_rd rfl (rd_pick_f rfl rfl) <| gl_op <| op_rd rfl (rd_assign rfl) <| gl_nil <| gx_then <| gc_seq <| gc_seq <| gc_region <| gl_op <| op_rd rfl (rd_move rfl) <| gl_op <| op_rd rfl (rd_not rfl) <| gl_op <| op_rd rfl (rd_move rfl) <| gl_no rfl rfl rfl <| gl_no rfl rfl rfl <| gl_no rfl rfl rfl <| gl_no rfl rfl rfl <| gl_op <| op_rd rfl (rd_pick_t rfl rfl) <| gl_op <| op_rd rfl (rd_move rfl) <| gl_no rfl rfl rfl <| gl_no rfl rfl rfl ?_
      refine gl_no rfl rfl rfl <| gl_noU rfl rfl rfl <| gl_noU rfl rfl rfl <| gl_noU rfl rfl rfl <| gl_no rfl rfl rfl <| gl_op <| op_rd rfl (rd_pick_t rfl rfl) <| gl_nil <| gx_then <| gc_cond_t rfl <| gc_seq <| gc_region <| gl_op <| op_rd rfl (rd_assign rfl) <| gl_nil <| gx_then <| gc_ret <| gx_then_ret <| gx_ret1 (.inl rfl) Tryz.results73 rfl [0, 1] (by decide) ?_
      refine ⟨congrArg (Value.int .i64) (Eq.symm ?_), rfl⟩
      unfold cpE
      rw [if_neg (by omega)]
      rw [if_neg (by simp [*])]
      rw [if_pos]
      (simp [cpArg, *]; done)
    replace hw31 : idxB x.dst s.ds.length = false := by
      unfold idxB; unfold withinB at hw31; rw [Bool.eq_iff_iff] at hw31 ⊢; simp at hw31 ⊢; omega
    refine gl_yes rfl rfl <| op_rd rfl (rd_not rfl) <| gl_op <| op_rd rfl (rd_pick_f rfl rfl) <| gl_nil <| gx_then <| gc_cond_t rfl <| gc_seq <| gc_region <| gl_op <| op_rd rfl (rd_assign rfl) <| gl_nil <| gx_then <| gc_ret <| gx_then_ret <| gx_ret1 (.inl rfl) Tryz.results73 rfl [0, 1] (by decide) ?_
    refine ⟨congrArg (Value.int .i64) (Eq.symm ?_), rfl⟩
    unfold cpE
    rw [if_neg (by omega)]
    rw [if_pos]
    simp [*]
  replace hw25 : idxB x.src s.ds.length = false := by
    unfold idxB; unfold withinB at hw25; rw [Bool.eq_iff_iff] at hw25 ⊢; simp at hw25 ⊢; omega
  refine gl_op <| op_rd rfl (rd_not rfl) <| gl_op <| op_rd rfl (rd_move rfl) <| gl_no rfl rfl rfl <| gl_no rfl rfl rfl <| gl_no rfl rfl rfl <| gl_no rfl rfl rfl <| gl_no rfl rfl rfl <| gl_op <| op_rd rfl (rd_pick_t rfl rfl) <| gl_nil <| gx_then <| gc_cond_t rfl <| gc_seq <| gc_region <| gl_op <| op_rd rfl (rd_assign rfl) <| gl_nil <| gx_then <| gc_ret <| gx_then_ret <| gx_ret1 (.inl rfl) Tryz.results73 rfl [0, 1] (by decide) ?_
  refine ⟨congrArg (Value.int .i64) (Eq.symm ?_), rfl⟩
  unfold cpE
  rw [if_neg (by omega)]
  rw [if_pos]
  simp [*]
set_option maxRecDepth 100000 in
set_option maxHeartbeats 1000000 in
theorem part_ok (s : Org) (cb mb : Nat) (d : Dv) (p : Pt) (hsrl : s.rs.length ≤ 40) (hd0 : 0 ≤ d.lo) (hd1 : d.hi ≤ 127) (hrk : ∀ r ∈ s.rs, 0 ≤ r.low ∧ r.low ≤ 127 ∧ 1 ≤ r.count ∧ r.count ≤ 97) (w0 : World) (hC : Cells w0 ⟨cb, 0, none⟩ [.slice s.da s.ds.length s.dc, .slice s.ra s.rs.length s.rc, .slice s.sa s.ss.length s.sc, .slice s.ca s.cs.length s.cc, .map (some mb)]) (hR : OldSl w0 [] s.ra s.rs.length 6 (s.rs.flatMap Rk.cells)) : Sp Tryz.prog 70 [.pointer (some ⟨cb, 0, none⟩), d.val, p.val] w0 [] (RV (.int .i64 (ptErr s.rs d p))) := by
  refine spec_enter Tryz.func70 rfl Tryz.ntmps70 rfl (Own.refl _) ?_
  simp only [argEnv]
  refine gc_seq <| gc_region <| gl_op (op_box rfl rfl rfl (fun b4 => ?_))
  refine gl_op (op_box rfl rfl rfl (fun b5 => ?_))
  refine gl_op <| op_rd rfl (rd_assign rfl) <| gl_nil <| gx_then <| gc_seq <| gc_seq <| gc_drawP [0, 1] true 10 rfl <| ga_first 0 (bm 11 1) rfl rfl rfl rfl (by kernel_rfl) (by kernel_rfl) ⟨[0, 1], by decide, rfl⟩ (qt_rd (rd_fieldAddr rfl (fa_104_0 _))) ?_
  refine ga_first 1 (bm 11 3) rfl rfl rfl rfl (by kernel_rfl) (by kernel_rfl) ⟨[0, 1], by decide, rfl⟩ (qt_rd (rd_load Tryz.underlying3 rfl rfl (by exact ld_blk 0 rfl rfl))) ?_
  refine ga_first 2 (bm 11 7) rfl rfl rfl rfl (by kernel_rfl) (by kernel_rfl) ⟨[0, 1], by decide, rfl⟩ (qt_rd (rd_move rfl)) ?_
  refine ga_first 3 (bm 11 15) rfl rfl rfl rfl (by kernel_rfl) (by kernel_rfl) ⟨[0, 1], by decide, rfl⟩ (qt_rd (rd_nilCheck rfl)) ?_
  refine ga_first 4 (bm 11 31) rfl rfl rfl rfl (by kernel_rfl) (by kernel_rfl) ⟨[0, 1], by decide, rfl⟩ (qt_rd (rd_fieldAddr rfl (fa_138_0 _))) ?_
  refine ga_first 5 (bm 11 63) rfl rfl rfl rfl (by kernel_rfl) (by kernel_rfl) ⟨[0, 1], by decide, rfl⟩ (qt_rd (rd_fieldAddr rfl (fa_27_1 _))) ?_
  refine ga_first 6 (bm 11 127) rfl rfl rfl rfl (by kernel_rfl) (by kernel_rfl) ⟨[0, 1], by decide, rfl⟩ (qt_rd (rd_load Tryz.underlying23 rfl rfl (by exact ld_cells (by assumption) (by simp) rfl))) ?_
  refine ga_first 7 (bm 11 255) rfl rfl rfl rfl (by kernel_rfl) (by kernel_rfl) ⟨[0, 1], by decide, rfl⟩ (qt_rd (rd_lenSlice Tryz.underlying23 rfl)) ?_
  refine ga_first 8 (bm 11 511) rfl rfl rfl rfl (by kernel_rfl) (by kernel_rfl) ⟨[0, 1], by decide, rfl⟩ (qt_rd (by exact rd_sub rfl rfl (by omega) (by omega))) ?_
  refine ga_first 9 (bm 11 1023) rfl rfl rfl rfl (by kernel_rfl) (by kernel_rfl) ⟨[0, 1], by decide, rfl⟩ (qt_call (vf := []) (vc := []) rfl rfl Tryz.call83 (fun w1 ho => within_ok _ _ _ w1) (by rintro _ _ ⟨h, _⟩; exact h)) ?_
  refine gk_bool (fun hw17 => ?_) (fun hw17 => ?_)
  · replace hw17 : idxB p.rank s.rs.length = true := by
      unfold idxB; unfold withinB at hw17; rw [Bool.eq_iff_iff] at hw17 ⊢; simp at hw17 ⊢; omega
    have hix := hw17
    obtain ⟨hx0, hx1⟩ : 0 ≤ p.rank ∧ p.rank < s.rs.length := by unfold idxB at hix; simpa using hix
    obtain ⟨r, hx⟩ := get_some (show p.rank.toNat < s.rs.length by omega)
    have hxd := getD_some (d := default) hx
    have hrr := hrk r (List.mem_of_getElem? hx)
    refine ga_first 10 (bm 11 2047) rfl rfl rfl rfl (by kernel_rfl) (by kernel_rfl) ⟨[0, 1], by decide, rfl⟩ (qt_rd (rd_not rfl)) ?_
    refine ga_end (by kernel_rfl) (.inr ⟨[0, 1], by decide, rfl⟩) ?_
    refine gx_then <| gc_cond_f rfl <| gc_skip <| gx_then <| gc_seq <| gc_seq <| gc_region <| gl_op <| op_rd rfl (rd_fieldAddr rfl (fa_104_2 _)) <| gl_op (op_rd rfl (rd_load Tryz.underlying3 rfl rfl (by exact ld_blk 0 rfl rfl)) ?_)
    refine gl_op <| op_rd rfl (rd_fieldAddr rfl (fa_49_1 _)) <| gl_op (op_rd rfl (rd_load Tryz.underlying3 rfl rfl (by exact ld_blk 1 rfl rfl)) ?_)
    refine gl_op <| op_rd rfl (rd_fieldAddr rfl (fa_49_2 _)) <| gl_op (op_rd rfl (rd_load Tryz.underlying3 rfl rfl (by exact ld_blk 1 rfl rfl)) ?_)
    refine gl_op (op_call rfl (vf := []) (vc := []) rfl rfl Tryz.call83 (fun w1 ho => within_ok _ _ _ w1) ?_)
    rintro _ _ ⟨rfl, rfl⟩
    refine gk_bool (fun hw25 => ?_) (fun hw25 => ?_)
    · refine gl_op <| op_rd rfl (rd_not rfl) <| gl_op <| op_rd rfl (rd_move rfl) <| gl_yes rfl rfl <| op_rd rfl (rd_fieldAddr rfl (fa_104_3 _)) <| gl_yes rfl rfl (op_rd rfl (rd_load Tryz.underlying3 rfl rfl (by exact ld_blk 0 rfl rfl)) ?_)
      refine gl_yes rfl rfl <| op_rd rfl (rd_fieldAddr rfl (fa_104_2 _)) <| gl_yes rfl rfl (op_rd rfl (rd_load Tryz.underlying3 rfl rfl (by exact ld_blk 0 rfl rfl)) ?_)
      refine gl_yes rfl rfl <| op_rd rfl (rd_fieldAddr rfl (fa_49_2 _)) <| gl_yes rfl rfl (op_rd rfl (rd_load Tryz.underlying3 rfl rfl (by exact ld_blk 1 rfl rfl)) ?_)
      refine gl_yes rfl rfl (op_call rfl (vf := []) (vc := []) rfl rfl Tryz.call83 (fun w1 ho => within_ok _ _ _ w1) ?_)
      rintro _ _ ⟨rfl, rfl⟩
      refine gk_bool (fun hw34 => ?_) (fun hw34 => ?_)
      · refine gl_yes rfl rfl <| op_rd rfl (rd_not rfl) <| gl_op <| op_rd rfl (rd_pick_f rfl rfl) <| gl_op <| op_rd rfl (rd_move rfl) <| gl_yes rfl rfl <| op_rd rfl (rd_fieldAddr rfl (fa_104_1 _)) <| gl_yes rfl rfl (op_rd rfl (rd_load Tryz.underlying3 rfl rfl (by exact ld_blk 0 rfl rfl)) ?_)
        refine gl_yes rfl rfl (op_call rfl (vf := []) (vc := []) rfl rfl Tryz.call83 (fun w1 ho => within_ok _ _ _ w1) ?_)
        rintro _ _ ⟨rfl, rfl⟩
        refine gk_bool (fun hw40 => ?_) (fun hw40 => ?_)
        · refine gl_yes rfl rfl <| op_rd rfl (rd_not rfl) <| gl_op <| op_rd rfl (rd_pick_f rfl rfl) <| gl_nil <| gx_then <| gc_cond_f rfl <| gc_skip <| gx_then <| gc_seq <| gc_seq ?_
          have hrg : ptRange d p = true := by
            unfold ptRange
            simp only [withinB, Bool.and_eq_true, decide_eq_true_eq] at *
            omega
          obtain ⟨hr1, hr2, hr3, hr4, hr5⟩ : d.lo ≤ p.lo ∧ p.lo ≤ p.hi ∧ p.hi ≤ d.hi ∧ -96 ≤ p.shift ∧ p.shift ≤ 96 := by
            simp only [withinB, Bool.and_eq_true, decide_eq_true_eq] at *
            omega
          refine gc_drawP [0, 1] false 10 rfl <| ga_first 0 (bm 11 1) rfl rfl rfl rfl (by kernel_rfl) (by kernel_rfl) ⟨[0, 1], by decide, rfl⟩ (qt_rd (rd_move rfl)) ?_
          refine ga_first 1 (bm 11 3) rfl rfl rfl rfl (by kernel_rfl) (by kernel_rfl) ⟨[0, 1], by decide, rfl⟩ (qt_rd (rd_nilCheck rfl)) ?_
          refine ga_first 2 (bm 11 7) rfl rfl rfl rfl (by kernel_rfl) (by kernel_rfl) ⟨[0, 1], by decide, rfl⟩ (qt_rd (rd_fieldAddr rfl (fa_138_0 _))) ?_
          refine ga_first 3 (bm 11 15) rfl rfl rfl rfl (by kernel_rfl) (by kernel_rfl) ⟨[0, 1], by decide, rfl⟩ (qt_rd (rd_fieldAddr rfl (fa_27_1 _))) ?_
          refine ga_first 4 (bm 11 31) rfl rfl rfl rfl (by kernel_rfl) (by kernel_rfl) ⟨[0, 1], by decide, rfl⟩ (qt_rd (rd_load Tryz.underlying23 rfl rfl (by exact ld_cells (by assumption) (by simp) rfl))) ?_
          refine ga_first 5 (bm 11 63) rfl rfl rfl rfl (by kernel_rfl) (by kernel_rfl) ⟨[0, 1], by decide, rfl⟩ (qt_rd (rd_fieldAddr rfl (fa_104_0 _))) ?_
          refine ga_first 6 (bm 11 127) rfl rfl rfl rfl (by kernel_rfl) (by kernel_rfl) ⟨[0, 1], by decide, rfl⟩ (qt_rd (rd_load Tryz.underlying3 rfl rfl (by exact ld_blk 0 rfl rfl))) ?_
          refine ga_first 7 (bm 11 255) rfl rfl rfl rfl (by kernel_rfl) (by kernel_rfl) ⟨[0, 1], by decide, rfl⟩ (qt_rd (rd_indexOld hR Tryz.underlying23 ty_53 rfl rfl (by omega) (by omega))) ?_
          refine ga_first 8 (bm 11 511) rfl rfl rfl rfl (by kernel_rfl) (by kernel_rfl) ⟨[0, 1], by decide, rfl⟩ (qt_rd (rd_loadAgg Tryz.underlying53 rfl ty_53 rfl (cs_sl hR (flat_drop_get Rk.cells 6 (fun _ => rfl) hx)) rfl)) ?_
          refine ga_only 9 (bm 11 1023) rfl rfl (by kernel_rfl) (by kernel_rfl) (.inr ⟨[0, 1], by decide, rfl⟩) (op_alloc ty_53 rfl rfl (fun b7 => ?_))
          refine ga_only 10 (bm 11 2047) rfl rfl (by kernel_rfl) (by kernel_rfl) (.inr ⟨[1, 2], by decide, rfl⟩) (op_storeAgg 0 ty_53 rfl rfl rfl rfl rfl rfl (by rfl) ?_)
          refine ga_end (by kernel_rfl) (.inl (by kernel_rfl)) ?_
          refine gx_then <| gc_seq <| gc_region <| gl_op <| op_rd rfl (rd_fieldAddr rfl (fa_104_2 _)) <| gl_op (op_rd rfl (rd_load Tryz.underlying3 rfl rfl (by exact ld_blk 1 rfl rfl)) ?_)
          refine gl_op <| op_rd rfl (rd_fieldAddr rfl (fa_104_1 _)) <| gl_op (op_rd rfl (rd_load Tryz.underlying3 rfl rfl (by exact ld_blk 1 rfl rfl)) ?_)
          refine gl_op (op_rd rfl (by exact rd_add rfl rfl (by omega) (by omega)) ?_)
          refine gl_op <| op_rd rfl (rd_fieldAddr rfl (fa_53_3 _)) <| gl_op (op_rd rfl (rd_load Tryz.underlying3 rfl rfl (by exact ld_blk 0 rfl rfl)) ?_)
          refine gl_op (op_rd rfl (rd_lss rfl rfl) (gk_dec (fun h59 => ?_) (fun h59 => ?_)))
          · refine gl_op <| op_rd rfl (rd_move rfl) <| gl_no rfl rfl rfl <| gl_no rfl rfl rfl <| gl_no rfl rfl rfl <| gl_no rfl rfl rfl <| gl_no rfl rfl rfl <| gl_no rfl rfl rfl <| gl_no rfl rfl rfl <| gl_no rfl rfl rfl <| gl_no rfl rfl rfl <| gl_no rfl rfl rfl <| gl_no rfl rfl rfl <| gl_op <| op_rd rfl (rd_pick_t rfl rfl) <| gl_nil <| gx_then <| gc_cond_t rfl <| gc_seq <| gc_region <| gl_op <| op_rd rfl (rd_assign rfl) <| gl_nil <| gx_then <| gc_ret <| gx_then_ret <| gx_ret1 (.inl rfl) Tryz.results70 rfl [] (by decide) ?_
            refine ⟨congrArg (Value.int .i64) (Eq.symm ?_), rfl⟩
            unfold ptErr
            rw [if_neg (by rw [hix]; decide)]
            rw [if_neg (by rw [hrg]; decide)]
            rw [if_pos]
            rw [hxd]
            unfold ptHas
            try simp only [withinB] at *
            simp only [Bool.not_eq_true', Bool.not_eq_false', Bool.and_eq_false_iff, Bool.and_eq_true, decide_eq_true_eq, decide_eq_false_iff_not] at *
            omega
          refine gl_op <| op_rd rfl (rd_move rfl) <| gl_yes rfl rfl <| op_rd rfl (rd_fieldAddr rfl (fa_104_3 _)) <| gl_yes rfl rfl (op_rd rfl (rd_load Tryz.underlying3 rfl rfl (by exact ld_blk 1 rfl rfl)) ?_)
          refine gl_yes rfl rfl <| op_rd rfl (rd_fieldAddr rfl (fa_104_1 _)) <| gl_yes rfl rfl (op_rd rfl (rd_load Tryz.underlying3 rfl rfl (by exact ld_blk 1 rfl rfl)) ?_)
          refine gl_yes rfl rfl (op_rd rfl (by exact rd_add rfl rfl (by omega) (by omega)) ?_)
          refine gl_yes rfl rfl <| op_rd rfl (rd_fieldAddr rfl (fa_53_3 _)) <| gl_yes rfl rfl (op_rd rfl (rd_load Tryz.underlying3 rfl rfl (by exact ld_blk 0 rfl rfl)) ?_)
          refine gl_yes rfl rfl <| op_rd rfl (rd_fieldAddr rfl (fa_53_4 _)) <| gl_yes rfl rfl (op_rd rfl (rd_load Tryz.underlying3 rfl rfl (by exact ld_blk 0 rfl rfl)) ?_)
          refine gl_yes rfl rfl (op_rd rfl (by exact rd_add rfl rfl (by omega) (by omega)) ?_)
          refine gl_yes rfl rfl (op_rd rfl (rd_geq rfl rfl) (gk_dec (fun h71 => ?_) (fun h71 => ?_)))
          · refine gl_op <| op_rd rfl (rd_pick_f rfl rfl) <| gl_nil <| gx_then <| gc_cond_t rfl <| gc_seq <| gc_region <| gl_op <| op_rd rfl (rd_assign rfl) <| gl_nil <| gx_then <| gc_ret <| gx_then_ret <| gx_ret1 (.inl rfl) Tryz.results70 rfl [] (by decide) ?_
            refine ⟨congrArg (Value.int .i64) (Eq.symm ?_), rfl⟩
            unfold ptErr
            rw [if_neg (by rw [hix]; decide)]
            rw [if_neg (by rw [hrg]; decide)]
            rw [if_pos]
            rw [hxd]
            unfold ptHas
            try simp only [withinB] at *
            simp only [Bool.not_eq_true', Bool.not_eq_false', Bool.and_eq_false_iff, Bool.and_eq_true, decide_eq_true_eq, decide_eq_false_iff_not] at *
            omega
          refine gl_op <| op_rd rfl (rd_pick_f rfl rfl) <| gl_nil <| gx_then <| gc_cond_f rfl <| gc_skip <| gx_then <| gc_seq <| gc_region <| gl_op <| op_rd rfl (rd_assign rfl) <| gl_nil <| gx_then <| gc_ret <| gx_ret1 (.inl rfl) Tryz.results70 rfl [] (by decide) ?_
          refine ⟨congrArg (Value.int .i64) (Eq.symm ?_), rfl⟩
          unfold ptErr
          rw [if_neg (by rw [hix]; decide)]
          rw [if_neg (by rw [hrg]; decide)]
          rw [if_neg]
          rw [Bool.not_eq_false, hxd]
          unfold ptHas
          try simp only [withinB] at *
          simp only [Bool.not_eq_true', Bool.not_eq_false', Bool.and_eq_false_iff, Bool.and_eq_true, decide_eq_true_eq, decide_eq_false_iff_not] at *
          omega
        refine gl_yes rfl rfl <| op_rd rfl (rd_not rfl) <| gl_op <| op_rd rfl (rd_pick_f rfl rfl) <| gl_nil <| gx_then <| gc_cond_t rfl <| gc_seq <| gc_region <| gl_op <| op_rd rfl (rd_assign rfl) <| gl_nil <| gx_then <| gc_ret <| gx_then_ret <| gx_ret1 (.inl rfl) Tryz.results70 rfl [] (by decide) ?_
        refine ⟨congrArg (Value.int .i64) (Eq.symm ?_), rfl⟩
        unfold ptErr
        rw [if_neg (by rw [hix]; decide)]
        rw [if_pos]
        unfold ptRange
        try simp only [withinB] at *
        simp only [Bool.not_eq_true', Bool.not_eq_false', Bool.and_eq_false_iff, Bool.and_eq_true, decide_eq_true_eq, decide_eq_false_iff_not] at *
        omega
      refine gl_yes rfl rfl <| op_rd rfl (rd_not rfl) <| gl_op <| op_rd rfl (rd_pick_f rfl rfl) <| gl_op <| op_rd rfl (rd_move rfl) <| gl_no rfl rfl rfl <| gl_no rfl rfl rfl <| gl_no rfl rfl rfl <| gl_no rfl rfl rfl <| gl_op <| op_rd rfl (rd_pick_t rfl rfl) <| gl_nil <| gx_then <| gc_cond_t rfl <| gc_seq <| gc_region <| gl_op <| op_rd rfl (rd_assign rfl) <| gl_nil <| gx_then <| gc_ret <| gx_then_ret <| gx_ret1 (.inl rfl) Tryz.results70 rfl [] (by decide) ?_
      refine ⟨congrArg (Value.int .i64) (Eq.symm ?_), rfl⟩
      unfold ptErr
      rw [if_neg (by rw [hix]; decide)]
      rw [if_pos]
      unfold ptRange
      try simp only [withinB] at *
      simp only [Bool.not_eq_true', Bool.not_eq_false', Bool.and_eq_false_iff, Bool.and_eq_true, decide_eq_true_eq, decide_eq_false_iff_not] at *
      omega
    refine gl_op <| op_rd rfl (rd_not rfl) <| gl_op <| op_rd rfl (rd_move rfl) <| gl_no rfl rfl rfl <| gl_no rfl rfl rfl <| gl_no rfl rfl rfl <| gl_no rfl rfl rfl <| gl_no rfl rfl rfl <| gl_no rfl rfl rfl <| gl_no rfl rfl rfl <| gl_no rfl rfl rfl <| gl_op <| op_rd rfl (rd_pick_t rfl rfl) <| gl_op <| op_rd rfl (rd_move rfl) <| gl_no rfl rfl rfl <| gl_no rfl rfl rfl <| gl_no rfl rfl rfl <| gl_no rfl rfl rfl <| gl_op <| op_rd rfl (rd_pick_t rfl rfl) <| gl_nil <| gx_then <| gc_cond_t rfl <| gc_seq <| gc_region <| gl_op <| op_rd rfl (rd_assign rfl) <| gl_nil <| gx_then ?_
    refine gc_ret <| gx_then_ret <| gx_ret1 (.inl rfl) Tryz.results70 rfl [] (by decide) ?_
    refine ⟨congrArg (Value.int .i64) (Eq.symm ?_), rfl⟩
    unfold ptErr
    rw [if_neg (by rw [hix]; decide)]
    rw [if_pos]
    unfold ptRange
    try simp only [withinB] at *
    simp only [Bool.not_eq_true', Bool.not_eq_false', Bool.and_eq_false_iff, Bool.and_eq_true, decide_eq_true_eq, decide_eq_false_iff_not] at *
    omega
  replace hw17 : idxB p.rank s.rs.length = false := by
    unfold idxB; unfold withinB at hw17; rw [Bool.eq_iff_iff] at hw17 ⊢; simp at hw17 ⊢; omega
  have hix := hw17
  refine ga_first 10 (bm 11 2047) rfl rfl rfl rfl (by kernel_rfl) (by kernel_rfl) ⟨[0, 1], by decide, rfl⟩ (qt_rd (rd_not rfl)) ?_
  refine ga_end (by kernel_rfl) (.inr ⟨[0, 1], by decide, rfl⟩) ?_
  refine gx_then <| gc_cond_t rfl <| gc_seq <| gc_region <| gl_op <| op_rd rfl (rd_assign rfl) <| gl_nil <| gx_then <| gc_ret <| gx_then_ret <| gx_ret1 (.inl rfl) Tryz.results70 rfl [] (by decide) ?_
  refine ⟨congrArg (Value.int .i64) (Eq.symm ?_), rfl⟩
  unfold ptErr
  rw [if_pos hix]
end Go.Proofs.YtbjijbbkfgcleaaGreatDoor
namespace Go.Proofs.YtbjijbbkfgcleaaGreatDoor
open Go.Gv
open Go.RowKit
open Go.Sn
open Sx
set_option maxRecDepth 100000 in
set_option maxHeartbeats 1000000 in
theorem firstD_ok (s : Org) (cb mb : Nat) (K : List ByteArray) (l : List Dv) (a : Option Addr) (cp : Nat) (hl : l.length ≤ 140737488355328) (hn : ∀ x ∈ l, x.name.size ≤ 140737488355328) (w0 : World) (hown : Own w0 [cb, mb] w0 [CB s cb mb, OB mb K]) (hsl : OldSl w0 [cb, mb] a l.length 3 (l.flatMap Dv.cells)) : Sp Tryz.prog 64 [.slice a l.length cp, .func (.func 65) #[.pointer (some ⟨cb, 0, none⟩)] #[]] w0 [cb, mb] (fun v L => v = .tuple #[natV (runE dvE dvK K l 0).1.1, .int .i64 (runE dvE dvK K l 0).1.2] ∧ L = [CB s cb mb, OB mb (runE dvE dvK K l 0).2]) := by
  unfold CB OB at hown
  refine spec_enter Tryz.func64 rfl Tryz.ntmps64 rfl hown ?_
  simp only [argEnv]
  refine gc_seq <| gc_region <| gl_op <| op_rd rfl (rd_assign rfl) <| gl_op <| op_rd rfl (rd_assign rfl) <| gl_nil <| gx_then <| gc_seq <| gc_seq <| gc_region <| gl_op <| op_rd rfl (rd_move rfl) <| gl_op <| op_rd rfl (rd_lenSlice Tryz.underlying22 rfl) <| gl_op <| op_rd rfl (rd_move rfl) <| gl_nil <| gx_then <| gc_block <| gc_loopF (ι := Nat × List ByteArray) [(1, _), (9, _), (10, _)] [_] (fun j => j.1 ≤ l.length ∧ runE dvE dvK K l 0 = runE dvE dvK j.2 (l.drop j.1) j.1) (fun j Fr0 => ((11, natV j.1) :: Fr0)) (fun j Fr0 => (.obj mb (seenO j.2) :: Fr0)) (fun j => l.length - j.1) (0, K) (⟨Nat.zero_le _, rfl⟩) ⟨rfl, rfl, rfl, rfl, trivial⟩ ⟨[1, 0], by decide, rfl⟩ ?_
  rintro ⟨k, K1⟩ ⟨hk, hrun⟩
  simp only at hk hrun ⊢
  refine gc_seq <| gc_region <| gl_op (op_rd rfl (rd_lss rfl rfl) (gk_dec (fun h12 => ?_) (fun h12 => ?_)))
  · obtain ⟨x, hx⟩ := get_some (show k < l.length by omega)
    have hxm := List.mem_of_getElem? hx
    refine gl_nil <| gx_then <| gc_seq <| gc_cond_t rfl <| gc_skip <| gx_then <| gc_seq <| gc_block <| gc_seq <| gc_region <| gl_op <| op_rd rfl (rd_move rfl) <| gl_op (op_rd rfl (by exact rd_indexOld (by assumption) Tryz.underlying22 ty_49 rfl rfl (by omega) (by omega)) ?_)
    refine gl_op (op_rd rfl (rd_loadAgg Tryz.underlying49 rfl ty_49 rfl (cs_slN hsl (flat_drop_get Dv.cells 3 (fun _ => rfl) hx)) rfl) ?_)
    refine gl_op (op_alloc ty_49 rfl rfl (fun b7 => ?_))
    refine gl_op <| op_rd rfl (rd_assign rfl) <| gl_op (op_storeAgg 0 ty_49 rfl rfl rfl rfl rfl rfl (by rfl) ?_)
    refine gl_nil <| gx_then <| gc_seq <| gc_region <| gl_op <| op_rd rfl (rd_move rfl) <| gl_op (op_rd rfl (rd_loadAgg Tryz.underlying49 rfl ty_49 rfl (by exact cs_blk 0 (off := 0) (k := 3) rfl rfl) rfl) ?_)
    simp only [Dv.cells]
    refine gl_op (op_callM [2, 1] [0] rfl (vf := [.pointer (some ⟨cb, 0, none⟩)]) (vc := []) rfl rfl Tryz.call65 (by decide) rfl (fun w how hc => division_ok s cb mb K1 x (hn x hxm) w hc) ?_)
    rintro _ _ ⟨rfl, rfl⟩
    refine gl_op <| op_rd rfl (rd_assign rfl) <| gl_nil <| gx_then <| gc_seq <| gc_region <| gl_op <| op_rd rfl (rd_move rfl) <| gl_op (op_rd rfl (rd_neq rfl rfl) (gk_dec (fun h20 => ?_) (fun h20 => ?_)))
    · refine gl_nil <| gx_then <| gc_cond_t rfl <| gc_seq <| gc_region <| gl_op <| op_rd rfl (rd_move rfl) <| gl_op <| op_rd rfl (rd_move rfl) <| gl_op <| op_rd rfl (rd_assign rfl) <| gl_op <| op_rd rfl (rd_assign rfl) <| gl_nil <| gx_then <| gc_ret <| gx_block_ret <| gx_then_ret <| gx_then_ret <| gx_block_ret <| gx_then_ret <| gx_ret2 (.inl rfl) Tryz.results64 rfl rfl [0, 1] (by decide) ?_
      rw [hrun, runE_at hx, if_pos (by omega)]
      exact ⟨rfl, rfl⟩
    refine gl_nil <| gx_then <| gc_cond_f rfl <| gc_skip <| gx_block <| gx_then <| gc_region <| gl_op (op_rd rfl (by exact rd_addN (b := 1) rfl rfl (by omega)) ?_)
    refine gl_op <| op_rd rfl (rd_move rfl) <| gl_nil <| gx_then ?_
    exact gx_cut ((k + 1, dvK K1 x)) ⟨⟨by simp only; omega, by simp only; rw [hrun, runE_at hx, if_neg (by omega)]⟩, by simp only; omega⟩ ⟨rfl, rfl, rfl, rfl, trivial⟩ ⟨[1, 0], by decide, rfl⟩
  refine gl_nil <| gx_then <| gc_seq <| gc_cond_f rfl <| gc_exit <| gx_then_exit <| gx_then_exit <| gx_block_exit <| gx_then <| gc_seq <| gc_region <| gl_op <| op_rd rfl (rd_assign rfl) <| gl_op <| op_rd rfl (rd_assign rfl) <| gl_nil <| gx_then <| gc_ret <| gx_ret2 (.inl rfl) Tryz.results64 rfl rfl [1, 0] (by decide) ?_
  rw [hrun, List.drop_eq_nil_of_le (by omega)]
  exact ⟨rfl, rfl⟩
set_option maxRecDepth 100000 in
set_option maxHeartbeats 1000000 in
theorem firstR_ok (s : Org) (cb mb : Nat) (K : List ByteArray) (l : List Rk) (a : Option Addr) (cp : Nat) (hl : l.length ≤ 140737488355328) (hn : ∀ x ∈ l, x.name.size ≤ 140737488355328) (w0 : World) (hown : Own w0 [cb, mb] w0 [CB s cb mb, OB mb K]) (hsl : OldSl w0 [cb, mb] a l.length 6 (l.flatMap Rk.cells)) : Sp Tryz.prog 66 [.slice a l.length cp, .func (.func 67) #[.pointer (some ⟨cb, 0, none⟩)] #[]] w0 [cb, mb] (fun v L => v = .tuple #[natV (runE rkE rkK K l 0).1.1, .int .i64 (runE rkE rkK K l 0).1.2] ∧ L = [CB s cb mb, OB mb (runE rkE rkK K l 0).2]) := by
  unfold CB OB at hown
  refine spec_enter Tryz.func66 rfl Tryz.ntmps66 rfl hown ?_
  simp only [argEnv]
  refine gc_seq <| gc_region <| gl_op <| op_rd rfl (rd_assign rfl) <| gl_op <| op_rd rfl (rd_assign rfl) <| gl_nil <| gx_then <| gc_seq <| gc_seq <| gc_region <| gl_op <| op_rd rfl (rd_move rfl) <| gl_op <| op_rd rfl (rd_lenSlice Tryz.underlying23 rfl) <| gl_op <| op_rd rfl (rd_move rfl) <| gl_nil <| gx_then <| gc_block <| gc_loopF (ι := Nat × List ByteArray) [(1, _), (9, _), (10, _)] [_] (fun j => j.1 ≤ l.length ∧ runE rkE rkK K l 0 = runE rkE rkK j.2 (l.drop j.1) j.1) (fun j Fr0 => ((11, natV j.1) :: Fr0)) (fun j Fr0 => (.obj mb (seenO j.2) :: Fr0)) (fun j => l.length - j.1) (0, K) (⟨Nat.zero_le _, rfl⟩) ⟨rfl, rfl, rfl, rfl, trivial⟩ ⟨[1, 0], by decide, rfl⟩ ?_
  rintro ⟨k, K1⟩ ⟨hk, hrun⟩
  simp only at hk hrun ⊢
  refine gc_seq <| gc_region <| gl_op (op_rd rfl (rd_lss rfl rfl) (gk_dec (fun h12 => ?_) (fun h12 => ?_)))
  · obtain ⟨x, hx⟩ := get_some (show k < l.length by omega)
    have hxm := List.mem_of_getElem? hx
    refine gl_nil <| gx_then <| gc_seq <| gc_cond_t rfl <| gc_skip <| gx_then <| gc_seq <| gc_block <| gc_seq <| gc_region <| gl_op <| op_rd rfl (rd_move rfl) <| gl_op (op_rd rfl (by exact rd_indexOld (by assumption) Tryz.underlying23 ty_53 rfl rfl (by omega) (by omega)) ?_)
    refine gl_op (op_rd rfl (rd_loadAgg Tryz.underlying53 rfl ty_53 rfl (cs_slN hsl (flat_drop_get Rk.cells 6 (fun _ => rfl) hx)) rfl) ?_)
    refine gl_op (op_alloc ty_53 rfl rfl (fun b7 => ?_))
    refine gl_op <| op_rd rfl (rd_assign rfl) <| gl_op (op_storeAgg 0 ty_53 rfl rfl rfl rfl rfl rfl (by rfl) ?_)
    refine gl_nil <| gx_then <| gc_seq <| gc_region <| gl_op <| op_rd rfl (rd_move rfl) <| gl_op (op_rd rfl (rd_loadAgg Tryz.underlying53 rfl ty_53 rfl (by exact cs_blk 0 (off := 0) (k := 6) rfl rfl) rfl) ?_)
    simp only [Rk.cells]
    refine gl_op (op_callM [2, 1] [0] rfl (vf := [.pointer (some ⟨cb, 0, none⟩)]) (vc := []) rfl rfl Tryz.call67 (by decide) rfl (fun w how hc => rank_ok s cb mb K1 x (hn x hxm) w hc) ?_)
    rintro _ _ ⟨rfl, rfl⟩
    refine gl_op <| op_rd rfl (rd_assign rfl) <| gl_nil <| gx_then <| gc_seq <| gc_region <| gl_op <| op_rd rfl (rd_move rfl) <| gl_op (op_rd rfl (rd_neq rfl rfl) (gk_dec (fun h20 => ?_) (fun h20 => ?_)))
    · refine gl_nil <| gx_then <| gc_cond_t rfl <| gc_seq <| gc_region <| gl_op <| op_rd rfl (rd_move rfl) <| gl_op <| op_rd rfl (rd_move rfl) <| gl_op <| op_rd rfl (rd_assign rfl) <| gl_op <| op_rd rfl (rd_assign rfl) <| gl_nil <| gx_then <| gc_ret <| gx_block_ret <| gx_then_ret <| gx_then_ret <| gx_block_ret <| gx_then_ret <| gx_ret2 (.inl rfl) Tryz.results66 rfl rfl [0, 1] (by decide) ?_
      rw [hrun, runE_at hx, if_pos (by omega)]
      exact ⟨rfl, rfl⟩
    refine gl_nil <| gx_then <| gc_cond_f rfl <| gc_skip <| gx_block <| gx_then <| gc_region <| gl_op (op_rd rfl (by exact rd_addN (b := 1) rfl rfl (by omega)) ?_)
    refine gl_op <| op_rd rfl (rd_move rfl) <| gl_nil <| gx_then ?_
    exact gx_cut ((k + 1, rkK K1 x)) ⟨⟨by simp only; omega, by simp only; rw [hrun, runE_at hx, if_neg (by omega)]⟩, by simp only; omega⟩ ⟨rfl, rfl, rfl, rfl, trivial⟩ ⟨[1, 0], by decide, rfl⟩
  refine gl_nil <| gx_then <| gc_seq <| gc_cond_f rfl <| gc_exit <| gx_then_exit <| gx_then_exit <| gx_block_exit <| gx_then <| gc_seq <| gc_region <| gl_op <| op_rd rfl (rd_assign rfl) <| gl_op <| op_rd rfl (rd_assign rfl) <| gl_nil <| gx_then <| gc_ret <| gx_ret2 (.inl rfl) Tryz.results66 rfl rfl [1, 0] (by decide) ?_
  rw [hrun, List.drop_eq_nil_of_le (by omega)]
  exact ⟨rfl, rfl⟩
set_option maxRecDepth 100000 in
set_option maxHeartbeats 1000000 in
theorem firstC_ok (s : Org) (cb mb : Nat) (K : List ByteArray) (l : List Cp) (a : Option Addr) (cp : Nat) (hl : l.length ≤ 140737488355328) (hn : ∀ x ∈ l, x.name.size ≤ 140737488355328) (hsd : s.ds.length ≤ 6) (w0 : World) (hown : Own w0 [cb, mb] w0 [CB s cb mb, OB mb K]) (hsl : OldSl w0 [cb, mb] a l.length 6 (l.flatMap Cp.cells)) : Sp Tryz.prog 72 [.slice a l.length cp, .func (.func 73) #[.pointer (some ⟨cb, 0, none⟩)] #[]] w0 [cb, mb] (fun v L => v = .tuple #[natV (runE (cpE s.ds.length) cpK K l 0).1.1, .int .i64 (runE (cpE s.ds.length) cpK K l 0).1.2] ∧ L = [CB s cb mb, OB mb (runE (cpE s.ds.length) cpK K l 0).2]) := by
  unfold CB OB at hown
  refine spec_enter Tryz.func72 rfl Tryz.ntmps72 rfl hown ?_
  simp only [argEnv]
  refine gc_seq <| gc_region <| gl_op <| op_rd rfl (rd_assign rfl) <| gl_op <| op_rd rfl (rd_assign rfl) <| gl_nil <| gx_then <| gc_seq <| gc_seq <| gc_region <| gl_op <| op_rd rfl (rd_move rfl) <| gl_op <| op_rd rfl (rd_lenSlice Tryz.underlying25 rfl) <| gl_op <| op_rd rfl (rd_move rfl) <| gl_nil <| gx_then <| gc_block <| gc_loopF (ι := Nat × List ByteArray) [(1, _), (9, _), (10, _)] [_] (fun j => j.1 ≤ l.length ∧ runE (cpE s.ds.length) cpK K l 0 = runE (cpE s.ds.length) cpK j.2 (l.drop j.1) j.1) (fun j Fr0 => ((11, natV j.1) :: Fr0)) (fun j Fr0 => (.obj mb (seenO j.2) :: Fr0)) (fun j => l.length - j.1) (0, K) (⟨Nat.zero_le _, rfl⟩) ⟨rfl, rfl, rfl, rfl, trivial⟩ ⟨[1, 0], by decide, rfl⟩ ?_
  rintro ⟨k, K1⟩ ⟨hk, hrun⟩
  simp only at hk hrun ⊢
  refine gc_seq <| gc_region <| gl_op (op_rd rfl (rd_lss rfl rfl) (gk_dec (fun h12 => ?_) (fun h12 => ?_)))
  · obtain ⟨x, hx⟩ := get_some (show k < l.length by omega)
    have hxm := List.mem_of_getElem? hx
    refine gl_nil <| gx_then <| gc_seq <| gc_cond_t rfl <| gc_skip <| gx_then <| gc_seq <| gc_block <| gc_seq <| gc_region <| gl_op <| op_rd rfl (rd_move rfl) <| gl_op (op_rd rfl (by exact rd_indexOld (by assumption) Tryz.underlying25 ty_58 rfl rfl (by omega) (by omega)) ?_)
    refine gl_op (op_rd rfl (rd_loadAgg Tryz.underlying58 rfl ty_58 rfl (cs_slN hsl (flat_drop_get Cp.cells 6 (fun _ => rfl) hx)) rfl) ?_)
    refine gl_op (op_alloc ty_58 rfl rfl (fun b7 => ?_))
    refine gl_op <| op_rd rfl (rd_assign rfl) <| gl_op (op_storeAgg 0 ty_58 rfl rfl rfl rfl rfl rfl (by rfl) ?_)
    refine gl_nil <| gx_then <| gc_seq <| gc_region <| gl_op <| op_rd rfl (rd_move rfl) <| gl_op (op_rd rfl (rd_loadAgg Tryz.underlying58 rfl ty_58 rfl (by exact cs_blk 0 (off := 0) (k := 6) rfl rfl) rfl) ?_)
    simp only [Cp.cells]
    refine gl_op (op_callM [2, 1] [0] rfl (vf := [.pointer (some ⟨cb, 0, none⟩)]) (vc := []) rfl rfl Tryz.call73 (by decide) rfl (fun w how hc => coupler_ok s cb mb K1 x (hn x hxm) hsd w hc) ?_)
    rintro _ _ ⟨rfl, rfl⟩
    refine gl_op <| op_rd rfl (rd_assign rfl) <| gl_nil <| gx_then <| gc_seq <| gc_region <| gl_op <| op_rd rfl (rd_move rfl) <| gl_op (op_rd rfl (rd_neq rfl rfl) (gk_dec (fun h20 => ?_) (fun h20 => ?_)))
    · refine gl_nil <| gx_then <| gc_cond_t rfl <| gc_seq <| gc_region <| gl_op <| op_rd rfl (rd_move rfl) <| gl_op <| op_rd rfl (rd_move rfl) <| gl_op <| op_rd rfl (rd_assign rfl) <| gl_op <| op_rd rfl (rd_assign rfl) <| gl_nil <| gx_then <| gc_ret <| gx_block_ret <| gx_then_ret <| gx_then_ret <| gx_block_ret <| gx_then_ret <| gx_ret2 (.inl rfl) Tryz.results72 rfl rfl [0, 1] (by decide) ?_
      rw [hrun, runE_at hx, if_pos (by omega)]
      exact ⟨rfl, rfl⟩
    refine gl_nil <| gx_then <| gc_cond_f rfl <| gc_skip <| gx_block <| gx_then <| gc_region <| gl_op (op_rd rfl (by exact rd_addN (b := 1) rfl rfl (by omega)) ?_)
    refine gl_op <| op_rd rfl (rd_move rfl) <| gl_nil <| gx_then ?_
    exact gx_cut ((k + 1, cpK K1 x)) ⟨⟨by simp only; omega, by simp only; rw [hrun, runE_at hx, if_neg (by omega)]⟩, by simp only; omega⟩ ⟨rfl, rfl, rfl, rfl, trivial⟩ ⟨[1, 0], by decide, rfl⟩
  refine gl_nil <| gx_then <| gc_seq <| gc_cond_f rfl <| gc_exit <| gx_then_exit <| gx_then_exit <| gx_block_exit <| gx_then <| gc_seq <| gc_region <| gl_op <| op_rd rfl (rd_assign rfl) <| gl_op <| op_rd rfl (rd_assign rfl) <| gl_nil <| gx_then <| gc_ret <| gx_ret2 (.inl rfl) Tryz.results72 rfl rfl [1, 0] (by decide) ?_
  rw [hrun, List.drop_eq_nil_of_le (by omega)]
  exact ⟨rfl, rfl⟩
end Go.Proofs.YtbjijbbkfgcleaaGreatDoor
namespace Go.Proofs.YtbjijbbkfgcleaaGreatDoor
open Go.Gv
open Go.RowKit
open Go.Sn
open Sx
namespace Sx
/-- what the closure of parts sees -/
structure PEnv (s : Org) (x : St) (cb mb b4 b1 b10 : Nat) (w : World) : Prop where
  fc : w.cell? ⟨b4, 0, none⟩ = some (.pointer (some ⟨cb, 0, none⟩))
  fs : Cells w ⟨b1, 0, none⟩ [.slice s.da s.ds.length s.dc, .slice s.ra s.rs.length s.rc, .slice s.sa s.ss.length s.sc, .slice s.ca s.cs.length s.cc]
  fx : Cells w ⟨b10, 0, none⟩ [.string x.name, .int .i64 x.div, .int .i64 x.num, .int .i64 x.den, .slice x.pa x.ps.length x.pc]
  fk : Cells w ⟨cb, 0, none⟩ [.slice s.da s.ds.length s.dc, .slice s.ra s.rs.length s.rc, .slice s.sa s.ss.length s.sc, .slice s.ca s.cs.length s.cc, .map (some mb)]
  fd : OldSl w [] s.da s.ds.length 3 (s.ds.flatMap Dv.cells)
  fr : OldSl w [] s.ra s.rs.length 6 (s.rs.flatMap Rk.cells)
theorem PEnv.at {s : Org} {x : St} {cb mb b4 b1 b10 : Nat} {w0 w : World} {l : List HL} (h : PEnv s x cb mb b4 b1 b10 w0) (ho : Own w0 [] w l) : PEnv s x cb mb b4 b1 b10 w :=
  ⟨ho.cellOld h.fc (by simp), h.fs.at ho, h.fx.at ho, h.fk.at ho, h.fd.at ho, h.fr.at ho⟩
/-- what parts are looked at under -/
structure PGood (s : Org) (x : St) (d : Dv) : Prop where
  rl : s.rs.length ≤ 40
  d0 : 0 ≤ d.lo
  d1 : d.hi ≤ 127
  rk : ∀ r ∈ s.rs, 0 ≤ r.low ∧ r.low ≤ 127 ∧ 1 ≤ r.count ∧ r.count ≤ 97
  x0 : 0 ≤ x.div
  dx : s.ds[x.div.toNat]? = some d
end Sx
open Sx
set_option maxRecDepth 100000 in
set_option maxHeartbeats 1000000 in
theorem partC_ok (s : Org) (x : St) (d : Dv) (cb mb b4 b1 b10 : Nat) (p : Pt) (hg : PGood s x d) (w0 : World) (he : PEnv s x cb mb b4 b1 b10 w0) : Sp Tryz.prog 69 [p.val, .pointer (some ⟨b4, 0, none⟩), .pointer (some ⟨b1, 0, none⟩), .pointer (some ⟨b10, 0, none⟩)] w0 [] (RV (.int .i64 (ptErr s.rs d p))) := by
  obtain ⟨hc, hs, hx, hk, hd, hr⟩ := he
  obtain ⟨hrl, hd0, hd1, hrk, hx0, hdx⟩ := hg
  have hdl : x.div.toNat < s.ds.length := (List.getElem?_eq_some_iff.1 hdx).1
  refine spec_enter Tryz.func69 rfl Tryz.ntmps69 rfl (Own.refl _) ?_
  simp only [argEnv]
  refine gc_seq <| gc_region <| gl_op (op_box rfl rfl rfl (fun b4 => ?_))
  refine gl_op <| op_rd rfl (rd_assign rfl) <| gl_nil <| gx_then <| gc_seq <| gc_drawP [0] true 9 rfl <| ga_first 0 (bm 10 1) rfl rfl rfl rfl (by kernel_rfl) (by kernel_rfl) ⟨[0], by decide, rfl⟩ (qt_rd (rd_load Tryz.underlying135 rfl rfl (ld_old hc (by simp)))) ?_
  refine ga_first 1 (bm 10 3) rfl rfl rfl rfl (by kernel_rfl) (by kernel_rfl) ⟨[0], by decide, rfl⟩ (qt_rd (rd_fieldAddr rfl (fa_27_0 _))) ?_
  refine ga_first 2 (bm 10 7) rfl rfl rfl rfl (by kernel_rfl) (by kernel_rfl) ⟨[0], by decide, rfl⟩ (qt_rd (rd_load Tryz.underlying22 rfl rfl (ld_cells hs (by simp) rfl))) ?_
  refine ga_first 3 (bm 10 15) rfl rfl rfl rfl (by kernel_rfl) (by kernel_rfl) ⟨[0], by decide, rfl⟩ (qt_rd (rd_fieldAddr rfl (fa_56_1 _))) ?_
  refine ga_first 4 (bm 10 31) rfl rfl rfl rfl (by kernel_rfl) (by kernel_rfl) ⟨[0], by decide, rfl⟩ (qt_rd (rd_load Tryz.underlying3 rfl rfl (ld_cells hx (by simp) rfl))) ?_
  refine ga_first 5 (bm 10 63) rfl rfl rfl rfl (by kernel_rfl) (by kernel_rfl) ⟨[0], by decide, rfl⟩ (qt_rd (rd_indexOld hd Tryz.underlying22 ty_49 rfl rfl (by omega) (by omega))) ?_
  refine ga_first 6 (bm 10 127) rfl rfl rfl rfl (by kernel_rfl) (by kernel_rfl) ⟨[0], by decide, rfl⟩ (qt_rd (rd_loadAgg Tryz.underlying49 rfl ty_49 rfl (cs_sl hd (flat_drop_get Dv.cells 3 (fun _ => rfl) hdx)) rfl)) ?_
  refine ga_first 7 (bm 10 255) rfl rfl rfl rfl (by kernel_rfl) (by kernel_rfl) ⟨[0], by decide, rfl⟩ (qt_rd (rd_loadAgg Tryz.underlying104 rfl ty_104 rfl (by exact cs_blk 0 (off := 0) (k := 4) rfl rfl) rfl)) ?_
  simp only [Dv.cells]
  refine ga_first 8 (bm 10 511) rfl rfl rfl rfl (by kernel_rfl) (by kernel_rfl) ⟨[0], by decide, rfl⟩ (qt_call (vf := []) (vc := []) rfl rfl Tryz.call70 (fun w1 ho => part_ok s cb mb d p hrl hd0 hd1 hrk w1 (hk.at ho) (hr.at ho)) (by rintro _ _ ⟨h, _⟩; exact h)) ?_
  refine ga_first 9 (bm 10 1023) rfl rfl rfl rfl (by kernel_rfl) (by kernel_rfl) ⟨[0], by decide, rfl⟩ (qt_rd (rd_assign rfl)) ?_
  refine ga_end (by kernel_rfl) (.inr ⟨[0], by decide, rfl⟩) ?_
  refine gx_then <| gc_ret <| gx_ret1 (.inl rfl) Tryz.results69 rfl [] (by decide) ?_
  exact ⟨rfl, rfl⟩
set_option maxRecDepth 100000 in
set_option maxHeartbeats 1000000 in
theorem firstP_ok (s : Org) (x : St) (d : Dv) (cb mb b4 b1 b10 : Nat) (l : List Pt) (a : Option Addr) (cp : Nat) (hl : l.length ≤ 140737488355328) (hg : PGood s x d) (w0 : World) (he : PEnv s x cb mb b4 b1 b10 w0) (hsl : OldSl w0 [] a l.length 4 (l.flatMap Pt.cells)) : Sp Tryz.prog 71 [.slice a l.length cp, .func (.func 69) #[] #[.pointer (some ⟨b4, 0, none⟩), .pointer (some ⟨b1, 0, none⟩), .pointer (some ⟨b10, 0, none⟩)]] w0 [] (RV (.tuple #[natV (runP s d l 0).1, .int .i64 (runP s d l 0).2])) := by
  refine spec_enter Tryz.func71 rfl Tryz.ntmps71 rfl (Own.refl _) ?_
  simp only [argEnv]
  refine gc_seq <| gc_region <| gl_op <| op_rd rfl (rd_assign rfl) <| gl_op <| op_rd rfl (rd_assign rfl) <| gl_nil <| gx_then <| gc_seq <| gc_seq <| gc_region <| gl_op <| op_rd rfl (rd_move rfl) <| gl_op <| op_rd rfl (rd_lenSlice Tryz.underlying54 rfl) <| gl_op <| op_rd rfl (rd_move rfl) <| gl_nil <| gx_then <| gc_block <| gc_loopF (ι := Nat) [(1, _), (9, _), (10, _)] [] (fun k => k ≤ l.length ∧ runP s d l 0 = runP s d (l.drop k) k) (fun k Fr0 => ((11, natV k) :: Fr0)) (fun k Fr0 => Fr0) (fun k => l.length - k) 0 (⟨Nat.zero_le _, rfl⟩) ⟨rfl, rfl, rfl, rfl, trivial⟩ ⟨[], by decide, rfl⟩ ?_
  rintro k ⟨hk, hrun⟩
  refine gc_seq <| gc_region <| gl_op (op_rd rfl (rd_lss rfl rfl) (gk_dec (fun h12 => ?_) (fun h12 => ?_)))
  · obtain ⟨p, hp⟩ := get_some (show k < l.length by omega)
    refine gl_nil <| gx_then <| gc_seq <| gc_cond_t rfl <| gc_skip <| gx_then <| gc_seq <| gc_block <| gc_seq <| gc_region <| gl_op <| op_rd rfl (rd_move rfl) <| gl_op (op_rd rfl (by exact rd_indexOld (by assumption) Tryz.underlying54 ty_104 rfl rfl (by omega) (by omega)) ?_)
    refine gl_op (op_rd rfl (rd_loadAgg Tryz.underlying104 rfl ty_104 rfl (cs_slN hsl (flat_drop_get Pt.cells 4 (fun _ => rfl) hp)) rfl) ?_)
    refine gl_op (op_alloc ty_104 rfl rfl (fun b7 => ?_))
    refine gl_op <| op_rd rfl (rd_assign rfl) <| gl_op (op_storeAgg 0 ty_104 rfl rfl rfl rfl rfl rfl (by rfl) ?_)
    refine gl_nil <| gx_then <| gc_seq <| gc_region <| gl_op <| op_rd rfl (rd_move rfl) <| gl_op (op_rd rfl (rd_loadAgg Tryz.underlying104 rfl ty_104 rfl (by exact cs_blk 0 (off := 0) (k := 4) rfl rfl) rfl) ?_)
    simp only [Pt.cells]
    refine gl_op (op_call rfl (vf := []) (vc := [.pointer (some ⟨b4, 0, none⟩), .pointer (some ⟨b1, 0, none⟩), .pointer (some ⟨b10, 0, none⟩)]) rfl rfl Tryz.call69 (fun w1 ho => partC_ok s x d cb mb b4 b1 b10 p hg w1 (he.at ho)) ?_)
    rintro _ _ ⟨rfl, rfl⟩
    refine gl_op <| op_rd rfl (rd_assign rfl) <| gl_nil <| gx_then <| gc_seq <| gc_region <| gl_op <| op_rd rfl (rd_move rfl) <| gl_op (op_rd rfl (rd_neq rfl rfl) (gk_dec (fun h20 => ?_) (fun h20 => ?_)))
    · refine gl_nil <| gx_then <| gc_cond_t rfl <| gc_seq <| gc_region <| gl_op <| op_rd rfl (rd_move rfl) <| gl_op <| op_rd rfl (rd_move rfl) <| gl_op <| op_rd rfl (rd_assign rfl) <| gl_op <| op_rd rfl (rd_assign rfl) <| gl_nil <| gx_then <| gc_ret <| gx_block_ret <| gx_then_ret <| gx_then_ret <| gx_block_ret <| gx_then_ret <| gx_ret2 (.inl rfl) Tryz.results71 rfl rfl [] (by decide) ?_
      rw [hrun, runP_at hp, if_pos (by omega)]
      exact ⟨rfl, rfl⟩
    refine gl_nil <| gx_then <| gc_cond_f rfl <| gc_skip <| gx_block <| gx_then <| gc_region <| gl_op (op_rd rfl (by exact rd_addN (b := 1) rfl rfl (by omega)) ?_)
    refine gl_op <| op_rd rfl (rd_move rfl) <| gl_nil <| gx_then ?_
    exact gx_cut (k + 1) ⟨⟨by omega, by rw [hrun, runP_at hp, if_neg (by omega)]⟩, by omega⟩ ⟨rfl, rfl, rfl, rfl, trivial⟩ ⟨[], by decide, rfl⟩
  refine gl_nil <| gx_then <| gc_seq <| gc_cond_f rfl <| gc_exit <| gx_then_exit <| gx_then_exit <| gx_block_exit <| gx_then <| gc_seq <| gc_region <| gl_op <| op_rd rfl (rd_assign rfl) <| gl_op <| op_rd rfl (rd_assign rfl) <| gl_nil <| gx_then <| gc_ret <| gx_ret2 (.inl rfl) Tryz.results71 rfl rfl [] (by decide) ?_
  rw [hrun, List.drop_eq_nil_of_le (by omega)]
  exact ⟨rfl, rfl⟩
end Go.Proofs.YtbjijbbkfgcleaaGreatDoor
namespace Go.Proofs.YtbjijbbkfgcleaaGreatDoor
open Go.Gv
open Go.RowKit
open Go.Sn
open Sx
set_option maxRecDepth 100000 in
set_option maxHeartbeats 1000000 in
theorem specCheck_ok (s : Org) (hle : OrgLe s) (w0 : World) (hS : OrgIn s w0 []) : Sp Tryz.prog 40 [s.val] w0 [] (RV (.tuple #[(checkC s).1.val, .int .i64 (checkC s).2])) := by
  refine spec_enter Tryz.func40 rfl Tryz.ntmps40 rfl (Own.refl _) ?_
  simp only [argEnv]
  refine gc_seq <| gc_region <| gl_op (op_box rfl rfl rfl (fun b1 => ?_))
  refine gl_op (op_alloc ty_90 rfl rfl (fun b2 => ?_))
  refine gl_op <| op_rd rfl (rd_assign rfl) <| gl_nil <| gx_then <| gc_seq <| gc_seq <| gc_region <| gl_op <| op_rd rfl (rd_fieldAddr rfl (fa_27_0 _)) <| gl_op (op_rd rfl (rd_load Tryz.underlying22 rfl rfl (by exact ld_blk 1 rfl rfl)) ?_)
  refine gl_op <| op_rd rfl (rd_lenSlice Tryz.underlying22 rfl) <| gl_op (op_rd rfl (rd_gtr rfl rfl) (gk_dec (fun h20 => ?_) (fun h20 => ?_)))
  · refine gl_op <| op_rd rfl (rd_move rfl) <| gl_no rfl rfl rfl <| gl_no rfl rfl rfl <| gl_no rfl rfl rfl <| gl_no rfl rfl rfl <| gl_op <| op_rd rfl (rd_pick_t rfl rfl) <| gl_op <| op_rd rfl (rd_move rfl) <| gl_no rfl rfl rfl <| gl_no rfl rfl rfl <| gl_no rfl rfl rfl <| gl_no rfl rfl rfl <| gl_op <| op_rd rfl (rd_pick_t rfl rfl) <| gl_op <| op_rd rfl (rd_move rfl) <| gl_no rfl rfl rfl <| gl_no rfl rfl rfl <| gl_no rfl rfl rfl <| gl_no rfl rfl rfl <| gl_op <| op_rd rfl (rd_pick_t rfl rfl) <| gl_nil <| gx_then <| gc_cond_t rfl <| gc_seq <| gc_region <| gl_op (op_rd rfl (rd_build rfl (fun _ => bd_90_)) ?_)
    refine gl_op (op_storeAgg 0 ty_90 rfl rfl rfl rfl rfl rfl (by rfl) ?_)
    refine gl_op <| op_rd rfl (rd_assign rfl) <| gl_nil <| gx_then <| gc_ret <| gx_then_ret <| gx_retV2 (.inl rfl) Tryz.results40 (rv_agg Tryz.underlying90 rfl ty_90 rfl (by rfl) (cs_blk 0 (off := 0) (k := 3) rfl rfl)) (rv_tmp rfl) [] (by decide) ?_
    refine ⟨?_, rfl⟩
    have he : checkC s = (⟨0, 0, 0⟩, 3) := by
      unfold checkC; rw [if_pos (by unfold longB; simp; omega)]
    rw [he]
    rfl
  refine gl_op <| op_rd rfl (rd_move rfl) <| gl_yes rfl rfl <| op_rd rfl (rd_fieldAddr rfl (fa_27_1 _)) <| gl_yes rfl rfl (op_rd rfl (rd_load Tryz.underlying23 rfl rfl (by exact ld_blk 1 rfl rfl)) ?_)
  refine gl_yes rfl rfl <| op_rd rfl (rd_lenSlice Tryz.underlying23 rfl) <| gl_yes rfl rfl (op_rd rfl (rd_gtr rfl rfl) (gk_dec (fun h25 => ?_) (fun h25 => ?_)))
  · refine gl_op <| op_rd rfl (rd_pick_f rfl rfl) <| gl_op <| op_rd rfl (rd_move rfl) <| gl_no rfl rfl rfl <| gl_no rfl rfl rfl <| gl_no rfl rfl rfl <| gl_no rfl rfl rfl <| gl_op <| op_rd rfl (rd_pick_t rfl rfl) <| gl_op <| op_rd rfl (rd_move rfl) <| gl_no rfl rfl rfl <| gl_no rfl rfl rfl <| gl_no rfl rfl rfl <| gl_no rfl rfl rfl <| gl_op <| op_rd rfl (rd_pick_t rfl rfl) <| gl_nil <| gx_then <| gc_cond_t rfl <| gc_seq <| gc_region <| gl_op (op_rd rfl (rd_build rfl (fun _ => bd_90_)) ?_)
    refine gl_op (op_storeAgg 0 ty_90 rfl rfl rfl rfl rfl rfl (by rfl) ?_)
    refine gl_op <| op_rd rfl (rd_assign rfl) <| gl_nil <| gx_then <| gc_ret <| gx_then_ret <| gx_retV2 (.inl rfl) Tryz.results40 (rv_agg Tryz.underlying90 rfl ty_90 rfl (by rfl) (cs_blk 0 (off := 0) (k := 3) rfl rfl)) (rv_tmp rfl) [] (by decide) ?_
    refine ⟨?_, rfl⟩
    have he : checkC s = (⟨0, 0, 0⟩, 3) := by
      unfold checkC; rw [if_pos (by unfold longB; simp; omega)]
    rw [he]
    rfl
  refine gl_op <| op_rd rfl (rd_pick_f rfl rfl) <| gl_op <| op_rd rfl (rd_move rfl) <| gl_yes rfl rfl <| op_rd rfl (rd_fieldAddr rfl (fa_27_2 _)) <| gl_yes rfl rfl (op_rd rfl (rd_load Tryz.underlying24 rfl rfl (by exact ld_blk 1 rfl rfl)) ?_)
  refine gl_yes rfl rfl <| op_rd rfl (rd_lenSlice Tryz.underlying24 rfl) <| gl_yes rfl rfl (op_rd rfl (rd_gtr rfl rfl) (gk_dec (fun h31 => ?_) (fun h31 => ?_)))
  · refine gl_op <| op_rd rfl (rd_pick_f rfl rfl) <| gl_op <| op_rd rfl (rd_move rfl) <| gl_no rfl rfl rfl <| gl_no rfl rfl rfl <| gl_no rfl rfl rfl <| gl_no rfl rfl rfl <| gl_op <| op_rd rfl (rd_pick_t rfl rfl) <| gl_nil <| gx_then <| gc_cond_t rfl <| gc_seq <| gc_region <| gl_op (op_rd rfl (rd_build rfl (fun _ => bd_90_)) ?_)
    refine gl_op (op_storeAgg 0 ty_90 rfl rfl rfl rfl rfl rfl (by rfl) ?_)
    refine gl_op <| op_rd rfl (rd_assign rfl) <| gl_nil <| gx_then <| gc_ret <| gx_then_ret <| gx_retV2 (.inl rfl) Tryz.results40 (rv_agg Tryz.underlying90 rfl ty_90 rfl (by rfl) (cs_blk 0 (off := 0) (k := 3) rfl rfl)) (rv_tmp rfl) [] (by decide) ?_
    refine ⟨?_, rfl⟩
    have he : checkC s = (⟨0, 0, 0⟩, 3) := by
      unfold checkC; rw [if_pos (by unfold longB; simp; omega)]
    rw [he]
    rfl
  refine gl_op <| op_rd rfl (rd_pick_f rfl rfl) <| gl_op <| op_rd rfl (rd_move rfl) <| gl_yes rfl rfl <| op_rd rfl (rd_fieldAddr rfl (fa_27_3 _)) <| gl_yes rfl rfl (op_rd rfl (rd_load Tryz.underlying25 rfl rfl (by exact ld_blk 1 rfl rfl)) ?_)
  refine gl_yes rfl rfl <| op_rd rfl (rd_lenSlice Tryz.underlying25 rfl) <| gl_yes rfl rfl (op_rd rfl (rd_gtr rfl rfl) (gk_dec (fun h37 => ?_) (fun h37 => ?_)))
  · refine gl_op <| op_rd rfl (rd_pick_f rfl rfl) <| gl_nil <| gx_then <| gc_cond_t rfl <| gc_seq <| gc_region <| gl_op (op_rd rfl (rd_build rfl (fun _ => bd_90_)) ?_)
    refine gl_op (op_storeAgg 0 ty_90 rfl rfl rfl rfl rfl rfl (by rfl) ?_)
    refine gl_op <| op_rd rfl (rd_assign rfl) <| gl_nil <| gx_then <| gc_ret <| gx_then_ret <| gx_retV2 (.inl rfl) Tryz.results40 (rv_agg Tryz.underlying90 rfl ty_90 rfl (by rfl) (cs_blk 0 (off := 0) (k := 3) rfl rfl)) (rv_tmp rfl) [] (by decide) ?_
    refine ⟨?_, rfl⟩
    have he : checkC s = (⟨0, 0, 0⟩, 3) := by
      unfold checkC; rw [if_pos (by unfold longB; simp; omega)]
    rw [he]
    rfl
  refine gl_op <| op_rd rfl (rd_pick_f rfl rfl) <| gl_nil <| gx_then <| gc_cond_f rfl <| gc_skip <| gx_then <| gc_seq ?_
  have hlong : longB s = false := by
    unfold longB; simp; omega
  have hln : s.ds.length ≤ 6 ∧ s.rs.length ≤ 40 ∧ s.ss.length ≤ 80 ∧ s.cs.length ≤ 24 := by omega
  refine gc_region <| gl_op (op_rd rfl (rd_loadAgg Tryz.underlying27 rfl ty_27 rfl (by exact cs_blk 1 (off := 0) (k := 4) rfl rfl) rfl) ?_)
  refine gl_op (op_makeSeen rfl (fun b41 => ?_))
  refine gl_op (op_rd rfl (rd_build rfl (fun _ => bd_138_0_1 _ _ _ _ _ _ _ _ _ _ _ _ _)) ?_)
  refine gl_op (op_box rfl rfl rfl (fun b43 => ?_))
  refine gl_op (op_alloc ty_135 rfl rfl (fun b4 => ?_))
  refine gl_op (op_store 0 ty_135 rfl rfl rfl rfl rfl (by rfl) (by rfl) ?_)
  refine gl_nil <| gx_then <| gc_seq <| gc_seq <| gc_region <| gl_op <| op_rd rfl (rd_fieldAddr rfl (fa_27_0 _)) <| gl_op (op_rd rfl (rd_load Tryz.underlying22 rfl rfl (by exact ld_blk 4 rfl rfl)) ?_)
  refine gl_op (op_rd rfl (rd_load Tryz.underlying135 rfl rfl (by exact ld_blk 0 rfl rfl)) ?_)
  refine gl_op <| op_rd rfl (rd_makeFunc (fs := [.tmp 47]) (cs := []) rfl rfl) <| gl_op (op_callM [1, 2] [0, 3, 4] rfl (vf := []) (vc := []) rfl rfl Tryz.call64 (by decide) rfl (fun w how hc => firstD_ok s b43 b41 [] s.ds s.da s.dc (hle.d) hle.dn w hc (hS.d.atS how (by decide) (two_ge (new_ge how 1 rfl rfl) (new_ge how 2 rfl rfl)))) ?_)
  rintro _ _ ⟨rfl, rfl⟩
  obtain ⟨rD, hrD⟩ : ∃ r, runE dvE dvK [] s.ds 0 = r := ⟨_, rfl⟩
  rw [hrD]
  refine gl_op <| op_rd rfl (rd_move rfl) <| gl_op <| op_rd rfl (rd_extract rfl rfl) <| gl_op <| op_rd rfl (rd_extract rfl rfl) <| gl_op <| op_rd rfl (rd_assign rfl) <| gl_op <| op_rd rfl (rd_assign rfl) <| gl_nil <| gx_then <| gc_seq <| gc_region <| gl_op <| op_rd rfl (rd_move rfl) <| gl_op (op_rd rfl (rd_neq rfl rfl) (gk_dec (fun h53 => ?_) (fun h53 => ?_)))
  · refine gl_nil <| gx_then <| gc_cond_t rfl <| gc_seq <| gc_region <| gl_op <| op_rd rfl (rd_move rfl) <| gl_op (op_rd rfl (rd_build rfl (fun _ => bd_90_0_1 _ _)) ?_)
    refine gl_op <| op_rd rfl (rd_move rfl) <| gl_op (op_storeAgg 3 ty_90 rfl rfl rfl rfl rfl rfl (by rfl) ?_)
    refine gl_op <| op_rd rfl (rd_assign rfl) <| gl_nil <| gx_then <| gc_ret <| gx_then_ret <| gx_retV2 (.inl rfl) Tryz.results40 (rv_agg Tryz.underlying90 rfl ty_90 rfl (by rfl) (cs_blk 3 (off := 0) (k := 3) rfl rfl)) (rv_tmp rfl) [] (by decide) ?_
    refine ⟨?_, rfl⟩
    have he : checkC s = (⟨1, rD.1.1, 0⟩, rD.1.2) := by
      unfold checkC; rw [if_neg (by rw [hlong]; decide), hrD, if_pos h53]
    rw [he]
    rfl
  refine gl_nil <| gx_then <| gc_cond_f rfl <| gc_skip <| gx_then <| gc_seq <| gc_seq <| gc_region <| gl_op <| op_rd rfl (rd_fieldAddr rfl (fa_27_1 _)) <| gl_op (op_rd rfl (rd_load Tryz.underlying23 rfl rfl (by exact ld_blk 4 rfl rfl)) ?_)
  refine gl_op (op_rd rfl (rd_load Tryz.underlying135 rfl rfl (by exact ld_blk 2 rfl rfl)) ?_)
  refine gl_op <| op_rd rfl (rd_makeFunc (fs := [.tmp 60]) (cs := []) rfl rfl) <| gl_op (op_callM [0, 1] [2, 3, 4] rfl (vf := []) (vc := []) rfl rfl Tryz.call66 (by decide) rfl (fun w how hc => firstR_ok s b43 b41 rD.2 s.rs s.ra s.rc (hle.r) hle.rn w hc (hS.r.atS how (by decide) (two_ge (new_ge how 0 rfl rfl) (new_ge how 1 rfl rfl)))) ?_)
  rintro _ _ ⟨rfl, rfl⟩
  obtain ⟨rR, hrR⟩ : ∃ r, runE rkE rkK rD.2 s.rs 0 = r := ⟨_, rfl⟩
  rw [hrR]
  refine gl_op <| op_rd rfl (rd_move rfl) <| gl_op <| op_rd rfl (rd_extract rfl rfl) <| gl_op <| op_rd rfl (rd_extract rfl rfl) <| gl_op <| op_rd rfl (rd_assign rfl) <| gl_op <| op_rd rfl (rd_assign rfl) <| gl_nil <| gx_then <| gc_seq <| gc_region <| gl_op <| op_rd rfl (rd_move rfl) <| gl_op (op_rd rfl (rd_neq rfl rfl) (gk_dec (fun h66 => ?_) (fun h66 => ?_)))
  · refine gl_nil <| gx_then <| gc_cond_t rfl <| gc_seq <| gc_region <| gl_op <| op_rd rfl (rd_move rfl) <| gl_op (op_rd rfl (rd_build rfl (fun _ => bd_90_0_1 _ _)) ?_)
    refine gl_op <| op_rd rfl (rd_move rfl) <| gl_op (op_storeAgg 3 ty_90 rfl rfl rfl rfl rfl rfl (by rfl) ?_)
    refine gl_op <| op_rd rfl (rd_assign rfl) <| gl_nil <| gx_then <| gc_ret <| gx_then_ret <| gx_retV2 (.inl rfl) Tryz.results40 (rv_agg Tryz.underlying90 rfl ty_90 rfl (by rfl) (cs_blk 3 (off := 0) (k := 3) rfl rfl)) (rv_tmp rfl) [] (by decide) ?_
    refine ⟨?_, rfl⟩
    have he : checkC s = (⟨2, rR.1.1, 0⟩, rR.1.2) := by
      unfold checkC; rw [if_neg (by rw [hlong]; decide), hrD, if_neg (by omega), hrR, if_pos h66]
    rw [he]
    rfl
  refine gl_nil <| gx_then <| gc_cond_f rfl <| gc_skip <| gx_then <| gc_seq <| gc_seq <| gc_region <| gl_op <| op_rd rfl (rd_fieldAddr rfl (fa_27_2 _)) <| gl_op (op_rd rfl (rd_load Tryz.underlying24 rfl rfl (by exact ld_blk 4 rfl rfl)) ?_)
  refine gl_op <| op_rd rfl (rd_lenSlice Tryz.underlying24 rfl) <| gl_op <| op_rd rfl (rd_move rfl) <| gl_nil <| gx_then <| gc_block <| gc_loopF (ι := Nat × List ByteArray) [(1, _), (2, _), (4, _), (71, _), (72, _)] [_, _, _, _] (fun j => j.1 ≤ s.ss.length ∧ runS s rR.2 s.ss 0 = runS s j.2 (s.ss.drop j.1) j.1) (fun j Fr0 => ((73, natV j.1) :: Fr0)) (fun j Fr0 => (.obj b41 (seenO j.2) :: Fr0)) (fun j => s.ss.length - j.1) (0, rR.2) (⟨Nat.zero_le _, rfl⟩) ⟨rfl, rfl, rfl, rfl, rfl, rfl, trivial⟩ ⟨[1, 0, 2, 3, 4], by decide, rfl⟩ ?_
  rintro ⟨k, K1⟩ ⟨hk, hrun⟩
  simp only at hk hrun ⊢
  refine gc_seq <| gc_region <| gl_op (op_rd rfl (rd_lss rfl rfl) (gk_dec (fun h74 => ?_) (fun h74 => ?_)))
  · obtain ⟨x, hx⟩ := get_some (show k < s.ss.length by omega)
    have hxm := List.mem_of_getElem? hx
    refine gl_nil <| gx_then <| gc_seq <| gc_cond_t rfl <| gc_skip <| gx_then <| gc_seq <| gc_block <| gc_seq <| gc_region <| gl_op <| op_rd rfl (rd_move rfl) <| gl_op (op_rd rfl (rd_indexOld hS.t Tryz.underlying24 ty_56 rfl rfl (by omega) (by omega)) ?_)
    refine gl_op (op_rd rfl (rd_loadAgg Tryz.underlying56 rfl ty_56 rfl (cs_slN hS.t (flat_drop_get St.cells 5 (fun _ => rfl) hx)) rfl) ?_)
    refine gl_op (op_alloc ty_56 rfl rfl (fun b10 => ?_))
    refine gl_op <| op_rd rfl (rd_assign rfl) <| gl_op (op_storeAgg 0 ty_56 rfl rfl rfl rfl rfl rfl (by rfl) ?_)
    refine gl_nil <| gx_then <| gc_seq <| gc_seq <| gc_region <| gl_op (op_rd rfl (rd_load Tryz.underlying135 rfl rfl (by exact ld_blk 3 rfl rfl)) ?_)
    refine gl_op (op_rd rfl (rd_loadAgg Tryz.underlying56 rfl ty_56 rfl (by exact cs_blk 0 (off := 0) (k := 5) rfl rfl) rfl) ?_)
    simp only [St.cells]
    refine gl_op (op_callM [2, 1] [0, 3, 4, 5] rfl (vf := []) (vc := []) rfl rfl Tryz.call68 (by decide) rfl (fun w how hc => stop_ok s b43 b41 K1 x (hle.tn x hxm) hln.1 w hc) ?_)
    rintro _ _ ⟨rfl, rfl⟩
    refine gl_op <| op_rd rfl (rd_assign rfl) <| gl_nil <| gx_then <| gc_seq <| gc_region <| gl_op <| op_rd rfl (rd_move rfl) <| gl_op (op_rd rfl (rd_neq rfl rfl) (gk_dec (fun h82 => ?_) (fun h82 => ?_)))
    · refine gl_nil <| gx_then <| gc_cond_t rfl <| gc_seq <| gc_region <| gl_op <| op_rd rfl (rd_move rfl) <| gl_op (op_rd rfl (rd_build rfl (fun _ => bd_90_0_1 _ _)) ?_)
      refine gl_op <| op_rd rfl (rd_move rfl) <| gl_op (op_storeAgg 4 ty_90 rfl rfl rfl rfl rfl rfl (by rfl) ?_)
      refine gl_op <| op_rd rfl (rd_assign rfl) <| gl_nil <| gx_then <| gc_ret <| gx_then_ret <| gx_block_ret <| gx_then_ret <| gx_then_ret <| gx_block_ret <| gx_then_ret <| gx_retV2 (.inl rfl) Tryz.results40 (rv_agg Tryz.underlying90 rfl ty_90 rfl (by rfl) (cs_blk 4 (off := 0) (k := 3) rfl rfl)) (rv_tmp rfl) [] (by decide) ?_
      refine ⟨?_, rfl⟩
      have he : checkC s = (⟨3, k, 0⟩, stE s.ds.length K1 x) := by
        unfold checkC; rw [if_neg (by rw [hlong]; decide), hrD, if_neg (by omega), hrR, if_neg (by omega), hrun, runS_at hx, if_pos (show stE s.ds.length K1 x ≠ 0 by omega), if_pos (show stE s.ds.length K1 x ≠ 0 by omega)]
      rw [he]
      rfl
    refine gl_nil <| gx_then <| gc_cond_f rfl <| gc_skip <| gx_then <| gc_seq ?_
    obtain ⟨hx0, hx1⟩ := stE_idx (show stE s.ds.length K1 x = 0 by omega)
    obtain ⟨d, hdx⟩ := get_some (show x.div.toNat < s.ds.length by omega)
    have hxd := getD_some (d := default) hdx
    have hg : PGood s x d := by
      obtain ⟨K2, h2⟩ := runE_ok (show (runE dvE dvK [] s.ds 0).1.2 = 0 by rw [hrD]; omega) d (List.mem_of_getElem? hdx)
      have h3 := dvBad_no (dvE_ok h2)
      refine ⟨hln.2.1, by omega, by omega, fun r hr => ?_, hx0, hdx⟩
      obtain ⟨K3, h4⟩ := runE_ok (show (runE rkE rkK rD.2 s.rs 0).1.2 = 0 by rw [hrR]; omega) r hr
      have h5 := rkBad_no (rkE_ok h4)
      omega
    refine gc_region <| gl_op <| op_rd rfl (rd_makeFunc (fs := []) (cs := [.tmp 4, .tmp 1, .tmp 10]) rfl rfl) <| gl_op <| op_rd rfl (rd_assign rfl) <| gl_nil <| gx_then <| gc_seq <| gc_region <| gl_op <| op_rd rfl (rd_fieldAddr rfl (fa_56_3 _)) <| gl_op (op_rd rfl (rd_load Tryz.underlying54 rfl rfl (by exact ld_blk 2 rfl rfl)) ?_)
    refine gl_op <| op_rd rfl (rd_move rfl) <| gl_op (op_call rfl (vf := []) (vc := []) rfl rfl Tryz.call71 (fun w how => firstP_ok s x d b43 b41 b4 b1 b10 x.ps x.pa x.pc (hle.p x hxm) hg w ⟨ld_blk 3 rfl rfl w how, how.blkCells 5 rfl, how.blkCells 2 rfl, how.blkCells 0 rfl, hS.d.at how, hS.r.at how⟩ ((hS.p x hxm).at how)) ?_)
    rintro _ _ ⟨rfl, rfl⟩
    have hrl := runP_le (s := s) (d := d) x.ps 0
    obtain ⟨rP, hrP⟩ : ∃ r, runP s d x.ps 0 = r := ⟨_, rfl⟩
    rw [hrP]
    rw [hrP] at hrl
    have hpl := hle.p x hxm
    refine gl_op <| op_rd rfl (rd_move rfl) <| gl_op <| op_rd rfl (rd_extract rfl rfl) <| gl_op <| op_rd rfl (rd_extract rfl rfl) <| gl_op <| op_rd rfl (rd_assign rfl) <| gl_op <| op_rd rfl (rd_assign rfl) <| gl_nil <| gx_then <| gc_seq <| gc_region <| gl_op <| op_rd rfl (rd_move rfl) <| gl_op (op_rd rfl (rd_neq rfl rfl) (gk_dec (fun h95 => ?_) (fun h95 => ?_)))
    · refine gl_nil <| gx_then <| gc_cond_t rfl <| gc_seq <| gc_region <| gl_op <| op_rd rfl (rd_move rfl) <| gl_op <| op_rd rfl (rd_move rfl) <| gl_op (op_rd rfl (by exact rd_addN (b := 1) rfl rfl (by omega)) ?_)
      refine gl_op (op_rd rfl (rd_build rfl (fun _ => bd_90_0_1_2 _ _ _)) ?_)
      refine gl_op <| op_rd rfl (rd_move rfl) <| gl_op (op_storeAgg 4 ty_90 rfl rfl rfl rfl rfl rfl (by rfl) ?_)
      refine gl_op <| op_rd rfl (rd_assign rfl) <| gl_nil <| gx_then <| gc_ret <| gx_block_ret <| gx_then_ret <| gx_then_ret <| gx_block_ret <| gx_then_ret <| gx_retV2 (.inl rfl) Tryz.results40 (rv_agg Tryz.underlying90 rfl ty_90 rfl (by rfl) (cs_blk 4 (off := 0) (k := 3) rfl rfl)) (rv_tmp rfl) [] (by decide) ?_
      refine ⟨?_, rfl⟩
      have he : checkC s = (⟨3, k, rP.1 + 1⟩, rP.2) := by
        unfold checkC; rw [if_neg (by rw [hlong]; decide), hrD, if_neg (by omega), hrR, if_neg (by omega), hrun, runS_at hx, if_neg (show ¬ stE s.ds.length K1 x ≠ 0 by omega), hxd, hrP, if_pos (show rP.2 ≠ 0 by omega), if_pos (show rP.2 ≠ 0 by omega)]
      rw [he]
      rfl
    refine gl_nil <| gx_then <| gc_cond_f rfl <| gc_skip <| gx_block <| gx_then <| gc_region <| gl_op (op_rd rfl (by exact rd_addN (b := 1) rfl rfl (by omega)) ?_)
    refine gl_op <| op_rd rfl (rd_move rfl) <| gl_nil <| gx_then ?_
    exact gx_cut ((k + 1, stK s.ds.length K1 x)) ⟨⟨by simp only; omega, by simp only; rw [hrun, runS_at hx, if_neg (by omega), hxd, hrP, if_neg (by omega)]⟩, by simp only; omega⟩ ⟨rfl, rfl, rfl, rfl, rfl, rfl, trivial⟩ ⟨[1, 0, 3, 4, 5], by decide, rfl⟩
  refine gl_nil <| gx_then <| gc_seq <| gc_cond_f rfl <| gc_exit <| gx_then_exit <| gx_then_exit <| gx_block_exit <| gx_then <| gc_seq <| gc_seq <| gc_region <| gl_op <| op_rd rfl (rd_fieldAddr rfl (fa_27_3 _)) <| gl_op (op_rd rfl (rd_load Tryz.underlying25 rfl rfl (by exact ld_blk 4 rfl rfl)) ?_)
  refine gl_op (op_rd rfl (rd_load Tryz.underlying135 rfl rfl (by exact ld_blk 2 rfl rfl)) ?_)
  refine gl_op <| op_rd rfl (rd_makeFunc (fs := [.tmp 105]) (cs := []) rfl rfl) <| gl_op (op_callM [1, 0] [2, 3, 4] rfl (vf := []) (vc := []) rfl rfl Tryz.call72 (by decide) rfl (fun w how hc => firstC_ok s b43 b41 K1 s.cs s.ca s.cc (hle.c) hle.cn hln.1 w hc (hS.c.atS how (by decide) (two_ge (new_ge how 1 rfl rfl) (new_ge how 0 rfl rfl)))) ?_)
  rintro _ _ ⟨rfl, rfl⟩
  obtain ⟨rC, hrC⟩ : ∃ r, runE (cpE s.ds.length) cpK K1 s.cs 0 = r := ⟨_, rfl⟩
  rw [hrC]
  refine gl_op <| op_rd rfl (rd_move rfl) <| gl_op <| op_rd rfl (rd_extract rfl rfl) <| gl_op <| op_rd rfl (rd_extract rfl rfl) <| gl_op <| op_rd rfl (rd_assign rfl) <| gl_op <| op_rd rfl (rd_assign rfl) <| gl_nil <| gx_then <| gc_seq <| gc_region <| gl_op <| op_rd rfl (rd_move rfl) <| gl_op (op_rd rfl (rd_neq rfl rfl) (gk_dec (fun h111 => ?_) (fun h111 => ?_)))
  · refine gl_nil <| gx_then <| gc_cond_t rfl <| gc_seq <| gc_region <| gl_op <| op_rd rfl (rd_move rfl) <| gl_op (op_rd rfl (rd_build rfl (fun _ => bd_90_0_1 _ _)) ?_)
    refine gl_op <| op_rd rfl (rd_move rfl) <| gl_op (op_storeAgg 3 ty_90 rfl rfl rfl rfl rfl rfl (by rfl) ?_)
    refine gl_op <| op_rd rfl (rd_assign rfl) <| gl_nil <| gx_then <| gc_ret <| gx_then_ret <| gx_retV2 (.inl rfl) Tryz.results40 (rv_agg Tryz.underlying90 rfl ty_90 rfl (by rfl) (cs_blk 3 (off := 0) (k := 3) rfl rfl)) (rv_tmp rfl) [] (by decide) ?_
    refine ⟨?_, rfl⟩
    have he : checkC s = (⟨4, rC.1.1, 0⟩, rC.1.2) := by
      unfold checkC; rw [if_neg (by rw [hlong]; decide), hrD, if_neg (by omega), hrR, if_neg (by omega), hrun, List.drop_eq_nil_of_le (show s.ss.length ≤ k by omega), show runS s K1 [] k = ((0, 0, 0), K1) from rfl, if_neg (show ¬ (0 : Int) ≠ 0 by decide), hrC, if_pos h111]
    rw [he]
    rfl
  refine gl_nil <| gx_then <| gc_cond_f rfl <| gc_skip <| gx_then <| gc_seq <| gc_region <| gl_op (op_rd rfl (rd_build rfl (fun _ => bd_90_)) ?_)
  refine gl_op (op_storeAgg 3 ty_90 rfl rfl rfl rfl rfl rfl (by rfl) ?_)
  refine gl_op <| op_rd rfl (rd_assign rfl) <| gl_nil <| gx_then <| gc_ret <| gx_retV2 (.inl rfl) Tryz.results40 (rv_agg Tryz.underlying90 rfl ty_90 rfl (by rfl) (cs_blk 3 (off := 0) (k := 3) rfl rfl)) (rv_tmp rfl) [] (by decide) ?_
  refine ⟨?_, rfl⟩
  have he : checkC s = (⟨0, 0, 0⟩, 0) := by
    unfold checkC; rw [if_neg (by rw [hlong]; decide), hrD, if_neg (by omega), hrR, if_neg (by omega), hrun, List.drop_eq_nil_of_le (show s.ss.length ≤ k by omega), show runS s K1 [] k = ((0, 0, 0), K1) from rfl, if_neg (show ¬ (0 : Int) ≠ 0 by decide), hrC, if_neg (by omega)]
  rw [he]
  rfl
end Go.Proofs.YtbjijbbkfgcleaaGreatDoor
namespace Go.Proofs.YtbjijbbkfgcleaaGreatDoor
open Go.Gv
open Go.RowKit
open Go.Sn
open Sx
set_option maxRecDepth 100000 in
set_option maxHeartbeats 1000000 in
theorem has_ok (r : Rk) (n : Int) (h1 : -1000 ≤ r.low) (h2 : r.low ≤ 1000) (h3 : -1000 ≤ r.count) (h4 : r.count ≤ 1000) (w0 : World) : Sp Tryz.prog 79 [r.val, .int .i64 n] w0 [] (RV (.bool (decide (r.low ≤ n) && decide (n < r.low + r.count)))) := by
  refine spec_enter Tryz.func79 rfl Tryz.ntmps79 rfl (Own.refl _) ?_
  simp only [argEnv]
  refine gc_seq <| gc_region <| gl_op (op_box rfl rfl rfl (fun b2 => ?_))
  refine gl_op <| op_rd rfl (rd_assign rfl) <| gl_nil <| gx_then <| gc_seq <| gc_region <| gl_op <| op_rd rfl (rd_move rfl) <| gl_op <| op_rd rfl (rd_fieldAddr rfl (fa_53_3 _)) <| gl_op (op_rd rfl (rd_load Tryz.underlying3 rfl rfl (by exact ld_blk 0 rfl rfl)) ?_)
  refine gl_op (op_rd rfl (rd_geq rfl rfl) (gk_dec (fun h8 => ?_) (fun h8 => ?_)))
  · refine gl_op <| op_rd rfl (rd_move rfl) <| gl_yes rfl rfl <| op_rd rfl (rd_move rfl) <| gl_yes rfl rfl <| op_rd rfl (rd_fieldAddr rfl (fa_53_3 _)) <| gl_yes rfl rfl (op_rd rfl (rd_load Tryz.underlying3 rfl rfl (by exact ld_blk 0 rfl rfl)) ?_)
    refine gl_yes rfl rfl <| op_rd rfl (rd_fieldAddr rfl (fa_53_4 _)) <| gl_yes rfl rfl (op_rd rfl (rd_load Tryz.underlying3 rfl rfl (by exact ld_blk 0 rfl rfl)) ?_)
    refine gl_yes rfl rfl (op_rd rfl (by exact rd_add rfl rfl (by omega) (by omega)) ?_)
    refine gl_yes rfl rfl <| op_rd rfl (rd_lss rfl rfl) <| gl_op <| op_rd rfl (rd_pick_t rfl rfl) <| gl_op <| op_rd rfl (rd_assign rfl) <| gl_nil <| gx_then <| gc_ret <| gx_ret1 (.inl rfl) Tryz.results79 rfl [] (by decide) ?_
    refine ⟨congrArg Value.bool ?_, rfl⟩
    simp [*]
  refine gl_op <| op_rd rfl (rd_move rfl) <| gl_no rfl rfl rfl <| gl_no rfl rfl rfl <| gl_no rfl rfl rfl <| gl_no rfl rfl rfl <| gl_no rfl rfl rfl <| gl_no rfl rfl rfl <| gl_no rfl rfl rfl <| gl_op <| op_rd rfl (rd_pick_f rfl rfl) <| gl_op <| op_rd rfl (rd_assign rfl) <| gl_nil <| gx_then <| gc_ret <| gx_ret1 (.inl rfl) Tryz.results79 rfl [] (by decide) ?_
  refine ⟨congrArg Value.bool ?_, rfl⟩
  simp [*]
set_option maxRecDepth 100000 in
set_option maxHeartbeats 1000000 in
theorem rdivision_ok (s : Org) (hle : OrgLe s) (w0 : World) (hS : OrgIn s w0 []) (i : Nat) (hi : i < s.ds.length) : Sp Tryz.prog 49 [s.val, natV i] w0 [] (RV (.int .i64 (dvErr s.ds i))) := by
  obtain ⟨x, hx⟩ := get_some hi
  have hxd := getD_some (d := default) hx
  have hln := hle.d
  refine spec_enter Tryz.func49 rfl Tryz.ntmps49 rfl (Own.refl _) ?_
  simp only [argEnv]
  refine gc_seq <| gc_region <| gl_op (op_box rfl rfl rfl (fun b2 => ?_))
  refine gl_op <| op_rd rfl (rd_assign rfl) <| gl_nil <| gx_then <| gc_seq <| gc_region <| gl_op <| op_rd rfl (rd_fieldAddr rfl (fa_27_0 _)) <| gl_op (op_rd rfl (rd_load Tryz.underlying22 rfl rfl (by exact ld_blk 0 rfl rfl)) ?_)
  refine gl_op <| op_rd rfl (rd_move rfl) <| gl_op (op_rd rfl (rd_indexOld hS.d Tryz.underlying22 ty_49 rfl rfl (by omega) (by omega)) ?_)
  refine gl_op (op_rd rfl (rd_loadAgg Tryz.underlying49 rfl ty_49 rfl (cs_slN hS.d (flat_drop_get Dv.cells 3 (fun _ => rfl) hx)) rfl) ?_)
  refine gl_op (op_alloc ty_49 rfl rfl (fun b5 => ?_))
  refine gl_op (op_storeAgg 0 ty_49 rfl rfl rfl rfl rfl rfl (by rfl) ?_)
  refine gl_nil <| gx_then <| gc_seq <| gc_seq <| gc_region <| gl_op <| op_rd rfl (rd_fieldAddr rfl (fa_49_0 _)) <| gl_op (op_rd rfl (rd_load Tryz.underlying9 rfl rfl (by exact ld_blk 0 rfl rfl)) ?_)
  refine gl_op (op_call rfl (vf := []) (vc := []) rfl rfl Tryz.call75 (fun w1 ho => rName_ok x.name (hle.dn x (List.mem_of_getElem? hx)) w1) ?_)
  rintro _ _ ⟨rfl, rfl⟩
  refine gk_bool (fun hn => ?_) (fun hn => ?_)
  · refine gl_op <| op_rd rfl (rd_not rfl) <| gl_nil <| gx_then <| gc_cond_f rfl <| gc_skip <| gx_then <| gc_seq <| gc_seq <| gc_region <| gl_op <| op_rd rfl (rd_assign rfl) <| gl_nil <| gx_then <| gc_block <| gc_loopF (ι := Nat) [(1, _), (2, _), (5, _)] [_, _] (fun k => k ≤ i ∧ ∀ q, q < k → dvN s.ds q ≠ dvN s.ds i) (fun k Fr0 => ((6, natV k) :: Fr0)) (fun k Fr0 => Fr0) (fun k => i - k) 0 (⟨Nat.zero_le _, fun q hq => absurd hq (Nat.not_lt_zero q)⟩) ⟨rfl, rfl, rfl, rfl, trivial⟩ ⟨[0, 1], by decide, rfl⟩ ?_
    rintro k ⟨hk, hall⟩
    refine gc_seq <| gc_seq <| gc_region <| gl_op <| op_rd rfl (rd_move rfl) <| gl_op <| op_rd rfl (rd_move rfl) <| gl_op (op_rd rfl (rd_lss rfl rfl) (gk_dec (fun h18 => ?_) (fun h18 => ?_)))
    · obtain ⟨y, hy⟩ := get_some (show k < s.ds.length by omega)
      have hyd := getD_some (d := default) hy
      refine gl_nil <| gx_then <| gc_cond_t rfl <| gc_skip <| gx_then <| gc_seq <| gc_block <| gc_seq <| gc_drawP [0, 1] true 8 rfl <| ga_first 0 (bm 9 1) rfl rfl rfl rfl (by kernel_rfl) (by kernel_rfl) ⟨[0, 1], by decide, rfl⟩ (qt_rd (rd_fieldAddr rfl (fa_27_0 _))) ?_
      refine ga_first 1 (bm 9 3) rfl rfl rfl rfl (by kernel_rfl) (by kernel_rfl) ⟨[0, 1], by decide, rfl⟩ (qt_rd (rd_load Tryz.underlying22 rfl rfl (by exact ld_blk 1 rfl rfl))) ?_
      refine ga_first 2 (bm 9 7) rfl rfl rfl rfl (by kernel_rfl) (by kernel_rfl) ⟨[0, 1], by decide, rfl⟩ (qt_rd (rd_move rfl)) ?_
      refine ga_first 3 (bm 9 15) rfl rfl rfl rfl (by kernel_rfl) (by kernel_rfl) ⟨[0, 1], by decide, rfl⟩ (qt_rd (rd_indexOld hS.d Tryz.underlying22 ty_49 rfl rfl (by omega) (by omega))) ?_
      refine ga_first 4 (bm 9 31) rfl rfl rfl rfl (by kernel_rfl) (by kernel_rfl) ⟨[0, 1], by decide, rfl⟩ (qt_rd (rd_fieldAddr rfl (fa_49_0 _))) ?_
      refine ga_first 5 (bm 9 63) rfl rfl rfl rfl (by kernel_rfl) (by kernel_rfl) ⟨[0, 1], by decide, rfl⟩ (qt_rd (rd_load Tryz.underlying9 rfl rfl (ld_slf hS.d (get_flat Dv.cells 3 (fun _ => rfl) hy (j := 0) (by decide) rfl)))) ?_
      refine ga_first 6 (bm 9 127) rfl rfl rfl rfl (by kernel_rfl) (by kernel_rfl) ⟨[0, 1], by decide, rfl⟩ (qt_rd (rd_fieldAddr rfl (fa_49_0 _))) ?_
      refine ga_first 7 (bm 9 255) rfl rfl rfl rfl (by kernel_rfl) (by kernel_rfl) ⟨[0, 1], by decide, rfl⟩ (qt_rd (rd_load Tryz.underlying9 rfl rfl (by exact ld_blk 0 rfl rfl))) ?_
      refine ga_first 8 (bm 9 511) rfl rfl rfl rfl (by kernel_rfl) (by kernel_rfl) ⟨[0, 1], by decide, rfl⟩ (qt_rd (rd_eqlStrD Tryz.underlying9 (by kernel_rfl) rfl rfl)) ?_
      refine ga_end (by kernel_rfl) (.inr ⟨[0, 1], by decide, rfl⟩) ?_
      refine gx_then <| gc_cond rfl (fun hq29 => ?_) (fun hq29 => ?_)
      · refine gc_seq <| gc_region <| gl_op <| op_rd rfl (rd_assign rfl) <| gl_nil <| gx_then <| gc_ret <| gx_block_ret <| gx_then_ret <| gx_then_ret <| gx_block_ret <| gx_then_ret <| gx_ret1 (.inl rfl) Tryz.results49 rfl [] (by decide) ?_
        refine ⟨congrArg (Value.int .i64) (Eq.symm ?_), rfl⟩
        unfold dvErr
        rw [if_neg (by rw [show nameB (dvN s.ds i) = true by unfold dvN; rw [hxd]; exact hn]; decide)]
        rw [if_pos (twice_yes (k := k) (by omega) (by unfold dvN; rw [hyd, hxd]; simpa using hq29))]
      refine gc_skip <| gx_block <| gx_then <| gc_region <| gl_op <| op_rd rfl (rd_move rfl) <| gl_op (op_rd rfl (by exact rd_addN (b := 1) rfl rfl (by omega)) ?_)
      refine gl_op <| op_rd rfl (rd_assign rfl) <| gl_nil <| gx_then ?_
      exact gx_cut (k + 1) ⟨⟨by omega, fun q hq => by
        rcases Nat.lt_or_eq_of_le (Nat.le_of_lt_succ hq) with h | rfl
        · exact hall q h
        · unfold dvN; rw [hyd, hxd]; simpa using hq29⟩, by omega⟩ ⟨rfl, rfl, rfl, rfl, trivial⟩ ⟨[0, 1], by decide, rfl⟩
    refine gl_nil <| gx_then <| gc_cond_f rfl <| gc_exit <| gx_then_exit <| gx_then_exit <| gx_block_exit <| gx_then <| gc_seq <| gc_seq <| gc_region <| gl_op <| op_rd rfl (rd_fieldAddr rfl (fa_49_1 _)) <| gl_op (op_rd rfl (rd_load Tryz.underlying3 rfl rfl (by exact ld_blk 0 rfl rfl)) ?_)
    refine gl_op (op_call rfl (vf := []) (vc := []) rfl rfl Tryz.call76 (fun w1 ho => note_ok _ w1) ?_)
    rintro _ _ ⟨rfl, rfl⟩
    refine gk_bool (fun hw32 => ?_) (fun hw32 => ?_)
    · refine gl_op <| op_rd rfl (rd_not rfl) <| gl_op <| op_rd rfl (rd_move rfl) <| gl_yes rfl rfl <| op_rd rfl (rd_fieldAddr rfl (fa_49_2 _)) <| gl_yes rfl rfl (op_rd rfl (rd_load Tryz.underlying3 rfl rfl (by exact ld_blk 0 rfl rfl)) ?_)
      refine gl_yes rfl rfl (op_call rfl (vf := []) (vc := []) rfl rfl Tryz.call76 (fun w1 ho => note_ok _ w1) ?_)
      rintro _ _ ⟨rfl, rfl⟩
      refine gk_bool (fun hw37 => ?_) (fun hw37 => ?_)
      · refine gl_yes rfl rfl <| op_rd rfl (rd_not rfl) <| gl_op <| op_rd rfl (rd_pick_f rfl rfl) <| gl_op <| op_rd rfl (rd_move rfl) <| gl_yes rfl rfl <| op_rd rfl (rd_fieldAddr rfl (fa_49_1 _)) <| gl_yes rfl rfl (op_rd rfl (rd_load Tryz.underlying3 rfl rfl (by exact ld_blk 0 rfl rfl)) ?_)
        refine gl_yes rfl rfl <| op_rd rfl (rd_fieldAddr rfl (fa_49_2 _)) <| gl_yes rfl rfl (op_rd rfl (rd_load Tryz.underlying3 rfl rfl (by exact ld_blk 0 rfl rfl)) ?_)
        refine gl_yes rfl rfl (op_rd rfl (rd_gtr rfl rfl) (gk_dec (fun h45 => ?_) (fun h45 => ?_)))
        · refine gl_op <| op_rd rfl (rd_pick_f rfl rfl) <| gl_op <| op_rd rfl (rd_move rfl) <| gl_no rfl rfl rfl <| gl_no rfl rfl rfl <| gl_no rfl rfl rfl <| gl_no rfl rfl rfl <| gl_no rfl rfl rfl <| gl_no rfl rfl rfl <| gl_no rfl rfl rfl <| gl_op <| op_rd rfl (rd_pick_t rfl rfl) <| gl_nil <| gx_then <| gc_cond_t rfl <| gc_seq <| gc_region <| gl_op <| op_rd rfl (rd_assign rfl) <| gl_nil <| gx_then <| gc_ret <| gx_then_ret <| gx_ret1 (.inl rfl) Tryz.results49 rfl [] (by decide) ?_
          refine ⟨congrArg (Value.int .i64) (Eq.symm ?_), rfl⟩
          unfold dvErr
          rw [if_neg (by rw [show nameB (dvN s.ds i) = true by unfold dvN; rw [hxd]; exact hn]; decide)]
          rw [if_neg (by rw [twice_no (fun q hq => hall q (by omega))]; decide)]
          rw [hxd]
          rw [if_pos]
          unfold dvBad
          try simp only [withinB] at *
          simp only [Bool.not_eq_true', Bool.not_eq_false', Bool.and_eq_false_iff, Bool.and_eq_true, decide_eq_true_eq, decide_eq_false_iff_not] at *
          omega
        refine gl_op <| op_rd rfl (rd_pick_f rfl rfl) <| gl_op <| op_rd rfl (rd_move rfl) <| gl_yes rfl rfl <| op_rd rfl (rd_fieldAddr rfl (fa_49_2 _)) <| gl_yes rfl rfl (op_rd rfl (rd_load Tryz.underlying3 rfl rfl (by exact ld_blk 0 rfl rfl)) ?_)
        refine gl_yes rfl rfl <| op_rd rfl (rd_fieldAddr rfl (fa_49_1 _)) <| gl_yes rfl rfl (op_rd rfl (rd_load Tryz.underlying3 rfl rfl (by exact ld_blk 0 rfl rfl)) ?_)
        refine gl_yes rfl rfl (op_rd rfl (by exact rd_sub rfl rfl (by simp only [withinB, Bool.and_eq_true, decide_eq_true_eq] at hw32 hw37; omega) (by simp only [withinB, Bool.and_eq_true, decide_eq_true_eq] at hw32 hw37; omega)) ?_)
        refine gl_yes rfl rfl (op_rd rfl (by exact rd_add rfl rfl (by simp only [withinB, Bool.and_eq_true, decide_eq_true_eq] at hw32 hw37; omega) (by simp only [withinB, Bool.and_eq_true, decide_eq_true_eq] at hw32 hw37; omega)) ?_)
        refine gl_yes rfl rfl (op_rd rfl (rd_gtr rfl rfl) (gk_dec (fun h54 => ?_) (fun h54 => ?_)))
        · refine gl_op <| op_rd rfl (rd_pick_f rfl rfl) <| gl_nil <| gx_then <| gc_cond_t rfl <| gc_seq <| gc_region <| gl_op <| op_rd rfl (rd_assign rfl) <| gl_nil <| gx_then <| gc_ret <| gx_then_ret <| gx_ret1 (.inl rfl) Tryz.results49 rfl [] (by decide) ?_
          refine ⟨congrArg (Value.int .i64) (Eq.symm ?_), rfl⟩
          unfold dvErr
          rw [if_neg (by rw [show nameB (dvN s.ds i) = true by unfold dvN; rw [hxd]; exact hn]; decide)]
          rw [if_neg (by rw [twice_no (fun q hq => hall q (by omega))]; decide)]
          rw [hxd]
          rw [if_pos]
          unfold dvBad
          try simp only [withinB] at *
          simp only [Bool.not_eq_true', Bool.not_eq_false', Bool.and_eq_false_iff, Bool.and_eq_true, decide_eq_true_eq, decide_eq_false_iff_not] at *
          omega
        refine gl_op <| op_rd rfl (rd_pick_f rfl rfl) <| gl_nil <| gx_then <| gc_cond_f rfl <| gc_skip <| gx_then <| gc_seq <| gc_region <| gl_op <| op_rd rfl (rd_assign rfl) <| gl_nil <| gx_then <| gc_ret <| gx_ret1 (.inl rfl) Tryz.results49 rfl [] (by decide) ?_
        refine ⟨congrArg (Value.int .i64) (Eq.symm ?_), rfl⟩
        unfold dvErr
        rw [if_neg (by rw [show nameB (dvN s.ds i) = true by unfold dvN; rw [hxd]; exact hn]; decide)]
        rw [if_neg (by rw [twice_no (fun q hq => hall q (by omega))]; decide)]
        rw [hxd]
        rw [if_neg]
        unfold dvBad
        rw [Bool.not_eq_true]
        try simp only [withinB] at *
        simp only [Bool.not_eq_true', Bool.not_eq_false', Bool.and_eq_false_iff, Bool.and_eq_true, decide_eq_true_eq, decide_eq_false_iff_not] at *
        omega
      refine gl_yes rfl rfl <| op_rd rfl (rd_not rfl) <| gl_op <| op_rd rfl (rd_pick_f rfl rfl) <| gl_op <| op_rd rfl (rd_move rfl) <| gl_no rfl rfl rfl <| gl_no rfl rfl rfl <| gl_no rfl rfl rfl <| gl_no rfl rfl rfl <| gl_no rfl rfl rfl <| gl_op <| op_rd rfl (rd_pick_t rfl rfl) <| gl_op <| op_rd rfl (rd_move rfl) <| gl_no rfl rfl rfl <| gl_no rfl rfl rfl <| gl_no rfl rfl rfl <| gl_no rfl rfl rfl <| gl_no rfl rfl rfl <| gl_no rfl rfl rfl <| gl_no rfl rfl rfl <| gl_op <| op_rd rfl (rd_pick_t rfl rfl) <| gl_nil <| gx_then <| gc_cond_t rfl <| gc_seq <| gc_region <| gl_op <| op_rd rfl (rd_assign rfl) <| gl_nil ?_
      refine gx_then <| gc_ret <| gx_then_ret <| gx_ret1 (.inl rfl) Tryz.results49 rfl [] (by decide) ?_
      refine ⟨congrArg (Value.int .i64) (Eq.symm ?_), rfl⟩
      unfold dvErr
      rw [if_neg (by rw [show nameB (dvN s.ds i) = true by unfold dvN; rw [hxd]; exact hn]; decide)]
      rw [if_neg (by rw [twice_no (fun q hq => hall q (by omega))]; decide)]
      rw [hxd]
      rw [if_pos]
      unfold dvBad
      try simp only [withinB] at *
      simp only [Bool.not_eq_true', Bool.not_eq_false', Bool.and_eq_false_iff, Bool.and_eq_true, decide_eq_true_eq, decide_eq_false_iff_not] at *
      omega
    refine gl_op <| op_rd rfl (rd_not rfl) <| gl_op <| op_rd rfl (rd_move rfl) <| gl_no rfl rfl rfl <| gl_no rfl rfl rfl <| gl_no rfl rfl rfl <| gl_no rfl rfl rfl <| gl_op <| op_rd rfl (rd_pick_t rfl rfl) <| gl_op <| op_rd rfl (rd_move rfl) <| gl_no rfl rfl rfl <| gl_no rfl rfl rfl <| gl_no rfl rfl rfl <| gl_no rfl rfl rfl <| gl_no rfl rfl rfl <| gl_op <| op_rd rfl (rd_pick_t rfl rfl) <| gl_op <| op_rd rfl (rd_move rfl) <| gl_no rfl rfl rfl <| gl_no rfl rfl rfl <| gl_no rfl rfl rfl <| gl_no rfl rfl rfl <| gl_no rfl rfl rfl <| gl_no rfl rfl rfl <| gl_no rfl rfl rfl <| gl_op <| op_rd rfl (rd_pick_t rfl rfl) <| gl_nil <| gx_then ?_
    refine gc_cond_t rfl <| gc_seq <| gc_region <| gl_op <| op_rd rfl (rd_assign rfl) <| gl_nil <| gx_then <| gc_ret <| gx_then_ret <| gx_ret1 (.inl rfl) Tryz.results49 rfl [] (by decide) ?_
    refine ⟨congrArg (Value.int .i64) (Eq.symm ?_), rfl⟩
    unfold dvErr
    rw [if_neg (by rw [show nameB (dvN s.ds i) = true by unfold dvN; rw [hxd]; exact hn]; decide)]
    rw [if_neg (by rw [twice_no (fun q hq => hall q (by omega))]; decide)]
    rw [hxd]
    rw [if_pos]
    unfold dvBad
    try simp only [withinB] at *
    simp only [Bool.not_eq_true', Bool.not_eq_false', Bool.and_eq_false_iff, Bool.and_eq_true, decide_eq_true_eq, decide_eq_false_iff_not] at *
    omega
  refine gl_op <| op_rd rfl (rd_not rfl) <| gl_nil <| gx_then <| gc_cond_t rfl <| gc_seq <| gc_region <| gl_op <| op_rd rfl (rd_assign rfl) <| gl_nil <| gx_then <| gc_ret <| gx_then_ret <| gx_ret1 (.inl rfl) Tryz.results49 rfl [] (by decide) ?_
  refine ⟨congrArg (Value.int .i64) (Eq.symm ?_), rfl⟩
  unfold dvErr
  rw [if_pos (show nameB (dvN s.ds i) = false by unfold dvN; rw [hxd]; exact hn)]
set_option maxRecDepth 100000 in
set_option maxHeartbeats 1000000 in
theorem rrank_ok (s : Org) (hle : OrgLe s) (w0 : World) (hS : OrgIn s w0 []) (i : Nat) (hi : i < s.rs.length) : Sp Tryz.prog 50 [s.val, natV i] w0 [] (RV (.int .i64 (rkErr s.rs i))) := by
  obtain ⟨x, hx⟩ := get_some hi
  have hxd := getD_some (d := default) hx
  have hln := hle.r
  refine spec_enter Tryz.func50 rfl Tryz.ntmps50 rfl (Own.refl _) ?_
  simp only [argEnv]
  refine gc_seq <| gc_region <| gl_op (op_box rfl rfl rfl (fun b2 => ?_))
  refine gl_op <| op_rd rfl (rd_assign rfl) <| gl_nil <| gx_then <| gc_seq <| gc_region <| gl_op <| op_rd rfl (rd_fieldAddr rfl (fa_27_1 _)) <| gl_op (op_rd rfl (rd_load Tryz.underlying23 rfl rfl (by exact ld_blk 0 rfl rfl)) ?_)
  refine gl_op <| op_rd rfl (rd_move rfl) <| gl_op (op_rd rfl (rd_indexOld hS.r Tryz.underlying23 ty_53 rfl rfl (by omega) (by omega)) ?_)
  refine gl_op (op_rd rfl (rd_loadAgg Tryz.underlying53 rfl ty_53 rfl (cs_slN hS.r (flat_drop_get Rk.cells 6 (fun _ => rfl) hx)) rfl) ?_)
  refine gl_op (op_alloc ty_53 rfl rfl (fun b5 => ?_))
  refine gl_op (op_storeAgg 0 ty_53 rfl rfl rfl rfl rfl rfl (by rfl) ?_)
  refine gl_nil <| gx_then <| gc_seq <| gc_seq <| gc_region <| gl_op <| op_rd rfl (rd_fieldAddr rfl (fa_53_0 _)) <| gl_op (op_rd rfl (rd_load Tryz.underlying9 rfl rfl (by exact ld_blk 0 rfl rfl)) ?_)
  refine gl_op (op_call rfl (vf := []) (vc := []) rfl rfl Tryz.call75 (fun w1 ho => rName_ok x.name (hle.rn x (List.mem_of_getElem? hx)) w1) ?_)
  rintro _ _ ⟨rfl, rfl⟩
  refine gk_bool (fun hn => ?_) (fun hn => ?_)
  · refine gl_op <| op_rd rfl (rd_not rfl) <| gl_nil <| gx_then <| gc_cond_f rfl <| gc_skip <| gx_then <| gc_seq <| gc_seq <| gc_region <| gl_op <| op_rd rfl (rd_assign rfl) <| gl_nil <| gx_then <| gc_block <| gc_loopF (ι := Nat) [(1, _), (2, _), (5, _)] [_, _] (fun k => k ≤ i ∧ ∀ q, q < k → rkN s.rs q ≠ rkN s.rs i) (fun k Fr0 => ((6, natV k) :: Fr0)) (fun k Fr0 => Fr0) (fun k => i - k) 0 (⟨Nat.zero_le _, fun q hq => absurd hq (Nat.not_lt_zero q)⟩) ⟨rfl, rfl, rfl, rfl, trivial⟩ ⟨[0, 1], by decide, rfl⟩ ?_
    rintro k ⟨hk, hall⟩
    refine gc_seq <| gc_seq <| gc_region <| gl_op <| op_rd rfl (rd_move rfl) <| gl_op <| op_rd rfl (rd_move rfl) <| gl_op (op_rd rfl (rd_lss rfl rfl) (gk_dec (fun h18 => ?_) (fun h18 => ?_)))
    · obtain ⟨y, hy⟩ := get_some (show k < s.rs.length by omega)
      have hyd := getD_some (d := default) hy
      refine gl_nil <| gx_then <| gc_cond_t rfl <| gc_skip <| gx_then <| gc_seq <| gc_block <| gc_seq <| gc_drawP [0, 1] true 8 rfl <| ga_first 0 (bm 9 1) rfl rfl rfl rfl (by kernel_rfl) (by kernel_rfl) ⟨[0, 1], by decide, rfl⟩ (qt_rd (rd_fieldAddr rfl (fa_27_1 _))) ?_
      refine ga_first 1 (bm 9 3) rfl rfl rfl rfl (by kernel_rfl) (by kernel_rfl) ⟨[0, 1], by decide, rfl⟩ (qt_rd (rd_load Tryz.underlying23 rfl rfl (by exact ld_blk 1 rfl rfl))) ?_
      refine ga_first 2 (bm 9 7) rfl rfl rfl rfl (by kernel_rfl) (by kernel_rfl) ⟨[0, 1], by decide, rfl⟩ (qt_rd (rd_move rfl)) ?_
      refine ga_first 3 (bm 9 15) rfl rfl rfl rfl (by kernel_rfl) (by kernel_rfl) ⟨[0, 1], by decide, rfl⟩ (qt_rd (rd_indexOld hS.r Tryz.underlying23 ty_53 rfl rfl (by omega) (by omega))) ?_
      refine ga_first 4 (bm 9 31) rfl rfl rfl rfl (by kernel_rfl) (by kernel_rfl) ⟨[0, 1], by decide, rfl⟩ (qt_rd (rd_fieldAddr rfl (fa_53_0 _))) ?_
      refine ga_first 5 (bm 9 63) rfl rfl rfl rfl (by kernel_rfl) (by kernel_rfl) ⟨[0, 1], by decide, rfl⟩ (qt_rd (rd_load Tryz.underlying9 rfl rfl (ld_slf hS.r (get_flat Rk.cells 6 (fun _ => rfl) hy (j := 0) (by decide) rfl)))) ?_
      refine ga_first 6 (bm 9 127) rfl rfl rfl rfl (by kernel_rfl) (by kernel_rfl) ⟨[0, 1], by decide, rfl⟩ (qt_rd (rd_fieldAddr rfl (fa_53_0 _))) ?_
      refine ga_first 7 (bm 9 255) rfl rfl rfl rfl (by kernel_rfl) (by kernel_rfl) ⟨[0, 1], by decide, rfl⟩ (qt_rd (rd_load Tryz.underlying9 rfl rfl (by exact ld_blk 0 rfl rfl))) ?_
      refine ga_first 8 (bm 9 511) rfl rfl rfl rfl (by kernel_rfl) (by kernel_rfl) ⟨[0, 1], by decide, rfl⟩ (qt_rd (rd_eqlStrD Tryz.underlying9 (by kernel_rfl) rfl rfl)) ?_
      refine ga_end (by kernel_rfl) (.inr ⟨[0, 1], by decide, rfl⟩) ?_
      refine gx_then <| gc_cond rfl (fun hq29 => ?_) (fun hq29 => ?_)
      · refine gc_seq <| gc_region <| gl_op <| op_rd rfl (rd_assign rfl) <| gl_nil <| gx_then <| gc_ret <| gx_block_ret <| gx_then_ret <| gx_then_ret <| gx_block_ret <| gx_then_ret <| gx_ret1 (.inl rfl) Tryz.results50 rfl [] (by decide) ?_
        refine ⟨congrArg (Value.int .i64) (Eq.symm ?_), rfl⟩
        unfold rkErr
        rw [if_neg (by rw [show nameB (rkN s.rs i) = true by unfold rkN; rw [hxd]; exact hn]; decide)]
        rw [if_pos (twice_yes (k := k) (by omega) (by unfold rkN; rw [hyd, hxd]; simpa using hq29))]
      refine gc_skip <| gx_block <| gx_then <| gc_region <| gl_op <| op_rd rfl (rd_move rfl) <| gl_op (op_rd rfl (by exact rd_addN (b := 1) rfl rfl (by omega)) ?_)
      refine gl_op <| op_rd rfl (rd_assign rfl) <| gl_nil <| gx_then ?_
      exact gx_cut (k + 1) ⟨⟨by omega, fun q hq => by
        rcases Nat.lt_or_eq_of_le (Nat.le_of_lt_succ hq) with h | rfl
        · exact hall q h
        · unfold rkN; rw [hyd, hxd]; simpa using hq29⟩, by omega⟩ ⟨rfl, rfl, rfl, rfl, trivial⟩ ⟨[0, 1], by decide, rfl⟩
    refine gl_nil <| gx_then <| gc_cond_f rfl <| gc_exit <| gx_then_exit <| gx_then_exit <| gx_block_exit <| gx_then <| gc_seq <| gc_seq <| gc_region <| gl_op <| op_rd rfl (rd_fieldAddr rfl (fa_53_1 _)) <| gl_op (op_rd rfl (rd_load Tryz.underlying3 rfl rfl (by exact ld_blk 0 rfl rfl)) ?_)
    refine gl_op (op_rd rfl (rd_lss rfl rfl) (gk_dec (fun h32 => ?_) (fun h32 => ?_)))
    · refine gl_op <| op_rd rfl (rd_move rfl) <| gl_no rfl rfl rfl <| gl_no rfl rfl rfl <| gl_no rfl rfl rfl <| gl_op <| op_rd rfl (rd_pick_t rfl rfl) <| gl_op <| op_rd rfl (rd_move rfl) <| gl_no rfl rfl rfl <| gl_no rfl rfl rfl <| gl_no rfl rfl rfl <| gl_no rfl rfl rfl <| gl_op <| op_rd rfl (rd_pick_t rfl rfl) <| gl_nil <| gx_then <| gc_cond_t rfl <| gc_seq <| gc_region <| gl_op <| op_rd rfl (rd_assign rfl) <| gl_nil <| gx_then <| gc_ret <| gx_then_ret <| gx_ret1 (.inl rfl) Tryz.results50 rfl [] (by decide) ?_
      refine ⟨congrArg (Value.int .i64) (Eq.symm ?_), rfl⟩
      unfold rkErr
      rw [if_neg (by rw [show nameB (rkN s.rs i) = true by unfold rkN; rw [hxd]; exact hn]; decide)]
      rw [if_neg (by rw [twice_no (fun q hq => hall q (by omega))]; decide)]
      rw [hxd]
      rw [if_pos]
      unfold rkArg
      (rw [decide_eq_false (by omega)]; simp; done)
    refine gl_op <| op_rd rfl (rd_move rfl) <| gl_yes rfl rfl <| op_rd rfl (rd_fieldAddr rfl (fa_53_1 _)) <| gl_yes rfl rfl (op_rd rfl (rd_load Tryz.underlying3 rfl rfl (by exact ld_blk 0 rfl rfl)) ?_)
    refine gl_yes rfl rfl (op_rd rfl (rd_gtr rfl rfl) (gk_dec (fun h36 => ?_) (fun h36 => ?_)))
    · refine gl_op <| op_rd rfl (rd_pick_f rfl rfl) <| gl_op <| op_rd rfl (rd_move rfl) <| gl_no rfl rfl rfl <| gl_no rfl rfl rfl <| gl_no rfl rfl rfl <| gl_no rfl rfl rfl <| gl_op <| op_rd rfl (rd_pick_t rfl rfl) <| gl_nil <| gx_then <| gc_cond_t rfl <| gc_seq <| gc_region <| gl_op <| op_rd rfl (rd_assign rfl) <| gl_nil <| gx_then <| gc_ret <| gx_then_ret <| gx_ret1 (.inl rfl) Tryz.results50 rfl [] (by decide) ?_
      refine ⟨congrArg (Value.int .i64) (Eq.symm ?_), rfl⟩
      unfold rkErr
      rw [if_neg (by rw [show nameB (rkN s.rs i) = true by unfold rkN; rw [hxd]; exact hn]; decide)]
      rw [if_neg (by rw [twice_no (fun q hq => hall q (by omega))]; decide)]
      rw [hxd]
      rw [if_pos]
      unfold rkArg
      (simp [*]; done)
    refine gl_op <| op_rd rfl (rd_pick_f rfl rfl) <| gl_op <| op_rd rfl (rd_move rfl) <| gl_yes rfl rfl <| op_rd rfl (rd_fieldAddr rfl (fa_53_2 _)) <| gl_yes rfl rfl (op_rd rfl (rd_loadAgg Tryz.underlying51 rfl ty_51 rfl (by exact cs_blk 0 (off := 2) (k := 2) rfl rfl) rfl) ?_)
    refine gl_yes rfl rfl (op_call rfl (vf := []) (vc := []) rfl rfl Tryz.call77 (fun w1 ho => rValid_ok x.num x.den w1) ?_)
    rintro _ _ ⟨rfl, rfl⟩
    refine gk_bool (fun hv => ?_) (fun hv => ?_)
    · refine gl_yes rfl rfl <| op_rd rfl (rd_not rfl) <| gl_op <| op_rd rfl (rd_pick_f rfl rfl) <| gl_nil <| gx_then <| gc_cond_f rfl <| gc_skip <| gx_then <| gc_seq <| gc_seq <| gc_region <| gl_op <| op_rd rfl (rd_fieldAddr rfl (fa_53_4 _)) <| gl_op (op_rd rfl (rd_load Tryz.underlying3 rfl rfl (by exact ld_blk 0 rfl rfl)) ?_)
      refine gl_op (op_rd rfl (rd_lss rfl rfl) (gk_dec (fun h46 => ?_) (fun h46 => ?_)))
      · refine gl_op <| op_rd rfl (rd_move rfl) <| gl_no rfl rfl rfl <| gl_no rfl rfl rfl <| gl_no rfl rfl rfl <| gl_op <| op_rd rfl (rd_pick_t rfl rfl) <| gl_op <| op_rd rfl (rd_move rfl) <| gl_no rfl rfl rfl <| gl_no rfl rfl rfl <| gl_no rfl rfl rfl <| gl_no rfl rfl rfl <| gl_op <| op_rd rfl (rd_pick_t rfl rfl) <| gl_op <| op_rd rfl (rd_move rfl) <| gl_no rfl rfl rfl <| gl_no rfl rfl rfl <| gl_no rfl rfl rfl <| gl_no rfl rfl rfl <| gl_no rfl rfl rfl <| gl_no rfl rfl rfl <| gl_no rfl rfl rfl <| gl_no rfl rfl rfl <| gl_op <| op_rd rfl (rd_pick_t rfl rfl) <| gl_nil <| gx_then <| gc_cond_t rfl <| gc_seq ?_
        refine gc_region <| gl_op <| op_rd rfl (rd_assign rfl) <| gl_nil <| gx_then <| gc_ret <| gx_then_ret <| gx_ret1 (.inl rfl) Tryz.results50 rfl [] (by decide) ?_
        refine ⟨congrArg (Value.int .i64) (Eq.symm ?_), rfl⟩
        unfold rkErr
        rw [if_neg (by rw [show nameB (rkN s.rs i) = true by unfold rkN; rw [hxd]; exact hn]; decide)]
        rw [if_neg (by rw [twice_no (fun q hq => hall q (by omega))]; decide)]
        rw [hxd]
        rw [if_neg (by unfold rkArg; rw [hv]; simp; omega)]
        rw [if_pos]
        unfold rkBad
        try simp only [withinB] at *
        simp only [Bool.not_eq_true', Bool.not_eq_false', Bool.and_eq_false_iff, Bool.and_eq_true, decide_eq_true_eq, decide_eq_false_iff_not] at *
        omega
      refine gl_op <| op_rd rfl (rd_move rfl) <| gl_yes rfl rfl <| op_rd rfl (rd_fieldAddr rfl (fa_53_4 _)) <| gl_yes rfl rfl (op_rd rfl (rd_load Tryz.underlying3 rfl rfl (by exact ld_blk 0 rfl rfl)) ?_)
      refine gl_yes rfl rfl (op_rd rfl (rd_gtr rfl rfl) (gk_dec (fun h50 => ?_) (fun h50 => ?_)))
      · refine gl_op <| op_rd rfl (rd_pick_f rfl rfl) <| gl_op <| op_rd rfl (rd_move rfl) <| gl_no rfl rfl rfl <| gl_no rfl rfl rfl <| gl_no rfl rfl rfl <| gl_no rfl rfl rfl <| gl_op <| op_rd rfl (rd_pick_t rfl rfl) <| gl_op <| op_rd rfl (rd_move rfl) <| gl_no rfl rfl rfl <| gl_no rfl rfl rfl <| gl_no rfl rfl rfl <| gl_no rfl rfl rfl <| gl_no rfl rfl rfl <| gl_no rfl rfl rfl <| gl_no rfl rfl rfl <| gl_no rfl rfl rfl <| gl_op <| op_rd rfl (rd_pick_t rfl rfl) <| gl_nil <| gx_then <| gc_cond_t rfl <| gc_seq <| gc_region <| gl_op <| op_rd rfl (rd_assign rfl) <| gl_nil <| gx_then ?_
        refine gc_ret <| gx_then_ret <| gx_ret1 (.inl rfl) Tryz.results50 rfl [] (by decide) ?_
        refine ⟨congrArg (Value.int .i64) (Eq.symm ?_), rfl⟩
        unfold rkErr
        rw [if_neg (by rw [show nameB (rkN s.rs i) = true by unfold rkN; rw [hxd]; exact hn]; decide)]
        rw [if_neg (by rw [twice_no (fun q hq => hall q (by omega))]; decide)]
        rw [hxd]
        rw [if_neg (by unfold rkArg; rw [hv]; simp; omega)]
        rw [if_pos]
        unfold rkBad
        try simp only [withinB] at *
        simp only [Bool.not_eq_true', Bool.not_eq_false', Bool.and_eq_false_iff, Bool.and_eq_true, decide_eq_true_eq, decide_eq_false_iff_not] at *
        omega
      refine gl_op <| op_rd rfl (rd_pick_f rfl rfl) <| gl_op <| op_rd rfl (rd_move rfl) <| gl_yes rfl rfl <| op_rd rfl (rd_fieldAddr rfl (fa_53_3 _)) <| gl_yes rfl rfl (op_rd rfl (rd_load Tryz.underlying3 rfl rfl (by exact ld_blk 0 rfl rfl)) ?_)
      refine gl_yes rfl rfl (op_call rfl (vf := []) (vc := []) rfl rfl Tryz.call76 (fun w1 ho => note_ok _ w1) ?_)
      rintro _ _ ⟨rfl, rfl⟩
      refine gk_bool (fun hw55 => ?_) (fun hw55 => ?_)
      · refine gl_yes rfl rfl <| op_rd rfl (rd_not rfl) <| gl_op <| op_rd rfl (rd_pick_f rfl rfl) <| gl_op <| op_rd rfl (rd_move rfl) <| gl_yes rfl rfl <| op_rd rfl (rd_fieldAddr rfl (fa_53_3 _)) <| gl_yes rfl rfl (op_rd rfl (rd_load Tryz.underlying3 rfl rfl (by exact ld_blk 0 rfl rfl)) ?_)
        refine gl_yes rfl rfl <| op_rd rfl (rd_fieldAddr rfl (fa_53_4 _)) <| gl_yes rfl rfl (op_rd rfl (rd_load Tryz.underlying3 rfl rfl (by exact ld_blk 0 rfl rfl)) ?_)
        refine gl_yes rfl rfl (op_rd rfl (by exact rd_add rfl rfl (by simp only [withinB, Bool.and_eq_true, decide_eq_true_eq] at hw55; omega) (by simp only [withinB, Bool.and_eq_true, decide_eq_true_eq] at hw55; omega)) ?_)
        refine gl_yes rfl rfl (op_rd rfl (by exact rd_sub rfl rfl (by simp only [withinB, Bool.and_eq_true, decide_eq_true_eq] at hw55; omega) (by simp only [withinB, Bool.and_eq_true, decide_eq_true_eq] at hw55; omega)) ?_)
        refine gl_yes rfl rfl (op_call rfl (vf := []) (vc := []) rfl rfl Tryz.call76 (fun w1 ho => note_ok _ w1) ?_)
        rintro _ _ ⟨rfl, rfl⟩
        refine gk_bool (fun hw65 => ?_) (fun hw65 => ?_)
        · refine gl_yes rfl rfl <| op_rd rfl (rd_not rfl) <| gl_op <| op_rd rfl (rd_pick_f rfl rfl) <| gl_nil <| gx_then <| gc_cond_f rfl <| gc_skip <| gx_then <| gc_seq <| gc_region <| gl_op <| op_rd rfl (rd_assign rfl) <| gl_nil <| gx_then <| gc_ret <| gx_ret1 (.inl rfl) Tryz.results50 rfl [] (by decide) ?_
          refine ⟨congrArg (Value.int .i64) (Eq.symm ?_), rfl⟩
          unfold rkErr
          rw [if_neg (by rw [show nameB (rkN s.rs i) = true by unfold rkN; rw [hxd]; exact hn]; decide)]
          rw [if_neg (by rw [twice_no (fun q hq => hall q (by omega))]; decide)]
          rw [hxd]
          rw [if_neg (by unfold rkArg; rw [hv]; simp; omega)]
          rw [if_neg]
          unfold rkBad
          rw [Bool.not_eq_true]
          try simp only [withinB] at *
          simp only [Bool.not_eq_true', Bool.not_eq_false', Bool.and_eq_false_iff, Bool.and_eq_true, decide_eq_true_eq, decide_eq_false_iff_not] at *
          omega
        refine gl_yes rfl rfl <| op_rd rfl (rd_not rfl) <| gl_op <| op_rd rfl (rd_pick_f rfl rfl) <| gl_nil <| gx_then <| gc_cond_t rfl <| gc_seq <| gc_region <| gl_op <| op_rd rfl (rd_assign rfl) <| gl_nil <| gx_then <| gc_ret <| gx_then_ret <| gx_ret1 (.inl rfl) Tryz.results50 rfl [] (by decide) ?_
        refine ⟨congrArg (Value.int .i64) (Eq.symm ?_), rfl⟩
        unfold rkErr
        rw [if_neg (by rw [show nameB (rkN s.rs i) = true by unfold rkN; rw [hxd]; exact hn]; decide)]
        rw [if_neg (by rw [twice_no (fun q hq => hall q (by omega))]; decide)]
        rw [hxd]
        rw [if_neg (by unfold rkArg; rw [hv]; simp; omega)]
        rw [if_pos]
        unfold rkBad
        try simp only [withinB] at *
        simp only [Bool.not_eq_true', Bool.not_eq_false', Bool.and_eq_false_iff, Bool.and_eq_true, decide_eq_true_eq, decide_eq_false_iff_not] at *
        omega
      refine gl_yes rfl rfl <| op_rd rfl (rd_not rfl) <| gl_op <| op_rd rfl (rd_pick_f rfl rfl) <| gl_op <| op_rd rfl (rd_move rfl) <| gl_no rfl rfl rfl <| gl_no rfl rfl rfl <| gl_no rfl rfl rfl <| gl_no rfl rfl rfl <| gl_no rfl rfl rfl <| gl_no rfl rfl rfl <| gl_no rfl rfl rfl <| gl_no rfl rfl rfl <| gl_op <| op_rd rfl (rd_pick_t rfl rfl) <| gl_nil <| gx_then <| gc_cond_t rfl <| gc_seq <| gc_region <| gl_op <| op_rd rfl (rd_assign rfl) <| gl_nil <| gx_then <| gc_ret <| gx_then_ret <| gx_ret1 (.inl rfl) Tryz.results50 rfl [] (by decide) ?_
      refine ⟨congrArg (Value.int .i64) (Eq.symm ?_), rfl⟩
      unfold rkErr
      rw [if_neg (by rw [show nameB (rkN s.rs i) = true by unfold rkN; rw [hxd]; exact hn]; decide)]
      rw [if_neg (by rw [twice_no (fun q hq => hall q (by omega))]; decide)]
      rw [hxd]
      rw [if_neg (by unfold rkArg; rw [hv]; simp; omega)]
      rw [if_pos]
      unfold rkBad
      try simp only [withinB] at *
      simp only [Bool.not_eq_true', Bool.not_eq_false', Bool.and_eq_false_iff, Bool.and_eq_true, decide_eq_true_eq, decide_eq_false_iff_not] at *
      omega
    refine gl_yes rfl rfl <| op_rd rfl (rd_not rfl) <| gl_op <| op_rd rfl (rd_pick_f rfl rfl) <| gl_nil <| gx_then <| gc_cond_t rfl <| gc_seq <| gc_region <| gl_op <| op_rd rfl (rd_assign rfl) <| gl_nil <| gx_then <| gc_ret <| gx_then_ret <| gx_ret1 (.inl rfl) Tryz.results50 rfl [] (by decide) ?_
    refine ⟨congrArg (Value.int .i64) (Eq.symm ?_), rfl⟩
    unfold rkErr
    rw [if_neg (by rw [show nameB (rkN s.rs i) = true by unfold rkN; rw [hxd]; exact hn]; decide)]
    rw [if_neg (by rw [twice_no (fun q hq => hall q (by omega))]; decide)]
    rw [hxd]
    rw [if_pos]
    unfold rkArg
    (rw [hv]; simp; done)
  refine gl_op <| op_rd rfl (rd_not rfl) <| gl_nil <| gx_then <| gc_cond_t rfl <| gc_seq <| gc_region <| gl_op <| op_rd rfl (rd_assign rfl) <| gl_nil <| gx_then <| gc_ret <| gx_then_ret <| gx_ret1 (.inl rfl) Tryz.results50 rfl [] (by decide) ?_
  refine ⟨congrArg (Value.int .i64) (Eq.symm ?_), rfl⟩
  unfold rkErr
  rw [if_pos (show nameB (rkN s.rs i) = false by unfold rkN; rw [hxd]; exact hn)]
set_option maxRecDepth 100000 in
set_option maxHeartbeats 1000000 in
theorem rcoupler_ok (s : Org) (hle : OrgLe s) (w0 : World) (hS : OrgIn s w0 []) (i : Nat) (hi : i < s.cs.length) : Sp Tryz.prog 53 [s.val, natV i] w0 [] (RV (.int .i64 (cpErr s.ds.length s.cs i))) := by
  obtain ⟨x, hx⟩ := get_some hi
  have hxd := getD_some (d := default) hx
  have hln := hle.c
  refine spec_enter Tryz.func53 rfl Tryz.ntmps53 rfl (Own.refl _) ?_
  simp only [argEnv]
  refine gc_seq <| gc_region <| gl_op (op_box rfl rfl rfl (fun b2 => ?_))
  refine gl_op <| op_rd rfl (rd_assign rfl) <| gl_nil <| gx_then <| gc_seq <| gc_region <| gl_op <| op_rd rfl (rd_fieldAddr rfl (fa_27_3 _)) <| gl_op (op_rd rfl (rd_load Tryz.underlying25 rfl rfl (by exact ld_blk 0 rfl rfl)) ?_)
  refine gl_op <| op_rd rfl (rd_move rfl) <| gl_op (op_rd rfl (rd_indexOld hS.c Tryz.underlying25 ty_58 rfl rfl (by omega) (by omega)) ?_)
  refine gl_op (op_rd rfl (rd_loadAgg Tryz.underlying58 rfl ty_58 rfl (cs_slN hS.c (flat_drop_get Cp.cells 6 (fun _ => rfl) hx)) rfl) ?_)
  refine gl_op (op_alloc ty_58 rfl rfl (fun b5 => ?_))
  refine gl_op (op_storeAgg 0 ty_58 rfl rfl rfl rfl rfl rfl (by rfl) ?_)
  refine gl_nil <| gx_then <| gc_seq <| gc_seq <| gc_region <| gl_op <| op_rd rfl (rd_fieldAddr rfl (fa_58_0 _)) <| gl_op (op_rd rfl (rd_load Tryz.underlying9 rfl rfl (by exact ld_blk 0 rfl rfl)) ?_)
  refine gl_op (op_call rfl (vf := []) (vc := []) rfl rfl Tryz.call75 (fun w1 ho => rName_ok x.name (hle.cn x (List.mem_of_getElem? hx)) w1) ?_)
  rintro _ _ ⟨rfl, rfl⟩
  refine gk_bool (fun hn => ?_) (fun hn => ?_)
  · refine gl_op <| op_rd rfl (rd_not rfl) <| gl_nil <| gx_then <| gc_cond_f rfl <| gc_skip <| gx_then <| gc_seq <| gc_seq <| gc_region <| gl_op <| op_rd rfl (rd_assign rfl) <| gl_nil <| gx_then <| gc_block <| gc_loopF (ι := Nat) [(1, _), (2, _), (5, _)] [_, _] (fun k => k ≤ i ∧ ∀ q, q < k → cpN s.cs q ≠ cpN s.cs i) (fun k Fr0 => ((6, natV k) :: Fr0)) (fun k Fr0 => Fr0) (fun k => i - k) 0 (⟨Nat.zero_le _, fun q hq => absurd hq (Nat.not_lt_zero q)⟩) ⟨rfl, rfl, rfl, rfl, trivial⟩ ⟨[0, 1], by decide, rfl⟩ ?_
    rintro k ⟨hk, hall⟩
    refine gc_seq <| gc_seq <| gc_region <| gl_op <| op_rd rfl (rd_move rfl) <| gl_op <| op_rd rfl (rd_move rfl) <| gl_op (op_rd rfl (rd_lss rfl rfl) (gk_dec (fun h18 => ?_) (fun h18 => ?_)))
    · obtain ⟨y, hy⟩ := get_some (show k < s.cs.length by omega)
      have hyd := getD_some (d := default) hy
      refine gl_nil <| gx_then <| gc_cond_t rfl <| gc_skip <| gx_then <| gc_seq <| gc_block <| gc_seq <| gc_drawP [0, 1] true 8 rfl <| ga_first 0 (bm 9 1) rfl rfl rfl rfl (by kernel_rfl) (by kernel_rfl) ⟨[0, 1], by decide, rfl⟩ (qt_rd (rd_fieldAddr rfl (fa_27_3 _))) ?_
      refine ga_first 1 (bm 9 3) rfl rfl rfl rfl (by kernel_rfl) (by kernel_rfl) ⟨[0, 1], by decide, rfl⟩ (qt_rd (rd_load Tryz.underlying25 rfl rfl (by exact ld_blk 1 rfl rfl))) ?_
      refine ga_first 2 (bm 9 7) rfl rfl rfl rfl (by kernel_rfl) (by kernel_rfl) ⟨[0, 1], by decide, rfl⟩ (qt_rd (rd_move rfl)) ?_
      refine ga_first 3 (bm 9 15) rfl rfl rfl rfl (by kernel_rfl) (by kernel_rfl) ⟨[0, 1], by decide, rfl⟩ (qt_rd (rd_indexOld hS.c Tryz.underlying25 ty_58 rfl rfl (by omega) (by omega))) ?_
      refine ga_first 4 (bm 9 31) rfl rfl rfl rfl (by kernel_rfl) (by kernel_rfl) ⟨[0, 1], by decide, rfl⟩ (qt_rd (rd_fieldAddr rfl (fa_58_0 _))) ?_
      refine ga_first 5 (bm 9 63) rfl rfl rfl rfl (by kernel_rfl) (by kernel_rfl) ⟨[0, 1], by decide, rfl⟩ (qt_rd (rd_load Tryz.underlying9 rfl rfl (ld_slf hS.c (get_flat Cp.cells 6 (fun _ => rfl) hy (j := 0) (by decide) rfl)))) ?_
      refine ga_first 6 (bm 9 127) rfl rfl rfl rfl (by kernel_rfl) (by kernel_rfl) ⟨[0, 1], by decide, rfl⟩ (qt_rd (rd_fieldAddr rfl (fa_58_0 _))) ?_
      refine ga_first 7 (bm 9 255) rfl rfl rfl rfl (by kernel_rfl) (by kernel_rfl) ⟨[0, 1], by decide, rfl⟩ (qt_rd (rd_load Tryz.underlying9 rfl rfl (by exact ld_blk 0 rfl rfl))) ?_
      refine ga_first 8 (bm 9 511) rfl rfl rfl rfl (by kernel_rfl) (by kernel_rfl) ⟨[0, 1], by decide, rfl⟩ (qt_rd (rd_eqlStrD Tryz.underlying9 (by kernel_rfl) rfl rfl)) ?_
      refine ga_end (by kernel_rfl) (.inr ⟨[0, 1], by decide, rfl⟩) ?_
      refine gx_then <| gc_cond rfl (fun hq29 => ?_) (fun hq29 => ?_)
      · refine gc_seq <| gc_region <| gl_op <| op_rd rfl (rd_assign rfl) <| gl_nil <| gx_then <| gc_ret <| gx_block_ret <| gx_then_ret <| gx_then_ret <| gx_block_ret <| gx_then_ret <| gx_ret1 (.inl rfl) Tryz.results53 rfl [] (by decide) ?_
        refine ⟨congrArg (Value.int .i64) (Eq.symm ?_), rfl⟩
        unfold cpErr
        rw [if_neg (by rw [show nameB (cpN s.cs i) = true by unfold cpN; rw [hxd]; exact hn]; decide)]
        rw [if_pos (twice_yes (k := k) (by omega) (by unfold cpN; rw [hyd, hxd]; simpa using hq29))]
      refine gc_skip <| gx_block <| gx_then <| gc_region <| gl_op <| op_rd rfl (rd_move rfl) <| gl_op (op_rd rfl (by exact rd_addN (b := 1) rfl rfl (by omega)) ?_)
      refine gl_op <| op_rd rfl (rd_assign rfl) <| gl_nil <| gx_then ?_
      exact gx_cut (k + 1) ⟨⟨by omega, fun q hq => by
        rcases Nat.lt_or_eq_of_le (Nat.le_of_lt_succ hq) with h | rfl
        · exact hall q h
        · unfold cpN; rw [hyd, hxd]; simpa using hq29⟩, by omega⟩ ⟨rfl, rfl, rfl, rfl, trivial⟩ ⟨[0, 1], by decide, rfl⟩
    refine gl_nil <| gx_then <| gc_cond_f rfl <| gc_exit <| gx_then_exit <| gx_then_exit <| gx_block_exit <| gx_then <| gc_seq <| gc_seq <| gc_region <| gl_op <| op_rd rfl (rd_fieldAddr rfl (fa_58_1 _)) <| gl_op (op_rd rfl (rd_load Tryz.underlying3 rfl rfl (by exact ld_blk 0 rfl rfl)) ?_)
    refine gl_op <| op_rd rfl (rd_fieldAddr rfl (fa_27_0 _)) <| gl_op (op_rd rfl (rd_load Tryz.underlying22 rfl rfl (by exact ld_blk 1 rfl rfl)) ?_)
    refine gl_op <| op_rd rfl (rd_lenSlice Tryz.underlying22 rfl) <| gl_op (op_call rfl (vf := []) (vc := []) rfl rfl Tryz.call78 (fun w1 ho => index_ok _ _ w1) ?_)
    rintro _ _ ⟨rfl, rfl⟩
    refine gk_bool (fun hw35 => ?_) (fun hw35 => ?_)
    · refine gl_op <| op_rd rfl (rd_not rfl) <| gl_op <| op_rd rfl (rd_move rfl) <| gl_yes rfl rfl <| op_rd rfl (rd_fieldAddr rfl (fa_58_2 _)) <| gl_yes rfl rfl (op_rd rfl (rd_load Tryz.underlying3 rfl rfl (by exact ld_blk 0 rfl rfl)) ?_)
      refine gl_yes rfl rfl <| op_rd rfl (rd_fieldAddr rfl (fa_27_0 _)) <| gl_yes rfl rfl (op_rd rfl (rd_load Tryz.underlying22 rfl rfl (by exact ld_blk 1 rfl rfl)) ?_)
      refine gl_yes rfl rfl <| op_rd rfl (rd_lenSlice Tryz.underlying22 rfl) <| gl_yes rfl rfl (op_call rfl (vf := []) (vc := []) rfl rfl Tryz.call78 (fun w1 ho => index_ok _ _ w1) ?_)
      rintro _ _ ⟨rfl, rfl⟩
      refine gk_bool (fun hw43 => ?_) (fun hw43 => ?_)
      · refine gl_yes rfl rfl <| op_rd rfl (rd_not rfl) <| gl_op <| op_rd rfl (rd_pick_f rfl rfl) <| gl_nil <| gx_then <| gc_cond_f rfl <| gc_skip <| gx_then <| gc_seq <| gc_seq <| gc_region <| gl_op <| op_rd rfl (rd_fieldAddr rfl (fa_58_3 _)) <| gl_op (op_rd rfl (rd_load Tryz.underlying3 rfl rfl (by exact ld_blk 0 rfl rfl)) ?_)
        refine gl_op (op_rd rfl (rd_neq rfl rfl) (gk_dec (fun h48 => ?_) (fun h48 => ?_)))
        · refine gl_op <| op_rd rfl (rd_move rfl) <| gl_yes rfl rfl <| op_rd rfl (rd_fieldAddr rfl (fa_58_3 _)) <| gl_yes rfl rfl (op_rd rfl (rd_load Tryz.underlying3 rfl rfl (by exact ld_blk 0 rfl rfl)) ?_)
          refine gl_yes rfl rfl (op_rd rfl (rd_neq rfl rfl) (gk_dec (fun h52 => ?_) (fun h52 => ?_)))
          · refine gl_op <| op_rd rfl (rd_pick_t rfl rfl) <| gl_op <| op_rd rfl (rd_move rfl) <| gl_yes rfl rfl <| op_rd rfl (rd_fieldAddr rfl (fa_58_3 _)) <| gl_yes rfl rfl (op_rd rfl (rd_load Tryz.underlying3 rfl rfl (by exact ld_blk 0 rfl rfl)) ?_)
            refine gl_yes rfl rfl (op_rd rfl (rd_neq rfl rfl) (gk_dec (fun h57 => ?_) (fun h57 => ?_)))
            · refine gl_op <| op_rd rfl (rd_pick_t rfl rfl) <| gl_op <| op_rd rfl (rd_move rfl) <| gl_no rfl rfl rfl <| gl_no rfl rfl rfl <| gl_no rfl rfl rfl <| gl_op <| op_rd rfl (rd_pick_t rfl rfl) <| gl_op <| op_rd rfl (rd_move rfl) <| gl_no rfl rfl rfl <| gl_no rfl rfl rfl <| gl_no rfl rfl rfl <| gl_op <| op_rd rfl (rd_pick_t rfl rfl) <| gl_op <| op_rd rfl (rd_move rfl) <| gl_no rfl rfl rfl <| gl_no rfl rfl rfl <| gl_no rfl rfl rfl <| gl_noU rfl rfl rfl <| gl_noU rfl rfl rfl <| gl_noU rfl rfl rfl <| gl_no rfl rfl rfl <| gl_op <| op_rd rfl (rd_pick_t rfl rfl) <| gl_op <| op_rd rfl (rd_move rfl) <| gl_no rfl rfl rfl <| gl_no rfl rfl rfl <| gl_no rfl rfl rfl <| gl_no rfl rfl rfl ?_
              refine gl_no rfl rfl rfl <| gl_no rfl rfl rfl <| gl_noU rfl rfl rfl <| gl_noU rfl rfl rfl <| gl_noU rfl rfl rfl <| gl_no rfl rfl rfl <| gl_op <| op_rd rfl (rd_pick_t rfl rfl) <| gl_nil <| gx_then <| gc_cond_t rfl <| gc_seq <| gc_region <| gl_op <| op_rd rfl (rd_assign rfl) <| gl_nil <| gx_then <| gc_ret <| gx_then_ret <| gx_ret1 (.inl rfl) Tryz.results53 rfl [] (by decide) ?_
              refine ⟨congrArg (Value.int .i64) (Eq.symm ?_), rfl⟩
              unfold cpErr
              rw [if_neg (by rw [show nameB (cpN s.cs i) = true by unfold cpN; rw [hxd]; exact hn]; decide)]
              rw [if_neg (by rw [twice_no (fun q hq => hall q (by omega))]; decide)]
              rw [hxd]
              rw [if_neg (by simp [*])]
              rw [if_pos]
              (simp [cpArg, *]; done)
            refine gl_op <| op_rd rfl (rd_pick_t rfl rfl) <| gl_op <| op_rd rfl (rd_move rfl) <| gl_yes rfl rfl <| op_rd rfl (rd_fieldAddr rfl (fa_58_4 _)) <| gl_yes rfl rfl (op_rd rfl (rd_load Tryz.underlying3 rfl rfl (by exact ld_blk 0 rfl rfl)) ?_)
            refine gl_yes rfl rfl (op_rd rfl (rd_lss rfl rfl) (gk_dec (fun h62 => ?_) (fun h62 => ?_)))
            · refine gl_op <| op_rd rfl (rd_pick_f rfl rfl) <| gl_op <| op_rd rfl (rd_move rfl) <| gl_no rfl rfl rfl <| gl_no rfl rfl rfl <| gl_no rfl rfl rfl <| gl_op <| op_rd rfl (rd_pick_t rfl rfl) <| gl_op <| op_rd rfl (rd_move rfl) <| gl_no rfl rfl rfl <| gl_no rfl rfl rfl <| gl_no rfl rfl rfl <| gl_noU rfl rfl rfl <| gl_noU rfl rfl rfl <| gl_noU rfl rfl rfl <| gl_no rfl rfl rfl <| gl_op <| op_rd rfl (rd_pick_t rfl rfl) <| gl_op <| op_rd rfl (rd_move rfl) <| gl_no rfl rfl rfl <| gl_no rfl rfl rfl <| gl_no rfl rfl rfl <| gl_no rfl rfl rfl <| gl_no rfl rfl rfl <| gl_no rfl rfl rfl <| gl_noU rfl rfl rfl <| gl_noU rfl rfl rfl <| gl_noU rfl rfl rfl ?_
              refine gl_no rfl rfl rfl <| gl_op <| op_rd rfl (rd_pick_t rfl rfl) <| gl_nil <| gx_then <| gc_cond_t rfl <| gc_seq <| gc_region <| gl_op <| op_rd rfl (rd_assign rfl) <| gl_nil <| gx_then <| gc_ret <| gx_then_ret <| gx_ret1 (.inl rfl) Tryz.results53 rfl [] (by decide) ?_
              refine ⟨congrArg (Value.int .i64) (Eq.symm ?_), rfl⟩
              unfold cpErr
              rw [if_neg (by rw [show nameB (cpN s.cs i) = true by unfold cpN; rw [hxd]; exact hn]; decide)]
              rw [if_neg (by rw [twice_no (fun q hq => hall q (by omega))]; decide)]
              rw [hxd]
              rw [if_neg (by simp [*])]
              rw [if_pos]
              (simp [cpArg, *]; done)
            refine gl_op <| op_rd rfl (rd_pick_f rfl rfl) <| gl_op <| op_rd rfl (rd_move rfl) <| gl_yes rfl rfl <| op_rd rfl (rd_fieldAddr rfl (fa_58_4 _)) <| gl_yes rfl rfl (op_rd rfl (rd_load Tryz.underlying3 rfl rfl (by exact ld_blk 0 rfl rfl)) ?_)
            refine gl_yes rfl rfl (op_rd rfl (rd_gtr rfl rfl) (gk_dec (fun h67 => ?_) (fun h67 => ?_)))
            · refine gl_op <| op_rd rfl (rd_pick_f rfl rfl) <| gl_op <| op_rd rfl (rd_move rfl) <| gl_no rfl rfl rfl <| gl_no rfl rfl rfl <| gl_no rfl rfl rfl <| gl_noU rfl rfl rfl <| gl_noU rfl rfl rfl <| gl_noU rfl rfl rfl <| gl_no rfl rfl rfl <| gl_op <| op_rd rfl (rd_pick_t rfl rfl) <| gl_op <| op_rd rfl (rd_move rfl) <| gl_no rfl rfl rfl <| gl_no rfl rfl rfl <| gl_no rfl rfl rfl <| gl_no rfl rfl rfl <| gl_no rfl rfl rfl <| gl_no rfl rfl rfl <| gl_noU rfl rfl rfl <| gl_noU rfl rfl rfl <| gl_noU rfl rfl rfl <| gl_no rfl rfl rfl <| gl_op <| op_rd rfl (rd_pick_t rfl rfl) <| gl_nil <| gx_then <| gc_cond_t rfl ?_
              refine gc_seq <| gc_region <| gl_op <| op_rd rfl (rd_assign rfl) <| gl_nil <| gx_then <| gc_ret <| gx_then_ret <| gx_ret1 (.inl rfl) Tryz.results53 rfl [] (by decide) ?_
              refine ⟨congrArg (Value.int .i64) (Eq.symm ?_), rfl⟩
              unfold cpErr
              rw [if_neg (by rw [show nameB (cpN s.cs i) = true by unfold cpN; rw [hxd]; exact hn]; decide)]
              rw [if_neg (by rw [twice_no (fun q hq => hall q (by omega))]; decide)]
              rw [hxd]
              rw [if_neg (by simp [*])]
              rw [if_pos]
              (simp [cpArg, *]; done)
            refine gl_op <| op_rd rfl (rd_pick_f rfl rfl) <| gl_op <| op_rd rfl (rd_move rfl) <| gl_yes rfl rfl <| op_rd rfl (rd_fieldAddr rfl (fa_58_5 _)) <| gl_yes rfl rfl (op_rd rfl (rd_load Tryz.underlying4 rfl rfl (by exact ld_blk 0 rfl rfl)) ?_)
            refine gk_bool (fun h71 => ?_) (fun h71 => ?_)
            · refine gl_yes rfl rfl <| op_rd rfl (rd_move rfl) <| gl_yes rfl rfl <| op_rd rfl (rd_fieldAddr rfl (fa_58_4 _)) <| gl_yes rfl rfl (op_rd rfl (rd_load Tryz.underlying3 rfl rfl (by exact ld_blk 0 rfl rfl)) ?_)
              refine gl_yes rfl rfl (op_rd rfl (rd_neq rfl rfl) (gk_dec (fun h75 => ?_) (fun h75 => ?_)))
              · refine gl_yes rfl rfl <| op_rd rfl (rd_pick_t rfl rfl) <| gl_op <| op_rd rfl (rd_pick_f rfl rfl) <| gl_op <| op_rd rfl (rd_move rfl) <| gl_no rfl rfl rfl <| gl_no rfl rfl rfl <| gl_no rfl rfl rfl <| gl_no rfl rfl rfl <| gl_no rfl rfl rfl <| gl_no rfl rfl rfl <| gl_noU rfl rfl rfl <| gl_noU rfl rfl rfl <| gl_noU rfl rfl rfl <| gl_no rfl rfl rfl <| gl_op <| op_rd rfl (rd_pick_t rfl rfl) <| gl_nil <| gx_then <| gc_cond_t rfl <| gc_seq <| gc_region <| gl_op <| op_rd rfl (rd_assign rfl) <| gl_nil <| gx_then <| gc_ret <| gx_then_ret <| gx_ret1 (.inl rfl) Tryz.results53 rfl [] (by decide) ?_
                refine ⟨congrArg (Value.int .i64) (Eq.symm ?_), rfl⟩
                unfold cpErr
                rw [if_neg (by rw [show nameB (cpN s.cs i) = true by unfold cpN; rw [hxd]; exact hn]; decide)]
                rw [if_neg (by rw [twice_no (fun q hq => hall q (by omega))]; decide)]
                rw [hxd]
                rw [if_neg (by simp [*])]
                rw [if_pos]
                (simp [cpArg, *]; done)
              refine gl_yes rfl rfl <| op_rd rfl (rd_pick_t rfl rfl) <| gl_op <| op_rd rfl (rd_pick_f rfl rfl) <| gl_op <| op_rd rfl (rd_move rfl) <| gl_yes rfl rfl <| op_rd rfl (rd_fieldAddr rfl (fa_58_1 _)) <| gl_yes rfl rfl (op_rd rfl (rd_load Tryz.underlying3 rfl rfl (by exact ld_blk 0 rfl rfl)) ?_)
              refine gl_yes rfl rfl <| op_rd rfl (rd_fieldAddr rfl (fa_58_2 _)) <| gl_yes rfl rfl (op_rd rfl (rd_load Tryz.underlying3 rfl rfl (by exact ld_blk 0 rfl rfl)) ?_)
              refine gl_yes rfl rfl (op_rd rfl (rd_eql rfl rfl) (gk_dec (fun h83 => ?_) (fun h83 => ?_)))
              · refine gl_yes rfl rfl <| op_rd rfl (rd_move rfl) <| gl_yes rfl rfl <| op_rd rfl (rd_fieldAddr rfl (fa_58_3 _)) <| gl_yes rfl rfl (op_rd rfl (rd_load Tryz.underlying3 rfl rfl (by exact ld_blk 0 rfl rfl)) ?_)
                refine gl_yes rfl rfl (op_rd rfl (rd_eql rfl rfl) (gk_dec (fun h87 => ?_) (fun h87 => ?_)))
                · refine gl_yes rfl rfl <| op_rd rfl (rd_pick_t rfl rfl) <| gl_op <| op_rd rfl (rd_pick_f rfl rfl) <| gl_nil <| gx_then <| gc_cond_t rfl <| gc_seq <| gc_region <| gl_op <| op_rd rfl (rd_assign rfl) <| gl_nil <| gx_then <| gc_ret <| gx_then_ret <| gx_ret1 (.inl rfl) Tryz.results53 rfl [] (by decide) ?_
                  refine ⟨congrArg (Value.int .i64) (Eq.symm ?_), rfl⟩
                  unfold cpErr
                  rw [if_neg (by rw [show nameB (cpN s.cs i) = true by unfold cpN; rw [hxd]; exact hn]; decide)]
                  rw [if_neg (by rw [twice_no (fun q hq => hall q (by omega))]; decide)]
                  rw [hxd]
                  rw [if_neg (by simp [*])]
                  rw [if_pos]
                  (simp [cpArg, *]; done)
                refine gl_yes rfl rfl <| op_rd rfl (rd_pick_t rfl rfl) <| gl_op <| op_rd rfl (rd_pick_f rfl rfl) <| gl_nil <| gx_then <| gc_cond_f rfl <| gc_skip <| gx_then <| gc_seq <| gc_region <| gl_op <| op_rd rfl (rd_assign rfl) <| gl_nil <| gx_then <| gc_ret <| gx_ret1 (.inl rfl) Tryz.results53 rfl [] (by decide) ?_
                refine ⟨congrArg (Value.int .i64) (Eq.symm ?_), rfl⟩
                unfold cpErr
                rw [if_neg (by rw [show nameB (cpN s.cs i) = true by unfold cpN; rw [hxd]; exact hn]; decide)]
                rw [if_neg (by rw [twice_no (fun q hq => hall q (by omega))]; decide)]
                rw [hxd]
                rw [if_neg (by simp [*])]
                rw [if_neg]
                rw [Bool.not_eq_true]
                (unfold cpArg; simp at *; omega)
              refine gl_yes rfl rfl <| op_rd rfl (rd_move rfl) <| gl_no rfl rfl rfl <| gl_no rfl rfl rfl <| gl_no rfl rfl rfl <| gl_yes rfl rfl <| op_rd rfl (rd_pick_f rfl rfl) <| gl_op <| op_rd rfl (rd_pick_f rfl rfl) <| gl_nil <| gx_then <| gc_cond_f rfl <| gc_skip <| gx_then <| gc_seq <| gc_region <| gl_op <| op_rd rfl (rd_assign rfl) <| gl_nil <| gx_then <| gc_ret <| gx_ret1 (.inl rfl) Tryz.results53 rfl [] (by decide) ?_
              refine ⟨congrArg (Value.int .i64) (Eq.symm ?_), rfl⟩
              unfold cpErr
              rw [if_neg (by rw [show nameB (cpN s.cs i) = true by unfold cpN; rw [hxd]; exact hn]; decide)]
              rw [if_neg (by rw [twice_no (fun q hq => hall q (by omega))]; decide)]
              rw [hxd]
              rw [if_neg (by simp [*])]
              rw [if_neg]
              rw [Bool.not_eq_true]
              (unfold cpArg; simp at *; omega)
            refine gl_yes rfl rfl <| op_rd rfl (rd_move rfl) <| gl_no rfl rfl rfl <| gl_no rfl rfl rfl <| gl_no rfl rfl rfl <| gl_yes rfl rfl <| op_rd rfl (rd_pick_f rfl rfl) <| gl_op <| op_rd rfl (rd_pick_f rfl rfl) <| gl_op <| op_rd rfl (rd_move rfl) <| gl_yes rfl rfl <| op_rd rfl (rd_fieldAddr rfl (fa_58_1 _)) <| gl_yes rfl rfl (op_rd rfl (rd_load Tryz.underlying3 rfl rfl (by exact ld_blk 0 rfl rfl)) ?_)
            refine gl_yes rfl rfl <| op_rd rfl (rd_fieldAddr rfl (fa_58_2 _)) <| gl_yes rfl rfl (op_rd rfl (rd_load Tryz.underlying3 rfl rfl (by exact ld_blk 0 rfl rfl)) ?_)
            refine gl_yes rfl rfl (op_rd rfl (rd_eql rfl rfl) (gk_dec (fun h83 => ?_) (fun h83 => ?_)))
            · refine gl_yes rfl rfl <| op_rd rfl (rd_move rfl) <| gl_yes rfl rfl <| op_rd rfl (rd_fieldAddr rfl (fa_58_3 _)) <| gl_yes rfl rfl (op_rd rfl (rd_load Tryz.underlying3 rfl rfl (by exact ld_blk 0 rfl rfl)) ?_)
              refine gl_yes rfl rfl (op_rd rfl (rd_eql rfl rfl) (gk_dec (fun h87 => ?_) (fun h87 => ?_)))
              · refine gl_yes rfl rfl <| op_rd rfl (rd_pick_t rfl rfl) <| gl_op <| op_rd rfl (rd_pick_f rfl rfl) <| gl_nil <| gx_then <| gc_cond_t rfl <| gc_seq <| gc_region <| gl_op <| op_rd rfl (rd_assign rfl) <| gl_nil <| gx_then <| gc_ret <| gx_then_ret <| gx_ret1 (.inl rfl) Tryz.results53 rfl [] (by decide) ?_
                refine ⟨congrArg (Value.int .i64) (Eq.symm ?_), rfl⟩
                unfold cpErr
                rw [if_neg (by rw [show nameB (cpN s.cs i) = true by unfold cpN; rw [hxd]; exact hn]; decide)]
                rw [if_neg (by rw [twice_no (fun q hq => hall q (by omega))]; decide)]
                rw [hxd]
                rw [if_neg (by simp [*])]
                rw [if_pos]
                (simp [cpArg, *]; done)
              refine gl_yes rfl rfl <| op_rd rfl (rd_pick_t rfl rfl) <| gl_op <| op_rd rfl (rd_pick_f rfl rfl) <| gl_nil <| gx_then <| gc_cond_f rfl <| gc_skip <| gx_then <| gc_seq <| gc_region <| gl_op <| op_rd rfl (rd_assign rfl) <| gl_nil <| gx_then <| gc_ret <| gx_ret1 (.inl rfl) Tryz.results53 rfl [] (by decide) ?_
              refine ⟨congrArg (Value.int .i64) (Eq.symm ?_), rfl⟩
              unfold cpErr
              rw [if_neg (by rw [show nameB (cpN s.cs i) = true by unfold cpN; rw [hxd]; exact hn]; decide)]
              rw [if_neg (by rw [twice_no (fun q hq => hall q (by omega))]; decide)]
              rw [hxd]
              rw [if_neg (by simp [*])]
              rw [if_neg]
              rw [Bool.not_eq_true]
              (unfold cpArg; rw [h71]; clear h71; simp at *; omega)
            refine gl_yes rfl rfl <| op_rd rfl (rd_move rfl) <| gl_no rfl rfl rfl <| gl_no rfl rfl rfl <| gl_no rfl rfl rfl <| gl_yes rfl rfl <| op_rd rfl (rd_pick_f rfl rfl) <| gl_op <| op_rd rfl (rd_pick_f rfl rfl) <| gl_nil <| gx_then <| gc_cond_f rfl <| gc_skip <| gx_then <| gc_seq <| gc_region <| gl_op <| op_rd rfl (rd_assign rfl) <| gl_nil <| gx_then <| gc_ret <| gx_ret1 (.inl rfl) Tryz.results53 rfl [] (by decide) ?_
            refine ⟨congrArg (Value.int .i64) (Eq.symm ?_), rfl⟩
            unfold cpErr
            rw [if_neg (by rw [show nameB (cpN s.cs i) = true by unfold cpN; rw [hxd]; exact hn]; decide)]
            rw [if_neg (by rw [twice_no (fun q hq => hall q (by omega))]; decide)]
            rw [hxd]
            rw [if_neg (by simp [*])]
            rw [if_neg]
            rw [Bool.not_eq_true]
            (unfold cpArg; rw [h71]; clear h71; simp at *; omega)
          refine gl_op <| op_rd rfl (rd_pick_t rfl rfl) <| gl_op <| op_rd rfl (rd_move rfl) <| gl_no rfl rfl rfl <| gl_no rfl rfl rfl <| gl_no rfl rfl rfl <| gl_op <| op_rd rfl (rd_pick_f rfl rfl) <| gl_op <| op_rd rfl (rd_move rfl) <| gl_yes rfl rfl <| op_rd rfl (rd_fieldAddr rfl (fa_58_4 _)) <| gl_yes rfl rfl (op_rd rfl (rd_load Tryz.underlying3 rfl rfl (by exact ld_blk 0 rfl rfl)) ?_)
          refine gl_yes rfl rfl (op_rd rfl (rd_lss rfl rfl) (gk_dec (fun h62 => ?_) (fun h62 => ?_)))
          · refine gl_op <| op_rd rfl (rd_pick_f rfl rfl) <| gl_op <| op_rd rfl (rd_move rfl) <| gl_no rfl rfl rfl <| gl_no rfl rfl rfl <| gl_no rfl rfl rfl <| gl_op <| op_rd rfl (rd_pick_t rfl rfl) <| gl_op <| op_rd rfl (rd_move rfl) <| gl_no rfl rfl rfl <| gl_no rfl rfl rfl <| gl_no rfl rfl rfl <| gl_noU rfl rfl rfl <| gl_noU rfl rfl rfl <| gl_noU rfl rfl rfl <| gl_no rfl rfl rfl <| gl_op <| op_rd rfl (rd_pick_t rfl rfl) <| gl_op <| op_rd rfl (rd_move rfl) <| gl_no rfl rfl rfl <| gl_no rfl rfl rfl <| gl_no rfl rfl rfl <| gl_no rfl rfl rfl <| gl_no rfl rfl rfl <| gl_no rfl rfl rfl <| gl_noU rfl rfl rfl <| gl_noU rfl rfl rfl <| gl_noU rfl rfl rfl ?_
            refine gl_no rfl rfl rfl <| gl_op <| op_rd rfl (rd_pick_t rfl rfl) <| gl_nil <| gx_then <| gc_cond_t rfl <| gc_seq <| gc_region <| gl_op <| op_rd rfl (rd_assign rfl) <| gl_nil <| gx_then <| gc_ret <| gx_then_ret <| gx_ret1 (.inl rfl) Tryz.results53 rfl [] (by decide) ?_
            refine ⟨congrArg (Value.int .i64) (Eq.symm ?_), rfl⟩
            unfold cpErr
            rw [if_neg (by rw [show nameB (cpN s.cs i) = true by unfold cpN; rw [hxd]; exact hn]; decide)]
            rw [if_neg (by rw [twice_no (fun q hq => hall q (by omega))]; decide)]
            rw [hxd]
            rw [if_neg (by simp [*])]
            rw [if_pos]
            (simp [cpArg, *]; done)
          refine gl_op <| op_rd rfl (rd_pick_f rfl rfl) <| gl_op <| op_rd rfl (rd_move rfl) <| gl_yes rfl rfl <| op_rd rfl (rd_fieldAddr rfl (fa_58_4 _)) <| gl_yes rfl rfl (op_rd rfl (rd_load Tryz.underlying3 rfl rfl (by exact ld_blk 0 rfl rfl)) ?_)
          refine gl_yes rfl rfl (op_rd rfl (rd_gtr rfl rfl) (gk_dec (fun h67 => ?_) (fun h67 => ?_)))
          · refine gl_op <| op_rd rfl (rd_pick_f rfl rfl) <| gl_op <| op_rd rfl (rd_move rfl) <| gl_no rfl rfl rfl <| gl_no rfl rfl rfl <| gl_no rfl rfl rfl <| gl_noU rfl rfl rfl <| gl_noU rfl rfl rfl <| gl_noU rfl rfl rfl <| gl_no rfl rfl rfl <| gl_op <| op_rd rfl (rd_pick_t rfl rfl) <| gl_op <| op_rd rfl (rd_move rfl) <| gl_no rfl rfl rfl <| gl_no rfl rfl rfl <| gl_no rfl rfl rfl <| gl_no rfl rfl rfl <| gl_no rfl rfl rfl <| gl_no rfl rfl rfl <| gl_noU rfl rfl rfl <| gl_noU rfl rfl rfl <| gl_noU rfl rfl rfl <| gl_no rfl rfl rfl <| gl_op <| op_rd rfl (rd_pick_t rfl rfl) <| gl_nil <| gx_then <| gc_cond_t rfl ?_
            refine gc_seq <| gc_region <| gl_op <| op_rd rfl (rd_assign rfl) <| gl_nil <| gx_then <| gc_ret <| gx_then_ret <| gx_ret1 (.inl rfl) Tryz.results53 rfl [] (by decide) ?_
            refine ⟨congrArg (Value.int .i64) (Eq.symm ?_), rfl⟩
            unfold cpErr
            rw [if_neg (by rw [show nameB (cpN s.cs i) = true by unfold cpN; rw [hxd]; exact hn]; decide)]
            rw [if_neg (by rw [twice_no (fun q hq => hall q (by omega))]; decide)]
            rw [hxd]
            rw [if_neg (by simp [*])]
            rw [if_pos]
            (simp [cpArg, *]; done)
          refine gl_op <| op_rd rfl (rd_pick_f rfl rfl) <| gl_op <| op_rd rfl (rd_move rfl) <| gl_yes rfl rfl <| op_rd rfl (rd_fieldAddr rfl (fa_58_5 _)) <| gl_yes rfl rfl (op_rd rfl (rd_load Tryz.underlying4 rfl rfl (by exact ld_blk 0 rfl rfl)) ?_)
          refine gk_bool (fun h71 => ?_) (fun h71 => ?_)
          · refine gl_yes rfl rfl <| op_rd rfl (rd_move rfl) <| gl_yes rfl rfl <| op_rd rfl (rd_fieldAddr rfl (fa_58_4 _)) <| gl_yes rfl rfl (op_rd rfl (rd_load Tryz.underlying3 rfl rfl (by exact ld_blk 0 rfl rfl)) ?_)
            refine gl_yes rfl rfl (op_rd rfl (rd_neq rfl rfl) (gk_dec (fun h75 => ?_) (fun h75 => ?_)))
            · refine gl_yes rfl rfl <| op_rd rfl (rd_pick_t rfl rfl) <| gl_op <| op_rd rfl (rd_pick_f rfl rfl) <| gl_op <| op_rd rfl (rd_move rfl) <| gl_no rfl rfl rfl <| gl_no rfl rfl rfl <| gl_no rfl rfl rfl <| gl_no rfl rfl rfl <| gl_no rfl rfl rfl <| gl_no rfl rfl rfl <| gl_noU rfl rfl rfl <| gl_noU rfl rfl rfl <| gl_noU rfl rfl rfl <| gl_no rfl rfl rfl <| gl_op <| op_rd rfl (rd_pick_t rfl rfl) <| gl_nil <| gx_then <| gc_cond_t rfl <| gc_seq <| gc_region <| gl_op <| op_rd rfl (rd_assign rfl) <| gl_nil <| gx_then <| gc_ret <| gx_then_ret <| gx_ret1 (.inl rfl) Tryz.results53 rfl [] (by decide) ?_
              refine ⟨congrArg (Value.int .i64) (Eq.symm ?_), rfl⟩
              unfold cpErr
              rw [if_neg (by rw [show nameB (cpN s.cs i) = true by unfold cpN; rw [hxd]; exact hn]; decide)]
              rw [if_neg (by rw [twice_no (fun q hq => hall q (by omega))]; decide)]
              rw [hxd]
              rw [if_neg (by simp [*])]
              rw [if_pos]
              (simp [cpArg, *]; done)
            refine gl_yes rfl rfl <| op_rd rfl (rd_pick_t rfl rfl) <| gl_op <| op_rd rfl (rd_pick_f rfl rfl) <| gl_op <| op_rd rfl (rd_move rfl) <| gl_yes rfl rfl <| op_rd rfl (rd_fieldAddr rfl (fa_58_1 _)) <| gl_yes rfl rfl (op_rd rfl (rd_load Tryz.underlying3 rfl rfl (by exact ld_blk 0 rfl rfl)) ?_)
            refine gl_yes rfl rfl <| op_rd rfl (rd_fieldAddr rfl (fa_58_2 _)) <| gl_yes rfl rfl (op_rd rfl (rd_load Tryz.underlying3 rfl rfl (by exact ld_blk 0 rfl rfl)) ?_)
            refine gl_yes rfl rfl (op_rd rfl (rd_eql rfl rfl) (gk_dec (fun h83 => ?_) (fun h83 => ?_)))
            · refine gl_yes rfl rfl <| op_rd rfl (rd_move rfl) <| gl_yes rfl rfl <| op_rd rfl (rd_fieldAddr rfl (fa_58_3 _)) <| gl_yes rfl rfl (op_rd rfl (rd_load Tryz.underlying3 rfl rfl (by exact ld_blk 0 rfl rfl)) ?_)
              refine gl_yes rfl rfl (op_rd rfl (rd_eql rfl rfl) (gk_dec (fun h87 => ?_) (fun h87 => ?_)))
              · refine gl_yes rfl rfl <| op_rd rfl (rd_pick_t rfl rfl) <| gl_op <| op_rd rfl (rd_pick_f rfl rfl) <| gl_nil <| gx_then <| gc_cond_t rfl <| gc_seq <| gc_region <| gl_op <| op_rd rfl (rd_assign rfl) <| gl_nil <| gx_then <| gc_ret <| gx_then_ret <| gx_ret1 (.inl rfl) Tryz.results53 rfl [] (by decide) ?_
                refine ⟨congrArg (Value.int .i64) (Eq.symm ?_), rfl⟩
                unfold cpErr
                rw [if_neg (by rw [show nameB (cpN s.cs i) = true by unfold cpN; rw [hxd]; exact hn]; decide)]
                rw [if_neg (by rw [twice_no (fun q hq => hall q (by omega))]; decide)]
                rw [hxd]
                rw [if_neg (by simp [*])]
                rw [if_pos]
                (simp [cpArg, *]; done)
              refine gl_yes rfl rfl <| op_rd rfl (rd_pick_t rfl rfl) <| gl_op <| op_rd rfl (rd_pick_f rfl rfl) <| gl_nil <| gx_then <| gc_cond_f rfl <| gc_skip <| gx_then <| gc_seq <| gc_region <| gl_op <| op_rd rfl (rd_assign rfl) <| gl_nil <| gx_then <| gc_ret <| gx_ret1 (.inl rfl) Tryz.results53 rfl [] (by decide) ?_
              refine ⟨congrArg (Value.int .i64) (Eq.symm ?_), rfl⟩
              unfold cpErr
              rw [if_neg (by rw [show nameB (cpN s.cs i) = true by unfold cpN; rw [hxd]; exact hn]; decide)]
              rw [if_neg (by rw [twice_no (fun q hq => hall q (by omega))]; decide)]
              rw [hxd]
              rw [if_neg (by simp [*])]
              rw [if_neg]
              rw [Bool.not_eq_true]
              (unfold cpArg; simp at *; omega)
            refine gl_yes rfl rfl <| op_rd rfl (rd_move rfl) <| gl_no rfl rfl rfl <| gl_no rfl rfl rfl <| gl_no rfl rfl rfl <| gl_yes rfl rfl <| op_rd rfl (rd_pick_f rfl rfl) <| gl_op <| op_rd rfl (rd_pick_f rfl rfl) <| gl_nil <| gx_then <| gc_cond_f rfl <| gc_skip <| gx_then <| gc_seq <| gc_region <| gl_op <| op_rd rfl (rd_assign rfl) <| gl_nil <| gx_then <| gc_ret <| gx_ret1 (.inl rfl) Tryz.results53 rfl [] (by decide) ?_
            refine ⟨congrArg (Value.int .i64) (Eq.symm ?_), rfl⟩
            unfold cpErr
            rw [if_neg (by rw [show nameB (cpN s.cs i) = true by unfold cpN; rw [hxd]; exact hn]; decide)]
            rw [if_neg (by rw [twice_no (fun q hq => hall q (by omega))]; decide)]
            rw [hxd]
            rw [if_neg (by simp [*])]
            rw [if_neg]
            rw [Bool.not_eq_true]
            (unfold cpArg; simp at *; omega)
          refine gl_yes rfl rfl <| op_rd rfl (rd_move rfl) <| gl_no rfl rfl rfl <| gl_no rfl rfl rfl <| gl_no rfl rfl rfl <| gl_yes rfl rfl <| op_rd rfl (rd_pick_f rfl rfl) <| gl_op <| op_rd rfl (rd_pick_f rfl rfl) <| gl_op <| op_rd rfl (rd_move rfl) <| gl_yes rfl rfl <| op_rd rfl (rd_fieldAddr rfl (fa_58_1 _)) <| gl_yes rfl rfl (op_rd rfl (rd_load Tryz.underlying3 rfl rfl (by exact ld_blk 0 rfl rfl)) ?_)
          refine gl_yes rfl rfl <| op_rd rfl (rd_fieldAddr rfl (fa_58_2 _)) <| gl_yes rfl rfl (op_rd rfl (rd_load Tryz.underlying3 rfl rfl (by exact ld_blk 0 rfl rfl)) ?_)
          refine gl_yes rfl rfl (op_rd rfl (rd_eql rfl rfl) (gk_dec (fun h83 => ?_) (fun h83 => ?_)))
          · refine gl_yes rfl rfl <| op_rd rfl (rd_move rfl) <| gl_yes rfl rfl <| op_rd rfl (rd_fieldAddr rfl (fa_58_3 _)) <| gl_yes rfl rfl (op_rd rfl (rd_load Tryz.underlying3 rfl rfl (by exact ld_blk 0 rfl rfl)) ?_)
            refine gl_yes rfl rfl (op_rd rfl (rd_eql rfl rfl) (gk_dec (fun h87 => ?_) (fun h87 => ?_)))
            · refine gl_yes rfl rfl <| op_rd rfl (rd_pick_t rfl rfl) <| gl_op <| op_rd rfl (rd_pick_f rfl rfl) <| gl_nil <| gx_then <| gc_cond_t rfl <| gc_seq <| gc_region <| gl_op <| op_rd rfl (rd_assign rfl) <| gl_nil <| gx_then <| gc_ret <| gx_then_ret <| gx_ret1 (.inl rfl) Tryz.results53 rfl [] (by decide) ?_
              refine ⟨congrArg (Value.int .i64) (Eq.symm ?_), rfl⟩
              unfold cpErr
              rw [if_neg (by rw [show nameB (cpN s.cs i) = true by unfold cpN; rw [hxd]; exact hn]; decide)]
              rw [if_neg (by rw [twice_no (fun q hq => hall q (by omega))]; decide)]
              rw [hxd]
              rw [if_neg (by simp [*])]
              rw [if_pos]
              (simp [cpArg, *]; done)
            refine gl_yes rfl rfl <| op_rd rfl (rd_pick_t rfl rfl) <| gl_op <| op_rd rfl (rd_pick_f rfl rfl) <| gl_nil <| gx_then <| gc_cond_f rfl <| gc_skip <| gx_then <| gc_seq <| gc_region <| gl_op <| op_rd rfl (rd_assign rfl) <| gl_nil <| gx_then <| gc_ret <| gx_ret1 (.inl rfl) Tryz.results53 rfl [] (by decide) ?_
            refine ⟨congrArg (Value.int .i64) (Eq.symm ?_), rfl⟩
            unfold cpErr
            rw [if_neg (by rw [show nameB (cpN s.cs i) = true by unfold cpN; rw [hxd]; exact hn]; decide)]
            rw [if_neg (by rw [twice_no (fun q hq => hall q (by omega))]; decide)]
            rw [hxd]
            rw [if_neg (by simp [*])]
            rw [if_neg]
            rw [Bool.not_eq_true]
            (unfold cpArg; simp at *; omega)
          refine gl_yes rfl rfl <| op_rd rfl (rd_move rfl) <| gl_no rfl rfl rfl <| gl_no rfl rfl rfl <| gl_no rfl rfl rfl <| gl_yes rfl rfl <| op_rd rfl (rd_pick_f rfl rfl) <| gl_op <| op_rd rfl (rd_pick_f rfl rfl) <| gl_nil <| gx_then <| gc_cond_f rfl <| gc_skip <| gx_then <| gc_seq <| gc_region <| gl_op <| op_rd rfl (rd_assign rfl) <| gl_nil <| gx_then <| gc_ret <| gx_ret1 (.inl rfl) Tryz.results53 rfl [] (by decide) ?_
          refine ⟨congrArg (Value.int .i64) (Eq.symm ?_), rfl⟩
          unfold cpErr
          rw [if_neg (by rw [show nameB (cpN s.cs i) = true by unfold cpN; rw [hxd]; exact hn]; decide)]
          rw [if_neg (by rw [twice_no (fun q hq => hall q (by omega))]; decide)]
          rw [hxd]
          rw [if_neg (by simp [*])]
          rw [if_neg]
          rw [Bool.not_eq_true]
          (unfold cpArg; rw [h71]; clear h71; simp at *; omega)
        refine gl_op <| op_rd rfl (rd_move rfl) <| gl_no rfl rfl rfl <| gl_no rfl rfl rfl <| gl_no rfl rfl rfl <| gl_op <| op_rd rfl (rd_pick_f rfl rfl) <| gl_op <| op_rd rfl (rd_move rfl) <| gl_no rfl rfl rfl <| gl_no rfl rfl rfl <| gl_no rfl rfl rfl <| gl_op <| op_rd rfl (rd_pick_f rfl rfl) <| gl_op <| op_rd rfl (rd_move rfl) <| gl_yes rfl rfl <| op_rd rfl (rd_fieldAddr rfl (fa_58_4 _)) <| gl_yes rfl rfl (op_rd rfl (rd_load Tryz.underlying3 rfl rfl (by exact ld_blk 0 rfl rfl)) ?_)
        refine gl_yes rfl rfl (op_rd rfl (rd_lss rfl rfl) (gk_dec (fun h62 => ?_) (fun h62 => ?_)))
        · refine gl_op <| op_rd rfl (rd_pick_f rfl rfl) <| gl_op <| op_rd rfl (rd_move rfl) <| gl_no rfl rfl rfl <| gl_no rfl rfl rfl <| gl_no rfl rfl rfl <| gl_op <| op_rd rfl (rd_pick_t rfl rfl) <| gl_op <| op_rd rfl (rd_move rfl) <| gl_no rfl rfl rfl <| gl_no rfl rfl rfl <| gl_no rfl rfl rfl <| gl_noU rfl rfl rfl <| gl_noU rfl rfl rfl <| gl_noU rfl rfl rfl <| gl_no rfl rfl rfl <| gl_op <| op_rd rfl (rd_pick_t rfl rfl) <| gl_op <| op_rd rfl (rd_move rfl) <| gl_no rfl rfl rfl <| gl_no rfl rfl rfl <| gl_no rfl rfl rfl <| gl_no rfl rfl rfl <| gl_no rfl rfl rfl <| gl_no rfl rfl rfl <| gl_noU rfl rfl rfl <| gl_noU rfl rfl rfl <| gl_noU rfl rfl rfl ?_
          refine gl_no rfl rfl rfl <| gl_op <| op_rd rfl (rd_pick_t rfl rfl) <| gl_nil <| gx_then <| gc_cond_t rfl <| gc_seq <| gc_region <| gl_op <| op_rd rfl (rd_assign rfl) <| gl_nil <| gx_then <| gc_ret <| gx_then_ret <| gx_ret1 (.inl rfl) Tryz.results53 rfl [] (by decide) ?_
          refine ⟨congrArg (Value.int .i64) (Eq.symm ?_), rfl⟩
          unfold cpErr
          rw [if_neg (by rw [show nameB (cpN s.cs i) = true by unfold cpN; rw [hxd]; exact hn]; decide)]
          rw [if_neg (by rw [twice_no (fun q hq => hall q (by omega))]; decide)]
          rw [hxd]
          rw [if_neg (by simp [*])]
          rw [if_pos]
          (simp [cpArg, *]; done)
        refine gl_op <| op_rd rfl (rd_pick_f rfl rfl) <| gl_op <| op_rd rfl (rd_move rfl) <| gl_yes rfl rfl <| op_rd rfl (rd_fieldAddr rfl (fa_58_4 _)) <| gl_yes rfl rfl (op_rd rfl (rd_load Tryz.underlying3 rfl rfl (by exact ld_blk 0 rfl rfl)) ?_)
        refine gl_yes rfl rfl (op_rd rfl (rd_gtr rfl rfl) (gk_dec (fun h67 => ?_) (fun h67 => ?_)))
        · refine gl_op <| op_rd rfl (rd_pick_f rfl rfl) <| gl_op <| op_rd rfl (rd_move rfl) <| gl_no rfl rfl rfl <| gl_no rfl rfl rfl <| gl_no rfl rfl rfl <| gl_noU rfl rfl rfl <| gl_noU rfl rfl rfl <| gl_noU rfl rfl rfl <| gl_no rfl rfl rfl <| gl_op <| op_rd rfl (rd_pick_t rfl rfl) <| gl_op <| op_rd rfl (rd_move rfl) <| gl_no rfl rfl rfl <| gl_no rfl rfl rfl <| gl_no rfl rfl rfl <| gl_no rfl rfl rfl <| gl_no rfl rfl rfl <| gl_no rfl rfl rfl <| gl_noU rfl rfl rfl <| gl_noU rfl rfl rfl <| gl_noU rfl rfl rfl <| gl_no rfl rfl rfl <| gl_op <| op_rd rfl (rd_pick_t rfl rfl) <| gl_nil <| gx_then <| gc_cond_t rfl ?_
          refine gc_seq <| gc_region <| gl_op <| op_rd rfl (rd_assign rfl) <| gl_nil <| gx_then <| gc_ret <| gx_then_ret <| gx_ret1 (.inl rfl) Tryz.results53 rfl [] (by decide) ?_
          refine ⟨congrArg (Value.int .i64) (Eq.symm ?_), rfl⟩
          unfold cpErr
          rw [if_neg (by rw [show nameB (cpN s.cs i) = true by unfold cpN; rw [hxd]; exact hn]; decide)]
          rw [if_neg (by rw [twice_no (fun q hq => hall q (by omega))]; decide)]
          rw [hxd]
          rw [if_neg (by simp [*])]
          rw [if_pos]
          (simp [cpArg, *]; done)
        refine gl_op <| op_rd rfl (rd_pick_f rfl rfl) <| gl_op <| op_rd rfl (rd_move rfl) <| gl_yes rfl rfl <| op_rd rfl (rd_fieldAddr rfl (fa_58_5 _)) <| gl_yes rfl rfl (op_rd rfl (rd_load Tryz.underlying4 rfl rfl (by exact ld_blk 0 rfl rfl)) ?_)
        refine gk_bool (fun h71 => ?_) (fun h71 => ?_)
        · refine gl_yes rfl rfl <| op_rd rfl (rd_move rfl) <| gl_yes rfl rfl <| op_rd rfl (rd_fieldAddr rfl (fa_58_4 _)) <| gl_yes rfl rfl (op_rd rfl (rd_load Tryz.underlying3 rfl rfl (by exact ld_blk 0 rfl rfl)) ?_)
          refine gl_yes rfl rfl (op_rd rfl (rd_neq rfl rfl) (gk_dec (fun h75 => ?_) (fun h75 => ?_)))
          · refine gl_yes rfl rfl <| op_rd rfl (rd_pick_t rfl rfl) <| gl_op <| op_rd rfl (rd_pick_f rfl rfl) <| gl_op <| op_rd rfl (rd_move rfl) <| gl_no rfl rfl rfl <| gl_no rfl rfl rfl <| gl_no rfl rfl rfl <| gl_no rfl rfl rfl <| gl_no rfl rfl rfl <| gl_no rfl rfl rfl <| gl_noU rfl rfl rfl <| gl_noU rfl rfl rfl <| gl_noU rfl rfl rfl <| gl_no rfl rfl rfl <| gl_op <| op_rd rfl (rd_pick_t rfl rfl) <| gl_nil <| gx_then <| gc_cond_t rfl <| gc_seq <| gc_region <| gl_op <| op_rd rfl (rd_assign rfl) <| gl_nil <| gx_then <| gc_ret <| gx_then_ret <| gx_ret1 (.inl rfl) Tryz.results53 rfl [] (by decide) ?_
            refine ⟨congrArg (Value.int .i64) (Eq.symm ?_), rfl⟩
            unfold cpErr
            rw [if_neg (by rw [show nameB (cpN s.cs i) = true by unfold cpN; rw [hxd]; exact hn]; decide)]
            rw [if_neg (by rw [twice_no (fun q hq => hall q (by omega))]; decide)]
            rw [hxd]
            rw [if_neg (by simp [*])]
            rw [if_pos]
            (simp [cpArg, *]; done)
          refine gl_yes rfl rfl <| op_rd rfl (rd_pick_t rfl rfl) <| gl_op <| op_rd rfl (rd_pick_f rfl rfl) <| gl_op <| op_rd rfl (rd_move rfl) <| gl_yes rfl rfl <| op_rd rfl (rd_fieldAddr rfl (fa_58_1 _)) <| gl_yes rfl rfl (op_rd rfl (rd_load Tryz.underlying3 rfl rfl (by exact ld_blk 0 rfl rfl)) ?_)
          refine gl_yes rfl rfl <| op_rd rfl (rd_fieldAddr rfl (fa_58_2 _)) <| gl_yes rfl rfl (op_rd rfl (rd_load Tryz.underlying3 rfl rfl (by exact ld_blk 0 rfl rfl)) ?_)
          refine gl_yes rfl rfl (op_rd rfl (rd_eql rfl rfl) (gk_dec (fun h83 => ?_) (fun h83 => ?_)))
          · refine gl_yes rfl rfl <| op_rd rfl (rd_move rfl) <| gl_yes rfl rfl <| op_rd rfl (rd_fieldAddr rfl (fa_58_3 _)) <| gl_yes rfl rfl (op_rd rfl (rd_load Tryz.underlying3 rfl rfl (by exact ld_blk 0 rfl rfl)) ?_)
            refine gl_yes rfl rfl (op_rd rfl (rd_eql rfl rfl) (gk_dec (fun h87 => ?_) (fun h87 => ?_)))
            · refine gl_yes rfl rfl <| op_rd rfl (rd_pick_t rfl rfl) <| gl_op <| op_rd rfl (rd_pick_f rfl rfl) <| gl_nil <| gx_then <| gc_cond_t rfl <| gc_seq <| gc_region <| gl_op <| op_rd rfl (rd_assign rfl) <| gl_nil <| gx_then <| gc_ret <| gx_then_ret <| gx_ret1 (.inl rfl) Tryz.results53 rfl [] (by decide) ?_
              refine ⟨congrArg (Value.int .i64) (Eq.symm ?_), rfl⟩
              unfold cpErr
              rw [if_neg (by rw [show nameB (cpN s.cs i) = true by unfold cpN; rw [hxd]; exact hn]; decide)]
              rw [if_neg (by rw [twice_no (fun q hq => hall q (by omega))]; decide)]
              rw [hxd]
              rw [if_neg (by simp [*])]
              rw [if_pos]
              (simp [cpArg, *]; done)
            refine gl_yes rfl rfl <| op_rd rfl (rd_pick_t rfl rfl) <| gl_op <| op_rd rfl (rd_pick_f rfl rfl) <| gl_nil <| gx_then <| gc_cond_f rfl <| gc_skip <| gx_then <| gc_seq <| gc_region <| gl_op <| op_rd rfl (rd_assign rfl) <| gl_nil <| gx_then <| gc_ret <| gx_ret1 (.inl rfl) Tryz.results53 rfl [] (by decide) ?_
            refine ⟨congrArg (Value.int .i64) (Eq.symm ?_), rfl⟩
            unfold cpErr
            rw [if_neg (by rw [show nameB (cpN s.cs i) = true by unfold cpN; rw [hxd]; exact hn]; decide)]
            rw [if_neg (by rw [twice_no (fun q hq => hall q (by omega))]; decide)]
            rw [hxd]
            rw [if_neg (by simp [*])]
            rw [if_neg]
            rw [Bool.not_eq_true]
            (unfold cpArg; simp at *; omega)
          refine gl_yes rfl rfl <| op_rd rfl (rd_move rfl) <| gl_no rfl rfl rfl <| gl_no rfl rfl rfl <| gl_no rfl rfl rfl <| gl_yes rfl rfl <| op_rd rfl (rd_pick_f rfl rfl) <| gl_op <| op_rd rfl (rd_pick_f rfl rfl) <| gl_nil <| gx_then <| gc_cond_f rfl <| gc_skip <| gx_then <| gc_seq <| gc_region <| gl_op <| op_rd rfl (rd_assign rfl) <| gl_nil <| gx_then <| gc_ret <| gx_ret1 (.inl rfl) Tryz.results53 rfl [] (by decide) ?_
          refine ⟨congrArg (Value.int .i64) (Eq.symm ?_), rfl⟩
          unfold cpErr
          rw [if_neg (by rw [show nameB (cpN s.cs i) = true by unfold cpN; rw [hxd]; exact hn]; decide)]
          rw [if_neg (by rw [twice_no (fun q hq => hall q (by omega))]; decide)]
          rw [hxd]
          rw [if_neg (by simp [*])]
          rw [if_neg]
          rw [Bool.not_eq_true]
          (unfold cpArg; simp at *; omega)
        refine gl_yes rfl rfl <| op_rd rfl (rd_move rfl) <| gl_no rfl rfl rfl <| gl_no rfl rfl rfl <| gl_no rfl rfl rfl <| gl_yes rfl rfl <| op_rd rfl (rd_pick_f rfl rfl) <| gl_op <| op_rd rfl (rd_pick_f rfl rfl) <| gl_op <| op_rd rfl (rd_move rfl) <| gl_yes rfl rfl <| op_rd rfl (rd_fieldAddr rfl (fa_58_1 _)) <| gl_yes rfl rfl (op_rd rfl (rd_load Tryz.underlying3 rfl rfl (by exact ld_blk 0 rfl rfl)) ?_)
        refine gl_yes rfl rfl <| op_rd rfl (rd_fieldAddr rfl (fa_58_2 _)) <| gl_yes rfl rfl (op_rd rfl (rd_load Tryz.underlying3 rfl rfl (by exact ld_blk 0 rfl rfl)) ?_)
        refine gl_yes rfl rfl (op_rd rfl (rd_eql rfl rfl) (gk_dec (fun h83 => ?_) (fun h83 => ?_)))
        · refine gl_yes rfl rfl <| op_rd rfl (rd_move rfl) <| gl_yes rfl rfl <| op_rd rfl (rd_fieldAddr rfl (fa_58_3 _)) <| gl_yes rfl rfl (op_rd rfl (rd_load Tryz.underlying3 rfl rfl (by exact ld_blk 0 rfl rfl)) ?_)
          refine gl_yes rfl rfl (op_rd rfl (rd_eql rfl rfl) (gk_dec (fun h87 => ?_) (fun h87 => ?_)))
          · refine gl_yes rfl rfl <| op_rd rfl (rd_pick_t rfl rfl) <| gl_op <| op_rd rfl (rd_pick_f rfl rfl) <| gl_nil <| gx_then <| gc_cond_t rfl <| gc_seq <| gc_region <| gl_op <| op_rd rfl (rd_assign rfl) <| gl_nil <| gx_then <| gc_ret <| gx_then_ret <| gx_ret1 (.inl rfl) Tryz.results53 rfl [] (by decide) ?_
            refine ⟨congrArg (Value.int .i64) (Eq.symm ?_), rfl⟩
            unfold cpErr
            rw [if_neg (by rw [show nameB (cpN s.cs i) = true by unfold cpN; rw [hxd]; exact hn]; decide)]
            rw [if_neg (by rw [twice_no (fun q hq => hall q (by omega))]; decide)]
            rw [hxd]
            rw [if_neg (by simp [*])]
            rw [if_pos]
            (simp [cpArg, *]; done)
          refine gl_yes rfl rfl <| op_rd rfl (rd_pick_t rfl rfl) <| gl_op <| op_rd rfl (rd_pick_f rfl rfl) <| gl_nil <| gx_then <| gc_cond_f rfl <| gc_skip <| gx_then <| gc_seq <| gc_region <| gl_op <| op_rd rfl (rd_assign rfl) <| gl_nil <| gx_then <| gc_ret <| gx_ret1 (.inl rfl) Tryz.results53 rfl [] (by decide) ?_
          refine ⟨congrArg (Value.int .i64) (Eq.symm ?_), rfl⟩
          unfold cpErr
          rw [if_neg (by rw [show nameB (cpN s.cs i) = true by unfold cpN; rw [hxd]; exact hn]; decide)]
          rw [if_neg (by rw [twice_no (fun q hq => hall q (by omega))]; decide)]
          rw [hxd]
          rw [if_neg (by simp [*])]
          rw [if_neg]
          rw [Bool.not_eq_true]
          (unfold cpArg; rw [h71]; clear h71; simp at *; omega)
        refine gl_yes rfl rfl <| op_rd rfl (rd_move rfl) <| gl_no rfl rfl rfl <| gl_no rfl rfl rfl <| gl_no rfl rfl rfl <| gl_yes rfl rfl <| op_rd rfl (rd_pick_f rfl rfl) <| gl_op <| op_rd rfl (rd_pick_f rfl rfl) <| gl_nil <| gx_then <| gc_cond_f rfl <| gc_skip <| gx_then <| gc_seq <| gc_region <| gl_op <| op_rd rfl (rd_assign rfl) <| gl_nil <| gx_then <| gc_ret <| gx_ret1 (.inl rfl) Tryz.results53 rfl [] (by decide) ?_
        refine ⟨congrArg (Value.int .i64) (Eq.symm ?_), rfl⟩
        unfold cpErr
        rw [if_neg (by rw [show nameB (cpN s.cs i) = true by unfold cpN; rw [hxd]; exact hn]; decide)]
        rw [if_neg (by rw [twice_no (fun q hq => hall q (by omega))]; decide)]
        rw [hxd]
        rw [if_neg (by simp [*])]
        rw [if_neg]
        rw [Bool.not_eq_true]
        (unfold cpArg; rw [h71]; clear h71; simp at *; omega)
      refine gl_yes rfl rfl <| op_rd rfl (rd_not rfl) <| gl_op <| op_rd rfl (rd_pick_f rfl rfl) <| gl_nil <| gx_then <| gc_cond_t rfl <| gc_seq <| gc_region <| gl_op <| op_rd rfl (rd_assign rfl) <| gl_nil <| gx_then <| gc_ret <| gx_then_ret <| gx_ret1 (.inl rfl) Tryz.results53 rfl [] (by decide) ?_
      refine ⟨congrArg (Value.int .i64) (Eq.symm ?_), rfl⟩
      unfold cpErr
      rw [if_neg (by rw [show nameB (cpN s.cs i) = true by unfold cpN; rw [hxd]; exact hn]; decide)]
      rw [if_neg (by rw [twice_no (fun q hq => hall q (by omega))]; decide)]
      rw [hxd]
      rw [if_pos (by simp [*])]
    refine gl_op <| op_rd rfl (rd_not rfl) <| gl_op <| op_rd rfl (rd_move rfl) <| gl_no rfl rfl rfl <| gl_no rfl rfl rfl <| gl_no rfl rfl rfl <| gl_no rfl rfl rfl <| gl_no rfl rfl rfl <| gl_no rfl rfl rfl <| gl_no rfl rfl rfl <| gl_op <| op_rd rfl (rd_pick_t rfl rfl) <| gl_nil <| gx_then <| gc_cond_t rfl <| gc_seq <| gc_region <| gl_op <| op_rd rfl (rd_assign rfl) <| gl_nil <| gx_then <| gc_ret <| gx_then_ret <| gx_ret1 (.inl rfl) Tryz.results53 rfl [] (by decide) ?_
    refine ⟨congrArg (Value.int .i64) (Eq.symm ?_), rfl⟩
    unfold cpErr
    rw [if_neg (by rw [show nameB (cpN s.cs i) = true by unfold cpN; rw [hxd]; exact hn]; decide)]
    rw [if_neg (by rw [twice_no (fun q hq => hall q (by omega))]; decide)]
    rw [hxd]
    rw [if_pos (by simp [*])]
  refine gl_op <| op_rd rfl (rd_not rfl) <| gl_nil <| gx_then <| gc_cond_t rfl <| gc_seq <| gc_region <| gl_op <| op_rd rfl (rd_assign rfl) <| gl_nil <| gx_then <| gc_ret <| gx_then_ret <| gx_ret1 (.inl rfl) Tryz.results53 rfl [] (by decide) ?_
  refine ⟨congrArg (Value.int .i64) (Eq.symm ?_), rfl⟩
  unfold cpErr
  rw [if_pos (show nameB (cpN s.cs i) = false by unfold cpN; rw [hxd]; exact hn)]
end Go.Proofs.YtbjijbbkfgcleaaGreatDoor
