import Derived.Test.YthcbcdjkfefnlaaGreatDoorW01
import Derived.Test.YthcbcdjkfefnlaaGreatDoorProg
import Derived.Shelf.Strconv.Itoa4
import Derived.Test.YthcbcdjkfefnlaaGreatDoorW00
/- A part of the proof: walks of the program. -/
set_option autoImplicit false
set_option linter.unusedSimpArgs false
set_option linter.unusedVariables false
set_option linter.unnecessarySimpa false
set_option maxRecDepth 100000
set_option maxHeartbeats 8000000
namespace Go.Proofs.YthcbcdjkfefnlaaGreatDoor
open Go.Gv
open Go.RowKit
open Go.Sn
theorem Y7 : TyF Tryz.prog 3 (.int .i64 0) 1 8:=TyF.mk' (by kernel_rfl)
theorem ty_4 : TyF Tryz.prog 4 (.bool false) 1 1:=TyF.mk' (by kernel_rfl)
theorem YJ : TyF Tryz.prog 5 (.int .u8 0) 1 1:=TyF.mk' (by kernel_rfl)
theorem Yg : TyF Tryz.prog 23 (.agg #[.int .i64 0,.int .i64 0,.int .i64 0]) 3 24:=TyF.mk' (by kernel_rfl)
theorem WG : TyF Tryz.prog 24 (.slice none 0 0) 1 24:=TyF.mk' (by kernel_rfl)
theorem Z5 : TyF Tryz.prog 26 (.agg #[.slice none 0 0,.slice none 0 0]) 2 48:=TyF.mk' (by kernel_rfl)
theorem Zme : TyF Tryz.prog 28 (.agg #[.int .u8 0,.int .i64 0,.int .i64 0,.int .i64 0,.slice none 0 0,.slice none 0 0,.int .i64 0,.int .i64 0]) 8 96:=TyF.mk' (by kernel_rfl)
theorem Xu : TyF Tryz.prog 45 (.agg #[.slice none 0 0,.slice none 0 0,.slice none 0 0,.slice none 0 0]) 4 96:=TyF.mk' (by kernel_rfl)
theorem ty_56 : TyF Tryz.prog 56 (.slice none 0 0) 1 24:=TyF.mk' (by kernel_rfl)
theorem ty_65 : TyF Tryz.prog 65 (.slice none 0 0) 1 24:=TyF.mk' (by kernel_rfl)
theorem YM : TyF Tryz.prog 69 (.agg #[.int .i64 0,.int .i64 0,.int .i64 0]) 3 24:=TyF.mk' (by kernel_rfl)
theorem ty_74 : TyF Tryz.prog 74 (.slice none 0 0) 1 24:=TyF.mk' (by kernel_rfl)
theorem Jl : TyF Tryz.prog 94 (.agg #[.int .i64 0,.int .i64 0]) 2 16:=TyF.mk' (by kernel_rfl)
theorem Zfv : TyF Tryz.prog 96 (.agg #[.int .i64 0,.int .i64 0,.int .i64 0,.int .i64 0]) 4 32:=TyF.mk' (by kernel_rfl)
theorem WN : TyF Tryz.prog 99 (.agg #[.string ⟨#[]⟩,.int .i64 0,.int .i64 0,.int .i64 0,.slice none 0 0]) 5 64:=TyF.mk' (by kernel_rfl)
theorem X2 : TyF Tryz.prog 109 (.agg #[.string ⟨#[]⟩,.int .i64 0,.int .i64 0]) 3 32:=TyF.mk' (by kernel_rfl)
theorem Wu : TyF Tryz.prog 111 (.agg #[.string ⟨#[]⟩,.int .i64 0,.int .i64 0,.int .i64 0,.int .i64 0,.int .i64 0]) 6 56:=TyF.mk' (by kernel_rfl)
theorem WZ : TyF Tryz.prog 113 (.agg #[.string ⟨#[]⟩,.int .i64 0,.int .i64 0,.int .i64 0,.int .i64 0,.bool false]) 6 56:=TyF.mk' (by kernel_rfl)
theorem ty_135 : TyF Tryz.prog 135 (.map none) 1 8:=TyF.mk' (by kernel_rfl)
theorem Jm : TyF Tryz.prog 136 (.int .u32 0) 1 4:=TyF.mk' (by kernel_rfl)
theorem ty_148 : TyF Tryz.prog 148 (.pointer none) 1 8:=TyF.mk' (by kernel_rfl)
theorem Xe : TyF Tryz.prog 176 (.agg #[.int .i64 0,.int .i64 0,.int .i64 0,.slice none 0 0,.slice none 0 0]) 5 72:=TyF.mk' (by kernel_rfl)
theorem Yq : TyF Tryz.prog 182 (.agg #[.int .i64 0,.int .i64 0]) 2 16:=TyF.mk' (by kernel_rfl)
theorem Yl : TyF Tryz.prog 184 (.agg #[.int .i64 0,.int .u32 0,.slice none 0 0]) 3 40:=TyF.mk' (by kernel_rfl)
theorem Y3 : TyF Tryz.prog 189 (.agg #[.int .i64 0,.int .u32 0,.slice none 0 0,.int .i64 0,.int .i64 0]) 5 56:=TyF.mk' (by kernel_rfl)
theorem X9 (ad:Addr) (w:World):(Instr.fieldAt 23 (.pointer (some ad)) 0).run Tryz.prog w=.ok (.pointer (some (ad.add 0))) w:=by cases ad; kernel_rfl
theorem YR (ad:Addr) (w:World):(Instr.fieldAt 23 (.pointer (some ad)) 1).run Tryz.prog w=.ok (.pointer (some (ad.add 1))) w:=by cases ad; kernel_rfl
theorem Vh (ad:Addr) (w:World):(Instr.fieldAt 23 (.pointer (some ad)) 2).run Tryz.prog w=.ok (.pointer (some (ad.add 2))) w:=by cases ad; kernel_rfl
theorem Yu (ad:Addr) (w:World):(Instr.fieldAt 26 (.pointer (some ad)) 0).run Tryz.prog w=.ok (.pointer (some (ad.add 0))) w:=by cases ad; kernel_rfl
theorem Yv (ad:Addr) (w:World):(Instr.fieldAt 26 (.pointer (some ad)) 1).run Tryz.prog w=.ok (.pointer (some (ad.add 1))) w:=by cases ad; kernel_rfl
theorem Zp5 (ad:Addr) (w:World):(Instr.fieldAt 28 (.pointer (some ad)) 0).run Tryz.prog w=.ok (.pointer (some (ad.add 0))) w:=by cases ad; kernel_rfl
theorem JF (ad:Addr) (w:World):(Instr.fieldAt 28 (.pointer (some ad)) 1).run Tryz.prog w=.ok (.pointer (some (ad.add 1))) w:=by cases ad; kernel_rfl
theorem VE (ad:Addr) (w:World):(Instr.fieldAt 28 (.pointer (some ad)) 2).run Tryz.prog w=.ok (.pointer (some (ad.add 4))) w:=by cases ad; kernel_rfl
theorem Zp6 (ad:Addr) (w:World):(Instr.fieldAt 28 (.pointer (some ad)) 3).run Tryz.prog w=.ok (.pointer (some (ad.add 6))) w:=by cases ad; kernel_rfl
theorem Zp7 (ad:Addr) (w:World):(Instr.fieldAt 28 (.pointer (some ad)) 4).run Tryz.prog w=.ok (.pointer (some (ad.add 7))) w:=by cases ad; kernel_rfl
theorem YS (ad:Addr) (w:World):(Instr.fieldAt 45 (.pointer (some ad)) 0).run Tryz.prog w=.ok (.pointer (some (ad.add 0))) w:=by cases ad; kernel_rfl
theorem WD (ad:Addr) (w:World):(Instr.fieldAt 45 (.pointer (some ad)) 1).run Tryz.prog w=.ok (.pointer (some (ad.add 1))) w:=by cases ad; kernel_rfl
theorem Xg (ad:Addr) (w:World):(Instr.fieldAt 45 (.pointer (some ad)) 2).run Tryz.prog w=.ok (.pointer (some (ad.add 2))) w:=by cases ad; kernel_rfl
theorem XM (ad:Addr) (w:World):(Instr.fieldAt 45 (.pointer (some ad)) 3).run Tryz.prog w=.ok (.pointer (some (ad.add 3))) w:=by cases ad; kernel_rfl
theorem fa_52_0 (ad:Addr) (w:World):(Instr.fieldAt 52 (.pointer (some ad)) 0).run Tryz.prog w=.ok (.pointer (some (ad.add 0))) w:=by cases ad; kernel_rfl
theorem VF (ad:Addr) (w:World):(Instr.fieldAt 52 (.pointer (some ad)) 1).run Tryz.prog w=.ok (.pointer (some (ad.add 1))) w:=by cases ad; kernel_rfl
theorem Zat (ad:Addr) (w:World):(Instr.fieldAt 52 (.pointer (some ad)) 2).run Tryz.prog w=.ok (.pointer (some (ad.add 2))) w:=by cases ad; kernel_rfl
theorem VG (ad:Addr) (w:World):(Instr.fieldAt 76 (.pointer (some ad)) 0).run Tryz.prog w=.ok (.pointer (some (ad.add 0))) w:=by cases ad; kernel_rfl
theorem fa_76_1 (ad:Addr) (w:World):(Instr.fieldAt 76 (.pointer (some ad)) 1).run Tryz.prog w=.ok (.pointer (some (ad.add 4))) w:=by cases ad; kernel_rfl
theorem Zds (ad:Addr) (w:World):(Instr.fieldAt 76 (.pointer (some ad)) 2).run Tryz.prog w=.ok (.pointer (some (ad.add 5))) w:=by cases ad; kernel_rfl
theorem Y6 (ad:Addr) (w:World):(Instr.fieldAt 76 (.pointer (some ad)) 3).run Tryz.prog w=.ok (.pointer (some (ad.add 6))) w:=by cases ad; kernel_rfl
theorem JG (ad:Addr) (w:World):(Instr.fieldAt 94 (.pointer (some ad)) 0).run Tryz.prog w=.ok (.pointer (some (ad.add 0))) w:=by cases ad; kernel_rfl
theorem WV (ad:Addr) (w:World):(Instr.fieldAt 94 (.pointer (some ad)) 1).run Tryz.prog w=.ok (.pointer (some (ad.add 1))) w:=by cases ad; kernel_rfl
theorem Zgg (ad:Addr) (w:World):(Instr.fieldAt 96 (.pointer (some ad)) 0).run Tryz.prog w=.ok (.pointer (some (ad.add 0))) w:=by cases ad; kernel_rfl
theorem Zcf (ad:Addr) (w:World):(Instr.fieldAt 96 (.pointer (some ad)) 1).run Tryz.prog w=.ok (.pointer (some (ad.add 1))) w:=by cases ad; kernel_rfl
theorem Zcg (ad:Addr) (w:World):(Instr.fieldAt 96 (.pointer (some ad)) 2).run Tryz.prog w=.ok (.pointer (some (ad.add 2))) w:=by cases ad; kernel_rfl
theorem Zdt (ad:Addr) (w:World):(Instr.fieldAt 96 (.pointer (some ad)) 3).run Tryz.prog w=.ok (.pointer (some (ad.add 3))) w:=by cases ad; kernel_rfl
theorem Zch (ad:Addr) (w:World):(Instr.fieldAt 99 (.pointer (some ad)) 0).run Tryz.prog w=.ok (.pointer (some (ad.add 0))) w:=by cases ad; kernel_rfl
theorem VH (ad:Addr) (w:World):(Instr.fieldAt 99 (.pointer (some ad)) 1).run Tryz.prog w=.ok (.pointer (some (ad.add 1))) w:=by cases ad; kernel_rfl
theorem Zp8 (ad:Addr) (w:World):(Instr.fieldAt 99 (.pointer (some ad)) 2).run Tryz.prog w=.ok (.pointer (some (ad.add 2))) w:=by cases ad; kernel_rfl
theorem JH (ad:Addr) (w:World):(Instr.fieldAt 99 (.pointer (some ad)) 3).run Tryz.prog w=.ok (.pointer (some (ad.add 4))) w:=by cases ad; kernel_rfl
theorem Zbm (ad:Addr) (w:World):(Instr.fieldAt 109 (.pointer (some ad)) 0).run Tryz.prog w=.ok (.pointer (some (ad.add 0))) w:=by cases ad; kernel_rfl
theorem Vi (ad:Addr) (w:World):(Instr.fieldAt 109 (.pointer (some ad)) 1).run Tryz.prog w=.ok (.pointer (some (ad.add 1))) w:=by cases ad; kernel_rfl
theorem VN (ad:Addr) (w:World):(Instr.fieldAt 109 (.pointer (some ad)) 2).run Tryz.prog w=.ok (.pointer (some (ad.add 2))) w:=by cases ad; kernel_rfl
theorem Zbn (ad:Addr) (w:World):(Instr.fieldAt 111 (.pointer (some ad)) 0).run Tryz.prog w=.ok (.pointer (some (ad.add 0))) w:=by cases ad; kernel_rfl
theorem Zhf (ad:Addr) (w:World):(Instr.fieldAt 111 (.pointer (some ad)) 1).run Tryz.prog w=.ok (.pointer (some (ad.add 1))) w:=by cases ad; kernel_rfl
theorem Zmf (ad:Addr) (w:World):(Instr.fieldAt 111 (.pointer (some ad)) 2).run Tryz.prog w=.ok (.pointer (some (ad.add 2))) w:=by cases ad; kernel_rfl
theorem Jn (ad:Addr) (w:World):(Instr.fieldAt 111 (.pointer (some ad)) 3).run Tryz.prog w=.ok (.pointer (some (ad.add 4))) w:=by cases ad; kernel_rfl
theorem Jo (ad:Addr) (w:World):(Instr.fieldAt 111 (.pointer (some ad)) 4).run Tryz.prog w=.ok (.pointer (some (ad.add 5))) w:=by cases ad; kernel_rfl
theorem Zbo (ad:Addr) (w:World):(Instr.fieldAt 113 (.pointer (some ad)) 0).run Tryz.prog w=.ok (.pointer (some (ad.add 0))) w:=by cases ad; kernel_rfl
theorem Wd (ad:Addr) (w:World):(Instr.fieldAt 113 (.pointer (some ad)) 1).run Tryz.prog w=.ok (.pointer (some (ad.add 1))) w:=by cases ad; kernel_rfl
theorem Vj (ad:Addr) (w:World):(Instr.fieldAt 113 (.pointer (some ad)) 2).run Tryz.prog w=.ok (.pointer (some (ad.add 2))) w:=by cases ad; kernel_rfl
theorem We (ad:Addr) (w:World):(Instr.fieldAt 113 (.pointer (some ad)) 3).run Tryz.prog w=.ok (.pointer (some (ad.add 3))) w:=by cases ad; kernel_rfl
theorem XF (ad:Addr) (w:World):(Instr.fieldAt 113 (.pointer (some ad)) 4).run Tryz.prog w=.ok (.pointer (some (ad.add 4))) w:=by cases ad; kernel_rfl
theorem J5 (ad:Addr) (w:World):(Instr.fieldAt 113 (.pointer (some ad)) 5).run Tryz.prog w=.ok (.pointer (some (ad.add 5))) w:=by cases ad; kernel_rfl
theorem Zmg (ad:Addr) (w:World):(Instr.fieldAt 115 (.pointer (some ad)) 0).run Tryz.prog w=.ok (.pointer (some (ad.add 0))) w:=by cases ad; kernel_rfl
theorem VO (ad:Addr) (w:World):(Instr.fieldAt 115 (.pointer (some ad)) 1).run Tryz.prog w=.ok (.pointer (some (ad.add 1))) w:=by cases ad; kernel_rfl
theorem Zbp (ad:Addr) (w:World):(Instr.fieldAt 115 (.pointer (some ad)) 2).run Tryz.prog w=.ok (.pointer (some (ad.add 2))) w:=by cases ad; kernel_rfl
theorem Zbq (ad:Addr) (w:World):(Instr.fieldAt 115 (.pointer (some ad)) 3).run Tryz.prog w=.ok (.pointer (some (ad.add 3))) w:=by cases ad; kernel_rfl
theorem Wv (ad:Addr) (w:World):(Instr.fieldAt 115 (.pointer (some ad)) 4).run Tryz.prog w=.ok (.pointer (some (ad.add 4))) w:=by cases ad; kernel_rfl
theorem Zmh (ad:Addr) (w:World):(Instr.fieldAt 115 (.pointer (some ad)) 5).run Tryz.prog w=.ok (.pointer (some (ad.add 5))) w:=by cases ad; kernel_rfl
theorem Zmi (ad:Addr) (w:World):(Instr.fieldAt 115 (.pointer (some ad)) 6).run Tryz.prog w=.ok (.pointer (some (ad.add 6))) w:=by cases ad; kernel_rfl
theorem Zdu (ad:Addr) (w:World):(Instr.fieldAt 115 (.pointer (some ad)) 7).run Tryz.prog w=.ok (.pointer (some (ad.add 7))) w:=by cases ad; kernel_rfl
theorem Zhg (ad:Addr) (w:World):(Instr.fieldAt 138 (.pointer (some ad)) 0).run Tryz.prog w=.ok (.pointer (some (ad.add 0))) w:=by cases ad; kernel_rfl
theorem X3 (ad:Addr) (w:World):(Instr.fieldAt 138 (.pointer (some ad)) 1).run Tryz.prog w=.ok (.pointer (some (ad.add 1))) w:=by cases ad; kernel_rfl
theorem Zmj (ad:Addr) (w:World):(Instr.fieldAt 138 (.pointer (some ad)) 2).run Tryz.prog w=.ok (.pointer (some (ad.add 2))) w:=by cases ad; kernel_rfl
theorem YG (ad:Addr) (w:World):(Instr.fieldAt 138 (.pointer (some ad)) 3).run Tryz.prog w=.ok (.pointer (some (ad.add 3))) w:=by cases ad; kernel_rfl
theorem YQ (ad:Addr) (w:World):(Instr.fieldAt 138 (.pointer (some ad)) 4).run Tryz.prog w=.ok (.pointer (some (ad.add 4))) w:=by cases ad; kernel_rfl
theorem Vk (ad:Addr) (w:World):(Instr.fieldAt 138 (.pointer (some ad)) 5).run Tryz.prog w=.ok (.pointer (some (ad.add 5))) w:=by cases ad; kernel_rfl
theorem Zhh (ad:Addr) (w:World):(Instr.fieldAt 145 (.pointer (some ad)) 0).run Tryz.prog w=.ok (.pointer (some (ad.add 0))) w:=by cases ad; kernel_rfl
theorem fa_145_1 (ad:Addr) (w:World):(Instr.fieldAt 145 (.pointer (some ad)) 1).run Tryz.prog w=.ok (.pointer (some (ad.add 1))) w:=by cases ad; kernel_rfl
theorem fa_145_2 (ad:Addr) (w:World):(Instr.fieldAt 145 (.pointer (some ad)) 2).run Tryz.prog w=.ok (.pointer (some (ad.add 2))) w:=by cases ad; kernel_rfl
theorem Zdv (ad:Addr) (w:World):(Instr.fieldAt 151 (.pointer (some ad)) 0).run Tryz.prog w=.ok (.pointer (some (ad.add 0))) w:=by cases ad; kernel_rfl
theorem Zmk (ad:Addr) (w:World):(Instr.fieldAt 151 (.pointer (some ad)) 1).run Tryz.prog w=.ok (.pointer (some (ad.add 4))) w:=by cases ad; kernel_rfl
theorem Vl (ad:Addr) (w:World):(Instr.fieldAt 176 (.pointer (some ad)) 0).run Tryz.prog w=.ok (.pointer (some (ad.add 0))) w:=by cases ad; kernel_rfl
theorem Zbr (ad:Addr) (w:World):(Instr.fieldAt 176 (.pointer (some ad)) 1).run Tryz.prog w=.ok (.pointer (some (ad.add 3))) w:=by cases ad; kernel_rfl
theorem Zdw (ad:Addr) (w:World):(Instr.fieldAt 182 (.pointer (some ad)) 0).run Tryz.prog w=.ok (.pointer (some (ad.add 0))) w:=by cases ad; kernel_rfl
theorem Zdx (ad:Addr) (w:World):(Instr.fieldAt 182 (.pointer (some ad)) 1).run Tryz.prog w=.ok (.pointer (some (ad.add 1))) w:=by cases ad; kernel_rfl
theorem XG (ad:Addr) (w:World):(Instr.fieldAt 184 (.pointer (some ad)) 0).run Tryz.prog w=.ok (.pointer (some (ad.add 0))) w:=by cases ad; kernel_rfl
theorem Wf (ad:Addr) (w:World):(Instr.fieldAt 184 (.pointer (some ad)) 1).run Tryz.prog w=.ok (.pointer (some (ad.add 1))) w:=by cases ad; kernel_rfl
theorem Zbs (ad:Addr) (w:World):(Instr.fieldAt 184 (.pointer (some ad)) 2).run Tryz.prog w=.ok (.pointer (some (ad.add 2))) w:=by cases ad; kernel_rfl
theorem Zbt (ad:Addr) (w:World):(Instr.fieldAt 189 (.pointer (some ad)) 0).run Tryz.prog w=.ok (.pointer (some (ad.add 0))) w:=by cases ad; kernel_rfl
theorem Zml (ad:Addr) (w:World):(Instr.fieldAt 189 (.pointer (some ad)) 1).run Tryz.prog w=.ok (.pointer (some (ad.add 3))) w:=by cases ad; kernel_rfl
theorem VP (x1:Int) (x2:Int) (x3:Int) {w:World}:(Instr.build 23 #[(0,.int .i64 x1),(1,.int .i64 x2),(2,.int .i64 x3)]).run Tryz.prog w=.ok (.agg #[.int .i64 x1,.int .i64 x2,.int .i64 x3]) w:=by kernel_rfl
theorem Zey  {w:World}:(Instr.build 26 #[]).run Tryz.prog w=.ok (.agg #[.slice none 0 0,.slice none 0 0]) w:=by kernel_rfl
theorem bd_26_0 (x1a:Option Addr) (x1n x1c:Nat) {w:World}:(Instr.build 26 #[(0,.slice x1a x1n x1c)]).run Tryz.prog w=.ok (.agg #[.slice x1a x1n x1c,.slice none 0 0]) w:=by kernel_rfl
theorem Zjg (x1a:Option Addr) (x1n x1c:Nat) (x2a:Option Addr) (x2n x2c:Nat) {w:World}:(Instr.build 26 #[(0,.slice x1a x1n x1c),(1,.slice x2a x2n x2c)]).run Tryz.prog w=.ok (.agg #[.slice x1a x1n x1c,.slice x2a x2n x2c]) w:=by kernel_rfl
theorem Ziz (x1a:Option Addr) (x1n x1c:Nat) (x2a:Option Addr) (x2n x2c:Nat) (x3a:Option Addr) (x3n x3c:Nat) (x4a:Option Addr) (x4n x4c:Nat) {w:World}:(Instr.build 45 #[(0,.slice x1a x1n x1c),(1,.slice x2a x2n x2c),(2,.slice x3a x3n x3c),(3,.slice x4a x4n x4c)]).run Tryz.prog w=.ok (.agg #[.slice x1a x1n x1c,.slice x2a x2n x2c,.slice x3a x3n x3c,.slice x4a x4n x4c]) w:=by kernel_rfl
theorem Zmm (x1a:Option Addr) (x1n x1c:Nat) (x2a:Option Addr) (x2n x2c:Nat) (x3a:Option Addr) (x3n x3c:Nat) {w:World}:(Instr.build 45 #[(0,.slice x1a x1n x1c),(2,.slice x2a x2n x2c),(3,.slice x3a x3n x3c)]).run Tryz.prog w=.ok (.agg #[.slice x1a x1n x1c,.slice none 0 0,.slice x2a x2n x2c,.slice x3a x3n x3c]) w:=by kernel_rfl
theorem Zmn (x1:Bool) (x2t:Nat) (x2v:Value) (x3a:Option Addr) (x3n x3c:Nat) (x4a:Option Addr) (x4n x4c:Nat) (x5a:Option Addr) (x5n x5c:Nat) (x6a:Option Addr) (x6n x6c:Nat) {w:World}:(Instr.build 52 #[(0,.bool x1),(1,.iface x2t x2v),(2,.agg #[.slice x3a x3n x3c,.slice x4a x4n x4c,.slice x5a x5n x5c,.slice x6a x6n x6c])]).run Tryz.prog w=.ok (.agg #[.bool x1,.iface x2t x2v,.slice x3a x3n x3c,.slice x4a x4n x4c,.slice x5a x5n x5c,.slice x6a x6n x6c]) w:=by kernel_rfl
theorem JW  {w:World}:(Instr.build 69 #[]).run Tryz.prog w=.ok (.agg #[.int .i64 0,.int .i64 0,.int .i64 0]) w:=by kernel_rfl
theorem W5 (x1:Int) (x2:Int) {w:World}:(Instr.build 69 #[(0,.int .i64 x1),(1,.int .i64 x2)]).run Tryz.prog w=.ok (.agg #[.int .i64 x1,.int .i64 x2,.int .i64 0]) w:=by kernel_rfl
theorem Zfw (x1:Int) (x2:Int) (x3:Int) {w:World}:(Instr.build 69 #[(0,.int .i64 x1),(1,.int .i64 x2),(2,.int .i64 x3)]).run Tryz.prog w=.ok (.agg #[.int .i64 x1,.int .i64 x2,.int .i64 x3]) w:=by kernel_rfl
theorem Zjh (x1a:Option Addr) (x1n x1c:Nat) (x2a:Option Addr) (x2n x2c:Nat) (x3a:Option Addr) (x3n x3c:Nat) (x4a:Option Addr) (x4n x4c:Nat) (x5:Int) {w:World}:(Instr.build 76 #[(0,.agg #[.slice x1a x1n x1c,.slice x2a x2n x2c,.slice x3a x3n x3c,.slice x4a x4n x4c]),(1,.int .i64 x5)]).run Tryz.prog w=.ok (.agg #[.slice x1a x1n x1c,.slice x2a x2n x2c,.slice x3a x3n x3c,.slice x4a x4n x4c,.int .i64 x5,.slice none 0 0,.slice none 0 0]) w:=by kernel_rfl
theorem Zji (x1:Int) (x2:Int) {w:World}:(Instr.build 94 #[(0,.int .i64 x1),(1,.int .i64 x2)]).run Tryz.prog w=.ok (.agg #[.int .i64 x1,.int .i64 x2]) w:=by kernel_rfl
theorem Zmo (x1:Int) (x2:Int) (x3:Int) {w:World}:(Instr.build 96 #[(0,.int .i64 x1),(2,.int .i64 x2),(3,.int .i64 x3)]).run Tryz.prog w=.ok (.agg #[.int .i64 x1,.int .i64 0,.int .i64 x2,.int .i64 x3]) w:=by kernel_rfl
theorem Zmp (x1:Int) (x2:Int) (x3:Int) {w:World}:(Instr.build 96 #[(1,.int .i64 x1),(2,.int .i64 x2),(3,.int .i64 x3)]).run Tryz.prog w=.ok (.agg #[.int .i64 0,.int .i64 x1,.int .i64 x2,.int .i64 x3]) w:=by kernel_rfl
theorem Zrd (x1:Int) (x2:Int) {w:World}:(Instr.build 96 #[(2,.int .i64 x1),(3,.int .i64 x2)]).run Tryz.prog w=.ok (.agg #[.int .i64 0,.int .i64 0,.int .i64 x1,.int .i64 x2]) w:=by kernel_rfl
theorem Zbu (x1:ByteArray) (x2:Int) (x3:Int) (x4a:Option Addr) (x4n x4c:Nat) {w:World}:(Instr.build 99 #[(0,.string x1),(2,.agg #[.int .i64 x2,.int .i64 x3]),(3,.slice x4a x4n x4c)]).run Tryz.prog w=.ok (.agg #[.string x1,.int .i64 0,.int .i64 x2,.int .i64 x3,.slice x4a x4n x4c]) w:=by kernel_rfl
theorem Zky (x1:ByteArray) (x2:Int) (x3:Int) {w:World}:(Instr.build 109 #[(0,.string x1),(1,.int .i64 x2),(2,.int .i64 x3)]).run Tryz.prog w=.ok (.agg #[.string x1,.int .i64 x2,.int .i64 x3]) w:=by kernel_rfl
theorem J6 (x1:ByteArray) (x2:Int) (x3:Int) (x4:Int) (x5:Int) (x6:Int) {w:World}:(Instr.build 111 #[(0,.string x1),(1,.int .i64 x2),(2,.agg #[.int .i64 x3,.int .i64 x4]),(3,.int .i64 x5),(4,.int .i64 x6)]).run Tryz.prog w=.ok (.agg #[.string x1,.int .i64 x2,.int .i64 x3,.int .i64 x4,.int .i64 x5,.int .i64 x6]) w:=by kernel_rfl
theorem Zor (x1:ByteArray) (x2:Int) {w:World}:(Instr.build 113 #[(0,.string x1),(3,.int .i64 x2)]).run Tryz.prog w=.ok (.agg #[.string x1,.int .i64 0,.int .i64 0,.int .i64 x2,.int .i64 0,.bool false]) w:=by kernel_rfl
theorem Zkz (x1:Bool) (x2a:Option Addr) (x2n x2c:Nat) (x3:Int) {w:World}:(Instr.build 115 #[(0,.bool x1),(1,.slice x2a x2n x2c),(2,.int .i64 x3)]).run Tryz.prog w=.ok (.agg #[.bool x1,.slice x2a x2n x2c,.int .i64 x3,.slice none 0 0,.bool false,.int .i64 0,.int .i64 0,.int .i64 0]) w:=by kernel_rfl
theorem Zdy (x1:Int) (x2:Int) (x3:Int) {w:World}:(Instr.build 119 #[(0,.int .i64 x1),(1,.int .i64 x2),(2,.int .i64 x3)]).run Tryz.prog w=.ok (.agg #[.int .i64 x1,.int .i64 x2,.int .i64 x3]) w:=by kernel_rfl
theorem Zhi (x1:Int) (x2:Int) {w:World}:(Instr.build 125 #[(0,.int .i64 x1),(1,.int .i64 x2)]).run Tryz.prog w=.ok (.agg #[.int .i64 x1,.int .i64 x2]) w:=by kernel_rfl
theorem Zhj (x1:Bool) (x2:Option Addr) (x3:Int) (x4:Int) {w:World}:(Instr.build 138 #[(0,.bool x1),(1,.pointer x2),(2,.int .i64 x3),(5,.int .i64 x4)]).run Tryz.prog w=.ok (.agg #[.bool x1,.pointer x2,.int .i64 x3,.map none,.int .u32 0,.int .i64 x4]) w:=by kernel_rfl
theorem Zk0 (x1a:Option Addr) (x1n x1c:Nat) (x2a:Option Addr) (x2n x2c:Nat) (x3a:Option Addr) (x3n x3c:Nat) {w:World}:(Instr.build 145 #[(0,.slice x1a x1n x1c),(1,.slice x2a x2n x2c),(2,.slice x3a x3n x3c)]).run Tryz.prog w=.ok (.agg #[.slice x1a x1n x1c,.slice x2a x2n x2c,.slice x3a x3n x3c]) w:=by kernel_rfl
theorem Zos (x1a:Option Addr) (x1n x1c:Nat) (x2a:Option Addr) (x2n x2c:Nat) (x3a:Option Addr) (x3n x3c:Nat) (x4a:Option Addr) (x4n x4c:Nat) (x5:Option Nat) {w:World}:(Instr.build 151 #[(0,.agg #[.slice x1a x1n x1c,.slice x2a x2n x2c,.slice x3a x3n x3c,.slice x4a x4n x4c]),(1,.map x5)]).run Tryz.prog w=.ok (.agg #[.slice x1a x1n x1c,.slice x2a x2n x2c,.slice x3a x3n x3c,.slice x4a x4n x4c,.map x5]) w:=by kernel_rfl
theorem Zhk (x1:Int) (x2:Int) (x3:Int) (x4a:Option Addr) (x4n x4c:Nat) (x5a:Option Addr) (x5n x5c:Nat) {w:World}:(Instr.build 176 #[(0,.agg #[.int .i64 x1,.int .i64 x2,.int .i64 x3]),(1,.agg #[.slice x4a x4n x4c,.slice x5a x5n x5c])]).run Tryz.prog w=.ok (.agg #[.int .i64 x1,.int .i64 x2,.int .i64 x3,.slice x4a x4n x4c,.slice x5a x5n x5c]) w:=by kernel_rfl
theorem bd_182_0 (x1:Int) {w:World}:(Instr.build 182 #[(0,.int .i64 x1)]).run Tryz.prog w=.ok (.agg #[.int .i64 x1,.int .i64 0]) w:=by kernel_rfl
theorem Jp (x1:Int) (x2:Int) {w:World}:(Instr.build 182 #[(0,.int .i64 x1),(1,.int .i64 x2)]).run Tryz.prog w=.ok (.agg #[.int .i64 x1,.int .i64 x2]) w:=by kernel_rfl
theorem Zk1  {w:World}:(Instr.build 184 #[]).run Tryz.prog w=.ok (.agg #[.int .i64 0,.int .u32 0,.slice none 0 0]) w:=by kernel_rfl
theorem bd_184_0 (x1:Int) {w:World}:(Instr.build 184 #[(0,.int .i64 x1)]).run Tryz.prog w=.ok (.agg #[.int .i64 x1,.int .u32 0,.slice none 0 0]) w:=by kernel_rfl
theorem XN (x1:Int) (x2:Int) (x3a:Option Addr) (x3n x3c:Nat) {w:World}:(Instr.build 184 #[(0,.int .i64 x1),(1,.int .u32 x2),(2,.slice x3a x3n x3c)]).run Tryz.prog w=.ok (.agg #[.int .i64 x1,.int .u32 x2,.slice x3a x3n x3c]) w:=by kernel_rfl
theorem Xk (x1:Int) (x2:Int) (x3a:Option Addr) (x3n x3c:Nat) (x4:Int) (x5:Int) {w:World}:(Instr.build 189 #[(0,.agg #[.int .i64 x1,.int .u32 x2,.slice x3a x3n x3c]),(1,.agg #[.int .i64 x4,.int .i64 x5])]).run Tryz.prog w=.ok (.agg #[.int .i64 x1,.int .u32 x2,.slice x3a x3n x3c,.int .i64 x4,.int .i64 x5]) w:=by kernel_rfl
theorem YK (x1:Int) {w:World}:(Instr.buildSlice 24 1 #[(0,.int .i64 x1)]).run Tryz.prog w=.ok (.slice (some ⟨w.heap.size,0,none⟩) 1 1) (w.alloc (.cells [.int .i64 x1].toArray 3)):=by kernel_rfl
theorem Zfx (x1:Int) (x2:Int) {w:World}:(Instr.buildSlice 24 2 #[(0,.int .i64 x1),(1,.int .i64 x2)]).run Tryz.prog w=.ok (.slice (some ⟨w.heap.size,0,none⟩) 2 2) (w.alloc (.cells [.int .i64 x1,.int .i64 x2].toArray 3)):=by kernel_rfl
theorem bs_40_0_  {w:World}:(Instr.buildSlice 40 0 #[]).run Tryz.prog w=.ok (.slice (some ⟨w.heap.size,0,none⟩) 0 0) (w.alloc (.cells [].toArray 109)):=by kernel_rfl
theorem Zre (x1:ByteArray) (x2:Int) (x3:Int) {w:World}:(Instr.buildSlice 40 1 #[(0,.agg #[.string x1,.int .i64 x2,.int .i64 x3])]).run Tryz.prog w=.ok (.slice (some ⟨w.heap.size,0,none⟩) 1 1) (w.alloc (.cells [.string x1,.int .i64 x2,.int .i64 x3].toArray 109)):=by kernel_rfl
theorem Zmq (x1:ByteArray) (x2:Int) (x3:Int) (x4:Int) (x5:Int) (x6:Int) (x7:ByteArray) (x8:Int) (x9:Int) (x10:Int) (x11:Int) (x12:Int) {w:World}:(Instr.buildSlice 41 2 #[(0,.agg #[.string x1,.int .i64 x2,.int .i64 x3,.int .i64 x4,.int .i64 x5,.int .i64 x6]),(1,.agg #[.string x7,.int .i64 x8,.int .i64 x9,.int .i64 x10,.int .i64 x11,.int .i64 x12])]).run Tryz.prog w=.ok (.slice (some ⟨w.heap.size,0,none⟩) 2 2) (w.alloc (.cells [.string x1,.int .i64 x2,.int .i64 x3,.int .i64 x4,.int .i64 x5,.int .i64 x6,.string x7,.int .i64 x8,.int .i64 x9,.int .i64 x10,.int .i64 x11,.int .i64 x12].toArray 111)):=by kernel_rfl
theorem bs_42_0_  {w:World}:(Instr.buildSlice 42 0 #[]).run Tryz.prog w=.ok (.slice (some ⟨w.heap.size,0,none⟩) 0 0) (w.alloc (.cells [].toArray 99)):=by kernel_rfl
theorem Zi0 (x1:ByteArray) (x2:Int) (x3:Int) (x4:Int) (x5a:Option Addr) (x5n x5c:Nat) (x6:ByteArray) (x7:Int) (x8:Int) (x9:Int) (x10a:Option Addr) (x10n x10c:Nat) (x11:ByteArray) (x12:Int) (x13:Int) (x14:Int) (x15a:Option Addr) (x15n x15c:Nat) {w:World}:(Instr.buildSlice 42 3 #[(0,.agg #[.string x1,.int .i64 x2,.int .i64 x3,.int .i64 x4,.slice x5a x5n x5c]),(1,.agg #[.string x6,.int .i64 x7,.int .i64 x8,.int .i64 x9,.slice x10a x10n x10c]),(2,.agg #[.string x11,.int .i64 x12,.int .i64 x13,.int .i64 x14,.slice x15a x15n x15c])]).run Tryz.prog w=.ok (.slice (some ⟨w.heap.size,0,none⟩) 3 3) (w.alloc (.cells [.string x1,.int .i64 x2,.int .i64 x3,.int .i64 x4,.slice x5a x5n x5c,.string x6,.int .i64 x7,.int .i64 x8,.int .i64 x9,.slice x10a x10n x10c,.string x11,.int .i64 x12,.int .i64 x13,.int .i64 x14,.slice x15a x15n x15c].toArray 99)):=by kernel_rfl
theorem bs_43_0_  {w:World}:(Instr.buildSlice 43 0 #[]).run Tryz.prog w=.ok (.slice (some ⟨w.heap.size,0,none⟩) 0 0) (w.alloc (.cells [].toArray 113)):=by kernel_rfl
theorem Zrf (x1:ByteArray) (x2:Int) (x3:Int) (x4:Int) (x5:Int) (x6:Bool) {w:World}:(Instr.buildSlice 43 1 #[(0,.agg #[.string x1,.int .i64 x2,.int .i64 x3,.int .i64 x4,.int .i64 x5,.bool x6])]).run Tryz.prog w=.ok (.slice (some ⟨w.heap.size,0,none⟩) 1 1) (w.alloc (.cells [.string x1,.int .i64 x2,.int .i64 x3,.int .i64 x4,.int .i64 x5,.bool x6].toArray 113)):=by kernel_rfl
theorem Jb (x1:Int) (x2:Int) (x3:Int) {w:World}:(Instr.buildSlice 56 1 #[(0,.agg #[.int .i64 x1,.int .i64 x2,.int .i64 x3])]).run Tryz.prog w=.ok (.slice (some ⟨w.heap.size,0,none⟩) 1 1) (w.alloc (.cells [.int .i64 x1,.int .i64 x2,.int .i64 x3].toArray 23)):=by kernel_rfl
theorem Zmr  {w:World}:(Instr.buildSlice 65 0 #[]).run Tryz.prog w=.ok (.slice (some ⟨w.heap.size,0,none⟩) 0 0) (w.alloc (.cells [].toArray 5)):=by kernel_rfl
theorem J7 (x1:Int) {w:World}:(Instr.buildSlice 65 1 #[(0,.int .u8 x1)]).run Tryz.prog w=.ok (.slice (some ⟨w.heap.size,0,none⟩) 1 1) (w.alloc (.cells [.int .u8 x1].toArray 5)):=by kernel_rfl
theorem Zi1 (x1:Int) (x2:Int) (x3:Int) {w:World}:(Instr.buildSlice 65 3 #[(0,.int .u8 x1),(1,.int .u8 x2),(2,.int .u8 x3)]).run Tryz.prog w=.ok (.slice (some ⟨w.heap.size,0,none⟩) 3 3) (w.alloc (.cells [.int .u8 x1,.int .u8 x2,.int .u8 x3].toArray 5)):=by kernel_rfl
theorem Jc (x1:Int) (x2:Int) (x3:Int) (x4a:Option Addr) (x4n x4c:Nat) (x5a:Option Addr) (x5n x5c:Nat) {w:World}:(Instr.buildSlice 74 1 #[(0,.agg #[.int .i64 x1,.int .i64 x2,.int .i64 x3,.slice x4a x4n x4c,.slice x5a x5n x5c])]).run Tryz.prog w=.ok (.slice (some ⟨w.heap.size,0,none⟩) 1 1) (w.alloc (.cells [.int .i64 x1,.int .i64 x2,.int .i64 x3,.slice x4a x4n x4c,.slice x5a x5n x5c].toArray 176)):=by kernel_rfl
theorem Zez (x1:Int) (x2:Int) (x3:Int) (x4:Int) {w:World}:(Instr.buildSlice 97 1 #[(0,.agg #[.int .i64 x1,.int .i64 x2,.int .i64 x3,.int .i64 x4])]).run Tryz.prog w=.ok (.slice (some ⟨w.heap.size,0,none⟩) 1 1) (w.alloc (.cells [.int .i64 x1,.int .i64 x2,.int .i64 x3,.int .i64 x4].toArray 96)):=by kernel_rfl
theorem Zms (x1:Int) (x2:Int) (x3a:Option Addr) (x3n x3c:Nat) (w:World):(Instr.field 184 (.agg #[.int .i64 x1,.int .u32 x2,.slice x3a x3n x3c]) 2).run Tryz.prog w=.ok (.slice x3a x3n x3c) w:=by kernel_rfl
theorem Zmt (x1:Int) (x2:Int) (x3a:Option Addr) (x3n x3c:Nat) (x4:Int) (x5:Int) (w:World):(Instr.field 189 (.agg #[.int .i64 x1,.int .u32 x2,.slice x3a x3n x3c,.int .i64 x4,.int .i64 x5]) 0).run Tryz.prog w=.ok (.agg #[.int .i64 x1,.int .u32 x2,.slice x3a x3n x3c]) w:=by kernel_rfl
namespace Sx
def Z7 (n a b:Int):Bool:=decide (a≤n) && decide (n≤b)
theorem Zjj {c:Nat} (hc:c<256):(decide (97≤c ||| 32) && decide (c ||| 32≤122))=Vf c:=Zon ⟨c,hc⟩
theorem gcd_step (a b:Nat) (hb:b≠0):Nat.gcd a b=Nat.gcd b (a % b):=by rw [Nat.gcd_comm,Nat.gcd_rec,Nat.gcd_comm]
end Sx
open Sx
theorem Xl (n a b:Int) (w0:World):Sp Tryz.prog 113 [.int .i64 n,.int .i64 a,.int .i64 b] w0 [] (RV (.bool (Z7 n a b))):=by
 refine ZC Tryz.func113 rfl Tryz.ntmps113 rfl (Own.refl _) ?_
 simp only [ZV]
 refine Zb<|Za<|gas rfl rfl<|gA<|Zb<|Za<|gm rfl rfl<|gm rfl rfl<|gr rfl (Xs rfl rfl) (Zw (fun hd1=>?_) (fun hd1=>?_))
 ·refine gm rfl rfl<|Zg rfl rfl<|Zm rfl (Zo rfl)<|Zg rfl rfl<|Zm rfl (Zo rfl)<|Zg rfl rfl<|Zm rfl (X7 rfl rfl)<|gr rfl (Zq rfl rfl)<|gas rfl rfl<|gA<|Zu<|Zy (.inl rfl) Tryz.results113 rfl [] (by decide) ?_
  refine ⟨congrArg Value.bool (Eq.symm ?_),rfl⟩
  (simp [Z7, *]; done)
 refine gm rfl rfl<|Zj rfl rfl rfl<|Zj rfl rfl rfl<|Zj rfl rfl rfl<|gr rfl (Zn rfl rfl)<|gas rfl rfl<|gA<|Zu<|Zy (.inl rfl) Tryz.results113 rfl [] (by decide) ?_
 refine ⟨congrArg Value.bool (Eq.symm ?_),rfl⟩
 (simp [Z7, *]; done)
theorem Zrg (c:Nat) (hc:c<256) (w0:World):Sp Tryz.prog 128 [.int .u8 ((c:Nat):Int)] w0 [] (RV (.bool (Vf c))):=by
 refine ZC Tryz.func128 rfl Tryz.ntmps128 rfl (Own.refl _) ?_
 simp only [ZV]
 refine Zb<|Za<|gas rfl rfl<|gA<|Zb<|Za<|gm rfl rfl<|gr rfl (Zep (a:=c) (b:=32) rfl rfl hc (by decide)) ?_
 refine gr rfl (Xs rfl rfl) (Zw (fun hd1=>?_) (fun hd1=>?_))
 ·refine gm rfl rfl<|Zg rfl rfl<|Zm rfl (Zo rfl)<|Zg rfl rfl (Zm rfl (Zep (a:=c) (b:=32) rfl rfl hc (by decide)) ?_)
  refine Zg rfl rfl<|Zm rfl (X7 rfl rfl)<|gr rfl (Zq rfl rfl)<|gas rfl rfl<|gA<|Zu<|Zy (.inl rfl) Tryz.results128 rfl [] (by decide) ?_
  refine ⟨congrArg Value.bool (Eq.symm ?_),rfl⟩
  rw [← Zjj hc]
  (rw [Bool.eq_iff_iff]; simp [*]; omega)
 refine gm rfl rfl<|Zj rfl rfl rfl<|Zj rfl rfl rfl<|Zj rfl rfl rfl<|gr rfl (Zn rfl rfl)<|gas rfl rfl<|gA<|Zu<|Zy (.inl rfl) Tryz.results128 rfl [] (by decide) ?_
 refine ⟨congrArg Value.bool (Eq.symm ?_),rfl⟩
 rw [← Zjj hc]
 (simp [*]; omega)
theorem digit_ok (c:Nat) (w0:World):Sp Tryz.prog 129 [.int .u8 ((c:Nat):Int)] w0 [] (RV (.bool (Zbj c))):=by
 refine ZC Tryz.func129 rfl Tryz.ntmps129 rfl (Own.refl _) ?_
 simp only [ZV]
 refine Zb<|Za<|gas rfl rfl<|gA<|Zb<|Za<|gm rfl rfl<|gr rfl (Xs rfl rfl) (Zw (fun hd1=>?_) (fun hd1=>?_))
 ·refine gm rfl rfl<|Zg rfl rfl<|Zm rfl (Zo rfl)<|Zg rfl rfl<|Zm rfl (X7 rfl rfl)<|gr rfl (Zq rfl rfl)<|gas rfl rfl<|gA<|Zu<|Zy (.inl rfl) Tryz.results129 rfl [] (by decide) ?_
  refine ⟨congrArg Value.bool (Eq.symm ?_),rfl⟩
  (rw [Bool.eq_iff_iff]; simp [Zbj, *]; omega)
 refine gm rfl rfl<|Zj rfl rfl rfl<|Zj rfl rfl rfl<|gr rfl (Zn rfl rfl)<|gas rfl rfl<|gA<|Zu<|Zy (.inl rfl) Tryz.results129 rfl [] (by decide) ?_
 refine ⟨congrArg Value.bool (Eq.symm ?_),rfl⟩
 (simp [Zbj, *]; omega)
theorem Zhl (c:Nat) (w0:World):Sp Tryz.prog 119 [.int .u8 ((c:Nat):Int)] w0 [] (RV (.bool (Vf c))):=by
 refine ZC Tryz.func119 rfl Tryz.ntmps119 rfl (Own.refl _) ?_
 simp only [ZV]
 refine Zb<|Za<|gas rfl rfl<|gA<|Zb<|Za<|gm rfl rfl<|gr rfl (Xs rfl rfl) (Zw (fun hd1=>?_) (fun hd1=>?_))
 ·refine gm rfl rfl<|Zg rfl rfl<|Zm rfl (Zo rfl)<|Zg rfl rfl (Zm rfl (X7 rfl rfl) (Zw (fun hd2=>?_) (fun hd2=>?_)))
  ·refine gr rfl (Zq rfl rfl)<|gm rfl rfl<|Zj rfl rfl rfl<|Zj rfl rfl rfl<|Zj rfl rfl rfl<|Z2 rfl rfl rfl<|Z2 rfl rfl rfl<|Zj rfl rfl rfl<|gr rfl (Zq rfl rfl)<|gas rfl rfl<|gA<|Zu<|Zy (.inl rfl) Tryz.results119 rfl [] (by decide) ?_
   refine ⟨congrArg Value.bool (Eq.symm ?_),rfl⟩
   (simp [Vf, *]; omega)
  refine gr rfl (Zq rfl rfl)<|gm rfl rfl<|Zg rfl rfl<|Zm rfl (Zo rfl)<|Zg rfl rfl (Zm rfl (Xs rfl rfl) (Zw (fun hd3=>?_) (fun hd3=>?_)))
  ·refine Zg rfl rfl<|Zm rfl (Zo rfl)<|Zg rfl rfl<|Zm rfl (Zo rfl)<|Zg rfl rfl<|Zm rfl (X7 rfl rfl)<|Zg rfl rfl<|Zm rfl (Zq rfl rfl)<|gr rfl (Zn rfl rfl)<|gas rfl rfl<|gA<|Zu<|Zy (.inl rfl) Tryz.results119 rfl [] (by decide) ?_
   refine ⟨congrArg Value.bool (Eq.symm ?_),rfl⟩
   (rw [Bool.eq_iff_iff]; simp [Vf, *]; omega)
  refine Zg rfl rfl<|Zm rfl (Zo rfl)<|Zj rfl rfl rfl<|Zj rfl rfl rfl<|Zg rfl rfl<|Zm rfl (Zn rfl rfl)<|gr rfl (Zn rfl rfl)<|gas rfl rfl<|gA<|Zu<|Zy (.inl rfl) Tryz.results119 rfl [] (by decide) ?_
  refine ⟨congrArg Value.bool (Eq.symm ?_),rfl⟩
  (simp [Vf, *]; omega)
 refine gm rfl rfl<|Zj rfl rfl rfl<|Zj rfl rfl rfl<|gr rfl (Zn rfl rfl)<|gm rfl rfl<|Zg rfl rfl<|Zm rfl (Zo rfl)<|Zg rfl rfl (Zm rfl (Xs rfl rfl) (Zw (fun hd4=>?_) (fun hd4=>?_)))
 ·refine Zg rfl rfl<|Zm rfl (Zo rfl)<|Zg rfl rfl<|Zm rfl (Zo rfl)<|Zg rfl rfl<|Zm rfl (X7 rfl rfl)<|Zg rfl rfl<|Zm rfl (Zq rfl rfl)<|gr rfl (Zn rfl rfl)<|gas rfl rfl<|gA<|Zu<|Zy (.inl rfl) Tryz.results119 rfl [] (by decide) ?_
  refine ⟨congrArg Value.bool (Eq.symm ?_),rfl⟩
  (rw [Bool.eq_iff_iff]; simp [Vf, *]; omega)
 refine Zg rfl rfl<|Zm rfl (Zo rfl)<|Zj rfl rfl rfl<|Zj rfl rfl rfl<|Zg rfl rfl<|Zm rfl (Zn rfl rfl)<|gr rfl (Zn rfl rfl)<|gas rfl rfl<|gA<|Zu<|Zy (.inl rfl) Tryz.results119 rfl [] (by decide) ?_
 refine ⟨congrArg Value.bool (Eq.symm ?_),rfl⟩
 (simp [Vf, *]; omega)
theorem Zrh (c:Nat) (w0:World):Sp Tryz.prog 120 [.int .u8 ((c:Nat):Int)] w0 [] (RV (.bool (Zbj c))):=by
 refine ZC Tryz.func120 rfl Tryz.ntmps120 rfl (Own.refl _) ?_
 simp only [ZV]
 refine Zb<|Za<|gas rfl rfl<|gA<|Zb<|Za<|gm rfl rfl<|gr rfl (Xs rfl rfl) (Zw (fun hd1=>?_) (fun hd1=>?_))
 ·refine gm rfl rfl<|Zg rfl rfl<|Zm rfl (Zo rfl)<|Zg rfl rfl<|Zm rfl (X7 rfl rfl)<|gr rfl (Zq rfl rfl)<|gas rfl rfl<|gA<|Zu<|Zy (.inl rfl) Tryz.results120 rfl [] (by decide) ?_
  refine ⟨congrArg Value.bool (Eq.symm ?_),rfl⟩
  (rw [Bool.eq_iff_iff]; simp [Zbj, *]; omega)
 refine gm rfl rfl<|Zj rfl rfl rfl<|Zj rfl rfl rfl<|gr rfl (Zn rfl rfl)<|gas rfl rfl<|gA<|Zu<|Zy (.inl rfl) Tryz.results120 rfl [] (by decide) ?_
 refine ⟨congrArg Value.bool (Eq.symm ?_),rfl⟩
 (simp [Zbj, *]; omega)
theorem Zgh (n:Int) (w0:World):Sp Tryz.prog 95 [.int .i64 n] w0 [] (RV (.bool (Z7 n 0 127))):=by
 refine ZC Tryz.func95 rfl Tryz.ntmps95 rfl (Own.refl _) ?_
 simp only [ZV]
 refine Zb<|Za<|gas rfl rfl<|gA<|Zb<|Za<|gm rfl rfl<|gr rfl (Xs rfl rfl) (Zw (fun hd1=>?_) (fun hd1=>?_))
 ·refine gm rfl rfl<|Zg rfl rfl<|Zm rfl (Zo rfl)<|Zg rfl rfl<|Zm rfl (X7 rfl rfl)<|gr rfl (Zq rfl rfl)<|gas rfl rfl<|gA<|Zu<|Zy (.inl rfl) Tryz.results95 rfl [] (by decide) ?_
  refine ⟨congrArg Value.bool (Eq.symm ?_),rfl⟩
  (simp [Z7, *]; done)
 refine gm rfl rfl<|Zj rfl rfl rfl<|Zj rfl rfl rfl<|gr rfl (Zn rfl rfl)<|gas rfl rfl<|gA<|Zu<|Zy (.inl rfl) Tryz.results95 rfl [] (by decide) ?_
 refine ⟨congrArg Value.bool (Eq.symm ?_),rfl⟩
 (simp [Z7, *]; done)
theorem Zdz (i:Int) (n:Nat) (w0:World):Sp Tryz.prog 97 [.int .i64 i,natV n] w0 [] (RV (.bool (Wc i n))):=by
 refine ZC Tryz.func97 rfl Tryz.ntmps97 rfl (Own.refl _) ?_
 simp only [ZV]
 refine Zb<|Za<|gas rfl rfl<|gA<|Zb<|Za<|gm rfl rfl<|gr rfl (Xs rfl rfl) (Zw (fun hd1=>?_) (fun hd1=>?_))
 ·refine gm rfl rfl<|Zg rfl rfl<|Zm rfl (Zo rfl)<|Zg rfl rfl<|Zm rfl (Zo rfl)<|Zg rfl rfl<|Zm rfl (ZX rfl rfl)<|gr rfl (Zq rfl rfl)<|gas rfl rfl<|gA<|Zu<|Zy (.inl rfl) Tryz.results97 rfl [] (by decide) ?_
  refine ⟨congrArg Value.bool (Eq.symm ?_),rfl⟩
  (simp [Wc, *]; done)
 refine gm rfl rfl<|Zj rfl rfl rfl<|Zj rfl rfl rfl<|Zj rfl rfl rfl<|gr rfl (Zn rfl rfl)<|gas rfl rfl<|gA<|Zu<|Zy (.inl rfl) Tryz.results97 rfl [] (by decide) ?_
 refine ⟨congrArg Value.bool (Eq.symm ?_),rfl⟩
 (simp [Wc, *]; done)
end Go.Proofs.YthcbcdjkfefnlaaGreatDoor
namespace Go.Proofs.YthcbcdjkfefnlaaGreatDoor
open Go.Gv
open Go.RowKit
open Go.Sn
open Sx
theorem Zp9 (s:ByteArray) (hs:s.size≤140737488355328) (w0:World):Sp Tryz.prog 115 [.string s] w0 [] (RV (.bool (nameB s))):=by
 refine ZC Tryz.func115 rfl Tryz.ntmps115 rfl (Own.refl _) ?_
 simp only [ZV]
 refine Zb<|Za<|gas rfl rfl<|gA<|Zb<|Zb<|Za<|gm rfl rfl<|gr rfl (Xp Tryz.underlying9 rfl)<|gm rfl rfl<|gA<|ZB<|ZZ (ι:=Nat) [(0,_),(6,_)] [] (fun k=>k≤s.size∧∀ i,i<k→JU s i=true) (fun k Fr0=>((7,natV k)::Fr0)) (fun k Fr0=>Fr0) (fun k=>s.size - k) 0 (⟨Nat.zero_le _,fun i hi=>absurd hi (Nat.not_lt_zero i)⟩) ⟨rfl,rfl,rfl,trivial⟩ ⟨[],by decide,rfl⟩ ?_
 rintro k ⟨hk,hall⟩
 refine Zb<|Za<|gr rfl (ZX rfl rfl) (Zw (fun h8=>?_) (fun h8=>?_))
 ·refine gA<|Zb<|Zk rfl<|Zv<|Ze<|Zb<|ZB<|Zb<|Za<|gm rfl rfl<|gas rfl rfl<|gA<|Zb<|Za<|gm rfl rfl<|gm rfl rfl<|gr rfl (W4 Tryz.underlying9 rfl rfl (Ji s k (by omega))) ?_
  refine gas rfl rfl<|gA<|Zb<|Za<|gm rfl rfl<|Zt (ZJ rfl (vf:=[]) (vc:=[]) rfl rfl Tryz.call128 (fun w1 ho=>Zrg (X8 s k) (Zrc s k) w1) ?_)
  rintro _ _ ⟨rfl,rfl⟩
  refine Z0 (fun hl=>?_) (fun hl=>?_)
  ·refine gr rfl (rd_not rfl)<|gm rfl rfl<|Zj rfl rfl rfl<|Zj rfl rfl rfl<|Zj rfl rfl rfl<|Z2 rfl rfl rfl<|Z2 rfl rfl rfl<|Z2 rfl rfl rfl<|Z2 rfl rfl rfl<|Z2 rfl rfl rfl<|Z2 rfl rfl rfl<|Z2 rfl rfl rfl<|Zj rfl rfl rfl<|gr rfl (Zn rfl rfl)<|gA<|Zl rfl<|Zv<|ZI<|Ze<|Za<|gr rfl (by exact ZL (b:=1) rfl rfl (by omega)) ?_
   refine gm rfl rfl<|ZM<|Ze ?_
   exact ZR (k+1) ⟨⟨by omega,fun i hi=>by
    rcases Nat.lt_or_eq_of_le (Nat.le_of_lt_succ hi) with h | rfl
    ·exact hall i h
    ·simp [JU, *]⟩,by omega⟩ ⟨rfl,rfl,rfl,trivial⟩ ⟨[],by decide,rfl⟩
  refine gr rfl (rd_not rfl)<|gm rfl rfl<|Zg rfl rfl<|Zm rfl (Zo rfl)<|Zg rfl rfl (Zm rfl (Z8 rfl rfl) (Zw (fun h18=>?_) (fun h18=>?_)))
  ·replace h18:k=0:=by omega
   refine Zg rfl rfl<|Zm rfl (Zo rfl)<|Zj rfl rfl rfl<|Zj rfl rfl rfl<|Zj rfl rfl rfl<|Z2 rfl rfl rfl<|Z2 rfl rfl rfl<|Z2 rfl rfl rfl<|Zj rfl rfl rfl<|Zg rfl rfl<|Zm rfl (Zq rfl rfl)<|gr rfl (Zq rfl rfl)<|gA<|Zk rfl<|Zb<|Za<|gas rfl rfl<|gA<|Zu<|Zx<|Zh<|Zh<|Zx<|Zh<|Zy (.inl rfl) Tryz.results115 rfl [] (by decide) ?_
   refine ⟨congrArg Value.bool (Eq.symm ?_),rfl⟩
   exact Zdq (i:=k) (by omega) (by (subst h18; simp [JU,hl]; done))
  replace h18:k≠0:=by omega
  refine Zg rfl rfl<|Zm rfl (Zo rfl)<|Zg rfl rfl<|Zm rfl (Zo rfl)<|Zg rfl rfl (Zm rfl (Z4 rfl rfl) (Zw (fun h21=>?_) (fun h21=>?_)))
  ·replace h21:X8 s k≠95:=by unfold X8; omega
   refine Zg rfl rfl<|Zm rfl (Zo rfl)<|Zg rfl rfl<|Zm rfl (Zo rfl)<|Zg rfl rfl (ZJ rfl (vf:=[]) (vc:=[]) rfl rfl Tryz.call129 (fun w1 ho=>digit_ok (X8 s k) w1) ?_)
   rintro _ _ ⟨rfl,rfl⟩
   refine Z0 (fun hdg=>?_) (fun hdg=>?_)
   ·refine Zg rfl rfl<|Zm rfl (rd_not rfl)<|Zg rfl rfl<|Zm rfl (Zq rfl rfl)<|Zg rfl rfl<|Zm rfl (Zn rfl rfl)<|gr rfl (Zq rfl rfl)<|gA<|Zl rfl<|Zv<|ZI<|Ze<|Za<|gr rfl (by exact ZL (b:=1) rfl rfl (by omega)) ?_
    refine gm rfl rfl<|ZM<|Ze ?_
    exact ZR (k+1) ⟨⟨by omega,fun i hi=>by
     rcases Nat.lt_or_eq_of_le (Nat.le_of_lt_succ hi) with h | rfl
     ·exact hall i h
     ·simp [JU, *]⟩,by omega⟩ ⟨rfl,rfl,rfl,trivial⟩ ⟨[],by decide,rfl⟩
   refine Zg rfl rfl<|Zm rfl (rd_not rfl)<|Zg rfl rfl<|Zm rfl (Zq rfl rfl)<|Zg rfl rfl<|Zm rfl (Zn rfl rfl)<|gr rfl (Zq rfl rfl)<|gA<|Zk rfl<|Zb<|Za<|gas rfl rfl<|gA<|Zu<|Zx<|Zh<|Zh<|Zx<|Zh<|Zy (.inl rfl) Tryz.results115 rfl [] (by decide) ?_
   refine ⟨congrArg Value.bool (Eq.symm ?_),rfl⟩
   exact Zdq (i:=k) (by omega) (by simp [JU, *])
  replace h21:X8 s k=95:=by unfold X8; omega
  refine Zg rfl rfl<|Zm rfl (Zo rfl)<|Zj rfl rfl rfl<|Zj rfl rfl rfl<|Zj rfl rfl rfl<|Zg rfl rfl<|Zm rfl (Zn rfl rfl)<|Zg rfl rfl<|Zm rfl (Zn rfl rfl)<|gr rfl (Zq rfl rfl)<|gA<|Zl rfl<|Zv<|ZI<|Ze<|Za<|gr rfl (by exact ZL (b:=1) rfl rfl (by omega)) ?_
  refine gm rfl rfl<|ZM<|Ze ?_
  exact ZR (k+1) ⟨⟨by omega,fun i hi=>by
   rcases Nat.lt_or_eq_of_le (Nat.le_of_lt_succ hi) with h | rfl
   ·exact hall i h
   ·simp [JU, *]⟩,by omega⟩ ⟨rfl,rfl,rfl,trivial⟩ ⟨[],by decide,rfl⟩
 refine gA<|Zb<|Zl rfl<|Z1<|Zs<|Zs<|ZE<|Ze<|Zb<|Za<|gm rfl rfl<|gr rfl (Xp Tryz.underlying9 rfl)<|gr rfl (Xs rfl rfl) (Zw (fun hd1=>?_) (fun hd1=>?_))
 ·refine gm rfl rfl<|Zg rfl rfl<|Zm rfl (Zo rfl)<|Zg rfl rfl<|Zm rfl (Xp Tryz.underlying9 rfl)<|Zg rfl rfl<|Zm rfl (X7 rfl rfl)<|gr rfl (Zq rfl rfl)<|gas rfl rfl<|gA<|Zu<|Zy (.inl rfl) Tryz.results115 rfl [] (by decide) ?_
  refine ⟨congrArg Value.bool (Eq.symm ?_),rfl⟩
  rw [Zeu (fun i hi=>hall i (by omega))]
  (rw [Bool.eq_iff_iff]; simp; omega)
 refine gm rfl rfl<|Zj rfl rfl rfl<|Zj rfl rfl rfl<|Zj rfl rfl rfl<|gr rfl (Zn rfl rfl)<|gas rfl rfl<|gA<|Zu<|Zy (.inl rfl) Tryz.results115 rfl [] (by decide) ?_
 refine ⟨congrArg Value.bool (Eq.symm ?_),rfl⟩
 rw [Zeu (fun i hi=>hall i (by omega))]
 (simp; omega)
theorem Zd0 (s:ByteArray) (hs:s.size≤140737488355328) (w0:World):Sp Tryz.prog 94 [.string s] w0 [] (RV (.bool (nameB s))):=by
 refine ZC Tryz.func94 rfl Tryz.ntmps94 rfl (Own.refl _) ?_
 simp only [ZV]
 refine Zb<|Za<|gas rfl rfl<|gA<|Zb<|Zb<|Za<|gm rfl rfl<|gr rfl (Xp Tryz.underlying9 rfl)<|gr rfl (ZX rfl rfl) (Zw (fun h6=>?_) (fun h6=>?_))
 ·refine gm rfl rfl<|Zj rfl rfl rfl<|Zj rfl rfl rfl<|Zj rfl rfl rfl<|gr rfl (Zq rfl rfl)<|gm rfl rfl<|Zj rfl rfl rfl<|Zj rfl rfl rfl<|Zj rfl rfl rfl<|Zj rfl rfl rfl<|gr rfl (Zq rfl rfl)<|gA<|Zk rfl<|Zb<|Za<|gas rfl rfl<|gA<|Zu<|Zh<|Zy (.inl rfl) Tryz.results94 rfl [] (by decide) ?_
  refine ⟨congrArg Value.bool (Eq.symm ?_),rfl⟩
  unfold nameB; simp; omega
 refine gm rfl rfl<|Zg rfl rfl<|Zm rfl (Zo rfl)<|Zg rfl rfl<|Zm rfl (Xp Tryz.underlying9 rfl)<|Zg rfl rfl (Zm rfl (Yk rfl rfl) (Zw (fun h10=>?_) (fun h10=>?_)))
 ·refine gr rfl (Zn rfl rfl)<|gm rfl rfl<|Zj rfl rfl rfl<|Zj rfl rfl rfl<|Zj rfl rfl rfl<|Zj rfl rfl rfl<|gr rfl (Zq rfl rfl)<|gA<|Zk rfl<|Zb<|Za<|gas rfl rfl<|gA<|Zu<|Zh<|Zy (.inl rfl) Tryz.results94 rfl [] (by decide) ?_
  refine ⟨congrArg Value.bool (Eq.symm ?_),rfl⟩
  unfold nameB; simp; omega
 refine gr rfl (Zn rfl rfl)<|gm rfl rfl<|Zg rfl rfl<|Zm rfl (Zo rfl)<|Zg rfl rfl (Zm rfl (W4 Tryz.underlying9 rfl rfl (Ji s 0 (by omega))) ?_)
 refine Zg rfl rfl (ZJ rfl (vf:=[]) (vc:=[]) rfl rfl Tryz.call119 (fun w1 ho=>Zhl (X8 s 0) w1) ?_)
 rintro _ _ ⟨rfl,rfl⟩
 refine Z0 (fun hl0=>?_) (fun hl0=>?_)
 ·refine Zg rfl rfl<|Zm rfl (rd_not rfl)<|gr rfl (Zn rfl rfl)<|gA<|Zl rfl<|Zv<|Ze<|Zb<|Zb<|Za<|gas rfl rfl<|gA<|ZB<|ZZ (ι:=Nat) [(0,_)] [] (fun k=>k≤s.size∧∀ i,i<k→JU s i=true) (fun k Fr0=>((3,natV k)::Fr0)) (fun k Fr0=>Fr0) (fun k=>s.size - k) 0 (⟨Nat.zero_le _,fun i hi=>absurd hi (Nat.not_lt_zero i)⟩) ⟨rfl,rfl,trivial⟩ ⟨[],by decide,rfl⟩ ?_
  rintro k ⟨hk,hall⟩
  refine Zb<|Zb<|Za<|gm rfl rfl<|gm rfl rfl<|gr rfl (Xp Tryz.underlying9 rfl)<|gr rfl (ZX rfl rfl) (Zw (fun h21=>?_) (fun h21=>?_))
  ·refine gA<|Zk rfl<|Zv<|Ze<|Zb<|ZB<|Zb<|Za<|gm rfl rfl<|gm rfl rfl<|gr rfl (W4 Tryz.underlying9 rfl rfl (Ji s k (by omega))) ?_
   refine Zt (ZJ rfl (vf:=[]) (vc:=[]) rfl rfl Tryz.call119 (fun w1 ho=>Zhl (X8 s k) w1) ?_)
   rintro _ _ ⟨rfl,rfl⟩
   refine Z0 (fun hl=>?_) (fun hl=>?_)
   ·refine gr rfl (rd_not rfl)<|gm rfl rfl<|Zj rfl rfl rfl<|Zj rfl rfl rfl<|Zj rfl rfl rfl<|Zj rfl rfl rfl<|Zj rfl rfl rfl<|gr rfl (Zn rfl rfl)<|gm rfl rfl<|Zj rfl rfl rfl<|Zj rfl rfl rfl<|Zj rfl rfl rfl<|Zj rfl rfl rfl<|gr rfl (Zn rfl rfl)<|gA<|Zl rfl<|Zv<|ZI<|Ze<|Za<|gm rfl rfl<|gr rfl (by exact ZL (b:=1) rfl rfl (by omega)) ?_
    refine gas rfl rfl<|ZM<|Ze ?_
    exact ZR (k+1) ⟨⟨by omega,fun i hi=>by
     rcases Nat.lt_or_eq_of_le (Nat.le_of_lt_succ hi) with h | rfl
     ·exact hall i h
     ·rcases Nat.eq_zero_or_pos i with hi0 | hi0
      ·subst hi0; unfold JU; rw [hl0]; rfl
      ·have hi1:i≠0:=by omega
       simp [JU, *]⟩,by omega⟩ ⟨rfl,rfl,trivial⟩ ⟨[],by decide,rfl⟩
   refine gr rfl (rd_not rfl)<|gm rfl rfl<|Zg rfl rfl<|Zm rfl (Zo rfl)<|Zg rfl rfl<|Zm rfl (Zo rfl)<|Zg rfl rfl (Zm rfl (W4 Tryz.underlying9 rfl rfl (Ji s k (by omega))) ?_)
   refine Zg rfl rfl (ZJ rfl (vf:=[]) (vc:=[]) rfl rfl Tryz.call120 (fun w1 ho=>Zrh (X8 s k) w1) ?_)
   rintro _ _ ⟨rfl,rfl⟩
   refine Z0 (fun hdg=>?_) (fun hdg=>?_)
   ·refine Zg rfl rfl<|Zm rfl (rd_not rfl)<|gr rfl (Zq rfl rfl)<|gm rfl rfl<|Zj rfl rfl rfl<|Zj rfl rfl rfl<|Zj rfl rfl rfl<|Zj rfl rfl rfl<|gr rfl (Zn rfl rfl)<|gA<|Zl rfl<|Zv<|ZI<|Ze<|Za<|gm rfl rfl<|gr rfl (by exact ZL (b:=1) rfl rfl (by omega)) ?_
    refine gas rfl rfl<|ZM<|Ze ?_
    exact ZR (k+1) ⟨⟨by omega,fun i hi=>by
     rcases Nat.lt_or_eq_of_le (Nat.le_of_lt_succ hi) with h | rfl
     ·exact hall i h
     ·rcases Nat.eq_zero_or_pos i with hi0 | hi0
      ·subst hi0; unfold JU; rw [hl0]; rfl
      ·have hi1:i≠0:=by omega
       simp [JU, *]⟩,by omega⟩ ⟨rfl,rfl,trivial⟩ ⟨[],by decide,rfl⟩
   refine Zg rfl rfl<|Zm rfl (rd_not rfl)<|gr rfl (Zq rfl rfl)<|gm rfl rfl<|Zg rfl rfl<|Zm rfl (Zo rfl)<|Zg rfl rfl<|Zm rfl (Zo rfl)<|Zg rfl rfl (Zm rfl (W4 Tryz.underlying9 rfl rfl (Ji s k (by omega))) ?_)
   refine Zg rfl rfl (Zm rfl (Z4 rfl rfl) (Zw (fun h40=>?_) (fun h40=>?_)))
   ·replace h40:X8 s k≠95:=by unfold X8; omega
    refine gr rfl (Zq rfl rfl)<|gA<|Zk rfl<|Zb<|Za<|gas rfl rfl<|gA<|Zu<|Zx<|Zh<|Zh<|Zx<|Zh<|Zy (.inl rfl) Tryz.results94 rfl [] (by decide) ?_
    refine ⟨congrArg Value.bool (Eq.symm ?_),rfl⟩
    have hk0:k≠0:=fun e=>by subst e; simp_all
    exact Zdq (i:=k) (by omega) (by simp [JU, *])
   replace h40:X8 s k=95:=by unfold X8; omega
   refine gr rfl (Zq rfl rfl)<|gA<|Zl rfl<|Zv<|ZI<|Ze<|Za<|gm rfl rfl<|gr rfl (by exact ZL (b:=1) rfl rfl (by omega)) ?_
   refine gas rfl rfl<|ZM<|Ze ?_
   exact ZR (k+1) ⟨⟨by omega,fun i hi=>by
    rcases Nat.lt_or_eq_of_le (Nat.le_of_lt_succ hi) with h | rfl
    ·exact hall i h
    ·rcases Nat.eq_zero_or_pos i with hi0 | hi0
     ·subst hi0; unfold JU; rw [hl0]; rfl
     ·have hi1:i≠0:=by omega
      simp [JU, *]⟩,by omega⟩ ⟨rfl,rfl,trivial⟩ ⟨[],by decide,rfl⟩
  refine gA<|Zl rfl<|Z1<|Zs<|Zs<|ZE<|Ze<|Zb<|Za<|gas rfl rfl<|gA<|Zu<|Zy (.inl rfl) Tryz.results94 rfl [] (by decide) ?_
  refine ⟨congrArg Value.bool (Eq.symm ?_),rfl⟩
  rw [Zeu (fun i hi=>hall i (by omega))]
  simp; omega
 refine Zg rfl rfl<|Zm rfl (rd_not rfl)<|gr rfl (Zn rfl rfl)<|gA<|Zk rfl<|Zb<|Za<|gas rfl rfl<|gA<|Zu<|Zh<|Zy (.inl rfl) Tryz.results94 rfl [] (by decide) ?_
 refine ⟨congrArg Value.bool (Eq.symm ?_),rfl⟩
 exact Zdq (i:=0) (by omega) (by simp [JU, *])
end Go.Proofs.YthcbcdjkfefnlaaGreatDoor
namespace Go.Proofs.YthcbcdjkfefnlaaGreatDoor
open Go.Gv
open Go.RowKit
open Go.Sn
open Go.Shelf Go.Sort Go.Proofs
def ren171 : Ren:=⟨(fun x=>match x with | 171=>144 | 243=>153 | 246=>145 | 283=>154 | 284=>155 | 285=>156 | 286=>157 | 129=>141 | 317=>159 | 318=>160 | 319=>161 | 320=>162 | 337=>163 | 338=>164 | n=>n),(fun x=>match x with | 3=>3 | 9=>9 | 2=>2 | 4=>4 | 171=>232 | 0=>0 | 53=>207 | 37=>65 | 5=>5 | 173=>234 | 212=>241 | 51=>136 | 20=>20 | 213=>242 | 46=>192 | 232=>243 | 233=>244 | n=>n),(fun x=>match x with | 17=>1 | 18=>2 | 19=>3 | n=>n)⟩
theorem laid171 : Lays.n171 Tryz.prog ren171:={ mixed:=by kernel_rfl,f129:=Eq.trans Tryz.func141 (congrArg some (by kernel_rfl)),f171:=Eq.trans Tryz.func144 (congrArg some (by kernel_rfl)),f243:=Eq.trans Tryz.func153 (congrArg some (by kernel_rfl)),f246:=Eq.trans Tryz.func145 (congrArg some (by kernel_rfl)),f283:=Eq.trans Tryz.func154 (congrArg some (by kernel_rfl)),f284:=Eq.trans Tryz.func155 (congrArg some (by kernel_rfl)),f285:=Eq.trans Tryz.func156 (congrArg some (by kernel_rfl)),f286:=Eq.trans Tryz.func157 (congrArg some (by kernel_rfl)),f317:=Eq.trans Tryz.func159 (congrArg some (by kernel_rfl)),f318:=Eq.trans Tryz.func160 (congrArg some (by kernel_rfl)),f319:=Eq.trans Tryz.func161 (congrArg some (by kernel_rfl)),f320:=Eq.trans Tryz.func162 (congrArg some (by kernel_rfl)),f337:=Eq.trans Tryz.func163 (congrArg some (by kernel_rfl)),f338:=Eq.trans Tryz.func164 (congrArg some (by kernel_rfl)),t0:=Tryz.underlying0,a0:=Tryz.isAgg0,z0:=Tryz.sizeOf0,v0:=Tryz.zeroValue0,t2:=Tryz.underlying2,a2:=Tryz.isAgg2,z2:=Tryz.sizeOf2,v2:=Tryz.zeroValue2,t3:=Tryz.underlying3,a3:=Tryz.isAgg3,z3:=Tryz.sizeOf3,v3:=Tryz.zeroValue3,t4:=Tryz.underlying4,a4:=Tryz.isAgg4,z4:=Tryz.sizeOf4,v4:=Tryz.zeroValue4,t5:=Tryz.underlying5,a5:=Tryz.isAgg5,z5:=Tryz.sizeOf5,v5:=Tryz.zeroValue5,t9:=Tryz.underlying9,a9:=Tryz.isAgg9,z9:=Tryz.sizeOf9,v9:=Tryz.zeroValue9,t20:=Tryz.underlying20,a20:=Tryz.isAgg20,z20:=Tryz.sizeOf20,v20:=Tryz.zeroValue20,t37:=Tryz.underlying65,a37:=Tryz.isAgg65,z37:=Tryz.sizeOf65,v37:=Tryz.zeroValue65,t46:=Tryz.underlying192,a46:=Tryz.isAgg192,z46:=Tryz.sizeOf192,v46:=Tryz.zeroValue192,t51:=Tryz.underlying136,a51:=Tryz.isAgg136,z51:=Tryz.sizeOf136,v51:=Tryz.zeroValue136,t53:=Tryz.underlying207,a53:=Tryz.isAgg207,z53:=Tryz.sizeOf207,v53:=Tryz.zeroValue207,t171:=Tryz.underlying232,a171:=Tryz.isAgg232,z171:=Tryz.sizeOf232,v171:=Tryz.zeroValue232,t173:=Tryz.underlying234,a173:=Tryz.isAgg234,z173:=Tryz.sizeOf234,v173:=Tryz.zeroValue234,t212:=Tryz.underlying241,a212:=Tryz.isAgg241,z212:=Tryz.sizeOf241,v212:=Tryz.zeroValue241,t213:=Tryz.underlying242,a213:=Tryz.isAgg242,z213:=Tryz.sizeOf242,t232:=Tryz.underlying243,a232:=Tryz.isAgg243,z232:=Tryz.sizeOf243,v232:=Tryz.zeroValue243,t233:=Tryz.underlying244,a233:=Tryz.isAgg244,z233:=Tryz.sizeOf244,v233:=Tryz.zeroValue244,g17:=by kernel_rfl,g18:=by kernel_rfl,g19:=by kernel_rfl }
def ren173 : Ren:=⟨(fun x=>match x with | 173=>130 | 246=>145 | 283=>154 | 284=>155 | 285=>156 | 286=>157 | 129=>141 | 317=>159 | 318=>160 | 319=>161 | 320=>162 | 337=>163 | 338=>164 | n=>n),(fun x=>match x with | 2=>2 | 3=>3 | 9=>9 | 4=>4 | 171=>232 | 0=>0 | 53=>207 | 37=>65 | 5=>5 | 173=>234 | 212=>241 | 51=>136 | 20=>20 | 213=>242 | 46=>192 | 232=>243 | 233=>244 | n=>n),(fun x=>match x with | 17=>1 | 18=>2 | 19=>3 | n=>n)⟩
theorem laid173 : Lays.n173 Tryz.prog ren173:={ mixed:=by kernel_rfl,f129:=Eq.trans Tryz.func141 (congrArg some (by kernel_rfl)),f173:=Eq.trans Tryz.func130 (congrArg some (by kernel_rfl)),f246:=Eq.trans Tryz.func145 (congrArg some (by kernel_rfl)),f283:=Eq.trans Tryz.func154 (congrArg some (by kernel_rfl)),f284:=Eq.trans Tryz.func155 (congrArg some (by kernel_rfl)),f285:=Eq.trans Tryz.func156 (congrArg some (by kernel_rfl)),f286:=Eq.trans Tryz.func157 (congrArg some (by kernel_rfl)),f317:=Eq.trans Tryz.func159 (congrArg some (by kernel_rfl)),f318:=Eq.trans Tryz.func160 (congrArg some (by kernel_rfl)),f319:=Eq.trans Tryz.func161 (congrArg some (by kernel_rfl)),f320:=Eq.trans Tryz.func162 (congrArg some (by kernel_rfl)),f337:=Eq.trans Tryz.func163 (congrArg some (by kernel_rfl)),f338:=Eq.trans Tryz.func164 (congrArg some (by kernel_rfl)),t0:=Tryz.underlying0,a0:=Tryz.isAgg0,z0:=Tryz.sizeOf0,v0:=Tryz.zeroValue0,t2:=Tryz.underlying2,a2:=Tryz.isAgg2,z2:=Tryz.sizeOf2,v2:=Tryz.zeroValue2,t3:=Tryz.underlying3,a3:=Tryz.isAgg3,z3:=Tryz.sizeOf3,v3:=Tryz.zeroValue3,t4:=Tryz.underlying4,a4:=Tryz.isAgg4,z4:=Tryz.sizeOf4,v4:=Tryz.zeroValue4,t5:=Tryz.underlying5,a5:=Tryz.isAgg5,z5:=Tryz.sizeOf5,v5:=Tryz.zeroValue5,t9:=Tryz.underlying9,a9:=Tryz.isAgg9,z9:=Tryz.sizeOf9,v9:=Tryz.zeroValue9,t20:=Tryz.underlying20,a20:=Tryz.isAgg20,z20:=Tryz.sizeOf20,v20:=Tryz.zeroValue20,t37:=Tryz.underlying65,a37:=Tryz.isAgg65,z37:=Tryz.sizeOf65,v37:=Tryz.zeroValue65,t46:=Tryz.underlying192,a46:=Tryz.isAgg192,z46:=Tryz.sizeOf192,v46:=Tryz.zeroValue192,t51:=Tryz.underlying136,a51:=Tryz.isAgg136,z51:=Tryz.sizeOf136,v51:=Tryz.zeroValue136,t53:=Tryz.underlying207,a53:=Tryz.isAgg207,z53:=Tryz.sizeOf207,v53:=Tryz.zeroValue207,t171:=Tryz.underlying232,a171:=Tryz.isAgg232,z171:=Tryz.sizeOf232,v171:=Tryz.zeroValue232,t173:=Tryz.underlying234,a173:=Tryz.isAgg234,z173:=Tryz.sizeOf234,v173:=Tryz.zeroValue234,t212:=Tryz.underlying241,a212:=Tryz.isAgg241,z212:=Tryz.sizeOf241,v212:=Tryz.zeroValue241,t213:=Tryz.underlying242,a213:=Tryz.isAgg242,z213:=Tryz.sizeOf242,t232:=Tryz.underlying243,a232:=Tryz.isAgg243,z232:=Tryz.sizeOf243,v232:=Tryz.zeroValue243,t233:=Tryz.underlying244,a233:=Tryz.isAgg244,z233:=Tryz.sizeOf244,v233:=Tryz.zeroValue244,g17:=by kernel_rfl,g18:=by kernel_rfl,g19:=by kernel_rfl }
theorem Zmw {f:Nat} {args:List Value} {w0:World} {v0:Value} (h:Calls Tryz.prog f args.toArray w0 fun e w'=>e=.returned v0∧w'=w0):Sp Tryz.prog f args w0 [] (RV v0):=by
 unfold Sp
 refine h.mono ?_
 rintro e w' ⟨rfl,rfl⟩
 exact ⟨v0,[],rfl,⟨rfl,rfl⟩,Own.refl _⟩
theorem Zgj (i:Nat) (hi:i<100) (w0:World):Sp Tryz.prog 144 [natV i] w0 [] (RV (.string (W0 i))):=Zmw (Any.strconv_Itoa_small laid171 i hi w0)
theorem Zrj (i:Nat) (hi:i<100) (w0:World):Sp Tryz.prog 130 [natV i,natV 10] w0 [] (RV (.string (W0 i))):=Zmw (Any.strconv_FormatInt_10_small laid173 i hi w0)
end Go.Proofs.YthcbcdjkfefnlaaGreatDoor
namespace Go.Proofs.YthcbcdjkfefnlaaGreatDoor
open Go.Gv
open Go.RowKit
open Go.Sn
open Sx
namespace Sx
theorem gcd_one {a b:Nat} (hb:1≤b) (h:∀ i,2≤i→i≤b→¬ (a % i=0∧b % i=0)):Nat.gcd a b=1:=by
 have h1:Nat.gcd a b ∣ b:=Nat.gcd_dvd_right a b
 have h2:Nat.gcd a b ∣ a:=Nat.gcd_dvd_left a b
 have h3:Nat.gcd a b≤b:=Nat.le_of_dvd (by omega) h1
 have h4:0<Nat.gcd a b:=Nat.gcd_pos_of_pos_right _ (by omega)
 rcases Nat.lt_or_ge (Nat.gcd a b) 2 with h5 | h5
 ·omega
 ·exact absurd ⟨Nat.mod_eq_zero_of_dvd h2,Nat.mod_eq_zero_of_dvd h1⟩ (h _ h5 h3)
theorem Zmx {a b i:Nat} (hi:2≤i) (h1:a % i=0) (h2:b % i=0):Nat.gcd a b≠1:=fun h=>by
 have h3:i ∣ Nat.gcd a b:=Nat.dvd_gcd (Nat.dvd_of_mod_eq_zero h1) (Nat.dvd_of_mod_eq_zero h2)
 rw [h] at h3
 have:=Nat.le_of_dvd (by omega) h3
 omega
theorem Zjk {a b:Nat}:feetB (a:Int) (b:Int)=(decide (1≤b) && decide (b≤15) && decide (1≤a) && decide (a≤64 * b) && decide (Nat.gcd a b=1)):=by
 unfold feetB
 simp only [Int.toNat_natCast]
 congr 1
 congr 1
 ·congr 1
  ·congr 1
   ·rw [Bool.eq_iff_iff]; simp; omega
   ·rw [Bool.eq_iff_iff]; simp; omega
  ·rw [Bool.eq_iff_iff]; simp; omega
 ·rw [Bool.eq_iff_iff]; simp; omega
theorem Zd2 (i:Nat) (hi:i<100):(W0 i).size≤3:=by
 show (Lib.decDigits i).toArray.size≤3
 by_cases h:i<10
 ·rw [Lib.decDigits_one h]; simp
 ·rw [Lib.decDigits_two h hi]; simp
theorem Jr (a b:ByteArray):(a++b).size=a.size+b.size:=ByteArray.size_append
end Sx
open Sx
theorem gcd_ok (a b:Nat) (ha:a≤9223372036854775807) (hb:b≤9223372036854775807) (w0:World):Sp Tryz.prog 152 [natV a,natV b] w0 [] (RV (natV (Nat.gcd a b))):=by
 refine ZC Tryz.func152 rfl Tryz.ntmps152 rfl (Own.refl _) ?_
 simp only [ZV]
 refine Zb<|Za<|gas rfl rfl<|gA<|Zb<|ZB<|ZZ (ι:=Nat × Nat) [] [] (fun j=>Nat.gcd j.1 j.2=Nat.gcd a b∧j.1≤9223372036854775807∧j.2≤9223372036854775807) (fun j Fr0=>((0,natV j.1)::(1,natV j.2)::Fr0)) (fun j Fr0=>Fr0) (fun j=>j.2) (a,b) (⟨rfl,ha,hb⟩) ⟨rfl,rfl,trivial⟩ ⟨[],by decide,rfl⟩ ?_
 rintro ⟨x,y⟩ ⟨hg,hx,hy⟩
 simp only at hg hx hy ⊢
 refine Zb<|Zb<|Za<|gm rfl rfl<|gr rfl (Z4 rfl rfl) (Zw (fun h6=>?_) (fun h6=>?_))
 ·refine gA<|Zk rfl<|Zv<|Ze<|ZB<|ZO [] true 5 rfl<|Zc 0 rfl rfl ⟨[],by decide,rfl⟩ (Zf (Zo rfl)) ?_
  refine Zc 1 rfl rfl ⟨[],by decide,rfl⟩ (Zf (Zo rfl)) ?_
  refine Zc 2 rfl rfl ⟨[],by decide,rfl⟩ (Zf (Zo rfl)) ?_
  refine Zc 3 rfl rfl ⟨[],by decide,rfl⟩ (Zf (by exact Vb rfl rfl (by omega))) ?_
  refine Zc 4 rfl rfl ⟨[],by decide,rfl⟩ (Zf (ZY rfl)) ?_
  refine Zc 5 rfl rfl ⟨[],by decide,rfl⟩ (Zf (ZY rfl)) ?_
  refine ZP (.inr ⟨[],by decide,rfl⟩) ?_
  refine ZI<|Ze ?_
  exact ZR ((y,x % y)) ⟨⟨by simp only; rw [← hg]; exact (gcd_step x y (by omega)).symm,hy,by simp only; have:=Nat.mod_lt x (show 0<y by omega); omega⟩,Nat.mod_lt x (by omega)⟩ ⟨rfl,rfl,trivial⟩ ⟨[],by decide,rfl⟩
 refine gA<|Zl rfl<|Z1<|Zs<|Zs<|ZE<|Ze<|Zb<|Za<|gm rfl rfl<|gas rfl rfl<|gA<|Zu<|Zy (.inl rfl) Tryz.results152 rfl [] (by decide) ?_
 refine ⟨?_,rfl⟩
 obtain rfl:y=0:=by omega
 rw [← hg,Nat.gcd_zero_right]
theorem Zrk (a b:Nat) (hb1:1≤b) (ha:a≤9223372036854775807) (hb:b≤1000) (w0:World):Sp Tryz.prog 121 [natV a,natV b] w0 [] (RV (.bool (decide (Nat.gcd a b≠1)))):=by
 refine ZC Tryz.func121 rfl Tryz.ntmps121 rfl (Own.refl _) ?_
 simp only [ZV]
 refine Zb<|Za<|gas rfl rfl<|gA<|Zb<|Zb<|Za<|gas rfl rfl<|gA<|ZB<|ZZ (ι:=Nat) [(0,_),(1,_)] [] (fun k=>2≤k∧k≤b+2∧∀ i,2≤i→i<k→¬ (a % i=0∧b % i=0)) (fun k Fr0=>((5,natV k)::Fr0)) (fun k Fr0=>Fr0) (fun k=>b+2 - k) 2 (⟨by omega,by omega,fun i h1 h2=>by omega⟩) ⟨rfl,rfl,rfl,trivial⟩ ⟨[],by decide,rfl⟩ ?_
 rintro k ⟨hk2,hkb,hall⟩
 refine Zb<|Zb<|Za<|gm rfl rfl<|gm rfl rfl<|gr rfl (X7 rfl rfl) (Zw (fun h8=>?_) (fun h8=>?_))
 ·refine gA<|Zk rfl<|Zv<|Ze<|Zb<|ZB<|Zb<|Za<|gm rfl rfl<|gm rfl rfl<|gr rfl (by exact Vb rfl rfl (by omega)) ?_
  refine gr rfl (Z8 rfl rfl) (Zw (fun h14=>?_) (fun h14=>?_))
  ·refine gm rfl rfl<|Zg rfl rfl<|Zm rfl (Zo rfl)<|Zg rfl rfl<|Zm rfl (Zo rfl)<|Zg rfl rfl (Zm rfl (by exact Vb rfl rfl (by omega)) ?_)
   refine Zg rfl rfl (Zm rfl (Z8 rfl rfl) (Zw (fun h19=>?_) (fun h19=>?_)))
   ·refine gr rfl (Zq rfl rfl)<|gA<|Zk rfl<|Zb<|Za<|gas rfl rfl<|gA<|Zu<|Zx<|Zh<|Zh<|Zx<|Zh<|Zy (.inl rfl) Tryz.results121 rfl [] (by decide) ?_
    refine ⟨congrArg Value.bool (Eq.symm ?_),rfl⟩
    exact decide_eq_true (Zmx hk2 (by omega) (by omega))
   refine gr rfl (Zq rfl rfl)<|gA<|Zl rfl<|Zv<|ZI<|Ze<|Za<|gm rfl rfl<|gr rfl (by exact ZL (b:=1) rfl rfl (by omega)) ?_
   refine gas rfl rfl<|ZM<|Ze ?_
   exact ZR (k+1) ⟨⟨by omega,by omega,fun i h1 h2=>by
    rcases Nat.lt_or_eq_of_le (Nat.le_of_lt_succ h2) with h | rfl
    ·exact hall i h1 h
    ·omega⟩,by omega⟩ ⟨rfl,rfl,rfl,trivial⟩ ⟨[],by decide,rfl⟩
  refine gm rfl rfl<|Zj rfl rfl rfl<|Zj rfl rfl rfl<|Zj rfl rfl rfl<|Zj rfl rfl rfl<|gr rfl (Zn rfl rfl)<|gA<|Zl rfl<|Zv<|ZI<|Ze<|Za<|gm rfl rfl<|gr rfl (by exact ZL (b:=1) rfl rfl (by omega)) ?_
  refine gas rfl rfl<|ZM<|Ze ?_
  exact ZR (k+1) ⟨⟨by omega,by omega,fun i h1 h2=>by
   rcases Nat.lt_or_eq_of_le (Nat.le_of_lt_succ h2) with h | rfl
   ·exact hall i h1 h
   ·omega⟩,by omega⟩ ⟨rfl,rfl,rfl,trivial⟩ ⟨[],by decide,rfl⟩
 refine gA<|Zl rfl<|Z1<|Zs<|Zs<|ZE<|Ze<|Zb<|Za<|gas rfl rfl<|gA<|Zu<|Zy (.inl rfl) Tryz.results121 rfl [] (by decide) ?_
 refine ⟨congrArg Value.bool (Eq.symm ?_),rfl⟩
 exact decide_eq_false (fun h=>h (gcd_one hb1 (fun i h1 h2=>hall i h1 (by omega))))
theorem valid_ok (num den:Int) (w0:World):Sp Tryz.prog 143 [.agg #[.int .i64 num,.int .i64 den]] w0 [] (RV (.bool (feetB num den))):=by
 refine ZC Tryz.func143 rfl Tryz.ntmps143 rfl (Own.refl _) ?_
 simp only [ZV]
 refine Zb<|Za<|Zt (Z6 rfl rfl rfl (fun b1=>?_))
 refine gas rfl rfl<|gA<|Zb<|Za<|gr rfl (Zd rfl (WV _))<|gr rfl (Zi Tryz.underlying3 rfl rfl (by exact Zp 0 rfl rfl)) ?_
 refine gr rfl (Xs rfl rfl) (Zw (fun h5=>?_) (fun h5=>?_))
 ·refine gm rfl rfl<|Zg rfl rfl<|Zm rfl (Zd rfl (WV _))<|Zg rfl rfl (Zm rfl (Zi Tryz.underlying3 rfl rfl (by exact Zp 0 rfl rfl)) ?_)
  refine Zg rfl rfl (Zm rfl (X7 rfl rfl) (Zw (fun h9=>?_) (fun h9=>?_)))
  ·refine gr rfl (Zq rfl rfl)<|gm rfl rfl<|Zg rfl rfl<|Zm rfl (Zd rfl (JG _))<|Zg rfl rfl (Zm rfl (Zi Tryz.underlying3 rfl rfl (by exact Zp 0 rfl rfl)) ?_)
   refine Zg rfl rfl (Zm rfl (Xs rfl rfl) (Zw (fun h14=>?_) (fun h14=>?_)))
   ·refine gr rfl (Zq rfl rfl)<|gm rfl rfl<|Zg rfl rfl<|Zm rfl (Zd rfl (JG _))<|Zg rfl rfl (Zm rfl (Zi Tryz.underlying3 rfl rfl (by exact Zp 0 rfl rfl)) ?_)
    refine Zg rfl rfl<|Zm rfl (Zd rfl (WV _))<|Zg rfl rfl (Zm rfl (Zi Tryz.underlying3 rfl rfl (by exact Zp 0 rfl rfl)) ?_)
    refine Zg rfl rfl (Zm rfl (by exact Zgy rfl rfl (by omega) (by omega)) ?_)
    refine Zg rfl rfl (Zm rfl (X7 rfl rfl) (Zw (fun h22=>?_) (fun h22=>?_)))
    ·obtain ⟨a,rfl⟩:∃ a:Nat,num=(a:Int):=⟨num.toNat,by omega⟩
     obtain ⟨b,rfl⟩:∃ b:Nat,den=(b:Int):=⟨den.toNat,by omega⟩
     refine gr rfl (Zq rfl rfl)<|gm rfl rfl<|Zg rfl rfl<|Zm rfl (Zd rfl (JG _))<|Zg rfl rfl (Zm rfl (Zi Tryz.underlying3 rfl rfl (by exact Zp 0 rfl rfl)) ?_)
     refine Zg rfl rfl<|Zm rfl (Zd rfl (WV _))<|Zg rfl rfl (Zm rfl (Zi Tryz.underlying3 rfl rfl (by exact Zp 0 rfl rfl)) ?_)
     refine Zg rfl rfl (ZJ rfl (vf:=[]) (vc:=[]) rfl rfl Tryz.call152 (fun w1 ho=>gcd_ok a b (by omega) (by omega) w1) ?_)
     rintro _ _ ⟨rfl,rfl⟩
     refine Zg rfl rfl<|Zm rfl (Z8 rfl rfl)<|gr rfl (Zq rfl rfl)<|gas rfl rfl<|gA<|Zu<|Zy (.inl rfl) Tryz.results143 rfl [] (by decide) ?_
     refine ⟨congrArg Value.bool (Eq.symm ?_),rfl⟩
     rw [Zjk]
     rw [Bool.eq_iff_iff]; simp; omega
    refine gr rfl (Zq rfl rfl)<|gm rfl rfl<|Zj rfl rfl rfl<|Zj rfl rfl rfl<|Zj rfl rfl rfl<|Zj rfl rfl rfl<|Zj rfl rfl rfl<|Zj rfl rfl rfl<|gr rfl (Zn rfl rfl)<|gas rfl rfl<|gA<|Zu<|Zy (.inl rfl) Tryz.results143 rfl [] (by decide) ?_
    refine ⟨congrArg Value.bool (Eq.symm ?_),rfl⟩
    unfold feetB
    rw [Bool.eq_false_iff]
    simp
    omega
   refine gr rfl (Zq rfl rfl)<|gm rfl rfl<|Zj rfl rfl rfl<|Zj rfl rfl rfl<|Zj rfl rfl rfl<|Zj rfl rfl rfl<|Zj rfl rfl rfl<|Zj rfl rfl rfl<|gr rfl (Zn rfl rfl)<|gm rfl rfl<|Zj rfl rfl rfl<|Zj rfl rfl rfl<|Zj rfl rfl rfl<|Zj rfl rfl rfl<|Zj rfl rfl rfl<|Zj rfl rfl rfl<|gr rfl (Zn rfl rfl)<|gas rfl rfl<|gA<|Zu<|Zy (.inl rfl) Tryz.results143 rfl [] (by decide) ?_
   refine ⟨congrArg Value.bool (Eq.symm ?_),rfl⟩
   unfold feetB
   rw [Bool.eq_false_iff]
   simp
   omega
  refine gr rfl (Zq rfl rfl)<|gm rfl rfl<|Zj rfl rfl rfl<|Zj rfl rfl rfl<|Zj rfl rfl rfl<|gr rfl (Zn rfl rfl)<|gm rfl rfl<|Zj rfl rfl rfl<|Zj rfl rfl rfl<|Zj rfl rfl rfl<|Zj rfl rfl rfl<|Zj rfl rfl rfl<|Zj rfl rfl rfl<|gr rfl (Zn rfl rfl)<|gm rfl rfl<|Zj rfl rfl rfl<|Zj rfl rfl rfl<|Zj rfl rfl rfl<|Zj rfl rfl rfl<|Zj rfl rfl rfl<|Zj rfl rfl rfl<|gr rfl (Zn rfl rfl)<|gas rfl rfl<|ZM<|Ze ?_
  refine Zu<|Zy (.inl rfl) Tryz.results143 rfl [] (by decide) ?_
  refine ⟨congrArg Value.bool (Eq.symm ?_),rfl⟩
  unfold feetB
  rw [Bool.eq_false_iff]
  simp
  omega
 refine gm rfl rfl<|Zj rfl rfl rfl<|Zj rfl rfl rfl<|Zj rfl rfl rfl<|gr rfl (Zn rfl rfl)<|gm rfl rfl<|Zj rfl rfl rfl<|Zj rfl rfl rfl<|Zj rfl rfl rfl<|gr rfl (Zn rfl rfl)<|gm rfl rfl<|Zj rfl rfl rfl<|Zj rfl rfl rfl<|Zj rfl rfl rfl<|Zj rfl rfl rfl<|Zj rfl rfl rfl<|Zj rfl rfl rfl<|gr rfl (Zn rfl rfl)<|gm rfl rfl<|Zj rfl rfl rfl<|Zj rfl rfl rfl<|Zj rfl rfl rfl<|Zj rfl rfl rfl<|Zj rfl rfl rfl<|Zj rfl rfl rfl ?_
 refine gr rfl (Zn rfl rfl)<|gas rfl rfl<|gA<|Zu<|Zy (.inl rfl) Tryz.results143 rfl [] (by decide) ?_
 refine ⟨congrArg Value.bool (Eq.symm ?_),rfl⟩
 unfold feetB
 rw [Bool.eq_false_iff]
 simp
 omega
theorem Zjl (num den:Int) (w0:World):Sp Tryz.prog 96 [.agg #[.int .i64 num,.int .i64 den]] w0 [] (RV (.bool (feetB num den))):=by
 refine ZC Tryz.func96 rfl Tryz.ntmps96 rfl (Own.refl _) ?_
 simp only [ZV]
 refine Zb<|Za<|Zt (Z6 rfl rfl rfl (fun b1=>?_))
 refine gas rfl rfl<|gA<|Zb<|Za<|gr rfl (Zd rfl (WV _))<|gr rfl (Zi Tryz.underlying3 rfl rfl (by exact Zp 0 rfl rfl)) ?_
 refine gr rfl (Xs rfl rfl) (Zw (fun h5=>?_) (fun h5=>?_))
 ·refine gm rfl rfl<|Zg rfl rfl<|Zm rfl (Zd rfl (WV _))<|Zg rfl rfl (Zm rfl (Zi Tryz.underlying3 rfl rfl (by exact Zp 0 rfl rfl)) ?_)
  refine Zg rfl rfl (Zm rfl (X7 rfl rfl) (Zw (fun h9=>?_) (fun h9=>?_)))
  ·refine gr rfl (Zq rfl rfl)<|gm rfl rfl<|Zg rfl rfl<|Zm rfl (Zd rfl (JG _))<|Zg rfl rfl (Zm rfl (Zi Tryz.underlying3 rfl rfl (by exact Zp 0 rfl rfl)) ?_)
   refine Zg rfl rfl (Zm rfl (Xs rfl rfl) (Zw (fun h14=>?_) (fun h14=>?_)))
   ·refine gr rfl (Zq rfl rfl)<|gm rfl rfl<|Zg rfl rfl<|Zm rfl (Zd rfl (JG _))<|Zg rfl rfl (Zm rfl (Zi Tryz.underlying3 rfl rfl (by exact Zp 0 rfl rfl)) ?_)
    refine Zg rfl rfl<|Zm rfl (Zd rfl (WV _))<|Zg rfl rfl (Zm rfl (Zi Tryz.underlying3 rfl rfl (by exact Zp 0 rfl rfl)) ?_)
    refine Zg rfl rfl (Zm rfl (by exact Zgy rfl rfl (by omega) (by omega)) ?_)
    refine Zg rfl rfl (Zm rfl (X7 rfl rfl) (Zw (fun h22=>?_) (fun h22=>?_)))
    ·obtain ⟨a,rfl⟩:∃ a:Nat,num=(a:Int):=⟨num.toNat,by omega⟩
     obtain ⟨b,rfl⟩:∃ b:Nat,den=(b:Int):=⟨den.toNat,by omega⟩
     refine gr rfl (Zq rfl rfl)<|gm rfl rfl<|Zg rfl rfl<|Zm rfl (Zd rfl (JG _))<|Zg rfl rfl (Zm rfl (Zi Tryz.underlying3 rfl rfl (by exact Zp 0 rfl rfl)) ?_)
     refine Zg rfl rfl<|Zm rfl (Zd rfl (WV _))<|Zg rfl rfl (Zm rfl (Zi Tryz.underlying3 rfl rfl (by exact Zp 0 rfl rfl)) ?_)
     refine Zg rfl rfl (ZJ rfl (vf:=[]) (vc:=[]) rfl rfl Tryz.call121 (fun w1 ho=>Zrk a b (by omega) (by omega) (by omega) w1) ?_)
     rintro _ _ ⟨rfl,rfl⟩
     refine Zg rfl rfl<|Zm rfl (rd_not rfl)<|gr rfl (Zq rfl rfl)<|gas rfl rfl<|gA<|Zu<|Zy (.inl rfl) Tryz.results96 rfl [] (by decide) ?_
     refine ⟨congrArg Value.bool (Eq.symm ?_),rfl⟩
     rw [Zjk]
     rw [Bool.eq_iff_iff]; simp; omega
    refine gr rfl (Zq rfl rfl)<|gm rfl rfl<|Zj rfl rfl rfl<|Zj rfl rfl rfl<|Zj rfl rfl rfl<|Zj rfl rfl rfl<|Zj rfl rfl rfl<|Zj rfl rfl rfl<|gr rfl (Zn rfl rfl)<|gas rfl rfl<|gA<|Zu<|Zy (.inl rfl) Tryz.results96 rfl [] (by decide) ?_
    refine ⟨congrArg Value.bool (Eq.symm ?_),rfl⟩
    unfold feetB
    rw [Bool.eq_false_iff]
    simp
    omega
   refine gr rfl (Zq rfl rfl)<|gm rfl rfl<|Zj rfl rfl rfl<|Zj rfl rfl rfl<|Zj rfl rfl rfl<|Zj rfl rfl rfl<|Zj rfl rfl rfl<|Zj rfl rfl rfl<|gr rfl (Zn rfl rfl)<|gm rfl rfl<|Zj rfl rfl rfl<|Zj rfl rfl rfl<|Zj rfl rfl rfl<|Zj rfl rfl rfl<|Zj rfl rfl rfl<|Zj rfl rfl rfl<|gr rfl (Zn rfl rfl)<|gas rfl rfl<|gA<|Zu<|Zy (.inl rfl) Tryz.results96 rfl [] (by decide) ?_
   refine ⟨congrArg Value.bool (Eq.symm ?_),rfl⟩
   unfold feetB
   rw [Bool.eq_false_iff]
   simp
   omega
  refine gr rfl (Zq rfl rfl)<|gm rfl rfl<|Zj rfl rfl rfl<|Zj rfl rfl rfl<|Zj rfl rfl rfl<|gr rfl (Zn rfl rfl)<|gm rfl rfl<|Zj rfl rfl rfl<|Zj rfl rfl rfl<|Zj rfl rfl rfl<|Zj rfl rfl rfl<|Zj rfl rfl rfl<|Zj rfl rfl rfl<|gr rfl (Zn rfl rfl)<|gm rfl rfl<|Zj rfl rfl rfl<|Zj rfl rfl rfl<|Zj rfl rfl rfl<|Zj rfl rfl rfl<|Zj rfl rfl rfl<|Zj rfl rfl rfl<|gr rfl (Zn rfl rfl)<|gas rfl rfl<|ZM<|Ze ?_
  refine Zu<|Zy (.inl rfl) Tryz.results96 rfl [] (by decide) ?_
  refine ⟨congrArg Value.bool (Eq.symm ?_),rfl⟩
  unfold feetB
  rw [Bool.eq_false_iff]
  simp
  omega
 refine gm rfl rfl<|Zj rfl rfl rfl<|Zj rfl rfl rfl<|Zj rfl rfl rfl<|gr rfl (Zn rfl rfl)<|gm rfl rfl<|Zj rfl rfl rfl<|Zj rfl rfl rfl<|Zj rfl rfl rfl<|gr rfl (Zn rfl rfl)<|gm rfl rfl<|Zj rfl rfl rfl<|Zj rfl rfl rfl<|Zj rfl rfl rfl<|Zj rfl rfl rfl<|Zj rfl rfl rfl<|Zj rfl rfl rfl<|gr rfl (Zn rfl rfl)<|gm rfl rfl<|Zj rfl rfl rfl<|Zj rfl rfl rfl<|Zj rfl rfl rfl<|Zj rfl rfl rfl<|Zj rfl rfl rfl<|Zj rfl rfl rfl ?_
 refine gr rfl (Zn rfl rfl)<|gas rfl rfl<|gA<|Zu<|Zy (.inl rfl) Tryz.results96 rfl [] (by decide) ?_
 refine ⟨congrArg Value.bool (Eq.symm ?_),rfl⟩
 unfold feetB
 rw [Bool.eq_false_iff]
 simp
 omega
theorem Zrl (i:Nat) (hi:i<100) (w0:World):Sp Tryz.prog 116 [natV i] w0 [] (RV (.string (W0 i))):=by
 refine ZC Tryz.func116 rfl Tryz.ntmps116 rfl (Own.refl _) ?_
 simp only [ZV]
 refine Zb<|Za<|gas rfl rfl<|gA<|Zb<|Za<|gm rfl rfl<|Zt (ZJ rfl (vf:=[]) (vc:=[]) rfl rfl Tryz.call130 (fun w1 ho=>Zrj i hi w1) ?_)
 rintro _ _ ⟨rfl,rfl⟩
 refine gas rfl rfl<|gA<|Zu<|Zy (.inl rfl) Tryz.results116 rfl [] (by decide) ?_
 exact ⟨rfl,rfl⟩
namespace Sx
def CB (s:Org) (cb mb:Nat):HL:=.blk cb [.slice s.da s.ds.length s.dc,.slice s.ra s.rs.length s.rc,.slice s.sa s.ss.length s.sc,.slice s.ca s.cs.length s.cc,.map (some mb)] 151
def OB (mb:Nat) (K:List ByteArray):HL:=.obj mb (Zbh K)
def RC (s:Org) (cb mb:Nat) (v0:Int) (K:List ByteArray):Value→List HL→Prop:=fun v L=>v=.int .i64 v0∧L=[CB s cb mb,OB mb K]
end Sx
open Sx
theorem Zd3 (s:Org) (cb mb:Nat) (K:List ByteArray) (kind name:ByteArray) (hk:kind.size≤1000) (hz:name.size≤140737488355328) (w0:World) (hown:Own w0 [cb,mb] w0 [CB s cb mb,OB mb K]):Sp Tryz.prog 112 [.pointer (some ⟨cb,0,none⟩),.string kind,.string name] w0 [cb,mb] (RC s cb mb (Xm K kind name) (Wa K kind name)):=by
 unfold CB OB at hown
 refine ZC Tryz.func112 rfl Tryz.ntmps112 rfl hown ?_
 simp only [ZV]
 refine Zb<|Za<|gas rfl rfl<|gA<|Zb<|Zb<|Za<|gm rfl rfl<|Zt (ZJ rfl (vf:=[]) (vc:=[]) rfl rfl Tryz.call115 (fun w1 ho=>Zp9 name hz w1) ?_)
 rintro _ _ ⟨rfl,rfl⟩
 refine Z0 (fun hn=>?_) (fun hn=>?_)
 ·obtain ⟨hn1,hn2⟩:=nameB_le hn
  refine gr rfl (rd_not rfl)<|gA<|Zl rfl<|Zv<|Ze<|Zb<|Zb<|Za<|gm rfl rfl<|gnc rfl rfl<|gr rfl (Zd rfl (Zmk _))<|gr rfl (Zi Tryz.underlying149 rfl rfl (by exact Zp 0 rfl rfl)) ?_
  refine gm rfl rfl<|gr rfl (WB Tryz.underlying9 rfl rfl (by (show kind.size+1≤_; omega))) ?_
  refine gm rfl rfl<|gr rfl (WB Tryz.underlying9 rfl rfl (by (rw [Jr]; show (kind.size+1)+name.size≤_; omega))) ?_
  refine gr rfl (rd_seen 1 rfl Tryz.underlying149 Tryz.underlying9 ty_4 rfl rfl)<|Z0 (fun hm=>?_) (fun hm=>?_)
  ·change Zer (Jq kind name) K=true at hm
   refine gA<|Zk rfl<|Zb<|Za<|gas rfl rfl<|gA<|Zu<|Zh<|Zy (.inl rfl) Tryz.results112 rfl [0,1] (by decide) ?_
   have hp:Xm K kind name=8:=by unfold Xm; rw [if_neg (by rw [hn]; decide),if_pos hm]
   have hk:Wa K kind name=K:=by unfold Wa; rw [if_neg (by rw [hp]; decide)]
   rw [hp,hk]
   exact ⟨rfl,rfl⟩
  change Zer (Jq kind name) K=false at hm
  refine gA<|Zl rfl<|Zv<|Ze<|Zb<|Za<|gm rfl rfl<|gnc rfl rfl<|gr rfl (Zd rfl (Zmk _))<|gr rfl (Zi Tryz.underlying149 rfl rfl (by exact Zp 0 rfl rfl)) ?_
  refine gm rfl rfl<|gr rfl (WB Tryz.underlying9 rfl rfl (by (show kind.size+1≤_; omega))) ?_
  refine gm rfl rfl<|gr rfl (WB Tryz.underlying9 rfl rfl (by (rw [Jr]; show (kind.size+1)+name.size≤_; omega))) ?_
  refine Zt<|op_see 1 Tryz.underlying149 Tryz.underlying9 rfl rfl rfl rfl hm rfl<|gA<|Zb<|Za<|gas rfl rfl<|gA<|Zu<|Zy (.inl rfl) Tryz.results112 rfl [0,1] (by decide) ?_
  have hp:Xm K kind name=0:=by unfold Xm; rw [if_neg (by rw [hn]; decide),if_neg (by rw [hm]; decide)]
  have hk:Wa K kind name=K++[Jq kind name]:=by unfold Wa; rw [if_pos hp]
  rw [hp,hk]
  exact ⟨rfl,rfl⟩
 refine gr rfl (rd_not rfl)<|gA<|Zk rfl<|Zb<|Za<|gas rfl rfl<|gA<|Zu<|Zh<|Zy (.inl rfl) Tryz.results112 rfl [0,1] (by decide) ?_
 have hp:Xm K kind name=6:=by unfold Xm; rw [if_pos hn]
 have hk:Wa K kind name=K:=by unfold Wa; rw [if_neg (by rw [hp]; decide)]
 rw [hp,hk]
 exact ⟨rfl,rfl⟩
theorem Zmy (s:Org) (cb mb:Nat) (K:List ByteArray) (d:Dv) (hz:d.name.size≤140737488355328) (w0:World) (hown:Own w0 [cb,mb] w0 [CB s cb mb,OB mb K]):Sp Tryz.prog 78 [.pointer (some ⟨cb,0,none⟩),d.val] w0 [cb,mb] (RC s cb mb (dvE K d) (dvK K d)):=by
 unfold CB OB at hown
 refine ZC Tryz.func78 rfl Tryz.ntmps78 rfl hown ?_
 simp only [ZV]
 refine Zb<|Za<|Zt (Z6 rfl rfl rfl (fun b3=>?_))
 refine gas rfl rfl<|gA<|Zb<|Zb<|Za<|gm rfl rfl<|gr rfl (Zd rfl (Zbm _))<|gr rfl (Zi Tryz.underlying9 rfl rfl (by exact Zp 0 rfl rfl)) ?_
 refine Zt (Yi [1,2] [0] rfl (vf:=[]) (vc:=[]) rfl rfl Tryz.call112 (by decide) rfl (fun w how hc=>Zd3 s cb mb K Zd1 d.name (by decide) hz w hc) ?_)
 rintro _ _ ⟨rfl,rfl⟩
 refine gas rfl rfl<|gA<|Zb<|Za<|gm rfl rfl<|gr rfl (Z4 rfl rfl) (Zw (fun hnm=>?_) (fun hnm=>?_))
 ·refine gA<|Zk rfl<|Zb<|Za<|gm rfl rfl<|gas rfl rfl<|gA<|Zu<|Zh<|Zy (.inl rfl) Tryz.results78 rfl [0,1] (by decide) ?_
  refine ⟨congrArg (Value.int .i64) (Eq.symm ?_),rfl⟩
  unfold dvE
  rw [if_pos hnm]
 refine gA<|Zl rfl<|Zv<|Ze<|Zb<|Zb<|Za<|gr rfl (Zd rfl (Vi _))<|gr rfl (Zi Tryz.underlying3 rfl rfl (by exact Zp 2 rfl rfl)) ?_
 refine Zt (ZJ rfl (vf:=[]) (vc:=[]) rfl rfl Tryz.call113 (fun w1 ho=>Xl _ _ _ w1) ?_)
 rintro _ _ ⟨rfl,rfl⟩
 refine Z0 (fun hw15=>?_) (fun hw15=>?_)
 ·refine gr rfl (rd_not rfl)<|gm rfl rfl<|Zg rfl rfl<|Zm rfl (Zd rfl (VN _))<|Zg rfl rfl (Zm rfl (Zi Tryz.underlying3 rfl rfl (by exact Zp 2 rfl rfl)) ?_)
  refine Zg rfl rfl<|Zm rfl (Zd rfl (Vi _))<|Zg rfl rfl (Zm rfl (Zi Tryz.underlying3 rfl rfl (by exact Zp 2 rfl rfl)) ?_)
  refine Zg rfl rfl<|Zm rfl (Zd rfl (Vi _))<|Zg rfl rfl (Zm rfl (Zi Tryz.underlying3 rfl rfl (by exact Zp 2 rfl rfl)) ?_)
  refine Zg rfl rfl (Zm rfl (by exact XR rfl rfl (by simp only [Z7,Bool.and_eq_true,decide_eq_true_eq] at hw15; omega) (by simp only [Z7,Bool.and_eq_true,decide_eq_true_eq] at hw15; omega)) ?_)
  refine Zg rfl rfl (Zm rfl (by exact WX rfl rfl (by simp only [Z7,Bool.and_eq_true,decide_eq_true_eq] at hw15; omega) (by simp only [Z7,Bool.and_eq_true,decide_eq_true_eq] at hw15; omega)) ?_)
  refine Zg rfl rfl<|Zm rfl (rd_min2I rfl rfl)<|Zg rfl rfl (ZJ rfl (vf:=[]) (vc:=[]) rfl rfl Tryz.call113 (fun w1 ho=>Xl _ _ _ w1) ?_)
  rintro _ _ ⟨rfl,rfl⟩
  refine Z0 (fun hw27=>?_) (fun hw27=>?_)
  ·refine Zg rfl rfl<|Zm rfl (rd_not rfl)<|gr rfl (Zn rfl rfl)<|gA<|Zl rfl<|Zv<|Ze<|Zb<|Za<|gas rfl rfl<|gA<|Zu<|Zy (.inl rfl) Tryz.results78 rfl [0,1] (by decide) ?_
   refine ⟨congrArg (Value.int .i64) (Eq.symm ?_),rfl⟩
   unfold dvE
   rw [if_neg (by omega)]
   rw [if_neg]
   unfold VZ
   rw [Bool.not_eq_true]
   try simp only [Z7] at *
   simp only [Bool.not_eq_true',Bool.not_eq_false',Bool.and_eq_false_iff,Bool.and_eq_true,decide_eq_true_eq,decide_eq_false_iff_not] at *
   omega
  refine Zg rfl rfl<|Zm rfl (rd_not rfl)<|gr rfl (Zn rfl rfl)<|gA<|Zk rfl<|Zb<|Za<|gas rfl rfl<|gA<|Zu<|Zh<|Zy (.inl rfl) Tryz.results78 rfl [0,1] (by decide) ?_
  refine ⟨congrArg (Value.int .i64) (Eq.symm ?_),rfl⟩
  unfold dvE
  rw [if_neg (by omega)]
  rw [if_pos]
  unfold VZ
  try simp only [Z7] at *
  simp only [Bool.not_eq_true',Bool.not_eq_false',Bool.and_eq_false_iff,Bool.and_eq_true,decide_eq_true_eq,decide_eq_false_iff_not] at *
  omega
 refine gr rfl (rd_not rfl)<|gm rfl rfl<|Zj rfl rfl rfl<|Zj rfl rfl rfl<|Zj rfl rfl rfl<|Zj rfl rfl rfl<|Zj rfl rfl rfl<|Zj rfl rfl rfl<|Zj rfl rfl rfl<|Zj rfl rfl rfl<|Zj rfl rfl rfl<|Zj rfl rfl rfl<|Zj rfl rfl rfl<|gr rfl (Zq rfl rfl)<|gA<|Zk rfl<|Zb<|Za<|gas rfl rfl<|gA<|Zu<|Zh<|Zy (.inl rfl) Tryz.results78 rfl [0,1] (by decide) ?_
 refine ⟨congrArg (Value.int .i64) (Eq.symm ?_),rfl⟩
 unfold dvE
 rw [if_neg (by omega)]
 rw [if_pos]
 unfold VZ
 try simp only [Z7] at *
 simp only [Bool.not_eq_true',Bool.not_eq_false',Bool.and_eq_false_iff,Bool.and_eq_true,decide_eq_true_eq,decide_eq_false_iff_not] at *
 omega
namespace Sx
theorem Zd4 (x:UInt8):(⟨#[x]⟩:ByteArray).size=1:=rfl
theorem feet_ok {num den:Int} (h:feetB num den=true):∃ a b:Nat,num=(a:Int)∧den=(b:Int)∧1≤b∧b≤15∧1≤a∧a≤64 * b:=by
 unfold feetB at h
 simp only [Bool.and_eq_true,decide_eq_true_eq] at h
 exact ⟨num.toNat,den.toNat,by omega,by omega,by omega,by omega,by omega,by omega⟩
theorem Zou (z:Int) (h0:0≤z) (h1:z<100) (w0:World):Sp Tryz.prog 116 [.int .i64 z] w0 [] (RV (.string (W0 z.toNat))):=by
 obtain ⟨i,rfl⟩:∃ i:Nat,z=i:=⟨z.toNat,by omega⟩
 exact Zrl i (by omega) w0
theorem Zrm (i:Nat) (hi:i<100):(kStop++W0 i).size≤1000:=by
 rw [Jr]
 have:=Zd2 i hi
 have h5:kStop.size=5:=rfl
 omega
end Sx
open Sx
theorem Feet_ok (num den:Int) (w0:World):Sp Tryz.prog 127 [.agg #[.int .i64 num,.int .i64 den]] w0 [] (fun v L=>L=[]∧∃ t,v=.tuple #[.string t,.int .i64 (if feetB num den=true then 0 else 2)]):=by
 refine ZC Tryz.func127 rfl Tryz.ntmps127 rfl (Own.refl _) ?_
 simp only [ZV]
 refine Zb<|Za<|Zt (Z6 rfl rfl rfl (fun b1=>?_))
 refine gas rfl rfl<|gas rfl rfl<|gA<|Zb<|Zb<|Za<|gr rfl (Zr Tryz.underlying94 rfl Jl rfl (by exact ZH 0 (off:=0) (k:=2) rfl rfl) rfl) ?_
 refine Zt (ZJ rfl (vf:=[]) (vc:=[]) rfl rfl Tryz.call143 (fun w1 ho=>valid_ok num den w1) ?_)
 rintro _ _ ⟨rfl,rfl⟩
 refine Z0 (fun hv=>?_) (fun hv=>?_)
 ·obtain ⟨a,b,rfl,rfl,hb1,hb2,hb3,hb4⟩:=feet_ok hv
  have hq:a / b≤64:=Nat.div_le_of_le_mul (by rw [Nat.mul_comm]; exact hb4)
  have hr:a % b<b:=Nat.mod_lt a (by omega)
  have hs1:=Zd2 (a % b) (by omega)
  have hs2:=Zd2 b (by omega)
  have hs3:=Zd2 (a / b) (by omega)
  refine gr rfl (rd_not rfl)<|gA<|Zl rfl<|Zv<|Ze<|Zb<|ZO [0] true 11 rfl<|Zc 0 rfl rfl ⟨[0],by decide,rfl⟩ (Zf (Zd rfl (JG _))) ?_
  refine Zc 1 rfl rfl ⟨[0],by decide,rfl⟩ (Zf (Zi Tryz.underlying3 rfl rfl (by exact Zp 0 rfl rfl))) ?_
  refine Zc 2 rfl rfl ⟨[0],by decide,rfl⟩ (Zf (Zd rfl (WV _))) ?_
  refine Zc 3 rfl rfl ⟨[0],by decide,rfl⟩ (Zf (Zi Tryz.underlying3 rfl rfl (by exact Zp 0 rfl rfl))) ?_
  refine Zc 4 rfl rfl ⟨[0],by decide,rfl⟩ (Zf (by exact JA rfl rfl (by omega) (by omega))) ?_
  refine Zc 5 rfl rfl ⟨[0],by decide,rfl⟩ (Zf (Zd rfl (JG _))) ?_
  refine Zc 6 rfl rfl ⟨[0],by decide,rfl⟩ (Zf (Zi Tryz.underlying3 rfl rfl (by exact Zp 0 rfl rfl))) ?_
  refine Zc 7 rfl rfl ⟨[0],by decide,rfl⟩ (Zf (Zd rfl (WV _))) ?_
  refine Zc 8 rfl rfl ⟨[0],by decide,rfl⟩ (Zf (Zi Tryz.underlying3 rfl rfl (by exact Zp 0 rfl rfl))) ?_
  refine Zc 9 rfl rfl ⟨[0],by decide,rfl⟩ (Zf (by exact Vb rfl rfl (by omega))) ?_
  refine Zc 10 rfl rfl ⟨[0],by decide,rfl⟩ (Zf (ZY rfl)) ?_
  refine Zc 11 rfl rfl ⟨[0],by decide,rfl⟩ (Zf (ZY rfl)) ?_
  refine ZP (.inr ⟨[0],by decide,rfl⟩) ?_
  refine Ze<|Zb<|ZO [0] true 7 rfl<|Zc 0 rfl rfl ⟨[0],by decide,rfl⟩ (Zf (Zo rfl)) ?_
  refine Zc 1 rfl rfl ⟨[0],by decide,rfl⟩ (YE (vf:=[]) (vc:=[]) rfl rfl Tryz.call144 (fun w1 ho=>Zgj (a % b) (by omega) w1) (by rintro _ _ ⟨h,_⟩; exact h)) ?_
  refine Zc 2 rfl rfl ⟨[0],by decide,rfl⟩ (Zf (WB Tryz.underlying9 rfl rfl (by simp only [Jr,Zd4]; omega))) ?_
  refine Zc 3 rfl rfl ⟨[0],by decide,rfl⟩ (Zf (Zd rfl (WV _))) ?_
  refine Zc 4 rfl rfl ⟨[0],by decide,rfl⟩ (Zf (Zi Tryz.underlying3 rfl rfl (by exact Zp 0 rfl rfl))) ?_
  refine Zc 5 rfl rfl ⟨[0],by decide,rfl⟩ (YE (vf:=[]) (vc:=[]) rfl rfl Tryz.call144 (fun w1 ho=>Zgj (b) (by omega) w1) (by rintro _ _ ⟨h,_⟩; exact h)) ?_
  refine Zc 6 rfl rfl ⟨[0],by decide,rfl⟩ (Zf (WB Tryz.underlying9 rfl rfl (by simp only [Jr,Zd4]; omega))) ?_
  refine Zc 7 rfl rfl ⟨[0],by decide,rfl⟩ (Zf (ZY rfl)) ?_
  refine ZP (.inr ⟨[0],by decide,rfl⟩) ?_
  refine Ze<|Zb<|ZB<|Zb<|Za<|gr rfl (Zd rfl (WV _))<|gr rfl (Zi Tryz.underlying3 rfl rfl (by exact Zp 0 rfl rfl)) ?_
  refine gr rfl (Z8 rfl rfl) (Zw (fun h30=>?_) (fun h30=>?_))
  ·refine gas rfl rfl<|gA<|Zk rfl<|Zb<|Za<|gm rfl rfl<|Zt (ZJ rfl (vf:=[]) (vc:=[]) rfl rfl Tryz.call144 (fun w1 ho=>Zgj (a / b) (by omega) w1) ?_)
   rintro _ _ ⟨rfl,rfl⟩
   refine gas rfl rfl<|gas rfl rfl<|gA<|Zu<|Zx<|Zh<|Y5 (.inl rfl) Tryz.results127 rfl rfl [] (by decide) ?_
   exact ⟨rfl,_,by rw [hv]; rfl⟩
  refine gas rfl rfl<|gA<|Zl rfl<|Zb<|Za<|gm rfl rfl<|gr rfl (Z8 rfl rfl) (Zw (fun h35=>?_) (fun h35=>?_))
  ·refine gas rfl rfl<|gA<|Zk rfl<|Zb<|Za<|gm rfl rfl<|gas rfl rfl<|gas rfl rfl<|gA<|Zu<|Zx<|Zh<|Y5 (.inl rfl) Tryz.results127 rfl rfl [] (by decide) ?_
   exact ⟨rfl,_,by rw [hv]; rfl⟩
  refine gas rfl rfl<|gA<|Zl rfl<|Zv<|ZI<|Ze<|Zb<|Za<|gm rfl rfl<|Zt (ZJ rfl (vf:=[]) (vc:=[]) rfl rfl Tryz.call144 (fun w1 ho=>Zgj (a / b) (by omega) w1) ?_)
  rintro _ _ ⟨rfl,rfl⟩
  refine gr rfl (WB Tryz.underlying9 rfl rfl (by simp only [Jr,Zd4]; omega)) ?_
  refine gm rfl rfl<|gr rfl (WB Tryz.underlying9 rfl rfl (by simp only [Jr,Zd4]; omega)) ?_
  refine gas rfl rfl<|gas rfl rfl<|gA<|Zu<|Y5 (.inl rfl) Tryz.results127 rfl rfl [] (by decide) ?_
  exact ⟨rfl,_,by rw [hv]; rfl⟩
 refine gr rfl (rd_not rfl)<|gA<|Zk rfl<|Zb<|Za<|gas rfl rfl<|gas rfl rfl<|gA<|Zu<|Zh<|Y5 (.inl rfl) Tryz.results127 rfl rfl [] (by decide) ?_
 exact ⟨rfl,_,by rw [hv]; rfl⟩
theorem Zhm (num den:Int) (w0:World):Sp Tryz.prog 114 [.agg #[.int .i64 num,.int .i64 den]] w0 [] (RV (.bool (feetB num den))):=by
 refine ZC Tryz.func114 rfl Tryz.ntmps114 rfl (Own.refl _) ?_
 simp only [ZV]
 refine Zb<|Za<|Zt (Z6 rfl rfl rfl (fun b1=>?_))
 refine gas rfl rfl<|gA<|Zb<|Za<|gr rfl (Zr Tryz.underlying94 rfl Jl rfl (by exact ZH 0 (off:=0) (k:=2) rfl rfl) rfl) ?_
 refine Zt (ZJ rfl (vf:=[]) (vc:=[]) rfl rfl Tryz.call127 (fun w1 ho=>Feet_ok num den w1) ?_)
 rintro _ _ ⟨rfl,t,rfl⟩
 refine gm rfl rfl<|gr rfl (ZD rfl rfl)<|gr rfl (ZD rfl rfl)<|gas rfl rfl<|gas rfl rfl<|gA<|Zb<|Za<|gm rfl rfl<|gr rfl (Z8 rfl rfl)<|gas rfl rfl<|gA<|Zu<|Zy (.inl rfl) Tryz.results114 rfl [] (by decide) ?_
 refine ⟨congrArg Value.bool ?_,rfl⟩
 cases feetB num den <;> rfl
theorem rank_ok (s:Org) (cb mb:Nat) (K:List ByteArray) (r:Rk) (hz:r.name.size≤140737488355328) (w0:World) (hown:Own w0 [cb,mb] w0 [CB s cb mb,OB mb K]):Sp Tryz.prog 80 [.pointer (some ⟨cb,0,none⟩),r.val] w0 [cb,mb] (RC s cb mb (rkE K r) (rkK K r)):=by
 unfold CB OB at hown
 refine ZC Tryz.func80 rfl Tryz.ntmps80 rfl hown ?_
 simp only [ZV]
 refine Zb<|Za<|Zt (Z6 rfl rfl rfl (fun b3=>?_))
 refine gas rfl rfl<|gA<|Zb<|Zb<|Za<|gm rfl rfl<|gr rfl (Zd rfl (Zbn _))<|gr rfl (Zi Tryz.underlying9 rfl rfl (by exact Zp 0 rfl rfl)) ?_
 refine Zt (Yi [1,2] [0] rfl (vf:=[]) (vc:=[]) rfl rfl Tryz.call112 (by decide) rfl (fun w how hc=>Zd3 s cb mb K JI r.name (by decide) hz w hc) ?_)
 rintro _ _ ⟨rfl,rfl⟩
 refine gas rfl rfl<|gA<|Zb<|Za<|gm rfl rfl<|gr rfl (Z4 rfl rfl) (Zw (fun hnm=>?_) (fun hnm=>?_))
 ·refine gA<|Zk rfl<|Zb<|Za<|gm rfl rfl<|gas rfl rfl<|gA<|Zu<|Zh<|Zy (.inl rfl) Tryz.results80 rfl [0,1] (by decide) ?_
  refine ⟨congrArg (Value.int .i64) (Eq.symm ?_),rfl⟩
  unfold rkE
  rw [if_pos hnm]
 refine gA<|Zl rfl<|Zv<|Ze<|Zb<|Zb<|Za<|gr rfl (Zd rfl (Zhf _))<|gr rfl (Zi Tryz.underlying3 rfl rfl (by exact Zp 2 rfl rfl)) ?_
 refine Zt (ZJ rfl (vf:=[]) (vc:=[]) rfl rfl Tryz.call113 (fun w1 ho=>Xl _ _ _ w1) ?_)
 rintro _ _ ⟨rfl,rfl⟩
 refine Z0 (fun hw15=>?_) (fun hw15=>?_)
 ·refine gr rfl (rd_not rfl)<|gm rfl rfl<|Zg rfl rfl<|Zm rfl (Zd rfl (Zmf _))<|Zg rfl rfl (Zm rfl (Zr Tryz.underlying94 rfl Jl rfl (by exact ZH 2 (off:=2) (k:=2) rfl rfl) rfl) ?_)
  refine Zg rfl rfl (ZJ rfl (vf:=[]) (vc:=[]) rfl rfl Tryz.call114 (fun w1 ho=>Zhm r.num r.den w1) ?_)
  rintro _ _ ⟨rfl,rfl⟩
  refine Z0 (fun hft=>?_) (fun hft=>?_)
  ·refine Zg rfl rfl<|Zm rfl (rd_not rfl)<|gr rfl (Zn rfl rfl)<|gA<|Zl rfl<|Zv<|Ze<|Zb<|Zb<|Za<|gr rfl (Zd rfl (Jo _))<|gr rfl (Zi Tryz.underlying3 rfl rfl (by exact Zp 2 rfl rfl)) ?_
   refine Zt (ZJ rfl (vf:=[]) (vc:=[]) rfl rfl Tryz.call113 (fun w1 ho=>Xl _ _ _ w1) ?_)
   rintro _ _ ⟨rfl,rfl⟩
   refine Z0 (fun hw25=>?_) (fun hw25=>?_)
   ·refine gr rfl (rd_not rfl)<|gm rfl rfl<|Zg rfl rfl<|Zm rfl (Zd rfl (Jn _))<|Zg rfl rfl (Zm rfl (Zi Tryz.underlying3 rfl rfl (by exact Zp 2 rfl rfl)) ?_)
    refine Zg rfl rfl<|Zm rfl (Zd rfl (Jo _))<|Zg rfl rfl (Zm rfl (Zi Tryz.underlying3 rfl rfl (by exact Zp 2 rfl rfl)) ?_)
    refine Zg rfl rfl (Zm rfl (by exact WX rfl rfl (by simp only [Z7,Bool.and_eq_true,decide_eq_true_eq] at hw25; omega) (by simp only [Z7,Bool.and_eq_true,decide_eq_true_eq] at hw25; omega)) ?_)
    refine Zg rfl rfl (ZJ rfl (vf:=[]) (vc:=[]) rfl rfl Tryz.call113 (fun w1 ho=>Xl _ _ _ w1) ?_)
    rintro _ _ ⟨rfl,rfl⟩
    refine Z0 (fun hw33=>?_) (fun hw33=>?_)
    ·refine Zg rfl rfl<|Zm rfl (rd_not rfl)<|gr rfl (Zn rfl rfl)<|gA<|Zl rfl<|Zv<|Ze<|Zb<|Za<|gas rfl rfl<|gA<|Zu<|Zy (.inl rfl) Tryz.results80 rfl [0,1] (by decide) ?_
     refine ⟨congrArg (Value.int .i64) (Eq.symm ?_),rfl⟩
     unfold rkE
     rw [if_neg (by omega)]
     rw [if_neg (by unfold Jj; rw [hft]; simp only [Z7] at hw15; simp at hw15 ⊢; omega)]
     rw [if_neg]
     unfold VM
     rw [Bool.not_eq_true]
     try simp only [Z7] at *
     simp only [Bool.not_eq_true',Bool.not_eq_false',Bool.and_eq_false_iff,Bool.and_eq_true,decide_eq_true_eq,decide_eq_false_iff_not] at *
     omega
    refine Zg rfl rfl<|Zm rfl (rd_not rfl)<|gr rfl (Zn rfl rfl)<|gA<|Zk rfl<|Zb<|Za<|gas rfl rfl<|gA<|Zu<|Zh<|Zy (.inl rfl) Tryz.results80 rfl [0,1] (by decide) ?_
    refine ⟨congrArg (Value.int .i64) (Eq.symm ?_),rfl⟩
    unfold rkE
    rw [if_neg (by omega)]
    rw [if_neg (by unfold Jj; rw [hft]; simp only [Z7] at hw15; simp at hw15 ⊢; omega)]
    rw [if_pos]
    unfold VM
    try simp only [Z7] at *
    simp only [Bool.not_eq_true',Bool.not_eq_false',Bool.and_eq_false_iff,Bool.and_eq_true,decide_eq_true_eq,decide_eq_false_iff_not] at *
    omega
   refine gr rfl (rd_not rfl)<|gm rfl rfl<|Zj rfl rfl rfl<|Zj rfl rfl rfl<|Zj rfl rfl rfl<|Zj rfl rfl rfl<|Zj rfl rfl rfl<|Zj rfl rfl rfl<|Zj rfl rfl rfl<|gr rfl (Zq rfl rfl)<|gA<|Zk rfl<|Zb<|Za<|gas rfl rfl<|gA<|Zu<|Zh<|Zy (.inl rfl) Tryz.results80 rfl [0,1] (by decide) ?_
   refine ⟨congrArg (Value.int .i64) (Eq.symm ?_),rfl⟩
   unfold rkE
   rw [if_neg (by omega)]
   rw [if_neg (by unfold Jj; rw [hft]; simp only [Z7] at hw15; simp at hw15 ⊢; omega)]
   rw [if_pos]
   unfold VM
   try simp only [Z7] at *
   simp only [Bool.not_eq_true',Bool.not_eq_false',Bool.and_eq_false_iff,Bool.and_eq_true,decide_eq_true_eq,decide_eq_false_iff_not] at *
   omega
  refine Zg rfl rfl<|Zm rfl (rd_not rfl)<|gr rfl (Zn rfl rfl)<|gA<|Zk rfl<|Zb<|Za<|gas rfl rfl<|gA<|Zu<|Zh<|Zy (.inl rfl) Tryz.results80 rfl [0,1] (by decide) ?_
  refine ⟨congrArg (Value.int .i64) (Eq.symm ?_),rfl⟩
  unfold rkE
  rw [if_neg (by omega)]
  rw [if_pos]
  unfold Jj
  try simp only [Z7] at *
  cases hfb:feetB r.num r.den <;> simp_all <;> omega
 refine gr rfl (rd_not rfl)<|gm rfl rfl<|Zj rfl rfl rfl<|Zj rfl rfl rfl<|Zj rfl rfl rfl<|Zj rfl rfl rfl<|gr rfl (Zq rfl rfl)<|gA<|Zk rfl<|Zb<|Za<|gas rfl rfl<|gA<|Zu<|Zh<|Zy (.inl rfl) Tryz.results80 rfl [0,1] (by decide) ?_
 refine ⟨congrArg (Value.int .i64) (Eq.symm ?_),rfl⟩
 unfold rkE
 rw [if_neg (by omega)]
 rw [if_pos]
 unfold Jj
 try simp only [Z7] at *
 cases hfb:feetB r.num r.den <;> simp_all <;> omega
theorem stop_ok (s:Org) (cb mb:Nat) (K:List ByteArray) (x:St) (hz:x.name.size≤140737488355328) (hsd:s.ds.length≤6) (w0:World) (hown:Own w0 [cb,mb] w0 [CB s cb mb,OB mb K]):Sp Tryz.prog 81 [.pointer (some ⟨cb,0,none⟩),x.val] w0 [cb,mb] (RC s cb mb (stE s.ds.length K x) (stK s.ds.length K x)):=by
 unfold CB OB at hown
 refine ZC Tryz.func81 rfl Tryz.ntmps81 rfl hown ?_
 simp only [ZV]
 refine Zb<|Za<|Zt (Z6 rfl rfl rfl (fun b3=>?_))
 refine gas rfl rfl<|gA<|Zb<|ZB<|Zb<|Za<|gr rfl (Zd rfl (Zch _))<|gr rfl (Zi Tryz.underlying9 rfl rfl (by exact Zp 0 rfl rfl)) ?_
 refine Zt (ZJ rfl (vf:=[]) (vc:=[]) rfl rfl Tryz.call115 (fun w1 ho=>Zp9 x.name hz w1) ?_)
 rintro _ _ ⟨rfl,rfl⟩
 refine Z0 (fun hnm=>?_) (fun hnm=>?_)
 ·refine gr rfl (rd_not rfl)<|gas rfl rfl<|gA<|Zl rfl<|Zb<|ZO [0,1,2] true 11 rfl<|Zc 0 rfl rfl ⟨[0,1,2],by decide,rfl⟩ (Zf (Zd rfl (VH _))) ?_
  refine Zc 1 rfl rfl ⟨[0,1,2],by decide,rfl⟩ (Zf (Zi Tryz.underlying3 rfl rfl (by exact Zp 0 rfl rfl))) ?_
  refine Zc 2 rfl rfl ⟨[0,1,2],by decide,rfl⟩ (Zf (Zo rfl)) ?_
  refine Zc 3 rfl rfl ⟨[0,1,2],by decide,rfl⟩ (Zf (ZN rfl)) ?_
  refine Zc 4 rfl rfl ⟨[0,1,2],by decide,rfl⟩ (Zf (Zd rfl (Zdv _))) ?_
  refine Zc 5 rfl rfl ⟨[0,1,2],by decide,rfl⟩ (Zf (Zd rfl (YS _))) ?_
  refine Zc 6 rfl rfl ⟨[0,1,2],by decide,rfl⟩ (Zf (Zi Tryz.underlying40 rfl rfl (by exact Zp 1 rfl rfl))) ?_
  refine Zc 7 rfl rfl ⟨[0,1,2],by decide,rfl⟩ (Zf (ZA Tryz.underlying40 rfl)) ?_
  refine Zc 8 rfl rfl ⟨[0,1,2],by decide,rfl⟩ (Zf (by exact WX rfl rfl (by omega) (by omega))) ?_
  refine Zc 9 rfl rfl ⟨[0,1,2],by decide,rfl⟩ (YE (vf:=[]) (vc:=[]) rfl rfl Tryz.call113 (fun w1 ho=>Xl _ _ _ w1) (by rintro _ _ ⟨h,_⟩; exact h)) ?_
  refine Z0 (fun hw21=>?_) (fun hw21=>?_)
  ·replace hw21:Wc x.div s.ds.length=true:=by
    unfold Wc; unfold Z7 at hw21; rw [Bool.eq_iff_iff] at hw21 ⊢; simp at hw21 ⊢; omega
   have hix:=hw21
   have hdl:0≤x.div∧x.div<s.ds.length:=by unfold Wc at hix; simpa using hix
   refine Zc 10 rfl rfl ⟨[0,1,2],by decide,rfl⟩ (Zf (rd_not rfl)) ?_
   refine Zc 11 rfl rfl ⟨[0,1,2],by decide,rfl⟩ (Zf (ZY rfl)) ?_
   refine ZP (.inr ⟨[0,1,2],by decide,rfl⟩) ?_
   refine Ze<|Zl rfl<|Zv<|ZI<|Ze<|Zb<|Zb<|ZO [0] true 8 rfl<|Zc 0 rfl rfl ⟨[0],by decide,rfl⟩ (Zf (Zo rfl)) ?_
   refine Zc 1 rfl rfl ⟨[0],by decide,rfl⟩ (Zf (Zd rfl (VH _))) ?_
   refine Zc 2 rfl rfl ⟨[0],by decide,rfl⟩ (Zf (Zi Tryz.underlying3 rfl rfl (by exact Zp 0 rfl rfl))) ?_
   refine Zc 3 rfl rfl ⟨[0],by decide,rfl⟩ (YE (vf:=[]) (vc:=[]) rfl rfl Tryz.call116 (fun w1 ho=>Zou x.div (by omega) (by omega) w1) (by rintro _ _ ⟨h,_⟩; exact h)) ?_
   refine Zc 4 rfl rfl ⟨[0],by decide,rfl⟩ (Zf (WB Tryz.underlying9 rfl rfl (by have:=Zd2 x.div.toNat (by omega); show 5+(W0 x.div.toNat).size≤_; omega))) ?_
   refine Zc 5 rfl rfl ⟨[0],by decide,rfl⟩ (Zf (Zd rfl (Zch _))) ?_
   refine Zc 6 rfl rfl ⟨[0],by decide,rfl⟩ (Zf (Zi Tryz.underlying9 rfl rfl (by exact Zp 0 rfl rfl))) ?_
   refine ZK 7 rfl (.inr ⟨[0],by decide,rfl⟩) (Yi [1,2] [0] rfl (vf:=[]) (vc:=[]) rfl rfl Tryz.call112 (by decide) rfl (fun w how hc=>Zd3 s cb mb K (kStop++W0 x.div.toNat) x.name (Zrm x.div.toNat (by omega)) hz w hc) ?_)
   rintro _ _ ⟨rfl,rfl⟩
   refine Zc 8 rfl rfl ⟨[2],by decide,rfl⟩ (Zf (ZY rfl)) ?_
   refine ZP (.inr ⟨[2],by decide,rfl⟩) ?_
   refine Ze<|Zb<|Za<|gm rfl rfl<|gr rfl (Z4 rfl rfl) (Zw (fun hn2=>?_) (fun hn2=>?_))
   ·refine gA<|Zk rfl<|Zb<|Za<|gm rfl rfl<|gas rfl rfl<|gA<|Zu<|Zh<|Zy (.inl rfl) Tryz.results81 rfl [0,1] (by decide) ?_
    have he:stE s.ds.length K x=Xm K (kStop++W0 x.div.toNat) x.name:=by unfold stE; rw [if_neg (by rw [hnm]; decide),if_neg (by rw [hix]; decide),if_pos hn2]
    have hk:stK s.ds.length K x=Wa K (kStop++W0 x.div.toNat) x.name:=by unfold stK; rw [if_neg (by rw [hnm,hix]; decide)]
    rw [he,hk]
    exact ⟨rfl,rfl⟩
   refine gA<|Zl rfl<|Zv<|Ze<|Zb<|ZB<|Zb<|Za<|gr rfl (Zd rfl (Zp8 _))<|gr rfl (Zr Tryz.underlying94 rfl Jl rfl (by exact ZH 2 (off:=2) (k:=2) rfl rfl) rfl) ?_
   refine Zt (ZJ rfl (vf:=[]) (vc:=[]) rfl rfl Tryz.call114 (fun w1 ho=>Zhm x.num x.den w1) ?_)
   rintro _ _ ⟨rfl,rfl⟩
   refine Z0 (fun hft=>?_) (fun hft=>?_)
   ·refine gr rfl (rd_not rfl)<|gm rfl rfl<|Zg rfl rfl<|Zm rfl (Zd rfl (JH _))<|Zg rfl rfl (Zm rfl (Zi Tryz.underlying97 rfl rfl (by exact Zp 2 rfl rfl)) ?_)
    refine Zg rfl rfl<|Zm rfl (ZA Tryz.underlying97 rfl)<|Zg rfl rfl (Zm rfl (Z8 rfl rfl) (Zw (fun h43=>?_) (fun h43=>?_)))
    ·refine gr rfl (Zn rfl rfl)<|gas rfl rfl<|gA<|Zk rfl<|Zb<|Za<|gas rfl rfl<|gA<|Zu<|Zx<|Zh<|Zy (.inl rfl) Tryz.results81 rfl [0,1] (by decide) ?_
     have he:stE s.ds.length K x=2:=by unfold stE; rw [if_neg (by rw [hnm]; decide),if_neg (by rw [hix]; decide),if_neg hn2,if_pos]; rw [hft,decide_eq_true (show x.ps.length=0 by omega)]; rfl
     have hk:stK s.ds.length K x=Wa K (kStop++W0 x.div.toNat) x.name:=by unfold stK; rw [if_neg (by rw [hnm,hix]; decide)]
     rw [he,hk]
     exact ⟨rfl,rfl⟩
    refine gr rfl (Zn rfl rfl)<|gas rfl rfl<|gA<|Zl rfl<|Zb<|Za<|gr rfl (Zd rfl (JH _))<|gr rfl (Zi Tryz.underlying97 rfl rfl (by exact Zp 2 rfl rfl)) ?_
    refine gr rfl (ZA Tryz.underlying97 rfl)<|gr rfl (Yk rfl rfl) (Zw (fun h49=>?_) (fun h49=>?_))
    ·refine gas rfl rfl<|gA<|Zk rfl<|Zb<|Za<|gas rfl rfl<|gA<|Zu<|Zx<|Zh<|Zy (.inl rfl) Tryz.results81 rfl [0,1] (by decide) ?_
     have he:stE s.ds.length K x=3:=by unfold stE; rw [if_neg (by rw [hnm]; decide),if_neg (by rw [hix]; decide),if_neg hn2,if_neg (by rw [hft,decide_eq_false (show ¬ x.ps.length=0 by omega)]; decide),if_pos (decide_eq_true (by omega))]
     have hk:stK s.ds.length K x=Wa K (kStop++W0 x.div.toNat) x.name:=by unfold stK; rw [if_neg (by rw [hnm,hix]; decide)]
     rw [he,hk]
     exact ⟨rfl,rfl⟩
    refine gas rfl rfl<|gA<|Zl rfl<|Zv<|ZI<|Ze<|Zb<|Za<|gas rfl rfl<|gA<|Zu<|Zy (.inl rfl) Tryz.results81 rfl [0,1] (by decide) ?_
    have he:stE s.ds.length K x=0:=by unfold stE; rw [if_neg (by rw [hnm]; decide),if_neg (by rw [hix]; decide),if_neg hn2,if_neg (by rw [hft,decide_eq_false (show ¬ x.ps.length=0 by omega)]; decide),if_neg (by rw [decide_eq_false (show ¬ 12<x.ps.length by omega)]; decide)]
    have hk:stK s.ds.length K x=Wa K (kStop++W0 x.div.toNat) x.name:=by unfold stK; rw [if_neg (by rw [hnm,hix]; decide)]
    rw [he,hk]
    exact ⟨rfl,rfl⟩
   refine gr rfl (rd_not rfl)<|gm rfl rfl<|Zj rfl rfl rfl<|Zj rfl rfl rfl<|Zj rfl rfl rfl<|Zj rfl rfl rfl<|gr rfl (Zq rfl rfl)<|gas rfl rfl<|gA<|Zk rfl<|Zb<|Za<|gas rfl rfl<|gA<|Zu<|Zx<|Zh<|Zy (.inl rfl) Tryz.results81 rfl [0,1] (by decide) ?_
   have he:stE s.ds.length K x=2:=by unfold stE; rw [if_neg (by rw [hnm]; decide),if_neg (by rw [hix]; decide),if_neg hn2,if_pos]; rw [hft]; rfl
   have hk:stK s.ds.length K x=Wa K (kStop++W0 x.div.toNat) x.name:=by unfold stK; rw [if_neg (by rw [hnm,hix]; decide)]
   rw [he,hk]
   exact ⟨rfl,rfl⟩
  replace hw21:Wc x.div s.ds.length=false:=by
   unfold Wc; unfold Z7 at hw21; rw [Bool.eq_iff_iff] at hw21 ⊢; simp at hw21 ⊢; omega
  have hix:=hw21
  refine Zc 10 rfl rfl ⟨[0,1,2],by decide,rfl⟩ (Zf (rd_not rfl)) ?_
  refine Zc 11 rfl rfl ⟨[0,1,2],by decide,rfl⟩ (Zf (ZY rfl)) ?_
  refine ZP (.inr ⟨[0,1,2],by decide,rfl⟩) ?_
  refine Ze<|Zk rfl<|Zb<|Za<|gas rfl rfl<|gA<|Zu<|Zx<|Zh<|Zy (.inl rfl) Tryz.results81 rfl [1,2] (by decide) ?_
  have he:stE s.ds.length K x=4:=by unfold stE; rw [if_neg (by rw [hnm]; decide),if_pos hix]
  have hk:stK s.ds.length K x=K:=by unfold stK; rw [if_pos (.inr hix)]
  rw [he,hk]
  exact ⟨rfl,rfl⟩
 refine gr rfl (rd_not rfl)<|gas rfl rfl<|gA<|Zk rfl<|Zb<|Za<|gas rfl rfl<|gA<|Zu<|Zx<|Zh<|Zy (.inl rfl) Tryz.results81 rfl [1,2] (by decide) ?_
 have he:stE s.ds.length K x=6:=by unfold stE; rw [if_pos hnm]
 have hk:stK s.ds.length K x=K:=by unfold stK; rw [if_pos (.inl hnm)]
 rw [he,hk]
 exact ⟨rfl,rfl⟩
theorem Zov (s:Org) (cb mb:Nat) (K:List ByteArray) (x:Cp) (hz:x.name.size≤140737488355328) (hsd:s.ds.length≤6) (w0:World) (hown:Own w0 [cb,mb] w0 [CB s cb mb,OB mb K]):Sp Tryz.prog 86 [.pointer (some ⟨cb,0,none⟩),x.val] w0 [cb,mb] (RC s cb mb (cpE s.ds.length K x) (cpK K x)):=by
 unfold CB OB at hown
 refine ZC Tryz.func86 rfl Tryz.ntmps86 rfl hown ?_
 simp only [ZV]
 refine Zb<|Za<|Zt (Z6 rfl rfl rfl (fun b3=>?_))
 refine gas rfl rfl<|gA<|Zb<|Zb<|Za<|gm rfl rfl<|gr rfl (Zd rfl (Zbo _))<|gr rfl (Zi Tryz.underlying9 rfl rfl (by exact Zp 0 rfl rfl)) ?_
 refine Zt (Yi [1,2] [0] rfl (vf:=[]) (vc:=[]) rfl rfl Tryz.call112 (by decide) rfl (fun w how hc=>Zd3 s cb mb K Zbc x.name (by decide) hz w hc) ?_)
 rintro _ _ ⟨rfl,rfl⟩
 refine gas rfl rfl<|gA<|Zb<|Za<|gm rfl rfl<|gr rfl (Z4 rfl rfl) (Zw (fun hnm=>?_) (fun hnm=>?_))
 ·refine gA<|Zk rfl<|Zb<|Za<|gm rfl rfl<|gas rfl rfl<|gA<|Zu<|Zh<|Zy (.inl rfl) Tryz.results86 rfl [0,1] (by decide) ?_
  refine ⟨congrArg (Value.int .i64) (Eq.symm ?_),rfl⟩
  unfold cpE
  rw [if_pos hnm]
 refine gA<|Zl rfl<|Zv<|Ze<|Zb<|Za<|gm rfl rfl<|gnc rfl rfl<|gr rfl (Zd rfl (Zdv _))<|gr rfl (Zd rfl (YS _))<|gr rfl (Zi Tryz.underlying40 rfl rfl (by exact Zp 0 rfl rfl)) ?_
 refine gr rfl (ZA Tryz.underlying40 rfl)<|gr rfl (by exact WX rfl rfl (by omega) (by omega)) ?_
 refine gas rfl rfl<|gA<|Zb<|Zb<|Za<|gr rfl (Zd rfl (Wd _))<|gr rfl (Zi Tryz.underlying3 rfl rfl (by exact Zp 2 rfl rfl)) ?_
 refine gm rfl rfl<|Zt (ZJ rfl (vf:=[]) (vc:=[]) rfl rfl Tryz.call113 (fun w1 ho=>Xl _ _ _ w1) ?_)
 rintro _ _ ⟨rfl,rfl⟩
 refine Z0 (fun hw25=>?_) (fun hw25=>?_)
 ·replace hw25:Wc x.src s.ds.length=true:=by
   unfold Wc; unfold Z7 at hw25; rw [Bool.eq_iff_iff] at hw25 ⊢; simp at hw25 ⊢; omega
  refine gr rfl (rd_not rfl)<|gm rfl rfl<|Zg rfl rfl<|Zm rfl (Zd rfl (Vj _))<|Zg rfl rfl (Zm rfl (Zi Tryz.underlying3 rfl rfl (by exact Zp 2 rfl rfl)) ?_)
  refine Zg rfl rfl<|Zm rfl (Zo rfl)<|Zg rfl rfl (ZJ rfl (vf:=[]) (vc:=[]) rfl rfl Tryz.call113 (fun w1 ho=>Xl _ _ _ w1) ?_)
  rintro _ _ ⟨rfl,rfl⟩
  refine Z0 (fun hw31=>?_) (fun hw31=>?_)
  ·replace hw31:Wc x.dst s.ds.length=true:=by
    unfold Wc; unfold Z7 at hw31; rw [Bool.eq_iff_iff] at hw31 ⊢; simp at hw31 ⊢; omega
   refine Zg rfl rfl<|Zm rfl (rd_not rfl)<|gr rfl (Zn rfl rfl)<|gA<|Zl rfl<|Zv<|Ze<|Zb<|Za<|gr rfl (Zd rfl (We _))<|gr rfl (Zi Tryz.underlying3 rfl rfl (by exact Zp 2 rfl rfl)) ?_
   refine gr rfl (Z8 rfl rfl) (Zw (fun h36=>?_) (fun h36=>?_))
   ·refine gm rfl rfl<|Zj rfl rfl rfl<|Zj rfl rfl rfl<|Zj rfl rfl rfl<|gr rfl (Zq rfl rfl)<|gm rfl rfl<|Zj rfl rfl rfl<|Zj rfl rfl rfl<|Zj rfl rfl rfl<|Zj rfl rfl rfl<|Z2 rfl rfl rfl<|Z2 rfl rfl rfl<|Z2 rfl rfl rfl<|Z2 rfl rfl rfl<|Z2 rfl rfl rfl<|Zj rfl rfl rfl<|gr rfl (Zq rfl rfl)<|gas rfl rfl<|gA<|Zb<|Zb<|Za<|gm rfl rfl<|gr rfl (rd_not rfl) ?_
    refine gm rfl rfl<|Zg rfl rfl<|Zm rfl (Zd rfl (XF _))<|Zg rfl rfl (Zm rfl (Zi Tryz.underlying3 rfl rfl (by exact Zp 2 rfl rfl)) ?_)
    refine Zg rfl rfl (ZJ rfl (vf:=[]) (vc:=[]) rfl rfl Tryz.call113 (fun w1 ho=>Xl _ _ _ w1) ?_)
    rintro _ _ ⟨rfl,rfl⟩
    refine Z0 (fun hw59=>?_) (fun hw59=>?_)
    ·refine Zg rfl rfl<|Zm rfl (rd_not rfl)<|gr rfl (Zn rfl rfl)<|gm rfl rfl<|Zg rfl rfl<|Zm rfl (Zd rfl (J5 _))<|Zg rfl rfl (Zm rfl (Zi Tryz.underlying4 rfl rfl (by exact Zp 2 rfl rfl)) ?_)
     refine Z0 (fun h64=>?_) (fun h64=>?_)
     ·refine Zg rfl rfl<|Zm rfl (Zo rfl)<|Zg rfl rfl<|Zm rfl (Zd rfl (XF _))<|Zg rfl rfl (Zm rfl (Zi Tryz.underlying3 rfl rfl (by exact Zp 2 rfl rfl)) ?_)
      refine Zg rfl rfl (Zm rfl (Z4 rfl rfl) (Zw (fun h68=>?_) (fun h68=>?_)))
      ·refine Zg rfl rfl<|Zm rfl (Zq rfl rfl)<|gr rfl (Zn rfl rfl)<|gA<|Zk rfl<|Zb<|Za<|gas rfl rfl<|gA<|Zu<|Zh<|Zy (.inl rfl) Tryz.results86 rfl [0,1] (by decide) ?_
       refine ⟨congrArg (Value.int .i64) (Eq.symm ?_),rfl⟩
       unfold cpE
       rw [if_neg (by omega)]
       rw [if_neg (by simp [*])]
       rw [if_pos]
       (simp [YZ, *]; done)
      refine Zg rfl rfl<|Zm rfl (Zq rfl rfl)<|gr rfl (Zn rfl rfl)<|gA<|Zl rfl<|Zv<|Ze<|Zb<|Za<|gas rfl rfl<|gA<|Zu<|Zy (.inl rfl) Tryz.results86 rfl [0,1] (by decide) ?_
      refine ⟨congrArg (Value.int .i64) (Eq.symm ?_),rfl⟩
      unfold cpE
      rw [if_neg (by omega)]
      rw [if_neg (by simp [*])]
      rw [if_neg]
      rw [Bool.not_eq_true]
      (simp only [Z7] at *; unfold YZ; simp at *; omega)
     refine Zg rfl rfl<|Zm rfl (Zo rfl)<|Zj rfl rfl rfl<|Zj rfl rfl rfl<|Zj rfl rfl rfl<|Zg rfl rfl<|Zm rfl (Zn rfl rfl)<|gr rfl (Zn rfl rfl)<|gA<|Zl rfl<|Zv<|Ze<|Zb<|Za<|gas rfl rfl<|gA<|Zu<|Zy (.inl rfl) Tryz.results86 rfl [0,1] (by decide) ?_
     refine ⟨congrArg (Value.int .i64) (Eq.symm ?_),rfl⟩
     unfold cpE
     rw [if_neg (by omega)]
     rw [if_neg (by simp [*])]
     rw [if_neg]
     rw [Bool.not_eq_true]
     (simp only [Z7] at *; unfold YZ; rw [h64]; clear h64; simp at *; omega)
    refine Zg rfl rfl<|Zm rfl (rd_not rfl)<|gr rfl (Zn rfl rfl)<|gm rfl rfl<|Zj rfl rfl rfl<|Zj rfl rfl rfl<|Zj rfl rfl rfl<|Z2 rfl rfl rfl<|Z2 rfl rfl rfl<|Z2 rfl rfl rfl<|Zj rfl rfl rfl<|gr rfl (Zq rfl rfl)<|gA<|Zk rfl<|Zb<|Za<|gas rfl rfl<|gA<|Zu<|Zh<|Zy (.inl rfl) Tryz.results86 rfl [0,1] (by decide) ?_
    refine ⟨congrArg (Value.int .i64) (Eq.symm ?_),rfl⟩
    unfold cpE
    rw [if_neg (by omega)]
    rw [if_neg (by simp [*])]
    rw [if_pos]
    (simp only [Z7] at *; unfold YZ; simp at *; omega)
   refine gm rfl rfl<|Zg rfl rfl<|Zm rfl (Zd rfl (We _))<|Zg rfl rfl (Zm rfl (Zi Tryz.underlying3 rfl rfl (by exact Zp 2 rfl rfl)) ?_)
   refine Zg rfl rfl (Zm rfl (Z8 rfl rfl) (Zw (fun h40=>?_) (fun h40=>?_)))
   ·refine gr rfl (Zn rfl rfl)<|gm rfl rfl<|Zj rfl rfl rfl<|Zj rfl rfl rfl<|Zj rfl rfl rfl<|Zj rfl rfl rfl<|Z2 rfl rfl rfl<|Z2 rfl rfl rfl<|Z2 rfl rfl rfl<|Z2 rfl rfl rfl<|Z2 rfl rfl rfl<|Zj rfl rfl rfl<|gr rfl (Zq rfl rfl)<|gas rfl rfl<|gA<|Zb<|Zb<|Za<|gm rfl rfl<|gr rfl (rd_not rfl)<|gm rfl rfl<|Zg rfl rfl<|Zm rfl (Zd rfl (XF _))<|Zg rfl rfl (Zm rfl (Zi Tryz.underlying3 rfl rfl (by exact Zp 2 rfl rfl)) ?_)
    refine Zg rfl rfl (ZJ rfl (vf:=[]) (vc:=[]) rfl rfl Tryz.call113 (fun w1 ho=>Xl _ _ _ w1) ?_)
    rintro _ _ ⟨rfl,rfl⟩
    refine Z0 (fun hw59=>?_) (fun hw59=>?_)
    ·refine Zg rfl rfl<|Zm rfl (rd_not rfl)<|gr rfl (Zn rfl rfl)<|gm rfl rfl<|Zg rfl rfl<|Zm rfl (Zd rfl (J5 _))<|Zg rfl rfl (Zm rfl (Zi Tryz.underlying4 rfl rfl (by exact Zp 2 rfl rfl)) ?_)
     refine Z0 (fun h64=>?_) (fun h64=>?_)
     ·refine Zg rfl rfl<|Zm rfl (Zo rfl)<|Zg rfl rfl<|Zm rfl (Zd rfl (XF _))<|Zg rfl rfl (Zm rfl (Zi Tryz.underlying3 rfl rfl (by exact Zp 2 rfl rfl)) ?_)
      refine Zg rfl rfl (Zm rfl (Z4 rfl rfl) (Zw (fun h68=>?_) (fun h68=>?_)))
      ·refine Zg rfl rfl<|Zm rfl (Zq rfl rfl)<|gr rfl (Zn rfl rfl)<|gA<|Zk rfl<|Zb<|Za<|gas rfl rfl<|gA<|Zu<|Zh<|Zy (.inl rfl) Tryz.results86 rfl [0,1] (by decide) ?_
       refine ⟨congrArg (Value.int .i64) (Eq.symm ?_),rfl⟩
       unfold cpE
       rw [if_neg (by omega)]
       rw [if_neg (by simp [*])]
       rw [if_pos]
       (simp [YZ, *]; done)
      refine Zg rfl rfl<|Zm rfl (Zq rfl rfl)<|gr rfl (Zn rfl rfl)<|gA<|Zl rfl<|Zv<|Ze<|Zb<|Za<|gas rfl rfl<|gA<|Zu<|Zy (.inl rfl) Tryz.results86 rfl [0,1] (by decide) ?_
      refine ⟨congrArg (Value.int .i64) (Eq.symm ?_),rfl⟩
      unfold cpE
      rw [if_neg (by omega)]
      rw [if_neg (by simp [*])]
      rw [if_neg]
      rw [Bool.not_eq_true]
      (simp only [Z7] at *; unfold YZ; simp at *; omega)
     refine Zg rfl rfl<|Zm rfl (Zo rfl)<|Zj rfl rfl rfl<|Zj rfl rfl rfl<|Zj rfl rfl rfl<|Zg rfl rfl<|Zm rfl (Zn rfl rfl)<|gr rfl (Zn rfl rfl)<|gA<|Zl rfl<|Zv<|Ze<|Zb<|Za<|gas rfl rfl<|gA<|Zu<|Zy (.inl rfl) Tryz.results86 rfl [0,1] (by decide) ?_
     refine ⟨congrArg (Value.int .i64) (Eq.symm ?_),rfl⟩
     unfold cpE
     rw [if_neg (by omega)]
     rw [if_neg (by simp [*])]
     rw [if_neg]
     rw [Bool.not_eq_true]
     (simp only [Z7] at *; unfold YZ; rw [h64]; clear h64; simp at *; omega)
    refine Zg rfl rfl<|Zm rfl (rd_not rfl)<|gr rfl (Zn rfl rfl)<|gm rfl rfl<|Zj rfl rfl rfl<|Zj rfl rfl rfl<|Zj rfl rfl rfl<|Z2 rfl rfl rfl<|Z2 rfl rfl rfl<|Z2 rfl rfl rfl<|Zj rfl rfl rfl<|gr rfl (Zq rfl rfl)<|gA<|Zk rfl<|Zb<|Za<|gas rfl rfl<|gA<|Zu<|Zh<|Zy (.inl rfl) Tryz.results86 rfl [0,1] (by decide) ?_
    refine ⟨congrArg (Value.int .i64) (Eq.symm ?_),rfl⟩
    unfold cpE
    rw [if_neg (by omega)]
    rw [if_neg (by simp [*])]
    rw [if_pos]
    (simp only [Z7] at *; unfold YZ; simp at *; omega)
   refine gr rfl (Zn rfl rfl)<|gm rfl rfl<|Zg rfl rfl<|Zm rfl (Zd rfl (We _))<|Zg rfl rfl (Zm rfl (Zi Tryz.underlying3 rfl rfl (by exact Zp 2 rfl rfl)) ?_)
   refine Zg rfl rfl (Zm rfl (Z8 rfl rfl) (Zw (fun h45=>?_) (fun h45=>?_)))
   ·refine Zg rfl rfl<|Zm rfl (Zo rfl)<|Zg rfl rfl<|Zm rfl (Zd rfl (Wd _))<|Zg rfl rfl (Zm rfl (Zi Tryz.underlying3 rfl rfl (by exact Zp 2 rfl rfl)) ?_)
    refine Zg rfl rfl<|Zm rfl (Zd rfl (Vj _))<|Zg rfl rfl (Zm rfl (Zi Tryz.underlying3 rfl rfl (by exact Zp 2 rfl rfl)) ?_)
    refine Zg rfl rfl (Zm rfl (Z4 rfl rfl) (Zw (fun h51=>?_) (fun h51=>?_)))
    ·refine Zg rfl rfl<|Zm rfl (Zq rfl rfl)<|gr rfl (Zn rfl rfl)<|gas rfl rfl<|gA<|Zb<|Zb<|Za<|gm rfl rfl<|gr rfl (rd_not rfl)<|gm rfl rfl<|Zg rfl rfl<|Zm rfl (Zd rfl (XF _))<|Zg rfl rfl (Zm rfl (Zi Tryz.underlying3 rfl rfl (by exact Zp 2 rfl rfl)) ?_)
     refine Zg rfl rfl (ZJ rfl (vf:=[]) (vc:=[]) rfl rfl Tryz.call113 (fun w1 ho=>Xl _ _ _ w1) ?_)
     rintro _ _ ⟨rfl,rfl⟩
     refine Z0 (fun hw59=>?_) (fun hw59=>?_)
     ·refine Zg rfl rfl<|Zm rfl (rd_not rfl)<|gr rfl (Zn rfl rfl)<|gm rfl rfl<|Zg rfl rfl<|Zm rfl (Zd rfl (J5 _))<|Zg rfl rfl (Zm rfl (Zi Tryz.underlying4 rfl rfl (by exact Zp 2 rfl rfl)) ?_)
      refine Z0 (fun h64=>?_) (fun h64=>?_)
      ·refine Zg rfl rfl<|Zm rfl (Zo rfl)<|Zg rfl rfl<|Zm rfl (Zd rfl (XF _))<|Zg rfl rfl (Zm rfl (Zi Tryz.underlying3 rfl rfl (by exact Zp 2 rfl rfl)) ?_)
       refine Zg rfl rfl (Zm rfl (Z4 rfl rfl) (Zw (fun h68=>?_) (fun h68=>?_)))
       ·refine Zg rfl rfl<|Zm rfl (Zq rfl rfl)<|gr rfl (Zn rfl rfl)<|gA<|Zk rfl<|Zb<|Za<|gas rfl rfl<|gA<|Zu<|Zh<|Zy (.inl rfl) Tryz.results86 rfl [0,1] (by decide) ?_
        refine ⟨congrArg (Value.int .i64) (Eq.symm ?_),rfl⟩
        unfold cpE
        rw [if_neg (by omega)]
        rw [if_neg (by simp [*])]
        rw [if_pos]
        (simp [YZ, *]; done)
       refine Zg rfl rfl<|Zm rfl (Zq rfl rfl)<|gr rfl (Zn rfl rfl)<|gA<|Zl rfl<|Zv<|Ze<|Zb<|Za<|gas rfl rfl<|gA<|Zu<|Zy (.inl rfl) Tryz.results86 rfl [0,1] (by decide) ?_
       refine ⟨congrArg (Value.int .i64) (Eq.symm ?_),rfl⟩
       unfold cpE
       rw [if_neg (by omega)]
       rw [if_neg (by simp [*])]
       rw [if_neg]
       rw [Bool.not_eq_true]
       (simp only [Z7] at *; unfold YZ; simp at *; omega)
      refine Zg rfl rfl<|Zm rfl (Zo rfl)<|Zj rfl rfl rfl<|Zj rfl rfl rfl<|Zj rfl rfl rfl<|Zg rfl rfl<|Zm rfl (Zn rfl rfl)<|gr rfl (Zn rfl rfl)<|gA<|Zl rfl<|Zv<|Ze<|Zb<|Za<|gas rfl rfl<|gA<|Zu<|Zy (.inl rfl) Tryz.results86 rfl [0,1] (by decide) ?_
      refine ⟨congrArg (Value.int .i64) (Eq.symm ?_),rfl⟩
      unfold cpE
      rw [if_neg (by omega)]
      rw [if_neg (by simp [*])]
      rw [if_neg]
      rw [Bool.not_eq_true]
      (simp only [Z7] at *; unfold YZ; rw [h64]; clear h64; simp at *; omega)
     refine Zg rfl rfl<|Zm rfl (rd_not rfl)<|gr rfl (Zn rfl rfl)<|gm rfl rfl<|Zj rfl rfl rfl<|Zj rfl rfl rfl<|Zj rfl rfl rfl<|Z2 rfl rfl rfl<|Z2 rfl rfl rfl<|Z2 rfl rfl rfl<|Zj rfl rfl rfl<|gr rfl (Zq rfl rfl)<|gA<|Zk rfl<|Zb<|Za<|gas rfl rfl<|gA<|Zu<|Zh<|Zy (.inl rfl) Tryz.results86 rfl [0,1] (by decide) ?_
     refine ⟨congrArg (Value.int .i64) (Eq.symm ?_),rfl⟩
     unfold cpE
     rw [if_neg (by omega)]
     rw [if_neg (by simp [*])]
     rw [if_pos]
     (simp only [Z7] at *; unfold YZ; simp at *; omega)
    refine Zg rfl rfl<|Zm rfl (Zq rfl rfl)<|gr rfl (Zn rfl rfl)<|gas rfl rfl<|gA<|Zb<|Zb<|Za<|gm rfl rfl<|gr rfl (rd_not rfl)<|gm rfl rfl<|Zj rfl rfl rfl<|Zj rfl rfl rfl<|Zj rfl rfl rfl<|Zj rfl rfl rfl<|gr rfl (Zq rfl rfl)<|gm rfl rfl<|Zj rfl rfl rfl<|Zj rfl rfl rfl<|Zj rfl rfl rfl<|Z2 rfl rfl rfl<|Z2 rfl rfl rfl<|Z2 rfl rfl rfl<|Zj rfl rfl rfl<|gr rfl (Zq rfl rfl) ?_
    refine gA<|Zk rfl<|Zb<|Za<|gas rfl rfl<|gA<|Zu<|Zh<|Zy (.inl rfl) Tryz.results86 rfl [0,1] (by decide) ?_
    refine ⟨congrArg (Value.int .i64) (Eq.symm ?_),rfl⟩
    unfold cpE
    rw [if_neg (by omega)]
    rw [if_neg (by simp [*])]
    rw [if_pos]
    (simp [YZ, *]; done)
   refine Zg rfl rfl<|Zm rfl (Zo rfl)<|Zj rfl rfl rfl<|Zj rfl rfl rfl<|Zj rfl rfl rfl<|Zj rfl rfl rfl<|Zj rfl rfl rfl<|Zg rfl rfl<|Zm rfl (Zn rfl rfl)<|gr rfl (Zn rfl rfl)<|gas rfl rfl<|gA<|Zb<|Zb<|Za<|gm rfl rfl<|gr rfl (rd_not rfl)<|gm rfl rfl<|Zj rfl rfl rfl<|Zj rfl rfl rfl<|Zj rfl rfl rfl<|Zj rfl rfl rfl<|gr rfl (Zq rfl rfl)<|gm rfl rfl<|Zj rfl rfl rfl<|Zj rfl rfl rfl ?_
   refine Zj rfl rfl rfl<|Z2 rfl rfl rfl<|Z2 rfl rfl rfl<|Z2 rfl rfl rfl<|Zj rfl rfl rfl<|gr rfl (Zq rfl rfl)<|gA<|Zk rfl<|Zb<|Za<|gas rfl rfl<|gA<|Zu<|Zh<|Zy (.inl rfl) Tryz.results86 rfl [0,1] (by decide) ?_
   refine ⟨congrArg (Value.int .i64) (Eq.symm ?_),rfl⟩
   unfold cpE
   rw [if_neg (by omega)]
   rw [if_neg (by simp [*])]
   rw [if_pos]
   (simp [YZ, *]; done)
  replace hw31:Wc x.dst s.ds.length=false:=by
   unfold Wc; unfold Z7 at hw31; rw [Bool.eq_iff_iff] at hw31 ⊢; simp at hw31 ⊢; omega
  refine Zg rfl rfl<|Zm rfl (rd_not rfl)<|gr rfl (Zn rfl rfl)<|gA<|Zk rfl<|Zb<|Za<|gas rfl rfl<|gA<|Zu<|Zh<|Zy (.inl rfl) Tryz.results86 rfl [0,1] (by decide) ?_
  refine ⟨congrArg (Value.int .i64) (Eq.symm ?_),rfl⟩
  unfold cpE
  rw [if_neg (by omega)]
  rw [if_pos]
  simp [*]
 replace hw25:Wc x.src s.ds.length=false:=by
  unfold Wc; unfold Z7 at hw25; rw [Bool.eq_iff_iff] at hw25 ⊢; simp at hw25 ⊢; omega
 refine gr rfl (rd_not rfl)<|gm rfl rfl<|Zj rfl rfl rfl<|Zj rfl rfl rfl<|Zj rfl rfl rfl<|Zj rfl rfl rfl<|Zj rfl rfl rfl<|gr rfl (Zq rfl rfl)<|gA<|Zk rfl<|Zb<|Za<|gas rfl rfl<|gA<|Zu<|Zh<|Zy (.inl rfl) Tryz.results86 rfl [0,1] (by decide) ?_
 refine ⟨congrArg (Value.int .i64) (Eq.symm ?_),rfl⟩
 unfold cpE
 rw [if_neg (by omega)]
 rw [if_pos]
 simp [*]
theorem part_ok (s:Org) (cb mb:Nat) (d:Dv) (p:Pt) (hsrl:s.rs.length≤40) (hd0:0≤d.lo) (hd1:d.hi≤127) (hrk:∀ r∈s.rs,0≤r.low∧r.low≤127∧1≤r.count∧r.count≤97) (w0:World) (hC:Cells w0 ⟨cb,0,none⟩ [.slice s.da s.ds.length s.dc,.slice s.ra s.rs.length s.rc,.slice s.sa s.ss.length s.sc,.slice s.ca s.cs.length s.cc,.map (some mb)]) (hR:OldSl w0 [] s.ra s.rs.length 6 (s.rs.flatMap Rk.cells)):Sp Tryz.prog 83 [.pointer (some ⟨cb,0,none⟩),d.val,p.val] w0 [] (RV (.int .i64 (YV s.rs d p))):=by
 refine ZC Tryz.func83 rfl Tryz.ntmps83 rfl (Own.refl _) ?_
 simp only [ZV]
 refine Zb<|Za<|Zt (Z6 rfl rfl rfl (fun b4=>?_))
 refine Zt (Z6 rfl rfl rfl (fun b5=>?_))
 refine gas rfl rfl<|gA<|Zb<|Zb<|ZO [0,1] true 10 rfl<|Zc 0 rfl rfl ⟨[0,1],by decide,rfl⟩ (Zf (Zd rfl (Zgg _))) ?_
 refine Zc 1 rfl rfl ⟨[0,1],by decide,rfl⟩ (Zf (Zi Tryz.underlying3 rfl rfl (by exact Zp 0 rfl rfl))) ?_
 refine Zc 2 rfl rfl ⟨[0,1],by decide,rfl⟩ (Zf (Zo rfl)) ?_
 refine Zc 3 rfl rfl ⟨[0,1],by decide,rfl⟩ (Zf (ZN rfl)) ?_
 refine Zc 4 rfl rfl ⟨[0,1],by decide,rfl⟩ (Zf (Zd rfl (Zdv _))) ?_
 refine Zc 5 rfl rfl ⟨[0,1],by decide,rfl⟩ (Zf (Zd rfl (WD _))) ?_
 refine Zc 6 rfl rfl ⟨[0,1],by decide,rfl⟩ (Zf (Zi Tryz.underlying41 rfl rfl (by exact Yj (by assumption) (by simp) rfl))) ?_
 refine Zc 7 rfl rfl ⟨[0,1],by decide,rfl⟩ (Zf (ZA Tryz.underlying41 rfl)) ?_
 refine Zc 8 rfl rfl ⟨[0,1],by decide,rfl⟩ (Zf (by exact WX rfl rfl (by omega) (by omega))) ?_
 refine Zc 9 rfl rfl ⟨[0,1],by decide,rfl⟩ (YE (vf:=[]) (vc:=[]) rfl rfl Tryz.call113 (fun w1 ho=>Xl _ _ _ w1) (by rintro _ _ ⟨h,_⟩; exact h)) ?_
 refine Z0 (fun hw17=>?_) (fun hw17=>?_)
 ·replace hw17:Wc p.rank s.rs.length=true:=by
   unfold Wc; unfold Z7 at hw17; rw [Bool.eq_iff_iff] at hw17 ⊢; simp at hw17 ⊢; omega
  have hix:=hw17
  obtain ⟨hx0,hx1⟩:0≤p.rank∧p.rank<s.rs.length:=by unfold Wc at hix; simpa using hix
  obtain ⟨r,hx⟩:=get_some (show p.rank.toNat<s.rs.length by omega)
  have hxd:=getD_some (d:=default) hx
  have hrr:=hrk r (List.mem_of_getElem? hx)
  refine Zc 10 rfl rfl ⟨[0,1],by decide,rfl⟩ (Zf (rd_not rfl)) ?_
  refine ZP (.inr ⟨[0,1],by decide,rfl⟩) ?_
  refine Ze<|Zl rfl<|Zv<|Ze<|Zb<|Zb<|Za<|gr rfl (Zd rfl (Zcg _))<|gr rfl (Zi Tryz.underlying3 rfl rfl (by exact Zp 0 rfl rfl)) ?_
  refine gr rfl (Zd rfl (Vi _))<|gr rfl (Zi Tryz.underlying3 rfl rfl (by exact Zp 1 rfl rfl)) ?_
  refine gr rfl (Zd rfl (VN _))<|gr rfl (Zi Tryz.underlying3 rfl rfl (by exact Zp 1 rfl rfl)) ?_
  refine Zt (ZJ rfl (vf:=[]) (vc:=[]) rfl rfl Tryz.call113 (fun w1 ho=>Xl _ _ _ w1) ?_)
  rintro _ _ ⟨rfl,rfl⟩
  refine Z0 (fun hw25=>?_) (fun hw25=>?_)
  ·refine gr rfl (rd_not rfl)<|gm rfl rfl<|Zg rfl rfl<|Zm rfl (Zd rfl (Zdt _))<|Zg rfl rfl (Zm rfl (Zi Tryz.underlying3 rfl rfl (by exact Zp 0 rfl rfl)) ?_)
   refine Zg rfl rfl<|Zm rfl (Zd rfl (Zcg _))<|Zg rfl rfl (Zm rfl (Zi Tryz.underlying3 rfl rfl (by exact Zp 0 rfl rfl)) ?_)
   refine Zg rfl rfl<|Zm rfl (Zd rfl (VN _))<|Zg rfl rfl (Zm rfl (Zi Tryz.underlying3 rfl rfl (by exact Zp 1 rfl rfl)) ?_)
   refine Zg rfl rfl (ZJ rfl (vf:=[]) (vc:=[]) rfl rfl Tryz.call113 (fun w1 ho=>Xl _ _ _ w1) ?_)
   rintro _ _ ⟨rfl,rfl⟩
   refine Z0 (fun hw34=>?_) (fun hw34=>?_)
   ·refine Zg rfl rfl<|Zm rfl (rd_not rfl)<|gr rfl (Zn rfl rfl)<|gm rfl rfl<|Zg rfl rfl<|Zm rfl (Zd rfl (Zcf _))<|Zg rfl rfl (Zm rfl (Zi Tryz.underlying3 rfl rfl (by exact Zp 0 rfl rfl)) ?_)
    refine Zg rfl rfl (ZJ rfl (vf:=[]) (vc:=[]) rfl rfl Tryz.call113 (fun w1 ho=>Xl _ _ _ w1) ?_)
    rintro _ _ ⟨rfl,rfl⟩
    refine Z0 (fun hw40=>?_) (fun hw40=>?_)
    ·refine Zg rfl rfl<|Zm rfl (rd_not rfl)<|gr rfl (Zn rfl rfl)<|gA<|Zl rfl<|Zv<|Ze<|Zb<|Zb ?_
     have hrg:Wp d p=true:=by
      unfold Wp
      simp only [Z7,Bool.and_eq_true,decide_eq_true_eq] at *
      omega
     obtain ⟨hr1,hr2,hr3,hr4,hr5⟩:d.lo≤p.lo∧p.lo≤p.hi∧p.hi≤d.hi∧-96≤p.shift∧p.shift≤96:=by
      simp only [Z7,Bool.and_eq_true,decide_eq_true_eq] at *
      omega
     refine ZO [0,1] false 10 rfl<|Zc 0 rfl rfl ⟨[0,1],by decide,rfl⟩ (Zf (Zo rfl)) ?_
     refine Zc 1 rfl rfl ⟨[0,1],by decide,rfl⟩ (Zf (ZN rfl)) ?_
     refine Zc 2 rfl rfl ⟨[0,1],by decide,rfl⟩ (Zf (Zd rfl (Zdv _))) ?_
     refine Zc 3 rfl rfl ⟨[0,1],by decide,rfl⟩ (Zf (Zd rfl (WD _))) ?_
     refine Zc 4 rfl rfl ⟨[0,1],by decide,rfl⟩ (Zf (Zi Tryz.underlying41 rfl rfl (by exact Yj (by assumption) (by simp) rfl))) ?_
     refine Zc 5 rfl rfl ⟨[0,1],by decide,rfl⟩ (Zf (Zd rfl (Zgg _))) ?_
     refine Zc 6 rfl rfl ⟨[0,1],by decide,rfl⟩ (Zf (Zi Tryz.underlying3 rfl rfl (by exact Zp 0 rfl rfl))) ?_
     refine Zc 7 rfl rfl ⟨[0,1],by decide,rfl⟩ (Zf (Z3 hR Tryz.underlying41 Wu rfl rfl (by omega) (by omega))) ?_
     refine Zc 8 rfl rfl ⟨[0,1],by decide,rfl⟩ (Zf (Zr Tryz.underlying111 rfl Wu rfl (Zi7 hR (Yf Rk.cells 6 (fun _=>rfl) hx)) rfl)) ?_
     refine ZK 9 rfl (.inr ⟨[0,1],by decide,rfl⟩) (ZU Wu rfl rfl (fun b7=>?_))
     refine ZK 10 rfl (.inr ⟨[1,2],by decide,rfl⟩) (Zz 0 Wu rfl rfl rfl rfl rfl rfl (by rfl) ?_)
     refine ZP (.inl (by kernel_rfl)) ?_
     refine Ze<|Zb<|Za<|gr rfl (Zd rfl (Zcg _))<|gr rfl (Zi Tryz.underlying3 rfl rfl (by exact Zp 1 rfl rfl)) ?_
     refine gr rfl (Zd rfl (Zcf _))<|gr rfl (Zi Tryz.underlying3 rfl rfl (by exact Zp 1 rfl rfl)) ?_
     refine gr rfl (by exact XR rfl rfl (by omega) (by omega)) ?_
     refine gr rfl (Zd rfl (Jn _))<|gr rfl (Zi Tryz.underlying3 rfl rfl (by exact Zp 0 rfl rfl)) ?_
     refine gr rfl (ZX rfl rfl) (Zw (fun h59=>?_) (fun h59=>?_))
     ·refine gm rfl rfl<|Zj rfl rfl rfl<|Zj rfl rfl rfl<|Zj rfl rfl rfl<|Zj rfl rfl rfl<|Zj rfl rfl rfl<|Zj rfl rfl rfl<|Zj rfl rfl rfl<|Zj rfl rfl rfl<|Zj rfl rfl rfl<|Zj rfl rfl rfl<|Zj rfl rfl rfl<|gr rfl (Zq rfl rfl)<|gA<|Zk rfl<|Zb<|Za<|gas rfl rfl<|gA<|Zu<|Zh<|Zy (.inl rfl) Tryz.results83 rfl [] (by decide) ?_
      refine ⟨congrArg (Value.int .i64) (Eq.symm ?_),rfl⟩
      unfold YV
      rw [if_neg (by rw [hix]; decide)]
      rw [if_neg (by rw [hrg]; decide)]
      rw [if_pos]
      rw [hxd]
      unfold Zha
      try simp only [Z7] at *
      simp only [Bool.not_eq_true',Bool.not_eq_false',Bool.and_eq_false_iff,Bool.and_eq_true,decide_eq_true_eq,decide_eq_false_iff_not] at *
      omega
     refine gm rfl rfl<|Zg rfl rfl<|Zm rfl (Zd rfl (Zdt _))<|Zg rfl rfl (Zm rfl (Zi Tryz.underlying3 rfl rfl (by exact Zp 1 rfl rfl)) ?_)
     refine Zg rfl rfl<|Zm rfl (Zd rfl (Zcf _))<|Zg rfl rfl (Zm rfl (Zi Tryz.underlying3 rfl rfl (by exact Zp 1 rfl rfl)) ?_)
     refine Zg rfl rfl (Zm rfl (by exact XR rfl rfl (by omega) (by omega)) ?_)
     refine Zg rfl rfl<|Zm rfl (Zd rfl (Jn _))<|Zg rfl rfl (Zm rfl (Zi Tryz.underlying3 rfl rfl (by exact Zp 0 rfl rfl)) ?_)
     refine Zg rfl rfl<|Zm rfl (Zd rfl (Jo _))<|Zg rfl rfl (Zm rfl (Zi Tryz.underlying3 rfl rfl (by exact Zp 0 rfl rfl)) ?_)
     refine Zg rfl rfl (Zm rfl (by exact XR rfl rfl (by omega) (by omega)) ?_)
     refine Zg rfl rfl (Zm rfl (Xs rfl rfl) (Zw (fun h71=>?_) (fun h71=>?_)))
     ·refine gr rfl (Zn rfl rfl)<|gA<|Zk rfl<|Zb<|Za<|gas rfl rfl<|gA<|Zu<|Zh<|Zy (.inl rfl) Tryz.results83 rfl [] (by decide) ?_
      refine ⟨congrArg (Value.int .i64) (Eq.symm ?_),rfl⟩
      unfold YV
      rw [if_neg (by rw [hix]; decide)]
      rw [if_neg (by rw [hrg]; decide)]
      rw [if_pos]
      rw [hxd]
      unfold Zha
      try simp only [Z7] at *
      simp only [Bool.not_eq_true',Bool.not_eq_false',Bool.and_eq_false_iff,Bool.and_eq_true,decide_eq_true_eq,decide_eq_false_iff_not] at *
      omega
     refine gr rfl (Zn rfl rfl)<|gA<|Zl rfl<|Zv<|Ze<|Zb<|Za<|gas rfl rfl<|gA<|Zu<|Zy (.inl rfl) Tryz.results83 rfl [] (by decide) ?_
     refine ⟨congrArg (Value.int .i64) (Eq.symm ?_),rfl⟩
     unfold YV
     rw [if_neg (by rw [hix]; decide)]
     rw [if_neg (by rw [hrg]; decide)]
     rw [if_neg]
     rw [Bool.not_eq_false,hxd]
     unfold Zha
     try simp only [Z7] at *
     simp only [Bool.not_eq_true',Bool.not_eq_false',Bool.and_eq_false_iff,Bool.and_eq_true,decide_eq_true_eq,decide_eq_false_iff_not] at *
     omega
    refine Zg rfl rfl<|Zm rfl (rd_not rfl)<|gr rfl (Zn rfl rfl)<|gA<|Zk rfl<|Zb<|Za<|gas rfl rfl<|gA<|Zu<|Zh<|Zy (.inl rfl) Tryz.results83 rfl [] (by decide) ?_
    refine ⟨congrArg (Value.int .i64) (Eq.symm ?_),rfl⟩
    unfold YV
    rw [if_neg (by rw [hix]; decide)]
    rw [if_pos]
    unfold Wp
    try simp only [Z7] at *
    simp only [Bool.not_eq_true',Bool.not_eq_false',Bool.and_eq_false_iff,Bool.and_eq_true,decide_eq_true_eq,decide_eq_false_iff_not] at *
    omega
   refine Zg rfl rfl<|Zm rfl (rd_not rfl)<|gr rfl (Zn rfl rfl)<|gm rfl rfl<|Zj rfl rfl rfl<|Zj rfl rfl rfl<|Zj rfl rfl rfl<|Zj rfl rfl rfl<|gr rfl (Zq rfl rfl)<|gA<|Zk rfl<|Zb<|Za<|gas rfl rfl<|gA<|Zu<|Zh<|Zy (.inl rfl) Tryz.results83 rfl [] (by decide) ?_
   refine ⟨congrArg (Value.int .i64) (Eq.symm ?_),rfl⟩
   unfold YV
   rw [if_neg (by rw [hix]; decide)]
   rw [if_pos]
   unfold Wp
   try simp only [Z7] at *
   simp only [Bool.not_eq_true',Bool.not_eq_false',Bool.and_eq_false_iff,Bool.and_eq_true,decide_eq_true_eq,decide_eq_false_iff_not] at *
   omega
  refine gr rfl (rd_not rfl)<|gm rfl rfl<|Zj rfl rfl rfl<|Zj rfl rfl rfl<|Zj rfl rfl rfl<|Zj rfl rfl rfl<|Zj rfl rfl rfl<|Zj rfl rfl rfl<|Zj rfl rfl rfl<|Zj rfl rfl rfl<|gr rfl (Zq rfl rfl)<|gm rfl rfl<|Zj rfl rfl rfl<|Zj rfl rfl rfl<|Zj rfl rfl rfl<|Zj rfl rfl rfl<|gr rfl (Zq rfl rfl)<|gA<|Zk rfl<|Zb<|Za<|gas rfl rfl<|ZM<|Ze ?_
  refine Zu<|Zh<|Zy (.inl rfl) Tryz.results83 rfl [] (by decide) ?_
  refine ⟨congrArg (Value.int .i64) (Eq.symm ?_),rfl⟩
  unfold YV
  rw [if_neg (by rw [hix]; decide)]
  rw [if_pos]
  unfold Wp
  try simp only [Z7] at *
  simp only [Bool.not_eq_true',Bool.not_eq_false',Bool.and_eq_false_iff,Bool.and_eq_true,decide_eq_true_eq,decide_eq_false_iff_not] at *
  omega
 replace hw17:Wc p.rank s.rs.length=false:=by
  unfold Wc; unfold Z7 at hw17; rw [Bool.eq_iff_iff] at hw17 ⊢; simp at hw17 ⊢; omega
 have hix:=hw17
 refine Zc 10 rfl rfl ⟨[0,1],by decide,rfl⟩ (Zf (rd_not rfl)) ?_
 refine ZP (.inr ⟨[0,1],by decide,rfl⟩) ?_
 refine Ze<|Zk rfl<|Zb<|Za<|gas rfl rfl<|gA<|Zu<|Zh<|Zy (.inl rfl) Tryz.results83 rfl [] (by decide) ?_
 refine ⟨congrArg (Value.int .i64) (Eq.symm ?_),rfl⟩
 unfold YV
 rw [if_pos hix]
theorem Zrn (s:Org) (cb mb:Nat) (K:List ByteArray) (l:List Dv) (a:Option Addr) (cp:Nat) (hl:l.length≤140737488355328) (hn:∀ x∈l,x.name.size≤140737488355328) (w0:World) (hown:Own w0 [cb,mb] w0 [CB s cb mb,OB mb K]) (hsl:OldSl w0 [cb,mb] a l.length 3 (l.flatMap Dv.cells)):Sp Tryz.prog 77 [.slice a l.length cp,.func (.func 78) #[.pointer (some ⟨cb,0,none⟩)] #[]] w0 [cb,mb] (fun v L=>v=.tuple #[natV (Xh dvE dvK K l 0).1.1,.int .i64 (Xh dvE dvK K l 0).1.2]∧L=[CB s cb mb,OB mb (Xh dvE dvK K l 0).2]):=by
 unfold CB OB at hown
 refine ZC Tryz.func77 rfl Tryz.ntmps77 rfl hown ?_
 simp only [ZV]
 refine Zb<|Za<|gas rfl rfl<|gas rfl rfl<|gA<|Zb<|Zb<|Za<|gm rfl rfl<|gr rfl (ZA Tryz.underlying40 rfl)<|gm rfl rfl<|gA<|ZB<|ZZ (ι:=Nat × List ByteArray) [(1,_),(9,_),(10,_)] [_] (fun j=>j.1≤l.length∧Xh dvE dvK K l 0=Xh dvE dvK j.2 (l.drop j.1) j.1) (fun j Fr0=>((11,natV j.1)::Fr0)) (fun j Fr0=>(.obj mb (Zbh j.2)::Fr0)) (fun j=>l.length - j.1) (0,K) (⟨Nat.zero_le _,rfl⟩) ⟨rfl,rfl,rfl,rfl,trivial⟩ ⟨[1,0],by decide,rfl⟩ ?_
 rintro ⟨k,K1⟩ ⟨hk,hrun⟩
 simp only at hk hrun ⊢
 refine Zb<|Za<|gr rfl (ZX rfl rfl) (Zw (fun h12=>?_) (fun h12=>?_))
 ·obtain ⟨x,hx⟩:=get_some (show k<l.length by omega)
  have hxm:=List.mem_of_getElem? hx
  refine gA<|Zb<|Zk rfl<|Zv<|Ze<|Zb<|ZB<|Zb<|Za<|gm rfl rfl<|gr rfl (by exact Z3 (by assumption) Tryz.underlying40 X2 rfl rfl (by omega) (by omega)) ?_
  refine gr rfl (Zr Tryz.underlying109 rfl X2 rfl (Vc hsl (Yf Dv.cells 3 (fun _=>rfl) hx)) rfl) ?_
  refine Zt (ZU X2 rfl rfl (fun b7=>?_))
  refine gas rfl rfl<|Zt (Zz 0 X2 rfl rfl rfl rfl rfl rfl (by rfl) ?_)
  refine gA<|Zb<|Za<|gm rfl rfl<|gr rfl (Zr Tryz.underlying109 rfl X2 rfl (by exact ZH 0 (off:=0) (k:=3) rfl rfl) rfl) ?_
  simp only [Dv.cells]
  refine Zt (Yi [2,1] [0] rfl (vf:=[.pointer (some ⟨cb,0,none⟩)]) (vc:=[]) rfl rfl Tryz.call78 (by decide) rfl (fun w how hc=>Zmy s cb mb K1 x (hn x hxm) w hc) ?_)
  rintro _ _ ⟨rfl,rfl⟩
  refine gas rfl rfl<|gA<|Zb<|Za<|gm rfl rfl<|gr rfl (Z4 rfl rfl) (Zw (fun h20=>?_) (fun h20=>?_))
  ·refine gA<|Zk rfl<|Zb<|Za<|gm rfl rfl<|gm rfl rfl<|gas rfl rfl<|gas rfl rfl<|gA<|Zu<|Zx<|Zh<|Zh<|Zx<|Zh<|Y5 (.inl rfl) Tryz.results77 rfl rfl [0,1] (by decide) ?_
   rw [hrun,Zau hx,if_pos (by omega)]
   exact ⟨rfl,rfl⟩
  refine gA<|Zl rfl<|Zv<|ZI<|Ze<|Za<|gr rfl (by exact ZL (b:=1) rfl rfl (by omega)) ?_
  refine gm rfl rfl<|ZM<|Ze ?_
  exact ZR ((k+1,dvK K1 x)) ⟨⟨by simp only; omega,by simp only; rw [hrun,Zau hx,if_neg (by omega)]⟩,by simp only; omega⟩ ⟨rfl,rfl,rfl,rfl,trivial⟩ ⟨[1,0],by decide,rfl⟩
 refine gA<|Zb<|Zl rfl<|Z1<|Zs<|Zs<|ZE<|Ze<|Zb<|Za<|gas rfl rfl<|gas rfl rfl<|gA<|Zu<|Y5 (.inl rfl) Tryz.results77 rfl rfl [1,0] (by decide) ?_
 rw [hrun,List.drop_eq_nil_of_le (by omega)]
 exact ⟨rfl,rfl⟩
theorem Zro (s:Org) (cb mb:Nat) (K:List ByteArray) (l:List Rk) (a:Option Addr) (cp:Nat) (hl:l.length≤140737488355328) (hn:∀ x∈l,x.name.size≤140737488355328) (w0:World) (hown:Own w0 [cb,mb] w0 [CB s cb mb,OB mb K]) (hsl:OldSl w0 [cb,mb] a l.length 6 (l.flatMap Rk.cells)):Sp Tryz.prog 79 [.slice a l.length cp,.func (.func 80) #[.pointer (some ⟨cb,0,none⟩)] #[]] w0 [cb,mb] (fun v L=>v=.tuple #[natV (Xh rkE rkK K l 0).1.1,.int .i64 (Xh rkE rkK K l 0).1.2]∧L=[CB s cb mb,OB mb (Xh rkE rkK K l 0).2]):=by
 unfold CB OB at hown
 refine ZC Tryz.func79 rfl Tryz.ntmps79 rfl hown ?_
 simp only [ZV]
 refine Zb<|Za<|gas rfl rfl<|gas rfl rfl<|gA<|Zb<|Zb<|Za<|gm rfl rfl<|gr rfl (ZA Tryz.underlying41 rfl)<|gm rfl rfl<|gA<|ZB<|ZZ (ι:=Nat × List ByteArray) [(1,_),(9,_),(10,_)] [_] (fun j=>j.1≤l.length∧Xh rkE rkK K l 0=Xh rkE rkK j.2 (l.drop j.1) j.1) (fun j Fr0=>((11,natV j.1)::Fr0)) (fun j Fr0=>(.obj mb (Zbh j.2)::Fr0)) (fun j=>l.length - j.1) (0,K) (⟨Nat.zero_le _,rfl⟩) ⟨rfl,rfl,rfl,rfl,trivial⟩ ⟨[1,0],by decide,rfl⟩ ?_
 rintro ⟨k,K1⟩ ⟨hk,hrun⟩
 simp only at hk hrun ⊢
 refine Zb<|Za<|gr rfl (ZX rfl rfl) (Zw (fun h12=>?_) (fun h12=>?_))
 ·obtain ⟨x,hx⟩:=get_some (show k<l.length by omega)
  have hxm:=List.mem_of_getElem? hx
  refine gA<|Zb<|Zk rfl<|Zv<|Ze<|Zb<|ZB<|Zb<|Za<|gm rfl rfl<|gr rfl (by exact Z3 (by assumption) Tryz.underlying41 Wu rfl rfl (by omega) (by omega)) ?_
  refine gr rfl (Zr Tryz.underlying111 rfl Wu rfl (Vc hsl (Yf Rk.cells 6 (fun _=>rfl) hx)) rfl) ?_
  refine Zt (ZU Wu rfl rfl (fun b7=>?_))
  refine gas rfl rfl<|Zt (Zz 0 Wu rfl rfl rfl rfl rfl rfl (by rfl) ?_)
  refine gA<|Zb<|Za<|gm rfl rfl<|gr rfl (Zr Tryz.underlying111 rfl Wu rfl (by exact ZH 0 (off:=0) (k:=6) rfl rfl) rfl) ?_
  simp only [Rk.cells]
  refine Zt (Yi [2,1] [0] rfl (vf:=[.pointer (some ⟨cb,0,none⟩)]) (vc:=[]) rfl rfl Tryz.call80 (by decide) rfl (fun w how hc=>rank_ok s cb mb K1 x (hn x hxm) w hc) ?_)
  rintro _ _ ⟨rfl,rfl⟩
  refine gas rfl rfl<|gA<|Zb<|Za<|gm rfl rfl<|gr rfl (Z4 rfl rfl) (Zw (fun h20=>?_) (fun h20=>?_))
  ·refine gA<|Zk rfl<|Zb<|Za<|gm rfl rfl<|gm rfl rfl<|gas rfl rfl<|gas rfl rfl<|gA<|Zu<|Zx<|Zh<|Zh<|Zx<|Zh<|Y5 (.inl rfl) Tryz.results79 rfl rfl [0,1] (by decide) ?_
   rw [hrun,Zau hx,if_pos (by omega)]
   exact ⟨rfl,rfl⟩
  refine gA<|Zl rfl<|Zv<|ZI<|Ze<|Za<|gr rfl (by exact ZL (b:=1) rfl rfl (by omega)) ?_
  refine gm rfl rfl<|ZM<|Ze ?_
  exact ZR ((k+1,rkK K1 x)) ⟨⟨by simp only; omega,by simp only; rw [hrun,Zau hx,if_neg (by omega)]⟩,by simp only; omega⟩ ⟨rfl,rfl,rfl,rfl,trivial⟩ ⟨[1,0],by decide,rfl⟩
 refine gA<|Zb<|Zl rfl<|Z1<|Zs<|Zs<|ZE<|Ze<|Zb<|Za<|gas rfl rfl<|gas rfl rfl<|gA<|Zu<|Y5 (.inl rfl) Tryz.results79 rfl rfl [1,0] (by decide) ?_
 rw [hrun,List.drop_eq_nil_of_le (by omega)]
 exact ⟨rfl,rfl⟩
theorem Zrp (s:Org) (cb mb:Nat) (K:List ByteArray) (l:List Cp) (a:Option Addr) (cp:Nat) (hl:l.length≤140737488355328) (hn:∀ x∈l,x.name.size≤140737488355328) (hsd:s.ds.length≤6) (w0:World) (hown:Own w0 [cb,mb] w0 [CB s cb mb,OB mb K]) (hsl:OldSl w0 [cb,mb] a l.length 6 (l.flatMap Cp.cells)):Sp Tryz.prog 85 [.slice a l.length cp,.func (.func 86) #[.pointer (some ⟨cb,0,none⟩)] #[]] w0 [cb,mb] (fun v L=>v=.tuple #[natV (Xh (cpE s.ds.length) cpK K l 0).1.1,.int .i64 (Xh (cpE s.ds.length) cpK K l 0).1.2]∧L=[CB s cb mb,OB mb (Xh (cpE s.ds.length) cpK K l 0).2]):=by
 unfold CB OB at hown
 refine ZC Tryz.func85 rfl Tryz.ntmps85 rfl hown ?_
 simp only [ZV]
 refine Zb<|Za<|gas rfl rfl<|gas rfl rfl<|gA<|Zb<|Zb<|Za<|gm rfl rfl<|gr rfl (ZA Tryz.underlying43 rfl)<|gm rfl rfl<|gA<|ZB<|ZZ (ι:=Nat × List ByteArray) [(1,_),(9,_),(10,_)] [_] (fun j=>j.1≤l.length∧Xh (cpE s.ds.length) cpK K l 0=Xh (cpE s.ds.length) cpK j.2 (l.drop j.1) j.1) (fun j Fr0=>((11,natV j.1)::Fr0)) (fun j Fr0=>(.obj mb (Zbh j.2)::Fr0)) (fun j=>l.length - j.1) (0,K) (⟨Nat.zero_le _,rfl⟩) ⟨rfl,rfl,rfl,rfl,trivial⟩ ⟨[1,0],by decide,rfl⟩ ?_
 rintro ⟨k,K1⟩ ⟨hk,hrun⟩
 simp only at hk hrun ⊢
 refine Zb<|Za<|gr rfl (ZX rfl rfl) (Zw (fun h12=>?_) (fun h12=>?_))
 ·obtain ⟨x,hx⟩:=get_some (show k<l.length by omega)
  have hxm:=List.mem_of_getElem? hx
  refine gA<|Zb<|Zk rfl<|Zv<|Ze<|Zb<|ZB<|Zb<|Za<|gm rfl rfl<|gr rfl (by exact Z3 (by assumption) Tryz.underlying43 WZ rfl rfl (by omega) (by omega)) ?_
  refine gr rfl (Zr Tryz.underlying113 rfl WZ rfl (Vc hsl (Yf Cp.cells 6 (fun _=>rfl) hx)) rfl) ?_
  refine Zt (ZU WZ rfl rfl (fun b7=>?_))
  refine gas rfl rfl<|Zt (Zz 0 WZ rfl rfl rfl rfl rfl rfl (by rfl) ?_)
  refine gA<|Zb<|Za<|gm rfl rfl<|gr rfl (Zr Tryz.underlying113 rfl WZ rfl (by exact ZH 0 (off:=0) (k:=6) rfl rfl) rfl) ?_
  simp only [Cp.cells]
  refine Zt (Yi [2,1] [0] rfl (vf:=[.pointer (some ⟨cb,0,none⟩)]) (vc:=[]) rfl rfl Tryz.call86 (by decide) rfl (fun w how hc=>Zov s cb mb K1 x (hn x hxm) hsd w hc) ?_)
  rintro _ _ ⟨rfl,rfl⟩
  refine gas rfl rfl<|gA<|Zb<|Za<|gm rfl rfl<|gr rfl (Z4 rfl rfl) (Zw (fun h20=>?_) (fun h20=>?_))
  ·refine gA<|Zk rfl<|Zb<|Za<|gm rfl rfl<|gm rfl rfl<|gas rfl rfl<|gas rfl rfl<|gA<|Zu<|Zx<|Zh<|Zh<|Zx<|Zh<|Y5 (.inl rfl) Tryz.results85 rfl rfl [0,1] (by decide) ?_
   rw [hrun,Zau hx,if_pos (by omega)]
   exact ⟨rfl,rfl⟩
  refine gA<|Zl rfl<|Zv<|ZI<|Ze<|Za<|gr rfl (by exact ZL (b:=1) rfl rfl (by omega)) ?_
  refine gm rfl rfl<|ZM<|Ze ?_
  exact ZR ((k+1,cpK K1 x)) ⟨⟨by simp only; omega,by simp only; rw [hrun,Zau hx,if_neg (by omega)]⟩,by simp only; omega⟩ ⟨rfl,rfl,rfl,rfl,trivial⟩ ⟨[1,0],by decide,rfl⟩
 refine gA<|Zb<|Zl rfl<|Z1<|Zs<|Zs<|ZE<|Ze<|Zb<|Za<|gas rfl rfl<|gas rfl rfl<|gA<|Zu<|Y5 (.inl rfl) Tryz.results85 rfl rfl [1,0] (by decide) ?_
 rw [hrun,List.drop_eq_nil_of_le (by omega)]
 exact ⟨rfl,rfl⟩
namespace Sx
structure PEnv (s:Org) (x:St) (cb mb b4 b1 b10:Nat) (w:World):Prop where
  fc:w.cell? ⟨b4,0,none⟩=some (.pointer (some ⟨cb,0,none⟩))
  fs:Cells w ⟨b1,0,none⟩ [.slice s.da s.ds.length s.dc,.slice s.ra s.rs.length s.rc,.slice s.sa s.ss.length s.sc,.slice s.ca s.cs.length s.cc]
  fx:Cells w ⟨b10,0,none⟩ [.string x.name,.int .i64 x.div,.int .i64 x.num,.int .i64 x.den,.slice x.pa x.ps.length x.pc]
  fk:Cells w ⟨cb,0,none⟩ [.slice s.da s.ds.length s.dc,.slice s.ra s.rs.length s.rc,.slice s.sa s.ss.length s.sc,.slice s.ca s.cs.length s.cc,.map (some mb)]
  fd:OldSl w [] s.da s.ds.length 3 (s.ds.flatMap Dv.cells)
  fr:OldSl w [] s.ra s.rs.length 6 (s.rs.flatMap Rk.cells)
theorem PEnv.at {s:Org} {x:St} {cb mb b4 b1 b10:Nat} {w0 w:World} {l:List HL} (h:PEnv s x cb mb b4 b1 b10 w0) (ho:Own w0 [] w l):PEnv s x cb mb b4 b1 b10 w :=
  ⟨ho.cellOld h.fc (by simp),h.fs.at ho,h.fx.at ho,h.fk.at ho,h.fd.at ho,h.fr.at ho⟩
structure PGood (s:Org) (x:St) (d:Dv):Prop where
  rl:s.rs.length≤40
  d0:0≤d.lo
  d1:d.hi≤127
  rk:∀ r∈s.rs,0≤r.low∧r.low≤127∧1≤r.count∧r.count≤97
  x0:0≤x.div
  dx:s.ds[x.div.toNat]? = some d
end Sx
open Sx
theorem partC_ok (s:Org) (x:St) (d:Dv) (cb mb b4 b1 b10:Nat) (p:Pt) (hg:PGood s x d) (w0:World) (he:PEnv s x cb mb b4 b1 b10 w0):Sp Tryz.prog 82 [p.val,.pointer (some ⟨b4,0,none⟩),.pointer (some ⟨b1,0,none⟩),.pointer (some ⟨b10,0,none⟩)] w0 [] (RV (.int .i64 (YV s.rs d p))):=by
 obtain ⟨hc,hs,hx,hk,hd,hr⟩:=he
 obtain ⟨hrl,hd0,hd1,hrk,hx0,hdx⟩:=hg
 have hdl:x.div.toNat<s.ds.length:=(List.getElem?_eq_some_iff.1 hdx).1
 refine ZC Tryz.func82 rfl Tryz.ntmps82 rfl (Own.refl _) ?_
 simp only [ZV]
 refine Zb<|Za<|Zt (Z6 rfl rfl rfl (fun b4=>?_))
 refine gas rfl rfl<|gA<|Zb<|ZO [0] true 9 rfl<|Zc 0 rfl rfl ⟨[0],by decide,rfl⟩ (Zf (Zi Tryz.underlying148 rfl rfl (JR hc (by simp)))) ?_
 refine Zc 1 rfl rfl ⟨[0],by decide,rfl⟩ (Zf (Zd rfl (YS _))) ?_
 refine Zc 2 rfl rfl ⟨[0],by decide,rfl⟩ (Zf (Zi Tryz.underlying40 rfl rfl (Yj hs (by simp) rfl))) ?_
 refine Zc 3 rfl rfl ⟨[0],by decide,rfl⟩ (Zf (Zd rfl (VH _))) ?_
 refine Zc 4 rfl rfl ⟨[0],by decide,rfl⟩ (Zf (Zi Tryz.underlying3 rfl rfl (Yj hx (by simp) rfl))) ?_
 refine Zc 5 rfl rfl ⟨[0],by decide,rfl⟩ (Zf (Z3 hd Tryz.underlying40 X2 rfl rfl (by omega) (by omega))) ?_
 refine Zc 6 rfl rfl ⟨[0],by decide,rfl⟩ (Zf (Zr Tryz.underlying109 rfl X2 rfl (Zi7 hd (Yf Dv.cells 3 (fun _=>rfl) hdx)) rfl)) ?_
 refine Zc 7 rfl rfl ⟨[0],by decide,rfl⟩ (Zf (Zr Tryz.underlying96 rfl Zfv rfl (by exact ZH 0 (off:=0) (k:=4) rfl rfl) rfl)) ?_
 simp only [Dv.cells]
 refine Zc 8 rfl rfl ⟨[0],by decide,rfl⟩ (YE (vf:=[]) (vc:=[]) rfl rfl Tryz.call83 (fun w1 ho=>part_ok s cb mb d p hrl hd0 hd1 hrk w1 (hk.at ho) (hr.at ho)) (by rintro _ _ ⟨h,_⟩; exact h)) ?_
 refine Zc 9 rfl rfl ⟨[0],by decide,rfl⟩ (Zf (ZY rfl)) ?_
 refine ZP (.inr ⟨[0],by decide,rfl⟩) ?_
 refine Ze<|Zu<|Zy (.inl rfl) Tryz.results82 rfl [] (by decide) ?_
 exact ⟨rfl,rfl⟩
theorem Zrq (s:Org) (x:St) (d:Dv) (cb mb b4 b1 b10:Nat) (l:List Pt) (a:Option Addr) (cp:Nat) (hl:l.length≤140737488355328) (hg:PGood s x d) (w0:World) (he:PEnv s x cb mb b4 b1 b10 w0) (hsl:OldSl w0 [] a l.length 4 (l.flatMap Pt.cells)):Sp Tryz.prog 84 [.slice a l.length cp,.func (.func 82) #[] #[.pointer (some ⟨b4,0,none⟩),.pointer (some ⟨b1,0,none⟩),.pointer (some ⟨b10,0,none⟩)]] w0 [] (RV (.tuple #[natV (Zav s d l 0).1,.int .i64 (Zav s d l 0).2])):=by
 refine ZC Tryz.func84 rfl Tryz.ntmps84 rfl (Own.refl _) ?_
 simp only [ZV]
 refine Zb<|Za<|gas rfl rfl<|gas rfl rfl<|gA<|Zb<|Zb<|Za<|gm rfl rfl<|gr rfl (ZA Tryz.underlying97 rfl)<|gm rfl rfl<|gA<|ZB<|ZZ (ι:=Nat) [(1,_),(9,_),(10,_)] [] (fun k=>k≤l.length∧Zav s d l 0=Zav s d (l.drop k) k) (fun k Fr0=>((11,natV k)::Fr0)) (fun k Fr0=>Fr0) (fun k=>l.length - k) 0 (⟨Nat.zero_le _,rfl⟩) ⟨rfl,rfl,rfl,rfl,trivial⟩ ⟨[],by decide,rfl⟩ ?_
 rintro k ⟨hk,hrun⟩
 refine Zb<|Za<|gr rfl (ZX rfl rfl) (Zw (fun h12=>?_) (fun h12=>?_))
 ·obtain ⟨p,hp⟩:=get_some (show k<l.length by omega)
  refine gA<|Zb<|Zk rfl<|Zv<|Ze<|Zb<|ZB<|Zb<|Za<|gm rfl rfl<|gr rfl (by exact Z3 (by assumption) Tryz.underlying97 Zfv rfl rfl (by omega) (by omega)) ?_
  refine gr rfl (Zr Tryz.underlying96 rfl Zfv rfl (Vc hsl (Yf Pt.cells 4 (fun _=>rfl) hp)) rfl) ?_
  refine Zt (ZU Zfv rfl rfl (fun b7=>?_))
  refine gas rfl rfl<|Zt (Zz 0 Zfv rfl rfl rfl rfl rfl rfl (by rfl) ?_)
  refine gA<|Zb<|Za<|gm rfl rfl<|gr rfl (Zr Tryz.underlying96 rfl Zfv rfl (by exact ZH 0 (off:=0) (k:=4) rfl rfl) rfl) ?_
  simp only [Pt.cells]
  refine Zt (ZJ rfl (vf:=[]) (vc:=[.pointer (some ⟨b4,0,none⟩),.pointer (some ⟨b1,0,none⟩),.pointer (some ⟨b10,0,none⟩)]) rfl rfl Tryz.call82 (fun w1 ho=>partC_ok s x d cb mb b4 b1 b10 p hg w1 (he.at ho)) ?_)
  rintro _ _ ⟨rfl,rfl⟩
  refine gas rfl rfl<|gA<|Zb<|Za<|gm rfl rfl<|gr rfl (Z4 rfl rfl) (Zw (fun h20=>?_) (fun h20=>?_))
  ·refine gA<|Zk rfl<|Zb<|Za<|gm rfl rfl<|gm rfl rfl<|gas rfl rfl<|gas rfl rfl<|gA<|Zu<|Zx<|Zh<|Zh<|Zx<|Zh<|Y5 (.inl rfl) Tryz.results84 rfl rfl [] (by decide) ?_
   rw [hrun,Zk2 hp,if_pos (by omega)]
   exact ⟨rfl,rfl⟩
  refine gA<|Zl rfl<|Zv<|ZI<|Ze<|Za<|gr rfl (by exact ZL (b:=1) rfl rfl (by omega)) ?_
  refine gm rfl rfl<|ZM<|Ze ?_
  exact ZR (k+1) ⟨⟨by omega,by rw [hrun,Zk2 hp,if_neg (by omega)]⟩,by omega⟩ ⟨rfl,rfl,rfl,rfl,trivial⟩ ⟨[],by decide,rfl⟩
 refine gA<|Zb<|Zl rfl<|Z1<|Zs<|Zs<|ZE<|Ze<|Zb<|Za<|gas rfl rfl<|gas rfl rfl<|gA<|Zu<|Y5 (.inl rfl) Tryz.results84 rfl rfl [] (by decide) ?_
 rw [hrun,List.drop_eq_nil_of_le (by omega)]
 exact ⟨rfl,rfl⟩
theorem Zk4 (s:Org) (hle:OrgLe s) (w0:World) (hS:OrgIn s w0 []):Sp Tryz.prog 35 [s.val] w0 [] (RV (.tuple #[(Xz s).1.val,.int .i64 (Xz s).2])):=by
 refine ZC Tryz.func35 rfl Tryz.ntmps35 rfl (Own.refl _) ?_
 simp only [ZV]
 refine Zb<|Za<|Zt (Z6 rfl rfl rfl (fun b1=>?_))
 refine Zt (ZU YM rfl rfl (fun b2=>?_))
 refine gas rfl rfl<|gA<|Zb<|Zb<|Za<|gr rfl (Zd rfl (YS _))<|gr rfl (Zi Tryz.underlying40 rfl rfl (by exact Zp 1 rfl rfl)) ?_
 refine gr rfl (ZA Tryz.underlying40 rfl)<|gr rfl (Yk rfl rfl) (Zw (fun h20=>?_) (fun h20=>?_))
 ·refine gm rfl rfl<|Zj rfl rfl rfl<|Zj rfl rfl rfl<|Zj rfl rfl rfl<|Zj rfl rfl rfl<|gr rfl (Zq rfl rfl)<|gm rfl rfl<|Zj rfl rfl rfl<|Zj rfl rfl rfl<|Zj rfl rfl rfl<|Zj rfl rfl rfl<|gr rfl (Zq rfl rfl)<|gm rfl rfl<|Zj rfl rfl rfl<|Zj rfl rfl rfl<|Zj rfl rfl rfl<|Zj rfl rfl rfl<|gr rfl (Zq rfl rfl)<|gA<|Zk rfl<|Zb<|Za<|gr rfl (ZT rfl (fun _=>JW)) ?_
  refine Zt (Zz 0 YM rfl rfl rfl rfl rfl rfl (by rfl) ?_)
  refine gas rfl rfl<|gA<|Zu<|Zh<|YF (.inl rfl) Tryz.results35 (YC Tryz.underlying69 rfl YM rfl (by rfl) (ZH 0 (off:=0) (k:=3) rfl rfl)) (YU rfl) [] (by decide) ?_
  refine ⟨?_,rfl⟩
  have he:Xz s=(⟨0,0,0⟩,3):=by
   unfold Xz; rw [if_pos (by unfold WM; simp; omega)]
  rw [he]
  rfl
 refine gm rfl rfl<|Zg rfl rfl<|Zm rfl (Zd rfl (WD _))<|Zg rfl rfl (Zm rfl (Zi Tryz.underlying41 rfl rfl (by exact Zp 1 rfl rfl)) ?_)
 refine Zg rfl rfl<|Zm rfl (ZA Tryz.underlying41 rfl)<|Zg rfl rfl (Zm rfl (Yk rfl rfl) (Zw (fun h25=>?_) (fun h25=>?_)))
 ·refine gr rfl (Zn rfl rfl)<|gm rfl rfl<|Zj rfl rfl rfl<|Zj rfl rfl rfl<|Zj rfl rfl rfl<|Zj rfl rfl rfl<|gr rfl (Zq rfl rfl)<|gm rfl rfl<|Zj rfl rfl rfl<|Zj rfl rfl rfl<|Zj rfl rfl rfl<|Zj rfl rfl rfl<|gr rfl (Zq rfl rfl)<|gA<|Zk rfl<|Zb<|Za<|gr rfl (ZT rfl (fun _=>JW)) ?_
  refine Zt (Zz 0 YM rfl rfl rfl rfl rfl rfl (by rfl) ?_)
  refine gas rfl rfl<|gA<|Zu<|Zh<|YF (.inl rfl) Tryz.results35 (YC Tryz.underlying69 rfl YM rfl (by rfl) (ZH 0 (off:=0) (k:=3) rfl rfl)) (YU rfl) [] (by decide) ?_
  refine ⟨?_,rfl⟩
  have he:Xz s=(⟨0,0,0⟩,3):=by
   unfold Xz; rw [if_pos (by unfold WM; simp; omega)]
  rw [he]
  rfl
 refine gr rfl (Zn rfl rfl)<|gm rfl rfl<|Zg rfl rfl<|Zm rfl (Zd rfl (Xg _))<|Zg rfl rfl (Zm rfl (Zi Tryz.underlying42 rfl rfl (by exact Zp 1 rfl rfl)) ?_)
 refine Zg rfl rfl<|Zm rfl (ZA Tryz.underlying42 rfl)<|Zg rfl rfl (Zm rfl (Yk rfl rfl) (Zw (fun h31=>?_) (fun h31=>?_)))
 ·refine gr rfl (Zn rfl rfl)<|gm rfl rfl<|Zj rfl rfl rfl<|Zj rfl rfl rfl<|Zj rfl rfl rfl<|Zj rfl rfl rfl<|gr rfl (Zq rfl rfl)<|gA<|Zk rfl<|Zb<|Za<|gr rfl (ZT rfl (fun _=>JW)) ?_
  refine Zt (Zz 0 YM rfl rfl rfl rfl rfl rfl (by rfl) ?_)
  refine gas rfl rfl<|gA<|Zu<|Zh<|YF (.inl rfl) Tryz.results35 (YC Tryz.underlying69 rfl YM rfl (by rfl) (ZH 0 (off:=0) (k:=3) rfl rfl)) (YU rfl) [] (by decide) ?_
  refine ⟨?_,rfl⟩
  have he:Xz s=(⟨0,0,0⟩,3):=by
   unfold Xz; rw [if_pos (by unfold WM; simp; omega)]
  rw [he]
  rfl
 refine gr rfl (Zn rfl rfl)<|gm rfl rfl<|Zg rfl rfl<|Zm rfl (Zd rfl (XM _))<|Zg rfl rfl (Zm rfl (Zi Tryz.underlying43 rfl rfl (by exact Zp 1 rfl rfl)) ?_)
 refine Zg rfl rfl<|Zm rfl (ZA Tryz.underlying43 rfl)<|Zg rfl rfl (Zm rfl (Yk rfl rfl) (Zw (fun h37=>?_) (fun h37=>?_)))
 ·refine gr rfl (Zn rfl rfl)<|gA<|Zk rfl<|Zb<|Za<|gr rfl (ZT rfl (fun _=>JW)) ?_
  refine Zt (Zz 0 YM rfl rfl rfl rfl rfl rfl (by rfl) ?_)
  refine gas rfl rfl<|gA<|Zu<|Zh<|YF (.inl rfl) Tryz.results35 (YC Tryz.underlying69 rfl YM rfl (by rfl) (ZH 0 (off:=0) (k:=3) rfl rfl)) (YU rfl) [] (by decide) ?_
  refine ⟨?_,rfl⟩
  have he:Xz s=(⟨0,0,0⟩,3):=by
   unfold Xz; rw [if_pos (by unfold WM; simp; omega)]
  rw [he]
  rfl
 refine gr rfl (Zn rfl rfl)<|gA<|Zl rfl<|Zv<|Ze<|Zb ?_
 have hlong:WM s=false:=by
  unfold WM; simp; omega
 have hln:s.ds.length≤6∧s.rs.length≤40∧s.ss.length≤80∧s.cs.length≤24:=by omega
 refine Za<|gr rfl (Zr Tryz.underlying45 rfl Xu rfl (by exact ZH 1 (off:=0) (k:=4) rfl rfl) rfl) ?_
 refine Zt (Zl9 rfl (fun b41=>?_))
 refine gr rfl (ZT rfl (fun _=>Zos _ _ _ _ _ _ _ _ _ _ _ _ _)) ?_
 refine Zt (Z6 rfl rfl rfl (fun b43=>?_))
 refine Zt (ZU ty_148 rfl rfl (fun b4=>?_))
 refine Zt (Yc 0 ty_148 rfl rfl rfl rfl rfl (by rfl) (by rfl) ?_)
 refine gA<|Zb<|Zb<|Za<|gr rfl (Zd rfl (YS _))<|gr rfl (Zi Tryz.underlying40 rfl rfl (by exact Zp 4 rfl rfl)) ?_
 refine gr rfl (Zi Tryz.underlying148 rfl rfl (by exact Zp 0 rfl rfl)) ?_
 refine gr rfl (Ws (fs:=[.tmp 47]) (cs:=[]) rfl rfl)<|Zt (Yi [1,2] [0,3,4] rfl (vf:=[]) (vc:=[]) rfl rfl Tryz.call77 (by decide) rfl (fun w how hc=>Zrn s b43 b41 [] s.ds s.da s.dc (hle.d) hle.dn w hc (hS.d.atS how (by decide) (Zot (Ze0 how 1 rfl rfl) (Ze0 how 2 rfl rfl)))) ?_)
 rintro _ _ ⟨rfl,rfl⟩
 obtain ⟨rD,hrD⟩:∃ r,Xh dvE dvK [] s.ds 0=r:=⟨_,rfl⟩
 rw [hrD]
 refine gm rfl rfl<|gr rfl (ZD rfl rfl)<|gr rfl (ZD rfl rfl)<|gas rfl rfl<|gas rfl rfl<|gA<|Zb<|Za<|gm rfl rfl<|gr rfl (Z4 rfl rfl) (Zw (fun h53=>?_) (fun h53=>?_))
 ·refine gA<|Zk rfl<|Zb<|Za<|gm rfl rfl<|gr rfl (ZT rfl (fun _=>W5 _ _)) ?_
  refine gm rfl rfl<|Zt (Zz 3 YM rfl rfl rfl rfl rfl rfl (by rfl) ?_)
  refine gas rfl rfl<|gA<|Zu<|Zh<|YF (.inl rfl) Tryz.results35 (YC Tryz.underlying69 rfl YM rfl (by rfl) (ZH 3 (off:=0) (k:=3) rfl rfl)) (YU rfl) [] (by decide) ?_
  refine ⟨?_,rfl⟩
  have he:Xz s=(⟨1,rD.1.1,0⟩,rD.1.2):=by
   unfold Xz; rw [if_neg (by rw [hlong]; decide),hrD,if_pos h53]
  rw [he]
  rfl
 refine gA<|Zl rfl<|Zv<|Ze<|Zb<|Zb<|Za<|gr rfl (Zd rfl (WD _))<|gr rfl (Zi Tryz.underlying41 rfl rfl (by exact Zp 4 rfl rfl)) ?_
 refine gr rfl (Zi Tryz.underlying148 rfl rfl (by exact Zp 2 rfl rfl)) ?_
 refine gr rfl (Ws (fs:=[.tmp 60]) (cs:=[]) rfl rfl)<|Zt (Yi [0,1] [2,3,4] rfl (vf:=[]) (vc:=[]) rfl rfl Tryz.call79 (by decide) rfl (fun w how hc=>Zro s b43 b41 rD.2 s.rs s.ra s.rc (hle.r) hle.rn w hc (hS.r.atS how (by decide) (Zot (Ze0 how 0 rfl rfl) (Ze0 how 1 rfl rfl)))) ?_)
 rintro _ _ ⟨rfl,rfl⟩
 obtain ⟨rR,hrR⟩:∃ r,Xh rkE rkK rD.2 s.rs 0=r:=⟨_,rfl⟩
 rw [hrR]
 refine gm rfl rfl<|gr rfl (ZD rfl rfl)<|gr rfl (ZD rfl rfl)<|gas rfl rfl<|gas rfl rfl<|gA<|Zb<|Za<|gm rfl rfl<|gr rfl (Z4 rfl rfl) (Zw (fun h66=>?_) (fun h66=>?_))
 ·refine gA<|Zk rfl<|Zb<|Za<|gm rfl rfl<|gr rfl (ZT rfl (fun _=>W5 _ _)) ?_
  refine gm rfl rfl<|Zt (Zz 3 YM rfl rfl rfl rfl rfl rfl (by rfl) ?_)
  refine gas rfl rfl<|gA<|Zu<|Zh<|YF (.inl rfl) Tryz.results35 (YC Tryz.underlying69 rfl YM rfl (by rfl) (ZH 3 (off:=0) (k:=3) rfl rfl)) (YU rfl) [] (by decide) ?_
  refine ⟨?_,rfl⟩
  have he:Xz s=(⟨2,rR.1.1,0⟩,rR.1.2):=by
   unfold Xz; rw [if_neg (by rw [hlong]; decide),hrD,if_neg (by omega),hrR,if_pos h66]
  rw [he]
  rfl
 refine gA<|Zl rfl<|Zv<|Ze<|Zb<|Zb<|Za<|gr rfl (Zd rfl (Xg _))<|gr rfl (Zi Tryz.underlying42 rfl rfl (by exact Zp 4 rfl rfl)) ?_
 refine gr rfl (ZA Tryz.underlying42 rfl)<|gm rfl rfl<|gA<|ZB<|ZZ (ι:=Nat × List ByteArray) [(1,_),(2,_),(4,_),(71,_),(72,_)] [_,_,_,_] (fun j=>j.1≤s.ss.length∧Zbe s rR.2 s.ss 0=Zbe s j.2 (s.ss.drop j.1) j.1) (fun j Fr0=>((73,natV j.1)::Fr0)) (fun j Fr0=>(.obj b41 (Zbh j.2)::Fr0)) (fun j=>s.ss.length - j.1) (0,rR.2) (⟨Nat.zero_le _,rfl⟩) ⟨rfl,rfl,rfl,rfl,rfl,rfl,trivial⟩ ⟨[1,0,2,3,4],by decide,rfl⟩ ?_
 rintro ⟨k,K1⟩ ⟨hk,hrun⟩
 simp only at hk hrun ⊢
 refine Zb<|Za<|gr rfl (ZX rfl rfl) (Zw (fun h74=>?_) (fun h74=>?_))
 ·obtain ⟨x,hx⟩:=get_some (show k<s.ss.length by omega)
  have hxm:=List.mem_of_getElem? hx
  refine gA<|Zb<|Zk rfl<|Zv<|Ze<|Zb<|ZB<|Zb<|Za<|gm rfl rfl<|gr rfl (Z3 hS.t Tryz.underlying42 WN rfl rfl (by omega) (by omega)) ?_
  refine gr rfl (Zr Tryz.underlying99 rfl WN rfl (Vc hS.t (Yf St.cells 5 (fun _=>rfl) hx)) rfl) ?_
  refine Zt (ZU WN rfl rfl (fun b10=>?_))
  refine gas rfl rfl<|Zt (Zz 0 WN rfl rfl rfl rfl rfl rfl (by rfl) ?_)
  refine gA<|Zb<|Zb<|Za<|gr rfl (Zi Tryz.underlying148 rfl rfl (by exact Zp 3 rfl rfl)) ?_
  refine gr rfl (Zr Tryz.underlying99 rfl WN rfl (by exact ZH 0 (off:=0) (k:=5) rfl rfl) rfl) ?_
  simp only [St.cells]
  refine Zt (Yi [2,1] [0,3,4,5] rfl (vf:=[]) (vc:=[]) rfl rfl Tryz.call81 (by decide) rfl (fun w how hc=>stop_ok s b43 b41 K1 x (hle.tn x hxm) hln.1 w hc) ?_)
  rintro _ _ ⟨rfl,rfl⟩
  refine gas rfl rfl<|gA<|Zb<|Za<|gm rfl rfl<|gr rfl (Z4 rfl rfl) (Zw (fun h82=>?_) (fun h82=>?_))
  ·refine gA<|Zk rfl<|Zb<|Za<|gm rfl rfl<|gr rfl (ZT rfl (fun _=>W5 _ _)) ?_
   refine gm rfl rfl<|Zt (Zz 4 YM rfl rfl rfl rfl rfl rfl (by rfl) ?_)
   refine gas rfl rfl<|gA<|Zu<|Zh<|Zx<|Zh<|Zh<|Zx<|Zh<|YF (.inl rfl) Tryz.results35 (YC Tryz.underlying69 rfl YM rfl (by rfl) (ZH 4 (off:=0) (k:=3) rfl rfl)) (YU rfl) [] (by decide) ?_
   refine ⟨?_,rfl⟩
   have he:Xz s=(⟨3,k,0⟩,stE s.ds.length K1 x):=by
    unfold Xz; rw [if_neg (by rw [hlong]; decide),hrD,if_neg (by omega),hrR,if_neg (by omega),hrun,Zgi hx,if_pos (show stE s.ds.length K1 x≠0 by omega),if_pos (show stE s.ds.length K1 x≠0 by omega)]
   rw [he]
   rfl
  refine gA<|Zl rfl<|Zv<|Ze<|Zb ?_
  obtain ⟨hx0,hx1⟩:=Zqb (show stE s.ds.length K1 x=0 by omega)
  obtain ⟨d,hdx⟩:=get_some (show x.div.toNat<s.ds.length by omega)
  have hxd:=getD_some (d:=default) hdx
  have hg:PGood s x d:=by
   obtain ⟨K2,h2⟩:=Zk3 (show (Xh dvE dvK [] s.ds 0).1.2=0 by rw [hrD]; omega) d (List.mem_of_getElem? hdx)
   have h3:=Zmu (dvE_ok h2)
   refine ⟨hln.2.1,by omega,by omega,fun r hr=>?_,hx0,hdx⟩
   obtain ⟨K3,h4⟩:=Zk3 (show (Xh rkE rkK rD.2 s.rs 0).1.2=0 by rw [hrR]; omega) r hr
   have h5:=Zmv (rkE_ok h4)
   omega
  refine Za<|gr rfl (Ws (fs:=[]) (cs:=[.tmp 4,.tmp 1,.tmp 10]) rfl rfl)<|gas rfl rfl<|gA<|Zb<|Za<|gr rfl (Zd rfl (JH _))<|gr rfl (Zi Tryz.underlying97 rfl rfl (by exact Zp 2 rfl rfl)) ?_
  refine gm rfl rfl<|Zt (ZJ rfl (vf:=[]) (vc:=[]) rfl rfl Tryz.call84 (fun w how=>Zrq s x d b43 b41 b4 b1 b10 x.ps x.pa x.pc (hle.p x hxm) hg w ⟨Zp 3 rfl rfl w how,how.blkCells 5 rfl,how.blkCells 2 rfl,how.blkCells 0 rfl,hS.d.at how,hS.r.at how⟩ ((hS.p x hxm).at how)) ?_)
  rintro _ _ ⟨rfl,rfl⟩
  have hrl:=Zqa (s:=s) (d:=d) x.ps 0
  obtain ⟨rP,hrP⟩:∃ r,Zav s d x.ps 0=r:=⟨_,rfl⟩
  rw [hrP]
  rw [hrP] at hrl
  have hpl:=hle.p x hxm
  refine gm rfl rfl<|gr rfl (ZD rfl rfl)<|gr rfl (ZD rfl rfl)<|gas rfl rfl<|gas rfl rfl<|gA<|Zb<|Za<|gm rfl rfl<|gr rfl (Z4 rfl rfl) (Zw (fun h95=>?_) (fun h95=>?_))
  ·refine gA<|Zk rfl<|Zb<|Za<|gm rfl rfl<|gm rfl rfl<|gr rfl (by exact ZL (b:=1) rfl rfl (by omega)) ?_
   refine gr rfl (ZT rfl (fun _=>Zfw _ _ _)) ?_
   refine gm rfl rfl<|Zt (Zz 4 YM rfl rfl rfl rfl rfl rfl (by rfl) ?_)
   refine gas rfl rfl<|gA<|Zu<|Zx<|Zh<|Zh<|Zx<|Zh<|YF (.inl rfl) Tryz.results35 (YC Tryz.underlying69 rfl YM rfl (by rfl) (ZH 4 (off:=0) (k:=3) rfl rfl)) (YU rfl) [] (by decide) ?_
   refine ⟨?_,rfl⟩
   have he:Xz s=(⟨3,k,rP.1+1⟩,rP.2):=by
    unfold Xz; rw [if_neg (by rw [hlong]; decide),hrD,if_neg (by omega),hrR,if_neg (by omega),hrun,Zgi hx,if_neg (show ¬ stE s.ds.length K1 x≠0 by omega),hxd,hrP,if_pos (show rP.2≠0 by omega),if_pos (show rP.2≠0 by omega)]
   rw [he]
   rfl
  refine gA<|Zl rfl<|Zv<|ZI<|Ze<|Za<|gr rfl (by exact ZL (b:=1) rfl rfl (by omega)) ?_
  refine gm rfl rfl<|ZM<|Ze ?_
  exact ZR ((k+1,stK s.ds.length K1 x)) ⟨⟨by simp only; omega,by simp only; rw [hrun,Zgi hx,if_neg (by omega),hxd,hrP,if_neg (by omega)]⟩,by simp only; omega⟩ ⟨rfl,rfl,rfl,rfl,rfl,rfl,trivial⟩ ⟨[1,0,3,4,5],by decide,rfl⟩
 refine gA<|Zb<|Zl rfl<|Z1<|Zs<|Zs<|ZE<|Ze<|Zb<|Zb<|Za<|gr rfl (Zd rfl (XM _))<|gr rfl (Zi Tryz.underlying43 rfl rfl (by exact Zp 4 rfl rfl)) ?_
 refine gr rfl (Zi Tryz.underlying148 rfl rfl (by exact Zp 2 rfl rfl)) ?_
 refine gr rfl (Ws (fs:=[.tmp 105]) (cs:=[]) rfl rfl)<|Zt (Yi [1,0] [2,3,4] rfl (vf:=[]) (vc:=[]) rfl rfl Tryz.call85 (by decide) rfl (fun w how hc=>Zrp s b43 b41 K1 s.cs s.ca s.cc (hle.c) hle.cn hln.1 w hc (hS.c.atS how (by decide) (Zot (Ze0 how 1 rfl rfl) (Ze0 how 0 rfl rfl)))) ?_)
 rintro _ _ ⟨rfl,rfl⟩
 obtain ⟨rC,hrC⟩:∃ r,Xh (cpE s.ds.length) cpK K1 s.cs 0=r:=⟨_,rfl⟩
 rw [hrC]
 refine gm rfl rfl<|gr rfl (ZD rfl rfl)<|gr rfl (ZD rfl rfl)<|gas rfl rfl<|gas rfl rfl<|gA<|Zb<|Za<|gm rfl rfl<|gr rfl (Z4 rfl rfl) (Zw (fun h111=>?_) (fun h111=>?_))
 ·refine gA<|Zk rfl<|Zb<|Za<|gm rfl rfl<|gr rfl (ZT rfl (fun _=>W5 _ _)) ?_
  refine gm rfl rfl<|Zt (Zz 3 YM rfl rfl rfl rfl rfl rfl (by rfl) ?_)
  refine gas rfl rfl<|gA<|Zu<|Zh<|YF (.inl rfl) Tryz.results35 (YC Tryz.underlying69 rfl YM rfl (by rfl) (ZH 3 (off:=0) (k:=3) rfl rfl)) (YU rfl) [] (by decide) ?_
  refine ⟨?_,rfl⟩
  have he:Xz s=(⟨4,rC.1.1,0⟩,rC.1.2):=by
   unfold Xz; rw [if_neg (by rw [hlong]; decide),hrD,if_neg (by omega),hrR,if_neg (by omega),hrun,List.drop_eq_nil_of_le (show s.ss.length≤k by omega),show Zbe s K1 [] k=((0,0,0),K1) from rfl,if_neg (show ¬ (0:Int)≠0 by decide),hrC,if_pos h111]
  rw [he]
  rfl
 refine gA<|Zl rfl<|Zv<|Ze<|Zb<|Za<|gr rfl (ZT rfl (fun _=>JW)) ?_
 refine Zt (Zz 3 YM rfl rfl rfl rfl rfl rfl (by rfl) ?_)
 refine gas rfl rfl<|gA<|Zu<|YF (.inl rfl) Tryz.results35 (YC Tryz.underlying69 rfl YM rfl (by rfl) (ZH 3 (off:=0) (k:=3) rfl rfl)) (YU rfl) [] (by decide) ?_
 refine ⟨?_,rfl⟩
 have he:Xz s=(⟨0,0,0⟩,0):=by
  unfold Xz; rw [if_neg (by rw [hlong]; decide),hrD,if_neg (by omega),hrR,if_neg (by omega),hrun,List.drop_eq_nil_of_le (show s.ss.length≤k by omega),show Zbe s K1 [] k=((0,0,0),K1) from rfl,if_neg (show ¬ (0:Int)≠0 by decide),hrC,if_neg (by omega)]
 rw [he]
 rfl
theorem has_ok (r:Rk) (n:Int) (h1:-1000≤r.low) (h2:r.low≤1000) (h3:-1000≤r.count) (h4:r.count≤1000) (w0:World):Sp Tryz.prog 98 [r.val,.int .i64 n] w0 [] (RV (.bool (decide (r.low≤n) && decide (n<r.low+r.count)))):=by
 refine ZC Tryz.func98 rfl Tryz.ntmps98 rfl (Own.refl _) ?_
 simp only [ZV]
 refine Zb<|Za<|Zt (Z6 rfl rfl rfl (fun b2=>?_))
 refine gas rfl rfl<|gA<|Zb<|Za<|gm rfl rfl<|gr rfl (Zd rfl (Jn _))<|gr rfl (Zi Tryz.underlying3 rfl rfl (by exact Zp 0 rfl rfl)) ?_
 refine gr rfl (Xs rfl rfl) (Zw (fun h8=>?_) (fun h8=>?_))
 ·refine gm rfl rfl<|Zg rfl rfl<|Zm rfl (Zo rfl)<|Zg rfl rfl<|Zm rfl (Zd rfl (Jn _))<|Zg rfl rfl (Zm rfl (Zi Tryz.underlying3 rfl rfl (by exact Zp 0 rfl rfl)) ?_)
  refine Zg rfl rfl<|Zm rfl (Zd rfl (Jo _))<|Zg rfl rfl (Zm rfl (Zi Tryz.underlying3 rfl rfl (by exact Zp 0 rfl rfl)) ?_)
  refine Zg rfl rfl (Zm rfl (by exact XR rfl rfl (by omega) (by omega)) ?_)
  refine Zg rfl rfl<|Zm rfl (ZX rfl rfl)<|gr rfl (Zq rfl rfl)<|gas rfl rfl<|gA<|Zu<|Zy (.inl rfl) Tryz.results98 rfl [] (by decide) ?_
  refine ⟨congrArg Value.bool ?_,rfl⟩
  simp [*]
 refine gm rfl rfl<|Zj rfl rfl rfl<|Zj rfl rfl rfl<|Zj rfl rfl rfl<|Zj rfl rfl rfl<|Zj rfl rfl rfl<|Zj rfl rfl rfl<|Zj rfl rfl rfl<|gr rfl (Zn rfl rfl)<|gas rfl rfl<|gA<|Zu<|Zy (.inl rfl) Tryz.results98 rfl [] (by decide) ?_
 refine ⟨congrArg Value.bool ?_,rfl⟩
 simp [*]
theorem Zk5 (s:Org) (hle:OrgLe s) (w0:World) (hS:OrgIn s w0 []) (i:Nat) (hi:i<s.ds.length):Sp Tryz.prog 58 [s.val,natV i] w0 [] (RV (.int .i64 (Wt s.ds i))):=by
 obtain ⟨x,hx⟩:=get_some hi
 have hxd:=getD_some (d:=default) hx
 have hln:=hle.d
 refine ZC Tryz.func58 rfl Tryz.ntmps58 rfl (Own.refl _) ?_
 simp only [ZV]
 refine Zb<|Za<|Zt (Z6 rfl rfl rfl (fun b2=>?_))
 refine gas rfl rfl<|gA<|Zb<|Za<|gr rfl (Zd rfl (YS _))<|gr rfl (Zi Tryz.underlying40 rfl rfl (by exact Zp 0 rfl rfl)) ?_
 refine gm rfl rfl<|gr rfl (Z3 hS.d Tryz.underlying40 X2 rfl rfl (by omega) (by omega)) ?_
 refine gr rfl (Zr Tryz.underlying109 rfl X2 rfl (Vc hS.d (Yf Dv.cells 3 (fun _=>rfl) hx)) rfl) ?_
 refine Zt (ZU X2 rfl rfl (fun b5=>?_))
 refine Zt (Zz 0 X2 rfl rfl rfl rfl rfl rfl (by rfl) ?_)
 refine gA<|Zb<|Zb<|Za<|gr rfl (Zd rfl (Zbm _))<|gr rfl (Zi Tryz.underlying9 rfl rfl (by exact Zp 0 rfl rfl)) ?_
 refine Zt (ZJ rfl (vf:=[]) (vc:=[]) rfl rfl Tryz.call94 (fun w1 ho=>Zd0 x.name (hle.dn x (List.mem_of_getElem? hx)) w1) ?_)
 rintro _ _ ⟨rfl,rfl⟩
 refine Z0 (fun hn=>?_) (fun hn=>?_)
 ·refine gr rfl (rd_not rfl)<|gA<|Zl rfl<|Zv<|Ze<|Zb<|Zb<|Za<|gas rfl rfl<|gA<|ZB<|ZZ (ι:=Nat) [(1,_),(2,_),(5,_)] [_,_] (fun k=>k≤i∧∀ q,q<k→dvN s.ds q≠dvN s.ds i) (fun k Fr0=>((6,natV k)::Fr0)) (fun k Fr0=>Fr0) (fun k=>i - k) 0 (⟨Nat.zero_le _,fun q hq=>absurd hq (Nat.not_lt_zero q)⟩) ⟨rfl,rfl,rfl,rfl,trivial⟩ ⟨[0,1],by decide,rfl⟩ ?_
  rintro k ⟨hk,hall⟩
  refine Zb<|Zb<|Za<|gm rfl rfl<|gm rfl rfl<|gr rfl (ZX rfl rfl) (Zw (fun h18=>?_) (fun h18=>?_))
  ·obtain ⟨y,hy⟩:=get_some (show k<s.ds.length by omega)
   have hyd:=getD_some (d:=default) hy
   refine gA<|Zk rfl<|Zv<|Ze<|Zb<|ZB<|Zb<|ZO [0,1] true 8 rfl<|Zc 0 rfl rfl ⟨[0,1],by decide,rfl⟩ (Zf (Zd rfl (YS _))) ?_
   refine Zc 1 rfl rfl ⟨[0,1],by decide,rfl⟩ (Zf (Zi Tryz.underlying40 rfl rfl (by exact Zp 1 rfl rfl))) ?_
   refine Zc 2 rfl rfl ⟨[0,1],by decide,rfl⟩ (Zf (Zo rfl)) ?_
   refine Zc 3 rfl rfl ⟨[0,1],by decide,rfl⟩ (Zf (Z3 hS.d Tryz.underlying40 X2 rfl rfl (by omega) (by omega))) ?_
   refine Zc 4 rfl rfl ⟨[0,1],by decide,rfl⟩ (Zf (Zd rfl (Zbm _))) ?_
   refine Zc 5 rfl rfl ⟨[0,1],by decide,rfl⟩ (Zf (Zi Tryz.underlying9 rfl rfl (XS hS.d (Y0 Dv.cells 3 (fun _=>rfl) hy (j:=0) (by decide) rfl)))) ?_
   refine Zc 6 rfl rfl ⟨[0,1],by decide,rfl⟩ (Zf (Zd rfl (Zbm _))) ?_
   refine Zc 7 rfl rfl ⟨[0,1],by decide,rfl⟩ (Zf (Zi Tryz.underlying9 rfl rfl (by exact Zp 0 rfl rfl))) ?_
   refine Zc 8 rfl rfl ⟨[0,1],by decide,rfl⟩ (Zf (Zas Tryz.underlying9 (by kernel_rfl) rfl rfl)) ?_
   refine ZP (.inr ⟨[0,1],by decide,rfl⟩) ?_
   refine Ze<|Zge rfl (fun hq29=>?_) (fun hq29=>?_)
   ·refine Zb<|Za<|gas rfl rfl<|gA<|Zu<|Zx<|Zh<|Zh<|Zx<|Zh<|Zy (.inl rfl) Tryz.results58 rfl [] (by decide) ?_
    refine ⟨congrArg (Value.int .i64) (Eq.symm ?_),rfl⟩
    unfold Wt
    rw [if_neg (by rw [show nameB (dvN s.ds i)=true by unfold dvN; rw [hxd]; exact hn]; decide)]
    rw [if_pos (Zev (k:=k) (by omega) (by unfold dvN; rw [hyd,hxd]; simpa using hq29))]
   refine Zv<|ZI<|Ze<|Za<|gm rfl rfl<|gr rfl (by exact ZL (b:=1) rfl rfl (by omega)) ?_
   refine gas rfl rfl<|ZM<|Ze ?_
   exact ZR (k+1) ⟨⟨by omega,fun q hq=>by
    rcases Nat.lt_or_eq_of_le (Nat.le_of_lt_succ hq) with h | rfl
    ·exact hall q h
    ·unfold dvN; rw [hyd,hxd]; simpa using hq29⟩,by omega⟩ ⟨rfl,rfl,rfl,rfl,trivial⟩ ⟨[0,1],by decide,rfl⟩
  refine gA<|Zl rfl<|Z1<|Zs<|Zs<|ZE<|Ze<|Zb<|Zb<|Za<|gr rfl (Zd rfl (Vi _))<|gr rfl (Zi Tryz.underlying3 rfl rfl (by exact Zp 0 rfl rfl)) ?_
  refine Zt (ZJ rfl (vf:=[]) (vc:=[]) rfl rfl Tryz.call95 (fun w1 ho=>Zgh _ w1) ?_)
  rintro _ _ ⟨rfl,rfl⟩
  refine Z0 (fun hw32=>?_) (fun hw32=>?_)
  ·refine gr rfl (rd_not rfl)<|gm rfl rfl<|Zg rfl rfl<|Zm rfl (Zd rfl (VN _))<|Zg rfl rfl (Zm rfl (Zi Tryz.underlying3 rfl rfl (by exact Zp 0 rfl rfl)) ?_)
   refine Zg rfl rfl (ZJ rfl (vf:=[]) (vc:=[]) rfl rfl Tryz.call95 (fun w1 ho=>Zgh _ w1) ?_)
   rintro _ _ ⟨rfl,rfl⟩
   refine Z0 (fun hw37=>?_) (fun hw37=>?_)
   ·refine Zg rfl rfl<|Zm rfl (rd_not rfl)<|gr rfl (Zn rfl rfl)<|gm rfl rfl<|Zg rfl rfl<|Zm rfl (Zd rfl (Vi _))<|Zg rfl rfl (Zm rfl (Zi Tryz.underlying3 rfl rfl (by exact Zp 0 rfl rfl)) ?_)
    refine Zg rfl rfl<|Zm rfl (Zd rfl (VN _))<|Zg rfl rfl (Zm rfl (Zi Tryz.underlying3 rfl rfl (by exact Zp 0 rfl rfl)) ?_)
    refine Zg rfl rfl (Zm rfl (Yk rfl rfl) (Zw (fun h45=>?_) (fun h45=>?_)))
    ·refine gr rfl (Zn rfl rfl)<|gm rfl rfl<|Zj rfl rfl rfl<|Zj rfl rfl rfl<|Zj rfl rfl rfl<|Zj rfl rfl rfl<|Zj rfl rfl rfl<|Zj rfl rfl rfl<|Zj rfl rfl rfl<|gr rfl (Zq rfl rfl)<|gA<|Zk rfl<|Zb<|Za<|gas rfl rfl<|gA<|Zu<|Zh<|Zy (.inl rfl) Tryz.results58 rfl [] (by decide) ?_
     refine ⟨congrArg (Value.int .i64) (Eq.symm ?_),rfl⟩
     unfold Wt
     rw [if_neg (by rw [show nameB (dvN s.ds i)=true by unfold dvN; rw [hxd]; exact hn]; decide)]
     rw [if_neg (by rw [Yh (fun q hq=>hall q (by omega))]; decide)]
     rw [hxd]
     rw [if_pos]
     unfold VZ
     try simp only [Z7] at *
     simp only [Bool.not_eq_true',Bool.not_eq_false',Bool.and_eq_false_iff,Bool.and_eq_true,decide_eq_true_eq,decide_eq_false_iff_not] at *
     omega
    refine gr rfl (Zn rfl rfl)<|gm rfl rfl<|Zg rfl rfl<|Zm rfl (Zd rfl (VN _))<|Zg rfl rfl (Zm rfl (Zi Tryz.underlying3 rfl rfl (by exact Zp 0 rfl rfl)) ?_)
    refine Zg rfl rfl<|Zm rfl (Zd rfl (Vi _))<|Zg rfl rfl (Zm rfl (Zi Tryz.underlying3 rfl rfl (by exact Zp 0 rfl rfl)) ?_)
    refine Zg rfl rfl (Zm rfl (by exact WX rfl rfl (by simp only [Z7,Bool.and_eq_true,decide_eq_true_eq] at hw32 hw37; omega) (by simp only [Z7,Bool.and_eq_true,decide_eq_true_eq] at hw32 hw37; omega)) ?_)
    refine Zg rfl rfl (Zm rfl (by exact XR rfl rfl (by simp only [Z7,Bool.and_eq_true,decide_eq_true_eq] at hw32 hw37; omega) (by simp only [Z7,Bool.and_eq_true,decide_eq_true_eq] at hw32 hw37; omega)) ?_)
    refine Zg rfl rfl (Zm rfl (Yk rfl rfl) (Zw (fun h54=>?_) (fun h54=>?_)))
    ·refine gr rfl (Zn rfl rfl)<|gA<|Zk rfl<|Zb<|Za<|gas rfl rfl<|gA<|Zu<|Zh<|Zy (.inl rfl) Tryz.results58 rfl [] (by decide) ?_
     refine ⟨congrArg (Value.int .i64) (Eq.symm ?_),rfl⟩
     unfold Wt
     rw [if_neg (by rw [show nameB (dvN s.ds i)=true by unfold dvN; rw [hxd]; exact hn]; decide)]
     rw [if_neg (by rw [Yh (fun q hq=>hall q (by omega))]; decide)]
     rw [hxd]
     rw [if_pos]
     unfold VZ
     try simp only [Z7] at *
     simp only [Bool.not_eq_true',Bool.not_eq_false',Bool.and_eq_false_iff,Bool.and_eq_true,decide_eq_true_eq,decide_eq_false_iff_not] at *
     omega
    refine gr rfl (Zn rfl rfl)<|gA<|Zl rfl<|Zv<|Ze<|Zb<|Za<|gas rfl rfl<|gA<|Zu<|Zy (.inl rfl) Tryz.results58 rfl [] (by decide) ?_
    refine ⟨congrArg (Value.int .i64) (Eq.symm ?_),rfl⟩
    unfold Wt
    rw [if_neg (by rw [show nameB (dvN s.ds i)=true by unfold dvN; rw [hxd]; exact hn]; decide)]
    rw [if_neg (by rw [Yh (fun q hq=>hall q (by omega))]; decide)]
    rw [hxd]
    rw [if_neg]
    unfold VZ
    rw [Bool.not_eq_true]
    try simp only [Z7] at *
    simp only [Bool.not_eq_true',Bool.not_eq_false',Bool.and_eq_false_iff,Bool.and_eq_true,decide_eq_true_eq,decide_eq_false_iff_not] at *
    omega
   refine Zg rfl rfl<|Zm rfl (rd_not rfl)<|gr rfl (Zn rfl rfl)<|gm rfl rfl<|Zj rfl rfl rfl<|Zj rfl rfl rfl<|Zj rfl rfl rfl<|Zj rfl rfl rfl<|Zj rfl rfl rfl<|gr rfl (Zq rfl rfl)<|gm rfl rfl<|Zj rfl rfl rfl<|Zj rfl rfl rfl<|Zj rfl rfl rfl<|Zj rfl rfl rfl<|Zj rfl rfl rfl<|Zj rfl rfl rfl<|Zj rfl rfl rfl<|gr rfl (Zq rfl rfl)<|gA<|Zk rfl<|Zb<|Za<|gas rfl rfl<|ZM ?_
   refine Ze<|Zu<|Zh<|Zy (.inl rfl) Tryz.results58 rfl [] (by decide) ?_
   refine ⟨congrArg (Value.int .i64) (Eq.symm ?_),rfl⟩
   unfold Wt
   rw [if_neg (by rw [show nameB (dvN s.ds i)=true by unfold dvN; rw [hxd]; exact hn]; decide)]
   rw [if_neg (by rw [Yh (fun q hq=>hall q (by omega))]; decide)]
   rw [hxd]
   rw [if_pos]
   unfold VZ
   try simp only [Z7] at *
   simp only [Bool.not_eq_true',Bool.not_eq_false',Bool.and_eq_false_iff,Bool.and_eq_true,decide_eq_true_eq,decide_eq_false_iff_not] at *
   omega
  refine gr rfl (rd_not rfl)<|gm rfl rfl<|Zj rfl rfl rfl<|Zj rfl rfl rfl<|Zj rfl rfl rfl<|Zj rfl rfl rfl<|gr rfl (Zq rfl rfl)<|gm rfl rfl<|Zj rfl rfl rfl<|Zj rfl rfl rfl<|Zj rfl rfl rfl<|Zj rfl rfl rfl<|Zj rfl rfl rfl<|gr rfl (Zq rfl rfl)<|gm rfl rfl<|Zj rfl rfl rfl<|Zj rfl rfl rfl<|Zj rfl rfl rfl<|Zj rfl rfl rfl<|Zj rfl rfl rfl<|Zj rfl rfl rfl<|Zj rfl rfl rfl<|gr rfl (Zq rfl rfl)<|ZM<|Ze ?_
  refine Zk rfl<|Zb<|Za<|gas rfl rfl<|gA<|Zu<|Zh<|Zy (.inl rfl) Tryz.results58 rfl [] (by decide) ?_
  refine ⟨congrArg (Value.int .i64) (Eq.symm ?_),rfl⟩
  unfold Wt
  rw [if_neg (by rw [show nameB (dvN s.ds i)=true by unfold dvN; rw [hxd]; exact hn]; decide)]
  rw [if_neg (by rw [Yh (fun q hq=>hall q (by omega))]; decide)]
  rw [hxd]
  rw [if_pos]
  unfold VZ
  try simp only [Z7] at *
  simp only [Bool.not_eq_true',Bool.not_eq_false',Bool.and_eq_false_iff,Bool.and_eq_true,decide_eq_true_eq,decide_eq_false_iff_not] at *
  omega
 refine gr rfl (rd_not rfl)<|gA<|Zk rfl<|Zb<|Za<|gas rfl rfl<|gA<|Zu<|Zh<|Zy (.inl rfl) Tryz.results58 rfl [] (by decide) ?_
 refine ⟨congrArg (Value.int .i64) (Eq.symm ?_),rfl⟩
 unfold Wt
 rw [if_pos (show nameB (dvN s.ds i)=false by unfold dvN; rw [hxd]; exact hn)]
theorem rrank_ok (s:Org) (hle:OrgLe s) (w0:World) (hS:OrgIn s w0 []) (i:Nat) (hi:i<s.rs.length):Sp Tryz.prog 59 [s.val,natV i] w0 [] (RV (.int .i64 (X1 s.rs i))):=by
 obtain ⟨x,hx⟩:=get_some hi
 have hxd:=getD_some (d:=default) hx
 have hln:=hle.r
 refine ZC Tryz.func59 rfl Tryz.ntmps59 rfl (Own.refl _) ?_
 simp only [ZV]
 refine Zb<|Za<|Zt (Z6 rfl rfl rfl (fun b2=>?_))
 refine gas rfl rfl<|gA<|Zb<|Za<|gr rfl (Zd rfl (WD _))<|gr rfl (Zi Tryz.underlying41 rfl rfl (by exact Zp 0 rfl rfl)) ?_
 refine gm rfl rfl<|gr rfl (Z3 hS.r Tryz.underlying41 Wu rfl rfl (by omega) (by omega)) ?_
 refine gr rfl (Zr Tryz.underlying111 rfl Wu rfl (Vc hS.r (Yf Rk.cells 6 (fun _=>rfl) hx)) rfl) ?_
 refine Zt (ZU Wu rfl rfl (fun b5=>?_))
 refine Zt (Zz 0 Wu rfl rfl rfl rfl rfl rfl (by rfl) ?_)
 refine gA<|Zb<|Zb<|Za<|gr rfl (Zd rfl (Zbn _))<|gr rfl (Zi Tryz.underlying9 rfl rfl (by exact Zp 0 rfl rfl)) ?_
 refine Zt (ZJ rfl (vf:=[]) (vc:=[]) rfl rfl Tryz.call94 (fun w1 ho=>Zd0 x.name (hle.rn x (List.mem_of_getElem? hx)) w1) ?_)
 rintro _ _ ⟨rfl,rfl⟩
 refine Z0 (fun hn=>?_) (fun hn=>?_)
 ·refine gr rfl (rd_not rfl)<|gA<|Zl rfl<|Zv<|Ze<|Zb<|Zb<|Za<|gas rfl rfl<|gA<|ZB<|ZZ (ι:=Nat) [(1,_),(2,_),(5,_)] [_,_] (fun k=>k≤i∧∀ q,q<k→rkN s.rs q≠rkN s.rs i) (fun k Fr0=>((6,natV k)::Fr0)) (fun k Fr0=>Fr0) (fun k=>i - k) 0 (⟨Nat.zero_le _,fun q hq=>absurd hq (Nat.not_lt_zero q)⟩) ⟨rfl,rfl,rfl,rfl,trivial⟩ ⟨[0,1],by decide,rfl⟩ ?_
  rintro k ⟨hk,hall⟩
  refine Zb<|Zb<|Za<|gm rfl rfl<|gm rfl rfl<|gr rfl (ZX rfl rfl) (Zw (fun h18=>?_) (fun h18=>?_))
  ·obtain ⟨y,hy⟩:=get_some (show k<s.rs.length by omega)
   have hyd:=getD_some (d:=default) hy
   refine gA<|Zk rfl<|Zv<|Ze<|Zb<|ZB<|Zb<|ZO [0,1] true 8 rfl<|Zc 0 rfl rfl ⟨[0,1],by decide,rfl⟩ (Zf (Zd rfl (WD _))) ?_
   refine Zc 1 rfl rfl ⟨[0,1],by decide,rfl⟩ (Zf (Zi Tryz.underlying41 rfl rfl (by exact Zp 1 rfl rfl))) ?_
   refine Zc 2 rfl rfl ⟨[0,1],by decide,rfl⟩ (Zf (Zo rfl)) ?_
   refine Zc 3 rfl rfl ⟨[0,1],by decide,rfl⟩ (Zf (Z3 hS.r Tryz.underlying41 Wu rfl rfl (by omega) (by omega))) ?_
   refine Zc 4 rfl rfl ⟨[0,1],by decide,rfl⟩ (Zf (Zd rfl (Zbn _))) ?_
   refine Zc 5 rfl rfl ⟨[0,1],by decide,rfl⟩ (Zf (Zi Tryz.underlying9 rfl rfl (XS hS.r (Y0 Rk.cells 6 (fun _=>rfl) hy (j:=0) (by decide) rfl)))) ?_
   refine Zc 6 rfl rfl ⟨[0,1],by decide,rfl⟩ (Zf (Zd rfl (Zbn _))) ?_
   refine Zc 7 rfl rfl ⟨[0,1],by decide,rfl⟩ (Zf (Zi Tryz.underlying9 rfl rfl (by exact Zp 0 rfl rfl))) ?_
   refine Zc 8 rfl rfl ⟨[0,1],by decide,rfl⟩ (Zf (Zas Tryz.underlying9 (by kernel_rfl) rfl rfl)) ?_
   refine ZP (.inr ⟨[0,1],by decide,rfl⟩) ?_
   refine Ze<|Zge rfl (fun hq29=>?_) (fun hq29=>?_)
   ·refine Zb<|Za<|gas rfl rfl<|gA<|Zu<|Zx<|Zh<|Zh<|Zx<|Zh<|Zy (.inl rfl) Tryz.results59 rfl [] (by decide) ?_
    refine ⟨congrArg (Value.int .i64) (Eq.symm ?_),rfl⟩
    unfold X1
    rw [if_neg (by rw [show nameB (rkN s.rs i)=true by unfold rkN; rw [hxd]; exact hn]; decide)]
    rw [if_pos (Zev (k:=k) (by omega) (by unfold rkN; rw [hyd,hxd]; simpa using hq29))]
   refine Zv<|ZI<|Ze<|Za<|gm rfl rfl<|gr rfl (by exact ZL (b:=1) rfl rfl (by omega)) ?_
   refine gas rfl rfl<|ZM<|Ze ?_
   exact ZR (k+1) ⟨⟨by omega,fun q hq=>by
    rcases Nat.lt_or_eq_of_le (Nat.le_of_lt_succ hq) with h | rfl
    ·exact hall q h
    ·unfold rkN; rw [hyd,hxd]; simpa using hq29⟩,by omega⟩ ⟨rfl,rfl,rfl,rfl,trivial⟩ ⟨[0,1],by decide,rfl⟩
  refine gA<|Zl rfl<|Z1<|Zs<|Zs<|ZE<|Ze<|Zb<|Zb<|Za<|gr rfl (Zd rfl (Zhf _))<|gr rfl (Zi Tryz.underlying3 rfl rfl (by exact Zp 0 rfl rfl)) ?_
  refine gr rfl (ZX rfl rfl) (Zw (fun h32=>?_) (fun h32=>?_))
  ·refine gm rfl rfl<|Zj rfl rfl rfl<|Zj rfl rfl rfl<|Zj rfl rfl rfl<|gr rfl (Zq rfl rfl)<|gm rfl rfl<|Zj rfl rfl rfl<|Zj rfl rfl rfl<|Zj rfl rfl rfl<|Zj rfl rfl rfl<|gr rfl (Zq rfl rfl)<|gA<|Zk rfl<|Zb<|Za<|gas rfl rfl<|gA<|Zu<|Zh<|Zy (.inl rfl) Tryz.results59 rfl [] (by decide) ?_
   refine ⟨congrArg (Value.int .i64) (Eq.symm ?_),rfl⟩
   unfold X1
   rw [if_neg (by rw [show nameB (rkN s.rs i)=true by unfold rkN; rw [hxd]; exact hn]; decide)]
   rw [if_neg (by rw [Yh (fun q hq=>hall q (by omega))]; decide)]
   rw [hxd]
   rw [if_pos]
   unfold Jj
   (rw [decide_eq_false (by omega)]; simp; done)
  refine gm rfl rfl<|Zg rfl rfl<|Zm rfl (Zd rfl (Zhf _))<|Zg rfl rfl (Zm rfl (Zi Tryz.underlying3 rfl rfl (by exact Zp 0 rfl rfl)) ?_)
  refine Zg rfl rfl (Zm rfl (Yk rfl rfl) (Zw (fun h36=>?_) (fun h36=>?_)))
  ·refine gr rfl (Zn rfl rfl)<|gm rfl rfl<|Zj rfl rfl rfl<|Zj rfl rfl rfl<|Zj rfl rfl rfl<|Zj rfl rfl rfl<|gr rfl (Zq rfl rfl)<|gA<|Zk rfl<|Zb<|Za<|gas rfl rfl<|gA<|Zu<|Zh<|Zy (.inl rfl) Tryz.results59 rfl [] (by decide) ?_
   refine ⟨congrArg (Value.int .i64) (Eq.symm ?_),rfl⟩
   unfold X1
   rw [if_neg (by rw [show nameB (rkN s.rs i)=true by unfold rkN; rw [hxd]; exact hn]; decide)]
   rw [if_neg (by rw [Yh (fun q hq=>hall q (by omega))]; decide)]
   rw [hxd]
   rw [if_pos]
   unfold Jj
   (simp [*]; done)
  refine gr rfl (Zn rfl rfl)<|gm rfl rfl<|Zg rfl rfl<|Zm rfl (Zd rfl (Zmf _))<|Zg rfl rfl (Zm rfl (Zr Tryz.underlying94 rfl Jl rfl (by exact ZH 0 (off:=2) (k:=2) rfl rfl) rfl) ?_)
  refine Zg rfl rfl (ZJ rfl (vf:=[]) (vc:=[]) rfl rfl Tryz.call96 (fun w1 ho=>Zjl x.num x.den w1) ?_)
  rintro _ _ ⟨rfl,rfl⟩
  refine Z0 (fun hv=>?_) (fun hv=>?_)
  ·refine Zg rfl rfl<|Zm rfl (rd_not rfl)<|gr rfl (Zn rfl rfl)<|gA<|Zl rfl<|Zv<|Ze<|Zb<|Zb<|Za<|gr rfl (Zd rfl (Jo _))<|gr rfl (Zi Tryz.underlying3 rfl rfl (by exact Zp 0 rfl rfl)) ?_
   refine gr rfl (ZX rfl rfl) (Zw (fun h46=>?_) (fun h46=>?_))
   ·refine gm rfl rfl<|Zj rfl rfl rfl<|Zj rfl rfl rfl<|Zj rfl rfl rfl<|gr rfl (Zq rfl rfl)<|gm rfl rfl<|Zj rfl rfl rfl<|Zj rfl rfl rfl<|Zj rfl rfl rfl<|Zj rfl rfl rfl<|gr rfl (Zq rfl rfl)<|gm rfl rfl<|Zj rfl rfl rfl<|Zj rfl rfl rfl<|Zj rfl rfl rfl<|Zj rfl rfl rfl<|Zj rfl rfl rfl<|Zj rfl rfl rfl<|Zj rfl rfl rfl<|Zj rfl rfl rfl<|gr rfl (Zq rfl rfl)<|gA<|Zk rfl<|Zb ?_
    refine Za<|gas rfl rfl<|gA<|Zu<|Zh<|Zy (.inl rfl) Tryz.results59 rfl [] (by decide) ?_
    refine ⟨congrArg (Value.int .i64) (Eq.symm ?_),rfl⟩
    unfold X1
    rw [if_neg (by rw [show nameB (rkN s.rs i)=true by unfold rkN; rw [hxd]; exact hn]; decide)]
    rw [if_neg (by rw [Yh (fun q hq=>hall q (by omega))]; decide)]
    rw [hxd]
    rw [if_neg (by unfold Jj; rw [hv]; simp; omega)]
    rw [if_pos]
    unfold VM
    try simp only [Z7] at *
    simp only [Bool.not_eq_true',Bool.not_eq_false',Bool.and_eq_false_iff,Bool.and_eq_true,decide_eq_true_eq,decide_eq_false_iff_not] at *
    omega
   refine gm rfl rfl<|Zg rfl rfl<|Zm rfl (Zd rfl (Jo _))<|Zg rfl rfl (Zm rfl (Zi Tryz.underlying3 rfl rfl (by exact Zp 0 rfl rfl)) ?_)
   refine Zg rfl rfl (Zm rfl (Yk rfl rfl) (Zw (fun h50=>?_) (fun h50=>?_)))
   ·refine gr rfl (Zn rfl rfl)<|gm rfl rfl<|Zj rfl rfl rfl<|Zj rfl rfl rfl<|Zj rfl rfl rfl<|Zj rfl rfl rfl<|gr rfl (Zq rfl rfl)<|gm rfl rfl<|Zj rfl rfl rfl<|Zj rfl rfl rfl<|Zj rfl rfl rfl<|Zj rfl rfl rfl<|Zj rfl rfl rfl<|Zj rfl rfl rfl<|Zj rfl rfl rfl<|Zj rfl rfl rfl<|gr rfl (Zq rfl rfl)<|gA<|Zk rfl<|Zb<|Za<|gas rfl rfl<|ZM<|Ze ?_
    refine Zu<|Zh<|Zy (.inl rfl) Tryz.results59 rfl [] (by decide) ?_
    refine ⟨congrArg (Value.int .i64) (Eq.symm ?_),rfl⟩
    unfold X1
    rw [if_neg (by rw [show nameB (rkN s.rs i)=true by unfold rkN; rw [hxd]; exact hn]; decide)]
    rw [if_neg (by rw [Yh (fun q hq=>hall q (by omega))]; decide)]
    rw [hxd]
    rw [if_neg (by unfold Jj; rw [hv]; simp; omega)]
    rw [if_pos]
    unfold VM
    try simp only [Z7] at *
    simp only [Bool.not_eq_true',Bool.not_eq_false',Bool.and_eq_false_iff,Bool.and_eq_true,decide_eq_true_eq,decide_eq_false_iff_not] at *
    omega
   refine gr rfl (Zn rfl rfl)<|gm rfl rfl<|Zg rfl rfl<|Zm rfl (Zd rfl (Jn _))<|Zg rfl rfl (Zm rfl (Zi Tryz.underlying3 rfl rfl (by exact Zp 0 rfl rfl)) ?_)
   refine Zg rfl rfl (ZJ rfl (vf:=[]) (vc:=[]) rfl rfl Tryz.call95 (fun w1 ho=>Zgh _ w1) ?_)
   rintro _ _ ⟨rfl,rfl⟩
   refine Z0 (fun hw55=>?_) (fun hw55=>?_)
   ·refine Zg rfl rfl<|Zm rfl (rd_not rfl)<|gr rfl (Zn rfl rfl)<|gm rfl rfl<|Zg rfl rfl<|Zm rfl (Zd rfl (Jn _))<|Zg rfl rfl (Zm rfl (Zi Tryz.underlying3 rfl rfl (by exact Zp 0 rfl rfl)) ?_)
    refine Zg rfl rfl<|Zm rfl (Zd rfl (Jo _))<|Zg rfl rfl (Zm rfl (Zi Tryz.underlying3 rfl rfl (by exact Zp 0 rfl rfl)) ?_)
    refine Zg rfl rfl (Zm rfl (by exact XR rfl rfl (by simp only [Z7,Bool.and_eq_true,decide_eq_true_eq] at hw55; omega) (by simp only [Z7,Bool.and_eq_true,decide_eq_true_eq] at hw55; omega)) ?_)
    refine Zg rfl rfl (Zm rfl (by exact WX rfl rfl (by simp only [Z7,Bool.and_eq_true,decide_eq_true_eq] at hw55; omega) (by simp only [Z7,Bool.and_eq_true,decide_eq_true_eq] at hw55; omega)) ?_)
    refine Zg rfl rfl (ZJ rfl (vf:=[]) (vc:=[]) rfl rfl Tryz.call95 (fun w1 ho=>Zgh _ w1) ?_)
    rintro _ _ ⟨rfl,rfl⟩
    refine Z0 (fun hw65=>?_) (fun hw65=>?_)
    ·refine Zg rfl rfl<|Zm rfl (rd_not rfl)<|gr rfl (Zn rfl rfl)<|gA<|Zl rfl<|Zv<|Ze<|Zb<|Za<|gas rfl rfl<|gA<|Zu<|Zy (.inl rfl) Tryz.results59 rfl [] (by decide) ?_
     refine ⟨congrArg (Value.int .i64) (Eq.symm ?_),rfl⟩
     unfold X1
     rw [if_neg (by rw [show nameB (rkN s.rs i)=true by unfold rkN; rw [hxd]; exact hn]; decide)]
     rw [if_neg (by rw [Yh (fun q hq=>hall q (by omega))]; decide)]
     rw [hxd]
     rw [if_neg (by unfold Jj; rw [hv]; simp; omega)]
     rw [if_neg]
     unfold VM
     rw [Bool.not_eq_true]
     try simp only [Z7] at *
     simp only [Bool.not_eq_true',Bool.not_eq_false',Bool.and_eq_false_iff,Bool.and_eq_true,decide_eq_true_eq,decide_eq_false_iff_not] at *
     omega
    refine Zg rfl rfl<|Zm rfl (rd_not rfl)<|gr rfl (Zn rfl rfl)<|gA<|Zk rfl<|Zb<|Za<|gas rfl rfl<|gA<|Zu<|Zh<|Zy (.inl rfl) Tryz.results59 rfl [] (by decide) ?_
    refine ⟨congrArg (Value.int .i64) (Eq.symm ?_),rfl⟩
    unfold X1
    rw [if_neg (by rw [show nameB (rkN s.rs i)=true by unfold rkN; rw [hxd]; exact hn]; decide)]
    rw [if_neg (by rw [Yh (fun q hq=>hall q (by omega))]; decide)]
    rw [hxd]
    rw [if_neg (by unfold Jj; rw [hv]; simp; omega)]
    rw [if_pos]
    unfold VM
    try simp only [Z7] at *
    simp only [Bool.not_eq_true',Bool.not_eq_false',Bool.and_eq_false_iff,Bool.and_eq_true,decide_eq_true_eq,decide_eq_false_iff_not] at *
    omega
   refine Zg rfl rfl<|Zm rfl (rd_not rfl)<|gr rfl (Zn rfl rfl)<|gm rfl rfl<|Zj rfl rfl rfl<|Zj rfl rfl rfl<|Zj rfl rfl rfl<|Zj rfl rfl rfl<|Zj rfl rfl rfl<|Zj rfl rfl rfl<|Zj rfl rfl rfl<|Zj rfl rfl rfl<|gr rfl (Zq rfl rfl)<|gA<|Zk rfl<|Zb<|Za<|gas rfl rfl<|gA<|Zu<|Zh<|Zy (.inl rfl) Tryz.results59 rfl [] (by decide) ?_
   refine ⟨congrArg (Value.int .i64) (Eq.symm ?_),rfl⟩
   unfold X1
   rw [if_neg (by rw [show nameB (rkN s.rs i)=true by unfold rkN; rw [hxd]; exact hn]; decide)]
   rw [if_neg (by rw [Yh (fun q hq=>hall q (by omega))]; decide)]
   rw [hxd]
   rw [if_neg (by unfold Jj; rw [hv]; simp; omega)]
   rw [if_pos]
   unfold VM
   try simp only [Z7] at *
   simp only [Bool.not_eq_true',Bool.not_eq_false',Bool.and_eq_false_iff,Bool.and_eq_true,decide_eq_true_eq,decide_eq_false_iff_not] at *
   omega
  refine Zg rfl rfl<|Zm rfl (rd_not rfl)<|gr rfl (Zn rfl rfl)<|gA<|Zk rfl<|Zb<|Za<|gas rfl rfl<|gA<|Zu<|Zh<|Zy (.inl rfl) Tryz.results59 rfl [] (by decide) ?_
  refine ⟨congrArg (Value.int .i64) (Eq.symm ?_),rfl⟩
  unfold X1
  rw [if_neg (by rw [show nameB (rkN s.rs i)=true by unfold rkN; rw [hxd]; exact hn]; decide)]
  rw [if_neg (by rw [Yh (fun q hq=>hall q (by omega))]; decide)]
  rw [hxd]
  rw [if_pos]
  unfold Jj
  (rw [hv]; simp; done)
 refine gr rfl (rd_not rfl)<|gA<|Zk rfl<|Zb<|Za<|gas rfl rfl<|gA<|Zu<|Zh<|Zy (.inl rfl) Tryz.results59 rfl [] (by decide) ?_
 refine ⟨congrArg (Value.int .i64) (Eq.symm ?_),rfl⟩
 unfold X1
 rw [if_pos (show nameB (rkN s.rs i)=false by unfold rkN; rw [hxd]; exact hn)]
theorem Zmz (s:Org) (hle:OrgLe s) (w0:World) (hS:OrgIn s w0 []) (i:Nat) (hi:i<s.cs.length):Sp Tryz.prog 62 [s.val,natV i] w0 [] (RV (.int .i64 (YW s.ds.length s.cs i))):=by
 obtain ⟨x,hx⟩:=get_some hi
 have hxd:=getD_some (d:=default) hx
 have hln:=hle.c
 refine ZC Tryz.func62 rfl Tryz.ntmps62 rfl (Own.refl _) ?_
 simp only [ZV]
 refine Zb<|Za<|Zt (Z6 rfl rfl rfl (fun b2=>?_))
 refine gas rfl rfl<|gA<|Zb<|Za<|gr rfl (Zd rfl (XM _))<|gr rfl (Zi Tryz.underlying43 rfl rfl (by exact Zp 0 rfl rfl)) ?_
 refine gm rfl rfl<|gr rfl (Z3 hS.c Tryz.underlying43 WZ rfl rfl (by omega) (by omega)) ?_
 refine gr rfl (Zr Tryz.underlying113 rfl WZ rfl (Vc hS.c (Yf Cp.cells 6 (fun _=>rfl) hx)) rfl) ?_
 refine Zt (ZU WZ rfl rfl (fun b5=>?_))
 refine Zt (Zz 0 WZ rfl rfl rfl rfl rfl rfl (by rfl) ?_)
 refine gA<|Zb<|Zb<|Za<|gr rfl (Zd rfl (Zbo _))<|gr rfl (Zi Tryz.underlying9 rfl rfl (by exact Zp 0 rfl rfl)) ?_
 refine Zt (ZJ rfl (vf:=[]) (vc:=[]) rfl rfl Tryz.call94 (fun w1 ho=>Zd0 x.name (hle.cn x (List.mem_of_getElem? hx)) w1) ?_)
 rintro _ _ ⟨rfl,rfl⟩
 refine Z0 (fun hn=>?_) (fun hn=>?_)
 ·refine gr rfl (rd_not rfl)<|gA<|Zl rfl<|Zv<|Ze<|Zb<|Zb<|Za<|gas rfl rfl<|gA<|ZB<|ZZ (ι:=Nat) [(1,_),(2,_),(5,_)] [_,_] (fun k=>k≤i∧∀ q,q<k→cpN s.cs q≠cpN s.cs i) (fun k Fr0=>((6,natV k)::Fr0)) (fun k Fr0=>Fr0) (fun k=>i - k) 0 (⟨Nat.zero_le _,fun q hq=>absurd hq (Nat.not_lt_zero q)⟩) ⟨rfl,rfl,rfl,rfl,trivial⟩ ⟨[0,1],by decide,rfl⟩ ?_
  rintro k ⟨hk,hall⟩
  refine Zb<|Zb<|Za<|gm rfl rfl<|gm rfl rfl<|gr rfl (ZX rfl rfl) (Zw (fun h18=>?_) (fun h18=>?_))
  ·obtain ⟨y,hy⟩:=get_some (show k<s.cs.length by omega)
   have hyd:=getD_some (d:=default) hy
   refine gA<|Zk rfl<|Zv<|Ze<|Zb<|ZB<|Zb<|ZO [0,1] true 8 rfl<|Zc 0 rfl rfl ⟨[0,1],by decide,rfl⟩ (Zf (Zd rfl (XM _))) ?_
   refine Zc 1 rfl rfl ⟨[0,1],by decide,rfl⟩ (Zf (Zi Tryz.underlying43 rfl rfl (by exact Zp 1 rfl rfl))) ?_
   refine Zc 2 rfl rfl ⟨[0,1],by decide,rfl⟩ (Zf (Zo rfl)) ?_
   refine Zc 3 rfl rfl ⟨[0,1],by decide,rfl⟩ (Zf (Z3 hS.c Tryz.underlying43 WZ rfl rfl (by omega) (by omega))) ?_
   refine Zc 4 rfl rfl ⟨[0,1],by decide,rfl⟩ (Zf (Zd rfl (Zbo _))) ?_
   refine Zc 5 rfl rfl ⟨[0,1],by decide,rfl⟩ (Zf (Zi Tryz.underlying9 rfl rfl (XS hS.c (Y0 Cp.cells 6 (fun _=>rfl) hy (j:=0) (by decide) rfl)))) ?_
   refine Zc 6 rfl rfl ⟨[0,1],by decide,rfl⟩ (Zf (Zd rfl (Zbo _))) ?_
   refine Zc 7 rfl rfl ⟨[0,1],by decide,rfl⟩ (Zf (Zi Tryz.underlying9 rfl rfl (by exact Zp 0 rfl rfl))) ?_
   refine Zc 8 rfl rfl ⟨[0,1],by decide,rfl⟩ (Zf (Zas Tryz.underlying9 (by kernel_rfl) rfl rfl)) ?_
   refine ZP (.inr ⟨[0,1],by decide,rfl⟩) ?_
   refine Ze<|Zge rfl (fun hq29=>?_) (fun hq29=>?_)
   ·refine Zb<|Za<|gas rfl rfl<|gA<|Zu<|Zx<|Zh<|Zh<|Zx<|Zh<|Zy (.inl rfl) Tryz.results62 rfl [] (by decide) ?_
    refine ⟨congrArg (Value.int .i64) (Eq.symm ?_),rfl⟩
    unfold YW
    rw [if_neg (by rw [show nameB (cpN s.cs i)=true by unfold cpN; rw [hxd]; exact hn]; decide)]
    rw [if_pos (Zev (k:=k) (by omega) (by unfold cpN; rw [hyd,hxd]; simpa using hq29))]
   refine Zv<|ZI<|Ze<|Za<|gm rfl rfl<|gr rfl (by exact ZL (b:=1) rfl rfl (by omega)) ?_
   refine gas rfl rfl<|ZM<|Ze ?_
   exact ZR (k+1) ⟨⟨by omega,fun q hq=>by
    rcases Nat.lt_or_eq_of_le (Nat.le_of_lt_succ hq) with h | rfl
    ·exact hall q h
    ·unfold cpN; rw [hyd,hxd]; simpa using hq29⟩,by omega⟩ ⟨rfl,rfl,rfl,rfl,trivial⟩ ⟨[0,1],by decide,rfl⟩
  refine gA<|Zl rfl<|Z1<|Zs<|Zs<|ZE<|Ze<|Zb<|Zb<|Za<|gr rfl (Zd rfl (Wd _))<|gr rfl (Zi Tryz.underlying3 rfl rfl (by exact Zp 0 rfl rfl)) ?_
  refine gr rfl (Zd rfl (YS _))<|gr rfl (Zi Tryz.underlying40 rfl rfl (by exact Zp 1 rfl rfl)) ?_
  refine gr rfl (ZA Tryz.underlying40 rfl)<|Zt (ZJ rfl (vf:=[]) (vc:=[]) rfl rfl Tryz.call97 (fun w1 ho=>Zdz _ _ w1) ?_)
  rintro _ _ ⟨rfl,rfl⟩
  refine Z0 (fun hw35=>?_) (fun hw35=>?_)
  ·refine gr rfl (rd_not rfl)<|gm rfl rfl<|Zg rfl rfl<|Zm rfl (Zd rfl (Vj _))<|Zg rfl rfl (Zm rfl (Zi Tryz.underlying3 rfl rfl (by exact Zp 0 rfl rfl)) ?_)
   refine Zg rfl rfl<|Zm rfl (Zd rfl (YS _))<|Zg rfl rfl (Zm rfl (Zi Tryz.underlying40 rfl rfl (by exact Zp 1 rfl rfl)) ?_)
   refine Zg rfl rfl<|Zm rfl (ZA Tryz.underlying40 rfl)<|Zg rfl rfl (ZJ rfl (vf:=[]) (vc:=[]) rfl rfl Tryz.call97 (fun w1 ho=>Zdz _ _ w1) ?_)
   rintro _ _ ⟨rfl,rfl⟩
   refine Z0 (fun hw43=>?_) (fun hw43=>?_)
   ·refine Zg rfl rfl<|Zm rfl (rd_not rfl)<|gr rfl (Zn rfl rfl)<|gA<|Zl rfl<|Zv<|Ze<|Zb<|Zb<|Za<|gr rfl (Zd rfl (We _))<|gr rfl (Zi Tryz.underlying3 rfl rfl (by exact Zp 0 rfl rfl)) ?_
    refine gr rfl (Z4 rfl rfl) (Zw (fun h48=>?_) (fun h48=>?_))
    ·refine gm rfl rfl<|Zg rfl rfl<|Zm rfl (Zd rfl (We _))<|Zg rfl rfl (Zm rfl (Zi Tryz.underlying3 rfl rfl (by exact Zp 0 rfl rfl)) ?_)
     refine Zg rfl rfl (Zm rfl (Z4 rfl rfl) (Zw (fun h52=>?_) (fun h52=>?_)))
     ·refine gr rfl (Zq rfl rfl)<|gm rfl rfl<|Zg rfl rfl<|Zm rfl (Zd rfl (We _))<|Zg rfl rfl (Zm rfl (Zi Tryz.underlying3 rfl rfl (by exact Zp 0 rfl rfl)) ?_)
      refine Zg rfl rfl (Zm rfl (Z4 rfl rfl) (Zw (fun h57=>?_) (fun h57=>?_)))
      ·refine gr rfl (Zq rfl rfl)<|gm rfl rfl<|Zj rfl rfl rfl<|Zj rfl rfl rfl<|Zj rfl rfl rfl<|gr rfl (Zq rfl rfl)<|gm rfl rfl<|Zj rfl rfl rfl<|Zj rfl rfl rfl<|Zj rfl rfl rfl<|gr rfl (Zq rfl rfl)<|gm rfl rfl<|Zj rfl rfl rfl<|Zj rfl rfl rfl<|Zj rfl rfl rfl<|Z2 rfl rfl rfl<|Z2 rfl rfl rfl<|Z2 rfl rfl rfl<|Zj rfl rfl rfl<|gr rfl (Zq rfl rfl)<|gm rfl rfl<|Zj rfl rfl rfl<|Zj rfl rfl rfl<|Zj rfl rfl rfl<|Zj rfl rfl rfl ?_
       refine Zj rfl rfl rfl<|Zj rfl rfl rfl<|Z2 rfl rfl rfl<|Z2 rfl rfl rfl<|Z2 rfl rfl rfl<|Zj rfl rfl rfl<|gr rfl (Zq rfl rfl)<|gA<|Zk rfl<|Zb<|Za<|gas rfl rfl<|gA<|Zu<|Zh<|Zy (.inl rfl) Tryz.results62 rfl [] (by decide) ?_
       refine ⟨congrArg (Value.int .i64) (Eq.symm ?_),rfl⟩
       unfold YW
       rw [if_neg (by rw [show nameB (cpN s.cs i)=true by unfold cpN; rw [hxd]; exact hn]; decide)]
       rw [if_neg (by rw [Yh (fun q hq=>hall q (by omega))]; decide)]
       rw [hxd]
       rw [if_neg (by simp [*])]
       rw [if_pos]
       (simp [YZ, *]; done)
      refine gr rfl (Zq rfl rfl)<|gm rfl rfl<|Zg rfl rfl<|Zm rfl (Zd rfl (XF _))<|Zg rfl rfl (Zm rfl (Zi Tryz.underlying3 rfl rfl (by exact Zp 0 rfl rfl)) ?_)
      refine Zg rfl rfl (Zm rfl (ZX rfl rfl) (Zw (fun h62=>?_) (fun h62=>?_)))
      ·refine gr rfl (Zn rfl rfl)<|gm rfl rfl<|Zj rfl rfl rfl<|Zj rfl rfl rfl<|Zj rfl rfl rfl<|gr rfl (Zq rfl rfl)<|gm rfl rfl<|Zj rfl rfl rfl<|Zj rfl rfl rfl<|Zj rfl rfl rfl<|Z2 rfl rfl rfl<|Z2 rfl rfl rfl<|Z2 rfl rfl rfl<|Zj rfl rfl rfl<|gr rfl (Zq rfl rfl)<|gm rfl rfl<|Zj rfl rfl rfl<|Zj rfl rfl rfl<|Zj rfl rfl rfl<|Zj rfl rfl rfl<|Zj rfl rfl rfl<|Zj rfl rfl rfl<|Z2 rfl rfl rfl<|Z2 rfl rfl rfl<|Z2 rfl rfl rfl ?_
       refine Zj rfl rfl rfl<|gr rfl (Zq rfl rfl)<|gA<|Zk rfl<|Zb<|Za<|gas rfl rfl<|gA<|Zu<|Zh<|Zy (.inl rfl) Tryz.results62 rfl [] (by decide) ?_
       refine ⟨congrArg (Value.int .i64) (Eq.symm ?_),rfl⟩
       unfold YW
       rw [if_neg (by rw [show nameB (cpN s.cs i)=true by unfold cpN; rw [hxd]; exact hn]; decide)]
       rw [if_neg (by rw [Yh (fun q hq=>hall q (by omega))]; decide)]
       rw [hxd]
       rw [if_neg (by simp [*])]
       rw [if_pos]
       (simp [YZ, *]; done)
      refine gr rfl (Zn rfl rfl)<|gm rfl rfl<|Zg rfl rfl<|Zm rfl (Zd rfl (XF _))<|Zg rfl rfl (Zm rfl (Zi Tryz.underlying3 rfl rfl (by exact Zp 0 rfl rfl)) ?_)
      refine Zg rfl rfl (Zm rfl (Yk rfl rfl) (Zw (fun h67=>?_) (fun h67=>?_)))
      ·refine gr rfl (Zn rfl rfl)<|gm rfl rfl<|Zj rfl rfl rfl<|Zj rfl rfl rfl<|Zj rfl rfl rfl<|Z2 rfl rfl rfl<|Z2 rfl rfl rfl<|Z2 rfl rfl rfl<|Zj rfl rfl rfl<|gr rfl (Zq rfl rfl)<|gm rfl rfl<|Zj rfl rfl rfl<|Zj rfl rfl rfl<|Zj rfl rfl rfl<|Zj rfl rfl rfl<|Zj rfl rfl rfl<|Zj rfl rfl rfl<|Z2 rfl rfl rfl<|Z2 rfl rfl rfl<|Z2 rfl rfl rfl<|Zj rfl rfl rfl<|gr rfl (Zq rfl rfl)<|gA<|Zk rfl ?_
       refine Zb<|Za<|gas rfl rfl<|gA<|Zu<|Zh<|Zy (.inl rfl) Tryz.results62 rfl [] (by decide) ?_
       refine ⟨congrArg (Value.int .i64) (Eq.symm ?_),rfl⟩
       unfold YW
       rw [if_neg (by rw [show nameB (cpN s.cs i)=true by unfold cpN; rw [hxd]; exact hn]; decide)]
       rw [if_neg (by rw [Yh (fun q hq=>hall q (by omega))]; decide)]
       rw [hxd]
       rw [if_neg (by simp [*])]
       rw [if_pos]
       (simp [YZ, *]; done)
      refine gr rfl (Zn rfl rfl)<|gm rfl rfl<|Zg rfl rfl<|Zm rfl (Zd rfl (J5 _))<|Zg rfl rfl (Zm rfl (Zi Tryz.underlying4 rfl rfl (by exact Zp 0 rfl rfl)) ?_)
      refine Z0 (fun h71=>?_) (fun h71=>?_)
      ·refine Zg rfl rfl<|Zm rfl (Zo rfl)<|Zg rfl rfl<|Zm rfl (Zd rfl (XF _))<|Zg rfl rfl (Zm rfl (Zi Tryz.underlying3 rfl rfl (by exact Zp 0 rfl rfl)) ?_)
       refine Zg rfl rfl (Zm rfl (Z4 rfl rfl) (Zw (fun h75=>?_) (fun h75=>?_)))
       ·refine Zg rfl rfl<|Zm rfl (Zq rfl rfl)<|gr rfl (Zn rfl rfl)<|gm rfl rfl<|Zj rfl rfl rfl<|Zj rfl rfl rfl<|Zj rfl rfl rfl<|Zj rfl rfl rfl<|Zj rfl rfl rfl<|Zj rfl rfl rfl<|Z2 rfl rfl rfl<|Z2 rfl rfl rfl<|Z2 rfl rfl rfl<|Zj rfl rfl rfl<|gr rfl (Zq rfl rfl)<|gA<|Zk rfl<|Zb<|Za<|gas rfl rfl<|gA<|Zu<|Zh<|Zy (.inl rfl) Tryz.results62 rfl [] (by decide) ?_
        refine ⟨congrArg (Value.int .i64) (Eq.symm ?_),rfl⟩
        unfold YW
        rw [if_neg (by rw [show nameB (cpN s.cs i)=true by unfold cpN; rw [hxd]; exact hn]; decide)]
        rw [if_neg (by rw [Yh (fun q hq=>hall q (by omega))]; decide)]
        rw [hxd]
        rw [if_neg (by simp [*])]
        rw [if_pos]
        (simp [YZ, *]; done)
       refine Zg rfl rfl<|Zm rfl (Zq rfl rfl)<|gr rfl (Zn rfl rfl)<|gm rfl rfl<|Zg rfl rfl<|Zm rfl (Zd rfl (Wd _))<|Zg rfl rfl (Zm rfl (Zi Tryz.underlying3 rfl rfl (by exact Zp 0 rfl rfl)) ?_)
       refine Zg rfl rfl<|Zm rfl (Zd rfl (Vj _))<|Zg rfl rfl (Zm rfl (Zi Tryz.underlying3 rfl rfl (by exact Zp 0 rfl rfl)) ?_)
       refine Zg rfl rfl (Zm rfl (Z8 rfl rfl) (Zw (fun h83=>?_) (fun h83=>?_)))
       ·refine Zg rfl rfl<|Zm rfl (Zo rfl)<|Zg rfl rfl<|Zm rfl (Zd rfl (We _))<|Zg rfl rfl (Zm rfl (Zi Tryz.underlying3 rfl rfl (by exact Zp 0 rfl rfl)) ?_)
        refine Zg rfl rfl (Zm rfl (Z8 rfl rfl) (Zw (fun h87=>?_) (fun h87=>?_)))
        ·refine Zg rfl rfl<|Zm rfl (Zq rfl rfl)<|gr rfl (Zn rfl rfl)<|gA<|Zk rfl<|Zb<|Za<|gas rfl rfl<|gA<|Zu<|Zh<|Zy (.inl rfl) Tryz.results62 rfl [] (by decide) ?_
         refine ⟨congrArg (Value.int .i64) (Eq.symm ?_),rfl⟩
         unfold YW
         rw [if_neg (by rw [show nameB (cpN s.cs i)=true by unfold cpN; rw [hxd]; exact hn]; decide)]
         rw [if_neg (by rw [Yh (fun q hq=>hall q (by omega))]; decide)]
         rw [hxd]
         rw [if_neg (by simp [*])]
         rw [if_pos]
         (simp [YZ, *]; done)
        refine Zg rfl rfl<|Zm rfl (Zq rfl rfl)<|gr rfl (Zn rfl rfl)<|gA<|Zl rfl<|Zv<|Ze<|Zb<|Za<|gas rfl rfl<|gA<|Zu<|Zy (.inl rfl) Tryz.results62 rfl [] (by decide) ?_
        refine ⟨congrArg (Value.int .i64) (Eq.symm ?_),rfl⟩
        unfold YW
        rw [if_neg (by rw [show nameB (cpN s.cs i)=true by unfold cpN; rw [hxd]; exact hn]; decide)]
        rw [if_neg (by rw [Yh (fun q hq=>hall q (by omega))]; decide)]
        rw [hxd]
        rw [if_neg (by simp [*])]
        rw [if_neg]
        rw [Bool.not_eq_true]
        (unfold YZ; simp at *; omega)
       refine Zg rfl rfl<|Zm rfl (Zo rfl)<|Zj rfl rfl rfl<|Zj rfl rfl rfl<|Zj rfl rfl rfl<|Zg rfl rfl<|Zm rfl (Zn rfl rfl)<|gr rfl (Zn rfl rfl)<|gA<|Zl rfl<|Zv<|Ze<|Zb<|Za<|gas rfl rfl<|gA<|Zu<|Zy (.inl rfl) Tryz.results62 rfl [] (by decide) ?_
       refine ⟨congrArg (Value.int .i64) (Eq.symm ?_),rfl⟩
       unfold YW
       rw [if_neg (by rw [show nameB (cpN s.cs i)=true by unfold cpN; rw [hxd]; exact hn]; decide)]
       rw [if_neg (by rw [Yh (fun q hq=>hall q (by omega))]; decide)]
       rw [hxd]
       rw [if_neg (by simp [*])]
       rw [if_neg]
       rw [Bool.not_eq_true]
       (unfold YZ; simp at *; omega)
      refine Zg rfl rfl<|Zm rfl (Zo rfl)<|Zj rfl rfl rfl<|Zj rfl rfl rfl<|Zj rfl rfl rfl<|Zg rfl rfl<|Zm rfl (Zn rfl rfl)<|gr rfl (Zn rfl rfl)<|gm rfl rfl<|Zg rfl rfl<|Zm rfl (Zd rfl (Wd _))<|Zg rfl rfl (Zm rfl (Zi Tryz.underlying3 rfl rfl (by exact Zp 0 rfl rfl)) ?_)
      refine Zg rfl rfl<|Zm rfl (Zd rfl (Vj _))<|Zg rfl rfl (Zm rfl (Zi Tryz.underlying3 rfl rfl (by exact Zp 0 rfl rfl)) ?_)
      refine Zg rfl rfl (Zm rfl (Z8 rfl rfl) (Zw (fun h83=>?_) (fun h83=>?_)))
      ·refine Zg rfl rfl<|Zm rfl (Zo rfl)<|Zg rfl rfl<|Zm rfl (Zd rfl (We _))<|Zg rfl rfl (Zm rfl (Zi Tryz.underlying3 rfl rfl (by exact Zp 0 rfl rfl)) ?_)
       refine Zg rfl rfl (Zm rfl (Z8 rfl rfl) (Zw (fun h87=>?_) (fun h87=>?_)))
       ·refine Zg rfl rfl<|Zm rfl (Zq rfl rfl)<|gr rfl (Zn rfl rfl)<|gA<|Zk rfl<|Zb<|Za<|gas rfl rfl<|gA<|Zu<|Zh<|Zy (.inl rfl) Tryz.results62 rfl [] (by decide) ?_
        refine ⟨congrArg (Value.int .i64) (Eq.symm ?_),rfl⟩
        unfold YW
        rw [if_neg (by rw [show nameB (cpN s.cs i)=true by unfold cpN; rw [hxd]; exact hn]; decide)]
        rw [if_neg (by rw [Yh (fun q hq=>hall q (by omega))]; decide)]
        rw [hxd]
        rw [if_neg (by simp [*])]
        rw [if_pos]
        (simp [YZ, *]; done)
       refine Zg rfl rfl<|Zm rfl (Zq rfl rfl)<|gr rfl (Zn rfl rfl)<|gA<|Zl rfl<|Zv<|Ze<|Zb<|Za<|gas rfl rfl<|gA<|Zu<|Zy (.inl rfl) Tryz.results62 rfl [] (by decide) ?_
       refine ⟨congrArg (Value.int .i64) (Eq.symm ?_),rfl⟩
       unfold YW
       rw [if_neg (by rw [show nameB (cpN s.cs i)=true by unfold cpN; rw [hxd]; exact hn]; decide)]
       rw [if_neg (by rw [Yh (fun q hq=>hall q (by omega))]; decide)]
       rw [hxd]
       rw [if_neg (by simp [*])]
       rw [if_neg]
       rw [Bool.not_eq_true]
       (unfold YZ; rw [h71]; clear h71; simp at *; omega)
      refine Zg rfl rfl<|Zm rfl (Zo rfl)<|Zj rfl rfl rfl<|Zj rfl rfl rfl<|Zj rfl rfl rfl<|Zg rfl rfl<|Zm rfl (Zn rfl rfl)<|gr rfl (Zn rfl rfl)<|gA<|Zl rfl<|Zv<|Ze<|Zb<|Za<|gas rfl rfl<|gA<|Zu<|Zy (.inl rfl) Tryz.results62 rfl [] (by decide) ?_
      refine ⟨congrArg (Value.int .i64) (Eq.symm ?_),rfl⟩
      unfold YW
      rw [if_neg (by rw [show nameB (cpN s.cs i)=true by unfold cpN; rw [hxd]; exact hn]; decide)]
      rw [if_neg (by rw [Yh (fun q hq=>hall q (by omega))]; decide)]
      rw [hxd]
      rw [if_neg (by simp [*])]
      rw [if_neg]
      rw [Bool.not_eq_true]
      (unfold YZ; rw [h71]; clear h71; simp at *; omega)
     refine gr rfl (Zq rfl rfl)<|gm rfl rfl<|Zj rfl rfl rfl<|Zj rfl rfl rfl<|Zj rfl rfl rfl<|gr rfl (Zn rfl rfl)<|gm rfl rfl<|Zg rfl rfl<|Zm rfl (Zd rfl (XF _))<|Zg rfl rfl (Zm rfl (Zi Tryz.underlying3 rfl rfl (by exact Zp 0 rfl rfl)) ?_)
     refine Zg rfl rfl (Zm rfl (ZX rfl rfl) (Zw (fun h62=>?_) (fun h62=>?_)))
     ·refine gr rfl (Zn rfl rfl)<|gm rfl rfl<|Zj rfl rfl rfl<|Zj rfl rfl rfl<|Zj rfl rfl rfl<|gr rfl (Zq rfl rfl)<|gm rfl rfl<|Zj rfl rfl rfl<|Zj rfl rfl rfl<|Zj rfl rfl rfl<|Z2 rfl rfl rfl<|Z2 rfl rfl rfl<|Z2 rfl rfl rfl<|Zj rfl rfl rfl<|gr rfl (Zq rfl rfl)<|gm rfl rfl<|Zj rfl rfl rfl<|Zj rfl rfl rfl<|Zj rfl rfl rfl<|Zj rfl rfl rfl<|Zj rfl rfl rfl<|Zj rfl rfl rfl<|Z2 rfl rfl rfl<|Z2 rfl rfl rfl<|Z2 rfl rfl rfl ?_
      refine Zj rfl rfl rfl<|gr rfl (Zq rfl rfl)<|gA<|Zk rfl<|Zb<|Za<|gas rfl rfl<|gA<|Zu<|Zh<|Zy (.inl rfl) Tryz.results62 rfl [] (by decide) ?_
      refine ⟨congrArg (Value.int .i64) (Eq.symm ?_),rfl⟩
      unfold YW
      rw [if_neg (by rw [show nameB (cpN s.cs i)=true by unfold cpN; rw [hxd]; exact hn]; decide)]
      rw [if_neg (by rw [Yh (fun q hq=>hall q (by omega))]; decide)]
      rw [hxd]
      rw [if_neg (by simp [*])]
      rw [if_pos]
      (simp [YZ, *]; done)
     refine gr rfl (Zn rfl rfl)<|gm rfl rfl<|Zg rfl rfl<|Zm rfl (Zd rfl (XF _))<|Zg rfl rfl (Zm rfl (Zi Tryz.underlying3 rfl rfl (by exact Zp 0 rfl rfl)) ?_)
     refine Zg rfl rfl (Zm rfl (Yk rfl rfl) (Zw (fun h67=>?_) (fun h67=>?_)))
     ·refine gr rfl (Zn rfl rfl)<|gm rfl rfl<|Zj rfl rfl rfl<|Zj rfl rfl rfl<|Zj rfl rfl rfl<|Z2 rfl rfl rfl<|Z2 rfl rfl rfl<|Z2 rfl rfl rfl<|Zj rfl rfl rfl<|gr rfl (Zq rfl rfl)<|gm rfl rfl<|Zj rfl rfl rfl<|Zj rfl rfl rfl<|Zj rfl rfl rfl<|Zj rfl rfl rfl<|Zj rfl rfl rfl<|Zj rfl rfl rfl<|Z2 rfl rfl rfl<|Z2 rfl rfl rfl<|Z2 rfl rfl rfl<|Zj rfl rfl rfl<|gr rfl (Zq rfl rfl)<|gA<|Zk rfl ?_
      refine Zb<|Za<|gas rfl rfl<|gA<|Zu<|Zh<|Zy (.inl rfl) Tryz.results62 rfl [] (by decide) ?_
      refine ⟨congrArg (Value.int .i64) (Eq.symm ?_),rfl⟩
      unfold YW
      rw [if_neg (by rw [show nameB (cpN s.cs i)=true by unfold cpN; rw [hxd]; exact hn]; decide)]
      rw [if_neg (by rw [Yh (fun q hq=>hall q (by omega))]; decide)]
      rw [hxd]
      rw [if_neg (by simp [*])]
      rw [if_pos]
      (simp [YZ, *]; done)
     refine gr rfl (Zn rfl rfl)<|gm rfl rfl<|Zg rfl rfl<|Zm rfl (Zd rfl (J5 _))<|Zg rfl rfl (Zm rfl (Zi Tryz.underlying4 rfl rfl (by exact Zp 0 rfl rfl)) ?_)
     refine Z0 (fun h71=>?_) (fun h71=>?_)
     ·refine Zg rfl rfl<|Zm rfl (Zo rfl)<|Zg rfl rfl<|Zm rfl (Zd rfl (XF _))<|Zg rfl rfl (Zm rfl (Zi Tryz.underlying3 rfl rfl (by exact Zp 0 rfl rfl)) ?_)
      refine Zg rfl rfl (Zm rfl (Z4 rfl rfl) (Zw (fun h75=>?_) (fun h75=>?_)))
      ·refine Zg rfl rfl<|Zm rfl (Zq rfl rfl)<|gr rfl (Zn rfl rfl)<|gm rfl rfl<|Zj rfl rfl rfl<|Zj rfl rfl rfl<|Zj rfl rfl rfl<|Zj rfl rfl rfl<|Zj rfl rfl rfl<|Zj rfl rfl rfl<|Z2 rfl rfl rfl<|Z2 rfl rfl rfl<|Z2 rfl rfl rfl<|Zj rfl rfl rfl<|gr rfl (Zq rfl rfl)<|gA<|Zk rfl<|Zb<|Za<|gas rfl rfl<|gA<|Zu<|Zh<|Zy (.inl rfl) Tryz.results62 rfl [] (by decide) ?_
       refine ⟨congrArg (Value.int .i64) (Eq.symm ?_),rfl⟩
       unfold YW
       rw [if_neg (by rw [show nameB (cpN s.cs i)=true by unfold cpN; rw [hxd]; exact hn]; decide)]
       rw [if_neg (by rw [Yh (fun q hq=>hall q (by omega))]; decide)]
       rw [hxd]
       rw [if_neg (by simp [*])]
       rw [if_pos]
       (simp [YZ, *]; done)
      refine Zg rfl rfl<|Zm rfl (Zq rfl rfl)<|gr rfl (Zn rfl rfl)<|gm rfl rfl<|Zg rfl rfl<|Zm rfl (Zd rfl (Wd _))<|Zg rfl rfl (Zm rfl (Zi Tryz.underlying3 rfl rfl (by exact Zp 0 rfl rfl)) ?_)
      refine Zg rfl rfl<|Zm rfl (Zd rfl (Vj _))<|Zg rfl rfl (Zm rfl (Zi Tryz.underlying3 rfl rfl (by exact Zp 0 rfl rfl)) ?_)
      refine Zg rfl rfl (Zm rfl (Z8 rfl rfl) (Zw (fun h83=>?_) (fun h83=>?_)))
      ·refine Zg rfl rfl<|Zm rfl (Zo rfl)<|Zg rfl rfl<|Zm rfl (Zd rfl (We _))<|Zg rfl rfl (Zm rfl (Zi Tryz.underlying3 rfl rfl (by exact Zp 0 rfl rfl)) ?_)
       refine Zg rfl rfl (Zm rfl (Z8 rfl rfl) (Zw (fun h87=>?_) (fun h87=>?_)))
       ·refine Zg rfl rfl<|Zm rfl (Zq rfl rfl)<|gr rfl (Zn rfl rfl)<|gA<|Zk rfl<|Zb<|Za<|gas rfl rfl<|gA<|Zu<|Zh<|Zy (.inl rfl) Tryz.results62 rfl [] (by decide) ?_
        refine ⟨congrArg (Value.int .i64) (Eq.symm ?_),rfl⟩
        unfold YW
        rw [if_neg (by rw [show nameB (cpN s.cs i)=true by unfold cpN; rw [hxd]; exact hn]; decide)]
        rw [if_neg (by rw [Yh (fun q hq=>hall q (by omega))]; decide)]
        rw [hxd]
        rw [if_neg (by simp [*])]
        rw [if_pos]
        (simp [YZ, *]; done)
       refine Zg rfl rfl<|Zm rfl (Zq rfl rfl)<|gr rfl (Zn rfl rfl)<|gA<|Zl rfl<|Zv<|Ze<|Zb<|Za<|gas rfl rfl<|gA<|Zu<|Zy (.inl rfl) Tryz.results62 rfl [] (by decide) ?_
       refine ⟨congrArg (Value.int .i64) (Eq.symm ?_),rfl⟩
       unfold YW
       rw [if_neg (by rw [show nameB (cpN s.cs i)=true by unfold cpN; rw [hxd]; exact hn]; decide)]
       rw [if_neg (by rw [Yh (fun q hq=>hall q (by omega))]; decide)]
       rw [hxd]
       rw [if_neg (by simp [*])]
       rw [if_neg]
       rw [Bool.not_eq_true]
       (unfold YZ; simp at *; omega)
      refine Zg rfl rfl<|Zm rfl (Zo rfl)<|Zj rfl rfl rfl<|Zj rfl rfl rfl<|Zj rfl rfl rfl<|Zg rfl rfl<|Zm rfl (Zn rfl rfl)<|gr rfl (Zn rfl rfl)<|gA<|Zl rfl<|Zv<|Ze<|Zb<|Za<|gas rfl rfl<|gA<|Zu<|Zy (.inl rfl) Tryz.results62 rfl [] (by decide) ?_
      refine ⟨congrArg (Value.int .i64) (Eq.symm ?_),rfl⟩
      unfold YW
      rw [if_neg (by rw [show nameB (cpN s.cs i)=true by unfold cpN; rw [hxd]; exact hn]; decide)]
      rw [if_neg (by rw [Yh (fun q hq=>hall q (by omega))]; decide)]
      rw [hxd]
      rw [if_neg (by simp [*])]
      rw [if_neg]
      rw [Bool.not_eq_true]
      (unfold YZ; simp at *; omega)
     refine Zg rfl rfl<|Zm rfl (Zo rfl)<|Zj rfl rfl rfl<|Zj rfl rfl rfl<|Zj rfl rfl rfl<|Zg rfl rfl<|Zm rfl (Zn rfl rfl)<|gr rfl (Zn rfl rfl)<|gm rfl rfl<|Zg rfl rfl<|Zm rfl (Zd rfl (Wd _))<|Zg rfl rfl (Zm rfl (Zi Tryz.underlying3 rfl rfl (by exact Zp 0 rfl rfl)) ?_)
     refine Zg rfl rfl<|Zm rfl (Zd rfl (Vj _))<|Zg rfl rfl (Zm rfl (Zi Tryz.underlying3 rfl rfl (by exact Zp 0 rfl rfl)) ?_)
     refine Zg rfl rfl (Zm rfl (Z8 rfl rfl) (Zw (fun h83=>?_) (fun h83=>?_)))
     ·refine Zg rfl rfl<|Zm rfl (Zo rfl)<|Zg rfl rfl<|Zm rfl (Zd rfl (We _))<|Zg rfl rfl (Zm rfl (Zi Tryz.underlying3 rfl rfl (by exact Zp 0 rfl rfl)) ?_)
      refine Zg rfl rfl (Zm rfl (Z8 rfl rfl) (Zw (fun h87=>?_) (fun h87=>?_)))
      ·refine Zg rfl rfl<|Zm rfl (Zq rfl rfl)<|gr rfl (Zn rfl rfl)<|gA<|Zk rfl<|Zb<|Za<|gas rfl rfl<|gA<|Zu<|Zh<|Zy (.inl rfl) Tryz.results62 rfl [] (by decide) ?_
       refine ⟨congrArg (Value.int .i64) (Eq.symm ?_),rfl⟩
       unfold YW
       rw [if_neg (by rw [show nameB (cpN s.cs i)=true by unfold cpN; rw [hxd]; exact hn]; decide)]
       rw [if_neg (by rw [Yh (fun q hq=>hall q (by omega))]; decide)]
       rw [hxd]
       rw [if_neg (by simp [*])]
       rw [if_pos]
       (simp [YZ, *]; done)
      refine Zg rfl rfl<|Zm rfl (Zq rfl rfl)<|gr rfl (Zn rfl rfl)<|gA<|Zl rfl<|Zv<|Ze<|Zb<|Za<|gas rfl rfl<|gA<|Zu<|Zy (.inl rfl) Tryz.results62 rfl [] (by decide) ?_
      refine ⟨congrArg (Value.int .i64) (Eq.symm ?_),rfl⟩
      unfold YW
      rw [if_neg (by rw [show nameB (cpN s.cs i)=true by unfold cpN; rw [hxd]; exact hn]; decide)]
      rw [if_neg (by rw [Yh (fun q hq=>hall q (by omega))]; decide)]
      rw [hxd]
      rw [if_neg (by simp [*])]
      rw [if_neg]
      rw [Bool.not_eq_true]
      (unfold YZ; simp at *; omega)
     refine Zg rfl rfl<|Zm rfl (Zo rfl)<|Zj rfl rfl rfl<|Zj rfl rfl rfl<|Zj rfl rfl rfl<|Zg rfl rfl<|Zm rfl (Zn rfl rfl)<|gr rfl (Zn rfl rfl)<|gA<|Zl rfl<|Zv<|Ze<|Zb<|Za<|gas rfl rfl<|gA<|Zu<|Zy (.inl rfl) Tryz.results62 rfl [] (by decide) ?_
     refine ⟨congrArg (Value.int .i64) (Eq.symm ?_),rfl⟩
     unfold YW
     rw [if_neg (by rw [show nameB (cpN s.cs i)=true by unfold cpN; rw [hxd]; exact hn]; decide)]
     rw [if_neg (by rw [Yh (fun q hq=>hall q (by omega))]; decide)]
     rw [hxd]
     rw [if_neg (by simp [*])]
     rw [if_neg]
     rw [Bool.not_eq_true]
     (unfold YZ; rw [h71]; clear h71; simp at *; omega)
    refine gm rfl rfl<|Zj rfl rfl rfl<|Zj rfl rfl rfl<|Zj rfl rfl rfl<|gr rfl (Zn rfl rfl)<|gm rfl rfl<|Zj rfl rfl rfl<|Zj rfl rfl rfl<|Zj rfl rfl rfl<|gr rfl (Zn rfl rfl)<|gm rfl rfl<|Zg rfl rfl<|Zm rfl (Zd rfl (XF _))<|Zg rfl rfl (Zm rfl (Zi Tryz.underlying3 rfl rfl (by exact Zp 0 rfl rfl)) ?_)
    refine Zg rfl rfl (Zm rfl (ZX rfl rfl) (Zw (fun h62=>?_) (fun h62=>?_)))
    ·refine gr rfl (Zn rfl rfl)<|gm rfl rfl<|Zj rfl rfl rfl<|Zj rfl rfl rfl<|Zj rfl rfl rfl<|gr rfl (Zq rfl rfl)<|gm rfl rfl<|Zj rfl rfl rfl<|Zj rfl rfl rfl<|Zj rfl rfl rfl<|Z2 rfl rfl rfl<|Z2 rfl rfl rfl<|Z2 rfl rfl rfl<|Zj rfl rfl rfl<|gr rfl (Zq rfl rfl)<|gm rfl rfl<|Zj rfl rfl rfl<|Zj rfl rfl rfl<|Zj rfl rfl rfl<|Zj rfl rfl rfl<|Zj rfl rfl rfl<|Zj rfl rfl rfl<|Z2 rfl rfl rfl<|Z2 rfl rfl rfl<|Z2 rfl rfl rfl ?_
     refine Zj rfl rfl rfl<|gr rfl (Zq rfl rfl)<|gA<|Zk rfl<|Zb<|Za<|gas rfl rfl<|gA<|Zu<|Zh<|Zy (.inl rfl) Tryz.results62 rfl [] (by decide) ?_
     refine ⟨congrArg (Value.int .i64) (Eq.symm ?_),rfl⟩
     unfold YW
     rw [if_neg (by rw [show nameB (cpN s.cs i)=true by unfold cpN; rw [hxd]; exact hn]; decide)]
     rw [if_neg (by rw [Yh (fun q hq=>hall q (by omega))]; decide)]
     rw [hxd]
     rw [if_neg (by simp [*])]
     rw [if_pos]
     (simp [YZ, *]; done)
    refine gr rfl (Zn rfl rfl)<|gm rfl rfl<|Zg rfl rfl<|Zm rfl (Zd rfl (XF _))<|Zg rfl rfl (Zm rfl (Zi Tryz.underlying3 rfl rfl (by exact Zp 0 rfl rfl)) ?_)
    refine Zg rfl rfl (Zm rfl (Yk rfl rfl) (Zw (fun h67=>?_) (fun h67=>?_)))
    ·refine gr rfl (Zn rfl rfl)<|gm rfl rfl<|Zj rfl rfl rfl<|Zj rfl rfl rfl<|Zj rfl rfl rfl<|Z2 rfl rfl rfl<|Z2 rfl rfl rfl<|Z2 rfl rfl rfl<|Zj rfl rfl rfl<|gr rfl (Zq rfl rfl)<|gm rfl rfl<|Zj rfl rfl rfl<|Zj rfl rfl rfl<|Zj rfl rfl rfl<|Zj rfl rfl rfl<|Zj rfl rfl rfl<|Zj rfl rfl rfl<|Z2 rfl rfl rfl<|Z2 rfl rfl rfl<|Z2 rfl rfl rfl<|Zj rfl rfl rfl<|gr rfl (Zq rfl rfl)<|gA<|Zk rfl ?_
     refine Zb<|Za<|gas rfl rfl<|gA<|Zu<|Zh<|Zy (.inl rfl) Tryz.results62 rfl [] (by decide) ?_
     refine ⟨congrArg (Value.int .i64) (Eq.symm ?_),rfl⟩
     unfold YW
     rw [if_neg (by rw [show nameB (cpN s.cs i)=true by unfold cpN; rw [hxd]; exact hn]; decide)]
     rw [if_neg (by rw [Yh (fun q hq=>hall q (by omega))]; decide)]
     rw [hxd]
     rw [if_neg (by simp [*])]
     rw [if_pos]
     (simp [YZ, *]; done)
    refine gr rfl (Zn rfl rfl)<|gm rfl rfl<|Zg rfl rfl<|Zm rfl (Zd rfl (J5 _))<|Zg rfl rfl (Zm rfl (Zi Tryz.underlying4 rfl rfl (by exact Zp 0 rfl rfl)) ?_)
    refine Z0 (fun h71=>?_) (fun h71=>?_)
    ·refine Zg rfl rfl<|Zm rfl (Zo rfl)<|Zg rfl rfl<|Zm rfl (Zd rfl (XF _))<|Zg rfl rfl (Zm rfl (Zi Tryz.underlying3 rfl rfl (by exact Zp 0 rfl rfl)) ?_)
     refine Zg rfl rfl (Zm rfl (Z4 rfl rfl) (Zw (fun h75=>?_) (fun h75=>?_)))
     ·refine Zg rfl rfl<|Zm rfl (Zq rfl rfl)<|gr rfl (Zn rfl rfl)<|gm rfl rfl<|Zj rfl rfl rfl<|Zj rfl rfl rfl<|Zj rfl rfl rfl<|Zj rfl rfl rfl<|Zj rfl rfl rfl<|Zj rfl rfl rfl<|Z2 rfl rfl rfl<|Z2 rfl rfl rfl<|Z2 rfl rfl rfl<|Zj rfl rfl rfl<|gr rfl (Zq rfl rfl)<|gA<|Zk rfl<|Zb<|Za<|gas rfl rfl<|gA<|Zu<|Zh<|Zy (.inl rfl) Tryz.results62 rfl [] (by decide) ?_
      refine ⟨congrArg (Value.int .i64) (Eq.symm ?_),rfl⟩
      unfold YW
      rw [if_neg (by rw [show nameB (cpN s.cs i)=true by unfold cpN; rw [hxd]; exact hn]; decide)]
      rw [if_neg (by rw [Yh (fun q hq=>hall q (by omega))]; decide)]
      rw [hxd]
      rw [if_neg (by simp [*])]
      rw [if_pos]
      (simp [YZ, *]; done)
     refine Zg rfl rfl<|Zm rfl (Zq rfl rfl)<|gr rfl (Zn rfl rfl)<|gm rfl rfl<|Zg rfl rfl<|Zm rfl (Zd rfl (Wd _))<|Zg rfl rfl (Zm rfl (Zi Tryz.underlying3 rfl rfl (by exact Zp 0 rfl rfl)) ?_)
     refine Zg rfl rfl<|Zm rfl (Zd rfl (Vj _))<|Zg rfl rfl (Zm rfl (Zi Tryz.underlying3 rfl rfl (by exact Zp 0 rfl rfl)) ?_)
     refine Zg rfl rfl (Zm rfl (Z8 rfl rfl) (Zw (fun h83=>?_) (fun h83=>?_)))
     ·refine Zg rfl rfl<|Zm rfl (Zo rfl)<|Zg rfl rfl<|Zm rfl (Zd rfl (We _))<|Zg rfl rfl (Zm rfl (Zi Tryz.underlying3 rfl rfl (by exact Zp 0 rfl rfl)) ?_)
      refine Zg rfl rfl (Zm rfl (Z8 rfl rfl) (Zw (fun h87=>?_) (fun h87=>?_)))
      ·refine Zg rfl rfl<|Zm rfl (Zq rfl rfl)<|gr rfl (Zn rfl rfl)<|gA<|Zk rfl<|Zb<|Za<|gas rfl rfl<|gA<|Zu<|Zh<|Zy (.inl rfl) Tryz.results62 rfl [] (by decide) ?_
       refine ⟨congrArg (Value.int .i64) (Eq.symm ?_),rfl⟩
       unfold YW
       rw [if_neg (by rw [show nameB (cpN s.cs i)=true by unfold cpN; rw [hxd]; exact hn]; decide)]
       rw [if_neg (by rw [Yh (fun q hq=>hall q (by omega))]; decide)]
       rw [hxd]
       rw [if_neg (by simp [*])]
       rw [if_pos]
       (simp [YZ, *]; done)
      refine Zg rfl rfl<|Zm rfl (Zq rfl rfl)<|gr rfl (Zn rfl rfl)<|gA<|Zl rfl<|Zv<|Ze<|Zb<|Za<|gas rfl rfl<|gA<|Zu<|Zy (.inl rfl) Tryz.results62 rfl [] (by decide) ?_
      refine ⟨congrArg (Value.int .i64) (Eq.symm ?_),rfl⟩
      unfold YW
      rw [if_neg (by rw [show nameB (cpN s.cs i)=true by unfold cpN; rw [hxd]; exact hn]; decide)]
      rw [if_neg (by rw [Yh (fun q hq=>hall q (by omega))]; decide)]
      rw [hxd]
      rw [if_neg (by simp [*])]
      rw [if_neg]
      rw [Bool.not_eq_true]
      (unfold YZ; simp at *; omega)
     refine Zg rfl rfl<|Zm rfl (Zo rfl)<|Zj rfl rfl rfl<|Zj rfl rfl rfl<|Zj rfl rfl rfl<|Zg rfl rfl<|Zm rfl (Zn rfl rfl)<|gr rfl (Zn rfl rfl)<|gA<|Zl rfl<|Zv<|Ze<|Zb<|Za<|gas rfl rfl<|gA<|Zu<|Zy (.inl rfl) Tryz.results62 rfl [] (by decide) ?_
     refine ⟨congrArg (Value.int .i64) (Eq.symm ?_),rfl⟩
     unfold YW
     rw [if_neg (by rw [show nameB (cpN s.cs i)=true by unfold cpN; rw [hxd]; exact hn]; decide)]
     rw [if_neg (by rw [Yh (fun q hq=>hall q (by omega))]; decide)]
     rw [hxd]
     rw [if_neg (by simp [*])]
     rw [if_neg]
     rw [Bool.not_eq_true]
     (unfold YZ; simp at *; omega)
    refine Zg rfl rfl<|Zm rfl (Zo rfl)<|Zj rfl rfl rfl<|Zj rfl rfl rfl<|Zj rfl rfl rfl<|Zg rfl rfl<|Zm rfl (Zn rfl rfl)<|gr rfl (Zn rfl rfl)<|gm rfl rfl<|Zg rfl rfl<|Zm rfl (Zd rfl (Wd _))<|Zg rfl rfl (Zm rfl (Zi Tryz.underlying3 rfl rfl (by exact Zp 0 rfl rfl)) ?_)
    refine Zg rfl rfl<|Zm rfl (Zd rfl (Vj _))<|Zg rfl rfl (Zm rfl (Zi Tryz.underlying3 rfl rfl (by exact Zp 0 rfl rfl)) ?_)
    refine Zg rfl rfl (Zm rfl (Z8 rfl rfl) (Zw (fun h83=>?_) (fun h83=>?_)))
    ·refine Zg rfl rfl<|Zm rfl (Zo rfl)<|Zg rfl rfl<|Zm rfl (Zd rfl (We _))<|Zg rfl rfl (Zm rfl (Zi Tryz.underlying3 rfl rfl (by exact Zp 0 rfl rfl)) ?_)
     refine Zg rfl rfl (Zm rfl (Z8 rfl rfl) (Zw (fun h87=>?_) (fun h87=>?_)))
     ·refine Zg rfl rfl<|Zm rfl (Zq rfl rfl)<|gr rfl (Zn rfl rfl)<|gA<|Zk rfl<|Zb<|Za<|gas rfl rfl<|gA<|Zu<|Zh<|Zy (.inl rfl) Tryz.results62 rfl [] (by decide) ?_
      refine ⟨congrArg (Value.int .i64) (Eq.symm ?_),rfl⟩
      unfold YW
      rw [if_neg (by rw [show nameB (cpN s.cs i)=true by unfold cpN; rw [hxd]; exact hn]; decide)]
      rw [if_neg (by rw [Yh (fun q hq=>hall q (by omega))]; decide)]
      rw [hxd]
      rw [if_neg (by simp [*])]
      rw [if_pos]
      (simp [YZ, *]; done)
     refine Zg rfl rfl<|Zm rfl (Zq rfl rfl)<|gr rfl (Zn rfl rfl)<|gA<|Zl rfl<|Zv<|Ze<|Zb<|Za<|gas rfl rfl<|gA<|Zu<|Zy (.inl rfl) Tryz.results62 rfl [] (by decide) ?_
     refine ⟨congrArg (Value.int .i64) (Eq.symm ?_),rfl⟩
     unfold YW
     rw [if_neg (by rw [show nameB (cpN s.cs i)=true by unfold cpN; rw [hxd]; exact hn]; decide)]
     rw [if_neg (by rw [Yh (fun q hq=>hall q (by omega))]; decide)]
     rw [hxd]
     rw [if_neg (by simp [*])]
     rw [if_neg]
     rw [Bool.not_eq_true]
     (unfold YZ; rw [h71]; clear h71; simp at *; omega)
    refine Zg rfl rfl<|Zm rfl (Zo rfl)<|Zj rfl rfl rfl<|Zj rfl rfl rfl<|Zj rfl rfl rfl<|Zg rfl rfl<|Zm rfl (Zn rfl rfl)<|gr rfl (Zn rfl rfl)<|gA<|Zl rfl<|Zv<|Ze<|Zb<|Za<|gas rfl rfl<|gA<|Zu<|Zy (.inl rfl) Tryz.results62 rfl [] (by decide) ?_
    refine ⟨congrArg (Value.int .i64) (Eq.symm ?_),rfl⟩
    unfold YW
    rw [if_neg (by rw [show nameB (cpN s.cs i)=true by unfold cpN; rw [hxd]; exact hn]; decide)]
    rw [if_neg (by rw [Yh (fun q hq=>hall q (by omega))]; decide)]
    rw [hxd]
    rw [if_neg (by simp [*])]
    rw [if_neg]
    rw [Bool.not_eq_true]
    (unfold YZ; rw [h71]; clear h71; simp at *; omega)
   refine Zg rfl rfl<|Zm rfl (rd_not rfl)<|gr rfl (Zn rfl rfl)<|gA<|Zk rfl<|Zb<|Za<|gas rfl rfl<|gA<|Zu<|Zh<|Zy (.inl rfl) Tryz.results62 rfl [] (by decide) ?_
   refine ⟨congrArg (Value.int .i64) (Eq.symm ?_),rfl⟩
   unfold YW
   rw [if_neg (by rw [show nameB (cpN s.cs i)=true by unfold cpN; rw [hxd]; exact hn]; decide)]
   rw [if_neg (by rw [Yh (fun q hq=>hall q (by omega))]; decide)]
   rw [hxd]
   rw [if_pos (by simp [*])]
  refine gr rfl (rd_not rfl)<|gm rfl rfl<|Zj rfl rfl rfl<|Zj rfl rfl rfl<|Zj rfl rfl rfl<|Zj rfl rfl rfl<|Zj rfl rfl rfl<|Zj rfl rfl rfl<|Zj rfl rfl rfl<|gr rfl (Zq rfl rfl)<|gA<|Zk rfl<|Zb<|Za<|gas rfl rfl<|gA<|Zu<|Zh<|Zy (.inl rfl) Tryz.results62 rfl [] (by decide) ?_
  refine ⟨congrArg (Value.int .i64) (Eq.symm ?_),rfl⟩
  unfold YW
  rw [if_neg (by rw [show nameB (cpN s.cs i)=true by unfold cpN; rw [hxd]; exact hn]; decide)]
  rw [if_neg (by rw [Yh (fun q hq=>hall q (by omega))]; decide)]
  rw [hxd]
  rw [if_pos (by simp [*])]
 refine gr rfl (rd_not rfl)<|gA<|Zk rfl<|Zb<|Za<|gas rfl rfl<|gA<|Zu<|Zh<|Zy (.inl rfl) Tryz.results62 rfl [] (by decide) ?_
 refine ⟨congrArg (Value.int .i64) (Eq.symm ?_),rfl⟩
 unfold YW
 rw [if_pos (show nameB (cpN s.cs i)=false by unfold cpN; rw [hxd]; exact hn)]
namespace Sx
theorem stTw_yes {l:List St} {i k:Nat} (h:k<i) (h1:(l.getD k default).div=(l.getD i default).div) (h2:(l.getD k default).name=(l.getD i default).name):stTwice l i=true:=by
 unfold stTwice; rw [List.any_eq_true]; exact ⟨k,List.mem_range.2 h,by rw [decide_eq_true h1,decide_eq_true h2]; rfl⟩
theorem Zgk {l:List St} {i:Nat} (h:∀ k,k<i→¬ ((l.getD k default).div=(l.getD i default).div∧(l.getD k default).name=(l.getD i default).name)):stTwice l i=false:=by
 unfold stTwice; rw [List.any_eq_false]; intro k hk; have:=h k (List.mem_range.1 hk); simpa using this
end Sx
open Sx
theorem rstop_ok (s:Org) (hle:OrgLe s) (w0:World) (hS:OrgIn s w0 []) (i:Nat) (hi:i<s.ss.length):Sp Tryz.prog 60 [s.val,natV i] w0 [] (RV (.int .i64 (Wo s.ds.length s.ss i))):=by
 obtain ⟨x,hx⟩:=get_some hi
 have hxd:=getD_some (d:=default) hx
 have hxm:=List.mem_of_getElem? hx
 have hln:=hle.t
 have hpl:=hle.p x hxm
 have hdl:=hle.d
 refine ZC Tryz.func60 rfl Tryz.ntmps60 rfl (Own.refl _) ?_
 simp only [ZV]
 refine Zb<|Za<|Zt (Z6 rfl rfl rfl (fun b2=>?_))
 refine gas rfl rfl<|gA<|Zb<|Za<|gr rfl (Zd rfl (Xg _))<|gr rfl (Zi Tryz.underlying42 rfl rfl (by exact Zp 0 rfl rfl)) ?_
 refine gm rfl rfl<|gr rfl (Z3 hS.t Tryz.underlying42 WN rfl rfl (by omega) (by omega)) ?_
 refine gr rfl (Zr Tryz.underlying99 rfl WN rfl (Vc hS.t (Yf St.cells 5 (fun _=>rfl) hx)) rfl) ?_
 refine Zt (ZU WN rfl rfl (fun b5=>?_))
 refine Zt (Zz 0 WN rfl rfl rfl rfl rfl rfl (by rfl) ?_)
 refine gA<|Zb<|Zb<|Za<|gr rfl (Zd rfl (Zch _))<|gr rfl (Zi Tryz.underlying9 rfl rfl (by exact Zp 0 rfl rfl)) ?_
 refine Zt (ZJ rfl (vf:=[]) (vc:=[]) rfl rfl Tryz.call94 (fun w1 ho=>Zd0 x.name (hle.tn x hxm) w1) ?_)
 rintro _ _ ⟨rfl,rfl⟩
 refine Z0 (fun hn=>?_) (fun hn=>?_)
 ·refine gr rfl (rd_not rfl)<|gA<|Zl rfl<|Zv<|Ze<|Zb<|Zb<|Za<|gr rfl (Zd rfl (VH _))<|gr rfl (Zi Tryz.underlying3 rfl rfl (by exact Zp 0 rfl rfl)) ?_
  refine gr rfl (Zd rfl (YS _))<|gr rfl (Zi Tryz.underlying40 rfl rfl (by exact Zp 1 rfl rfl)) ?_
  refine gr rfl (ZA Tryz.underlying40 rfl)<|Zt (ZJ rfl (vf:=[]) (vc:=[]) rfl rfl Tryz.call97 (fun w1 ho=>Zdz _ _ w1) ?_)
  rintro _ _ ⟨rfl,rfl⟩
  refine Z0 (fun hix=>?_) (fun hix=>?_)
  ·refine gr rfl (rd_not rfl)<|gA<|Zl rfl<|Zv<|Ze<|Zb<|Zb<|Za<|gas rfl rfl<|gA<|ZB<|ZZ (ι:=Nat) [(1,_),(2,_),(5,_)] [_,_] (fun k=>k≤i∧∀ q,q<k→¬ ((s.ss.getD q default).div=(s.ss.getD i default).div∧(s.ss.getD q default).name=(s.ss.getD i default).name)) (fun k Fr0=>((6,natV k)::Fr0)) (fun k Fr0=>Fr0) (fun k=>i - k) 0 (⟨Nat.zero_le _,fun q hq=>absurd hq (Nat.not_lt_zero q)⟩) ⟨rfl,rfl,rfl,rfl,trivial⟩ ⟨[0,1],by decide,rfl⟩ ?_
   rintro k ⟨hk,hall⟩
   refine Zb<|Zb<|Za<|gm rfl rfl<|gm rfl rfl<|gr rfl (ZX rfl rfl) (Zw (fun h25=>?_) (fun h25=>?_))
   ·obtain ⟨y,hy⟩:=get_some (show k<s.ss.length by omega)
    have hyd:=getD_some (d:=default) hy
    refine gA<|Zk rfl<|Zv<|Ze<|Zb<|ZB<|Zb<|ZO [0,1] true 19 rfl<|Zc 0 rfl rfl ⟨[0,1],by decide,rfl⟩ (Zf (Zd rfl (Xg _))) ?_
    refine Zc 1 rfl rfl ⟨[0,1],by decide,rfl⟩ (Zf (Zi Tryz.underlying42 rfl rfl (by exact Zp 1 rfl rfl))) ?_
    refine Zc 2 rfl rfl ⟨[0,1],by decide,rfl⟩ (Zf (Zo rfl)) ?_
    refine Zc 3 rfl rfl ⟨[0,1],by decide,rfl⟩ (Zf (Z3 hS.t Tryz.underlying42 WN rfl rfl (by omega) (by omega))) ?_
    refine Zc 4 rfl rfl ⟨[0,1],by decide,rfl⟩ (Zf (Zd rfl (VH _))) ?_
    refine Zc 5 rfl rfl ⟨[0,1],by decide,rfl⟩ (Zf (Zi Tryz.underlying3 rfl rfl (XS hS.t (Y0 St.cells 5 (fun _=>rfl) hy (j:=1) (by decide) rfl)))) ?_
    refine Zc 6 rfl rfl ⟨[0,1],by decide,rfl⟩ (Zf (Zd rfl (VH _))) ?_
    refine Zc 7 rfl rfl ⟨[0,1],by decide,rfl⟩ (Zf (Zi Tryz.underlying3 rfl rfl (by exact Zp 0 rfl rfl))) ?_
    refine Zc 8 rfl rfl ⟨[0,1],by decide,rfl⟩ (Zf (Z8 rfl rfl)) (Zw (fun h36=>?_) (fun h36=>?_))
    ·refine Zc 9 rfl rfl ⟨[0,1],by decide,rfl⟩ (Zf (Zo rfl)) ?_
     refine ZG 10 rfl rfl rfl rfl rfl ⟨[0,1],by decide,rfl⟩ (Zf (Zd rfl (Xg _))) ?_
     refine ZG 11 rfl rfl rfl rfl rfl ⟨[0,1],by decide,rfl⟩ (Zf (Zi Tryz.underlying42 rfl rfl (by exact Zp 1 rfl rfl))) ?_
     refine ZG 12 rfl rfl rfl rfl rfl ⟨[0,1],by decide,rfl⟩ (Zf (Zo rfl)) ?_
     refine ZG 13 rfl rfl rfl rfl rfl ⟨[0,1],by decide,rfl⟩ (Zf (Z3 hS.t Tryz.underlying42 WN rfl rfl (by omega) (by omega))) ?_
     refine ZG 14 rfl rfl rfl rfl rfl ⟨[0,1],by decide,rfl⟩ (Zf (Zd rfl (Zch _))) ?_
     refine ZG 15 rfl rfl rfl rfl rfl ⟨[0,1],by decide,rfl⟩ (Zf (Zi Tryz.underlying9 rfl rfl (XS hS.t (Y0 St.cells 5 (fun _=>rfl) hy (j:=0) (by decide) rfl)))) ?_
     refine ZG 16 rfl rfl rfl rfl rfl ⟨[0,1],by decide,rfl⟩ (Zf (Zd rfl (Zch _))) ?_
     refine ZG 17 rfl rfl rfl rfl rfl ⟨[0,1],by decide,rfl⟩ (Zf (Zi Tryz.underlying9 rfl rfl (by exact Zp 0 rfl rfl))) ?_
     refine ZG 18 rfl rfl rfl rfl rfl ⟨[0,1],by decide,rfl⟩ (Zf (Zas Tryz.underlying9 (by kernel_rfl) rfl rfl)) ?_
     refine Zc 19 rfl rfl ⟨[0,1],by decide,rfl⟩ (Zf (Zq rfl rfl)) ?_
     refine ZP (.inr ⟨[0,1],by decide,rfl⟩) ?_
     refine Ze<|Zge rfl (fun hq=>?_) (fun hq=>?_)
     ·refine Zb<|Za<|gas rfl rfl<|gA<|Zu<|Zx<|Zh<|Zh<|Zx<|Zh<|Zy (.inl rfl) Tryz.results60 rfl [] (by decide) ?_
      refine ⟨congrArg (Value.int .i64) (Eq.symm ?_),rfl⟩
      unfold Wo
      rw [hxd]
      simp only
      rw [if_neg (by rw [hn]; decide)]
      rw [if_neg (by rw [hix]; decide)]
      rw [if_pos (stTw_yes (k:=k) (by omega) (by rw [hyd,hxd]; omega) (by rw [hyd,hxd]; simpa using hq))]
     refine Zv<|ZI<|Ze<|Za<|gm rfl rfl<|gr rfl (by exact ZL (b:=1) rfl rfl (by omega)) ?_
     refine gas rfl rfl<|ZM<|Ze ?_
     exact ZR (k+1) ⟨⟨by omega,fun q hqq=>by
      rcases Nat.lt_or_eq_of_le (Nat.le_of_lt_succ hqq) with h | rfl
      ·exact hall q h
      ·rw [hyd,hxd]; rintro ⟨e1,e2⟩; rw [decide_eq_true e2] at hq; cases hq⟩,by omega⟩ ⟨rfl,rfl,rfl,rfl,trivial⟩ ⟨[0,1],by decide,rfl⟩
    refine Zc 9 rfl rfl ⟨[0,1],by decide,rfl⟩ (Zf (Zo rfl)) ?_
    refine ZF 10 rfl rfl rfl rfl rfl ⟨[0,1],by decide,rfl⟩ ?_
    refine ZF 11 rfl rfl rfl rfl rfl ⟨[0,1],by decide,rfl⟩ ?_
    refine ZF 12 rfl rfl rfl rfl rfl ⟨[0,1],by decide,rfl⟩ ?_
    refine ZF 13 rfl rfl rfl rfl rfl ⟨[0,1],by decide,rfl⟩ ?_
    refine ZF 14 rfl rfl rfl rfl rfl ⟨[0,1],by decide,rfl⟩ ?_
    refine ZF 15 rfl rfl rfl rfl rfl ⟨[0,1],by decide,rfl⟩ ?_
    refine ZF 16 rfl rfl rfl rfl rfl ⟨[0,1],by decide,rfl⟩ ?_
    refine ZF 17 rfl rfl rfl rfl rfl ⟨[0,1],by decide,rfl⟩ ?_
    refine ZF 18 rfl rfl rfl rfl rfl ⟨[0,1],by decide,rfl⟩ ?_
    refine Zc 19 rfl rfl ⟨[0,1],by decide,rfl⟩ (Zf (Zn rfl rfl)) ?_
    refine ZP (.inr ⟨[0,1],by decide,rfl⟩) ?_
    refine Ze<|Zl rfl<|Zv<|ZI<|Ze<|Za<|gm rfl rfl<|gr rfl (by exact ZL (b:=1) rfl rfl (by omega)) ?_
    refine gas rfl rfl<|ZM<|Ze ?_
    exact ZR (k+1) ⟨⟨by omega,fun q hqq=>by
     rcases Nat.lt_or_eq_of_le (Nat.le_of_lt_succ hqq) with h | rfl
     ·exact hall q h
     ·rw [hyd,hxd]; rintro ⟨e1,e2⟩; omega⟩,by omega⟩ ⟨rfl,rfl,rfl,rfl,trivial⟩ ⟨[0,1],by decide,rfl⟩
   refine gA<|Zl rfl<|Z1<|Zs<|Zs<|ZE<|Ze<|Zb<|Zb<|Za<|gr rfl (Zd rfl (Zp8 _))<|gr rfl (Zr Tryz.underlying94 rfl Jl rfl (by exact ZH 0 (off:=2) (k:=2) rfl rfl) rfl) ?_
   refine Zt (ZJ rfl (vf:=[]) (vc:=[]) rfl rfl Tryz.call96 (fun w1 ho=>Zjl x.num x.den w1) ?_)
   rintro _ _ ⟨rfl,rfl⟩
   refine Z0 (fun hv=>?_) (fun hv=>?_)
   ·refine gr rfl (rd_not rfl)<|gm rfl rfl<|Zg rfl rfl<|Zm rfl (Zd rfl (JH _))<|Zg rfl rfl (Zm rfl (Zi Tryz.underlying97 rfl rfl (by exact Zp 0 rfl rfl)) ?_)
    refine Zg rfl rfl<|Zm rfl (ZA Tryz.underlying97 rfl)<|Zg rfl rfl (Zm rfl (Z8 rfl rfl) (Zw (fun h56=>?_) (fun h56=>?_)))
    ·refine gr rfl (Zn rfl rfl)<|gA<|Zk rfl<|Zb<|Za<|gas rfl rfl<|gA<|Zu<|Zh<|Zy (.inl rfl) Tryz.results60 rfl [] (by decide) ?_
     refine ⟨congrArg (Value.int .i64) (Eq.symm ?_),rfl⟩
     unfold Wo
     rw [hxd]
     simp only
     rw [if_neg (by rw [hn]; decide)]
     rw [if_neg (by rw [hix]; decide)]
     rw [if_neg (by rw [Zgk (fun q hq=>hall q (by omega))]; decide)]
     rw [if_pos (by rw [hv,decide_eq_true (show x.ps.length=0 by omega)]; rfl)]
    refine gr rfl (Zn rfl rfl)<|gA<|Zl rfl<|Zv<|Ze<|Zb<|Zb<|Za<|gr rfl (Zd rfl (JH _))<|gr rfl (Zi Tryz.underlying97 rfl rfl (by exact Zp 0 rfl rfl)) ?_
    refine gr rfl (ZA Tryz.underlying97 rfl)<|gr rfl (Yk rfl rfl) (Zw (fun h61=>?_) (fun h61=>?_))
    ·refine gA<|Zk rfl<|Zb<|Za<|gas rfl rfl<|gA<|Zu<|Zh<|Zy (.inl rfl) Tryz.results60 rfl [] (by decide) ?_
     refine ⟨congrArg (Value.int .i64) (Eq.symm ?_),rfl⟩
     unfold Wo
     rw [hxd]
     simp only
     rw [if_neg (by rw [hn]; decide)]
     rw [if_neg (by rw [hix]; decide)]
     rw [if_neg (by rw [Zgk (fun q hq=>hall q (by omega))]; decide)]
     rw [if_neg (by rw [hv,decide_eq_false (show ¬ x.ps.length=0 by omega)]; decide)]
     rw [if_pos (decide_eq_true (by omega))]
    refine gA<|Zl rfl<|Zv<|Ze<|Zb<|Za<|gas rfl rfl<|gA<|Zu<|Zy (.inl rfl) Tryz.results60 rfl [] (by decide) ?_
    refine ⟨congrArg (Value.int .i64) (Eq.symm ?_),rfl⟩
    unfold Wo
    rw [hxd]
    simp only
    rw [if_neg (by rw [hn]; decide)]
    rw [if_neg (by rw [hix]; decide)]
    rw [if_neg (by rw [Zgk (fun q hq=>hall q (by omega))]; decide)]
    rw [if_neg (by rw [hv,decide_eq_false (show ¬ x.ps.length=0 by omega)]; decide)]
    rw [if_neg (by rw [decide_eq_false (show ¬ 12<x.ps.length by omega)]; decide)]
   refine gr rfl (rd_not rfl)<|gm rfl rfl<|Zj rfl rfl rfl<|Zj rfl rfl rfl<|Zj rfl rfl rfl<|Zj rfl rfl rfl<|gr rfl (Zq rfl rfl)<|gA<|Zk rfl<|Zb<|Za<|gas rfl rfl<|gA<|Zu<|Zh<|Zy (.inl rfl) Tryz.results60 rfl [] (by decide) ?_
   refine ⟨congrArg (Value.int .i64) (Eq.symm ?_),rfl⟩
   unfold Wo
   rw [hxd]
   simp only
   rw [if_neg (by rw [hn]; decide)]
   rw [if_neg (by rw [hix]; decide)]
   rw [if_neg (by rw [Zgk (fun q hq=>hall q (by omega))]; decide)]
   rw [if_pos (by rw [hv]; rfl)]
  refine gr rfl (rd_not rfl)<|gA<|Zk rfl<|Zb<|Za<|gas rfl rfl<|gA<|Zu<|Zh<|Zy (.inl rfl) Tryz.results60 rfl [] (by decide) ?_
  refine ⟨congrArg (Value.int .i64) (Eq.symm ?_),rfl⟩
  unfold Wo
  rw [hxd]
  simp only
  rw [if_neg (by rw [hn]; decide)]
  rw [if_pos hix]
 refine gr rfl (rd_not rfl)<|gA<|Zk rfl<|Zb<|Za<|gas rfl rfl<|gA<|Zu<|Zh<|Zy (.inl rfl) Tryz.results60 rfl [] (by decide) ?_
 refine ⟨congrArg (Value.int .i64) (Eq.symm ?_),rfl⟩
 unfold Wo
 rw [hxd]
 simp only
 rw [if_pos hn]
theorem rpart_ok (s:Org) (hle:OrgLe s) (w0:World) (hS:OrgIn s w0 []) (x:St) (p:Pt) (d:Dv) (hg:PGood s x d):Sp Tryz.prog 61 [s.val,x.val,p.val] w0 [] (RV (.int .i64 (YV s.rs d p))):=by
 obtain ⟨hrl,hd0,hd1,hrk,hxd0,hdx⟩:=hg
 have hdl:x.div.toNat<s.ds.length:=(List.getElem?_eq_some_iff.1 hdx).1
 have hln:=hle.r
 have hdn:=hle.d
 refine ZC Tryz.func61 rfl Tryz.ntmps61 rfl (Own.refl _) ?_
 simp only [ZV]
 refine Zb<|Za<|Zt (Z6 rfl rfl rfl (fun b3=>?_))
 refine Zt (Z6 rfl rfl rfl (fun b4=>?_))
 refine Zt (Z6 rfl rfl rfl (fun b5=>?_))
 refine gas rfl rfl<|gA<|Zb<|Zb<|Za<|gr rfl (Zd rfl (Zgg _))<|gr rfl (Zi Tryz.underlying3 rfl rfl (by exact Zp 0 rfl rfl)) ?_
 refine gr rfl (Zd rfl (WD _))<|gr rfl (Zi Tryz.underlying41 rfl rfl (by exact Zp 2 rfl rfl)) ?_
 refine gr rfl (ZA Tryz.underlying41 rfl)<|Zt (ZJ rfl (vf:=[]) (vc:=[]) rfl rfl Tryz.call97 (fun w1 ho=>Zdz _ _ w1) ?_)
 rintro _ _ ⟨rfl,rfl⟩
 refine Z0 (fun hix=>?_) (fun hix=>?_)
 ·obtain ⟨hx0,hx1⟩:0≤p.rank∧p.rank<s.rs.length:=by unfold Wc at hix; simpa using hix
  obtain ⟨r,hr⟩:=get_some (show p.rank.toNat<s.rs.length by omega)
  have hrd:=getD_some (d:=default) hr
  have hrr:=hrk r (List.mem_of_getElem? hr)
  refine gr rfl (rd_not rfl)<|gA<|Zl rfl<|Zv<|Ze<|Zb<|Za<|gr rfl (Zd rfl (YS _))<|gr rfl (Zi Tryz.underlying40 rfl rfl (by exact Zp 2 rfl rfl)) ?_
  refine gr rfl (Zd rfl (VH _))<|gr rfl (Zi Tryz.underlying3 rfl rfl (by exact Zp 1 rfl rfl)) ?_
  refine gr rfl (Z3 hS.d Tryz.underlying40 X2 rfl rfl (by omega) (by omega)) ?_
  refine gr rfl (Zr Tryz.underlying109 rfl X2 rfl (Zi7 hS.d (Yf Dv.cells 3 (fun _=>rfl) hdx)) rfl) ?_
  refine Zt (ZU X2 rfl rfl (fun b7=>?_))
  refine Zt (Zz 0 X2 rfl rfl rfl rfl rfl rfl (by rfl) ?_)
  refine gA<|Zb<|Zb<|Za<|gr rfl (Zd rfl (Zcg _))<|gr rfl (Zi Tryz.underlying3 rfl rfl (by exact Zp 1 rfl rfl)) ?_
  refine gr rfl (Zd rfl (Vi _))<|gr rfl (Zi Tryz.underlying3 rfl rfl (by exact Zp 0 rfl rfl)) ?_
  refine gr rfl (ZX rfl rfl) (Zw (fun h26=>?_) (fun h26=>?_))
  ·refine gm rfl rfl<|Zj rfl rfl rfl<|Zj rfl rfl rfl<|Zj rfl rfl rfl<|Zj rfl rfl rfl<|Zj rfl rfl rfl<|gr rfl (Zq rfl rfl)<|gm rfl rfl<|Zj rfl rfl rfl<|Zj rfl rfl rfl<|Zj rfl rfl rfl<|Zj rfl rfl rfl<|Zj rfl rfl rfl<|gr rfl (Zq rfl rfl)<|gm rfl rfl<|Zj rfl rfl rfl<|Zj rfl rfl rfl<|Zj rfl rfl rfl<|gr rfl (Zq rfl rfl)<|gm rfl rfl<|Zj rfl rfl rfl<|Zj rfl rfl rfl<|Zj rfl rfl rfl<|gr rfl (Zq rfl rfl)<|ZM ?_
   refine Ze<|Zk rfl<|Zb<|Za<|gas rfl rfl<|gA<|Zu<|Zh<|Zy (.inl rfl) Tryz.results61 rfl [] (by decide) ?_
   refine ⟨congrArg (Value.int .i64) (Eq.symm ?_),rfl⟩
   unfold YV
   rw [if_neg (by rw [hix]; decide)]
   rw [if_pos]
   unfold Wp
   try simp only [Z7] at *
   simp only [Bool.not_eq_true',Bool.not_eq_false',Bool.and_eq_false_iff,Bool.and_eq_true,decide_eq_true_eq,decide_eq_false_iff_not] at *
   omega
  refine gm rfl rfl<|Zg rfl rfl<|Zm rfl (Zd rfl (Zdt _))<|Zg rfl rfl (Zm rfl (Zi Tryz.underlying3 rfl rfl (by exact Zp 1 rfl rfl)) ?_)
  refine Zg rfl rfl<|Zm rfl (Zd rfl (VN _))<|Zg rfl rfl (Zm rfl (Zi Tryz.underlying3 rfl rfl (by exact Zp 0 rfl rfl)) ?_)
  refine Zg rfl rfl (Zm rfl (Yk rfl rfl) (Zw (fun h32=>?_) (fun h32=>?_)))
  ·refine gr rfl (Zn rfl rfl)<|gm rfl rfl<|Zj rfl rfl rfl<|Zj rfl rfl rfl<|Zj rfl rfl rfl<|Zj rfl rfl rfl<|Zj rfl rfl rfl<|gr rfl (Zq rfl rfl)<|gm rfl rfl<|Zj rfl rfl rfl<|Zj rfl rfl rfl<|Zj rfl rfl rfl<|gr rfl (Zq rfl rfl)<|gm rfl rfl<|Zj rfl rfl rfl<|Zj rfl rfl rfl<|Zj rfl rfl rfl<|gr rfl (Zq rfl rfl)<|gA<|Zk rfl<|Zb<|Za<|gas rfl rfl<|ZM ?_
   refine Ze<|Zu<|Zh<|Zy (.inl rfl) Tryz.results61 rfl [] (by decide) ?_
   refine ⟨congrArg (Value.int .i64) (Eq.symm ?_),rfl⟩
   unfold YV
   rw [if_neg (by rw [hix]; decide)]
   rw [if_pos]
   unfold Wp
   try simp only [Z7] at *
   simp only [Bool.not_eq_true',Bool.not_eq_false',Bool.and_eq_false_iff,Bool.and_eq_true,decide_eq_true_eq,decide_eq_false_iff_not] at *
   omega
  refine gr rfl (Zn rfl rfl)<|gm rfl rfl<|Zg rfl rfl<|Zm rfl (Zd rfl (Zcg _))<|Zg rfl rfl (Zm rfl (Zi Tryz.underlying3 rfl rfl (by exact Zp 1 rfl rfl)) ?_)
  refine Zg rfl rfl<|Zm rfl (Zd rfl (Zdt _))<|Zg rfl rfl (Zm rfl (Zi Tryz.underlying3 rfl rfl (by exact Zp 1 rfl rfl)) ?_)
  refine Zg rfl rfl (Zm rfl (Yk rfl rfl) (Zw (fun h39=>?_) (fun h39=>?_)))
  ·refine gr rfl (Zn rfl rfl)<|gm rfl rfl<|Zj rfl rfl rfl<|Zj rfl rfl rfl<|Zj rfl rfl rfl<|gr rfl (Zq rfl rfl)<|gm rfl rfl<|Zj rfl rfl rfl<|Zj rfl rfl rfl<|Zj rfl rfl rfl<|gr rfl (Zq rfl rfl)<|gA<|Zk rfl<|Zb<|Za<|gas rfl rfl<|gA<|Zu<|Zh<|Zy (.inl rfl) Tryz.results61 rfl [] (by decide) ?_
   refine ⟨congrArg (Value.int .i64) (Eq.symm ?_),rfl⟩
   unfold YV
   rw [if_neg (by rw [hix]; decide)]
   rw [if_pos]
   unfold Wp
   try simp only [Z7] at *
   simp only [Bool.not_eq_true',Bool.not_eq_false',Bool.and_eq_false_iff,Bool.and_eq_true,decide_eq_true_eq,decide_eq_false_iff_not] at *
   omega
  refine gr rfl (Zn rfl rfl)<|gm rfl rfl<|Zg rfl rfl<|Zm rfl (Zd rfl (Zcf _))<|Zg rfl rfl (Zm rfl (Zi Tryz.underlying3 rfl rfl (by exact Zp 1 rfl rfl)) ?_)
  refine Zg rfl rfl (Zm rfl (ZX rfl rfl) (Zw (fun h44=>?_) (fun h44=>?_)))
  ·refine gr rfl (Zn rfl rfl)<|gm rfl rfl<|Zj rfl rfl rfl<|Zj rfl rfl rfl<|Zj rfl rfl rfl<|gr rfl (Zq rfl rfl)<|gA<|Zk rfl<|Zb<|Za<|gas rfl rfl<|gA<|Zu<|Zh<|Zy (.inl rfl) Tryz.results61 rfl [] (by decide) ?_
   refine ⟨congrArg (Value.int .i64) (Eq.symm ?_),rfl⟩
   unfold YV
   rw [if_neg (by rw [hix]; decide)]
   rw [if_pos]
   unfold Wp
   try simp only [Z7] at *
   simp only [Bool.not_eq_true',Bool.not_eq_false',Bool.and_eq_false_iff,Bool.and_eq_true,decide_eq_true_eq,decide_eq_false_iff_not] at *
   omega
  refine gr rfl (Zn rfl rfl)<|gm rfl rfl<|Zg rfl rfl<|Zm rfl (Zd rfl (Zcf _))<|Zg rfl rfl (Zm rfl (Zi Tryz.underlying3 rfl rfl (by exact Zp 1 rfl rfl)) ?_)
  refine Zg rfl rfl (Zm rfl (Yk rfl rfl) (Zw (fun h49=>?_) (fun h49=>?_)))
  ·refine gr rfl (Zn rfl rfl)<|gA<|Zk rfl<|Zb<|Za<|gas rfl rfl<|gA<|Zu<|Zh<|Zy (.inl rfl) Tryz.results61 rfl [] (by decide) ?_
   refine ⟨congrArg (Value.int .i64) (Eq.symm ?_),rfl⟩
   unfold YV
   rw [if_neg (by rw [hix]; decide)]
   rw [if_pos]
   unfold Wp
   try simp only [Z7] at *
   simp only [Bool.not_eq_true',Bool.not_eq_false',Bool.and_eq_false_iff,Bool.and_eq_true,decide_eq_true_eq,decide_eq_false_iff_not] at *
   omega
  refine gr rfl (Zn rfl rfl)<|gA<|Zl rfl<|Zv<|Ze<|Zb<|Zb ?_
  have hrg:Wp d p=true:=by
   unfold Wp
   simp only [Bool.and_eq_true,decide_eq_true_eq]
   omega
  refine Za<|gr rfl (Zd rfl (Zcg _))<|gr rfl (Zi Tryz.underlying3 rfl rfl (by exact Zp 1 rfl rfl)) ?_
  refine gas rfl rfl<|gA<|ZB<|ZZ (ι:=Nat) [(3,_),(5,_)] [_,_,_,_] (fun j=>p.lo+(j:Int)≤p.hi+1∧∀ q:Nat,q<j→(decide (r.low≤p.lo+(q:Int)+p.shift) && decide (p.lo+(q:Int)+p.shift<r.low+r.count))=true) (fun j Fr0=>((8,.int .i64 (p.lo+(j:Int)))::Fr0)) (fun j Fr0=>Fr0) (fun j=>(p.hi+1 - p.lo).toNat - j) 0 (⟨by omega,fun q hq=>absurd hq (Nat.not_lt_zero q)⟩) ⟨by simp; rfl,rfl,rfl,trivial⟩ ⟨[0,1,2,3],by decide,rfl⟩ ?_
  rintro j ⟨hj,hall⟩
  refine Zb<|Zb<|Za<|gm rfl rfl<|gr rfl (Zd rfl (Zdt _))<|gr rfl (Zi Tryz.underlying3 rfl rfl (by exact Zp 1 rfl rfl)) ?_
  refine gr rfl (X7 rfl rfl) (Zw (fun h56=>?_) (fun h56=>?_))
  ·refine gA<|Zk rfl<|Zv<|Ze<|Zb<|ZB<|Zb<|ZO [0,1,2,3] true 11 rfl<|Zc 0 rfl rfl ⟨[0,1,2,3],by decide,rfl⟩ (Zf (Zd rfl (WD _))) ?_
   refine Zc 1 rfl rfl ⟨[0,1,2,3],by decide,rfl⟩ (Zf (Zi Tryz.underlying41 rfl rfl (by exact Zp 3 rfl rfl))) ?_
   refine Zc 2 rfl rfl ⟨[0,1,2,3],by decide,rfl⟩ (Zf (Zd rfl (Zgg _))) ?_
   refine Zc 3 rfl rfl ⟨[0,1,2,3],by decide,rfl⟩ (Zf (Zi Tryz.underlying3 rfl rfl (by exact Zp 1 rfl rfl))) ?_
   refine Zc 4 rfl rfl ⟨[0,1,2,3],by decide,rfl⟩ (Zf (Z3 hS.r Tryz.underlying41 Wu rfl rfl (by omega) (by omega))) ?_
   refine Zc 5 rfl rfl ⟨[0,1,2,3],by decide,rfl⟩ (Zf (Zr Tryz.underlying111 rfl Wu rfl (Zi7 hS.r (Yf Rk.cells 6 (fun _=>rfl) hr)) rfl)) ?_
   refine Zc 6 rfl rfl ⟨[0,1,2,3],by decide,rfl⟩ (Zf (Zo rfl)) ?_
   refine Zc 7 rfl rfl ⟨[0,1,2,3],by decide,rfl⟩ (Zf (Zd rfl (Zcf _))) ?_
   refine Zc 8 rfl rfl ⟨[0,1,2,3],by decide,rfl⟩ (Zf (Zi Tryz.underlying3 rfl rfl (by exact Zp 1 rfl rfl))) ?_
   refine Zc 9 rfl rfl ⟨[0,1,2,3],by decide,rfl⟩ (Zf (XR rfl rfl (by omega) (by omega))) ?_
   simp only [Rk.cells]
   refine Zc 10 rfl rfl ⟨[0,1,2,3],by decide,rfl⟩ (YE (vf:=[]) (vc:=[]) rfl rfl Tryz.call98 (fun w1 ho=>has_ok r _ (by omega) (by omega) (by omega) (by omega) w1) (by rintro _ _ ⟨h,_⟩; exact h)) ?_
   refine Z0 (fun hh=>?_) (fun hh=>?_)
   ·refine Zc 11 rfl rfl ⟨[0,1,2,3],by decide,rfl⟩ (Zf (rd_not rfl)) ?_
    refine ZP (.inr ⟨[0,1,2,3],by decide,rfl⟩) ?_
    refine Ze<|Zl rfl<|Zv<|ZI<|Ze<|Za<|gm rfl rfl<|gr rfl (XR rfl rfl (by omega) (by omega)) ?_
    refine gas rfl rfl<|ZM<|Ze ?_
    exact ZR (j+1) ⟨⟨by omega,fun q hqq=>by
     rcases Nat.lt_or_eq_of_le (Nat.le_of_lt_succ hqq) with h | rfl
     ·exact hall q h
     ·exact hh⟩,by omega⟩ ⟨(congrArg (fun z=>some (Value.int .i64 z)) (show p.lo+(j:Int)+1=p.lo+((j+1:Nat):Int) by omega)),rfl,rfl,trivial⟩ ⟨[0,1,2,3],by decide,rfl⟩
   refine Zc 11 rfl rfl ⟨[0,1,2,3],by decide,rfl⟩ (Zf (rd_not rfl)) ?_
   refine ZP (.inr ⟨[0,1,2,3],by decide,rfl⟩) ?_
   refine Ze<|Zk rfl<|Zb<|Za<|gas rfl rfl<|gA<|Zu<|Zx<|Zh<|Zh<|Zx<|Zh<|Zy (.inl rfl) Tryz.results61 rfl [] (by decide) ?_
   refine ⟨congrArg (Value.int .i64) (Eq.symm ?_),rfl⟩
   unfold YV
   rw [if_neg (by rw [hix]; decide)]
   rw [if_neg (by rw [hrg]; decide),hrd]
   rw [if_pos]
   unfold Zha
   simp only [Bool.and_eq_false_iff,decide_eq_false_iff_not] at hh ⊢
   omega
  refine gA<|Zl rfl<|Z1<|Zs<|Zs<|ZE<|Ze<|Zb<|Za<|gas rfl rfl<|gA<|Zu<|Zy (.inl rfl) Tryz.results61 rfl [] (by decide) ?_
  refine ⟨congrArg (Value.int .i64) (Eq.symm ?_),rfl⟩
  unfold YV
  rw [if_neg (by rw [hix]; decide)]
  rw [if_neg (by rw [hrg]; decide),hrd]
  rw [if_neg]
  rw [Bool.not_eq_false]
  unfold Zha
  have h1:=hall 0 (by omega)
  have h2:=hall (p.hi - p.lo).toNat (by omega)
  simp only [Bool.and_eq_true,decide_eq_true_eq] at h1 h2 ⊢
  omega
 refine gr rfl (rd_not rfl)<|gA<|Zk rfl<|Zb<|Za<|gas rfl rfl<|gA<|Zu<|Zh<|Zy (.inl rfl) Tryz.results61 rfl [] (by decide) ?_
 refine ⟨congrArg (Value.int .i64) (Eq.symm ?_),rfl⟩
 unfold YV
 rw [if_pos hix]
theorem Ze1 (s:Org) (hle:OrgLe s) (w0:World) (hS:OrgIn s w0 []):Sp Tryz.prog 22 [s.val] w0 [] (RV (.tuple #[(Yo s).1.val,.int .i64 (Yo s).2])):=by
 refine ZC Tryz.func22 rfl Tryz.ntmps22 rfl (Own.refl _) ?_
 simp only [ZV]
 refine Zb<|Za<|Zt (Z6 rfl rfl rfl (fun b1=>?_))
 refine Zt (ZU YM rfl rfl (fun b2=>?_))
 refine gas rfl rfl<|gA<|Zb<|Zb<|Za<|gr rfl (Zd rfl (YS _))<|gr rfl (Zi Tryz.underlying40 rfl rfl (by exact Zp 1 rfl rfl)) ?_
 refine gr rfl (ZA Tryz.underlying40 rfl)<|gr rfl (Yk rfl rfl) (Zw (fun h17=>?_) (fun h17=>?_))
 ·refine gm rfl rfl<|Zj rfl rfl rfl<|Zj rfl rfl rfl<|Zj rfl rfl rfl<|Zj rfl rfl rfl<|gr rfl (Zq rfl rfl)<|gm rfl rfl<|Zj rfl rfl rfl<|Zj rfl rfl rfl<|Zj rfl rfl rfl<|Zj rfl rfl rfl<|gr rfl (Zq rfl rfl)<|gm rfl rfl<|Zj rfl rfl rfl<|Zj rfl rfl rfl<|Zj rfl rfl rfl<|Zj rfl rfl rfl<|gr rfl (Zq rfl rfl)<|gA<|Zk rfl<|Zb<|Za<|gr rfl (ZT rfl (fun _=>JW)) ?_
  refine Zt (Zz 0 YM rfl rfl rfl rfl rfl rfl (by rfl) ?_)
  refine gas rfl rfl<|gA<|Zu<|Zh<|YF (.inl rfl) Tryz.results22 (YC Tryz.underlying69 rfl YM rfl (by rfl) (ZH 0 (off:=0) (k:=3) rfl rfl)) (YU rfl) [] (by decide) ?_
  refine ⟨?_,rfl⟩
  have he:Yo s=(⟨0,0,0⟩,3):=by
   unfold Yo
   rw [if_pos (by unfold WM; simp; omega)]
  rw [he]
  rfl
 refine gm rfl rfl<|Zg rfl rfl<|Zm rfl (Zd rfl (WD _))<|Zg rfl rfl (Zm rfl (Zi Tryz.underlying41 rfl rfl (by exact Zp 1 rfl rfl)) ?_)
 refine Zg rfl rfl<|Zm rfl (ZA Tryz.underlying41 rfl)<|Zg rfl rfl (Zm rfl (Yk rfl rfl) (Zw (fun h22=>?_) (fun h22=>?_)))
 ·refine gr rfl (Zn rfl rfl)<|gm rfl rfl<|Zj rfl rfl rfl<|Zj rfl rfl rfl<|Zj rfl rfl rfl<|Zj rfl rfl rfl<|gr rfl (Zq rfl rfl)<|gm rfl rfl<|Zj rfl rfl rfl<|Zj rfl rfl rfl<|Zj rfl rfl rfl<|Zj rfl rfl rfl<|gr rfl (Zq rfl rfl)<|gA<|Zk rfl<|Zb<|Za<|gr rfl (ZT rfl (fun _=>JW)) ?_
  refine Zt (Zz 0 YM rfl rfl rfl rfl rfl rfl (by rfl) ?_)
  refine gas rfl rfl<|gA<|Zu<|Zh<|YF (.inl rfl) Tryz.results22 (YC Tryz.underlying69 rfl YM rfl (by rfl) (ZH 0 (off:=0) (k:=3) rfl rfl)) (YU rfl) [] (by decide) ?_
  refine ⟨?_,rfl⟩
  have he:Yo s=(⟨0,0,0⟩,3):=by
   unfold Yo
   rw [if_pos (by unfold WM; simp; omega)]
  rw [he]
  rfl
 refine gr rfl (Zn rfl rfl)<|gm rfl rfl<|Zg rfl rfl<|Zm rfl (Zd rfl (Xg _))<|Zg rfl rfl (Zm rfl (Zi Tryz.underlying42 rfl rfl (by exact Zp 1 rfl rfl)) ?_)
 refine Zg rfl rfl<|Zm rfl (ZA Tryz.underlying42 rfl)<|Zg rfl rfl (Zm rfl (Yk rfl rfl) (Zw (fun h28=>?_) (fun h28=>?_)))
 ·refine gr rfl (Zn rfl rfl)<|gm rfl rfl<|Zj rfl rfl rfl<|Zj rfl rfl rfl<|Zj rfl rfl rfl<|Zj rfl rfl rfl<|gr rfl (Zq rfl rfl)<|gA<|Zk rfl<|Zb<|Za<|gr rfl (ZT rfl (fun _=>JW)) ?_
  refine Zt (Zz 0 YM rfl rfl rfl rfl rfl rfl (by rfl) ?_)
  refine gas rfl rfl<|gA<|Zu<|Zh<|YF (.inl rfl) Tryz.results22 (YC Tryz.underlying69 rfl YM rfl (by rfl) (ZH 0 (off:=0) (k:=3) rfl rfl)) (YU rfl) [] (by decide) ?_
  refine ⟨?_,rfl⟩
  have he:Yo s=(⟨0,0,0⟩,3):=by
   unfold Yo
   rw [if_pos (by unfold WM; simp; omega)]
  rw [he]
  rfl
 refine gr rfl (Zn rfl rfl)<|gm rfl rfl<|Zg rfl rfl<|Zm rfl (Zd rfl (XM _))<|Zg rfl rfl (Zm rfl (Zi Tryz.underlying43 rfl rfl (by exact Zp 1 rfl rfl)) ?_)
 refine Zg rfl rfl<|Zm rfl (ZA Tryz.underlying43 rfl)<|Zg rfl rfl (Zm rfl (Yk rfl rfl) (Zw (fun h34=>?_) (fun h34=>?_)))
 ·refine gr rfl (Zn rfl rfl)<|gA<|Zk rfl<|Zb<|Za<|gr rfl (ZT rfl (fun _=>JW)) ?_
  refine Zt (Zz 0 YM rfl rfl rfl rfl rfl rfl (by rfl) ?_)
  refine gas rfl rfl<|gA<|Zu<|Zh<|YF (.inl rfl) Tryz.results22 (YC Tryz.underlying69 rfl YM rfl (by rfl) (ZH 0 (off:=0) (k:=3) rfl rfl)) (YU rfl) [] (by decide) ?_
  refine ⟨?_,rfl⟩
  have he:Yo s=(⟨0,0,0⟩,3):=by
   unfold Yo
   rw [if_pos (by unfold WM; simp; omega)]
  rw [he]
  rfl
 refine gr rfl (Zn rfl rfl)<|gA<|Zl rfl<|Zv<|Ze<|Zb<|Zb ?_
 have hlong:WM s=false:=by
  unfold WM; simp; omega
 have hln:s.ds.length≤6∧s.rs.length≤40∧s.ss.length≤80∧s.cs.length≤24:=by omega
 refine Za<|gas rfl rfl<|gA<|ZB<|ZZ (ι:=Nat) [(1,_),(2,_)] [_,_] (fun k=>k≤s.ds.length∧∀ q,q<k→Wt s.ds q=0) (fun k Fr0=>((4,natV k)::Fr0)) (fun k Fr0=>Fr0) (fun k=>s.ds.length - k) 0 (⟨Nat.zero_le _,fun q hq=>absurd hq (Nat.not_lt_zero q)⟩) ⟨rfl,rfl,rfl,trivial⟩ ⟨[0,1],by decide,rfl⟩ ?_
 rintro k ⟨hkk,hall⟩
 refine Zb<|Zb<|Za<|gm rfl rfl<|gr rfl (Zd rfl (YS _))<|gr rfl (Zi Tryz.underlying40 rfl rfl (by exact Zp 1 rfl rfl)) ?_
 refine gr rfl (ZA Tryz.underlying40 rfl)<|gr rfl (ZX rfl rfl) (Zw (fun h41=>?_) (fun h41=>?_))
 ·refine gA<|Zk rfl<|Zv<|Ze<|Zb<|ZB<|Zb<|Za<|gr rfl (Zr Tryz.underlying45 rfl Xu rfl (by exact ZH 1 (off:=0) (k:=4) rfl rfl) rfl) ?_
  refine gm rfl rfl<|Zt (ZJ rfl (vf:=[]) (vc:=[]) rfl rfl Tryz.call58 (fun w1 ho=>Zk5 s hle w1 (hS.at ho) k (by omega)) ?_)
  rintro _ _ ⟨rfl,rfl⟩
  refine gas rfl rfl<|gA<|Zb<|Za<|gm rfl rfl<|gr rfl (Z4 rfl rfl) (Zw (fun h48=>?_) (fun h48=>?_))
  ·refine gA<|Zk rfl<|Zb<|Za<|gm rfl rfl<|gr rfl (ZT rfl (fun _=>W5 _ _)) ?_
   refine gm rfl rfl<|Zt (Zz 0 YM rfl rfl rfl rfl rfl rfl (by rfl) ?_)
   refine gas rfl rfl<|gA<|Zu<|Zx<|Zh<|Zh<|Zx<|Zh<|YF (.inl rfl) Tryz.results22 (YC Tryz.underlying69 rfl YM rfl (by rfl) (ZH 0 (off:=0) (k:=3) rfl rfl)) (YU rfl) [] (by decide) ?_
   refine ⟨?_,rfl⟩
   have hX:Yt (fun i=>Xa (Wt s.ds i)) s.ds.length 0=some (k,0,Wt s.ds k):=XL _ _ _ 0 k (Nat.zero_le _) (by omega) (fun j _ hj=>by show Xa _=none; unfold Xa; rw [if_pos (hall j hj)]) (by show Xa _=_; unfold Xa; rw [if_neg (by omega)])
   have he:Yo s=(⟨1,k,0⟩,Wt s.ds k):=by
    unfold Yo
    rw [if_neg (by rw [hlong]; decide),hX]
   rw [he]
   rfl
  refine gA<|Zl rfl<|Zv<|ZI<|Ze<|Za<|gm rfl rfl<|gr rfl (by exact ZL (b:=1) rfl rfl (by omega)) ?_
  refine gas rfl rfl<|ZM<|Ze ?_
  exact ZR (k+1) ⟨⟨by omega,fun q hq=>by
   rcases Nat.lt_or_eq_of_le (Nat.le_of_lt_succ hq) with h | rfl
   ·exact hall q h
   ·omega⟩,by omega⟩ ⟨rfl,rfl,rfl,trivial⟩ ⟨[0,1],by decide,rfl⟩
 refine gA<|Zl rfl<|Z1<|Zs<|Zs<|ZE<|Ze<|Zb<|Zb ?_
 have hD:Yt (fun i=>Xa (Wt s.ds i)) s.ds.length 0=none:=XC _ _ 0 (fun j _ hj=>by show Xa _=none; unfold Xa; rw [if_pos (hall j (by omega))])
 refine Za<|gas rfl rfl<|gA<|ZB<|ZZ (ι:=Nat) [(1,_),(2,_)] [_,_] (fun k1=>k1≤s.rs.length∧∀ q,q<k1→X1 s.rs q=0) (fun k1 Fr0=>((6,natV k1)::Fr0)) (fun k1 Fr0=>Fr0) (fun k1=>s.rs.length - k1) 0 (⟨Nat.zero_le _,fun q hq=>absurd hq (Nat.not_lt_zero q)⟩) ⟨rfl,rfl,rfl,trivial⟩ ⟨[0,1],by decide,rfl⟩ ?_
 rintro k1 ⟨hkk1,hall1⟩
 refine Zb<|Zb<|Za<|gm rfl rfl<|gr rfl (Zd rfl (WD _))<|gr rfl (Zi Tryz.underlying41 rfl rfl (by exact Zp 1 rfl rfl)) ?_
 refine gr rfl (ZA Tryz.underlying41 rfl)<|gr rfl (ZX rfl rfl) (Zw (fun h56=>?_) (fun h56=>?_))
 ·refine gA<|Zk rfl<|Zv<|Ze<|Zb<|ZB<|Zb<|Za<|gr rfl (Zr Tryz.underlying45 rfl Xu rfl (by exact ZH 1 (off:=0) (k:=4) rfl rfl) rfl) ?_
  refine gm rfl rfl<|Zt (ZJ rfl (vf:=[]) (vc:=[]) rfl rfl Tryz.call59 (fun w1 ho=>rrank_ok s hle w1 (hS.at ho) k1 (by omega)) ?_)
  rintro _ _ ⟨rfl,rfl⟩
  refine gas rfl rfl<|gA<|Zb<|Za<|gm rfl rfl<|gr rfl (Z4 rfl rfl) (Zw (fun h63=>?_) (fun h63=>?_))
  ·refine gA<|Zk rfl<|Zb<|Za<|gm rfl rfl<|gr rfl (ZT rfl (fun _=>W5 _ _)) ?_
   refine gm rfl rfl<|Zt (Zz 0 YM rfl rfl rfl rfl rfl rfl (by rfl) ?_)
   refine gas rfl rfl<|gA<|Zu<|Zx<|Zh<|Zh<|Zx<|Zh<|YF (.inl rfl) Tryz.results22 (YC Tryz.underlying69 rfl YM rfl (by rfl) (ZH 0 (off:=0) (k:=3) rfl rfl)) (YU rfl) [] (by decide) ?_
   refine ⟨?_,rfl⟩
   have hX:Yt (fun i=>Xa (X1 s.rs i)) s.rs.length 0=some (k1,0,X1 s.rs k1):=XL _ _ _ 0 k1 (Nat.zero_le _) (by omega) (fun j _ hj=>by show Xa _=none; unfold Xa; rw [if_pos (hall1 j hj)]) (by show Xa _=_; unfold Xa; rw [if_neg (by omega)])
   have he:Yo s=(⟨2,k1,0⟩,X1 s.rs k1):=by
    unfold Yo
    rw [if_neg (by rw [hlong]; decide),hD]
    simp only
    rw [hX]
   rw [he]
   rfl
  refine gA<|Zl rfl<|Zv<|ZI<|Ze<|Za<|gm rfl rfl<|gr rfl (by exact ZL (b:=1) rfl rfl (by omega)) ?_
  refine gas rfl rfl<|ZM<|Ze ?_
  exact ZR (k1+1) ⟨⟨by omega,fun q hq=>by
   rcases Nat.lt_or_eq_of_le (Nat.le_of_lt_succ hq) with h | rfl
   ·exact hall1 q h
   ·omega⟩,by omega⟩ ⟨rfl,rfl,rfl,trivial⟩ ⟨[0,1],by decide,rfl⟩
 refine gA<|Zl rfl<|Z1<|Zs<|Zs<|ZE<|Ze<|Zb<|Zb ?_
 have hR:Yt (fun i=>Xa (X1 s.rs i)) s.rs.length 0=none:=XC _ _ 0 (fun j _ hj=>by show Xa _=none; unfold Xa; rw [if_pos (hall1 j (by omega))])
 refine Za<|gas rfl rfl<|gA<|ZB<|ZZ (ι:=Nat) [(1,_),(2,_)] [_,_] (fun k2=>k2≤s.ss.length∧∀ q,q<k2→stO s q=none) (fun k2 Fr0=>((8,natV k2)::Fr0)) (fun k2 Fr0=>Fr0) (fun k2=>s.ss.length - k2) 0 (⟨Nat.zero_le _,fun q hq=>absurd hq (Nat.not_lt_zero q)⟩) ⟨rfl,rfl,rfl,trivial⟩ ⟨[0,1],by decide,rfl⟩ ?_
 rintro k2 ⟨hkk2,hall2⟩
 refine Zb<|Zb<|Za<|gm rfl rfl<|gr rfl (Zd rfl (Xg _))<|gr rfl (Zi Tryz.underlying42 rfl rfl (by exact Zp 1 rfl rfl)) ?_
 refine gr rfl (ZA Tryz.underlying42 rfl)<|gr rfl (ZX rfl rfl) (Zw (fun h71=>?_) (fun h71=>?_))
 ·obtain ⟨x,hx⟩:=get_some (show k2<s.ss.length by omega)
  have hxd:=getD_some (d:=default) hx
  have hxm:=List.mem_of_getElem? hx
  have hpl:=hle.p x hxm
  refine gA<|Zk rfl<|Zv<|Ze<|Zb<|ZB<|Zb<|Za<|gr rfl (Zr Tryz.underlying45 rfl Xu rfl (by exact ZH 1 (off:=0) (k:=4) rfl rfl) rfl) ?_
  refine gm rfl rfl<|Zt (ZJ rfl (vf:=[]) (vc:=[]) rfl rfl Tryz.call60 (fun w1 ho=>rstop_ok s hle w1 (hS.at ho) k2 (by omega)) ?_)
  rintro _ _ ⟨rfl,rfl⟩
  refine gas rfl rfl<|gA<|Zb<|Zb<|Za<|gm rfl rfl<|gr rfl (Z4 rfl rfl) (Zw (fun h78=>?_) (fun h78=>?_))
  ·refine gA<|Zk rfl<|Zb<|Za<|gm rfl rfl<|gr rfl (ZT rfl (fun _=>W5 _ _)) ?_
   refine gm rfl rfl<|Zt (Zz 0 YM rfl rfl rfl rfl rfl rfl (by rfl) ?_)
   refine gas rfl rfl<|gA<|Zu<|Zh<|Zx<|Zh<|Zh<|Zx<|Zh<|YF (.inl rfl) Tryz.results22 (YC Tryz.underlying69 rfl YM rfl (by rfl) (ZH 0 (off:=0) (k:=3) rfl rfl)) (YU rfl) [] (by decide) ?_
   refine ⟨?_,rfl⟩
   have hst:stO s k2=some (0,Wo s.ds.length s.ss k2):=by unfold stO; rw [if_pos (by omega)]
   have hX:Yt (stO s) s.ss.length 0=some (k2,0,Wo s.ds.length s.ss k2):=XL _ _ _ 0 k2 (Nat.zero_le _) (by omega) (fun j _ hj=>hall2 j hj) (hst)
   have he:Yo s=(⟨3,k2,0⟩,Wo s.ds.length s.ss k2):=by
    unfold Yo
    rw [if_neg (by rw [hlong]; decide),hD]
    simp only
    rw [hR]
    simp only
    rw [hX]
   rw [he]
   rfl
  refine gA<|Zl rfl<|Zv<|Ze<|Zb ?_
  have he0:Wo s.ds.length s.ss k2=0:=by omega
  have hix:=Zri he0
  rw [hxd] at hix
  obtain ⟨d,hdx⟩:=get_some (show x.div.toNat<s.ds.length by omega)
  have hdd:=getD_some (d:=default) hdx
  have hg:PGood s x d:=by
   have h3:=Zmu (dvErr_ok (hall x.div.toNat (by omega)))
   rw [hdd] at h3
   refine ⟨hln.2.1,by omega,by omega,fun r hr=>?_,hix.1,hdx⟩
   obtain ⟨q,hq,hqr⟩:=Zfn default hr
   have h5:=Zmv (rkErr_ok (hall1 q (by omega)))
   rw [hqr] at h5
   omega
  refine Za<|gas rfl rfl<|gA<|ZB<|ZZ (ι:=Nat) [(1,_),(2,_),(8,_)] [_,_] (fun k3=>k3≤x.ps.length∧∀ q,q<k3→YV s.rs d (x.ps.getD q default)=0) (fun k3 Fr0=>((10,natV k3)::Fr0)) (fun k3 Fr0=>Fr0) (fun k3=>x.ps.length - k3) 0 (⟨Nat.zero_le _,fun q hq=>absurd hq (Nat.not_lt_zero q)⟩) ⟨rfl,rfl,rfl,rfl,trivial⟩ ⟨[0,1],by decide,rfl⟩ ?_
  rintro k3 ⟨hkk3,hall3⟩
  refine Zb<|Zb<|Za<|gm rfl rfl<|gr rfl (Zd rfl (Xg _))<|gr rfl (Zi Tryz.underlying42 rfl rfl (by exact Zp 1 rfl rfl)) ?_
  refine gm rfl rfl<|gr rfl (Z3 hS.t Tryz.underlying42 WN rfl rfl (by omega) (by omega)) ?_
  refine gr rfl (Zd rfl (JH _))<|gr rfl (Zi Tryz.underlying97 rfl rfl (XS hS.t (Y0 St.cells 5 (fun _=>rfl) hx (j:=4) (by decide) rfl))) ?_
  refine gr rfl (ZA Tryz.underlying97 rfl)<|gr rfl (ZX rfl rfl) (Zw (fun h90=>?_) (fun h90=>?_))
  ·obtain ⟨p,hp⟩:=get_some (show k3<x.ps.length by omega)
   have hpd:=getD_some (d:=default) hp
   refine gA<|Zk rfl<|Zv<|Ze<|Zb<|ZB<|Zb<|ZO [0,1] true 16 rfl<|Zc 0 rfl rfl ⟨[0,1],by decide,rfl⟩ (Zf (Zr Tryz.underlying45 rfl Xu rfl (by exact ZH 1 (off:=0) (k:=4) rfl rfl) rfl)) ?_
   refine Zc 1 rfl rfl ⟨[0,1],by decide,rfl⟩ (Zf (Zd rfl (Xg _))) ?_
   refine Zc 2 rfl rfl ⟨[0,1],by decide,rfl⟩ (Zf (Zi Tryz.underlying42 rfl rfl (by exact Zp 1 rfl rfl))) ?_
   refine Zc 3 rfl rfl ⟨[0,1],by decide,rfl⟩ (Zf (Zo rfl)) ?_
   refine Zc 4 rfl rfl ⟨[0,1],by decide,rfl⟩ (Zf (Z3 hS.t Tryz.underlying42 WN rfl rfl (by omega) (by omega))) ?_
   refine Zc 5 rfl rfl ⟨[0,1],by decide,rfl⟩ (Zf (Zr Tryz.underlying99 rfl WN rfl (Vc hS.t (Yf St.cells 5 (fun _=>rfl) hx)) rfl)) ?_
   refine Zc 6 rfl rfl ⟨[0,1],by decide,rfl⟩ (Zf (Zd rfl (Xg _))) ?_
   refine Zc 7 rfl rfl ⟨[0,1],by decide,rfl⟩ (Zf (Zi Tryz.underlying42 rfl rfl (by exact Zp 1 rfl rfl))) ?_
   refine Zc 8 rfl rfl ⟨[0,1],by decide,rfl⟩ (Zf (Zo rfl)) ?_
   refine Zc 9 rfl rfl ⟨[0,1],by decide,rfl⟩ (Zf (Z3 hS.t Tryz.underlying42 WN rfl rfl (by omega) (by omega))) ?_
   refine Zc 10 rfl rfl ⟨[0,1],by decide,rfl⟩ (Zf (Zd rfl (JH _))) ?_
   refine Zc 11 rfl rfl ⟨[0,1],by decide,rfl⟩ (Zf (Zi Tryz.underlying97 rfl rfl (XS hS.t (Y0 St.cells 5 (fun _=>rfl) hx (j:=4) (by decide) rfl)))) ?_
   refine Zc 12 rfl rfl ⟨[0,1],by decide,rfl⟩ (Zf (Zo rfl)) ?_
   refine Zc 13 rfl rfl ⟨[0,1],by decide,rfl⟩ (Zf (Z3 (hS.p x hxm) Tryz.underlying97 Zfv rfl rfl (by omega) (by omega))) ?_
   refine Zc 14 rfl rfl ⟨[0,1],by decide,rfl⟩ (Zf (Zr Tryz.underlying96 rfl Zfv rfl (Vc (hS.p x hxm) (Yf Pt.cells 4 (fun _=>rfl) hp)) rfl)) ?_
   simp only [St.cells,Pt.cells]
   refine Zc 15 rfl rfl ⟨[0,1],by decide,rfl⟩ (YE (vf:=[]) (vc:=[]) rfl rfl Tryz.call61 (fun w1 ho=>rpart_ok s hle w1 (hS.at ho) x p d hg) (by rintro _ _ ⟨h,_⟩; exact h)) ?_
   refine Zc 16 rfl rfl ⟨[0,1],by decide,rfl⟩ (Zf (ZY rfl)) ?_
   refine ZP (.inr ⟨[0,1],by decide,rfl⟩) ?_
   refine Ze<|Zb<|Za<|gm rfl rfl<|gr rfl (Z4 rfl rfl) (Zw (fun h110=>?_) (fun h110=>?_))
   ·refine gA<|Zk rfl<|Zb<|Za<|gm rfl rfl<|gm rfl rfl<|gr rfl (by exact ZL (b:=1) rfl rfl (by omega)) ?_
    refine gr rfl (ZT rfl (fun _=>Zfw _ _ _)) ?_
    refine gm rfl rfl<|Zt (Zz 0 YM rfl rfl rfl rfl rfl rfl (by rfl) ?_)
    refine gas rfl rfl<|gA<|Zu<|Zx<|Zh<|Zh<|Zx<|Zx<|Zh<|Zh<|Zx<|Zh<|YF (.inl rfl) Tryz.results22 (YC Tryz.underlying69 rfl YM rfl (by rfl) (ZH 0 (off:=0) (k:=3) rfl rfl)) (YU rfl) [] (by decide) ?_
    refine ⟨?_,rfl⟩
    have hst:stO s k2=some (k3+1,YV s.rs d p):=by
     unfold stO
     rw [if_neg (by omega),hxd,hdd,XL _ (YV s.rs d p) _ 0 k3 (Nat.zero_le _) (by omega) (fun j _ hj=>by show (if YV s.rs d (x.ps.getD j default)=0 then none else some _)=none; rw [if_pos (hall3 j (by omega))]) (by show (if YV s.rs d (x.ps.getD k3 default)=0 then none else some _)=_; rw [hpd,if_neg (by omega)])]
    have hX:Yt (stO s) s.ss.length 0=some (k2,k3+1,YV s.rs d p):=XL _ _ _ 0 k2 (Nat.zero_le _) (by omega) (fun j _ hj=>hall2 j hj) (hst)
    have he:Yo s=(⟨3,k2,k3+1⟩,YV s.rs d p):=by
     unfold Yo
     rw [if_neg (by rw [hlong]; decide),hD]
     simp only
     rw [hR]
     simp only
     rw [hX]
    rw [he]
    rfl
   refine gA<|Zl rfl<|Zv<|ZI<|Ze<|Za<|gm rfl rfl<|gr rfl (by exact ZL (b:=1) rfl rfl (by omega)) ?_
   refine gas rfl rfl<|ZM<|Ze ?_
   exact ZR (k3+1) ⟨⟨by omega,fun q hq=>by
    rcases Nat.lt_or_eq_of_le (Nat.le_of_lt_succ hq) with h | rfl
    ·exact hall3 q h
    ·rw [hpd]; omega⟩,by omega⟩ ⟨rfl,rfl,rfl,rfl,trivial⟩ ⟨[0,1],by decide,rfl⟩
  refine gA<|Zl rfl<|Z1<|Zs<|Zs<|ZE<|ZI<|Ze ?_
  have hst:stO s k2=none:=by
   unfold stO
   rw [if_neg (by omega),hxd,hdd,XC _ _ 0 (fun j _ hj=>by show (if YV s.rs d (x.ps.getD j default)=0 then none else some _)=none; rw [if_pos (hall3 j (by omega))])]
  refine Za<|gm rfl rfl<|gr rfl (by exact ZL (b:=1) rfl rfl (by omega)) ?_
  refine gas rfl rfl<|ZM<|Ze ?_
  exact ZR (k2+1) ⟨⟨by omega,fun q hq=>by
   rcases Nat.lt_or_eq_of_le (Nat.le_of_lt_succ hq) with h | rfl
   ·exact hall2 q h
   ·exact hst⟩,by omega⟩ ⟨rfl,rfl,rfl,trivial⟩ ⟨[0,1],by decide,rfl⟩
 refine gA<|Zl rfl<|Z1<|Zs<|Zs<|ZE<|Ze<|Zb<|Zb ?_
 have hT:Yt (stO s) s.ss.length 0=none:=XC _ _ 0 (fun j _ hj=>hall2 j (by omega))
 refine Za<|gas rfl rfl<|gA<|ZB<|ZZ (ι:=Nat) [(1,_),(2,_)] [_,_] (fun k4=>k4≤s.cs.length∧∀ q,q<k4→YW s.ds.length s.cs q=0) (fun k4 Fr0=>((12,natV k4)::Fr0)) (fun k4 Fr0=>Fr0) (fun k4=>s.cs.length - k4) 0 (⟨Nat.zero_le _,fun q hq=>absurd hq (Nat.not_lt_zero q)⟩) ⟨rfl,rfl,rfl,trivial⟩ ⟨[0,1],by decide,rfl⟩ ?_
 rintro k4 ⟨hkk4,hall4⟩
 refine Zb<|Zb<|Za<|gm rfl rfl<|gr rfl (Zd rfl (XM _))<|gr rfl (Zi Tryz.underlying43 rfl rfl (by exact Zp 1 rfl rfl)) ?_
 refine gr rfl (ZA Tryz.underlying43 rfl)<|gr rfl (ZX rfl rfl) (Zw (fun h120=>?_) (fun h120=>?_))
 ·refine gA<|Zk rfl<|Zv<|Ze<|Zb<|ZB<|Zb<|Za<|gr rfl (Zr Tryz.underlying45 rfl Xu rfl (by exact ZH 1 (off:=0) (k:=4) rfl rfl) rfl) ?_
  refine gm rfl rfl<|Zt (ZJ rfl (vf:=[]) (vc:=[]) rfl rfl Tryz.call62 (fun w1 ho=>Zmz s hle w1 (hS.at ho) k4 (by omega)) ?_)
  rintro _ _ ⟨rfl,rfl⟩
  refine gas rfl rfl<|gA<|Zb<|Za<|gm rfl rfl<|gr rfl (Z4 rfl rfl) (Zw (fun h127=>?_) (fun h127=>?_))
  ·refine gA<|Zk rfl<|Zb<|Za<|gm rfl rfl<|gr rfl (ZT rfl (fun _=>W5 _ _)) ?_
   refine gm rfl rfl<|Zt (Zz 0 YM rfl rfl rfl rfl rfl rfl (by rfl) ?_)
   refine gas rfl rfl<|gA<|Zu<|Zx<|Zh<|Zh<|Zx<|Zh<|YF (.inl rfl) Tryz.results22 (YC Tryz.underlying69 rfl YM rfl (by rfl) (ZH 0 (off:=0) (k:=3) rfl rfl)) (YU rfl) [] (by decide) ?_
   refine ⟨?_,rfl⟩
   have hX:Yt (fun i=>Xa (YW s.ds.length s.cs i)) s.cs.length 0=some (k4,0,YW s.ds.length s.cs k4):=XL _ _ _ 0 k4 (Nat.zero_le _) (by omega) (fun j _ hj=>by show Xa _=none; unfold Xa; rw [if_pos (hall4 j hj)]) (by show Xa _=_; unfold Xa; rw [if_neg (by omega)])
   have he:Yo s=(⟨4,k4,0⟩,YW s.ds.length s.cs k4):=by
    unfold Yo
    rw [if_neg (by rw [hlong]; decide),hD]
    simp only
    rw [hR]
    simp only
    rw [hT]
    simp only
    rw [hX]
   rw [he]
   rfl
  refine gA<|Zl rfl<|Zv<|ZI<|Ze<|Za<|gm rfl rfl<|gr rfl (by exact ZL (b:=1) rfl rfl (by omega)) ?_
  refine gas rfl rfl<|ZM<|Ze ?_
  exact ZR (k4+1) ⟨⟨by omega,fun q hq=>by
   rcases Nat.lt_or_eq_of_le (Nat.le_of_lt_succ hq) with h | rfl
   ·exact hall4 q h
   ·omega⟩,by omega⟩ ⟨rfl,rfl,rfl,trivial⟩ ⟨[0,1],by decide,rfl⟩
 refine gA<|Zl rfl<|Z1<|Zs<|Zs<|ZE<|Ze<|Zb<|Za<|gr rfl (ZT rfl (fun _=>JW)) ?_
 refine Zt (Zz 0 YM rfl rfl rfl rfl rfl rfl (by rfl) ?_)
 refine gas rfl rfl<|gA<|Zu<|YF (.inl rfl) Tryz.results22 (YC Tryz.underlying69 rfl YM rfl (by rfl) (ZH 0 (off:=0) (k:=3) rfl rfl)) (YU rfl) [] (by decide) ?_
 refine ⟨?_,rfl⟩
 have hX:Yt (fun i=>Xa (YW s.ds.length s.cs i)) s.cs.length 0=none:=XC _ _ 0 (fun j _ hj=>by show Xa _=none; unfold Xa; rw [if_pos (hall4 j (by omega))])
 have he:Yo s=(⟨0,0,0⟩,0):=by
  unfold Yo
  rw [if_neg (by rw [hlong]; decide),hD]
  simp only
  rw [hR]
  simp only
  rw [hT]
  simp only
  rw [hX]
 rw [he]
 rfl
namespace Sx
theorem Zfy {zs:List Int} {k:Nat} {z:Int} (h:zs[k]? = some z):(zs.map Xy)[k]? = some (Xy z):=by rw [List.getElem?_map,h]; rfl
theorem Zay {l:List Int} {lo hi bad z:Int} {k:Nat} (hz:l[k]? = some z) (h:z<lo∨hi<z):XA l lo hi bad k=bad:=by
 unfold XA; rw [getD_some hz,if_pos h]
theorem Zd5 {l:List Int} {lo hi bad z y:Int} {k:Nat} (hz:l[k]? = some z) (hy:l[k - 1]? = some y) (h1:lo≤z) (h2:z≤hi) (hk:0<k) (h:z≤y):XA l lo hi bad k=8:=by
 unfold XA; rw [getD_some hz,getD_some hy,if_neg (by omega),if_pos ⟨hk,h⟩]
theorem Zci {l:List Int} {lo hi bad z:Int} {k:Nat} (hz:l[k]? = some z) (h1:lo≤z) (h2:z≤hi) (h:0<k→l.getD (k - 1) 0<z):XA l lo hi bad k=0:=by
 unfold XA; rw [getD_some hz,if_neg (by omega),if_neg (by rintro ⟨h3,h4⟩; have:=h h3; omega)]
theorem get_row {rs:List KR} {k:Nat} {r:KR} (h:rs[k]? = some r):(rs.map KR.cell)[k]? = some r.cell:=by rw [List.getElem?_map,h]; rfl
end Sx
open Sx
theorem Zcy (l:List Int) (a:Option Addr) (cp:Nat) (lo hi bad:Int) (hl:l.length≤140737488355328) (hbad:bad≠0) (w0:World) (hsl:OldSl w0 [] a l.length 1 (l.map Xy)):Sp Tryz.prog 109 [.slice a l.length cp,.int .i64 lo,.int .i64 hi,.int .i64 bad] w0 [] (RV (.int .i64 (WO l lo hi bad))):=by
 refine ZC Tryz.func109 rfl Tryz.ntmps109 rfl (Own.refl _) ?_
 simp only [ZV]
 refine Zb<|Za<|gas rfl rfl<|gA<|Zb<|Zb<|Za<|gas rfl rfl<|gA<|ZB<|ZZ (ι:=Nat) [(0,_),(1,_),(2,_),(3,_)] [] (fun k=>k≤l.length∧∀ j,j<k→XA l lo hi bad j=0) (fun k Fr0=>((9,natV k)::Fr0)) (fun k Fr0=>Fr0) (fun k=>l.length - k) 0 (⟨Nat.zero_le _,fun j h=>absurd h (Nat.not_lt_zero j)⟩) ⟨rfl,rfl,rfl,rfl,rfl,trivial⟩ ⟨[],by decide,rfl⟩ ?_
 rintro k ⟨hk,hall⟩
 refine Zb<|Zb<|Za<|gm rfl rfl<|gm rfl rfl<|gr rfl (ZA Tryz.underlying24 rfl)<|gr rfl (ZX rfl rfl) (Zw (fun h14=>?_) (fun h14=>?_))
 ·obtain ⟨z,hz⟩:=get_some (show k<l.length by omega)
  refine gA<|Zk rfl<|Zv<|Ze<|Zb<|ZB<|Zb<|Zb<|Za<|gm rfl rfl<|gm rfl rfl<|gr rfl (Z9 hsl Tryz.underlying24 Y7 rfl rfl (by omega) (by omega)) ?_
  refine gr rfl (Zi Tryz.underlying3 rfl rfl (YX hsl (Zfy hz)))<|gm rfl rfl<|gr rfl (ZX rfl rfl) (Zw (fun h21=>?_) (fun h21=>?_))
  ·refine gm rfl rfl<|Zj rfl rfl rfl<|Zj rfl rfl rfl<|Zj rfl rfl rfl<|Zj rfl rfl rfl<|Zj rfl rfl rfl<|Zj rfl rfl rfl<|gr rfl (Zq rfl rfl)<|gA<|Zk rfl<|Zb<|Za<|gm rfl rfl<|gas rfl rfl<|gA<|Zu<|Zh<|Zx<|Zh<|Zh<|Zx<|Zh<|Zy (.inl rfl) Tryz.results109 rfl [] (by decide) ?_
   refine ⟨congrArg (Value.int .i64) (Eq.symm ?_),rfl⟩
   have he:XA l lo hi bad k=bad:=Zay hz (by omega)
   exact (Vv (by omega) hall (by rw [he]; exact hbad)).trans he
  refine gm rfl rfl<|Zg rfl rfl<|Zm rfl (Zo rfl)<|Zg rfl rfl<|Zm rfl (Zo rfl)<|Zg rfl rfl (Zm rfl (Z9 hsl Tryz.underlying24 Y7 rfl rfl (by omega) (by omega)) ?_)
  refine Zg rfl rfl<|Zm rfl (Zi Tryz.underlying3 rfl rfl (YX hsl (Zfy hz)))<|Zg rfl rfl<|Zm rfl (Zo rfl)<|Zg rfl rfl (Zm rfl (Yk rfl rfl) (Zw (fun h25=>?_) (fun h25=>?_)))
  ·refine gr rfl (Zn rfl rfl)<|gA<|Zk rfl<|Zb<|Za<|gm rfl rfl<|gas rfl rfl<|gA<|Zu<|Zh<|Zx<|Zh<|Zh<|Zx<|Zh<|Zy (.inl rfl) Tryz.results109 rfl [] (by decide) ?_
   refine ⟨congrArg (Value.int .i64) (Eq.symm ?_),rfl⟩
   have he:XA l lo hi bad k=bad:=Zay hz (by omega)
   exact (Vv (by omega) hall (by rw [he]; exact hbad)).trans he
  refine gr rfl (Zn rfl rfl)<|gA<|Zl rfl<|Zv<|Ze<|Zb<|ZO [] true 13 rfl<|Zc 0 rfl rfl ⟨[],by decide,rfl⟩ (Zf (Zo rfl)) ?_
  refine Zc 1 rfl rfl ⟨[],by decide,rfl⟩ (Zf (Yk rfl rfl)) (Zw (fun h30=>?_) (fun h30=>?_))
  ·obtain ⟨y,hy⟩:=get_some (show k - 1<l.length by omega)
   refine Zc 2 rfl rfl ⟨[],by decide,rfl⟩ (Zf (Zo rfl)) ?_
   refine ZG 3 rfl rfl rfl rfl rfl ⟨[],by decide,rfl⟩ (Zf (Zo rfl)) ?_
   refine ZG 4 rfl rfl rfl rfl rfl ⟨[],by decide,rfl⟩ (Zf (Zo rfl)) ?_
   refine ZG 5 rfl rfl rfl rfl rfl ⟨[],by decide,rfl⟩ (Zf (Z9 hsl Tryz.underlying24 Y7 rfl rfl (by omega) (by omega))) ?_
   refine ZG 6 rfl rfl rfl rfl rfl ⟨[],by decide,rfl⟩ (Zf (Zi Tryz.underlying3 rfl rfl (YX hsl (Zfy hz)))) ?_
   refine ZG 7 rfl rfl rfl rfl rfl ⟨[],by decide,rfl⟩ (Zf (Zo rfl)) ?_
   refine ZG 8 rfl rfl rfl rfl rfl ⟨[],by decide,rfl⟩ (Zf (Zo rfl)) ?_
   refine ZG 9 rfl rfl rfl rfl rfl ⟨[],by decide,rfl⟩ (Zf (by exact Jz (b:=1) rfl rfl (by omega) (by omega))) ?_
   refine ZG 10 rfl rfl rfl rfl rfl ⟨[],by decide,rfl⟩ (Zf (Z9 hsl Tryz.underlying24 Y7 rfl rfl (by omega) (by omega))) ?_
   refine ZG 11 rfl rfl rfl rfl rfl ⟨[],by decide,rfl⟩ (Zf (Zi Tryz.underlying3 rfl rfl (YX hsl (Zfy hy)))) ?_
   refine ZG 12 rfl rfl rfl rfl rfl ⟨[],by decide,rfl⟩ (Zf (X7 rfl rfl)) (Zw (fun h38=>?_) (fun h38=>?_))
   ·refine Zc 13 rfl rfl ⟨[],by decide,rfl⟩ (Zf (Zq rfl rfl)) ?_
    refine ZP (.inr ⟨[],by decide,rfl⟩) ?_
    refine Ze<|Zk rfl<|Zb<|Za<|gas rfl rfl<|gA<|Zu<|Zx<|Zh<|Zh<|Zx<|Zh<|Zy (.inl rfl) Tryz.results109 rfl [] (by decide) ?_
    refine ⟨congrArg (Value.int .i64) (Eq.symm ?_),rfl⟩
    have he:XA l lo hi bad k=8:=Zd5 hz hy (by omega) (by omega) (by omega) (by omega)
    exact (Vv (by omega) hall (by rw [he]; decide)).trans he
   refine Zc 13 rfl rfl ⟨[],by decide,rfl⟩ (Zf (Zq rfl rfl)) ?_
   refine ZP (.inr ⟨[],by decide,rfl⟩) ?_
   refine Ze<|Zl rfl<|Zv<|ZI<|Ze<|Za<|gm rfl rfl<|gr rfl (by exact ZL (b:=1) rfl rfl (by omega)) ?_
   refine gas rfl rfl<|ZM<|Ze ?_
   exact ZR (k+1) ⟨⟨by omega,fun j hj=>by
    rcases Nat.lt_or_eq_of_le (Nat.le_of_lt_succ hj) with h | rfl
    ·exact hall j h
    ·exact Zci hz (by omega) (by omega) (fun _=>by rw [getD_some hy]; omega)⟩,by omega⟩ ⟨rfl,rfl,rfl,rfl,rfl,trivial⟩ ⟨[],by decide,rfl⟩
  refine Zc 2 rfl rfl ⟨[],by decide,rfl⟩ (Zf (Zo rfl)) ?_
  refine ZF 3 rfl rfl rfl rfl rfl ⟨[],by decide,rfl⟩ ?_
  refine ZF 4 rfl rfl rfl rfl rfl ⟨[],by decide,rfl⟩ ?_
  refine ZF 5 rfl rfl rfl rfl rfl ⟨[],by decide,rfl⟩ ?_
  refine ZF 6 rfl rfl rfl rfl rfl ⟨[],by decide,rfl⟩ ?_
  refine ZF 7 rfl rfl rfl rfl rfl ⟨[],by decide,rfl⟩ ?_
  refine ZF 8 rfl rfl rfl rfl rfl ⟨[],by decide,rfl⟩ ?_
  refine ZF 9 rfl rfl rfl rfl rfl ⟨[],by decide,rfl⟩ ?_
  refine ZF 10 rfl rfl rfl rfl rfl ⟨[],by decide,rfl⟩ ?_
  refine ZF 11 rfl rfl rfl rfl rfl ⟨[],by decide,rfl⟩ ?_
  refine ZF 12 rfl rfl rfl rfl rfl ⟨[],by decide,rfl⟩ ?_
  refine Zc 13 rfl rfl ⟨[],by decide,rfl⟩ (Zf (Zn rfl rfl)) ?_
  refine ZP (.inr ⟨[],by decide,rfl⟩) ?_
  refine Ze<|Zl rfl<|Zv<|ZI<|Ze<|Za<|gm rfl rfl<|gr rfl (by exact ZL (b:=1) rfl rfl (by omega)) ?_
  refine gas rfl rfl<|ZM<|Ze ?_
  exact ZR (k+1) ⟨⟨by omega,fun j hj=>by
   rcases Nat.lt_or_eq_of_le (Nat.le_of_lt_succ hj) with h | rfl
   ·exact hall j h
   ·exact Zci hz (by omega) (by omega) (fun h=>by omega)⟩,by omega⟩ ⟨rfl,rfl,rfl,rfl,rfl,trivial⟩ ⟨[],by decide,rfl⟩
 refine gA<|Zl rfl<|Z1<|Zs<|Zs<|ZE<|Ze<|Zb<|Za<|gas rfl rfl<|gA<|Zu<|Zy (.inl rfl) Tryz.results109 rfl [] (by decide) ?_
 refine ⟨congrArg (Value.int .i64) (Eq.symm ?_),rfl⟩
 exact Zax (fun j hj=>hall j (by omega))
theorem rChk_ok (s:Org) (h:Hd) (hle:OrgLe s) (hhe:HdLe h) (w0:World) (hS:OrgIn s w0 []) (hH:HdIn h w0 []):Sp Tryz.prog 73 [s.val,h.val] w0 [] (RV (.int .i64 (JJ s h))):=by
 have hds:=hle.d
 have hks:=hhe.k
 refine ZC Tryz.func73 rfl Tryz.ntmps73 rfl (Own.refl _) ?_
 simp only [ZV]
 refine Zb<|Za<|Zt (Z6 rfl rfl rfl (fun b2=>?_))
 refine Zt (Z6 rfl rfl rfl (fun b3=>?_))
 refine gas rfl rfl<|gA<|Zb<|Za<|gr rfl (Zr Tryz.underlying45 rfl Xu rfl (by exact ZH 1 (off:=0) (k:=4) rfl rfl) rfl) ?_
 refine Zt (ZJ rfl (vf:=[]) (vc:=[]) rfl rfl Tryz.call22 (fun w1 ho=>Ze1 s hle w1 (hS.at ho)) ?_)
 rintro _ _ ⟨rfl,rfl⟩
 refine gm rfl rfl<|gr rfl (ZD rfl rfl)<|gr rfl (ZD rfl rfl)<|Zt (ZU YM rfl rfl (fun b5=>?_))
 refine Zt (Zz 0 YM rfl rfl rfl rfl rfl rfl (by rfl) ?_)
 refine gas rfl rfl<|gA<|Zb<|Zb<|Za<|gm rfl rfl<|gr rfl (Z4 rfl rfl) (Zw (fun h6=>?_) (fun h6=>?_))
 ·refine gA<|Zk rfl<|Zb<|Za<|gm rfl rfl<|gas rfl rfl<|gA<|Zu<|Zh<|Zy (.inl rfl) Tryz.results73 rfl [] (by decide) ?_
  refine ⟨congrArg (Value.int .i64) (Eq.symm ?_),rfl⟩
  unfold JJ
  rw [if_pos (by omega)]
 refine gA<|Zl rfl<|Zv<|Ze<|Zb<|Zb<|Za<|gr rfl (Zd rfl (Zhh _))<|gr rfl (Zi Tryz.underlying143 rfl rfl (by exact Zp 1 rfl rfl)) ?_
 refine gr rfl (ZA Tryz.underlying143 rfl)<|gr rfl (Zd rfl (YS _))<|gr rfl (Zi Tryz.underlying40 rfl rfl (by exact Zp 2 rfl rfl)) ?_
 refine gr rfl (ZA Tryz.underlying40 rfl)<|gr rfl (Z4 rfl rfl) (Zw (fun hlen=>?_) (fun hlen=>?_))
 ·refine gA<|Zk rfl<|Zb<|Za<|gas rfl rfl<|gA<|Zu<|Zh<|Zy (.inl rfl) Tryz.results73 rfl [] (by decide) ?_
  refine ⟨congrArg (Value.int .i64) (Eq.symm ?_),rfl⟩
  unfold JJ
  rw [if_neg (by omega),if_pos (by omega)]
 refine gA<|Zl rfl<|Zv<|Ze<|Zb<|Zb<|Za<|gas rfl rfl<|gA<|ZB<|ZZ (ι:=Nat) [(2,_),(3,_)] [_,_,_] (fun k=>k≤s.ds.length∧∀ j,j<k→Ze2 s h j=0) (fun k Fr0=>((7,natV k)::Fr0)) (fun k Fr0=>Fr0) (fun k=>s.ds.length - k) 0 (⟨Nat.zero_le _,fun j h=>absurd h (Nat.not_lt_zero j)⟩) ⟨rfl,rfl,rfl,trivial⟩ ⟨[0,1,2],by decide,rfl⟩ ?_
 rintro k ⟨hk,hall⟩
 refine Zb<|Zb<|Za<|gm rfl rfl<|gr rfl (Zd rfl (Zhh _))<|gr rfl (Zi Tryz.underlying143 rfl rfl (by exact Zp 1 rfl rfl)) ?_
 refine gr rfl (ZA Tryz.underlying143 rfl)<|gr rfl (ZX rfl rfl) (Zw (fun hlt=>?_) (fun hlt=>?_))
 ·obtain ⟨d,hd⟩:=get_some (show k<s.ds.length by omega)
  obtain ⟨r,hr⟩:=get_some (show k<h.ks.length by omega)
  have hrm:=List.mem_of_getElem? hr
  have hke:Ze2 s h k=WO r.ks d.lo d.hi 7:=by unfold Ze2; rw [getD_some hr,getD_some hd]
  refine gA<|Zk rfl<|Zv<|Ze<|Zb<|ZB<|Zb<|ZO [0,1,2] true 18 rfl<|Zc 0 rfl rfl ⟨[0,1,2],by decide,rfl⟩ (Zf (Zd rfl (Zhh _))) ?_
  refine Zc 1 rfl rfl ⟨[0,1,2],by decide,rfl⟩ (Zf (Zi Tryz.underlying143 rfl rfl (by exact Zp 1 rfl rfl))) ?_
  refine Zc 2 rfl rfl ⟨[0,1,2],by decide,rfl⟩ (Zf (Zo rfl)) ?_
  refine Zc 3 rfl rfl ⟨[0,1,2],by decide,rfl⟩ (Zf (Z9 hH.k Tryz.underlying143 WG rfl rfl (by omega) (by omega))) ?_
  refine Zc 4 rfl rfl ⟨[0,1,2],by decide,rfl⟩ (Zf (Zi Tryz.underlying24 rfl rfl (YX hH.k (get_row hr)))) ?_
  refine Zc 5 rfl rfl ⟨[0,1,2],by decide,rfl⟩ (Zf (Zd rfl (YS _))) ?_
  refine Zc 6 rfl rfl ⟨[0,1,2],by decide,rfl⟩ (Zf (Zi Tryz.underlying40 rfl rfl (by exact Zp 2 rfl rfl))) ?_
  refine Zc 7 rfl rfl ⟨[0,1,2],by decide,rfl⟩ (Zf (Zo rfl)) ?_
  refine Zc 8 rfl rfl ⟨[0,1,2],by decide,rfl⟩ (Zf (Z3 hS.d Tryz.underlying40 X2 rfl rfl (by omega) (by omega))) ?_
  refine Zc 9 rfl rfl ⟨[0,1,2],by decide,rfl⟩ (Zf (Zd rfl (Vi _))) ?_
  refine Zc 10 rfl rfl ⟨[0,1,2],by decide,rfl⟩ (Zf (Zi Tryz.underlying3 rfl rfl (XS hS.d (Y0 Dv.cells 3 (fun _=>rfl) hd (j:=1) (by decide) rfl)))) ?_
  refine Zc 11 rfl rfl ⟨[0,1,2],by decide,rfl⟩ (Zf (Zd rfl (YS _))) ?_
  refine Zc 12 rfl rfl ⟨[0,1,2],by decide,rfl⟩ (Zf (Zi Tryz.underlying40 rfl rfl (by exact Zp 2 rfl rfl))) ?_
  refine Zc 13 rfl rfl ⟨[0,1,2],by decide,rfl⟩ (Zf (Zo rfl)) ?_
  refine Zc 14 rfl rfl ⟨[0,1,2],by decide,rfl⟩ (Zf (Z3 hS.d Tryz.underlying40 X2 rfl rfl (by omega) (by omega))) ?_
  refine Zc 15 rfl rfl ⟨[0,1,2],by decide,rfl⟩ (Zf (Zd rfl (VN _))) ?_
  refine Zc 16 rfl rfl ⟨[0,1,2],by decide,rfl⟩ (Zf (Zi Tryz.underlying3 rfl rfl (XS hS.d (Y0 Dv.cells 3 (fun _=>rfl) hd (j:=2) (by decide) rfl)))) ?_
  simp only [KR.cell]
  refine Zc 17 rfl rfl ⟨[0,1,2],by decide,rfl⟩ (YE (vf:=[]) (vc:=[]) rfl rfl Tryz.call109 (fun w1 ho=>Zcy r.ks r.a r.c d.lo d.hi 7 (hhe.r r hrm) (by decide) w1 ((hH.r r hrm).at ho)) (by rintro _ _ ⟨h,_⟩; exact h)) ?_
  refine Zc 18 rfl rfl ⟨[0,1,2],by decide,rfl⟩ (Zf (ZY rfl)) ?_
  refine ZP (.inr ⟨[0,1,2],by decide,rfl⟩) ?_
  refine Ze<|Zb<|Za<|gm rfl rfl<|gr rfl (Z4 rfl rfl) (Zw (fun hk7=>?_) (fun hk7=>?_))
  ·refine gA<|Zk rfl<|Zb<|Za<|gm rfl rfl<|gas rfl rfl<|gA<|Zu<|Zx<|Zh<|Zh<|Zx<|Zh<|Zy (.inl rfl) Tryz.results73 rfl [] (by decide) ?_
   refine ⟨congrArg (Value.int .i64) (Eq.symm ?_),rfl⟩
   unfold JJ
   rw [if_neg (by omega),if_neg (by omega),XL _ (0,WO r.ks d.lo d.hi 7) _ 0 k (Nat.zero_le _) (by omega) (fun j _ hj=>by show Xa _=none; unfold Xa; rw [if_pos (hall j hj)]) (by show Xa _=_; unfold Xa; rw [hke,if_neg (by omega)])]
  refine gA<|Zl rfl<|Zv<|ZI<|Ze<|Za<|gm rfl rfl<|gr rfl (by exact ZL (b:=1) rfl rfl (by omega)) ?_
  refine gas rfl rfl<|ZM<|Ze ?_
  exact ZR (k+1) ⟨⟨by omega,fun j hj=>by
   rcases Nat.lt_or_eq_of_le (Nat.le_of_lt_succ hj) with h | rfl
   ·exact hall j h
   ·rw [hke]; omega⟩,by omega⟩ ⟨rfl,rfl,rfl,trivial⟩ ⟨[0,1,2],by decide,rfl⟩
 refine gA<|Zl rfl<|Z1<|Zs<|Zs<|ZE<|Ze<|Zb<|Za<|gr rfl (Zd rfl (fa_145_1 _))<|gr rfl (Zi Tryz.underlying24 rfl rfl (by exact Zp 1 rfl rfl)) ?_
 refine gr rfl (Zd rfl (Xg _))<|gr rfl (Zi Tryz.underlying42 rfl rfl (by exact Zp 2 rfl rfl)) ?_
 refine gr rfl (ZA Tryz.underlying42 rfl) ?_
 have hle1:=hle.t
 refine gr rfl (WX rfl rfl (by omega) (by omega)) ?_
 refine Zt (ZJ rfl (vf:=[]) (vc:=[]) rfl rfl Tryz.call109 (fun w1 ho=>Zcy h.ss h.sa h.sc 0 _ 4 hhe.t (by decide) w1 (hH.t.at ho)) ?_)
 rintro _ _ ⟨rfl,rfl⟩
 refine gas rfl rfl<|gA<|Zb<|Zb<|Za<|gm rfl rfl<|gr rfl (Z8 rfl rfl) (Zw (fun hst=>?_) (fun hst=>?_))
 ·refine gA<|Zk rfl<|Za<|gr rfl (Zd rfl (fa_145_2 _))<|gr rfl (Zi Tryz.underlying24 rfl rfl (by exact Zp 1 rfl rfl)) ?_
  refine gr rfl (Zd rfl (XM _))<|gr rfl (Zi Tryz.underlying43 rfl rfl (by exact Zp 2 rfl rfl)) ?_
  refine gr rfl (ZA Tryz.underlying43 rfl) ?_
  have hle2:=hle.c
  refine gr rfl (WX rfl rfl (by omega) (by omega)) ?_
  refine Zt (ZJ rfl (vf:=[]) (vc:=[]) rfl rfl Tryz.call109 (fun w1 ho=>Zcy h.cs h.ca h.cc 0 _ 4 hhe.c (by decide) w1 (hH.c.at ho)) ?_)
  rintro _ _ ⟨rfl,rfl⟩
  refine gas rfl rfl<|gA<|Zb<|Za<|gm rfl rfl<|gas rfl rfl<|gA<|Zu<|Zy (.inl rfl) Tryz.results73 rfl [] (by decide) ?_
  refine ⟨congrArg (Value.int .i64) (Eq.symm ?_),rfl⟩
  unfold JJ
  rw [if_neg (by omega),if_neg (by omega),XC _ _ 0 (fun j _ hj=>by show Xa _=none; unfold Xa; rw [if_pos (hall j (by omega))])]
  simp only
  rw [if_neg (by omega)]
 refine gA<|Zl rfl<|Zv<|Ze<|Zb<|Za<|gm rfl rfl<|gas rfl rfl<|gA<|Zu<|Zy (.inl rfl) Tryz.results73 rfl [] (by decide) ?_
 refine ⟨congrArg (Value.int .i64) (Eq.symm ?_),rfl⟩
 unfold JJ
 rw [if_neg (by omega),if_neg (by omega),XC _ _ 0 (fun j _ hj=>by show Xa _=none; unfold Xa; rw [if_pos (hall j (by omega))])]
 simp only
 rw [if_pos (by omega)]
theorem Zfz (xs ys:List Int) (a b:Option Addr) (ca cb:Nat) (hxl:xs.length≤140737488355328) (w0:World) (hx:OldSl w0 [] a xs.length 1 (xs.map Xy)) (hy:OldSl w0 [] b ys.length 1 (ys.map Xy)):Sp Tryz.prog 74 [.slice a xs.length ca,.slice b ys.length cb] w0 [] (RV (.bool (decide (xs=ys)))):=by
 refine ZC Tryz.func74 rfl Tryz.ntmps74 rfl (Own.refl _) ?_
 simp only [ZV]
 refine Zb<|Za<|gas rfl rfl<|gA<|Zb<|Zb<|Za<|gm rfl rfl<|gr rfl (ZA Tryz.underlying24 rfl)<|gm rfl rfl<|gr rfl (ZA Tryz.underlying24 rfl)<|gr rfl (Z4 rfl rfl) (Zw (fun h10=>?_) (fun h10=>?_))
 ·refine gA<|Zk rfl<|Zb<|Za<|gas rfl rfl<|gA<|Zu<|Zh<|Zy (.inl rfl) Tryz.results74 rfl [] (by decide) ?_
  refine ⟨congrArg Value.bool (Eq.symm ?_),rfl⟩
  exact decide_eq_false (fun e=>by subst e; omega)
 refine gA<|Zl rfl<|Zv<|Ze<|Zb<|Zb<|Za<|gas rfl rfl<|gA<|ZB<|ZZ (ι:=Nat) [(0,_),(1,_)] [] (fun k=>k≤xs.length∧xs.take k=ys.take k) (fun k Fr0=>((5,natV k)::Fr0)) (fun k Fr0=>Fr0) (fun k=>xs.length - k) 0 (⟨Nat.zero_le _,rfl⟩) ⟨rfl,rfl,rfl,trivial⟩ ⟨[],by decide,rfl⟩ ?_
 rintro k ⟨hk,htk⟩
 refine Zb<|Zb<|Za<|gm rfl rfl<|gm rfl rfl<|gr rfl (ZA Tryz.underlying24 rfl)<|gr rfl (ZX rfl rfl) (Zw (fun h14=>?_) (fun h14=>?_))
 ·obtain ⟨u,hu⟩:=get_some (show k<xs.length by omega)
  obtain ⟨v,hv⟩:=get_some (show k<ys.length by omega)
  refine gA<|Zk rfl<|Zv<|Ze<|Zb<|ZB<|Zb<|ZO [] true 8 rfl<|Zc 0 rfl rfl ⟨[],by decide,rfl⟩ (Zf (Zo rfl)) ?_
  refine Zc 1 rfl rfl ⟨[],by decide,rfl⟩ (Zf (Zo rfl)) ?_
  refine Zc 2 rfl rfl ⟨[],by decide,rfl⟩ (Zf (Z9 hx Tryz.underlying24 Y7 rfl rfl (by omega) (by omega))) ?_
  refine Zc 3 rfl rfl ⟨[],by decide,rfl⟩ (Zf (Zi Tryz.underlying3 rfl rfl (YX hx (Zfy hu)))) ?_
  refine Zc 4 rfl rfl ⟨[],by decide,rfl⟩ (Zf (Zo rfl)) ?_
  refine Zc 5 rfl rfl ⟨[],by decide,rfl⟩ (Zf (Zo rfl)) ?_
  refine Zc 6 rfl rfl ⟨[],by decide,rfl⟩ (Zf (Z9 hy Tryz.underlying24 Y7 rfl rfl (by omega) (by omega))) ?_
  refine Zc 7 rfl rfl ⟨[],by decide,rfl⟩ (Zf (Zi Tryz.underlying3 rfl rfl (YX hy (Zfy hv)))) ?_
  refine Zc 8 rfl rfl ⟨[],by decide,rfl⟩ (Zf (Z4 rfl rfl)) (Zw (fun h25=>?_) (fun h25=>?_))
  ·refine ZP (.inr ⟨[],by decide,rfl⟩) ?_
   refine Ze<|Zk rfl<|Zb<|Za<|gas rfl rfl<|gA<|Zu<|Zx<|Zh<|Zh<|Zx<|Zh<|Zy (.inl rfl) Tryz.results74 rfl [] (by decide) ?_
   refine ⟨congrArg Value.bool (Eq.symm ?_),rfl⟩
   exact decide_eq_false (fun e=>by subst e; rw [hu] at hv; cases hv; omega)
  refine ZP (.inr ⟨[],by decide,rfl⟩) ?_
  refine Ze<|Zl rfl<|Zv<|ZI<|Ze<|Za<|gm rfl rfl<|gr rfl (by exact ZL (b:=1) rfl rfl (by omega)) ?_
  refine gas rfl rfl<|ZM<|Ze ?_
  exact ZR (k+1) ⟨⟨by omega,by rw [take_at hu,take_at hv,htk,show u=v by omega]⟩,by omega⟩ ⟨rfl,rfl,rfl,trivial⟩ ⟨[],by decide,rfl⟩
 refine gA<|Zl rfl<|Z1<|Zs<|Zs<|ZE<|Ze<|Zb<|Za<|gas rfl rfl<|gA<|Zu<|Zy (.inl rfl) Tryz.results74 rfl [] (by decide) ?_
 refine ⟨congrArg Value.bool (Eq.symm ?_),rfl⟩
 rw [List.take_of_length_le (by omega),List.take_of_length_le (by omega)] at htk
 exact decide_eq_true htk
end Go.Proofs.YthcbcdjkfefnlaaGreatDoor
