/- The facts of the program that the proofs take. -/
import Derived.Test.YtebmlphobgaboabTasksModels
import Derived.Test.YtebmlphobgaboabLiftP
import Derived.Test.YtebmlphobgaboabRows
namespace Go.Proofs.Ytebmlphobgaboab
open Go.RowKit

def GWindow.cells (x : GWindow) : List Value := [.int .i64 x.Low, .int .i64 x.High]
theorem GWindow.len (x : GWindow) : (GWindow.cells x).length = 2 := rfl
theorem GWindow.one (x : GWindow) : ∀ u ∈ GWindow.cells x, u.oneCell' = true := fun u hu => List.all_eq_true.1 (show (GWindow.cells x).all Value.oneCell' = true from rfl) u hu

def GBond.cells (x : GBond) : List Value := [.int .i64 x.From, .int .i64 x.To, .int .i64 x.Least]
theorem GBond.len (x : GBond) : (GBond.cells x).length = 3 := rfl
theorem GBond.one (x : GBond) : ∀ u ∈ GBond.cells x, u.oneCell' = true := fun u hu => List.all_eq_true.1 (show (GBond.cells x).all Value.oneCell' = true from rfl) u hu

theorem el22 : EL Try.prog 22 5 := Try.underlying22
theorem ti149 : TI Try.prog 149 [.slice none 0 0, .int .i64 0, .int .i64 0] 40 := TI.of (z := .agg #[.slice none 0 0, .int .i64 0, .int .i64 0]) (by kernel_rfl) rfl rfl
theorem fo149_2 : FO Try.prog 149 2 2 := fun w b o => by simp [Instr.fieldAt, Instr.sureAddr, fieldPlace, underlying, Try.underlying149, go_sem, Addr.add]
theorem ag2 : AG Try.prog 2 false := fun w => by simp [isAgg, underlying, Try.underlying2, go_sem]
theorem ti5 : TI Try.prog 5 [.int .u8 0] 1 := TI.of (z := .int .u8 0) (by kernel_rfl) rfl rfl
theorem ag5 : AG Try.prog 5 false := fun w => by simp [isAgg, underlying, Try.underlying5, go_sem]
theorem un5 : Try.prog.underlying 5 = some (.int .u8) := by kernel_rfl
theorem un2 : Try.prog.underlying 2 = some (.int .i64) := by kernel_rfl
theorem ti2 : TI Try.prog 2 [.int .i64 0] 8 := TI.of (z := .int .i64 0) (by kernel_rfl) rfl rfl
theorem fo149_1 : FO Try.prog 149 1 1 := fun w b o => by simp [Instr.fieldAt, Instr.sureAddr, fieldPlace, underlying, Try.underlying149, go_sem, Addr.add]
theorem ag3 : AG Try.prog 3 false := fun w => by simp [isAgg, underlying, Try.underlying3, go_sem]
theorem fo149_0 : FO Try.prog 149 0 0 := fun w b o => by simp [Instr.fieldAt, Instr.sureAddr, fieldPlace, underlying, Try.underlying149, go_sem, Addr.add]
theorem ag22 : AG Try.prog 22 false := fun w => by simp [isAgg, underlying, Try.underlying22, go_sem]
theorem ti3 : TI Try.prog 3 [.int .i64 0] 8 := TI.of (z := .int .i64 0) (by kernel_rfl) rfl rfl
theorem el28 : EL Try.prog 28 2 := Try.underlying28
theorem en93 : En Try.prog 93 := En.of Try.func93 rfl rfl
theorem el24 : EL Try.prog 24 39 := Try.underlying24
theorem ti39 : TI Try.prog 39 [.int .i64 0, .int .i64 0] 16 := TI.of (z := .agg #[.int .i64 0, .int .i64 0]) (by kernel_rfl) rfl rfl
theorem el25 : EL Try.prog 25 95 := Try.underlying25
theorem ti95 : TI Try.prog 95 [.int .i64 0, .int .i64 0, .int .i64 0] 24 := TI.of (z := .agg #[.int .i64 0, .int .i64 0, .int .i64 0]) (by kernel_rfl) rfl rfl
theorem en109 : En Try.prog 109 := En.of Try.func109 rfl rfl
theorem fo95_0 : FO Try.prog 95 0 0 := fun w b o => by simp [Instr.fieldAt, Instr.sureAddr, fieldPlace, underlying, Try.underlying95, go_sem, Addr.add]
theorem fo95_1 : FO Try.prog 95 1 1 := fun w b o => by simp [Instr.fieldAt, Instr.sureAddr, fieldPlace, underlying, Try.underlying95, go_sem, Addr.add]
theorem fo95_2 : FO Try.prog 95 2 2 := fun w b o => by simp [Instr.fieldAt, Instr.sureAddr, fieldPlace, underlying, Try.underlying95, go_sem, Addr.add]
theorem ag95 : AG Try.prog 95 true := fun w => by simp [isAgg, underlying, Try.underlying95, go_sem]
theorem en65 : En Try.prog 65 := En.of Try.func65 rfl rfl
theorem en64 : En Try.prog 64 := En.of Try.func64 rfl rfl
theorem en71 : En Try.prog 71 := En.of Try.func71 rfl rfl
theorem en142 : En Try.prog 142 := En.of Try.func142 rfl rfl
theorem en143 : En Try.prog 143 := En.of Try.func143 rfl rfl
theorem ag39 : AG Try.prog 39 true := fun w => by simp [isAgg, underlying, Try.underlying39, go_sem]
theorem fo39_0 : FO Try.prog 39 0 0 := fun w b o => by simp [Instr.fieldAt, Instr.sureAddr, fieldPlace, underlying, Try.underlying39, go_sem, Addr.add]
theorem fo39_1 : FO Try.prog 39 1 1 := fun w b o => by simp [Instr.fieldAt, Instr.sureAddr, fieldPlace, underlying, Try.underlying39, go_sem, Addr.add]
theorem en141 : En Try.prog 141 := En.of Try.func141 rfl rfl
theorem en72 : En Try.prog 72 := En.of Try.func72 rfl rfl
theorem el40 : EL Try.prog 40 28 := Try.underlying40
theorem ti28 : TI Try.prog 28 [.slice none 0 0] 24 := TI.of (z := .slice none 0 0) (by kernel_rfl) rfl rfl
theorem ag28 : AG Try.prog 28 false := fun w => by simp [isAgg, underlying, Try.underlying28, go_sem]
theorem en221 : En Try.prog 221 := En.of Try.func221 rfl rfl
theorem en111 : En Try.prog 111 := En.of Try.func111 rfl rfl
theorem en200 : En Try.prog 200 := En.of Try.func200 rfl rfl
theorem en158 : En Try.prog 158 := En.of Try.func158 rfl rfl
theorem ag40 : AG Try.prog 40 false := fun w => by simp [isAgg, underlying, Try.underlying40, go_sem]
theorem en160 : En Try.prog 160 := En.of Try.func160 rfl rfl
theorem en90 : En Try.prog 90 := En.of Try.func90 rfl rfl
theorem en92 : En Try.prog 92 := En.of Try.func92 rfl rfl
theorem en145 : En Try.prog 145 := En.of Try.func145 rfl rfl
theorem en201 : En Try.prog 201 := En.of Try.func201 rfl rfl
theorem en70 : En Try.prog 70 := En.of Try.func70 rfl rfl
theorem en136 : En Try.prog 136 := En.of Try.func136 rfl rfl
theorem en80 : En Try.prog 80 := En.of Try.func80 rfl rfl
theorem en137 : En Try.prog 137 := En.of Try.func137 rfl rfl
theorem en138 : En Try.prog 138 := En.of Try.func138 rfl rfl
theorem en66 : En Try.prog 66 := En.of Try.func66 rfl rfl
theorem en77 : En Try.prog 77 := En.of Try.func77 rfl rfl
theorem en144 : En Try.prog 144 := En.of Try.func144 rfl rfl
theorem en154 : En Try.prog 154 := En.of Try.func154 rfl rfl
theorem en155 : En Try.prog 155 := En.of Try.func155 rfl rfl
theorem en114 : En Try.prog 114 := En.of Try.func114 rfl rfl
theorem en180 : En Try.prog 180 := En.of Try.func180 rfl rfl
theorem en205 : En Try.prog 205 := En.of Try.func205 rfl rfl
theorem en150 : En Try.prog 150 := En.of Try.func150 rfl rfl
theorem en86 : En Try.prog 86 := En.of Try.func86 rfl rfl
theorem en151 : En Try.prog 151 := En.of Try.func151 rfl rfl
theorem en152 : En Try.prog 152 := En.of Try.func152 rfl rfl
theorem en139 : En Try.prog 139 := En.of Try.func139 rfl rfl
theorem en83 : En Try.prog 83 := En.of Try.func83 rfl rfl
theorem en140 : En Try.prog 140 := En.of Try.func140 rfl rfl
theorem en124 : En Try.prog 124 := En.of Try.func124 rfl rfl
theorem en75 : En Try.prog 75 := En.of Try.func75 rfl rfl
theorem en68 : En Try.prog 68 := En.of Try.func68 rfl rfl
theorem en67 : En Try.prog 67 := En.of Try.func67 rfl rfl
theorem en69 : En Try.prog 69 := En.of Try.func69 rfl rfl
theorem en73 : En Try.prog 73 := En.of Try.func73 rfl rfl
theorem en74 : En Try.prog 74 := En.of Try.func74 rfl rfl
theorem en76 : En Try.prog 76 := En.of Try.func76 rfl rfl
theorem en9 : En Try.prog 9 := En.of Try.func9 rfl rfl
theorem en10 : En Try.prog 10 := En.of Try.func10 rfl rfl
theorem en11 : En Try.prog 11 := En.of Try.func11 rfl rfl
theorem en12 : En Try.prog 12 := En.of Try.func12 rfl rfl
theorem en13 : En Try.prog 13 := En.of Try.func13 rfl rfl
theorem en14 : En Try.prog 14 := En.of Try.func14 rfl rfl
theorem en15 : En Try.prog 15 := En.of Try.func15 rfl rfl
theorem en16 : En Try.prog 16 := En.of Try.func16 rfl rfl
theorem en17 : En Try.prog 17 := En.of Try.func17 rfl rfl
theorem en18 : En Try.prog 18 := En.of Try.func18 rfl rfl
theorem en19 : En Try.prog 19 := En.of Try.func19 rfl rfl
theorem en20 : En Try.prog 20 := En.of Try.func20 rfl rfl
theorem en21 : En Try.prog 21 := En.of Try.func21 rfl rfl
theorem en22 : En Try.prog 22 := En.of Try.func22 rfl rfl
theorem en23 : En Try.prog 23 := En.of Try.func23 rfl rfl

end Go.Proofs.Ytebmlphobgaboab
