/- The facts of the program that the proofs take. -/
import Derived.Test.YtebmlphobgaboaaFindSqueezeModels
import Derived.Test.YtebmlphobgaboaaLiftY
import Derived.Test.YtebmlphobgaboaaRows
namespace Go.Proofs.Ytebmlphobgaboaa
open Go.RowKit

def LWindow.cells (x : LWindow) : List Value := [.int .i64 x.Low, .int .i64 x.High]
theorem LWindow.len (x : LWindow) : (LWindow.cells x).length = 2 := rfl
theorem LWindow.one (x : LWindow) : ∀ u ∈ LWindow.cells x, u.oneCell' = true := fun u hu => List.all_eq_true.1 (show (LWindow.cells x).all Value.oneCell' = true from rfl) u hu

def LBond.cells (x : LBond) : List Value := [.int .i64 x.From, .int .i64 x.To, .int .i64 x.Least]
theorem LBond.len (x : LBond) : (LBond.cells x).length = 3 := rfl
theorem LBond.one (x : LBond) : ∀ u ∈ LBond.cells x, u.oneCell' = true := fun u hu => List.all_eq_true.1 (show (LBond.cells x).all Value.oneCell' = true from rfl) u hu

def GWindow.cells (x : GWindow) : List Value := [.int .i64 x.Low, .int .i64 x.High]
theorem GWindow.len (x : GWindow) : (GWindow.cells x).length = 2 := rfl
theorem GWindow.one (x : GWindow) : ∀ u ∈ GWindow.cells x, u.oneCell' = true := fun u hu => List.all_eq_true.1 (show (GWindow.cells x).all Value.oneCell' = true from rfl) u hu

def GBond.cells (x : GBond) : List Value := [.int .i64 x.From, .int .i64 x.To, .int .i64 x.Least]
theorem GBond.len (x : GBond) : (GBond.cells x).length = 3 := rfl
theorem GBond.one (x : GBond) : ∀ u ∈ GBond.cells x, u.oneCell' = true := fun u hu => List.all_eq_true.1 (show (GBond.cells x).all Value.oneCell' = true from rfl) u hu

theorem el33 : EL Try.prog 33 89 := Try.underlying33
theorem el34 : EL Try.prog 34 93 := Try.underlying34
theorem ti86 : TI Try.prog 86 [.int .i64 0, .int .i64 0] 16 := TI.of (z := .agg #[.int .i64 0, .int .i64 0]) (by kernel_rfl) rfl rfl
theorem fo89_0 : FO Try.prog 89 0 0 := fun w b o => by simp [Instr.fieldAt, Instr.sureAddr, fieldPlace, underlying, Try.underlying89, go_sem, Addr.add]
theorem ag2 : AG Try.prog 2 false := fun w => by simp [isAgg, underlying, Try.underlying2, go_sem]
theorem fo86_0 : FO Try.prog 86 0 0 := fun w b o => by simp [Instr.fieldAt, Instr.sureAddr, fieldPlace, underlying, Try.underlying86, go_sem, Addr.add]
theorem ti2 : TI Try.prog 2 [.int .i64 0] 8 := TI.of (z := .int .i64 0) (by kernel_rfl) rfl rfl
theorem fo89_1 : FO Try.prog 89 1 1 := fun w b o => by simp [Instr.fieldAt, Instr.sureAddr, fieldPlace, underlying, Try.underlying89, go_sem, Addr.add]
theorem fo86_1 : FO Try.prog 86 1 1 := fun w b o => by simp [Instr.fieldAt, Instr.sureAddr, fieldPlace, underlying, Try.underlying86, go_sem, Addr.add]
theorem ag86 : AG Try.prog 86 true := fun w => by simp [isAgg, underlying, Try.underlying86, go_sem]
theorem el39 : EL Try.prog 39 86 := Try.underlying39
theorem ti89 : TI Try.prog 89 [.int .i64 0, .int .i64 0] 16 := TI.of (z := .agg #[.int .i64 0, .int .i64 0]) (by kernel_rfl) rfl rfl
theorem ag89 : AG Try.prog 89 true := fun w => by simp [isAgg, underlying, Try.underlying89, go_sem]
theorem en67 : En Try.prog 67 := En.of Try.func67 rfl rfl
theorem ti91 : TI Try.prog 91 [.int .i64 0, .int .i64 0, .int .i64 0] 24 := TI.of (z := .agg #[.int .i64 0, .int .i64 0, .int .i64 0]) (by kernel_rfl) rfl rfl
theorem fo93_0 : FO Try.prog 93 0 0 := fun w b o => by simp [Instr.fieldAt, Instr.sureAddr, fieldPlace, underlying, Try.underlying93, go_sem, Addr.add]
theorem fo91_0 : FO Try.prog 91 0 0 := fun w b o => by simp [Instr.fieldAt, Instr.sureAddr, fieldPlace, underlying, Try.underlying91, go_sem, Addr.add]
theorem fo93_1 : FO Try.prog 93 1 1 := fun w b o => by simp [Instr.fieldAt, Instr.sureAddr, fieldPlace, underlying, Try.underlying93, go_sem, Addr.add]
theorem fo91_1 : FO Try.prog 91 1 1 := fun w b o => by simp [Instr.fieldAt, Instr.sureAddr, fieldPlace, underlying, Try.underlying91, go_sem, Addr.add]
theorem fo93_2 : FO Try.prog 93 2 2 := fun w b o => by simp [Instr.fieldAt, Instr.sureAddr, fieldPlace, underlying, Try.underlying93, go_sem, Addr.add]
theorem fo91_2 : FO Try.prog 91 2 2 := fun w b o => by simp [Instr.fieldAt, Instr.sureAddr, fieldPlace, underlying, Try.underlying91, go_sem, Addr.add]
theorem ag91 : AG Try.prog 91 true := fun w => by simp [isAgg, underlying, Try.underlying91, go_sem]
theorem el41 : EL Try.prog 41 91 := Try.underlying41
theorem ti93 : TI Try.prog 93 [.int .i64 0, .int .i64 0, .int .i64 0] 24 := TI.of (z := .agg #[.int .i64 0, .int .i64 0, .int .i64 0]) (by kernel_rfl) rfl rfl
theorem ag93 : AG Try.prog 93 true := fun w => by simp [isAgg, underlying, Try.underlying93, go_sem]
theorem en68 : En Try.prog 68 := En.of Try.func68 rfl rfl
theorem en89 : En Try.prog 89 := En.of Try.func89 rfl rfl
theorem en115 : En Try.prog 115 := En.of Try.func115 rfl rfl
theorem el59 : EL Try.prog 59 23 := Try.underlying59
theorem ti23 : TI Try.prog 23 [.slice none 0 0] 24 := TI.of (z := .slice none 0 0) (by kernel_rfl) rfl rfl
theorem el23 : EL Try.prog 23 2 := Try.underlying23
theorem en116 : En Try.prog 116 := En.of Try.func116 rfl rfl
theorem ag23 : AG Try.prog 23 false := fun w => by simp [isAgg, underlying, Try.underlying23, go_sem]
theorem en65 : En Try.prog 65 := En.of Try.func65 rfl rfl
theorem en146 : En Try.prog 146 := En.of Try.func146 rfl rfl
theorem en164 : En Try.prog 164 := En.of Try.func164 rfl rfl
theorem en165 : En Try.prog 165 := En.of Try.func165 rfl rfl
theorem en117 : En Try.prog 117 := En.of Try.func117 rfl rfl
theorem en119 : En Try.prog 119 := En.of Try.func119 rfl rfl
theorem en118 : En Try.prog 118 := En.of Try.func118 rfl rfl
theorem en120 : En Try.prog 120 := En.of Try.func120 rfl rfl
theorem en194 : En Try.prog 194 := En.of Try.func194 rfl rfl
theorem en159 : En Try.prog 159 := En.of Try.func159 rfl rfl
theorem en156 : En Try.prog 156 := En.of Try.func156 rfl rfl
theorem en166 : En Try.prog 166 := En.of Try.func166 rfl rfl
theorem en121 : En Try.prog 121 := En.of Try.func121 rfl rfl
theorem en122 : En Try.prog 122 := En.of Try.func122 rfl rfl
theorem en64 : En Try.prog 64 := En.of Try.func64 rfl rfl
theorem el22 : EL Try.prog 22 59 := Try.underlying22
theorem ti59 : TI Try.prog 59 [.slice none 0 0] 24 := TI.of (z := .slice none 0 0) (by kernel_rfl) rfl rfl
theorem ag59 : AG Try.prog 59 false := fun w => by simp [isAgg, underlying, Try.underlying59, go_sem]
theorem en62 : En Try.prog 62 := En.of Try.func62 rfl rfl
theorem en63 : En Try.prog 63 := En.of Try.func63 rfl rfl
theorem en66 : En Try.prog 66 := En.of Try.func66 rfl rfl
theorem en85 : En Try.prog 85 := En.of Try.func85 rfl rfl
theorem en125 : En Try.prog 125 := En.of Try.func125 rfl rfl
theorem en167 : En Try.prog 167 := En.of Try.func167 rfl rfl
theorem en124 : En Try.prog 124 := En.of Try.func124 rfl rfl
theorem en123 : En Try.prog 123 := En.of Try.func123 rfl rfl
theorem en169 : En Try.prog 169 := En.of Try.func169 rfl rfl
theorem en168 : En Try.prog 168 := En.of Try.func168 rfl rfl
theorem en126 : En Try.prog 126 := En.of Try.func126 rfl rfl
theorem en171 : En Try.prog 171 := En.of Try.func171 rfl rfl
theorem en170 : En Try.prog 170 := En.of Try.func170 rfl rfl
theorem en128 : En Try.prog 128 := En.of Try.func128 rfl rfl
theorem en127 : En Try.prog 127 := En.of Try.func127 rfl rfl
theorem en129 : En Try.prog 129 := En.of Try.func129 rfl rfl
theorem en172 : En Try.prog 172 := En.of Try.func172 rfl rfl
theorem en131 : En Try.prog 131 := En.of Try.func131 rfl rfl
theorem en130 : En Try.prog 130 := En.of Try.func130 rfl rfl
theorem en69 : En Try.prog 69 := En.of Try.func69 rfl rfl
theorem en70 : En Try.prog 70 := En.of Try.func70 rfl rfl
theorem en71 : En Try.prog 71 := En.of Try.func71 rfl rfl
theorem en72 : En Try.prog 72 := En.of Try.func72 rfl rfl
theorem en73 : En Try.prog 73 := En.of Try.func73 rfl rfl
theorem en74 : En Try.prog 74 := En.of Try.func74 rfl rfl
theorem en21 : En Try.prog 21 := En.of Try.func21 rfl rfl
theorem en22 : En Try.prog 22 := En.of Try.func22 rfl rfl
theorem en24 : En Try.prog 24 := En.of Try.func24 rfl rfl
theorem en25 : En Try.prog 25 := En.of Try.func25 rfl rfl
theorem en23 : En Try.prog 23 := En.of Try.func23 rfl rfl
theorem en26 : En Try.prog 26 := En.of Try.func26 rfl rfl
theorem en14 : En Try.prog 14 := En.of Try.func14 rfl rfl
theorem en27 : En Try.prog 27 := En.of Try.func27 rfl rfl
theorem en28 : En Try.prog 28 := En.of Try.func28 rfl rfl
theorem en29 : En Try.prog 29 := En.of Try.func29 rfl rfl
theorem en30 : En Try.prog 30 := En.of Try.func30 rfl rfl
theorem en17 : En Try.prog 17 := En.of Try.func17 rfl rfl
theorem en18 : En Try.prog 18 := En.of Try.func18 rfl rfl

end Go.Proofs.Ytebmlphobgaboaa
