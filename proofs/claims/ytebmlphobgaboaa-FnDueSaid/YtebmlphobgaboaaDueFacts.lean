/- The facts of the program that the proofs take. -/
import Derived.Test.YtebmlphobgaboaaDueModels
import Derived.Test.YtebmlphobgaboaaLiftS
import Derived.Test.YtebmlphobgaboaaBack
import Derived.Test.YtebmlphobgaboaaLiftP
import Derived.Test.YtebmlphobgaboaaRows
namespace Go.Proofs.Ytebmlphobgaboaa
open Go.RowKit

def GPlace.cells (x : GPlace) : List Value := [.int .i64 x.From, .int .i64 x.To, .int .i64 x.Delay, .int .i64 x.Tokens]
theorem GPlace.len (x : GPlace) : (GPlace.cells x).length = 4 := rfl
theorem GPlace.one (x : GPlace) : ∀ u ∈ GPlace.cells x, u.oneCell' = true := fun u hu => List.all_eq_true.1 (show (GPlace.cells x).all Value.oneCell' = true from rfl) u hu


theorem el48 : EL Try.prog 48 5 := Try.underlying48
theorem ti146 : TI Try.prog 146 [.slice none 0 0, .int .i64 0, .int .i64 0] 40 := TI.of (z := .agg #[.slice none 0 0, .int .i64 0, .int .i64 0]) (by kernel_rfl) rfl rfl
theorem fo146_2 : FO Try.prog 146 2 2 := fun w b o => by simp [Instr.fieldAt, Instr.sureAddr, fieldPlace, underlying, Try.underlying146, go_sem, Addr.add]
theorem ag2 : AG Try.prog 2 false := fun w => by simp [isAgg, underlying, Try.underlying2, go_sem]
theorem ti5 : TI Try.prog 5 [.int .u8 0] 1 := TI.of (z := .int .u8 0) (by kernel_rfl) rfl rfl
theorem ag5 : AG Try.prog 5 false := fun w => by simp [isAgg, underlying, Try.underlying5, go_sem]
theorem un5 : Try.prog.underlying 5 = some (.int .u8) := by kernel_rfl
theorem un2 : Try.prog.underlying 2 = some (.int .i64) := by kernel_rfl
theorem ti2 : TI Try.prog 2 [.int .i64 0] 8 := TI.of (z := .int .i64 0) (by kernel_rfl) rfl rfl
theorem fo146_1 : FO Try.prog 146 1 1 := fun w b o => by simp [Instr.fieldAt, Instr.sureAddr, fieldPlace, underlying, Try.underlying146, go_sem, Addr.add]
theorem ag3 : AG Try.prog 3 false := fun w => by simp [isAgg, underlying, Try.underlying3, go_sem]
theorem fo146_0 : FO Try.prog 146 0 0 := fun w b o => by simp [Instr.fieldAt, Instr.sureAddr, fieldPlace, underlying, Try.underlying146, go_sem, Addr.add]
theorem ag48 : AG Try.prog 48 false := fun w => by simp [isAgg, underlying, Try.underlying48, go_sem]
theorem ti3 : TI Try.prog 3 [.int .i64 0] 8 := TI.of (z := .int .i64 0) (by kernel_rfl) rfl rfl
theorem el23 : EL Try.prog 23 2 := Try.underlying23
theorem en92 : En Try.prog 92 := En.of Try.func92 rfl rfl
theorem ti52 : TI Try.prog 52 [.int .i64 0, .slice none 0 0] 32 := TI.of (z := .agg #[.int .i64 0, .slice none 0 0]) (by kernel_rfl) rfl rfl
theorem el50 : EL Try.prog 50 112 := Try.underlying50
theorem ti112 : TI Try.prog 112 [.int .i64 0, .int .i64 0, .int .i64 0, .int .i64 0] 32 := TI.of (z := .agg #[.int .i64 0, .int .i64 0, .int .i64 0, .int .i64 0]) (by kernel_rfl) rfl rfl
theorem fo52_0 : FO Try.prog 52 0 0 := fun w b o => by simp [Instr.fieldAt, Instr.sureAddr, fieldPlace, underlying, Try.underlying52, go_sem, Addr.add]
theorem fo112_0 : FO Try.prog 112 0 0 := fun w b o => by simp [Instr.fieldAt, Instr.sureAddr, fieldPlace, underlying, Try.underlying112, go_sem, Addr.add]
theorem fo112_1 : FO Try.prog 112 1 1 := fun w b o => by simp [Instr.fieldAt, Instr.sureAddr, fieldPlace, underlying, Try.underlying112, go_sem, Addr.add]
theorem fo112_3 : FO Try.prog 112 3 3 := fun w b o => by simp [Instr.fieldAt, Instr.sureAddr, fieldPlace, underlying, Try.underlying112, go_sem, Addr.add]
theorem fo52_1 : FO Try.prog 52 1 1 := fun w b o => by simp [Instr.fieldAt, Instr.sureAddr, fieldPlace, underlying, Try.underlying52, go_sem, Addr.add]
theorem ag50 : AG Try.prog 50 false := fun w => by simp [isAgg, underlying, Try.underlying50, go_sem]
theorem ag112 : AG Try.prog 112 true := fun w => by simp [isAgg, underlying, Try.underlying112, go_sem]
theorem ti50 : TI Try.prog 50 [.slice none 0 0] 24 := TI.of (z := .slice none 0 0) (by kernel_rfl) rfl rfl
theorem en93 : En Try.prog 93 := En.of Try.func93 rfl rfl
theorem ag52 : AG Try.prog 52 true := fun w => by simp [isAgg, underlying, Try.underlying52, go_sem]
theorem en147 : En Try.prog 147 := En.of Try.func147 rfl rfl
theorem en89 : En Try.prog 89 := En.of Try.func89 rfl rfl
theorem fo112_2 : FO Try.prog 112 2 2 := fun w b o => by simp [Instr.fieldAt, Instr.sureAddr, fieldPlace, underlying, Try.underlying112, go_sem, Addr.add]
theorem en203 : En Try.prog 203 := En.of Try.func203 rfl rfl
theorem el59 : EL Try.prog 59 23 := Try.underlying59
theorem ti23 : TI Try.prog 23 [.slice none 0 0] 24 := TI.of (z := .slice none 0 0) (by kernel_rfl) rfl rfl
theorem en116 : En Try.prog 116 := En.of Try.func116 rfl rfl
theorem ag23 : AG Try.prog 23 false := fun w => by simp [isAgg, underlying, Try.underlying23, go_sem]
theorem en188 : En Try.prog 188 := En.of Try.func188 rfl rfl
theorem en146 : En Try.prog 146 := En.of Try.func146 rfl rfl
theorem en204 : En Try.prog 204 := En.of Try.func204 rfl rfl
theorem en181 : En Try.prog 181 := En.of Try.func181 rfl rfl
theorem en180 : En Try.prog 180 := En.of Try.func180 rfl rfl
theorem en178 : En Try.prog 178 := En.of Try.func178 rfl rfl
theorem en139 : En Try.prog 139 := En.of Try.func139 rfl rfl
theorem en154 : En Try.prog 154 := En.of Try.func154 rfl rfl
theorem en145 : En Try.prog 145 := En.of Try.func145 rfl rfl
theorem en104 : En Try.prog 104 := En.of Try.func104 rfl rfl
theorem en106 : En Try.prog 106 := En.of Try.func106 rfl rfl
theorem en148 : En Try.prog 148 := En.of Try.func148 rfl rfl
theorem en149 : En Try.prog 149 := En.of Try.func149 rfl rfl
theorem en76 : En Try.prog 76 := En.of Try.func76 rfl rfl
theorem en96 : En Try.prog 96 := En.of Try.func96 rfl rfl
theorem en85 : En Try.prog 85 := En.of Try.func85 rfl rfl
theorem en201 : En Try.prog 201 := En.of Try.func201 rfl rfl
theorem en175 : En Try.prog 175 := En.of Try.func175 rfl rfl
theorem en200 : En Try.prog 200 := En.of Try.func200 rfl rfl
theorem en174 : En Try.prog 174 := En.of Try.func174 rfl rfl
theorem en173 : En Try.prog 173 := En.of Try.func173 rfl rfl
theorem en134 : En Try.prog 134 := En.of Try.func134 rfl rfl
theorem en209 : En Try.prog 209 := En.of Try.func209 rfl rfl
theorem en190 : En Try.prog 190 := En.of Try.func190 rfl rfl
theorem en189 : En Try.prog 189 := En.of Try.func189 rfl rfl
theorem en205 : En Try.prog 205 := En.of Try.func205 rfl rfl
theorem en182 : En Try.prog 182 := En.of Try.func182 rfl rfl
theorem en183 : En Try.prog 183 := En.of Try.func183 rfl rfl
theorem en142 : En Try.prog 142 := En.of Try.func142 rfl rfl
theorem en132 : En Try.prog 132 := En.of Try.func132 rfl rfl
theorem en150 : En Try.prog 150 := En.of Try.func150 rfl rfl
theorem en135 : En Try.prog 135 := En.of Try.func135 rfl rfl
theorem un23 : Try.prog.underlying 23 = some (.slice 2) := by kernel_rfl
theorem en153 : En Try.prog 153 := En.of Try.func153 rfl rfl
theorem en191 : En Try.prog 191 := En.of Try.func191 rfl rfl
theorem ti59 : TI Try.prog 59 [.slice none 0 0] 24 := TI.of (z := .slice none 0 0) (by kernel_rfl) rfl rfl
theorem ag59 : AG Try.prog 59 false := fun w => by simp [isAgg, underlying, Try.underlying59, go_sem]
theorem en151 : En Try.prog 151 := En.of Try.func151 rfl rfl
theorem en101 : En Try.prog 101 := En.of Try.func101 rfl rfl
theorem en97 : En Try.prog 97 := En.of Try.func97 rfl rfl
theorem en98 : En Try.prog 98 := En.of Try.func98 rfl rfl
theorem en99 : En Try.prog 99 := En.of Try.func99 rfl rfl
theorem en138 : En Try.prog 138 := En.of Try.func138 rfl rfl
theorem en164 : En Try.prog 164 := En.of Try.func164 rfl rfl
theorem en193 : En Try.prog 193 := En.of Try.func193 rfl rfl
theorem en105 : En Try.prog 105 := En.of Try.func105 rfl rfl
theorem en152 : En Try.prog 152 := En.of Try.func152 rfl rfl
theorem en100 : En Try.prog 100 := En.of Try.func100 rfl rfl
theorem en103 : En Try.prog 103 := En.of Try.func103 rfl rfl
theorem en102 : En Try.prog 102 := En.of Try.func102 rfl rfl
theorem en107 : En Try.prog 107 := En.of Try.func107 rfl rfl
theorem en45 : En Try.prog 45 := En.of Try.func45 rfl rfl
theorem en31 : En Try.prog 31 := En.of Try.func31 rfl rfl
theorem en47 : En Try.prog 47 := En.of Try.func47 rfl rfl
theorem en48 : En Try.prog 48 := En.of Try.func48 rfl rfl
theorem en49 : En Try.prog 49 := En.of Try.func49 rfl rfl
theorem en50 : En Try.prog 50 := En.of Try.func50 rfl rfl
theorem en51 : En Try.prog 51 := En.of Try.func51 rfl rfl
theorem en52 : En Try.prog 52 := En.of Try.func52 rfl rfl
theorem en53 : En Try.prog 53 := En.of Try.func53 rfl rfl
theorem en54 : En Try.prog 54 := En.of Try.func54 rfl rfl
theorem en55 : En Try.prog 55 := En.of Try.func55 rfl rfl

end Go.Proofs.Ytebmlphobgaboaa
