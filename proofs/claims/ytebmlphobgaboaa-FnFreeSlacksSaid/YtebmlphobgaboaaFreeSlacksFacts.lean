/- The facts of the program that the proofs take. -/
import Derived.Test.YtebmlphobgaboaaFreeSlacksModels
import Derived.Test.YtebmlphobgaboaaLiftP
import Derived.Test.YtebmlphobgaboaaRows
namespace Go.Proofs.Ytebmlphobgaboaa
open Go.RowKit

def GPlace.cells (x : GPlace) : List Value := [.int .i64 x.From, .int .i64 x.To, .int .i64 x.Delay, .int .i64 x.Tokens]
theorem GPlace.len (x : GPlace) : (GPlace.cells x).length = 4 := rfl
theorem GPlace.one (x : GPlace) : ∀ u ∈ GPlace.cells x, u.oneCell' = true := fun u hu => List.all_eq_true.1 (show (GPlace.cells x).all Value.oneCell' = true from rfl) u hu


def GRatio.cells (x : GRatio) : List Value := [.int .i64 x.Num, .int .i64 x.Den]
theorem GRatio.len (x : GRatio) : (GRatio.cells x).length = 2 := rfl
theorem GRatio.one (x : GRatio) : ∀ u ∈ GRatio.cells x, u.oneCell' = true := fun u hu => List.all_eq_true.1 (show (GRatio.cells x).all Value.oneCell' = true from rfl) u hu


theorem el48 : EL Try.prog 48 5 := Try.underlying48
theorem ti146 : TI Try.prog 146 [.slice none 0 0, .int .i64 0, .int .i64 0] 40 := TI.of (z := .agg #[.slice none 0 0, .int .i64 0, .int .i64 0]) (by kernel_rfl) rfl rfl
theorem fo146_2 : FO Try.prog 146 2 2 := fun w b o => by simp [Instr.fieldAt, Instr.sureAddr, fieldPlace, underlying, Try.underlying146, go_sem, Addr.add]
theorem ag2 : AG Try.prog 2 false := fun w => by simp [isAgg, underlying, Try.underlying2, go_sem]
theorem ti5 : TI Try.prog 5 [.int .u8 0] 1 := TI.of (z := .int .u8 0) (by kernel_rfl) rfl rfl
theorem ag5 : AG Try.prog 5 false := fun w => by simp [isAgg, underlying, Try.underlying5, go_sem]
theorem un5 : Try.prog.underlying 5 = some (.int .u8) := by kernel_rfl
theorem un2 : Try.prog.underlying 2 = some (.int .i64) := by kernel_rfl
theorem ti2 : TI Try.prog 2 [.int .i64 0] 8 := TI.of (z := .int .i64 0) (by kernel_rfl) rfl rfl
theorem fo146_1 : FO Try.prog 146 1 1 := fun w b o => by simp [Instr.fieldAt, Instr.sureAddr, fieldPlace, underlying, Try.underlying146, go_sem, Addr.add]
theorem ag3 : AG Try.prog 3 false := fun w => by simp [isAgg, underlying, Try.underlying3, go_sem]
theorem fo146_0 : FO Try.prog 146 0 0 := fun w b o => by simp [Instr.fieldAt, Instr.sureAddr, fieldPlace, underlying, Try.underlying146, go_sem, Addr.add]
theorem ag48 : AG Try.prog 48 false := fun w => by simp [isAgg, underlying, Try.underlying48, go_sem]
theorem ti3 : TI Try.prog 3 [.int .i64 0] 8 := TI.of (z := .int .i64 0) (by kernel_rfl) rfl rfl
theorem el23 : EL Try.prog 23 2 := Try.underlying23
theorem en92 : En Try.prog 92 := En.of Try.func92 rfl rfl
theorem ti52 : TI Try.prog 52 [.int .i64 0, .slice none 0 0] 32 := TI.of (z := .agg #[.int .i64 0, .slice none 0 0]) (by kernel_rfl) rfl rfl
theorem el50 : EL Try.prog 50 112 := Try.underlying50
theorem ti112 : TI Try.prog 112 [.int .i64 0, .int .i64 0, .int .i64 0, .int .i64 0] 32 := TI.of (z := .agg #[.int .i64 0, .int .i64 0, .int .i64 0, .int .i64 0]) (by kernel_rfl) rfl rfl
theorem fo52_0 : FO Try.prog 52 0 0 := fun w b o => by simp [Instr.fieldAt, Instr.sureAddr, fieldPlace, underlying, Try.underlying52, go_sem, Addr.add]
theorem fo112_0 : FO Try.prog 112 0 0 := fun w b o => by simp [Instr.fieldAt, Instr.sureAddr, fieldPlace, underlying, Try.underlying112, go_sem, Addr.add]
theorem fo112_1 : FO Try.prog 112 1 1 := fun w b o => by simp [Instr.fieldAt, Instr.sureAddr, fieldPlace, underlying, Try.underlying112, go_sem, Addr.add]
theorem fo112_3 : FO Try.prog 112 3 3 := fun w b o => by simp [Instr.fieldAt, Instr.sureAddr, fieldPlace, underlying, Try.underlying112, go_sem, Addr.add]
theorem fo52_1 : FO Try.prog 52 1 1 := fun w b o => by simp [Instr.fieldAt, Instr.sureAddr, fieldPlace, underlying, Try.underlying52, go_sem, Addr.add]
theorem ag50 : AG Try.prog 50 false := fun w => by simp [isAgg, underlying, Try.underlying50, go_sem]
theorem ag112 : AG Try.prog 112 true := fun w => by simp [isAgg, underlying, Try.underlying112, go_sem]
theorem ti50 : TI Try.prog 50 [.slice none 0 0] 24 := TI.of (z := .slice none 0 0) (by kernel_rfl) rfl rfl
theorem en93 : En Try.prog 93 := En.of Try.func93 rfl rfl
theorem ag52 : AG Try.prog 52 true := fun w => by simp [isAgg, underlying, Try.underlying52, go_sem]
theorem en147 : En Try.prog 147 := En.of Try.func147 rfl rfl
theorem en89 : En Try.prog 89 := En.of Try.func89 rfl rfl
theorem fo112_2 : FO Try.prog 112 2 2 := fun w b o => by simp [Instr.fieldAt, Instr.sureAddr, fieldPlace, underlying, Try.underlying112, go_sem, Addr.add]
theorem en203 : En Try.prog 203 := En.of Try.func203 rfl rfl
theorem en207 : En Try.prog 207 := En.of Try.func207 rfl rfl
theorem fo181_1 : FO Try.prog 181 1 1 := fun w b o => by simp [Instr.fieldAt, Instr.sureAddr, fieldPlace, underlying, Try.underlying181, go_sem, Addr.add]
theorem fo181_0 : FO Try.prog 181 0 0 := fun w b o => by simp [Instr.fieldAt, Instr.sureAddr, fieldPlace, underlying, Try.underlying181, go_sem, Addr.add]
theorem en216 : En Try.prog 216 := En.of Try.func216 rfl rfl
theorem ag181 : AG Try.prog 181 true := fun w => by simp [isAgg, underlying, Try.underlying181, go_sem]
theorem ti181 : TI Try.prog 181 [.int .i64 0, .int .i64 0] 16 := TI.of (z := .agg #[.int .i64 0, .int .i64 0]) (by kernel_rfl) rfl rfl
theorem en146 : En Try.prog 146 := En.of Try.func146 rfl rfl
theorem en213 : En Try.prog 213 := En.of Try.func213 rfl rfl
theorem en214 : En Try.prog 214 := En.of Try.func214 rfl rfl
theorem en178 : En Try.prog 178 := En.of Try.func178 rfl rfl
theorem en206 : En Try.prog 206 := En.of Try.func206 rfl rfl
theorem en208 : En Try.prog 208 := En.of Try.func208 rfl rfl
theorem en184 : En Try.prog 184 := En.of Try.func184 rfl rfl
theorem en148 : En Try.prog 148 := En.of Try.func148 rfl rfl
theorem en185 : En Try.prog 185 := En.of Try.func185 rfl rfl
theorem el59 : EL Try.prog 59 23 := Try.underlying59
theorem ti23 : TI Try.prog 23 [.slice none 0 0] 24 := TI.of (z := .slice none 0 0) (by kernel_rfl) rfl rfl
theorem en116 : En Try.prog 116 := En.of Try.func116 rfl rfl
theorem ag23 : AG Try.prog 23 false := fun w => by simp [isAgg, underlying, Try.underlying23, go_sem]
theorem en65 : En Try.prog 65 := En.of Try.func65 rfl rfl
theorem en164 : En Try.prog 164 := En.of Try.func164 rfl rfl
theorem en165 : En Try.prog 165 := En.of Try.func165 rfl rfl
theorem en117 : En Try.prog 117 := En.of Try.func117 rfl rfl
theorem en119 : En Try.prog 119 := En.of Try.func119 rfl rfl
theorem en118 : En Try.prog 118 := En.of Try.func118 rfl rfl
theorem en120 : En Try.prog 120 := En.of Try.func120 rfl rfl
theorem ti54 : TI Try.prog 54 [.int .i64 0, .slice none 0 0] 32 := TI.of (z := .agg #[.int .i64 0, .slice none 0 0]) (by kernel_rfl) rfl rfl
theorem en186 : En Try.prog 186 := En.of Try.func186 rfl rfl
theorem ag54 : AG Try.prog 54 true := fun w => by simp [isAgg, underlying, Try.underlying54, go_sem]
theorem en187 : En Try.prog 187 := En.of Try.func187 rfl rfl
theorem en64 : En Try.prog 64 := En.of Try.func64 rfl rfl
theorem en158 : En Try.prog 158 := En.of Try.func158 rfl rfl
theorem en143 : En Try.prog 143 := En.of Try.func143 rfl rfl
theorem en144 : En Try.prog 144 := En.of Try.func144 rfl rfl
theorem fo54_1 : FO Try.prog 54 1 1 := fun w b o => by simp [Instr.fieldAt, Instr.sureAddr, fieldPlace, underlying, Try.underlying54, go_sem, Addr.add]
theorem en76 : En Try.prog 76 := En.of Try.func76 rfl rfl
theorem en91 : En Try.prog 91 := En.of Try.func91 rfl rfl
theorem en42 : En Try.prog 42 := En.of Try.func42 rfl rfl
theorem en85 : En Try.prog 85 := En.of Try.func85 rfl rfl
theorem en201 : En Try.prog 201 := En.of Try.func201 rfl rfl
theorem en175 : En Try.prog 175 := En.of Try.func175 rfl rfl
theorem en200 : En Try.prog 200 := En.of Try.func200 rfl rfl
theorem en174 : En Try.prog 174 := En.of Try.func174 rfl rfl
theorem en173 : En Try.prog 173 := En.of Try.func173 rfl rfl
theorem fo54_0 : FO Try.prog 54 0 0 := fun w b o => by simp [Instr.fieldAt, Instr.sureAddr, fieldPlace, underlying, Try.underlying54, go_sem, Addr.add]
theorem en134 : En Try.prog 134 := En.of Try.func134 rfl rfl
theorem en205 : En Try.prog 205 := En.of Try.func205 rfl rfl
theorem en182 : En Try.prog 182 := En.of Try.func182 rfl rfl
theorem en183 : En Try.prog 183 := En.of Try.func183 rfl rfl
theorem en142 : En Try.prog 142 := En.of Try.func142 rfl rfl
theorem en202 : En Try.prog 202 := En.of Try.func202 rfl rfl
theorem en87 : En Try.prog 87 := En.of Try.func87 rfl rfl
theorem en177 : En Try.prog 177 := En.of Try.func177 rfl rfl
theorem en176 : En Try.prog 176 := En.of Try.func176 rfl rfl
theorem en132 : En Try.prog 132 := En.of Try.func132 rfl rfl
theorem en133 : En Try.prog 133 := En.of Try.func133 rfl rfl
theorem en135 : En Try.prog 135 := En.of Try.func135 rfl rfl
theorem en136 : En Try.prog 136 := En.of Try.func136 rfl rfl
theorem en77 : En Try.prog 77 := En.of Try.func77 rfl rfl
theorem en138 : En Try.prog 138 := En.of Try.func138 rfl rfl
theorem en179 : En Try.prog 179 := En.of Try.func179 rfl rfl
theorem en188 : En Try.prog 188 := En.of Try.func188 rfl rfl
theorem en204 : En Try.prog 204 := En.of Try.func204 rfl rfl
theorem en181 : En Try.prog 181 := En.of Try.func181 rfl rfl
theorem en180 : En Try.prog 180 := En.of Try.func180 rfl rfl
theorem en90 : En Try.prog 90 := En.of Try.func90 rfl rfl
theorem en137 : En Try.prog 137 := En.of Try.func137 rfl rfl
theorem en139 : En Try.prog 139 := En.of Try.func139 rfl rfl
theorem en140 : En Try.prog 140 := En.of Try.func140 rfl rfl
theorem en88 : En Try.prog 88 := En.of Try.func88 rfl rfl
theorem en79 : En Try.prog 79 := En.of Try.func79 rfl rfl
theorem en86 : En Try.prog 86 := En.of Try.func86 rfl rfl
theorem en94 : En Try.prog 94 := En.of Try.func94 rfl rfl
theorem en145 : En Try.prog 145 := En.of Try.func145 rfl rfl
theorem en95 : En Try.prog 95 := En.of Try.func95 rfl rfl
theorem en31 : En Try.prog 31 := En.of Try.func31 rfl rfl
theorem en39 : En Try.prog 39 := En.of Try.func39 rfl rfl
theorem en40 : En Try.prog 40 := En.of Try.func40 rfl rfl
theorem en41 : En Try.prog 41 := En.of Try.func41 rfl rfl
theorem en43 : En Try.prog 43 := En.of Try.func43 rfl rfl
theorem en44 : En Try.prog 44 := En.of Try.func44 rfl rfl
theorem en45 : En Try.prog 45 := En.of Try.func45 rfl rfl
theorem en46 : En Try.prog 46 := En.of Try.func46 rfl rfl
theorem en37 : En Try.prog 37 := En.of Try.func37 rfl rfl
theorem en38 : En Try.prog 38 := En.of Try.func38 rfl rfl

end Go.Proofs.Ytebmlphobgaboaa
