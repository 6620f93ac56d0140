/- The facts of the program that the proofs take. -/
import Derived.Test.YtebmlphobgaboabPositiveCyclesModels
import Derived.Test.YtebmlphobgaboabLiftY
import Derived.Test.YtebmlphobgaboabLiftP
import Derived.Test.YtebmlphobgaboabRows
namespace Go.Proofs.Ytebmlphobgaboab
open Go.RowKit

theorem el22 : EL Try.prog 22 5 := Try.underlying22
theorem ti149 : TI Try.prog 149 [.slice none 0 0, .int .i64 0, .int .i64 0] 40 := TI.of (z := .agg #[.slice none 0 0, .int .i64 0, .int .i64 0]) (by kernel_rfl) rfl rfl
theorem fo149_2 : FO Try.prog 149 2 2 := fun w b o => by simp [Instr.fieldAt, Instr.sureAddr, fieldPlace, underlying, Try.underlying149, go_sem, Addr.add]
theorem ag2 : AG Try.prog 2 false := fun w => by simp [isAgg, underlying, Try.underlying2, go_sem]
theorem ti5 : TI Try.prog 5 [.int .u8 0] 1 := TI.of (z := .int .u8 0) (by kernel_rfl) rfl rfl
theorem ag5 : AG Try.prog 5 false := fun w => by simp [isAgg, underlying, Try.underlying5, go_sem]
theorem un5 : Try.prog.underlying 5 = some (.int .u8) := by kernel_rfl
theorem un2 : Try.prog.underlying 2 = some (.int .i64) := by kernel_rfl
theorem ti2 : TI Try.prog 2 [.int .i64 0] 8 := TI.of (z := .int .i64 0) (by kernel_rfl) rfl rfl
theorem fo149_1 : FO Try.prog 149 1 1 := fun w b o => by simp [Instr.fieldAt, Instr.sureAddr, fieldPlace, underlying, Try.underlying149, go_sem, Addr.add]
theorem ag3 : AG Try.prog 3 false := fun w => by simp [isAgg, underlying, Try.underlying3, go_sem]
theorem fo149_0 : FO Try.prog 149 0 0 := fun w b o => by simp [Instr.fieldAt, Instr.sureAddr, fieldPlace, underlying, Try.underlying149, go_sem, Addr.add]
theorem ag22 : AG Try.prog 22 false := fun w => by simp [isAgg, underlying, Try.underlying22, go_sem]
theorem ti3 : TI Try.prog 3 [.int .i64 0] 8 := TI.of (z := .int .i64 0) (by kernel_rfl) rfl rfl
theorem el40 : EL Try.prog 40 28 := Try.underlying40
theorem ti28 : TI Try.prog 28 [.slice none 0 0] 24 := TI.of (z := .slice none 0 0) (by kernel_rfl) rfl rfl
theorem el28 : EL Try.prog 28 2 := Try.underlying28
theorem en93 : En Try.prog 93 := En.of Try.func93 rfl rfl
theorem en109 : En Try.prog 109 := En.of Try.func109 rfl rfl
theorem en154 : En Try.prog 154 := En.of Try.func154 rfl rfl
theorem ag28 : AG Try.prog 28 false := fun w => by simp [isAgg, underlying, Try.underlying28, go_sem]
theorem en206 : En Try.prog 206 := En.of Try.func206 rfl rfl
theorem en161 : En Try.prog 161 := En.of Try.func161 rfl rfl
theorem en77 : En Try.prog 77 := En.of Try.func77 rfl rfl
theorem en144 : En Try.prog 144 := En.of Try.func144 rfl rfl
theorem en168 : En Try.prog 168 := En.of Try.func168 rfl rfl
theorem en222 : En Try.prog 222 := En.of Try.func222 rfl rfl
theorem en204 : En Try.prog 204 := En.of Try.func204 rfl rfl
theorem en149 : En Try.prog 149 := En.of Try.func149 rfl rfl
theorem en94 : En Try.prog 94 := En.of Try.func94 rfl rfl
theorem en82 : En Try.prog 82 := En.of Try.func82 rfl rfl
theorem en65 : En Try.prog 65 := En.of Try.func65 rfl rfl
theorem en78 : En Try.prog 78 := En.of Try.func78 rfl rfl
theorem en217 : En Try.prog 217 := En.of Try.func217 rfl rfl
theorem en71 : En Try.prog 71 := En.of Try.func71 rfl rfl
theorem en142 : En Try.prog 142 := En.of Try.func142 rfl rfl
theorem en164 : En Try.prog 164 := En.of Try.func164 rfl rfl
theorem en203 : En Try.prog 203 := En.of Try.func203 rfl rfl
theorem en191 : En Try.prog 191 := En.of Try.func191 rfl rfl
theorem ag40 : AG Try.prog 40 false := fun w => by simp [isAgg, underlying, Try.underlying40, go_sem]
theorem en148 : En Try.prog 148 := En.of Try.func148 rfl rfl
theorem en202 : En Try.prog 202 := En.of Try.func202 rfl rfl
theorem en159 : En Try.prog 159 := En.of Try.func159 rfl rfl
theorem en146 : En Try.prog 146 := En.of Try.func146 rfl rfl
theorem en91 : En Try.prog 91 := En.of Try.func91 rfl rfl
theorem en158 : En Try.prog 158 := En.of Try.func158 rfl rfl
theorem en111 : En Try.prog 111 := En.of Try.func111 rfl rfl
theorem en160 : En Try.prog 160 := En.of Try.func160 rfl rfl
theorem en90 : En Try.prog 90 := En.of Try.func90 rfl rfl
theorem en92 : En Try.prog 92 := En.of Try.func92 rfl rfl
theorem en145 : En Try.prog 145 := En.of Try.func145 rfl rfl
theorem fo162_2 : FO Try.prog 162 2 2 := fun w b o => by simp [Instr.fieldAt, Instr.sureAddr, fieldPlace, underlying, Try.underlying162, go_sem, Addr.add]
theorem fo162_0 : FO Try.prog 162 0 0 := fun w b o => by simp [Instr.fieldAt, Instr.sureAddr, fieldPlace, underlying, Try.underlying162, go_sem, Addr.add]
theorem fo162_1 : FO Try.prog 162 1 1 := fun w b o => by simp [Instr.fieldAt, Instr.sureAddr, fieldPlace, underlying, Try.underlying162, go_sem, Addr.add]
theorem ag105 : AG Try.prog 105 false := fun w => by simp [isAgg, underlying, Try.underlying105, go_sem]
theorem fo162_3 : FO Try.prog 162 3 3 := fun w b o => by simp [Instr.fieldAt, Instr.sureAddr, fieldPlace, underlying, Try.underlying162, go_sem, Addr.add]
theorem ag160 : AG Try.prog 160 false := fun w => by simp [isAgg, underlying, Try.underlying160, go_sem]
theorem el160 : EL Try.prog 160 4 := Try.underlying160
theorem ti4 : TI Try.prog 4 [.bool false] 1 := TI.of (z := .bool false) (by kernel_rfl) rfl rfl
theorem ag4 : AG Try.prog 4 false := fun w => by simp [isAgg, underlying, Try.underlying4, go_sem]
theorem en156 : En Try.prog 156 := En.of Try.func156 rfl rfl
theorem ti162 : TI Try.prog 162 [.slice none 0 0, .nilFunc, .slice none 0 0, .slice none 0 0] 80 := TI.of (z := .agg #[.slice none 0 0, .nilFunc, .slice none 0 0, .slice none 0 0]) (by kernel_rfl) rfl rfl
theorem en79 : En Try.prog 79 := En.of Try.func79 rfl rfl
theorem en80 : En Try.prog 80 := En.of Try.func80 rfl rfl
theorem en88 : En Try.prog 88 := En.of Try.func88 rfl rfl
theorem en87 : En Try.prog 87 := En.of Try.func87 rfl rfl
theorem en166 : En Try.prog 166 := En.of Try.func166 rfl rfl
theorem en114 : En Try.prog 114 := En.of Try.func114 rfl rfl
theorem en157 : En Try.prog 157 := En.of Try.func157 rfl rfl
theorem en89 : En Try.prog 89 := En.of Try.func89 rfl rfl
theorem en169 : En Try.prog 169 := En.of Try.func169 rfl rfl
theorem en99 : En Try.prog 99 := En.of Try.func99 rfl rfl
theorem en38 : En Try.prog 38 := En.of Try.func38 rfl rfl
theorem en207 : En Try.prog 207 := En.of Try.func207 rfl rfl
theorem en162 : En Try.prog 162 := En.of Try.func162 rfl rfl
theorem en163 : En Try.prog 163 := En.of Try.func163 rfl rfl
theorem en95 : En Try.prog 95 := En.of Try.func95 rfl rfl
theorem en96 : En Try.prog 96 := En.of Try.func96 rfl rfl
theorem en76 : En Try.prog 76 := En.of Try.func76 rfl rfl
theorem en165 : En Try.prog 165 := En.of Try.func165 rfl rfl
theorem en167 : En Try.prog 167 := En.of Try.func167 rfl rfl
theorem en97 : En Try.prog 97 := En.of Try.func97 rfl rfl
theorem en98 : En Try.prog 98 := En.of Try.func98 rfl rfl
theorem en9 : En Try.prog 9 := En.of Try.func9 rfl rfl
theorem en34 : En Try.prog 34 := En.of Try.func34 rfl rfl
theorem en29 : En Try.prog 29 := En.of Try.func29 rfl rfl
theorem en30 : En Try.prog 30 := En.of Try.func30 rfl rfl
theorem en35 : En Try.prog 35 := En.of Try.func35 rfl rfl
theorem en36 : En Try.prog 36 := En.of Try.func36 rfl rfl
theorem en37 : En Try.prog 37 := En.of Try.func37 rfl rfl
theorem en21 : En Try.prog 21 := En.of Try.func21 rfl rfl
theorem en39 : En Try.prog 39 := En.of Try.func39 rfl rfl
theorem en40 : En Try.prog 40 := En.of Try.func40 rfl rfl

end Go.Proofs.Ytebmlphobgaboab
