/- The facts of the program that the proofs take. -/
import Derived.Test.YtpmebacdmilecaaGreatestAfterModels
import Derived.Test.YtpmebacdmilecaaRows
namespace Go.Proofs.Ytpmebacdmilecaa
open Go.RowKit

theorem el23 : EL Try.prog 23 2 := Try.underlying23
theorem el46 : EL Try.prog 46 23 := Try.underlying46
theorem ti23 : TI Try.prog 23 [.slice none 0 0] 24 := TI.of (z := .slice none 0 0) (by kernel_rfl) rfl rfl
theorem ag23 : AG Try.prog 23 false := fun w => by simp [isAgg, underlying, Try.underlying23, go_sem]
theorem en96 : En Try.prog 96 := En.of Try.func96 rfl rfl
theorem el22 : EL Try.prog 22 46 := Try.underlying22
theorem ti46 : TI Try.prog 46 [.slice none 0 0] 24 := TI.of (z := .slice none 0 0) (by kernel_rfl) rfl rfl
theorem ag46 : AG Try.prog 46 false := fun w => by simp [isAgg, underlying, Try.underlying46, go_sem]
theorem en52 : En Try.prog 52 := En.of Try.func52 rfl rfl
theorem ti2 : TI Try.prog 2 [.int .i64 0] 8 := TI.of (z := .int .i64 0) (by kernel_rfl) rfl rfl
theorem ag2 : AG Try.prog 2 false := fun w => by simp [isAgg, underlying, Try.underlying2, go_sem]
theorem en17 : En Try.prog 17 := En.of Try.func17 rfl rfl
theorem en54 : En Try.prog 54 := En.of Try.func54 rfl rfl
theorem en63 : En Try.prog 63 := En.of Try.func63 rfl rfl
theorem en158 : En Try.prog 158 := En.of Try.func158 rfl rfl
theorem en108 : En Try.prog 108 := En.of Try.func108 rfl rfl
theorem en137 : En Try.prog 137 := En.of Try.func137 rfl rfl
theorem en67 : En Try.prog 67 := En.of Try.func67 rfl rfl
theorem en107 : En Try.prog 107 := En.of Try.func107 rfl rfl
theorem en153 : En Try.prog 153 := En.of Try.func153 rfl rfl
theorem en133 : En Try.prog 133 := En.of Try.func133 rfl rfl
theorem en65 : En Try.prog 65 := En.of Try.func65 rfl rfl
theorem en134 : En Try.prog 134 := En.of Try.func134 rfl rfl
theorem en135 : En Try.prog 135 := En.of Try.func135 rfl rfl
theorem en136 : En Try.prog 136 := En.of Try.func136 rfl rfl
theorem en62 : En Try.prog 62 := En.of Try.func62 rfl rfl
theorem en64 : En Try.prog 64 := En.of Try.func64 rfl rfl
theorem en66 : En Try.prog 66 := En.of Try.func66 rfl rfl
theorem en180 : En Try.prog 180 := En.of Try.func180 rfl rfl
theorem en69 : En Try.prog 69 := En.of Try.func69 rfl rfl
theorem en160 : En Try.prog 160 := En.of Try.func160 rfl rfl
theorem en112 : En Try.prog 112 := En.of Try.func112 rfl rfl
theorem en143 : En Try.prog 143 := En.of Try.func143 rfl rfl
theorem en142 : En Try.prog 142 := En.of Try.func142 rfl rfl
theorem en73 : En Try.prog 73 := En.of Try.func73 rfl rfl
theorem en198 : En Try.prog 198 := En.of Try.func198 rfl rfl
theorem en196 : En Try.prog 196 := En.of Try.func196 rfl rfl
theorem en191 : En Try.prog 191 := En.of Try.func191 rfl rfl
theorem en182 : En Try.prog 182 := En.of Try.func182 rfl rfl
theorem en154 : En Try.prog 154 := En.of Try.func154 rfl rfl
theorem ag22 : AG Try.prog 22 false := fun w => by simp [isAgg, underlying, Try.underlying22, go_sem]
theorem en195 : En Try.prog 195 := En.of Try.func195 rfl rfl
theorem en178 : En Try.prog 178 := En.of Try.func178 rfl rfl
theorem en177 : En Try.prog 177 := En.of Try.func177 rfl rfl
theorem en138 : En Try.prog 138 := En.of Try.func138 rfl rfl
theorem en139 : En Try.prog 139 := En.of Try.func139 rfl rfl
theorem un23 : Try.prog.underlying 23 = some (.slice 2) := by kernel_rfl
theorem en71 : En Try.prog 71 := En.of Try.func71 rfl rfl
theorem en179 : En Try.prog 179 := En.of Try.func179 rfl rfl
theorem en94 : En Try.prog 94 := En.of Try.func94 rfl rfl
theorem en140 : En Try.prog 140 := En.of Try.func140 rfl rfl
theorem en141 : En Try.prog 141 := En.of Try.func141 rfl rfl
theorem en114 : En Try.prog 114 := En.of Try.func114 rfl rfl
theorem en68 : En Try.prog 68 := En.of Try.func68 rfl rfl
theorem en70 : En Try.prog 70 := En.of Try.func70 rfl rfl
theorem en72 : En Try.prog 72 := En.of Try.func72 rfl rfl
theorem en19 : En Try.prog 19 := En.of Try.func19 rfl rfl
theorem en35 : En Try.prog 35 := En.of Try.func35 rfl rfl
theorem en22 : En Try.prog 22 := En.of Try.func22 rfl rfl
theorem en36 : En Try.prog 36 := En.of Try.func36 rfl rfl
theorem en14 : En Try.prog 14 := En.of Try.func14 rfl rfl
theorem en16 : En Try.prog 16 := En.of Try.func16 rfl rfl
theorem en15 : En Try.prog 15 := En.of Try.func15 rfl rfl
theorem en18 : En Try.prog 18 := En.of Try.func18 rfl rfl
theorem en20 : En Try.prog 20 := En.of Try.func20 rfl rfl
theorem en21 : En Try.prog 21 := En.of Try.func21 rfl rfl
theorem en23 : En Try.prog 23 := En.of Try.func23 rfl rfl

end Go.Proofs.Ytpmebacdmilecaa
