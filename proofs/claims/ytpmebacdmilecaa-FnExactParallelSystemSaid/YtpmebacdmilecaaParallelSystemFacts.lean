/- The facts of the program that the proofs take. -/
import Derived.Test.YtpmebacdmilecaaParallelSystemModels
import Derived.Test.YtpmebacdmilecaaLiftP
import Derived.Test.YtpmebacdmilecaaRows
namespace Go.Proofs.Ytpmebacdmilecaa
open Go.RowKit



theorem el23 : EL Try.prog 23 2 := Try.underlying23
theorem el46 : EL Try.prog 46 23 := Try.underlying46
theorem ti23 : TI Try.prog 23 [.slice none 0 0] 24 := TI.of (z := .slice none 0 0) (by kernel_rfl) rfl rfl
theorem ag23 : AG Try.prog 23 false := fun w => by simp [isAgg, underlying, Try.underlying23, go_sem]
theorem en96 : En Try.prog 96 := En.of Try.func96 rfl rfl
theorem fo53_0 : FO Try.prog 53 0 0 := fun w b o => by simp [Instr.fieldAt, Instr.sureAddr, fieldPlace, underlying, Try.underlying53, go_sem, Addr.add]
theorem ag46 : AG Try.prog 46 false := fun w => by simp [isAgg, underlying, Try.underlying46, go_sem]
theorem en52 : En Try.prog 52 := En.of Try.func52 rfl rfl
theorem fo53_1 : FO Try.prog 53 1 1 := fun w b o => by simp [Instr.fieldAt, Instr.sureAddr, fieldPlace, underlying, Try.underlying53, go_sem, Addr.add]
theorem fo53_2 : FO Try.prog 53 2 2 := fun w b o => by simp [Instr.fieldAt, Instr.sureAddr, fieldPlace, underlying, Try.underlying53, go_sem, Addr.add]
theorem ti2 : TI Try.prog 2 [.int .i64 0] 8 := TI.of (z := .int .i64 0) (by kernel_rfl) rfl rfl
theorem ag2 : AG Try.prog 2 false := fun w => by simp [isAgg, underlying, Try.underlying2, go_sem]
theorem en17 : En Try.prog 17 := En.of Try.func17 rfl rfl
theorem ti55 : TI Try.prog 55 [.slice none 0 0, .slice none 0 0, .slice none 0 0] 72 := TI.of (z := .agg #[.slice none 0 0, .slice none 0 0, .slice none 0 0]) (by kernel_rfl) rfl rfl
theorem en54 : En Try.prog 54 := En.of Try.func54 rfl rfl
theorem fo55_0 : FO Try.prog 55 0 0 := fun w b o => by simp [Instr.fieldAt, Instr.sureAddr, fieldPlace, underlying, Try.underlying55, go_sem, Addr.add]
theorem ti46 : TI Try.prog 46 [.slice none 0 0] 24 := TI.of (z := .slice none 0 0) (by kernel_rfl) rfl rfl
theorem fo55_1 : FO Try.prog 55 1 1 := fun w b o => by simp [Instr.fieldAt, Instr.sureAddr, fieldPlace, underlying, Try.underlying55, go_sem, Addr.add]
theorem fo55_2 : FO Try.prog 55 2 2 := fun w b o => by simp [Instr.fieldAt, Instr.sureAddr, fieldPlace, underlying, Try.underlying55, go_sem, Addr.add]
theorem ag55 : AG Try.prog 55 true := fun w => by simp [isAgg, underlying, Try.underlying55, go_sem]
theorem en63 : En Try.prog 63 := En.of Try.func63 rfl rfl
theorem en158 : En Try.prog 158 := En.of Try.func158 rfl rfl
theorem en108 : En Try.prog 108 := En.of Try.func108 rfl rfl
theorem en137 : En Try.prog 137 := En.of Try.func137 rfl rfl
theorem en67 : En Try.prog 67 := En.of Try.func67 rfl rfl
theorem en107 : En Try.prog 107 := En.of Try.func107 rfl rfl
theorem en153 : En Try.prog 153 := En.of Try.func153 rfl rfl
theorem en87 : En Try.prog 87 := En.of Try.func87 rfl rfl
theorem en97 : En Try.prog 97 := En.of Try.func97 rfl rfl
theorem en98 : En Try.prog 98 := En.of Try.func98 rfl rfl
theorem en65 : En Try.prog 65 := En.of Try.func65 rfl rfl
theorem en180 : En Try.prog 180 := En.of Try.func180 rfl rfl
theorem en69 : En Try.prog 69 := En.of Try.func69 rfl rfl
theorem en160 : En Try.prog 160 := En.of Try.func160 rfl rfl
theorem en112 : En Try.prog 112 := En.of Try.func112 rfl rfl
theorem en143 : En Try.prog 143 := En.of Try.func143 rfl rfl
theorem en142 : En Try.prog 142 := En.of Try.func142 rfl rfl
theorem en73 : En Try.prog 73 := En.of Try.func73 rfl rfl
theorem en198 : En Try.prog 198 := En.of Try.func198 rfl rfl
theorem en196 : En Try.prog 196 := En.of Try.func196 rfl rfl
theorem en191 : En Try.prog 191 := En.of Try.func191 rfl rfl
theorem en182 : En Try.prog 182 := En.of Try.func182 rfl rfl
theorem en154 : En Try.prog 154 := En.of Try.func154 rfl rfl
theorem en139 : En Try.prog 139 := En.of Try.func139 rfl rfl
theorem ag3 : AG Try.prog 3 false := fun w => by simp [isAgg, underlying, Try.underlying3, go_sem]
theorem ag100 : AG Try.prog 100 false := fun w => by simp [isAgg, underlying, Try.underlying100, go_sem]
theorem ti3 : TI Try.prog 3 [.int .i64 0] 8 := TI.of (z := .int .i64 0) (by kernel_rfl) rfl rfl
theorem en155 : En Try.prog 155 := En.of Try.func155 rfl rfl
theorem en94 : En Try.prog 94 := En.of Try.func94 rfl rfl
theorem un3 : Try.prog.underlying 3 = some (.int .i64) := by kernel_rfl
theorem en156 : En Try.prog 156 := En.of Try.func156 rfl rfl
theorem en99 : En Try.prog 99 := En.of Try.func99 rfl rfl
theorem en101 : En Try.prog 101 := En.of Try.func101 rfl rfl
theorem en100 : En Try.prog 100 := En.of Try.func100 rfl rfl
theorem en102 : En Try.prog 102 := En.of Try.func102 rfl rfl
theorem en19 : En Try.prog 19 := En.of Try.func19 rfl rfl
theorem en35 : En Try.prog 35 := En.of Try.func35 rfl rfl
theorem en22 : En Try.prog 22 := En.of Try.func22 rfl rfl
theorem en36 : En Try.prog 36 := En.of Try.func36 rfl rfl
theorem en23 : En Try.prog 23 := En.of Try.func23 rfl rfl
theorem en37 : En Try.prog 37 := En.of Try.func37 rfl rfl
theorem ag53 : AG Try.prog 53 true := fun w => by simp [isAgg, underlying, Try.underlying53, go_sem]
theorem ti53 : TI Try.prog 53 [.slice none 0 0, .slice none 0 0, .slice none 0 0] 72 := TI.of (z := .agg #[.slice none 0 0, .slice none 0 0, .slice none 0 0]) (by kernel_rfl) rfl rfl
theorem en38 : En Try.prog 38 := En.of Try.func38 rfl rfl
theorem en40 : En Try.prog 40 := En.of Try.func40 rfl rfl
theorem en39 : En Try.prog 39 := En.of Try.func39 rfl rfl
theorem en41 : En Try.prog 41 := En.of Try.func41 rfl rfl
theorem en42 : En Try.prog 42 := En.of Try.func42 rfl rfl
theorem en43 : En Try.prog 43 := En.of Try.func43 rfl rfl
theorem en44 : En Try.prog 44 := En.of Try.func44 rfl rfl

end Go.Proofs.Ytpmebacdmilecaa
