/- The facts of the program that the proofs take. -/
import Derived.Test.YtgkgimglgjfcjaaSeriesSystemModels
import Derived.Test.YtgkgimglgjfcjaaLiftY
import Derived.Test.YtgkgimglgjfcjaaLiftP
import Derived.Test.YtgkgimglgjfcjaaRows
namespace Go.Proofs.Ytgkgimglgjfcjaa
open Go.RowKit



theorem el23 : EL Try.prog 23 2 := Try.underlying23
theorem el22 : EL Try.prog 22 23 := Try.underlying22
theorem ti23 : TI Try.prog 23 [.slice none 0 0] 24 := TI.of (z := .slice none 0 0) (by kernel_rfl) rfl rfl
theorem ag23 : AG Try.prog 23 false := fun w => by simp [isAgg, underlying, Try.underlying23, go_sem]
theorem en70 : En Try.prog 70 := En.of Try.func70 rfl rfl
theorem fo25_0 : FO Try.prog 25 0 0 := fun w b o => by simp [Instr.fieldAt, Instr.sureAddr, fieldPlace, underlying, Try.underlying25, go_sem, Addr.add]
theorem ag22 : AG Try.prog 22 false := fun w => by simp [isAgg, underlying, Try.underlying22, go_sem]
theorem en69 : En Try.prog 69 := En.of Try.func69 rfl rfl
theorem fo25_1 : FO Try.prog 25 1 1 := fun w b o => by simp [Instr.fieldAt, Instr.sureAddr, fieldPlace, underlying, Try.underlying25, go_sem, Addr.add]
theorem fo25_2 : FO Try.prog 25 2 2 := fun w b o => by simp [Instr.fieldAt, Instr.sureAddr, fieldPlace, underlying, Try.underlying25, go_sem, Addr.add]
theorem ti2 : TI Try.prog 2 [.int .i64 0] 8 := TI.of (z := .int .i64 0) (by kernel_rfl) rfl rfl
theorem ag2 : AG Try.prog 2 false := fun w => by simp [isAgg, underlying, Try.underlying2, go_sem]
theorem en82 : En Try.prog 82 := En.of Try.func82 rfl rfl
theorem ti27 : TI Try.prog 27 [.slice none 0 0, .slice none 0 0, .slice none 0 0] 72 := TI.of (z := .agg #[.slice none 0 0, .slice none 0 0, .slice none 0 0]) (by kernel_rfl) rfl rfl
theorem en81 : En Try.prog 81 := En.of Try.func81 rfl rfl
theorem fo27_0 : FO Try.prog 27 0 0 := fun w b o => by simp [Instr.fieldAt, Instr.sureAddr, fieldPlace, underlying, Try.underlying27, go_sem, Addr.add]
theorem ti22 : TI Try.prog 22 [.slice none 0 0] 24 := TI.of (z := .slice none 0 0) (by kernel_rfl) rfl rfl
theorem fo27_1 : FO Try.prog 27 1 1 := fun w b o => by simp [Instr.fieldAt, Instr.sureAddr, fieldPlace, underlying, Try.underlying27, go_sem, Addr.add]
theorem fo27_2 : FO Try.prog 27 2 2 := fun w b o => by simp [Instr.fieldAt, Instr.sureAddr, fieldPlace, underlying, Try.underlying27, go_sem, Addr.add]
theorem ag27 : AG Try.prog 27 true := fun w => by simp [isAgg, underlying, Try.underlying27, go_sem]
theorem en115 : En Try.prog 115 := En.of Try.func115 rfl rfl
theorem en156 : En Try.prog 156 := En.of Try.func156 rfl rfl
theorem en77 : En Try.prog 77 := En.of Try.func77 rfl rfl
theorem en124 : En Try.prog 124 := En.of Try.func124 rfl rfl
theorem en120 : En Try.prog 120 := En.of Try.func120 rfl rfl
theorem en76 : En Try.prog 76 := En.of Try.func76 rfl rfl
theorem en119 : En Try.prog 119 := En.of Try.func119 rfl rfl
theorem en74 : En Try.prog 74 := En.of Try.func74 rfl rfl
theorem en154 : En Try.prog 154 := En.of Try.func154 rfl rfl
theorem en155 : En Try.prog 155 := En.of Try.func155 rfl rfl
theorem en32 : En Try.prog 32 := En.of Try.func32 rfl rfl
theorem en71 : En Try.prog 71 := En.of Try.func71 rfl rfl
theorem en72 : En Try.prog 72 := En.of Try.func72 rfl rfl
theorem en73 : En Try.prog 73 := En.of Try.func73 rfl rfl
theorem en75 : En Try.prog 75 := En.of Try.func75 rfl rfl
theorem en79 : En Try.prog 79 := En.of Try.func79 rfl rfl
theorem en80 : En Try.prog 80 := En.of Try.func80 rfl rfl
theorem en78 : En Try.prog 78 := En.of Try.func78 rfl rfl
theorem en181 : En Try.prog 181 := En.of Try.func181 rfl rfl
theorem en105 : En Try.prog 105 := En.of Try.func105 rfl rfl
theorem en161 : En Try.prog 161 := En.of Try.func161 rfl rfl
theorem en87 : En Try.prog 87 := En.of Try.func87 rfl rfl
theorem en160 : En Try.prog 160 := En.of Try.func160 rfl rfl
theorem en159 : En Try.prog 159 := En.of Try.func159 rfl rfl
theorem en86 : En Try.prog 86 := En.of Try.func86 rfl rfl
theorem en194 : En Try.prog 194 := En.of Try.func194 rfl rfl
theorem en186 : En Try.prog 186 := En.of Try.func186 rfl rfl
theorem en185 : En Try.prog 185 := En.of Try.func185 rfl rfl
theorem en170 : En Try.prog 170 := En.of Try.func170 rfl rfl
theorem en117 : En Try.prog 117 := En.of Try.func117 rfl rfl
theorem en118 : En Try.prog 118 := En.of Try.func118 rfl rfl
theorem en158 : En Try.prog 158 := En.of Try.func158 rfl rfl
theorem en157 : En Try.prog 157 := En.of Try.func157 rfl rfl
theorem en90 : En Try.prog 90 := En.of Try.func90 rfl rfl
theorem ag3 : AG Try.prog 3 false := fun w => by simp [isAgg, underlying, Try.underlying3, go_sem]
theorem ag99 : AG Try.prog 99 false := fun w => by simp [isAgg, underlying, Try.underlying99, go_sem]
theorem ti3 : TI Try.prog 3 [.int .i64 0] 8 := TI.of (z := .int .i64 0) (by kernel_rfl) rfl rfl
theorem en162 : En Try.prog 162 := En.of Try.func162 rfl rfl
theorem un23 : Try.prog.underlying 23 = some (.slice 2) := by kernel_rfl
theorem en183 : En Try.prog 183 := En.of Try.func183 rfl rfl
theorem un3 : Try.prog.underlying 3 = some (.int .i64) := by kernel_rfl
theorem un120 : Try.prog.underlying 120 = some (.int .u64) := by kernel_rfl
theorem en164 : En Try.prog 164 := En.of Try.func164 rfl rfl
theorem en163 : En Try.prog 163 := En.of Try.func163 rfl rfl
theorem en31 : En Try.prog 31 := En.of Try.func31 rfl rfl
theorem en84 : En Try.prog 84 := En.of Try.func84 rfl rfl
theorem en83 : En Try.prog 83 := En.of Try.func83 rfl rfl
theorem en85 : En Try.prog 85 := En.of Try.func85 rfl rfl
theorem en89 : En Try.prog 89 := En.of Try.func89 rfl rfl
theorem en88 : En Try.prog 88 := En.of Try.func88 rfl rfl
theorem en91 : En Try.prog 91 := En.of Try.func91 rfl rfl
theorem en93 : En Try.prog 93 := En.of Try.func93 rfl rfl
theorem en92 : En Try.prog 92 := En.of Try.func92 rfl rfl
theorem en94 : En Try.prog 94 := En.of Try.func94 rfl rfl
theorem en96 : En Try.prog 96 := En.of Try.func96 rfl rfl
theorem en95 : En Try.prog 95 := En.of Try.func95 rfl rfl
theorem en98 : En Try.prog 98 := En.of Try.func98 rfl rfl
theorem en97 : En Try.prog 97 := En.of Try.func97 rfl rfl
theorem en100 : En Try.prog 100 := En.of Try.func100 rfl rfl
theorem en99 : En Try.prog 99 := En.of Try.func99 rfl rfl
theorem ag25 : AG Try.prog 25 true := fun w => by simp [isAgg, underlying, Try.underlying25, go_sem]
theorem ti25 : TI Try.prog 25 [.slice none 0 0, .slice none 0 0, .slice none 0 0] 72 := TI.of (z := .agg #[.slice none 0 0, .slice none 0 0, .slice none 0 0]) (by kernel_rfl) rfl rfl
theorem en10 : En Try.prog 10 := En.of Try.func10 rfl rfl
theorem en12 : En Try.prog 12 := En.of Try.func12 rfl rfl
theorem en11 : En Try.prog 11 := En.of Try.func11 rfl rfl
theorem en13 : En Try.prog 13 := En.of Try.func13 rfl rfl
theorem en14 : En Try.prog 14 := En.of Try.func14 rfl rfl
theorem en15 : En Try.prog 15 := En.of Try.func15 rfl rfl
theorem en16 : En Try.prog 16 := En.of Try.func16 rfl rfl

end Go.Proofs.Ytgkgimglgjfcjaa
