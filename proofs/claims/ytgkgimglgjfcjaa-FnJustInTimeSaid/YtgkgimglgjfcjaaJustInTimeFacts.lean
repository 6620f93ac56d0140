/- The facts of the program that the proofs take. -/
import Derived.Test.YtgkgimglgjfcjaaJustInTimeModels
import Derived.Test.YtgkgimglgjfcjaaLiftY
import Derived.Test.YtgkgimglgjfcjaaLiftP
import Derived.Test.YtgkgimglgjfcjaaRows
namespace Go.Proofs.Ytgkgimglgjfcjaa
open Go.RowKit


theorem el34 : EL Try.prog 34 5 := Try.underlying34
theorem ti145 : TI Try.prog 145 [.slice none 0 0, .int .i64 0, .int .i64 0] 40 := TI.of (z := .agg #[.slice none 0 0, .int .i64 0, .int .i64 0]) (by kernel_rfl) rfl rfl
theorem fo145_2 : FO Try.prog 145 2 2 := fun w b o => by simp [Instr.fieldAt, Instr.sureAddr, fieldPlace, underlying, Try.underlying145, go_sem, Addr.add]
theorem ag2 : AG Try.prog 2 false := fun w => by simp [isAgg, underlying, Try.underlying2, go_sem]
theorem ti5 : TI Try.prog 5 [.int .u8 0] 1 := TI.of (z := .int .u8 0) (by kernel_rfl) rfl rfl
theorem ag5 : AG Try.prog 5 false := fun w => by simp [isAgg, underlying, Try.underlying5, go_sem]
theorem un5 : Try.prog.underlying 5 = some (.int .u8) := by kernel_rfl
theorem un2 : Try.prog.underlying 2 = some (.int .i64) := by kernel_rfl
theorem ti2 : TI Try.prog 2 [.int .i64 0] 8 := TI.of (z := .int .i64 0) (by kernel_rfl) rfl rfl
theorem fo145_1 : FO Try.prog 145 1 1 := fun w b o => by simp [Instr.fieldAt, Instr.sureAddr, fieldPlace, underlying, Try.underlying145, go_sem, Addr.add]
theorem ag3 : AG Try.prog 3 false := fun w => by simp [isAgg, underlying, Try.underlying3, go_sem]
theorem fo145_0 : FO Try.prog 145 0 0 := fun w b o => by simp [Instr.fieldAt, Instr.sureAddr, fieldPlace, underlying, Try.underlying145, go_sem, Addr.add]
theorem ag34 : AG Try.prog 34 false := fun w => by simp [isAgg, underlying, Try.underlying34, go_sem]
theorem ti3 : TI Try.prog 3 [.int .i64 0] 8 := TI.of (z := .int .i64 0) (by kernel_rfl) rfl rfl
theorem el22 : EL Try.prog 22 23 := Try.underlying22
theorem ti23 : TI Try.prog 23 [.slice none 0 0] 24 := TI.of (z := .slice none 0 0) (by kernel_rfl) rfl rfl
theorem el23 : EL Try.prog 23 2 := Try.underlying23
theorem en107 : En Try.prog 107 := En.of Try.func107 rfl rfl
theorem en114 : En Try.prog 114 := En.of Try.func114 rfl rfl
theorem en74 : En Try.prog 74 := En.of Try.func74 rfl rfl
theorem ag23 : AG Try.prog 23 false := fun w => by simp [isAgg, underlying, Try.underlying23, go_sem]
theorem en166 : En Try.prog 166 := En.of Try.func166 rfl rfl
theorem ti27 : TI Try.prog 27 [.slice none 0 0, .slice none 0 0, .slice none 0 0] 72 := TI.of (z := .agg #[.slice none 0 0, .slice none 0 0, .slice none 0 0]) (by kernel_rfl) rfl rfl
theorem en165 : En Try.prog 165 := En.of Try.func165 rfl rfl
theorem en108 : En Try.prog 108 := En.of Try.func108 rfl rfl
theorem ag27 : AG Try.prog 27 true := fun w => by simp [isAgg, underlying, Try.underlying27, go_sem]
theorem en101 : En Try.prog 101 := En.of Try.func101 rfl rfl
theorem en102 : En Try.prog 102 := En.of Try.func102 rfl rfl
theorem en109 : En Try.prog 109 := En.of Try.func109 rfl rfl
theorem en181 : En Try.prog 181 := En.of Try.func181 rfl rfl
theorem en105 : En Try.prog 105 := En.of Try.func105 rfl rfl
theorem en161 : En Try.prog 161 := En.of Try.func161 rfl rfl
theorem en87 : En Try.prog 87 := En.of Try.func87 rfl rfl
theorem en160 : En Try.prog 160 := En.of Try.func160 rfl rfl
theorem en159 : En Try.prog 159 := En.of Try.func159 rfl rfl
theorem ag22 : AG Try.prog 22 false := fun w => by simp [isAgg, underlying, Try.underlying22, go_sem]
theorem en86 : En Try.prog 86 := En.of Try.func86 rfl rfl
theorem en194 : En Try.prog 194 := En.of Try.func194 rfl rfl
theorem en186 : En Try.prog 186 := En.of Try.func186 rfl rfl
theorem en185 : En Try.prog 185 := En.of Try.func185 rfl rfl
theorem en170 : En Try.prog 170 := En.of Try.func170 rfl rfl
theorem fo27_0 : FO Try.prog 27 0 0 := fun w b o => by simp [Instr.fieldAt, Instr.sureAddr, fieldPlace, underlying, Try.underlying27, go_sem, Addr.add]
theorem en117 : En Try.prog 117 := En.of Try.func117 rfl rfl
theorem fo27_1 : FO Try.prog 27 1 1 := fun w b o => by simp [Instr.fieldAt, Instr.sureAddr, fieldPlace, underlying, Try.underlying27, go_sem, Addr.add]
theorem en118 : En Try.prog 118 := En.of Try.func118 rfl rfl
theorem fo27_2 : FO Try.prog 27 2 2 := fun w b o => by simp [Instr.fieldAt, Instr.sureAddr, fieldPlace, underlying, Try.underlying27, go_sem, Addr.add]
theorem en90 : En Try.prog 90 := En.of Try.func90 rfl rfl
theorem un23 : Try.prog.underlying 23 = some (.slice 2) := by kernel_rfl
theorem en91 : En Try.prog 91 := En.of Try.func91 rfl rfl
theorem en83 : En Try.prog 83 := En.of Try.func83 rfl rfl
theorem en85 : En Try.prog 85 := En.of Try.func85 rfl rfl
theorem en31 : En Try.prog 31 := En.of Try.func31 rfl rfl
theorem en121 : En Try.prog 121 := En.of Try.func121 rfl rfl
theorem en106 : En Try.prog 106 := En.of Try.func106 rfl rfl
theorem en122 : En Try.prog 122 := En.of Try.func122 rfl rfl
theorem en115 : En Try.prog 115 := En.of Try.func115 rfl rfl
theorem en156 : En Try.prog 156 := En.of Try.func156 rfl rfl
theorem en77 : En Try.prog 77 := En.of Try.func77 rfl rfl
theorem en124 : En Try.prog 124 := En.of Try.func124 rfl rfl
theorem en120 : En Try.prog 120 := En.of Try.func120 rfl rfl
theorem en76 : En Try.prog 76 := En.of Try.func76 rfl rfl
theorem en119 : En Try.prog 119 := En.of Try.func119 rfl rfl
theorem en154 : En Try.prog 154 := En.of Try.func154 rfl rfl
theorem en73 : En Try.prog 73 := En.of Try.func73 rfl rfl
theorem en168 : En Try.prog 168 := En.of Try.func168 rfl rfl
theorem en32 : En Try.prog 32 := En.of Try.func32 rfl rfl
theorem en123 : En Try.prog 123 := En.of Try.func123 rfl rfl
theorem en116 : En Try.prog 116 := En.of Try.func116 rfl rfl
theorem en37 : En Try.prog 37 := En.of Try.func37 rfl rfl
theorem en167 : En Try.prog 167 := En.of Try.func167 rfl rfl
theorem en110 : En Try.prog 110 := En.of Try.func110 rfl rfl
theorem en111 : En Try.prog 111 := En.of Try.func111 rfl rfl
theorem en80 : En Try.prog 80 := En.of Try.func80 rfl rfl
theorem en184 : En Try.prog 184 := En.of Try.func184 rfl rfl
theorem en75 : En Try.prog 75 := En.of Try.func75 rfl rfl
theorem en169 : En Try.prog 169 := En.of Try.func169 rfl rfl
theorem en112 : En Try.prog 112 := En.of Try.func112 rfl rfl
theorem en113 : En Try.prog 113 := En.of Try.func113 rfl rfl
theorem un3 : Try.prog.underlying 3 = some (.int .i64) := by kernel_rfl
theorem un48 : Try.prog.underlying 48 = some (.int .u64) := by kernel_rfl
theorem ti119 : TI Try.prog 119 [.slice none 0 0, .int .i64 0, .int .u64 0] 40 := TI.of (z := .agg #[.slice none 0 0, .int .i64 0, .int .u64 0]) (by kernel_rfl) rfl rfl
theorem fo119_2 : FO Try.prog 119 2 2 := fun w b o => by simp [Instr.fieldAt, Instr.sureAddr, fieldPlace, underlying, Try.underlying119, go_sem, Addr.add]
theorem ag48 : AG Try.prog 48 false := fun w => by simp [isAgg, underlying, Try.underlying48, go_sem]
theorem ti48 : TI Try.prog 48 [.int .u64 0] 8 := TI.of (z := .int .u64 0) (by kernel_rfl) rfl rfl
theorem fo119_1 : FO Try.prog 119 1 1 := fun w b o => by simp [Instr.fieldAt, Instr.sureAddr, fieldPlace, underlying, Try.underlying119, go_sem, Addr.add]
theorem fo119_0 : FO Try.prog 119 0 0 := fun w b o => by simp [Instr.fieldAt, Instr.sureAddr, fieldPlace, underlying, Try.underlying119, go_sem, Addr.add]
theorem en17 : En Try.prog 17 := En.of Try.func17 rfl rfl
theorem en35 : En Try.prog 35 := En.of Try.func35 rfl rfl
theorem en36 : En Try.prog 36 := En.of Try.func36 rfl rfl
theorem en38 : En Try.prog 38 := En.of Try.func38 rfl rfl
theorem en39 : En Try.prog 39 := En.of Try.func39 rfl rfl
theorem en40 : En Try.prog 40 := En.of Try.func40 rfl rfl
theorem en30 : En Try.prog 30 := En.of Try.func30 rfl rfl
theorem en33 : En Try.prog 33 := En.of Try.func33 rfl rfl
theorem en34 : En Try.prog 34 := En.of Try.func34 rfl rfl

end Go.Proofs.Ytgkgimglgjfcjaa
