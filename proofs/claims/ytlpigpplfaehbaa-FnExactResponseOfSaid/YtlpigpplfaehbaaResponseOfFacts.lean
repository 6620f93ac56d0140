/- The facts of the program that the proofs take. -/
import Derived.Test.YtlpigpplfaehbaaResponseOfModels
import Derived.Test.YtlpigpplfaehbaaRows
namespace Go.Proofs.Ytlpigpplfaehbaa
open Go.RowKit



theorem el36 : EL Try.prog 36 2 := Try.underlying36
theorem el35 : EL Try.prog 35 36 := Try.underlying35
theorem ti36 : TI Try.prog 36 [.slice none 0 0] 24 := TI.of (z := .slice none 0 0) (by kernel_rfl) rfl rfl
theorem ag36 : AG Try.prog 36 false := fun w => by simp [isAgg, underlying, Try.underlying36, go_sem]
theorem en79 : En Try.prog 79 := En.of Try.func79 rfl rfl
theorem fo38_0 : FO Try.prog 38 0 0 := fun w b o => by simp [Instr.fieldAt, Instr.sureAddr, fieldPlace, underlying, Try.underlying38, go_sem, Addr.add]
theorem ag35 : AG Try.prog 35 false := fun w => by simp [isAgg, underlying, Try.underlying35, go_sem]
theorem en78 : En Try.prog 78 := En.of Try.func78 rfl rfl
theorem fo38_1 : FO Try.prog 38 1 1 := fun w b o => by simp [Instr.fieldAt, Instr.sureAddr, fieldPlace, underlying, Try.underlying38, go_sem, Addr.add]
theorem fo38_2 : FO Try.prog 38 2 2 := fun w b o => by simp [Instr.fieldAt, Instr.sureAddr, fieldPlace, underlying, Try.underlying38, go_sem, Addr.add]
theorem ti2 : TI Try.prog 2 [.int .i64 0] 8 := TI.of (z := .int .i64 0) (by kernel_rfl) rfl rfl
theorem ag2 : AG Try.prog 2 false := fun w => by simp [isAgg, underlying, Try.underlying2, go_sem]
theorem en36 : En Try.prog 36 := En.of Try.func36 rfl rfl
theorem ti42 : TI Try.prog 42 [.slice none 0 0, .slice none 0 0, .slice none 0 0] 72 := TI.of (z := .agg #[.slice none 0 0, .slice none 0 0, .slice none 0 0]) (by kernel_rfl) rfl rfl
theorem en82 : En Try.prog 82 := En.of Try.func82 rfl rfl
theorem fo42_0 : FO Try.prog 42 0 0 := fun w b o => by simp [Instr.fieldAt, Instr.sureAddr, fieldPlace, underlying, Try.underlying42, go_sem, Addr.add]
theorem ti35 : TI Try.prog 35 [.slice none 0 0] 24 := TI.of (z := .slice none 0 0) (by kernel_rfl) rfl rfl
theorem fo42_1 : FO Try.prog 42 1 1 := fun w b o => by simp [Instr.fieldAt, Instr.sureAddr, fieldPlace, underlying, Try.underlying42, go_sem, Addr.add]
theorem fo42_2 : FO Try.prog 42 2 2 := fun w b o => by simp [Instr.fieldAt, Instr.sureAddr, fieldPlace, underlying, Try.underlying42, go_sem, Addr.add]
theorem ag42 : AG Try.prog 42 true := fun w => by simp [isAgg, underlying, Try.underlying42, go_sem]
theorem en72 : En Try.prog 72 := En.of Try.func72 rfl rfl
theorem en159 : En Try.prog 159 := En.of Try.func159 rfl rfl
theorem en122 : En Try.prog 122 := En.of Try.func122 rfl rfl
theorem en110 : En Try.prog 110 := En.of Try.func110 rfl rfl
theorem en89 : En Try.prog 89 := En.of Try.func89 rfl rfl
theorem en103 : En Try.prog 103 := En.of Try.func103 rfl rfl
theorem en137 : En Try.prog 137 := En.of Try.func137 rfl rfl
theorem en141 : En Try.prog 141 := En.of Try.func141 rfl rfl
theorem en109 : En Try.prog 109 := En.of Try.func109 rfl rfl
theorem en88 : En Try.prog 88 := En.of Try.func88 rfl rfl
theorem en80 : En Try.prog 80 := En.of Try.func80 rfl rfl
theorem en81 : En Try.prog 81 := En.of Try.func81 rfl rfl
theorem en165 : En Try.prog 165 := En.of Try.func165 rfl rfl
theorem en75 : En Try.prog 75 := En.of Try.func75 rfl rfl
theorem en161 : En Try.prog 161 := En.of Try.func161 rfl rfl
theorem en125 : En Try.prog 125 := En.of Try.func125 rfl rfl
theorem en143 : En Try.prog 143 := En.of Try.func143 rfl rfl
theorem en142 : En Try.prog 142 := En.of Try.func142 rfl rfl
theorem en94 : En Try.prog 94 := En.of Try.func94 rfl rfl
theorem en167 : En Try.prog 167 := En.of Try.func167 rfl rfl
theorem en171 : En Try.prog 171 := En.of Try.func171 rfl rfl
theorem en150 : En Try.prog 150 := En.of Try.func150 rfl rfl
theorem en164 : En Try.prog 164 := En.of Try.func164 rfl rfl
theorem en138 : En Try.prog 138 := En.of Try.func138 rfl rfl
theorem en139 : En Try.prog 139 := En.of Try.func139 rfl rfl
theorem un36 : Try.prog.underlying 36 = some (.slice 2) := by kernel_rfl
theorem en127 : En Try.prog 127 := En.of Try.func127 rfl rfl
theorem en92 : En Try.prog 92 := En.of Try.func92 rfl rfl
theorem en93 : En Try.prog 93 := En.of Try.func93 rfl rfl
theorem en112 : En Try.prog 112 := En.of Try.func112 rfl rfl
theorem en83 : En Try.prog 83 := En.of Try.func83 rfl rfl
theorem en84 : En Try.prog 84 := En.of Try.func84 rfl rfl
theorem en28 : En Try.prog 28 := En.of Try.func28 rfl rfl
theorem en45 : En Try.prog 45 := En.of Try.func45 rfl rfl
theorem en31 : En Try.prog 31 := En.of Try.func31 rfl rfl
theorem en46 : En Try.prog 46 := En.of Try.func46 rfl rfl
theorem ag38 : AG Try.prog 38 true := fun w => by simp [isAgg, underlying, Try.underlying38, go_sem]
theorem ti38 : TI Try.prog 38 [.slice none 0 0, .slice none 0 0, .slice none 0 0] 72 := TI.of (z := .agg #[.slice none 0 0, .slice none 0 0, .slice none 0 0]) (by kernel_rfl) rfl rfl
theorem en24 : En Try.prog 24 := En.of Try.func24 rfl rfl
theorem en26 : En Try.prog 26 := En.of Try.func26 rfl rfl
theorem en25 : En Try.prog 25 := En.of Try.func25 rfl rfl
theorem en27 : En Try.prog 27 := En.of Try.func27 rfl rfl
theorem en29 : En Try.prog 29 := En.of Try.func29 rfl rfl
theorem en30 : En Try.prog 30 := En.of Try.func30 rfl rfl
theorem en32 : En Try.prog 32 := En.of Try.func32 rfl rfl

end Go.Proofs.Ytlpigpplfaehbaa
