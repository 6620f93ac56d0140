/- The facts of the program that the proofs take. -/
import Derived.Test.YtmijmamolmoheaaPositiveCycleModels
import Derived.Test.YtmijmamolmoheaaRows
namespace Go.Proofs.Ytmijmamolmoheaa
open Go.RowKit

theorem el36 : EL Try.prog 36 2 := Try.underlying36
theorem el34 : EL Try.prog 34 36 := Try.underlying34
theorem ti36 : TI Try.prog 36 [.slice none 0 0] 24 := TI.of (z := .slice none 0 0) (by kernel_rfl) rfl rfl
theorem ag36 : AG Try.prog 36 false := fun w => by simp [isAgg, underlying, Try.underlying36, go_sem]
theorem en79 : En Try.prog 79 := En.of Try.func79 rfl rfl
theorem ti2 : TI Try.prog 2 [.int .i64 0] 8 := TI.of (z := .int .i64 0) (by kernel_rfl) rfl rfl
theorem ag2 : AG Try.prog 2 false := fun w => by simp [isAgg, underlying, Try.underlying2, go_sem]
theorem en51 : En Try.prog 51 := En.of Try.func51 rfl rfl
theorem en119 : En Try.prog 119 := En.of Try.func119 rfl rfl
theorem en140 : En Try.prog 140 := En.of Try.func140 rfl rfl
theorem en186 : En Try.prog 186 := En.of Try.func186 rfl rfl
theorem en178 : En Try.prog 178 := En.of Try.func178 rfl rfl
theorem en163 : En Try.prog 163 := En.of Try.func163 rfl rfl
theorem en130 : En Try.prog 130 := En.of Try.func130 rfl rfl
theorem en164 : En Try.prog 164 := En.of Try.func164 rfl rfl
theorem en160 : En Try.prog 160 := En.of Try.func160 rfl rfl
theorem en131 : En Try.prog 131 := En.of Try.func131 rfl rfl
theorem en80 : En Try.prog 80 := En.of Try.func80 rfl rfl
theorem en81 : En Try.prog 81 := En.of Try.func81 rfl rfl
theorem en189 : En Try.prog 189 := En.of Try.func189 rfl rfl
theorem en123 : En Try.prog 123 := En.of Try.func123 rfl rfl
theorem en144 : En Try.prog 144 := En.of Try.func144 rfl rfl
theorem en185 : En Try.prog 185 := En.of Try.func185 rfl rfl
theorem en184 : En Try.prog 184 := En.of Try.func184 rfl rfl
theorem en183 : En Try.prog 183 := En.of Try.func183 rfl rfl
theorem ag34 : AG Try.prog 34 false := fun w => by simp [isAgg, underlying, Try.underlying34, go_sem]
theorem en167 : En Try.prog 167 := En.of Try.func167 rfl rfl
theorem en182 : En Try.prog 182 := En.of Try.func182 rfl rfl
theorem en166 : En Try.prog 166 := En.of Try.func166 rfl rfl
theorem en165 : En Try.prog 165 := En.of Try.func165 rfl rfl
theorem en132 : En Try.prog 132 := En.of Try.func132 rfl rfl
theorem en170 : En Try.prog 170 := En.of Try.func170 rfl rfl
theorem en168 : En Try.prog 168 := En.of Try.func168 rfl rfl
theorem en169 : En Try.prog 169 := En.of Try.func169 rfl rfl
theorem en134 : En Try.prog 134 := En.of Try.func134 rfl rfl
theorem en133 : En Try.prog 133 := En.of Try.func133 rfl rfl
theorem en135 : En Try.prog 135 := En.of Try.func135 rfl rfl
theorem fo146_2 : FO Try.prog 146 2 2 := fun w b o => by simp [Instr.fieldAt, Instr.sureAddr, fieldPlace, underlying, Try.underlying146, go_sem, Addr.add]
theorem fo146_0 : FO Try.prog 146 0 0 := fun w b o => by simp [Instr.fieldAt, Instr.sureAddr, fieldPlace, underlying, Try.underlying146, go_sem, Addr.add]
theorem fo146_1 : FO Try.prog 146 1 1 := fun w b o => by simp [Instr.fieldAt, Instr.sureAddr, fieldPlace, underlying, Try.underlying146, go_sem, Addr.add]
theorem ag94 : AG Try.prog 94 false := fun w => by simp [isAgg, underlying, Try.underlying94, go_sem]
theorem fo146_3 : FO Try.prog 146 3 3 := fun w b o => by simp [Instr.fieldAt, Instr.sureAddr, fieldPlace, underlying, Try.underlying146, go_sem, Addr.add]
theorem ag144 : AG Try.prog 144 false := fun w => by simp [isAgg, underlying, Try.underlying144, go_sem]
theorem el144 : EL Try.prog 144 4 := Try.underlying144
theorem ti4 : TI Try.prog 4 [.bool false] 1 := TI.of (z := .bool false) (by kernel_rfl) rfl rfl
theorem ag4 : AG Try.prog 4 false := fun w => by simp [isAgg, underlying, Try.underlying4, go_sem]
theorem en136 : En Try.prog 136 := En.of Try.func136 rfl rfl
theorem ti146 : TI Try.prog 146 [.slice none 0 0, .nilFunc, .slice none 0 0, .slice none 0 0] 80 := TI.of (z := .agg #[.slice none 0 0, .nilFunc, .slice none 0 0, .slice none 0 0]) (by kernel_rfl) rfl rfl
theorem en82 : En Try.prog 82 := En.of Try.func82 rfl rfl
theorem en83 : En Try.prog 83 := En.of Try.func83 rfl rfl
theorem en85 : En Try.prog 85 := En.of Try.func85 rfl rfl
theorem en84 : En Try.prog 84 := En.of Try.func84 rfl rfl
theorem en25 : En Try.prog 25 := En.of Try.func25 rfl rfl
theorem en28 : En Try.prog 28 := En.of Try.func28 rfl rfl
theorem en21 : En Try.prog 21 := En.of Try.func21 rfl rfl
theorem en23 : En Try.prog 23 := En.of Try.func23 rfl rfl
theorem en22 : En Try.prog 22 := En.of Try.func22 rfl rfl
theorem en24 : En Try.prog 24 := En.of Try.func24 rfl rfl
theorem en26 : En Try.prog 26 := En.of Try.func26 rfl rfl
theorem en27 : En Try.prog 27 := En.of Try.func27 rfl rfl
theorem en29 : En Try.prog 29 := En.of Try.func29 rfl rfl

end Go.Proofs.Ytmijmamolmoheaa
