/- The facts of the program that the proofs take. -/
import Derived.Test.YtcpfhonmmpbadaaStateAfterModels
import Derived.Test.YtcpfhonmmpbadaaRows
namespace Go.Proofs.Ytcpfhonmmpbadaa
open Go.RowKit



theorem el23 : EL Try.prog 23 2 := Try.underlying23
theorem el22 : EL Try.prog 22 23 := Try.underlying22
theorem ti23 : TI Try.prog 23 [.slice none 0 0] 24 := TI.of (z := .slice none 0 0) (by kernel_rfl) rfl rfl
theorem ag23 : AG Try.prog 23 false := fun w => by simp [isAgg, underlying, Try.underlying23, go_sem]
theorem en61 : En Try.prog 61 := En.of Try.func61 rfl rfl
theorem fo25_0 : FO Try.prog 25 0 0 := fun w b o => by simp [Instr.fieldAt, Instr.sureAddr, fieldPlace, underlying, Try.underlying25, go_sem, Addr.add]
theorem ag22 : AG Try.prog 22 false := fun w => by simp [isAgg, underlying, Try.underlying22, go_sem]
theorem en60 : En Try.prog 60 := En.of Try.func60 rfl rfl
theorem fo25_1 : FO Try.prog 25 1 1 := fun w b o => by simp [Instr.fieldAt, Instr.sureAddr, fieldPlace, underlying, Try.underlying25, go_sem, Addr.add]
theorem fo25_2 : FO Try.prog 25 2 2 := fun w b o => by simp [Instr.fieldAt, Instr.sureAddr, fieldPlace, underlying, Try.underlying25, go_sem, Addr.add]
theorem ti2 : TI Try.prog 2 [.int .i64 0] 8 := TI.of (z := .int .i64 0) (by kernel_rfl) rfl rfl
theorem ag2 : AG Try.prog 2 false := fun w => by simp [isAgg, underlying, Try.underlying2, go_sem]
theorem en18 : En Try.prog 18 := En.of Try.func18 rfl rfl
theorem ti29 : TI Try.prog 29 [.slice none 0 0, .slice none 0 0, .slice none 0 0] 72 := TI.of (z := .agg #[.slice none 0 0, .slice none 0 0, .slice none 0 0]) (by kernel_rfl) rfl rfl
theorem en67 : En Try.prog 67 := En.of Try.func67 rfl rfl
theorem fo29_0 : FO Try.prog 29 0 0 := fun w b o => by simp [Instr.fieldAt, Instr.sureAddr, fieldPlace, underlying, Try.underlying29, go_sem, Addr.add]
theorem ti22 : TI Try.prog 22 [.slice none 0 0] 24 := TI.of (z := .slice none 0 0) (by kernel_rfl) rfl rfl
theorem fo29_1 : FO Try.prog 29 1 1 := fun w b o => by simp [Instr.fieldAt, Instr.sureAddr, fieldPlace, underlying, Try.underlying29, go_sem, Addr.add]
theorem fo29_2 : FO Try.prog 29 2 2 := fun w b o => by simp [Instr.fieldAt, Instr.sureAddr, fieldPlace, underlying, Try.underlying29, go_sem, Addr.add]
theorem ag29 : AG Try.prog 29 true := fun w => by simp [isAgg, underlying, Try.underlying29, go_sem]
theorem en95 : En Try.prog 95 := En.of Try.func95 rfl rfl
theorem en155 : En Try.prog 155 := En.of Try.func155 rfl rfl
theorem en106 : En Try.prog 106 := En.of Try.func106 rfl rfl
theorem en66 : En Try.prog 66 := En.of Try.func66 rfl rfl
theorem en81 : En Try.prog 81 := En.of Try.func81 rfl rfl
theorem en90 : En Try.prog 90 := En.of Try.func90 rfl rfl
theorem en134 : En Try.prog 134 := En.of Try.func134 rfl rfl
theorem en62 : En Try.prog 62 := En.of Try.func62 rfl rfl
theorem en63 : En Try.prog 63 := En.of Try.func63 rfl rfl
theorem en135 : En Try.prog 135 := En.of Try.func135 rfl rfl
theorem en77 : En Try.prog 77 := En.of Try.func77 rfl rfl
theorem en149 : En Try.prog 149 := En.of Try.func149 rfl rfl
theorem en80 : En Try.prog 80 := En.of Try.func80 rfl rfl
theorem en105 : En Try.prog 105 := En.of Try.func105 rfl rfl
theorem en138 : En Try.prog 138 := En.of Try.func138 rfl rfl
theorem en64 : En Try.prog 64 := En.of Try.func64 rfl rfl
theorem en73 : En Try.prog 73 := En.of Try.func73 rfl rfl
theorem en74 : En Try.prog 74 := En.of Try.func74 rfl rfl
theorem en168 : En Try.prog 168 := En.of Try.func168 rfl rfl
theorem en97 : En Try.prog 97 := En.of Try.func97 rfl rfl
theorem en157 : En Try.prog 157 := En.of Try.func157 rfl rfl
theorem en109 : En Try.prog 109 := En.of Try.func109 rfl rfl
theorem en142 : En Try.prog 142 := En.of Try.func142 rfl rfl
theorem en141 : En Try.prog 141 := En.of Try.func141 rfl rfl
theorem en86 : En Try.prog 86 := En.of Try.func86 rfl rfl
theorem en170 : En Try.prog 170 := En.of Try.func170 rfl rfl
theorem en175 : En Try.prog 175 := En.of Try.func175 rfl rfl
theorem en146 : En Try.prog 146 := En.of Try.func146 rfl rfl
theorem en167 : En Try.prog 167 := En.of Try.func167 rfl rfl
theorem en136 : En Try.prog 136 := En.of Try.func136 rfl rfl
theorem en137 : En Try.prog 137 := En.of Try.func137 rfl rfl
theorem en68 : En Try.prog 68 := En.of Try.func68 rfl rfl
theorem un23 : Try.prog.underlying 23 = some (.slice 2) := by kernel_rfl
theorem en111 : En Try.prog 111 := En.of Try.func111 rfl rfl
theorem en84 : En Try.prog 84 := En.of Try.func84 rfl rfl
theorem en85 : En Try.prog 85 := En.of Try.func85 rfl rfl
theorem en139 : En Try.prog 139 := En.of Try.func139 rfl rfl
theorem en70 : En Try.prog 70 := En.of Try.func70 rfl rfl
theorem en75 : En Try.prog 75 := En.of Try.func75 rfl rfl
theorem en76 : En Try.prog 76 := En.of Try.func76 rfl rfl
theorem en20 : En Try.prog 20 := En.of Try.func20 rfl rfl
theorem en39 : En Try.prog 39 := En.of Try.func39 rfl rfl
theorem en23 : En Try.prog 23 := En.of Try.func23 rfl rfl
theorem en40 : En Try.prog 40 := En.of Try.func40 rfl rfl
theorem ag25 : AG Try.prog 25 true := fun w => by simp [isAgg, underlying, Try.underlying25, go_sem]
theorem ti25 : TI Try.prog 25 [.slice none 0 0, .slice none 0 0, .slice none 0 0] 72 := TI.of (z := .agg #[.slice none 0 0, .slice none 0 0, .slice none 0 0]) (by kernel_rfl) rfl rfl
theorem en15 : En Try.prog 15 := En.of Try.func15 rfl rfl
theorem en17 : En Try.prog 17 := En.of Try.func17 rfl rfl
theorem en29 : En Try.prog 29 := En.of Try.func29 rfl rfl
theorem en30 : En Try.prog 30 := En.of Try.func30 rfl rfl
theorem en21 : En Try.prog 21 := En.of Try.func21 rfl rfl
theorem en22 : En Try.prog 22 := En.of Try.func22 rfl rfl
theorem en24 : En Try.prog 24 := En.of Try.func24 rfl rfl

end Go.Proofs.Ytcpfhonmmpbadaa
