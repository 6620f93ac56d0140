/- The facts of the program that the proofs take. -/
import Derived.Test.YtebmlphobgaboaaHighestWordModels
import Derived.Test.YtebmlphobgaboaaLiftP
import Derived.Test.YtebmlphobgaboaaRows
namespace Go.Proofs.Ytebmlphobgaboaa
open Go.RowKit

theorem el23 : EL Try.prog 23 2 := Try.underlying23
theorem el59 : EL Try.prog 59 23 := Try.underlying59
theorem ti23 : TI Try.prog 23 [.slice none 0 0] 24 := TI.of (z := .slice none 0 0) (by kernel_rfl) rfl rfl
theorem ag23 : AG Try.prog 23 false := fun w => by simp [isAgg, underlying, Try.underlying23, go_sem]
theorem en108 : En Try.prog 108 := En.of Try.func108 rfl rfl
theorem el22 : EL Try.prog 22 59 := Try.underlying22
theorem ti59 : TI Try.prog 59 [.slice none 0 0] 24 := TI.of (z := .slice none 0 0) (by kernel_rfl) rfl rfl
theorem ag59 : AG Try.prog 59 false := fun w => by simp [isAgg, underlying, Try.underlying59, go_sem]
theorem en56 : En Try.prog 56 := En.of Try.func56 rfl rfl
theorem ti2 : TI Try.prog 2 [.int .i64 0] 8 := TI.of (z := .int .i64 0) (by kernel_rfl) rfl rfl
theorem ag2 : AG Try.prog 2 false := fun w => by simp [isAgg, underlying, Try.underlying2, go_sem]
theorem en12 : En Try.prog 12 := En.of Try.func12 rfl rfl
theorem en58 : En Try.prog 58 := En.of Try.func58 rfl rfl
theorem en89 : En Try.prog 89 := En.of Try.func89 rfl rfl
theorem en115 : En Try.prog 115 := En.of Try.func115 rfl rfl
theorem en194 : En Try.prog 194 := En.of Try.func194 rfl rfl
theorem en159 : En Try.prog 159 := En.of Try.func159 rfl rfl
theorem en156 : En Try.prog 156 := En.of Try.func156 rfl rfl
theorem en166 : En Try.prog 166 := En.of Try.func166 rfl rfl
theorem en121 : En Try.prog 121 := En.of Try.func121 rfl rfl
theorem en155 : En Try.prog 155 := En.of Try.func155 rfl rfl
theorem en146 : En Try.prog 146 := En.of Try.func146 rfl rfl
theorem en138 : En Try.prog 138 := En.of Try.func138 rfl rfl
theorem en65 : En Try.prog 65 := En.of Try.func65 rfl rfl
theorem en157 : En Try.prog 157 := En.of Try.func157 rfl rfl
theorem en109 : En Try.prog 109 := En.of Try.func109 rfl rfl
theorem en158 : En Try.prog 158 := En.of Try.func158 rfl rfl
theorem en110 : En Try.prog 110 := En.of Try.func110 rfl rfl
theorem en111 : En Try.prog 111 := En.of Try.func111 rfl rfl
theorem en112 : En Try.prog 112 := En.of Try.func112 rfl rfl
theorem en57 : En Try.prog 57 := En.of Try.func57 rfl rfl
theorem en202 : En Try.prog 202 := En.of Try.func202 rfl rfl
theorem en85 : En Try.prog 85 := En.of Try.func85 rfl rfl
theorem en125 : En Try.prog 125 := En.of Try.func125 rfl rfl
theorem en199 : En Try.prog 199 := En.of Try.func199 rfl rfl
theorem en198 : En Try.prog 198 := En.of Try.func198 rfl rfl
theorem en176 : En Try.prog 176 := En.of Try.func176 rfl rfl
theorem en163 : En Try.prog 163 := En.of Try.func163 rfl rfl
theorem en209 : En Try.prog 209 := En.of Try.func209 rfl rfl
theorem en215 : En Try.prog 215 := En.of Try.func215 rfl rfl
theorem en189 : En Try.prog 189 := En.of Try.func189 rfl rfl
theorem en212 : En Try.prog 212 := En.of Try.func212 rfl rfl
theorem en197 : En Try.prog 197 := En.of Try.func197 rfl rfl
theorem ag22 : AG Try.prog 22 false := fun w => by simp [isAgg, underlying, Try.underlying22, go_sem]
theorem en211 : En Try.prog 211 := En.of Try.func211 rfl rfl
theorem en196 : En Try.prog 196 := En.of Try.func196 rfl rfl
theorem en195 : En Try.prog 195 := En.of Try.func195 rfl rfl
theorem en160 : En Try.prog 160 := En.of Try.func160 rfl rfl
theorem en161 : En Try.prog 161 := En.of Try.func161 rfl rfl
theorem un23 : Try.prog.underlying 23 = some (.slice 2) := by kernel_rfl
theorem en129 : En Try.prog 129 := En.of Try.func129 rfl rfl
theorem en162 : En Try.prog 162 := En.of Try.func162 rfl rfl
theorem fo133_5 : FO Try.prog 133 5 5 := fun w b o => by simp [Instr.fieldAt, Instr.sureAddr, fieldPlace, underlying, Try.underlying133, go_sem, Addr.add]
theorem ag4 : AG Try.prog 4 false := fun w => by simp [isAgg, underlying, Try.underlying4, go_sem]
theorem fo133_1 : FO Try.prog 133 1 1 := fun w b o => by simp [Instr.fieldAt, Instr.sureAddr, fieldPlace, underlying, Try.underlying133, go_sem, Addr.add]
theorem fo133_4 : FO Try.prog 133 4 4 := fun w b o => by simp [Instr.fieldAt, Instr.sureAddr, fieldPlace, underlying, Try.underlying133, go_sem, Addr.add]
theorem fo133_2 : FO Try.prog 133 2 2 := fun w b o => by simp [Instr.fieldAt, Instr.sureAddr, fieldPlace, underlying, Try.underlying133, go_sem, Addr.add]
theorem en153 : En Try.prog 153 := En.of Try.func153 rfl rfl
theorem fo133_3 : FO Try.prog 133 3 3 := fun w b o => by simp [Instr.fieldAt, Instr.sureAddr, fieldPlace, underlying, Try.underlying133, go_sem, Addr.add]
theorem ti4 : TI Try.prog 4 [.bool false] 1 := TI.of (z := .bool false) (by kernel_rfl) rfl rfl
theorem fo133_0 : FO Try.prog 133 0 0 := fun w b o => by simp [Instr.fieldAt, Instr.sureAddr, fieldPlace, underlying, Try.underlying133, go_sem, Addr.add]
theorem en130 : En Try.prog 130 := En.of Try.func130 rfl rfl
theorem en114 : En Try.prog 114 := En.of Try.func114 rfl rfl
theorem en113 : En Try.prog 113 := En.of Try.func113 rfl rfl
theorem ti133 : TI Try.prog 133 [.slice none 0 0, .int .i64 0, .slice none 0 0, .slice none 0 0, .int .i64 0, .bool false] 96 := TI.of (z := .agg #[.slice none 0 0, .int .i64 0, .slice none 0 0, .slice none 0 0, .int .i64 0, .bool false]) (by kernel_rfl) rfl rfl
theorem en59 : En Try.prog 59 := En.of Try.func59 rfl rfl
theorem en14 : En Try.prog 14 := En.of Try.func14 rfl rfl
theorem en60 : En Try.prog 60 := En.of Try.func60 rfl rfl
theorem en17 : En Try.prog 17 := En.of Try.func17 rfl rfl
theorem en61 : En Try.prog 61 := En.of Try.func61 rfl rfl
theorem en9 : En Try.prog 9 := En.of Try.func9 rfl rfl
theorem en11 : En Try.prog 11 := En.of Try.func11 rfl rfl
theorem en10 : En Try.prog 10 := En.of Try.func10 rfl rfl
theorem en13 : En Try.prog 13 := En.of Try.func13 rfl rfl
theorem en15 : En Try.prog 15 := En.of Try.func15 rfl rfl
theorem en16 : En Try.prog 16 := En.of Try.func16 rfl rfl
theorem en18 : En Try.prog 18 := En.of Try.func18 rfl rfl

end Go.Proofs.Ytebmlphobgaboaa
