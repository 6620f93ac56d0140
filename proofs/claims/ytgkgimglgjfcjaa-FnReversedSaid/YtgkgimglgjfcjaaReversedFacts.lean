/- The facts of the program that the proofs take. -/
import Derived.Test.YtgkgimglgjfcjaaReversedModels
import Derived.Test.YtgkgimglgjfcjaaLiftY
import Derived.Test.YtgkgimglgjfcjaaLiftP
import Derived.Test.YtgkgimglgjfcjaaRows
namespace Go.Proofs.Ytgkgimglgjfcjaa
open Go.RowKit

def GPlace.cells (x : GPlace) : List Value := [.int .i64 x.From, .int .i64 x.To, .int .i64 x.Delay, .int .i64 x.Tokens]
theorem GPlace.len (x : GPlace) : (GPlace.cells x).length = 4 := rfl
theorem GPlace.one (x : GPlace) : ∀ u ∈ GPlace.cells x, u.oneCell' = true := fun u hu => List.all_eq_true.1 (show (GPlace.cells x).all Value.oneCell' = true from rfl) u hu


def GRatio.cells (x : GRatio) : List Value := [.int .i64 x.Num, .int .i64 x.Den]
theorem GRatio.len (x : GRatio) : (GRatio.cells x).length = 2 := rfl
theorem GRatio.one (x : GRatio) : ∀ u ∈ GRatio.cells x, u.oneCell' = true := fun u hu => List.all_eq_true.1 (show (GRatio.cells x).all Value.oneCell' = true from rfl) u hu

theorem el34 : EL Try.prog 34 5 := Try.underlying34
theorem ti145 : TI Try.prog 145 [.slice none 0 0, .int .i64 0, .int .i64 0] 40 := TI.of (z := .agg #[.slice none 0 0, .int .i64 0, .int .i64 0]) (by kernel_rfl) rfl rfl
theorem fo145_2 : FO Try.prog 145 2 2 := fun w b o => by simp [Instr.fieldAt, Instr.sureAddr, fieldPlace, underlying, Try.underlying145, go_sem, Addr.add]
theorem ag2 : AG Try.prog 2 false := fun w => by simp [isAgg, underlying, Try.underlying2, go_sem]
theorem ti5 : TI Try.prog 5 [.int .u8 0] 1 := TI.of (z := .int .u8 0) (by kernel_rfl) rfl rfl
theorem ag5 : AG Try.prog 5 false := fun w => by simp [isAgg, underlying, Try.underlying5, go_sem]
theorem un5 : Try.prog.underlying 5 = some (.int .u8) := by kernel_rfl
theorem un2 : Try.prog.underlying 2 = some (.int .i64) := by kernel_rfl
theorem ti2 : TI Try.prog 2 [.int .i64 0] 8 := TI.of (z := .int .i64 0) (by kernel_rfl) rfl rfl
theorem fo145_1 : FO Try.prog 145 1 1 := fun w b o => by simp [Instr.fieldAt, Instr.sureAddr, fieldPlace, underlying, Try.underlying145, go_sem, Addr.add]
theorem ag3 : AG Try.prog 3 false := fun w => by simp [isAgg, underlying, Try.underlying3, go_sem]
theorem fo145_0 : FO Try.prog 145 0 0 := fun w b o => by simp [Instr.fieldAt, Instr.sureAddr, fieldPlace, underlying, Try.underlying145, go_sem, Addr.add]
theorem ag34 : AG Try.prog 34 false := fun w => by simp [isAgg, underlying, Try.underlying34, go_sem]
theorem ti3 : TI Try.prog 3 [.int .i64 0] 8 := TI.of (z := .int .i64 0) (by kernel_rfl) rfl rfl
theorem el23 : EL Try.prog 23 2 := Try.underlying23
theorem en107 : En Try.prog 107 := En.of Try.func107 rfl rfl
theorem ti59 : TI Try.prog 59 [.int .i64 0, .slice none 0 0] 32 := TI.of (z := .agg #[.int .i64 0, .slice none 0 0]) (by kernel_rfl) rfl rfl
theorem el57 : EL Try.prog 57 127 := Try.underlying57
theorem ti127 : TI Try.prog 127 [.int .i64 0, .int .i64 0, .int .i64 0, .int .i64 0] 32 := TI.of (z := .agg #[.int .i64 0, .int .i64 0, .int .i64 0, .int .i64 0]) (by kernel_rfl) rfl rfl
theorem fo59_0 : FO Try.prog 59 0 0 := fun w b o => by simp [Instr.fieldAt, Instr.sureAddr, fieldPlace, underlying, Try.underlying59, go_sem, Addr.add]
theorem fo127_0 : FO Try.prog 127 0 0 := fun w b o => by simp [Instr.fieldAt, Instr.sureAddr, fieldPlace, underlying, Try.underlying127, go_sem, Addr.add]
theorem fo127_1 : FO Try.prog 127 1 1 := fun w b o => by simp [Instr.fieldAt, Instr.sureAddr, fieldPlace, underlying, Try.underlying127, go_sem, Addr.add]
theorem fo127_3 : FO Try.prog 127 3 3 := fun w b o => by simp [Instr.fieldAt, Instr.sureAddr, fieldPlace, underlying, Try.underlying127, go_sem, Addr.add]
theorem fo59_1 : FO Try.prog 59 1 1 := fun w b o => by simp [Instr.fieldAt, Instr.sureAddr, fieldPlace, underlying, Try.underlying59, go_sem, Addr.add]
theorem ag57 : AG Try.prog 57 false := fun w => by simp [isAgg, underlying, Try.underlying57, go_sem]
theorem ag127 : AG Try.prog 127 true := fun w => by simp [isAgg, underlying, Try.underlying127, go_sem]
theorem ti57 : TI Try.prog 57 [.slice none 0 0] 24 := TI.of (z := .slice none 0 0) (by kernel_rfl) rfl rfl
theorem en114 : En Try.prog 114 := En.of Try.func114 rfl rfl
theorem ag59 : AG Try.prog 59 true := fun w => by simp [isAgg, underlying, Try.underlying59, go_sem]
theorem en101 : En Try.prog 101 := En.of Try.func101 rfl rfl
theorem en125 : En Try.prog 125 := En.of Try.func125 rfl rfl
theorem en105 : En Try.prog 105 := En.of Try.func105 rfl rfl
theorem en134 : En Try.prog 134 := En.of Try.func134 rfl rfl
theorem fo127_2 : FO Try.prog 127 2 2 := fun w b o => by simp [Instr.fieldAt, Instr.sureAddr, fieldPlace, underlying, Try.underlying127, go_sem, Addr.add]
theorem en140 : En Try.prog 140 := En.of Try.func140 rfl rfl
theorem en173 : En Try.prog 173 := En.of Try.func173 rfl rfl
theorem en139 : En Try.prog 139 := En.of Try.func139 rfl rfl
theorem en138 : En Try.prog 138 := En.of Try.func138 rfl rfl
theorem un57 : Try.prog.underlying 57 = some (.slice 127) := by kernel_rfl
theorem en171 : En Try.prog 171 := En.of Try.func171 rfl rfl
theorem en51 : En Try.prog 51 := En.of Try.func51 rfl rfl
theorem en126 : En Try.prog 126 := En.of Try.func126 rfl rfl
theorem en115 : En Try.prog 115 := En.of Try.func115 rfl rfl
theorem en172 : En Try.prog 172 := En.of Try.func172 rfl rfl
theorem en128 : En Try.prog 128 := En.of Try.func128 rfl rfl
theorem en129 : En Try.prog 129 := En.of Try.func129 rfl rfl
theorem en127 : En Try.prog 127 := En.of Try.func127 rfl rfl
theorem en130 : En Try.prog 130 := En.of Try.func130 rfl rfl
theorem en80 : En Try.prog 80 := En.of Try.func80 rfl rfl
theorem en150 : En Try.prog 150 := En.of Try.func150 rfl rfl
theorem en145 : En Try.prog 145 := En.of Try.func145 rfl rfl
theorem ag23 : AG Try.prog 23 false := fun w => by simp [isAgg, underlying, Try.underlying23, go_sem]
theorem en121 : En Try.prog 121 := En.of Try.func121 rfl rfl
theorem en151 : En Try.prog 151 := En.of Try.func151 rfl rfl
theorem en152 : En Try.prog 152 := En.of Try.func152 rfl rfl
theorem en135 : En Try.prog 135 := En.of Try.func135 rfl rfl
theorem en180 : En Try.prog 180 := En.of Try.func180 rfl rfl
theorem en153 : En Try.prog 153 := En.of Try.func153 rfl rfl
theorem en137 : En Try.prog 137 := En.of Try.func137 rfl rfl
theorem en143 : En Try.prog 143 := En.of Try.func143 rfl rfl
theorem en144 : En Try.prog 144 := En.of Try.func144 rfl rfl
theorem en147 : En Try.prog 147 := En.of Try.func147 rfl rfl
theorem en146 : En Try.prog 146 := En.of Try.func146 rfl rfl
theorem el22 : EL Try.prog 22 23 := Try.underlying22
theorem ti23 : TI Try.prog 23 [.slice none 0 0] 24 := TI.of (z := .slice none 0 0) (by kernel_rfl) rfl rfl
theorem en74 : En Try.prog 74 := En.of Try.func74 rfl rfl
theorem eqg127 : Try.prog.eqGuardType Try.prog.depth 127 = false := by kernel_rfl
theorem eqf127 (a0 a1 a2 a3 b0 b1 b2 b3 : Int) (w : World) : (Op.equalIn 10000 127 (.agg #[.int .i64 a0, .int .i64 a1, .int .i64 a2, .int .i64 a3]) (.agg #[.int .i64 b0, .int .i64 b1, .int .i64 b2, .int .i64 b3])).run Try.prog w = .ok (a0 == b0 && (a1 == b1 && (a2 == b2 && (a3 == b3)))) w := by
  have hu2 : Try.prog.underlying 2 = some (.int .i64) := by kernel_rfl
  have hs : Try.prog.stoodInHeld 127 = false := by kernel_rfl
  have e1 : ∀ (x y : Int) (w : World), (Op.equalIn 9999 2 (.int .i64 x) (.int .i64 y)).run Try.prog w = .ok (x == y) w := fun x y w => run_equalIn_int w 9998 2 .i64 .i64 x y hu2
  rw [run_equalIn_struct w 9999 127 _ _ (by simp [Program.fieldsOf, Try.underlying127]) hs]
  simp [Program.fieldsOf, Try.underlying127, Op.eqFields, part, e1, go_sem]
  by_cases h0 : a0 = b0 <;> by_cases h1 : a1 = b1 <;> by_cases h2 : a2 = b2 <;> by_cases h3 : a3 = b3 <;> simp [h0, h1, h2, h3]
theorem en187 : En Try.prog 187 := En.of Try.func187 rfl rfl
theorem en175 : En Try.prog 175 := En.of Try.func175 rfl rfl
theorem en189 : En Try.prog 189 := En.of Try.func189 rfl rfl
theorem en188 : En Try.prog 188 := En.of Try.func188 rfl rfl
theorem fo75_1 : FO Try.prog 75 1 1 := fun w b o => by simp [Instr.fieldAt, Instr.sureAddr, fieldPlace, underlying, Try.underlying75, go_sem, Addr.add]
theorem fo75_0 : FO Try.prog 75 0 0 := fun w b o => by simp [Instr.fieldAt, Instr.sureAddr, fieldPlace, underlying, Try.underlying75, go_sem, Addr.add]
theorem ag75 : AG Try.prog 75 true := fun w => by simp [isAgg, underlying, Try.underlying75, go_sem]
theorem ti75 : TI Try.prog 75 [.int .i64 0, .int .i64 0] 16 := TI.of (z := .agg #[.int .i64 0, .int .i64 0]) (by kernel_rfl) rfl rfl
theorem en190 : En Try.prog 190 := En.of Try.func190 rfl rfl
theorem en191 : En Try.prog 191 := En.of Try.func191 rfl rfl
theorem en193 : En Try.prog 193 := En.of Try.func193 rfl rfl
theorem en192 : En Try.prog 192 := En.of Try.func192 rfl rfl
theorem en174 : En Try.prog 174 := En.of Try.func174 rfl rfl
theorem en176 : En Try.prog 176 := En.of Try.func176 rfl rfl
theorem en177 : En Try.prog 177 := En.of Try.func177 rfl rfl
theorem un23 : Try.prog.underlying 23 = some (.slice 2) := by kernel_rfl
theorem en179 : En Try.prog 179 := En.of Try.func179 rfl rfl
theorem en178 : En Try.prog 178 := En.of Try.func178 rfl rfl
theorem en149 : En Try.prog 149 := En.of Try.func149 rfl rfl
theorem en17 : En Try.prog 17 := En.of Try.func17 rfl rfl
theorem en58 : En Try.prog 58 := En.of Try.func58 rfl rfl
theorem en59 : En Try.prog 59 := En.of Try.func59 rfl rfl
theorem en60 : En Try.prog 60 := En.of Try.func60 rfl rfl
theorem en61 : En Try.prog 61 := En.of Try.func61 rfl rfl
theorem en62 : En Try.prog 62 := En.of Try.func62 rfl rfl
theorem en63 : En Try.prog 63 := En.of Try.func63 rfl rfl
theorem en64 : En Try.prog 64 := En.of Try.func64 rfl rfl
theorem en65 : En Try.prog 65 := En.of Try.func65 rfl rfl
theorem en66 : En Try.prog 66 := En.of Try.func66 rfl rfl
theorem en67 : En Try.prog 67 := En.of Try.func67 rfl rfl
theorem en53 : En Try.prog 53 := En.of Try.func53 rfl rfl
theorem en68 : En Try.prog 68 := En.of Try.func68 rfl rfl
theorem en50 : En Try.prog 50 := En.of Try.func50 rfl rfl
theorem en57 : En Try.prog 57 := En.of Try.func57 rfl rfl
theorem eqg75 : Try.prog.eqGuardType Try.prog.depth 75 = false := by kernel_rfl
theorem eqf75 (a0 a1 b0 b1 : Int) (w : World) : (Op.equalIn 10000 75 (.agg #[.int .i64 a0, .int .i64 a1]) (.agg #[.int .i64 b0, .int .i64 b1])).run Try.prog w = .ok (a0 == b0 && (a1 == b1)) w := by
  have hu2 : Try.prog.underlying 2 = some (.int .i64) := by kernel_rfl
  have hs : Try.prog.stoodInHeld 75 = false := by kernel_rfl
  have e1 : ∀ (x y : Int) (w : World), (Op.equalIn 9999 2 (.int .i64 x) (.int .i64 y)).run Try.prog w = .ok (x == y) w := fun x y w => run_equalIn_int w 9998 2 .i64 .i64 x y hu2
  rw [run_equalIn_struct w 9999 75 _ _ (by simp [Program.fieldsOf, Try.underlying75]) hs]
  simp [Program.fieldsOf, Try.underlying75, Op.eqFields, part, e1, go_sem]
  by_cases h0 : a0 = b0 <;> by_cases h1 : a1 = b1 <;> simp [h0, h1]

end Go.Proofs.Ytgkgimglgjfcjaa
