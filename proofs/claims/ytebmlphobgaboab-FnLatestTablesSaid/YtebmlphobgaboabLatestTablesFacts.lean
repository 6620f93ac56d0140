/- The facts of the program that the proofs take. -/
import Derived.Test.YtebmlphobgaboabLatestTablesModels
import Derived.Test.YtebmlphobgaboabLiftS
import Derived.Test.YtebmlphobgaboabLiftP
import Derived.Test.YtebmlphobgaboabRows
namespace Go.Proofs.Ytebmlphobgaboab
open Go.RowKit

def GPlace.cells (x : GPlace) : List Value := [.int .i64 x.From, .int .i64 x.To, .int .i64 x.Delay, .int .i64 x.Tokens]
theorem GPlace.len (x : GPlace) : (GPlace.cells x).length = 4 := rfl
theorem GPlace.one (x : GPlace) : ∀ u ∈ GPlace.cells x, u.oneCell' = true := fun u hu => List.all_eq_true.1 (show (GPlace.cells x).all Value.oneCell' = true from rfl) u hu


def GRatio.cells (x : GRatio) : List Value := [.int .i64 x.Num, .int .i64 x.Den]
theorem GRatio.len (x : GRatio) : (GRatio.cells x).length = 2 := rfl
theorem GRatio.one (x : GRatio) : ∀ u ∈ GRatio.cells x, u.oneCell' = true := fun u hu => List.all_eq_true.1 (show (GRatio.cells x).all Value.oneCell' = true from rfl) u hu


theorem el22 : EL Try.prog 22 5 := Try.underlying22
theorem ti149 : TI Try.prog 149 [.slice none 0 0, .int .i64 0, .int .i64 0] 40 := TI.of (z := .agg #[.slice none 0 0, .int .i64 0, .int .i64 0]) (by kernel_rfl) rfl rfl
theorem fo149_2 : FO Try.prog 149 2 2 := fun w b o => by simp [Instr.fieldAt, Instr.sureAddr, fieldPlace, underlying, Try.underlying149, go_sem, Addr.add]
theorem ag2 : AG Try.prog 2 false := fun w => by simp [isAgg, underlying, Try.underlying2, go_sem]
theorem ti5 : TI Try.prog 5 [.int .u8 0] 1 := TI.of (z := .int .u8 0) (by kernel_rfl) rfl rfl
theorem ag5 : AG Try.prog 5 false := fun w => by simp [isAgg, underlying, Try.underlying5, go_sem]
theorem un5 : Try.prog.underlying 5 = some (.int .u8) := by kernel_rfl
theorem un2 : Try.prog.underlying 2 = some (.int .i64) := by kernel_rfl
theorem ti2 : TI Try.prog 2 [.int .i64 0] 8 := TI.of (z := .int .i64 0) (by kernel_rfl) rfl rfl
theorem fo149_1 : FO Try.prog 149 1 1 := fun w b o => by simp [Instr.fieldAt, Instr.sureAddr, fieldPlace, underlying, Try.underlying149, go_sem, Addr.add]
theorem ag3 : AG Try.prog 3 false := fun w => by simp [isAgg, underlying, Try.underlying3, go_sem]
theorem fo149_0 : FO Try.prog 149 0 0 := fun w b o => by simp [Instr.fieldAt, Instr.sureAddr, fieldPlace, underlying, Try.underlying149, go_sem, Addr.add]
theorem ag22 : AG Try.prog 22 false := fun w => by simp [isAgg, underlying, Try.underlying22, go_sem]
theorem ti3 : TI Try.prog 3 [.int .i64 0] 8 := TI.of (z := .int .i64 0) (by kernel_rfl) rfl rfl
theorem el28 : EL Try.prog 28 2 := Try.underlying28
theorem en93 : En Try.prog 93 := En.of Try.func93 rfl rfl
theorem ti55 : TI Try.prog 55 [.int .i64 0, .slice none 0 0] 32 := TI.of (z := .agg #[.int .i64 0, .slice none 0 0]) (by kernel_rfl) rfl rfl
theorem el53 : EL Try.prog 53 64 := Try.underlying53
theorem ti64 : TI Try.prog 64 [.int .i64 0, .int .i64 0, .int .i64 0, .int .i64 0] 32 := TI.of (z := .agg #[.int .i64 0, .int .i64 0, .int .i64 0, .int .i64 0]) (by kernel_rfl) rfl rfl
theorem fo55_0 : FO Try.prog 55 0 0 := fun w b o => by simp [Instr.fieldAt, Instr.sureAddr, fieldPlace, underlying, Try.underlying55, go_sem, Addr.add]
theorem fo64_0 : FO Try.prog 64 0 0 := fun w b o => by simp [Instr.fieldAt, Instr.sureAddr, fieldPlace, underlying, Try.underlying64, go_sem, Addr.add]
theorem fo64_1 : FO Try.prog 64 1 1 := fun w b o => by simp [Instr.fieldAt, Instr.sureAddr, fieldPlace, underlying, Try.underlying64, go_sem, Addr.add]
theorem fo64_3 : FO Try.prog 64 3 3 := fun w b o => by simp [Instr.fieldAt, Instr.sureAddr, fieldPlace, underlying, Try.underlying64, go_sem, Addr.add]
theorem fo55_1 : FO Try.prog 55 1 1 := fun w b o => by simp [Instr.fieldAt, Instr.sureAddr, fieldPlace, underlying, Try.underlying55, go_sem, Addr.add]
theorem ag53 : AG Try.prog 53 false := fun w => by simp [isAgg, underlying, Try.underlying53, go_sem]
theorem ag64 : AG Try.prog 64 true := fun w => by simp [isAgg, underlying, Try.underlying64, go_sem]
theorem ti53 : TI Try.prog 53 [.slice none 0 0] 24 := TI.of (z := .slice none 0 0) (by kernel_rfl) rfl rfl
theorem en109 : En Try.prog 109 := En.of Try.func109 rfl rfl
theorem ag55 : AG Try.prog 55 true := fun w => by simp [isAgg, underlying, Try.underlying55, go_sem]
theorem en170 : En Try.prog 170 := En.of Try.func170 rfl rfl
theorem en77 : En Try.prog 77 := En.of Try.func77 rfl rfl
theorem fo64_2 : FO Try.prog 64 2 2 := fun w b o => by simp [Instr.fieldAt, Instr.sureAddr, fieldPlace, underlying, Try.underlying64, go_sem, Addr.add]
theorem en185 : En Try.prog 185 := En.of Try.func185 rfl rfl
theorem en215 : En Try.prog 215 := En.of Try.func215 rfl rfl
theorem fo129_1 : FO Try.prog 129 1 1 := fun w b o => by simp [Instr.fieldAt, Instr.sureAddr, fieldPlace, underlying, Try.underlying129, go_sem, Addr.add]
theorem fo129_0 : FO Try.prog 129 0 0 := fun w b o => by simp [Instr.fieldAt, Instr.sureAddr, fieldPlace, underlying, Try.underlying129, go_sem, Addr.add]
theorem en225 : En Try.prog 225 := En.of Try.func225 rfl rfl
theorem ag129 : AG Try.prog 129 true := fun w => by simp [isAgg, underlying, Try.underlying129, go_sem]
theorem ti129 : TI Try.prog 129 [.int .i64 0, .int .i64 0] 16 := TI.of (z := .agg #[.int .i64 0, .int .i64 0]) (by kernel_rfl) rfl rfl
theorem en114 : En Try.prog 114 := En.of Try.func114 rfl rfl
theorem en223 : En Try.prog 223 := En.of Try.func223 rfl rfl
theorem en224 : En Try.prog 224 := En.of Try.func224 rfl rfl
theorem en113 : En Try.prog 113 := En.of Try.func113 rfl rfl
theorem en214 : En Try.prog 214 := En.of Try.func214 rfl rfl
theorem en216 : En Try.prog 216 := En.of Try.func216 rfl rfl
theorem en186 : En Try.prog 186 := En.of Try.func186 rfl rfl
theorem en171 : En Try.prog 171 := En.of Try.func171 rfl rfl
theorem en187 : En Try.prog 187 := En.of Try.func187 rfl rfl
theorem en65 : En Try.prog 65 := En.of Try.func65 rfl rfl
theorem en117 : En Try.prog 117 := En.of Try.func117 rfl rfl
theorem en71 : En Try.prog 71 := En.of Try.func71 rfl rfl
theorem en213 : En Try.prog 213 := En.of Try.func213 rfl rfl
theorem en184 : En Try.prog 184 := En.of Try.func184 rfl rfl
theorem en212 : En Try.prog 212 := En.of Try.func212 rfl rfl
theorem en183 : En Try.prog 183 := En.of Try.func183 rfl rfl
theorem en182 : En Try.prog 182 := En.of Try.func182 rfl rfl
theorem en110 : En Try.prog 110 := En.of Try.func110 rfl rfl
theorem en188 : En Try.prog 188 := En.of Try.func188 rfl rfl
theorem en189 : En Try.prog 189 := En.of Try.func189 rfl rfl
theorem un28 : Try.prog.underlying 28 = some (.slice 2) := by kernel_rfl
theorem ti66 : TI Try.prog 66 [.int .i64 0, .slice none 0 0] 32 := TI.of (z := .agg #[.int .i64 0, .slice none 0 0]) (by kernel_rfl) rfl rfl
theorem en118 : En Try.prog 118 := En.of Try.func118 rfl rfl
theorem ag66 : AG Try.prog 66 true := fun w => by simp [isAgg, underlying, Try.underlying66, go_sem]
theorem en74 : En Try.prog 74 := En.of Try.func74 rfl rfl
theorem en119 : En Try.prog 119 := En.of Try.func119 rfl rfl
theorem en120 : En Try.prog 120 := En.of Try.func120 rfl rfl
theorem en121 : En Try.prog 121 := En.of Try.func121 rfl rfl
theorem el40 : EL Try.prog 40 28 := Try.underlying40
theorem ti28 : TI Try.prog 28 [.slice none 0 0] 24 := TI.of (z := .slice none 0 0) (by kernel_rfl) rfl rfl
theorem en154 : En Try.prog 154 := En.of Try.func154 rfl rfl
theorem ag28 : AG Try.prog 28 false := fun w => by simp [isAgg, underlying, Try.underlying28, go_sem]
theorem en155 : En Try.prog 155 := En.of Try.func155 rfl rfl
theorem en180 : En Try.prog 180 := En.of Try.func180 rfl rfl
theorem en205 : En Try.prog 205 := En.of Try.func205 rfl rfl
theorem en150 : En Try.prog 150 := En.of Try.func150 rfl rfl
theorem en86 : En Try.prog 86 := En.of Try.func86 rfl rfl
theorem en151 : En Try.prog 151 := En.of Try.func151 rfl rfl
theorem en152 : En Try.prog 152 := En.of Try.func152 rfl rfl
theorem en122 : En Try.prog 122 := En.of Try.func122 rfl rfl
theorem en76 : En Try.prog 76 := En.of Try.func76 rfl rfl
theorem en123 : En Try.prog 123 := En.of Try.func123 rfl rfl
theorem en83 : En Try.prog 83 := En.of Try.func83 rfl rfl
theorem en124 : En Try.prog 124 := En.of Try.func124 rfl rfl
theorem fo66_0 : FO Try.prog 66 0 0 := fun w b o => by simp [Instr.fieldAt, Instr.sureAddr, fieldPlace, underlying, Try.underlying66, go_sem, Addr.add]
theorem fo66_1 : FO Try.prog 66 1 1 := fun w b o => by simp [Instr.fieldAt, Instr.sureAddr, fieldPlace, underlying, Try.underlying66, go_sem, Addr.add]
theorem en21 : En Try.prog 21 := En.of Try.func21 rfl rfl
theorem en190 : En Try.prog 190 := En.of Try.func190 rfl rfl
theorem en217 : En Try.prog 217 := En.of Try.func217 rfl rfl
theorem en192 : En Try.prog 192 := En.of Try.func192 rfl rfl
theorem en193 : En Try.prog 193 := En.of Try.func193 rfl rfl
theorem en191 : En Try.prog 191 := En.of Try.func191 rfl rfl
theorem en125 : En Try.prog 125 := En.of Try.func125 rfl rfl
theorem en126 : En Try.prog 126 := En.of Try.func126 rfl rfl
theorem en221 : En Try.prog 221 := En.of Try.func221 rfl rfl
theorem en111 : En Try.prog 111 := En.of Try.func111 rfl rfl
theorem en200 : En Try.prog 200 := En.of Try.func200 rfl rfl
theorem en158 : En Try.prog 158 := En.of Try.func158 rfl rfl
theorem ag40 : AG Try.prog 40 false := fun w => by simp [isAgg, underlying, Try.underlying40, go_sem]
theorem en160 : En Try.prog 160 := En.of Try.func160 rfl rfl
theorem en90 : En Try.prog 90 := En.of Try.func90 rfl rfl
theorem en92 : En Try.prog 92 := En.of Try.func92 rfl rfl
theorem en145 : En Try.prog 145 := En.of Try.func145 rfl rfl
theorem en194 : En Try.prog 194 := En.of Try.func194 rfl rfl
theorem en80 : En Try.prog 80 := En.of Try.func80 rfl rfl
theorem en137 : En Try.prog 137 := En.of Try.func137 rfl rfl
theorem en127 : En Try.prog 127 := En.of Try.func127 rfl rfl
theorem en9 : En Try.prog 9 := En.of Try.func9 rfl rfl
theorem en50 : En Try.prog 50 := En.of Try.func50 rfl rfl
theorem en51 : En Try.prog 51 := En.of Try.func51 rfl rfl
theorem en52 : En Try.prog 52 := En.of Try.func52 rfl rfl
theorem en53 : En Try.prog 53 := En.of Try.func53 rfl rfl
theorem en54 : En Try.prog 54 := En.of Try.func54 rfl rfl
theorem en55 : En Try.prog 55 := En.of Try.func55 rfl rfl
theorem en23 : En Try.prog 23 := En.of Try.func23 rfl rfl

end Go.Proofs.Ytebmlphobgaboab
