/- The facts of the program that the proofs take. -/
import Derived.Test.YtebmlphobgaboabDelaysModels
import Derived.Test.YtebmlphobgaboabLiftP
import Derived.Test.YtebmlphobgaboabRows
namespace Go.Proofs.Ytebmlphobgaboab
open Go.RowKit

def GPlace.cells (x : GPlace) : List Value := [.int .i64 x.From, .int .i64 x.To, .int .i64 x.Delay, .int .i64 x.Tokens]
theorem GPlace.len (x : GPlace) : (GPlace.cells x).length = 4 := rfl
theorem GPlace.one (x : GPlace) : ∀ u ∈ GPlace.cells x, u.oneCell' = true := fun u hu => List.all_eq_true.1 (show (GPlace.cells x).all Value.oneCell' = true from rfl) u hu


def GRatio.cells (x : GRatio) : List Value := [.int .i64 x.Num, .int .i64 x.Den]
theorem GRatio.len (x : GRatio) : (GRatio.cells x).length = 2 := rfl
theorem GRatio.one (x : GRatio) : ∀ u ∈ GRatio.cells x, u.oneCell' = true := fun u hu => List.all_eq_true.1 (show (GRatio.cells x).all Value.oneCell' = true from rfl) u hu


theorem el22 : EL Try.prog 22 5 := Try.underlying22
theorem ti149 : TI Try.prog 149 [.slice none 0 0, .int .i64 0, .int .i64 0] 40 := TI.of (z := .agg #[.slice none 0 0, .int .i64 0, .int .i64 0]) (by kernel_rfl) rfl rfl
theorem fo149_2 : FO Try.prog 149 2 2 := fun w b o => by simp [Instr.fieldAt, Instr.sureAddr, fieldPlace, underlying, Try.underlying149, go_sem, Addr.add]
theorem ag2 : AG Try.prog 2 false := fun w => by simp [isAgg, underlying, Try.underlying2, go_sem]
theorem ti5 : TI Try.prog 5 [.int .u8 0] 1 := TI.of (z := .int .u8 0) (by kernel_rfl) rfl rfl
theorem ag5 : AG Try.prog 5 false := fun w => by simp [isAgg, underlying, Try.underlying5, go_sem]
theorem un5 : Try.prog.underlying 5 = some (.int .u8) := by kernel_rfl
theorem un2 : Try.prog.underlying 2 = some (.int .i64) := by kernel_rfl
theorem ti2 : TI Try.prog 2 [.int .i64 0] 8 := TI.of (z := .int .i64 0) (by kernel_rfl) rfl rfl
theorem fo149_1 : FO Try.prog 149 1 1 := fun w b o => by simp [Instr.fieldAt, Instr.sureAddr, fieldPlace, underlying, Try.underlying149, go_sem, Addr.add]
theorem ag3 : AG Try.prog 3 false := fun w => by simp [isAgg, underlying, Try.underlying3, go_sem]
theorem fo149_0 : FO Try.prog 149 0 0 := fun w b o => by simp [Instr.fieldAt, Instr.sureAddr, fieldPlace, underlying, Try.underlying149, go_sem, Addr.add]
theorem ag22 : AG Try.prog 22 false := fun w => by simp [isAgg, underlying, Try.underlying22, go_sem]
theorem ti3 : TI Try.prog 3 [.int .i64 0] 8 := TI.of (z := .int .i64 0) (by kernel_rfl) rfl rfl
theorem el28 : EL Try.prog 28 2 := Try.underlying28
theorem en93 : En Try.prog 93 := En.of Try.func93 rfl rfl
theorem ti55 : TI Try.prog 55 [.int .i64 0, .slice none 0 0] 32 := TI.of (z := .agg #[.int .i64 0, .slice none 0 0]) (by kernel_rfl) rfl rfl
theorem el53 : EL Try.prog 53 64 := Try.underlying53
theorem ti64 : TI Try.prog 64 [.int .i64 0, .int .i64 0, .int .i64 0, .int .i64 0] 32 := TI.of (z := .agg #[.int .i64 0, .int .i64 0, .int .i64 0, .int .i64 0]) (by kernel_rfl) rfl rfl
theorem fo55_0 : FO Try.prog 55 0 0 := fun w b o => by simp [Instr.fieldAt, Instr.sureAddr, fieldPlace, underlying, Try.underlying55, go_sem, Addr.add]
theorem fo64_0 : FO Try.prog 64 0 0 := fun w b o => by simp [Instr.fieldAt, Instr.sureAddr, fieldPlace, underlying, Try.underlying64, go_sem, Addr.add]
theorem fo64_1 : FO Try.prog 64 1 1 := fun w b o => by simp [Instr.fieldAt, Instr.sureAddr, fieldPlace, underlying, Try.underlying64, go_sem, Addr.add]
theorem fo64_3 : FO Try.prog 64 3 3 := fun w b o => by simp [Instr.fieldAt, Instr.sureAddr, fieldPlace, underlying, Try.underlying64, go_sem, Addr.add]
theorem fo55_1 : FO Try.prog 55 1 1 := fun w b o => by simp [Instr.fieldAt, Instr.sureAddr, fieldPlace, underlying, Try.underlying55, go_sem, Addr.add]
theorem ag53 : AG Try.prog 53 false := fun w => by simp [isAgg, underlying, Try.underlying53, go_sem]
theorem ag64 : AG Try.prog 64 true := fun w => by simp [isAgg, underlying, Try.underlying64, go_sem]
theorem ti53 : TI Try.prog 53 [.slice none 0 0] 24 := TI.of (z := .slice none 0 0) (by kernel_rfl) rfl rfl
theorem en109 : En Try.prog 109 := En.of Try.func109 rfl rfl
theorem ag55 : AG Try.prog 55 true := fun w => by simp [isAgg, underlying, Try.underlying55, go_sem]
theorem en170 : En Try.prog 170 := En.of Try.func170 rfl rfl
theorem en77 : En Try.prog 77 := En.of Try.func77 rfl rfl
theorem fo64_2 : FO Try.prog 64 2 2 := fun w b o => by simp [Instr.fieldAt, Instr.sureAddr, fieldPlace, underlying, Try.underlying64, go_sem, Addr.add]
theorem en185 : En Try.prog 185 := En.of Try.func185 rfl rfl
theorem en215 : En Try.prog 215 := En.of Try.func215 rfl rfl
theorem fo129_1 : FO Try.prog 129 1 1 := fun w b o => by simp [Instr.fieldAt, Instr.sureAddr, fieldPlace, underlying, Try.underlying129, go_sem, Addr.add]
theorem fo129_0 : FO Try.prog 129 0 0 := fun w b o => by simp [Instr.fieldAt, Instr.sureAddr, fieldPlace, underlying, Try.underlying129, go_sem, Addr.add]
theorem en225 : En Try.prog 225 := En.of Try.func225 rfl rfl
theorem ag129 : AG Try.prog 129 true := fun w => by simp [isAgg, underlying, Try.underlying129, go_sem]
theorem ti129 : TI Try.prog 129 [.int .i64 0, .int .i64 0] 16 := TI.of (z := .agg #[.int .i64 0, .int .i64 0]) (by kernel_rfl) rfl rfl
theorem en114 : En Try.prog 114 := En.of Try.func114 rfl rfl
theorem en223 : En Try.prog 223 := En.of Try.func223 rfl rfl
theorem en224 : En Try.prog 224 := En.of Try.func224 rfl rfl
theorem en113 : En Try.prog 113 := En.of Try.func113 rfl rfl
theorem en214 : En Try.prog 214 := En.of Try.func214 rfl rfl
theorem en216 : En Try.prog 216 := En.of Try.func216 rfl rfl
theorem en186 : En Try.prog 186 := En.of Try.func186 rfl rfl
theorem en171 : En Try.prog 171 := En.of Try.func171 rfl rfl
theorem en187 : En Try.prog 187 := En.of Try.func187 rfl rfl
theorem el40 : EL Try.prog 40 28 := Try.underlying40
theorem ti28 : TI Try.prog 28 [.slice none 0 0] 24 := TI.of (z := .slice none 0 0) (by kernel_rfl) rfl rfl
theorem en154 : En Try.prog 154 := En.of Try.func154 rfl rfl
theorem ag28 : AG Try.prog 28 false := fun w => by simp [isAgg, underlying, Try.underlying28, go_sem]
theorem en155 : En Try.prog 155 := En.of Try.func155 rfl rfl
theorem en180 : En Try.prog 180 := En.of Try.func180 rfl rfl
theorem en205 : En Try.prog 205 := En.of Try.func205 rfl rfl
theorem en150 : En Try.prog 150 := En.of Try.func150 rfl rfl
theorem en86 : En Try.prog 86 := En.of Try.func86 rfl rfl
theorem en151 : En Try.prog 151 := En.of Try.func151 rfl rfl
theorem en152 : En Try.prog 152 := En.of Try.func152 rfl rfl
theorem ti66 : TI Try.prog 66 [.int .i64 0, .slice none 0 0] 32 := TI.of (z := .agg #[.int .i64 0, .slice none 0 0]) (by kernel_rfl) rfl rfl
theorem en122 : En Try.prog 122 := En.of Try.func122 rfl rfl
theorem ag66 : AG Try.prog 66 true := fun w => by simp [isAgg, underlying, Try.underlying66, go_sem]
theorem en123 : En Try.prog 123 := En.of Try.func123 rfl rfl
theorem en83 : En Try.prog 83 := En.of Try.func83 rfl rfl
theorem en140 : En Try.prog 140 := En.of Try.func140 rfl rfl
theorem en117 : En Try.prog 117 := En.of Try.func117 rfl rfl
theorem en218 : En Try.prog 218 := En.of Try.func218 rfl rfl
theorem fo66_1 : FO Try.prog 66 1 1 := fun w b o => by simp [Instr.fieldAt, Instr.sureAddr, fieldPlace, underlying, Try.underlying66, go_sem, Addr.add]
theorem en195 : En Try.prog 195 := En.of Try.func195 rfl rfl
theorem en65 : En Try.prog 65 := En.of Try.func65 rfl rfl
theorem en128 : En Try.prog 128 := En.of Try.func128 rfl rfl
theorem en71 : En Try.prog 71 := En.of Try.func71 rfl rfl
theorem en213 : En Try.prog 213 := En.of Try.func213 rfl rfl
theorem en184 : En Try.prog 184 := En.of Try.func184 rfl rfl
theorem en212 : En Try.prog 212 := En.of Try.func212 rfl rfl
theorem en183 : En Try.prog 183 := En.of Try.func183 rfl rfl
theorem en182 : En Try.prog 182 := En.of Try.func182 rfl rfl
theorem fo66_0 : FO Try.prog 66 0 0 := fun w b o => by simp [Instr.fieldAt, Instr.sureAddr, fieldPlace, underlying, Try.underlying66, go_sem, Addr.add]
theorem en74 : En Try.prog 74 := En.of Try.func74 rfl rfl
theorem en207 : En Try.prog 207 := En.of Try.func207 rfl rfl
theorem en163 : En Try.prog 163 := En.of Try.func163 rfl rfl
theorem en209 : En Try.prog 209 := En.of Try.func209 rfl rfl
theorem en175 : En Try.prog 175 := En.of Try.func175 rfl rfl
theorem en217 : En Try.prog 217 := En.of Try.func217 rfl rfl
theorem en192 : En Try.prog 192 := En.of Try.func192 rfl rfl
theorem en193 : En Try.prog 193 := En.of Try.func193 rfl rfl
theorem en191 : En Try.prog 191 := En.of Try.func191 rfl rfl
theorem en110 : En Try.prog 110 := En.of Try.func110 rfl rfl
theorem en190 : En Try.prog 190 := En.of Try.func190 rfl rfl
theorem en174 : En Try.prog 174 := En.of Try.func174 rfl rfl
theorem en126 : En Try.prog 126 := En.of Try.func126 rfl rfl
theorem en129 : En Try.prog 129 := En.of Try.func129 rfl rfl
theorem en130 : En Try.prog 130 := En.of Try.func130 rfl rfl
theorem en76 : En Try.prog 76 := En.of Try.func76 rfl rfl
theorem en219 : En Try.prog 219 := En.of Try.func219 rfl rfl
theorem en166 : En Try.prog 166 := En.of Try.func166 rfl rfl
theorem en157 : En Try.prog 157 := En.of Try.func157 rfl rfl
theorem en211 : En Try.prog 211 := En.of Try.func211 rfl rfl
theorem en89 : En Try.prog 89 := En.of Try.func89 rfl rfl
theorem en220 : En Try.prog 220 := En.of Try.func220 rfl rfl
theorem en196 : En Try.prog 196 := En.of Try.func196 rfl rfl
theorem en197 : En Try.prog 197 := En.of Try.func197 rfl rfl
theorem en198 : En Try.prog 198 := En.of Try.func198 rfl rfl
theorem en179 : En Try.prog 179 := En.of Try.func179 rfl rfl
theorem en131 : En Try.prog 131 := En.of Try.func131 rfl rfl
theorem en132 : En Try.prog 132 := En.of Try.func132 rfl rfl
theorem en133 : En Try.prog 133 := En.of Try.func133 rfl rfl
theorem en134 : En Try.prog 134 := En.of Try.func134 rfl rfl
theorem en199 : En Try.prog 199 := En.of Try.func199 rfl rfl
theorem en135 : En Try.prog 135 := En.of Try.func135 rfl rfl
theorem en21 : En Try.prog 21 := En.of Try.func21 rfl rfl
theorem un3 : Try.prog.underlying 3 = some (.int .i64) := by kernel_rfl
theorem un81 : Try.prog.underlying 81 = some (.int .u64) := by kernel_rfl
theorem ti146 : TI Try.prog 146 [.slice none 0 0, .int .i64 0, .int .u64 0] 40 := TI.of (z := .agg #[.slice none 0 0, .int .i64 0, .int .u64 0]) (by kernel_rfl) rfl rfl
theorem fo146_2 : FO Try.prog 146 2 2 := fun w b o => by simp [Instr.fieldAt, Instr.sureAddr, fieldPlace, underlying, Try.underlying146, go_sem, Addr.add]
theorem ag81 : AG Try.prog 81 false := fun w => by simp [isAgg, underlying, Try.underlying81, go_sem]
theorem ti81 : TI Try.prog 81 [.int .u64 0] 8 := TI.of (z := .int .u64 0) (by kernel_rfl) rfl rfl
theorem fo146_1 : FO Try.prog 146 1 1 := fun w b o => by simp [Instr.fieldAt, Instr.sureAddr, fieldPlace, underlying, Try.underlying146, go_sem, Addr.add]
theorem fo146_0 : FO Try.prog 146 0 0 := fun w b o => by simp [Instr.fieldAt, Instr.sureAddr, fieldPlace, underlying, Try.underlying146, go_sem, Addr.add]
theorem en9 : En Try.prog 9 := En.of Try.func9 rfl rfl
theorem en56 : En Try.prog 56 := En.of Try.func56 rfl rfl
theorem en57 : En Try.prog 57 := En.of Try.func57 rfl rfl
theorem en58 : En Try.prog 58 := En.of Try.func58 rfl rfl
theorem en59 : En Try.prog 59 := En.of Try.func59 rfl rfl
theorem en60 : En Try.prog 60 := En.of Try.func60 rfl rfl
theorem en61 : En Try.prog 61 := En.of Try.func61 rfl rfl
theorem en31 : En Try.prog 31 := En.of Try.func31 rfl rfl
theorem en62 : En Try.prog 62 := En.of Try.func62 rfl rfl
theorem en63 : En Try.prog 63 := En.of Try.func63 rfl rfl
theorem en23 : En Try.prog 23 := En.of Try.func23 rfl rfl

end Go.Proofs.Ytebmlphobgaboab
