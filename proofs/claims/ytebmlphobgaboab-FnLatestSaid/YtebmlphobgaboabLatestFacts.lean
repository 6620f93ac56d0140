/- The facts of the program that the proofs take. -/
import Derived.Test.YtebmlphobgaboabLatestModels
import Derived.Test.YtebmlphobgaboabLiftS
import Derived.Test.YtebmlphobgaboabBack
import Derived.Test.YtebmlphobgaboabLiftP
import Derived.Test.YtebmlphobgaboabRows
namespace Go.Proofs.Ytebmlphobgaboab
open Go.RowKit

def GPlace.cells (x : GPlace) : List Value := [.int .i64 x.From, .int .i64 x.To, .int .i64 x.Delay, .int .i64 x.Tokens]
theorem GPlace.len (x : GPlace) : (GPlace.cells x).length = 4 := rfl
theorem GPlace.one (x : GPlace) : ∀ u ∈ GPlace.cells x, u.oneCell' = true := fun u hu => List.all_eq_true.1 (show (GPlace.cells x).all Value.oneCell' = true from rfl) u hu


theorem el22 : EL Try.prog 22 5 := Try.underlying22
theorem ti149 : TI Try.prog 149 [.slice none 0 0, .int .i64 0, .int .i64 0] 40 := TI.of (z := .agg #[.slice none 0 0, .int .i64 0, .int .i64 0]) (by kernel_rfl) rfl rfl
theorem fo149_2 : FO Try.prog 149 2 2 := fun w b o => by simp [Instr.fieldAt, Instr.sureAddr, fieldPlace, underlying, Try.underlying149, go_sem, Addr.add]
theorem ag2 : AG Try.prog 2 false := fun w => by simp [isAgg, underlying, Try.underlying2, go_sem]
theorem ti5 : TI Try.prog 5 [.int .u8 0] 1 := TI.of (z := .int .u8 0) (by kernel_rfl) rfl rfl
theorem ag5 : AG Try.prog 5 false := fun w => by simp [isAgg, underlying, Try.underlying5, go_sem]
theorem un5 : Try.prog.underlying 5 = some (.int .u8) := by kernel_rfl
theorem un2 : Try.prog.underlying 2 = some (.int .i64) := by kernel_rfl
theorem ti2 : TI Try.prog 2 [.int .i64 0] 8 := TI.of (z := .int .i64 0) (by kernel_rfl) rfl rfl
theorem fo149_1 : FO Try.prog 149 1 1 := fun w b o => by simp [Instr.fieldAt, Instr.sureAddr, fieldPlace, underlying, Try.underlying149, go_sem, Addr.add]
theorem ag3 : AG Try.prog 3 false := fun w => by simp [isAgg, underlying, Try.underlying3, go_sem]
theorem fo149_0 : FO Try.prog 149 0 0 := fun w b o => by simp [Instr.fieldAt, Instr.sureAddr, fieldPlace, underlying, Try.underlying149, go_sem, Addr.add]
theorem ag22 : AG Try.prog 22 false := fun w => by simp [isAgg, underlying, Try.underlying22, go_sem]
theorem ti3 : TI Try.prog 3 [.int .i64 0] 8 := TI.of (z := .int .i64 0) (by kernel_rfl) rfl rfl
theorem el28 : EL Try.prog 28 2 := Try.underlying28
theorem en93 : En Try.prog 93 := En.of Try.func93 rfl rfl
theorem ti55 : TI Try.prog 55 [.int .i64 0, .slice none 0 0] 32 := TI.of (z := .agg #[.int .i64 0, .slice none 0 0]) (by kernel_rfl) rfl rfl
theorem el53 : EL Try.prog 53 64 := Try.underlying53
theorem ti64 : TI Try.prog 64 [.int .i64 0, .int .i64 0, .int .i64 0, .int .i64 0] 32 := TI.of (z := .agg #[.int .i64 0, .int .i64 0, .int .i64 0, .int .i64 0]) (by kernel_rfl) rfl rfl
theorem fo55_0 : FO Try.prog 55 0 0 := fun w b o => by simp [Instr.fieldAt, Instr.sureAddr, fieldPlace, underlying, Try.underlying55, go_sem, Addr.add]
theorem fo64_0 : FO Try.prog 64 0 0 := fun w b o => by simp [Instr.fieldAt, Instr.sureAddr, fieldPlace, underlying, Try.underlying64, go_sem, Addr.add]
theorem fo64_1 : FO Try.prog 64 1 1 := fun w b o => by simp [Instr.fieldAt, Instr.sureAddr, fieldPlace, underlying, Try.underlying64, go_sem, Addr.add]
theorem fo64_3 : FO Try.prog 64 3 3 := fun w b o => by simp [Instr.fieldAt, Instr.sureAddr, fieldPlace, underlying, Try.underlying64, go_sem, Addr.add]
theorem fo55_1 : FO Try.prog 55 1 1 := fun w b o => by simp [Instr.fieldAt, Instr.sureAddr, fieldPlace, underlying, Try.underlying55, go_sem, Addr.add]
theorem ag53 : AG Try.prog 53 false := fun w => by simp [isAgg, underlying, Try.underlying53, go_sem]
theorem ag64 : AG Try.prog 64 true := fun w => by simp [isAgg, underlying, Try.underlying64, go_sem]
theorem ti53 : TI Try.prog 53 [.slice none 0 0] 24 := TI.of (z := .slice none 0 0) (by kernel_rfl) rfl rfl
theorem en109 : En Try.prog 109 := En.of Try.func109 rfl rfl
theorem ag55 : AG Try.prog 55 true := fun w => by simp [isAgg, underlying, Try.underlying55, go_sem]
theorem en170 : En Try.prog 170 := En.of Try.func170 rfl rfl
theorem en77 : En Try.prog 77 := En.of Try.func77 rfl rfl
theorem fo64_2 : FO Try.prog 64 2 2 := fun w b o => by simp [Instr.fieldAt, Instr.sureAddr, fieldPlace, underlying, Try.underlying64, go_sem, Addr.add]
theorem en185 : En Try.prog 185 := En.of Try.func185 rfl rfl
theorem el40 : EL Try.prog 40 28 := Try.underlying40
theorem ti28 : TI Try.prog 28 [.slice none 0 0] 24 := TI.of (z := .slice none 0 0) (by kernel_rfl) rfl rfl
theorem en154 : En Try.prog 154 := En.of Try.func154 rfl rfl
theorem ag28 : AG Try.prog 28 false := fun w => by simp [isAgg, underlying, Try.underlying28, go_sem]
theorem en166 : En Try.prog 166 := En.of Try.func166 rfl rfl
theorem en114 : En Try.prog 114 := En.of Try.func114 rfl rfl
theorem en157 : En Try.prog 157 := En.of Try.func157 rfl rfl
theorem en211 : En Try.prog 211 := En.of Try.func211 rfl rfl
theorem en89 : En Try.prog 89 := En.of Try.func89 rfl rfl
theorem en113 : En Try.prog 113 := En.of Try.func113 rfl rfl
theorem en197 : En Try.prog 197 := En.of Try.func197 rfl rfl
theorem en178 : En Try.prog 178 := En.of Try.func178 rfl rfl
theorem en179 : En Try.prog 179 := En.of Try.func179 rfl rfl
theorem en103 : En Try.prog 103 := En.of Try.func103 rfl rfl
theorem en181 : En Try.prog 181 := En.of Try.func181 rfl rfl
theorem en171 : En Try.prog 171 := En.of Try.func171 rfl rfl
theorem en172 : En Try.prog 172 := En.of Try.func172 rfl rfl
theorem en65 : En Try.prog 65 := En.of Try.func65 rfl rfl
theorem en100 : En Try.prog 100 := En.of Try.func100 rfl rfl
theorem en71 : En Try.prog 71 := En.of Try.func71 rfl rfl
theorem en213 : En Try.prog 213 := En.of Try.func213 rfl rfl
theorem en184 : En Try.prog 184 := En.of Try.func184 rfl rfl
theorem en212 : En Try.prog 212 := En.of Try.func212 rfl rfl
theorem en183 : En Try.prog 183 := En.of Try.func183 rfl rfl
theorem en182 : En Try.prog 182 := En.of Try.func182 rfl rfl
theorem en74 : En Try.prog 74 := En.of Try.func74 rfl rfl
theorem en202 : En Try.prog 202 := En.of Try.func202 rfl rfl
theorem en208 : En Try.prog 208 := En.of Try.func208 rfl rfl
theorem en146 : En Try.prog 146 := En.of Try.func146 rfl rfl
theorem en207 : En Try.prog 207 := En.of Try.func207 rfl rfl
theorem en163 : En Try.prog 163 := En.of Try.func163 rfl rfl
theorem en209 : En Try.prog 209 := En.of Try.func209 rfl rfl
theorem en175 : En Try.prog 175 := En.of Try.func175 rfl rfl
theorem en110 : En Try.prog 110 := En.of Try.func110 rfl rfl
theorem en173 : En Try.prog 173 := En.of Try.func173 rfl rfl
theorem en174 : En Try.prog 174 := En.of Try.func174 rfl rfl
theorem un28 : Try.prog.underlying 28 = some (.slice 2) := by kernel_rfl
theorem en120 : En Try.prog 120 := En.of Try.func120 rfl rfl
theorem en176 : En Try.prog 176 := En.of Try.func176 rfl rfl
theorem ti40 : TI Try.prog 40 [.slice none 0 0] 24 := TI.of (z := .slice none 0 0) (by kernel_rfl) rfl rfl
theorem ag40 : AG Try.prog 40 false := fun w => by simp [isAgg, underlying, Try.underlying40, go_sem]
theorem en101 : En Try.prog 101 := En.of Try.func101 rfl rfl
theorem en102 : En Try.prog 102 := En.of Try.func102 rfl rfl
theorem en76 : En Try.prog 76 := En.of Try.func76 rfl rfl
theorem en180 : En Try.prog 180 := En.of Try.func180 rfl rfl
theorem en104 : En Try.prog 104 := En.of Try.func104 rfl rfl
theorem en105 : En Try.prog 105 := En.of Try.func105 rfl rfl
theorem en116 : En Try.prog 116 := En.of Try.func116 rfl rfl
theorem en106 : En Try.prog 106 := En.of Try.func106 rfl rfl
theorem en107 : En Try.prog 107 := En.of Try.func107 rfl rfl
theorem en108 : En Try.prog 108 := En.of Try.func108 rfl rfl
theorem en112 : En Try.prog 112 := En.of Try.func112 rfl rfl
theorem en111 : En Try.prog 111 := En.of Try.func111 rfl rfl
theorem en21 : En Try.prog 21 := En.of Try.func21 rfl rfl
theorem en115 : En Try.prog 115 := En.of Try.func115 rfl rfl
theorem en9 : En Try.prog 9 := En.of Try.func9 rfl rfl
theorem en41 : En Try.prog 41 := En.of Try.func41 rfl rfl
theorem en42 : En Try.prog 42 := En.of Try.func42 rfl rfl
theorem en43 : En Try.prog 43 := En.of Try.func43 rfl rfl
theorem en44 : En Try.prog 44 := En.of Try.func44 rfl rfl
theorem en45 : En Try.prog 45 := En.of Try.func45 rfl rfl
theorem en46 : En Try.prog 46 := En.of Try.func46 rfl rfl
theorem en47 : En Try.prog 47 := En.of Try.func47 rfl rfl
theorem en48 : En Try.prog 48 := En.of Try.func48 rfl rfl
theorem en31 : En Try.prog 31 := En.of Try.func31 rfl rfl
theorem en49 : En Try.prog 49 := En.of Try.func49 rfl rfl

end Go.Proofs.Ytebmlphobgaboab
