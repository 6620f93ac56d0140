/- The facts of the program that the proofs take. -/
import Derived.Test.YtlpigpplfaehbaaSplitPlaceModels
import Derived.Test.YtlpigpplfaehbaaRows
namespace Go.Proofs.Ytlpigpplfaehbaa
open Go.RowKit

def LPlace.cells (x : LPlace) : List Value := [.int .i64 x.From, .int .i64 x.To, .int .i64 x.Delay, .int .i64 x.Tokens]
theorem LPlace.len (x : LPlace) : (LPlace.cells x).length = 4 := rfl
theorem LPlace.one (x : LPlace) : ∀ u ∈ LPlace.cells x, u.oneCell' = true := fun u hu => List.all_eq_true.1 (show (LPlace.cells x).all Value.oneCell' = true from rfl) u hu


def GPlace.cells (x : GPlace) : List Value := [.int .i64 x.From, .int .i64 x.To, .int .i64 x.Delay, .int .i64 x.Tokens]
theorem GPlace.len (x : GPlace) : (GPlace.cells x).length = 4 := rfl
theorem GPlace.one (x : GPlace) : ∀ u ∈ GPlace.cells x, u.oneCell' = true := fun u hu => List.all_eq_true.1 (show (GPlace.cells x).all Value.oneCell' = true from rfl) u hu


theorem el22 : EL Try.prog 22 125 := Try.underlying22
theorem fo24_1 : FO Try.prog 24 1 1 := fun w b o => by simp [Instr.fieldAt, Instr.sureAddr, fieldPlace, underlying, Try.underlying24, go_sem, Addr.add]
theorem ag22 : AG Try.prog 22 false := fun w => by simp [isAgg, underlying, Try.underlying22, go_sem]
theorem en60 : En Try.prog 60 := En.of Try.func60 rfl rfl
theorem ti85 : TI Try.prog 85 [.int .i64 0, .int .i64 0, .int .i64 0, .int .i64 0] 32 := TI.of (z := .agg #[.int .i64 0, .int .i64 0, .int .i64 0, .int .i64 0]) (by kernel_rfl) rfl rfl
theorem fo125_0 : FO Try.prog 125 0 0 := fun w b o => by simp [Instr.fieldAt, Instr.sureAddr, fieldPlace, underlying, Try.underlying125, go_sem, Addr.add]
theorem ag2 : AG Try.prog 2 false := fun w => by simp [isAgg, underlying, Try.underlying2, go_sem]
theorem fo85_0 : FO Try.prog 85 0 0 := fun w b o => by simp [Instr.fieldAt, Instr.sureAddr, fieldPlace, underlying, Try.underlying85, go_sem, Addr.add]
theorem ti2 : TI Try.prog 2 [.int .i64 0] 8 := TI.of (z := .int .i64 0) (by kernel_rfl) rfl rfl
theorem fo125_1 : FO Try.prog 125 1 1 := fun w b o => by simp [Instr.fieldAt, Instr.sureAddr, fieldPlace, underlying, Try.underlying125, go_sem, Addr.add]
theorem fo85_1 : FO Try.prog 85 1 1 := fun w b o => by simp [Instr.fieldAt, Instr.sureAddr, fieldPlace, underlying, Try.underlying85, go_sem, Addr.add]
theorem fo125_2 : FO Try.prog 125 2 2 := fun w b o => by simp [Instr.fieldAt, Instr.sureAddr, fieldPlace, underlying, Try.underlying125, go_sem, Addr.add]
theorem fo85_2 : FO Try.prog 85 2 2 := fun w b o => by simp [Instr.fieldAt, Instr.sureAddr, fieldPlace, underlying, Try.underlying85, go_sem, Addr.add]
theorem fo125_3 : FO Try.prog 125 3 3 := fun w b o => by simp [Instr.fieldAt, Instr.sureAddr, fieldPlace, underlying, Try.underlying125, go_sem, Addr.add]
theorem fo85_3 : FO Try.prog 85 3 3 := fun w b o => by simp [Instr.fieldAt, Instr.sureAddr, fieldPlace, underlying, Try.underlying85, go_sem, Addr.add]
theorem ag85 : AG Try.prog 85 true := fun w => by simp [isAgg, underlying, Try.underlying85, go_sem]
theorem el26 : EL Try.prog 26 85 := Try.underlying26
theorem ti125 : TI Try.prog 125 [.int .i64 0, .int .i64 0, .int .i64 0, .int .i64 0] 32 := TI.of (z := .agg #[.int .i64 0, .int .i64 0, .int .i64 0, .int .i64 0]) (by kernel_rfl) rfl rfl
theorem ag125 : AG Try.prog 125 true := fun w => by simp [isAgg, underlying, Try.underlying125, go_sem]
theorem en131 : En Try.prog 131 := En.of Try.func131 rfl rfl
theorem ti28 : TI Try.prog 28 [.int .i64 0, .slice none 0 0] 32 := TI.of (z := .agg #[.int .i64 0, .slice none 0 0]) (by kernel_rfl) rfl rfl
theorem fo24_0 : FO Try.prog 24 0 0 := fun w b o => by simp [Instr.fieldAt, Instr.sureAddr, fieldPlace, underlying, Try.underlying24, go_sem, Addr.add]
theorem fo28_0 : FO Try.prog 28 0 0 := fun w b o => by simp [Instr.fieldAt, Instr.sureAddr, fieldPlace, underlying, Try.underlying28, go_sem, Addr.add]
theorem en63 : En Try.prog 63 := En.of Try.func63 rfl rfl
theorem fo28_1 : FO Try.prog 28 1 1 := fun w b o => by simp [Instr.fieldAt, Instr.sureAddr, fieldPlace, underlying, Try.underlying28, go_sem, Addr.add]
theorem ti26 : TI Try.prog 26 [.slice none 0 0] 24 := TI.of (z := .slice none 0 0) (by kernel_rfl) rfl rfl
theorem ag28 : AG Try.prog 28 true := fun w => by simp [isAgg, underlying, Try.underlying28, go_sem]
theorem en72 : En Try.prog 72 := En.of Try.func72 rfl rfl
theorem ag26 : AG Try.prog 26 false := fun w => by simp [isAgg, underlying, Try.underlying26, go_sem]
theorem en130 : En Try.prog 130 := En.of Try.func130 rfl rfl
theorem en61 : En Try.prog 61 := En.of Try.func61 rfl rfl
theorem en71 : En Try.prog 71 := En.of Try.func71 rfl rfl
theorem en73 : En Try.prog 73 := En.of Try.func73 rfl rfl
theorem en74 : En Try.prog 74 := En.of Try.func74 rfl rfl
theorem en75 : En Try.prog 75 := En.of Try.func75 rfl rfl
theorem en65 : En Try.prog 65 := En.of Try.func65 rfl rfl
theorem en134 : En Try.prog 134 := En.of Try.func134 rfl rfl
theorem en163 : En Try.prog 163 := En.of Try.func163 rfl rfl
theorem en133 : En Try.prog 133 := En.of Try.func133 rfl rfl
theorem en132 : En Try.prog 132 := En.of Try.func132 rfl rfl
theorem un26 : Try.prog.underlying 26 = some (.slice 85) := by kernel_rfl
theorem en136 : En Try.prog 136 := En.of Try.func136 rfl rfl
theorem en64 : En Try.prog 64 := En.of Try.func64 rfl rfl
theorem en76 : En Try.prog 76 := En.of Try.func76 rfl rfl
theorem en77 : En Try.prog 77 := En.of Try.func77 rfl rfl
theorem en135 : En Try.prog 135 := En.of Try.func135 rfl rfl
theorem en68 : En Try.prog 68 := En.of Try.func68 rfl rfl
theorem en69 : En Try.prog 69 := En.of Try.func69 rfl rfl
theorem en70 : En Try.prog 70 := En.of Try.func70 rfl rfl
theorem ag24 : AG Try.prog 24 true := fun w => by simp [isAgg, underlying, Try.underlying24, go_sem]
theorem ti24 : TI Try.prog 24 [.int .i64 0, .slice none 0 0] 32 := TI.of (z := .agg #[.int .i64 0, .slice none 0 0]) (by kernel_rfl) rfl rfl
theorem en15 : En Try.prog 15 := En.of Try.func15 rfl rfl
theorem en17 : En Try.prog 17 := En.of Try.func17 rfl rfl
theorem en22 : En Try.prog 22 := En.of Try.func22 rfl rfl
theorem en23 : En Try.prog 23 := En.of Try.func23 rfl rfl
theorem en19 : En Try.prog 19 := En.of Try.func19 rfl rfl
theorem en20 : En Try.prog 20 := En.of Try.func20 rfl rfl
theorem en21 : En Try.prog 21 := En.of Try.func21 rfl rfl

end Go.Proofs.Ytlpigpplfaehbaa
