/- The facts of the program that the proofs take. -/
import Derived.Test.YtpmebacdmilecaaPartOfGraphModels
import Derived.Test.YtpmebacdmilecaaLiftP
import Derived.Test.YtpmebacdmilecaaRows
namespace Go.Proofs.Ytpmebacdmilecaa
open Go.RowKit

def LPlace.cells (x : LPlace) : List Value := [.int .i64 x.From, .int .i64 x.To, .int .i64 x.Delay, .int .i64 x.Tokens]
theorem LPlace.len (x : LPlace) : (LPlace.cells x).length = 4 := rfl
theorem LPlace.one (x : LPlace) : ∀ u ∈ LPlace.cells x, u.oneCell' = true := fun u hu => List.all_eq_true.1 (show (LPlace.cells x).all Value.oneCell' = true from rfl) u hu


def GPlace.cells (x : GPlace) : List Value := [.int .i64 x.From, .int .i64 x.To, .int .i64 x.Delay, .int .i64 x.Tokens]
theorem GPlace.len (x : GPlace) : (GPlace.cells x).length = 4 := rfl
theorem GPlace.one (x : GPlace) : ∀ u ∈ GPlace.cells x, u.oneCell' = true := fun u hu => List.all_eq_true.1 (show (GPlace.cells x).all Value.oneCell' = true from rfl) u hu


theorem el33 : EL Try.prog 33 131 := Try.underlying33
theorem fo35_1 : FO Try.prog 35 1 1 := fun w b o => by simp [Instr.fieldAt, Instr.sureAddr, fieldPlace, underlying, Try.underlying35, go_sem, Addr.add]
theorem ag33 : AG Try.prog 33 false := fun w => by simp [isAgg, underlying, Try.underlying33, go_sem]
theorem en74 : En Try.prog 74 := En.of Try.func74 rfl rfl
theorem ti96 : TI Try.prog 96 [.int .i64 0, .int .i64 0, .int .i64 0, .int .i64 0] 32 := TI.of (z := .agg #[.int .i64 0, .int .i64 0, .int .i64 0, .int .i64 0]) (by kernel_rfl) rfl rfl
theorem fo131_0 : FO Try.prog 131 0 0 := fun w b o => by simp [Instr.fieldAt, Instr.sureAddr, fieldPlace, underlying, Try.underlying131, go_sem, Addr.add]
theorem ag2 : AG Try.prog 2 false := fun w => by simp [isAgg, underlying, Try.underlying2, go_sem]
theorem fo96_0 : FO Try.prog 96 0 0 := fun w b o => by simp [Instr.fieldAt, Instr.sureAddr, fieldPlace, underlying, Try.underlying96, go_sem, Addr.add]
theorem ti2 : TI Try.prog 2 [.int .i64 0] 8 := TI.of (z := .int .i64 0) (by kernel_rfl) rfl rfl
theorem fo131_1 : FO Try.prog 131 1 1 := fun w b o => by simp [Instr.fieldAt, Instr.sureAddr, fieldPlace, underlying, Try.underlying131, go_sem, Addr.add]
theorem fo96_1 : FO Try.prog 96 1 1 := fun w b o => by simp [Instr.fieldAt, Instr.sureAddr, fieldPlace, underlying, Try.underlying96, go_sem, Addr.add]
theorem fo131_2 : FO Try.prog 131 2 2 := fun w b o => by simp [Instr.fieldAt, Instr.sureAddr, fieldPlace, underlying, Try.underlying131, go_sem, Addr.add]
theorem fo96_2 : FO Try.prog 96 2 2 := fun w b o => by simp [Instr.fieldAt, Instr.sureAddr, fieldPlace, underlying, Try.underlying96, go_sem, Addr.add]
theorem fo131_3 : FO Try.prog 131 3 3 := fun w b o => by simp [Instr.fieldAt, Instr.sureAddr, fieldPlace, underlying, Try.underlying131, go_sem, Addr.add]
theorem fo96_3 : FO Try.prog 96 3 3 := fun w b o => by simp [Instr.fieldAt, Instr.sureAddr, fieldPlace, underlying, Try.underlying96, go_sem, Addr.add]
theorem ag96 : AG Try.prog 96 true := fun w => by simp [isAgg, underlying, Try.underlying96, go_sem]
theorem el37 : EL Try.prog 37 96 := Try.underlying37
theorem ti131 : TI Try.prog 131 [.int .i64 0, .int .i64 0, .int .i64 0, .int .i64 0] 32 := TI.of (z := .agg #[.int .i64 0, .int .i64 0, .int .i64 0, .int .i64 0]) (by kernel_rfl) rfl rfl
theorem ag131 : AG Try.prog 131 true := fun w => by simp [isAgg, underlying, Try.underlying131, go_sem]
theorem en146 : En Try.prog 146 := En.of Try.func146 rfl rfl
theorem ti39 : TI Try.prog 39 [.int .i64 0, .slice none 0 0] 32 := TI.of (z := .agg #[.int .i64 0, .slice none 0 0]) (by kernel_rfl) rfl rfl
theorem fo35_0 : FO Try.prog 35 0 0 := fun w b o => by simp [Instr.fieldAt, Instr.sureAddr, fieldPlace, underlying, Try.underlying35, go_sem, Addr.add]
theorem fo39_0 : FO Try.prog 39 0 0 := fun w b o => by simp [Instr.fieldAt, Instr.sureAddr, fieldPlace, underlying, Try.underlying39, go_sem, Addr.add]
theorem en78 : En Try.prog 78 := En.of Try.func78 rfl rfl
theorem fo39_1 : FO Try.prog 39 1 1 := fun w b o => by simp [Instr.fieldAt, Instr.sureAddr, fieldPlace, underlying, Try.underlying39, go_sem, Addr.add]
theorem ti37 : TI Try.prog 37 [.slice none 0 0] 24 := TI.of (z := .slice none 0 0) (by kernel_rfl) rfl rfl
theorem ag39 : AG Try.prog 39 true := fun w => by simp [isAgg, underlying, Try.underlying39, go_sem]
theorem el23 : EL Try.prog 23 2 := Try.underlying23
theorem en63 : En Try.prog 63 := En.of Try.func63 rfl rfl
theorem ag37 : AG Try.prog 37 false := fun w => by simp [isAgg, underlying, Try.underlying37, go_sem]
theorem en144 : En Try.prog 144 := En.of Try.func144 rfl rfl
theorem el46 : EL Try.prog 46 23 := Try.underlying46
theorem ti23 : TI Try.prog 23 [.slice none 0 0] 24 := TI.of (z := .slice none 0 0) (by kernel_rfl) rfl rfl
theorem en75 : En Try.prog 75 := En.of Try.func75 rfl rfl
theorem en87 : En Try.prog 87 := En.of Try.func87 rfl rfl
theorem ag23 : AG Try.prog 23 false := fun w => by simp [isAgg, underlying, Try.underlying23, go_sem]
theorem en77 : En Try.prog 77 := En.of Try.func77 rfl rfl
theorem en69 : En Try.prog 69 := En.of Try.func69 rfl rfl
theorem en181 : En Try.prog 181 := En.of Try.func181 rfl rfl
theorem en149 : En Try.prog 149 := En.of Try.func149 rfl rfl
theorem en151 : En Try.prog 151 := En.of Try.func151 rfl rfl
theorem en148 : En Try.prog 148 := En.of Try.func148 rfl rfl
theorem en147 : En Try.prog 147 := En.of Try.func147 rfl rfl
theorem en90 : En Try.prog 90 := En.of Try.func90 rfl rfl
theorem en79 : En Try.prog 79 := En.of Try.func79 rfl rfl
theorem en80 : En Try.prog 80 := En.of Try.func80 rfl rfl
theorem en88 : En Try.prog 88 := En.of Try.func88 rfl rfl
theorem en89 : En Try.prog 89 := En.of Try.func89 rfl rfl
theorem en82 : En Try.prog 82 := En.of Try.func82 rfl rfl
theorem en92 : En Try.prog 92 := En.of Try.func92 rfl rfl
theorem en91 : En Try.prog 91 := En.of Try.func91 rfl rfl
theorem en150 : En Try.prog 150 := En.of Try.func150 rfl rfl
theorem en84 : En Try.prog 84 := En.of Try.func84 rfl rfl
theorem en85 : En Try.prog 85 := En.of Try.func85 rfl rfl
theorem en86 : En Try.prog 86 := En.of Try.func86 rfl rfl
theorem ag35 : AG Try.prog 35 true := fun w => by simp [isAgg, underlying, Try.underlying35, go_sem]
theorem ti35 : TI Try.prog 35 [.int .i64 0, .slice none 0 0] 32 := TI.of (z := .agg #[.int .i64 0, .slice none 0 0]) (by kernel_rfl) rfl rfl
theorem en24 : En Try.prog 24 := En.of Try.func24 rfl rfl
theorem en26 : En Try.prog 26 := En.of Try.func26 rfl rfl
theorem en17 : En Try.prog 17 := En.of Try.func17 rfl rfl
theorem en31 : En Try.prog 31 := En.of Try.func31 rfl rfl
theorem en32 : En Try.prog 32 := En.of Try.func32 rfl rfl
theorem en28 : En Try.prog 28 := En.of Try.func28 rfl rfl
theorem en19 : En Try.prog 19 := En.of Try.func19 rfl rfl
theorem en29 : En Try.prog 29 := En.of Try.func29 rfl rfl
theorem en22 : En Try.prog 22 := En.of Try.func22 rfl rfl
theorem en30 : En Try.prog 30 := En.of Try.func30 rfl rfl

end Go.Proofs.Ytpmebacdmilecaa
