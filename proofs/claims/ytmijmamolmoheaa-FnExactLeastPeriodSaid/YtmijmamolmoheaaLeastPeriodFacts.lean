/- The facts of the program that the proofs take. -/
import Derived.Test.YtmijmamolmoheaaLeastPeriodModels
import Derived.Test.YtmijmamolmoheaaRows
namespace Go.Proofs.Ytmijmamolmoheaa
open Go.RowKit

def LPlace.cells (x : LPlace) : List Value := [.int .i64 x.From, .int .i64 x.To, .int .i64 x.Delay, .int .i64 x.Tokens]
theorem LPlace.len (x : LPlace) : (LPlace.cells x).length = 4 := rfl
theorem LPlace.one (x : LPlace) : ∀ u ∈ LPlace.cells x, u.oneCell' = true := fun u hu => List.all_eq_true.1 (show (LPlace.cells x).all Value.oneCell' = true from rfl) u hu


def GPlace.cells (x : GPlace) : List Value := [.int .i64 x.From, .int .i64 x.To, .int .i64 x.Delay, .int .i64 x.Tokens]
theorem GPlace.len (x : GPlace) : (GPlace.cells x).length = 4 := rfl
theorem GPlace.one (x : GPlace) : ∀ u ∈ GPlace.cells x, u.oneCell' = true := fun u hu => List.all_eq_true.1 (show (GPlace.cells x).all Value.oneCell' = true from rfl) u hu


def GRatio.cells (x : GRatio) : List Value := [.int .i64 x.Num, .int .i64 x.Den]
theorem GRatio.len (x : GRatio) : (GRatio.cells x).length = 2 := rfl
theorem GRatio.one (x : GRatio) : ∀ u ∈ GRatio.cells x, u.oneCell' = true := fun u hu => List.all_eq_true.1 (show (GRatio.cells x).all Value.oneCell' = true from rfl) u hu

theorem el22 : EL Try.prog 22 134 := Try.underlying22
theorem fo24_1 : FO Try.prog 24 1 1 := fun w b o => by simp [Instr.fieldAt, Instr.sureAddr, fieldPlace, underlying, Try.underlying24, go_sem, Addr.add]
theorem ag22 : AG Try.prog 22 false := fun w => by simp [isAgg, underlying, Try.underlying22, go_sem]
theorem en70 : En Try.prog 70 := En.of Try.func70 rfl rfl
theorem ti120 : TI Try.prog 120 [.int .i64 0, .int .i64 0, .int .i64 0, .int .i64 0] 32 := TI.of (z := .agg #[.int .i64 0, .int .i64 0, .int .i64 0, .int .i64 0]) (by kernel_rfl) rfl rfl
theorem fo134_0 : FO Try.prog 134 0 0 := fun w b o => by simp [Instr.fieldAt, Instr.sureAddr, fieldPlace, underlying, Try.underlying134, go_sem, Addr.add]
theorem ag2 : AG Try.prog 2 false := fun w => by simp [isAgg, underlying, Try.underlying2, go_sem]
theorem fo120_0 : FO Try.prog 120 0 0 := fun w b o => by simp [Instr.fieldAt, Instr.sureAddr, fieldPlace, underlying, Try.underlying120, go_sem, Addr.add]
theorem ti2 : TI Try.prog 2 [.int .i64 0] 8 := TI.of (z := .int .i64 0) (by kernel_rfl) rfl rfl
theorem fo134_1 : FO Try.prog 134 1 1 := fun w b o => by simp [Instr.fieldAt, Instr.sureAddr, fieldPlace, underlying, Try.underlying134, go_sem, Addr.add]
theorem fo120_1 : FO Try.prog 120 1 1 := fun w b o => by simp [Instr.fieldAt, Instr.sureAddr, fieldPlace, underlying, Try.underlying120, go_sem, Addr.add]
theorem fo134_2 : FO Try.prog 134 2 2 := fun w b o => by simp [Instr.fieldAt, Instr.sureAddr, fieldPlace, underlying, Try.underlying134, go_sem, Addr.add]
theorem fo120_2 : FO Try.prog 120 2 2 := fun w b o => by simp [Instr.fieldAt, Instr.sureAddr, fieldPlace, underlying, Try.underlying120, go_sem, Addr.add]
theorem fo134_3 : FO Try.prog 134 3 3 := fun w b o => by simp [Instr.fieldAt, Instr.sureAddr, fieldPlace, underlying, Try.underlying134, go_sem, Addr.add]
theorem fo120_3 : FO Try.prog 120 3 3 := fun w b o => by simp [Instr.fieldAt, Instr.sureAddr, fieldPlace, underlying, Try.underlying120, go_sem, Addr.add]
theorem ag120 : AG Try.prog 120 true := fun w => by simp [isAgg, underlying, Try.underlying120, go_sem]
theorem el28 : EL Try.prog 28 120 := Try.underlying28
theorem ti134 : TI Try.prog 134 [.int .i64 0, .int .i64 0, .int .i64 0, .int .i64 0] 32 := TI.of (z := .agg #[.int .i64 0, .int .i64 0, .int .i64 0, .int .i64 0]) (by kernel_rfl) rfl rfl
theorem ag134 : AG Try.prog 134 true := fun w => by simp [isAgg, underlying, Try.underlying134, go_sem]
theorem en122 : En Try.prog 122 := En.of Try.func122 rfl rfl
theorem ti30 : TI Try.prog 30 [.int .i64 0, .slice none 0 0] 32 := TI.of (z := .agg #[.int .i64 0, .slice none 0 0]) (by kernel_rfl) rfl rfl
theorem fo24_0 : FO Try.prog 24 0 0 := fun w b o => by simp [Instr.fieldAt, Instr.sureAddr, fieldPlace, underlying, Try.underlying24, go_sem, Addr.add]
theorem fo30_0 : FO Try.prog 30 0 0 := fun w b o => by simp [Instr.fieldAt, Instr.sureAddr, fieldPlace, underlying, Try.underlying30, go_sem, Addr.add]
theorem en75 : En Try.prog 75 := En.of Try.func75 rfl rfl
theorem fo30_1 : FO Try.prog 30 1 1 := fun w b o => by simp [Instr.fieldAt, Instr.sureAddr, fieldPlace, underlying, Try.underlying30, go_sem, Addr.add]
theorem ti28 : TI Try.prog 28 [.slice none 0 0] 24 := TI.of (z := .slice none 0 0) (by kernel_rfl) rfl rfl
theorem ag30 : AG Try.prog 30 true := fun w => by simp [isAgg, underlying, Try.underlying30, go_sem]
theorem en119 : En Try.prog 119 := En.of Try.func119 rfl rfl
theorem ag28 : AG Try.prog 28 false := fun w => by simp [isAgg, underlying, Try.underlying28, go_sem]
theorem en118 : En Try.prog 118 := En.of Try.func118 rfl rfl
theorem el36 : EL Try.prog 36 2 := Try.underlying36
theorem en73 : En Try.prog 73 := En.of Try.func73 rfl rfl
theorem fo84_1 : FO Try.prog 84 1 1 := fun w b o => by simp [Instr.fieldAt, Instr.sureAddr, fieldPlace, underlying, Try.underlying84, go_sem, Addr.add]
theorem fo84_0 : FO Try.prog 84 0 0 := fun w b o => by simp [Instr.fieldAt, Instr.sureAddr, fieldPlace, underlying, Try.underlying84, go_sem, Addr.add]
theorem en159 : En Try.prog 159 := En.of Try.func159 rfl rfl
theorem ag84 : AG Try.prog 84 true := fun w => by simp [isAgg, underlying, Try.underlying84, go_sem]
theorem ti84 : TI Try.prog 84 [.int .i64 0, .int .i64 0] 16 := TI.of (z := .agg #[.int .i64 0, .int .i64 0]) (by kernel_rfl) rfl rfl
theorem en160 : En Try.prog 160 := En.of Try.func160 rfl rfl
theorem en120 : En Try.prog 120 := En.of Try.func120 rfl rfl
theorem en121 : En Try.prog 121 := En.of Try.func121 rfl rfl
theorem en71 : En Try.prog 71 := En.of Try.func71 rfl rfl
theorem en72 : En Try.prog 72 := En.of Try.func72 rfl rfl
theorem en74 : En Try.prog 74 := En.of Try.func74 rfl rfl
theorem en123 : En Try.prog 123 := En.of Try.func123 rfl rfl
theorem en162 : En Try.prog 162 := En.of Try.func162 rfl rfl
theorem en126 : En Try.prog 126 := En.of Try.func126 rfl rfl
theorem en161 : En Try.prog 161 := En.of Try.func161 rfl rfl
theorem en125 : En Try.prog 125 := En.of Try.func125 rfl rfl
theorem en124 : En Try.prog 124 := En.of Try.func124 rfl rfl
theorem en127 : En Try.prog 127 := En.of Try.func127 rfl rfl
theorem en128 : En Try.prog 128 := En.of Try.func128 rfl rfl
theorem en76 : En Try.prog 76 := En.of Try.func76 rfl rfl
theorem en77 : En Try.prog 77 := En.of Try.func77 rfl rfl
theorem un36 : Try.prog.underlying 36 = some (.slice 2) := by kernel_rfl
theorem en129 : En Try.prog 129 := En.of Try.func129 rfl rfl
theorem en78 : En Try.prog 78 := En.of Try.func78 rfl rfl
theorem ag24 : AG Try.prog 24 true := fun w => by simp [isAgg, underlying, Try.underlying24, go_sem]
theorem ti24 : TI Try.prog 24 [.int .i64 0, .slice none 0 0] 32 := TI.of (z := .agg #[.int .i64 0, .slice none 0 0]) (by kernel_rfl) rfl rfl
theorem en16 : En Try.prog 16 := En.of Try.func16 rfl rfl
theorem en18 : En Try.prog 18 := En.of Try.func18 rfl rfl
theorem en17 : En Try.prog 17 := En.of Try.func17 rfl rfl
theorem en19 : En Try.prog 19 := En.of Try.func19 rfl rfl
theorem en20 : En Try.prog 20 := En.of Try.func20 rfl rfl

end Go.Proofs.Ytmijmamolmoheaa
