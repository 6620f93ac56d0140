/- The facts of the program that the proofs take. -/
import Derived.Test.YtmijmamolmoheaaFindTourModels
import Derived.Test.YtmijmamolmoheaaRows
namespace Go.Proofs.Ytmijmamolmoheaa
open Go.RowKit

def LWindow.cells (x : LWindow) : List Value := [.int .i64 x.Low, .int .i64 x.High]
theorem LWindow.len (x : LWindow) : (LWindow.cells x).length = 2 := rfl
theorem LWindow.one (x : LWindow) : ∀ u ∈ LWindow.cells x, u.oneCell' = true := fun u hu => List.all_eq_true.1 (show (LWindow.cells x).all Value.oneCell' = true from rfl) u hu

def LBond.cells (x : LBond) : List Value := [.int .i64 x.From, .int .i64 x.To, .int .i64 x.Least]
theorem LBond.len (x : LBond) : (LBond.cells x).length = 3 := rfl
theorem LBond.one (x : LBond) : ∀ u ∈ LBond.cells x, u.oneCell' = true := fun u hu => List.all_eq_true.1 (show (LBond.cells x).all Value.oneCell' = true from rfl) u hu

def GWindow.cells (x : GWindow) : List Value := [.int .i64 x.Low, .int .i64 x.High]
theorem GWindow.len (x : GWindow) : (GWindow.cells x).length = 2 := rfl
theorem GWindow.one (x : GWindow) : ∀ u ∈ GWindow.cells x, u.oneCell' = true := fun u hu => List.all_eq_true.1 (show (GWindow.cells x).all Value.oneCell' = true from rfl) u hu

def GBond.cells (x : GBond) : List Value := [.int .i64 x.From, .int .i64 x.To, .int .i64 x.Least]
theorem GBond.len (x : GBond) : (GBond.cells x).length = 3 := rfl
theorem GBond.one (x : GBond) : ∀ u ∈ GBond.cells x, u.oneCell' = true := fun u hu => List.all_eq_true.1 (show (GBond.cells x).all Value.oneCell' = true from rfl) u hu

theorem el48 : EL Try.prog 48 105 := Try.underlying48
theorem el49 : EL Try.prog 49 109 := Try.underlying49
theorem ti103 : TI Try.prog 103 [.int .i64 0, .int .i64 0] 16 := TI.of (z := .agg #[.int .i64 0, .int .i64 0]) (by kernel_rfl) rfl rfl
theorem fo105_0 : FO Try.prog 105 0 0 := fun w b o => by simp [Instr.fieldAt, Instr.sureAddr, fieldPlace, underlying, Try.underlying105, go_sem, Addr.add]
theorem ag2 : AG Try.prog 2 false := fun w => by simp [isAgg, underlying, Try.underlying2, go_sem]
theorem fo103_0 : FO Try.prog 103 0 0 := fun w b o => by simp [Instr.fieldAt, Instr.sureAddr, fieldPlace, underlying, Try.underlying103, go_sem, Addr.add]
theorem ti2 : TI Try.prog 2 [.int .i64 0] 8 := TI.of (z := .int .i64 0) (by kernel_rfl) rfl rfl
theorem fo105_1 : FO Try.prog 105 1 1 := fun w b o => by simp [Instr.fieldAt, Instr.sureAddr, fieldPlace, underlying, Try.underlying105, go_sem, Addr.add]
theorem fo103_1 : FO Try.prog 103 1 1 := fun w b o => by simp [Instr.fieldAt, Instr.sureAddr, fieldPlace, underlying, Try.underlying103, go_sem, Addr.add]
theorem ag103 : AG Try.prog 103 true := fun w => by simp [isAgg, underlying, Try.underlying103, go_sem]
theorem el53 : EL Try.prog 53 103 := Try.underlying53
theorem ti105 : TI Try.prog 105 [.int .i64 0, .int .i64 0] 16 := TI.of (z := .agg #[.int .i64 0, .int .i64 0]) (by kernel_rfl) rfl rfl
theorem ag105 : AG Try.prog 105 true := fun w => by simp [isAgg, underlying, Try.underlying105, go_sem]
theorem en95 : En Try.prog 95 := En.of Try.func95 rfl rfl
theorem ti107 : TI Try.prog 107 [.int .i64 0, .int .i64 0, .int .i64 0] 24 := TI.of (z := .agg #[.int .i64 0, .int .i64 0, .int .i64 0]) (by kernel_rfl) rfl rfl
theorem fo109_0 : FO Try.prog 109 0 0 := fun w b o => by simp [Instr.fieldAt, Instr.sureAddr, fieldPlace, underlying, Try.underlying109, go_sem, Addr.add]
theorem fo107_0 : FO Try.prog 107 0 0 := fun w b o => by simp [Instr.fieldAt, Instr.sureAddr, fieldPlace, underlying, Try.underlying107, go_sem, Addr.add]
theorem fo109_1 : FO Try.prog 109 1 1 := fun w b o => by simp [Instr.fieldAt, Instr.sureAddr, fieldPlace, underlying, Try.underlying109, go_sem, Addr.add]
theorem fo107_1 : FO Try.prog 107 1 1 := fun w b o => by simp [Instr.fieldAt, Instr.sureAddr, fieldPlace, underlying, Try.underlying107, go_sem, Addr.add]
theorem fo109_2 : FO Try.prog 109 2 2 := fun w b o => by simp [Instr.fieldAt, Instr.sureAddr, fieldPlace, underlying, Try.underlying109, go_sem, Addr.add]
theorem fo107_2 : FO Try.prog 107 2 2 := fun w b o => by simp [Instr.fieldAt, Instr.sureAddr, fieldPlace, underlying, Try.underlying107, go_sem, Addr.add]
theorem ag107 : AG Try.prog 107 true := fun w => by simp [isAgg, underlying, Try.underlying107, go_sem]
theorem el55 : EL Try.prog 55 107 := Try.underlying55
theorem ti109 : TI Try.prog 109 [.int .i64 0, .int .i64 0, .int .i64 0] 24 := TI.of (z := .agg #[.int .i64 0, .int .i64 0, .int .i64 0]) (by kernel_rfl) rfl rfl
theorem ag109 : AG Try.prog 109 true := fun w => by simp [isAgg, underlying, Try.underlying109, go_sem]
theorem en96 : En Try.prog 96 := En.of Try.func96 rfl rfl
theorem en119 : En Try.prog 119 := En.of Try.func119 rfl rfl
theorem en140 : En Try.prog 140 := En.of Try.func140 rfl rfl
theorem el34 : EL Try.prog 34 36 := Try.underlying34
theorem ti36 : TI Try.prog 36 [.slice none 0 0] 24 := TI.of (z := .slice none 0 0) (by kernel_rfl) rfl rfl
theorem el36 : EL Try.prog 36 2 := Try.underlying36
theorem en141 : En Try.prog 141 := En.of Try.func141 rfl rfl
theorem ag36 : AG Try.prog 36 false := fun w => by simp [isAgg, underlying, Try.underlying36, go_sem]
theorem en164 : En Try.prog 164 := En.of Try.func164 rfl rfl
theorem en160 : En Try.prog 160 := En.of Try.func160 rfl rfl
theorem en131 : En Try.prog 131 := En.of Try.func131 rfl rfl
theorem en93 : En Try.prog 93 := En.of Try.func93 rfl rfl
theorem en94 : En Try.prog 94 := En.of Try.func94 rfl rfl
theorem en81 : En Try.prog 81 := En.of Try.func81 rfl rfl
theorem en123 : En Try.prog 123 := En.of Try.func123 rfl rfl
theorem en144 : En Try.prog 144 := En.of Try.func144 rfl rfl
theorem en172 : En Try.prog 172 := En.of Try.func172 rfl rfl
theorem en143 : En Try.prog 143 := En.of Try.func143 rfl rfl
theorem en142 : En Try.prog 142 := En.of Try.func142 rfl rfl
theorem en171 : En Try.prog 171 := En.of Try.func171 rfl rfl
theorem en168 : En Try.prog 168 := En.of Try.func168 rfl rfl
theorem en138 : En Try.prog 138 := En.of Try.func138 rfl rfl
theorem en189 : En Try.prog 189 := En.of Try.func189 rfl rfl
theorem en185 : En Try.prog 185 := En.of Try.func185 rfl rfl
theorem en184 : En Try.prog 184 := En.of Try.func184 rfl rfl
theorem en183 : En Try.prog 183 := En.of Try.func183 rfl rfl
theorem ag34 : AG Try.prog 34 false := fun w => by simp [isAgg, underlying, Try.underlying34, go_sem]
theorem en167 : En Try.prog 167 := En.of Try.func167 rfl rfl
theorem en182 : En Try.prog 182 := En.of Try.func182 rfl rfl
theorem en166 : En Try.prog 166 := En.of Try.func166 rfl rfl
theorem en165 : En Try.prog 165 := En.of Try.func165 rfl rfl
theorem en132 : En Try.prog 132 := En.of Try.func132 rfl rfl
theorem en170 : En Try.prog 170 := En.of Try.func170 rfl rfl
theorem en169 : En Try.prog 169 := En.of Try.func169 rfl rfl
theorem en134 : En Try.prog 134 := En.of Try.func134 rfl rfl
theorem en133 : En Try.prog 133 := En.of Try.func133 rfl rfl
theorem en135 : En Try.prog 135 := En.of Try.func135 rfl rfl
theorem fo146_2 : FO Try.prog 146 2 2 := fun w b o => by simp [Instr.fieldAt, Instr.sureAddr, fieldPlace, underlying, Try.underlying146, go_sem, Addr.add]
theorem fo146_0 : FO Try.prog 146 0 0 := fun w b o => by simp [Instr.fieldAt, Instr.sureAddr, fieldPlace, underlying, Try.underlying146, go_sem, Addr.add]
theorem fo146_1 : FO Try.prog 146 1 1 := fun w b o => by simp [Instr.fieldAt, Instr.sureAddr, fieldPlace, underlying, Try.underlying146, go_sem, Addr.add]
theorem ag94 : AG Try.prog 94 false := fun w => by simp [isAgg, underlying, Try.underlying94, go_sem]
theorem fo146_3 : FO Try.prog 146 3 3 := fun w b o => by simp [Instr.fieldAt, Instr.sureAddr, fieldPlace, underlying, Try.underlying146, go_sem, Addr.add]
theorem ag144 : AG Try.prog 144 false := fun w => by simp [isAgg, underlying, Try.underlying144, go_sem]
theorem el144 : EL Try.prog 144 4 := Try.underlying144
theorem ti4 : TI Try.prog 4 [.bool false] 1 := TI.of (z := .bool false) (by kernel_rfl) rfl rfl
theorem ag4 : AG Try.prog 4 false := fun w => by simp [isAgg, underlying, Try.underlying4, go_sem]
theorem en136 : En Try.prog 136 := En.of Try.func136 rfl rfl
theorem ti146 : TI Try.prog 146 [.slice none 0 0, .nilFunc, .slice none 0 0, .slice none 0 0] 80 := TI.of (z := .agg #[.slice none 0 0, .nilFunc, .slice none 0 0, .slice none 0 0]) (by kernel_rfl) rfl rfl
theorem en82 : En Try.prog 82 := En.of Try.func82 rfl rfl
theorem en83 : En Try.prog 83 := En.of Try.func83 rfl rfl
theorem en85 : En Try.prog 85 := En.of Try.func85 rfl rfl
theorem en84 : En Try.prog 84 := En.of Try.func84 rfl rfl
theorem en97 : En Try.prog 97 := En.of Try.func97 rfl rfl
theorem en98 : En Try.prog 98 := En.of Try.func98 rfl rfl
theorem en24 : En Try.prog 24 := En.of Try.func24 rfl rfl
theorem en99 : En Try.prog 99 := En.of Try.func99 rfl rfl
theorem en100 : En Try.prog 100 := En.of Try.func100 rfl rfl
theorem en35 : En Try.prog 35 := En.of Try.func35 rfl rfl
theorem en36 : En Try.prog 36 := En.of Try.func36 rfl rfl
theorem en38 : En Try.prog 38 := En.of Try.func38 rfl rfl
theorem en39 : En Try.prog 39 := En.of Try.func39 rfl rfl
theorem en37 : En Try.prog 37 := En.of Try.func37 rfl rfl
theorem en40 : En Try.prog 40 := En.of Try.func40 rfl rfl
theorem en25 : En Try.prog 25 := En.of Try.func25 rfl rfl
theorem en41 : En Try.prog 41 := En.of Try.func41 rfl rfl
theorem en42 : En Try.prog 42 := En.of Try.func42 rfl rfl
theorem en43 : En Try.prog 43 := En.of Try.func43 rfl rfl
theorem en44 : En Try.prog 44 := En.of Try.func44 rfl rfl
theorem en28 : En Try.prog 28 := En.of Try.func28 rfl rfl
theorem en29 : En Try.prog 29 := En.of Try.func29 rfl rfl

end Go.Proofs.Ytmijmamolmoheaa
