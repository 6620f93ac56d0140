/- The facts of the program that the proofs take. -/
import Derived.Test.YthbcakdjdbfepaaDelayedEventsModels
import Derived.Test.YthbcakdjdbfepaaRows
namespace Go.Proofs.Ythbcakdjdbfepaa
open Go.RowKit

def LPlace.cells (x : LPlace) : List Value := [.int .i64 x.From, .int .i64 x.To, .int .i64 x.Delay, .int .i64 x.Tokens]
theorem LPlace.len (x : LPlace) : (LPlace.cells x).length = 4 := rfl
theorem LPlace.one (x : LPlace) : ∀ u ∈ LPlace.cells x, u.oneCell' = true := fun u hu => List.all_eq_true.1 (show (LPlace.cells x).all Value.oneCell' = true from rfl) u hu



def GPlace.cells (x : GPlace) : List Value := [.int .i64 x.From, .int .i64 x.To, .int .i64 x.Delay, .int .i64 x.Tokens]
theorem GPlace.len (x : GPlace) : (GPlace.cells x).length = 4 := rfl
theorem GPlace.one (x : GPlace) : ∀ u ∈ GPlace.cells x, u.oneCell' = true := fun u hu => List.all_eq_true.1 (show (GPlace.cells x).all Value.oneCell' = true from rfl) u hu



theorem el22 : EL Try.prog 22 99 := Try.underlying22
theorem fo24_1 : FO Try.prog 24 1 1 := fun w b o => by simp [Instr.fieldAt, Instr.sureAddr, fieldPlace, underlying, Try.underlying24, go_sem, Addr.add]
theorem ag22 : AG Try.prog 22 false := fun w => by simp [isAgg, underlying, Try.underlying22, go_sem]
theorem en57 : En Try.prog 57 := En.of Try.func57 rfl rfl
theorem el25 : EL Try.prog 25 2 := Try.underlying25
theorem fo27_1 : FO Try.prog 27 1 1 := fun w b o => by simp [Instr.fieldAt, Instr.sureAddr, fieldPlace, underlying, Try.underlying27, go_sem, Addr.add]
theorem ag25 : AG Try.prog 25 false := fun w => by simp [isAgg, underlying, Try.underlying25, go_sem]
theorem en58 : En Try.prog 58 := En.of Try.func58 rfl rfl
theorem ti71 : TI Try.prog 71 [.int .i64 0, .int .i64 0, .int .i64 0, .int .i64 0] 32 := TI.of (z := .agg #[.int .i64 0, .int .i64 0, .int .i64 0, .int .i64 0]) (by kernel_rfl) rfl rfl
theorem fo99_0 : FO Try.prog 99 0 0 := fun w b o => by simp [Instr.fieldAt, Instr.sureAddr, fieldPlace, underlying, Try.underlying99, go_sem, Addr.add]
theorem ag2 : AG Try.prog 2 false := fun w => by simp [isAgg, underlying, Try.underlying2, go_sem]
theorem fo71_0 : FO Try.prog 71 0 0 := fun w b o => by simp [Instr.fieldAt, Instr.sureAddr, fieldPlace, underlying, Try.underlying71, go_sem, Addr.add]
theorem ti2 : TI Try.prog 2 [.int .i64 0] 8 := TI.of (z := .int .i64 0) (by kernel_rfl) rfl rfl
theorem fo99_1 : FO Try.prog 99 1 1 := fun w b o => by simp [Instr.fieldAt, Instr.sureAddr, fieldPlace, underlying, Try.underlying99, go_sem, Addr.add]
theorem fo71_1 : FO Try.prog 71 1 1 := fun w b o => by simp [Instr.fieldAt, Instr.sureAddr, fieldPlace, underlying, Try.underlying71, go_sem, Addr.add]
theorem fo99_2 : FO Try.prog 99 2 2 := fun w b o => by simp [Instr.fieldAt, Instr.sureAddr, fieldPlace, underlying, Try.underlying99, go_sem, Addr.add]
theorem fo71_2 : FO Try.prog 71 2 2 := fun w b o => by simp [Instr.fieldAt, Instr.sureAddr, fieldPlace, underlying, Try.underlying71, go_sem, Addr.add]
theorem fo99_3 : FO Try.prog 99 3 3 := fun w b o => by simp [Instr.fieldAt, Instr.sureAddr, fieldPlace, underlying, Try.underlying99, go_sem, Addr.add]
theorem fo71_3 : FO Try.prog 71 3 3 := fun w b o => by simp [Instr.fieldAt, Instr.sureAddr, fieldPlace, underlying, Try.underlying71, go_sem, Addr.add]
theorem ag71 : AG Try.prog 71 true := fun w => by simp [isAgg, underlying, Try.underlying71, go_sem]
theorem el32 : EL Try.prog 32 71 := Try.underlying32
theorem ti99 : TI Try.prog 99 [.int .i64 0, .int .i64 0, .int .i64 0, .int .i64 0] 32 := TI.of (z := .agg #[.int .i64 0, .int .i64 0, .int .i64 0, .int .i64 0]) (by kernel_rfl) rfl rfl
theorem ag99 : AG Try.prog 99 true := fun w => by simp [isAgg, underlying, Try.underlying99, go_sem]
theorem en102 : En Try.prog 102 := En.of Try.func102 rfl rfl
theorem ti34 : TI Try.prog 34 [.int .i64 0, .slice none 0 0] 32 := TI.of (z := .agg #[.int .i64 0, .slice none 0 0]) (by kernel_rfl) rfl rfl
theorem fo24_0 : FO Try.prog 24 0 0 := fun w b o => by simp [Instr.fieldAt, Instr.sureAddr, fieldPlace, underlying, Try.underlying24, go_sem, Addr.add]
theorem fo34_0 : FO Try.prog 34 0 0 := fun w b o => by simp [Instr.fieldAt, Instr.sureAddr, fieldPlace, underlying, Try.underlying34, go_sem, Addr.add]
theorem en63 : En Try.prog 63 := En.of Try.func63 rfl rfl
theorem fo34_1 : FO Try.prog 34 1 1 := fun w b o => by simp [Instr.fieldAt, Instr.sureAddr, fieldPlace, underlying, Try.underlying34, go_sem, Addr.add]
theorem ti32 : TI Try.prog 32 [.slice none 0 0] 24 := TI.of (z := .slice none 0 0) (by kernel_rfl) rfl rfl
theorem ag34 : AG Try.prog 34 true := fun w => by simp [isAgg, underlying, Try.underlying34, go_sem]
theorem ti36 : TI Try.prog 36 [.int .i64 0, .slice none 0 0] 32 := TI.of (z := .agg #[.int .i64 0, .slice none 0 0]) (by kernel_rfl) rfl rfl
theorem fo27_0 : FO Try.prog 27 0 0 := fun w b o => by simp [Instr.fieldAt, Instr.sureAddr, fieldPlace, underlying, Try.underlying27, go_sem, Addr.add]
theorem fo36_0 : FO Try.prog 36 0 0 := fun w b o => by simp [Instr.fieldAt, Instr.sureAddr, fieldPlace, underlying, Try.underlying36, go_sem, Addr.add]
theorem en32 : En Try.prog 32 := En.of Try.func32 rfl rfl
theorem fo36_1 : FO Try.prog 36 1 1 := fun w b o => by simp [Instr.fieldAt, Instr.sureAddr, fieldPlace, underlying, Try.underlying36, go_sem, Addr.add]
theorem ti25 : TI Try.prog 25 [.slice none 0 0] 24 := TI.of (z := .slice none 0 0) (by kernel_rfl) rfl rfl
theorem ag36 : AG Try.prog 36 true := fun w => by simp [isAgg, underlying, Try.underlying36, go_sem]
theorem en61 : En Try.prog 61 := En.of Try.func61 rfl rfl
theorem ag32 : AG Try.prog 32 false := fun w => by simp [isAgg, underlying, Try.underlying32, go_sem]
theorem en131 : En Try.prog 131 := En.of Try.func131 rfl rfl
theorem en116 : En Try.prog 116 := En.of Try.func116 rfl rfl
theorem en99 : En Try.prog 99 := En.of Try.func99 rfl rfl
theorem en94 : En Try.prog 94 := En.of Try.func94 rfl rfl
theorem el41 : EL Try.prog 41 25 := Try.underlying41
theorem en135 : En Try.prog 135 := En.of Try.func135 rfl rfl
theorem en125 : En Try.prog 125 := En.of Try.func125 rfl rfl
theorem en109 : En Try.prog 109 := En.of Try.func109 rfl rfl
theorem en134 : En Try.prog 134 := En.of Try.func134 rfl rfl
theorem en122 : En Try.prog 122 := En.of Try.func122 rfl rfl
theorem en121 : En Try.prog 121 := En.of Try.func121 rfl rfl
theorem en62 : En Try.prog 62 := En.of Try.func62 rfl rfl
theorem en91 : En Try.prog 91 := En.of Try.func91 rfl rfl
theorem en100 : En Try.prog 100 := En.of Try.func100 rfl rfl
theorem en101 : En Try.prog 101 := En.of Try.func101 rfl rfl
theorem en108 : En Try.prog 108 := En.of Try.func108 rfl rfl
theorem en60 : En Try.prog 60 := En.of Try.func60 rfl rfl
theorem en59 : En Try.prog 59 := En.of Try.func59 rfl rfl
theorem en78 : En Try.prog 78 := En.of Try.func78 rfl rfl
theorem en65 : En Try.prog 65 := En.of Try.func65 rfl rfl
theorem en133 : En Try.prog 133 := En.of Try.func133 rfl rfl
theorem en120 : En Try.prog 120 := En.of Try.func120 rfl rfl
theorem en132 : En Try.prog 132 := En.of Try.func132 rfl rfl
theorem en119 : En Try.prog 119 := En.of Try.func119 rfl rfl
theorem en118 : En Try.prog 118 := En.of Try.func118 rfl rfl
theorem en103 : En Try.prog 103 := En.of Try.func103 rfl rfl
theorem en138 : En Try.prog 138 := En.of Try.func138 rfl rfl
theorem en128 : En Try.prog 128 := En.of Try.func128 rfl rfl
theorem en129 : En Try.prog 129 := En.of Try.func129 rfl rfl
theorem en111 : En Try.prog 111 := En.of Try.func111 rfl rfl
theorem en136 : En Try.prog 136 := En.of Try.func136 rfl rfl
theorem en66 : En Try.prog 66 := En.of Try.func66 rfl rfl
theorem en124 : En Try.prog 124 := En.of Try.func124 rfl rfl
theorem en123 : En Try.prog 123 := En.of Try.func123 rfl rfl
theorem en95 : En Try.prog 95 := En.of Try.func95 rfl rfl
theorem en96 : En Try.prog 96 := En.of Try.func96 rfl rfl
theorem en104 : En Try.prog 104 := En.of Try.func104 rfl rfl
theorem en105 : En Try.prog 105 := En.of Try.func105 rfl rfl
theorem en64 : En Try.prog 64 := En.of Try.func64 rfl rfl
theorem en79 : En Try.prog 79 := En.of Try.func79 rfl rfl
theorem en80 : En Try.prog 80 := En.of Try.func80 rfl rfl
theorem en106 : En Try.prog 106 := En.of Try.func106 rfl rfl
theorem en67 : En Try.prog 67 := En.of Try.func67 rfl rfl
theorem en34 : En Try.prog 34 := En.of Try.func34 rfl rfl
theorem en75 : En Try.prog 75 := En.of Try.func75 rfl rfl
theorem en38 : En Try.prog 38 := En.of Try.func38 rfl rfl
theorem ag24 : AG Try.prog 24 true := fun w => by simp [isAgg, underlying, Try.underlying24, go_sem]
theorem ti24 : TI Try.prog 24 [.int .i64 0, .slice none 0 0] 32 := TI.of (z := .agg #[.int .i64 0, .slice none 0 0]) (by kernel_rfl) rfl rfl
theorem en15 : En Try.prog 15 := En.of Try.func15 rfl rfl
theorem ag27 : AG Try.prog 27 true := fun w => by simp [isAgg, underlying, Try.underlying27, go_sem]
theorem ti27 : TI Try.prog 27 [.int .i64 0, .slice none 0 0] 32 := TI.of (z := .agg #[.int .i64 0, .slice none 0 0]) (by kernel_rfl) rfl rfl
theorem en16 : En Try.prog 16 := En.of Try.func16 rfl rfl
theorem en18 : En Try.prog 18 := En.of Try.func18 rfl rfl
theorem en19 : En Try.prog 19 := En.of Try.func19 rfl rfl
theorem en42 : En Try.prog 42 := En.of Try.func42 rfl rfl
theorem en43 : En Try.prog 43 := En.of Try.func43 rfl rfl
theorem en21 : En Try.prog 21 := En.of Try.func21 rfl rfl
theorem en22 : En Try.prog 22 := En.of Try.func22 rfl rfl
theorem en28 : En Try.prog 28 := En.of Try.func28 rfl rfl
theorem en37 : En Try.prog 37 := En.of Try.func37 rfl rfl
theorem en41 : En Try.prog 41 := En.of Try.func41 rfl rfl

end Go.Proofs.Ythbcakdjdbfepaa
