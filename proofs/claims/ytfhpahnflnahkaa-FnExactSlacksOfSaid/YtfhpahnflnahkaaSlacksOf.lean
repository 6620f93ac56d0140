/- SlacksOf: the reference's list and the program's. -/
import Derived.Test.YtfhpahnflnahkaaSlacksI
namespace Go.Proofs.Ytfhpahnflnahkaa
open Go.RowKit

set_option maxRecDepth 100000 in
set_option maxHeartbeats 1000000 in
theorem specSlacksOf_any (ev : Int) (A : Option Addr) (n c : Nat) (f : Nat → Nat → Int) (p : Int) (B : Option Addr) (m d : Nat) (x : Nat → Int) (W : World) (hn : n ≤ 1048576) (hm : m ≤ 1048576) (hf : RR W 4 A n f) (hx : RI W B m x) :
    Calls Try.prog 42 #[.agg #[.int .i64 ev, .slice A n c], .agg #[.int .i64 p, .slice B m d]] W (RetIE W (len3 (GraphP ev n f) (TimeP ev p m x) n) (slk f x p) (code3 (GraphP ev n f) (TimeP ev p m x))) := by
  have hb0 : Below W.heap.size W ((W.alloc (Obj.cells #[Value.int .i64 ev, Value.slice A n c] 52)).alloc (Obj.cells #[Value.int .i64 p, Value.slice B m d] 54)) := ((Below.refl _ _).alloc (Nat.le_refl _) _).alloc (by simp) _
  by_cases g : TableP ev n f p m x
  case pos =>
    have HC := Lib.hid (code3_0 g.1 g.2)
    have HL := Lib.hid (len3_0 g.1 g.2 n)
    have HT := Lib.hid g; clear g
    go_enter Try.func42, Try.ntmps42
    go_wp2_with fail
    refine (specCode_any ev A n c f p B m d x _ hn hm (hf.below hb0 (Nat.le_refl _)) (hx.below hb0 (Nat.le_refl _))).mono ?_
    rw [HC.out]
    rintro e w1 ⟨rfl, hb1⟩
    have s1 := hb1.size
    simp only [World.size_alloc] at s1
    have hB1 : Below W.heap.size W w1 := hb0.trans (hb1.mono (by simp <;> omega))
    have k0w1 : w1.cell? ⟨W.heap.size, 0, none⟩ = some (Value.int .i64 ev) := (hb1.cell (p := ⟨W.heap.size, 0, none⟩) (by simp <;> omega)).trans (c2a _ _ _ _ _ 0)
    have k1w1 : w1.cell? ⟨W.heap.size, 1, none⟩ = some (Value.slice A n c) := (hb1.cell (p := ⟨W.heap.size, 1, none⟩) (by simp <;> omega)).trans (c2a _ _ _ _ _ 1)
    have m0w1 : w1.cell? ⟨W.heap.size + 1, 0, none⟩ = some (Value.int .i64 p) := (hb1.cell (p := ⟨W.heap.size + 1, 0, none⟩) (by simp <;> omega)).trans (c2b _ _ _ _ _ 0)
    have m1w1 : w1.cell? ⟨W.heap.size + 1, 1, none⟩ = some (Value.slice B m d) := (hb1.cell (p := ⟨W.heap.size + 1, 1, none⟩) (by simp <;> omega)).trans (c2b _ _ _ _ _ 1)
    go_wp2_with fail
    refine (specSlacks_any ev A n c f p B m d x _ (hf.below hB1 (Nat.le_refl _)) (hx.below hB1 (Nat.le_refl _)) HT.out).mono ?_
    rintro e w2 ⟨R, cc, rfl, hsi, hb2⟩
    go_wp2
    go_ret2
    exact retIE_row (hB1.trans (hb2.mono (by omega))) rfl (hsi.wide (by omega) (Nat.le_refl _)) HL.out HC.out
  case neg =>
    have hcode : code3 (GraphP ev n f) (TimeP ev p m x) = 1 ∨ code3 (GraphP ev n f) (TimeP ev p m x) = 2 := by
      by_cases g1 : GraphP ev n f
      · exact Or.inr (code3_2 g1 (fun h => g ⟨g1, h⟩))
      · exact Or.inl (code3_1 g1)
    have hlen : len3 (GraphP ev n f) (TimeP ev p m x) n = 0 := by
      by_cases g1 : GraphP ev n f
      · exact len3_2 (fun h => g ⟨g1, h⟩) n
      · exact len3_1 g1 n
    have HL := Lib.hid hlen; clear hlen g
    obtain ⟨Z, hZ⟩ : ∃ Z, code3 (GraphP ev n f) (TimeP ev p m x) = Z := ⟨_, rfl⟩
    rw [hZ] at hcode
    have HC := Lib.hid hZ; clear hZ
    have hne : (Z != 0) = true := by rcases hcode with rfl | rfl <;> rfl
    go_enter Try.func42, Try.ntmps42
    go_wp2_with fail
    refine (specCode_any ev A n c f p B m d x _ hn hm (hf.below hb0 (Nat.le_refl _)) (hx.below hb0 (Nat.le_refl _))).mono ?_
    rw [HC.out]
    rintro e w1 ⟨rfl, hb1⟩
    have s1 := hb1.size
    simp only [World.size_alloc] at s1
    have hB1 : Below W.heap.size W w1 := hb0.trans (hb1.mono (by simp <;> omega))
    go_wp2
    go_ret2
    exact retIE_nil hB1 HL.out HC.out

set_option maxRecDepth 100000 in
set_option maxHeartbeats 1000000 in
theorem implSlacksOf_any (ev : Int) (A : Option Addr) (n c : Nat) (f : Nat → Nat → Int) (p : Int) (B : Option Addr) (m d : Nat) (x : Nat → Int) (W : World) (hn : n ≤ 1048576) (hm : m ≤ 1048576) (hf : RR W 4 A n f) (hx : RI W B m x) :
    Calls Try.prog 43 #[.agg #[.int .i64 ev, .slice A n c], .agg #[.int .i64 p, .slice B m d]] W (RetIE W (len3 (GraphP ev n f) (TimeP ev p m x) n) (slk f x p) (code3 (GraphP ev n f) (TimeP ev p m x))) := by
  have hb0 : Below W.heap.size W ((W.alloc (Obj.cells #[Value.int .i64 ev, Value.slice A n c] 52)).alloc (Obj.cells #[Value.int .i64 p, Value.slice B m d] 54)) := ((Below.refl _ _).alloc (Nat.le_refl _) _).alloc (by simp) _
  by_cases g : TableP ev n f p m x
  case pos =>
    have HC := Lib.hid (code3_0 g.1 g.2)
    have HL := Lib.hid (len3_0 g.1 g.2 n)
    have HT := Lib.hid g; clear g
    go_enter Try.func43, Try.ntmps43
    go_wp2_with fail
    refine (implCode_any ev A n c f p B m d x _ hn hm (hf.below hb0 (Nat.le_refl _)) (hx.below hb0 (Nat.le_refl _))).mono ?_
    rw [HC.out]
    rintro e w1 ⟨rfl, hb1⟩
    have s1 := hb1.size
    simp only [World.size_alloc] at s1
    have hB1 : Below W.heap.size W w1 := hb0.trans (hb1.mono (by simp <;> omega))
    have k0w1 : w1.cell? ⟨W.heap.size, 0, none⟩ = some (Value.int .i64 ev) := (hb1.cell (p := ⟨W.heap.size, 0, none⟩) (by simp <;> omega)).trans (c2a _ _ _ _ _ 0)
    have k1w1 : w1.cell? ⟨W.heap.size, 1, none⟩ = some (Value.slice A n c) := (hb1.cell (p := ⟨W.heap.size, 1, none⟩) (by simp <;> omega)).trans (c2a _ _ _ _ _ 1)
    have m0w1 : w1.cell? ⟨W.heap.size + 1, 0, none⟩ = some (Value.int .i64 p) := (hb1.cell (p := ⟨W.heap.size + 1, 0, none⟩) (by simp <;> omega)).trans (c2b _ _ _ _ _ 0)
    have m1w1 : w1.cell? ⟨W.heap.size + 1, 1, none⟩ = some (Value.slice B m d) := (hb1.cell (p := ⟨W.heap.size + 1, 1, none⟩) (by simp <;> omega)).trans (c2b _ _ _ _ _ 1)
    go_wp2_with fail
    refine (implSlacks_any ev A n c f p B m d x _ (hf.below hB1 (Nat.le_refl _)) (hx.below hB1 (Nat.le_refl _)) HT.out).mono ?_
    rintro e w2 ⟨R, cc, rfl, hsi, hb2⟩
    go_wp2
    go_ret2
    exact retIE_row (hB1.trans (hb2.mono (by omega))) rfl (hsi.wide (by omega) (Nat.le_refl _)) HL.out HC.out
  case neg =>
    have hcode : code3 (GraphP ev n f) (TimeP ev p m x) = 1 ∨ code3 (GraphP ev n f) (TimeP ev p m x) = 2 := by
      by_cases g1 : GraphP ev n f
      · exact Or.inr (code3_2 g1 (fun h => g ⟨g1, h⟩))
      · exact Or.inl (code3_1 g1)
    have hlen : len3 (GraphP ev n f) (TimeP ev p m x) n = 0 := by
      by_cases g1 : GraphP ev n f
      · exact len3_2 (fun h => g ⟨g1, h⟩) n
      · exact len3_1 g1 n
    have HL := Lib.hid hlen; clear hlen g
    obtain ⟨Z, hZ⟩ : ∃ Z, code3 (GraphP ev n f) (TimeP ev p m x) = Z := ⟨_, rfl⟩
    rw [hZ] at hcode
    have HC := Lib.hid hZ; clear hZ
    have hne : (Z != 0) = true := by rcases hcode with rfl | rfl <;> rfl
    go_enter Try.func43, Try.ntmps43
    go_wp2_with fail
    refine (implCode_any ev A n c f p B m d x _ hn hm (hf.below hb0 (Nat.le_refl _)) (hx.below hb0 (Nat.le_refl _))).mono ?_
    rw [HC.out]
    rintro e w1 ⟨rfl, hb1⟩
    have s1 := hb1.size
    simp only [World.size_alloc] at s1
    have hB1 : Below W.heap.size W w1 := hb0.trans (hb1.mono (by simp <;> omega))
    go_wp2
    go_ret2
    exact retIE_nil hB1 HL.out HC.out

end Go.Proofs.Ytfhpahnflnahkaa
