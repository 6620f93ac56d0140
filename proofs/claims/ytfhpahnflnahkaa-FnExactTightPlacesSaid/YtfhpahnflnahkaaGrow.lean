/- Rows that grow by append: what they leave alone, and what they hold in the end. -/
import Derived.Test.YtfhpahnflnahkaaOwn
import Derived.Test.YtfhpahnflnahkaaPlain
import Derived.Deep.AppendLies
import Derived.Deep.RegionHeld3
namespace Go.Proofs.Ytfhpahnflnahkaa
open Go.RowKit

theorem owns_base {w : World} {base : Nat} {e : TypeId} {size : Nat} {v : Value} {n : Nat} {xs : List Value} (h : w.ownsRow base e size v n xs) : ∀ b, v.ownBlock = some b → base ≤ b := fun b hb => by
  rcases h.2 with ⟨rfl, _⟩ | ⟨g, cap, cur, rfl, hg, _⟩
  · simp [Value.ownBlock] at hb
  · simp only [Value.ownBlock, Option.some.injEq] at hb; omega

theorem owns_ne {w : World} {base : Nat} {e : TypeId} {size : Nat} {v : Value} {n : Nat} {xs : List Value} (h : w.ownsRow base e size v n xs) {b : Nat} (hb : b < base) : some b ≠ v.ownBlock := fun e1 => by
  have := owns_base h b e1.symm; omega

theorem owns_lt {w : World} {base : Nat} {e : TypeId} {size : Nat} {v : Value} {n : Nat} {xs : List Value} (h : w.ownsRow base e size v n xs) : ∀ b, v.ownBlock = some b → b < w.heap.size := fun b hb => by
  rcases h.2 with ⟨rfl, _⟩ | ⟨g, cap, cur, rfl, _, hg, _⟩
  · simp [Value.ownBlock] at hb
  · simp only [Value.ownBlock, Option.some.injEq] at hb
    subst hb
    exact (Array.getElem?_eq_some_iff.1 hg).1

theorem owns_ne_new {w : World} {base : Nat} {e : TypeId} {size : Nat} {v : Value} {n : Nat} {xs : List Value} (h : w.ownsRow base e size v n xs) {b : Nat} (hb : w.heap.size ≤ b) : some b ≠ v.ownBlock := fun e1 => by
  have := owns_lt h b e1.symm; omega

theorem owns_slice {w : World} {base : Nat} {e : TypeId} {size : Nat} {v : Value} {n : Nat} {xs : List Value} (h : w.ownsRow base e size v n xs) : ∃ A c, v = .slice A n c := by
  rcases h.2 with ⟨rfl, rfl⟩ | ⟨g, cap, cur, rfl, _⟩
  · exact ⟨none, 0, rfl⟩
  · exact ⟨_, _, rfl⟩

theorem below_grown {B : Nat} {W w w' : World} {row : Option Nat} (h : Below B W w) (hB : B ≤ W.heap.size) (hg : w.grownBy w' row) (hr : ∀ b, row = some b → B ≤ b) : Below B W w' :=
  ⟨hg.os.trans h.os, hg.tape.trans h.tape, hg.output.trans h.output, Nat.le_trans h.size hg.size, fun k hk => by
    have h1 := h.size
    rw [hg.block k (by omega) (fun e => by have := hr k e.symm; omega)]
    exact h.block k hk⟩

/-- an empty row that was just built -/
theorem owns_empty {w : World} (e : TypeId) (size : Nat) {base : Nat} (hb : base ≤ w.heap.size) : (w.alloc (.cells #[] e)).ownsRow base e size (.slice (some ⟨w.heap.size, 0, none⟩) 0 0) 0 [] := by
  refine ⟨by simp, Or.inr ⟨w.heap.size, 0, #[], rfl, hb, ?_, Nat.le_refl _, by simp [maxLen], by simp, by simp⟩⟩
  exact heap_alloc_new w _

theorem wrapI (n : Int) (h0 : -9223372036854775808 ≤ n) (h1 : n < 9223372036854775808) : IntKind.i64.wrap n = n := by
  simp [IntKind.wrap, IntKind.bits, IntKind.signed]; omega

/-- the first k numbers of f -/
def numsOf (f : Nat → Int) (k : Nat) : List Value := (List.range k).map fun i => .int .i64 (f i)
theorem numsOf_succ (f : Nat → Int) (k : Nat) : numsOf f k ++ [.int .i64 (f k)] = numsOf f (k + 1) := by
  unfold numsOf; rw [List.range_succ, List.map_append]; rfl
theorem numsOf_zero (f : Nat → Int) : numsOf f 0 = [] := rfl

theorem SI.of_owns {w : World} {base : Nat} {e : TypeId} {v : Value} {n : Nat} {f : Nat → Int} (h : w.ownsRow base e 1 v n (numsOf f n)) : ∃ A c, v = .slice A n c ∧ SI w base w.heap.size A n f := by
  rcases h.2 with ⟨rfl, rfl⟩ | ⟨g, cap, cur, rfl, hb, hg, hn, _, hsz, ht⟩
  · exact ⟨none, 0, rfl, SI.nil _⟩
  · refine ⟨_, _, rfl, fun i hi => ?_⟩
    have hlt : g < w.heap.size := (Array.getElem?_eq_some_iff.1 hg).1
    refine ⟨g, 0, rfl, hb, hlt, hlt, ?_, fun o => ?_⟩
    · rw [Nat.zero_add, cell_of_row w g i cur e (0, 0) hg]
      have h1 : (cur.toList.take (n * 1))[i]? = (numsOf f n)[i]? := by rw [ht]
      rw [List.getElem?_take, if_pos (by omega)] at h1
      rw [← Array.getElem?_toList, h1]
      unfold numsOf
      simp [hi]
    · simp [World.frozen?, hg]

/-- a number beside a list: 1 where P fails, 2 where Q does, else 0 -/
noncomputable def code3 (P Q : Prop) : Int := if bo P = true then (if bo Q = true then 0 else 2) else 1
noncomputable def len3 (P Q : Prop) (n : Nat) : Nat := if bo P = true then (if bo Q = true then n else 0) else 0
theorem code3_1 {P Q : Prop} (h : ¬ P) : code3 P Q = 1 := by unfold code3; simp [bo_false h]
theorem code3_2 {P Q : Prop} (h : P) (k : ¬ Q) : code3 P Q = 2 := by unfold code3; simp [bo_true h, bo_false k]
theorem code3_0 {P Q : Prop} (h : P) (k : Q) : code3 P Q = 0 := by unfold code3; simp [bo_true h, bo_true k]
theorem len3_1 {P Q : Prop} (h : ¬ P) (n : Nat) : len3 P Q n = 0 := by unfold len3; simp [bo_false h]
theorem len3_2 {P Q : Prop} (k : ¬ Q) (n : Nat) : len3 P Q n = 0 := by unfold len3; simp [bo_false k]
theorem len3_0 {P Q : Prop} (h : P) (k : Q) (n : Nat) : len3 P Q n = n := by unfold len3; simp [bo_true h, bo_true k]
theorem len3_le (P Q : Prop) (n : Nat) : len3 P Q n ≤ n := by unfold len3; split; split; all_goals omega

/-- numbers that a call made, and its code -/
def RetIE (W : World) (N : Nat) (f : Nat → Int) (code : Int) (e : Ending) (w' : World) : Prop :=
  ∃ A c, e = .returned (.tuple #[.slice A N c, .int .i64 code]) ∧ SI w' W.heap.size w'.heap.size A N f ∧ Below W.heap.size W w'

theorem retIE_nil {W w' : World} {N : Nat} {f : Nat → Int} {code c : Int} (h : Below W.heap.size W w') (hN : N = 0) (hc : code = c) : RetIE W N f code (.returned (.tuple #[.slice none 0 0, .int .i64 c])) w' := by
  subst hN hc
  exact ⟨none, 0, rfl, SI.nil _, h⟩

theorem retIE_row {W w' : World} {N n : Nat} {f : Nat → Int} {code c : Int} {v : Value} {A : Option Addr} {k : Nat} (h : Below W.heap.size W w') (hv : v = .slice A n k) (hs : SI w' W.heap.size w'.heap.size A n f) (hN : N = n) (hc : code = c) : RetIE W N f code (.returned (.tuple #[v, .int .i64 c])) w' := by
  subst hN hc hv
  exact ⟨A, k, rfl, hs, h⟩

/-- numbers that a call made -/
def RetI (W : World) (N : Nat) (f : Nat → Int) (e : Ending) (w' : World) : Prop :=
  ∃ A c, e = .returned (.slice A N c) ∧ SI w' W.heap.size w'.heap.size A N f ∧ Below W.heap.size W w'

theorem retI_row {W w' : World} {n : Nat} {f : Nat → Int} {v : Value} {A : Option Addr} {k : Nat} (h : Below W.heap.size W w') (hv : v = .slice A n k) (hs : SI w' W.heap.size w'.heap.size A n f) : RetI W n f (.returned v) w' := by
  subst hv
  exact ⟨A, k, rfl, hs, h⟩

end Go.Proofs.Ytfhpahnflnahkaa
