namespace Go.Proofs.Ytfhpahnflnahkaa
/-- a window is one -/
def WinOk (a b : Int) : Prop := 0 ≤ a ∧ a ≤ b ∧ b ≤ 1000000
/-- a bond between n points is one -/
def BondOk (n : Nat) (a b c : Int) : Prop := 0 ≤ a ∧ a < n ∧ 0 ≤ b ∧ b < n ∧ -1000000 ≤ c ∧ c ≤ 1000000
def TaskP (n : Nat) (f : Nat → Nat → Int) (m : Nat) (g : Nat → Nat → Int) : Prop :=
  1 ≤ n ∧ n ≤ 10 ∧ m ≤ 30 ∧ (∀ i, i < n → WinOk (f i 0) (f i 1)) ∧ (∀ i, i < m → BondOk n (g i 0) (g i 1) (g i 2))
open Classical in
noncomputable def taskB (n : Nat) (f : Nat → Nat → Int) (m : Nat) (g : Nat → Nat → Int) : Bool := decide (TaskP n f m g)
theorem taskB_true {n : Nat} {f : Nat → Nat → Int} {m : Nat} {g : Nat → Nat → Int} (h : TaskP n f m g) : taskB n f m g = true := by unfold taskB; simp [h]
theorem taskB_false {n : Nat} {f : Nat → Nat → Int} {m : Nat} {g : Nat → Nat → Int} (h : ¬ TaskP n f m g) : taskB n f m g = false := by unfold taskB; simp [h]
end Go.Proofs.Ytfhpahnflnahkaa
