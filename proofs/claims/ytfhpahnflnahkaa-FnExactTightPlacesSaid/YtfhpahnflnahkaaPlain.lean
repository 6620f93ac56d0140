/- What the document calls values, vectors, matrices: plain words. -/
namespace Go.Proofs.Ytfhpahnflnahkaa

/-- the truth of a statement, as a Bool that no rule opens -/
noncomputable def bo (p : Prop) : Bool := @decide p (Classical.propDecidable p)
theorem bo_true {p : Prop} (h : p) : bo p = true := by unfold bo; exact @decide_eq_true p (Classical.propDecidable p) h
theorem bo_false {p : Prop} (h : ¬ p) : bo p = false := by unfold bo; exact @decide_eq_false p (Classical.propDecidable p) h
theorem bo_congr {p q : Prop} (h : p ↔ q) : bo p = bo q := by rw [propext h]
theorem of_bo {p : Prop} (h : bo p = true) : p := by unfold bo at h; exact @of_decide_eq_true p (Classical.propDecidable p) h
theorem not_of_bo {p : Prop} (h : bo p = false) : ¬ p := by unfold bo at h; exact @of_decide_eq_false p (Classical.propDecidable p) h

def Bot : Int := -1000000000000000
def FinP (z : Int) : Prop := -1000000 ≤ z ∧ z ≤ 1000000
def ValP (z : Int) : Prop := z = -1000000000000000 ∨ (-1000000 ≤ z ∧ z ≤ 1000000)
def AllP (fin : Bool) (n : Nat) (x : Nat → Int) : Prop := ∀ i, i < n → ValP (x i) ∧ (fin = true → FinP (x i))
def VecP (n : Nat) (x : Nat → Int) : Prop := 1 ≤ n ∧ n ≤ 10 ∧ AllP false n x
def MatP (n : Nat) (L : Nat → Nat) (f : Nat → Nat → Int) : Prop := 1 ≤ n ∧ n ≤ 10 ∧ 1 ≤ L 0 ∧ L 0 ≤ 10 ∧ ∀ i, i < n → L i = L 0 ∧ AllP false (L i) (f i)
def SqP (n : Nat) (L : Nat → Nat) (f : Nat → Nat → Int) : Prop := MatP n L f ∧ n = L 0

end Go.Proofs.Ytfhpahnflnahkaa
