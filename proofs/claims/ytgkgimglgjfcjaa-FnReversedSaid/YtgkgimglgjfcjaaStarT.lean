/-
  Max-plus closures of square tables: walks of at most k arcs, the elimination of nodes, positive cycles.
-/
import Derived.Test.YtgkgimglgjfcjaaCyc
namespace Go.Proofs.Ytgkgimglgjfcjaa

/-! ### The algebra's product and greatest terms -/
/-- a value or nothing, of a size -/
def Okw (M x : Int) : Prop := x = -1000000000000000 ∨ (-M ≤ x ∧ x ≤ M)
/-! ### Walks of at most k arcs -/
def TabOk (a : Nat → Nat → Int) (n : Nat) : Prop := ∀ i j, i < n → j < n → Okw 1000000 (a i j)

section walks
variable {a : Nat → Nat → Int} {n : Nat} (ha : TabOk a n)
include ha

/-! ### Where the powers do not settle there is a positive closed walk -/
end walks

theorem pigeon_n {n : Nat} {c : Nat → Nat} (h : ∀ t, t ≤ n → c t < n) : ∃ p q, p < q ∧ q ≤ n ∧ c p = c q := by
  by_cases hc : ∃ p q, p < q ∧ q ≤ n ∧ c p = c q
  · exact hc
  · exfalso
    have hn : ∀ k, k ≤ n + 1 → ((List.range k).map c).Nodup := by
      intro k
      induction k with
      | zero => intro _; simp
      | succ k ih =>
        intro hk
        rw [List.range_succ, List.map_append, List.nodup_append]
        refine ⟨ih (by omega), by simp, fun x hx y hy => ?_⟩
        rw [List.mem_map] at hx
        obtain ⟨i, hi, rfl⟩ := hx
        simp only [List.map_cons, List.map_nil, List.mem_singleton] at hy
        subst hy
        exact fun e => hc ⟨i, k, by simpa using hi, by omega, e⟩
    have := nodup_le n _ (hn (n + 1) (Nat.le_refl _)) (fun y hy => by
      rw [List.mem_map] at hy
      obtain ⟨i, hi, rfl⟩ := hy
      exact h i (by have : i < n + 1 := by simpa using hi
                    omega))
    rw [List.length_map, List.length_range] at this
    omega

/-- an arc from u to v -/
def arcB (a : Nat → Nat → Int) (u v : Nat) : Bool := decide (a v u ≠ -1000000000000000)
theorem arcB_true {a : Nat → Nat → Int} {u v : Nat} : arcB a u v = true ↔ a v u ≠ -1000000000000000 := by unfold arcB; simp
/-- a chain's weight -/
def cw (a : Nat → Nat → Int) : Nat → List Nat → Nat → Int
  | l, [], f => a f l
  | l, v :: q, f => a v l + cw a v q f
/-- a positive cycle, written from its least node -/
def PosCyc (a : Nat → Nat → Int) (n : Nat) : Prop := ∃ v q, v < n ∧ Cyc (arcB a) n v q ∧ 0 < cw a v q v
/-! ### The elimination of nodes -/
section elim
variable {a : Nat → Nat → Int} {n : Nat} (ha : TabOk a n)
include ha

end elim

end Go.Proofs.Ytgkgimglgjfcjaa
