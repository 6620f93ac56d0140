/-
  Searches in depth: a path grows by candidates in order, the first path that is accepted is the answer.
-/
import Derived.Test.YtgkgimglgjfcjaaStarT
namespace Go.Proofs.Ytgkgimglgjfcjaa

def gdfs (acc : List Nat → Bool) (cand : List Nat → Nat → Bool) (N : Nat) : Nat → List Nat → Option (List Nat)
  | 0, _ => none
  | k + 1, p => if acc p then some p else (List.range N).findSome? fun v => if cand p v then gdfs acc cand N k (p ++ [v]) else none
/-- a path grows by candidates -/
def Steps (cand : List Nat → Nat → Bool) : List Nat → List Nat → Prop
  | _, [] => True
  | p, v :: q => cand p v = true ∧ Steps cand (p ++ [v]) q
theorem gdfs_none {acc : List Nat → Bool} {cand : List Nat → Nat → Bool} {N : Nat} : ∀ {k : Nat} {p q : List Nat}, gdfs acc cand N k p = none → q.length < k → Steps cand p q → (∀ x, x ∈ q → x < N) → acc (p ++ q) = false
  | 0, p, q, _, h, _, _ => by omega
  | k + 1, p, q, h, hk, hs, hq => by
    unfold gdfs at h
    by_cases ha : acc p = true
    · rw [if_pos ha] at h; cases h
    · rw [if_neg ha] at h
      cases q with
      | nil => rw [List.append_nil]; simpa using ha
      | cons v q =>
        have h2 := List.findSome?_eq_none_iff.1 h v (by simpa using hq v (by simp))
        rw [if_pos hs.1] at h2
        have h3 := gdfs_none h2 (by simp at hk; omega) hs.2 (fun x hx => hq x (by simp [hx]))
        rw [List.append_assoc] at h3
        exact h3
/-! ### Cycles in a table -/
def lastN (p : List Nat) : Nat := p.getLastD 0
def headN (p : List Nat) : Nat := p.headD 0
theorem lastN_snoc (p : List Nat) (v : Nat) : lastN (p ++ [v]) = v := by unfold lastN; simp
theorem headN_snoc {p : List Nat} (h : p ≠ []) (q : List Nat) : headN (p ++ q) = headN p := by
  cases p with
  | nil => exact absurd rfl h
  | cons x p => rfl
/-- a path's weight -/
def pathw (a : Nat → Nat → Int) : List Nat → Int
  | [] => 0
  | [_] => 0
  | u :: v :: q => a v u + pathw a (v :: q)
/-! ### The first of a range -/
end Go.Proofs.Ytgkgimglgjfcjaa
