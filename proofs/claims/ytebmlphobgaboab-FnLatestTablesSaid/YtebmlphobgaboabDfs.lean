/-
  Searches in depth: a path grows by candidates in order, the first path that is accepted is the answer.
-/
import Derived.Test.YtebmlphobgaboabStarT
namespace Go.Proofs.Ytebmlphobgaboab

def gdfs (acc : List Nat → Bool) (cand : List Nat → Nat → Bool) (N : Nat) : Nat → List Nat → Option (List Nat)
  | 0, _ => none
  | k + 1, p => if acc p then some p else (List.range N).findSome? fun v => if cand p v then gdfs acc cand N k (p ++ [v]) else none
/-- a path grows by candidates -/
def Steps (cand : List Nat → Nat → Bool) : List Nat → List Nat → Prop
  | _, [] => True
  | p, v :: q => cand p v = true ∧ Steps cand (p ++ [v]) q
theorem gdfs_some {acc : List Nat → Bool} {cand : List Nat → Nat → Bool} {N : Nat} : ∀ {k : Nat} {p r : List Nat}, gdfs acc cand N k p = some r → acc r = true ∧ ∃ q, r = p ++ q ∧ Steps cand p q ∧ ∀ x, x ∈ q → x < N
  | 0, p, r, h => by cases h
  | k + 1, p, r, h => by
    unfold gdfs at h
    by_cases ha : acc p = true
    · rw [if_pos ha] at h
      cases h
      exact ⟨ha, [], by simp, trivial, fun x hx => (by cases hx)⟩
    · rw [if_neg ha] at h
      obtain ⟨v, hv, h2⟩ := List.exists_of_findSome?_eq_some h
      by_cases hc : cand p v = true
      · rw [if_pos hc] at h2
        obtain ⟨h3, q, h4, h5, h6⟩ := gdfs_some h2
        refine ⟨h3, v :: q, by rw [h4]; simp, ⟨hc, h5⟩, fun x hx => ?_⟩
        rcases List.mem_cons.1 hx with rfl | hx
        · simpa using hv
        · exact h6 x hx
      · rw [if_neg hc] at h2; cases h2
theorem gdfs_none {acc : List Nat → Bool} {cand : List Nat → Nat → Bool} {N : Nat} : ∀ {k : Nat} {p q : List Nat}, gdfs acc cand N k p = none → q.length < k → Steps cand p q → (∀ x, x ∈ q → x < N) → acc (p ++ q) = false
  | 0, p, q, _, h, _, _ => by omega
  | k + 1, p, q, h, hk, hs, hq => by
    unfold gdfs at h
    by_cases ha : acc p = true
    · rw [if_pos ha] at h; cases h
    · rw [if_neg ha] at h
      cases q with
      | nil => rw [List.append_nil]; simpa using ha
      | cons v q =>
        have h2 := List.findSome?_eq_none_iff.1 h v (by simpa using hq v (by simp))
        rw [if_pos hs.1] at h2
        have h3 := gdfs_none h2 (by simp at hk; omega) hs.2 (fun x hx => hq x (by simp [hx]))
        rw [List.append_assoc] at h3
        exact h3
/-! ### Cycles in a table -/
def lastN (p : List Nat) : Nat := p.getLastD 0
def headN (p : List Nat) : Nat := p.headD 0
theorem lastN_snoc (p : List Nat) (v : Nat) : lastN (p ++ [v]) = v := by unfold lastN; simp
theorem headN_snoc {p : List Nat} (h : p ≠ []) (q : List Nat) : headN (p ++ q) = headN p := by
  cases p with
  | nil => exact absurd rfl h
  | cons x p => rfl
/-- a path's weight -/
def pathw (a : Nat → Nat → Int) : List Nat → Int
  | [] => 0
  | [_] => 0
  | u :: v :: q => a v u + pathw a (v :: q)
theorem pathw_snoc (a : Nat → Nat → Int) (v : Nat) : ∀ {p : List Nat}, p ≠ [] → pathw a (p ++ [v]) = pathw a p + a v (lastN p)
  | [], h => absurd rfl h
  | [u], _ => by show a v u + 0 = 0 + a v u; omega
  | u :: w :: q, _ => by
    show a w u + pathw a ((w :: q) ++ [v]) = a w u + pathw a (w :: q) + a v (lastN (u :: w :: q))
    rw [pathw_snoc a v (p := w :: q) (by simp)]
    have : lastN (u :: w :: q) = lastN (w :: q) := by unfold lastN; simp [List.getLastD]
    rw [this]; omega
def candW (a : Nat → Nat → Int) (p : List Nat) (v : Nat) : Bool := decide (headN p < v) && arcB a (lastN p) v && !p.contains v
/-! ### The first of a range -/
theorem fs_none {β : Type} {g : Nat → Option β} : ∀ {n : Nat}, (∀ v, v < n → g v = none) → (List.range n).findSome? g = none
  | 0, _ => rfl
  | n + 1, h => by
    rw [List.range_succ, List.findSome?_append, fs_none (fun v hv => h v (by omega))]
    simp [h n (by omega)]
theorem fs_some {β : Type} {g : Nat → Option β} {v : Nat} {r : β} (h1 : ∀ u, u < v → g u = none) (h2 : g v = some r) : ∀ {n : Nat}, v < n → (List.range n).findSome? g = some r
  | 0, h => by omega
  | n + 1, h => by
    rw [List.range_succ, List.findSome?_append]
    by_cases e : v = n
    · subst e
      rw [fs_none h1]
      simp [h2]
    · rw [fs_some h1 h2 (n := n) (by omega)]; rfl

end Go.Proofs.Ytebmlphobgaboab
