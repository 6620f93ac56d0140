/-
  Rounds of relaxations over a list of arcs (Bellman and Ford): they come to rest within as many rounds as there are nodes exactly where no cycle is positive.
-/
import Derived.Test.YtgkgimglgjfcjaaDfs
namespace Go.Proofs.Ytgkgimglgjfcjaa

/-- a list of arcs and its table -/
structure Arcs {α : Type} (a : Nat → Nat → Int) (n : Nat) (t f : α → Nat) (w : α → Int) (ps : List α) : Prop where
  lt : ∀ p, p ∈ ps → t p < n ∧ f p < n
  bd : ∀ p, p ∈ ps → -1000000 ≤ w p ∧ w p ≤ 1000000
  ge : ∀ p, p ∈ ps → w p ≤ a (t p) (f p)
  cs : ∀ i j, a i j = -1000000000000000 ∨ ∃ p, p ∈ ps ∧ t p = i ∧ f p = j ∧ a i j = w p
section bf
variable {α : Type} (t f : α → Nat) (w : α → Int)
def chg (x : Nat → Int) (p : α) : Bool := decide (x (t p) < x (f p) + w p)
def stp (x : Nat → Int) (p : α) (i : Nat) : Int := if i = t p then max (x (t p)) (x (f p) + w p) else x i
def rnd : (Nat → Int) → List α → Nat → Int
  | x, [] => x
  | x, p :: ps => rnd (stp t f w x p) ps
def chd : (Nat → Int) → List α → Bool
  | _, [] => false
  | x, p :: ps => chg t f w x p || chd (stp t f w x p) ps
def its (x : Nat → Int) (ps : List α) : Nat → Nat → Int
  | 0 => x
  | k + 1 => rnd t f w (its x ps k) ps
variable {t f w}
theorem rnd_snoc : ∀ (ps : List α) (x : Nat → Int) (p : α), rnd t f w x (ps ++ [p]) = stp t f w (rnd t f w x ps) p
  | [], _, _ => rfl
  | q :: ps, x, p => rnd_snoc ps (stp t f w x q) p
theorem chd_snoc : ∀ (ps : List α) (x : Nat → Int) (p : α), chd t f w x (ps ++ [p]) = (chd t f w x ps || chg t f w (rnd t f w x ps) p)
  | [], x, p => by show (chg t f w x p || false) = (false || chg t f w x p); simp
  | q :: ps, x, p => by
    show (chg t f w x q || chd t f w (stp t f w x q) (ps ++ [p])) = ((chg t f w x q || chd t f w (stp t f w x q) ps) || chg t f w (rnd t f w (stp t f w x q) ps) p)
    rw [chd_snoc ps (stp t f w x q) p, Bool.or_assoc]
theorem stp_ge (x : Nat → Int) (p : α) (i : Nat) : x i ≤ stp t f w x p i := by
  unfold stp
  by_cases e : i = t p
  · rw [if_pos e, e]; omega
  · rw [if_neg e]; exact Int.le_refl _
theorem stp_arc (x : Nat → Int) (p : α) : x (f p) + w p ≤ stp t f w x p (t p) := by
  unfold stp; rw [if_pos rfl]; omega
theorem rnd_ge : ∀ (ps : List α) (x : Nat → Int) (i : Nat), x i ≤ rnd t f w x ps i
  | [], _, _ => Int.le_refl _
  | q :: ps, x, i => Int.le_trans (stp_ge x q i) (rnd_ge ps _ i)
theorem rnd_arc : ∀ (ps : List α) (x : Nat → Int) (p : α), p ∈ ps → x (f p) + w p ≤ rnd t f w x ps (t p)
  | [], _, _, h => by cases h
  | q :: ps, x, p, h => by
    show _ ≤ rnd t f w (stp t f w x q) ps (t p)
    rcases List.mem_cons.1 h with rfl | h
    · exact Int.le_trans (stp_arc x p) (rnd_ge ps _ _)
    · have h1 := rnd_arc ps (stp t f w x q) p h
      have h2 := stp_ge (t := t) (f := f) (w := w) x q (f p)
      omega
theorem stp_same {x : Nat → Int} {p : α} (h : x (f p) + w p ≤ x (t p)) : stp t f w x p = x := by
  funext i
  unfold stp
  by_cases e : i = t p
  · rw [if_pos e, e]; omega
  · rw [if_neg e]
theorem chg_false {x : Nat → Int} {p : α} : chg t f w x p = false ↔ x (f p) + w p ≤ x (t p) := by
  unfold chg; rw [decide_eq_false_iff_not]; omega
theorem chd_false : ∀ {ps : List α} {x : Nat → Int}, chd t f w x ps = false → rnd t f w x ps = x ∧ ∀ p, p ∈ ps → x (f p) + w p ≤ x (t p)
  | [], _, _ => ⟨rfl, fun p hp => by cases hp⟩
  | q :: ps, x, h => by
    have h' : (chg t f w x q || chd t f w (stp t f w x q) ps) = false := h
    rw [Bool.or_eq_false_iff] at h'
    have e := stp_same (chg_false.1 h'.1)
    rw [e] at h'
    obtain ⟨h1, h2⟩ := chd_false h'.2
    refine ⟨?_, fun p hp => ?_⟩
    · show rnd t f w (stp t f w x q) ps = x
      rw [e]; exact h1
    · rcases List.mem_cons.1 hp with rfl | hp
      · exact chg_false.1 h'.1
      · exact h2 p hp
theorem stp_bd {x : Nat → Int} {p : α} {n : Nat} {M : Int} (hx : ∀ i, i < n → -M ≤ x i ∧ x i ≤ M) (ht : t p < n ∧ f p < n) (hw : -1000000 ≤ w p ∧ w p ≤ 1000000) : ∀ i, i < n → -(M + 1000000) ≤ stp t f w x p i ∧ stp t f w x p i ≤ M + 1000000 := by
  intro i hi
  have h1 := hx i hi
  have h2 := hx _ ht.1
  have h3 := hx _ ht.2
  unfold stp
  by_cases e : i = t p
  · rw [if_pos e]; omega
  · rw [if_neg e]; omega
variable {a : Nat → Nat → Int} {n : Nat} {ps : List α}
theorem rnd_bd {x : Nat → Int} {M : Int} (hA : ∀ p, p ∈ ps → (t p < n ∧ f p < n) ∧ -1000000 ≤ w p ∧ w p ≤ 1000000) (hx : ∀ i, i < n → -M ≤ x i ∧ x i ≤ M) : ∀ i, i < n → -(M + 1000000 * (ps.length : Int)) ≤ rnd t f w x ps i ∧ rnd t f w x ps i ≤ M + 1000000 * (ps.length : Int) := by
  induction ps generalizing x M with
  | nil => intro i hi; have := hx i hi; show -(M + 1000000 * ((0 : Nat) : Int)) ≤ x i ∧ x i ≤ M + 1000000 * ((0 : Nat) : Int); omega
  | cons q ps ih =>
    intro i hi
    have hq := hA q (by simp)
    have := ih (x := stp t f w x q) (M := M + 1000000) (fun p hp => hA p (by simp [hp])) (stp_bd hx hq.1 hq.2) i hi
    show -(M + 1000000 * ((ps.length + 1 : Nat) : Int)) ≤ rnd t f w (stp t f w x q) ps i ∧ rnd t f w (stp t f w x q) ps i ≤ M + 1000000 * ((ps.length + 1 : Nat) : Int)
    omega
end bf

end Go.Proofs.Ytgkgimglgjfcjaa
