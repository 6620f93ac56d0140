/-
  Cycles: a finite set in which each one has a predecessor holds a written cycle; ranks exclude cycles; the greedy order.
-/
import Derived.Test.YtebmlphobgaboabPure
namespace Go.Proofs.Ytebmlphobgaboab

/-- from l through q to f -/
def Chain (E : Nat → Nat → Bool) : Nat → List Nat → Nat → Prop
  | l, [], f => E l f = true
  | l, v :: q, f => E l v = true ∧ Chain E v q f
/-- a written cycle that begins with v -/
def Cyc (E : Nat → Nat → Bool) (n v : Nat) (q : List Nat) : Prop := (∀ x, x ∈ q → v < x ∧ x < n) ∧ (v :: q).Nodup ∧ Chain E v q v

theorem nodup_le : ∀ (n : Nat) (l : List Nat), l.Nodup → (∀ x, x ∈ l → x < n) → l.length ≤ n := by
  intro n
  induction n with
  | zero =>
    intro l _ h
    cases l with
    | nil => simp
    | cons x l => have := h x (by simp); omega
  | succ n ih =>
    intro l hl h
    have h1 := ih (l.filter fun x => x != n) (hl.filter _) (fun x hx => by
      rw [List.mem_filter] at hx
      have h2 := h x hx.1
      have h3 : x ≠ n := by simpa using hx.2
      omega)
    have h2 := List.length_eq_countP_add_countP (fun x => x != n) (l := l)
    have h3 : l.countP (fun x => decide ¬(x != n) = true) ≤ 1 := by
      have := List.nodup_iff_count.1 hl n
      have e : l.count n = l.countP (fun x => decide ¬(x != n) = true) := by
        unfold List.count
        congr 1; funext x
        by_cases e : x = n <;> simp [e]
      omega
    rw [List.countP_eq_length_filter] at h2
    omega

/-! ### The greedy order -/
def readyB (E : Nat → Nat → Bool) (n : Nat) (o : List Nat) (e : Nat) : Bool := !o.contains e && (List.range n).all fun u => !E u e || o.contains u
def nextOf (E : Nat → Nat → Bool) (n : Nat) (o : List Nat) : Option Nat := (List.range n).find? (readyB E n o)
/-- each one's predecessors stand before it -/
def Topo (E : Nat → Nat → Bool) (o : List Nat) : Prop := ∀ (i : Nat) (e u : Nat), o[i]? = some e → E u e = true → u ∈ o.take i
structure OrderOk (E : Nat → Nat → Bool) (n : Nat) (o : List Nat) : Prop where
  nodup : o.Nodup
  lt : ∀ x, x ∈ o → x < n
  topo : Topo E o
theorem OrderOk.nil (E : Nat → Nat → Bool) (n : Nat) : OrderOk E n [] := ⟨List.nodup_nil, (fun x h => (by cases h)), (fun i e u h => by simp at h)⟩
theorem nextOf_some {E : Nat → Nat → Bool} {n e : Nat} {o : List Nat} (h : nextOf E n o = some e) : e < n ∧ e ∉ o ∧ ∀ u, u < n → E u e = true → u ∈ o := by
  have h1 := List.mem_of_find?_eq_some h
  have h2 := List.find?_some h
  unfold readyB at h2
  rw [Bool.and_eq_true, List.all_eq_true] at h2
  refine ⟨by simpa using h1, by simpa using h2.1, fun u hu he => ?_⟩
  have := h2.2 u (by simpa using hu)
  rw [he] at this
  simpa using this
theorem OrderOk.next {E : Nat → Nat → Bool} {n e : Nat} {o : List Nat} (hE : ∀ u v, E u v = true → u < n ∧ v < n) (h : OrderOk E n o) (he : nextOf E n o = some e) : OrderOk E n (o ++ [e]) := by
  obtain ⟨h1, h2, h3⟩ := nextOf_some he
  refine ⟨?_, fun x hx => ?_, fun i x u hi hu => ?_⟩
  · rw [List.nodup_append]
    refine ⟨h.nodup, by simp, fun a ha b hb => ?_⟩
    simp only [List.mem_singleton] at hb
    subst hb
    exact fun e => h2 (e ▸ ha)
  · rcases List.mem_append.1 hx with hx | hx
    · exact h.lt x hx
    · simp only [List.mem_singleton] at hx; subst hx; exact h1
  · by_cases hio : i < o.length
    · rw [List.getElem?_append_left hio] at hi
      rw [List.take_append_of_le_length (by omega)]
      exact h.topo i x u hi hu
    · rw [List.getElem?_append_right (by omega)] at hi
      have hi0 : i - o.length = 0 := by
        have := (List.getElem?_eq_some_iff.1 hi).1
        simp at this; omega
      rw [hi0] at hi
      simp only [List.getElem?_cons_zero, Option.some.injEq] at hi
      subst hi
      rw [show i = o.length by omega, List.take_left']
      · exact h3 u (hE u e hu).1 hu
      · rfl
end Go.Proofs.Ytebmlphobgaboab
