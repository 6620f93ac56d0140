/-
  Rounds of relaxations over a list of arcs (Bellman and Ford): they come to rest within as many rounds as there are nodes exactly where no cycle is positive.
-/
import Derived.Test.YtgkgimglgjfcjaaDfs
namespace Go.Proofs.Ytgkgimglgjfcjaa

/-- a list of arcs and its table -/
structure Arcs {α : Type} (a : Nat → Nat → Int) (n : Nat) (t f : α → Nat) (w : α → Int) (ps : List α) : Prop where
  lt : ∀ p, p ∈ ps → t p < n ∧ f p < n
  bd : ∀ p, p ∈ ps → -1000000 ≤ w p ∧ w p ≤ 1000000
  ge : ∀ p, p ∈ ps → w p ≤ a (t p) (f p)
  cs : ∀ i j, a i j = -1000000000000000 ∨ ∃ p, p ∈ ps ∧ t p = i ∧ f p = j ∧ a i j = w p
theorem Arcs.ok {α : Type} {a : Nat → Nat → Int} {n : Nat} {t f : α → Nat} {w : α → Int} {ps : List α} (h : Arcs a n t f w ps) : TabOk a n := fun i j _ _ => by
  rcases h.cs i j with e | ⟨p, hp, _, _, e⟩
  · exact .inl e
  · rw [e]; exact .inr (h.bd p hp)
theorem Arcs.turn {α : Type} {a : Nat → Nat → Int} {n : Nat} {t f : α → Nat} {w : α → Int} {ps : List α} (h : Arcs a n t f w ps) : Arcs (fun i j => a j i) n f t w ps :=
  ⟨fun p hp => ⟨(h.lt p hp).2, (h.lt p hp).1⟩, h.bd, h.ge, fun i j => by
    rcases h.cs j i with e | ⟨p, hp, h1, h2, e⟩
    · exact .inl e
    · exact .inr ⟨p, hp, h2, h1, e⟩⟩
theorem fw_turn (a : Nat → Nat → Int) : ∀ (k i j : Nat), fw (fun i j => a j i) k i j = fw a k j i
  | 0, i, j => by
    show max (a j i) (un i j) = max (a j i) (un j i)
    unfold un
    by_cases e : i = j
    · rw [if_pos e, if_pos e.symm]
    · rw [if_neg e, if_neg (fun h => e h.symm)]
  | k + 1, i, j => by
    show max (fw _ k i j) (ta (fw _ k i k) (fw _ k k j)) = max (fw a k j i) (ta (fw a k j k) (fw a k k i))
    rw [fw_turn a k i j, fw_turn a k i k, fw_turn a k k j]
    congr 1
    unfold ta
    by_cases e : fw a k k i = -1000000000000000 ∨ fw a k j k = -1000000000000000
    · rw [if_pos e, if_pos e.symm]
    · rw [if_neg e, if_neg (fun h => e h.symm)]; omega

section bf
variable {α : Type} (t f : α → Nat) (w : α → Int)
def chg (x : Nat → Int) (p : α) : Bool := decide (x (t p) < x (f p) + w p)
def stp (x : Nat → Int) (p : α) (i : Nat) : Int := if i = t p then max (x (t p)) (x (f p) + w p) else x i
def rnd : (Nat → Int) → List α → Nat → Int
  | x, [] => x
  | x, p :: ps => rnd (stp t f w x p) ps
def chd : (Nat → Int) → List α → Bool
  | _, [] => false
  | x, p :: ps => chg t f w x p || chd (stp t f w x p) ps
def its (x : Nat → Int) (ps : List α) : Nat → Nat → Int
  | 0 => x
  | k + 1 => rnd t f w (its x ps k) ps
variable {t f w}
theorem rnd_snoc : ∀ (ps : List α) (x : Nat → Int) (p : α), rnd t f w x (ps ++ [p]) = stp t f w (rnd t f w x ps) p
  | [], _, _ => rfl
  | q :: ps, x, p => rnd_snoc ps (stp t f w x q) p
theorem chd_snoc : ∀ (ps : List α) (x : Nat → Int) (p : α), chd t f w x (ps ++ [p]) = (chd t f w x ps || chg t f w (rnd t f w x ps) p)
  | [], x, p => by show (chg t f w x p || false) = (false || chg t f w x p); simp
  | q :: ps, x, p => by
    show (chg t f w x q || chd t f w (stp t f w x q) (ps ++ [p])) = ((chg t f w x q || chd t f w (stp t f w x q) ps) || chg t f w (rnd t f w (stp t f w x q) ps) p)
    rw [chd_snoc ps (stp t f w x q) p, Bool.or_assoc]
theorem stp_ge (x : Nat → Int) (p : α) (i : Nat) : x i ≤ stp t f w x p i := by
  unfold stp
  by_cases e : i = t p
  · rw [if_pos e, e]; omega
  · rw [if_neg e]; exact Int.le_refl _
theorem stp_arc (x : Nat → Int) (p : α) : x (f p) + w p ≤ stp t f w x p (t p) := by
  unfold stp; rw [if_pos rfl]; omega
theorem rnd_ge : ∀ (ps : List α) (x : Nat → Int) (i : Nat), x i ≤ rnd t f w x ps i
  | [], _, _ => Int.le_refl _
  | q :: ps, x, i => Int.le_trans (stp_ge x q i) (rnd_ge ps _ i)
theorem rnd_arc : ∀ (ps : List α) (x : Nat → Int) (p : α), p ∈ ps → x (f p) + w p ≤ rnd t f w x ps (t p)
  | [], _, _, h => by cases h
  | q :: ps, x, p, h => by
    show _ ≤ rnd t f w (stp t f w x q) ps (t p)
    rcases List.mem_cons.1 h with rfl | h
    · exact Int.le_trans (stp_arc x p) (rnd_ge ps _ _)
    · have h1 := rnd_arc ps (stp t f w x q) p h
      have h2 := stp_ge (t := t) (f := f) (w := w) x q (f p)
      omega
theorem stp_same {x : Nat → Int} {p : α} (h : x (f p) + w p ≤ x (t p)) : stp t f w x p = x := by
  funext i
  unfold stp
  by_cases e : i = t p
  · rw [if_pos e, e]; omega
  · rw [if_neg e]
theorem chg_false {x : Nat → Int} {p : α} : chg t f w x p = false ↔ x (f p) + w p ≤ x (t p) := by
  unfold chg; rw [decide_eq_false_iff_not]; omega
theorem chd_false : ∀ {ps : List α} {x : Nat → Int}, chd t f w x ps = false → rnd t f w x ps = x ∧ ∀ p, p ∈ ps → x (f p) + w p ≤ x (t p)
  | [], _, _ => ⟨rfl, fun p hp => by cases hp⟩
  | q :: ps, x, h => by
    have h' : (chg t f w x q || chd t f w (stp t f w x q) ps) = false := h
    rw [Bool.or_eq_false_iff] at h'
    have e := stp_same (chg_false.1 h'.1)
    rw [e] at h'
    obtain ⟨h1, h2⟩ := chd_false h'.2
    refine ⟨?_, fun p hp => ?_⟩
    · show rnd t f w (stp t f w x q) ps = x
      rw [e]; exact h1
    · rcases List.mem_cons.1 hp with rfl | hp
      · exact chg_false.1 h'.1
      · exact h2 p hp
theorem chd_none : ∀ {ps : List α} {x : Nat → Int}, (∀ p, p ∈ ps → x (f p) + w p ≤ x (t p)) → chd t f w x ps = false
  | [], _, _ => rfl
  | q :: ps, x, h => by
    show (chg t f w x q || chd t f w (stp t f w x q) ps) = false
    have h1 := h q (by simp)
    rw [stp_same h1, chg_false.2 h1, chd_none (ps := ps) (x := x) fun p hp => h p (by simp [hp])]; rfl
theorem its_ge (x : Nat → Int) (ps : List α) : ∀ (k i : Nat), x i ≤ its t f w x ps k i
  | 0, _ => Int.le_refl _
  | k + 1, i => Int.le_trans (its_ge x ps k i) (rnd_ge ps _ i)
theorem stp_bd {x : Nat → Int} {p : α} {n : Nat} {M : Int} (hx : ∀ i, i < n → -M ≤ x i ∧ x i ≤ M) (ht : t p < n ∧ f p < n) (hw : -1000000 ≤ w p ∧ w p ≤ 1000000) : ∀ i, i < n → -(M + 1000000) ≤ stp t f w x p i ∧ stp t f w x p i ≤ M + 1000000 := by
  intro i hi
  have h1 := hx i hi
  have h2 := hx _ ht.1
  have h3 := hx _ ht.2
  unfold stp
  by_cases e : i = t p
  · rw [if_pos e]; omega
  · rw [if_neg e]; omega
variable {a : Nat → Nat → Int} {n : Nat} {ps : List α}
theorem rnd_bd {x : Nat → Int} {M : Int} (hA : ∀ p, p ∈ ps → (t p < n ∧ f p < n) ∧ -1000000 ≤ w p ∧ w p ≤ 1000000) (hx : ∀ i, i < n → -M ≤ x i ∧ x i ≤ M) : ∀ i, i < n → -(M + 1000000 * (ps.length : Int)) ≤ rnd t f w x ps i ∧ rnd t f w x ps i ≤ M + 1000000 * (ps.length : Int) := by
  induction ps generalizing x M with
  | nil => intro i hi; have := hx i hi; show -(M + 1000000 * ((0 : Nat) : Int)) ≤ x i ∧ x i ≤ M + 1000000 * ((0 : Nat) : Int); omega
  | cons q ps ih =>
    intro i hi
    have hq := hA q (by simp)
    have := ih (x := stp t f w x q) (M := M + 1000000) (fun p hp => hA p (by simp [hp])) (stp_bd hx hq.1 hq.2) i hi
    show -(M + 1000000 * ((ps.length + 1 : Nat) : Int)) ≤ rnd t f w (stp t f w x q) ps i ∧ rnd t f w (stp t f w x q) ps i ≤ M + 1000000 * ((ps.length + 1 : Nat) : Int)
    omega
/-- rounds reach all walks -/
theorem its_low (hA : Arcs a n t f w ps) (x : Nat → Int) : ∀ (k : Nat) {i j : Nat}, i < n → j < n → WW a n k i j ≠ -1000000000000000 → WW a n k i j + x j ≤ its t f w x ps k i
  | 0, i, j, _, _, h => by
    have h' : un i j ≠ -1000000000000000 := h
    show un i j + x j ≤ x i
    by_cases e : i = j
    · subst e; rw [un_self]; omega
    · exact absurd (un_ne e) h'
  | k + 1, i, j, hi, hj, h => by
    rcases WW_cases hA.ok (k := k) (i := i) (j := j) with e | e | ⟨q, hq, e⟩
    · rw [e] at h ⊢
      by_cases e2 : i = j
      · subst e2; rw [un_self]; have := its_ge (t := t) (f := f) (w := w) x ps (k + 1) i; omega
      · exact absurd (un_ne e2) h
    · exact absurd e h
    · rw [e] at h ⊢
      have h1 : a i q ≠ -1000000000000000 := fun h1 => h (by rw [h1]; exact ta_botl)
      have h2 : WW a n k q j ≠ -1000000000000000 := fun h2 => h (by rw [h2]; exact ta_botr)
      rw [ta_fin h1 h2]
      have h3 := its_low hA x k hq hj h2
      rcases hA.cs i q with e3 | ⟨p, hp, rfl, rfl, e3⟩
      · exact absurd e3 h1
      · have h4 := rnd_arc (t := t) (f := f) (w := w) ps (its t f w x ps k) p hp
        show _ ≤ rnd t f w (its t f w x ps k) ps (t p)
        omega
/-- no round goes beyond the closure -/
def UpTo (a : Nat → Nat → Int) (n : Nat) (x y : Nat → Int) : Prop := ∀ i, i < n → ∃ j, j < n ∧ fw a n i j ≠ -1000000000000000 ∧ y i ≤ fw a n i j + x j
theorem fw_next (hA : Arcs a n t f w ps) (hn : n ≤ 11) (h : FwOk a n) {p : α} (hp : p ∈ ps) {j : Nat} (hj : j < n) (h1 : fw a n (f p) j ≠ -1000000000000000) : fw a n (t p) j ≠ -1000000000000000 ∧ w p + fw a n (f p) j ≤ fw a n (t p) j := by
  have ha := hA.ok
  obtain ⟨ht, hf⟩ := hA.lt p hp
  have hge := hA.ge p hp
  have hb := hA.bd p hp
  have h2 := fw_arc ha n (t p) (f p)
  have h3 := fw_ok ha n (Nat.le_refl _) ht hf
  have h4 := fw_ok ha n (Nat.le_refl _) hf hj
  have h5 := fw_ok ha n (Nat.le_refl _) ht hj
  have hbd := bdw_le hn
  have h6 := fw_closed ha hn n (Nat.le_refl _) (fwok_step ha h) (f p) (t p) j hf ht hj (by omega) h1
  unfold Okw at h3 h4 h5
  omega
theorem up_stp (hA : Arcs a n t f w ps) (hn : n ≤ 11) (h : FwOk a n) {x y : Nat → Int} (hy : UpTo a n x y) {p : α} (hp : p ∈ ps) : UpTo a n x (stp t f w y p) := by
  intro i hi
  unfold stp
  by_cases e : i = t p
  · rw [if_pos e]
    by_cases hc : y (f p) + w p ≤ y (t p)
    · obtain ⟨j, h1, h2, h3⟩ := hy i hi
      subst e
      exact ⟨j, h1, h2, by omega⟩
    · obtain ⟨j, h1, h2, h3⟩ := hy _ (hA.lt p hp).2
      obtain ⟨h4, h5⟩ := fw_next hA hn h hp h1 h2
      subst e
      exact ⟨j, h1, h4, by omega⟩
  · rw [if_neg e]; exact hy i hi
theorem up_rnd (hA : Arcs a n t f w ps) (hn : n ≤ 11) (h : FwOk a n) {x : Nat → Int} : ∀ (qs : List α) {y : Nat → Int}, (∀ p, p ∈ qs → p ∈ ps) → UpTo a n x y → UpTo a n x (rnd t f w y qs)
  | [], _, _, hy => hy
  | q :: qs, _, hs, hy => up_rnd hA hn h qs (fun p hp => hs p (by simp [hp])) (up_stp hA hn h hy (hs q (by simp)))
theorem its_up (hA : Arcs a n t f w ps) (hn : n ≤ 11) (h : FwOk a n) (x : Nat → Int) : ∀ k, UpTo a n x (its t f w x ps k)
  | 0 => fun i hi => ⟨i, hi, by have := fw_diag hA.ok n i; omega, by have := fw_diag hA.ok n i; show x i ≤ _; omega⟩
  | k + 1 => up_rnd hA hn h ps (fun _ hp => hp) (its_up hA hn h x k)
/-- after as many rounds as nodes the closure is there -/
theorem its_full (hA : Arcs a n t f w ps) (hn : n ≤ 11) (h : FwOk a n) (x : Nat → Int) {i : Nat} (hi : i < n) : (∀ j, j < n → fw a n i j ≠ -1000000000000000 → fw a n i j + x j ≤ its t f w x ps n i) ∧ ∃ j, j < n ∧ fw a n i j ≠ -1000000000000000 ∧ its t f w x ps n i = fw a n i j + x j := by
  have hl : ∀ j, j < n → fw a n i j ≠ -1000000000000000 → fw a n i j + x j ≤ its t f w x ps n i := fun j hj hne => by
    rw [star_eq hA.ok hn h hi hj] at hne ⊢
    exact its_low hA x n hi hj hne
  obtain ⟨j, h1, h2, h3⟩ := its_up hA hn h x n i hi
  exact ⟨hl, j, h1, h2, Int.le_antisymm h3 (hl j h1 h2)⟩
theorem its_rest (hA : Arcs a n t f w ps) (hn : n ≤ 11) (h : FwOk a n) (x : Nat → Int) : chd t f w (its t f w x ps n) ps = false := chd_none fun p hp => by
  obtain ⟨ht, hf⟩ := hA.lt p hp
  obtain ⟨_, j, h1, h2, h3⟩ := its_full hA hn h x hf
  obtain ⟨h4, h5⟩ := fw_next hA hn h hp h1 h2
  have := (its_full hA hn h x ht).1 j h1 h4
  omega
/-- at rest no cycle is positive -/
theorem rest_chain (hA : Arcs a n t f w ps) {x : Nat → Int} (hx : ∀ p, p ∈ ps → x (f p) + w p ≤ x (t p)) : ∀ (q : List Nat) {l e : Nat}, Chain (arcB a) l q e → cw a l q e + x l ≤ x e
  | [], l, e, hc => by
    have hne := arcB_true.1 hc
    show a e l + x l ≤ x e
    rcases hA.cs e l with h | ⟨p, hp, rfl, rfl, h⟩
    · exact absurd h hne
    · have := hx p hp; omega
  | v :: q, l, e, hc => by
    have h1 := rest_chain hA hx q hc.2
    have hne := arcB_true.1 hc.1
    show a v l + cw a v q e + x l ≤ x e
    rcases hA.cs v l with h | ⟨p, hp, rfl, rfl, h⟩
    · exact absurd h hne
    · have := hx p hp; omega
theorem rest_none (hA : Arcs a n t f w ps) {x : Nat → Int} (hx : chd t f w x ps = false) : ¬ PosCyc a n := by
  rintro ⟨v, q, _, ⟨_, _, h3⟩, h4⟩
  have := rest_chain hA (chd_false hx).2 q h3
  omega
end bf

end Go.Proofs.Ytgkgimglgjfcjaa
