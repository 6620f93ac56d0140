/-
  Searches in depth: a path grows by candidates in order, the first path that is accepted is the answer.
-/
import Derived.Test.YtebmlphobgaboabStarT
namespace Go.Proofs.Ytebmlphobgaboab

def gdfs (acc : List Nat → Bool) (cand : List Nat → Nat → Bool) (N : Nat) : Nat → List Nat → Option (List Nat)
  | 0, _ => none
  | k + 1, p => if acc p then some p else (List.range N).findSome? fun v => if cand p v then gdfs acc cand N k (p ++ [v]) else none
/-- a path grows by candidates -/
def Steps (cand : List Nat → Nat → Bool) : List Nat → List Nat → Prop
  | _, [] => True
  | p, v :: q => cand p v = true ∧ Steps cand (p ++ [v]) q
theorem gdfs_some {acc : List Nat → Bool} {cand : List Nat → Nat → Bool} {N : Nat} : ∀ {k : Nat} {p r : List Nat}, gdfs acc cand N k p = some r → acc r = true ∧ ∃ q, r = p ++ q ∧ Steps cand p q ∧ ∀ x, x ∈ q → x < N
  | 0, p, r, h => by cases h
  | k + 1, p, r, h => by
    unfold gdfs at h
    by_cases ha : acc p = true
    · rw [if_pos ha] at h
      cases h
      exact ⟨ha, [], by simp, trivial, fun x hx => (by cases hx)⟩
    · rw [if_neg ha] at h
      obtain ⟨v, hv, h2⟩ := List.exists_of_findSome?_eq_some h
      by_cases hc : cand p v = true
      · rw [if_pos hc] at h2
        obtain ⟨h3, q, h4, h5, h6⟩ := gdfs_some h2
        refine ⟨h3, v :: q, by rw [h4]; simp, ⟨hc, h5⟩, fun x hx => ?_⟩
        rcases List.mem_cons.1 hx with rfl | hx
        · simpa using hv
        · exact h6 x hx
      · rw [if_neg hc] at h2; cases h2
theorem gdfs_none {acc : List Nat → Bool} {cand : List Nat → Nat → Bool} {N : Nat} : ∀ {k : Nat} {p q : List Nat}, gdfs acc cand N k p = none → q.length < k → Steps cand p q → (∀ x, x ∈ q → x < N) → acc (p ++ q) = false
  | 0, p, q, _, h, _, _ => by omega
  | k + 1, p, q, h, hk, hs, hq => by
    unfold gdfs at h
    by_cases ha : acc p = true
    · rw [if_pos ha] at h; cases h
    · rw [if_neg ha] at h
      cases q with
      | nil => rw [List.append_nil]; simpa using ha
      | cons v q =>
        have h2 := List.findSome?_eq_none_iff.1 h v (by simpa using hq v (by simp))
        rw [if_pos hs.1] at h2
        have h3 := gdfs_none h2 (by simp at hk; omega) hs.2 (fun x hx => hq x (by simp [hx]))
        rw [List.append_assoc] at h3
        exact h3
theorem gdfs_congr {acc acc' : List Nat → Bool} {cand cand' : List Nat → Nat → Bool} {N : Nat} (I : List Nat → Prop) (ha : ∀ p, I p → acc p = acc' p) (hc : ∀ p v, I p → v < N → cand p v = cand' p v) (hI : ∀ p v, I p → v < N → cand p v = true → I (p ++ [v])) : ∀ {k : Nat} {p : List Nat}, I p → gdfs acc cand N k p = gdfs acc' cand' N k p := by
  have fs : ∀ {l : List Nat} {f g : Nat → Option (List Nat)}, (∀ v, v ∈ l → f v = g v) → l.findSome? f = l.findSome? g := by
    intro l f g h
    induction l with
    | nil => rfl
    | cons x l ih => rw [List.findSome?_cons, List.findSome?_cons, h x (by simp), ih (fun v hv => h v (by simp [hv]))]
  intro k
  induction k with
  | zero => intro p _; rfl
  | succ k ih =>
    intro p hp
    unfold gdfs
    rw [ha p hp]
    refine ite_congr rfl (fun _ => rfl) (fun _ => fs fun v hv => ?_)
    have hvN : v < N := by simpa using hv
    rw [hc p v hp hvN]
    by_cases h : cand' p v = true
    · rw [if_pos h, if_pos h]
      exact ih (hI p v hp hvN (by rw [hc p v hp hvN]; exact h))
    · rw [if_neg h, if_neg h]
/-- more rounds than there are candidates change nothing -/
theorem gdfs_fuel {acc : List Nat → Bool} {cand : List Nat → Nat → Bool} {N : Nat} (m : List Nat → Nat) (hm : ∀ p v, v < N → cand p v = true → m (p ++ [v]) < m p) : ∀ {k k' : Nat} {p : List Nat}, m p < k → m p < k' → gdfs acc cand N k p = gdfs acc cand N k' p := by
  have fs : ∀ {l : List Nat} {f g : Nat → Option (List Nat)}, (∀ v, v ∈ l → f v = g v) → l.findSome? f = l.findSome? g := by
    intro l f g h
    induction l with
    | nil => rfl
    | cons x l ih => rw [List.findSome?_cons, List.findSome?_cons, h x (by simp), ih (fun v hv => h v (by simp [hv]))]
  intro k
  induction k with
  | zero => intro k' p h; omega
  | succ k ih =>
    intro k' p h h'
    obtain ⟨k', rfl⟩ : ∃ j, k' = j + 1 := ⟨k' - 1, by omega⟩
    unfold gdfs
    refine ite_congr rfl (fun _ => rfl) (fun _ => fs fun v hv => ?_)
    by_cases hc : cand p v = true
    · rw [if_pos hc, if_pos hc]
      have := hm p v (by simpa using hv) hc
      exact ih (by omega) (by omega)
    · rw [if_neg hc, if_neg hc]

/-! ### Cycles in a table -/
def lastN (p : List Nat) : Nat := p.getLastD 0
def headN (p : List Nat) : Nat := p.headD 0
theorem lastN_snoc (p : List Nat) (v : Nat) : lastN (p ++ [v]) = v := by unfold lastN; simp
theorem headN_snoc {p : List Nat} (h : p ≠ []) (q : List Nat) : headN (p ++ q) = headN p := by
  cases p with
  | nil => exact absurd rfl h
  | cons x p => rfl
/-- a path's weight -/
def pathw (a : Nat → Nat → Int) : List Nat → Int
  | [] => 0
  | [_] => 0
  | u :: v :: q => a v u + pathw a (v :: q)
theorem pathw_snoc (a : Nat → Nat → Int) (v : Nat) : ∀ {p : List Nat}, p ≠ [] → pathw a (p ++ [v]) = pathw a p + a v (lastN p)
  | [], h => absurd rfl h
  | [u], _ => by show a v u + 0 = 0 + a v u; omega
  | u :: w :: q, _ => by
    show a w u + pathw a ((w :: q) ++ [v]) = a w u + pathw a (w :: q) + a v (lastN (u :: w :: q))
    rw [pathw_snoc a v (p := w :: q) (by simp)]
    have : lastN (u :: w :: q) = lastN (w :: q) := by unfold lastN; simp [List.getLastD]
    rw [this]; omega
theorem cw_path (a : Nat → Nat → Int) (f : Nat) : ∀ (q : List Nat) (l : Nat), cw a l q f = pathw a (l :: q) + a f (lastN (l :: q))
  | [], l => by show a f l = 0 + a f l; omega
  | v :: q, l => by
    show a v l + cw a v q f = a v l + pathw a (v :: q) + a f (lastN (l :: v :: q))
    rw [cw_path a f q v]
    have : lastN (l :: v :: q) = lastN (v :: q) := by unfold lastN; simp [List.getLastD]
    rw [this]; omega
/-- does the path close, with a weight that is wanted -/
def accG (a : Nat → Nat → Int) (good : Int → Bool) (p : List Nat) : Bool := arcB a (lastN p) (headN p) && good (pathw a p + a (headN p) (lastN p))
def candW (a : Nat → Nat → Int) (p : List Nat) (v : Nat) : Bool := decide (headN p < v) && arcB a (lastN p) v && !p.contains v
theorem steps_cyc {a : Nat → Nat → Int} {n f : Nat} : ∀ {q p : List Nat}, p ≠ [] → headN p = f → Chain (arcB a) (lastN p) q f → (∀ x, x ∈ q → f < x ∧ x < n) → (p ++ q).Nodup → Steps (candW a) p q ∧ arcB a (lastN (p ++ q)) f = true
  | [], p, _, _, hc, _, _ => ⟨trivial, by rw [List.append_nil]; exact hc⟩
  | v :: q, p, hp, hf, hc, hq, hd => by
    have e : p ++ v :: q = (p ++ [v]) ++ q := by simp
    have hv := hq v (by simp)
    have hnv : v ∉ p := by
      intro h
      rw [List.nodup_append] at hd
      exact hd.2.2 v h v (by simp) rfl
    obtain ⟨h1, h2⟩ := steps_cyc (n := n) (f := f) (q := q) (p := p ++ [v]) (by simp) (by rw [headN_snoc hp]; exact hf) (by rw [lastN_snoc]; exact hc.2) (fun x hx => hq x (by simp [hx])) (by rw [← e]; exact hd)
    refine ⟨⟨?_, h1⟩, by rw [e]; exact h2⟩
    unfold candW
    rw [hf, Bool.and_eq_true, Bool.and_eq_true]
    exact ⟨⟨decide_eq_true hv.1, hc.1⟩, by simpa using hnv⟩
theorem cyc_steps {a : Nat → Nat → Int} {f : Nat} : ∀ {q p : List Nat}, p ≠ [] → headN p = f → Steps (candW a) p q → p.Nodup → arcB a (lastN (p ++ q)) f = true → Chain (arcB a) (lastN p) q f ∧ (∀ x, x ∈ q → f < x) ∧ (p ++ q).Nodup
  | [], p, _, _, _, hd, hc => ⟨by rw [List.append_nil] at hc; exact hc, (by intro x hx; cases hx), by rw [List.append_nil]; exact hd⟩
  | v :: q, p, hp, hf, hs, hd, hc => by
    have e : p ++ v :: q = (p ++ [v]) ++ q := by simp
    have h0 := hs.1
    unfold candW at h0
    rw [hf, Bool.and_eq_true, Bool.and_eq_true] at h0
    have hnv : v ∉ p := by simpa using h0.2
    have hfv : f < v := of_decide_eq_true h0.1.1
    obtain ⟨h1, h2, h3⟩ := cyc_steps (f := f) (q := q) (p := p ++ [v]) (by simp) (by rw [headN_snoc hp]; exact hf) hs.2 (by
      rw [List.nodup_append]
      refine ⟨hd, by simp, fun x hx y hy => ?_⟩
      simp only [List.mem_singleton] at hy
      subst hy
      exact fun e => hnv (e ▸ hx)) (by rw [← e]; exact hc)
    rw [lastN_snoc] at h1
    refine ⟨⟨h0.1.2, h1⟩, fun x hx => ?_, by rw [e]; exact h3⟩
    rcases List.mem_cons.1 hx with rfl | hx
    · exact hfv
    · exact h2 x hx
/-- the first cycle that is accepted, over all first nodes -/
def firstCyc (a : Nat → Nat → Int) (n : Nat) (good : Int → Bool) (K : Nat) : Option (List Nat) := (List.range n).findSome? fun v => gdfs (accG a good) (candW a) n K [v]
theorem firstCyc_iff {a : Nat → Nat → Int} {n K : Nat} {good : Int → Bool} (hK : n < K) : (firstCyc a n good K).isSome = true ↔ ∃ v q, v < n ∧ Cyc (arcB a) n v q ∧ good (cw a v q v) = true := by
  constructor
  · intro h
    obtain ⟨r, hr⟩ := Option.isSome_iff_exists.1 h
    obtain ⟨v, hv, h1⟩ := List.exists_of_findSome?_eq_some hr
    obtain ⟨h2, q, rfl, h3, h4⟩ := gdfs_some h1
    have hvn : v < n := by simpa using hv
    unfold accG at h2
    rw [Bool.and_eq_true] at h2
    have e : headN ([v] ++ q) = v := rfl
    rw [e] at h2
    obtain ⟨c1, c2, c3⟩ := cyc_steps (a := a) (f := v) (q := q) (p := [v]) (by simp) rfl h3 (by simp) h2.1
    refine ⟨v, q, hvn, ⟨fun x hx => ⟨c2 x hx, h4 x hx⟩, c3, c1⟩, ?_⟩
    rw [cw_path]
    exact h2.2
  · rintro ⟨v, q, hv, ⟨h1, h2, h3⟩, h4⟩
    cases hr : firstCyc a n good K with
    | some r => rfl
    | none =>
      exfalso
      have h5 := List.findSome?_eq_none_iff.1 hr v (by simpa using hv)
      obtain ⟨s1, s2⟩ := steps_cyc (a := a) (n := n) (f := v) (q := q) (p := [v]) (by simp) rfl h3 h1 h2
      have hl : q.length < K := by
        have := nodup_le n q (List.nodup_cons.1 h2).2 (fun x hx => (h1 x hx).2)
        omega
      have h6 := gdfs_none h5 hl s1 (fun x hx => (h1 x hx).2)
      unfold accG at h6
      have e : headN ([v] ++ q) = v := rfl
      rw [e, s2, Bool.true_and] at h6
      rw [cw_path] at h4
      have e2 : [v] ++ q = v :: q := rfl
      rw [e2, h4] at h6
      cases h6
theorem firstCyc_pos {a : Nat → Nat → Int} {n K : Nat} (hK : n < K) : (firstCyc a n (fun w => decide (0 < w)) K).isSome = true ↔ PosCyc a n := by
  rw [firstCyc_iff hK]
  constructor
  · rintro ⟨v, q, h1, h2, h3⟩; exact ⟨v, q, h1, h2, of_decide_eq_true h3⟩
  · rintro ⟨v, q, h1, h2, h3⟩; exact ⟨v, q, h1, h2, decide_eq_true h3⟩
theorem firstCyc_ne {a : Nat → Nat → Int} {n K : Nat} {good : Int → Bool} {r : List Nat} (h : firstCyc a n good K = some r) : r ≠ [] ∧ r.length ≤ n ∧ ∀ x, x ∈ r → x < n := by
  obtain ⟨v, hv, h1⟩ := List.exists_of_findSome?_eq_some h
  obtain ⟨h2, q, rfl, h3, h4⟩ := gdfs_some h1
  have hvn : v < n := by simpa using hv
  unfold accG at h2
  rw [Bool.and_eq_true] at h2
  obtain ⟨c1, c2, c3⟩ := cyc_steps (a := a) (f := v) (q := q) (p := [v]) (by simp) rfl h3 (by simp) h2.1
  have hlt : ∀ x, x ∈ [v] ++ q → x < n := fun x hx => by
    rcases List.mem_cons.1 hx with rfl | hx
    · exact hvn
    · exact h4 x hx
  exact ⟨by simp, nodup_le n _ c3 hlt, hlt⟩

/-! ### The first of a range -/
theorem fs_none {β : Type} {g : Nat → Option β} : ∀ {n : Nat}, (∀ v, v < n → g v = none) → (List.range n).findSome? g = none
  | 0, _ => rfl
  | n + 1, h => by
    rw [List.range_succ, List.findSome?_append, fs_none (fun v hv => h v (by omega))]
    simp [h n (by omega)]
theorem fs_some {β : Type} {g : Nat → Option β} {v : Nat} {r : β} (h1 : ∀ u, u < v → g u = none) (h2 : g v = some r) : ∀ {n : Nat}, v < n → (List.range n).findSome? g = some r
  | 0, h => by omega
  | n + 1, h => by
    rw [List.range_succ, List.findSome?_append]
    by_cases e : v = n
    · subst e
      rw [fs_none h1]
      simp [h2]
    · rw [fs_some h1 h2 (n := n) (by omega)]; rfl

end Go.Proofs.Ytebmlphobgaboab
