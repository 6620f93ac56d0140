/-
  Max-plus closures of square tables: walks of at most k arcs, the elimination of nodes, positive cycles.
-/
import Derived.Test.YtgkgimglgjfcjaaCyc
namespace Go.Proofs.Ytgkgimglgjfcjaa

/-! ### The algebra's product and greatest terms -/
def ta (a b : Int) : Int := if a = -1000000000000000 ∨ b = -1000000000000000 then -1000000000000000 else a + b
/-- a value or nothing, of a size -/
def Okw (M x : Int) : Prop := x = -1000000000000000 ∨ (-M ≤ x ∧ x ≤ M)
theorem ta_fin {a b : Int} (ha : a ≠ -1000000000000000) (hb : b ≠ -1000000000000000) : ta a b = a + b := by
  unfold ta; rw [if_neg (by omega)]
theorem ta_botl {b : Int} : ta (-1000000000000000) b = -1000000000000000 := by unfold ta; rw [if_pos (.inl rfl)]
theorem ta_botr {a : Int} : ta a (-1000000000000000) = -1000000000000000 := by unfold ta; rw [if_pos (.inr rfl)]
theorem ta_ok {M K a b : Int} (ha : Okw M a) (hb : Okw K b) : Okw (M + K) (ta a b) := by
  unfold Okw ta at *
  by_cases h : a = -1000000000000000 ∨ b = -1000000000000000
  · rw [if_pos h]; exact .inl rfl
  · rw [if_neg h]; omega
theorem ok_ge {M x : Int} (h : Okw M x) (hM : M < 1000000000000000) : -1000000000000000 ≤ x := by unfold Okw at h; omega
theorem ok_up {M K x : Int} (h : Okw M x) (hM : M ≤ K) : Okw K x := by unfold Okw at *; omega
theorem ta_le {M K x y z : Int} (hz : Okw M z) (hM : M < 1000000000000000) (h : x ≠ -1000000000000000 → y ≠ -1000000000000000 → x + y ≤ z) (_ : K = K) : ta x y ≤ z := by
  have := ok_ge hz hM
  unfold ta
  by_cases hx : x = -1000000000000000
  · rw [if_pos (.inl hx)]; exact this
  · by_cases hy : y = -1000000000000000
    · rw [if_pos (.inr hy)]; exact this
    · rw [if_neg (by omega)]; exact h hx hy
theorem ta_mono {M K a a' b b' : Int} (ha : Okw M a) (hb : Okw K b) (ha' : Okw M a') (hb' : Okw K b') (hM : 0 ≤ M) (hK : 0 ≤ K) (h : M + K < 1000000000000000) (h1 : a ≤ a') (h2 : b ≤ b') : ta a b ≤ ta a' b' := by
  refine ta_le (K := 0) (ta_ok ha' hb') h (fun hx hy => ?_) rfl
  unfold Okw at ha hb ha' hb'
  rw [ta_fin (by omega) (by omega)]; omega

def mx (n : Nat) (g : Nat → Int) : Int := (List.range n).foldl (fun acc q => max acc (g q)) (-1000000000000000)
theorem mx_succ (n : Nat) (g : Nat → Int) : mx (n + 1) g = max (mx n g) (g n) := by
  unfold mx; rw [List.range_succ, List.foldl_append]; rfl
theorem mx_bot (g : Nat → Int) : ∀ n, -1000000000000000 ≤ mx n g
  | 0 => Int.le_refl _
  | n + 1 => by rw [mx_succ]; have := mx_bot g n; omega
theorem mx_ge {g : Nat → Int} : ∀ {n q : Nat}, q < n → g q ≤ mx n g
  | 0, q, h => by omega
  | n + 1, q, h => by
    rw [mx_succ]
    by_cases e : q = n
    · subst e; omega
    · have := mx_ge (g := g) (show q < n by omega); omega
theorem mx_cases (g : Nat → Int) : ∀ n, mx n g = -1000000000000000 ∨ ∃ q, q < n ∧ mx n g = g q
  | 0 => .inl rfl
  | n + 1 => by
    rw [mx_succ]
    by_cases h : mx n g ≤ g n
    · exact .inr ⟨n, by omega, by omega⟩
    · rcases mx_cases g n with h1 | ⟨q, h1, h2⟩
      · exact .inl (by omega)
      · exact .inr ⟨q, by omega, by omega⟩
theorem mx_le {n : Nat} {g : Nat → Int} {u : Int} (hu : -1000000000000000 ≤ u) (h : ∀ q, q < n → g q ≤ u) : mx n g ≤ u := by
  rcases mx_cases g n with h1 | ⟨q, h1, h2⟩
  · omega
  · rw [h2]; exact h q h1
theorem mx_ok {M : Int} {n : Nat} {g : Nat → Int} (h : ∀ q, q < n → Okw M (g q)) : Okw M (mx n g) := by
  rcases mx_cases g n with h1 | ⟨q, h1, h2⟩
  · exact .inl h1
  · rw [h2]; exact h q h1
theorem mx_congr {n : Nat} {g h : Nat → Int} : (∀ q, q < n → g q = h q) → mx n g = mx n h := by
  induction n with
  | zero => intro _; rfl
  | succ n ih => intro e; rw [mx_succ, mx_succ, ih (fun q hq => e q (by omega)), e n (by omega)]
theorem max_ok {M x y : Int} (hx : Okw M x) (hy : Okw M y) : Okw M (max x y) := by unfold Okw at *; omega

def un (i j : Nat) : Int := if i = j then 0 else -1000000000000000
theorem un_ok {M : Int} (hM : 0 ≤ M) (i j : Nat) : Okw M (un i j) := by
  unfold un Okw
  by_cases h : i = j
  · rw [if_pos h]; omega
  · rw [if_neg h]; exact .inl rfl
theorem un_self (i : Nat) : un i i = 0 := by unfold un; rw [if_pos rfl]
theorem un_ne {i j : Nat} (h : i ≠ j) : un i j = -1000000000000000 := by unfold un; rw [if_neg h]

/-! ### Walks of at most k arcs -/
def WW (a : Nat → Nat → Int) (n : Nat) : Nat → Nat → Nat → Int
  | 0 => un
  | k + 1 => fun i j => max (un i j) (mx n fun q => ta (a i q) (WW a n k q j))
def TabOk (a : Nat → Nat → Int) (n : Nat) : Prop := ∀ i j, i < n → j < n → Okw 1000000 (a i j)

section walks
variable {a : Nat → Nat → Int} {n : Nat} (ha : TabOk a n)
include ha

theorem WW_ok : ∀ (k : Nat) {i j : Nat}, i < n → j < n → Okw (1000000 * (k : Int)) (WW a n k i j)
  | 0, i, j, _, _ => un_ok (by omega) i j
  | k + 1, i, j, hi, hj => by
    show Okw _ (max (un i j) _)
    refine max_ok (un_ok (by omega) i j) (mx_ok fun q hq => ?_)
    refine ok_up (ta_ok (ha i q hi hq) (WW_ok k hq hj)) (by omega)
theorem WW_un {k : Nat} (i j : Nat) : un i j ≤ WW a n k i j := by
  have _ := ha
  cases k with
  | zero => exact Int.le_refl _
  | succ k => show un i j ≤ max (un i j) _; omega
theorem WW_arc {k i q j : Nat} (hq : q < n) : ta (a i q) (WW a n k q j) ≤ WW a n (k + 1) i j := by
  have _ := ha
  show _ ≤ max (un i j) (mx n fun q => ta (a i q) (WW a n k q j))
  have := mx_ge (g := fun q => ta (a i q) (WW a n k q j)) hq
  omega
theorem WW_cases {k i j : Nat} : WW a n (k + 1) i j = un i j ∨ WW a n (k + 1) i j = -1000000000000000 ∨ ∃ q, q < n ∧ WW a n (k + 1) i j = ta (a i q) (WW a n k q j) := by
  have _ := ha
  have e : WW a n (k + 1) i j = max (un i j) (mx n fun q => ta (a i q) (WW a n k q j)) := rfl
  rcases mx_cases (fun q => ta (a i q) (WW a n k q j)) n with h | ⟨q, h1, h2⟩
  · by_cases h3 : un i j ≤ -1000000000000000
    · right; left; rw [e, h]; omega
    · left; rw [e, h]; omega
  · rw [h2] at e
    by_cases h3 : un i j ≤ ta (a i q) (WW a n k q j)
    · right; right; exact ⟨q, h1, by rw [e]; omega⟩
    · left; rw [e]; omega
theorem WW_mono : ∀ (k : Nat) {i j : Nat}, k ≤ 10000 → i < n → j < n → WW a n k i j ≤ WW a n (k + 1) i j
  | 0, i, j, _, _, _ => WW_un ha i j
  | k + 1, i, j, hk, hi, hj => by
    rcases WW_cases ha (k := k) (i := i) (j := j) with h | h | ⟨q, h1, h2⟩
    · rw [h]; exact WW_un ha i j
    · rw [h]; exact ok_ge (WW_ok ha (k + 1 + 1) hi hj) (by omega)
    · rw [h2]
      refine Int.le_trans ?_ (WW_arc ha (k := k + 1) (i := i) (j := j) h1)
      exact ta_mono (K := 1000000 * ((k + 1 : Nat) : Int)) (ha i q hi h1) (ok_up (WW_ok ha k h1 hj) (by omega)) (ha i q hi h1) (WW_ok ha (k + 1) h1 hj) (by omega) (by omega) (by omega) (Int.le_refl _) (WW_mono k (by omega) h1 hj)
theorem WW_le {k m : Nat} (h : k ≤ m) (hm : m ≤ 10000) {i j : Nat} (hi : i < n) (hj : j < n) : WW a n k i j ≤ WW a n m i j := by
  induction m with
  | zero => have : k = 0 := by omega
            subst this; exact Int.le_refl _
  | succ m ih =>
    by_cases e : k = m + 1
    · subst e; exact Int.le_refl _
    · exact Int.le_trans (ih (by omega) (by omega)) (WW_mono ha m (by omega) hi hj)
theorem WW_comp : ∀ (p : Nat) {q i m j : Nat}, p + q ≤ 5000 → i < n → m < n → j < n → ta (WW a n p i m) (WW a n q m j) ≤ WW a n (p + q) i j
  | 0, q, i, m, j, h, hi, hm, hj => by
    rw [Nat.zero_add]
    by_cases e : i = m
    · subst e
      show ta (un i i) _ ≤ _
      rw [un_self]
      refine ta_le (K := 0) (WW_ok ha q hi hj) (by omega) (fun _ _ => by omega) rfl
    · show ta (un i m) _ ≤ _
      rw [un_ne e, ta_botl]
      exact ok_ge (WW_ok ha q hi hj) (by omega)
  | p + 1, q, i, m, j, h, hi, hm, hj => by
    have hge := ok_ge (WW_ok ha (p + 1 + q) hi hj) (by omega)
    rcases WW_cases ha (k := p) (i := i) (j := m) with h1 | h1 | ⟨r, h1, h2⟩
    · by_cases e : i = m
      · subst e
        rw [h1, un_self]
        refine ta_le (K := 0) (WW_ok ha (p + 1 + q) hi hj) (by omega) (fun _ _ => ?_) rfl
        have := WW_le ha (show q ≤ p + 1 + q by omega) (by omega) hi hj
        omega
      · rw [h1, un_ne e, ta_botl]; exact hge
    · rw [h1, ta_botl]; exact hge
    · rw [h2]
      refine ta_le (K := 0) (WW_ok ha (p + 1 + q) hi hj) (by omega) (fun hx hy => ?_) rfl
      have hx1 : a i r ≠ -1000000000000000 := fun e => hx (by rw [e, ta_botl])
      have hx2 : WW a n p r m ≠ -1000000000000000 := fun e => hx (by rw [e, ta_botr])
      have h3 := WW_comp p (q := q) (i := r) (m := m) (j := j) (by omega) h1 hm hj
      rw [ta_fin hx2 hy] at h3
      have h4 := WW_arc ha (k := p + q) (i := i) (j := j) h1
      have h5 := WW_ok ha p h1 hm
      have h6 := WW_ok ha q hm hj
      have h7 := WW_ok ha (p + q) h1 hj
      rw [ta_fin hx1 (by unfold Okw at h5 h6; omega)] at h4
      rw [ta_fin hx1 hx2, show p + 1 + q = p + q + 1 by omega]
      omega
/-- where one more arc changes nothing, more arcs change nothing -/
def Stab (a : Nat → Nat → Int) (n : Nat) : Prop := ∀ i j, i < n → j < n → WW a n (n + 1) i j = WW a n n i j
theorem stab_all (hs : Stab a n) : ∀ (d : Nat) {i j : Nat}, i < n → j < n → WW a n (n + d) i j = WW a n n i j
  | 0, i, j, _, _ => rfl
  | d + 1, i, j, hi, hj => by
    have _ := ha
    rw [← hs i j hi hj]
    show max (un i j) (mx n fun q => ta (a i q) (WW a n (n + d) q j)) = max (un i j) (mx n fun q => ta (a i q) (WW a n n q j))
    rw [mx_congr (fun q hq => by rw [stab_all hs d hq hj])]

/-! ### Where the powers do not settle there is a positive closed walk -/
theorem grow_step {k i j : Nat} (hk : k ≤ 5000) (hi : i < n) (hj : j < n) (h : WW a n (k + 1) i j < WW a n (k + 1 + 1) i j) :
    ∃ q, q < n ∧ WW a n k q j < WW a n (k + 1) q j ∧ a i q ≠ -1000000000000000 ∧ WW a n (k + 1 + 1) i j = a i q + WW a n (k + 1) q j := by
  have h1 := WW_un ha (k := k + 1) i j
  have h2 := ok_ge (WW_ok ha (k + 1) hi hj) (by omega)
  rcases WW_cases ha (k := k + 1) (i := i) (j := j) with h3 | h3 | ⟨q, hq, h3⟩
  · omega
  · omega
  · have hx1 : a i q ≠ -1000000000000000 := fun e => by rw [e, ta_botl] at h3; omega
    have hx2 : WW a n (k + 1) q j ≠ -1000000000000000 := fun e => by rw [e, ta_botr] at h3; omega
    refine ⟨q, hq, ?_, hx1, by rw [h3, ta_fin hx1 hx2]⟩
    have hm := WW_mono ha k (by omega) hq hj
    by_cases e : WW a n k q j = WW a n (k + 1) q j
    · exfalso
      have h4 := WW_arc ha (k := k) (i := i) (j := j) hq
      rw [e, ← h3] at h4
      omega
    · omega
theorem grow_trace {j : Nat} (hj : j < n) : ∀ (k : Nat) {i : Nat}, k ≤ 5000 → i < n → WW a n k i j < WW a n (k + 1) i j →
    ∃ c : Nat → Nat, c k = i ∧ (∀ t, t ≤ k → c t < n ∧ WW a n t (c t) j < WW a n (t + 1) (c t) j) ∧ ∀ t, t < k → a (c (t + 1)) (c t) ≠ -1000000000000000 ∧ WW a n (t + 1 + 1) (c (t + 1)) j = a (c (t + 1)) (c t) + WW a n (t + 1) (c t) j := by
  intro k
  induction k with
  | zero =>
    intro i _ hi h
    refine ⟨fun _ => i, rfl, fun t ht => ?_, fun t ht => by omega⟩
    obtain rfl : t = 0 := by omega
    exact ⟨hi, h⟩
  | succ k ih =>
    intro i hk hi h
    obtain ⟨q, hq, h1, h2, h3⟩ := grow_step ha (by omega) hi hj h
    obtain ⟨c, c1, c2, c3⟩ := ih (by omega) hq h1
    refine ⟨fun t => if t ≤ k then c t else i, if_neg (by omega), fun t ht => ?_, fun t ht => ?_⟩
    · by_cases e : t ≤ k
      · simp only [if_pos e]; exact c2 t e
      · obtain rfl : t = k + 1 := by omega
        simp only [if_neg e]; exact ⟨hi, h⟩
    · by_cases e : t + 1 ≤ k
      · simp only [if_pos e, if_pos (show t ≤ k by omega)]; exact c3 t (by omega)
      · obtain rfl : t = k := by omega
        simp only [if_neg e, if_pos (Nat.le_refl t), c1]; exact ⟨h2, h3⟩
end walks

theorem pigeon_n {n : Nat} {c : Nat → Nat} (h : ∀ t, t ≤ n → c t < n) : ∃ p q, p < q ∧ q ≤ n ∧ c p = c q := by
  by_cases hc : ∃ p q, p < q ∧ q ≤ n ∧ c p = c q
  · exact hc
  · exfalso
    have hn : ∀ k, k ≤ n + 1 → ((List.range k).map c).Nodup := by
      intro k
      induction k with
      | zero => intro _; simp
      | succ k ih =>
        intro hk
        rw [List.range_succ, List.map_append, List.nodup_append]
        refine ⟨ih (by omega), by simp, fun x hx y hy => ?_⟩
        rw [List.mem_map] at hx
        obtain ⟨i, hi, rfl⟩ := hx
        simp only [List.map_cons, List.map_nil, List.mem_singleton] at hy
        subst hy
        exact fun e => hc ⟨i, k, by simpa using hi, by omega, e⟩
    have := nodup_le n _ (hn (n + 1) (Nat.le_refl _)) (fun y hy => by
      rw [List.mem_map] at hy
      obtain ⟨i, hi, rfl⟩ := hy
      exact h i (by have : i < n + 1 := by simpa using hi
                    omega))
    rw [List.length_map, List.length_range] at this
    omega

/-- an arc from u to v -/
def arcB (a : Nat → Nat → Int) (u v : Nat) : Bool := decide (a v u ≠ -1000000000000000)
theorem arcB_true {a : Nat → Nat → Int} {u v : Nat} : arcB a u v = true ↔ a v u ≠ -1000000000000000 := by unfold arcB; simp
/-- a chain's weight -/
def cw (a : Nat → Nat → Int) : Nat → List Nat → Nat → Int
  | l, [], f => a f l
  | l, v :: q, f => a v l + cw a v q f
theorem cw_split (a : Nat → Nat → Int) (v f : Nat) (q2 : List Nat) : ∀ (q1 : List Nat) (l : Nat), cw a l (q1 ++ v :: q2) f = cw a l q1 v + cw a v q2 f
  | [], l => rfl
  | u :: q1, l => by show a u l + cw a u (q1 ++ v :: q2) f = a u l + cw a u q1 v + cw a v q2 f; rw [cw_split a v f q2 q1 u]; omega
theorem chain_split {E : Nat → Nat → Bool} {v f : Nat} {q2 : List Nat} : ∀ {q1 : List Nat} {l : Nat}, Chain E l (q1 ++ v :: q2) f ↔ Chain E l q1 v ∧ Chain E v q2 f
  | [], l => Iff.rfl
  | u :: q1, l => by
    show E l u = true ∧ Chain E u (q1 ++ v :: q2) f ↔ (E l u = true ∧ Chain E u q1 v) ∧ Chain E v q2 f
    rw [chain_split (q1 := q1) (l := u), and_assoc]
/-- a closed walk with a positive weight -/
def PosWalk (a : Nat → Nat → Int) (n : Nat) (v : Nat) (q : List Nat) : Prop := (∀ x, x ∈ v :: q → x < n) ∧ Chain (arcB a) v q v ∧ 0 < cw a v q v
theorem walk_split {a : Nat → Nat → Int} {n v : Nat} {q1 q2 : List Nat} (h : PosWalk a n v (q1 ++ v :: q2)) : PosWalk a n v q1 ∨ PosWalk a n v q2 := by
  obtain ⟨h1, h2, h3⟩ := h
  rw [chain_split] at h2
  rw [cw_split] at h3
  by_cases hp : 0 < cw a v q1 v
  · refine .inl ⟨fun x hx => h1 x ?_, h2.1, hp⟩
    simp only [List.mem_cons, List.mem_append] at hx ⊢
    rcases hx with hx | hx
    · exact .inl hx
    · exact .inr (.inl hx)
  · refine .inr ⟨fun x hx => h1 x ?_, h2.2, by omega⟩
    simp only [List.mem_cons, List.mem_append] at hx ⊢
    rcases hx with hx | hx
    · exact .inl hx
    · exact .inr (.inr (.inr hx))
theorem walk_turn {a : Nat → Nat → Int} {n v m : Nat} {q1 q2 : List Nat} (h : PosWalk a n v (q1 ++ m :: q2)) : PosWalk a n m (q2 ++ v :: q1) := by
  obtain ⟨h1, h2, h3⟩ := h
  rw [chain_split] at h2
  rw [cw_split] at h3
  refine ⟨fun x hx => h1 x ?_, chain_split.2 ⟨h2.2, h2.1⟩, by rw [cw_split]; omega⟩
  simp only [List.mem_cons, List.mem_append] at hx ⊢
  rcases hx with hx | hx | hx | hx
  · exact .inr (.inr (.inl hx))
  · exact .inr (.inr (.inr hx))
  · exact .inl hx
  · exact .inr (.inl hx)
theorem dup_split : ∀ {l : List Nat}, ¬ l.Nodup → ∃ x q1 q2 q3, l = q1 ++ x :: (q2 ++ x :: q3)
  | [], h => absurd List.nodup_nil h
  | y :: l, h => by
    by_cases hy : y ∈ l
    · obtain ⟨s, t, rfl⟩ := List.append_of_mem hy
      exact ⟨y, [], s, t, rfl⟩
    · obtain ⟨x, q1, q2, q3, e⟩ := dup_split (l := l) (fun hl => h (List.nodup_cons.2 ⟨hy, hl⟩))
      exact ⟨x, y :: q1, q2, q3, by rw [e]; rfl⟩
/-- a positive closed walk holds a positive simple one -/
theorem walk_simple {a : Nat → Nat → Int} {n : Nat} : ∀ (k : Nat) {v : Nat} {q : List Nat}, q.length ≤ k → PosWalk a n v q → ∃ v q, PosWalk a n v q ∧ (v :: q).Nodup := by
  intro k
  induction k with
  | zero =>
    intro v q hk h
    have : q = [] := List.length_eq_zero_iff.1 (by omega)
    subst this
    exact ⟨v, [], h, by simp⟩
  | succ k ih =>
    intro v q hk h
    by_cases hd : (v :: q).Nodup
    · exact ⟨v, q, h, hd⟩
    · by_cases hv : v ∈ q
      · obtain ⟨s, t, rfl⟩ := List.append_of_mem hv
        have hl : s.length + t.length ≤ k := by simp at hk; omega
        rcases walk_split h with h | h
        · exact ih (by omega) h
        · exact ih (by omega) h
      · obtain ⟨x, q1, q2, q3, rfl⟩ := dup_split (l := q) (fun hl => hd (List.nodup_cons.2 ⟨hv, hl⟩))
        have hl : q1.length + q2.length + q3.length ≤ k := by simp at hk; omega
        have h2 := walk_turn h
        rw [List.append_assoc, List.cons_append] at h2
        rcases walk_split h2 with h3 | h3
        · exact ih (by omega) h3
        · exact ih (by simp only [List.length_append, List.length_cons]; simp at hk; omega) h3
theorem least_mem : ∀ (l : List Nat), l ≠ [] → ∃ m, m ∈ l ∧ ∀ x, x ∈ l → m ≤ x
  | [], h => absurd rfl h
  | [y], _ => ⟨y, by simp, fun x hx => by simp at hx; omega⟩
  | y :: z :: l, _ => by
    obtain ⟨m, h1, h2⟩ := least_mem (z :: l) (by simp)
    by_cases h : y ≤ m
    · refine ⟨y, by simp, fun x hx => ?_⟩
      rcases List.mem_cons.1 hx with rfl | hx
      · exact Nat.le_refl _
      · exact Nat.le_trans h (h2 x hx)
    · refine ⟨m, List.mem_cons_of_mem _ h1, fun x hx => ?_⟩
      rcases List.mem_cons.1 hx with rfl | hx
      · omega
      · exact h2 x hx
/-- a positive cycle, written from its least node -/
def PosCyc (a : Nat → Nat → Int) (n : Nat) : Prop := ∃ v q, v < n ∧ Cyc (arcB a) n v q ∧ 0 < cw a v q v
theorem cyc_of_pos {a : Nat → Nat → Int} {n v : Nat} {q : List Nat} (h : PosWalk a n v q) : PosCyc a n := by
  obtain ⟨v, q, h, hd⟩ := walk_simple q.length (Nat.le_refl _) h
  obtain ⟨m, h1, h2⟩ := least_mem (v :: q) (by simp)
  have key : ∃ q, PosWalk a n m q ∧ (m :: q).Nodup ∧ ∀ x, x ∈ q → m ≤ x := by
    by_cases e : m = v
    · subst e
      exact ⟨q, h, hd, fun x hx => h2 x (List.mem_cons_of_mem _ hx)⟩
    · rcases List.mem_cons.1 h1 with h1 | h1
      · exact absurd h1 e
      · obtain ⟨s, t, rfl⟩ := List.append_of_mem h1
        refine ⟨t ++ v :: s, walk_turn h, ?_, fun x hx => h2 x ?_⟩
        · have : (m :: (t ++ v :: s)).Perm (v :: (s ++ m :: t)) := by
            have e1 : (m :: (t ++ v :: s)) = (m :: t) ++ (v :: s) := rfl
            have e2 : (v :: (s ++ m :: t)) = (v :: s) ++ (m :: t) := rfl
            rw [e1, e2]
            exact List.perm_append_comm
          exact this.nodup_iff.2 hd
        · simp only [List.mem_cons, List.mem_append] at hx ⊢
          rcases hx with hx | hx | hx
          · exact .inr (.inr (.inr hx))
          · exact .inl hx
          · exact .inr (.inl hx)
  obtain ⟨q, h3, h4, h5⟩ := key
  refine ⟨m, q, h3.1 m (by simp), ⟨fun x hx => ⟨?_, h3.1 x (by simp [hx])⟩, h4, h3.2.1⟩, h3.2.2⟩
  have h6 := h5 x hx
  have h7 : x ≠ m := fun e => (List.nodup_cons.1 h4).1 (e ▸ hx)
  omega

/-- the nodes between two -/
def seg (c : Nat → Nat) (p : Nat) (d : Nat) : List Nat := (List.range d).map fun t => c (p + 1 + t)
theorem seg_succ (c : Nat → Nat) (p d : Nat) : seg c p (d + 1) = seg c p d ++ [c (p + 1 + d)] := by
  unfold seg; rw [List.range_succ, List.map_append]; rfl
theorem not_stab {a : Nat → Nat → Int} {n : Nat} (ha : TabOk a n) (hn : n ≤ 1000) (h : ¬ Stab a n) : PosCyc a n := by
  have : ∃ i j, i < n ∧ j < n ∧ WW a n n i j < WW a n (n + 1) i j := by
    refine Classical.byContradiction fun hc => h fun i j hi hj => ?_
    have h1 := WW_mono ha n (by omega) hi hj
    have h2 : ¬ WW a n n i j < WW a n (n + 1) i j := fun h2 => hc ⟨i, j, hi, hj, h2⟩
    omega
  obtain ⟨i, j, hi, hj, hlt⟩ := this
  obtain ⟨c, _, c2, c3⟩ := grow_trace ha hj n (by omega) hi hlt
  obtain ⟨p, q, hpq, hq, e⟩ := pigeon_n (fun t ht => (c2 t ht).1)
  have key : ∀ d, p + d + 1 ≤ n → Chain (arcB a) (c p) (seg c p d) (c (p + d + 1)) ∧ cw a (c p) (seg c p d) (c (p + d + 1)) = WW a n (p + d + 1 + 1) (c (p + d + 1)) j - WW a n (p + 1) (c p) j := by
    intro d
    induction d with
    | zero =>
      intro hd
      have := c3 p (by omega)
      refine ⟨arcB_true.2 this.1, ?_⟩
      show a (c (p + 1)) (c p) = WW a n (p + 1 + 1) (c (p + 1)) j - _
      omega
    | succ d ih =>
      intro hd
      obtain ⟨h1, h2⟩ := ih (by omega)
      have := c3 (p + d + 1) (by omega)
      rw [seg_succ, show p + 1 + d = p + d + 1 by omega]
      refine ⟨chain_split.2 ⟨h1, arcB_true.2 this.1⟩, ?_⟩
      rw [cw_split, h2]
      show _ + a (c (p + d + 1 + 1)) (c (p + d + 1)) = WW a n (p + d + 1 + 1 + 1) (c (p + d + 1 + 1)) j - _
      have h3 := this.2
      omega
  obtain ⟨d, rfl⟩ : ∃ d, q = p + d + 1 := ⟨q - p - 1, by omega⟩
  obtain ⟨h1, h2⟩ := key d hq
  refine cyc_of_pos (v := c p) (q := seg c p d) ⟨fun x hx => ?_, by rw [← e] at h1; exact h1, ?_⟩
  · rcases List.mem_cons.1 hx with rfl | hx
    · exact (c2 p (by omega)).1
    · unfold seg at hx
      rw [List.mem_map] at hx
      obtain ⟨t, ht, rfl⟩ := hx
      have ht' : t < d := by simpa using ht
      exact (c2 (p + 1 + t) (by omega)).1
  · rw [← e] at h2
    rw [h2]
    have h3 := (c2 (p + d + 1) hq).2
    rw [← e] at h3
    have h4 := WW_le ha (show p + 1 ≤ p + d + 1 by omega) (by omega) (c2 p (by omega)).1 hj
    omega

/-! ### The elimination of nodes -/
def fw (a : Nat → Nat → Int) : Nat → Nat → Nat → Int
  | 0 => fun i j => max (a i j) (un i j)
  | k + 1 => fun i j => max (fw a k i j) (ta (fw a k i k) (fw a k k j))
def bdw : Nat → Int
  | 0 => 1000000
  | k + 1 => bdw k + bdw k
theorem bdw_pos : ∀ k, 0 ≤ bdw k
  | 0 => by decide
  | k + 1 => by show 0 ≤ bdw k + bdw k; have := bdw_pos k; omega
theorem bdw_mono : ∀ {k m : Nat}, k ≤ m → bdw k ≤ bdw m := by
  intro k m h
  induction m with
  | zero => obtain rfl : k = 0 := by omega
            exact Int.le_refl _
  | succ m ih =>
    by_cases e : k = m + 1
    · subst e; exact Int.le_refl _
    · have := ih (by omega)
      have := bdw_pos m
      show bdw k ≤ bdw m + bdw m
      omega
theorem bdw_le {k : Nat} (h : k ≤ 11) : bdw k ≤ 2048000000 := bdw_mono (m := 11) h
theorem pow_small {k : Nat} (h : k ≤ 11) : 2 ^ k ≤ 2048 := Nat.pow_le_pow_right (n := 2) (by omega) h
section elim
variable {a : Nat → Nat → Int} {n : Nat} (ha : TabOk a n)
include ha

theorem fw_ok : ∀ (k : Nat) {i j : Nat}, k ≤ n → i < n → j < n → Okw (bdw k) (fw a k i j)
  | 0, i, j, _, hi, hj => max_ok (ha i j hi hj) (un_ok (by decide) i j)
  | k + 1, i, j, hk, hi, hj => by
    have hb := bdw_pos k
    refine max_ok (ok_up (fw_ok k (by omega) hi hj) (by show bdw k ≤ bdw k + bdw k; omega)) (ta_ok (fw_ok k (by omega) hi (by omega)) (fw_ok k (by omega) (by omega) hj))
theorem fw_mono {k : Nat} (i j : Nat) : fw a k i j ≤ fw a (k + 1) i j := by
  have _ := ha
  show _ ≤ max (fw a k i j) _
  omega
theorem fw_un : ∀ (k i j : Nat), un i j ≤ fw a k i j
  | 0, i, j => by show un i j ≤ max (a i j) (un i j); omega
  | k + 1, i, j => Int.le_trans (fw_un k i j) (fw_mono ha i j)
theorem fw_arc : ∀ (k i j : Nat), a i j ≤ fw a k i j
  | 0, i, j => by show a i j ≤ max (a i j) (un i j); omega
  | k + 1, i, j => Int.le_trans (fw_arc k i j) (fw_mono ha i j)
theorem fw_diag (k i : Nat) : 0 ≤ fw a k i i := by have := fw_un ha k i i; rw [un_self] at this; exact this
theorem fw_le {k m : Nat} (h : k ≤ m) (i j : Nat) : fw a k i j ≤ fw a m i j := by
  induction m with
  | zero => obtain rfl : k = 0 := by omega
            exact Int.le_refl _
  | succ m ih =>
    by_cases e : k = m + 1
    · subst e; exact Int.le_refl _
    · exact Int.le_trans (ih (by omega)) (fw_mono ha i j)
theorem fw_WW (hn : n ≤ 11) : ∀ (k : Nat) {i j : Nat}, k ≤ n → i < n → j < n → fw a k i j ≤ WW a n (2 ^ k) i j := by
  intro k
  induction k with
  | zero =>
    intro i j _ hi hj
    show max (a i j) (un i j) ≤ WW a n 1 i j
    have h1 := WW_un ha (k := 1) i j
    have h2 : _ ≤ WW a n 1 i j := WW_arc ha (k := 0) (i := i) (j := j) hj
    have h3 : ta (a i j) (un j j) = a i j := by
      rw [un_self]
      have h4 := ha i j hi hj
      unfold ta
      by_cases e : a i j = -1000000000000000
      · rw [if_pos (.inl e), e]
      · rw [if_neg (by omega)]; omega
    have h5 : ta (a i j) (WW a n 0 j j) = a i j := h3
    rw [h5] at h2
    omega
  | succ k ih =>
    intro i j hk hi hj
    have hk11 : 2 ^ k ≤ 2048 := pow_small (by omega)
    have e : 2 ^ (k + 1) = 2 ^ k + 2 ^ k := by rw [Nat.pow_succ]; omega
    generalize 2 ^ k = z at hk11 ih e
    have h1 := ih (i := i) (j := j) (by omega) hi hj
    have h2 := ih (i := i) (j := k) (by omega) hi (by omega)
    have h3 := ih (i := k) (j := j) (by omega) (by omega) hj
    have h4 := WW_le ha (show z ≤ z + z by omega) (by omega) hi hj
    have h5 := WW_comp ha z (q := z) (i := i) (m := k) (j := j) (by omega) hi (by omega) hj
    have hb := bdw_le (show k ≤ 11 by omega)
    have hb0 := bdw_pos k
    have h6 := ta_mono (M := 2048000000) (K := 2048000000) (ok_up (fw_ok ha k (by omega) hi (show k < n by omega)) (by omega)) (ok_up (fw_ok ha k (by omega) (show k < n by omega) hj) (by omega)) (ok_up (WW_ok ha z hi (show k < n by omega)) (by omega)) (ok_up (WW_ok ha z (show k < n by omega) hj) (by omega)) (by decide) (by decide) (by decide) h2 h3
    rw [e]
    show max (fw a k i j) (ta (fw a k i k) (fw a k k j)) ≤ _
    omega
theorem fw_row {k : Nat} (hn : n ≤ 11) (h0 : fw a k k k = 0) {j : Nat} (hj : j < n) (hk : k < n) : fw a (k + 1) k j = fw a k k j := by
  have hb := bdw_le (show k ≤ 11 by omega)
  show max (fw a k k j) (ta (fw a k k k) (fw a k k j)) = _
  rw [h0]
  have := fw_ok ha k (by omega) hk hj
  unfold Okw at this
  unfold ta
  by_cases e : fw a k k j = -1000000000000000
  · rw [if_pos (.inr e)]; omega
  · rw [if_neg (by omega)]; omega
theorem fw_col {k : Nat} (hn : n ≤ 11) (h0 : fw a k k k = 0) {i : Nat} (hi : i < n) (hk : k < n) : fw a (k + 1) i k = fw a k i k := by
  have hb := bdw_le (show k ≤ 11 by omega)
  show max (fw a k i k) (ta (fw a k i k) (fw a k k k)) = _
  rw [h0]
  have := fw_ok ha k (by omega) hi hk
  unfold Okw at this
  unfold ta
  by_cases e : fw a k i k = -1000000000000000
  · rw [if_pos (.inl e)]; omega
  · rw [if_neg (by omega)]; omega
/-- behind the step k the nodes before k are passed -/
theorem fw_closed (hn : n ≤ 11) : ∀ (k : Nat), k ≤ n → (∀ m, m < k → fw a m m m ≤ 0) → ∀ (m i j : Nat), m < k → i < n → j < n → fw a k i m ≠ -1000000000000000 → fw a k m j ≠ -1000000000000000 → fw a k i m + fw a k m j ≤ fw a k i j := by
  intro k
  induction k with
  | zero => intro _ _ m i j h; omega
  | succ k ih =>
    intro hk hok m i j hm hi hj h1 h2
    have IH := ih (by omega) (fun m hm => hok m (by omega))
    have hkk : fw a k k k = 0 := by have := hok k (by omega); have := fw_diag ha k k; omega
    have hb := bdw_le (show k ≤ 11 by omega)
    have hb0 := bdw_pos k
    have ok : ∀ {i j : Nat}, i < n → j < n → Okw 2048000000 (fw a k i j) := fun hi hj => ok_up (fw_ok ha k (by omega) hi hj) (by omega)
    have row : ∀ (j : Nat), j < n → fw a (k + 1) k j = fw a k k j := by
      intro j hj
      show max (fw a k k j) (ta (fw a k k k) (fw a k k j)) = _
      rw [hkk]
      have := ok (show k < n by omega) hj
      unfold ta
      by_cases e : fw a k k j = -1000000000000000
      · rw [if_pos (.inr e)]; omega
      · rw [if_neg (by omega)]; omega
    have col : ∀ (i : Nat), i < n → fw a (k + 1) i k = fw a k i k := by
      intro i hi
      show max (fw a k i k) (ta (fw a k i k) (fw a k k k)) = _
      rw [hkk]
      have := ok hi (show k < n by omega)
      unfold ta
      by_cases e : fw a k i k = -1000000000000000
      · rw [if_pos (.inl e)]; omega
      · rw [if_neg (by omega)]; omega
    have via : fw a k i k ≠ -1000000000000000 → fw a k k j ≠ -1000000000000000 → fw a k i k + fw a k k j ≤ fw a (k + 1) i j := by
      intro h3 h4
      show _ ≤ max (fw a k i j) (ta (fw a k i k) (fw a k k j))
      rw [ta_fin h3 h4]; omega
    have old : fw a k i j ≤ fw a (k + 1) i j := fw_mono ha i j
    by_cases e : m = k
    · subst e
      rw [col i hi] at h1 ⊢
      rw [row j hj] at h2 ⊢
      exact via h1 h2
    · have hmk : m < k := by omega
      have hmn : m < n := by omega
      have hkn : k < n := by omega
      have A : fw a (k + 1) i m = fw a k i m ∨ (fw a k i k ≠ -1000000000000000 ∧ fw a k k m ≠ -1000000000000000 ∧ fw a (k + 1) i m = fw a k i k + fw a k k m) := by
        have e1 : fw a (k + 1) i m = max (fw a k i m) (ta (fw a k i k) (fw a k k m)) := rfl
        have o1 := ok hi hmn
        by_cases c : fw a k i k = -1000000000000000 ∨ fw a k k m = -1000000000000000
        · left; rw [e1]; unfold ta; rw [if_pos c]; unfold Okw at o1; omega
        · rw [ta_fin (by omega) (by omega)] at e1
          by_cases c2 : fw a k i k + fw a k k m ≤ fw a k i m
          · left; omega
          · right; exact ⟨by omega, by omega, by omega⟩
      have C : fw a (k + 1) m j = fw a k m j ∨ (fw a k m k ≠ -1000000000000000 ∧ fw a k k j ≠ -1000000000000000 ∧ fw a (k + 1) m j = fw a k m k + fw a k k j) := by
        have e1 : fw a (k + 1) m j = max (fw a k m j) (ta (fw a k m k) (fw a k k j)) := rfl
        have o1 := ok hmn hj
        by_cases c : fw a k m k = -1000000000000000 ∨ fw a k k j = -1000000000000000
        · left; rw [e1]; unfold ta; rw [if_pos c]; unfold Okw at o1; omega
        · rw [ta_fin (by omega) (by omega)] at e1
          by_cases c2 : fw a k m k + fw a k k j ≤ fw a k m j
          · left; omega
          · right; exact ⟨by omega, by omega, by omega⟩
      have oim := ok hi hmn
      have omj := ok hmn hj
      have oik := ok hi hkn
      have okj := ok hkn hj
      have okm := ok hkn hmn
      have omk := ok hmn hkn
      unfold Okw at oim omj oik okj okm omk
      rcases A with A | ⟨A1, A2, A3⟩
      · rcases C with C | ⟨C1, C2, C3⟩
        · rw [A] at h1 ⊢; rw [C] at h2 ⊢
          have := IH m i j hmk hi hj h1 h2
          omega
        · rw [A] at h1 ⊢; rw [C3]
          have := IH m i k hmk hi hkn h1 C1
          have := via (by omega) C2
          omega
      · rcases C with C | ⟨C1, C2, C3⟩
        · rw [C] at h2 ⊢; rw [A3]
          have := IH m k j hmk hkn hj A2 h2
          have := via A1 (by omega)
          omega
        · rw [A3, C3]
          have := IH m k k hmk hkn hkn A2 C1
          have := via A1 C2
          omega

/-- all diagonals stay at nothing lost -/
def FwOk (a : Nat → Nat → Int) (n : Nat) : Prop := ∀ k, k < n → fw a n k k ≤ 0
theorem fwok_step (h : FwOk a n) : ∀ m, m < n → fw a m m m ≤ 0 := fun m hm => Int.le_trans (fw_le ha (by omega) m m) (h m hm)
theorem fw_chain (hn : n ≤ 11) (h : FwOk a n) : ∀ (q : List Nat) {l f : Nat}, (∀ x, x ∈ q → x < n) → l < n → f < n → Chain (arcB a) l q f → cw a l q f ≤ fw a n f l ∧ fw a n f l ≠ -1000000000000000
  | [], l, f, _, hl, hf, hc => by
    have h1 := fw_arc ha n f l
    have h2 := arcB_true.1 hc
    have h3 := ha f l hf hl
    have h4 := fw_ok ha n (Nat.le_refl _) hf hl
    have hb := bdw_le hn
    unfold Okw at h3 h4
    exact ⟨h1, by omega⟩
  | v :: q, l, f, hq, hl, hf, hc => by
    have hv := hq v (by simp)
    obtain ⟨h1, h2⟩ := fw_chain hn h q (fun x hx => hq x (by simp [hx])) hv hf hc.2
    have h3 := fw_arc ha n v l
    have h4 := arcB_true.1 hc.1
    have h5 := ha v l hv hl
    have h6 := fw_ok ha n (Nat.le_refl _) hv hl
    have h7 := fw_ok ha n (Nat.le_refl _) hf hl
    have h9 := fw_ok ha n (Nat.le_refl _) hf hv
    have hb := bdw_le hn
    unfold Okw at h5 h6 h7 h9
    have h8 := fw_closed ha hn n (Nat.le_refl _) (fwok_step ha h) v f l hv hf hl h2 (by omega)
    show a v l + cw a v q f ≤ _ ∧ _
    exact ⟨by omega, by omega⟩
theorem fwok_none (hn : n ≤ 11) (h : FwOk a n) : ¬ PosCyc a n := by
  rintro ⟨v, q, hv, ⟨h1, _, h3⟩, h4⟩
  have := (fw_chain ha hn h q (fun x hx => (h1 x hx).2) hv hv h3).1
  have := h v hv
  omega
theorem stab_fwok (hn : n ≤ 11) (h : Stab a n) : FwOk a n := by
  intro k hk
  have h1 := fw_WW ha hn n (Nat.le_refl _) hk hk
  have hp : 2 ^ n ≤ 2048 := pow_small hn
  have hnp : n ≤ 2 ^ n := Nat.le_of_lt Nat.lt_two_pow_self
  have h2 := stab_all ha h (2 ^ n - n) hk hk
  rw [show n + (2 ^ n - n) = 2 ^ n by omega] at h2
  have h3 := WW_comp ha n (q := n) (i := k) (m := k) (j := k) (by omega) hk hk hk
  rw [stab_all ha h n hk hk] at h3
  have h4 := fw_diag ha n k
  rw [ta_fin (by omega) (by omega)] at h3
  omega
theorem fwok_iff (hn : n ≤ 11) : FwOk a n ↔ ¬ PosCyc a n :=
  ⟨fwok_none ha hn, fun h => stab_fwok ha hn (Classical.byContradiction fun hs => h (not_stab ha (by omega) hs))⟩
theorem stab_iff (hn : n ≤ 11) : Stab a n ↔ ¬ PosCyc a n :=
  ⟨fun h => fwok_none ha hn (stab_fwok ha hn h), fun h => Classical.byContradiction fun hs => h (not_stab ha (by omega) hs)⟩
theorem WW_fw (hn : n ≤ 11) (h : FwOk a n) : ∀ (k : Nat) {i j : Nat}, k ≤ 5000 → i < n → j < n → WW a n k i j ≤ fw a n i j
  | 0, i, j, _, _, _ => fw_un ha n i j
  | k + 1, i, j, hk, hi, hj => by
    have h7 := fw_ok ha n (Nat.le_refl _) hi hj
    have hb := bdw_le hn
    have hge := ok_ge h7 (by omega)
    rcases WW_cases ha (k := k) (i := i) (j := j) with e | e | ⟨q, hq, e⟩
    · rw [e]; exact fw_un ha n i j
    · rw [e]; exact hge
    · rw [e]
      refine ta_le (K := 0) h7 (by omega) (fun hx hy => ?_) rfl
      have h1 := WW_fw hn h k (i := q) (j := j) (by omega) hq hj
      have h2 := fw_arc ha n i q
      have h3 := ha i q hi hq
      have h4 := fw_ok ha n (Nat.le_refl _) hi hq
      have h5 := fw_ok ha n (Nat.le_refl _) hq hj
      have h6 := WW_ok ha k hq hj
      unfold Okw at h3 h4 h5 h6
      have := fw_closed ha hn n (Nat.le_refl _) (fwok_step ha h) q i j hq hi hj (by omega) (by omega)
      omega
/-- both closures are one -/
theorem star_eq (hn : n ≤ 11) (h : FwOk a n) {i j : Nat} (hi : i < n) (hj : j < n) : fw a n i j = WW a n n i j := by
  have hs := (stab_iff ha hn).2 (fwok_none ha hn h)
  have h1 := fw_WW ha hn n (Nat.le_refl _) hi hj
  have hp : 2 ^ n ≤ 2048 := pow_small hn
  have hnp : n ≤ 2 ^ n := Nat.le_of_lt Nat.lt_two_pow_self
  have h2 := stab_all ha hs (2 ^ n - n) hi hj
  rw [show n + (2 ^ n - n) = 2 ^ n by omega] at h2
  have h3 := WW_fw ha hn h n (i := i) (j := j) (by omega) hi hj
  omega
end elim

end Go.Proofs.Ytgkgimglgjfcjaa
