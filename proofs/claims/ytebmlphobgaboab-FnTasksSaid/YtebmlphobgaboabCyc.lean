/-
  Cycles: a finite set in which each one has a predecessor holds a written cycle; ranks exclude cycles; the greedy order.
-/
import Derived.Test.YtebmlphobgaboabPure
namespace Go.Proofs.Ytebmlphobgaboab

/-- from l through q to f -/
def Chain (E : Nat → Nat → Bool) : Nat → List Nat → Nat → Prop
  | l, [], f => E l f = true
  | l, v :: q, f => E l v = true ∧ Chain E v q f
/-- a written cycle that begins with v -/
def Cyc (E : Nat → Nat → Bool) (n v : Nat) (q : List Nat) : Prop := (∀ x, x ∈ q → v < x ∧ x < n) ∧ (v :: q).Nodup ∧ Chain E v q v

theorem exists_min {P : Nat → Prop} (h : ∃ n, P n) : ∃ n, P n ∧ ∀ m, P m → n ≤ m := by
  obtain ⟨n, hn⟩ := h
  induction n using Nat.strongRecOn with
  | ind n ih =>
    by_cases hm : ∃ m, m < n ∧ P m
    · obtain ⟨m, h1, h2⟩ := hm
      exact ih m h1 h2
    · refine ⟨n, hn, fun m hPm => ?_⟩
      by_cases hlt : m < n
      · exact absurd ⟨m, hlt, hPm⟩ hm
      · omega

theorem nodup_le : ∀ (n : Nat) (l : List Nat), l.Nodup → (∀ x, x ∈ l → x < n) → l.length ≤ n := by
  intro n
  induction n with
  | zero =>
    intro l _ h
    cases l with
    | nil => simp
    | cons x l => have := h x (by simp); omega
  | succ n ih =>
    intro l hl h
    have h1 := ih (l.filter fun x => x != n) (hl.filter _) (fun x hx => by
      rw [List.mem_filter] at hx
      have h2 := h x hx.1
      have h3 : x ≠ n := by simpa using hx.2
      omega)
    have h2 := List.length_eq_countP_add_countP (fun x => x != n) (l := l)
    have h3 : l.countP (fun x => decide ¬(x != n) = true) ≤ 1 := by
      have := List.nodup_iff_count.1 hl n
      have e : l.count n = l.countP (fun x => decide ¬(x != n) = true) := by
        unfold List.count
        congr 1; funext x
        by_cases e : x = n <;> simp [e]
      omega
    rw [List.countP_eq_length_filter] at h2
    omega

theorem pigeon {n : Nat} {x : Nat → Nat} (h : ∀ t, x t < n) : ∃ a b, a < b ∧ x a = x b := by
  by_cases hc : ∃ a b, a < b ∧ x a = x b
  · exact hc
  · exfalso
    have hd : ∀ a b, a < b → x a ≠ x b := fun a b hab e => hc ⟨a, b, hab, e⟩
    have hn : ∀ k, ((List.range k).map x).Nodup := by
      intro k
      induction k with
      | zero => simp
      | succ k ih =>
        rw [List.range_succ, List.map_append, List.nodup_append]
        refine ⟨ih, by simp, fun a ha b hb => ?_⟩
        rw [List.mem_map] at ha
        obtain ⟨i, hi, rfl⟩ := ha
        simp only [List.map_cons, List.map_nil, List.mem_singleton] at hb
        subst hb
        exact hd i k (by simpa using hi)
    have := nodup_le n _ (hn (n + 1)) (fun y hy => by
      rw [List.mem_map] at hy
      obtain ⟨i, _, rfl⟩ := hy
      exact h i)
    simp at this
    omega

structure Walk (E : Nat → Nat → Bool) (n L : Nat) (c : Nat → Nat) : Prop where
  pos : 0 < L
  per : ∀ t, c (t + L) = c t
  arc : ∀ t, E (c (t + 1)) (c t) = true
  lt : ∀ t, c t < n

theorem walk_of {E : Nat → Nat → Bool} {n : Nat} {c : Nat → Nat} (ha : ∀ t, E (c (t + 1)) (c t) = true) (hl : ∀ t, c t < n) {a b : Nat} (hab : a < b) (e : c a = c b) : Walk E n (b - a) (fun t => c (a + t % (b - a))) := by
  refine ⟨by omega, fun t => by simp only [Nat.add_mod_right], fun t => ?_, fun t => hl _⟩
  have hm : 0 < b - a := by omega
  have hr := Nat.mod_lt t hm
  rw [← Nat.mod_add_mod t (b - a) 1]
  by_cases h : t % (b - a) + 1 < b - a
  · rw [Nat.mod_eq_of_lt h, ← Nat.add_assoc]
    exact ha _
  · have h2 : t % (b - a) + 1 = b - a := by omega
    rw [h2, Nat.mod_self, Nat.add_zero, e]
    have h3 := ha (a + t % (b - a))
    rw [show a + t % (b - a) + 1 = b by omega] at h3
    exact h3

def dn (c : Nat → Nat) (t0 : Nat) : Nat → List Nat
  | 0 => []
  | k + 1 => c (t0 + (k + 1)) :: dn c t0 k
theorem dn_mem {c : Nat → Nat} {t0 x : Nat} : ∀ {k : Nat}, x ∈ dn c t0 k → ∃ j, 1 ≤ j ∧ j ≤ k ∧ x = c (t0 + j)
  | 0, h => by cases h
  | k + 1, h => by
    unfold dn at h
    rcases List.mem_cons.1 h with h | h
    · exact ⟨k + 1, by omega, Nat.le_refl _, h⟩
    · obtain ⟨j, h1, h2, h3⟩ := dn_mem h
      exact ⟨j, h1, by omega, h3⟩
theorem dn_chain {E : Nat → Nat → Bool} {c : Nat → Nat} {t0 : Nat} (ha : ∀ t, E (c (t + 1)) (c t) = true) : ∀ k, Chain E (c (t0 + (k + 1))) (dn c t0 k) (c t0)
  | 0 => ha t0
  | k + 1 => ⟨ha (t0 + (k + 1)), dn_chain ha k⟩

theorem cyc_of_walk {E : Nat → Nat → Bool} {n L : Nat} {c : Nat → Nat} (h : Walk E n L c) : ∃ v q, v < n ∧ Cyc E n v q := by
  obtain ⟨L, ⟨c, h⟩, hmin⟩ := exists_min (P := fun L => ∃ c, Walk E n L c) ⟨L, c, h⟩
  have inj : ∀ a b, a < b → b < a + L → c a ≠ c b := fun a b h1 h2 e => by
    have := hmin (b - a) ⟨_, walk_of h.arc h.lt h1 e⟩
    omega
  obtain ⟨m, ⟨t0, ht0⟩, hm⟩ := exists_min (P := fun x => ∃ t, c t = x) ⟨c 0, 0, rfl⟩
  have hle : ∀ t, c t0 ≤ c t := fun t => by rw [ht0]; exact hm _ ⟨t, rfl⟩
  have hpos := h.pos
  have fresh : ∀ k, k < L → (c t0 :: dn c t0 k).Nodup := by
    intro k hk
    rw [List.nodup_cons]
    constructor
    · intro hx
      obtain ⟨j, h1, h2, h3⟩ := dn_mem hx
      exact inj t0 (t0 + j) (by omega) (by omega) h3
    · clear hle
      induction k with
      | zero => exact List.nodup_nil
      | succ k ih =>
        unfold dn
        rw [List.nodup_cons]
        refine ⟨fun hx => ?_, ih (by omega)⟩
        obtain ⟨j, h1, h2, h3⟩ := dn_mem hx
        exact inj (t0 + j) (t0 + (k + 1)) (by omega) (by omega) h3.symm
  refine ⟨c t0, dn c t0 (L - 1), h.lt _, fun x hx => ?_, fresh _ (by omega), ?_⟩
  · obtain ⟨j, h1, h2, rfl⟩ := dn_mem hx
    refine ⟨?_, h.lt _⟩
    have h3 := hle (t0 + j)
    have h4 := inj t0 (t0 + j) (by omega) (by omega)
    omega
  · have := dn_chain (t0 := t0) h.arc (L - 1)
    rw [show L - 1 + 1 = L by omega, h.per t0] at this
    exact this

theorem cyc_of_stuck {E : Nat → Nat → Bool} {n e0 : Nat} {S : Nat → Prop} (h0 : e0 < n ∧ S e0) (h : ∀ e, e < n ∧ S e → ∃ u, (u < n ∧ S u) ∧ E u e = true) : ∃ v q, v < n ∧ Cyc E n v q := by
  let step : {e // e < n ∧ S e} → {e // e < n ∧ S e} := fun e => ⟨(h e.1 e.2).choose, (h e.1 e.2).choose_spec.1⟩
  let xs : Nat → {e // e < n ∧ S e} := fun t => Nat.rec ⟨e0, h0⟩ (fun _ p => step p) t
  have ha : ∀ t, E (xs (t + 1)).1 (xs t).1 = true := fun t => (h (xs t).1 (xs t).2).choose_spec.2
  have hl : ∀ t, (xs t).1 < n := fun t => (xs t).2.1
  obtain ⟨a, b, hab, e⟩ := pigeon hl
  exact cyc_of_walk (walk_of (c := fun t => (xs t).1) ha hl hab e)

theorem chain_rank {E : Nat → Nat → Bool} {ρ : Nat → Nat} (h : ∀ u v, E u v = true → ρ u < ρ v) : ∀ (q : List Nat) (l f : Nat), Chain E l q f → ρ l < ρ f
  | [], l, f, hc => h l f hc
  | v :: q, l, f, hc => Nat.lt_trans (h l v hc.1) (chain_rank h q v f hc.2)
theorem no_cyc {E : Nat → Nat → Bool} {ρ : Nat → Nat} (h : ∀ u v, E u v = true → ρ u < ρ v) {n v : Nat} {q : List Nat} : ¬ Cyc E n v q := fun hc => Nat.lt_irrefl _ (chain_rank h q v v hc.2.2)

/-! ### The greedy order -/
def readyB (E : Nat → Nat → Bool) (n : Nat) (o : List Nat) (e : Nat) : Bool := !o.contains e && (List.range n).all fun u => !E u e || o.contains u
def nextOf (E : Nat → Nat → Bool) (n : Nat) (o : List Nat) : Option Nat := (List.range n).find? (readyB E n o)
def fire (E : Nat → Nat → Bool) (n : Nat) : Nat → List Nat → Option (List Nat)
  | 0, o => some o
  | k + 1, o => match nextOf E n o with
    | none => none
    | some e => fire E n k (o ++ [e])
/-- each one's predecessors stand before it -/
def Topo (E : Nat → Nat → Bool) (o : List Nat) : Prop := ∀ (i : Nat) (e u : Nat), o[i]? = some e → E u e = true → u ∈ o.take i
structure OrderOk (E : Nat → Nat → Bool) (n : Nat) (o : List Nat) : Prop where
  nodup : o.Nodup
  lt : ∀ x, x ∈ o → x < n
  topo : Topo E o
theorem OrderOk.nil (E : Nat → Nat → Bool) (n : Nat) : OrderOk E n [] := ⟨List.nodup_nil, (fun x h => (by cases h)), (fun i e u h => by simp at h)⟩
theorem nextOf_some {E : Nat → Nat → Bool} {n e : Nat} {o : List Nat} (h : nextOf E n o = some e) : e < n ∧ e ∉ o ∧ ∀ u, u < n → E u e = true → u ∈ o := by
  have h1 := List.mem_of_find?_eq_some h
  have h2 := List.find?_some h
  unfold readyB at h2
  rw [Bool.and_eq_true, List.all_eq_true] at h2
  refine ⟨by simpa using h1, by simpa using h2.1, fun u hu he => ?_⟩
  have := h2.2 u (by simpa using hu)
  rw [he] at this
  simpa using this
theorem OrderOk.next {E : Nat → Nat → Bool} {n e : Nat} {o : List Nat} (hE : ∀ u v, E u v = true → u < n ∧ v < n) (h : OrderOk E n o) (he : nextOf E n o = some e) : OrderOk E n (o ++ [e]) := by
  obtain ⟨h1, h2, h3⟩ := nextOf_some he
  refine ⟨?_, fun x hx => ?_, fun i x u hi hu => ?_⟩
  · rw [List.nodup_append]
    refine ⟨h.nodup, by simp, fun a ha b hb => ?_⟩
    simp only [List.mem_singleton] at hb
    subst hb
    exact fun e => h2 (e ▸ ha)
  · rcases List.mem_append.1 hx with hx | hx
    · exact h.lt x hx
    · simp only [List.mem_singleton] at hx; subst hx; exact h1
  · by_cases hio : i < o.length
    · rw [List.getElem?_append_left hio] at hi
      rw [List.take_append_of_le_length (by omega)]
      exact h.topo i x u hi hu
    · rw [List.getElem?_append_right (by omega)] at hi
      have hi0 : i - o.length = 0 := by
        have := (List.getElem?_eq_some_iff.1 hi).1
        simp at this; omega
      rw [hi0] at hi
      simp only [List.getElem?_cons_zero, Option.some.injEq] at hi
      subst hi
      rw [show i = o.length by omega, List.take_left']
      · exact h3 u (hE u e hu).1 hu
      · rfl
theorem fire_ok {E : Nat → Nat → Bool} {n : Nat} (hE : ∀ u v, E u v = true → u < n ∧ v < n) : ∀ (k : Nat) (o o' : List Nat), OrderOk E n o → fire E n k o = some o' → OrderOk E n o' ∧ o'.length = o.length + k := by
  intro k
  induction k with
  | zero => intro o o' ho h; unfold fire at h; cases h; exact ⟨ho, rfl⟩
  | succ k ih =>
    intro o o' ho h
    unfold fire at h
    cases he : nextOf E n o with
    | none => rw [he] at h; cases h
    | some e =>
      rw [he] at h
      obtain ⟨h1, h2⟩ := ih _ _ (ho.next hE he) h
      refine ⟨h1, ?_⟩
      rw [h2, List.length_append, List.length_singleton]; omega
/-- all events stand in an order of full length -/
theorem full_mem {n : Nat} {o : List Nat} (hd : o.Nodup) (hl : ∀ x, x ∈ o → x < n) (hn : o.length = n) {x : Nat} (hx : x < n) : x ∈ o := by
  by_cases h : x ∈ o
  · exact h
  · exfalso
    have := nodup_le n (x :: o) (List.nodup_cons.2 ⟨h, hd⟩) (fun y hy => by
      rcases List.mem_cons.1 hy with rfl | hy
      · exact hx
      · exact hl y hy)
    simp at this; omega
/-- an order that is stuck shows a cycle -/
theorem fire_stuck {E : Nat → Nat → Bool} {n : Nat} (hE : ∀ u v, E u v = true → u < n ∧ v < n) : ∀ (k : Nat) (o : List Nat), OrderOk E n o → o.length + k = n → fire E n k o = none → ∃ v q, v < n ∧ Cyc E n v q := by
  intro k
  induction k with
  | zero => intro o _ _ h; unfold fire at h; cases h
  | succ k ih =>
    intro o ho hk h
    unfold fire at h
    cases he : nextOf E n o with
    | some e =>
      rw [he] at h
      exact ih _ (ho.next hE he) (by rw [List.length_append, List.length_singleton]; omega) h
    | none =>
      have hno := List.find?_eq_none.1 he
      have hex : ∃ e0, e0 < n ∧ e0 ∉ o := by
        by_cases hc : ∃ e0, e0 < n ∧ e0 ∉ o
        · exact hc
        · exfalso
          have hall : ∀ x, x < n → x ∈ o := fun x hx => Classical.byContradiction fun hxo => hc ⟨x, hx, hxo⟩
          have h2 : (List.range n).length ≤ o.length := by
            have : ∀ (l : List Nat) (o : List Nat), l.Nodup → (∀ x, x ∈ l → x ∈ o) → l.length ≤ o.length := by
              intro l
              induction l with
              | nil => intro o _ _; simp
              | cons y l ihl =>
                intro o hd hm
                rw [List.nodup_cons] at hd
                have hy : y ∈ o := hm y (by simp)
                have := ihl (o.erase y) hd.2 (fun x hx => by
                  rw [List.mem_erase_of_ne (show x ≠ y from fun e => hd.1 (by rw [← e]; exact hx))]
                  exact hm x (by simp [hx]))
                rw [List.length_erase_of_mem hy] at this
                have hpos := List.length_pos_of_mem hy
                simp only [List.length_cons]; omega
            exact this _ _ List.nodup_range (fun x hx => hall x (by simpa using hx))
          simp at h2; omega
      obtain ⟨e0, h0, h0'⟩ := hex
      refine cyc_of_stuck (S := fun e => e ∉ o) ⟨h0, h0'⟩ (fun e ⟨h1, h2⟩ => ?_)
      have hne := hno e (by simpa using h1)
      unfold readyB at hne
      rw [Bool.and_eq_true, not_and] at hne
      have h3 := hne (by simpa using h2)
      rw [Bool.not_eq_true, List.all_eq_false] at h3
      obtain ⟨u, hu1, hu2⟩ := h3
      rw [Bool.or_eq_true, not_or] at hu2
      refine ⟨u, ⟨by simpa using hu1, by simpa using hu2.2⟩, by simpa using hu2.1⟩
/-- a full order excludes cycles -/
theorem fire_free {E : Nat → Nat → Bool} {n : Nat} (hE : ∀ u v, E u v = true → u < n ∧ v < n) {o : List Nat} (h : fire E n n [] = some o) {v : Nat} {q : List Nat} : ¬ Cyc E n v q := by
  obtain ⟨h1, h2⟩ := fire_ok hE n [] o (OrderOk.nil E n) h
  have hn : o.length = n := by simpa using h2
  refine no_cyc (ρ := fun u => o.idxOf u) (fun u w huw => ?_)
  have hw := full_mem h1.nodup h1.lt hn (hE u w huw).2
  have hi : o.idxOf w < o.length := List.idxOf_lt_length_of_mem hw
  have hmem := h1.topo (o.idxOf w) w u (by rw [List.getElem?_eq_getElem hi, List.getElem_idxOf]) huw
  have hlt : (o.take (o.idxOf w)).idxOf u < (o.take (o.idxOf w)).length := List.idxOf_lt_length_of_mem hmem
  have e : o.idxOf u = (o.take (o.idxOf w)).idxOf u := by
    conv => lhs; rw [← List.take_append_drop (o.idxOf w) o]
    rw [List.idxOf_append, if_pos hmem]
  rw [e]
  rw [List.length_take] at hlt
  omega

end Go.Proofs.Ytebmlphobgaboab
