/-
  The memory of a printed proof: what a call owns, what it reads; what each operation does to them.
-/
import Derived.Test.YtgkgimglgjfcjaaLift
namespace Go.Proofs.Ytgkgimglgjfcjaa
open Go.RowKit
variable {dd : List Deferred}

/-- a slice of slices, as a part of a slice of such -/
structure Mt where
  R : Option Addr
  c : Nat
  us : List Value
  m : List (List Int)
def Mt.val (t : Mt) : Value := .slice t.R t.m.length t.c
def Mt.has (t : Mt) (b : Nat) : Prop := t.val.ownBlock = some b ∨ ∃ (j : Nat) (u : Value), t.us[j]? = some u ∧ u.ownBlock = some b
/-- what a call has made: a block that is known whole; a slice's row; a slice of slices of numbers with all its rows -/
inductive Res where
  | blk (b : Nat) (t : TypeId) (cs : List Value)
  | row (A : Option Addr) (n c : Nat) (e : TypeId) (s : Nat) (xs : List Value)
  | mat (A : Option Addr) (n c : Nat) (e e2 : TypeId) (vs : List Value) (rows : List (List Int))
  | cub (A : Option Addr) (n c : Nat) (e e2 e3 : TypeId) (ts : List Mt) (ms : List (List (List Int)))
  | mks (bs : List Nat)

def ints (xs : List Int) : List Value := xs.map (Value.int .i64)

/-- the rows of a slice of slices -/
def RowsOwn (w : World) (lo : Nat) (e2 : TypeId) (vs : List Value) (rows : List (List Int)) : Prop :=
  vs.length = rows.length ∧ ∀ (i : Nat) (row : List Int), rows[i]? = some row → ∃ (R : Option Addr) (c : Nat), vs[i]? = some (Value.slice R row.length c) ∧ w.ownsRow lo e2 1 (.slice R row.length c) row.length (ints row)

def MatH (lo : Nat) (w : World) (A : Option Addr) (n c : Nat) (e e2 : TypeId) (vs : List Value) (rows : List (List Int)) : Prop :=
  w.ownsRow lo e 1 (.slice A n c) n vs ∧ RowsOwn w lo e2 vs rows ∧ (∀ (i j : Nat) (v u : Value) (b : Nat), vs[i]? = some v → vs[j]? = some u → i ≠ j → v.ownBlock = some b → u.ownBlock ≠ some b) ∧
      (∀ (i : Nat) (v : Value) (b : Nat), vs[i]? = some v → (Value.slice A n c).ownBlock = some b → v.ownBlock ≠ some b)
def Res.holds (lo : Nat) (w : World) : Res → Prop
  | .blk b t cs => lo ≤ b ∧ w.heap[b]? = some (.cells cs.toArray t (0, 0))
  | .row A n c e s xs => w.ownsRow lo e s (.slice A n c) n xs
  | .mat A n c e e2 vs rows => w.ownsRow lo e 1 (.slice A n c) n vs ∧ RowsOwn w lo e2 vs rows ∧ (∀ (i j : Nat) (v u : Value) (b : Nat), vs[i]? = some v → vs[j]? = some u → i ≠ j → v.ownBlock = some b → u.ownBlock ≠ some b) ∧
      (∀ (i : Nat) (v : Value) (b : Nat), vs[i]? = some v → (Value.slice A n c).ownBlock = some b → v.ownBlock ≠ some b)
  | .cub A n c e e2 e3 ts ms => w.ownsRow lo e 1 (.slice A n c) n (ts.map Mt.val) ∧ ts.map Mt.m = ms ∧ (∀ (i : Nat) (t : Mt), ts[i]? = some t → MatH lo w t.R t.m.length t.c e2 e3 t.us t.m) ∧
      (∀ (i j : Nat) (t t' : Mt) (b : Nat), ts[i]? = some t → ts[j]? = some t' → i ≠ j → t.has b → ¬ t'.has b) ∧ (∀ (i : Nat) (t : Mt) (b : Nat), ts[i]? = some t → t.has b → (Value.slice A n c).ownBlock ≠ some b)
  | .mks bs => bs.Nodup ∧ ∀ b, b ∈ bs → lo ≤ b ∧ w.heap[b]? = some (.deferred (some []))

/-- the blocks of a thing -/
def Res.has : Res → Nat → Prop
  | .blk b _ _, k => k = b
  | .row A n c _ _ _, k => (Value.slice A n c).ownBlock = some k
  | .mat A n c _ _ vs _, k => (Value.slice A n c).ownBlock = some k ∨ ∃ (i : Nat) (v : Value), vs[i]? = some v ∧ v.ownBlock = some k
  | .cub A n c _ _ _ ts _, k => (Value.slice A n c).ownBlock = some k ∨ ∃ (i : Nat) (t : Mt), ts[i]? = some t ∧ t.has k
  | .mks bs, k => k ∈ bs

theorem owns_has {lo : Nat} {w : World} {e : TypeId} {s n : Nat} {v : Value} {xs : List Value} (h : w.ownsRow lo e s v n xs) {b : Nat} (hb : v.ownBlock = some b) : lo ≤ b ∧ b < w.heap.size := by
  rcases h.2 with ⟨h1, _⟩ | ⟨g, cap, cur, h1, hg, hc, _⟩
  · rw [h1] at hb; simp [Value.ownBlock] at hb
  · rw [h1] at hb
    simp only [Value.ownBlock, Option.some.injEq] at hb; subst hb
    exact ⟨hg, (Array.getElem?_eq_some_iff.1 hc).1⟩
theorem owns_same {lo : Nat} {w w' : World} {e : TypeId} {s n : Nat} {v : Value} {xs : List Value} (h : w.ownsRow lo e s v n xs) (hb : ∀ b, v.ownBlock = some b → w'.heap[b]? = w.heap[b]?) : w'.ownsRow lo e s v n xs := by
  refine ⟨h.1, ?_⟩
  rcases h.2 with h1 | ⟨g, cap, cur, h1, hg, hc, hr⟩
  · exact Or.inl h1
  · exact Or.inr ⟨g, cap, cur, h1, hg, (hb g (by rw [h1]; rfl)).trans hc, hr⟩
theorem owns_lo {lo lo' : Nat} {w : World} {e : TypeId} {s n : Nat} {v : Value} {xs : List Value} (h : w.ownsRow lo e s v n xs) (hl : lo' ≤ lo) : w.ownsRow lo' e s v n xs := by
  refine ⟨h.1, ?_⟩
  rcases h.2 with h1 | ⟨g, cap, cur, h1, hg, hr⟩
  · exact Or.inl h1
  · exact Or.inr ⟨g, cap, cur, h1, Nat.le_trans hl hg, hr⟩
theorem RowsOwn.at {w : World} {lo : Nat} {e2 : TypeId} {vs : List Value} {rows : List (List Int)} (h : RowsOwn w lo e2 vs rows) {i : Nat} {v : Value} (hv : vs[i]? = some v) : ∃ row R c, rows[i]? = some row ∧ v = .slice R row.length c ∧ w.ownsRow lo e2 1 v row.length (ints row) := by
  have hi : i < rows.length := by rw [← h.1]; exact (List.getElem?_eq_some_iff.1 hv).1
  obtain ⟨R, c, h1, h2⟩ := h.2 i rows[i] (by simp [hi])
  rw [hv] at h1
  simp only [Option.some.injEq] at h1
  exact ⟨rows[i], R, c, by simp [hi], h1, by rw [h1]; exact h2⟩

theorem MatH.lt {lo : Nat} {w : World} {A : Option Addr} {n c : Nat} {e e2 : TypeId} {vs : List Value} {rows : List (List Int)} (h : MatH lo w A n c e e2 vs rows) {b : Nat} (hb : (Value.slice A n c).ownBlock = some b ∨ ∃ (i : Nat) (v : Value), vs[i]? = some v ∧ v.ownBlock = some b) : lo ≤ b ∧ b < w.heap.size := by
  rcases hb with hb | ⟨i, v, hv, hb⟩
  · exact owns_has h.1 hb
  · obtain ⟨row, R, c', _, _, h3⟩ := h.2.1.at hv
    exact owns_has h3 hb
theorem MatH.same {lo : Nat} {w w' : World} {A : Option Addr} {n c : Nat} {e e2 : TypeId} {vs : List Value} {rows : List (List Int)} (h : MatH lo w A n c e e2 vs rows) (hb : ∀ b, ((Value.slice A n c).ownBlock = some b ∨ ∃ (i : Nat) (v : Value), vs[i]? = some v ∧ v.ownBlock = some b) → w'.heap[b]? = w.heap[b]?) : MatH lo w' A n c e e2 vs rows := by
  refine ⟨owns_same h.1 fun b e => hb b (Or.inl e), ⟨h.2.1.1, fun i row hr => ?_⟩, h.2.2⟩
  obtain ⟨R, c', h1, h2⟩ := h.2.1.2 i row hr
  exact ⟨R, c', h1, owns_same h2 fun b e => hb b (Or.inr ⟨i, _, h1, e⟩)⟩
theorem MatH.lo {lo lo' : Nat} {w : World} {A : Option Addr} {n c : Nat} {e e2 : TypeId} {vs : List Value} {rows : List (List Int)} (h : MatH lo w A n c e e2 vs rows) (hl : lo' ≤ lo) : MatH lo' w A n c e e2 vs rows := by
  refine ⟨owns_lo h.1 hl, ⟨h.2.1.1, fun i row hr => ?_⟩, h.2.2⟩
  obtain ⟨R, c', h1, h2⟩ := h.2.1.2 i row hr
  exact ⟨R, c', h1, owns_lo h2 hl⟩

theorem Res.block_lt {lo : Nat} {w : World} {r : Res} (h : r.holds lo w) {b : Nat} (hb : r.has b) : lo ≤ b ∧ b < w.heap.size := by
  cases r with
  | blk b' t cs =>
    have e : b = b' := hb
    subst e
    exact ⟨h.1, (Array.getElem?_eq_some_iff.1 h.2).1⟩
  | row A n c e s xs => exact owns_has h hb
  | mat A n c e e2 vs rows =>
    rcases hb with hb | ⟨i, v, hv, hb⟩
    · exact owns_has h.1 hb
    · obtain ⟨row, R, c', _, _, h3⟩ := h.2.1.at hv
      exact owns_has h3 hb
  | cub A n c e e2 e3 ts ms =>
    rcases hb with hb | ⟨i, t, ht, hb⟩
    · exact owns_has h.1 hb
    · exact (h.2.2.1 i t ht).lt hb
  | mks bs => exact ⟨(h.2 b hb).1, (Array.getElem?_eq_some_iff.1 (h.2 b hb).2).1⟩

theorem Res.holds_same {lo : Nat} {w w' : World} {r : Res} (h : r.holds lo w) (hb : ∀ b, r.has b → w'.heap[b]? = w.heap[b]?) : r.holds lo w' := by
  cases r with
  | blk b' t cs => exact ⟨h.1, (hb b' rfl).trans h.2⟩
  | row A n c e s xs => exact owns_same h hb
  | mat A n c e e2 vs rows =>
    refine ⟨owns_same h.1 fun b e => hb b (Or.inl e), ⟨h.2.1.1, fun i row hr => ?_⟩, h.2.2⟩
    obtain ⟨R, c', h1, h2⟩ := h.2.1.2 i row hr
    exact ⟨R, c', h1, owns_same h2 fun b e => hb b (Or.inr ⟨i, _, h1, e⟩)⟩
  | cub A n c e e2 e3 ts ms =>
    exact ⟨owns_same h.1 fun b e => hb b (Or.inl e), h.2.1, fun i t ht => (h.2.2.1 i t ht).same fun b hb' => hb b (Or.inr ⟨i, t, ht, hb'⟩), h.2.2.2⟩
  | mks bs => exact ⟨h.1, fun b hm => ⟨(h.2 b hm).1, (hb b hm).trans (h.2 b hm).2⟩⟩

theorem Res.holds_lo {lo lo' : Nat} {w : World} {r : Res} (h : r.holds lo w) (hl : lo' ≤ lo) : r.holds lo' w := by
  cases r with
  | blk b' t cs => exact ⟨Nat.le_trans hl h.1, h.2⟩
  | row A n c e s xs => exact owns_lo h hl
  | mat A n c e e2 vs rows =>
    refine ⟨owns_lo h.1 hl, ⟨h.2.1.1, fun i row hr => ?_⟩, h.2.2⟩
    obtain ⟨R, c', h1, h2⟩ := h.2.1.2 i row hr
    exact ⟨R, c', h1, owns_lo h2 hl⟩
  | cub A n c e e2 e3 ts ms => exact ⟨owns_lo h.1 hl, h.2.1, fun i t ht => (h.2.2.1 i t ht).lo hl, h.2.2.2⟩
  | mks bs => exact ⟨h.1, fun b hm => ⟨Nat.le_trans hl (h.2 b hm).1, (h.2 b hm).2⟩⟩

/-- old memory outside of μ is as it was -/
structure BM (μ : List Nat) (W w : World) : Prop where
  os : w.os = W.os
  tape : w.tape = W.tape
  output : w.output = W.output
  size : W.heap.size ≤ w.heap.size
  old : ∀ k, k < W.heap.size → k ∉ μ → w.heap[k]? = W.heap[k]?
/-- nothing is lost -/
structure EW (w w' : World) : Prop where
  os : w'.os = w.os
  tape : w'.tape = w.tape
  output : w'.output = w.output
  size : w.heap.size ≤ w'.heap.size
theorem EW.refl (w : World) : EW w w := ⟨rfl, rfl, rfl, Nat.le_refl _⟩
theorem EW.grown {w w' : World} {row : Option Nat} (h : w.grownBy w' row) : EW w w' := ⟨h.os, h.tape, h.output, h.size⟩
theorem EW.setRow (w : World) (g : Nat) (cs : Array Value) : EW w (w.setRow g cs) := ⟨rfl, rfl, rfl, by simp [World.setRow]⟩

/-- what a call that began at W holds at w; μ: the old blocks that it may write -/
structure St (μ : List Nat) (W w : World) (L : List Res) : Prop where
  bm : BM μ W w
  res : ∀ (i : Nat) (r : Res), L[i]? = some r → r.holds 0 w
  own : ∀ (i : Nat) (r : Res) (b : Nat), L[i]? = some r → r.has b → W.heap.size ≤ b ∨ b ∈ μ
  sep : ∀ (i j : Nat) (r q : Res), L[i]? = some r → L[j]? = some q → i ≠ j → ∀ b, r.has b → ¬ q.has b

theorem St.below {W w : World} {L : List Res} (h : St [] W w L) : Below W.heap.size W w := ⟨h.bm.os, h.bm.tape, h.bm.output, h.bm.size, fun k hk => h.bm.old k hk (by simp)⟩

theorem St.start (W : World) : St [] W W [] := ⟨⟨rfl, rfl, rfl, Nat.le_refl _, fun _ _ _ => rfl⟩, fun i r h => by simp at h, fun i r b h => by simp at h, fun i j r q h => by simp at h⟩

theorem St.ext {μ : List Nat} {W w w' : World} {L : List Res} (h : St μ W w L) (hb : Below w.heap.size w w') : St μ W w' L :=
  ⟨⟨hb.os.trans h.bm.os, hb.tape.trans h.bm.tape, hb.output.trans h.bm.output, Nat.le_trans h.bm.size hb.size, fun k hk hm => (hb.block k (Nat.lt_of_lt_of_le hk h.bm.size)).trans (h.bm.old k hk hm)⟩,
    fun i r hr => Res.holds_same (h.res i r hr) fun b e => hb.block b (Res.block_lt (h.res i r hr) e).2, h.own, h.sep⟩

theorem St.drew {μ : List Nat} {W w : World} {L : List Res} (h : St μ W w L) : St μ W w.drew L := h.ext (Below.refl _ _).drew

/-- things of a call are added -/
theorem St.join {μ : List Nat} {W w w' : World} {L L' : List Res} (h : St μ W w L) (h' : St [] w w' L') : St μ W w' (L ++ L') := by
  have h0 := h.ext h'.below
  have old : ∀ (i : Nat) (r : Res) (b : Nat), L[i]? = some r → r.has b → b < w.heap.size := fun i r b hi hb => (Res.block_lt (h.res i r hi) hb).2
  have new : ∀ (i : Nat) (r : Res) (b : Nat), L'[i]? = some r → r.has b → w.heap.size ≤ b := fun i r b hi hb => (h'.own i r b hi hb).resolve_right (by simp)
  refine ⟨h0.bm, fun i r hr => ?_, fun i r b hr hb => ?_, fun i j r q hi hj hij b hb hq => ?_⟩
  · rw [List.getElem?_append] at hr
    split at hr
    · exact h0.res i r hr
    · exact h'.res _ r hr
  · rw [List.getElem?_append] at hr
    split at hr
    · exact h.own i r b hr hb
    · exact Or.inl (Nat.le_trans h.bm.size (new _ _ _ hr hb))
  · rw [List.getElem?_append] at hi hj
    split at hi
    · split at hj
      · exact h.sep i j r q hi hj hij b hb hq
      · have h1 := old _ _ _ hi hb; have h2 := new _ _ _ hj hq; omega
    · split at hj
      · have h1 := new _ _ _ hi hb; have h2 := old _ _ _ hj hq; omega
      · exact h'.sep _ _ r q hi hj (by omega) b hb hq

/-- a thing that lies in new memory only is added -/
theorem St.add {μ : List Nat} {W w w' : World} {L : List Res} {r : Res} (h : St μ W w L) (hb : Below w.heap.size w w') (hr : r.holds w.heap.size w') : St μ W w' (L ++ [r]) :=
  h.join ⟨⟨hb.os, hb.tape, hb.output, hb.size, fun k hk _ => hb.block k hk⟩, fun i q hq => by
    cases i with
    | zero => simp only [List.getElem?_cons_zero, Option.some.injEq] at hq; subst hq; exact Res.holds_lo hr (Nat.zero_le _)
    | succ i => simp at hq, fun i q b hq hb => by
    cases i with
    | zero => simp only [List.getElem?_cons_zero, Option.some.injEq] at hq; subst hq; exact Or.inl (Res.block_lt hr hb).1
    | succ i => simp at hq, fun i j q q' hi hj hij => by
    have h1 := (List.getElem?_eq_some_iff.1 hi).1
    have h2 := (List.getElem?_eq_some_iff.1 hj).1
    simp at h1 h2; omega⟩

/-- one thing is changed, and may have moved to new memory -/
theorem St.change {μ : List Nat} {W w w' : World} {L : List Res} {i : Nat} {r r' : Res} (h : St μ W w L) (hi : L[i]? = some r) (hb : EW w w') (hsame : ∀ k, k < w.heap.size → ¬ r.has k → w'.heap[k]? = w.heap[k]?)
    (hr : r'.holds 0 w') (he : ∀ b, r'.has b → r.has b ∨ w.heap.size ≤ b) : St μ W w' (L.set i r') := by
  have hlt : i < L.length := (List.getElem?_eq_some_iff.1 hi).1
  have get : ∀ (j : Nat) (q : Res), (L.set i r')[j]? = some q → (j = i ∧ q = r') ∨ (j ≠ i ∧ L[j]? = some q) := fun j q hq => by
    by_cases e : i = j
    · subst e
      rw [List.getElem?_set_self hlt] at hq
      exact Or.inl ⟨rfl, (Option.some.inj hq).symm⟩
    · rw [List.getElem?_set_ne e] at hq
      exact Or.inr ⟨fun e' => e e'.symm, hq⟩
  have other : ∀ (j : Nat) (q : Res) (b : Nat), j ≠ i → L[j]? = some q → q.has b → ¬ r'.has b := fun j q b hne hj hq hr' => by
    rcases he b hr' with h1 | h1
    · exact h.sep i j r q hi hj (Ne.symm hne) b h1 hq
    · have := (Res.block_lt (h.res j q hj) hq).2; omega
  refine ⟨⟨hb.os.trans h.bm.os, hb.tape.trans h.bm.tape, hb.output.trans h.bm.output, Nat.le_trans h.bm.size hb.size, fun k hk hm => (hsame k (Nat.lt_of_lt_of_le hk h.bm.size) fun hk' => ?_).trans (h.bm.old k hk hm)⟩, fun j q hq => ?_, fun j q b hq hqb => ?_, fun j k q p hj hk hjk b hqb hpb => ?_⟩
  · rcases h.own i r k hi hk' with h1 | h1
    · omega
    · exact hm h1
  · rcases get j q hq with ⟨_, rfl⟩ | ⟨hne, hj⟩
    · exact hr
    · exact Res.holds_same (h.res j q hj) fun b eb => hsame b (Res.block_lt (h.res j q hj) eb).2 fun er => h.sep i j r q hi hj (Ne.symm hne) b er eb
  · rcases get j q hq with ⟨_, rfl⟩ | ⟨hne, hj⟩
    · rcases he b hqb with h1 | h1
      · exact h.own i r b hi h1
      · exact Or.inl (Nat.le_trans h.bm.size h1)
    · exact h.own j q b hj hqb
  · rcases get j q hj with ⟨e1, rfl⟩ | ⟨hne, hj'⟩
    · rcases get k p hk with ⟨e2, rfl⟩ | ⟨hne', hk'⟩
      · exact hjk (e1.trans e2.symm)
      · exact other k p b hne' hk' hpb hqb
    · rcases get k p hk with ⟨e2, rfl⟩ | ⟨hne', hk'⟩
      · exact other j q b hne hj' hqb hpb
      · exact h.sep j k q p hj' hk' hjk b hqb hpb

/-- one thing takes another in -/
theorem St.absorb {μ : List Nat} {W w w' : World} {L : List Res} {i j : Nat} {r q r' : Res} (h : St μ W w L) (hi : L[i]? = some r) (hj : L[j]? = some q) (_ : i ≠ j) (hb : EW w w') (hsame : ∀ k, k < w.heap.size → ¬ r.has k → ¬ q.has k → w'.heap[k]? = w.heap[k]?)
    (hr : r'.holds 0 w') (he : ∀ b, r'.has b → r.has b ∨ q.has b ∨ w.heap.size ≤ b) : St μ W w' ((L.set i r').eraseIdx j) := by
  have hlt : i < L.length := (List.getElem?_eq_some_iff.1 hi).1
  have get : ∀ (k : Nat) (p : Res), ((L.set i r').eraseIdx j)[k]? = some p → ∃ k' : Nat, k' ≠ j ∧ ((k < j → k' = k) ∧ (¬ k < j → k' = k + 1)) ∧ ((k' = i ∧ p = r') ∨ (k' ≠ i ∧ L[k']? = some p)) := fun k p hp => by
    rw [List.getElem?_eraseIdx] at hp
    have aux : ∀ k' : Nat, (L.set i r')[k']? = some p → (k' = i ∧ p = r') ∨ (k' ≠ i ∧ L[k']? = some p) := fun k' hq => by
      by_cases e : i = k'
      · subst e
        rw [List.getElem?_set_self hlt] at hq
        exact Or.inl ⟨rfl, (Option.some.inj hq).symm⟩
      · rw [List.getElem?_set_ne e] at hq
        exact Or.inr ⟨fun e' => e e'.symm, hq⟩
    by_cases hk : k < j
    · rw [if_pos hk] at hp; exact ⟨k, by omega, ⟨fun _ => rfl, fun h => absurd hk h⟩, aux k hp⟩
    · rw [if_neg hk] at hp; exact ⟨k + 1, by omega, ⟨fun h => absurd h hk, fun _ => rfl⟩, aux (k + 1) hp⟩
  have other : ∀ (k : Nat) (p : Res) (b : Nat), k ≠ i → k ≠ j → L[k]? = some p → p.has b → ¬ r'.has b := fun k p b h1 h2 hk hp hr' => by
    rcases he b hr' with h3 | h3 | h3
    · exact h.sep i k r p hi hk (Ne.symm h1) b h3 hp
    · exact h.sep j k q p hj hk (Ne.symm h2) b h3 hp
    · have := (Res.block_lt (h.res k p hk) hp).2; omega
  refine ⟨⟨hb.os.trans h.bm.os, hb.tape.trans h.bm.tape, hb.output.trans h.bm.output, Nat.le_trans h.bm.size hb.size, fun k hk hm => (hsame k (Nat.lt_of_lt_of_le hk h.bm.size) (fun hk' => ?_) (fun hk' => ?_)).trans (h.bm.old k hk hm)⟩, fun k p hp => ?_, fun k p b hp hpb => ?_, fun k l p p' hk hl hkl b hpb hpb' => ?_⟩
  · rcases h.own i r k hi hk' with h1 | h1
    · omega
    · exact hm h1
  · rcases h.own j q k hj hk' with h1 | h1
    · omega
    · exact hm h1
  · obtain ⟨k', hkj, _, ⟨_, rfl⟩ | ⟨hne, hk'⟩⟩ := get k p hp
    · exact hr
    · exact Res.holds_same (h.res k' p hk') fun b eb => hsame b (Res.block_lt (h.res k' p hk') eb).2 (fun er => h.sep i k' r p hi hk' (Ne.symm hne) b er eb) (fun er => h.sep j k' q p hj hk' (Ne.symm hkj) b er eb)
  · obtain ⟨k', hkj, _, ⟨_, rfl⟩ | ⟨hne, hk'⟩⟩ := get k p hp
    · rcases he b hpb with h1 | h1 | h1
      · exact h.own i r b hi h1
      · exact h.own j q b hj h1
      · exact Or.inl (Nat.le_trans h.bm.size h1)
    · exact h.own k' p b hk' hpb
  · obtain ⟨k', hkj, ⟨k1, k2⟩, ck⟩ := get k p hk
    obtain ⟨l', hlj, ⟨l1, l2⟩, cl⟩ := get l p' hl
    have hne : k' ≠ l' := by
      by_cases a1 : k < j <;> by_cases a2 : l < j
      · rw [k1 a1, l1 a2]; exact hkl
      · rw [k1 a1, l2 a2]; omega
      · rw [k2 a1, l1 a2]; omega
      · rw [k2 a1, l2 a2]; omega
    rcases ck with ⟨e1, rfl⟩ | ⟨n1, hk'⟩
    · rcases cl with ⟨e2, rfl⟩ | ⟨n2, hl'⟩
      · exact hne (e1.trans e2.symm)
      · exact other l' p' b n2 hlj hl' hpb' hpb
    · rcases cl with ⟨e2, rfl⟩ | ⟨n2, hl'⟩
      · exact other k' p b n1 hkj hk' hpb hpb'
      · exact h.sep k' l' p p' hk' hl' hne b hpb hpb'

/-- the blocks of a slice's row -/
def muA (A : Option Addr) : List Nat := match A with
  | some a => [a.block]
  | none => []
theorem mem_muA {A : Option Addr} {n c b : Nat} (h : (Value.slice A n c).ownBlock = some b) : b ∈ muA A := by
  cases A with
  | none => simp [Value.ownBlock] at h
  | some a => simp only [Value.ownBlock, Option.some.injEq] at h; simp [muA, h]
theorem muA_mem {A : Option Addr} {n c b : Nat} (h : b ∈ muA A) : (Value.slice A n c).ownBlock = some b := by
  cases A with
  | none => simp [muA] at h
  | some a => simp only [muA, List.mem_singleton] at h; simp [Value.ownBlock, h]
/-- a call that may write one thing that came in -/
theorem St.startMut {W : World} {r : Res} {μ : List Nat} (h : r.holds 0 W) (hμ : ∀ b, r.has b → b ∈ μ) : St μ W W [r] :=
  ⟨⟨rfl, rfl, rfl, Nat.le_refl _, fun _ _ _ => rfl⟩, fun i q hq => by
    cases i with
    | zero => simp only [List.getElem?_cons_zero, Option.some.injEq] at hq; subst hq; exact h
    | succ i => simp at hq, fun i q b hq hb => by
    cases i with
    | zero => simp only [List.getElem?_cons_zero, Option.some.injEq] at hq; subst hq; exact Or.inr (hμ b hb)
    | succ i => simp at hq, fun i j q q' hi hj hij => by
    have h1 := (List.getElem?_eq_some_iff.1 hi).1
    have h2 := (List.getElem?_eq_some_iff.1 hj).1
    simp at h1 h2; omega⟩
/-- a call has written one of the things -/
theorem St.mut {μ ν : List Nat} {W w w' : World} {L : List Res} {i : Nat} {r r' : Res} (h : St μ W w L) (hi : L[i]? = some r) (hν : ∀ b, b ∈ ν → r.has b) (h' : St ν w w' [r']) : St μ W w' (L.set i r') :=
  h.change hi ⟨h'.bm.os, h'.bm.tape, h'.bm.output, h'.bm.size⟩ (fun k hk hn => h'.bm.old k hk (fun hm => hn (hν k hm))) (h'.res 0 r' rfl) (fun b hb => (h'.own 0 r' b rfl hb).elim Or.inr (fun hm => Or.inl (hν b hm)))

/-! ### Reading -/

/-- the cells of a slice's row, as they read -/
def Rd (w : World) (A : Option Addr) (cells : List Value) : Prop :=
  ∀ j u, cells[j]? = some u → ∃ b off, A = some ⟨b, off, none⟩ ∧ b < w.heap.size ∧ w.cell? ⟨b, off + j, none⟩ = some u
theorem Rd.below {B : Nat} {w w' : World} {A : Option Addr} {cells : List Value} (h : Rd w A cells) (hb : Below B w w') (hB : w.heap.size ≤ B) : Rd w' A cells := fun j u hj => by
  obtain ⟨b, off, e, hl, hc⟩ := h j u hj
  exact ⟨b, off, e, Nat.lt_of_lt_of_le hl hb.size, (hb.cell (p := ⟨b, off + j, none⟩) (Nat.lt_of_lt_of_le hl hB)).trans hc⟩
theorem Rd.at {W w : World} {L : List Res} {A : Option Addr} {cells : List Value} (h : Rd W A cells) (hs : St [] W w L) : Rd w A cells := h.below hs.below (Nat.le_refl _)
theorem Rd.nil (w : World) (A : Option Addr) : Rd w A [] := fun j u h => by simp at h

theorem owns_rd {lo : Nat} {w : World} {A : Option Addr} {n c : Nat} {e : TypeId} {s : Nat} {xs : List Value} (hr : w.ownsRow lo e s (.slice A n c) n xs) : Rd w A xs := by
  rcases hr.2 with ⟨h1, h2⟩ | ⟨g, cap, cur, h1, hg, hc, hn, hm, hz, ht⟩
  · have : xs.length = 0 := by rw [hr.1, h2, Nat.zero_mul]
    obtain rfl : xs = [] := List.eq_nil_of_length_eq_zero this
    exact Rd.nil _ _
  · intro j u hj
    simp only [Value.slice.injEq] at h1
    refine ⟨g, 0, h1.1, (Array.getElem?_eq_some_iff.1 hc).1, ?_⟩
    rw [Nat.zero_add, cell_of_row w g j cur e (0, 0) hc, ← Array.getElem?_toList]
    rw [← ht] at hj
    rw [List.getElem?_take] at hj
    split at hj
    · exact hj
    · simp at hj

theorem St.rd {μ : List Nat} {W w : World} {L : List Res} {i : Nat} {A : Option Addr} {n c : Nat} {e : TypeId} {s : Nat} {xs : List Value} (h : St μ W w L) (hi : L[i]? = some (.row A n c e s xs)) : Rd w A xs := owns_rd (h.res _ _ hi)

/-- the address of a cell of a slice -/
def atA (A : Option Addr) (k : Nat) : Addr := ⟨(A.getD default).block, (A.getD default).off + k, none⟩
theorem atA_some (b off k : Nat) : atA (some ⟨b, off, none⟩) k = ⟨b, off + k, none⟩ := rfl
theorem add_mk (b off k : Nat) : (⟨b, off, none⟩ : Addr).add k = ⟨b, off + k, none⟩ := by
  unfold Addr.add
  by_cases h : k = 0
  · subst h; simp
  · rw [if_neg h]

/-- one element of a list -/
def idx {α : Type} (xs : List α) (i : Int) : Option α := if 0 ≤ i then xs[i.toNat]? else none
theorem idx_some {α : Type} {xs : List α} {i : Int} {x : α} (h : idx xs i = some x) : 0 ≤ i ∧ i < (xs.length : Int) ∧ xs[i.toNat]? = some x := by
  unfold idx at h
  by_cases h0 : 0 ≤ i
  · rw [if_pos h0] at h
    have := (List.getElem?_eq_some_iff.1 h).1
    exact ⟨h0, by omega, h⟩
  · rw [if_neg h0] at h; simp at h

theorem ints_at {xs : List Int} {i : Nat} {x : Int} (h : xs[i]? = some x) : (ints xs)[i]? = some (.int .i64 x) := by unfold ints; simp [h]
theorem ints_length (xs : List Int) : (ints xs).length = xs.length := by simp [ints]
theorem ints_append (xs ys : List Int) : ints (xs ++ ys) = ints xs ++ ints ys := by simp [ints]
/-- records of s cells each -/
def recs {α : Type} (f : α → List Value) (xs : List α) : List Value := xs.flatMap f
theorem recs_append {α : Type} (f : α → List Value) (xs ys : List α) : recs f (xs ++ ys) = recs f xs ++ recs f ys := by simp [recs]
theorem recs_length {α : Type} {f : α → List Value} {s : Nat} (hf : ∀ x, (f x).length = s) (xs : List α) : (recs f xs).length = xs.length * s := by
  induction xs with
  | nil => simp [recs]
  | cons x xs ih =>
    have : recs f (x :: xs) = f x ++ recs f xs := rfl
    rw [this, List.length_append, ih, hf, List.length_cons, Nat.add_mul]; omega
theorem recs_at {α : Type} {f : α → List Value} {s : Nat} (hf : ∀ x, (f x).length = s) {xs : List α} {i : Nat} {x : α} (h : xs[i]? = some x) {j : Nat} {u : Value} (hj : (f x)[j]? = some u) : (recs f xs)[i * s + j]? = some u := by
  induction xs generalizing i with
  | nil => simp at h
  | cons y xs ih =>
    have e : recs f (y :: xs) = f y ++ recs f xs := rfl
    rw [e]
    cases i with
    | zero =>
      simp only [List.getElem?_cons_zero, Option.some.injEq] at h; subst h
      have := (List.getElem?_eq_some_iff.1 hj).1
      rw [List.getElem?_append_left (by omega), Nat.zero_mul, Nat.zero_add]; exact hj
    | succ i =>
      rw [List.getElem?_append_right (by rw [hf, Nat.add_mul]; omega), hf, show (i + 1) * s + j - s = i * s + j by rw [Nat.add_mul]; omega]
      exact ih (by simpa using h)

end Go.Proofs.Ytgkgimglgjfcjaa
