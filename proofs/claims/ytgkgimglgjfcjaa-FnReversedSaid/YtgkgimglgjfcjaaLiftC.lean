/- Is a slice nothing? -/
import Derived.Test.YtgkgimglgjfcjaaLiftX
namespace Go.Proofs.Ytgkgimglgjfcjaa
open Go.RowKit
variable {dd : List Deferred}

theorem rd_none_recs {α : Type} {f : α → List Value} {s : Nat} (hf : ∀ x, (f x).length = s) (h0 : 0 < s) {w : World} {xs : List α} (h : Rd w none (recs f xs)) : xs = [] := by
  cases xs with
  | nil => rfl
  | cons x xs =>
    have hx : 0 < (f x).length := by rw [hf]; exact h0
    obtain ⟨b, off, e, _⟩ := h 0 ((f x)[0]'hx) (by
      have e : recs f (x :: xs) = f x ++ recs f xs := rfl
      rw [e, List.getElem?_append_left hx]; exact List.getElem?_eq_getElem hx)
    cases e

/-- the same slice, or nothing -/
def Al {α : Type} (A : Option Addr) (n c : Nat) (xs : List α) (A' : Option Addr) (n' c' : Nat) (xs' : List α) : Prop := (A' = A ∧ n' = n ∧ c' = c ∧ xs' = xs) ∨ (A' = none ∧ n' = 0 ∧ c' = 0 ∧ xs' = [])
theorem St.alias {α : Type} {enc : List α → List Value} (he : enc [] = []) {μ : List Nat} {W w : World} {L : List Res} {i : Nat} {e : TypeId} {s : Nat} {A A' : Option Addr} {n c n' c' : Nat} {xs xs' : List α} (h : St μ W w L) (hi : L[i]? = some (.row A n c e s (enc xs))) (hal : Al A n c xs A' n' c' xs') : St μ W w (L.set i (.row A' n' c' e s (enc xs'))) := by
  rcases hal with ⟨rfl, rfl, rfl, rfl⟩ | ⟨rfl, rfl, rfl, rfl⟩
  · exact h.change hi ⟨rfl, rfl, rfl, Nat.le_refl _⟩ (fun _ _ _ => rfl) (h.res _ _ hi) (fun b hb => .inl hb)
  · rw [he]; exact h.change hi ⟨rfl, rfl, rfl, Nat.le_refl _⟩ (fun _ _ _ => rfl) ⟨by simp, Or.inl ⟨rfl, rfl⟩⟩ (fun b hb => by simp [Res.has, Value.ownBlock] at hb)
theorem St.rowHolds {μ : List Nat} {W w : World} {L : List Res} {A : Option Addr} {n c i : Nat} {e e2 : TypeId} {vs : List Value} {rows : List (List Int)} {k : Nat} {row : List Int} {R : Option Addr} {c' : Nat} (hs : St μ W w L) (hL : L[i]? = some (.mat A n c e e2 vs rows)) (hk : rows[k]? = some row ∧ vs[k]? = some (.slice R row.length c')) : (Res.row R row.length c' e2 1 (ints row)).holds 0 w := by
  obtain ⟨R', c2, h1, h2⟩ := (hs.res _ _ hL).2.1.2 k row hk.1
  rw [hk.2] at h1
  simp only [Option.some.injEq, Value.slice.injEq, true_and] at h1
  obtain ⟨rfl, rfl⟩ := h1
  exact h2
theorem St.takeRow {μ : List Nat} {W w : World} {L : List Res} {A : Option Addr} {n c i : Nat} {e e2 : TypeId} {vs : List Value} {rows : List (List Int)} {k : Nat} {row : List Int} {R : Option Addr} {c' : Nat} (hs : St μ W w L) (hL : L[i]? = some (.mat A n c e e2 vs rows)) (hk : rows[k]? = some row ∧ vs[k]? = some (.slice R row.length c')) : St μ W w (L.set i (.row R row.length c' e2 1 (ints row))) :=
  hs.change hL (EW.refl w) (fun _ _ _ => rfl) (hs.rowHolds hL hk) (fun _ hb => .inl (.inr ⟨k, _, hk.2, hb⟩))

/-- the blocks of a slice of slices of slices -/
def muC (A : Option Addr) (ts : List Mt) : List Nat := muA A ++ ts.flatMap fun t => muM t.R t.us
theorem mt_mem {t : Mt} {b : Nat} : b ∈ muM t.R t.us ↔ t.has b := muM_mem (A := t.R) (n := t.m.length) (c := t.c) (e := 0) (e2 := 0) (vs := t.us) (rows := t.m)
theorem muC_mem {A : Option Addr} {n c b : Nat} {e e2 e3 : TypeId} {ts : List Mt} {ms : List (List (List Int))} : b ∈ muC A ts ↔ (Res.cub A n c e e2 e3 ts ms).has b := by
  unfold muC Res.has
  rw [List.mem_append, List.mem_flatMap]
  constructor
  · rintro (h | ⟨t, ht, h⟩)
    · exact Or.inl (muA_mem h)
    · obtain ⟨i, hi⟩ := List.getElem?_of_mem ht
      exact Or.inr ⟨i, t, hi, mt_mem.1 h⟩
  · rintro (h | ⟨i, t, hi, h⟩)
    · exact Or.inl (mem_muA h)
    · exact Or.inr ⟨t, List.mem_of_getElem? hi, mt_mem.2 h⟩

/-! ### Several things that a call writes -/
def Res.blocks : Res → List Nat
  | .blk b _ _ => [b]
  | .row A _ _ _ _ _ => muA A
  | .mat A _ _ _ _ vs _ => muM A vs
  | .cub A _ _ _ _ _ ts _ => muC A ts
  | .mks bs => bs
def muL (L : List Res) : List Nat := L.flatMap Res.blocks
theorem mem_blocks {r : Res} {b : Nat} : b ∈ r.blocks ↔ r.has b := by
  cases r with
  | blk b' t cs => exact List.mem_singleton
  | row A n c e s xs => exact ⟨fun h => muA_mem h, fun h => mem_muA h⟩
  | mat A n c e e2 vs rows => exact muM_mem
  | cub A n c e e2 e3 ts ms => exact muC_mem
  | mks bs => exact Iff.rfl
theorem mem_muL {L : List Res} {b : Nat} : b ∈ muL L ↔ ∃ (j : Nat) (r : Res), L[j]? = some r ∧ r.has b := by
  unfold muL
  rw [List.mem_flatMap]
  constructor
  · rintro ⟨r, hr, hb⟩
    obtain ⟨j, hj, rfl⟩ := List.getElem_of_mem hr
    exact ⟨j, _, List.getElem?_eq_getElem hj, mem_blocks.1 hb⟩
  · rintro ⟨j, r, hj, hb⟩
    exact ⟨r, List.mem_of_getElem? hj, mem_blocks.2 hb⟩
theorem St.rebase {μ : List Nat} {W w : World} {L : List Res} (h : St μ W w L) : St (muL L) w w L :=
  ⟨⟨rfl, rfl, rfl, Nat.le_refl _, fun _ _ _ => rfl⟩, h.res, fun i r _b hr hb => .inr (mem_muL.2 ⟨i, r, hr, hb⟩), h.sep⟩
theorem St.mutTail {μ : List Nat} {W w w' : World} {La Lb Lb' : List Res} (h : St μ W w (La ++ Lb)) (h' : St (muL Lb) w w' Lb') : St μ W w' (La ++ Lb') := by
  have getA : ∀ (i : Nat) (r : Res), La[i]? = some r → (La ++ Lb)[i]? = some r ∧ i < La.length := fun i r hi => by
    have hlt := (List.getElem?_eq_some_iff.1 hi).1
    exact ⟨by rw [List.getElem?_append_left hlt]; exact hi, hlt⟩
  have getB : ∀ (j : Nat) (r : Res), Lb[j]? = some r → (La ++ Lb)[La.length + j]? = some r := fun j r hj => by
    rw [List.getElem?_append_right (by omega), Nat.add_sub_cancel_left]; exact hj
  have apart : ∀ (i : Nat) (r : Res) (b : Nat), La[i]? = some r → r.has b → b ∉ muL Lb := fun i r b hi hb hm => by
    obtain ⟨j, q, hq, hb'⟩ := mem_muL.1 hm
    obtain ⟨g1, g2⟩ := getA i r hi
    exact h.sep i (La.length + j) r q g1 (getB j q hq) (by omega) b hb hb'
  have oldA : ∀ (i : Nat) (r : Res) (b : Nat), La[i]? = some r → r.has b → b < w.heap.size := fun i r b hi hb => (Res.block_lt (h.res i r (getA i r hi).1) hb).2
  have newB : ∀ (i : Nat) (r : Res) (b : Nat), Lb'[i]? = some r → r.has b → (w.heap.size ≤ b ∨ b ∈ muL Lb) := fun i r b hi hb => h'.own i r b hi hb
  have ownB : ∀ (b : Nat), b ∈ muL Lb → W.heap.size ≤ b ∨ b ∈ μ := fun b hm => by
    obtain ⟨j, q, hq, hb'⟩ := mem_muL.1 hm
    exact h.own _ q b (getB j q hq) hb'
  refine ⟨⟨h'.bm.os.trans h.bm.os, h'.bm.tape.trans h.bm.tape, h'.bm.output.trans h.bm.output, Nat.le_trans h.bm.size h'.bm.size, fun k hk hn => ?_⟩, fun i r hr => ?_, fun i r b hr hb => ?_, fun i j r q hi hj hij b hb hq => ?_⟩
  · refine (h'.bm.old k (Nat.lt_of_lt_of_le hk h.bm.size) (fun hm => ?_)).trans (h.bm.old k hk hn)
    rcases ownB k hm with h1 | h1
    · omega
    · exact hn h1
  · rw [List.getElem?_append] at hr
    split at hr
    · exact Res.holds_same (h.res i r (getA i r hr).1) (fun b hb => h'.bm.old b (oldA i r b hr hb) (apart i r b hr hb))
    · exact h'.res _ r hr
  · rw [List.getElem?_append] at hr
    split at hr
    · exact h.own i r b (getA i r hr).1 hb
    · rcases newB _ r b hr hb with h1 | h1
      · exact .inl (Nat.le_trans h.bm.size h1)
      · exact ownB b h1
  · rw [List.getElem?_append] at hi hj
    split at hi
    · split at hj
      · exact h.sep i j r q (getA i r hi).1 (getA j q hj).1 hij b hb hq
      · rcases newB _ q b hj hq with h1 | h1
        · have := oldA i r b hi hb; omega
        · exact apart i r b hi hb h1
    · split at hj
      · rcases newB _ r b hi hb with h1 | h1
        · have := oldA j q b hj hq; omega
        · exact apart j q b hj hq h1
      · exact h'.sep _ _ r q hi hj (by omega) b hb hq

section
variable {P : Program} {W : World} {μ : List Nat} {L : List Res} {N : Nat} {E : Env} {o : Oper}
theorem eq_slice_nil {w : World} {t e : TypeId} {A : Option Addr} {n c : Nat} (ht : P.underlying t = some (.slice e)) : (Op.equal t (.slice A n c) (.slice none 0 0)).run P w = .ok A.isNone w := by
  have h : Op.equal t (.slice A n c) (.slice none 0 0) = Op.equalIn (9999 + 1) t (.slice A n c) (.slice none 0 0) := rfl
  rw [h]
  unfold Op.equalIn
  simp [underlying, ht]
  cases A <;> rfl
theorem Y_eqnil {t yt e : TypeId} {x y : Operand} {A : Option Addr} {n c : Nat} (ho : o.op = .binOp .eql t x y yt) (hx : evalE E x = some (.slice A n c)) (hy : evalE E y = some (.slice none 0 0)) (ht : P.underlying t = some (.slice e)) : Y P μ W L N E o (.bool A.isNone) := fun a w hf _ => by
  have h := eq_slice_nil (P := P) (w := w) (A := A) (n := n) (c := c) ht
  simp [execOp, ho, hf.eval hx, hf.eval hy, eqGuard, binOp, h]
end
end Go.Proofs.Ytgkgimglgjfcjaa
