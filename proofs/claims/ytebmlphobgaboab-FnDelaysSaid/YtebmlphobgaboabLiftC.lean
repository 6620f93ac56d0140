/- Is a slice nothing? -/
import Derived.Test.YtebmlphobgaboabLiftX
namespace Go.Proofs.Ytebmlphobgaboab
open Go.RowKit
variable {dd : List Deferred}

/-- an argument's slice, or an own thing -/
def Ei {α : Type} (A0 : Option Addr) (n0 c0 : Nat) (xs0 : List α) (A2 : Option Addr) (n2 c2 : Nat) (ys : List α) (A : Option Addr) (n c : Nat) (xs : List α) : Prop := (A = A0 ∧ n = n0 ∧ c = c0 ∧ xs = xs0) ∨ (A = A2 ∧ n = n2 ∧ c = c2 ∧ xs = ys)
theorem St.eiOwn {α : Type} {enc : List α → List Value} {μ : List Nat} {W w : World} {L : List Res} {i j : Nat} {e : TypeId} {s : Nat} {A0 A2 A : Option Addr} {n0 c0 n2 c2 n c : Nat} {xs0 ys xs : List α} (h : St μ W w L) (hi : L[i]? = some (.row A0 n0 c0 e s (enc xs0))) (hj : L[j]? = some (.row A2 n2 c2 e s (enc ys))) (hij : i ≠ j) (he : Ei A0 n0 c0 xs0 A2 n2 c2 ys A n c xs) : St μ W w ((L.set i (.row A n c e s (enc xs))).eraseIdx j) := by
  refine h.absorb hi hj hij (EW.refl w) (fun _ _ _ _ => rfl) ?_ ?_
  · rcases he with ⟨rfl, rfl, rfl, rfl⟩ | ⟨rfl, rfl, rfl, rfl⟩
    · exact h.res _ _ hi
    · exact h.res _ _ hj
  · intro b hb
    rcases he with ⟨rfl, rfl, rfl, rfl⟩ | ⟨rfl, rfl, rfl, rfl⟩
    · exact .inl hb
    · exact .inr (.inl hb)

theorem ret_tmp3 {P : Program} {a : Act} {w : World} {fn : Func} {R : Ending → World → Prop} {N t u s : Nat} {E : Env} {v x y : Value} (hr : fn.results = #[.tmp t, .tmp u, .tmp s]) (hf : Fr a N E) (ht : look E t = some v) (hu : look E u = some x) (hs : look E s = some y) (h : R (.returned (.tuple #[v, x, y])) w) : bodyPost P fn R .ret a w := by
  have h3 : (results fn a.tmps).run P w = .ok (.tuple #[a.tmps.getD t undef, a.tmps.getD u undef, a.tmps.getD s undef]) w := by simp [results, hr]
  exact bodyPost_ret (by rw [h3, hf.get t v ht, hf.get u x hu, hf.get s y hs]) hf.defers h

/-- the blocks of a slice of slices of slices -/
def muC (A : Option Addr) (ts : List Mt) : List Nat := muA A ++ ts.flatMap fun t => muM t.R t.us
theorem mt_mem {t : Mt} {b : Nat} : b ∈ muM t.R t.us ↔ t.has b := muM_mem (A := t.R) (n := t.m.length) (c := t.c) (e := 0) (e2 := 0) (vs := t.us) (rows := t.m)
theorem muC_mem {A : Option Addr} {n c b : Nat} {e e2 e3 : TypeId} {ts : List Mt} {ms : List (List (List Int))} : b ∈ muC A ts ↔ (Res.cub A n c e e2 e3 ts ms).has b := by
  unfold muC Res.has
  rw [List.mem_append, List.mem_flatMap]
  constructor
  · rintro (h | ⟨t, ht, h⟩)
    · exact Or.inl (muA_mem h)
    · obtain ⟨i, hi⟩ := List.getElem?_of_mem ht
      exact Or.inr ⟨i, t, hi, mt_mem.1 h⟩
  · rintro (h | ⟨i, t, hi, h⟩)
    · exact Or.inl (mem_muA h)
    · exact Or.inr ⟨t, List.mem_of_getElem? hi, mt_mem.2 h⟩

/-! ### Several things that a call writes -/
def Res.blocks : Res → List Nat
  | .blk b _ _ => [b]
  | .row A _ _ _ _ _ => muA A
  | .mat A _ _ _ _ vs _ => muM A vs
  | .cub A _ _ _ _ _ ts _ => muC A ts
  | .mks bs => bs
def muL (L : List Res) : List Nat := L.flatMap Res.blocks
theorem mem_blocks {r : Res} {b : Nat} : b ∈ r.blocks ↔ r.has b := by
  cases r with
  | blk b' t cs => exact List.mem_singleton
  | row A n c e s xs => exact ⟨fun h => muA_mem h, fun h => mem_muA h⟩
  | mat A n c e e2 vs rows => exact muM_mem
  | cub A n c e e2 e3 ts ms => exact muC_mem
  | mks bs => exact Iff.rfl
theorem mem_muL {L : List Res} {b : Nat} : b ∈ muL L ↔ ∃ (j : Nat) (r : Res), L[j]? = some r ∧ r.has b := by
  unfold muL
  rw [List.mem_flatMap]
  constructor
  · rintro ⟨r, hr, hb⟩
    obtain ⟨j, hj, rfl⟩ := List.getElem_of_mem hr
    exact ⟨j, _, List.getElem?_eq_getElem hj, mem_blocks.1 hb⟩
  · rintro ⟨j, r, hj, hb⟩
    exact ⟨r, List.mem_of_getElem? hj, mem_blocks.2 hb⟩
theorem St.rebase {μ : List Nat} {W w : World} {L : List Res} (h : St μ W w L) : St (muL L) w w L :=
  ⟨⟨rfl, rfl, rfl, Nat.le_refl _, fun _ _ _ => rfl⟩, h.res, fun i r _b hr hb => .inr (mem_muL.2 ⟨i, r, hr, hb⟩), h.sep⟩
theorem St.mutTail {μ : List Nat} {W w w' : World} {La Lb Lb' : List Res} (h : St μ W w (La ++ Lb)) (h' : St (muL Lb) w w' Lb') : St μ W w' (La ++ Lb') := by
  have getA : ∀ (i : Nat) (r : Res), La[i]? = some r → (La ++ Lb)[i]? = some r ∧ i < La.length := fun i r hi => by
    have hlt := (List.getElem?_eq_some_iff.1 hi).1
    exact ⟨by rw [List.getElem?_append_left hlt]; exact hi, hlt⟩
  have getB : ∀ (j : Nat) (r : Res), Lb[j]? = some r → (La ++ Lb)[La.length + j]? = some r := fun j r hj => by
    rw [List.getElem?_append_right (by omega), Nat.add_sub_cancel_left]; exact hj
  have apart : ∀ (i : Nat) (r : Res) (b : Nat), La[i]? = some r → r.has b → b ∉ muL Lb := fun i r b hi hb hm => by
    obtain ⟨j, q, hq, hb'⟩ := mem_muL.1 hm
    obtain ⟨g1, g2⟩ := getA i r hi
    exact h.sep i (La.length + j) r q g1 (getB j q hq) (by omega) b hb hb'
  have oldA : ∀ (i : Nat) (r : Res) (b : Nat), La[i]? = some r → r.has b → b < w.heap.size := fun i r b hi hb => (Res.block_lt (h.res i r (getA i r hi).1) hb).2
  have newB : ∀ (i : Nat) (r : Res) (b : Nat), Lb'[i]? = some r → r.has b → (w.heap.size ≤ b ∨ b ∈ muL Lb) := fun i r b hi hb => h'.own i r b hi hb
  have ownB : ∀ (b : Nat), b ∈ muL Lb → W.heap.size ≤ b ∨ b ∈ μ := fun b hm => by
    obtain ⟨j, q, hq, hb'⟩ := mem_muL.1 hm
    exact h.own _ q b (getB j q hq) hb'
  refine ⟨⟨h'.bm.os.trans h.bm.os, h'.bm.tape.trans h.bm.tape, h'.bm.output.trans h.bm.output, Nat.le_trans h.bm.size h'.bm.size, fun k hk hn => ?_⟩, fun i r hr => ?_, fun i r b hr hb => ?_, fun i j r q hi hj hij b hb hq => ?_⟩
  · refine (h'.bm.old k (Nat.lt_of_lt_of_le hk h.bm.size) (fun hm => ?_)).trans (h.bm.old k hk hn)
    rcases ownB k hm with h1 | h1
    · omega
    · exact hn h1
  · rw [List.getElem?_append] at hr
    split at hr
    · exact Res.holds_same (h.res i r (getA i r hr).1) (fun b hb => h'.bm.old b (oldA i r b hr hb) (apart i r b hr hb))
    · exact h'.res _ r hr
  · rw [List.getElem?_append] at hr
    split at hr
    · exact h.own i r b (getA i r hr).1 hb
    · rcases newB _ r b hr hb with h1 | h1
      · exact .inl (Nat.le_trans h.bm.size h1)
      · exact ownB b h1
  · rw [List.getElem?_append] at hi hj
    split at hi
    · split at hj
      · exact h.sep i j r q (getA i r hi).1 (getA j q hj).1 hij b hb hq
      · rcases newB _ q b hj hq with h1 | h1
        · have := oldA i r b hi hb; omega
        · exact apart i r b hi hb h1
    · split at hj
      · rcases newB _ r b hi hb with h1 | h1
        · have := oldA j q b hj hq; omega
        · exact apart j q b hj hq h1
      · exact h'.sep _ _ r q hi hj (by omega) b hb hq

section
variable {P : Program} {W : World} {μ : List Nat} {L : List Res} {N : Nat} {E : Env} {o : Oper}
end
end Go.Proofs.Ytebmlphobgaboab
