/-
  Stores into a field of a record of a row; things that came in and are written.
-/
import Derived.Test.YtgkgimglgjfcjaaLiftG
namespace Go.Proofs.Ytgkgimglgjfcjaa
open Go.RowKit
variable {dd : List Deferred}

theorem recs_setF {α : Type} {f : α → List Value} {s : Nat} (hf : ∀ x, (f x).length = s) {q x' : α} {o : Nat} {v : Value} (ho : o < s) (hx : f x' = (f q).set o v) {l : List α} {k : Nat} (hq : l[k]? = some q) : (recs f l).take (k * s + o) ++ [v] ++ (recs f l).drop (k * s + o + 1) = recs f (l.set k x') := by
  have hlt : k < l.length := (List.getElem?_eq_some_iff.1 hq).1
  have hlen : k * s + o < (recs f l).length := by
    rw [recs_length hf]
    have := Nat.mul_le_mul_right s (show k + 1 ≤ l.length from hlt)
    rw [Nat.add_mul] at this; omega
  rw [set_splice _ _ _ hlen]
  induction l generalizing k with
  | nil => simp at hlt
  | cons y l ih =>
    have e : recs f (y :: l) = f y ++ recs f l := rfl
    cases k with
    | zero =>
      simp only [List.getElem?_cons_zero, Option.some.injEq] at hq; subst hq
      have e2 : recs f ((y :: l).set 0 x') = f x' ++ recs f l := rfl
      rw [e2, e, hx, Nat.zero_mul, Nat.zero_add, List.set_append_left _ _ (by rw [hf]; exact ho)]
    | succ k =>
      have e2 : recs f ((y :: l).set (k + 1) x') = f y ++ recs f (l.set k x') := rfl
      have hk : (k + 1) * s + o = (f y).length + (k * s + o) := by rw [hf, Nat.add_mul]; omega
      have hq' : l[k]? = some q := by simpa using hq
      have hlt' : k < l.length := (List.getElem?_eq_some_iff.1 hq').1
      rw [e2, e, hk, List.set_append_right _ _ (by omega), Nat.add_sub_cancel_left]
      rw [ih hq' hlt' (by
        rw [recs_length hf]
        have := Nat.mul_le_mul_right s (show k + 1 ≤ l.length from hlt')
        rw [Nat.add_mul] at this; omega)]

section
variable {P : Program} {W : World} {μ : List Nat} {L : List Res} {N : Nat} {E : Env} {o : Oper} {ops : Array Oper} {Q : Exit → Act → World → Prop} {K : Act → World → Prop} {a : Act} {w : World} {rest : List Oper}

/-- a store into a field of an element -/
theorem sStoreF {α : Type} {t e : TypeId} {x y : Operand} {A : Option Addr} {n c i s fo by' : Nat} {j : Int} {v : Value} {zs : List Value} {xs ys : List α} {q x' : α} {f : α → List Value} (hf : FrD dd a N E) (hs : St μ W w L) (hg : o.guard = none) (hd : o.dst = none) (ho : o.op = .store t x y) (hx : evalE E x = some (.pointer (some (atA A (j.toNat * s + fo))))) (hy : evalE E y = some v)
    (hL : L[i]? = some (.row A n c e s (recs f xs))) (hq : xs[j.toNat]? = some q) (hm : upd xs j x' = some ys) (hz : TI P t zs by') (hzl : zs.length = 1) (hv : v.cells = #[v]) (h1 : v.oneCell' = true) (hlen : ∀ x, (f x).length = s) (hfo : Nat.blt fo s = true) (hx' : f x' = (f q).set fo v)
    (h : ∀ w, St μ W w (L.set i (.row A n c e s (recs f ys))) → wpO P ops Q K rest a w) : wpO P ops Q K (o :: rest) a w := by
  obtain ⟨h2, h3, rfl⟩ := upd_some hm
  have hfo' : fo < s := by simpa using hfo
  have hlt : j.toNat < xs.length := by omega
  refine sStoreRow (k := j.toNat * s + fo) (us := [v]) (xs' := recs f (xs.set j.toNat x')) hf hs hg hd ho hx hy hL hz (by simpa using hv) (by simpa using hzl) (by simp [h1]) (by simp) (by
    rw [recs_length hlen]
    have := Nat.mul_le_mul_right s (show j.toNat + 1 ≤ xs.length from hlt)
    rw [Nat.add_mul] at this; simp; omega) (recs_setF hlen hfo' hx' hq) h
end

section
variable {P : Program} {W : World} {μ : List Nat} {L : List Res} {N : Nat} {E : Env} {o : Oper} {ops : Array Oper} {Q : Exit → Act → World → Prop} {K : Act → World → Prop} {a : Act} {w : World} {rest : List Oper}

theorem recs_made {α : Type} {f : α → List Value} {zs : List Value} {z0 : α} (h : f z0 = zs) (k : Nat) : (madeCells zs.toArray (k * zs.length)).toList = recs f (List.replicate k z0) := by
  induction k with
  | zero => simp [madeCells, recs]
  | succ k ih =>
    have e : recs f (List.replicate (k + 1) z0) = zs ++ recs f (List.replicate k z0) := by rw [List.replicate_succ, ← h]; rfl
    rw [e, ← ih]
    apply List.ext_getElem?
    intro j
    by_cases hz : zs.length = 0
    · have : zs = [] := List.eq_nil_of_length_eq_zero hz
      subst this; simp [madeCells]
    · have hpos : 0 < zs.length := by omega
      have hlen : ((madeCells zs.toArray ((k + 1) * zs.length)).toList).length = (k + 1) * zs.length := by simp [madeCells]
      by_cases hj : j < (k + 1) * zs.length
      · have h1 : (madeCells zs.toArray ((k + 1) * zs.length)).toList[j]? = zs[j % zs.length]? := by
          have := Nat.mod_lt j hpos
          simp [madeCells, hj, this]
        rw [h1]
        by_cases hj2 : j < zs.length
        · rw [List.getElem?_append_left hj2, Nat.mod_eq_of_lt hj2]
        · rw [List.getElem?_append_right (by omega)]
          have hj3 : j - zs.length < k * zs.length := by rw [Nat.add_mul] at hj; omega
          have := Nat.mod_lt (j - zs.length) hpos
          simp [madeCells, hj3, this, Nat.mod_eq_sub_mod (show zs.length ≤ j by omega)]
      · rw [List.getElem?_eq_none (by rw [hlen]; omega), List.getElem?_eq_none]
        have : (madeCells zs.toArray (k * zs.length)).toList.length = k * zs.length := by simp [madeCells]
        rw [List.length_append, this]; rw [Nat.add_mul] at hj; omega

/-- an append of whatever slice -/
theorem sAppendG {α : Type} {t e : TypeId} {x y : Operand} {A A' : Option Addr} {n m c c' i s d by' : Nat} {zs : List Value} {xs ys rs : List α} {enc : List α → List Value} (hf : FrD dd a N E) (hs : St μ W w L) (hg : o.guard = none) (hd : o.dst = some d) (hN : Nat.blt d N = true)
    (ho : o.op = .call { callee := .builtin .append, args := #[x, y], argTypes := #[t, t] }) (hx : evalE E x = some (.slice A n c)) (hy : evalE E y = some (.slice A' m c')) (hn : n = xs.length) (hn' : m = ys.length)
    (hL : L[i]? = some (.row A n c e s (enc xs))) (hm : app xs ys = some rs) (he : EL P t e) (hz : TI P e zs by') (hzs : zs.length = s) (hs0 : Nat.blt 0 s = true) (hb : Nat.ble by' 4096 = true) (hr : Rd w A' (enc ys))
    (hel : ∀ l : List α, (enc l).length = l.length * s) (hea : ∀ l l' : List α, enc (l ++ l') = enc l ++ enc l') (h1 : ∀ l : List α, ∀ u ∈ enc l, u.oneCell' = true)
    (h : ∀ a w A1 c1, St μ W w (L.set i (.row A1 rs.length c1 e s (enc rs))) → FrD dd a N ((d, .slice A1 rs.length c1) :: E) → wpO P ops Q K rest a w) : wpO P ops Q K (o :: rest) a w := by
  by_cases h0 : ys = []
  · subst h0
    obtain ⟨rfl, hle⟩ := app_some hm
    simp only [List.length_nil] at hn'
    subst hn hn'
    have hown := hs.res _ _ hL
    have hnc : xs.length ≤ c := by
      rcases hown.2 with ⟨e1, e2⟩ | ⟨g, cap, cur, e1, _, _, hle, _⟩
      · rw [e2]; exact Nat.zero_le _
      · simp only [Value.slice.injEq] at e1; rw [e1.2.2]; exact hle
    have he' : P.underlying t = some (.slice e) := he
    have hrun : (Builtin.append_ #[t, t] o.type #[.slice A xs.length c, .slice A' 0 c']).run P w = .ok (.slice A xs.length c) w := by
      cases A <;> cases A' <;> simp [Builtin.append_, underlying, program, Sem.run, he', hz.size w, Builtin.lenOf, Builtin.firstCells, hnc, loadCells, loadCellsFrom, storeCells]
    refine stepV (wanted_none hg _) hd (v := .slice A xs.length c) (w' := w) ?_ (h _ _ A c ?_ ?_)
    · simp [execOp, ho, resolve, invoke, builtin, hf.eval hx, hf.eval hy, hrun]
    · rw [List.append_nil]
      have : L.set i (.row A xs.length c e s (enc xs)) = L := by
        apply List.ext_getElem?
        intro j
        by_cases hj : i = j
        · subst hj
          rw [List.getElem?_set_self (List.getElem?_eq_some_iff.1 hL).1, hL]
        · rw [List.getElem?_set_ne hj]
      rw [this]; exact hs
    · rw [List.append_nil]; exact hf.put hN
  · exact sAppendL hf hs hg hd hN ho hx hy hn hn' hL hm he hz hzs hs0 hb hr (List.length_pos_iff.2 h0) hel hea h1 h

end

/-- the blocks of a slice of slices -/
def muM (A : Option Addr) (vs : List Value) : List Nat := muA A ++ vs.flatMap fun v => v.ownBlock.toList
theorem muM_mem {A : Option Addr} {n c b : Nat} {e e2 : TypeId} {vs : List Value} {rows : List (List Int)} : b ∈ muM A vs ↔ (Res.mat A n c e e2 vs rows).has b := by
  unfold muM Res.has
  rw [List.mem_append, List.mem_flatMap]
  constructor
  · rintro (h | ⟨v, hv, h⟩)
    · exact Or.inl (muA_mem h)
    · obtain ⟨i, hi⟩ := List.getElem?_of_mem hv
      exact Or.inr ⟨i, v, hi, by cases hb : v.ownBlock <;> simp [hb] at h; rw [h]⟩
  · rintro (h | ⟨i, v, hi, h⟩)
    · exact Or.inl (mem_muA h)
    · exact Or.inr ⟨v, List.mem_of_getElem? hi, by simp [h]⟩

end Go.Proofs.Ytgkgimglgjfcjaa
