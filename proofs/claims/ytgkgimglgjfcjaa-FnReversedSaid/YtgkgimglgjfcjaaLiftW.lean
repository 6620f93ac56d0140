/-
  Slices of slices that a call makes.
-/
import Derived.Test.YtgkgimglgjfcjaaLiftV
namespace Go.Proofs.Ytgkgimglgjfcjaa
open Go.RowKit
variable {dd : List Deferred}

section
variable {P : Program} {W : World} {μ : List Nat} {L : List Res} {N : Nat} {E : Env} {o : Oper} {ops : Array Oper} {Q : Exit → Act → World → Prop} {K : Act → World → Prop} {a : Act} {w : World} {rest : List Oper}

/-- a row of nil slices is a slice of slices -/
theorem St.toMat {A : Option Addr} {n c i : Nat} {e : TypeId} {vs : List Value} {rows : List (List Int)} (e2 : TypeId) (h : St μ W w L) (hL : L[i]? = some (.row A n c e 1 vs)) (hv : ∀ (k : Nat) (v : Value), vs[k]? = some v → v = .slice none 0 0) (hl : vs.length = rows.length) (hr : ∀ (k : Nat) (r : List Int), rows[k]? = some r → r = []) : St μ W w (L.set i (.mat A n c e e2 vs rows)) := by
  refine h.change hL (EW.refl _) (fun _ _ _ => rfl) ⟨h.res _ _ hL, ⟨hl, fun k row hk => ?_⟩, fun k j v u b hk _ _ hb => ?_, fun k v b hk _ hb => ?_⟩ (fun b hb => ?_)
  · have hk' : k < vs.length := by rw [hl]; exact (List.getElem?_eq_some_iff.1 hk).1
    obtain rfl := hr k row hk
    exact ⟨none, 0, by rw [List.getElem?_eq_getElem hk', hv k vs[k] (by simp [hk'])]; rfl, by simp [ints], Or.inl ⟨rfl, rfl⟩⟩
  · rw [hv k v hk] at hb; simp [Value.ownBlock] at hb
  · rw [hv k v hk] at hb; simp [Value.ownBlock] at hb
  · rcases hb with hb | ⟨k, v, hk, hb⟩
    · exact Or.inl hb
    · rw [hv k v hk] at hb; simp [Value.ownBlock] at hb

theorem sEmptyM {t e : TypeId} (e2 : TypeId) {d by' : Nat} {zs : List Value} (hf : FrD dd a N E) (hs : St μ W w L) (hg : o.guard = none) (hd : o.dst = some d) (hN : Nat.blt d N = true) (ho : o.op = .buildSlice t 0 #[]) (he : EL P t e) (hz : TI P e zs by') (hz1 : zs.length = 1)
    (h : ∀ a w A, St μ W w ((L ++ [Res.row A 0 0 e 1 []]).set L.length (.mat A 0 0 e e2 [] [])) → FrD dd a N ((d, .slice A 0 0) :: E) → wpO P ops Q K rest a w) : wpO P ops Q K (o :: rest) a w := by
  refine sEmpty hf hs hg hd hN ho he hz fun a w A hs hf => ?_
  rw [hz1] at hs
  refine h a w A (St.toMat (A := A) (n := 0) (c := 0) (e := e) (vs := []) (rows := []) e2 hs (i := L.length) (by simp) (fun k v h => by simp at h) rfl (fun k r h => by simp at h)) hf

/-- a row is written out as a slice of one slice -/
theorem sOneM {t e e2 : TypeId} {x : Operand} {d j m c' by' : Nat} {R : Option Addr} {row : List Int} (hf : FrD dd a N E) (hs : St μ W w L) (hg : o.guard = none) (hd : o.dst = some d) (hN : Nat.blt d N = true) (ho : o.op = .buildSlice t 1 #[(0, x)]) (hx : evalE E x = some (.slice R m c'))
    (hL : L[j]? = some (.row R m c' e2 1 (ints row))) (hn : m = row.length) (he : EL P t e) (hz : TI P e [.slice none 0 0] by')
    (h : ∀ a w A, St μ W w (((L ++ [Res.row A 1 1 e 1 [.slice R row.length c']]).set L.length (.mat A 1 1 e e2 [.slice R row.length c'] [row])).eraseIdx j) → FrD dd a N ((d, .slice A 1 1) :: E) → wpO P ops Q K rest a w) : wpO P ops Q K (o :: rest) a w := by
  subst hn
  refine sBuildSlice (parts := [(0, x)]) (vs := [.slice R row.length c']) (cells := [.slice R row.length c']) hf hs hg hd hN (by simpa using ho) (by simp [evalEs, hx]) he hz rfl rfl rfl rfl fun a w A hs hA hf => ?_
  refine h a w A ?_ hf
  have hlt : j < L.length := (List.getElem?_eq_some_iff.1 hL).1
  have hj : (L ++ [Res.row A 1 1 e 1 [.slice R row.length c']])[j]? = some (.row R row.length c' e2 1 (ints row)) := by rw [List.getElem?_append_left hlt]; exact hL
  have hi : (L ++ [Res.row A 1 1 e 1 [.slice R row.length c']])[L.length]? = some (Res.row A 1 1 e 1 [.slice R row.length c']) := by simp
  have hsep := hs.sep _ _ _ _ hi hj (by omega)
  refine hs.absorb hi hj (by omega) (EW.refl _) (fun _ _ _ _ => rfl) ⟨hs.res _ _ hi, ⟨rfl, fun k r hk => ?_⟩, fun k l v u b hk hl hkl => ?_, fun k v b hk hb hv => ?_⟩ (fun b hb => ?_)
  · cases k with
    | zero => simp only [List.getElem?_cons_zero, Option.some.injEq] at hk; subst hk; exact ⟨R, c', rfl, hs.res _ _ hj⟩
    | succ k => simp at hk
  · have h1 := (List.getElem?_eq_some_iff.1 hk).1
    have h2 := (List.getElem?_eq_some_iff.1 hl).1
    simp at h1 h2; omega
  · cases k with
    | zero => simp only [List.getElem?_cons_zero, Option.some.injEq] at hk; subst hk; exact hsep b hb hv
    | succ k => simp at hk
  · rcases hb with hb | ⟨k, v, hk, hb⟩
    · exact Or.inl hb
    · cases k with
      | zero => simp only [List.getElem?_cons_zero, Option.some.injEq] at hk; subst hk; exact Or.inr (Or.inl hb)
      | succ k => simp at hk

theorem set_splice {α : Type} (l : List α) (k : Nat) (x : α) (h : k < l.length) : l.take k ++ [x] ++ l.drop (k + 1) = l.set k x := by
  rw [List.set_eq_take_append_cons_drop, if_pos h]; simp

/-- rows are appended -/
theorem sAppendM {t e e2 : TypeId} {x y : Operand} {A A' : Option Addr} {n m c c' i j d by' : Nat} {vs us : List Value} {rows rows2 rs : List (List Int)} (hf : FrD dd a N E) (hs : St μ W w L) (hg : o.guard = none) (hd : o.dst = some d) (hN : Nat.blt d N = true)
    (ho : o.op = .call { callee := .builtin .append, args := #[x, y], argTypes := #[t, t] }) (hx : evalE E x = some (.slice A n c)) (hy : evalE E y = some (.slice A' m c')) (hn : n = rows.length) (hn' : m = rows2.length) (h0 : 0 < m)
    (hL : L[i]? = some (.mat A n c e e2 vs rows)) (hLj : L[j]? = some (.mat A' m c' e e2 us rows2)) (hij : i ≠ j) (hm : app rows rows2 = some rs) (he : EL P t e) (hz : TI P e [.slice none 0 0] by') (hb : Nat.ble by' 4096 = true)
    (h : ∀ a w A1 c1, St μ W w ((L.set i (.mat A1 rs.length c1 e e2 (vs ++ us) rs)).eraseIdx j) → FrD dd a N ((d, .slice A1 rs.length c1) :: E) → wpO P ops Q K rest a w) : wpO P ops Q K (o :: rest) a w := by
  subst hn hn'
  obtain ⟨rfl, hle⟩ := app_some hm
  have hb' := Nat.le_of_ble_eq_true hb
  unfold big at hle
  obtain ⟨hout, hrows, hd1, hd2⟩ := hs.res _ _ hL
  obtain ⟨hout', hrows', hd1', hd2'⟩ := hs.res _ _ hLj
  have hsep := hs.sep _ _ _ _ hL hLj hij
  have hrd := owns_rd hout'
  have hul : us.length = rows2.length := hrows'.1
  obtain ⟨b0, off0, hA'⟩ := hrd.is (by omega)
  subst hA'
  obtain ⟨ii, z, h2, h3, h4, h5, h6⟩ := hz
  have one : ∀ u ∈ us, u.oneCell' = true := fun u hu => by
    obtain ⟨k, hk⟩ := List.getElem?_of_mem hu
    obtain ⟨row, R, c3, _, rfl, _⟩ := hrows'.at hk
    rfl
  obtain ⟨v', w', hr', hown, hgrow, _, hat⟩ := run_append_own_at (P := P) w 0 t o.type e ii z 1 by' he h2 h3 h5 h6 (by rw [h4]; rfl) (by decide) (.slice A rows.length c) rows.length vs hout ⟨b0, off0, none⟩ rows2.length c' us (by rw [hul, Nat.mul_one])
    (fun q u hq => by
      obtain ⟨b', off', e', _, hc⟩ := hrd q u hq
      simp only [Option.some.injEq, Addr.mk.injEq, and_true] at e'
      obtain ⟨rfl, rfl⟩ := e'
      rw [add_mk]; exact hc) one (by unfold maxLen; omega) (Nat.le_trans (Nat.mul_le_mul hle hb') (by decide)) (Nat.zero_le _)
  have hform : ∃ A1 c1, v' = .slice A1 (rows.length + rows2.length) c1 := by
    rcases hown.2 with ⟨e1, e2⟩ | ⟨g, cap, cur, e1, _⟩
    · rw [e2]; exact ⟨_, _, e1⟩
    · exact ⟨_, _, e1⟩
  obtain ⟨A1, c1, rfl⟩ := hform
  have newb : ∀ b, (Value.slice A1 (rows.length + rows2.length) c1).ownBlock = some b → (Value.slice A rows.length c).ownBlock = some b ∨ w.heap.size ≤ b := fun b hb => by
    rcases hat with e1 | e1
    · exact Or.inl (by rw [← e1]; exact hb)
    · rw [e1] at hb
      simp only [Option.some.injEq] at hb
      exact Or.inr (by omega)
  have same : ∀ b, b < w.heap.size → (Value.slice A rows.length c).ownBlock ≠ some b → w'.heap[b]? = w.heap[b]? := fun b hb hne => hgrow.block b hb (fun e => hne e.symm)
  have cat : ∀ (l : Nat) (v : Value), (vs ++ us)[l]? = some v → (vs[l]? = some v) ∨ (vs.length ≤ l ∧ us[l - vs.length]? = some v) := fun l v hv => by
    rw [List.getElem?_append] at hv
    split at hv
    · exact Or.inl hv
    · exact Or.inr ⟨by omega, hv⟩
  refine stepV (wanted_none hg _) hd (v := .slice A1 (rows.length + rows2.length) c1) (w' := w') ?_ (h _ _ A1 c1 ?_ (by rw [List.length_append]; exact hf.put hN))
  · simp [execOp, ho, resolve, invoke, builtin, hf.eval hx, hf.eval hy, hr']
  · rw [List.length_append]
    refine hs.absorb hL hLj hij (EW.grown hgrow) (fun b hb hne _ => same b hb (fun e => hne (Or.inl e))) ⟨hown, ⟨by simp [hrows.1, hul], fun l r hl => ?_⟩, fun l1 l2 v u b hv hu hne hbv hbu => ?_, fun l v b hv hb hbv => ?_⟩ (fun b hb => ?_)
    · rw [List.getElem?_append] at hl
      split at hl
      · obtain ⟨R3, c3, e3, h7⟩ := hrows.2 l r hl
        refine ⟨R3, c3, by rw [List.getElem?_append_left (by rw [hrows.1]; assumption)]; exact e3, owns_same h7 fun b hb => same b (owns_has h7 hb).2 (fun e => hd2 _ _ b e3 e hb)⟩
      · obtain ⟨R3, c3, e3, h7⟩ := hrows'.2 _ r hl
        refine ⟨R3, c3, by rw [List.getElem?_append_right (by rw [hrows.1]; omega), hrows.1]; exact e3, owns_same h7 fun b hb => same b (owns_has h7 hb).2 (fun e => hsep b (Or.inl e) (Or.inr ⟨_, _, e3, hb⟩))⟩
    · rcases cat _ _ hv with h8 | ⟨g1, h8⟩
      · rcases cat _ _ hu with h9 | ⟨g2, h9⟩
        · exact hd1 _ _ _ _ b h8 h9 hne hbv hbu
        · exact hsep b (Or.inr ⟨_, _, h8, hbv⟩) (Or.inr ⟨_, _, h9, hbu⟩)
      · rcases cat _ _ hu with h9 | ⟨g2, h9⟩
        · exact hsep b (Or.inr ⟨_, _, h9, hbu⟩) (Or.inr ⟨_, _, h8, hbv⟩)
        · exact hd1' _ _ _ _ b h8 h9 (by omega) hbv hbu
    · rcases newb b hb with h8 | h8
      · rcases cat _ _ hv with h9 | ⟨g2, h9⟩
        · exact hd2 _ _ b h9 h8 hbv
        · exact hsep b (Or.inl h8) (Or.inr ⟨_, _, h9, hbv⟩)
      · rcases cat _ _ hv with h9 | ⟨g2, h9⟩
        · have := (Res.block_lt (hs.res _ _ hL) (Or.inr ⟨_, _, h9, hbv⟩)).2; omega
        · have := (Res.block_lt (hs.res _ _ hLj) (Or.inr ⟨_, _, h9, hbv⟩)).2; omega
    · rcases hb with hb | ⟨l, v, hv, hb⟩
      · rcases newb b hb with h8 | h8
        · exact Or.inl (Or.inl h8)
        · exact Or.inr (Or.inr h8)
      · rcases cat _ _ hv with h9 | ⟨g2, h9⟩
        · exact Or.inl (Or.inr ⟨_, _, h9, hb⟩)
        · exact Or.inr (Or.inl (Or.inr ⟨_, _, h9, hb⟩))

/-- the row that was appended last -/
theorem St.appended {A R : Option Addr} {n c c' i : Nat} {e e2 : TypeId} {vs : List Value} {rows rs : List (List Int)} {row : List Int} (hs : St μ W w L) (hL : L[i]? = some (.mat A n c e e2 (vs ++ [.slice R row.length c']) rs)) (ha : app rows [row] = some rs) :
    rs[(rows.length : Int).toNat]? = some row ∧ (vs ++ [Value.slice R row.length c'])[(rows.length : Int).toNat]? = some (.slice R row.length c') := by
  obtain ⟨rfl, _⟩ := app_some ha
  have h1 := (hs.res _ _ hL).2.1.1
  simp only [List.length_append, List.length_cons, List.length_nil] at h1
  have h2 : vs.length = rows.length := by omega
  constructor
  · simp
  · simp [← h2]
end

end Go.Proofs.Ytgkgimglgjfcjaa
