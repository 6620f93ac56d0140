/-
  Slices of slices of slices: written out with one part; parts appended.
-/
import Derived.Test.YtebmlphobgaboabLiftP
namespace Go.Proofs.Ytebmlphobgaboab
open Go.RowKit
variable {dd : List Deferred}

section
variable {P : Program} {W : World} {μ : List Nat} {L : List Res} {N : Nat} {E : Env} {o : Oper} {ops : Array Oper} {Q : Exit → Act → World → Prop} {K : Act → World → Prop} {a : Act} {w : World} {rest : List Oper}

/-- a slice of slices is written out as a slice of one such -/
theorem sOneC {t e e2 e3 : TypeId} {x : Operand} {d j m c' by' : Nat} {R : Option Addr} {us : List Value} {rows : List (List Int)} (hf : FrD dd a N E) (hs : St μ W w L) (hg : o.guard = none) (hd : o.dst = some d) (hN : Nat.blt d N = true) (ho : o.op = .buildSlice t 1 #[(0, x)]) (hx : evalE E x = some (.slice R m c'))
    (hL : L[j]? = some (.mat R m c' e2 e3 us rows)) (hn : m = rows.length) (he : EL P t e) (hz : TI P e [.slice none 0 0] by')
    (h : ∀ a w A, St μ W w (((L ++ [Res.row A 1 1 e 1 [.slice R rows.length c']]).set L.length (.cub A 1 1 e e2 e3 [⟨R, c', us, rows⟩] [rows])).eraseIdx j) → FrD dd a N ((d, .slice A 1 1) :: E) → wpO P ops Q K rest a w) : wpO P ops Q K (o :: rest) a w := by
  subst hn
  refine sBuildSlice (parts := [(0, x)]) (vs := [.slice R rows.length c']) (cells := [.slice R rows.length c']) hf hs hg hd hN (by simpa using ho) (by simp [evalEs, hx]) he hz rfl rfl rfl rfl fun a w A hs hA hf => ?_
  refine h a w A ?_ hf
  have hlt : j < L.length := (List.getElem?_eq_some_iff.1 hL).1
  have hj : (L ++ [Res.row A 1 1 e 1 [.slice R rows.length c']])[j]? = some (.mat R rows.length c' e2 e3 us rows) := by rw [List.getElem?_append_left hlt]; exact hL
  have hi : (L ++ [Res.row A 1 1 e 1 [.slice R rows.length c']])[L.length]? = some (Res.row A 1 1 e 1 [.slice R rows.length c']) := by simp
  have hsep := hs.sep _ _ _ _ hi hj (by omega)
  have one : ∀ (k : Nat) (t : Mt), [(⟨R, c', us, rows⟩ : Mt)][k]? = some t → k = 0 ∧ t = ⟨R, c', us, rows⟩ := fun k t hk => by
    cases k with
    | zero => simp only [List.getElem?_cons_zero, Option.some.injEq] at hk; exact ⟨rfl, hk.symm⟩
    | succ k => simp at hk
  refine hs.absorb hi hj (by omega) (EW.refl _) (fun _ _ _ _ => rfl) ⟨hs.res _ _ hi, rfl, fun k t hk => ?_, fun k l t t' b hk hl hkl => ?_, fun k t b hk hb hv => ?_⟩ (fun b hb => ?_)
  · obtain ⟨_, rfl⟩ := one k t hk
    exact hs.res _ _ hj
  · have h1 := (one k t hk).1
    have h2 := (one l t' hl).1
    omega
  · obtain ⟨_, rfl⟩ := one k t hk
    exact hsep b hv hb
  · rcases hb with hb | ⟨k, t, hk, hb⟩
    · exact Or.inl hb
    · obtain ⟨_, rfl⟩ := one k t hk
      exact Or.inr (Or.inl hb)

/-- an own slice of slices is handed beside a pointer -/
theorem St.keepM {i : Nat} {A : Option Addr} {n c : Nat} {e e2 : TypeId} {vs : List Value} {rows : List (List Int)} (hs : St μ W w L) (hi : L[i]? = some (.mat A n c e e2 vs rows)) (is : List Nat) (hni : i ∉ is) : KM (muL (pickL L is)) w A rows :=
  ⟨vs, fun _ hb => owns_rd (hs.keepB hi is hni hb).1, fun k row hk => by
    obtain ⟨R, c', h1, _⟩ := (hs.res _ _ hi).2.1.2 k row hk
    refine ⟨R, c', h1, fun w' hb => ?_⟩
    obtain ⟨R2, c2, h2, h3⟩ := (hs.keepB hi is hni hb).2.1.2 k row hk
    rw [h1] at h2
    simp only [Option.some.injEq, Value.slice.injEq, true_and] at h2
    obtain ⟨rfl, rfl⟩ := h2
    exact owns_rd h3⟩

/-- parts are appended -/
theorem sAppendC {t e e2 e3 : TypeId} {x y : Operand} {A A' : Option Addr} {n m c c' i j d by' : Nat} {ts us : List Mt} {ms ms2 rs : List (List (List Int))} (hf : FrD dd a N E) (hs : St μ W w L) (hg : o.guard = none) (hd : o.dst = some d) (hN : Nat.blt d N = true)
    (ho : o.op = .call { callee := .builtin .append, args := #[x, y], argTypes := #[t, t] }) (hx : evalE E x = some (.slice A n c)) (hy : evalE E y = some (.slice A' m c')) (hn : n = ms.length) (hn' : m = ms2.length) (h0 : 0 < m)
    (hL : L[i]? = some (.cub A n c e e2 e3 ts ms)) (hLj : L[j]? = some (.cub A' m c' e e2 e3 us ms2)) (hij : i ≠ j) (hm : app ms ms2 = some rs) (he : EL P t e) (hz : TI P e [.slice none 0 0] by') (hb : Nat.ble by' 4096 = true)
    (h : ∀ a w A1 c1, St μ W w ((L.set i (.cub A1 rs.length c1 e e2 e3 (ts ++ us) rs)).eraseIdx j) → FrD dd a N ((d, .slice A1 rs.length c1) :: E) → wpO P ops Q K rest a w) : wpO P ops Q K (o :: rest) a w := by
  subst hn hn'
  obtain ⟨rfl, hle⟩ := app_some hm
  have hb' := Nat.le_of_ble_eq_true hb
  unfold big at hle
  obtain ⟨hout, hms, hin, hd1, hd2⟩ := hs.res _ _ hL
  obtain ⟨hout', hms', hin', hd1', hd2'⟩ := hs.res _ _ hLj
  have hsep := hs.sep _ _ _ _ hL hLj hij
  have hrd := owns_rd hout'
  have htl : ts.length = ms.length := by rw [← hms]; simp
  have hul : us.length = ms2.length := by rw [← hms']; simp
  obtain ⟨b0, off0, hA'⟩ := hrd.is (by rw [List.length_map]; omega)
  subst hA'
  obtain ⟨ii, z, h2, h3, h4, h5, h6⟩ := hz
  have one : ∀ u ∈ us.map Mt.val, u.oneCell' = true := fun u hu => by
    rw [List.mem_map] at hu
    obtain ⟨q, _, rfl⟩ := hu
    rfl
  obtain ⟨v', w', hr', hown, hgrow, _, hat⟩ := run_append_own_at (P := P) w 0 t o.type e ii z 1 by' he h2 h3 h5 h6 (by rw [h4]; rfl) (by decide) (.slice A ms.length c) ms.length (ts.map Mt.val) hout ⟨b0, off0, none⟩ ms2.length c' (us.map Mt.val) (by rw [List.length_map, hul, Nat.mul_one])
    (fun q u hq => by
      obtain ⟨b', off', e', _, hc⟩ := hrd q u hq
      simp only [Option.some.injEq, Addr.mk.injEq, and_true] at e'
      obtain ⟨rfl, rfl⟩ := e'
      rw [add_mk]; exact hc) one (by unfold maxLen; omega) (Nat.le_trans (Nat.mul_le_mul hle hb') (by decide)) (Nat.zero_le _)
  have hform : ∃ A1 c1, v' = .slice A1 (ms.length + ms2.length) c1 := by
    rcases hown.2 with ⟨e1, e2⟩ | ⟨g, cap, cur, e1, _⟩
    · rw [e2]; exact ⟨_, _, e1⟩
    · exact ⟨_, _, e1⟩
  obtain ⟨A1, c1, rfl⟩ := hform
  have newb : ∀ b, (Value.slice A1 (ms.length + ms2.length) c1).ownBlock = some b → (Value.slice A ms.length c).ownBlock = some b ∨ w.heap.size ≤ b := fun b hb => by
    rcases hat with e1 | e1
    · exact Or.inl (by rw [← e1]; exact hb)
    · rw [e1] at hb
      simp only [Option.some.injEq] at hb
      exact Or.inr (by omega)
  have same : ∀ b, b < w.heap.size → (Value.slice A ms.length c).ownBlock ≠ some b → w'.heap[b]? = w.heap[b]? := fun b hb hne => hgrow.block b hb (fun e => hne e.symm)
  have cat : ∀ (l : Nat) (v : Mt), (ts ++ us)[l]? = some v → (ts[l]? = some v) ∨ (ts.length ≤ l ∧ us[l - ts.length]? = some v) := fun l v hv => by
    rw [List.getElem?_append] at hv
    split at hv
    · exact Or.inl hv
    · exact Or.inr ⟨by omega, hv⟩
  rw [← List.map_append] at hown
  refine stepV (wanted_none hg _) hd (v := .slice A1 (ms.length + ms2.length) c1) (w' := w') ?_ (h _ _ A1 c1 ?_ (by rw [List.length_append]; exact hf.put hN))
  · simp [execOp, ho, resolve, invoke, builtin, hf.eval hx, hf.eval hy, hr']
  · rw [List.length_append]
    refine hs.absorb hL hLj hij (EW.grown hgrow) (fun b hb hne _ => same b hb (fun e => hne (Or.inl e))) ⟨hown, by rw [List.map_append, hms, hms'], fun l q hl => ?_, fun l1 l2 v u b hv hu hne hbv hbu => ?_, fun l v b hv hbv hb => ?_⟩ (fun b hb => ?_)
    · rcases cat _ _ hl with h8 | ⟨_, h8⟩
      · exact (hin _ _ h8).same fun b hb => same b ((hin _ _ h8).lt hb).2 (fun e => hd2 _ _ b h8 hb e)
      · exact (hin' _ _ h8).same fun b hb => same b ((hin' _ _ h8).lt hb).2 (fun e => hsep b (Or.inl e) (Or.inr ⟨_, _, h8, hb⟩))
    · rcases cat _ _ hv with h8 | ⟨g1, h8⟩
      · rcases cat _ _ hu with h9 | ⟨g2, h9⟩
        · exact hd1 _ _ _ _ b h8 h9 hne hbv hbu
        · exact hsep b (Or.inr ⟨_, _, h8, hbv⟩) (Or.inr ⟨_, _, h9, hbu⟩)
      · rcases cat _ _ hu with h9 | ⟨g2, h9⟩
        · exact hsep b (Or.inr ⟨_, _, h9, hbu⟩) (Or.inr ⟨_, _, h8, hbv⟩)
        · exact hd1' _ _ _ _ b h8 h9 (by omega) hbv hbu
    · rcases newb b hb with h8 | h8
      · rcases cat _ _ hv with h9 | ⟨g2, h9⟩
        · exact hd2 _ _ b h9 hbv h8
        · exact hsep b (Or.inl h8) (Or.inr ⟨_, _, h9, hbv⟩)
      · rcases cat _ _ hv with h9 | ⟨g2, h9⟩
        · have := (Res.block_lt (hs.res _ _ hL) (Or.inr ⟨_, _, h9, hbv⟩)).2; omega
        · have := (Res.block_lt (hs.res _ _ hLj) (Or.inr ⟨_, _, h9, hbv⟩)).2; omega
    · rcases hb with hb | ⟨l, v, hv, hb⟩
      · rcases newb b hb with h8 | h8
        · exact Or.inl (Or.inl h8)
        · exact Or.inr (Or.inr h8)
      · rcases cat _ _ hv with h9 | ⟨g2, h9⟩
        · exact Or.inl (Or.inr ⟨_, _, h9, hb⟩)
        · exact Or.inr (Or.inl (Or.inr ⟨_, _, h9, hb⟩))

end

end Go.Proofs.Ytebmlphobgaboab
