/-
  An append to a row of an own matrix, put back; three results.
-/
import Derived.Test.YtgkgimglgjfcjaaLiftP
namespace Go.Proofs.Ytgkgimglgjfcjaa
open Go.RowKit
variable {dd : List Deferred}

section
variable {P : Program} {N : Nat} {E : Env} {W w : World} {L : List Res} {μ : List Nat} {o : Oper} {ops : Array Oper} {Q : Exit → Act → World → Prop} {K : Act → World → Prop} {rest : List Oper} {a : Act}

/-- an append to a row of an own matrix, put back into its place -/
theorem sAppRowM {o2 o3 : Oper} {t t2 t3 e e2 : TypeId} {x y z ii sx sy : Operand} {A A' R : Option Addr} {n c c' c2 q i d d2 by' by2 by3 : Nat} {k : Int} {kk : IntKind} {vs : List Value} {rows rows' : List (List Int)} {row ys rs : List Int}
    (hf : FrD dd a N E) (hs : St μ W w L) (hg : o.guard = none) (hd : o.dst = some d) (hN : Nat.blt d N = true) (ho : o.op = .call { callee := .builtin .append, args := #[x, y], argTypes := #[t, t] }) (hx : evalE E x = some (.slice R row.length c')) (hy : evalE E y = some (.slice A' q c2))
    (hg2 : o2.guard = none) (hd2 : o2.dst = some d2) (hN2 : Nat.blt d2 N = true) (ho2 : o2.op = .indexAddr t2 z ii) (hz : ∀ A1 c1, evalE ((d, .slice A1 rs.length c1) :: E) z = some (.slice A n c)) (hi : ∀ A1 c1, evalE ((d, .slice A1 rs.length c1) :: E) ii = some (.int kk k))
    (hg3 : o3.guard = none) (hd3 : o3.dst = none) (ho3 : o3.op = .store t3 sx sy) (hsx : ∀ A1 c1 v, evalE ((d2, v) :: (d, .slice A1 rs.length c1) :: E) sx = some v) (hsy : ∀ A1 c1 v, evalE ((d2, v) :: (d, .slice A1 rs.length c1) :: E) sy = some (.slice A1 rs.length c1))
    (hL : L[i]? = some (.mat A n c e e2 vs rows)) (hn : n = rows.length) (hrow : rows[k.toNat]? = some row) (hv : vs[k.toNat]? = some (.slice R row.length c')) (hq : q = ys.length) (hy0 : 0 < ys.length) (happ : app row ys = some rs) (hup : upd rows k rs = some rows')
    (he : EL P t e2) (hzi : TI P e2 [.int .i64 0] by') (hb : Nat.ble by' 4096 = true) (he2 : EL P t2 e) (hze : TI P e [.slice none 0 0] by2) (hzt : TI P t3 [.slice none 0 0] by3) (hr : Rd w A' (ints ys))
    (h : ∀ a w A1 c1 vs', St μ W w (L.set i (.mat A n c e e2 vs' rows')) → FrD dd a N ((d2, .pointer (some (atA A (k.toNat * 1)))) :: (d, .slice A1 rs.length c1) :: E) → wpO P ops Q K rest a w) : wpO P ops Q K (o :: o2 :: o3 :: rest) a w := by
  subst hn hq
  obtain ⟨rfl, hle⟩ := app_some happ
  obtain ⟨h4, h5, rfl⟩ := upd_some hup
  have hb' := Nat.le_of_ble_eq_true hb
  unfold big at hle
  obtain ⟨hout, hrows, hd1, hd2'⟩ := hs.res _ _ hL
  obtain ⟨R', c3, e1, hown0⟩ := hrows.2 _ _ hrow
  rw [hv] at e1
  simp only [Option.some.injEq, Value.slice.injEq, true_and] at e1
  obtain ⟨rfl, rfl⟩ := e1
  have hvl : vs.length = rows.length := hrows.1
  have hlt : k.toNat < vs.length := (List.getElem?_eq_some_iff.1 hv).1
  obtain ⟨ti, zi, h2, h3, hz4, hz5, hz6⟩ := hzi
  obtain ⟨b, off, rfl⟩ := hr.is (by rw [ints_length]; exact hy0)
  obtain ⟨v', w1, hr', hown, hgrow, _, hat⟩ := run_append_own_at (P := P) w 0 t o.type e2 ti zi 1 by' he h2 h3 (hz5.trans rfl) hz6 (by rw [hz4]; rfl) (by omega) (.slice R row.length c') row.length (ints row) hown0 ⟨b, off, none⟩ ys.length c2 (ints ys) (by rw [ints_length, Nat.mul_one])
    (fun j u hj => by
      obtain ⟨b', off', e', _, hc⟩ := hr j u hj
      simp only [Option.some.injEq, Addr.mk.injEq, and_true] at e'
      obtain ⟨rfl, rfl⟩ := e'
      rw [add_mk]; exact hc) (ints_one ys) (by unfold maxLen; omega) (Nat.le_trans (Nat.mul_le_mul hle hb') (by decide)) (Nat.zero_le _)
  have hform : ∃ A1 c1, v' = .slice A1 (row ++ ys).length c1 := by
    rw [List.length_append]
    rcases hown.2 with ⟨e1, e2⟩ | ⟨g, cap, cur, e1, _⟩
    · rw [e2]; exact ⟨_, _, e1⟩
    · exact ⟨_, _, e1⟩
  obtain ⟨A1, c1, rfl⟩ := hform
  have hsame : ∀ b, (Value.slice R row.length c').ownBlock ≠ some b → b < w.heap.size → w1.heap[b]? = w.heap[b]? := fun b hb hlt => hgrow.block b hlt (fun e => hb e.symm)
  have hout1 : w1.ownsRow 0 e 1 (.slice A rows.length c) rows.length vs := owns_same hout fun b hb => hsame b (hd2' _ _ b hv hb |> fun hh => hh) (owns_has hout hb).2
  refine stepV (wanted_none hg _) hd (v := .slice A1 (row ++ ys).length c1) (w' := w1) ?_ ?_
  · simp [execOp, ho, resolve, invoke, builtin, hf.eval hx, hf.eval hy, hr']
  have hf1 := hf.put (v := .slice A1 (row ++ ys).length c1) hN
  obtain ⟨ba, offa, rfl⟩ : ∃ b off, A = some ⟨b, off, none⟩ := by
    rcases hout.2 with ⟨_, e2⟩ | ⟨g, cap, cur, e1, _⟩
    · exact absurd e2 (by omega)
    · simp only [Value.slice.injEq] at e1; exact ⟨g, 0, e1.1⟩
  have hY := Y_index (P := P) (μ := []) (W := w1) (L := []) (N := N) (E := (d, .slice A1 (row ++ ys).length c1) :: E) (o := o2) (n := rows.length) (c := c) (zs := [.slice none 0 0]) ho2 (hz A1 c1) (hi A1 c1) he2 hze ⟨ba, offa, rfl⟩ h4 h5
  refine stepV (wanted_none hg2 _) hd2 (v := .pointer (some (atA (some ⟨ba, offa, none⟩) (k.toNat * 1)))) (w' := w1) (hY _ w1 hf1.toFr0 (St.start w1)) ?_
  have hf2 := hf1.put (v := .pointer (some (atA (some ⟨ba, offa, none⟩) (k.toNat * 1)))) hN2
  obtain ⟨w2, hrun, hown2, hsame2, hbel⟩ := run_storeOwn (P := P) (k := k.toNat * 1) (v := .slice A1 (row ++ ys).length c1) (us := [.slice A1 (row ++ ys).length c1]) hout1 hzt rfl rfl rfl (by simp) (by rw [Nat.mul_one]; simp; omega)
  have hset : vs.take (k.toNat * 1) ++ [Value.slice A1 (row ++ ys).length c1] ++ vs.drop (k.toNat * 1 + [Value.slice A1 (row ++ ys).length c1].length) = vs.set k.toNat (.slice A1 (row ++ ys).length c1) := by
    rw [Nat.mul_one]; exact set_splice vs k.toNat _ hlt
  rw [hset] at hown2
  have at' : ∀ (l : Nat) (v : Value), (vs.set k.toNat (.slice A1 (row ++ ys).length c1))[l]? = some v → (l = k.toNat ∧ v = .slice A1 (row ++ ys).length c1) ∨ (l ≠ k.toNat ∧ vs[l]? = some v) := fun l v hv => by
    by_cases el : k.toNat = l
    · subst el
      rw [List.getElem?_set_self hlt] at hv
      exact Or.inl ⟨rfl, (Option.some.inj hv).symm⟩
    · rw [List.getElem?_set_ne el] at hv
      exact Or.inr ⟨fun e => el e.symm, hv⟩
  -- the new row's block is the old row's, or new
  have hnew : ∀ b, (Value.slice A1 (row ++ ys).length c1).ownBlock = some b → (Value.slice R row.length c').ownBlock = some b ∨ b = w.heap.size := fun b hb => by
    rcases hat with e1 | e1
    · exact .inl (by rw [← e1]; exact hb)
    · rw [e1] at hb; exact .inr (Option.some.inj hb).symm
  have hsepH : ∀ b, (Value.slice A1 (row ++ ys).length c1).ownBlock = some b → (Value.slice (some ⟨ba, offa, none⟩) rows.length c).ownBlock ≠ some b := fun b hb hh => by
    rcases hnew b hb with e1 | e1
    · exact hd2' _ _ b hv hh e1
    · have := (owns_has hout hh).2; omega
  have hsepR : ∀ (l : Nat) (u : Value) b, l ≠ k.toNat → vs[l]? = some u → (Value.slice A1 (row ++ ys).length c1).ownBlock = some b → u.ownBlock ≠ some b := fun l u b hl hu hb hh => by
    rcases hnew b hb with e1 | e1
    · exact hd1 _ _ _ _ b hu hv hl hh e1
    · have hlr : l < rows.length := by have := (List.getElem?_eq_some_iff.1 hu).1; omega
      obtain ⟨R3, c3, e3, h6⟩ := hrows.2 l _ (List.getElem?_eq_getElem hlr)
      rw [hu] at e3
      have := (owns_has h6 (b := b) (by rw [← Option.some.inj e3]; exact hh)).2
      omega
  refine stepSkip (wanted_none hg3 _) hd3 (w' := w2) ?_ (h _ _ A1 c1 (vs.set k.toNat (.slice A1 (row ++ ys).length c1)) (hs.change hL ⟨hbel.os.trans hgrow.os, hbel.tape.trans hgrow.tape, hbel.output.trans hgrow.output, Nat.le_trans hgrow.size hbel.size⟩ (fun b hb hnh => ?_) ⟨hown2, ⟨by simp [hvl], fun l r hl => ?_⟩, fun l1 l2 v u b hv1 hu1 hne hb hb' => ?_, fun l v b hv1 hb hb' => ?_⟩ (fun b hb => ?_)) hf2)
  · have hx' := hsx A1 c1 (.pointer (some (atA (some ⟨ba, offa, none⟩) (k.toNat * 1))))
    have hy' := hsy A1 c1 (.pointer (some (atA (some ⟨ba, offa, none⟩) (k.toNat * 1))))
    rw [Nat.mul_one] at hx' hy' hrun
    simp only [Nat.mul_one] at hf2 ⊢
    have q1 := hf2.eval hx'
    have q2 := hf2.eval hy'
    simp [execOp, ho3, q1, q2, hrun, -List.length_append]
  · rw [hsame2 b (fun e => hnh (.inl e))]
    exact hsame b (fun e => hnh (.inr ⟨_, _, hv, e⟩)) hb
  · by_cases el : k.toNat = l
    · subst el
      rw [List.getElem?_set_self (by omega)] at hl
      simp only [Option.some.injEq] at hl
      subst hl
      refine ⟨A1, c1, by rw [List.getElem?_set_self hlt], owns_same ?_ fun b hb => hsame2 b (fun e => hsepH b hb e)⟩
      rw [List.length_append, ints_append]
      rw [List.length_append] at hown
      exact hown
    · rw [List.getElem?_set_ne el] at hl
      obtain ⟨R3, c3, e3, h6⟩ := hrows.2 l r hl
      refine ⟨R3, c3, by rw [List.getElem?_set_ne el]; exact e3, owns_same h6 fun b hb => ?_⟩
      rw [hsame2 b (fun e => hd2' _ _ b e3 e hb)]
      exact hsame b (fun e => hd1 _ _ _ _ b e3 hv (Ne.symm el) hb e) (owns_has h6 hb).2
  · rcases at' _ _ hv1 with ⟨e1, rfl⟩ | ⟨n1, hv'⟩
    · rcases at' _ _ hu1 with ⟨e2, rfl⟩ | ⟨n2, hu'⟩
      · exact hne (e1.trans e2.symm)
      · exact hsepR _ _ b n2 hu' hb hb'
    · rcases at' _ _ hu1 with ⟨e2, rfl⟩ | ⟨n2, hu'⟩
      · exact hsepR _ _ b n1 hv' hb' hb
      · exact hd1 _ _ _ _ b hv' hu' hne hb hb'
  · rcases at' _ _ hv1 with ⟨e1, rfl⟩ | ⟨n1, hv'⟩
    · exact hsepH b hb' hb
    · exact hd2' _ _ b hv' hb hb'
  · rcases hb with hb | ⟨l, v, hv1, hb⟩
    · exact Or.inl (Or.inl hb)
    · rcases at' _ _ hv1 with ⟨e1, rfl⟩ | ⟨n1, hv'⟩
      · rcases hnew b hb with e1 | e1
        · exact Or.inl (Or.inr ⟨_, _, hv, e1⟩)
        · exact Or.inr (by omega)
      · exact Or.inl (Or.inr ⟨_, _, hv', hb⟩)

theorem ret_cell_tmp2 {fn : Func} {R : Ending → World → Prop} {p t t' u u2 : TypeId} {b i by' : Nat} {x x2 : Value} {cs zs : List Value} (hr : fn.results = #[.cell p t, .tmp u, .tmp u2]) (hf : Fr a N E) (hp : look E p = some (.pointer (some ⟨b, 0, none⟩))) (hu : look E u = some x) (hu2 : look E u2 = some x2) (hs : St μ W w L) (hL : L[i]? = some (.blk b t' cs)) (hg : AG P t true) (hz : TI P t zs by') (hl : zs.length = cs.length) (h : R (.returned (.tuple #[.agg cs.toArray, x, x2])) w) : bodyPost P fn R .ret a w := by
  refine bodyPost_ret ?_ hf.defers h
  have h1 := run_loadBlk (P := P) (hs.res _ _ hL).2 hg hz hl
  simp [results, hr, hf.get p _ hp, hf.get u _ hu, hf.get u2 _ hu2, asAddr, h1, -Array.getD_eq_getD_getElem?]

end

end Go.Proofs.Ytgkgimglgjfcjaa
