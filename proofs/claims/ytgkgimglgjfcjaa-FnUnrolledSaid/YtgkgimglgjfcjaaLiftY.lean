/-
  Slices of slices of slices: written out with one part; parts appended.
-/
import Derived.Test.YtgkgimglgjfcjaaLiftP
import Derived.Laws.StructEq
namespace Go.Proofs.Ytgkgimglgjfcjaa
open Go.RowKit
variable {dd : List Deferred}

section
variable {P : Program} {W : World} {μ : List Nat} {L : List Res} {N : Nat} {E : Env} {o : Oper} {ops : Array Oper} {Q : Exit → Act → World → Prop} {K : Act → World → Prop} {a : Act} {w : World} {rest : List Oper}

/-- a slice of slices is written out as a slice of one such -/
theorem sOneC {t e e2 e3 : TypeId} {x : Operand} {d j m c' by' : Nat} {R : Option Addr} {us : List Value} {rows : List (List Int)} (hf : FrD dd a N E) (hs : St μ W w L) (hg : o.guard = none) (hd : o.dst = some d) (hN : Nat.blt d N = true) (ho : o.op = .buildSlice t 1 #[(0, x)]) (hx : evalE E x = some (.slice R m c'))
    (hL : L[j]? = some (.mat R m c' e2 e3 us rows)) (hn : m = rows.length) (he : EL P t e) (hz : TI P e [.slice none 0 0] by')
    (h : ∀ a w A, St μ W w (((L ++ [Res.row A 1 1 e 1 [.slice R rows.length c']]).set L.length (.cub A 1 1 e e2 e3 [⟨R, c', us, rows⟩] [rows])).eraseIdx j) → FrD dd a N ((d, .slice A 1 1) :: E) → wpO P ops Q K rest a w) : wpO P ops Q K (o :: rest) a w := by
  subst hn
  refine sBuildSlice (parts := [(0, x)]) (vs := [.slice R rows.length c']) (cells := [.slice R rows.length c']) hf hs hg hd hN (by simpa using ho) (by simp [evalEs, hx]) he hz rfl rfl rfl rfl fun a w A hs hA hf => ?_
  refine h a w A ?_ hf
  have hlt : j < L.length := (List.getElem?_eq_some_iff.1 hL).1
  have hj : (L ++ [Res.row A 1 1 e 1 [.slice R rows.length c']])[j]? = some (.mat R rows.length c' e2 e3 us rows) := by rw [List.getElem?_append_left hlt]; exact hL
  have hi : (L ++ [Res.row A 1 1 e 1 [.slice R rows.length c']])[L.length]? = some (Res.row A 1 1 e 1 [.slice R rows.length c']) := by simp
  have hsep := hs.sep _ _ _ _ hi hj (by omega)
  have one : ∀ (k : Nat) (t : Mt), [(⟨R, c', us, rows⟩ : Mt)][k]? = some t → k = 0 ∧ t = ⟨R, c', us, rows⟩ := fun k t hk => by
    cases k with
    | zero => simp only [List.getElem?_cons_zero, Option.some.injEq] at hk; exact ⟨rfl, hk.symm⟩
    | succ k => simp at hk
  refine hs.absorb hi hj (by omega) (EW.refl _) (fun _ _ _ _ => rfl) ⟨hs.res _ _ hi, rfl, fun k t hk => ?_, fun k l t t' b hk hl hkl => ?_, fun k t b hk hb hv => ?_⟩ (fun b hb => ?_)
  · obtain ⟨_, rfl⟩ := one k t hk
    exact hs.res _ _ hj
  · have h1 := (one k t hk).1
    have h2 := (one l t' hl).1
    omega
  · obtain ⟨_, rfl⟩ := one k t hk
    exact hsep b hv hb
  · rcases hb with hb | ⟨k, t, hk, hb⟩
    · exact Or.inl hb
    · obtain ⟨_, rfl⟩ := one k t hk
      exact Or.inr (Or.inl hb)

/-- an own slice of slices is handed beside a pointer -/
theorem St.keepM {i : Nat} {A : Option Addr} {n c : Nat} {e e2 : TypeId} {vs : List Value} {rows : List (List Int)} (hs : St μ W w L) (hi : L[i]? = some (.mat A n c e e2 vs rows)) (is : List Nat) (hni : i ∉ is) : KM (muL (pickL L is)) w A rows :=
  ⟨vs, fun _ hb => owns_rd (hs.keepB hi is hni hb).1, fun k row hk => by
    obtain ⟨R, c', h1, _⟩ := (hs.res _ _ hi).2.1.2 k row hk
    refine ⟨R, c', h1, fun w' hb => ?_⟩
    obtain ⟨R2, c2, h2, h3⟩ := (hs.keepB hi is hni hb).2.1.2 k row hk
    rw [h1] at h2
    simp only [Option.some.injEq, Value.slice.injEq, true_and] at h2
    obtain ⟨rfl, rfl⟩ := h2
    exact owns_rd h3⟩

theorem St.capMRow {A R : Option Addr} {n c c' i : Nat} {e e2 : TypeId} {vs : List Value} {rows : List (List Int)} {k : Nat} {row : List Int} (hs : St μ W w L) (hL : L[i]? = some (.mat A n c e e2 vs rows)) (hk : rows[k]? = some row ∧ vs[k]? = some (.slice R row.length c')) : row.length ≤ c' := by
  obtain ⟨R', c2, h1, h2⟩ := (hs.res _ _ hL).2.1.2 k row hk.1
  rw [hk.2] at h1
  simp only [Option.some.injEq, Value.slice.injEq, true_and] at h1
  obtain ⟨rfl, rfl⟩ := h1
  exact owns_cap h2

/-- copy into the rest of an own row -/
def cpyS {α : Type} (xs : List α) (l : Int) (ys : List α) : List α := xs.take l.toNat ++ cpy (xs.drop l.toNat) ys
theorem cpyS_len {α : Type} {xs zs : List α} {l : Int} (hk : cutFrom xs l = some zs) (ys : List α) : (cpyS xs l ys).length = xs.length := by
  obtain ⟨h0, h1, _⟩ := cutFrom_some hk
  unfold cpyS; rw [List.length_append, cpy_len, List.length_take, List.length_drop]; omega
theorem run_copyOwnAt {dT sT ty e : TypeId} {lo : Nat} {A A' : Option Addr} {n c m c' by' l : Nat} {z : Value} {xs ys : List Value} (hr : w.ownsRow lo e 1 (.slice A n c) n xs) (hl : l ≤ n) (hm : m = ys.length) (hrd : Rd w A' ys) (h1 : ∀ v ∈ ys, v.oneCell' = true)
    (hu : P.underlying dT = some (.slice e)) (hz : TI P e [z] by') :
    ∃ w', (Builtin.copy_ #[dT, sT] ty #[.slice (cutA A c l 1) (n - l) (c - l), .slice A' m c']).run P w = .ok (goInt ((min m (n - l) : Nat) : Int)) w' ∧ w'.ownsRow lo e 1 (.slice A n c) n (xs.take l ++ cpy (xs.drop l) ys) ∧ (∀ b, (Value.slice A n c).ownBlock ≠ some b → w'.heap[b]? = w.heap[b]?) ∧ EW w w' := by
  have hs1 : (P.info? e).map (·.size) = some 1 := by
    obtain ⟨i, z', h2, h3, h4, h5, h6⟩ := hz
    rw [h2]; simp [h5]
  have hx : xs.length = n := by have := hr.1; omega
  by_cases h0 : min m (n - l) = 0
  · refine ⟨w, by rw [h0]; exact run_copy_none (P := P) w dT sT ty e _ A' (n - l) (c - l) m c' hu hs1 h0, ?_, fun _ _ => rfl, EW.refl w⟩
    have : cpy (xs.drop l) ys = xs.drop l := by
      unfold cpy
      by_cases hy : ys = []
      · subst hy; simp
      · have hy2 : 0 < ys.length := List.length_pos_iff.2 hy
        have : xs.drop l = [] := List.eq_nil_of_length_eq_zero (by rw [List.length_drop]; omega)
        rw [this]; simp
    rw [this, List.take_append_drop]; exact hr
  · obtain ⟨b0, off0, rfl⟩ := hrd.is (by omega)
    rcases hr.2 with ⟨e1, e2⟩ | ⟨g, cap, cur, e1, hlo, hg', hn, hmx, hsz, ht⟩
    · omega
    · simp only [Value.slice.injEq] at e1
      obtain ⟨rfl, _, rfl⟩ := e1
      have hcl : cur.toList.length = c := by simp [hsz]
      have hcs : (ys.take (n - l)).length = min m (n - l) := by simp; omega
      have hca : cutA (some ⟨g, 0, none⟩) c l 1 = some ⟨g, l, none⟩ := by
        unfold cutA; rw [if_neg (by omega), Option.map_some, add_mk, Nat.mul_one, Nat.zero_add]
      have hc := run_copy_row (P := P) w dT sT ty e g l (n - l) (c - l) ⟨b0, off0, none⟩ m c' cur e (ys.take (n - l)) hu hs1 hg' (hcs) (fun j v hj => by
          rw [List.getElem?_take] at hj
          split at hj
          · obtain ⟨b', off', e', _, hc⟩ := hrd j v hj
            simp only [Option.some.injEq, Addr.mk.injEq, and_true] at e'
            obtain ⟨rfl, rfl⟩ := e'
            rw [add_mk]; exact hc
          · simp at hj) (by rw [hcs, hsz]; omega) (fun v hv => h1 v (List.mem_of_mem_take hv))
      rw [hca]
      refine ⟨_, by rw [hc, hcs], ⟨by rw [List.length_append, cpy_len, List.length_take, List.length_drop]; omega, Or.inr ⟨g, c, _, rfl, hlo, setRow_heap _ _ _ _ _ _ hg', hn, hmx, ?_, ?_⟩⟩, fun b hb => setRow_other _ _ _ _ (fun e => hb (by rw [e]; rfl)), EW.setRow _ _ _⟩
      · simp; omega
      · rw [← ht]
        simp only [Nat.mul_one]
        unfold cpy
        have hXn : (cur.toList.take n).length = n := by rw [List.length_take, hcl]; omega
        have e1 : (cur.toList.take l).length = l := by rw [List.length_take, hcl]; omega
        have e2 : ((cur.toList.take n).drop l).length = n - l := by rw [List.length_drop, hXn]
        rw [e2, List.take_take, Nat.min_eq_left hl, List.append_assoc, List.take_append, e1, List.take_of_length_le (show (cur.toList.take l).length ≤ n by omega), List.take_append, hcs, List.take_of_length_le (show (ys.take (n - l)).length ≤ n - l by rw [hcs]; omega)]
        congr 2
        rw [List.drop_drop, List.drop_take]
        by_cases hmn : m ≤ n - l
        · rw [Nat.min_eq_left hmn, hm, show n - l - ys.length = n - (l + ys.length) by omega]
        · rw [Nat.min_eq_right (by omega), show n - l - (n - l) = 0 by omega, show n - (l + ys.length) = 0 by omega, List.take_zero, List.take_zero]

theorem sCopySuf {dT sT e : TypeId} {x y : Operand} {A A' : Option Addr} {n c m c' i by' d : Nat} {l : Int} {xs ys zs : List Int} (hf : FrD dd a N E) (hs : St μ W w L) (hg : o.guard = none) (hd : o.dst = some d) (hN : Nat.blt d N = true)
    (ho : o.op = .call { callee := .builtin .copy, args := #[x, y], argTypes := #[dT, sT] }) (hx : evalE E x = some (.slice (cutA A c l.toNat 1) (n - l.toNat) (c - l.toNat))) (hy : evalE E y = some (.slice A' m c'))
    (hL : L[i]? = some (.row A n c e 1 (ints xs))) (hn : n = xs.length) (hm : m = ys.length) (hk : cutFrom xs l = some zs) (he : EL P dT e) (hz : TI P e [.int .i64 0] by') (hrd : Rd w A' (ints ys))
    (h : ∀ a w, St μ W w (L.set i (.row A n c e 1 (ints (cpyS xs l ys)))) → FrD dd a N ((d, .int .i64 ((min ys.length zs.length : Nat) : Int)) :: E) → wpO P ops Q K rest a w) : wpO P ops Q K (o :: rest) a w := by
  subst hm hn
  obtain ⟨k0, k1, rfl⟩ := cutFrom_some hk
  have hr := hs.res _ _ hL
  obtain ⟨w', hrun, hown, hsame, hew⟩ := run_copyOwnAt (P := P) (sT := sT) (ty := o.type) (m := ys.length) (c' := c') (l := l.toNat) hr (by omega) (by rw [ints_length]) hrd (fun v hv => by
    unfold ints at hv; rw [List.mem_map] at hv; obtain ⟨q, _, rfl⟩ := hv; rfl) he hz
  have e1 : (ints xs).take l.toNat ++ cpy ((ints xs).drop l.toNat) (ints ys) = ints (cpyS xs l ys) := by
    unfold cpyS
    rw [ints_append, cpy_ints]
    unfold ints
    rw [List.map_take, List.map_drop]
  rw [e1] at hown
  have e2 : (xs.drop l.toNat).length = xs.length - l.toNat := by rw [List.length_drop]
  refine stepV (wanted_none hg _) hd (v := .int .i64 ((min ys.length (xs.drop l.toNat).length : Nat) : Int)) (w' := w') ?_ (h _ _ (hs.change hL hew (fun b _ hb => hsame b hb) hown (fun b hb => .inl hb)) (hf.put hN))
  rw [e2]
  simp [execOp, ho, resolve, invoke, builtin, hf.eval hx, hf.eval hy, hrun, goInt]

/-- parts are appended -/
theorem sAppendC {t e e2 e3 : TypeId} {x y : Operand} {A A' : Option Addr} {n m c c' i j d by' : Nat} {ts us : List Mt} {ms ms2 rs : List (List (List Int))} (hf : FrD dd a N E) (hs : St μ W w L) (hg : o.guard = none) (hd : o.dst = some d) (hN : Nat.blt d N = true)
    (ho : o.op = .call { callee := .builtin .append, args := #[x, y], argTypes := #[t, t] }) (hx : evalE E x = some (.slice A n c)) (hy : evalE E y = some (.slice A' m c')) (hn : n = ms.length) (hn' : m = ms2.length) (h0 : 0 < m)
    (hL : L[i]? = some (.cub A n c e e2 e3 ts ms)) (hLj : L[j]? = some (.cub A' m c' e e2 e3 us ms2)) (hij : i ≠ j) (hm : app ms ms2 = some rs) (he : EL P t e) (hz : TI P e [.slice none 0 0] by') (hb : Nat.ble by' 4096 = true)
    (h : ∀ a w A1 c1, St μ W w ((L.set i (.cub A1 rs.length c1 e e2 e3 (ts ++ us) rs)).eraseIdx j) → FrD dd a N ((d, .slice A1 rs.length c1) :: E) → wpO P ops Q K rest a w) : wpO P ops Q K (o :: rest) a w := by
  subst hn hn'
  obtain ⟨rfl, hle⟩ := app_some hm
  have hb' := Nat.le_of_ble_eq_true hb
  unfold big at hle
  obtain ⟨hout, hms, hin, hd1, hd2⟩ := hs.res _ _ hL
  obtain ⟨hout', hms', hin', hd1', hd2'⟩ := hs.res _ _ hLj
  have hsep := hs.sep _ _ _ _ hL hLj hij
  have hrd := owns_rd hout'
  have htl : ts.length = ms.length := by rw [← hms]; simp
  have hul : us.length = ms2.length := by rw [← hms']; simp
  obtain ⟨b0, off0, hA'⟩ := hrd.is (by rw [List.length_map]; omega)
  subst hA'
  obtain ⟨ii, z, h2, h3, h4, h5, h6⟩ := hz
  have one : ∀ u ∈ us.map Mt.val, u.oneCell' = true := fun u hu => by
    rw [List.mem_map] at hu
    obtain ⟨q, _, rfl⟩ := hu
    rfl
  obtain ⟨v', w', hr', hown, hgrow, _, hat⟩ := run_append_own_at (P := P) w 0 t o.type e ii z 1 by' he h2 h3 h5 h6 (by rw [h4]; rfl) (by decide) (.slice A ms.length c) ms.length (ts.map Mt.val) hout ⟨b0, off0, none⟩ ms2.length c' (us.map Mt.val) (by rw [List.length_map, hul, Nat.mul_one])
    (fun q u hq => by
      obtain ⟨b', off', e', _, hc⟩ := hrd q u hq
      simp only [Option.some.injEq, Addr.mk.injEq, and_true] at e'
      obtain ⟨rfl, rfl⟩ := e'
      rw [add_mk]; exact hc) one (by unfold maxLen; omega) (Nat.le_trans (Nat.mul_le_mul hle hb') (by decide)) (Nat.zero_le _)
  have hform : ∃ A1 c1, v' = .slice A1 (ms.length + ms2.length) c1 := by
    rcases hown.2 with ⟨e1, e2⟩ | ⟨g, cap, cur, e1, _⟩
    · rw [e2]; exact ⟨_, _, e1⟩
    · exact ⟨_, _, e1⟩
  obtain ⟨A1, c1, rfl⟩ := hform
  have newb : ∀ b, (Value.slice A1 (ms.length + ms2.length) c1).ownBlock = some b → (Value.slice A ms.length c).ownBlock = some b ∨ w.heap.size ≤ b := fun b hb => by
    rcases hat with e1 | e1
    · exact Or.inl (by rw [← e1]; exact hb)
    · rw [e1] at hb
      simp only [Option.some.injEq] at hb
      exact Or.inr (by omega)
  have same : ∀ b, b < w.heap.size → (Value.slice A ms.length c).ownBlock ≠ some b → w'.heap[b]? = w.heap[b]? := fun b hb hne => hgrow.block b hb (fun e => hne e.symm)
  have cat : ∀ (l : Nat) (v : Mt), (ts ++ us)[l]? = some v → (ts[l]? = some v) ∨ (ts.length ≤ l ∧ us[l - ts.length]? = some v) := fun l v hv => by
    rw [List.getElem?_append] at hv
    split at hv
    · exact Or.inl hv
    · exact Or.inr ⟨by omega, hv⟩
  rw [← List.map_append] at hown
  refine stepV (wanted_none hg _) hd (v := .slice A1 (ms.length + ms2.length) c1) (w' := w') ?_ (h _ _ A1 c1 ?_ (by rw [List.length_append]; exact hf.put hN))
  · simp [execOp, ho, resolve, invoke, builtin, hf.eval hx, hf.eval hy, hr']
  · rw [List.length_append]
    refine hs.absorb hL hLj hij (EW.grown hgrow) (fun b hb hne _ => same b hb (fun e => hne (Or.inl e))) ⟨hown, by rw [List.map_append, hms, hms'], fun l q hl => ?_, fun l1 l2 v u b hv hu hne hbv hbu => ?_, fun l v b hv hbv hb => ?_⟩ (fun b hb => ?_)
    · rcases cat _ _ hl with h8 | ⟨_, h8⟩
      · exact (hin _ _ h8).same fun b hb => same b ((hin _ _ h8).lt hb).2 (fun e => hd2 _ _ b h8 hb e)
      · exact (hin' _ _ h8).same fun b hb => same b ((hin' _ _ h8).lt hb).2 (fun e => hsep b (Or.inl e) (Or.inr ⟨_, _, h8, hb⟩))
    · rcases cat _ _ hv with h8 | ⟨g1, h8⟩
      · rcases cat _ _ hu with h9 | ⟨g2, h9⟩
        · exact hd1 _ _ _ _ b h8 h9 hne hbv hbu
        · exact hsep b (Or.inr ⟨_, _, h8, hbv⟩) (Or.inr ⟨_, _, h9, hbu⟩)
      · rcases cat _ _ hu with h9 | ⟨g2, h9⟩
        · exact hsep b (Or.inr ⟨_, _, h9, hbu⟩) (Or.inr ⟨_, _, h8, hbv⟩)
        · exact hd1' _ _ _ _ b h8 h9 (by omega) hbv hbu
    · rcases newb b hb with h8 | h8
      · rcases cat _ _ hv with h9 | ⟨g2, h9⟩
        · exact hd2 _ _ b h9 hbv h8
        · exact hsep b (Or.inl h8) (Or.inr ⟨_, _, h9, hbv⟩)
      · rcases cat _ _ hv with h9 | ⟨g2, h9⟩
        · have := (Res.block_lt (hs.res _ _ hL) (Or.inr ⟨_, _, h9, hbv⟩)).2; omega
        · have := (Res.block_lt (hs.res _ _ hLj) (Or.inr ⟨_, _, h9, hbv⟩)).2; omega
    · rcases hb with hb | ⟨l, v, hv, hb⟩
      · rcases newb b hb with h8 | h8
        · exact Or.inl (Or.inl h8)
        · exact Or.inr (Or.inr h8)
      · rcases cat _ _ hv with h9 | ⟨g2, h9⟩
        · exact Or.inl (Or.inr ⟨_, _, h9, hb⟩)
        · exact Or.inr (Or.inl (Or.inr ⟨_, _, h9, hb⟩))

/-- records held against each other -/
theorem Y_eqlS {t yt : TypeId} {x y : Operand} {xs ys : Array Value} {b : Bool} (ho : o.op = .binOp .eql t x y yt) (hx : evalE E x = some (.agg xs)) (hy : evalE E y = some (.agg ys)) (hg : P.eqGuardType P.depth t = false) (he : ∀ w, (Op.equalIn 10000 t (.agg xs) (.agg ys)).run P w = .ok b w) : Y P μ W L N E o (.bool b) := fun a w hf _ => by
  simp [execOp, ho, hf.eval hx, hf.eval hy, run_eqGuard_agg, hg, run_eql_struct, he]
theorem Y_neqS {t yt : TypeId} {x y : Operand} {xs ys : Array Value} {b : Bool} (ho : o.op = .binOp .neq t x y yt) (hx : evalE E x = some (.agg xs)) (hy : evalE E y = some (.agg ys)) (hg : P.eqGuardType P.depth t = false) (he : ∀ w, (Op.equalIn 10000 t (.agg xs) (.agg ys)).run P w = .ok b w) : Y P μ W L N E o (.bool (!b)) := fun a w hf _ => by
  simp [execOp, ho, hf.eval hx, hf.eval hy, run_eqGuard_agg, hg, run_neq_struct, he]

theorem ret_cell_tmp3 {fn : Func} {R : Ending → World → Prop} {p t t' u u2 u3 : TypeId} {b i by' : Nat} {x x2 x3 : Value} {cs zs : List Value} (hr : fn.results = #[.cell p t, .tmp u, .tmp u2, .tmp u3]) (hf : Fr a N E) (hp : look E p = some (.pointer (some ⟨b, 0, none⟩))) (hu : look E u = some x) (hu2 : look E u2 = some x2) (hu3 : look E u3 = some x3) (hs : St μ W w L) (hL : L[i]? = some (.blk b t' cs)) (hg : AG P t true) (hz : TI P t zs by') (hl : zs.length = cs.length) (h : R (.returned (.tuple #[.agg cs.toArray, x, x2, x3])) w) : bodyPost P fn R .ret a w := by
  refine bodyPost_ret ?_ hf.defers h
  have h1 := run_loadBlk (P := P) (hs.res _ _ hL).2 hg hz hl
  simp [results, hr, hf.get p _ hp, hf.get u _ hu, hf.get u2 _ hu2, hf.get u3 _ hu3, asAddr, h1, -Array.getD_eq_getD_getElem?]

end

end Go.Proofs.Ytgkgimglgjfcjaa
