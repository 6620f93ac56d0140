/-
  Slices of slices that a call makes.
-/
import Derived.Test.YtgkgimglgjfcjaaLiftV
namespace Go.Proofs.Ytgkgimglgjfcjaa
open Go.RowKit
variable {dd : List Deferred}

section
variable {P : Program} {W : World} {μ : List Nat} {L : List Res} {N : Nat} {E : Env} {o : Oper} {ops : Array Oper} {Q : Exit → Act → World → Prop} {K : Act → World → Prop} {a : Act} {w : World} {rest : List Oper}

/-- a row of nil slices is a slice of slices -/
theorem St.toMat {A : Option Addr} {n c i : Nat} {e : TypeId} {vs : List Value} {rows : List (List Int)} (e2 : TypeId) (h : St μ W w L) (hL : L[i]? = some (.row A n c e 1 vs)) (hv : ∀ (k : Nat) (v : Value), vs[k]? = some v → v = .slice none 0 0) (hl : vs.length = rows.length) (hr : ∀ (k : Nat) (r : List Int), rows[k]? = some r → r = []) : St μ W w (L.set i (.mat A n c e e2 vs rows)) := by
  refine h.change hL (EW.refl _) (fun _ _ _ => rfl) ⟨h.res _ _ hL, ⟨hl, fun k row hk => ?_⟩, fun k j v u b hk _ _ hb => ?_, fun k v b hk _ hb => ?_⟩ (fun b hb => ?_)
  · have hk' : k < vs.length := by rw [hl]; exact (List.getElem?_eq_some_iff.1 hk).1
    obtain rfl := hr k row hk
    exact ⟨none, 0, by rw [List.getElem?_eq_getElem hk', hv k vs[k] (by simp [hk'])]; rfl, by simp [ints], Or.inl ⟨rfl, rfl⟩⟩
  · rw [hv k v hk] at hb; simp [Value.ownBlock] at hb
  · rw [hv k v hk] at hb; simp [Value.ownBlock] at hb
  · rcases hb with hb | ⟨k, v, hk, hb⟩
    · exact Or.inl hb
    · rw [hv k v hk] at hb; simp [Value.ownBlock] at hb

theorem sEmptyM {t e : TypeId} (e2 : TypeId) {d by' : Nat} {zs : List Value} (hf : FrD dd a N E) (hs : St μ W w L) (hg : o.guard = none) (hd : o.dst = some d) (hN : Nat.blt d N = true) (ho : o.op = .buildSlice t 0 #[]) (he : EL P t e) (hz : TI P e zs by') (hz1 : zs.length = 1)
    (h : ∀ a w A, St μ W w ((L ++ [Res.row A 0 0 e 1 []]).set L.length (.mat A 0 0 e e2 [] [])) → FrD dd a N ((d, .slice A 0 0) :: E) → wpO P ops Q K rest a w) : wpO P ops Q K (o :: rest) a w := by
  refine sEmpty hf hs hg hd hN ho he hz fun a w A hs hf => ?_
  rw [hz1] at hs
  refine h a w A (St.toMat (A := A) (n := 0) (c := 0) (e := e) (vs := []) (rows := []) e2 hs (i := L.length) (by simp) (fun k v h => by simp at h) rfl (fun k r h => by simp at h)) hf

theorem sMakeM {t e : TypeId} (e2 : TypeId) {x : Operand} {n : Int} {d by' : Nat} {ys : List (List Int)} (hf : FrD dd a N E) (hs : St μ W w L) (hg : o.guard = none) (hd : o.dst = some d) (hN : Nat.blt d N = true) (ho : o.op = .makeSlice t x x) (hx : evalE E x = some (.int .i64 n))
    (hm : mk n ([] : List Int) = some ys) (he : EL P t e) (hz : TI P e [.slice none 0 0] by') (hb : Nat.ble by' 4096 = true)
    (h : ∀ a w A vs, St μ W w ((L ++ [Res.row A ys.length ys.length e 1 vs]).set L.length (.mat A ys.length ys.length e e2 vs ys)) → FrD dd a N ((d, .slice A ys.length ys.length) :: E) → wpO P ops Q K rest a w) : wpO P ops Q K (o :: rest) a w := by
  obtain ⟨h0, h1, rfl⟩ := mk_some hm
  have hb' := Nat.le_of_ble_eq_true hb
  have hn : ((n.toNat : Nat) : Int) = n := by omega
  have h2 : n.toNat ≤ 67108864 := by unfold big at h1; omega
  have hby : by' * n.toNat ≤ 281474976710656 := Nat.le_trans (Nat.mul_le_mul hb' h2) (by decide)
  refine sMake (n := n.toNat) hf hs hg hd hN ho (by rw [hn]; exact hx) (by rw [hn]; exact hx) he hz hby (by unfold maxLen; omega) (cells := List.replicate n.toNat (.slice none 0 0)) (by simpa using toList_madeCells_one (Value.slice none 0 0) n.toNat) fun a w A hs hf => ?_
  refine h a w A (List.replicate n.toNat (.slice none 0 0)) ?_ ?_
  · rw [List.length_replicate]
    exact St.toMat (A := A) (n := n.toNat) (c := n.toNat) (e := e) (vs := List.replicate n.toNat (.slice none 0 0)) (rows := List.replicate n.toNat []) e2 hs (i := L.length) (by simp) (fun k v h => (List.mem_replicate.1 (List.mem_of_getElem? h)).2) (by simp) (fun k r h => (List.mem_replicate.1 (List.mem_of_getElem? h)).2)
  · rw [List.length_replicate]; exact hf

/-- a row is written out as a slice of one slice -/
theorem sOneM {t e e2 : TypeId} {x : Operand} {d j m c' by' : Nat} {R : Option Addr} {row : List Int} (hf : FrD dd a N E) (hs : St μ W w L) (hg : o.guard = none) (hd : o.dst = some d) (hN : Nat.blt d N = true) (ho : o.op = .buildSlice t 1 #[(0, x)]) (hx : evalE E x = some (.slice R m c'))
    (hL : L[j]? = some (.row R m c' e2 1 (ints row))) (hn : m = row.length) (he : EL P t e) (hz : TI P e [.slice none 0 0] by')
    (h : ∀ a w A, St μ W w (((L ++ [Res.row A 1 1 e 1 [.slice R row.length c']]).set L.length (.mat A 1 1 e e2 [.slice R row.length c'] [row])).eraseIdx j) → FrD dd a N ((d, .slice A 1 1) :: E) → wpO P ops Q K rest a w) : wpO P ops Q K (o :: rest) a w := by
  subst hn
  refine sBuildSlice (parts := [(0, x)]) (vs := [.slice R row.length c']) (cells := [.slice R row.length c']) hf hs hg hd hN (by simpa using ho) (by simp [evalEs, hx]) he hz rfl rfl rfl rfl fun a w A hs hA hf => ?_
  refine h a w A ?_ hf
  have hlt : j < L.length := (List.getElem?_eq_some_iff.1 hL).1
  have hj : (L ++ [Res.row A 1 1 e 1 [.slice R row.length c']])[j]? = some (.row R row.length c' e2 1 (ints row)) := by rw [List.getElem?_append_left hlt]; exact hL
  have hi : (L ++ [Res.row A 1 1 e 1 [.slice R row.length c']])[L.length]? = some (Res.row A 1 1 e 1 [.slice R row.length c']) := by simp
  have hsep := hs.sep _ _ _ _ hi hj (by omega)
  refine hs.absorb hi hj (by omega) (EW.refl _) (fun _ _ _ _ => rfl) ⟨hs.res _ _ hi, ⟨rfl, fun k r hk => ?_⟩, fun k l v u b hk hl hkl => ?_, fun k v b hk hb hv => ?_⟩ (fun b hb => ?_)
  · cases k with
    | zero => simp only [List.getElem?_cons_zero, Option.some.injEq] at hk; subst hk; exact ⟨R, c', rfl, hs.res _ _ hj⟩
    | succ k => simp at hk
  · have h1 := (List.getElem?_eq_some_iff.1 hk).1
    have h2 := (List.getElem?_eq_some_iff.1 hl).1
    simp at h1 h2; omega
  · cases k with
    | zero => simp only [List.getElem?_cons_zero, Option.some.injEq] at hk; subst hk; exact hsep b hb hv
    | succ k => simp at hk
  · rcases hb with hb | ⟨k, v, hk, hb⟩
    · exact Or.inl hb
    · cases k with
      | zero => simp only [List.getElem?_cons_zero, Option.some.injEq] at hk; subst hk; exact Or.inr (Or.inl hb)
      | succ k => simp at hk

theorem run_storeOwn {t e : TypeId} {A : Option Addr} {n c k s by' lo : Nat} {v : Value} {zs us xs : List Value} (hr : w.ownsRow lo e s (.slice A n c) n xs) (hz : TI P t zs by') (hv : v.cells = us.toArray) (hl : zs.length = us.length) (h1 : us.all Value.oneCell' = true) (h0 : 0 < us.length) (hk : k + us.length ≤ xs.length) :
    ∃ w', (Instr.storeAt t (.pointer (some (atA A k))) v).run P w = .ok () w' ∧ w'.ownsRow lo e s (.slice A n c) n (xs.take k ++ us ++ xs.drop (k + us.length)) ∧ (∀ b, (Value.slice A n c).ownBlock ≠ some b → w'.heap[b]? = w.heap[b]?) ∧ EW w w' := by
  rcases hr.2 with ⟨e1, e2⟩ | ⟨g, cap, cur, e1, hlo, hg', hn, hm, hsz, ht⟩
  · have : xs.length = 0 := by rw [hr.1, e2, Nat.zero_mul]
    omega
  · simp only [Value.slice.injEq] at e1
    obtain ⟨rfl, _, rfl⟩ := e1
    have hxl : xs.length ≤ cur.size := by rw [← ht, List.length_take, Array.length_toList]; exact Nat.min_le_right _ _
    have hkc : k + us.length ≤ cur.toList.length := by simpa using Nat.le_trans hk hxl
    refine ⟨w.setRow g (cur.toList.take k ++ us ++ cur.toList.drop (k + us.length)).toArray, ?_, ⟨?_, Or.inr ⟨g, c, _, rfl, hlo, setRow_heap _ _ _ _ _ _ hg', hn, hm, ?_, ?_⟩⟩, fun b hb => setRow_other _ _ _ _ (fun e => hb (by rw [e]; rfl)), EW.setRow _ _ _⟩
    · rw [atA_some, Nat.zero_add]
      exact run_storeBlk (P := P) (w := w) (cs := cur.toList) hz hv hl (fun u hu => List.all_eq_true.1 h1 u hu) (by simpa using hg') hkc
    · have := hr.1; simp; omega
    · simp; omega
    · have hlen := hr.1
      have hks : k + us.length ≤ n * s := by omega
      have hM : n * s ≤ cur.toList.length := by rw [Array.length_toList, hsz]; exact Nat.mul_le_mul_right _ hn
      rw [take_splice _ _ _ _ hks hM, ht]

theorem set_splice {α : Type} (l : List α) (k : Nat) (x : α) (h : k < l.length) : l.take k ++ [x] ++ l.drop (k + 1) = l.set k x := by
  rw [List.set_eq_take_append_cons_drop, if_pos h]; simp

/-- a number is stored into a row of a slice of slices -/
theorem sStoreM {t e e2 : TypeId} {x y : Operand} {A R : Option Addr} {n c c' i m by' : Nat} {j k : Int} {x0 : Int} {vs : List Value} {rows rows' : List (List Int)} {row row' : List Int} (hf : FrD dd a N E) (hs : St μ W w L) (hg : o.guard = none) (hd : o.dst = none) (ho : o.op = .store t x y) (hx : evalE E x = some (.pointer (some (atA R (j.toNat * [Value.int .i64 0].length))))) (hy : evalE E y = some (.int .i64 x0))
    (hL : L[i]? = some (.mat A n c e e2 vs rows)) (hq : rows[k.toNat]? = some row) (hv : vs[k.toNat]? = some (.slice R m c')) (hm0 : m = row.length) (hu : upd row j x0 = some row') (hw : upd rows k row' = some rows') (hz : TI P t [.int .i64 0] by')
    (h : ∀ w, St μ W w (L.set i (.mat A n c e e2 vs rows')) → wpO P ops Q K rest a w) : wpO P ops Q K (o :: rest) a w := by
  subst hm0
  obtain ⟨h2, h3, rfl⟩ := upd_some hu
  obtain ⟨h4, h5, rfl⟩ := upd_some hw
  have hr := hs.res _ _ hL
  obtain ⟨hout, hrows, hd1, hd2⟩ := hr
  obtain ⟨R', c2, e1, hrow⟩ := hrows.2 _ _ hq
  rw [hv] at e1
  simp only [Option.some.injEq, Value.slice.injEq, true_and] at e1
  obtain ⟨rfl, rfl⟩ := e1
  have hlt : j.toNat < row.length := by omega
  obtain ⟨w', hrun, hown, hsame, hbel⟩ := run_storeOwn (P := P) (k := j.toNat * 1) (v := .int .i64 x0) (us := [.int .i64 x0]) hrow hz rfl rfl rfl (by simp) (by rw [ints_length, Nat.mul_one]; simp; omega)
  have hints : (ints row).take (j.toNat * 1) ++ [Value.int .i64 x0] ++ (ints row).drop (j.toNat * 1 + [Value.int .i64 x0].length) = ints (row.set j.toNat x0) := ints_set x0 row j.toNat hlt
  rw [hints] at hown
  refine stepSkip (wanted_none hg _) hd (w' := w') ?_ (h _ (hs.change hL hbel (fun b _ hb => hsame b (fun e => hb (Or.inr ⟨_, _, hv, e⟩))) ⟨?_, ⟨by simp [hrows.1], fun l r hl => ?_⟩, hd1, hd2⟩ (fun b hb => Or.inl hb)))
  · have hx' : evalE E x = some (.pointer (some (atA R (j.toNat * 1)))) := hx
    rw [Nat.mul_one] at hx' hrun
    simp [execOp, ho, hf.eval hx', hf.eval hy, hrun]
  · exact owns_same hout fun b hb => hsame b (fun e => hd2 _ _ b hv hb e)
  · by_cases el : k.toNat = l
    · subst el
      have hlt2 : k.toNat < rows.length := (List.getElem?_eq_some_iff.1 hq).1
      rw [List.getElem?_set_self hlt2] at hl
      simp only [Option.some.injEq] at hl
      subst hl
      refine ⟨R, c', ?_, ?_⟩
      · rw [List.length_set]; exact hv
      · rw [List.length_set]; exact hown
    · rw [List.getElem?_set_ne el] at hl
      obtain ⟨R3, c3, e3, h6⟩ := hrows.2 l r hl
      exact ⟨R3, c3, e3, owns_same h6 fun b hb => hsame b (fun e => hd1 _ _ _ _ b hv e3 el e hb)⟩

/-- a row is stored into a slice of slices -/
theorem sStoreRowM {t e e2 : TypeId} {x y : Operand} {A R : Option Addr} {n c c' i j m by' : Nat} {k : Int} {vs : List Value} {rows rows' : List (List Int)} {row : List Int} (hf : FrD dd a N E) (hs : St μ W w L) (hg : o.guard = none) (hd : o.dst = none) (ho : o.op = .store t x y) (hx : evalE E x = some (.pointer (some (atA A (k.toNat * [Value.slice none 0 0].length))))) (hy : evalE E y = some (.slice R m c'))
    (hL : L[i]? = some (.mat A n c e e2 vs rows)) (hLj : L[j]? = some (.row R m c' e2 1 (ints row))) (hij : i ≠ j) (hm0 : m = row.length) (hw : upd rows k row = some rows') (hz : TI P t [.slice none 0 0] by')
    (h : ∀ w vs, St μ W w ((L.set i (.mat A n c e e2 vs rows')).eraseIdx j) → wpO P ops Q K rest a w) : wpO P ops Q K (o :: rest) a w := by
  subst hm0
  obtain ⟨h4, h5, rfl⟩ := upd_some hw
  obtain ⟨hout, hrows, hd1, hd2⟩ := hs.res _ _ hL
  have hrow := hs.res _ _ hLj
  have hsep := hs.sep _ _ _ _ hL hLj hij
  have hvl : vs.length = rows.length := hrows.1
  have hlt : k.toNat < vs.length := by omega
  obtain ⟨w', hrun, hown, hsame, hbel⟩ := run_storeOwn (P := P) (k := k.toNat * 1) (v := .slice R row.length c') (us := [.slice R row.length c']) hout hz rfl rfl rfl (by simp) (by rw [Nat.mul_one]; simp; omega)
  have hset : vs.take (k.toNat * 1) ++ [Value.slice R row.length c'] ++ vs.drop (k.toNat * 1 + [Value.slice R row.length c'].length) = vs.set k.toNat (.slice R row.length c') := by
    rw [Nat.mul_one]; exact set_splice vs k.toNat _ hlt
  rw [hset] at hown
  have at' : ∀ (l : Nat) (v : Value), (vs.set k.toNat (.slice R row.length c'))[l]? = some v → (l = k.toNat ∧ v = .slice R row.length c') ∨ (l ≠ k.toNat ∧ vs[l]? = some v) := fun l v hv => by
    by_cases el : k.toNat = l
    · subst el
      rw [List.getElem?_set_self hlt] at hv
      exact Or.inl ⟨rfl, (Option.some.inj hv).symm⟩
    · rw [List.getElem?_set_ne el] at hv
      exact Or.inr ⟨fun e => el e.symm, hv⟩
  refine stepSkip (wanted_none hg _) hd (w' := w') ?_ (h _ (vs.set k.toNat (.slice R row.length c')) (hs.absorb hL hLj hij hbel (fun b _ hb _ => hsame b (fun e => hb (Or.inl e))) ⟨hown, ⟨by simp [hvl], fun l r hl => ?_⟩, fun l1 l2 v u b hv hu hne hb hb' => ?_, fun l v b hv hb hb' => ?_⟩ (fun b hb => ?_)))
  · have hx' : evalE E x = some (.pointer (some (atA A (k.toNat * 1)))) := hx
    rw [Nat.mul_one] at hx' hrun
    simp [execOp, ho, hf.eval hx', hf.eval hy, hrun]
  · by_cases el : k.toNat = l
    · subst el
      rw [List.getElem?_set_self (by omega)] at hl
      simp only [Option.some.injEq] at hl
      subst hl
      refine ⟨R, c', by rw [List.getElem?_set_self hlt], owns_same hrow fun b hb => hsame b (fun e => hsep b (Or.inl e) hb)⟩
    · rw [List.getElem?_set_ne el] at hl
      obtain ⟨R3, c3, e3, h6⟩ := hrows.2 l r hl
      exact ⟨R3, c3, by rw [List.getElem?_set_ne el]; exact e3, owns_same h6 fun b hb => hsame b (fun e => hd2 _ _ b e3 e hb)⟩
  · rcases at' _ _ hv with ⟨e1, rfl⟩ | ⟨n1, hv'⟩
    · rcases at' _ _ hu with ⟨e2, rfl⟩ | ⟨n2, hu'⟩
      · exact hne (e1.trans e2.symm)
      · exact hsep b (Or.inr ⟨_, _, hu', hb'⟩) hb
    · rcases at' _ _ hu with ⟨e2, rfl⟩ | ⟨n2, hu'⟩
      · exact hsep b (Or.inr ⟨_, _, hv', hb⟩) hb'
      · exact hd1 _ _ _ _ b hv' hu' hne hb hb'
  · rcases at' _ _ hv with ⟨e1, rfl⟩ | ⟨n1, hv'⟩
    · exact hsep b (Or.inl hb) hb'
    · exact hd2 _ _ b hv' hb hb'
  · rcases hb with hb | ⟨l, v, hv, hb⟩
    · exact Or.inl (Or.inl hb)
    · rcases at' _ _ hv with ⟨e1, rfl⟩ | ⟨n1, hv'⟩
      · exact Or.inr (Or.inl hb)
      · exact Or.inl (Or.inr ⟨_, _, hv', hb⟩)

/-- rows are appended -/
theorem sAppendM {t e e2 : TypeId} {x y : Operand} {A A' : Option Addr} {n m c c' i j d by' : Nat} {vs us : List Value} {rows rows2 rs : List (List Int)} (hf : FrD dd a N E) (hs : St μ W w L) (hg : o.guard = none) (hd : o.dst = some d) (hN : Nat.blt d N = true)
    (ho : o.op = .call { callee := .builtin .append, args := #[x, y], argTypes := #[t, t] }) (hx : evalE E x = some (.slice A n c)) (hy : evalE E y = some (.slice A' m c')) (hn : n = rows.length) (hn' : m = rows2.length) (h0 : 0 < m)
    (hL : L[i]? = some (.mat A n c e e2 vs rows)) (hLj : L[j]? = some (.mat A' m c' e e2 us rows2)) (hij : i ≠ j) (hm : app rows rows2 = some rs) (he : EL P t e) (hz : TI P e [.slice none 0 0] by') (hb : Nat.ble by' 4096 = true)
    (h : ∀ a w A1 c1, St μ W w ((L.set i (.mat A1 rs.length c1 e e2 (vs ++ us) rs)).eraseIdx j) → FrD dd a N ((d, .slice A1 rs.length c1) :: E) → wpO P ops Q K rest a w) : wpO P ops Q K (o :: rest) a w := by
  subst hn hn'
  obtain ⟨rfl, hle⟩ := app_some hm
  have hb' := Nat.le_of_ble_eq_true hb
  unfold big at hle
  obtain ⟨hout, hrows, hd1, hd2⟩ := hs.res _ _ hL
  obtain ⟨hout', hrows', hd1', hd2'⟩ := hs.res _ _ hLj
  have hsep := hs.sep _ _ _ _ hL hLj hij
  have hrd := owns_rd hout'
  have hul : us.length = rows2.length := hrows'.1
  obtain ⟨b0, off0, hA'⟩ := hrd.is (by omega)
  subst hA'
  obtain ⟨ii, z, h2, h3, h4, h5, h6⟩ := hz
  have one : ∀ u ∈ us, u.oneCell' = true := fun u hu => by
    obtain ⟨k, hk⟩ := List.getElem?_of_mem hu
    obtain ⟨row, R, c3, _, rfl, _⟩ := hrows'.at hk
    rfl
  obtain ⟨v', w', hr', hown, hgrow, _, hat⟩ := run_append_own_at (P := P) w 0 t o.type e ii z 1 by' he h2 h3 h5 h6 (by rw [h4]; rfl) (by decide) (.slice A rows.length c) rows.length vs hout ⟨b0, off0, none⟩ rows2.length c' us (by rw [hul, Nat.mul_one])
    (fun q u hq => by
      obtain ⟨b', off', e', _, hc⟩ := hrd q u hq
      simp only [Option.some.injEq, Addr.mk.injEq, and_true] at e'
      obtain ⟨rfl, rfl⟩ := e'
      rw [add_mk]; exact hc) one (by unfold maxLen; omega) (Nat.le_trans (Nat.mul_le_mul hle hb') (by decide)) (Nat.zero_le _)
  have hform : ∃ A1 c1, v' = .slice A1 (rows.length + rows2.length) c1 := by
    rcases hown.2 with ⟨e1, e2⟩ | ⟨g, cap, cur, e1, _⟩
    · rw [e2]; exact ⟨_, _, e1⟩
    · exact ⟨_, _, e1⟩
  obtain ⟨A1, c1, rfl⟩ := hform
  have newb : ∀ b, (Value.slice A1 (rows.length + rows2.length) c1).ownBlock = some b → (Value.slice A rows.length c).ownBlock = some b ∨ w.heap.size ≤ b := fun b hb => by
    rcases hat with e1 | e1
    · exact Or.inl (by rw [← e1]; exact hb)
    · rw [e1] at hb
      simp only [Option.some.injEq] at hb
      exact Or.inr (by omega)
  have same : ∀ b, b < w.heap.size → (Value.slice A rows.length c).ownBlock ≠ some b → w'.heap[b]? = w.heap[b]? := fun b hb hne => hgrow.block b hb (fun e => hne e.symm)
  have cat : ∀ (l : Nat) (v : Value), (vs ++ us)[l]? = some v → (vs[l]? = some v) ∨ (vs.length ≤ l ∧ us[l - vs.length]? = some v) := fun l v hv => by
    rw [List.getElem?_append] at hv
    split at hv
    · exact Or.inl hv
    · exact Or.inr ⟨by omega, hv⟩
  refine stepV (wanted_none hg _) hd (v := .slice A1 (rows.length + rows2.length) c1) (w' := w') ?_ (h _ _ A1 c1 ?_ (by rw [List.length_append]; exact hf.put hN))
  · simp [execOp, ho, resolve, invoke, builtin, hf.eval hx, hf.eval hy, hr']
  · rw [List.length_append]
    refine hs.absorb hL hLj hij (EW.grown hgrow) (fun b hb hne _ => same b hb (fun e => hne (Or.inl e))) ⟨hown, ⟨by simp [hrows.1, hul], fun l r hl => ?_⟩, fun l1 l2 v u b hv hu hne hbv hbu => ?_, fun l v b hv hb hbv => ?_⟩ (fun b hb => ?_)
    · rw [List.getElem?_append] at hl
      split at hl
      · obtain ⟨R3, c3, e3, h7⟩ := hrows.2 l r hl
        refine ⟨R3, c3, by rw [List.getElem?_append_left (by rw [hrows.1]; assumption)]; exact e3, owns_same h7 fun b hb => same b (owns_has h7 hb).2 (fun e => hd2 _ _ b e3 e hb)⟩
      · obtain ⟨R3, c3, e3, h7⟩ := hrows'.2 _ r hl
        refine ⟨R3, c3, by rw [List.getElem?_append_right (by rw [hrows.1]; omega), hrows.1]; exact e3, owns_same h7 fun b hb => same b (owns_has h7 hb).2 (fun e => hsep b (Or.inl e) (Or.inr ⟨_, _, e3, hb⟩))⟩
    · rcases cat _ _ hv with h8 | ⟨g1, h8⟩
      · rcases cat _ _ hu with h9 | ⟨g2, h9⟩
        · exact hd1 _ _ _ _ b h8 h9 hne hbv hbu
        · exact hsep b (Or.inr ⟨_, _, h8, hbv⟩) (Or.inr ⟨_, _, h9, hbu⟩)
      · rcases cat _ _ hu with h9 | ⟨g2, h9⟩
        · exact hsep b (Or.inr ⟨_, _, h9, hbu⟩) (Or.inr ⟨_, _, h8, hbv⟩)
        · exact hd1' _ _ _ _ b h8 h9 (by omega) hbv hbu
    · rcases newb b hb with h8 | h8
      · rcases cat _ _ hv with h9 | ⟨g2, h9⟩
        · exact hd2 _ _ b h9 h8 hbv
        · exact hsep b (Or.inl h8) (Or.inr ⟨_, _, h9, hbv⟩)
      · rcases cat _ _ hv with h9 | ⟨g2, h9⟩
        · have := (Res.block_lt (hs.res _ _ hL) (Or.inr ⟨_, _, h9, hbv⟩)).2; omega
        · have := (Res.block_lt (hs.res _ _ hLj) (Or.inr ⟨_, _, h9, hbv⟩)).2; omega
    · rcases hb with hb | ⟨l, v, hv, hb⟩
      · rcases newb b hb with h8 | h8
        · exact Or.inl (Or.inl h8)
        · exact Or.inr (Or.inr h8)
      · rcases cat _ _ hv with h9 | ⟨g2, h9⟩
        · exact Or.inl (Or.inr ⟨_, _, h9, hb⟩)
        · exact Or.inr (Or.inl (Or.inr ⟨_, _, h9, hb⟩))

/-- the row that was appended last -/
theorem St.appended {A R : Option Addr} {n c c' i : Nat} {e e2 : TypeId} {vs : List Value} {rows rs : List (List Int)} {row : List Int} (hs : St μ W w L) (hL : L[i]? = some (.mat A n c e e2 (vs ++ [.slice R row.length c']) rs)) (ha : app rows [row] = some rs) :
    rs[(rows.length : Int).toNat]? = some row ∧ (vs ++ [Value.slice R row.length c'])[(rows.length : Int).toNat]? = some (.slice R row.length c') := by
  obtain ⟨rfl, _⟩ := app_some ha
  have h1 := (hs.res _ _ hL).2.1.1
  simp only [List.length_append, List.length_cons, List.length_nil] at h1
  have h2 : vs.length = rows.length := by omega
  constructor
  · simp
  · simp [← h2]
/-- a row that was written keeps its place -/
theorem rowUpd {vs : List Value} {rows rows' : List (List Int)} {row row' : List Int} {j : Int} {x0 : Int} {k : Int} {R : Option Addr} {c' : Nat} (hu : upd row j x0 = some row') (hw : upd rows k row' = some rows') (hv : vs[k.toNat]? = some (.slice R row.length c')) : rows'[k.toNat]? = some row' ∧ vs[k.toNat]? = some (.slice R row'.length c') := by
  obtain ⟨h1, h2, rfl⟩ := upd_some hw
  have := upd_len hu
  constructor
  · rw [List.getElem?_set_self (by omega)]
  · rw [hv, this]

end

end Go.Proofs.Ytgkgimglgjfcjaa
