/-
  Slices of slices of slices that a call makes, reads and writes.
-/
import Derived.Test.YtgkgimglgjfcjaaLiftK
namespace Go.Proofs.Ytgkgimglgjfcjaa
open Go.RowKit
variable {dd : List Deferred}

section
variable {P : Program} {W : World} {μ : List Nat} {L : List Res} {N : Nat} {E : Env} {o : Oper} {ops : Array Oper} {Q : Exit → Act → World → Prop} {K : Act → World → Prop} {a : Act} {w : World} {rest : List Oper}

theorem mt_own {t t' : Mt} (hR : t.R = t'.R) (hu : t.us = t'.us) {b : Nat} : t.has b ↔ t'.has b := by
  rw [← mt_mem, ← mt_mem, hR, hu]

theorem St.toCub {A : Option Addr} {n c i k : Nat} {e : TypeId} (e2 e3 : TypeId) (h : St μ W w L) (hL : L[i]? = some (.row A n c e 1 (List.replicate k (.slice none 0 0)))) : St μ W w (L.set i (.cub A n c e e2 e3 (List.replicate k ⟨none, 0, [], []⟩) (List.replicate k []))) := by
  have no : ∀ (j : Nat) (t : Mt), (List.replicate k (⟨none, 0, [], []⟩ : Mt))[j]? = some t → t = ⟨none, 0, [], []⟩ := fun j t ht => (List.mem_replicate.1 (List.mem_of_getElem? ht)).2
  have nob : ∀ (b : Nat), ¬ (⟨none, 0, [], []⟩ : Mt).has b := fun b hb => by rcases hb with hb | ⟨j, u, hu, _⟩ <;> simp_all [Mt.val, Value.ownBlock]
  refine h.change hL (EW.refl _) (fun _ _ _ => rfl) ⟨by rw [List.map_replicate]; exact h.res _ _ hL, by simp, fun j t ht => ?_, fun j q t t' b ht _ _ hb => ?_, fun j t b ht hb => ?_⟩ (fun b hb => ?_)
  · rw [no j t ht]
    exact ⟨⟨by simp, Or.inl ⟨rfl, rfl⟩⟩, ⟨rfl, fun q row hq => by simp at hq⟩, fun q r v u b hq => by simp at hq, fun q v b hq => by simp at hq⟩
  · rw [no j t ht] at hb; exact absurd hb (nob b)
  · rw [no j t ht] at hb; exact absurd hb (nob b)
  · rcases hb with hb | ⟨j, t, ht, hb⟩
    · exact Or.inl hb
    · rw [no j t ht] at hb; exact absurd hb (nob b)

theorem sMakeC {t e : TypeId} (e2 e3 : TypeId) {x : Operand} {n : Int} {d by' : Nat} {ys : List (List (List Int))} (hf : FrD dd a N E) (hs : St μ W w L) (hg : o.guard = none) (hd : o.dst = some d) (hN : Nat.blt d N = true) (ho : o.op = .makeSlice t x x) (hx : evalE E x = some (.int .i64 n))
    (hm : mk n ([] : List (List Int)) = some ys) (he : EL P t e) (hz : TI P e [.slice none 0 0] by') (hb : Nat.ble by' 4096 = true)
    (h : ∀ a w A ts, St μ W w (L ++ [.cub A ys.length ys.length e e2 e3 ts ys]) → FrD dd a N ((d, .slice A ys.length ys.length) :: E) → wpO P ops Q K rest a w) : wpO P ops Q K (o :: rest) a w := by
  obtain ⟨h0, h1, rfl⟩ := mk_some hm
  have hb' := Nat.le_of_ble_eq_true hb
  have hn : ((n.toNat : Nat) : Int) = n := by omega
  have h2 : n.toNat ≤ 67108864 := by unfold big at h1; omega
  have hby : by' * n.toNat ≤ 281474976710656 := Nat.le_trans (Nat.mul_le_mul hb' h2) (by decide)
  refine sMake (n := n.toNat) hf hs hg hd hN ho (by rw [hn]; exact hx) (by rw [hn]; exact hx) he hz hby (by unfold maxLen; omega) (cells := List.replicate n.toNat (.slice none 0 0)) (by simpa using toList_madeCells_one (Value.slice none 0 0) n.toNat) fun a w A hs hf => ?_
  refine h a w A (List.replicate n.toNat ⟨none, 0, [], []⟩) ?_ ?_
  · rw [List.length_replicate]
    have := St.toCub (A := A) (n := n.toNat) (c := n.toNat) (e := e) (k := n.toNat) e2 e3 hs (i := L.length) (by simp)
    rw [List.set_append, if_neg (Nat.lt_irrefl _), Nat.sub_self] at this
    exact this
  · rw [List.length_replicate]; exact hf

/-- a slice of slices goes into a slice of such -/
theorem sStoreMatC {t e e2 e3 : TypeId} {x y : Operand} {A R : Option Addr} {n c c' i j m by' : Nat} {k : Int} {ts : List Mt} {us : List Value} {ms ms' : List (List (List Int))} {rows : List (List Int)} (hf : FrD dd a N E) (hs : St μ W w L) (hg : o.guard = none) (hd : o.dst = none) (ho : o.op = .store t x y) (hx : evalE E x = some (.pointer (some (atA A (k.toNat * [Value.slice none 0 0].length))))) (hy : evalE E y = some (.slice R m c'))
    (hL : L[i]? = some (.cub A n c e e2 e3 ts ms)) (hLj : L[j]? = some (.mat R m c' e2 e3 us rows)) (hij : i ≠ j) (hm0 : m = rows.length) (hw : upd ms k rows = some ms') (hz : TI P t [.slice none 0 0] by')
    (h : ∀ w ts, St μ W w ((L.set i (.cub A n c e e2 e3 ts ms')).eraseIdx j) → wpO P ops Q K rest a w) : wpO P ops Q K (o :: rest) a w := by
  subst hm0
  obtain ⟨h4, h5, rfl⟩ := upd_some hw
  obtain ⟨hout, hms, hin, hd1, hd2⟩ := hs.res _ _ hL
  have hrow : MatH 0 w R rows.length c' e2 e3 us rows := hs.res _ _ hLj
  have hsep := hs.sep _ _ _ _ hL hLj hij
  have hvl : ts.length = ms.length := by rw [← hms]; simp
  have hlt : k.toNat < ts.length := by omega
  obtain ⟨w', hrun, hown, hsame, hbel⟩ := run_storeOwn (P := P) (k := k.toNat * 1) (v := .slice R rows.length c') (us := [.slice R rows.length c']) hout hz rfl rfl rfl (by simp) (by rw [Nat.mul_one]; simp; omega)
  have hset : (ts.map Mt.val).take (k.toNat * 1) ++ [Value.slice R rows.length c'] ++ (ts.map Mt.val).drop (k.toNat * 1 + [Value.slice R rows.length c'].length) = (ts.set k.toNat ⟨R, c', us, rows⟩).map Mt.val := by
    rw [Nat.mul_one, List.map_set]; exact set_splice (ts.map Mt.val) k.toNat _ (by simpa using hlt)
  rw [hset] at hown
  have at' : ∀ (l : Nat) (t : Mt), (ts.set k.toNat ⟨R, c', us, rows⟩)[l]? = some t → (l = k.toNat ∧ t = ⟨R, c', us, rows⟩) ∨ (l ≠ k.toNat ∧ ts[l]? = some t) := fun l t ht => by
    by_cases el : k.toNat = l
    · subst el
      rw [List.getElem?_set_self hlt] at ht
      exact Or.inl ⟨rfl, (Option.some.inj ht).symm⟩
    · rw [List.getElem?_set_ne el] at ht
      exact Or.inr ⟨fun e => el e.symm, ht⟩
  have newhas : ∀ b, (⟨R, c', us, rows⟩ : Mt).has b → (Res.mat R rows.length c' e2 e3 us rows).has b := fun b hb => hb
  refine stepSkip (wanted_none hg _) hd (w' := w') ?_ (h _ (ts.set k.toNat ⟨R, c', us, rows⟩) (hs.absorb hL hLj hij hbel (fun b _ hb _ => hsame b (fun e => hb (Or.inl e))) ⟨hown, ?_, fun l t ht => ?_, fun l1 l2 t t' b ht ht' hne hb hb' => ?_, fun l t b ht hb hb' => ?_⟩ (fun b hb => ?_)))
  · have hx' : evalE E x = some (.pointer (some (atA A (k.toNat * 1)))) := hx
    rw [Nat.mul_one] at hx' hrun
    simp [execOp, ho, hf.eval hx', hf.eval hy, hrun]
  · rw [List.map_set, hms]
  · rcases at' _ _ ht with ⟨_, rfl⟩ | ⟨_, ht'⟩
    · exact hrow.same fun b hb => hsame b (fun e => hsep b (Or.inl e) hb)
    · exact (hin _ _ ht').same fun b hb => hsame b (fun e => hd2 _ _ b ht' hb e)
  · rcases at' _ _ ht with ⟨e1, rfl⟩ | ⟨n1, hv'⟩
    · rcases at' _ _ ht' with ⟨e2, rfl⟩ | ⟨n2, hu'⟩
      · exact hne (e1.trans e2.symm)
      · exact hsep b (Or.inr ⟨_, _, hu', hb'⟩) (newhas b hb)
    · rcases at' _ _ ht' with ⟨e2, rfl⟩ | ⟨n2, hu'⟩
      · exact hsep b (Or.inr ⟨_, _, hv', hb⟩) (newhas b hb')
      · exact hd1 _ _ _ _ b hv' hu' hne hb hb'
  · rcases at' _ _ ht with ⟨e1, rfl⟩ | ⟨n1, hv'⟩
    · exact hsep b (Or.inl hb') (newhas b hb)
    · exact hd2 _ _ b hv' hb hb'
  · rcases hb with hb | ⟨l, t, ht, hb⟩
    · exact Or.inl (Or.inl hb)
    · rcases at' _ _ ht with ⟨e1, rfl⟩ | ⟨n1, hv'⟩
      · exact Or.inr (Or.inl (newhas b hb))
      · exact Or.inl (Or.inr ⟨_, _, hv', hb⟩)

/-! ### Reading -/
theorem St.cubAt {A : Option Addr} {n c i k : Nat} {e e2 e3 : TypeId} {ts : List Mt} {ms : List (List (List Int))} {m : List (List Int)} (hs : St μ W w L) (hL : L[i]? = some (.cub A n c e e2 e3 ts ms)) (hk : ms[k]? = some m) : ∃ R c' us, ts[k]? = some ⟨R, c', us, m⟩ := by
  obtain ⟨_, hms, _⟩ := hs.res _ _ hL
  rw [← hms, List.getElem?_map] at hk
  cases h : ts[k]? with
  | none => rw [h] at hk; simp at hk
  | some t => rw [h] at hk; simp only [Option.map_some, Option.some.injEq] at hk; exact ⟨t.R, t.c, t.us, by rw [← hk]⟩
theorem St.rdVC {A : Option Addr} {n c i : Nat} {e e2 e3 : TypeId} {ts : List Mt} {ms : List (List (List Int))} (hs : St μ W w L) (hL : L[i]? = some (.cub A n c e e2 e3 ts ms)) : Rd w A (ts.map Mt.val) := owns_rd (hs.res _ _ hL).1
theorem mt_at {ts : List Mt} {k c' : Nat} {R : Option Addr} {us : List Value} {m : List (List Int)} (h : ts[k]? = some ⟨R, c', us, m⟩) : (ts.map Mt.val)[k]? = some (.slice R m.length c') := by
  rw [List.getElem?_map, h]; rfl
theorem MatH.rd {lo : Nat} {A : Option Addr} {n c : Nat} {e e2 : TypeId} {vs : List Value} {rows : List (List Int)} (h : MatH lo w A n c e e2 vs rows) : RdM w A rows :=
  ⟨vs, owns_rd h.1, fun i row hrow => by obtain ⟨R, c', h1, h2⟩ := h.2.1.2 i row hrow; exact ⟨R, c', h1, owns_rd h2⟩⟩
theorem St.rdMC {A : Option Addr} {n c i k c' : Nat} {e e2 e3 : TypeId} {ts : List Mt} {ms : List (List (List Int))} {R : Option Addr} {us : List Value} {m : List (List Int)} (hs : St μ W w L) (hL : L[i]? = some (.cub A n c e e2 e3 ts ms)) (hk : ts[k]? = some ⟨R, c', us, m⟩) : RdM w R m := ((hs.res _ _ hL).2.2.1 _ _ hk).rd
theorem St.rdC {A : Option Addr} {n c i : Nat} {e e2 e3 : TypeId} {ts : List Mt} {ms : List (List (List Int))} (hs : St μ W w L) (hL : L[i]? = some (.cub A n c e e2 e3 ts ms)) : RdC w A ms :=
  ⟨ts.map Mt.val, hs.rdVC hL, fun k m hk => by
    obtain ⟨R, c', us, h⟩ := hs.cubAt hL hk
    exact ⟨R, c', mt_at h, hs.rdMC hL h⟩⟩
/-! ### A row of a part -/
theorem St.cubRow {A : Option Addr} {n c i k l c' : Nat} {e e2 e3 : TypeId} {ts : List Mt} {ms : List (List (List Int))} {R : Option Addr} {us : List Value} {m : List (List Int)} {row : List Int} (hs : St μ W w L) (hL : L[i]? = some (.cub A n c e e2 e3 ts ms)) (hk : ts[k]? = some ⟨R, c', us, m⟩) (hr : m[l]? = some row) : ∃ R2 c2, us[l]? = some (.slice R2 row.length c2) := by
  obtain ⟨R2, c2, h1, _⟩ := ((hs.res _ _ hL).2.2.1 _ _ hk).2.1.2 l row hr
  exact ⟨R2, c2, h1⟩
theorem St.rdVM {A : Option Addr} {n c i k c' : Nat} {e e2 e3 : TypeId} {ts : List Mt} {ms : List (List (List Int))} {R : Option Addr} {us : List Value} {m : List (List Int)} (hs : St μ W w L) (hL : L[i]? = some (.cub A n c e e2 e3 ts ms)) (hk : ts[k]? = some ⟨R, c', us, m⟩) : Rd w R us := owns_rd ((hs.res _ _ hL).2.2.1 _ _ hk).1
theorem St.rdCRow {A : Option Addr} {n c i k l c' c2 : Nat} {e e2 e3 : TypeId} {ts : List Mt} {ms : List (List (List Int))} {R R2 : Option Addr} {us : List Value} {m : List (List Int)} {row : List Int} (hs : St μ W w L) (hL : L[i]? = some (.cub A n c e e2 e3 ts ms)) (hk : ts[k]? = some ⟨R, c', us, m⟩) (hr : m[l]? = some row) (hv : us[l]? = some (.slice R2 row.length c2)) : Rd w R2 (ints row) := by
  obtain ⟨R', c3, h1, h2⟩ := ((hs.res _ _ hL).2.2.1 _ _ hk).2.1.2 l row hr
  rw [hv] at h1
  simp only [Option.some.injEq, Value.slice.injEq, true_and] at h1
  obtain ⟨rfl, rfl⟩ := h1
  exact owns_rd h2
/-! ### A call that writes one of the parts -/
theorem St.matHoldsC {A : Option Addr} {n c i k c' : Nat} {e e2 e3 : TypeId} {ts : List Mt} {ms : List (List (List Int))} {R : Option Addr} {us : List Value} {m : List (List Int)} (hs : St μ W w L) (hL : L[i]? = some (.cub A n c e e2 e3 ts ms)) (hk : ts[k]? = some ⟨R, c', us, m⟩) : (Res.mat R m.length c' e2 e3 us m).holds 0 w := (hs.res _ _ hL).2.2.1 _ _ hk
theorem St.mutMatC {w' : World} {A : Option Addr} {n c i c' : Nat} {x : Int} {e e2 e3 : TypeId} {ts : List Mt} {ms ms' : List (List (List Int))} {R : Option Addr} {us : List Value} {m m' : List (List Int)} (hs : St μ W w L) (hL : L[i]? = some (.cub A n c e e2 e3 ts ms)) (hk : ts[x.toNat]? = some ⟨R, c', us, m⟩)
    (h' : St (muM R us) w w' [.mat R m.length c' e2 e3 us m']) (hlen : m.length = m'.length) (hu : upd ms x m' = some ms') : ∃ ts', St μ W w' (L.set i (.cub A n c e e2 e3 ts' ms')) := by
  obtain ⟨_, _, rfl⟩ := upd_some hu
  obtain ⟨o1, o2, o3, o4, o5⟩ := hs.res _ _ hL
  have hlt := (List.getElem?_eq_some_iff.1 hk).1
  have at' : ∀ (l : Nat) (t : Mt), (ts.set x.toNat ⟨R, c', us, m'⟩)[l]? = some t → ∃ t0, ts[l]? = some t0 ∧ t0.R = t.R ∧ t0.us = t.us ∧ t0.val = t.val ∧ ((l = x.toNat ∧ t = ⟨R, c', us, m'⟩) ∨ (l ≠ x.toNat ∧ t0 = t)) := fun l t ht => by
    by_cases el : x.toNat = l
    · subst el
      rw [List.getElem?_set_self hlt] at ht
      obtain rfl := Option.some.inj ht
      exact ⟨_, hk, rfl, rfl, by simp [Mt.val, hlen], Or.inl ⟨rfl, rfl⟩⟩
    · rw [List.getElem?_set_ne el] at ht
      exact ⟨t, ht, rfl, rfl, rfl, Or.inr ⟨fun e => el e.symm, rfl⟩⟩
  have hval : (ts.set x.toNat ⟨R, c', us, m'⟩).map Mt.val = ts.map Mt.val := by
    rw [List.map_set]
    apply List.ext_getElem?; intro q
    by_cases e : q = x.toNat
    · subst e
      rw [List.getElem?_set_self (by simpa using hlt), mt_at hk]; simp [Mt.val, hlen]
    · rw [List.getElem?_set_ne (Ne.symm e)]
  have same : ∀ (b : Nat), b < w.heap.size → ¬ (⟨R, c', us, m⟩ : Mt).has b → w'.heap[b]? = w.heap[b]? := fun b hb hne => h'.bm.old b hb (fun hm => hne ((mt_mem (t := ⟨R, c', us, m⟩)).1 hm))
  refine ⟨ts.set x.toNat ⟨R, c', us, m'⟩, hs.change hL ⟨h'.bm.os, h'.bm.tape, h'.bm.output, h'.bm.size⟩ (fun k2 hk2 hn => same k2 hk2 (fun hm => hn (.inr ⟨_, _, hk, hm⟩))) ⟨?_, ?_, ?_, ?_, ?_⟩ (fun b hb => ?_)⟩
  · rw [hval]
    exact owns_same o1 (fun b hb => same b (owns_has o1 hb).2 (fun hm => o5 _ _ b hk hm hb))
  · rw [List.map_set, o2]
  · intro l t ht
    obtain ⟨t0, h0, _, _, _, ⟨_, rfl⟩ | ⟨hl, rfl⟩⟩ := at' l t ht
    · have := h'.res 0 _ rfl
      rw [hlen] at this
      exact this
    · exact (o3 l t0 h0).same fun b hb => same b ((o3 l t0 h0).lt hb).2 (fun hm => o4 _ _ _ _ b hk h0 (Ne.symm hl) hm hb)
  · intro l1 l2 t t' b ht ht' hne hb hb'
    obtain ⟨t0, h0, r1, u1, _, _⟩ := at' l1 t ht
    obtain ⟨t0', h0', r2, u2, _, _⟩ := at' l2 t' ht'
    exact o4 _ _ _ _ b h0 h0' hne ((mt_own r1 u1).2 hb) ((mt_own r2 u2).2 hb')
  · intro l t b ht hb
    obtain ⟨t0, h0, r1, u1, _, _⟩ := at' l t ht
    exact o5 _ _ b h0 ((mt_own r1 u1).2 hb)
  · rcases hb with hb | ⟨l, t, ht, hb⟩
    · exact Or.inl (Or.inl hb)
    · obtain ⟨t0, h0, r1, u1, _, _⟩ := at' l t ht
      exact Or.inl (Or.inr ⟨l, t0, h0, (mt_own r1 u1).2 hb⟩)
end
end Go.Proofs.Ytgkgimglgjfcjaa
