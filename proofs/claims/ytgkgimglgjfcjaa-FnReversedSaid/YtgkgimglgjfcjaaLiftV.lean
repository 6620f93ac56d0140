/-
  More of what printed proofs use.
-/
import Derived.Test.YtgkgimglgjfcjaaLiftU
namespace Go.Proofs.Ytgkgimglgjfcjaa
open Go.RowKit
variable {dd : List Deferred}

theorem bsplit (b : Bool) {p : Prop} (h1 : b = true → p) (h2 : b = false → p) : p := by
  cases b
  · exact h2 rfl
  · exact h1 rfl
theorem at1 {xs : List Value} {i : Nat} {u : Value} (h : xs[i]? = some u) : xs[i * 1]? = some u := by rw [Nat.mul_one]; exact h
theorem Rd.isAt {w : World} {A : Option Addr} {cells : List Value} {j : Nat} {u : Value} (h : Rd w A cells) (hj : cells[j]? = some u) : ∃ b off, A = some ⟨b, off, none⟩ := by
  obtain ⟨b, off, e, _⟩ := h j u hj
  exact ⟨b, off, e⟩
theorem St.addNil {μ : List Nat} {W w : World} {L : List Res} (h : St μ W w L) (e : TypeId) (s : Nat) : St μ W w (L ++ [.row none 0 0 e s []]) := h.add (Below.refl _ _) ⟨by simp, Or.inl ⟨rfl, rfl⟩⟩
theorem Calls.scal {P : Program} {f : FuncId} {args : Array Value} {w : World} {x : Value} (h : Calls P f args w fun e w' => ∃ v, e = .returned v ∧ v = x ∧ St [] w w' []) : Calls P f args w fun e w' => ∃ u, e = .returned u ∧ u = x ∧ Below w.heap.size w w' :=
  h.mono fun _ _ ⟨v, h1, h2, h3⟩ => ⟨v, h1, h2, h3.below⟩

section
variable {P : Program} {W : World} {μ : List Nat} {L : List Res} {N : Nat} {E : Env} {o : Oper} {ops : Array Oper} {Q : Exit → Act → World → Prop} {K : Act → World → Prop} {a : Act} {w : World} {rest : List Oper}

theorem Y_fieldAddrE {s : TypeId} {x : Operand} {f k d : Nat} {A : Option Addr} (ho : o.op = .fieldAddr s x f) (hx : evalE E x = some (.pointer (some (atA A k)))) (hp : FO P s f d) : Y P μ W L N E o (.pointer (some (atA A (k + d)))) := fun a w hf _ => by
  have := hp w (A.getD default).block ((A.getD default).off + k)
  simp only [execOp, ho, hf.eval hx, atA]
  simp [this, Nat.add_assoc]
theorem Y_lenH {x : Operand} {A : Option Addr} {n m c : Nat} {t e : TypeId} (ho : o.op = .call { callee := .builtin .len, args := #[x], argTypes := #[t] }) (hx : evalE E x = some (.slice A n c)) (he : EL P t e) (hn : n = m) : Y P μ W L N E o (.int .i64 (m : Int)) := by
  subst hn; exact Y_len ho hx he
/-- an empty row written out -/
theorem sEmpty {t e : TypeId} {d by' : Nat} {zs : List Value} (hf : FrD dd a N E) (hs : St μ W w L) (hg : o.guard = none) (hd : o.dst = some d) (hN : Nat.blt d N = true) (ho : o.op = .buildSlice t 0 #[]) (he : EL P t e) (hz : TI P e zs by')
    (h : ∀ a w A, St μ W w (L ++ [.row A 0 0 e zs.length []]) → FrD dd a N ((d, .slice A 0 0) :: E) → wpO P ops Q K rest a w) : wpO P ops Q K (o :: rest) a w := by
  have he' : P.underlying t = some (.slice e) := he
  refine stepV (wanted_none hg _) hd (v := .slice (some ⟨w.heap.size, 0, none⟩) 0 0) (w' := w.alloc (.cells #[] e)) ?_ (h _ _ _ (hs.add ((Below.refl _ _).alloc (Nat.le_refl _) _) ⟨by simp, Or.inr ⟨w.heap.size, 0, #[], rfl, Nat.le_refl _, heap_alloc_new w _, Nat.le_refl _, Nat.zero_le _, by simp, by simp⟩⟩) (hf.put hN))
  simp [execOp, ho, Instr.buildSlice, Go.underlying, program, Sem.run, he', hz.size w, Instr.fill, newRow, newObj]
  congr 2
  apply Array.ext <;> simp

theorem run_build {t : TypeId} {fs : Array Field} {zs cells : List Value} {by' : Nat} {places : Array (Nat × Nat)} {parts : List (Nat × Value)} (hz : TI P t zs by') (hu : P.underlying t = some (.struct fs)) (hp : ∀ w, (fs.mapM fun (f : Field) => do pure (f.offset, ← sizeOf f.type)).run P w = .ok places w)
    (hf : Instr.fill (places[·]?) zs.toArray parts = some cells.toArray) (w : World) : (Instr.build t parts.toArray).run P w = .ok (.agg cells.toArray) w := by
  obtain ⟨z, h1, h2⟩ := hz.zero w
  have hp' := hp w
  simp only [Instr.build, Sem.run_bind, h1, Result.andThen_ok, underlying, program, Sem.run, hu, Sem.run_pure, hp', h2, hf]

/-- a guard that was not come to -/
theorem sNoU {d j g : Nat} {b : Bool} {oj : Oper} (hf : FrD dd a N E) (hg : o.guard = some (j, b)) (hj : ops[j]? = some oj) (hdj : oj.dst = some g) (hc : look E g = some undef) (hNg : Nat.blt g N = true) (hd : o.dst = some d) (hN : Nat.blt d N = true) (h : ∀ a, FrD dd a N ((d, undef) :: E) → wpO P ops Q K rest a w) : wpO P ops Q K (o :: rest) a w := by
  have h1 := hf.get _ _ hc
  have h2 : g < a.tmps.size := by rw [hf.size]; simpa using hNg
  rw [Array.getD_eq_getD_getElem?, Array.getElem?_eq_getElem h2] at h1
  simp only [Option.getD_some] at h1
  unfold wpO wpList
  rw [if_neg (by simp [Region.wanted, hg, yielded, hj, hdj, Array.getElem?_eq_getElem h2, h1, undef]), hd]
  exact h _ (hf.put hN)
theorem qNoU {T : Act → Prop} {d j g : Nat} {b : Bool} {oj : Oper} (hf : FrD dd a N E) (hg : o.guard = some (j, b)) (hj : ops[j]? = some oj) (hdj : oj.dst = some g) (hc : look E g = some undef) (hNg : Nat.blt g N = true) (hd : o.dst = some d) (hN : Nat.blt d N = true) (h : ∀ a, FrD dd a N ((d, undef) :: E) → wpQuiet P ops (fun w => St μ W w L) T rest a) : wpQuiet P ops (fun w => St μ W w L) T (o :: rest) a := by
  have h1 := hf.get _ _ hc
  have h2 : g < a.tmps.size := by rw [hf.size]; simpa using hNg
  rw [Array.getD_eq_getD_getElem?, Array.getElem?_eq_getElem h2] at h1
  simp only [Option.getD_some] at h1
  unfold wpQuiet
  rw [if_neg (by simp [Region.wanted, hg, yielded, hj, hdj, Array.getElem?_eq_getElem h2, h1, undef]), hd]
  exact h _ (hf.put hN)

/-! a captured variable: a block that the caller holds -/
def PB (w : World) (b : Nat) (t : TypeId) (cs : List Value) : Prop := w.heap[b]? = some (.cells cs.toArray t (0, 0))
theorem PB.at {b : Nat} {t : TypeId} {cs : List Value} (h : PB W b t cs) (hs : St [] W w L) : PB w b t cs := (hs.below.block b (Array.getElem?_eq_some_iff.1 h).1).trans h
theorem PB.below {B : Nat} {w' : World} {b : Nat} {t : TypeId} {cs : List Value} (h : PB w b t cs) (hb : Below B w w') (hB : w.heap.size ≤ B) : PB w' b t cs := (hb.block b (Nat.lt_of_lt_of_le (Array.getElem?_eq_some_iff.1 h).1 hB)).trans h
theorem St.pb {b i : Nat} {t : TypeId} {cs : List Value} (hs : St μ W w L) (hL : L[i]? = some (.blk b t cs)) : PB w b t cs := (hs.res _ _ hL).2
theorem Y_load_pb {t t' : TypeId} {x : Operand} {b k : Nat} {cs : List Value} {v : Value} (ho : o.op = .load t x) (hx : evalE E x = some (.pointer (some ⟨b, k, none⟩))) (hL : PB W b t' cs) (hv : cs[k]? = some v) (hg : AG P t false) : Y P [] W L N E o v := fun a w hf hs => by
  have h1 : w.heap[b]? = some (.cells cs.toArray t' (0, 0)) := hL.at hs
  have h2 : w.cell? ⟨b, k, none⟩ = some v := by rw [cell_of_row w b k _ _ _ h1]; simpa using hv
  simp [execOp, ho, hf.eval hx, Instr.loadAt, Instr.sureAddr, loadVar, hg w, load, Sem.run, h2]
theorem Y_load_pbS {t t' : TypeId} {x : Operand} {b by' : Nat} {cs zs : List Value} (ho : o.op = .load t x) (hx : evalE E x = some (.pointer (some ⟨b, 0, none⟩))) (hL : PB W b t' cs) (hg : AG P t true) (hz : TI P t zs by') (hl : zs.length = cs.length) : Y P [] W L N E o (.agg cs.toArray) := fun a w hf hs => by
  have h1 : w.heap[b]? = some (.cells cs.toArray t' (0, 0)) := hL.at hs
  have h2 : (loadCells ⟨b, 0, none⟩ zs.length).run P w = .ok cs.toArray w := by
    rw [hl]
    exact run_loadCells_list (P := P) w ⟨b, 0, none⟩ cs (fun j v hj => by rw [add_mk, Nat.zero_add, cell_of_row w b j _ _ _ h1]; simpa using hj)
  simp [execOp, ho, hf.eval hx, Instr.loadAt, Instr.sureAddr, loadVar, hg w, hz.size w, h2]

theorem run_loadBlk {t t' : TypeId} {b by' : Nat} {cs zs : List Value} (h1 : w.heap[b]? = some (.cells cs.toArray t' (0, 0))) (hg : AG P t true) (hz : TI P t zs by') (hl : zs.length = cs.length) : (loadVar t ⟨b, 0, none⟩).run P w = .ok (.agg cs.toArray) w := by
  have h2 : (loadCells ⟨b, 0, none⟩ zs.length).run P w = .ok cs.toArray w := by
    rw [hl]
    exact run_loadCells_list (P := P) w ⟨b, 0, none⟩ cs (fun j v hj => by rw [add_mk, Nat.zero_add, cell_of_row w b j _ _ _ h1]; simpa using hj)
  simp [loadVar, hg w, hz.size w, h2]

theorem ret_cell {fn : Func} {R : Ending → World → Prop} {p t t' : TypeId} {b i by' : Nat} {cs zs : List Value} (hr : fn.results = #[.cell p t]) (hf : Fr a N E) (hp : look E p = some (.pointer (some ⟨b, 0, none⟩))) (hs : St μ W w L) (hL : L[i]? = some (.blk b t' cs)) (hg : AG P t true) (hz : TI P t zs by') (hl : zs.length = cs.length) (h : R (.returned (.agg cs.toArray)) w) : bodyPost P fn R .ret a w := by
  refine bodyPost_ret ?_ hf.defers h
  have h1 := run_loadBlk (P := P) (hs.res _ _ hL).2 hg hz hl
  simp [results, hr, hf.get p _ hp, asAddr, h1, -Array.getD_eq_getD_getElem?]
theorem ret_cell_tmp {fn : Func} {R : Ending → World → Prop} {p t t' u : TypeId} {b i by' : Nat} {x : Value} {cs zs : List Value} (hr : fn.results = #[.cell p t, .tmp u]) (hf : Fr a N E) (hp : look E p = some (.pointer (some ⟨b, 0, none⟩))) (hu : look E u = some x) (hs : St μ W w L) (hL : L[i]? = some (.blk b t' cs)) (hg : AG P t true) (hz : TI P t zs by') (hl : zs.length = cs.length) (h : R (.returned (.tuple #[.agg cs.toArray, x])) w) : bodyPost P fn R .ret a w := by
  refine bodyPost_ret ?_ hf.defers h
  have h1 := run_loadBlk (P := P) (hs.res _ _ hL).2 hg hz hl
  simp [results, hr, hf.get p _ hp, hf.get u _ hu, asAddr, h1, -Array.getD_eq_getD_getElem?]

/-! ### A slice of slices -/
theorem St.matRow {A : Option Addr} {n c i : Nat} {e e2 : TypeId} {vs : List Value} {rows : List (List Int)} {k : Nat} {row : List Int} (hs : St μ W w L) (hL : L[i]? = some (.mat A n c e e2 vs rows)) (hk : rows[k]? = some row) : ∃ R c', vs[k]? = some (.slice R row.length c') := by
  obtain ⟨R, c', h1, _⟩ := (hs.res _ _ hL).2.1.2 k row hk
  exact ⟨R, c', h1⟩
theorem St.rdV {A : Option Addr} {n c i : Nat} {e e2 : TypeId} {vs : List Value} {rows : List (List Int)} (hs : St μ W w L) (hL : L[i]? = some (.mat A n c e e2 vs rows)) : Rd w A vs := owns_rd (hs.res _ _ hL).1
end

end Go.Proofs.Ytgkgimglgjfcjaa
