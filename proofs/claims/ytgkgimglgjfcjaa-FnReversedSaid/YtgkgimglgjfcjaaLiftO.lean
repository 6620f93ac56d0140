/-
  The operations of a printed proof: one lemma a kind.
-/
import Derived.Test.YtgkgimglgjfcjaaLiftM
namespace Go.Proofs.Ytgkgimglgjfcjaa
open Go.RowKit
variable {dd : List Deferred}

/-- in every state that fits, an operation yields a value and leaves the memory as it is -/
def Y (P : Program) (μ : List Nat) (W : World) (L : List Res) (N : Nat) (E : Env) (o : Oper) (v : Value) : Prop :=
  ∀ a w, Fr0 a N E → St μ W w L → (execOp a.eval o).run P w = .ok (.value v) w

/-- a list of operands' values -/
def evalEs (E : Env) : List Operand → Option (List Value)
  | [] => some []
  | x :: r => match evalE E x, evalEs E r with
    | some v, some vs => some (v :: vs)
    | _, _ => none
theorem Fr0.evals {a : Act} {N : Nat} {E : Env} (h : Fr0 a N E) : ∀ {l : List Operand} {vs : List Value}, evalEs E l = some vs → l.map a.eval = vs
  | [], vs, e => by simp only [evalEs, Option.some.injEq] at e; subst e; rfl
  | x :: r, vs, e => by
    unfold evalEs at e
    split at e
    · rename_i v vs' h1 h2
      simp only [Option.some.injEq] at e; subst e
      rw [List.map_cons, h.eval h1, h.evals h2]
    · simp at e

section
variable {P : Program} {W : World} {μ : List Nat} {L : List Res} {N : Nat} {E : Env} {o : Oper}

theorem Y_move {x : Operand} {v : Value} (ho : o.op = .move x) (hx : evalE E x = some v) : Y P μ W L N E o v := fun a w hf _ => by
  simp [execOp, ho, hf.eval hx]
theorem Y_assign {x : Operand} {v : Value} (ho : o.op = .assign x) (hx : evalE E x = some v) : Y P μ W L N E o v := fun a w hf _ => by
  simp [execOp, ho, hf.eval hx]
theorem Y_add {t yt : TypeId} {k : IntKind} {x y : Operand} {m n : Int} (ho : o.op = .binOp .add t x y yt) (hx : evalE E x = some (.int k m)) (hy : evalE E y = some (.int k n)) : Y P μ W L N E o (.int k (k.wrap (m + n))) := fun a w hf _ => by
  simp [execOp, ho, hf.eval hx, hf.eval hy, eqGuard, binOp, Op.intArith]
theorem Y_sub {t yt : TypeId} {k : IntKind} {x y : Operand} {m n : Int} (ho : o.op = .binOp .sub t x y yt) (hx : evalE E x = some (.int k m)) (hy : evalE E y = some (.int k n)) : Y P μ W L N E o (.int k (k.wrap (m - n))) := fun a w hf _ => by
  simp [execOp, ho, hf.eval hx, hf.eval hy, eqGuard, binOp, Op.intArith]
theorem Y_mul {t yt : TypeId} {k : IntKind} {x y : Operand} {m n : Int} (ho : o.op = .binOp .mul t x y yt) (hx : evalE E x = some (.int k m)) (hy : evalE E y = some (.int k n)) : Y P μ W L N E o (.int k (k.wrap (m * n))) := fun a w hf _ => by
  simp [execOp, ho, hf.eval hx, hf.eval hy, eqGuard, binOp, Op.intArith]
theorem Y_quo {t yt : TypeId} {k : IntKind} {x y : Operand} {m n : Int} (ho : o.op = .binOp .quo t x y yt) (hx : evalE E x = some (.int k m)) (hy : evalE E y = some (.int k n)) (hn : n ≠ 0) : Y P μ W L N E o (.int k (k.wrap (m.tdiv n))) := fun a w hf _ => by
  simp [execOp, ho, hf.eval hx, hf.eval hy, eqGuard, binOp, Op.intDiv, hn]
theorem Y_rem {t yt : TypeId} {k : IntKind} {x y : Operand} {m n : Int} (ho : o.op = .binOp .rem t x y yt) (hx : evalE E x = some (.int k m)) (hy : evalE E y = some (.int k n)) (hn : n ≠ 0) : Y P μ W L N E o (.int k (m.tmod n)) := fun a w hf _ => by
  simp [execOp, ho, hf.eval hx, hf.eval hy, eqGuard, binOp, Op.intDiv, hn]
theorem Y_eql {t yt : TypeId} {k : IntKind} {x y : Operand} {m n : Int} (ho : o.op = .binOp .eql t x y yt) (hx : evalE E x = some (.int k m)) (hy : evalE E y = some (.int k n)) : Y P μ W L N E o (.bool (m == n)) := fun a w hf _ => by
  simp [execOp, ho, hf.eval hx, hf.eval hy, eqGuard, binOp, Op.intCmp]
theorem Y_neq {t yt : TypeId} {k : IntKind} {x y : Operand} {m n : Int} (ho : o.op = .binOp .neq t x y yt) (hx : evalE E x = some (.int k m)) (hy : evalE E y = some (.int k n)) : Y P μ W L N E o (.bool (m != n)) := fun a w hf _ => by
  simp [execOp, ho, hf.eval hx, hf.eval hy, eqGuard, binOp, Op.intCmp]
theorem Y_lss {t yt : TypeId} {k : IntKind} {x y : Operand} {m n : Int} (ho : o.op = .binOp .lss t x y yt) (hx : evalE E x = some (.int k m)) (hy : evalE E y = some (.int k n)) : Y P μ W L N E o (.bool (decide (m < n))) := fun a w hf _ => by
  simp [execOp, ho, hf.eval hx, hf.eval hy, eqGuard, binOp, Op.intCmp]
theorem Y_leq {t yt : TypeId} {k : IntKind} {x y : Operand} {m n : Int} (ho : o.op = .binOp .leq t x y yt) (hx : evalE E x = some (.int k m)) (hy : evalE E y = some (.int k n)) : Y P μ W L N E o (.bool (decide (m ≤ n))) := fun a w hf _ => by
  simp [execOp, ho, hf.eval hx, hf.eval hy, eqGuard, binOp, Op.intCmp]
theorem Y_gtr {t yt : TypeId} {k : IntKind} {x y : Operand} {m n : Int} (ho : o.op = .binOp .gtr t x y yt) (hx : evalE E x = some (.int k m)) (hy : evalE E y = some (.int k n)) : Y P μ W L N E o (.bool (decide (n < m))) := fun a w hf _ => by
  simp [execOp, ho, hf.eval hx, hf.eval hy, eqGuard, binOp, Op.intCmp]
theorem Y_geq {t yt : TypeId} {k : IntKind} {x y : Operand} {m n : Int} (ho : o.op = .binOp .geq t x y yt) (hx : evalE E x = some (.int k m)) (hy : evalE E y = some (.int k n)) : Y P μ W L N E o (.bool (decide (n ≤ m))) := fun a w hf _ => by
  simp [execOp, ho, hf.eval hx, hf.eval hy, eqGuard, binOp, Op.intCmp]
theorem Y_not {t : TypeId} {x : Operand} {b : Bool} (ho : o.op = .unOp .not t x) (hx : evalE E x = some (.bool b)) : Y P μ W L N E o (.bool (!b)) := fun a w hf _ => by
  simp [execOp, ho, hf.eval hx, Op.unary]
theorem Y_neg {t : TypeId} {k : IntKind} {x : Operand} {m : Int} (ho : o.op = .unOp .neg t x) (hx : evalE E x = some (.int k m)) : Y P μ W L N E o (.int k (k.wrap (0 - m))) := fun a w hf _ => by
  simp [execOp, ho, hf.eval hx, Op.unary, Op.intArith]
theorem Y_len {x : Operand} {A : Option Addr} {n c : Nat} {t e : TypeId} (ho : o.op = .call { callee := .builtin .len, args := #[x], argTypes := #[t] }) (hx : evalE E x = some (.slice A n c)) (he : EL P t e) : Y P μ W L N E o (.int .i64 (n : Int)) := fun a w hf _ => by
  have he' : P.underlying t = some (.slice e) := he
  simp [execOp, ho, resolve, invoke, builtin, hf.eval hx, Builtin.len_, goInt, Go.underlying, program, Sem.run, he']
theorem Y_extract {x : Operand} {vs : Array Value} {i : Nat} {v : Value} (ho : o.op = .extract x i) (hx : evalE E x = some (.tuple vs)) (hv : vs[i]? = some v) : Y P μ W L N E o v := fun a w hf _ => by
  simp [execOp, ho, hf.eval hx, Instr.extract, hv]
theorem Y_makeFunc {fn : Fn} {fs cs : List Operand} {us vs : List Value} (ho : o.op = .makeFunc fn fs.toArray cs.toArray) (hf0 : evalEs E fs = some us) (hc : evalEs E cs = some vs) : Y P μ W L N E o (.func fn us.toArray vs.toArray) := fun a w hf _ => by
  simp [execOp, ho, Instr.makeFunc, hf.evals hf0, hf.evals hc]
theorem Y_nilCheck {x : Operand} {p : Addr} (ho : o.op = .nilCheck x) (hx : evalE E x = some (.pointer (some p))) : Y P μ W L N E o (.pointer (some p)) := fun a w hf _ => by
  simp [execOp, ho, hf.eval hx]
theorem Y_fieldAddr {s : TypeId} {x : Operand} {f b off k : Nat} (ho : o.op = .fieldAddr s x f) (hx : evalE E x = some (.pointer (some ⟨b, off, none⟩))) (hp : FO P s f k) : Y P μ W L N E o (.pointer (some ⟨b, off + k, none⟩)) := fun a w hf _ => by
  simp [execOp, ho, hf.eval hx, hp w b off]
theorem Y_build {t : TypeId} {parts : List (Nat × Operand)} {vs : List Value} {u : Value} (ho : o.op = .build t parts.toArray) (hx : evalEs E (parts.map (·.2)) = some vs)
    (hv : ∀ w, (Instr.build t ((parts.map (·.1)).zip vs).toArray).run P w = .ok u w) : Y P μ W L N E o u := fun a w hf _ => by
  have h1 : parts.map (fun p => (p.1, a.eval p.2)) = (parts.map (·.1)).zip vs := by
    rw [← hf.evals hx, List.map_map, List.zip_map']
    rfl
  simp only [execOp, ho, List.map_toArray]
  have h2 : (List.map (fun x => match x with | (i, x) => (i, a.eval x)) parts) = (parts.map (·.1)).zip vs := h1
  rw [h2]
  simp [hv]

/-- an element's place; its slice is not empty, so it lies somewhere -/
theorem Y_index {t e : TypeId} {x i : Operand} {A : Option Addr} {n c by' : Nat} {k : IntKind} {j : Int} {zs : List Value} (ho : o.op = .indexAddr t x i) (hx : evalE E x = some (.slice A n c)) (hi : evalE E i = some (.int k j))
    (he : EL P t e) (hz : TI P e zs by') (hA : ∃ b off, A = some ⟨b, off, none⟩) (h0 : 0 ≤ j) (h1 : j < (n : Int)) : Y P μ W L N E o (.pointer (some (atA A (j.toNat * zs.length)))) := fun a w hf _ => by
  obtain ⟨b, off, rfl⟩ := hA
  have he' : P.underlying t = some (.slice e) := he
  have hs := hz.size w
  simp only [execOp, ho, hf.eval hx, hf.eval hi, Instr.indexAt, asIntOf, Go.underlying, program, Sem.run_bind, Sem.run_pure, Sem.run, he', Result.andThen_ok]
  simp [h0, h1, hs, add_mk, atA_some]

theorem Y_load_blk {t t' : TypeId} {x : Operand} {b k i : Nat} {cs : List Value} {v : Value} (ho : o.op = .load t x) (hx : evalE E x = some (.pointer (some ⟨b, k, none⟩))) (hL : L[i]? = some (.blk b t' cs)) (hv : cs[k]? = some v) (hg : AG P t false) : Y P μ W L N E o v := fun a w hf hs => by
  have h1 := (hs.res _ _ hL).2
  have h2 : w.cell? ⟨b, k, none⟩ = some v := by rw [cell_of_row w b k _ _ _ h1]; simpa using hv
  simp [execOp, ho, hf.eval hx, Instr.loadAt, Instr.sureAddr, loadVar, hg w, load, Sem.run, h2]

theorem Y_load_blkS {t t' : TypeId} {x : Operand} {b i by' : Nat} {cs zs : List Value} (ho : o.op = .load t x) (hx : evalE E x = some (.pointer (some ⟨b, 0, none⟩))) (hL : L[i]? = some (.blk b t' cs)) (hg : AG P t true) (hz : TI P t zs by') (hl : zs.length = cs.length) : Y P μ W L N E o (.agg cs.toArray) := fun a w hf hs => by
  have h1 := (hs.res _ _ hL).2
  have h2 : (loadCells ⟨b, 0, none⟩ zs.length).run P w = .ok cs.toArray w := by
    rw [hl]
    exact run_loadCells_list (P := P) w ⟨b, 0, none⟩ cs (fun j v hj => by rw [add_mk, Nat.zero_add, cell_of_row w b j _ _ _ h1]; simpa using hj)
  simp [execOp, ho, hf.eval hx, Instr.loadAt, Instr.sureAddr, loadVar, hg w, hz.size w, h2]

theorem Y_load_rd {t : TypeId} {x : Operand} {A : Option Addr} {k : Nat} {cells : List Value} {v : Value} (ho : o.op = .load t x) (hx : evalE E x = some (.pointer (some (atA A k)))) (hr : ∀ w, St μ W w L → Rd w A cells) (hv : cells[k]? = some v) (hg : AG P t false) : Y P μ W L N E o v := fun a w hf hs => by
  obtain ⟨b, off, rfl, _, hc⟩ := hr w hs k v hv
  rw [atA_some] at hx
  simp [execOp, ho, hf.eval hx, Instr.loadAt, Instr.sureAddr, loadVar, hg w, load, Sem.run, hc]

theorem Y_load_rdS {t : TypeId} {x : Operand} {A : Option Addr} {k by' : Nat} {cells us zs : List Value} (ho : o.op = .load t x) (hx : evalE E x = some (.pointer (some (atA A k)))) (hr : ∀ w, St μ W w L → Rd w A cells)
    (hu : ∀ j u, us[j]? = some u → cells[k + j]? = some u) (h0 : 0 < us.length) (hg : AG P t true) (hz : TI P t zs by') (hl : zs.length = us.length) : Y P μ W L N E o (.agg us.toArray) := fun a w hf hs => by
  have hR := hr w hs
  obtain ⟨b, off, rfl, _, _⟩ := hR (k + 0) us[0] (hu 0 us[0] (by simp [h0]))
  rw [atA_some] at hx
  have h2 : (loadCells ⟨b, off + k, none⟩ zs.length).run P w = .ok us.toArray w := by
    rw [hl]
    refine run_loadCells_list (P := P) w ⟨b, off + k, none⟩ us (fun j v hj => ?_)
    obtain ⟨b', off', e, _, hc⟩ := hR (k + j) v (hu j v hj)
    simp only [Option.some.injEq, Addr.mk.injEq, and_true] at e
    obtain ⟨rfl, rfl⟩ := e
    rw [add_mk, Nat.add_assoc]; exact hc
  simp [execOp, ho, hf.eval hx, Instr.loadAt, Instr.sureAddr, loadVar, hg w, hz.size w, h2]

end

/-- a slice that has an element lies somewhere -/
theorem Rd.is {w : World} {A : Option Addr} {cells : List Value} (h : Rd w A cells) (hc : 0 < cells.length) : ∃ b off, A = some ⟨b, off, none⟩ := by
  obtain ⟨b, off, e, _⟩ := h 0 cells[0] (by simp [hc])
  exact ⟨b, off, e⟩

/-! ### The text's order -/
section seq
variable {P : Program} {ops : Array Oper} {Q : Exit → Act → World → Prop} {K : Act → World → Prop} {a : Act} {w W : World} {μ : List Nat} {L : List Res} {N : Nat} {E : Env} {o : Oper} {rest : List Oper}

def wpO (P : Program) (ops : Array Oper) (Q : Exit → Act → World → Prop) (K : Act → World → Prop) (l : List Oper) (a : Act) (w : World) : Prop := wpList P ops (Exit.then K Q) l a w

theorem wpL_region {id : Nat} {l : List Oper} {r : List Code} (h : wpO P l.toArray Q (wpL P r Q) l a w) : wpL P (.region id l.toArray false :: r) Q a w := wp_region_lit h
theorem wpO_nil (h : K a w) : wpO P ops Q K [] a w := h

theorem wanted_none (hg : o.guard = none) (y : Nat → Option Bool) : Region.wanted o y = true := by simp [Region.wanted, hg]
theorem wanted_some {j : Nat} {b c : Bool} {oj : Oper} {g : Nat} (hg : o.guard = some (j, b)) (hf : FrD dd a N E) (hj : ops[j]? = some oj) (hd : oj.dst = some g) (hc : look E g = some (.bool c)) (hN : Nat.blt g N = true) : Region.wanted o (yielded ops a.tmps) = (c == b) := by
  have h1 := hf.get _ _ hc
  have h2 : g < a.tmps.size := by rw [hf.size]; simpa using hN
  rw [Array.getD_eq_getD_getElem?, Array.getElem?_eq_getElem h2] at h1
  simp only [Option.getD_some] at h1
  simp [Region.wanted, hg, yielded, hj, hd, Array.getElem?_eq_getElem h2, h1]

theorem stepV {v : Value} {w' : World} {d : Nat} (hw : Region.wanted o (yielded ops a.tmps) = true) (hd : o.dst = some d) (hr : (execOp a.eval o).run P w = .ok (.value v) w') (h : wpO P ops Q K rest (a.put (some d) v) w') : wpO P ops Q K (o :: rest) a w := by
  unfold wpO wpList
  rw [if_pos hw]
  refine .inl ?_
  simp only [Oper.wp, hr, Oper.upon, hd]
  exact h
theorem stepSkip {w' : World} (hw : Region.wanted o (yielded ops a.tmps) = true) (hd : o.dst = none) (hr : (execOp a.eval o).run P w = .ok .skip w') (h : wpO P ops Q K rest a w') : wpO P ops Q K (o :: rest) a w := by
  unfold wpO wpList
  rw [if_pos hw]
  refine .inl ?_
  simp only [Oper.wp, hr, Oper.upon, hd, Act.put]
  exact h

theorem sY {v : Value} {d : Nat} (hf : FrD dd a N E) (hs : St μ W w L) (hg : o.guard = none) (hd : o.dst = some d) (hN : Nat.blt d N = true) (hy : Y P μ W L N E o v) (h : ∀ a, FrD dd a N ((d, v) :: E) → wpO P ops Q K rest a w) : wpO P ops Q K (o :: rest) a w :=
  stepV (wanted_none hg _) hd (hy a w hf.toFr0 hs) (h _ (hf.put hN))
/-- a guarded operation whose guard says yes, or no -/
theorem sYg {v : Value} {d j g : Nat} {b : Bool} {oj : Oper} (hf : FrD dd a N E) (hs : St μ W w L) (hg : o.guard = some (j, b)) (hj : ops[j]? = some oj) (hdj : oj.dst = some g) (hc : look E g = some (.bool b)) (hNg : Nat.blt g N = true) (hd : o.dst = some d) (hN : Nat.blt d N = true) (hy : Y P μ W L N E o v) (h : ∀ a, FrD dd a N ((d, v) :: E) → wpO P ops Q K rest a w) : wpO P ops Q K (o :: rest) a w :=
  stepV (by rw [wanted_some hg hf hj hdj hc hNg]; simp) hd (hy a w hf.toFr0 hs) (h _ (hf.put hN))
theorem sNo {d j g : Nat} {b : Bool} {oj : Oper} (hf : FrD dd a N E) (hg : o.guard = some (j, b)) (hj : ops[j]? = some oj) (hdj : oj.dst = some g) (hc : look E g = some (.bool (!b))) (hNg : Nat.blt g N = true) (hd : o.dst = some d) (hN : Nat.blt d N = true) (h : ∀ a, FrD dd a N ((d, undef) :: E) → wpO P ops Q K rest a w) : wpO P ops Q K (o :: rest) a w := by
  unfold wpO wpList
  rw [if_neg (by rw [wanted_some hg hf hj hdj hc hNg]; cases b <;> simp), hd]
  exact h _ (hf.put hN)

/-- a function that has a body -/
def En (P : Program) (f : FuncId) : Prop := ∀ (args : Array Value) (w : World), (callFunc f args).run P w = .ok (.enter f args) w
theorem En.of {f : FuncId} {fn : Func} {c : Code} (hf : P.funcs[f]? = some fn) (hname : (fn.name == "runtime.NumGoroutine") = false) (hb : fn.body = some c) : En P f := by
  intro args w
  have h1 : fn.name ≠ "runtime.NumGoroutine" := by simpa using hname
  simp [callFunc, hf, h1, hb, mark, Sem.run, program]

theorem run_call {f : FuncId} {x : Operand} {xs : List Operand} {ts : Array TypeId} {vs cap : List Value} (ho : o.op = .call { callee := .value x, args := xs.toArray, argTypes := ts }) (hf : FrD dd a N E) (hx : evalE E x = some (.func (.func f) #[] cap.toArray)) (hv : evalEs E xs = some vs) (he : En P f) :
    (execOp a.eval o).run P w = .ok (.enter f (vs ++ cap).toArray) w := by
  have he' := he (vs ++ cap).toArray w
  simp [execOp, ho, resolve, hf.eval hx, Deferred.ofValue, invoke, hf.evals hv, he']

theorem stepCall {f : FuncId} {args : Array Value} {d : Nat} (T : Value → World → Prop) (hw : Region.wanted o (yielded ops a.tmps) = true) (hd : o.dst = some d) (hr : (execOp a.eval o).run P w = .ok (.enter f args) w)
    (hc : Calls P f args w fun e w' => ∃ v, e = .returned v ∧ T v w') (h : ∀ v w', T v w' → wpO P ops Q K rest (a.put (some d) v) w') : wpO P ops Q K (o :: rest) a w := by
  unfold wpO wpList
  rw [if_pos hw]
  refine .inl ?_
  simp only [Oper.wp, hr, Oper.upon, hd]
  refine hc.mono fun e w' he => ?_
  obtain ⟨v, rfl, ht⟩ := he
  exact h v w' ht

/-- a call -/
theorem sCall {f : FuncId} {x : Operand} {xs : List Operand} {ts : Array TypeId} {vs cap : List Value} {d : Nat} {T : Value → World → Prop} (hf : FrD dd a N E) (hg : o.guard = none) (hd : o.dst = some d) (hN : Nat.blt d N = true)
    (ho : o.op = .call { callee := .value x, args := xs.toArray, argTypes := ts }) (hx : evalE E x = some (.func (.func f) #[] cap.toArray)) (hv : evalEs E xs = some vs) (he : En P f)
    (hc : Calls P f (vs ++ cap).toArray w fun e w' => ∃ v, e = .returned v ∧ T v w') (h : ∀ v w', T v w' → ∀ a, FrD dd a N ((d, v) :: E) → wpO P ops Q K rest a w') : wpO P ops Q K (o :: rest) a w :=
  stepCall T (wanted_none hg _) hd (run_call ho hf hx hv he) hc fun v w' ht => h v w' ht _ (hf.put hN)
theorem sCallg {f : FuncId} {x : Operand} {xs : List Operand} {ts : Array TypeId} {vs cap : List Value} {d j g : Nat} {b : Bool} {oj : Oper} {T : Value → World → Prop} (hf : FrD dd a N E) (hg : o.guard = some (j, b)) (hj : ops[j]? = some oj) (hdj : oj.dst = some g) (hcg : look E g = some (.bool b)) (hNg : Nat.blt g N = true) (hd : o.dst = some d) (hN : Nat.blt d N = true)
    (ho : o.op = .call { callee := .value x, args := xs.toArray, argTypes := ts }) (hx : evalE E x = some (.func (.func f) #[] cap.toArray)) (hv : evalEs E xs = some vs) (he : En P f)
    (hc : Calls P f (vs ++ cap).toArray w fun e w' => ∃ v, e = .returned v ∧ T v w') (h : ∀ v w', T v w' → ∀ a, FrD dd a N ((d, v) :: E) → wpO P ops Q K rest a w') : wpO P ops Q K (o :: rest) a w :=
  stepCall T (by rw [wanted_some hg hf hj hdj hcg hNg]; simp) hd (run_call ho hf hx hv he) hc fun v w' ht => h v w' ht _ (hf.put hN)

/-- a new variable -/
theorem sAlloc {t : TypeId} {d by' : Nat} {zs : List Value} (hf : FrD dd a N E) (hs : St μ W w L) (hg : o.guard = none) (hd : o.dst = some d) (hN : Nat.blt d N = true) (ho : o.op = .alloc t) (hz : TI P t zs by')
    (h : ∀ a w b, St μ W w (L ++ [.blk b t zs]) → FrD dd a N ((d, .pointer (some ⟨b, 0, none⟩)) :: E) → wpO P ops Q K rest a w) : wpO P ops Q K (o :: rest) a w := by
  obtain ⟨z, h1, h2⟩ := hz.zero w
  refine stepV (wanted_none hg _) hd (v := .pointer (some ⟨w.heap.size, 0, none⟩)) (w' := w.alloc (.cells zs.toArray t)) ?_ (h _ _ _ ?_ (hf.put hN))
  · simp [execOp, ho, Instr.alloc, h1, newVar, newRow, newObj, Sem.run, h2]
  · exact hs.add ((Below.refl _ _).alloc (Nat.le_refl _) _) ⟨Nat.le_refl _, heap_alloc_new w _⟩
/-- a new variable with a value -/
theorem sBox {t : TypeId} {x : Operand} {v : Value} {d : Nat} {cs : List Value} (hf : FrD dd a N E) (hs : St μ W w L) (hg : o.guard = none) (hd : o.dst = some d) (hN : Nat.blt d N = true) (ho : o.op = .box t x) (hx : evalE E x = some v) (hv : v.cells = cs.toArray)
    (h : ∀ a w b, St μ W w (L ++ [.blk b t cs]) → FrD dd a N ((d, .pointer (some ⟨b, 0, none⟩)) :: E) → wpO P ops Q K rest a w) : wpO P ops Q K (o :: rest) a w := by
  refine stepV (wanted_none hg _) hd (v := .pointer (some ⟨w.heap.size, 0, none⟩)) (w' := w.alloc (.cells cs.toArray t)) ?_ (h _ _ _ ?_ (hf.put hN))
  · simp [execOp, ho, Instr.box, newVar, newRow, newObj, Sem.run, hf.eval hx, hv]
  · exact hs.add ((Below.refl _ _).alloc (Nat.le_refl _) _) ⟨Nat.le_refl _, heap_alloc_new w _⟩

theorem run_store {t : TypeId} {p : Addr} {v : Value} {zs : List Value} {by' : Nat} (hz : TI P t zs by') (hl : v.cells.size = zs.length) (w : World) : (Instr.storeAt t (.pointer (some p)) v).run P w = (storeCells p v.cells.toList).run P w := by
  simp [Instr.storeAt, Instr.sureAddr, storeVar, hz.size w, hl]

theorem run_storeBlk {t t' : TypeId} {b k by' : Nat} {v : Value} {zs us cs : List Value} (hz : TI P t zs by') (hv : v.cells = us.toArray) (hl : zs.length = us.length) (h1 : ∀ u ∈ us, u.oneCell' = true) (hh : w.heap[b]? = some (.cells cs.toArray t' (0, 0))) (hk : k + us.length ≤ cs.length) :
    (Instr.storeAt t (.pointer (some ⟨b, k, none⟩)) v).run P w = .ok () (w.setRow b (cs.take k ++ us ++ cs.drop (k + us.length)).toArray) := by
  rw [run_store hz (by rw [hv]; simpa using hl.symm), hv]
  have := run_storeCells_at P b k t' us 0 cs.toArray w hh (by simpa using hk) h1
  simpa using this

theorem take_splice {α : Type} (cur us : List α) (k M : Nat) (h : k + us.length ≤ M) (hM : M ≤ cur.length) : (cur.take k ++ us ++ cur.drop (k + us.length)).take M = (cur.take M).take k ++ us ++ (cur.take M).drop (k + us.length) := by
  have e1 : (cur.take k ++ us).length = k + us.length := by simp; omega
  rw [List.take_append, e1, List.take_of_length_le (by rw [e1]; exact h), List.take_take, Nat.min_eq_left (by omega), List.drop_take]

/-- a store into a variable -/
theorem sStore {t t' : TypeId} {x y : Operand} {b k i by' : Nat} {v : Value} {zs us cs cs' : List Value} (hf : FrD dd a N E) (hs : St μ W w L) (hg : o.guard = none) (hd : o.dst = none) (ho : o.op = .store t x y) (hx : evalE E x = some (.pointer (some ⟨b, k, none⟩))) (hy : evalE E y = some v)
    (hL : L[i]? = some (.blk b t' cs)) (hz : TI P t zs by') (hv : v.cells = us.toArray) (hl : zs.length = us.length) (h1 : us.all Value.oneCell' = true) (hk : k + us.length ≤ cs.length) (hc : cs.take k ++ us ++ cs.drop (k + us.length) = cs')
    (h : ∀ w, St μ W w (L.set i (.blk b t' cs')) → wpO P ops Q K rest a w) : wpO P ops Q K (o :: rest) a w := by
  have hr := hs.res _ _ hL
  refine stepSkip (wanted_none hg _) hd (w' := w.setRow b (cs.take k ++ us ++ cs.drop (k + us.length)).toArray) ?_ (h _ ?_)
  · simp [execOp, ho, hf.eval hx, hf.eval hy, run_storeBlk (P := P) (w := w) hz hv hl (fun u hu => List.all_eq_true.1 h1 u hu) hr.2 hk]
  · subst hc
    exact hs.change hL (EW.setRow _ _ _) (fun k _ hk => setRow_other _ _ _ _ (fun e => hk e)) ⟨hr.1, setRow_heap _ _ _ _ _ _ hr.2⟩ (fun _ h => Or.inl h)

/-- a store into an element of a row -/
theorem sStoreRow {t e : TypeId} {x y : Operand} {A : Option Addr} {n c k i s by' : Nat} {v : Value} {zs us xs xs' : List Value} (hf : FrD dd a N E) (hs : St μ W w L) (hg : o.guard = none) (hd : o.dst = none) (ho : o.op = .store t x y) (hx : evalE E x = some (.pointer (some (atA A k)))) (hy : evalE E y = some v)
    (hL : L[i]? = some (.row A n c e s xs)) (hz : TI P t zs by') (hv : v.cells = us.toArray) (hl : zs.length = us.length) (h1 : us.all Value.oneCell' = true) (h0 : 0 < us.length) (hk : k + us.length ≤ xs.length) (hc : xs.take k ++ us ++ xs.drop (k + us.length) = xs')
    (h : ∀ w, St μ W w (L.set i (.row A n c e s xs')) → wpO P ops Q K rest a w) : wpO P ops Q K (o :: rest) a w := by
  have hr := hs.res _ _ hL
  rcases hr.2 with ⟨e1, e2⟩ | ⟨g, cap, cur, e1, hlo, hg', hn, hm, hsz, ht⟩
  · have : xs.length = 0 := by rw [hr.1, e2, Nat.zero_mul]
    omega
  · simp only [Value.slice.injEq] at e1
    obtain ⟨rfl, _, rfl⟩ := e1
    rw [atA_some, Nat.zero_add] at hx
    have hxl : xs.length ≤ cur.size := by rw [← ht, List.length_take, Array.length_toList]; exact Nat.min_le_right _ _
    have hkc : k + us.length ≤ cur.toList.length := by simpa using Nat.le_trans hk hxl
    refine stepSkip (wanted_none hg _) hd (w' := w.setRow g (cur.toList.take k ++ us ++ cur.toList.drop (k + us.length)).toArray) ?_ (h _ ?_)
    · simp [execOp, ho, hf.eval hx, hf.eval hy, run_storeBlk (P := P) (w := w) (cs := cur.toList) hz hv hl (fun u hu => List.all_eq_true.1 h1 u hu) (by simpa using hg') hkc]
    · subst hc
      refine hs.change hL (EW.setRow _ _ _) (fun k _ hk => setRow_other _ _ _ _ (fun e => hk (by rw [e]; rfl))) ⟨?_, Or.inr ⟨g, c, _, rfl, hlo, setRow_heap _ _ _ _ _ _ hg', hn, hm, ?_, ?_⟩⟩ (fun _ h => Or.inl h)
      · have := hr.1; simp; omega
      · simp; omega
      · have hlen := hr.1
        have e3 : xs = cur.toList.take (n * s) := ht.symm
        have hks : k + us.length ≤ n * s := by omega
        have hM : n * s ≤ cur.toList.length := by rw [Array.length_toList, hsz]; exact Nat.mul_le_mul_right _ hn
        rw [take_splice _ _ _ _ hks hM, ht]

/-- a row made with n elements -/
theorem sMake {t e : TypeId} {x y : Operand} {kx ky : IntKind} {n d by' : Nat} {zs cells : List Value} (hf : FrD dd a N E) (hs : St μ W w L) (hg : o.guard = none) (hd : o.dst = some d) (hN : Nat.blt d N = true) (ho : o.op = .makeSlice t x y) (hx : evalE E x = some (.int kx (n : Int))) (hy : evalE E y = some (.int ky (n : Int)))
    (he : EL P t e) (hz : TI P e zs by') (hb : by' * n ≤ 281474976710656) (h63 : n ≤ maxLen) (hc : (madeCells zs.toArray (n * zs.length)).toList = cells)
    (h : ∀ a w A, St μ W w (L ++ [.row A n n e zs.length cells]) → FrD dd a N ((d, .slice A n n) :: E) → wpO P ops Q K rest a w) : wpO P ops Q K (o :: rest) a w := by
  obtain ⟨i, z, h1, h2, h3, h4, h5⟩ := hz
  have hr := run_make (P := P) w t e i z he h1 h2 kx ky (n : Int) (n : Int) (by omega) (by omega) (by rw [h5]; have hb' : ((by' * n : Nat) : Int) ≤ 281474976710656 := (by omega); rwa [Int.natCast_mul] at hb') (by unfold maxLen at h63; omega)
  simp only [Int.toNat_natCast, h3, h4] at hr
  refine stepV (wanted_none hg _) hd ?_ (h _ _ _ (hs.add ((Below.refl _ _).alloc (Nat.le_refl _) (.cells (madeCells zs.toArray (n * zs.length)) e)) ⟨?_, Or.inr ⟨w.heap.size, n, _, rfl, Nat.le_refl _, heap_alloc_new w _, Nat.le_refl _, h63, ?_, ?_⟩⟩) (hf.put hN))
  · simp [execOp, ho, hf.eval hx, hf.eval hy, hr]
  · rw [← hc, Array.length_toList, size_madeCells]
  · rw [size_madeCells]
  · rw [hc, List.take_of_length_le]
    rw [← hc, Array.length_toList, size_madeCells]; exact Nat.le_refl _

/-- a row written out -/
theorem sBuildSlice {t e : TypeId} {n d by' : Nat} {parts : List (Nat × Operand)} {vs zs cells : List Value} (hf : FrD dd a N E) (hs : St μ W w L) (hg : o.guard = none) (hd : o.dst = some d) (hN : Nat.blt d N = true) (ho : o.op = .buildSlice t n parts.toArray) (hx : evalEs E (parts.map (·.2)) = some vs)
    (he : EL P t e) (hz : TI P e zs by') (hm : Nat.ble n 4096 = true) (hm2 : Nat.ble (n * zs.length) 16777216 = true) (hl : cells.length = n * zs.length)
    (hfill' : Instr.fill (fun i => some (i * zs.length, zs.length)) ((List.range (n * zs.length)).map ((if n * zs.length = 0 then (#[] : Array Value) else zs.toArray)[· % (if n * zs.length = 0 then (#[] : Array Value) else zs.toArray).size]!)).toArray ((parts.map (·.1)).zip vs) = some cells.toArray)
    (h : ∀ a w A, St μ W w (L ++ [.row A n n e zs.length cells]) → (0 < n → ∃ b, A = some ⟨b, 0, none⟩) → FrD dd a N ((d, .slice A n n) :: E) → wpO P ops Q K rest a w) : wpO P ops Q K (o :: rest) a w := by
  have hrange : ∀ (f : Nat → Value) (m : Nat), (Array.range m).map f = ((List.range m).map f).toArray := fun f m => by apply Array.ext'; simp
  have hfill : Instr.fill (fun i => some (i * zs.length, zs.length)) ((Array.range (n * zs.length)).map ((if n * zs.length = 0 then (#[] : Array Value) else zs.toArray)[· % (if n * zs.length = 0 then (#[] : Array Value) else zs.toArray).size]!)) ((parts.map (·.1)).zip vs) = some cells.toArray := by rw [hrange]; exact hfill'
  have hfn : (parts.map (fun p => (p.1, a.eval p.2))) = (parts.map (·.1)).zip vs := by
    rw [← hf.evals hx, List.map_map, List.zip_map']
    rfl
  have hfn' : (List.map (fun x => match x with | (i, x) => (i, a.eval x)) parts) = (parts.map (·.1)).zip vs := hfn
  have he' : P.underlying t = some (.slice e) := he
  have hn : n ≤ maxLen := by have := Nat.le_of_ble_eq_true hm; unfold maxLen; omega
  have hm2' := Nat.le_of_ble_eq_true hm2
  obtain ⟨z, hz1, hz2⟩ := hz.zero w
  refine stepV (wanted_none hg _) hd (v := .slice (some ⟨w.heap.size, 0, none⟩) n n) (w' := w.alloc (.cells cells.toArray e)) ?_ (h _ _ _ (hs.add ((Below.refl _ _).alloc (Nat.le_refl _) _) ⟨hl, Or.inr ⟨w.heap.size, n, cells.toArray, rfl, Nat.le_refl _, heap_alloc_new w _, Nat.le_refl _, hn, by simpa using hl, by rw [← hl]; simp⟩⟩) (fun _ => ⟨_, rfl⟩) (hf.put hN))
  simp only [execOp, ho, List.map_toArray, hfn']
  by_cases h0 : n * zs.length = 0
  · rw [if_pos h0] at hfill
    simp only [Instr.buildSlice, Go.underlying, program, Sem.run_bind, Sem.run_pure, Sem.run, he', Result.andThen_ok, hz.size w]
    simp [h0] at hfill ⊢
    simp [hfill, newRow, newObj, Sem.run]
  · rw [if_neg h0] at hfill
    simp only [Instr.buildSlice, Go.underlying, program, Sem.run_bind, Sem.run_pure, Sem.run, he', Result.andThen_ok, hz.size w]
    simp [show ¬ (16777216 < n * zs.length) by omega, h0, hz1, hz2] at hfill ⊢
    simp [hfill, newRow, newObj, Sem.run]

/-- an append to a row of one's own -/
theorem sAppend {t e : TypeId} {x y : Operand} {A A' : Option Addr} {n c m c' i s d by' : Nat} {zs xs news : List Value} (hf : FrD dd a N E) (hs : St μ W w L) (hg : o.guard = none) (hd : o.dst = some d) (hN : Nat.blt d N = true)
    (ho : o.op = .call { callee := .builtin .append, args := #[x, y], argTypes := #[t, t] }) (hx : evalE E x = some (.slice A n c)) (hy : evalE E y = some (.slice A' m c'))
    (hL : L[i]? = some (.row A n c e s xs)) (he : EL P t e) (hz : TI P e zs by') (hzs : zs.length = s) (hs0 : 0 < s) (hA : ∃ p, A' = some p) (hr : Rd w A' news) (hA2 : ∃ b off, A' = some ⟨b, off, none⟩) (hl : news.length = m * s) (h1 : ∀ u ∈ news, u.oneCell' = true)
    (h63 : n + m ≤ maxLen) (hb : (n + m) * by' ≤ 140737488355328)
    (h : ∀ a w A1 c1, St μ W w (L.set i (.row A1 (n + m) c1 e s (xs ++ news))) → FrD dd a N ((d, .slice A1 (n + m) c1) :: E) → wpO P ops Q K rest a w) : wpO P ops Q K (o :: rest) a w := by
  have hw := hs.res _ _ hL
  obtain ⟨ii, z, h2, h3, h4, h5, h6⟩ := hz
  obtain ⟨b, off, rfl⟩ := hA2
  obtain ⟨v', w', hr', hown, hgrow, _, hat⟩ := run_append_own_at (P := P) w 0 t o.type e ii z s by' he h2 h3 (h5.trans hzs) h6 (by rw [h4]; simpa using hzs) hs0 (.slice A n c) n xs hw ⟨b, off, none⟩ m c' news hl
    (fun j u hj => by
      obtain ⟨b', off', e', _, hc⟩ := hr j u hj
      simp only [Option.some.injEq, Addr.mk.injEq, and_true] at e'
      obtain ⟨rfl, rfl⟩ := e'
      rw [add_mk]; exact hc) h1 h63 hb (Nat.zero_le _)
  have hform : ∃ A1 c1, v' = .slice A1 (n + m) c1 := by
    rcases hown.2 with ⟨e1, e2⟩ | ⟨g, cap, cur, e1, _⟩
    · rw [e2]; exact ⟨_, _, e1⟩
    · exact ⟨_, _, e1⟩
  obtain ⟨A1, c1, rfl⟩ := hform
  refine stepV (wanted_none hg _) hd (v := .slice A1 (n + m) c1) (w' := w') ?_ (h _ _ A1 c1 (hs.change hL (EW.grown hgrow) (fun k hk hne => hgrow.block k hk (fun e => hne e.symm)) hown ?_) (hf.put hN))
  · simp [execOp, ho, resolve, invoke, builtin, hf.eval hx, hf.eval hy, hr']
  · intro b hb
    have hb' : (Value.slice A1 (n + m) c1).ownBlock = some b := hb
    rcases hat with e1 | e1
    · exact Or.inl (by show (Value.slice A n c).ownBlock = some b; rw [← e1]; exact hb')
    · rw [e1] at hb'
      simp only [Option.some.injEq] at hb'
      exact Or.inr (by omega)

end seq

end Go.Proofs.Ytgkgimglgjfcjaa
