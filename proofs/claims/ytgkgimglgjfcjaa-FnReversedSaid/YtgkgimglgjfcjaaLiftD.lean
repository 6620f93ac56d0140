/-
  Regions that draw their order: what only reads may be walked in the text's order; what writes comes behind, in the one order that the edges allow.
-/
import Derived.Test.YtgkgimglgjfcjaaLiftO
namespace Go.Proofs.Ytgkgimglgjfcjaa
open Go.RowKit
variable {dd : List Deferred}

section
variable {P : Program} {ops : Array Oper} {Q : Exit → Act → World → Prop} {K : Act → World → Prop} {T : Act → Prop} {a : Act} {w W : World} {μ : List Nat} {L : List Res} {N : Nat} {E : Env} {o : Oper} {rest : List Oper}

theorem wpL_draw {id : Nat} {l : List Oper} {r : List Code} (hm : P.follows .mixedOrders = true) (hB : Region.lexB .any l.toArray = true) (hs : St μ W w L)
    (h : wpQuiet P l.toArray (fun w => St μ W w L) (fun a => ∀ w, St μ W w L → wpL P r Q a w) l a) : wpL P (.region id l.toArray true :: r) Q a w := by
  refine wp_region_quiet (Q := Exit.then (wpL P r Q) Q) (C := fun w => St μ W w L) hm hB (hs.drew) ?_
  have e : l.toArray.toList = l := by simp
  rw [e]
  exact h

theorem qNil (h : T a) : wpQuiet P ops (fun w => St μ W w L) T [] a := h

theorem qY {v : Value} {d : Nat} (hf : FrD dd a N E) (hg : o.guard = none) (hd : o.dst = some d) (hN : Nat.blt d N = true) (hy : Y P μ W L N E o v) (h : ∀ a, FrD dd a N ((d, v) :: E) → wpQuiet P ops (fun w => St μ W w L) T rest a) : wpQuiet P ops (fun w => St μ W w L) T (o :: rest) a := by
  unfold wpQuiet
  rw [if_pos (wanted_none hg _)]
  exact ⟨v, fun w hw => by simp [Oper.quietAt, hy a w hf.toFr0 hw, Oper.quietUpon], by rw [hd]; exact h _ (hf.put hN)⟩
theorem qYg {v : Value} {d j g : Nat} {b : Bool} {oj : Oper} (hf : FrD dd a N E) (hg : o.guard = some (j, b)) (hj : ops[j]? = some oj) (hdj : oj.dst = some g) (hc : look E g = some (.bool b)) (hNg : Nat.blt g N = true) (hd : o.dst = some d) (hN : Nat.blt d N = true) (hy : Y P μ W L N E o v) (h : ∀ a, FrD dd a N ((d, v) :: E) → wpQuiet P ops (fun w => St μ W w L) T rest a) : wpQuiet P ops (fun w => St μ W w L) T (o :: rest) a := by
  unfold wpQuiet
  rw [if_pos (by rw [wanted_some hg hf hj hdj hc hNg]; simp)]
  exact ⟨v, fun w hw => by simp [Oper.quietAt, hy a w hf.toFr0 hw, Oper.quietUpon], by rw [hd]; exact h _ (hf.put hN)⟩
theorem qNo {d j g : Nat} {b : Bool} {oj : Oper} (hf : FrD dd a N E) (hg : o.guard = some (j, b)) (hj : ops[j]? = some oj) (hdj : oj.dst = some g) (hc : look E g = some (.bool (!b))) (hNg : Nat.blt g N = true) (hd : o.dst = some d) (hN : Nat.blt d N = true) (h : ∀ a, FrD dd a N ((d, undef) :: E) → wpQuiet P ops (fun w => St μ W w L) T rest a) : wpQuiet P ops (fun w => St μ W w L) T (o :: rest) a := by
  unfold wpQuiet
  rw [if_neg (by rw [wanted_some hg hf hj hdj hc hNg]; cases b <;> simp), hd]
  exact h _ (hf.put hN)
theorem qStep {f : FuncId} {x : Operand} {xs : List Operand} {ts : Array TypeId} {vs cap : List Value} {v : Value} (hf : FrD dd a N E)
    (ho : o.op = .call { callee := .value x, args := xs.toArray, argTypes := ts }) (hx : evalE E x = some (.func (.func f) #[] cap.toArray)) (hv : evalEs E xs = some vs) (he : En P f)
    (hc : ∀ w, St μ W w L → Calls P f (vs ++ cap).toArray w fun e w' => ∃ u, e = .returned u ∧ u = v ∧ Below w.heap.size w w') : ∀ w, St μ W w L → o.quietAt P a (fun w => St μ W w L) w v := fun w hw => by
  unfold Oper.quietAt
  rw [run_call ho hf hx hv he]
  refine ⟨rfl, (hc w hw).mono fun e w' h => ?_⟩
  obtain ⟨u, h1, h2, h3⟩ := h
  exact ⟨by rw [h1, h2], hw.ext h3⟩
theorem qCall {f : FuncId} {x : Operand} {xs : List Operand} {ts : Array TypeId} {vs cap : List Value} {v : Value} {d : Nat} (hf : FrD dd a N E) (hg : o.guard = none) (hd : o.dst = some d) (hN : Nat.blt d N = true)
    (ho : o.op = .call { callee := .value x, args := xs.toArray, argTypes := ts }) (hx : evalE E x = some (.func (.func f) #[] cap.toArray)) (hv : evalEs E xs = some vs) (he : En P f)
    (hc : ∀ w, St μ W w L → Calls P f (vs ++ cap).toArray w fun e w' => ∃ u, e = .returned u ∧ u = v ∧ Below w.heap.size w w')
    (h : ∀ a, FrD dd a N ((d, v) :: E) → wpQuiet P ops (fun w => St μ W w L) T rest a) : wpQuiet P ops (fun w => St μ W w L) T (o :: rest) a := by
  unfold wpQuiet
  rw [if_pos (wanted_none hg _)]
  exact ⟨v, qStep hf ho hx hv he hc, by rw [hd]; exact h _ (hf.put hN)⟩
theorem qCallg {f : FuncId} {x : Operand} {xs : List Operand} {ts : Array TypeId} {vs cap : List Value} {v : Value} {d j g : Nat} {b : Bool} {oj : Oper} (hf : FrD dd a N E) (hg : o.guard = some (j, b)) (hj : ops[j]? = some oj) (hdj : oj.dst = some g) (hcg : look E g = some (.bool b)) (hNg : Nat.blt g N = true) (hd : o.dst = some d) (hN : Nat.blt d N = true)
    (ho : o.op = .call { callee := .value x, args := xs.toArray, argTypes := ts }) (hx : evalE E x = some (.func (.func f) #[] cap.toArray)) (hv : evalEs E xs = some vs) (he : En P f)
    (hc : ∀ w, St μ W w L → Calls P f (vs ++ cap).toArray w fun e w' => ∃ u, e = .returned u ∧ u = v ∧ Below w.heap.size w w')
    (h : ∀ a, FrD dd a N ((d, v) :: E) → wpQuiet P ops (fun w => St μ W w L) T rest a) : wpQuiet P ops (fun w => St μ W w L) T (o :: rest) a := by
  unfold wpQuiet
  rw [if_pos (by rw [wanted_some hg hf hj hdj hcg hNg]; simp)]
  exact ⟨v, qStep hf ho hx hv he hc, by rw [hd]; exact h _ (hf.put hN)⟩
end

/-! ### Reads in whatever order, then writes in one -/
section
variable {P : Program} {ops : Array Oper} {md : Region.Mode} {C : World → Prop}

def waitsB (md : Region.Mode) (ops : Array Oper) (j i : Nat) : Bool :=
  match ops[j]? with
  | some oj => oj.after.any fun e => Region.binds md e && e.on == i
  | none => false
theorem waitsB_spec {j i : Nat} (h : waitsB md ops j i = true) : ∃ oj, ops[j]? = some oj ∧ ∃ e ∈ oj.after, Region.binds md e = true ∧ e.on = i := by
  unfold waitsB at h
  split at h
  · rename_i oj hj
    obtain ⟨e, he, hb⟩ := Array.any_eq_true'.1 h
    simp only [Bool.and_eq_true, beq_iff_eq] at hb
    exact ⟨oj, hj, e, he, hb.1, hb.2⟩
  · cases h

/-- the state of an order: what has come up is closed, and of the tail nothing has -/
structure HInv (md : Region.Mode) (ops : Array Oper) (head tail : List Nat) (listed : Array Bool) : Prop where
  size : listed.size = ops.size
  closed : ∀ j oj, ops[j]? = some oj → listed.getD j false = true → ∀ e ∈ oj.after, Region.binds md e = true → listed.getD e.on false = true
  tl : ∀ t ∈ tail, listed.getD t true = false
  cover : ∀ j, j < ops.size → listed.getD j true = false → j ∈ head ∨ j ∈ tail

theorem getD_bothL {listed : Array Bool} {i : Nat} (h : listed.getD i true = false) : listed.getD i false = false := by
  rcases Nat.lt_or_ge i listed.size with h' | h'
  · simp [h'] at h ⊢; exact h
  · simp [Array.getElem?_eq_none h'] at h

theorem HInv.set {head tail : List Nat} {i : Nat} {listed : Array Bool} (inv : HInv md ops head tail listed) (hi : i ∈ Region.ready md ops listed) (hin : i ∉ tail) : HInv md ops head tail (listed.setIfInBounds i true) := by
  obtain ⟨_, oi, hoi, hall⟩ := mem_ready.1 hi
  refine ⟨by simp [inv.size], fun j oj hj hl e he hb => ?_, fun t ht => by rw [getD_set_ne true (fun e => hin (by rw [e]; exact ht))]; exact inv.tl t ht, fun j hj hl => ?_⟩
  · by_cases hij : i = j
    · subst hij
      have : oj = oi := Option.some.inj (hj.symm.trans hoi)
      subst this
      exact getD_set_true (hall e he hb)
    · rw [getD_set_ne false hij] at hl
      exact getD_set_true (inv.closed j oj hj hl e he hb)
  · by_cases hij : i = j
    · subst hij
      have hlt : i < listed.size := by rw [inv.size]; exact hj
      simp [hlt] at hl
    · rw [getD_set_ne true hij] at hl
      exact inv.cover j hj hl

/-- no panic is met -/
def NoP (Q : Exit → Act → World → Prop) : Exit → Act → World → Prop
  | .panic _, _, _ => False
  | e, a, w => Q e a w

end

end Go.Proofs.Ytgkgimglgjfcjaa
