/-
  copy, as an operation of the calculus.
-/
import Derived.Test.YtgkgimglgjfcjaaLiftC
import Derived.Laws.IdiomCopy
namespace Go.Proofs.Ytgkgimglgjfcjaa
open Go.RowKit
variable {dd : List Deferred}

/-- what copy leaves in the list that is written -/
def cpy {α : Type} (xs ys : List α) : List α := ys.take xs.length ++ xs.drop ys.length
theorem cpy_len {α : Type} (xs ys : List α) : (cpy xs ys).length = xs.length := by unfold cpy; simp; omega
theorem cpy_ints (xs ys : List Int) : ints (cpy xs ys) = cpy (ints xs) (ints ys) := by unfold cpy ints; simp [List.map_take, List.map_drop]

section
variable {P : Program} {N : Nat} {E : Env} {W w : World} {L : List Res} {μ : List Nat} {o : Oper} {ops : Array Oper} {Q : Exit → Act → World → Prop} {K : Act → World → Prop} {rest : List Oper} {a : Act}

theorem run_copyOwn {dT sT ty e : TypeId} {lo : Nat} {A A' : Option Addr} {n c m c' by' : Nat} {z : Value} {xs ys : List Value} (hr : w.ownsRow lo e 1 (.slice A n c) n xs) (hm : m = ys.length) (hrd : Rd w A' ys) (h1 : ∀ v ∈ ys, v.oneCell' = true)
    (hu : P.underlying dT = some (.slice e)) (hz : TI P e [z] by') :
    ∃ w', (Builtin.copy_ #[dT, sT] ty #[.slice A n c, .slice A' m c']).run P w = .ok (goInt ((min m n : Nat) : Int)) w' ∧ w'.ownsRow lo e 1 (.slice A n c) n (cpy xs ys) ∧ (∀ b, (Value.slice A n c).ownBlock ≠ some b → w'.heap[b]? = w.heap[b]?) ∧ EW w w' := by
  have hs1 : (P.info? e).map (·.size) = some 1 := by
    obtain ⟨i, z', h2, h3, h4, h5, h6⟩ := hz
    rw [h2]; simp [h5]
  have hx : xs.length = n := by have := hr.1; omega
  by_cases h0 : min m n = 0
  · refine ⟨w, by rw [h0]; exact run_copy_none (P := P) w dT sT ty e A A' n c m c' hu hs1 h0, ?_, fun _ _ => rfl, EW.refl w⟩
    have : cpy xs ys = xs := by
      unfold cpy
      by_cases hy : ys = []
      · subst hy; simp
      · have hy2 : 0 < ys.length := List.length_pos_iff.2 hy
        have : xs = [] := List.eq_nil_of_length_eq_zero (by omega)
        subst this; simp
    rw [this]; exact hr
  · obtain ⟨b0, off0, rfl⟩ := hrd.is (by omega)
    rcases hr.2 with ⟨e1, e2⟩ | ⟨g, cap, cur, e1, hlo, hg', hn, hmx, hsz, ht⟩
    · omega
    · simp only [Value.slice.injEq] at e1
      obtain ⟨rfl, _, rfl⟩ := e1
      have hcs : (ys.take n).length = min m n := by simp; omega
      have hc := run_copy_row (P := P) w dT sT ty e g 0 n c ⟨b0, off0, none⟩ m c' cur e (ys.take n) hu hs1 hg' (hcs) (fun j v hj => by
          rw [List.getElem?_take] at hj
          split at hj
          · obtain ⟨b', off', e', _, hc⟩ := hrd j v hj
            simp only [Option.some.injEq, Addr.mk.injEq, and_true] at e'
            obtain ⟨rfl, rfl⟩ := e'
            rw [add_mk]; exact hc
          · simp at hj) (by rw [hcs, hsz]; omega) (fun v hv => h1 v (List.mem_of_mem_take hv))
      refine ⟨_, by rw [hc, hcs], ⟨by rw [cpy_len]; exact hr.1, Or.inr ⟨g, c, _, rfl, hlo, setRow_heap _ _ _ _ _ _ hg', hn, hmx, ?_, ?_⟩⟩, fun b hb => setRow_other _ _ _ _ (fun e => hb (by rw [e]; rfl)), EW.setRow _ _ _⟩
      · simp; omega
      · have hcl : cur.toList.length = c := by simp [hsz]
        rw [← ht]
        simp only [Nat.mul_one, List.take_zero, List.nil_append, Nat.zero_add]
        unfold cpy
        rw [List.take_append, List.take_take, Nat.min_self, hcs]
        have e1 : (cur.toList.take n).length = n := by rw [List.length_take, hcl]; omega
        rw [e1, List.drop_take]
        congr 1
        · by_cases hmn : m ≤ n
          · rw [Nat.min_eq_left hmn, hm]
          · rw [Nat.min_eq_right (by omega)]
            have : n - ys.length = 0 := by omega
            rw [this]; simp

/-- copy into an own row -/
theorem sCopy {dT sT e : TypeId} {x y : Operand} {A A' : Option Addr} {n c m c' i by' d : Nat} {xs ys : List Int} (hf : FrD dd a N E) (hs : St μ W w L) (hg : o.guard = none) (hd : o.dst = some d) (hN : Nat.blt d N = true)
    (ho : o.op = .call { callee := .builtin .copy, args := #[x, y], argTypes := #[dT, sT] }) (hx : evalE E x = some (.slice A n c)) (hy : evalE E y = some (.slice A' m c'))
    (hL : L[i]? = some (.row A n c e 1 (ints xs))) (hn : n = xs.length) (hm : m = ys.length) (he : EL P dT e) (hz : TI P e [.int .i64 0] by') (hrd : Rd w A' (ints ys))
    (h : ∀ a w, St μ W w (L.set i (.row A n c e 1 (ints (cpy xs ys)))) → FrD dd a N ((d, .int .i64 ((min ys.length xs.length : Nat) : Int)) :: E) → wpO P ops Q K rest a w) : wpO P ops Q K (o :: rest) a w := by
  subst hm hn
  have hr := hs.res _ _ hL
  obtain ⟨w', hrun, hown, hsame, hew⟩ := run_copyOwn (P := P) (sT := sT) (ty := o.type) (m := ys.length) (c' := c') hr (by rw [ints_length]) hrd (fun v hv => by
    unfold ints at hv; rw [List.mem_map] at hv; obtain ⟨q, _, rfl⟩ := hv; rfl) he hz
  refine stepV (wanted_none hg _) hd (v := .int .i64 ((min ys.length xs.length : Nat) : Int)) (w' := w') ?_ (h _ _ (hs.change hL hew (fun b _ hb => hsame b hb) (by rw [cpy_ints]; exact hown) (fun b hb => .inl hb)) (hf.put hN))
  simp [execOp, ho, resolve, invoke, builtin, hf.eval hx, hf.eval hy, hrun, goInt]

/-! ### Two writers that may come up in either order -/
section
variable {l : List Oper} {L0 : List Res} {fuel k : Nat} {listed : Array Bool} {K' : Act → World → Prop}
theorem gOp {o : Oper} {i : Nat} (hi : l.toArray[i]? = some o)
    (h : wpO P l.toArray (NoP Q) (fun a w => (i = k ∨ St μ W w L0) ∧ wpAnyG P .any l.toArray (Exit.then K' (NoP Q)) (fun w => St μ W w L0) k fuel (listed.setIfInBounds i true) a w) [o] a w) :
    wpOp P l.toArray (Exit.then K' (NoP Q)) i (fun a' w' => (i = k ∨ St μ W w' L0) ∧ wpAnyG P .any l.toArray (Exit.then K' (NoP Q)) (fun w => St μ W w L0) k fuel (listed.setIfInBounds i true) a' w') a w := by
  unfold wpOp
  simp only [hi]
  unfold wpO wpList at h
  split
  · rename_i hw
    rw [if_pos hw] at h
    rcases h with h | ⟨h1, h2⟩
    · refine .inl ?_
      unfold Oper.wp at *
      generalize (execOp a.eval o).run P w = r at *
      cases r with
      | ok n w' =>
        cases n <;> simp only [Oper.upon] at h ⊢ <;> first
          | exact h
          | exact Calls.mono h (fun e w'' he => by cases e <;> first | exact he | (obtain ⟨a0, w0, h0⟩ := he; exact ⟨a0, w0, h0⟩))
          | exact Rows.mono h (fun _ _ he => he)
      | halt x w' => cases x <;> simp only [Oper.upon] at h ⊢ <;> exact h
    · obtain ⟨a0, w0, h0⟩ := h2
      exact .inr ⟨h1, a0, w0, h0⟩
  · rename_i hw
    rw [if_neg hw] at h
    exact h
theorem gRun2 {o o' : Oper} {i j : Nat} (hi : l.toArray[i]? = some o) (hj : l.toArray[j]? = some o') (hr : Region.ready .any l.toArray listed = [i, j])
    (h : wpO P l.toArray (NoP Q) (fun a w => (i = k ∨ St μ W w L0) ∧ wpAnyG P .any l.toArray (Exit.then K' (NoP Q)) (fun w => St μ W w L0) k fuel (listed.setIfInBounds i true) a w) [o] a w)
    (h' : wpO P l.toArray (NoP Q) (fun a w => (j = k ∨ St μ W w L0) ∧ wpAnyG P .any l.toArray (Exit.then K' (NoP Q)) (fun w => St μ W w L0) k fuel (listed.setIfInBounds j true) a w) [o'] a w) :
    wpAnyG P .any l.toArray (Exit.then K' (NoP Q)) (fun w => St μ W w L0) k (fuel + 1) listed a w := by
  refine ⟨fun h0 => (by rw [hr] at h0; cases h0), fun q hq => ?_⟩
  rw [hr] at hq
  simp only [List.mem_cons, List.not_mem_nil, or_false] at hq
  rcases hq with rfl | rfl
  · exact gOp hi h
  · exact gOp hj h'
theorem bind_swap {α β γ : Type} {x : Option α} {y : Option β} {f : α → β → Option γ} {r : γ} (h : (x.bind fun a => y.bind fun b => f a b) = some r) : (y.bind fun b => x.bind fun a => f a b) = some r := by
  cases x <;> cases y <;> first | exact h | cases h
end

end
end Go.Proofs.Ytgkgimglgjfcjaa
