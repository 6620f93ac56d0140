/-
  Regions that draw their order: what only reads may be walked in the text's order; what writes comes behind, in the one order that the edges allow.
-/
import Derived.Test.YtgkgimglgjfcjaaLiftO
namespace Go.Proofs.Ytgkgimglgjfcjaa
open Go.RowKit
variable {dd : List Deferred}

section
variable {P : Program} {ops : Array Oper} {Q : Exit → Act → World → Prop} {K : Act → World → Prop} {T : Act → Prop} {a : Act} {w W : World} {μ : List Nat} {L : List Res} {N : Nat} {E : Env} {o : Oper} {rest : List Oper}

theorem wpL_draw {id : Nat} {l : List Oper} {r : List Code} (hm : P.follows .mixedOrders = true) (hB : Region.lexB .any l.toArray = true) (hs : St μ W w L)
    (h : wpQuiet P l.toArray (fun w => St μ W w L) (fun a => ∀ w, St μ W w L → wpL P r Q a w) l a) : wpL P (.region id l.toArray true :: r) Q a w := by
  refine wp_region_quiet (Q := Exit.then (wpL P r Q) Q) (C := fun w => St μ W w L) hm hB (hs.drew) ?_
  have e : l.toArray.toList = l := by simp
  rw [e]
  exact h

theorem qNil (h : T a) : wpQuiet P ops (fun w => St μ W w L) T [] a := h

theorem qY {v : Value} {d : Nat} (hf : FrD dd a N E) (hg : o.guard = none) (hd : o.dst = some d) (hN : Nat.blt d N = true) (hy : Y P μ W L N E o v) (h : ∀ a, FrD dd a N ((d, v) :: E) → wpQuiet P ops (fun w => St μ W w L) T rest a) : wpQuiet P ops (fun w => St μ W w L) T (o :: rest) a := by
  unfold wpQuiet
  rw [if_pos (wanted_none hg _)]
  exact ⟨v, fun w hw => by simp [Oper.quietAt, hy a w hf.toFr0 hw, Oper.quietUpon], by rw [hd]; exact h _ (hf.put hN)⟩
theorem qYg {v : Value} {d j g : Nat} {b : Bool} {oj : Oper} (hf : FrD dd a N E) (hg : o.guard = some (j, b)) (hj : ops[j]? = some oj) (hdj : oj.dst = some g) (hc : look E g = some (.bool b)) (hNg : Nat.blt g N = true) (hd : o.dst = some d) (hN : Nat.blt d N = true) (hy : Y P μ W L N E o v) (h : ∀ a, FrD dd a N ((d, v) :: E) → wpQuiet P ops (fun w => St μ W w L) T rest a) : wpQuiet P ops (fun w => St μ W w L) T (o :: rest) a := by
  unfold wpQuiet
  rw [if_pos (by rw [wanted_some hg hf hj hdj hc hNg]; simp)]
  exact ⟨v, fun w hw => by simp [Oper.quietAt, hy a w hf.toFr0 hw, Oper.quietUpon], by rw [hd]; exact h _ (hf.put hN)⟩
theorem qNo {d j g : Nat} {b : Bool} {oj : Oper} (hf : FrD dd a N E) (hg : o.guard = some (j, b)) (hj : ops[j]? = some oj) (hdj : oj.dst = some g) (hc : look E g = some (.bool (!b))) (hNg : Nat.blt g N = true) (hd : o.dst = some d) (hN : Nat.blt d N = true) (h : ∀ a, FrD dd a N ((d, undef) :: E) → wpQuiet P ops (fun w => St μ W w L) T rest a) : wpQuiet P ops (fun w => St μ W w L) T (o :: rest) a := by
  unfold wpQuiet
  rw [if_neg (by rw [wanted_some hg hf hj hdj hc hNg]; cases b <;> simp), hd]
  exact h _ (hf.put hN)
theorem qStep {f : FuncId} {x : Operand} {xs : List Operand} {ts : Array TypeId} {vs cap : List Value} {v : Value} (hf : FrD dd a N E)
    (ho : o.op = .call { callee := .value x, args := xs.toArray, argTypes := ts }) (hx : evalE E x = some (.func (.func f) #[] cap.toArray)) (hv : evalEs E xs = some vs) (he : En P f)
    (hc : ∀ w, St μ W w L → Calls P f (vs ++ cap).toArray w fun e w' => ∃ u, e = .returned u ∧ u = v ∧ Below w.heap.size w w') : ∀ w, St μ W w L → o.quietAt P a (fun w => St μ W w L) w v := fun w hw => by
  unfold Oper.quietAt
  rw [run_call ho hf hx hv he]
  refine ⟨rfl, (hc w hw).mono fun e w' h => ?_⟩
  obtain ⟨u, h1, h2, h3⟩ := h
  exact ⟨by rw [h1, h2], hw.ext h3⟩
theorem qCall {f : FuncId} {x : Operand} {xs : List Operand} {ts : Array TypeId} {vs cap : List Value} {v : Value} {d : Nat} (hf : FrD dd a N E) (hg : o.guard = none) (hd : o.dst = some d) (hN : Nat.blt d N = true)
    (ho : o.op = .call { callee := .value x, args := xs.toArray, argTypes := ts }) (hx : evalE E x = some (.func (.func f) #[] cap.toArray)) (hv : evalEs E xs = some vs) (he : En P f)
    (hc : ∀ w, St μ W w L → Calls P f (vs ++ cap).toArray w fun e w' => ∃ u, e = .returned u ∧ u = v ∧ Below w.heap.size w w')
    (h : ∀ a, FrD dd a N ((d, v) :: E) → wpQuiet P ops (fun w => St μ W w L) T rest a) : wpQuiet P ops (fun w => St μ W w L) T (o :: rest) a := by
  unfold wpQuiet
  rw [if_pos (wanted_none hg _)]
  exact ⟨v, qStep hf ho hx hv he hc, by rw [hd]; exact h _ (hf.put hN)⟩
theorem qCallg {f : FuncId} {x : Operand} {xs : List Operand} {ts : Array TypeId} {vs cap : List Value} {v : Value} {d j g : Nat} {b : Bool} {oj : Oper} (hf : FrD dd a N E) (hg : o.guard = some (j, b)) (hj : ops[j]? = some oj) (hdj : oj.dst = some g) (hcg : look E g = some (.bool b)) (hNg : Nat.blt g N = true) (hd : o.dst = some d) (hN : Nat.blt d N = true)
    (ho : o.op = .call { callee := .value x, args := xs.toArray, argTypes := ts }) (hx : evalE E x = some (.func (.func f) #[] cap.toArray)) (hv : evalEs E xs = some vs) (he : En P f)
    (hc : ∀ w, St μ W w L → Calls P f (vs ++ cap).toArray w fun e w' => ∃ u, e = .returned u ∧ u = v ∧ Below w.heap.size w w')
    (h : ∀ a, FrD dd a N ((d, v) :: E) → wpQuiet P ops (fun w => St μ W w L) T rest a) : wpQuiet P ops (fun w => St μ W w L) T (o :: rest) a := by
  unfold wpQuiet
  rw [if_pos (by rw [wanted_some hg hf hj hdj hcg hNg]; simp)]
  exact ⟨v, qStep hf ho hx hv he hc, by rw [hd]; exact h _ (hf.put hN)⟩
end

/-! ### Reads in whatever order, then writes in one -/
section
variable {P : Program} {ops : Array Oper} {md : Region.Mode} {C : World → Prop}

def waitsB (md : Region.Mode) (ops : Array Oper) (j i : Nat) : Bool :=
  match ops[j]? with
  | some oj => oj.after.any fun e => Region.binds md e && e.on == i
  | none => false
theorem waitsB_spec {j i : Nat} (h : waitsB md ops j i = true) : ∃ oj, ops[j]? = some oj ∧ ∃ e ∈ oj.after, Region.binds md e = true ∧ e.on = i := by
  unfold waitsB at h
  split at h
  · rename_i oj hj
    obtain ⟨e, he, hb⟩ := Array.any_eq_true'.1 h
    simp only [Bool.and_eq_true, beq_iff_eq] at hb
    exact ⟨oj, hj, e, he, hb.1, hb.2⟩
  · cases h

/-- the state of an order: what has come up is closed, and of the tail nothing has -/
structure HInv (md : Region.Mode) (ops : Array Oper) (head tail : List Nat) (listed : Array Bool) : Prop where
  size : listed.size = ops.size
  closed : ∀ j oj, ops[j]? = some oj → listed.getD j false = true → ∀ e ∈ oj.after, Region.binds md e = true → listed.getD e.on false = true
  tl : ∀ t ∈ tail, listed.getD t true = false
  cover : ∀ j, j < ops.size → listed.getD j true = false → j ∈ head ∨ j ∈ tail

theorem getD_bothL {listed : Array Bool} {i : Nat} (h : listed.getD i true = false) : listed.getD i false = false := by
  rcases Nat.lt_or_ge i listed.size with h' | h'
  · simp [h'] at h ⊢; exact h
  · simp [Array.getElem?_eq_none h'] at h

theorem HInv.set {head tail : List Nat} {i : Nat} {listed : Array Bool} (inv : HInv md ops head tail listed) (hi : i ∈ Region.ready md ops listed) (hin : i ∉ tail) : HInv md ops head tail (listed.setIfInBounds i true) := by
  obtain ⟨_, oi, hoi, hall⟩ := mem_ready.1 hi
  refine ⟨by simp [inv.size], fun j oj hj hl e he hb => ?_, fun t ht => by rw [getD_set_ne true (fun e => hin (by rw [e]; exact ht))]; exact inv.tl t ht, fun j hj hl => ?_⟩
  · by_cases hij : i = j
    · subst hij
      have : oj = oi := Option.some.inj (hj.symm.trans hoi)
      subst this
      exact getD_set_true (hall e he hb)
    · rw [getD_set_ne false hij] at hl
      exact getD_set_true (inv.closed j oj hj hl e he hb)
  · by_cases hij : i = j
    · subst hij
      have hlt : i < listed.size := by rw [inv.size]; exact hj
      simp [hlt] at hl
    · rw [getD_set_ne true hij] at hl
      exact inv.cover j hj hl

/-- whatever order is picked, till the head is through -/
def anyC (P : Program) (md : Region.Mode) (ops : Array Oper) (C : World → Prop) (head : List Nat) (Lp : Array Bool → Act → Prop) : Nat → Array Bool → Act → Prop
  | 0, listed, a => Lp listed a
  | fuel + 1, listed, a => Region.ready md ops listed ≠ [] ∧ ∀ i ∈ Region.ready md ops listed, i ∈ head ∧ qOp P ops C i (anyC P md ops C head Lp fuel (listed.setIfInBounds i true)) a

theorem wpAny_of_anyC {Q : Exit → Act → World → Prop} {head : List Nat} {Lp : Array Bool → Act → Prop} {g : Nat} (hL : ∀ listed a w, Lp listed a → C w → wpAny P md ops Q g listed a w) :
    ∀ (fuel : Nat) (listed : Array Bool) (a : Act) (w : World), anyC P md ops C head Lp fuel listed a → C w → wpAny P md ops Q (fuel + g) listed a w
  | 0, listed, a, w, h, hw => by rw [Nat.zero_add]; exact hL _ _ _ h hw
  | fuel + 1, listed, a, w, h, hw => by
    rw [show fuel + 1 + g = (fuel + g) + 1 by omega]
    refine ⟨fun h0 => absurd h0 h.1, fun i hi => ?_⟩
    exact wpOp_of_qOp hw (fun a' w' hw' hk => wpAny_of_anyC hL fuel _ a' w' hk hw') (h.2 i hi).2

theorem anyC_first {head tail : List Nat} {t0 : Nat} {Lp : Array Bool → Act → Prop} {i : Nat} {oi : Oper} {v : Value} (hi : ops[i]? = some oi) (hsel : ∀ (j : Nat) (o : Oper) cs b, ops[j]? = some o → o.op ≠ .select cs b)
    (hin : i ∈ head) (hdis : ∀ k ∈ head, k ∉ t0 :: tail) (hsink : ∀ k ∈ head, ∃ j ∈ t0 :: head, j ≠ k ∧ waitsB md ops j k = true) (hchain : ∀ t ∈ tail, ∃ p ∈ t0 :: tail, waitsB md ops t p = true)
    (hLp : ∀ listed a, Lp listed a → ∀ k ∈ head, listed.getD k false = true) :
    ∀ (fuel : Nat) (listed : Array Bool) (a : Act), HInv md ops head (t0 :: tail) listed →
      (∀ j oj, ops[j]? = some oj → j ≠ i → listed.getD j true = false → (∀ e ∈ oj.after, Region.binds md e = true → e.on ≠ i) → oi.apart ops oj = true) →
      i ∈ Region.ready md ops listed → YieldsIn P ops C oi v a → anyC P md ops C head Lp fuel (listed.setIfInBounds i true) (a.put oi.dst v) → anyC P md ops C head Lp (fuel + 1) listed a := by
  intro fuel
  induction fuel with
  | zero =>
    intro listed a inv _ hr hy H
    refine ⟨fun h => (by rw [h] at hr; cases hr), fun j hj => ?_⟩
    by_cases hji : j = i
    · subst hji; exact ⟨hin, hy.qOp hi H⟩
    · exfalso
      obtain ⟨hjun, oj, hoj, hall⟩ := mem_ready.1 hj
      have hun := (mem_ready.1 hr).1
      have hlisted : ∀ k ∈ head, k ≠ i → listed.getD k false = true := fun k hk hki => by
        have := hLp _ _ H k hk
        rwa [getD_set_ne false (Ne.symm hki)] at this
      have hjlt : j < ops.size := (Array.getElem?_eq_some_iff.1 hoj).1
      rcases inv.cover j hjlt hjun with hjh | hjt
      · have := hlisted j hjh hji
        rw [getD_bothL hjun] at this; cases this
      · rcases List.mem_cons.1 hjt with e0 | hjt'
        · obtain ⟨j', hj', hne, hwt⟩ := hsink i hin
          obtain ⟨oj', hoj', e, he, hb, hon⟩ := waitsB_spec hwt
          rcases List.mem_cons.1 hj' with e1 | hj'h
          · have e2 : j' = j := e1.trans e0.symm
            subst e2
            have : oj' = oj := Option.some.inj (hoj'.symm.trans hoj)
            subst this
            have h1 := hall e he hb
            rw [hon, getD_bothL hun] at h1; cases h1
          · have h1 := inv.closed j' oj' hoj' (hlisted j' hj'h hne) e he hb
            rw [hon, getD_bothL hun] at h1; cases h1
        · obtain ⟨p, hp, hwt⟩ := hchain j hjt'
          obtain ⟨oj', hoj', e, he, hb, hon⟩ := waitsB_spec hwt
          have : oj' = oj := Option.some.inj (hoj'.symm.trans hoj)
          subst this
          have h1 := hall e he hb
          rw [hon, getD_bothL (inv.tl p hp)] at h1; cases h1
  | succ fuel ih =>
    intro listed a inv hfree hr hy H
    refine ⟨fun h => (by rw [h] at hr; cases hr), fun j hj => ?_⟩
    by_cases hji : j = i
    · subst hji; exact ⟨hin, hy.qOp hi H⟩
    · obtain ⟨hjh, h1⟩ := H.2 j (ready_mono hj hji)
      refine ⟨hjh, ?_⟩
      obtain ⟨hjun, oj, hoj, hall⟩ := mem_ready.1 hj
      have hun := (mem_ready.1 hr).1
      have hnot : ∀ e ∈ oj.after, Region.binds md e = true → e.on ≠ i := fun e he hb heq => by
        have h1 := hall e he hb
        rw [heq, getD_bothL hun] at h1
        cases h1
      have h2 := qOp_put hoj (hfree j oj hoj hji hjun hnot) (fun cs b => hsel i oi cs b hi) (fun cs b => hsel j oj cs b hoj) hy h1
      have hfree' : ∀ k ok, ops[k]? = some ok → k ≠ i → (listed.setIfInBounds j true).getD k true = false →
          (∀ e ∈ ok.after, Region.binds md e = true → e.on ≠ i) → oi.apart ops ok = true := fun k ok hk hki hun hno => by
        refine hfree k ok hk hki ?_ hno
        by_cases hjk : j = k
        · subst hjk; exact hjun
        · rw [getD_set_ne true hjk] at hun; exact hun
      refine qOp_mono (fun a' h3 => ih (listed.setIfInBounds j true) a' (inv.set hj (hdis j hjh)) hfree' (ready_mono hr (Ne.symm hji)) h3.1 ?_) h2
      rw [Array.setIfInBounds_comm _ _ hji]
      exact h3.2

/-- the tail comes up in its order -/
def seqL (md : Region.Mode) (ops : Array Oper) : List Nat → Array Bool → Bool
  | [], listed => (Region.ready md ops listed).isEmpty
  | t :: r, listed => decide (Region.ready md ops listed = [t]) && seqL md ops r (listed.setIfInBounds t true)

/-- the operations at some numbers -/
def opsAt (ops : Array Oper) : List Nat → List Oper
  | [] => []
  | t :: r => (ops.getD t default) :: opsAt ops r

theorem wpAny_seqL {Q : Exit → Act → World → Prop} : ∀ (ts : List Nat) (listed : Array Bool) (a : Act) (w : World), seqL md ops ts listed = true → wpList P ops Q (opsAt ops ts) a w → wpAny P md ops Q ts.length listed a w
  | [], listed, a, w, hB, h => ⟨by simpa [seqL] using hB, h⟩
  | t :: r, listed, a, w, hB, h => by
    simp only [seqL, Bool.and_eq_true, decide_eq_true_eq] at hB
    refine ⟨fun h1 => (by rw [hB.1] at h1; cases h1), fun i hi => ?_⟩
    have hir := hi
    rw [hB.1] at hi
    have hit : i = t := by simpa using hi
    subst hit
    obtain ⟨_, o, ho, _⟩ := mem_ready.1 hir
    have hg : ops.getD i default = o := by simp [Array.getD_eq_getD_getElem?, ho]
    have hw : wpOp P ops Q i (wpList P ops Q (opsAt ops r)) a w := by
      unfold wpOp; simp only [ho]
      unfold opsAt at h
      rw [hg] at h
      exact h
    exact wpOp_mono (fun a' w' h' => wpAny_seqL r _ a' w' hB.2 h') hw

/-- the head in its order -/
def headB (md : Region.Mode) (ops : Array Oper) (tl : List Nat) : List Nat → Array Bool → Bool
  | [], listed => seqL md ops tl listed
  | k :: r, listed => (Region.ready md ops listed).contains k && Region.free md ops listed k && headB md ops tl r (listed.setIfInBounds k true)

theorem anyC_lex {head tail : List Nat} {t0 : Nat} {T : Act → Prop} (hsel : Region.noSelect ops = true)
    (hdis : ∀ k ∈ head, k ∉ t0 :: tail) (hsink : ∀ k ∈ head, ∃ j ∈ t0 :: head, j ≠ k ∧ waitsB md ops j k = true) (hchain : ∀ t ∈ tail, ∃ p ∈ t0 :: tail, waitsB md ops t p = true) (hlt : ∀ k ∈ head, k < ops.size) :
    ∀ (hs : List Nat) (listed : Array Bool) (a : Act), (∀ k ∈ hs, k ∈ head) → HInv md ops head (t0 :: tail) listed → (∀ k ∈ head, k ∈ hs ∨ listed.getD k false = true) → headB md ops (t0 :: tail) hs listed = true → wpQuiet P ops C T (opsAt ops hs) a →
    anyC P md ops C head (fun listed a => (∀ k ∈ head, listed.getD k false = true) ∧ seqL md ops (t0 :: tail) listed = true ∧ T a) hs.length listed a
  | [], listed, a, _, _, hall, hB, h => ⟨fun k hk => (hall k hk).resolve_left (by simp), by simpa [headB] using hB, h⟩
  | k :: r, listed, a, hsub, inv, hall, hB, h => by
    simp only [headB, Bool.and_eq_true] at hB
    obtain ⟨⟨hr, hf⟩, hB'⟩ := hB
    have hr' : k ∈ Region.ready md ops listed := by simpa using hr
    have hkh : k ∈ head := hsub k (List.mem_cons_self ..)
    obtain ⟨_, o, ho, _⟩ := mem_ready.1 hr'
    have hg : ops.getD k default = o := by simp [Array.getD_eq_getD_getElem?, ho]
    have hst : qOp P ops C k (wpQuiet P ops C T (opsAt ops r)) a := by
      unfold qOp; simp only [ho]
      unfold opsAt at h
      rw [hg] at h
      exact h
    obtain ⟨v, hy, hK⟩ := yieldsIn_of_qOp ho hst
    refine anyC_first ho (Region.noSelect_spec hsel) hkh hdis hsink hchain (fun _ _ h => h.1) r.length listed a inv (Region.free_spec ho hf) hr' hy ?_
    refine anyC_lex hsel hdis hsink hchain hlt r _ _ (fun j hj => hsub j (List.mem_cons_of_mem _ hj)) (inv.set hr' (hdis k hkh)) (fun j hj => ?_) hB' hK
    rcases hall j hj with h1 | h1
    · rcases List.mem_cons.1 h1 with e | h2
      · subst e
        right
        have : j < listed.size := by rw [inv.size]; exact hlt j hj
        simp [this]
      · exact Or.inl h2
    · exact Or.inr (getD_set_true h1)

/-- no panic is met -/
def NoP (Q : Exit → Act → World → Prop) : Exit → Act → World → Prop
  | .panic _, _, _ => False
  | e, a, w => Q e a w

end

end Go.Proofs.Ytgkgimglgjfcjaa
