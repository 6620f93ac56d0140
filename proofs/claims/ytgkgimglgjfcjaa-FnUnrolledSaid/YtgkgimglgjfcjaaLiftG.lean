/-
  Regions that draw their order and write: what reads may be taken as soon as it may come up, as long as a condition on the memory lasts; the last operation of all may break it.
-/
import Derived.Test.YtgkgimglgjfcjaaLiftW
import Derived.OrdersHeld
namespace Go.Proofs.Ytgkgimglgjfcjaa
open Go.RowKit
variable {dd : List Deferred}

section
variable {P : Program} {ops : Array Oper} {md : Region.Mode} {Q : Exit → Act → World → Prop} {S : World → Prop} {m : Nat}

/-- whatever order is picked; S lasts, but behind operation m it need not -/
def wpAnyG (P : Program) (md : Region.Mode) (ops : Array Oper) (Q : Exit → Act → World → Prop) (S : World → Prop) (m : Nat) : Nat → Array Bool → Act → World → Prop
  | 0, listed, a, w => Region.ready md ops listed = [] ∧ Q .normal a w
  | fuel + 1, listed, a, w => (Region.ready md ops listed = [] → Q .normal a w) ∧ ∀ i ∈ Region.ready md ops listed, wpOp P ops Q i (fun a' w' => (i = m ∨ S w') ∧ wpAnyG P md ops Q S m fuel (listed.setIfInBounds i true) a' w') a w

theorem wpAny_of_G : ∀ (fuel : Nat) (listed : Array Bool) (a : Act) (w : World), wpAnyG P md ops Q S m fuel listed a w → wpAny P md ops Q fuel listed a w
  | 0, _, _, _, h => h
  | fuel + 1, _, _, _, h => ⟨h.1, fun i hi => wpOp_mono (fun a' w' h' => wpAny_of_G fuel _ a' w' h'.2) (h.2 i hi)⟩

def Closed (md : Region.Mode) (ops : Array Oper) (listed : Array Bool) : Prop := ∀ j oj, ops[j]? = some oj → listed.getD j false = true → ∀ e ∈ oj.after, Region.binds md e = true → listed.getD e.on false = true
theorem Closed.set {listed : Array Bool} {i : Nat} (h : Closed md ops listed) (hi : i ∈ Region.ready md ops listed) : Closed md ops (listed.setIfInBounds i true) := fun j oj hj hl e he hb => by
  obtain ⟨_, oi, hoi, hall⟩ := mem_ready.1 hi
  by_cases hij : i = j
  · subst hij
    have : oj = oi := Option.some.inj (hj.symm.trans hoi)
    subst this
    exact getD_set_true (hall e he hb)
  · rw [getD_set_ne false hij] at hl
    exact getD_set_true (h j oj hj hl e he hb)
/-- from i on each waits for the one before it, down to m -/
def pathB (md : Region.Mode) (ops : Array Oper) (m : Nat) : Nat → List Nat → Bool
  | i, [] => waitsB md ops m i
  | i, p :: r => waitsB md ops p i && pathB md ops m p r
theorem path_not {listed : Array Bool} (hc : Closed md ops listed) : ∀ (r : List Nat) (i : Nat), pathB md ops m i r = true → listed.getD i false = false → m ∉ Region.ready md ops listed
  | [], i, hp, hi, hm => by
    obtain ⟨oj, hoj, e, he, hb, hon⟩ := waitsB_spec hp
    obtain ⟨_, o, ho, hall⟩ := mem_ready.1 hm
    have : oj = o := Option.some.inj (hoj.symm.trans ho)
    subst this
    have := hall e he hb
    rw [hon, hi] at this; cases this
  | p :: r, i, hp, hi, hm => by
    simp only [pathB, Bool.and_eq_true] at hp
    refine path_not hc r p hp.2 ?_ hm
    obtain ⟨oj, hoj, e, he, hb, hon⟩ := waitsB_spec hp.1
    cases hl : listed.getD p false with
    | false => rfl
    | true =>
      have := hc p oj hoj hl e he hb
      rw [hon, hi] at this; cases this

theorem wpAnyG_first {i : Nat} {oi : Oper} {v : Value} {path : List Nat} (hi : ops[i]? = some oi) (hsel : ∀ (j : Nat) (o : Oper) cs b, ops[j]? = some o → o.op ≠ .select cs b) (hQ : ∀ c a a' w, Q (.panic c) a w → Q (.panic c) a' w)
    (hm : ops.size ≤ m ∨ pathB md ops m i path = true) :
    ∀ (fuel : Nat) (listed : Array Bool) (a : Act) (w : World), Closed md ops listed →
      (∀ j oj, ops[j]? = some oj → j ≠ i → listed.getD j true = false → (∀ e ∈ oj.after, Region.binds md e = true → e.on ≠ i) → oi.apart ops oj = true) →
      i ∈ Region.ready md ops listed → YieldsIf P ops S oi v a → S w →
      wpAnyG P md ops Q S m fuel (listed.setIfInBounds i true) (a.put oi.dst v) w → wpAnyG P md ops Q S m (fuel + 1) listed a w := by
  intro fuel
  induction fuel with
  | zero =>
    intro listed a w _ _ hr hy hS H
    refine ⟨fun h => (by rw [h] at hr; cases hr), fun j hj => ?_⟩
    by_cases hji : j = i
    · subst hji; exact hy.wpOp hi hS ⟨Or.inr hS, H⟩
    · have := ready_mono hj hji
      rw [H.1] at this
      cases this
  | succ fuel ih =>
    intro listed a w hc hfree hr hy hS H
    refine ⟨fun h => (by rw [h] at hr; cases hr), fun j hj => ?_⟩
    by_cases hji : j = i
    · subst hji; exact hy.wpOp hi hS ⟨Or.inr hS, H⟩
    · have h1 := H.2 j (ready_mono hj hji)
      obtain ⟨hjun, oj, hoj, hall⟩ := mem_ready.1 hj
      have hiun := getD_bothL (mem_ready.1 hr).1
      have hjm : j ≠ m := fun e => by
        subst e
        rcases hm with hm | hm
        · have := (Array.getElem?_eq_some_iff.1 hoj).1; omega
        · exact path_not hc path i hm hiun hj
      have hnot : ∀ e ∈ oj.after, Region.binds md e = true → e.on ≠ i := fun e he hb heq => by
        have h1 := hall e he hb
        rw [heq, hiun] at h1
        cases h1
      have h2 := wpOp_putIf hoj (hfree j oj hoj hji hjun hnot) (fun cs b => hsel i oi cs b hi) (fun cs b => hsel j oj cs b hoj) (fun c a w h => hQ _ _ _ _ h) hy h1
      have hfree' : ∀ k ok, ops[k]? = some ok → k ≠ i → (listed.setIfInBounds j true).getD k true = false →
          (∀ e ∈ ok.after, Region.binds md e = true → e.on ≠ i) → oi.apart ops ok = true := fun k ok hk hki hun hno => by
        refine hfree k ok hk hki ?_ hno
        by_cases hjk : j = k
        · subst hjk; exact hjun
        · rw [getD_set_ne true hjk] at hun; exact hun
      refine wpOp_mono (fun a' w' h3 => ?_) h2
      have hSw : S w' := h3.2.1.resolve_left hjm
      exact ⟨Or.inr hSw, ih (listed.setIfInBounds j true) a' w' (hc.set hj) hfree' (ready_mono hr (Ne.symm hji)) h3.1 hSw (by rw [Array.setIfInBounds_comm _ _ hji]; exact h3.2.2)⟩

end

/-- the state of an order, as Bools -/
def closedB (ops : Array Oper) (listed : Array Bool) : Bool :=
  (List.range ops.size).all fun j => !listed.getD j false || match ops[j]? with
    | some oj => oj.after.all fun e => !Region.binds .any e || listed.getD e.on false
    | none => true
theorem closedB_spec {ops : Array Oper} {listed : Array Bool} (h : closedB ops listed = true) : Closed .any ops listed := fun j oj hj hl e he hb => by
  have h1 := List.all_eq_true.1 h j (List.mem_range.2 (Array.getElem?_eq_some_iff.1 hj).1)
  simp only [hl, hj, Bool.not_true, Bool.false_or] at h1
  have h2 := Array.all_eq_true_iff_forall_mem.1 h1 e he
  simpa [hb] using h2

/-- what is asked when operation i is taken -/
def takeOk (ops : Array Oper) (listed : Array Bool) (i m : Nat) (path : List Nat) : Bool :=
  (Region.ready .any ops listed).contains i && Region.free .any ops listed i && closedB ops listed && (decide (ops.size ≤ m) || pathB .any ops m i path)

section
variable {P : Program} {l : List Oper} {Q : Exit → Act → World → Prop} {K : Act → World → Prop} {a : Act} {w W : World} {μ : List Nat} {L L0 : List Res} {N fuel m : Nat} {E : Env} {listed : Array Bool}

theorem wpL_drawG {id : Nat} {r : List Code} (L0 : List Res) (m : Nat) (hm : P.follows .mixedOrders = true) (hs : St μ W w L)
    (h : ∀ w, St μ W w L → wpAnyG P .any l.toArray (Exit.then (wpL P r Q) (NoP Q)) (fun w => St μ W w L0) m l.length (Array.replicate l.length false) a w) : wpL P (.region id l.toArray true :: r) Q a w := by
  refine wp_mono (Q := Exit.then (wpL P r Q) (NoP Q)) ?_ (fun e a w he => ?_)
  · refine wp_region_any hm (wpAny_of_G (S := fun w => St μ W w L0) (m := m) _ _ _ _ ?_)
    have := h _ hs.drew
    simpa using this
  · cases e with
    | normal => exact he
    | exit id => exact he
    | goto l => exact he
    | ret => exact he
    | panic c => exact absurd he (fun h => h)
    | outgrown => exact he

theorem gY {o : Oper} {i d : Nat} {v : Value} (path : List Nat) (hi : l.toArray[i]? = some o) (hsn : Region.noSelect l.toArray = true) (hok : takeOk l.toArray listed i m path = true) (hf : FrD dd a N E) (hs : St μ W w L0) (hg : o.guard = none) (hd : o.dst = some d) (hN : Nat.blt d N = true) (hy : Y P μ W L0 N E o v)
    (h : ∀ a, FrD dd a N ((d, v) :: E) → wpAnyG P .any l.toArray (Exit.then K (NoP Q)) (fun w => St μ W w L0) m fuel (listed.setIfInBounds i true) a w) : wpAnyG P .any l.toArray (Exit.then K (NoP Q)) (fun w => St μ W w L0) m (fuel + 1) listed a w := by
  simp only [takeOk, Bool.and_eq_true, Bool.or_eq_true, decide_eq_true_eq] at hok
  obtain ⟨⟨⟨hr, hfr⟩, hc⟩, hp⟩ := hok
  refine wpAnyG_first (path := path) (v := v) hi (Region.noSelect_spec hsn) (fun c a a' w h => h) hp fuel listed a w (closedB_spec hc) (Region.free_spec hi hfr) (by simpa using hr) (.inl ⟨wanted_none hg _, fun w hw => hy a w hf.toFr0 hw⟩) hs ?_
  rw [hd]
  exact h _ (hf.put hN)

theorem gRun {o : Oper} {i : Nat} (hi : l.toArray[i]? = some o) (hr : Region.ready .any l.toArray listed = [i])
    (h : wpO P l.toArray (NoP Q) (fun a w => (i = m ∨ St μ W w L0) ∧ wpAnyG P .any l.toArray (Exit.then K (NoP Q)) (fun w => St μ W w L0) m fuel (listed.setIfInBounds i true) a w) [o] a w) : wpAnyG P .any l.toArray (Exit.then K (NoP Q)) (fun w => St μ W w L0) m (fuel + 1) listed a w := by
  refine ⟨fun h0 => (by rw [hr] at h0; cases h0), fun j hj => ?_⟩
  rw [hr] at hj
  have hji : j = i := by simpa using hj
  subst hji
  unfold wpOp
  simp only [hi]
  unfold wpO wpList at h
  split
  · rename_i hw
    rw [if_pos hw] at h
    rcases h with h | ⟨h1, h2⟩
    · refine .inl ?_
      unfold Oper.wp at *
      generalize (execOp a.eval o).run P w = r at *
      cases r with
      | ok n w' =>
        cases n <;> simp only [Oper.upon] at h ⊢ <;> first
          | exact h
          | exact Calls.mono h (fun e w'' he => by cases e <;> first | exact he | (obtain ⟨a0, w0, h0⟩ := he; exact ⟨a0, w0, h0⟩))
          | exact Rows.mono h (fun _ _ he => he)
      | halt x w' => cases x <;> simp only [Oper.upon] at h ⊢ <;> exact h
    · obtain ⟨a0, w0, h0⟩ := h2
      exact .inr ⟨h1, a0, w0, h0⟩
  · rename_i hw
    rw [if_neg hw] at h
    exact h

theorem gDone (hr : Region.ready .any l.toArray listed = []) (h : K a w) : wpAnyG P .any l.toArray (Exit.then K (NoP Q)) (fun w => St μ W w L0) m 0 listed a w := ⟨hr, h⟩

end

end Go.Proofs.Ytgkgimglgjfcjaa
