/-
  Regions that draw their order, where several operations may break what the readers rely on: each reader comes before all of these; what reads no memory may come at any time.
-/
import Derived.Test.YtgkgimglgjfcjaaLiftT
namespace Go.Proofs.Ytgkgimglgjfcjaa
open Go.RowKit
variable {dd : List Deferred}

section
variable {P : Program} {ops : Array Oper} {md : Region.Mode} {Q : Exit → Act → World → Prop} {S : World → Prop} {M : List Nat}

/-- whatever order is picked; what is not of M keeps S -/
def wpAnyM (P : Program) (md : Region.Mode) (ops : Array Oper) (Q : Exit → Act → World → Prop) (S : World → Prop) (M : List Nat) : Nat → Array Bool → Act → World → Prop
  | 0, listed, a, w => Region.ready md ops listed = [] ∧ Q .normal a w
  | fuel + 1, listed, a, w => (Region.ready md ops listed = [] → Q .normal a w) ∧ ∀ i ∈ Region.ready md ops listed, wpOp P ops Q i (fun a' w' => (i ∈ M ∨ (S w → S w')) ∧ wpAnyM P md ops Q S M fuel (listed.setIfInBounds i true) a' w') a w

theorem wpAny_of_M : ∀ (fuel : Nat) (listed : Array Bool) (a : Act) (w : World), wpAnyM P md ops Q S M fuel listed a w → wpAny P md ops Q fuel listed a w
  | 0, _, _, _, h => h
  | fuel + 1, _, _, _, h => ⟨h.1, fun i hi => wpOp_mono (fun a' w' h' => wpAny_of_M fuel _ a' w' h'.2) (h.2 i hi)⟩

def pathsB (md : Region.Mode) (ops : Array Oper) (i : Nat) : List Nat → List (List Nat) → Bool
  | [], _ => true
  | m :: M, p :: ps => pathB md ops m i p && pathsB md ops i M ps
  | _ :: _, [] => false
theorem paths_not {listed : Array Bool} (hc : Closed md ops listed) {i : Nat} : ∀ {M : List Nat} {ps : List (List Nat)}, pathsB md ops i M ps = true → listed.getD i false = false → ∀ j, j ∈ M → j ∉ Region.ready md ops listed
  | [], _, _, _, j, hj => by cases hj
  | m :: M, [], h, _, _, _ => by cases h
  | m :: M, p :: ps, h, hi, j, hj => by
    simp only [pathsB, Bool.and_eq_true] at h
    rcases List.mem_cons.1 hj with rfl | hj
    · exact path_not hc p i h.1 hi
    · exact paths_not hc h.2 hi j hj

/-- T: what the reader relies on; at each step that may come before it T must last -/
theorem wpAnyM_first {T : World → Prop} {i : Nat} {oi : Oper} {v : Value} (hi : ops[i]? = some oi) (hsel : ∀ (j : Nat) (o : Oper) cs b, ops[j]? = some o → o.op ≠ .select cs b) (hQ : ∀ c a a' w, Q (.panic c) a w → Q (.panic c) a' w)
    (hT : ∀ (listed : Array Bool) (j : Nat) (w w' : World), Closed md ops listed → listed.getD i false = false → j ∈ Region.ready md ops listed → (j ∈ M ∨ (S w → S w')) → T w → T w') :
    ∀ (fuel : Nat) (listed : Array Bool) (a : Act) (w : World), Closed md ops listed →
      (∀ j oj, ops[j]? = some oj → j ≠ i → listed.getD j true = false → (∀ e ∈ oj.after, Region.binds md e = true → e.on ≠ i) → oi.apart ops oj = true) →
      i ∈ Region.ready md ops listed → YieldsIf P ops T oi v a → T w →
      wpAnyM P md ops Q S M fuel (listed.setIfInBounds i true) (a.put oi.dst v) w → wpAnyM P md ops Q S M (fuel + 1) listed a w := by
  intro fuel
  induction fuel with
  | zero =>
    intro listed a w _ _ hr hy hS H
    refine ⟨fun h => (by rw [h] at hr; cases hr), fun j hj => ?_⟩
    by_cases hji : j = i
    · subst hji; exact hy.wpOp hi hS ⟨Or.inr fun h => h, H⟩
    · have := ready_mono hj hji
      rw [H.1] at this
      cases this
  | succ fuel ih =>
    intro listed a w hc hfree hr hy hS H
    refine ⟨fun h => (by rw [h] at hr; cases hr), fun j hj => ?_⟩
    by_cases hji : j = i
    · subst hji; exact hy.wpOp hi hS ⟨Or.inr fun h => h, H⟩
    · have h1 := H.2 j (ready_mono hj hji)
      obtain ⟨hjun, oj, hoj, hall⟩ := mem_ready.1 hj
      have hiun := getD_bothL (mem_ready.1 hr).1
      have hnot : ∀ e ∈ oj.after, Region.binds md e = true → e.on ≠ i := fun e he hb heq => by
        have h1 := hall e he hb
        rw [heq, hiun] at h1
        cases h1
      have h2 := wpOp_putIf hoj (hfree j oj hoj hji hjun hnot) (fun cs b => hsel i oi cs b hi) (fun cs b => hsel j oj cs b hoj) (fun c a w h => hQ _ _ _ _ h) hy h1
      have hfree' : ∀ k ok, ops[k]? = some ok → k ≠ i → (listed.setIfInBounds j true).getD k true = false →
          (∀ e ∈ ok.after, Region.binds md e = true → e.on ≠ i) → oi.apart ops ok = true := fun k ok hk hki hun hno => by
        refine hfree k ok hk hki ?_ hno
        by_cases hjk : j = k
        · subst hjk; exact hjun
        · rw [getD_set_ne true hjk] at hun; exact hun
      refine wpOp_mono (fun a' w' h3 => ?_) h2
      have hTw : T w' := hT listed j w w' hc hiun hj h3.2.1 hS
      exact ⟨h3.2.1, ih (listed.setIfInBounds j true) a' w' (hc.set hj) hfree' (ready_mono hr (Ne.symm hji)) h3.1 hTw (by rw [Array.setIfInBounds_comm _ _ hji]; exact h3.2.2)⟩
end

/-- what is asked when operation i is taken -/
def takeOkM (ops : Array Oper) (listed : Array Bool) (i : Nat) (M : List Nat) (ps : List (List Nat)) : Bool :=
  (Region.ready .any ops listed).contains i && Region.free .any ops listed i && closedB ops listed && pathsB .any ops i M ps
def takeOkP (ops : Array Oper) (listed : Array Bool) (i : Nat) : Bool :=
  (Region.ready .any ops listed).contains i && Region.free .any ops listed i && closedB ops listed

section
variable {P : Program} {l : List Oper} {Q : Exit → Act → World → Prop} {K : Act → World → Prop} {a : Act} {w W : World} {μ : List Nat} {L L0 : List Res} {N fuel : Nat} {M : List Nat} {E : Env} {listed : Array Bool}

theorem wpL_drawM {id : Nat} {r : List Code} (L0 : List Res) (M : List Nat) (hm : P.follows .mixedOrders = true) (hs : St μ W w L)
    (h : ∀ w, St μ W w L → wpAnyM P .any l.toArray (Exit.then (wpL P r Q) (NoP Q)) (fun w => St μ W w L0) M l.length (Array.replicate l.length false) a w) : wpL P (.region id l.toArray true :: r) Q a w := by
  refine wp_mono (Q := Exit.then (wpL P r Q) (NoP Q)) ?_ (fun e a w he => ?_)
  · refine wp_region_any hm (wpAny_of_M (S := fun w => St μ W w L0) (M := M) _ _ _ _ ?_)
    have := h _ hs.drew
    simpa using this
  · cases e with
    | normal => exact he
    | exit id => exact he
    | goto l => exact he
    | ret => exact he
    | panic c => exact absurd he (fun h => h)
    | outgrown => exact he

theorem mY {o : Oper} {i d : Nat} {v : Value} (ps : List (List Nat)) (hi : l.toArray[i]? = some o) (hsn : Region.noSelect l.toArray = true) (hok : takeOkM l.toArray listed i M ps = true) (hf : FrD dd a N E) (hs : St μ W w L0) (hg : o.guard = none) (hd : o.dst = some d) (hN : Nat.blt d N = true) (hy : Y P μ W L0 N E o v)
    (h : ∀ a, FrD dd a N ((d, v) :: E) → wpAnyM P .any l.toArray (Exit.then K (NoP Q)) (fun w => St μ W w L0) M fuel (listed.setIfInBounds i true) a w) : wpAnyM P .any l.toArray (Exit.then K (NoP Q)) (fun w => St μ W w L0) M (fuel + 1) listed a w := by
  simp only [takeOkM, Bool.and_eq_true] at hok
  obtain ⟨⟨⟨hr, hfr⟩, hc⟩, hp⟩ := hok
  refine wpAnyM_first (T := fun w => St μ W w L0) (v := v) hi (Region.noSelect_spec hsn) (fun c a a' w h => h) (fun listed j w w' hc hiun hj h3 hS => ?_) fuel listed a w (closedB_spec hc) (Region.free_spec hi hfr) (by simpa using hr) (.inl ⟨wanted_none hg _, fun w hw => hy a w hf.toFr0 hw⟩) hs ?_
  · exact (h3.resolve_left fun hM => paths_not hc hp hiun j hM hj) hS
  · rw [hd]
    exact h _ (hf.put hN)
/-- what reads no memory -/
theorem mYp {o : Oper} {i d : Nat} {v : Value} (hi : l.toArray[i]? = some o) (hsn : Region.noSelect l.toArray = true) (hok : takeOkP l.toArray listed i = true) (hf : FrD dd a N E) (hg : o.guard = none) (hd : o.dst = some d) (hN : Nat.blt d N = true) (hy : ∀ w, Y P [] w [] N E o v)
    (h : ∀ a, FrD dd a N ((d, v) :: E) → wpAnyM P .any l.toArray (Exit.then K (NoP Q)) (fun w => St μ W w L0) M fuel (listed.setIfInBounds i true) a w) : wpAnyM P .any l.toArray (Exit.then K (NoP Q)) (fun w => St μ W w L0) M (fuel + 1) listed a w := by
  simp only [takeOkP, Bool.and_eq_true] at hok
  obtain ⟨⟨hr, hfr⟩, hc⟩ := hok
  refine wpAnyM_first (T := fun _ => True) (v := v) hi (Region.noSelect_spec hsn) (fun c a a' w h => h) (fun _ _ _ _ _ _ _ _ _ => trivial) fuel listed a w (closedB_spec hc) (Region.free_spec hi hfr) (by simpa using hr) (.inl ⟨wanted_none hg _, fun w _ => hy w a w hf.toFr0 (St.start w)⟩) trivial ?_
  rw [hd]
  exact h _ (hf.put hN)

theorem mOp {o : Oper} {i : Nat} {w0 : World} (hi : l.toArray[i]? = some o)
    (h : wpO P l.toArray (NoP Q) (fun a w => (i ∈ M ∨ (St μ W w0 L0 → St μ W w L0)) ∧ wpAnyM P .any l.toArray (Exit.then K (NoP Q)) (fun w => St μ W w L0) M fuel (listed.setIfInBounds i true) a w) [o] a w) :
    wpOp P l.toArray (Exit.then K (NoP Q)) i (fun a' w' => (i ∈ M ∨ (St μ W w0 L0 → St μ W w' L0)) ∧ wpAnyM P .any l.toArray (Exit.then K (NoP Q)) (fun w => St μ W w L0) M fuel (listed.setIfInBounds i true) a' w') a w := by
  unfold wpOp
  simp only [hi]
  unfold wpO wpList at h
  split
  · rename_i hw
    rw [if_pos hw] at h
    rcases h with h | ⟨h1, h2⟩
    · refine .inl ?_
      unfold Oper.wp at *
      generalize (execOp a.eval o).run P w = r at *
      cases r with
      | ok n w' =>
        cases n <;> simp only [Oper.upon] at h ⊢ <;> first
          | exact h
          | exact Calls.mono h (fun e w'' he => by cases e <;> first | exact he | (obtain ⟨a0, w0, h0⟩ := he; exact ⟨a0, w0, h0⟩))
          | exact Rows.mono h (fun _ _ he => he)
      | halt x w' => cases x <;> simp only [Oper.upon] at h ⊢ <;> exact h
    · obtain ⟨a0, w0, h0⟩ := h2
      exact .inr ⟨h1, a0, w0, h0⟩
  · rename_i hw
    rw [if_neg hw] at h
    exact h
theorem mRun {o : Oper} {i : Nat} (hi : l.toArray[i]? = some o) (hr : Region.ready .any l.toArray listed = [i])
    (h : wpO P l.toArray (NoP Q) (fun a w' => (i ∈ M ∨ (St μ W w L0 → St μ W w' L0)) ∧ wpAnyM P .any l.toArray (Exit.then K (NoP Q)) (fun w => St μ W w L0) M fuel (listed.setIfInBounds i true) a w') [o] a w) : wpAnyM P .any l.toArray (Exit.then K (NoP Q)) (fun w => St μ W w L0) M (fuel + 1) listed a w := by
  refine ⟨fun h0 => (by rw [hr] at h0; cases h0), fun j hj => ?_⟩
  rw [hr] at hj
  have hji : j = i := by simpa using hj
  subst hji
  exact mOp hi h
theorem mRun2 {o o' : Oper} {i j : Nat} (hi : l.toArray[i]? = some o) (hj : l.toArray[j]? = some o') (hr : Region.ready .any l.toArray listed = [i, j])
    (h : wpO P l.toArray (NoP Q) (fun a w' => (i ∈ M ∨ (St μ W w L0 → St μ W w' L0)) ∧ wpAnyM P .any l.toArray (Exit.then K (NoP Q)) (fun w => St μ W w L0) M fuel (listed.setIfInBounds i true) a w') [o] a w)
    (h' : wpO P l.toArray (NoP Q) (fun a w' => (j ∈ M ∨ (St μ W w L0 → St μ W w' L0)) ∧ wpAnyM P .any l.toArray (Exit.then K (NoP Q)) (fun w => St μ W w L0) M fuel (listed.setIfInBounds j true) a w') [o'] a w) :
    wpAnyM P .any l.toArray (Exit.then K (NoP Q)) (fun w => St μ W w L0) M (fuel + 1) listed a w := by
  refine ⟨fun h0 => (by rw [hr] at h0; cases h0), fun q hq => ?_⟩
  rw [hr] at hq
  simp only [List.mem_cons, List.not_mem_nil, or_false] at hq
  rcases hq with rfl | rfl
  · exact mOp hi h
  · exact mOp hj h'
theorem mDone (hr : Region.ready .any l.toArray listed = []) (h : K a w) : wpAnyM P .any l.toArray (Exit.then K (NoP Q)) (fun w => St μ W w L0) M 0 listed a w := ⟨hr, h⟩
end

/-! ### Is a result nothing? -/
def nonE {α : Type} (xs : List α) : Option Unit := if xs.isEmpty then none else some ()
theorem nonE_some {α : Type} {xs : List α} {u : Unit} (h : nonE xs = some u) : xs ≠ [] := by
  rintro rfl; cases h
theorem St.nilInts {μ : List Nat} {W w : World} {L : List Res} {i : Nat} {A : Option Addr} {n c : Nat} {e : TypeId} {xs : List Int} (hs : St μ W w L) (hL : L[i]? = some (.row A n c e 1 (ints xs))) (hn : n = xs.length) (hz : xs = [] → A = none) : A.isNone = xs.isEmpty := by
  cases xs with
  | nil => rw [hz rfl]; rfl
  | cons x xs =>
    rcases (hs.res i _ hL).2 with ⟨h1, h2⟩ | ⟨g, cap, cur, h1, _⟩
    · rw [h2] at hn; simp at hn
    · simp only [Value.slice.injEq] at h1
      rw [h1.1]; rfl
section
variable {P : Program} {W : World} {μ : List Nat} {L : List Res} {N : Nat} {E : Env} {o : Oper}
theorem Y_neqnilO {t yt e : TypeId} {x y : Operand} {A : Option Addr} {n c : Nat} {b : Bool} (ho : o.op = .binOp .neq t x y yt) (hx : evalE E x = some (.slice A n c)) (hy : evalE E y = some (.slice none 0 0)) (ht : P.underlying t = some (.slice e)) (hb : A.isNone = b) : Y P μ W L N E o (.bool (!b)) := fun a w hf _ => by
  have h := eq_slice_nil (P := P) (w := w) (A := A) (n := n) (c := c) ht
  rw [hb] at h
  simp [execOp, ho, hf.eval hx, hf.eval hy, eqGuard, binOp, h]
end

end Go.Proofs.Ytgkgimglgjfcjaa
