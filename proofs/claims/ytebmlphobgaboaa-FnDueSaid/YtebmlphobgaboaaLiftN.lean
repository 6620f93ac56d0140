/-
  Code that runs in the rounds of a range over a function; the statement itself; its marks.
-/
import Derived.Test.YtebmlphobgaboaaLiftH
import Derived.RangeFuncNested
import Derived.RangeFuncLeaves
import Derived.Sort.LoopGhostIn
import Derived.OrdersIn
namespace Go.Proofs.Ytebmlphobgaboaa
open Go.RowKit
variable {dd : List Deferred}

/-- the frames of a round -/
abbrev FR (l : Nat) : Fence := Fence.wide.inRound l
def wpR (P : Program) (l : Nat) : List Code → (Exit → Act → World → Prop) → Act → World → Prop
  | [], Q, a, w => Q .normal a w
  | c :: r, Q, a, w => c.wpIn (FR l) 0 P (Exit.then (wpR P l r Q) Q) a w

/-- no way lets out -/
def NoO (Q : Exit → Act → World → Prop) : Exit → Act → World → Prop
  | .outgrown, _, _ => False
  | .panic _, _, _ => False
  | e, a, w => Q e a w
theorem NoO.to {K : Act → World → Prop} {Q : Exit → Act → World → Prop} : ∀ {e : Exit} {a : Act} {w : World}, Exit.then K (NoO Q) e a w → Exit.then K Q e a w
  | .normal, _, _, h => h
  | .exit _, _, _, h => h
  | .goto _, _, _, h => h
  | .ret, _, _, h => h
  | .panic _, _, _, h => h.elim
  | .outgrown, _, _, h => h.elim
theorem NoO.not {K : Act → World → Prop} {Q : Exit → Act → World → Prop} : ¬ LetsOut (Exit.then K (NoO Q)) := fun h => by
  obtain ⟨_, _, h⟩ := h; exact h
theorem NoP.not {K : Act → World → Prop} {Q : Exit → Act → World → Prop} : ¬ LetsOut (Exit.then K (NoP (NoO Q))) := fun h => by
  obtain ⟨_, _, h⟩ := h; exact h
theorem NoP.to {K : Act → World → Prop} {Q : Exit → Act → World → Prop} : ∀ {e : Exit} {a : Act} {w : World}, Exit.then K (NoP (NoO Q)) e a w → Exit.then K Q e a w
  | .normal, _, _, h => h
  | .exit _, _, _, h => h
  | .goto _, _, _, h => h
  | .ret, _, _, h => h
  | .panic _, _, _, h => h.elim
  | .outgrown, _, _, h => h.elim

def isDefer : Op → Bool
  | .defer _ => true
  | _ => false
def noDefer (l : List Oper) : Bool := l.all fun o => !isDefer o.op
theorem noDefer_spec {l : List Oper} (h : noDefer l = true) {o : Oper} (ho : o ∈ l) (c : Call) : o.op ≠ .defer c := fun e => by
  have := List.all_eq_true.1 h o ho
  rw [e] at this; cases this

section bridge
variable {P : Program} {ops : Array Oper} {Q : Exit → Act → World → Prop} {l : Nat}
theorem rows_in {row : String} {args : Array Value} {w : World} {R : Value → World → Prop} (h : Rows P row args w R) : RowsIn (FR l) 0 P row args w R := fun c cs _ => by
  obtain ⟨v, w', h1, h2⟩ := h c cs
  exact ⟨v, w', h1, stepsIn_wide.2 h2⟩
theorem oper_in {o : Oper} {a : Act} {w : World} {K K' : Act → World → Prop} (hn : ∀ c, o.op ≠ .defer c) (hK : ∀ a w, K a w → K' a w) (h : o.wp P a w K Q) : o.wpIn (FR l) 0 P a w K' Q := by
  unfold Oper.wp at h
  unfold Oper.wpIn
  refine ⟨fun _ _ => trivial, ?_⟩
  rw [Oper.semAt_eq _ _ _ hn]
  generalize (execOp a.eval o).run P w = r at *
  cases r with
  | ok x w' =>
    cases x <;> simp only [Oper.upon] at h <;> simp only [Oper.uponIn] <;> first
      | exact hK _ _ h
      | exact ⟨fun e => absurd e Bool.false_ne_true, CallsIn.inRound l (callsIn_wide.2 (Calls.mono h (fun e w'' he => by cases e <;> first | exact hK _ _ he | exact he)))⟩
      | exact ⟨fun e => absurd e Bool.false_ne_true, rows_in (Rows.mono h (fun _ _ he => hK _ _ he))⟩
      | exact h.elim
  | halt x w' => cases x <;> simp only [Oper.upon] at h <;> simp only [Oper.uponIn] <;> exact h
theorem list_in (hQ : ¬ LetsOut Q) : ∀ (ls : List Oper), (∀ o, o ∈ ls → ∀ c, o.op ≠ .defer c) → ∀ {a : Act} {w : World}, wpList P ops Q ls a w → wpListIn (FR l) 0 P ops Q ls a w
  | [], _, _, _, h => h
  | o :: ls, hd, a, w, h => by
    unfold wpList at h
    unfold wpListIn
    by_cases hw : Region.wanted o (yielded ops a.tmps) = true
    · rw [if_pos hw] at h ⊢
      rcases h with h | ⟨_, h⟩
      · exact oper_in (hd o (by simp)) (fun a w h => list_in hQ ls (fun o ho => hd o (by simp [ho])) h) h
      · exact absurd h hQ
    · rw [if_neg hw] at h ⊢
      exact ⟨fun _ _ => trivial, list_in hQ ls (fun o ho => hd o (by simp [ho])) h⟩
theorem any_in {ls : List Oper} (hQ : ¬ LetsOut Q) (hd : ∀ o, o ∈ ls → ∀ c, o.op ≠ .defer c) : ∀ (fuel : Nat) (listed : Array Bool) (a : Act) (w : World), wpAny P .any ls.toArray Q fuel listed a w → wpAnyIn (FR l) 0 P .any ls.toArray Q fuel listed a w
  | 0, _, _, _, h => h
  | fuel + 1, listed, a, w, h => ⟨h.1, fun i hi => by
    have h1 := h.2 i hi
    unfold wpOp at h1
    unfold wpOpIn
    split at h1
    · rename_i hn; simp only [hn]; exact any_in hQ hd fuel _ _ _ h1
    · rename_i o ho
      simp only [ho]
      have hm : o ∈ ls := by
        rw [List.getElem?_toArray] at ho
        exact List.mem_of_getElem? ho
      split at h1
      · rename_i hw
        rw [if_pos hw]
        rcases h1 with h1 | ⟨_, h1⟩
        · exact oper_in (hd o hm) (fun a w h => any_in hQ hd fuel _ a w h) h1
        · exact absurd h1 hQ
      · rename_i hw
        rw [if_neg hw]
        exact ⟨fun _ _ => trivial, any_in hQ hd fuel _ _ _ h1⟩⟩
end bridge

section codes
variable {P : Program} {l : Nat} {Q : Exit → Act → World → Prop} {a : Act} {w W : World} {r : List Code} {μ : List Nat} {L : List Res}
theorem wpR_seq {x y : Code} (h : wpR P l (x :: y :: r) Q a w) : wpR P l (.seq x y :: r) Q a w := by
  refine wpIn_seq (wpIn_mono (c := x) h fun e a w he => ?_)
  cases e <;> exact he
theorem wpR_skip (h : wpR P l r Q a w) : wpR P l (.skip :: r) Q a w := wpIn_skip h
theorem wpR_nil (h : Q .normal a w) : wpR P l [] Q a w := h
theorem wpR_cond {N : Nat} {E : Env} {c : Operand} {x y : Code} {t : Bool} (hf : FrD dd a N E) (hc : evalE E c = some (.bool t))
    (h1 : t = true → wpR P l (x :: r) Q a w) (h2 : t = false → wpR P l (y :: r) Q a w) : wpR P l (.cond c x y :: r) Q a w := by
  refine wpIn_cond (hf.eval hc) ?_
  cases t
  · exact h2 rfl
  · exact h1 rfl
theorem wpR_cut {c : Code} (R : Act → World → Prop) (h1 : wpR P l [c] (Exit.then R Q) a w) (h2 : ∀ a w, R a w → wpR P l r Q a w) : wpR P l (c :: r) Q a w := by
  refine wpIn_mono (c := c) h1 fun e a w he => ?_
  cases e with
  | normal => exact h2 _ _ he
  | exit id => exact he
  | goto l => exact he
  | ret => exact he
  | panic c => exact he
  | outgrown => exact he
theorem wpR_block {id : Nat} {c : Code} (R : Act → World → Prop) (h : wpR P l [c] (Qb id R Q) a w) (h2 : ∀ a w, R a w → wpR P l r Q a w) : wpR P l (.block id c :: r) Q a w := by
  refine wpIn_block (wpIn_mono (c := c) h fun e a w he => ?_)
  cases e with
  | normal => exact h2 _ _ he
  | exit i =>
    by_cases e : i = id
    · subst e
      simp only [Exit.inBlock, if_true]
      have he' : (if i = i then R a w else Q (.exit i) a w) := he
      rw [if_pos rfl] at he'
      exact h2 _ _ he'
    · simp only [Exit.inBlock, if_neg e]
      have he' : (if i = id then R a w else Q (.exit i) a w) := he
      rw [if_neg e] at he'
      exact he'
  | goto l => exact he
  | ret => exact he
  | panic c => exact he
  | outgrown => exact he
theorem wpR_block0 {id : Nat} {c : Code} (h : wpR P l [c] (Qb id (wpR P l r Q) Q) a w) : wpR P l (.block id c :: r) Q a w := wpR_block _ h (fun _ _ h => h)
theorem wpR_loop {c : Code} (I : Nat → Act → World → Prop) (n : Nat) (h0 : I n a w) (hz : ∀ a w, ¬ I 0 a w)
    (hs : ∀ n a w, I (n + 1) a w → wpR P l [c] (Ql (I n) Q) a w) : wpR P l (.loop c :: r) Q a w := by
  refine wpIn_loop_ghost I n h0 fun n a w h => ?_
  cases n with
  | zero => exact absurd h (hz a w)
  | succ n =>
    refine wpIn_mono (c := c) (hs n a w h) fun e a w he => ?_
    cases e with
    | normal => exact ⟨n, Nat.lt_succ_self n, he⟩
    | exit id => exact he
    | goto l => exact he
    | ret => exact he
    | panic c => exact he
    | outgrown => exact he
theorem wpR_exit {id : Nat} (h : Q (.exit id) a w) : wpR P l (.exit id :: r) Q a w := wpIn_exit h
theorem wpR_region {id : Nat} {ls : List Oper} (hd : noDefer ls = true) (h : wpO P ls.toArray (NoO Q) (wpR P l r Q) ls a w) : wpR P l (.region id ls.toArray false :: r) Q a w :=
  wpIn_mono (Q := Exit.then (wpR P l r Q) (NoO Q)) (wpIn_region_lit (list_in NoO.not ls (fun _ ho => noDefer_spec hd ho) h)) (fun _ _ _ h => NoO.to h)
theorem wpR_drawM {id : Nat} {ls : List Oper} (L0 : List Res) (M : List Nat) (hd : noDefer ls = true) (hm : P.follows .mixedOrders = true) (hs : St μ W w L)
    (h : ∀ w, St μ W w L → wpAnyM P .any ls.toArray (Exit.then (wpR P l r Q) (NoP (NoO Q))) (fun w => St μ W w L0) M ls.length (Array.replicate ls.length false) a w) : wpR P l (.region id ls.toArray true :: r) Q a w := by
  refine wpIn_mono (Q := Exit.then (wpR P l r Q) (NoP (NoO Q))) ?_ (fun _ _ _ h => NoP.to h)
  refine wpIn_region_any hm (any_in NoP.not (fun _ ho => noDefer_spec hd ho) _ _ _ _ (wpAny_of_M (S := fun w => St μ W w L0) (M := M) _ _ _ _ ?_))
  have := h _ hs.drew
  simpa using this
end codes

end Go.Proofs.Ytebmlphobgaboaa
