/-
  Regions that draw their order and write: what reads may be taken as soon as it may come up, as long as a condition on the memory lasts; the last operation of all may break it.
-/
import Derived.Test.YtgkgimglgjfcjaaLiftW
import Derived.OrdersHeld
namespace Go.Proofs.Ytgkgimglgjfcjaa
open Go.RowKit
variable {dd : List Deferred}

section
variable {P : Program} {ops : Array Oper} {md : Region.Mode} {Q : Exit → Act → World → Prop} {S : World → Prop} {m : Nat}

def Closed (md : Region.Mode) (ops : Array Oper) (listed : Array Bool) : Prop := ∀ j oj, ops[j]? = some oj → listed.getD j false = true → ∀ e ∈ oj.after, Region.binds md e = true → listed.getD e.on false = true
theorem Closed.set {listed : Array Bool} {i : Nat} (h : Closed md ops listed) (hi : i ∈ Region.ready md ops listed) : Closed md ops (listed.setIfInBounds i true) := fun j oj hj hl e he hb => by
  obtain ⟨_, oi, hoi, hall⟩ := mem_ready.1 hi
  by_cases hij : i = j
  · subst hij
    have : oj = oi := Option.some.inj (hj.symm.trans hoi)
    subst this
    exact getD_set_true (hall e he hb)
  · rw [getD_set_ne false hij] at hl
    exact getD_set_true (h j oj hj hl e he hb)
/-- from i on each waits for the one before it, down to m -/
def pathB (md : Region.Mode) (ops : Array Oper) (m : Nat) : Nat → List Nat → Bool
  | i, [] => waitsB md ops m i
  | i, p :: r => waitsB md ops p i && pathB md ops m p r
theorem path_not {listed : Array Bool} (hc : Closed md ops listed) : ∀ (r : List Nat) (i : Nat), pathB md ops m i r = true → listed.getD i false = false → m ∉ Region.ready md ops listed
  | [], i, hp, hi, hm => by
    obtain ⟨oj, hoj, e, he, hb, hon⟩ := waitsB_spec hp
    obtain ⟨_, o, ho, hall⟩ := mem_ready.1 hm
    have : oj = o := Option.some.inj (hoj.symm.trans ho)
    subst this
    have := hall e he hb
    rw [hon, hi] at this; cases this
  | p :: r, i, hp, hi, hm => by
    simp only [pathB, Bool.and_eq_true] at hp
    refine path_not hc r p hp.2 ?_ hm
    obtain ⟨oj, hoj, e, he, hb, hon⟩ := waitsB_spec hp.1
    cases hl : listed.getD p false with
    | false => rfl
    | true =>
      have := hc p oj hoj hl e he hb
      rw [hon, hi] at this; cases this

end

/-- the state of an order, as Bools -/
def closedB (ops : Array Oper) (listed : Array Bool) : Bool :=
  (List.range ops.size).all fun j => !listed.getD j false || match ops[j]? with
    | some oj => oj.after.all fun e => !Region.binds .any e || listed.getD e.on false
    | none => true
theorem closedB_spec {ops : Array Oper} {listed : Array Bool} (h : closedB ops listed = true) : Closed .any ops listed := fun j oj hj hl e he hb => by
  have h1 := List.all_eq_true.1 h j (List.mem_range.2 (Array.getElem?_eq_some_iff.1 hj).1)
  simp only [hl, hj, Bool.not_true, Bool.false_or] at h1
  have h2 := Array.all_eq_true_iff_forall_mem.1 h1 e he
  simpa [hb] using h2

section
variable {P : Program} {l : List Oper} {Q : Exit → Act → World → Prop} {K : Act → World → Prop} {a : Act} {w W : World} {μ : List Nat} {L L0 : List Res} {N fuel m : Nat} {E : Env} {listed : Array Bool}

end

end Go.Proofs.Ytgkgimglgjfcjaa
