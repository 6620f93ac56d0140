/-
  What stays while a call writes some old blocks; rows cut short; rows of zeros out of nothing.
-/
import Derived.Test.YtebmlphobgaboabLiftR
import Derived.Lib.AppendZeros
namespace Go.Proofs.Ytebmlphobgaboab
open Go.RowKit
variable {dd : List Deferred}

theorem BM.below {W w : World} (h : BM [] W w) : Below W.heap.size W w := ⟨h.os, h.tape, h.output, h.size, fun k hk => h.old k hk (by simp)⟩
/-- it reads so as long as old memory outside μ is as it was -/
def KR (μ : List Nat) (W : World) (A : Option Addr) (cells : List Value) : Prop := ∀ w, BM μ W w → Rd w A cells
theorem KR.at {μ : List Nat} {W w : World} {L : List Res} {A : Option Addr} {cells : List Value} (h : KR μ W A cells) (hs : St μ W w L) : Rd w A cells := h w hs.bm
/-- what a callee may write is ours -/
theorem St.bmPass {μ : List Nat} {W w w' : World} {L : List Res} (h : St μ W w L) (is : List Nat) (hb : BM (muL (pickL L is)) w w') : BM μ W w' := by
  refine ⟨hb.os.trans h.bm.os, hb.tape.trans h.bm.tape, hb.output.trans h.bm.output, Nat.le_trans h.bm.size hb.size, fun k hk hm => (hb.old k (Nat.lt_of_lt_of_le hk h.bm.size) fun hk' => ?_).trans (h.bm.old k hk hm)⟩
  obtain ⟨j, r, h1, h2⟩ := mem_muL.1 hk'
  obtain ⟨i, _, h3⟩ := pickL_at h1
  rcases h.own i r k h3 h2 with h4 | h4
  · omega
  · exact hm h4
theorem KR.pass {μ : List Nat} {W w : World} {L : List Res} {A : Option Addr} {cells : List Value} (h : KR μ W A cells) (hs : St μ W w L) (is : List Nat) : KR (muL (pickL L is)) w A cells := fun w' hb => h w' (hs.bmPass is hb)
theorem Rd.keep {W : World} {A : Option Addr} {cells : List Value} (h : Rd W A cells) : KR [] W A cells := fun _ hb => h.below hb.below (Nat.le_refl _)
theorem Rd.pass {W w : World} {L : List Res} {A : Option Addr} {cells : List Value} (h : Rd W A cells) (hs : St [] W w L) (is : List Nat) : KR (muL (pickL L is)) w A cells := h.keep.pass hs is
/-- a thing of one's own that the callee may not write -/
theorem St.keepB {μ : List Nat} {W w w' : World} {L : List Res} {i : Nat} {r : Res} (hs : St μ W w L) (hi : L[i]? = some r) (is : List Nat) (hni : i ∉ is) (hb : BM (muL (pickL L is)) w w') : r.holds 0 w' := by
  refine Res.holds_same (hs.res i r hi) fun b hbr => hb.old b (Res.block_lt (hs.res i r hi) hbr).2 fun hm => ?_
  obtain ⟨j, q, h1, h2⟩ := mem_muL.1 hm
  obtain ⟨i', h3, h4⟩ := pickL_at h1
  exact hs.sep i i' r q hi h4 (fun e => hni (e ▸ h3)) b hbr h2
theorem St.keepR {μ : List Nat} {W w : World} {L : List Res} {i : Nat} {A : Option Addr} {n c : Nat} {e : TypeId} {s : Nat} {xs : List Value} (hs : St μ W w L) (hi : L[i]? = some (.row A n c e s xs)) (is : List Nat) (hni : i ∉ is) : KR (muL (pickL L is)) w A xs := fun _ hb => owns_rd (hs.keepB hi is hni hb)
section
variable {P : Program} {W : World} {μ : List Nat} {L : List Res} {N : Nat} {E : Env} {o : Oper} {ops : Array Oper} {Q : Exit → Act → World → Prop} {K : Act → World → Prop} {a : Act} {w : World} {rest : List Oper}
end

end Go.Proofs.Ytebmlphobgaboab
