/-
  What stays while a call writes some old blocks; rows cut short; rows of zeros out of nothing.
-/
import Derived.Test.YtgkgimglgjfcjaaLiftR
import Derived.Lib.AppendZeros
namespace Go.Proofs.Ytgkgimglgjfcjaa
open Go.RowKit
variable {dd : List Deferred}

theorem BM.below {W w : World} (h : BM [] W w) : Below W.heap.size W w := ⟨h.os, h.tape, h.output, h.size, fun k hk => h.old k hk (by simp)⟩
/-- it reads so as long as old memory outside μ is as it was -/
def KR (μ : List Nat) (W : World) (A : Option Addr) (cells : List Value) : Prop := ∀ w, BM μ W w → Rd w A cells
theorem KR.at {μ : List Nat} {W w : World} {L : List Res} {A : Option Addr} {cells : List Value} (h : KR μ W A cells) (hs : St μ W w L) : Rd w A cells := h w hs.bm
/-- what a callee may write is ours -/
theorem St.bmPass {μ : List Nat} {W w w' : World} {L : List Res} (h : St μ W w L) (is : List Nat) (hb : BM (muL (pickL L is)) w w') : BM μ W w' := by
  refine ⟨hb.os.trans h.bm.os, hb.tape.trans h.bm.tape, hb.output.trans h.bm.output, Nat.le_trans h.bm.size hb.size, fun k hk hm => (hb.old k (Nat.lt_of_lt_of_le hk h.bm.size) fun hk' => ?_).trans (h.bm.old k hk hm)⟩
  obtain ⟨j, r, h1, h2⟩ := mem_muL.1 hk'
  obtain ⟨i, _, h3⟩ := pickL_at h1
  rcases h.own i r k h3 h2 with h4 | h4
  · omega
  · exact hm h4
theorem KR.pass {μ : List Nat} {W w : World} {L : List Res} {A : Option Addr} {cells : List Value} (h : KR μ W A cells) (hs : St μ W w L) (is : List Nat) : KR (muL (pickL L is)) w A cells := fun w' hb => h w' (hs.bmPass is hb)
theorem Rd.keep {W : World} {A : Option Addr} {cells : List Value} (h : Rd W A cells) : KR [] W A cells := fun _ hb => h.below hb.below (Nat.le_refl _)
theorem Rd.pass {W w : World} {L : List Res} {A : Option Addr} {cells : List Value} (h : Rd W A cells) (hs : St [] W w L) (is : List Nat) : KR (muL (pickL L is)) w A cells := h.keep.pass hs is
/-- a thing of one's own that the callee may not write -/
theorem St.keepB {μ : List Nat} {W w w' : World} {L : List Res} {i : Nat} {r : Res} (hs : St μ W w L) (hi : L[i]? = some r) (is : List Nat) (hni : i ∉ is) (hb : BM (muL (pickL L is)) w w') : r.holds 0 w' := by
  refine Res.holds_same (hs.res i r hi) fun b hbr => hb.old b (Res.block_lt (hs.res i r hi) hbr).2 fun hm => ?_
  obtain ⟨j, q, h1, h2⟩ := mem_muL.1 hm
  obtain ⟨i', h3, h4⟩ := pickL_at h1
  exact hs.sep i i' r q hi h4 (fun e => hni (e ▸ h3)) b hbr h2
theorem St.keepR {μ : List Nat} {W w : World} {L : List Res} {i : Nat} {A : Option Addr} {n c : Nat} {e : TypeId} {s : Nat} {xs : List Value} (hs : St μ W w L) (hi : L[i]? = some (.row A n c e s xs)) (is : List Nat) (hni : i ∉ is) : KR (muL (pickL L is)) w A xs := fun _ hb => owns_rd (hs.keepB hi is hni hb)
/-- a row is cut short -/
theorem owns_cut {lo : Nat} {w : World} {e : TypeId} {s n c k : Nat} {A : Option Addr} {xs : List Value} (h : w.ownsRow lo e s (.slice A n c) n xs) (hk : k ≤ n) : w.ownsRow lo e s (.slice A k c) k (xs.take (k * s)) := by
  have hks : k * s ≤ n * s := Nat.mul_le_mul_right _ hk
  refine ⟨by rw [List.length_take, h.1]; omega, ?_⟩
  rcases h.2 with ⟨h1, h2⟩ | ⟨g, cap, cur, h1, hg, hc, hn, hm, hz, ht⟩
  · subst h2
    obtain rfl : k = 0 := by omega
    exact .inl ⟨h1, rfl⟩
  · simp only [Value.slice.injEq] at h1
    obtain ⟨rfl, _, rfl⟩ := h1
    refine .inr ⟨g, c, cur, rfl, hg, hc, by omega, hm, hz, ?_⟩
    rw [← ht, List.take_take, Nat.min_eq_left hks]
theorem St.cutRow {μ : List Nat} {W w : World} {L : List Res} {i : Nat} {A : Option Addr} {n c k : Nat} {e : TypeId} {s : Nat} {xs : List Value} (h : St μ W w L) (hi : L[i]? = some (.row A n c e s xs)) (hk : k ≤ n) : St μ W w (L.set i (.row A k c e s (xs.take (k * s)))) := by
  refine h.change hi (EW.refl w) (fun _ _ _ => rfl) (owns_cut (h.res i _ hi) hk) fun b hb => Or.inl ?_
  cases A with
  | none => simp [Res.has, Value.ownBlock] at hb
  | some a => exact hb
theorem take_recs {α : Type} {f : α → List Value} {s : Nat} (hf : ∀ x, (f x).length = s) : ∀ (xs : List α) (k : Nat), (recs f xs).take (k * s) = recs f (xs.take k)
  | [], k => by simp [recs]
  | x :: xs, 0 => by simp [recs]
  | x :: xs, k + 1 => by
    have e : recs f (x :: xs) = f x ++ recs f xs := rfl
    have e2 : recs f ((x :: xs).take (k + 1)) = f x ++ recs f (xs.take k) := rfl
    rw [e, e2, ← take_recs hf xs k, Nat.add_mul, Nat.one_mul, Nat.add_comm, List.take_append, hf, List.take_of_length_le (by rw [hf]; omega)]
    congr 2; omega
theorem St.cutRecs {α : Type} {f : α → List Value} {s : Nat} (hf : ∀ x, (f x).length = s) {μ : List Nat} {W w : World} {L : List Res} {i : Nat} {A : Option Addr} {n c : Nat} {e : TypeId} {xs ys : List α} {l : Int} (h : St μ W w L) (hi : L[i]? = some (.row A n c e s (recs f xs))) (hn : n = xs.length) (hy : cutTo xs l = some ys) : St μ W w (L.set i (.row A l.toNat c e s (recs f ys))) := by
  obtain ⟨h1, h2, rfl⟩ := cutTo_some hy
  rw [← take_recs hf]; exact h.cutRow hi (by omega)

section
variable {P : Program} {W : World} {μ : List Nat} {L : List Res} {N : Nat} {E : Env} {o : Oper} {ops : Array Oper} {Q : Exit → Act → World → Prop} {K : Act → World → Prop} {a : Act} {w : World} {rest : List Oper}
end

end Go.Proofs.Ytgkgimglgjfcjaa
