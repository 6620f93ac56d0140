/-
  What stays while a call writes some old blocks; rows cut short; rows of zeros out of nothing.
-/
import Derived.Test.YtgkgimglgjfcjaaLiftR
import Derived.Lib.AppendZeros
namespace Go.Proofs.Ytgkgimglgjfcjaa
open Go.RowKit
variable {dd : List Deferred}

theorem BM.refl (μ : List Nat) (W : World) : BM μ W W := ⟨rfl, rfl, rfl, Nat.le_refl _, fun _ _ _ => rfl⟩
theorem BM.below {W w : World} (h : BM [] W w) : Below W.heap.size W w := ⟨h.os, h.tape, h.output, h.size, fun k hk => h.old k hk (by simp)⟩
/-- it reads so as long as old memory outside μ is as it was -/
def KR (μ : List Nat) (W : World) (A : Option Addr) (cells : List Value) : Prop := ∀ w, BM μ W w → Rd w A cells
theorem KR.at {μ : List Nat} {W w : World} {L : List Res} {A : Option Addr} {cells : List Value} (h : KR μ W A cells) (hs : St μ W w L) : Rd w A cells := h w hs.bm
theorem KR.here {μ : List Nat} {W : World} {A : Option Addr} {cells : List Value} (h : KR μ W A cells) : Rd W A cells := h W (BM.refl _ _)
def KM (μ : List Nat) (W : World) (A : Option Addr) (rows : List (List Int)) : Prop :=
  ∃ vs : List Value, KR μ W A vs ∧ ∀ (i : Nat) (row : List Int), rows[i]? = some row → ∃ (R : Option Addr) (c : Nat), vs[i]? = some (Value.slice R row.length c) ∧ KR μ W R (ints row)
theorem KM.at {μ : List Nat} {W w : World} {L : List Res} {A : Option Addr} {rows : List (List Int)} (h : KM μ W A rows) (hs : St μ W w L) : RdM w A rows := by
  obtain ⟨vs, h1, h2⟩ := h
  exact ⟨vs, h1.at hs, fun i row hr => by obtain ⟨R, c, h3, h4⟩ := h2 i row hr; exact ⟨R, c, h3, h4.at hs⟩⟩
def KC (μ : List Nat) (W : World) (A : Option Addr) (ms : List (List (List Int))) : Prop :=
  ∃ vs : List Value, KR μ W A vs ∧ ∀ (i : Nat) (m : List (List Int)), ms[i]? = some m → ∃ (R : Option Addr) (c : Nat), vs[i]? = some (Value.slice R m.length c) ∧ KM μ W R m
theorem KC.at {μ : List Nat} {W w : World} {L : List Res} {A : Option Addr} {ms : List (List (List Int))} (h : KC μ W A ms) (hs : St μ W w L) : RdC w A ms := by
  obtain ⟨vs, h1, h2⟩ := h
  exact ⟨vs, h1.at hs, fun i row hr => by obtain ⟨R, c, h3, h4⟩ := h2 i row hr; exact ⟨R, c, h3, h4.at hs⟩⟩

/-- what a callee may write is ours -/
theorem St.bmPass {μ : List Nat} {W w w' : World} {L : List Res} (h : St μ W w L) (is : List Nat) (hb : BM (muL (pickL L is)) w w') : BM μ W w' := by
  refine ⟨hb.os.trans h.bm.os, hb.tape.trans h.bm.tape, hb.output.trans h.bm.output, Nat.le_trans h.bm.size hb.size, fun k hk hm => (hb.old k (Nat.lt_of_lt_of_le hk h.bm.size) fun hk' => ?_).trans (h.bm.old k hk hm)⟩
  obtain ⟨j, r, h1, h2⟩ := mem_muL.1 hk'
  obtain ⟨i, _, h3⟩ := pickL_at h1
  rcases h.own i r k h3 h2 with h4 | h4
  · omega
  · exact hm h4
theorem KR.pass {μ : List Nat} {W w : World} {L : List Res} {A : Option Addr} {cells : List Value} (h : KR μ W A cells) (hs : St μ W w L) (is : List Nat) : KR (muL (pickL L is)) w A cells := fun w' hb => h w' (hs.bmPass is hb)
theorem KM.pass {μ : List Nat} {W w : World} {L : List Res} {A : Option Addr} {rows : List (List Int)} (h : KM μ W A rows) (hs : St μ W w L) (is : List Nat) : KM (muL (pickL L is)) w A rows := by
  obtain ⟨vs, h1, h2⟩ := h
  exact ⟨vs, h1.pass hs is, fun i row hr => by obtain ⟨R, c, h3, h4⟩ := h2 i row hr; exact ⟨R, c, h3, h4.pass hs is⟩⟩
theorem KC.pass {μ : List Nat} {W w : World} {L : List Res} {A : Option Addr} {ms : List (List (List Int))} (h : KC μ W A ms) (hs : St μ W w L) (is : List Nat) : KC (muL (pickL L is)) w A ms := by
  obtain ⟨vs, h1, h2⟩ := h
  exact ⟨vs, h1.pass hs is, fun i row hr => by obtain ⟨R, c, h3, h4⟩ := h2 i row hr; exact ⟨R, c, h3, h4.pass hs is⟩⟩
theorem Rd.keep {W : World} {A : Option Addr} {cells : List Value} (h : Rd W A cells) : KR [] W A cells := fun _ hb => h.below hb.below (Nat.le_refl _)
theorem RdM.keep {W : World} {A : Option Addr} {rows : List (List Int)} (h : RdM W A rows) : KM [] W A rows := by
  obtain ⟨vs, h1, h2⟩ := h
  exact ⟨vs, h1.keep, fun i row hr => by obtain ⟨R, c, h3, h4⟩ := h2 i row hr; exact ⟨R, c, h3, h4.keep⟩⟩
theorem RdC.keep {W : World} {A : Option Addr} {ms : List (List (List Int))} (h : RdC W A ms) : KC [] W A ms := by
  obtain ⟨vs, h1, h2⟩ := h
  exact ⟨vs, h1.keep, fun i row hr => by obtain ⟨R, c, h3, h4⟩ := h2 i row hr; exact ⟨R, c, h3, h4.keep⟩⟩
theorem Rd.pass {W w : World} {L : List Res} {A : Option Addr} {cells : List Value} (h : Rd W A cells) (hs : St [] W w L) (is : List Nat) : KR (muL (pickL L is)) w A cells := h.keep.pass hs is
theorem RdM.pass {W w : World} {L : List Res} {A : Option Addr} {rows : List (List Int)} (h : RdM W A rows) (hs : St [] W w L) (is : List Nat) : KM (muL (pickL L is)) w A rows := h.keep.pass hs is
theorem RdC.pass {W w : World} {L : List Res} {A : Option Addr} {ms : List (List (List Int))} (h : RdC W A ms) (hs : St [] W w L) (is : List Nat) : KC (muL (pickL L is)) w A ms := h.keep.pass hs is
/-- a thing of one's own that the callee may not write -/
theorem St.keepB {μ : List Nat} {W w w' : World} {L : List Res} {i : Nat} {r : Res} (hs : St μ W w L) (hi : L[i]? = some r) (is : List Nat) (hni : i ∉ is) (hb : BM (muL (pickL L is)) w w') : r.holds 0 w' := by
  refine Res.holds_same (hs.res i r hi) fun b hbr => hb.old b (Res.block_lt (hs.res i r hi) hbr).2 fun hm => ?_
  obtain ⟨j, q, h1, h2⟩ := mem_muL.1 hm
  obtain ⟨i', h3, h4⟩ := pickL_at h1
  exact hs.sep i i' r q hi h4 (fun e => hni (e ▸ h3)) b hbr h2
theorem St.keepR {μ : List Nat} {W w : World} {L : List Res} {i : Nat} {A : Option Addr} {n c : Nat} {e : TypeId} {s : Nat} {xs : List Value} (hs : St μ W w L) (hi : L[i]? = some (.row A n c e s xs)) (is : List Nat) (hni : i ∉ is) : KR (muL (pickL L is)) w A xs := fun _ hb => owns_rd (hs.keepB hi is hni hb)
theorem KR.nil (μ : List Nat) (W : World) (A : Option Addr) : KR μ W A [] := fun w _ => Rd.nil w A

/-- a row is cut short -/
theorem owns_cut {lo : Nat} {w : World} {e : TypeId} {s n c k : Nat} {A : Option Addr} {xs : List Value} (h : w.ownsRow lo e s (.slice A n c) n xs) (hk : k ≤ n) : w.ownsRow lo e s (.slice A k c) k (xs.take (k * s)) := by
  have hks : k * s ≤ n * s := Nat.mul_le_mul_right _ hk
  refine ⟨by rw [List.length_take, h.1]; omega, ?_⟩
  rcases h.2 with ⟨h1, h2⟩ | ⟨g, cap, cur, h1, hg, hc, hn, hm, hz, ht⟩
  · subst h2
    obtain rfl : k = 0 := by omega
    exact .inl ⟨h1, rfl⟩
  · simp only [Value.slice.injEq] at h1
    obtain ⟨rfl, _, rfl⟩ := h1
    refine .inr ⟨g, c, cur, rfl, hg, hc, by omega, hm, hz, ?_⟩
    rw [← ht, List.take_take, Nat.min_eq_left hks]
theorem St.cutRow {μ : List Nat} {W w : World} {L : List Res} {i : Nat} {A : Option Addr} {n c k : Nat} {e : TypeId} {s : Nat} {xs : List Value} (h : St μ W w L) (hi : L[i]? = some (.row A n c e s xs)) (hk : k ≤ n) : St μ W w (L.set i (.row A k c e s (xs.take (k * s)))) := by
  refine h.change hi (EW.refl w) (fun _ _ _ => rfl) (owns_cut (h.res i _ hi) hk) fun b hb => Or.inl ?_
  cases A with
  | none => simp [Res.has, Value.ownBlock] at hb
  | some a => exact hb
theorem take_ints (xs : List Int) (k : Nat) : (ints xs).take (k * 1) = ints (xs.take k) := by unfold ints; rw [Nat.mul_one, List.map_take]
theorem take_bools (xs : List Bool) (k : Nat) : (bools xs).take (k * 1) = bools (xs.take k) := by unfold bools; rw [Nat.mul_one, List.map_take]
theorem take_recs {α : Type} {f : α → List Value} {s : Nat} (hf : ∀ x, (f x).length = s) : ∀ (xs : List α) (k : Nat), (recs f xs).take (k * s) = recs f (xs.take k)
  | [], k => by simp [recs]
  | x :: xs, 0 => by simp [recs]
  | x :: xs, k + 1 => by
    have e : recs f (x :: xs) = f x ++ recs f xs := rfl
    have e2 : recs f ((x :: xs).take (k + 1)) = f x ++ recs f (xs.take k) := rfl
    rw [e, e2, ← take_recs hf xs k, Nat.add_mul, Nat.one_mul, Nat.add_comm, List.take_append, hf, List.take_of_length_le (by rw [hf]; omega)]
    congr 2; omega
/-- the cut row, in the words of its list -/
theorem St.cutInts {μ : List Nat} {W w : World} {L : List Res} {i : Nat} {A : Option Addr} {n c : Nat} {e : TypeId} {xs ys : List Int} {l : Int} (h : St μ W w L) (hi : L[i]? = some (.row A n c e 1 (ints xs))) (hn : n = xs.length) (hy : cutTo xs l = some ys) : St μ W w (L.set i (.row A l.toNat c e 1 (ints ys))) := by
  obtain ⟨h1, h2, rfl⟩ := cutTo_some hy
  rw [← take_ints]; exact h.cutRow hi (by omega)
theorem St.cutBools {μ : List Nat} {W w : World} {L : List Res} {i : Nat} {A : Option Addr} {n c : Nat} {e : TypeId} {xs ys : List Bool} {l : Int} (h : St μ W w L) (hi : L[i]? = some (.row A n c e 1 (bools xs))) (hn : n = xs.length) (hy : cutTo xs l = some ys) : St μ W w (L.set i (.row A l.toNat c e 1 (bools ys))) := by
  obtain ⟨h1, h2, rfl⟩ := cutTo_some hy
  rw [← take_bools]; exact h.cutRow hi (by omega)
theorem St.cutRecs {α : Type} {f : α → List Value} {s : Nat} (hf : ∀ x, (f x).length = s) {μ : List Nat} {W w : World} {L : List Res} {i : Nat} {A : Option Addr} {n c : Nat} {e : TypeId} {xs ys : List α} {l : Int} (h : St μ W w L) (hi : L[i]? = some (.row A n c e s (recs f xs))) (hn : n = xs.length) (hy : cutTo xs l = some ys) : St μ W w (L.set i (.row A l.toNat c e s (recs f ys))) := by
  obtain ⟨h1, h2, rfl⟩ := cutTo_some hy
  rw [← take_recs hf]; exact h.cutRow hi (by omega)

/-- rows of zeros -/
def mkz (n : Int) : Option (List Int) := if 0 < n ∧ n ≤ (big : Int) then some (List.replicate n.toNat 0) else none
theorem mkz_some {n : Int} {ys : List Int} (h : mkz n = some ys) : 0 < n ∧ n ≤ (big : Int) ∧ ys = List.replicate n.toNat 0 := by
  unfold mkz at h
  split at h
  · rename_i hc; exact ⟨hc.1, hc.2, (Option.some.inj h).symm⟩
  · cases h
theorem zeros_list (n : Nat) : (Builtin.zeroCells [Value.int .i64 0].toArray n).toList = ints (List.replicate n 0) := by
  unfold Builtin.zeroCells ints
  simp
  apply List.ext_getElem?; intro i
  simp only [List.getElem?_map, List.getElem?_replicate]
  by_cases h : i < n
  · rw [List.getElem?_range h, if_pos h]; simp [Nat.mod_one]
  · rw [List.getElem?_eq_none (by simp; omega), if_neg h]; rfl

section
variable {P : Program} {W : World} {μ : List Nat} {L : List Res} {N : Nat} {E : Env} {o : Oper} {ops : Array Oper} {Q : Exit → Act → World → Prop} {K : Act → World → Prop} {a : Act} {w : World} {rest : List Oper}
theorem sZeros {t tn e : TypeId} {x y : Operand} {n : Int} {d : Nat} {kn : IntKind} {ys : List Int} (hf : FrD dd a N E) (hs : St μ W w L) (hg : o.guard = none) (hd : o.dst = some d) (hN : Nat.blt d N = true)
    (ho : o.op = .call { callee := .builtin .append, args := #[x, y], argTypes := #[t, tn] }) (hx : evalE E x = some (.slice none 0 0)) (hy : evalE E y = some (.int .i64 n)) (hk : mkz n = some ys) (he : EL P t e) (htn : P.underlying tn = some (.int kn)) (hz : TI P e [.int .i64 0] 8)
    (h : ∀ a w A c, St μ W w (L ++ [.row A ys.length c e 1 (ints ys)]) → FrD dd a N ((d, .slice A ys.length c) :: E) → wpO P ops Q K rest a w) : wpO P ops Q K (o :: rest) a w := by
  obtain ⟨ii, z, h2, h3, h4, h5, h6⟩ := hz
  obtain ⟨k0, k1, rfl⟩ := mkz_some hk
  have hb : big = 67108864 := rfl
  rw [hb] at k1
  obtain ⟨m, rfl⟩ : ∃ m : Nat, n = (m : Int) := ⟨n.toNat, by omega⟩
  simp only [Int.toNat_natCast, List.length_replicate] at h ⊢
  have hsz : ii.size = 1 := h5
  have hr' := Go.Lib.run_append_nil_zeros (P := P) w t tn o.type e ii z .i64 kn he htn h2 h3 m (by omega) (by omega) (by omega) (by rw [h6]; omega)
  have hml : m ≤ maxLen := by unfold maxLen; omega
  have c1 := grownCap_ge w m 0 e
  have c2 := grownCap_le_maxLen w m 0 e hml
  have hzc : z.cells = [Value.int .i64 0].toArray := h4
  rw [hzc] at hr'
  refine stepV (wanted_none hg _) hd (v := .slice (some ⟨w.heap.size, 0, none⟩) m (grownCap w m 0 e)) (w' := w.drew.alloc (.cells (Builtin.zeroCells [Value.int .i64 0].toArray m ++ Builtin.zeroCells [Value.int .i64 0].toArray (grownCap w m 0 e - m)) e)) ?_ (h _ _ _ _ (hs.add (((Below.refl _ _).drew).alloc (Nat.le_refl _) _) ⟨?_, Or.inr ⟨w.heap.size, grownCap w m 0 e, _, rfl, Nat.le_refl _, heap_alloc_new w.drew _, c1, c2, ?_, ?_⟩⟩) (hf.put hN))
  · simp [execOp, ho, resolve, invoke, builtin, hf.eval hx, hf.eval hy, hr']
  · rw [ints_length, List.length_replicate, Nat.mul_one]
  · rw [Array.size_append, size_zeroCells, size_zeroCells]
    show m * 1 + (grownCap w m 0 e - m) * 1 = grownCap w m 0 e * 1
    omega
  · rw [Array.toList_append, zeros_list, zeros_list, Nat.mul_one, List.take_append_of_le_length (by rw [ints_length, List.length_replicate]; exact Nat.le_refl _), List.take_of_length_le (by rw [ints_length, List.length_replicate]; exact Nat.le_refl _)]
/-- the room of nothing -/
theorem Y_cap0 {x : Operand} {t e : TypeId} (ho : o.op = .call { callee := .builtin .cap, args := #[x], argTypes := #[t] }) (hx : evalE E x = some (.slice none 0 0)) (he : EL P t e) : Y P μ W L N E o (.int .i64 0) := fun a w hf _ => by
  have he' : P.underlying t = some (.slice e) := he
  simp [execOp, ho, resolve, invoke, builtin, hf.eval hx, Builtin.cap_, run_underlying he', goInt]
end

end Go.Proofs.Ytgkgimglgjfcjaa
