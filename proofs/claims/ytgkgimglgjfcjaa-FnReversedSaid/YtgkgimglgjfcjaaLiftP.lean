/-
  Slices of borrowed rows, guarded ones; copy into a row of an own matrix.
-/
import Derived.Test.YtgkgimglgjfcjaaLiftH
namespace Go.Proofs.Ytgkgimglgjfcjaa
open Go.RowKit
variable {dd : List Deferred}

theorem St.bmThen {μ : List Nat} {W w w' : World} {L : List Res} (h : St μ W w L) (hb : Below w.heap.size w w') : BM μ W w' :=
  ⟨hb.os.trans h.bm.os, hb.tape.trans h.bm.tape, hb.output.trans h.bm.output, Nat.le_trans h.bm.size hb.size, fun k hk hm => (hb.block k (Nat.lt_of_lt_of_le hk h.bm.size)).trans (h.bm.old k hk hm)⟩

/-- bytes -/
def bytes (xs : List Int) : List Value := xs.map (Value.int .u8)
theorem bytes_at {xs : List Int} {i : Nat} {x : Int} (h : xs[i]? = some x) : (bytes xs)[i]? = some (.int .u8 x) := by unfold bytes; simp [h]
section
variable {P : Program} {N : Nat} {E : Env} {W w : World} {L : List Res} {μ : List Nat} {o : Oper} {ops : Array Oper} {Q : Exit → Act → World → Prop} {K : Act → World → Prop} {rest : List Oper} {a : Act}

theorem Y_convert {t t' : TypeId} {k k' : IntKind} {x : Operand} {m : Int} (ho : o.op = .convert t t' x) (hx : evalE E x = some (.int k m)) (h1 : P.underlying t = some (.int k)) (h2 : P.underlying t' = some (.int k')) : Y P μ W L N E o (.int k' (k'.wrap m)) := fun a w hf _ => by
  simp [execOp, ho, hf.eval hx, convert, run_underlying h1, run_underlying h2, Conv.intToInt]

/-- what clear leaves: the first l, then zeros -/
def clr {α : Type} (xs : List α) (l : Int) (z : α) : List α := xs.take l.toNat ++ List.replicate (xs.length - l.toNat) z
theorem clr_len {α : Type} (xs : List α) (l : Int) (z : α) : (clr xs l z).length = xs.length := by unfold clr; simp; omega
theorem cutTo_all {α : Type} {xs : List α} {n : Nat} (h : n = xs.length) : cutTo xs (n : Int) = some xs := by
  unfold cutTo; rw [if_pos (by omega)]; simp [h]
theorem cutTo_nat {α : Type} {xs ys : List α} {l : Int} (h : cutTo xs l = some ys) : cutTo xs ((l.toNat : Nat) : Int) = some ys := by
  obtain ⟨h0, h1, rfl⟩ := cutTo_some h
  unfold cutTo; rw [if_pos (by omega)]; rfl
theorem zeroCells_made (zs : List Value) (k : Nat) : Builtin.zeroCells zs.toArray k = madeCells zs.toArray (k * zs.length) := by
  simp [Builtin.zeroCells, madeCells]
theorem stepVN {v : Value} {w' : World} (hw : Region.wanted o (yielded ops a.tmps) = true) (hd : o.dst = none) (hr : (execOp a.eval o).run P w = .ok (.value v) w') (h : wpO P ops Q K rest a w') : wpO P ops Q K (o :: rest) a w := by
  unfold wpO wpList
  rw [if_pos hw]
  refine .inl ?_
  simp only [Oper.wp, hr, Oper.upon, hd, Act.put]
  exact h
theorem run_clearOwn {t ty e : TypeId} {A : Option Addr} {n c l by' lo : Nat} {zs xs : List Value} (hr : w.ownsRow lo e zs.length (.slice A n c) n xs) (he : EL P t e) (hz : TI P e zs by') (hl : l ≤ n) (h1 : zs.all Value.oneCell' = true) (hz0 : 0 < zs.length) :
    ∃ w', (Builtin.clear_ #[t] ty #[.slice (cutA A c l zs.length) (n - l) (c - l)]).run P w = .ok (.tuple #[]) w' ∧ w'.ownsRow lo e zs.length (.slice A n c) n (xs.take (l * zs.length) ++ (Builtin.zeroCells zs.toArray (n - l)).toList) ∧ (∀ b, (Value.slice A n c).ownBlock ≠ some b → w'.heap[b]? = w.heap[b]?) ∧ EW w w' := by
  have hlen := hr.1
  have he' : P.underlying t = some (.slice e) := he
  by_cases hln : l = n
  · subst hln
    refine ⟨w, ?_, ?_, fun _ _ => rfl, EW.refl w⟩
    · rw [Nat.sub_self]
      cases hA : cutA A c l zs.length <;> simp [Builtin.clear_, run_underlying he']
    · rw [← hlen, List.take_length, Nat.sub_self]
      simpa [Builtin.zeroCells] using hr
  · obtain ⟨z, hz1, hz2⟩ := hz.zero w
    rcases hr.2 with ⟨e1, e2⟩ | ⟨g, cap, cur, e1, hlo, hg', hn, hm, hsz, ht⟩
    · omega
    · simp only [Value.slice.injEq] at e1
      obtain ⟨rfl, _, rfl⟩ := e1
      have hus : (Builtin.zeroCells zs.toArray (n - l)).toList.length = (n - l) * zs.length := by rw [Array.length_toList, size_zeroCells]; simp
      have hks : l * zs.length + (n - l) * zs.length = n * zs.length := by rw [← Nat.add_mul]; congr 1; omega
      have hcl : cur.toList.length = c * zs.length := by simpa using hsz
      have hM : n * zs.length ≤ cur.toList.length := by rw [hcl]; exact Nat.mul_le_mul_right _ hn
      have hone : ∀ v ∈ (Builtin.zeroCells zs.toArray (n - l)).toList, v.oneCell' = true := by
        intro v hv
        simp only [Builtin.zeroCells, Array.toList_map, List.mem_map] at hv
        obtain ⟨q, _, rfl⟩ := hv
        refine List.all_eq_true.1 h1 _ ?_
        have : q % zs.toArray.size < zs.toArray.size := Nat.mod_lt _ (by simpa using hz0)
        rw [getElem!_pos zs.toArray _ this]
        simp
      have hcut : cutA (some ⟨g, 0, none⟩) c l zs.length = some ⟨g, l * zs.length, none⟩ := by
        unfold cutA
        rw [if_neg (by omega)]
        simp [Addr.add]
        intro h; exact h.symm
      have hst := run_storeCells_at (P := P) g (l * zs.length) e (Builtin.zeroCells zs.toArray (n - l)).toList 0 cur w hg' (by rw [hus]; simp at hM ⊢; omega) hone
      refine ⟨w.setRow g (cur.toList.take (l * zs.length) ++ (Builtin.zeroCells zs.toArray (n - l)).toList ++ cur.toList.drop (l * zs.length + (Builtin.zeroCells zs.toArray (n - l)).toList.length)).toArray, ?_, ⟨?_, Or.inr ⟨g, c, _, rfl, hlo, setRow_heap _ _ _ _ _ _ hg', hn, hm, ?_, ?_⟩⟩, fun b hb => setRow_other _ _ _ _ (fun e => hb (by rw [e]; rfl)), EW.setRow _ _ _⟩
      · rw [hcut]
        obtain ⟨m, hm'⟩ : ∃ m, n - l = m + 1 := ⟨n - l - 1, by omega⟩
        rw [Nat.add_zero] at hst
        rw [hm'] at hst ⊢
        simp [Builtin.clear_, run_underlying he', hz1, hz2, hst]
      · rw [List.length_append, hus, List.length_take, hlen]; omega
      · simp at hM ⊢; rw [size_zeroCells]; simp; omega
      · have hks' : l * zs.length + (Builtin.zeroCells zs.toArray (n - l)).toList.length ≤ n * zs.length := by omega
        rw [take_splice _ _ _ _ hks' hM, ht, hus, hks, ← hlen, List.drop_length, List.append_nil]
/-- clear, of the rest of an own row -/
theorem sClear {α : Type} {enc : List α → List Value} {z0 : α} {t e : TypeId} {x : Operand} {A : Option Addr} {n c i by' : Nat} {l : Int} {zs : List Value} {xs ys : List α} (hf : FrD dd a N E) (hs : St μ W w L) (hg : o.guard = none) (hd : o.dst = none)
    (ho : o.op = .call { callee := .builtin .clear, args := #[x], argTypes := #[t] }) (hx : evalE E x = some (.slice (cutA A c l.toNat zs.length) (n - l.toNat) (c - l.toNat))) (hL : L[i]? = some (.row A n c e zs.length (enc xs))) (hn : n = xs.length) (hk : cutFrom xs l = some ys) (he : EL P t e) (hz : TI P e zs by')
    (h1 : zs.all Value.oneCell' = true) (h0 : 0 < zs.length) (htake : ∀ (xs : List α) (k : Nat), (enc xs).take (k * zs.length) = enc (xs.take k)) (happ : ∀ xs ys : List α, enc (xs ++ ys) = enc xs ++ enc ys) (hzero : ∀ k, (madeCells zs.toArray (k * zs.length)).toList = enc (List.replicate k z0))
    (h : ∀ w, St μ W w (L.set i (.row A n c e zs.length (enc (clr xs l z0)))) → wpO P ops Q K rest a w) : wpO P ops Q K (o :: rest) a w := by
  subst hn
  obtain ⟨k0, k1, rfl⟩ := cutFrom_some hk
  obtain ⟨w', hrun, hown, hsame, hew⟩ := run_clearOwn (P := P) (t := t) (ty := o.type) (l := l.toNat) (hs.res _ _ hL) he hz (by omega) h1 h0
  have e1 : enc (clr xs l z0) = (enc xs).take (l.toNat * zs.length) ++ (Builtin.zeroCells zs.toArray (xs.length - l.toNat)).toList := by
    unfold clr; rw [happ, htake, zeroCells_made, hzero]
  rw [← e1] at hown
  refine stepVN (wanted_none hg _) hd (v := .tuple #[]) (w' := w') ?_ (h _ (hs.change hL hew (fun b _ hb => hsame b hb) hown (fun b hb => .inl hb)))
  simp [execOp, ho, resolve, invoke, builtin, hf.eval hx, hrun]

end

end Go.Proofs.Ytgkgimglgjfcjaa
