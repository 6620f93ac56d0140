/-
  Slices of borrowed rows, guarded ones; copy into a row of an own matrix.
-/
import Derived.Test.YtebmlphobgaboabLiftH
namespace Go.Proofs.Ytebmlphobgaboab
open Go.RowKit
variable {dd : List Deferred}

theorem RdM.one {w : World} {A R : Option Addr} {n c : Nat} {xs : List Int} (h : Rd w A [.slice R n c]) (hn : n = xs.length) (h2 : Rd w R (ints xs)) : RdM w A [xs] := by
  subst hn
  refine ⟨_, h, fun i row hi => ?_⟩
  match i with
  | 0 => simp only [List.getElem?_cons_zero, Option.some.injEq] at hi; subst hi; exact ⟨R, c, rfl, h2⟩
  | i + 1 => simp at hi
/-- bytes -/
def bytes (xs : List Int) : List Value := xs.map (Value.int .u8)
theorem bytes_at {xs : List Int} {i : Nat} {x : Int} (h : xs[i]? = some x) : (bytes xs)[i]? = some (.int .u8 x) := by unfold bytes; simp [h]
section
variable {P : Program} {N : Nat} {E : Env} {W w : World} {L : List Res} {μ : List Nat} {o : Oper} {ops : Array Oper} {Q : Exit → Act → World → Prop} {K : Act → World → Prop} {rest : List Oper} {a : Act}

theorem sBuildSliceG {t e : TypeId} {n d j g by' : Nat} {gb : Bool} {oj : Oper} {parts : List (Nat × Operand)} {vs zs cells : List Value} (hf : FrD dd a N E) (hs : St μ W w L) (hg : o.guard = some (j, gb)) (hj : ops[j]? = some oj) (hdj : oj.dst = some g) (hcg : look E g = some (.bool gb)) (hNg : Nat.blt g N = true) (hd : o.dst = some d) (hN : Nat.blt d N = true) (ho : o.op = .buildSlice t n parts.toArray) (hx : evalEs E (parts.map (·.2)) = some vs)
    (he : EL P t e) (hz : TI P e zs by') (hm : Nat.ble n 4096 = true) (hm2 : Nat.ble (n * zs.length) 16777216 = true) (hl : cells.length = n * zs.length)
    (hfill' : Instr.fill (fun i => some (i * zs.length, zs.length)) ((List.range (n * zs.length)).map ((if n * zs.length = 0 then (#[] : Array Value) else zs.toArray)[· % (if n * zs.length = 0 then (#[] : Array Value) else zs.toArray).size]!)).toArray ((parts.map (·.1)).zip vs) = some cells.toArray)
    (h : ∀ a w A, St μ W w (L ++ [.row A n n e zs.length cells]) → (0 < n → ∃ b, A = some ⟨b, 0, none⟩) → FrD dd a N ((d, .slice A n n) :: E) → wpO P ops Q K rest a w) : wpO P ops Q K (o :: rest) a w := by
  have hrange : ∀ (f : Nat → Value) (m : Nat), (Array.range m).map f = ((List.range m).map f).toArray := fun f m => by apply Array.ext'; simp
  have hfill : Instr.fill (fun i => some (i * zs.length, zs.length)) ((Array.range (n * zs.length)).map ((if n * zs.length = 0 then (#[] : Array Value) else zs.toArray)[· % (if n * zs.length = 0 then (#[] : Array Value) else zs.toArray).size]!)) ((parts.map (·.1)).zip vs) = some cells.toArray := by rw [hrange]; exact hfill'
  have hfn : (parts.map (fun p => (p.1, a.eval p.2))) = (parts.map (·.1)).zip vs := by
    rw [← hf.evals hx, List.map_map, List.zip_map']
    rfl
  have hfn' : (List.map (fun x => match x with | (i, x) => (i, a.eval x)) parts) = (parts.map (·.1)).zip vs := hfn
  have he' : P.underlying t = some (.slice e) := he
  have hn : n ≤ maxLen := by have := Nat.le_of_ble_eq_true hm; unfold maxLen; omega
  have hm2' := Nat.le_of_ble_eq_true hm2
  obtain ⟨z, hz1, hz2⟩ := hz.zero w
  refine stepV (by rw [wanted_some hg hf hj hdj hcg hNg]; simp) hd (v := .slice (some ⟨w.heap.size, 0, none⟩) n n) (w' := w.alloc (.cells cells.toArray e)) ?_ (h _ _ _ (hs.add ((Below.refl _ _).alloc (Nat.le_refl _) _) ⟨hl, Or.inr ⟨w.heap.size, n, cells.toArray, rfl, Nat.le_refl _, heap_alloc_new w _, Nat.le_refl _, hn, by simpa using hl, by rw [← hl]; simp⟩⟩) (fun _ => ⟨_, rfl⟩) (hf.put hN))
  simp only [execOp, ho, List.map_toArray, hfn']
  by_cases h0 : n * zs.length = 0
  · rw [if_pos h0] at hfill
    simp only [Instr.buildSlice, Go.underlying, program, Sem.run_bind, Sem.run_pure, Sem.run, he', Result.andThen_ok, hz.size w]
    simp [h0] at hfill ⊢
    simp [hfill, newRow, newObj, Sem.run]
  · rw [if_neg h0] at hfill
    simp only [Instr.buildSlice, Go.underlying, program, Sem.run_bind, Sem.run_pure, Sem.run, he', Result.andThen_ok, hz.size w]
    simp [show ¬ (16777216 < n * zs.length) by omega, h0, hz1, hz2] at hfill ⊢
    simp [hfill, newRow, newObj, Sem.run]

theorem Y_convert {t t' : TypeId} {k k' : IntKind} {x : Operand} {m : Int} (ho : o.op = .convert t t' x) (hx : evalE E x = some (.int k m)) (h1 : P.underlying t = some (.int k)) (h2 : P.underlying t' = some (.int k')) : Y P μ W L N E o (.int k' (k'.wrap m)) := fun a w hf _ => by
  simp [execOp, ho, hf.eval hx, convert, run_underlying h1, run_underlying h2, Conv.intToInt]

/-- copy into a row of an own matrix -/
theorem sCopyM {dT sT e e2 : TypeId} {x y : Operand} {A A' R : Option Addr} {n m nn c c' cy i by' d : Nat} {k : Int} {vs : List Value} {rows rows' : List (List Int)} {xs ys : List Int} (hf : FrD dd a N E) (hs : St μ W w L) (hg : o.guard = none) (hd : o.dst = some d) (hN : Nat.blt d N = true)
    (ho : o.op = .call { callee := .builtin .copy, args := #[x, y], argTypes := #[dT, sT] }) (hx : evalE E x = some (.slice R n c')) (hy : evalE E y = some (.slice A' m cy))
    (hL : L[i]? = some (.mat A nn c e e2 vs rows)) (hq : rows[k.toNat]? = some xs) (hv : vs[k.toNat]? = some (.slice R xs.length c')) (hn : n = xs.length) (hm : m = ys.length) (he : EL P dT e2) (hz : TI P e2 [.int .i64 0] by') (hrd : Rd w A' (ints ys)) (hw : upd rows k (cpy xs ys) = some rows')
    (h : ∀ a w, St μ W w (L.set i (.mat A nn c e e2 vs rows')) → FrD dd a N ((d, .int .i64 ((min ys.length xs.length : Nat) : Int)) :: E) → wpO P ops Q K rest a w) : wpO P ops Q K (o :: rest) a w := by
  subst hn hm
  obtain ⟨h4, h5, rfl⟩ := upd_some hw
  have hr := hs.rowHolds hL ⟨hq, hv⟩
  obtain ⟨hout, hrows, hd1, hd2⟩ := hs.res _ _ hL
  obtain ⟨w', hrun, hown, hsame, hew⟩ := run_copyOwn (P := P) (sT := sT) (ty := o.type) (m := ys.length) (c' := cy) hr (by rw [ints_length]) hrd (fun v hv => by
    unfold ints at hv; rw [List.mem_map] at hv; obtain ⟨q, _, rfl⟩ := hv; rfl) he hz
  rw [← cpy_ints] at hown
  refine stepV (wanted_none hg _) hd (v := .int .i64 ((min ys.length xs.length : Nat) : Int)) (w' := w') ?_ (h _ _ (hs.change hL hew (fun b _ hb => hsame b (fun e => hb (Or.inr ⟨_, _, hv, e⟩))) ⟨?_, ⟨by simp [hrows.1], fun l r hl => ?_⟩, hd1, hd2⟩ (fun b hb => Or.inl hb)) (hf.put hN))
  · simp [execOp, ho, resolve, invoke, builtin, hf.eval hx, hf.eval hy, hrun, goInt]
  · exact owns_same hout fun b hb => hsame b (fun e => hd2 _ _ b hv hb e)
  · by_cases el : k.toNat = l
    · subst el
      have hlt2 : k.toNat < rows.length := (List.getElem?_eq_some_iff.1 hq).1
      rw [List.getElem?_set_self hlt2] at hl
      simp only [Option.some.injEq] at hl
      subst hl
      refine ⟨R, c', ?_, ?_⟩
      · rw [cpy_len]; exact hv
      · rw [cpy_len]; exact hown
    · rw [List.getElem?_set_ne el] at hl
      obtain ⟨R3, c3, e3, h6⟩ := hrows.2 l r hl
      exact ⟨R3, c3, e3, owns_same h6 fun b hb => hsame b (fun e => hd1 _ _ _ _ b hv e3 el e hb)⟩
end

end Go.Proofs.Ytebmlphobgaboab
