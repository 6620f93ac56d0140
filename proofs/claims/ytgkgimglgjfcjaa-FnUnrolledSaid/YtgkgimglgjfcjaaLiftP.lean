/-
  Slices of borrowed rows, guarded ones; copy into a row of an own matrix.
-/
import Derived.Test.YtgkgimglgjfcjaaLiftH
namespace Go.Proofs.Ytgkgimglgjfcjaa
open Go.RowKit
variable {dd : List Deferred}

theorem RdM.one {w : World} {A R : Option Addr} {n c : Nat} {xs : List Int} (h : Rd w A [.slice R n c]) (hn : n = xs.length) (h2 : Rd w R (ints xs)) : RdM w A [xs] := by
  subst hn
  refine ⟨_, h, fun i row hi => ?_⟩
  match i with
  | 0 => simp only [List.getElem?_cons_zero, Option.some.injEq] at hi; subst hi; exact ⟨R, c, rfl, h2⟩
  | i + 1 => simp at hi
theorem RdM.two {w : World} {A R S : Option Addr} {n c m d : Nat} {xs ys : List Int} (h : Rd w A [.slice R n c, .slice S m d]) (hn : n = xs.length) (h2 : Rd w R (ints xs)) (hm : m = ys.length) (h3 : Rd w S (ints ys)) : RdM w A [xs, ys] := by
  subst hn hm
  refine ⟨_, h, fun i row hi => ?_⟩
  match i with
  | 0 => simp only [List.getElem?_cons_zero, Option.some.injEq] at hi; subst hi; exact ⟨R, c, rfl, h2⟩
  | 1 => simp only [List.getElem?_cons_succ, List.getElem?_cons_zero, Option.some.injEq] at hi; subst hi; exact ⟨S, d, rfl, h3⟩
  | i + 2 => simp at hi

/-- an own row, or a row of an own matrix that lives on -/
def Pk (A : Option Addr) (n c : Nat) (xs : List Int) (B : Option Addr) (m d : Nat) (ys : List Int) (vs : List Value) (rows : List (List Int)) : Prop :=
  (A = B ∧ n = m ∧ c = d ∧ xs = ys) ∨ ∃ q : Nat, rows[q]? = some xs ∧ vs[q]? = some (.slice A n c)
theorem St.pickRow {μ : List Nat} {W w : World} {L : List Res} {A B R : Option Addr} {n c i j m d k f : Nat} {e e2 : TypeId} {vs : List Value} {rows : List (List Int)} {xs ys : List Int} (hs : St μ W w L) (hi : L[i]? = some (.mat R k f e e2 vs rows)) (hj : L[j]? = some (.row B m d e2 1 (ints ys))) (hn : n = xs.length) (he : Pk A n c xs B m d ys vs rows) : St μ W w [.row A n c e2 1 (ints xs)] := by
  rcases he with ⟨rfl, rfl, rfl, rfl⟩ | ⟨q, h1, h2⟩
  · have := hs.sel [j] (by simp)
    simpa [pickL, hj] using this
  · subst hn
    have hil : i < L.length := (List.getElem?_eq_some_iff.1 hi).1
    have := (hs.takeRow hi ⟨h1, h2⟩).sel [i] (by simp)
    simpa [pickL, List.getElem?_set_self hil] using this

theorem St.bmThen {μ : List Nat} {W w w' : World} {L : List Res} (h : St μ W w L) (hb : Below w.heap.size w w') : BM μ W w' :=
  ⟨hb.os.trans h.bm.os, hb.tape.trans h.bm.tape, hb.output.trans h.bm.output, Nat.le_trans h.bm.size hb.size, fun k hk hm => (hb.block k (Nat.lt_of_lt_of_le hk h.bm.size)).trans (h.bm.old k hk hm)⟩

/-- bytes -/
def bytes (xs : List Int) : List Value := xs.map (Value.int .u8)
theorem bytes_at {xs : List Int} {i : Nat} {x : Int} (h : xs[i]? = some x) : (bytes xs)[i]? = some (.int .u8 x) := by unfold bytes; simp [h]
theorem bytes_length (xs : List Int) : (bytes xs).length = xs.length := by simp [bytes]

section
variable {P : Program} {N : Nat} {E : Env} {W w : World} {L : List Res} {μ : List Nat} {o : Oper} {ops : Array Oper} {Q : Exit → Act → World → Prop} {K : Act → World → Prop} {rest : List Oper} {a : Act}

theorem sBuildSliceG {t e : TypeId} {n d j g by' : Nat} {gb : Bool} {oj : Oper} {parts : List (Nat × Operand)} {vs zs cells : List Value} (hf : FrD dd a N E) (hs : St μ W w L) (hg : o.guard = some (j, gb)) (hj : ops[j]? = some oj) (hdj : oj.dst = some g) (hcg : look E g = some (.bool gb)) (hNg : Nat.blt g N = true) (hd : o.dst = some d) (hN : Nat.blt d N = true) (ho : o.op = .buildSlice t n parts.toArray) (hx : evalEs E (parts.map (·.2)) = some vs)
    (he : EL P t e) (hz : TI P e zs by') (hm : Nat.ble n 4096 = true) (hm2 : Nat.ble (n * zs.length) 16777216 = true) (hl : cells.length = n * zs.length)
    (hfill' : Instr.fill (fun i => some (i * zs.length, zs.length)) ((List.range (n * zs.length)).map ((if n * zs.length = 0 then (#[] : Array Value) else zs.toArray)[· % (if n * zs.length = 0 then (#[] : Array Value) else zs.toArray).size]!)).toArray ((parts.map (·.1)).zip vs) = some cells.toArray)
    (h : ∀ a w A, St μ W w (L ++ [.row A n n e zs.length cells]) → (0 < n → ∃ b, A = some ⟨b, 0, none⟩) → FrD dd a N ((d, .slice A n n) :: E) → wpO P ops Q K rest a w) : wpO P ops Q K (o :: rest) a w := by
  have hrange : ∀ (f : Nat → Value) (m : Nat), (Array.range m).map f = ((List.range m).map f).toArray := fun f m => by apply Array.ext'; simp
  have hfill : Instr.fill (fun i => some (i * zs.length, zs.length)) ((Array.range (n * zs.length)).map ((if n * zs.length = 0 then (#[] : Array Value) else zs.toArray)[· % (if n * zs.length = 0 then (#[] : Array Value) else zs.toArray).size]!)) ((parts.map (·.1)).zip vs) = some cells.toArray := by rw [hrange]; exact hfill'
  have hfn : (parts.map (fun p => (p.1, a.eval p.2))) = (parts.map (·.1)).zip vs := by
    rw [← hf.evals hx, List.map_map, List.zip_map']
    rfl
  have hfn' : (List.map (fun x => match x with | (i, x) => (i, a.eval x)) parts) = (parts.map (·.1)).zip vs := hfn
  have he' : P.underlying t = some (.slice e) := he
  have hn : n ≤ maxLen := by have := Nat.le_of_ble_eq_true hm; unfold maxLen; omega
  have hm2' := Nat.le_of_ble_eq_true hm2
  obtain ⟨z, hz1, hz2⟩ := hz.zero w
  refine stepV (by rw [wanted_some hg hf hj hdj hcg hNg]; simp) hd (v := .slice (some ⟨w.heap.size, 0, none⟩) n n) (w' := w.alloc (.cells cells.toArray e)) ?_ (h _ _ _ (hs.add ((Below.refl _ _).alloc (Nat.le_refl _) _) ⟨hl, Or.inr ⟨w.heap.size, n, cells.toArray, rfl, Nat.le_refl _, heap_alloc_new w _, Nat.le_refl _, hn, by simpa using hl, by rw [← hl]; simp⟩⟩) (fun _ => ⟨_, rfl⟩) (hf.put hN))
  simp only [execOp, ho, List.map_toArray, hfn']
  by_cases h0 : n * zs.length = 0
  · rw [if_pos h0] at hfill
    simp only [Instr.buildSlice, Go.underlying, program, Sem.run_bind, Sem.run_pure, Sem.run, he', Result.andThen_ok, hz.size w]
    simp [h0] at hfill ⊢
    simp [hfill, newRow, newObj, Sem.run]
  · rw [if_neg h0] at hfill
    simp only [Instr.buildSlice, Go.underlying, program, Sem.run_bind, Sem.run_pure, Sem.run, he', Result.andThen_ok, hz.size w]
    simp [show ¬ (16777216 < n * zs.length) by omega, h0, hz1, hz2] at hfill ⊢
    simp [hfill, newRow, newObj, Sem.run]

/-- shifts to the right, and -/
def shrI (m n : Int) : Int := m.fdiv (2 ^ n.toNat)
def andI (k : IntKind) (m n : Int) : Int := k.wrap ((BitVec.ofInt k.bits m &&& BitVec.ofInt k.bits n).toNat : Int)
theorem Y_shr {t yt : TypeId} {k k' : IntKind} {x y : Operand} {m n : Int} (ho : o.op = .binOp .shr t x y yt) (hx : evalE E x = some (.int k m)) (hy : evalE E y = some (.int k' n)) (h0 : 0 ≤ n) (hb : n.toNat ≤ k.bits) : Y P μ W L N E o (.int k (shrI m n)) := fun a w hf _ => by
  simp [execOp, ho, hf.eval hx, hf.eval hy, eqGuard, binOp, Op.shift, show ¬ n < 0 by omega, Nat.min_eq_left hb, shrI]
theorem Y_and {t yt : TypeId} {k : IntKind} {x y : Operand} {m n : Int} (ho : o.op = .binOp .and t x y yt) (hx : evalE E x = some (.int k m)) (hy : evalE E y = some (.int k n)) : Y P μ W L N E o (.int k (andI k m n)) := fun a w hf _ => by
  simp [execOp, ho, hf.eval hx, hf.eval hy, eqGuard, binOp, Op.intBits, andI]
theorem Y_convert {t t' : TypeId} {k k' : IntKind} {x : Operand} {m : Int} (ho : o.op = .convert t t' x) (hx : evalE E x = some (.int k m)) (h1 : P.underlying t = some (.int k)) (h2 : P.underlying t' = some (.int k')) : Y P μ W L N E o (.int k' (k'.wrap m)) := fun a w hf _ => by
  simp [execOp, ho, hf.eval hx, convert, run_underlying h1, run_underlying h2, Conv.intToInt]

theorem ret_cell2 {fn : Func} {R : Ending → World → Prop} {p q t t' u u' : TypeId} {b b2 i j by' by2 : Nat} {cs zs cs2 zs2 : List Value} (hr : fn.results = #[.cell p t, .cell q u]) (hf : Fr a N E) (hp : look E p = some (.pointer (some ⟨b, 0, none⟩))) (hq : look E q = some (.pointer (some ⟨b2, 0, none⟩))) (hs : St μ W w L) (hL : L[i]? = some (.blk b t' cs)) (hL2 : L[j]? = some (.blk b2 u' cs2)) (hg : AG P t true) (hz : TI P t zs by') (hg2 : AG P u true) (hz2 : TI P u zs2 by2) (hl : zs.length = cs.length) (hl2 : zs2.length = cs2.length) (h : R (.returned (.tuple #[.agg cs.toArray, .agg cs2.toArray])) w) : bodyPost P fn R .ret a w := by
  refine bodyPost_ret ?_ hf.defers h
  have h1 := run_loadBlk (P := P) (hs.res _ _ hL).2 hg hz hl
  have h2 := run_loadBlk (P := P) (hs.res _ _ hL2).2 hg2 hz2 hl2
  simp [results, hr, hf.get p _ hp, hf.get q _ hq, asAddr, h1, h2, -Array.getD_eq_getD_getElem?]

theorem ret_cell2t {fn : Func} {R : Ending → World → Prop} {p q r1 t t' u u' : TypeId} {x1 : Value} {b b2 i j by' by2 : Nat} {cs zs cs2 zs2 : List Value} (hr : fn.results = #[.cell p t, .cell q u, .tmp r1]) (hf : Fr a N E) (hp : look E p = some (.pointer (some ⟨b, 0, none⟩))) (hq : look E q = some (.pointer (some ⟨b2, 0, none⟩))) (hr1 : look E r1 = some x1) (hs : St μ W w L) (hL : L[i]? = some (.blk b t' cs)) (hL2 : L[j]? = some (.blk b2 u' cs2)) (hg : AG P t true) (hz : TI P t zs by') (hg2 : AG P u true) (hz2 : TI P u zs2 by2) (hl : zs.length = cs.length) (hl2 : zs2.length = cs2.length) (h : R (.returned (.tuple #[.agg cs.toArray, .agg cs2.toArray, x1])) w) : bodyPost P fn R .ret a w := by
  refine bodyPost_ret ?_ hf.defers h
  have h1 := run_loadBlk (P := P) (hs.res _ _ hL).2 hg hz hl
  have h2 := run_loadBlk (P := P) (hs.res _ _ hL2).2 hg2 hz2 hl2
  simp [results, hr, hf.get p _ hp, hf.get q _ hq, hf.get r1 _ hr1, asAddr, h1, h2, -Array.getD_eq_getD_getElem?]

theorem ret_cell2tt {fn : Func} {R : Ending → World → Prop} {p q r1 r2 t t' u u' : TypeId} {x1 x2 : Value} {b b2 i j by' by2 : Nat} {cs zs cs2 zs2 : List Value} (hr : fn.results = #[.cell p t, .cell q u, .tmp r1, .tmp r2]) (hf : Fr a N E) (hp : look E p = some (.pointer (some ⟨b, 0, none⟩))) (hq : look E q = some (.pointer (some ⟨b2, 0, none⟩))) (hr1 : look E r1 = some x1) (hr2 : look E r2 = some x2) (hs : St μ W w L) (hL : L[i]? = some (.blk b t' cs)) (hL2 : L[j]? = some (.blk b2 u' cs2)) (hg : AG P t true) (hz : TI P t zs by') (hg2 : AG P u true) (hz2 : TI P u zs2 by2) (hl : zs.length = cs.length) (hl2 : zs2.length = cs2.length) (h : R (.returned (.tuple #[.agg cs.toArray, .agg cs2.toArray, x1, x2])) w) : bodyPost P fn R .ret a w := by
  refine bodyPost_ret ?_ hf.defers h
  have h1 := run_loadBlk (P := P) (hs.res _ _ hL).2 hg hz hl
  have h2 := run_loadBlk (P := P) (hs.res _ _ hL2).2 hg2 hz2 hl2
  simp [results, hr, hf.get p _ hp, hf.get q _ hq, hf.get r1 _ hr1, hf.get r2 _ hr2, asAddr, h1, h2, -Array.getD_eq_getD_getElem?]

/-- what clear leaves: the first l, then zeros -/
def clr {α : Type} (xs : List α) (l : Int) (z : α) : List α := xs.take l.toNat ++ List.replicate (xs.length - l.toNat) z
theorem clr_len {α : Type} (xs : List α) (l : Int) (z : α) : (clr xs l z).length = xs.length := by unfold clr; simp; omega
theorem cutTo_all {α : Type} {xs : List α} {n : Nat} (h : n = xs.length) : cutTo xs (n : Int) = some xs := by
  unfold cutTo; rw [if_pos (by omega)]; simp [h]
theorem cutTo_nat {α : Type} {xs ys : List α} {l : Int} (h : cutTo xs l = some ys) : cutTo xs ((l.toNat : Nat) : Int) = some ys := by
  obtain ⟨h0, h1, rfl⟩ := cutTo_some h
  unfold cutTo; rw [if_pos (by omega)]; rfl
theorem zeroCells_made (zs : List Value) (k : Nat) : Builtin.zeroCells zs.toArray k = madeCells zs.toArray (k * zs.length) := by
  simp [Builtin.zeroCells, madeCells]
theorem stepVN {v : Value} {w' : World} (hw : Region.wanted o (yielded ops a.tmps) = true) (hd : o.dst = none) (hr : (execOp a.eval o).run P w = .ok (.value v) w') (h : wpO P ops Q K rest a w') : wpO P ops Q K (o :: rest) a w := by
  unfold wpO wpList
  rw [if_pos hw]
  refine .inl ?_
  simp only [Oper.wp, hr, Oper.upon, hd, Act.put]
  exact h
theorem run_clearOwn {t ty e : TypeId} {A : Option Addr} {n c l by' lo : Nat} {zs xs : List Value} (hr : w.ownsRow lo e zs.length (.slice A n c) n xs) (he : EL P t e) (hz : TI P e zs by') (hl : l ≤ n) (h1 : zs.all Value.oneCell' = true) (hz0 : 0 < zs.length) :
    ∃ w', (Builtin.clear_ #[t] ty #[.slice (cutA A c l zs.length) (n - l) (c - l)]).run P w = .ok (.tuple #[]) w' ∧ w'.ownsRow lo e zs.length (.slice A n c) n (xs.take (l * zs.length) ++ (Builtin.zeroCells zs.toArray (n - l)).toList) ∧ (∀ b, (Value.slice A n c).ownBlock ≠ some b → w'.heap[b]? = w.heap[b]?) ∧ EW w w' := by
  have hlen := hr.1
  have he' : P.underlying t = some (.slice e) := he
  by_cases hln : l = n
  · subst hln
    refine ⟨w, ?_, ?_, fun _ _ => rfl, EW.refl w⟩
    · rw [Nat.sub_self]
      cases hA : cutA A c l zs.length <;> simp [Builtin.clear_, run_underlying he']
    · rw [← hlen, List.take_length, Nat.sub_self]
      simpa [Builtin.zeroCells] using hr
  · obtain ⟨z, hz1, hz2⟩ := hz.zero w
    rcases hr.2 with ⟨e1, e2⟩ | ⟨g, cap, cur, e1, hlo, hg', hn, hm, hsz, ht⟩
    · omega
    · simp only [Value.slice.injEq] at e1
      obtain ⟨rfl, _, rfl⟩ := e1
      have hus : (Builtin.zeroCells zs.toArray (n - l)).toList.length = (n - l) * zs.length := by rw [Array.length_toList, size_zeroCells]; simp
      have hks : l * zs.length + (n - l) * zs.length = n * zs.length := by rw [← Nat.add_mul]; congr 1; omega
      have hcl : cur.toList.length = c * zs.length := by simpa using hsz
      have hM : n * zs.length ≤ cur.toList.length := by rw [hcl]; exact Nat.mul_le_mul_right _ hn
      have hone : ∀ v ∈ (Builtin.zeroCells zs.toArray (n - l)).toList, v.oneCell' = true := by
        intro v hv
        simp only [Builtin.zeroCells, Array.toList_map, List.mem_map] at hv
        obtain ⟨q, _, rfl⟩ := hv
        refine List.all_eq_true.1 h1 _ ?_
        have : q % zs.toArray.size < zs.toArray.size := Nat.mod_lt _ (by simpa using hz0)
        rw [getElem!_pos zs.toArray _ this]
        simp
      have hcut : cutA (some ⟨g, 0, none⟩) c l zs.length = some ⟨g, l * zs.length, none⟩ := by
        unfold cutA
        rw [if_neg (by omega)]
        simp [Addr.add]
        intro h; exact h.symm
      have hst := run_storeCells_at (P := P) g (l * zs.length) e (Builtin.zeroCells zs.toArray (n - l)).toList 0 cur w hg' (by rw [hus]; simp at hM ⊢; omega) hone
      refine ⟨w.setRow g (cur.toList.take (l * zs.length) ++ (Builtin.zeroCells zs.toArray (n - l)).toList ++ cur.toList.drop (l * zs.length + (Builtin.zeroCells zs.toArray (n - l)).toList.length)).toArray, ?_, ⟨?_, Or.inr ⟨g, c, _, rfl, hlo, setRow_heap _ _ _ _ _ _ hg', hn, hm, ?_, ?_⟩⟩, fun b hb => setRow_other _ _ _ _ (fun e => hb (by rw [e]; rfl)), EW.setRow _ _ _⟩
      · rw [hcut]
        obtain ⟨m, hm'⟩ : ∃ m, n - l = m + 1 := ⟨n - l - 1, by omega⟩
        rw [Nat.add_zero] at hst
        rw [hm'] at hst ⊢
        simp [Builtin.clear_, run_underlying he', hz1, hz2, hst]
      · rw [List.length_append, hus, List.length_take, hlen]; omega
      · simp at hM ⊢; rw [size_zeroCells]; simp; omega
      · have hks' : l * zs.length + (Builtin.zeroCells zs.toArray (n - l)).toList.length ≤ n * zs.length := by omega
        rw [take_splice _ _ _ _ hks' hM, ht, hus, hks, ← hlen, List.drop_length, List.append_nil]
/-- clear, of the rest of an own row -/
theorem sClear {α : Type} {enc : List α → List Value} {z0 : α} {t e : TypeId} {x : Operand} {A : Option Addr} {n c i by' : Nat} {l : Int} {zs : List Value} {xs ys : List α} (hf : FrD dd a N E) (hs : St μ W w L) (hg : o.guard = none) (hd : o.dst = none)
    (ho : o.op = .call { callee := .builtin .clear, args := #[x], argTypes := #[t] }) (hx : evalE E x = some (.slice (cutA A c l.toNat zs.length) (n - l.toNat) (c - l.toNat))) (hL : L[i]? = some (.row A n c e zs.length (enc xs))) (hn : n = xs.length) (hk : cutFrom xs l = some ys) (he : EL P t e) (hz : TI P e zs by')
    (h1 : zs.all Value.oneCell' = true) (h0 : 0 < zs.length) (htake : ∀ (xs : List α) (k : Nat), (enc xs).take (k * zs.length) = enc (xs.take k)) (happ : ∀ xs ys : List α, enc (xs ++ ys) = enc xs ++ enc ys) (hzero : ∀ k, (madeCells zs.toArray (k * zs.length)).toList = enc (List.replicate k z0))
    (h : ∀ w, St μ W w (L.set i (.row A n c e zs.length (enc (clr xs l z0)))) → wpO P ops Q K rest a w) : wpO P ops Q K (o :: rest) a w := by
  subst hn
  obtain ⟨k0, k1, rfl⟩ := cutFrom_some hk
  obtain ⟨w', hrun, hown, hsame, hew⟩ := run_clearOwn (P := P) (t := t) (ty := o.type) (l := l.toNat) (hs.res _ _ hL) he hz (by omega) h1 h0
  have e1 : enc (clr xs l z0) = (enc xs).take (l.toNat * zs.length) ++ (Builtin.zeroCells zs.toArray (xs.length - l.toNat)).toList := by
    unfold clr; rw [happ, htake, zeroCells_made, hzero]
  rw [← e1] at hown
  refine stepVN (wanted_none hg _) hd (v := .tuple #[]) (w' := w') ?_ (h _ (hs.change hL hew (fun b _ hb => hsame b hb) hown (fun b hb => .inl hb)))
  simp [execOp, ho, resolve, invoke, builtin, hf.eval hx, hrun]

/-- copy into a row of an own matrix -/
theorem sCopyM {dT sT e e2 : TypeId} {x y : Operand} {A A' R : Option Addr} {n m nn c c' cy i by' d : Nat} {k : Int} {vs : List Value} {rows rows' : List (List Int)} {xs ys : List Int} (hf : FrD dd a N E) (hs : St μ W w L) (hg : o.guard = none) (hd : o.dst = some d) (hN : Nat.blt d N = true)
    (ho : o.op = .call { callee := .builtin .copy, args := #[x, y], argTypes := #[dT, sT] }) (hx : evalE E x = some (.slice R n c')) (hy : evalE E y = some (.slice A' m cy))
    (hL : L[i]? = some (.mat A nn c e e2 vs rows)) (hq : rows[k.toNat]? = some xs) (hv : vs[k.toNat]? = some (.slice R xs.length c')) (hn : n = xs.length) (hm : m = ys.length) (he : EL P dT e2) (hz : TI P e2 [.int .i64 0] by') (hrd : Rd w A' (ints ys)) (hw : upd rows k (cpy xs ys) = some rows')
    (h : ∀ a w, St μ W w (L.set i (.mat A nn c e e2 vs rows')) → FrD dd a N ((d, .int .i64 ((min ys.length xs.length : Nat) : Int)) :: E) → wpO P ops Q K rest a w) : wpO P ops Q K (o :: rest) a w := by
  subst hn hm
  obtain ⟨h4, h5, rfl⟩ := upd_some hw
  have hr := hs.rowHolds hL ⟨hq, hv⟩
  obtain ⟨hout, hrows, hd1, hd2⟩ := hs.res _ _ hL
  obtain ⟨w', hrun, hown, hsame, hew⟩ := run_copyOwn (P := P) (sT := sT) (ty := o.type) (m := ys.length) (c' := cy) hr (by rw [ints_length]) hrd (fun v hv => by
    unfold ints at hv; rw [List.mem_map] at hv; obtain ⟨q, _, rfl⟩ := hv; rfl) he hz
  rw [← cpy_ints] at hown
  refine stepV (wanted_none hg _) hd (v := .int .i64 ((min ys.length xs.length : Nat) : Int)) (w' := w') ?_ (h _ _ (hs.change hL hew (fun b _ hb => hsame b (fun e => hb (Or.inr ⟨_, _, hv, e⟩))) ⟨?_, ⟨by simp [hrows.1], fun l r hl => ?_⟩, hd1, hd2⟩ (fun b hb => Or.inl hb)) (hf.put hN))
  · simp [execOp, ho, resolve, invoke, builtin, hf.eval hx, hf.eval hy, hrun, goInt]
  · exact owns_same hout fun b hb => hsame b (fun e => hd2 _ _ b hv hb e)
  · by_cases el : k.toNat = l
    · subst el
      have hlt2 : k.toNat < rows.length := (List.getElem?_eq_some_iff.1 hq).1
      rw [List.getElem?_set_self hlt2] at hl
      simp only [Option.some.injEq] at hl
      subst hl
      refine ⟨R, c', ?_, ?_⟩
      · rw [cpy_len]; exact hv
      · rw [cpy_len]; exact hown
    · rw [List.getElem?_set_ne el] at hl
      obtain ⟨R3, c3, e3, h6⟩ := hrows.2 l r hl
      exact ⟨R3, c3, e3, owns_same h6 fun b hb => hsame b (fun e => hd1 _ _ _ _ b hv e3 el e hb)⟩
end

end Go.Proofs.Ytgkgimglgjfcjaa
