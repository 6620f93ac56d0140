/-
  Slices of borrowed rows, guarded ones; copy into a row of an own matrix.
-/
import Derived.Test.YtebmlphobgaboabLiftH
namespace Go.Proofs.Ytebmlphobgaboab
open Go.RowKit
variable {dd : List Deferred}

/-- bytes -/
def bytes (xs : List Int) : List Value := xs.map (Value.int .u8)
theorem bytes_at {xs : List Int} {i : Nat} {x : Int} (h : xs[i]? = some x) : (bytes xs)[i]? = some (.int .u8 x) := by unfold bytes; simp [h]
section
variable {P : Program} {N : Nat} {E : Env} {W w : World} {L : List Res} {μ : List Nat} {o : Oper} {ops : Array Oper} {Q : Exit → Act → World → Prop} {K : Act → World → Prop} {rest : List Oper} {a : Act}

/-- shifts to the right, and -/
def shrI (m n : Int) : Int := m.fdiv (2 ^ n.toNat)
def andI (k : IntKind) (m n : Int) : Int := k.wrap ((BitVec.ofInt k.bits m &&& BitVec.ofInt k.bits n).toNat : Int)
theorem Y_shr {t yt : TypeId} {k k' : IntKind} {x y : Operand} {m n : Int} (ho : o.op = .binOp .shr t x y yt) (hx : evalE E x = some (.int k m)) (hy : evalE E y = some (.int k' n)) (h0 : 0 ≤ n) (hb : n.toNat ≤ k.bits) : Y P μ W L N E o (.int k (shrI m n)) := fun a w hf _ => by
  simp [execOp, ho, hf.eval hx, hf.eval hy, eqGuard, binOp, Op.shift, show ¬ n < 0 by omega, Nat.min_eq_left hb, shrI]
theorem Y_and {t yt : TypeId} {k : IntKind} {x y : Operand} {m n : Int} (ho : o.op = .binOp .and t x y yt) (hx : evalE E x = some (.int k m)) (hy : evalE E y = some (.int k n)) : Y P μ W L N E o (.int k (andI k m n)) := fun a w hf _ => by
  simp [execOp, ho, hf.eval hx, hf.eval hy, eqGuard, binOp, Op.intBits, andI]
theorem Y_convert {t t' : TypeId} {k k' : IntKind} {x : Operand} {m : Int} (ho : o.op = .convert t t' x) (hx : evalE E x = some (.int k m)) (h1 : P.underlying t = some (.int k)) (h2 : P.underlying t' = some (.int k')) : Y P μ W L N E o (.int k' (k'.wrap m)) := fun a w hf _ => by
  simp [execOp, ho, hf.eval hx, convert, run_underlying h1, run_underlying h2, Conv.intToInt]

theorem ret_cell2 {fn : Func} {R : Ending → World → Prop} {p q t t' u u' : TypeId} {b b2 i j by' by2 : Nat} {cs zs cs2 zs2 : List Value} (hr : fn.results = #[.cell p t, .cell q u]) (hf : Fr a N E) (hp : look E p = some (.pointer (some ⟨b, 0, none⟩))) (hq : look E q = some (.pointer (some ⟨b2, 0, none⟩))) (hs : St μ W w L) (hL : L[i]? = some (.blk b t' cs)) (hL2 : L[j]? = some (.blk b2 u' cs2)) (hg : AG P t true) (hz : TI P t zs by') (hg2 : AG P u true) (hz2 : TI P u zs2 by2) (hl : zs.length = cs.length) (hl2 : zs2.length = cs2.length) (h : R (.returned (.tuple #[.agg cs.toArray, .agg cs2.toArray])) w) : bodyPost P fn R .ret a w := by
  refine bodyPost_ret ?_ hf.defers h
  have h1 := run_loadBlk (P := P) (hs.res _ _ hL).2 hg hz hl
  have h2 := run_loadBlk (P := P) (hs.res _ _ hL2).2 hg2 hz2 hl2
  simp [results, hr, hf.get p _ hp, hf.get q _ hq, asAddr, h1, h2, -Array.getD_eq_getD_getElem?]

theorem ret_cell2t {fn : Func} {R : Ending → World → Prop} {p q r1 t t' u u' : TypeId} {x1 : Value} {b b2 i j by' by2 : Nat} {cs zs cs2 zs2 : List Value} (hr : fn.results = #[.cell p t, .cell q u, .tmp r1]) (hf : Fr a N E) (hp : look E p = some (.pointer (some ⟨b, 0, none⟩))) (hq : look E q = some (.pointer (some ⟨b2, 0, none⟩))) (hr1 : look E r1 = some x1) (hs : St μ W w L) (hL : L[i]? = some (.blk b t' cs)) (hL2 : L[j]? = some (.blk b2 u' cs2)) (hg : AG P t true) (hz : TI P t zs by') (hg2 : AG P u true) (hz2 : TI P u zs2 by2) (hl : zs.length = cs.length) (hl2 : zs2.length = cs2.length) (h : R (.returned (.tuple #[.agg cs.toArray, .agg cs2.toArray, x1])) w) : bodyPost P fn R .ret a w := by
  refine bodyPost_ret ?_ hf.defers h
  have h1 := run_loadBlk (P := P) (hs.res _ _ hL).2 hg hz hl
  have h2 := run_loadBlk (P := P) (hs.res _ _ hL2).2 hg2 hz2 hl2
  simp [results, hr, hf.get p _ hp, hf.get q _ hq, hf.get r1 _ hr1, asAddr, h1, h2, -Array.getD_eq_getD_getElem?]

theorem ret_cell2tt {fn : Func} {R : Ending → World → Prop} {p q r1 r2 t t' u u' : TypeId} {x1 x2 : Value} {b b2 i j by' by2 : Nat} {cs zs cs2 zs2 : List Value} (hr : fn.results = #[.cell p t, .cell q u, .tmp r1, .tmp r2]) (hf : Fr a N E) (hp : look E p = some (.pointer (some ⟨b, 0, none⟩))) (hq : look E q = some (.pointer (some ⟨b2, 0, none⟩))) (hr1 : look E r1 = some x1) (hr2 : look E r2 = some x2) (hs : St μ W w L) (hL : L[i]? = some (.blk b t' cs)) (hL2 : L[j]? = some (.blk b2 u' cs2)) (hg : AG P t true) (hz : TI P t zs by') (hg2 : AG P u true) (hz2 : TI P u zs2 by2) (hl : zs.length = cs.length) (hl2 : zs2.length = cs2.length) (h : R (.returned (.tuple #[.agg cs.toArray, .agg cs2.toArray, x1, x2])) w) : bodyPost P fn R .ret a w := by
  refine bodyPost_ret ?_ hf.defers h
  have h1 := run_loadBlk (P := P) (hs.res _ _ hL).2 hg hz hl
  have h2 := run_loadBlk (P := P) (hs.res _ _ hL2).2 hg2 hz2 hl2
  simp [results, hr, hf.get p _ hp, hf.get q _ hq, hf.get r1 _ hr1, hf.get r2 _ hr2, asAddr, h1, h2, -Array.getD_eq_getD_getElem?]

end

end Go.Proofs.Ytebmlphobgaboab
