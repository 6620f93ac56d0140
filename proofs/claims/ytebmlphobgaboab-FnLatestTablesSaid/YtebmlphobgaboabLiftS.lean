/-
  An append to a row of an own matrix, put back; three results.
-/
import Derived.Test.YtebmlphobgaboabLiftP
namespace Go.Proofs.Ytebmlphobgaboab
open Go.RowKit
variable {dd : List Deferred}

section
variable {P : Program} {N : Nat} {E : Env} {W w : World} {L : List Res} {μ : List Nat} {o : Oper} {ops : Array Oper} {Q : Exit → Act → World → Prop} {K : Act → World → Prop} {rest : List Oper} {a : Act}

theorem ret_cell_tmp2 {fn : Func} {R : Ending → World → Prop} {p t t' u u2 : TypeId} {b i by' : Nat} {x x2 : Value} {cs zs : List Value} (hr : fn.results = #[.cell p t, .tmp u, .tmp u2]) (hf : Fr a N E) (hp : look E p = some (.pointer (some ⟨b, 0, none⟩))) (hu : look E u = some x) (hu2 : look E u2 = some x2) (hs : St μ W w L) (hL : L[i]? = some (.blk b t' cs)) (hg : AG P t true) (hz : TI P t zs by') (hl : zs.length = cs.length) (h : R (.returned (.tuple #[.agg cs.toArray, x, x2])) w) : bodyPost P fn R .ret a w := by
  refine bodyPost_ret ?_ hf.defers h
  have h1 := run_loadBlk (P := P) (hs.res _ _ hL).2 hg hz hl
  simp [results, hr, hf.get p _ hp, hf.get u _ hu, hf.get u2 _ hu2, asAddr, h1, -Array.getD_eq_getD_getElem?]

end

end Go.Proofs.Ytebmlphobgaboab
