/- The functions do what their models say. -/
import Derived.Test.YtebmlphobgaboaaDueLifted2
import Derived.Test.YtebmlphobgaboaaRows
namespace Go.Proofs.Ytebmlphobgaboaa
open Go.RowKit

set_option maxRecDepth 100000 in
theorem slices_ContainsFunc_Place_ok (F : Nat) (aM : List GPlace) (aG : Option Addr) (aQ aS : Nat) (bb : aQ = aM.length) (bq : GPlace → Option Bool) (bi : FuncId) (bl : List Value) (r : Bool) (W : World) (hm : slices_ContainsFunc_Place F aM bq = some r) (aV : Rd W aG ((recs GPlace.cells) aM)) (bN : ∀ (x0 : GPlace) (r : Bool) (w : World), bq x0 = some r → Below W.heap.size W w → Calls Try.prog bi (([.agg #[.int .i64 x0.From, .int .i64 x0.To, .int .i64 x0.Delay, .int .i64 x0.Tokens]] : List Value) ++ bl).toArray w fun e w' => ∃ v, e = .returned v ∧ v = .bool r ∧ St [] w w' []) (bO : En Try.prog bi) :
  Calls Try.prog 173 [.slice aG aQ aS, .func (.func bi) #[] bl.toArray].toArray W fun e w' => ∃ v, e = .returned v ∧ v = .bool r ∧ St [] W w' [] := by
 subst bb
 unfold slices_ContainsFunc_Place at hm
 refine Calls.enter (N := 9) Try.func173 rfl rfl rfl (fun a hf => ?_)
 have hs := St.start W
 obtain ⟨w, hw_⟩ : ∃ w, w = W := ⟨W, rfl⟩
 clear hw_ w
 refine wpL_seq <| wpL_region ?_
 refine sY hf hs rfl rfl rfl (Y_assign rfl rfl) ?_; clear hf; intro a hf
 refine wpO_nil <| wpL_seq <| wpL_region ?_
 refine sY hf hs rfl rfl rfl (Y_move rfl rfl) ?_; clear hf; intro a hf
 refine sY hf hs rfl rfl rfl (Y_move rfl rfl) ?_; clear hf; intro a hf
 obtain ⟨r1, hc2, hm⟩ := bind_some hm
 refine sCall hf rfl rfl rfl rfl (cap := []) rfl rfl en200 (slices_IndexFunc_Place_ok F aM aG aM.length aS rfl bq bi bl _ _ hc2 (aV.at hs) (fun x0 r w' hm_ hb => bN x0 r w' hm_ (hs.below.trans (hb.mono hs.below.size))) bO) ?_; clear hf
 rintro _ w ⟨rfl, hs1⟩ a hf
 have hs : St [] W w [] := hs.ext hs1.below
 clear hs1
 refine sY hf hs rfl rfl rfl (Y_geq rfl rfl rfl) ?_; clear hf; intro a hf
 refine sY hf hs rfl rfl rfl (Y_assign rfl rfl) ?_; clear hf; intro a hf
 refine wpO_nil ?_
 obtain rfl := Option.some.inj hm
 refine wpL_ret (ret_tmp rfl hf rfl ?_)
 exact ⟨_, rfl, rfl, hs⟩

set_option maxRecDepth 100000 in
theorem impl_IsEventGraph_ok (F : Nat) (ae : GEventGraph) (ad : Option Addr) (ao af : Nat) (au : ao = ae.Places.length) (r : Bool) (W : World) (hm : impl_IsEventGraph F ae = some r) (ap : Rd W ad ((recs GPlace.cells) ae.Places)) :
  Calls Try.prog 132 [.agg #[.int .i64 ae.Events, .slice ad ao af]].toArray W fun e w' => ∃ v, e = .returned v ∧ v = .bool r ∧ St [] W w' [] := by
 subst au
 unfold impl_IsEventGraph at hm
 refine Calls.enter (N := 19) Try.func132 rfl rfl rfl (fun a hf => ?_)
 have hs := St.start W
 obtain ⟨w, hw_⟩ : ∃ w, w = W := ⟨W, rfl⟩
 clear hw_ w
 refine wpL_seq <| wpL_region ?_
 refine sBox hf hs rfl rfl rfl rfl rfl (cs := [.int .i64 ae.Events, .slice ad ae.Places.length af]) rfl ?_; clear hf hs; intro a w b1 hs hf
 have hs : St [] W w [.blk b1 52 [.int .i64 ae.Events, .slice ad ae.Places.length af]] := hs
 refine sY hf hs rfl rfl rfl (Y_assign rfl rfl) ?_; clear hf; intro a hf
 refine wpO_nil <| wpL_seq ?_
 obtain ⟨r9, hj10, hm⟩ := bind_some hm
 refine wpL_cut (fun a w => ∃ b8 : Bool, b8 = r9 ∧ Fr a 19 [(2, .bool b8)] ∧ St [] W w []) ?_ ?_
 ·refine wpL_region ?_
  refine sY hf hs rfl rfl rfl (Y_fieldAddr rfl rfl fo52_0) ?_; clear hf; intro a hf
  refine sY hf hs rfl rfl rfl (Y_load_blk rfl rfl (i := 0) rfl rfl ag2) ?_; clear hf; intro a hf
  obtain ⟨r11, hc12, hj10⟩ := bind_some hj10
  refine sCall hf rfl rfl rfl rfl (cap := []) rfl rfl en85 (impl_within_ok F ae.Events 1 10 _ _ hc12) ?_; clear hf
  rintro _ w ⟨rfl, hs1⟩ a hf
  have hs : St [] W w [.blk b1 52 [.int .i64 ae.Events, .slice ad ae.Places.length af]] := hs.ext hs1.below
  clear hs1
  refine sY hf hs rfl rfl rfl (Y_move rfl rfl) ?_; clear hf; intro a hf
  refine bsplit r11 (fun hb13 => ?_) (fun hb13 => ?_)
  ·have hj10 := bif_t hj10 hb13
   refine sYg hf hs rfl rfl rfl (congrArg (fun b => some (Value.bool b)) hb13) rfl rfl rfl (Y_fieldAddr rfl rfl fo52_1) ?_; clear hf; intro a hf
   refine sYg hf hs rfl rfl rfl (congrArg (fun b => some (Value.bool b)) hb13) rfl rfl rfl (Y_load_blk rfl rfl (i := 0) rfl rfl ag50) ?_; clear hf; intro a hf
   refine sYg hf hs rfl rfl rfl (congrArg (fun b => some (Value.bool b)) hb13) rfl rfl rfl (Y_lenH rfl rfl el50 rfl) ?_; clear hf; intro a hf
   refine sYg hf hs rfl rfl rfl (congrArg (fun b => some (Value.bool b)) hb13) rfl rfl rfl (Y_leq rfl rfl rfl) ?_; clear hf; intro a hf
   refine sY hf hs rfl rfl rfl (Y_pickT rfl (congrArg (fun b => some (Value.bool b)) hb13) rfl) ?_; clear hf; intro a hf
   refine sY hf hs rfl rfl rfl (Y_move rfl rfl) ?_; clear hf; intro a hf
   refine bsplit (decide ((ae.Places.length : Int) ≤ 30)) (fun hb14 => ?_) (fun hb14 => ?_)
   ·have hj10 := bif_t hj10 hb14
    refine sYg hf hs rfl rfl rfl (congrArg (fun b => some (Value.bool b)) hb14) rfl rfl rfl (Y_fieldAddr rfl rfl fo52_1) ?_; clear hf; intro a hf
    refine sYg hf hs rfl rfl rfl (congrArg (fun b => some (Value.bool b)) hb14) rfl rfl rfl (Y_load_blk rfl rfl (i := 0) rfl rfl ag50) ?_; clear hf; intro a hf
    refine sYg hf hs rfl rfl rfl (congrArg (fun b => some (Value.bool b)) hb14) rfl rfl rfl (Y_makeFunc (us := []) (vs := [.pointer (some ⟨b1, 0, none⟩)]) rfl rfl rfl) ?_; clear hf; intro a hf
    obtain ⟨r15, hc16, hj10⟩ := bind_some hj10
    refine sCallg hf rfl rfl rfl (congrArg (fun b => some (Value.bool b)) hb14) rfl rfl rfl rfl (cap := []) rfl rfl en173 (slices_ContainsFunc_Place_ok F ae.Places ad ae.Places.length af rfl (fun x0 => impl_IsEventGraph_c1 F x0 ae) 174 ([.pointer (some ⟨b1, 0, none⟩)]) _ _ hc16 (ap.at hs) (fun x0 r w' hm_ hb => impl_IsEventGraph_c1_ok F x0 b1 ae ad ae.Places.length af rfl r w' hm_ ((ap.at hs).below hb (Nat.le_refl _)) ((hs.pb (i := 0) rfl).below hb (Nat.le_refl _))) en174) ?_; clear hf
    rintro _ w ⟨rfl, hs1⟩ a hf
    have hs : St [] W w [.blk b1 52 [.int .i64 ae.Events, .slice ad ae.Places.length af]] := hs.ext hs1.below
    clear hs1
    refine sYg hf hs rfl rfl rfl (congrArg (fun b => some (Value.bool b)) hb14) rfl rfl rfl (Y_not rfl rfl) ?_; clear hf; intro a hf
    refine sY hf hs rfl rfl rfl (Y_pickT rfl (congrArg (fun b => some (Value.bool b)) hb14) rfl) ?_; clear hf; intro a hf
    refine sY hf hs rfl rfl rfl (Y_assign rfl rfl) ?_; clear hf; intro a hf
    refine wpO_nil ?_
    refine wpL_nil (then_normal ?_)
    exact ⟨(!r15), Option.some.inj hj10, (FrD.pick hf.none hf rfl), hs.sel [] (by decide)⟩
   ·have hj10 := bif_f hj10 hb14
    refine sNo hf rfl rfl rfl (congrArg (fun b => some (Value.bool b)) hb14) rfl rfl rfl ?_; clear hf; intro a hf
    refine sNo hf rfl rfl rfl (congrArg (fun b => some (Value.bool b)) hb14) rfl rfl rfl ?_; clear hf; intro a hf
    refine sNo hf rfl rfl rfl (congrArg (fun b => some (Value.bool b)) hb14) rfl rfl rfl ?_; clear hf; intro a hf
    refine sNo hf rfl rfl rfl (congrArg (fun b => some (Value.bool b)) hb14) rfl rfl rfl ?_; clear hf; intro a hf
    refine sNo hf rfl rfl rfl (congrArg (fun b => some (Value.bool b)) hb14) rfl rfl rfl ?_; clear hf; intro a hf
    refine sY hf hs rfl rfl rfl (Y_pickF rfl (congrArg (fun b => some (Value.bool b)) hb14) rfl) ?_; clear hf; intro a hf
    refine sY hf hs rfl rfl rfl (Y_assign rfl rfl) ?_; clear hf; intro a hf
    refine wpO_nil ?_
    refine wpL_nil (then_normal ?_)
    exact ⟨false, Option.some.inj hj10, (FrD.pick hf.none hf rfl), hs.sel [] (by decide)⟩
  ·have hj10 := bif_f hj10 hb13
   refine sNo hf rfl rfl rfl (congrArg (fun b => some (Value.bool b)) hb13) rfl rfl rfl ?_; clear hf; intro a hf
   refine sNo hf rfl rfl rfl (congrArg (fun b => some (Value.bool b)) hb13) rfl rfl rfl ?_; clear hf; intro a hf
   refine sNo hf rfl rfl rfl (congrArg (fun b => some (Value.bool b)) hb13) rfl rfl rfl ?_; clear hf; intro a hf
   refine sNo hf rfl rfl rfl (congrArg (fun b => some (Value.bool b)) hb13) rfl rfl rfl ?_; clear hf; intro a hf
   refine sY hf hs rfl rfl rfl (Y_pickF rfl (congrArg (fun b => some (Value.bool b)) hb13) rfl) ?_; clear hf; intro a hf
   refine sY hf hs rfl rfl rfl (Y_move rfl rfl) ?_; clear hf; intro a hf
   refine sNo hf rfl rfl rfl rfl rfl rfl rfl ?_; clear hf; intro a hf
   refine sNo hf rfl rfl rfl rfl rfl rfl rfl ?_; clear hf; intro a hf
   refine sNo hf rfl rfl rfl rfl rfl rfl rfl ?_; clear hf; intro a hf
   refine sNo hf rfl rfl rfl rfl rfl rfl rfl ?_; clear hf; intro a hf
   refine sNo hf rfl rfl rfl rfl rfl rfl rfl ?_; clear hf; intro a hf
   refine sY hf hs rfl rfl rfl (Y_pickF rfl rfl rfl) ?_; clear hf; intro a hf
   refine sY hf hs rfl rfl rfl (Y_assign rfl rfl) ?_; clear hf; intro a hf
   refine wpO_nil ?_
   refine wpL_nil (then_normal ?_)
   exact ⟨false, Option.some.inj hj10, (FrD.pick hf.none hf rfl), hs.sel [] (by decide)⟩
 ·rintro a w ⟨b8, hr_, hf, hs⟩
  subst hr_
  try dsimp only at hm
  obtain rfl := Option.some.inj hm
  refine wpL_ret (ret_tmp rfl hf rfl ?_)
  exact ⟨_, rfl, rfl, hs⟩

set_option maxRecDepth 100000 in
theorem impl_allWithin_ok (F : Nat) (aO : List Int) (aN : Option Addr) (aW aX : Nat) (bp : aW = aO.length) (bw : Int) (bn : Int) (r : Bool) (W : World) (hm : impl_allWithin F aO bw bn = some r) (bc : Rd W aN (ints aO)) :
  Calls Try.prog 134 [.slice aN aW aX, .int .i64 bw, .int .i64 bn].toArray W fun e w' => ∃ v, e = .returned v ∧ v = .bool r ∧ St [] W w' [] := by
 subst bp
 unfold impl_allWithin at hm
 refine Calls.enter (N := 21) Try.func134 rfl rfl rfl (fun a hf => ?_)
 have hs := St.start W
 obtain ⟨w, hw_⟩ : ∃ w, w = W := ⟨W, rfl⟩
 clear hw_ w
 refine wpL_seq <| wpL_region ?_
 refine sY hf hs rfl rfl rfl (Y_assign rfl rfl) ?_; clear hf; intro a hf
 refine wpO_nil <| wpL_seq <| wpL_seq <| wpL_region ?_
 refine sY hf hs rfl rfl rfl (Y_move rfl rfl) ?_; clear hf; intro a hf
 refine sY hf hs rfl rfl rfl (Y_lenH rfl rfl el23 rfl) ?_; clear hf; intro a hf
 refine sY hf hs rfl rfl rfl (Y_move rfl rfl) ?_; clear hf; intro a hf
 refine wpO_nil ?_
 obtain ⟨r21, hl22, hm⟩ := bind_some hm
 refine wpL_block (fun a w => Sum.inr () = r21 ∧ Fr a 21 [] ∧ St [] W w []) ?_ ?_
 ·refine wpL_loop (fun n a w => ∃ x14 : Int, impl_allWithin_L1 F aO bw bn n x14 = some r21 ∧ Fr a 21 [(1, .int .i64 bw), (2, .int .i64 bn), (9, .slice aN aO.length aX), (10, .int .i64 (aO.length : Int)), (11, .int .i64 x14)] ∧ St [] W w []) F ?_ ?_ ?_
  ·exact ⟨0, hl22, (FrD.pick (FrD.pick (FrD.pick (FrD.pick (FrD.pick hf.none hf rfl) hf rfl) hf rfl) hf rfl) hf rfl), hs⟩
  ·rintro a w ⟨x14, h0_, -, -⟩; simp [impl_allWithin_L1] at h0_
  ·rintro n24 a w ⟨x14, hm23, hf, hs⟩
   rw [impl_allWithin_L1] at hm23
   refine wpL_seq <| wpL_region ?_
   refine sY hf hs rfl rfl rfl (Y_lss rfl rfl rfl) ?_; clear hf; intro a hf
   refine wpO_nil <| wpL_seq ?_
   refine wpL_cond hf rfl (fun hb25 => ?_) (fun hb25 => ?_)
   ·have hm23 := bif_t hm23 hb25
    refine wpL_skip <| wpL_seq <| wpL_block0 <| wpL_seq <| wpL_region ?_
    obtain ⟨q26, hi27, hm23⟩ := bind_some hm23
    obtain ⟨hi27a, hi27b, hi27q⟩ := idx_some hi27
    refine sY hf hs rfl rfl rfl (Y_index rfl rfl rfl el23 ti2 (Rd.isAt (bc.at hs) (at1 (ints_at hi27q))) hi27a hi27b) ?_; clear hf; intro a hf
    refine sY hf hs rfl rfl rfl (Y_load_rd rfl rfl (fun w hs => bc.at hs) (at1 (ints_at hi27q)) ag2) ?_; clear hf; intro a hf
    refine sY hf hs rfl rfl rfl (Y_assign rfl rfl) ?_; clear hf; intro a hf
    refine wpO_nil <| wpL_seq <| wpL_region ?_
    refine sY hf hs rfl rfl rfl (Y_move rfl rfl) ?_; clear hf; intro a hf
    refine sY hf hs rfl rfl rfl (Y_move rfl rfl) ?_; clear hf; intro a hf
    refine sY hf hs rfl rfl rfl (Y_move rfl rfl) ?_; clear hf; intro a hf
    obtain ⟨r28, hc29, hm23⟩ := bind_some hm23
    refine sCall hf rfl rfl rfl rfl (cap := []) rfl rfl en85 (impl_within_ok F q26 bw bn _ _ hc29) ?_; clear hf
    rintro _ w ⟨rfl, hs1⟩ a hf
    have hs : St [] W w [] := hs.ext hs1.below
    clear hs1
    refine sY hf hs rfl rfl rfl (Y_not rfl rfl) ?_; clear hf; intro a hf
    refine wpO_nil ?_
    refine wpL_cond hf rfl (fun hb30 => ?_) (fun hb30 => ?_)
    ·have hm23 := bif_t hm23 hb30
     refine wpL_seq <| wpL_region ?_
     refine sY hf hs rfl rfl rfl (Y_assign rfl rfl) ?_; clear hf; intro a hf
     refine wpO_nil ?_
     obtain rfl := Option.some.inj hm23
     try dsimp only at hm
     obtain rfl := Option.some.inj hm
     refine wpL_ret (Qb_ret (Ql_ret (Qb_ret (ret_tmp rfl hf rfl ?_))))
     exact ⟨_, rfl, rfl, hs⟩
    ·have hm23 := bif_f hm23 hb30
     refine wpL_skip ?_
     refine wpL_nil (Qb_normal ?_)
     refine wpL_region ?_
     refine sY hf hs rfl rfl rfl (Y_add rfl rfl rfl) ?_; clear hf; intro a hf
     refine sY hf hs rfl rfl rfl (Y_move rfl rfl) ?_; clear hf; intro a hf
     refine wpO_nil ?_
     refine wpL_nil (Ql_normal ?_)
     exact ⟨(IntKind.i64.wrap (x14 + 1)), hm23, (FrD.pick (FrD.pick (FrD.pick (FrD.pick (FrD.pick hf.none hf rfl) hf rfl) hf rfl) hf rfl) hf rfl), hs⟩
   ·have hm23 := bif_f hm23 hb25
    refine wpL_exit (Ql_exit (Qb_exit ?_))
    exact ⟨Option.some.inj hm23, hf.none, hs⟩
 ·rintro a w ⟨hr_, hf, hs⟩
  subst hr_
  try dsimp only at hm
  refine wpL_seq <| wpL_region ?_
  refine sY hf hs rfl rfl rfl (Y_assign rfl rfl) ?_; clear hf; intro a hf
  refine wpO_nil ?_
  obtain rfl := Option.some.inj hm
  refine wpL_ret (ret_tmp rfl hf rfl ?_)
  exact ⟨_, rfl, rfl, hs⟩

set_option maxRecDepth 100000 in
theorem impl_isTimeTable_c1_ok (F : Nat) (bW : List Int) (bZ : Option Addr) (cz cA : Nat) (cP : cz = bW.length) (b_z0 : Nat) (z0 : GEventGraph) (A_z0_1 : Option Addr) (n_z0_1 c_z0_1 : Nat) (hn_z0_1 : n_z0_1 = z0.Places.length) (r : Bool) (W : World) (hm : impl_isTimeTable_c1 F bW z0 = some r) (cS : Rd W bZ (ints bW)) (_h_z0_1 : Rd W A_z0_1 ((recs GPlace.cells) z0.Places)) (h_z0 : PB W b_z0 52 [.int .i64 z0.Events, .slice A_z0_1 n_z0_1 c_z0_1]) :
  Calls Try.prog 190 [.slice bZ cz cA, .pointer (some ⟨b_z0, 0, none⟩)].toArray W fun e w' => ∃ v, e = .returned v ∧ v = .bool r ∧ St [] W w' [] := by
 subst cP
 subst hn_z0_1
 unfold impl_isTimeTable_c1 at hm
 refine Calls.enter (N := 14) Try.func190 rfl rfl rfl (fun a hf => ?_)
 have hs := St.start W
 obtain ⟨w, hw_⟩ : ∃ w, w = W := ⟨W, rfl⟩
 clear hw_ w
 refine wpL_seq <| wpL_region ?_
 refine sY hf hs rfl rfl rfl (Y_assign rfl rfl) ?_; clear hf; intro a hf
 refine wpO_nil <| wpL_seq ?_
 obtain ⟨r5, hj6, hm⟩ := bind_some hm
 refine wpL_cut (fun a w => ∃ b4 : Bool, b4 = r5 ∧ Fr a 14 [(3, .bool b4)] ∧ St [] W w []) ?_ ?_
 ·refine wpL_region ?_
  refine sY hf hs rfl rfl rfl (Y_move rfl rfl) ?_; clear hf; intro a hf
  refine sY hf hs rfl rfl rfl (Y_lenH rfl rfl el23 rfl) ?_; clear hf; intro a hf
  refine sY hf hs rfl rfl rfl (Y_fieldAddr rfl rfl fo52_0) ?_; clear hf; intro a hf
  refine sY hf hs rfl rfl rfl (Y_load_pb rfl rfl h_z0 rfl ag2) ?_; clear hf; intro a hf
  refine sY hf hs rfl rfl rfl (Y_neq rfl rfl rfl) ?_; clear hf; intro a hf
  refine sY hf hs rfl rfl rfl (Y_move rfl rfl) ?_; clear hf; intro a hf
  refine bsplit ((bW.length : Int) != z0.Events) (fun hb7 => ?_) (fun hb7 => ?_)
  ·have hj6 := bif_t hj6 hb7
   refine sNo hf rfl rfl rfl (congrArg (fun b => some (Value.bool b)) hb7) rfl rfl rfl ?_; clear hf; intro a hf
   refine sNo hf rfl rfl rfl (congrArg (fun b => some (Value.bool b)) hb7) rfl rfl rfl ?_; clear hf; intro a hf
   refine sNo hf rfl rfl rfl (congrArg (fun b => some (Value.bool b)) hb7) rfl rfl rfl ?_; clear hf; intro a hf
   refine sY hf hs rfl rfl rfl (Y_pickT rfl (congrArg (fun b => some (Value.bool b)) hb7) rfl) ?_; clear hf; intro a hf
   refine sY hf hs rfl rfl rfl (Y_assign rfl rfl) ?_; clear hf; intro a hf
   refine wpO_nil ?_
   refine wpL_nil (then_normal ?_)
   exact ⟨true, Option.some.inj hj6, (FrD.pick hf.none hf rfl), hs⟩
  ·have hj6 := bif_f hj6 hb7
   refine sYg hf hs rfl rfl rfl (congrArg (fun b => some (Value.bool b)) hb7) rfl rfl rfl (Y_move rfl rfl) ?_; clear hf; intro a hf
   obtain ⟨r8, hc9, hj6⟩ := bind_some hj6
   refine sCallg hf rfl rfl rfl (congrArg (fun b => some (Value.bool b)) hb7) rfl rfl rfl rfl (cap := []) rfl rfl en134 (impl_allWithin_ok F bW bZ bW.length cA rfl 0 1000000 _ _ hc9 (cS.at hs)) ?_; clear hf
   rintro _ w ⟨rfl, hs1⟩ a hf
   have hs : St [] W w [] := hs.ext hs1.below
   clear hs1
   refine sYg hf hs rfl rfl rfl (congrArg (fun b => some (Value.bool b)) hb7) rfl rfl rfl (Y_not rfl rfl) ?_; clear hf; intro a hf
   refine sY hf hs rfl rfl rfl (Y_pickF rfl (congrArg (fun b => some (Value.bool b)) hb7) rfl) ?_; clear hf; intro a hf
   refine sY hf hs rfl rfl rfl (Y_assign rfl rfl) ?_; clear hf; intro a hf
   refine wpO_nil ?_
   refine wpL_nil (then_normal ?_)
   exact ⟨(!r8), Option.some.inj hj6, (FrD.pick hf.none hf rfl), hs⟩
 ·rintro a w ⟨b4, hr_, hf, hs⟩
  subst hr_
  try dsimp only at hm
  obtain rfl := Option.some.inj hm
  refine wpL_ret (ret_tmp rfl hf rfl ?_)
  exact ⟨_, rfl, rfl, hs⟩

set_option maxRecDepth 100000 in
theorem slices_IndexFunc_sint64_ok (F : Nat) (aM : List (List Int)) (aG : Option Addr) (aQ aS : Nat) (bb : aQ = aM.length) (bq : (List Int) → Option Bool) (bi : FuncId) (bl : List Value) (r : Int) (W : World) (hm : slices_IndexFunc_sint64 F aM bq = some r) (aV : RdM W aG aM) (bN : ∀ (x0 : List Int) (Ax0_1 : Option Addr) (nx0_1 cx0_1 : Nat) (_hnx0_1 : nx0_1 = x0.length) (r : Bool) (w : World), bq x0 = some r → Below W.heap.size W w → Rd w Ax0_1 (ints x0) → Calls Try.prog bi (([.slice Ax0_1 nx0_1 cx0_1] : List Value) ++ bl).toArray w fun e w' => ∃ v, e = .returned v ∧ v = .bool r ∧ St [] w w' []) (bO : En Try.prog bi) :
  Calls Try.prog 209 [.slice aG aQ aS, .func (.func bi) #[] bl.toArray].toArray W fun e w' => ∃ v, e = .returned v ∧ v = .int .i64 r ∧ St [] W w' [] := by
 subst bb
 unfold slices_IndexFunc_sint64 at hm
 refine Calls.enter (N := 19) Try.func209 rfl rfl rfl (fun a hf => ?_)
 have hs := St.start W
 obtain ⟨w, hw_⟩ : ∃ w, w = W := ⟨W, rfl⟩
 clear hw_ w
 refine wpL_seq <| wpL_region ?_
 refine sY hf hs rfl rfl rfl (Y_assign rfl rfl) ?_; clear hf; intro a hf
 refine wpO_nil <| wpL_seq <| wpL_seq <| wpL_region ?_
 refine sY hf hs rfl rfl rfl (Y_move rfl rfl) ?_; clear hf; intro a hf
 refine sY hf hs rfl rfl rfl (Y_lenH rfl rfl el59 rfl) ?_; clear hf; intro a hf
 refine sY hf hs rfl rfl rfl (Y_move rfl rfl) ?_; clear hf; intro a hf
 refine wpO_nil ?_
 obtain ⟨r42, hl43, hm⟩ := bind_some hm
 refine wpL_block (fun a w => Sum.inr () = r42 ∧ Fr a 19 [] ∧ St [] W w []) ?_ ?_
 ·refine wpL_loop (fun n a w => ∃ x28 : Int, slices_IndexFunc_sint64_L1 F aM bq n x28 = some r42 ∧ Fr a 19 [(0, .slice aG aM.length aS), (1, .func (.func bi) #[] bl.toArray), (7, .int .i64 (aM.length : Int)), (8, .int .i64 x28)] ∧ St [] W w []) F ?_ ?_ ?_
  ·exact ⟨0, hl43, (FrD.pick (FrD.pick (FrD.pick (FrD.pick hf.none hf rfl) hf rfl) hf rfl) hf rfl), hs⟩
  ·rintro a w ⟨x28, h0_, -, -⟩; simp [slices_IndexFunc_sint64_L1] at h0_
  ·rintro n45 a w ⟨x28, hm44, hf, hs⟩
   rw [slices_IndexFunc_sint64_L1] at hm44
   refine wpL_seq <| wpL_region ?_
   refine sY hf hs rfl rfl rfl (Y_lss rfl rfl rfl) ?_; clear hf; intro a hf
   refine wpO_nil <| wpL_seq ?_
   refine wpL_cond hf rfl (fun hb46 => ?_) (fun hb46 => ?_)
   ·have hm44 := bif_t hm44 hb46
    refine wpL_skip <| wpL_seq <| wpL_block0 <| wpL_seq <| wpL_region ?_
    refine sY hf hs rfl rfl rfl (Y_move rfl rfl) ?_; clear hf; intro a hf
    refine sY hf hs rfl rfl rfl (Y_assign rfl rfl) ?_; clear hf; intro a hf
    refine wpO_nil <| wpL_seq <| wpL_region ?_
    refine sY hf hs rfl rfl rfl (Y_move rfl rfl) ?_; clear hf; intro a hf
    refine sY hf hs rfl rfl rfl (Y_move rfl rfl) ?_; clear hf; intro a hf
    refine sY hf hs rfl rfl rfl (Y_move rfl rfl) ?_; clear hf; intro a hf
    obtain ⟨q47, hi48, hm44⟩ := bind_some hm44
    obtain ⟨hi48a, hi48b, hi48q⟩ := idx_some hi48
    obtain ⟨vs49, hv50, hr51⟩ := id aV
    obtain ⟨A52, c53, hv54, hR55⟩ := hr51 _ _ hi48q
    refine sY hf hs rfl rfl rfl (Y_index rfl rfl rfl el59 ti23 (Rd.isAt hv50 hv54) hi48a hi48b) ?_; clear hf; intro a hf
    refine sY hf hs rfl rfl rfl (Y_load_rd rfl rfl (fun w hs => hv50.at hs) (at1 hv54) ag23) ?_; clear hf; intro a hf
    obtain ⟨r56, hc57, hm44⟩ := bind_some hm44
    refine sCall hf rfl rfl rfl rfl (cap := bl) rfl rfl bO (bN q47 A52 q47.length c53 rfl _ _ hc57 hs.below (hR55.at hs)) ?_; clear hf; rintro _ w ⟨rfl, hs1⟩ a hf; have hs := hs.ext hs1.below; clear hs1
    refine wpO_nil ?_
    refine wpL_cond hf rfl (fun hb58 => ?_) (fun hb58 => ?_)
    ·have hm44 := bif_t hm44 hb58
     refine wpL_seq <| wpL_region ?_
     refine sY hf hs rfl rfl rfl (Y_move rfl rfl) ?_; clear hf; intro a hf
     refine sY hf hs rfl rfl rfl (Y_assign rfl rfl) ?_; clear hf; intro a hf
     refine wpO_nil ?_
     obtain rfl := Option.some.inj hm44
     try dsimp only at hm
     obtain rfl := Option.some.inj hm
     refine wpL_ret (Qb_ret (Ql_ret (Qb_ret (ret_tmp rfl hf rfl ?_))))
     exact ⟨_, rfl, rfl, hs⟩
    ·have hm44 := bif_f hm44 hb58
     refine wpL_skip ?_
     refine wpL_nil (Qb_normal ?_)
     refine wpL_region ?_
     refine sY hf hs rfl rfl rfl (Y_add rfl rfl rfl) ?_; clear hf; intro a hf
     refine sY hf hs rfl rfl rfl (Y_move rfl rfl) ?_; clear hf; intro a hf
     refine wpO_nil ?_
     refine wpL_nil (Ql_normal ?_)
     exact ⟨(IntKind.i64.wrap (x28 + 1)), hm44, (FrD.pick (FrD.pick (FrD.pick (FrD.pick hf.none hf rfl) hf rfl) hf rfl) hf rfl), hs⟩
   ·have hm44 := bif_f hm44 hb46
    refine wpL_exit (Ql_exit (Qb_exit ?_))
    exact ⟨Option.some.inj hm44, hf.none, hs⟩
 ·rintro a w ⟨hr_, hf, hs⟩
  subst hr_
  try dsimp only at hm
  refine wpL_seq <| wpL_region ?_
  refine sY hf hs rfl rfl rfl (Y_assign rfl rfl) ?_; clear hf; intro a hf
  refine wpO_nil ?_
  obtain rfl := Option.some.inj hm
  refine wpL_ret (ret_tmp rfl hf rfl ?_)
  exact ⟨_, rfl, rfl, hs⟩

set_option maxRecDepth 100000 in
theorem slices_ContainsFunc_sint64_ok (F : Nat) (aM : List (List Int)) (aG : Option Addr) (aQ aS : Nat) (bb : aQ = aM.length) (bq : (List Int) → Option Bool) (bi : FuncId) (bl : List Value) (r : Bool) (W : World) (hm : slices_ContainsFunc_sint64 F aM bq = some r) (aV : RdM W aG aM) (bN : ∀ (x0 : List Int) (Ax0_1 : Option Addr) (nx0_1 cx0_1 : Nat) (_hnx0_1 : nx0_1 = x0.length) (r : Bool) (w : World), bq x0 = some r → Below W.heap.size W w → Rd w Ax0_1 (ints x0) → Calls Try.prog bi (([.slice Ax0_1 nx0_1 cx0_1] : List Value) ++ bl).toArray w fun e w' => ∃ v, e = .returned v ∧ v = .bool r ∧ St [] w w' []) (bO : En Try.prog bi) :
  Calls Try.prog 189 [.slice aG aQ aS, .func (.func bi) #[] bl.toArray].toArray W fun e w' => ∃ v, e = .returned v ∧ v = .bool r ∧ St [] W w' [] := by
 subst bb
 unfold slices_ContainsFunc_sint64 at hm
 refine Calls.enter (N := 9) Try.func189 rfl rfl rfl (fun a hf => ?_)
 have hs := St.start W
 obtain ⟨w, hw_⟩ : ∃ w, w = W := ⟨W, rfl⟩
 clear hw_ w
 refine wpL_seq <| wpL_region ?_
 refine sY hf hs rfl rfl rfl (Y_assign rfl rfl) ?_; clear hf; intro a hf
 refine wpO_nil <| wpL_seq <| wpL_region ?_
 refine sY hf hs rfl rfl rfl (Y_move rfl rfl) ?_; clear hf; intro a hf
 refine sY hf hs rfl rfl rfl (Y_move rfl rfl) ?_; clear hf; intro a hf
 obtain ⟨r1, hc2, hm⟩ := bind_some hm
 refine sCall hf rfl rfl rfl rfl (cap := []) rfl rfl en209 (slices_IndexFunc_sint64_ok F aM aG aM.length aS rfl bq bi bl _ _ hc2 (aV.at hs) (fun x0 A0_0 n0_0 c0_0 h0_0 r w' hm_ hb r0_0 => bN x0 A0_0 n0_0 c0_0 h0_0 r w' hm_ (hs.below.trans (hb.mono hs.below.size)) r0_0) bO) ?_; clear hf
 rintro _ w ⟨rfl, hs1⟩ a hf
 have hs : St [] W w [] := hs.ext hs1.below
 clear hs1
 refine sY hf hs rfl rfl rfl (Y_geq rfl rfl rfl) ?_; clear hf; intro a hf
 refine sY hf hs rfl rfl rfl (Y_assign rfl rfl) ?_; clear hf; intro a hf
 refine wpO_nil ?_
 obtain rfl := Option.some.inj hm
 refine wpL_ret (ret_tmp rfl hf rfl ?_)
 exact ⟨_, rfl, rfl, hs⟩

set_option maxRecDepth 100000 in
theorem impl_isTimeTable_ok (F : Nat) (ae : GEventGraph) (ad : Option Addr) (ao af : Nat) (au : ao = ae.Places.length) (bH : List (List Int)) (bP : Option Addr) (ci cj : Nat) (cD : ci = bH.length) (r : Bool) (W : World) (hm : impl_isTimeTable F ae bH = some r) (ap : Rd W ad ((recs GPlace.cells) ae.Places)) (cI : RdM W bP bH) :
  Calls Try.prog 150 [.agg #[.int .i64 ae.Events, .slice ad ao af], .slice bP ci cj].toArray W fun e w' => ∃ v, e = .returned v ∧ v = .bool r ∧ St [] W w' [] := by
 subst au
 subst cD
 unfold impl_isTimeTable at hm
 refine Calls.enter (N := 14) Try.func150 rfl rfl rfl (fun a hf => ?_)
 have hs := St.start W
 obtain ⟨w, hw_⟩ : ∃ w, w = W := ⟨W, rfl⟩
 clear hw_ w
 refine wpL_seq <| wpL_region ?_
 refine sBox hf hs rfl rfl rfl rfl rfl (cs := [.int .i64 ae.Events, .slice ad ae.Places.length af]) rfl ?_; clear hf hs; intro a w b1 hs hf
 have hs : St [] W w [.blk b1 52 [.int .i64 ae.Events, .slice ad ae.Places.length af]] := hs
 refine sY hf hs rfl rfl rfl (Y_assign rfl rfl) ?_; clear hf; intro a hf
 refine wpO_nil <| wpL_seq ?_
 obtain ⟨r6, hj7, hm⟩ := bind_some hm
 refine wpL_cut (fun a w => ∃ b5 : Bool, b5 = r6 ∧ Fr a 14 [(4, .bool b5)] ∧ St [] W w []) ?_ ?_
 ·refine wpL_region ?_
  refine sY hf hs rfl rfl rfl (Y_move rfl rfl) ?_; clear hf; intro a hf
  refine sY hf hs rfl rfl rfl (Y_lenH rfl rfl el59 rfl) ?_; clear hf; intro a hf
  refine sY hf hs rfl rfl rfl (Y_leq rfl rfl rfl) ?_; clear hf; intro a hf
  refine sY hf hs rfl rfl rfl (Y_move rfl rfl) ?_; clear hf; intro a hf
  refine bsplit (decide ((bH.length : Int) ≤ 50)) (fun hb8 => ?_) (fun hb8 => ?_)
  ·have hj7 := bif_t hj7 hb8
   refine sYg hf hs rfl rfl rfl (congrArg (fun b => some (Value.bool b)) hb8) rfl rfl rfl (Y_move rfl rfl) ?_; clear hf; intro a hf
   refine sYg hf hs rfl rfl rfl (congrArg (fun b => some (Value.bool b)) hb8) rfl rfl rfl (Y_makeFunc (us := []) (vs := [.pointer (some ⟨b1, 0, none⟩)]) rfl rfl rfl) ?_; clear hf; intro a hf
   obtain ⟨r9, hc10, hj7⟩ := bind_some hj7
   refine sCallg hf rfl rfl rfl (congrArg (fun b => some (Value.bool b)) hb8) rfl rfl rfl rfl (cap := []) rfl rfl en189 (slices_ContainsFunc_sint64_ok F bH bP bH.length cj rfl (fun x0 => impl_isTimeTable_c1 F x0 ae) 190 ([.pointer (some ⟨b1, 0, none⟩)]) _ _ hc10 (cI.at hs) (fun x0 Ax00 nx00 cx00 hx00 r w' hm_ hb rx00 => impl_isTimeTable_c1_ok F x0 Ax00 nx00 cx00 hx00 b1 ae ad ae.Places.length af rfl r w' hm_ rx00 ((ap.at hs).below hb (Nat.le_refl _)) ((hs.pb (i := 0) rfl).below hb (Nat.le_refl _))) en190) ?_; clear hf
   rintro _ w ⟨rfl, hs1⟩ a hf
   have hs : St [] W w [.blk b1 52 [.int .i64 ae.Events, .slice ad ae.Places.length af]] := hs.ext hs1.below
   clear hs1
   refine sYg hf hs rfl rfl rfl (congrArg (fun b => some (Value.bool b)) hb8) rfl rfl rfl (Y_not rfl rfl) ?_; clear hf; intro a hf
   refine sY hf hs rfl rfl rfl (Y_pickT rfl (congrArg (fun b => some (Value.bool b)) hb8) rfl) ?_; clear hf; intro a hf
   refine sY hf hs rfl rfl rfl (Y_assign rfl rfl) ?_; clear hf; intro a hf
   refine wpO_nil ?_
   refine wpL_nil (then_normal ?_)
   exact ⟨(!r9), Option.some.inj hj7, (FrD.pick hf.none hf rfl), hs.sel [] (by decide)⟩
  ·have hj7 := bif_f hj7 hb8
   refine sNo hf rfl rfl rfl (congrArg (fun b => some (Value.bool b)) hb8) rfl rfl rfl ?_; clear hf; intro a hf
   refine sNo hf rfl rfl rfl (congrArg (fun b => some (Value.bool b)) hb8) rfl rfl rfl ?_; clear hf; intro a hf
   refine sNo hf rfl rfl rfl (congrArg (fun b => some (Value.bool b)) hb8) rfl rfl rfl ?_; clear hf; intro a hf
   refine sNo hf rfl rfl rfl (congrArg (fun b => some (Value.bool b)) hb8) rfl rfl rfl ?_; clear hf; intro a hf
   refine sY hf hs rfl rfl rfl (Y_pickF rfl (congrArg (fun b => some (Value.bool b)) hb8) rfl) ?_; clear hf; intro a hf
   refine sY hf hs rfl rfl rfl (Y_assign rfl rfl) ?_; clear hf; intro a hf
   refine wpO_nil ?_
   refine wpL_nil (then_normal ?_)
   exact ⟨false, Option.some.inj hj7, (FrD.pick hf.none hf rfl), hs.sel [] (by decide)⟩
 ·rintro a w ⟨b5, hr_, hf, hs⟩
  subst hr_
  try dsimp only at hm
  obtain rfl := Option.some.inj hm
  refine wpL_ret (ret_tmp rfl hf rfl ?_)
  exact ⟨_, rfl, rfl, hs⟩

set_option maxRecDepth 100000 in
theorem slices_Index_int64_ok (F : Nat) (aM : List Int) (aG : Option Addr) (aQ aS : Nat) (bb : aQ = aM.length) (cm : Int) (r : Int) (W : World) (hm : slices_Index_int64 F aM cm = some r) (aV : Rd W aG (ints aM)) :
  Calls Try.prog 205 [.slice aG aQ aS, .int .i64 cm].toArray W fun e w' => ∃ v, e = .returned v ∧ v = .int .i64 r ∧ St [] W w' [] := by
 subst bb
 unfold slices_Index_int64 at hm
 refine Calls.enter (N := 19) Try.func205 rfl rfl rfl (fun a hf => ?_)
 have hs := St.start W
 obtain ⟨w, hw_⟩ : ∃ w, w = W := ⟨W, rfl⟩
 clear hw_ w
 refine wpL_seq <| wpL_region ?_
 refine sY hf hs rfl rfl rfl (Y_assign rfl rfl) ?_; clear hf; intro a hf
 refine wpO_nil <| wpL_seq <| wpL_seq <| wpL_region ?_
 refine sY hf hs rfl rfl rfl (Y_move rfl rfl) ?_; clear hf; intro a hf
 refine sY hf hs rfl rfl rfl (Y_lenH rfl rfl el23 rfl) ?_; clear hf; intro a hf
 refine sY hf hs rfl rfl rfl (Y_move rfl rfl) ?_; clear hf; intro a hf
 refine wpO_nil ?_
 obtain ⟨r15, hl16, hm⟩ := bind_some hm
 refine wpL_block (fun a w => Sum.inr () = r15 ∧ Fr a 19 [] ∧ St [] W w []) ?_ ?_
 ·refine wpL_loop (fun n a w => ∃ x10 : Int, slices_Index_int64_L1 F aM cm n x10 = some r15 ∧ Fr a 19 [(0, .slice aG aM.length aS), (1, .int .i64 cm), (7, .int .i64 (aM.length : Int)), (8, .int .i64 x10)] ∧ St [] W w []) F ?_ ?_ ?_
  ·exact ⟨0, hl16, (FrD.pick (FrD.pick (FrD.pick (FrD.pick hf.none hf rfl) hf rfl) hf rfl) hf rfl), hs⟩
  ·rintro a w ⟨x10, h0_, -, -⟩; simp [slices_Index_int64_L1] at h0_
  ·rintro n18 a w ⟨x10, hm17, hf, hs⟩
   rw [slices_Index_int64_L1] at hm17
   refine wpL_seq <| wpL_region ?_
   refine sY hf hs rfl rfl rfl (Y_lss rfl rfl rfl) ?_; clear hf; intro a hf
   refine wpO_nil <| wpL_seq ?_
   refine wpL_cond hf rfl (fun hb19 => ?_) (fun hb19 => ?_)
   ·have hm17 := bif_t hm17 hb19
    refine wpL_skip <| wpL_seq <| wpL_block0 <| wpL_seq <| wpL_region ?_
    refine sY hf hs rfl rfl rfl (Y_move rfl rfl) ?_; clear hf; intro a hf
    refine sY hf hs rfl rfl rfl (Y_assign rfl rfl) ?_; clear hf; intro a hf
    refine wpO_nil <| wpL_seq <| wpL_region ?_
    refine sY hf hs rfl rfl rfl (Y_move rfl rfl) ?_; clear hf; intro a hf
    refine sY hf hs rfl rfl rfl (Y_move rfl rfl) ?_; clear hf; intro a hf
    refine sY hf hs rfl rfl rfl (Y_move rfl rfl) ?_; clear hf; intro a hf
    obtain ⟨q20, hi21, hm17⟩ := bind_some hm17
    obtain ⟨hi21a, hi21b, hi21q⟩ := idx_some hi21
    refine sY hf hs rfl rfl rfl (Y_index rfl rfl rfl el23 ti2 (Rd.isAt (aV.at hs) (at1 (ints_at hi21q))) hi21a hi21b) ?_; clear hf; intro a hf
    refine sY hf hs rfl rfl rfl (Y_load_rd rfl rfl (fun w hs => aV.at hs) (at1 (ints_at hi21q)) ag2) ?_; clear hf; intro a hf
    refine sY hf hs rfl rfl rfl (Y_eql rfl rfl rfl) ?_; clear hf; intro a hf
    refine wpO_nil ?_
    refine wpL_cond hf rfl (fun hb22 => ?_) (fun hb22 => ?_)
    ·have hm17 := bif_t hm17 hb22
     refine wpL_seq <| wpL_region ?_
     refine sY hf hs rfl rfl rfl (Y_move rfl rfl) ?_; clear hf; intro a hf
     refine sY hf hs rfl rfl rfl (Y_assign rfl rfl) ?_; clear hf; intro a hf
     refine wpO_nil ?_
     obtain rfl := Option.some.inj hm17
     try dsimp only at hm
     obtain rfl := Option.some.inj hm
     refine wpL_ret (Qb_ret (Ql_ret (Qb_ret (ret_tmp rfl hf rfl ?_))))
     exact ⟨_, rfl, rfl, hs⟩
    ·have hm17 := bif_f hm17 hb22
     refine wpL_skip ?_
     refine wpL_nil (Qb_normal ?_)
     refine wpL_region ?_
     refine sY hf hs rfl rfl rfl (Y_add rfl rfl rfl) ?_; clear hf; intro a hf
     refine sY hf hs rfl rfl rfl (Y_move rfl rfl) ?_; clear hf; intro a hf
     refine wpO_nil ?_
     refine wpL_nil (Ql_normal ?_)
     exact ⟨(IntKind.i64.wrap (x10 + 1)), hm17, (FrD.pick (FrD.pick (FrD.pick (FrD.pick hf.none hf rfl) hf rfl) hf rfl) hf rfl), hs⟩
   ·have hm17 := bif_f hm17 hb19
    refine wpL_exit (Ql_exit (Qb_exit ?_))
    exact ⟨Option.some.inj hm17, hf.none, hs⟩
 ·rintro a w ⟨hr_, hf, hs⟩
  subst hr_
  try dsimp only at hm
  refine wpL_seq <| wpL_region ?_
  refine sY hf hs rfl rfl rfl (Y_assign rfl rfl) ?_; clear hf; intro a hf
  refine wpO_nil ?_
  obtain rfl := Option.some.inj hm
  refine wpL_ret (ret_tmp rfl hf rfl ?_)
  exact ⟨_, rfl, rfl, hs⟩

set_option maxRecDepth 100000 in
theorem slices_Contains_int64_ok (F : Nat) (aM : List Int) (aG : Option Addr) (aQ aS : Nat) (bb : aQ = aM.length) (cm : Int) (r : Bool) (W : World) (hm : slices_Contains_int64 F aM cm = some r) (aV : Rd W aG (ints aM)) :
  Calls Try.prog 182 [.slice aG aQ aS, .int .i64 cm].toArray W fun e w' => ∃ v, e = .returned v ∧ v = .bool r ∧ St [] W w' [] := by
 subst bb
 unfold slices_Contains_int64 at hm
 refine Calls.enter (N := 9) Try.func182 rfl rfl rfl (fun a hf => ?_)
 have hs := St.start W
 obtain ⟨w, hw_⟩ : ∃ w, w = W := ⟨W, rfl⟩
 clear hw_ w
 refine wpL_seq <| wpL_region ?_
 refine sY hf hs rfl rfl rfl (Y_assign rfl rfl) ?_; clear hf; intro a hf
 refine wpO_nil <| wpL_seq <| wpL_region ?_
 refine sY hf hs rfl rfl rfl (Y_move rfl rfl) ?_; clear hf; intro a hf
 refine sY hf hs rfl rfl rfl (Y_move rfl rfl) ?_; clear hf; intro a hf
 obtain ⟨r1, hc2, hm⟩ := bind_some hm
 refine sCall hf rfl rfl rfl rfl (cap := []) rfl rfl en205 (slices_Index_int64_ok F aM aG aM.length aS rfl cm _ _ hc2 (aV.at hs)) ?_; clear hf
 rintro _ w ⟨rfl, hs1⟩ a hf
 have hs : St [] W w [] := hs.ext hs1.below
 clear hs1
 refine sY hf hs rfl rfl rfl (Y_geq rfl rfl rfl) ?_; clear hf; intro a hf
 refine sY hf hs rfl rfl rfl (Y_assign rfl rfl) ?_; clear hf; intro a hf
 refine wpO_nil ?_
 obtain rfl := Option.some.inj hm
 refine wpL_ret (ret_tmp rfl hf rfl ?_)
 exact ⟨_, rfl, rfl, hs⟩

set_option maxRecDepth 100000 in
theorem impl_firingOrder_c1_ok (F : Nat) (az : GPlace) (b_z0 : Nat) (z0 : Int) (b_z1 : Nat) (z1 : List Int) (A_z1_1 : Option Addr) (n_z1_1 c_z1_1 : Nat) (hn_z1_1 : n_z1_1 = z1.length) (r : Bool) (W : World) (hm : impl_firingOrder_c1 F az z0 z1 = some r) (h_z0 : PB W b_z0 2 [.int .i64 z0]) (h_z1_1 : Rd W A_z1_1 (ints z1)) (h_z1 : PB W b_z1 23 [.slice A_z1_1 n_z1_1 c_z1_1]) :
  Calls Try.prog 183 [.agg #[.int .i64 az.From, .int .i64 az.To, .int .i64 az.Delay, .int .i64 az.Tokens], .pointer (some ⟨b_z0, 0, none⟩), .pointer (some ⟨b_z1, 0, none⟩)].toArray W fun e w' => ∃ v, e = .returned v ∧ v = .bool r ∧ St [] W w' [] := by
 subst hn_z1_1
 unfold impl_firingOrder_c1 at hm
 refine Calls.enter (N := 21) Try.func183 rfl rfl rfl (fun a hf => ?_)
 have hs := St.start W
 obtain ⟨w, hw_⟩ : ∃ w, w = W := ⟨W, rfl⟩
 clear hw_ w
 refine wpL_seq <| wpL_region ?_
 refine sBox hf hs rfl rfl rfl rfl rfl (cs := [.int .i64 az.From, .int .i64 az.To, .int .i64 az.Delay, .int .i64 az.Tokens]) rfl ?_; clear hf hs; intro a w b1 hs hf
 have hs : St [] W w [.blk b1 112 [.int .i64 az.From, .int .i64 az.To, .int .i64 az.Delay, .int .i64 az.Tokens]] := hs
 refine sY hf hs rfl rfl rfl (Y_assign rfl rfl) ?_; clear hf; intro a hf
 refine wpO_nil <| wpL_seq ?_
 obtain ⟨r7, hj8, hm⟩ := bind_some hm
 refine wpL_cut (fun a w => ∃ b6 : Bool, b6 = r7 ∧ Fr a 21 [(4, .bool b6)] ∧ St [] W w []) ?_ ?_
 ·refine wpL_region ?_
  refine sY hf hs rfl rfl rfl (Y_fieldAddr rfl rfl fo112_1) ?_; clear hf; intro a hf
  refine sY hf hs rfl rfl rfl (Y_load_blk rfl rfl (i := 0) rfl rfl ag2) ?_; clear hf; intro a hf
  refine sY hf hs rfl rfl rfl (Y_load_pb rfl rfl h_z0 rfl ag2) ?_; clear hf; intro a hf
  refine sY hf hs rfl rfl rfl (Y_eql rfl rfl rfl) ?_; clear hf; intro a hf
  refine sY hf hs rfl rfl rfl (Y_move rfl rfl) ?_; clear hf; intro a hf
  refine bsplit (az.To == z0) (fun hb9 => ?_) (fun hb9 => ?_)
  ·have hj8 := bif_t hj8 hb9
   refine sYg hf hs rfl rfl rfl (congrArg (fun b => some (Value.bool b)) hb9) rfl rfl rfl (Y_fieldAddr rfl rfl fo112_3) ?_; clear hf; intro a hf
   refine sYg hf hs rfl rfl rfl (congrArg (fun b => some (Value.bool b)) hb9) rfl rfl rfl (Y_load_blk rfl rfl (i := 0) rfl rfl ag2) ?_; clear hf; intro a hf
   refine sYg hf hs rfl rfl rfl (congrArg (fun b => some (Value.bool b)) hb9) rfl rfl rfl (Y_eql rfl rfl rfl) ?_; clear hf; intro a hf
   refine sY hf hs rfl rfl rfl (Y_pickT rfl (congrArg (fun b => some (Value.bool b)) hb9) rfl) ?_; clear hf; intro a hf
   refine sY hf hs rfl rfl rfl (Y_move rfl rfl) ?_; clear hf; intro a hf
   refine bsplit (az.Tokens == 0) (fun hb10 => ?_) (fun hb10 => ?_)
   ·have hj8 := bif_t hj8 hb10
    refine sYg hf hs rfl rfl rfl (congrArg (fun b => some (Value.bool b)) hb10) rfl rfl rfl (Y_load_pb rfl rfl h_z1 rfl ag23) ?_; clear hf; intro a hf
    refine sYg hf hs rfl rfl rfl (congrArg (fun b => some (Value.bool b)) hb10) rfl rfl rfl (Y_fieldAddr rfl rfl fo112_0) ?_; clear hf; intro a hf
    refine sYg hf hs rfl rfl rfl (congrArg (fun b => some (Value.bool b)) hb10) rfl rfl rfl (Y_load_blk rfl rfl (i := 0) rfl rfl ag2) ?_; clear hf; intro a hf
    obtain ⟨r11, hc12, hj8⟩ := bind_some hj8
    refine sCallg hf rfl rfl rfl (congrArg (fun b => some (Value.bool b)) hb10) rfl rfl rfl rfl (cap := []) rfl rfl en182 (slices_Contains_int64_ok F z1 A_z1_1 z1.length c_z1_1 rfl az.From _ _ hc12 (h_z1_1.at hs)) ?_; clear hf
    rintro _ w ⟨rfl, hs1⟩ a hf
    have hs : St [] W w [.blk b1 112 [.int .i64 az.From, .int .i64 az.To, .int .i64 az.Delay, .int .i64 az.Tokens]] := hs.ext hs1.below
    clear hs1
    refine sYg hf hs rfl rfl rfl (congrArg (fun b => some (Value.bool b)) hb10) rfl rfl rfl (Y_not rfl rfl) ?_; clear hf; intro a hf
    refine sY hf hs rfl rfl rfl (Y_pickT rfl (congrArg (fun b => some (Value.bool b)) hb10) rfl) ?_; clear hf; intro a hf
    refine sY hf hs rfl rfl rfl (Y_assign rfl rfl) ?_; clear hf; intro a hf
    refine wpO_nil ?_
    refine wpL_nil (then_normal ?_)
    exact ⟨(!r11), Option.some.inj hj8, (FrD.pick hf.none hf rfl), hs.sel [] (by decide)⟩
   ·have hj8 := bif_f hj8 hb10
    refine sNo hf rfl rfl rfl (congrArg (fun b => some (Value.bool b)) hb10) rfl rfl rfl ?_; clear hf; intro a hf
    refine sNo hf rfl rfl rfl (congrArg (fun b => some (Value.bool b)) hb10) rfl rfl rfl ?_; clear hf; intro a hf
    refine sNo hf rfl rfl rfl (congrArg (fun b => some (Value.bool b)) hb10) rfl rfl rfl ?_; clear hf; intro a hf
    refine sNo hf rfl rfl rfl (congrArg (fun b => some (Value.bool b)) hb10) rfl rfl rfl ?_; clear hf; intro a hf
    refine sNo hf rfl rfl rfl (congrArg (fun b => some (Value.bool b)) hb10) rfl rfl rfl ?_; clear hf; intro a hf
    refine sY hf hs rfl rfl rfl (Y_pickF rfl (congrArg (fun b => some (Value.bool b)) hb10) rfl) ?_; clear hf; intro a hf
    refine sY hf hs rfl rfl rfl (Y_assign rfl rfl) ?_; clear hf; intro a hf
    refine wpO_nil ?_
    refine wpL_nil (then_normal ?_)
    exact ⟨false, Option.some.inj hj8, (FrD.pick hf.none hf rfl), hs.sel [] (by decide)⟩
  ·have hj8 := bif_f hj8 hb9
   refine sNo hf rfl rfl rfl (congrArg (fun b => some (Value.bool b)) hb9) rfl rfl rfl ?_; clear hf; intro a hf
   refine sNo hf rfl rfl rfl (congrArg (fun b => some (Value.bool b)) hb9) rfl rfl rfl ?_; clear hf; intro a hf
   refine sNo hf rfl rfl rfl (congrArg (fun b => some (Value.bool b)) hb9) rfl rfl rfl ?_; clear hf; intro a hf
   refine sY hf hs rfl rfl rfl (Y_pickF rfl (congrArg (fun b => some (Value.bool b)) hb9) rfl) ?_; clear hf; intro a hf
   refine sY hf hs rfl rfl rfl (Y_move rfl rfl) ?_; clear hf; intro a hf
   refine sNo hf rfl rfl rfl rfl rfl rfl rfl ?_; clear hf; intro a hf
   refine sNo hf rfl rfl rfl rfl rfl rfl rfl ?_; clear hf; intro a hf
   refine sNo hf rfl rfl rfl rfl rfl rfl rfl ?_; clear hf; intro a hf
   refine sNo hf rfl rfl rfl rfl rfl rfl rfl ?_; clear hf; intro a hf
   refine sNo hf rfl rfl rfl rfl rfl rfl rfl ?_; clear hf; intro a hf
   refine sY hf hs rfl rfl rfl (Y_pickF rfl rfl rfl) ?_; clear hf; intro a hf
   refine sY hf hs rfl rfl rfl (Y_assign rfl rfl) ?_; clear hf; intro a hf
   refine wpO_nil ?_
   refine wpL_nil (then_normal ?_)
   exact ⟨false, Option.some.inj hj8, (FrD.pick hf.none hf rfl), hs.sel [] (by decide)⟩
 ·rintro a w ⟨b6, hr_, hf, hs⟩
  subst hr_
  try dsimp only at hm
  obtain rfl := Option.some.inj hm
  refine wpL_ret (ret_tmp rfl hf rfl ?_)
  exact ⟨_, rfl, rfl, hs⟩

set_option maxRecDepth 100000 in
theorem impl_firingOrder_ok (F : Nat) (ae : GEventGraph) (ad : Option Addr) (ao af : Nat) (au : ao = ae.Places.length) (r : List Int × Bool) (W : World) (hm : impl_firingOrder F ae = some r) (ap : Rd W ad ((recs GPlace.cells) ae.Places)) :
  Calls Try.prog 142 [.agg #[.int .i64 ae.Events, .slice ad ao af]].toArray W fun e w' => ∃ v, e = .returned v ∧ ∃ A459, ∃ n460, ∃ c461, v = .tuple #[.slice A459 n460 c461, .bool r.2] ∧ n460 = r.1.length ∧ St [] W w' [.row A459 n460 c461 2 1 (ints r.1)] := by
 subst au
 unfold impl_firingOrder at hm
 refine Calls.enter (N := 41) Try.func142 rfl rfl rfl (fun a hf => ?_)
 have hs := St.start W
 obtain ⟨w, hw_⟩ : ∃ w, w = W := ⟨W, rfl⟩
 clear hw_ w
 refine wpL_seq <| wpL_region ?_
 refine sBox hf hs rfl rfl rfl rfl rfl (cs := [.int .i64 ae.Events, .slice ad ae.Places.length af]) rfl ?_; clear hf hs; intro a w b1 hs hf
 have hs : St [] W w [.blk b1 52 [.int .i64 ae.Events, .slice ad ae.Places.length af]] := hs
 refine sY hf hs rfl rfl rfl (Y_assign rfl rfl) ?_; clear hf; intro a hf
 refine sY hf hs rfl rfl rfl (Y_assign rfl rfl) ?_; clear hf; intro a hf
 refine wpO_nil <| wpL_seq <| wpL_region ?_
 refine sAlloc hf hs rfl rfl rfl rfl ti23 ?_; clear hf hs; intro a w b2 hs hf
 have hs : St [] W w [.blk b1 52 [.int .i64 ae.Events, .slice ad ae.Places.length af], .blk b2 23 [.slice none 0 0]] := hs
 refine wpO_nil <| wpL_seq ?_
 obtain ⟨r345, hl346, hm⟩ := bind_some hm
 have hs : St [] W _ [.blk b1 52 [.int .i64 ae.Events, .slice ad ae.Places.length af], .blk b2 23 [.slice none 0 0], .row none 0 0 2 1 (ints ([] : List Int))] := hs.addNil 2 1
 refine wpL_block (fun a w => ∃ xs340 : List Int, ∃ A341, ∃ n342, ∃ c343, Sum.inr xs340 = r345 ∧ n342 = xs340.length ∧ Fr a 41 [(4, .pointer (some ⟨b2, 0, none⟩))] ∧ St [] W w [.blk b2 23 [.slice A341 n342 c343], .row A341 n342 c343 2 1 (ints xs340)]) ?_ ?_
 ·refine wpL_loop (fun n a w => ∃ xs227 : List Int, ∃ A228, ∃ n229, ∃ c230, impl_firingOrder_L4 F ae n xs227 = some r345 ∧ n229 = xs227.length ∧ Fr a 41 [(1, .pointer (some ⟨b1, 0, none⟩)), (4, .pointer (some ⟨b2, 0, none⟩))] ∧ St [] W w [.blk b1 52 [.int .i64 ae.Events, .slice ad ae.Places.length af], .blk b2 23 [.slice A228 n229 c230], .row A228 n229 c230 2 1 (ints xs227)]) F ?_ ?_ ?_
  ·exact ⟨[], none, 0, 0, hl346, rfl, (FrD.pick (FrD.pick hf.none hf rfl) hf rfl), hs⟩
  ·rintro a w ⟨xs227, A228, n229, c230, h0_, -, -, -⟩; simp [impl_firingOrder_L4] at h0_
  ·rintro n348 a w ⟨xs227, A228, n229, c230, hm347, hn231, hf, hs⟩
   rw [impl_firingOrder_L4] at hm347
   refine wpL_seq <| wpL_seq <| wpL_region ?_
   refine sY hf hs rfl rfl rfl (Y_load_blk rfl rfl (i := 1) rfl rfl ag23) ?_; clear hf; intro a hf
   refine sY hf hs rfl rfl rfl (Y_lenH rfl rfl el23 hn231) ?_; clear hf; intro a hf
   refine sY hf hs rfl rfl rfl (Y_fieldAddr rfl rfl fo52_0) ?_; clear hf; intro a hf
   refine sY hf hs rfl rfl rfl (Y_load_blk rfl rfl (i := 0) rfl rfl ag2) ?_; clear hf; intro a hf
   refine sY hf hs rfl rfl rfl (Y_lss rfl rfl rfl) ?_; clear hf; intro a hf
   refine wpO_nil ?_
   refine wpL_cond hf rfl (fun hb349 => ?_) (fun hb349 => ?_)
   ·have hm347 := bif_t hm347 hb349
    refine wpL_skip <| wpL_block0 <| wpL_seq <| wpL_region ?_
    refine sY hf hs rfl rfl rfl (Y_assign rfl rfl) ?_; clear hf; intro a hf
    refine wpO_nil <| wpL_seq <| wpL_seq <| wpL_region ?_
    refine sAlloc hf hs rfl rfl rfl rfl ti2 ?_; clear hf hs; intro a w b350 hs hf
    have hs : St [] W w [.blk b1 52 [.int .i64 ae.Events, .slice ad ae.Places.length af], .blk b2 23 [.slice A228 n229 c230], .row A228 n229 c230 2 1 (ints xs227), .blk b350 2 [.int .i64 0]] := hs
    refine sStore (i := 3) (us := [.int .i64 0]) hf hs rfl rfl rfl rfl rfl rfl ti2 rfl rfl rfl (Nat.le_of_ble_eq_true rfl) rfl ?_; clear hs; intro w hs
    have hs : St [] W w [.blk b1 52 [.int .i64 ae.Events, .slice ad ae.Places.length af], .blk b2 23 [.slice A228 n229 c230], .row A228 n229 c230 2 1 (ints xs227), .blk b350 2 [.int .i64 0]] := hs
    refine wpO_nil ?_
    obtain ⟨r424, hl425, hm347⟩ := bind_some hm347
    refine wpL_block (fun a w => ∃ x423 : Int, x423 = r424 ∧ Fr a 41 [(1, .pointer (some ⟨b1, 0, none⟩)), (4, .pointer (some ⟨b2, 0, none⟩)), (5, .int .i64 x423)] ∧ St [] W w [.blk b1 52 [.int .i64 ae.Events, .slice ad ae.Places.length af], .blk b2 23 [.slice A228 n229 c230], .row A228 n229 c230 2 1 (ints xs227)]) ?_ ?_
    ·refine wpL_loop (fun n a w => ∃ x398 : Int, ∃ x400 : Int, ∃ b399, impl_firingOrder_L5 F ae xs227 n x398 x400 = some r424 ∧ Fr a 41 [(1, .pointer (some ⟨b1, 0, none⟩)), (4, .pointer (some ⟨b2, 0, none⟩)), (5, .int .i64 x398), (6, .pointer (some ⟨b399, 0, none⟩))] ∧ St [] W w [.blk b1 52 [.int .i64 ae.Events, .slice ad ae.Places.length af], .blk b2 23 [.slice A228 n229 c230], .row A228 n229 c230 2 1 (ints xs227), .blk b399 2 [.int .i64 x400]]) F ?_ ?_ ?_
     ·exact ⟨(-1), 0, b350, hl425, (FrD.pick (FrD.pick (FrD.pick (FrD.pick hf.none hf rfl) hf rfl) hf rfl) hf rfl), hs⟩
     ·rintro a w ⟨x398, x400, b399, h0_, -, -⟩; simp [impl_firingOrder_L5] at h0_
     ·rintro n427 a w ⟨x398, x400, b399, hm426, hf, hs⟩
      rw [impl_firingOrder_L5] at hm426
      refine wpL_seq <| wpL_seq ?_
      obtain ⟨r430, hj431, hm426⟩ := bind_some hm426
      refine wpL_cut (fun a w => ∃ b429 : Bool, b429 = r430 ∧ Fr a 41 [(1, .pointer (some ⟨b1, 0, none⟩)), (4, .pointer (some ⟨b2, 0, none⟩)), (5, .int .i64 x398), (6, .pointer (some ⟨b399, 0, none⟩)), (20, .bool b429)] ∧ St [] W w [.blk b1 52 [.int .i64 ae.Events, .slice ad ae.Places.length af], .blk b2 23 [.slice A228 n229 c230], .row A228 n229 c230 2 1 (ints xs227), .blk b399 2 [.int .i64 x400]]) ?_ ?_
      ·refine wpL_region ?_
       refine sY hf hs rfl rfl rfl (Y_load_blk rfl rfl (i := 3) rfl rfl ag2) ?_; clear hf; intro a hf
       refine sY hf hs rfl rfl rfl (Y_fieldAddr rfl rfl fo52_0) ?_; clear hf; intro a hf
       refine sY hf hs rfl rfl rfl (Y_load_blk rfl rfl (i := 0) rfl rfl ag2) ?_; clear hf; intro a hf
       refine sY hf hs rfl rfl rfl (Y_lss rfl rfl rfl) ?_; clear hf; intro a hf
       refine sY hf hs rfl rfl rfl (Y_move rfl rfl) ?_; clear hf; intro a hf
       refine bsplit (decide (x400 < ae.Events)) (fun hb432 => ?_) (fun hb432 => ?_)
       ·have hj431 := bif_t hj431 hb432
        refine sYg hf hs rfl rfl rfl (congrArg (fun b => some (Value.bool b)) hb432) rfl rfl rfl (Y_move rfl rfl) ?_; clear hf; intro a hf
        refine sYg hf hs rfl rfl rfl (congrArg (fun b => some (Value.bool b)) hb432) rfl rfl rfl (Y_lss rfl rfl rfl) ?_; clear hf; intro a hf
        refine sY hf hs rfl rfl rfl (Y_pickT rfl (congrArg (fun b => some (Value.bool b)) hb432) rfl) ?_; clear hf; intro a hf
        refine wpO_nil ?_
        refine wpL_nil (then_normal ?_)
        exact ⟨(decide (x398 < 0)), Option.some.inj hj431, (FrD.pick (FrD.pick (FrD.pick (FrD.pick (FrD.pick hf.none hf rfl) hf rfl) hf rfl) hf rfl) hf rfl), hs⟩
       ·have hj431 := bif_f hj431 hb432
        refine sNo hf rfl rfl rfl (congrArg (fun b => some (Value.bool b)) hb432) rfl rfl rfl ?_; clear hf; intro a hf
        refine sNo hf rfl rfl rfl (congrArg (fun b => some (Value.bool b)) hb432) rfl rfl rfl ?_; clear hf; intro a hf
        refine sY hf hs rfl rfl rfl (Y_pickF rfl (congrArg (fun b => some (Value.bool b)) hb432) rfl) ?_; clear hf; intro a hf
        refine wpO_nil ?_
        refine wpL_nil (then_normal ?_)
        exact ⟨false, Option.some.inj hj431, (FrD.pick (FrD.pick (FrD.pick (FrD.pick (FrD.pick hf.none hf rfl) hf rfl) hf rfl) hf rfl) hf rfl), hs⟩
      ·rintro a w ⟨b429, hr_, hf, hs⟩
       subst hr_
       try dsimp only at hm426
       refine wpL_cond hf rfl (fun hb433 => ?_) (fun hb433 => ?_)
       ·have hm426 := bif_t hm426 hb433
        refine wpL_skip <| wpL_seq ?_
        obtain ⟨r441, hj442, hm426⟩ := bind_some hm426
        refine wpL_block (fun a w => ∃ x440 : Int, x440 = r441 ∧ Fr a 41 [(1, .pointer (some ⟨b1, 0, none⟩)), (4, .pointer (some ⟨b2, 0, none⟩)), (5, .int .i64 x440), (6, .pointer (some ⟨b399, 0, none⟩))] ∧ St [] W w [.blk b1 52 [.int .i64 ae.Events, .slice ad ae.Places.length af], .blk b2 23 [.slice A228 n229 c230], .row A228 n229 c230 2 1 (ints xs227), .blk b399 2 [.int .i64 x400]]) ?_ ?_
        ·refine wpL_seq <| wpL_seq <| wpL_region ?_
         refine sY hf hs rfl rfl rfl (Y_load_blk rfl rfl (i := 1) rfl rfl ag23) ?_; clear hf; intro a hf
         refine sY hf hs rfl rfl rfl (Y_load_blk rfl rfl (i := 3) rfl rfl ag2) ?_; clear hf; intro a hf
         obtain ⟨r443, hc444, hj442⟩ := bind_some hj442
         refine sCall hf rfl rfl rfl rfl (cap := []) rfl rfl en182 (slices_Contains_int64_ok F xs227 A228 n229 c230 hn231 x400 _ _ hc444 (hs.rd (i := 2) rfl)) ?_; clear hf
         rintro _ w ⟨rfl, hs1⟩ a hf
         have hs : St [] W w [.blk b1 52 [.int .i64 ae.Events, .slice ad ae.Places.length af], .blk b2 23 [.slice A228 n229 c230], .row A228 n229 c230 2 1 (ints xs227), .blk b399 2 [.int .i64 x400]] := hs.ext hs1.below
         clear hs1
         refine wpO_nil ?_
         refine wpL_cond hf rfl (fun hb445 => ?_) (fun hb445 => ?_)
         ·have hj442 := bif_t hj442 hb445
          refine wpL_exit (Qb_exit ?_)
          exact ⟨x398, Option.some.inj hj442, (FrD.pick (FrD.pick (FrD.pick (FrD.pick hf.none hf rfl) hf rfl) hf rfl) hf rfl), hs⟩
         ·have hj442 := bif_f hj442 hb445
          refine wpL_skip <| wpL_seq <| wpL_region ?_
          refine sY hf hs rfl rfl rfl (Y_fieldAddr rfl rfl fo52_1) ?_; clear hf; intro a hf
          refine sY hf hs rfl rfl rfl (Y_load_blk rfl rfl (i := 0) rfl rfl ag50) ?_; clear hf; intro a hf
          refine sY hf hs rfl rfl rfl (Y_makeFunc (us := []) (vs := [.pointer (some ⟨b399, 0, none⟩), .pointer (some ⟨b2, 0, none⟩)]) rfl rfl rfl) ?_; clear hf; intro a hf
          obtain ⟨r446, hc447, hj442⟩ := bind_some hj442
          refine sCall hf rfl rfl rfl rfl (cap := []) rfl rfl en173 (slices_ContainsFunc_Place_ok F ae.Places ad ae.Places.length af rfl (fun x0 => impl_firingOrder_c1 F x0 x400 xs227) 183 ([.pointer (some ⟨b399, 0, none⟩), .pointer (some ⟨b2, 0, none⟩)]) _ _ hc447 (ap.at hs) (fun x0 r w' hm_ hb => impl_firingOrder_c1_ok F x0 b399 x400 b2 xs227 A228 n229 c230 hn231 r w' hm_ ((hs.pb (i := 3) rfl).below hb (Nat.le_refl _)) ((hs.rd (i := 2) rfl).below hb (Nat.le_refl _)) ((hs.pb (i := 1) rfl).below hb (Nat.le_refl _))) en183) ?_; clear hf
          rintro _ w ⟨rfl, hs1⟩ a hf
          have hs : St [] W w [.blk b1 52 [.int .i64 ae.Events, .slice ad ae.Places.length af], .blk b2 23 [.slice A228 n229 c230], .row A228 n229 c230 2 1 (ints xs227), .blk b399 2 [.int .i64 x400]] := hs.ext hs1.below
          clear hs1
          refine sY hf hs rfl rfl rfl (Y_assign rfl rfl) ?_; clear hf; intro a hf
          refine wpO_nil <| wpL_seq <| wpL_region ?_
          refine sY hf hs rfl rfl rfl (Y_move rfl rfl) ?_; clear hf; intro a hf
          refine sY hf hs rfl rfl rfl (Y_not rfl rfl) ?_; clear hf; intro a hf
          refine wpO_nil ?_
          refine wpL_cond hf rfl (fun hb448 => ?_) (fun hb448 => ?_)
          ·have hj442 := bif_t hj442 hb448
           refine wpL_region ?_
           refine sY hf hs rfl rfl rfl (Y_load_blk rfl rfl (i := 3) rfl rfl ag2) ?_; clear hf; intro a hf
           refine sY hf hs rfl rfl rfl (Y_assign rfl rfl) ?_; clear hf; intro a hf
           refine wpO_nil ?_
           refine wpL_nil (Qb_normal ?_)
           exact ⟨x400, Option.some.inj hj442, (FrD.pick (FrD.pick (FrD.pick (FrD.pick hf.none hf rfl) hf rfl) hf rfl) hf rfl), hs⟩
          ·have hj442 := bif_f hj442 hb448
           refine wpL_skip ?_
           refine wpL_nil (Qb_normal ?_)
           exact ⟨x398, Option.some.inj hj442, (FrD.pick (FrD.pick (FrD.pick (FrD.pick hf.none hf rfl) hf rfl) hf rfl) hf rfl), hs⟩
        ·rintro a w ⟨x440, hr_, hf, hs⟩
         subst hr_
         try dsimp only at hm426
         refine wpL_seq <| wpL_seq <| wpL_region ?_
         refine sY hf hs rfl rfl rfl (Y_load_blk rfl rfl (i := 3) rfl rfl ag2) ?_; clear hf; intro a hf
         refine wpO_nil <| wpL_region ?_
         refine sAlloc hf hs rfl rfl rfl rfl ti2 ?_; clear hf hs; intro a w b449 hs hf
         have hs : St [] W w [.blk b1 52 [.int .i64 ae.Events, .slice ad ae.Places.length af], .blk b2 23 [.slice A228 n229 c230], .row A228 n229 c230 2 1 (ints xs227), .blk b399 2 [.int .i64 x400], .blk b449 2 [.int .i64 0]] := hs
         refine sStore (i := 4) (us := [.int .i64 x400]) hf hs rfl rfl rfl rfl rfl rfl ti2 rfl rfl rfl (Nat.le_of_ble_eq_true rfl) rfl ?_; clear hs; intro w hs
         have hs : St [] W w [.blk b1 52 [.int .i64 ae.Events, .slice ad ae.Places.length af], .blk b2 23 [.slice A228 n229 c230], .row A228 n229 c230 2 1 (ints xs227), .blk b399 2 [.int .i64 x400], .blk b449 2 [.int .i64 x400]] := hs
         refine wpO_nil <| wpL_region ?_
         refine sY hf hs rfl rfl rfl (Y_load_blk rfl rfl (i := 4) rfl rfl ag2) ?_; clear hf; intro a hf
         refine sY hf hs rfl rfl rfl (Y_add rfl rfl rfl) ?_; clear hf; intro a hf
         refine sStore (i := 4) (us := [.int .i64 (IntKind.i64.wrap (x400 + 1))]) hf hs rfl rfl rfl rfl rfl rfl ti2 rfl rfl rfl (Nat.le_of_ble_eq_true rfl) rfl ?_; clear hs; intro w hs
         have hs : St [] W w [.blk b1 52 [.int .i64 ae.Events, .slice ad ae.Places.length af], .blk b2 23 [.slice A228 n229 c230], .row A228 n229 c230 2 1 (ints xs227), .blk b399 2 [.int .i64 x400], .blk b449 2 [.int .i64 (IntKind.i64.wrap (x400 + 1))]] := hs
         refine wpO_nil ?_
         refine wpL_nil (Ql_normal ?_)
         exact ⟨x440, (IntKind.i64.wrap (x400 + 1)), b449, hm426, (FrD.pick (FrD.pick (FrD.pick (FrD.pick hf.none hf rfl) hf rfl) hf rfl) hf rfl), hs.sel [0, 1, 2, 4] (by decide)⟩
       ·have hm426 := bif_f hm426 hb433
        refine wpL_exit (Ql_exit (Qb_exit ?_))
        exact ⟨x398, Option.some.inj hm426, (FrD.pick (FrD.pick (FrD.pick hf.none hf rfl) hf rfl) hf rfl), hs.sel [0, 1, 2] (by decide)⟩
    ·rintro a w ⟨x423, hr_, hf, hs⟩
     subst hr_
     try dsimp only at hm347
     refine wpL_seq <| wpL_seq <| wpL_region ?_
     refine sY hf hs rfl rfl rfl (Y_move rfl rfl) ?_; clear hf; intro a hf
     refine sY hf hs rfl rfl rfl (Y_lss rfl rfl rfl) ?_; clear hf; intro a hf
     refine wpO_nil ?_
     refine wpL_cond hf rfl (fun hb450 => ?_) (fun hb450 => ?_)
     ·have hm347 := bif_t hm347 hb450
      refine wpL_seq <| wpL_region ?_
      refine sY hf hs rfl rfl rfl (Y_assign rfl rfl) ?_; clear hf; intro a hf
      refine sY hf hs rfl rfl rfl (Y_assign rfl rfl) ?_; clear hf; intro a hf
      refine wpO_nil ?_
      have hs : St [] W _ [.blk b1 52 [.int .i64 ae.Events, .slice ad ae.Places.length af], .blk b2 23 [.slice A228 n229 c230], .row A228 n229 c230 2 1 (ints xs227), .row none 0 0 2 1 (ints ([] : List Int))] := hs.addNil 2 1
      obtain rfl := Option.some.inj hm347
      try dsimp only at hm
      obtain rfl := Option.some.inj hm
      refine wpL_ret (Qb_ret (Ql_ret (Qb_ret (ret_tmp2 rfl hf rfl rfl ?_))))
      exact ⟨_, rfl, none, 0, 0, rfl, rfl, hs.sel [3] (by decide)⟩
     ·have hm347 := bif_f hm347 hb450
      refine wpL_skip <| wpL_region ?_
      refine sY hf hs rfl rfl rfl (Y_load_blk rfl rfl (i := 1) rfl rfl ag23) ?_; clear hf; intro a hf
      refine sY hf hs rfl rfl rfl (Y_move rfl rfl) ?_; clear hf; intro a hf
      refine sBuildSlice (parts := [(0, .tmp 37)]) (vs := [.int .i64 x423]) (cells := [.int .i64 x423]) hf hs rfl rfl rfl rfl rfl el23 ti2 rfl rfl rfl rfl ?_; clear hf hs; intro a w A452 hs hA453 hf
      have hs : St [] W w [.blk b1 52 [.int .i64 ae.Events, .slice ad ae.Places.length af], .blk b2 23 [.slice A228 n229 c230], .row A228 n229 c230 2 1 (ints xs227), .row A452 1 1 2 1 (ints ([x423]))] := hs
      obtain ⟨xs456, ha457, hm347⟩ := bind_some hm347
      refine sAppendL (i := 2) (xs := xs227) (ys := [x423]) (enc := ints) hf hs rfl rfl rfl rfl rfl rfl hn231 rfl rfl ha457 el23 ti2 rfl rfl rfl (hs.rd (i := 3) rfl) (Nat.succ_pos _) ints_len1 ints_append ints_one ?_; clear hf hs; intro a w A454 c455 hs hf
      have hs : St [] W w [.blk b1 52 [.int .i64 ae.Events, .slice ad ae.Places.length af], .blk b2 23 [.slice A228 n229 c230], .row A454 xs456.length c455 2 1 (ints xs456), .row A452 1 1 2 1 (ints ([x423]))] := hs
      refine sStore (i := 1) (us := [.slice A454 xs456.length c455]) hf hs rfl rfl rfl rfl rfl rfl ti23 rfl rfl rfl (Nat.le_of_ble_eq_true rfl) rfl ?_; clear hs; intro w hs
      have hs : St [] W w [.blk b1 52 [.int .i64 ae.Events, .slice ad ae.Places.length af], .blk b2 23 [.slice A454 xs456.length c455], .row A454 xs456.length c455 2 1 (ints xs456), .row A452 1 1 2 1 (ints ([x423]))] := hs
      refine wpO_nil ?_
      refine wpL_nil (Qb_normal ?_)
      refine wpL_nil (Ql_normal ?_)
      exact ⟨xs456, A454, xs456.length, c455, hm347, rfl, (FrD.pick (FrD.pick hf.none hf rfl) hf rfl), hs.sel [0, 1, 2] (by decide)⟩
   ·have hm347 := bif_f hm347 hb349
    refine wpL_exit (Ql_exit (Qb_exit ?_))
    exact ⟨xs227, A228, n229, c230, Option.some.inj hm347, hn231, (FrD.pick hf.none hf rfl), hs.sel [1, 2] (by decide)⟩
 ·rintro a w ⟨xs340, A341, n342, c343, hr_, hn344, hf, hs⟩
  subst hr_
  try dsimp only at hm
  refine wpL_seq <| wpL_region ?_
  refine sY hf hs rfl rfl rfl (Y_load_blk rfl rfl (i := 0) rfl rfl ag23) ?_; clear hf; intro a hf
  refine sY hf hs rfl rfl rfl (Y_assign rfl rfl) ?_; clear hf; intro a hf
  refine sY hf hs rfl rfl rfl (Y_assign rfl rfl) ?_; clear hf; intro a hf
  refine wpO_nil ?_
  obtain rfl := Option.some.inj hm
  refine wpL_ret (ret_tmp2 rfl hf rfl rfl ?_)
  exact ⟨_, rfl, A341, n342, c343, rfl, hn344, hs.sel [1] (by decide)⟩

set_option maxRecDepth 100000 in
theorem impl_isLive_ok (F : Nat) (ae : GEventGraph) (ad : Option Addr) (ao af : Nat) (au : ao = ae.Places.length) (r : Bool) (W : World) (hm : impl_isLive F ae = some r) (ap : Rd W ad ((recs GPlace.cells) ae.Places)) :
  Calls Try.prog 135 [.agg #[.int .i64 ae.Events, .slice ad ao af]].toArray W fun e w' => ∃ v, e = .returned v ∧ v = .bool r ∧ St [] W w' [] := by
 subst au
 unfold impl_isLive at hm
 refine Calls.enter (N := 11) Try.func135 rfl rfl rfl (fun a hf => ?_)
 have hs := St.start W
 obtain ⟨w, hw_⟩ : ∃ w, w = W := ⟨W, rfl⟩
 clear hw_ w
 refine wpL_seq <| wpL_region ?_
 refine sBox hf hs rfl rfl rfl rfl rfl (cs := [.int .i64 ae.Events, .slice ad ae.Places.length af]) rfl ?_; clear hf hs; intro a w b1 hs hf
 have hs : St [] W w [.blk b1 52 [.int .i64 ae.Events, .slice ad ae.Places.length af]] := hs
 refine sY hf hs rfl rfl rfl (Y_assign rfl rfl) ?_; clear hf; intro a hf
 refine wpO_nil <| wpL_seq <| wpL_region ?_
 refine sY hf hs rfl rfl rfl (Y_load_blkS rfl rfl (i := 0) rfl ag52 ti52 rfl) ?_; clear hf; intro a hf
 obtain ⟨r2, hc3, hm⟩ := bind_some hm
 refine sCall hf rfl rfl rfl rfl (cap := []) rfl rfl en142 (impl_firingOrder_ok F ae ad ae.Places.length af rfl _ _ hc3 (ap.at hs)) ?_; clear hf
 rintro _ w ⟨A4, n5, c6, rfl, hn7, hs1⟩ a hf
 have hs : St [] W w [.blk b1 52 [.int .i64 ae.Events, .slice ad ae.Places.length af], .row A4 n5 c6 2 1 (ints r2.1)] := hs.join hs1
 clear hs1
 refine sY hf hs rfl rfl rfl (Y_move rfl rfl) ?_; clear hf; intro a hf
 refine sY hf hs rfl rfl rfl (Y_extract rfl rfl rfl) ?_; clear hf; intro a hf
 refine sY hf hs rfl rfl rfl (Y_extract rfl rfl rfl) ?_; clear hf; intro a hf
 refine sY hf hs rfl rfl rfl (Y_assign rfl rfl) ?_; clear hf; intro a hf
 refine sY hf hs rfl rfl rfl (Y_assign rfl rfl) ?_; clear hf; intro a hf
 refine wpO_nil <| wpL_seq <| wpL_region ?_
 refine sY hf hs rfl rfl rfl (Y_move rfl rfl) ?_; clear hf; intro a hf
 refine sY hf hs rfl rfl rfl (Y_assign rfl rfl) ?_; clear hf; intro a hf
 refine wpO_nil ?_
 obtain rfl := Option.some.inj hm
 refine wpL_ret (ret_tmp rfl hf rfl ?_)
 exact ⟨_, rfl, rfl, hs.sel [] (by decide)⟩

set_option maxRecDepth 100000 in
theorem impl_checkDue_ok (F : Nat) (ae : GEventGraph) (ad : Option Addr) (ao af : Nat) (au : ao = ae.Places.length) (al : List (List Int)) (ak : Option Addr) (ax am : Nat) (aE : ax = al.length) (r : Int) (W : World) (hm : impl_checkDue F ae al = some r) (ap : Rd W ad ((recs GPlace.cells) ae.Places)) (aB : RdM W ak al) :
  Calls Try.prog 97 [.agg #[.int .i64 ae.Events, .slice ad ao af], .slice ak ax am].toArray W fun e w' => ∃ v, e = .returned v ∧ v = .int .i64 r ∧ St [] W w' [] := by
 subst au
 subst aE
 unfold impl_checkDue at hm
 refine Calls.enter (N := 18) Try.func97 rfl rfl rfl (fun a hf => ?_)
 have hs := St.start W
 obtain ⟨w, hw_⟩ : ∃ w, w = W := ⟨W, rfl⟩
 clear hw_ w
 refine wpL_seq <| wpL_region ?_
 refine sBox hf hs rfl rfl rfl rfl rfl (cs := [.int .i64 ae.Events, .slice ad ae.Places.length af]) rfl ?_; clear hf hs; intro a w b1 hs hf
 have hs : St [] W w [.blk b1 52 [.int .i64 ae.Events, .slice ad ae.Places.length af]] := hs
 refine sY hf hs rfl rfl rfl (Y_assign rfl rfl) ?_; clear hf; intro a hf
 refine wpO_nil <| wpL_seq <| wpL_block0 <| wpL_seq <| wpL_region ?_
 refine sY hf hs rfl rfl rfl (Y_load_blkS rfl rfl (i := 0) rfl ag52 ti52 rfl) ?_; clear hf; intro a hf
 obtain ⟨r2, hc3, hm⟩ := bind_some hm
 refine sCall hf rfl rfl rfl rfl (cap := []) rfl rfl en132 (impl_IsEventGraph_ok F ae ad ae.Places.length af rfl _ _ hc3 (ap.at hs)) ?_; clear hf
 rintro _ w ⟨rfl, hs1⟩ a hf
 have hs : St [] W w [.blk b1 52 [.int .i64 ae.Events, .slice ad ae.Places.length af]] := hs.ext hs1.below
 clear hs1
 refine sY hf hs rfl rfl rfl (Y_not rfl rfl) ?_; clear hf; intro a hf
 refine sY hf hs rfl rfl rfl (Y_assign rfl rfl) ?_; clear hf; intro a hf
 refine wpO_nil ?_
 refine wpL_cond hf rfl (fun hb4 => ?_) (fun hb4 => ?_)
 ·have hm := bif_t hm hb4
  refine wpL_seq <| wpL_region ?_
  refine sY hf hs rfl rfl rfl (Y_assign rfl rfl) ?_; clear hf; intro a hf
  refine wpO_nil ?_
  obtain rfl := Option.some.inj hm
  refine wpL_ret (Qb_ret (ret_tmp rfl hf rfl ?_))
  exact ⟨_, rfl, rfl, hs.sel [] (by decide)⟩
 ·have hm := bif_f hm hb4
  refine wpL_seq <| wpL_region ?_
  refine sY hf hs rfl rfl rfl (Y_load_blkS rfl rfl (i := 0) rfl ag52 ti52 rfl) ?_; clear hf; intro a hf
  refine sY hf hs rfl rfl rfl (Y_move rfl rfl) ?_; clear hf; intro a hf
  obtain ⟨r5, hc6, hm⟩ := bind_some hm
  refine sCall hf rfl rfl rfl rfl (cap := []) rfl rfl en150 (impl_isTimeTable_ok F ae ad ae.Places.length af rfl al ak al.length am rfl _ _ hc6 (ap.at hs) (aB.at hs)) ?_; clear hf
  rintro _ w ⟨rfl, hs1⟩ a hf
  have hs : St [] W w [.blk b1 52 [.int .i64 ae.Events, .slice ad ae.Places.length af]] := hs.ext hs1.below
  clear hs1
  refine sY hf hs rfl rfl rfl (Y_not rfl rfl) ?_; clear hf; intro a hf
  refine sY hf hs rfl rfl rfl (Y_assign rfl rfl) ?_; clear hf; intro a hf
  refine wpO_nil ?_
  refine wpL_cond hf rfl (fun hb7 => ?_) (fun hb7 => ?_)
  ·have hm := bif_t hm hb7
   refine wpL_seq <| wpL_region ?_
   refine sY hf hs rfl rfl rfl (Y_assign rfl rfl) ?_; clear hf; intro a hf
   refine wpO_nil ?_
   obtain rfl := Option.some.inj hm
   refine wpL_ret (Qb_ret (ret_tmp rfl hf rfl ?_))
   exact ⟨_, rfl, rfl, hs.sel [] (by decide)⟩
  ·have hm := bif_f hm hb7
   refine wpL_seq <| wpL_region ?_
   refine sY hf hs rfl rfl rfl (Y_load_blkS rfl rfl (i := 0) rfl ag52 ti52 rfl) ?_; clear hf; intro a hf
   obtain ⟨r8, hc9, hm⟩ := bind_some hm
   refine sCall hf rfl rfl rfl rfl (cap := []) rfl rfl en135 (impl_isLive_ok F ae ad ae.Places.length af rfl _ _ hc9 (ap.at hs)) ?_; clear hf
   rintro _ w ⟨rfl, hs1⟩ a hf
   have hs : St [] W w [.blk b1 52 [.int .i64 ae.Events, .slice ad ae.Places.length af]] := hs.ext hs1.below
   clear hs1
   refine sY hf hs rfl rfl rfl (Y_not rfl rfl) ?_; clear hf; intro a hf
   refine sY hf hs rfl rfl rfl (Y_assign rfl rfl) ?_; clear hf; intro a hf
   refine wpO_nil ?_
   refine wpL_cond hf rfl (fun hb10 => ?_) (fun hb10 => ?_)
   ·have hm := bif_t hm hb10
    refine wpL_seq <| wpL_region ?_
    refine sY hf hs rfl rfl rfl (Y_assign rfl rfl) ?_; clear hf; intro a hf
    refine wpO_nil ?_
    obtain rfl := Option.some.inj hm
    refine wpL_ret (Qb_ret (ret_tmp rfl hf rfl ?_))
    exact ⟨_, rfl, rfl, hs.sel [] (by decide)⟩
   ·have hm := bif_f hm hb10
    refine wpL_skip ?_
    refine wpL_nil (Qb_normal ?_)
    refine wpL_seq <| wpL_region ?_
    refine sY hf hs rfl rfl rfl (Y_assign rfl rfl) ?_; clear hf; intro a hf
    refine wpO_nil ?_
    obtain rfl := Option.some.inj hm
    refine wpL_ret (ret_tmp rfl hf rfl ?_)
    exact ⟨_, rfl, rfl, hs.sel [] (by decide)⟩

set_option maxRecDepth 100000 in
theorem slices_Clone_int64_ok (F : Nat) (aM : List Int) (aG : Option Addr) (aQ aS : Nat) (bb : aQ = aM.length) (r : List Int) (W : World) (hm : slices_Clone_int64 F aM = some r) (aV : Rd W aG (ints aM)) :
  Calls Try.prog 153 [.slice aG aQ aS].toArray W fun e w' => ∃ v, e = .returned v ∧ ∃ A7, ∃ n8, ∃ c9, v = .slice A7 n8 c9 ∧ n8 = r.length ∧ St [] W w' [.row A7 n8 c9 2 1 (ints r)] := by
 subst bb
 cases aG with
 | none =>
  obtain rfl : aM = [] := rd_none_ints aV
  have hm : some ([] : List Int) = some r := hm
  refine Calls.enter (N := 8) Try.func153 rfl rfl rfl (fun a hf => ?_)
  have hs := St.start W
  obtain ⟨w, hw_⟩ : ∃ w, w = W := ⟨W, rfl⟩
  clear hw_ w
  refine wpL_seq <| wpL_region ?_
  refine sY hf hs rfl rfl rfl (Y_assign rfl rfl) ?_; clear hf; intro a hf
  refine wpO_nil <| wpL_seq <| wpL_seq <| wpL_region ?_
  refine sY hf hs rfl rfl rfl (Y_move rfl rfl) ?_; clear hf; intro a hf
  refine sY hf hs rfl rfl rfl (Y_eqnil rfl rfl rfl un23) ?_; clear hf; intro a hf
  refine wpO_nil ?_
  refine wpL_cond hf rfl (fun _ => ?_) (fun e => absurd e (by decide))
  refine wpL_seq <| wpL_region ?_
  refine sY hf hs rfl rfl rfl (Y_assign rfl rfl) ?_; clear hf; intro a hf
  refine wpO_nil ?_
  have hs : St [] W _ [.row none 0 0 2 1 (ints ([] : List Int))] := hs.addNil 2 1
  obtain rfl := Option.some.inj hm
  refine wpL_ret (ret_tmp rfl hf rfl ?_)
  exact ⟨_, rfl, none, 0, 0, rfl, rfl, hs⟩
 | some a_ =>
  unfold slices_Clone_int64 at hm
  refine Calls.enter (N := 8) Try.func153 rfl rfl rfl (fun a hf => ?_)
  have hs := St.start W
  obtain ⟨w, hw_⟩ : ∃ w, w = W := ⟨W, rfl⟩
  clear hw_ w
  refine wpL_seq <| wpL_region ?_
  refine sY hf hs rfl rfl rfl (Y_assign rfl rfl) ?_; clear hf; intro a hf
  refine wpO_nil <| wpL_seq <| wpL_seq <| wpL_region ?_
  refine sY hf hs rfl rfl rfl (Y_move rfl rfl) ?_; clear hf; intro a hf
  refine sY hf hs rfl rfl rfl (Y_eqnil rfl rfl rfl un23) ?_; clear hf; intro a hf
  refine wpO_nil ?_
  refine wpL_cond hf rfl (fun e => absurd e Bool.false_ne_true) (fun _ => ?_)
  refine wpL_skip <| wpL_seq <| wpL_region ?_
  refine sEmpty hf hs rfl rfl rfl rfl el23 ti2 ?_; clear hf hs; intro a w A1 hs hf
  have hs : St [] W w [.row A1 0 0 2 1 (ints ([] : List Int))] := hs
  refine sY hf hs rfl rfl rfl (Y_move rfl rfl) ?_; clear hf; intro a hf
  obtain ⟨xs5, ha6, hm⟩ := bind_some hm
  refine sAppendG (i := 0) (xs := ([] : List Int)) (ys := aM) (enc := ints) hf hs rfl rfl rfl rfl rfl rfl rfl rfl rfl ha6 el23 ti2 rfl rfl rfl (aV.at hs) ints_len1 ints_append ints_one ?_; clear hf hs; intro a w A3 c4 hs hf
  have hs : St [] W w [.row A3 xs5.length c4 2 1 (ints xs5)] := hs
  refine sY hf hs rfl rfl rfl (Y_assign rfl rfl) ?_; clear hf; intro a hf
  refine wpO_nil ?_
  obtain rfl := Option.some.inj hm
  refine wpL_ret (ret_tmp rfl hf rfl ?_)
  exact ⟨_, rfl, A3, xs5.length, c4, rfl, rfl, hs⟩

set_option maxRecDepth 100000 in
theorem impl_cloneMatrix_ok (F : Nat) (aY : List (List Int)) (aP : Option Addr) (bg aZ : Nat) (bt : bg = aY.length) (r : List (List Int)) (W : World) (hm : impl_cloneMatrix F aY = some r) (bu : RdM W aP aY) :
  Calls Try.prog 191 [.slice aP bg aZ].toArray W fun e w' => ∃ v, e = .returned v ∧ ∃ A125, ∃ n126, ∃ c127, ∃ vs129, v = .slice A125 n126 c127 ∧ n126 = r.length ∧ St [] W w' [.mat A125 n126 c127 23 2 vs129 r] := by
 subst bt
 unfold impl_cloneMatrix at hm
 refine Calls.enter (N := 23) Try.func191 rfl rfl rfl (fun a hf => ?_)
 have hs := St.start W
 obtain ⟨w, hw_⟩ : ∃ w, w = W := ⟨W, rfl⟩
 clear hw_ w
 refine wpL_seq <| wpL_region ?_
 refine sY hf hs rfl rfl rfl (Y_assign rfl rfl) ?_; clear hf; intro a hf
 refine wpO_nil <| wpL_seq <| wpL_region ?_
 refine sY hf hs rfl rfl rfl (Y_move rfl rfl) ?_; clear hf; intro a hf
 refine sY hf hs rfl rfl rfl (Y_lenH rfl rfl el59 rfl) ?_; clear hf; intro a hf
 obtain ⟨ms3, hk2, hm⟩ := bind_some hm
 refine sMakeM 2 hf hs rfl rfl rfl rfl rfl hk2 el59 ti23 rfl ?_; clear hf hs; intro a w A1 vs4 hs hf
 have hs : St [] W w [.mat A1 ms3.length ms3.length 23 2 vs4 ms3] := hs
 refine sY hf hs rfl rfl rfl (Y_assign rfl rfl) ?_; clear hf; intro a hf
 refine wpO_nil <| wpL_seq <| wpL_seq <| wpL_region ?_
 refine sY hf hs rfl rfl rfl (Y_move rfl rfl) ?_; clear hf; intro a hf
 refine sY hf hs rfl rfl rfl (Y_lenH rfl rfl el59 rfl) ?_; clear hf; intro a hf
 refine sY hf hs rfl rfl rfl (Y_move rfl rfl) ?_; clear hf; intro a hf
 refine wpO_nil ?_
 obtain ⟨r97, hl98, hm⟩ := bind_some hm
 refine wpL_block (fun a w => ∃ ms91 : List (List Int), ∃ A92, ∃ n93, ∃ c94, ∃ vs96, ms91 = r97 ∧ n93 = ms91.length ∧ Fr a 23 [(3, .slice A92 n93 c94)] ∧ St [] W w [.mat A92 n93 c94 23 2 vs96 ms91]) ?_ ?_
 ·refine wpL_loop (fun n a w => ∃ ms60 : List (List Int), ∃ x66 : Int, ∃ A61, ∃ n62, ∃ c63, ∃ vs65, impl_cloneMatrix_L1 F aY n ms60 x66 = some r97 ∧ n62 = ms60.length ∧ Fr a 23 [(3, .slice A61 n62 c63), (9, .slice aP aY.length aZ), (10, .int .i64 (aY.length : Int)), (11, .int .i64 x66)] ∧ St [] W w [.mat A61 n62 c63 23 2 vs65 ms60]) F ?_ ?_ ?_
  ·exact ⟨ms3, 0, A1, ms3.length, ms3.length, vs4, hl98, rfl, (FrD.pick (FrD.pick (FrD.pick (FrD.pick hf.none hf rfl) hf rfl) hf rfl) hf rfl), hs⟩
  ·rintro a w ⟨ms60, x66, A61, n62, c63, vs65, h0_, -, -, -⟩; simp [impl_cloneMatrix_L1] at h0_
  ·rintro n100 a w ⟨ms60, x66, A61, n62, c63, vs65, hm99, hn64, hf, hs⟩
   rw [impl_cloneMatrix_L1] at hm99
   refine wpL_seq <| wpL_region ?_
   refine sY hf hs rfl rfl rfl (Y_lss rfl rfl rfl) ?_; clear hf; intro a hf
   refine wpO_nil <| wpL_seq ?_
   refine wpL_cond hf rfl (fun hb101 => ?_) (fun hb101 => ?_)
   ·have hm99 := bif_t hm99 hb101
    refine wpL_skip <| wpL_seq <| wpL_block0 <| wpL_seq <| wpL_region ?_
    refine sY hf hs rfl rfl rfl (Y_move rfl rfl) ?_; clear hf; intro a hf
    obtain ⟨q102, hi103, hm99⟩ := bind_some hm99
    obtain ⟨hi103a, hi103b, hi103q⟩ := idx_some hi103
    obtain ⟨vs104, hv105, hr106⟩ := id bu
    obtain ⟨A107, c108, hv109, hR110⟩ := hr106 _ _ hi103q
    refine sY hf hs rfl rfl rfl (Y_index rfl rfl rfl el59 ti23 (Rd.isAt hv105 hv109) hi103a hi103b) ?_; clear hf; intro a hf
    refine sY hf hs rfl rfl rfl (Y_load_rd rfl rfl (fun w hs => hv105.at hs) (at1 hv109) ag23) ?_; clear hf; intro a hf
    refine sY hf hs rfl rfl rfl (Y_assign rfl rfl) ?_; clear hf; intro a hf
    refine sY hf hs rfl rfl rfl (Y_assign rfl rfl) ?_; clear hf; intro a hf
    refine wpO_nil <| wpL_region ?_
    refine sY hf hs rfl rfl rfl (Y_move rfl rfl) ?_; clear hf; intro a hf
    refine sY hf hs rfl rfl rfl (Y_move rfl rfl) ?_; clear hf; intro a hf
    refine sY hf hs rfl rfl rfl (Y_move rfl rfl) ?_; clear hf; intro a hf
    obtain ⟨r111, hc112, hm99⟩ := bind_some hm99
    refine sCall hf rfl rfl rfl rfl (cap := []) rfl rfl en153 (slices_Clone_int64_ok F q102 A107 q102.length c108 rfl _ _ hc112 (hR110.at hs)) ?_; clear hf
    rintro _ w ⟨A113, n114, c115, rfl, hn116, hs1⟩ a hf
    have hs : St [] W w [.mat A61 n62 c63 23 2 vs65 ms60, .row A113 n114 c115 2 1 (ints r111)] := hs.join hs1
    clear hs1
    obtain ⟨q117, hi118, hm99⟩ := bind_some hm99
    obtain ⟨hi118a, hi118b, hi118q⟩ := idx_some hi118
    obtain ⟨A119, c120, hv121⟩ := hs.matRow (i := 0) rfl hi118q
    refine sY hf hs rfl rfl rfl (Y_index rfl rfl rfl el59 ti23 (Rd.isAt (hs.rdV (i := 0) rfl) hv121) hi118a (ltn hn64 hi118b)) ?_; clear hf; intro a hf
    obtain ⟨ms122, hu123, hm99⟩ := bind_some hm99
    refine sStoreRowM (i := 0) (j := 1) (k := x66) hf hs rfl rfl rfl rfl rfl rfl rfl (by decide) hn116 hu123 ti23 ?_; clear hs; intro w vs124 hs
    have hs : St [] W w [.mat A61 n62 c63 23 2 vs124 ms122] := hs
    refine wpO_nil ?_
    refine wpL_nil (Qb_normal ?_)
    refine wpL_region ?_
    refine sY hf hs rfl rfl rfl (Y_add rfl rfl rfl) ?_; clear hf; intro a hf
    refine sY hf hs rfl rfl rfl (Y_move rfl rfl) ?_; clear hf; intro a hf
    refine wpO_nil ?_
    refine wpL_nil (Ql_normal ?_)
    exact ⟨ms122, (IntKind.i64.wrap (x66 + 1)), A61, n62, c63, vs124, hm99, ((hn64).trans (upd_len hu123).symm), (FrD.pick (FrD.pick (FrD.pick (FrD.pick hf.none hf rfl) hf rfl) hf rfl) hf rfl), hs⟩
   ·have hm99 := bif_f hm99 hb101
    refine wpL_exit (Ql_exit (Qb_exit ?_))
    exact ⟨ms60, A61, n62, c63, vs65, Option.some.inj hm99, hn64, (FrD.pick hf.none hf rfl), hs⟩
 ·rintro a w ⟨ms91, A92, n93, c94, vs96, hr_, hn95, hf, hs⟩
  subst hr_
  try dsimp only at hm
  refine wpL_seq <| wpL_region ?_
  refine sY hf hs rfl rfl rfl (Y_move rfl rfl) ?_; clear hf; intro a hf
  refine sY hf hs rfl rfl rfl (Y_assign rfl rfl) ?_; clear hf; intro a hf
  refine wpO_nil ?_
  obtain rfl := Option.some.inj hm
  refine wpL_ret (ret_tmp rfl hf rfl ?_)
  exact ⟨_, rfl, A92, n93, c94, vs96, rfl, hn95, hs⟩

set_option maxHeartbeats 2000000 in
set_option maxRecDepth 100000 in
theorem impl_latestTimes_ok (F : Nat) (p0 : GEventGraph) (ai : Option Addr) (aL aj : Nat) (bo : aL = p0.Places.length) (p1 : List (List Int)) (aF : Option Addr) (aT aI : Nat) (bG : aT = p1.length) (r : List (List Int)) (W : World) (hm : impl_latestTimes F p0 p1 = some r) (aJ : Rd W ai ((recs GPlace.cells) p0.Places)) (br : RdM W aF p1) :
  Calls Try.prog 151 [.agg #[.int .i64 p0.Events, .slice ai aL aj], .slice aF aT aI].toArray W fun e w' => ∃ v, e = .returned v ∧ ∃ A2003, ∃ n2004, ∃ c2005, ∃ vs2007, v = .slice A2003 n2004 c2005 ∧ n2004 = r.length ∧ St [] W w' [.mat A2003 n2004 c2005 23 2 vs2007 r] := by
 subst bo
 subst bG
 unfold impl_latestTimes at hm
 refine Calls.enterM (N := 83) Try.func151 rfl rfl rfl (fun a hf => ?_)
 have hs := St.start W
 obtain ⟨w, hw_⟩ : ∃ w, w = W := ⟨W, rfl⟩
 clear hw_ w
 have hs : St [] W W [.mks []] := hs.addMks
 refine wpL_seq <| wpL_region ?_
 refine sBox hf hs rfl rfl rfl rfl rfl (cs := [.int .i64 p0.Events, .slice ai p0.Places.length aj]) rfl ?_; clear hf hs; intro a w b1 hs hf
 have hs : St [] W w [.mks [], .blk b1 52 [.int .i64 p0.Events, .slice ai p0.Places.length aj]] := hs
 refine sY hf hs rfl rfl rfl (Y_assign rfl rfl) ?_; clear hf; intro a hf
 refine wpO_nil <| wpL_seq <| wpL_region ?_
 refine sY hf hs rfl rfl rfl (Y_load_blkS rfl rfl (i := 1) rfl ag52 ti52 rfl) ?_; clear hf; intro a hf
 obtain ⟨r2, hc3, hm⟩ := bind_some hm
 refine sCall hf rfl rfl rfl rfl (cap := []) rfl rfl en142 (impl_firingOrder_ok F p0 ai p0.Places.length aj rfl _ _ hc3 (aJ.at hs)) ?_; clear hf
 rintro _ w ⟨A4, n5, c6, rfl, hn7, hs1⟩ a hf
 have hs : St [] W w [.mks [], .blk b1 52 [.int .i64 p0.Events, .slice ai p0.Places.length aj], .row A4 n5 c6 2 1 (ints r2.1)] := hs.join hs1
 clear hs1
 refine sY hf hs rfl rfl rfl (Y_move rfl rfl) ?_; clear hf; intro a hf
 refine sY hf hs rfl rfl rfl (Y_extract rfl rfl rfl) ?_; clear hf; intro a hf
 refine sY hf hs rfl rfl rfl (Y_extract rfl rfl rfl) ?_; clear hf; intro a hf
 refine sY hf hs rfl rfl rfl (Y_assign rfl rfl) ?_; clear hf; intro a hf
 refine sY hf hs rfl rfl rfl (Y_assign rfl rfl) ?_; clear hf; intro a hf
 refine wpO_nil <| wpL_seq <| wpL_region ?_
 refine sY hf hs rfl rfl rfl (Y_move rfl rfl) ?_; clear hf; intro a hf
 obtain ⟨r8, hc9, hm⟩ := bind_some hm
 refine sCall hf rfl rfl rfl rfl (cap := []) rfl rfl en191 (impl_cloneMatrix_ok F p1 aF p1.length aI rfl _ _ hc9 (br.at hs)) ?_; clear hf
 rintro _ w ⟨A10, n11, c12, vs14, rfl, hn13, hs1⟩ a hf
 have hs : St [] W w [.mks [], .blk b1 52 [.int .i64 p0.Events, .slice ai p0.Places.length aj], .row A4 n5 c6 2 1 (ints r2.1), .mat A10 n11 c12 23 2 vs14 r8] := hs.join hs1
 clear hs1
 refine sAlloc hf hs rfl rfl rfl rfl ti59 ?_; clear hf hs; intro a w b15 hs hf
 have hs : St [] W w [.mks [], .blk b1 52 [.int .i64 p0.Events, .slice ai p0.Places.length aj], .row A4 n5 c6 2 1 (ints r2.1), .mat A10 n11 c12 23 2 vs14 r8, .blk b15 59 [.slice none 0 0]] := hs
 refine sStore (i := 4) (us := [.slice A10 n11 c12]) hf hs rfl rfl rfl rfl rfl rfl ti59 rfl rfl rfl (Nat.le_of_ble_eq_true rfl) rfl ?_; clear hs; intro w hs
 have hs : St [] W w [.mks [], .blk b1 52 [.int .i64 p0.Events, .slice ai p0.Places.length aj], .row A4 n5 c6 2 1 (ints r2.1), .mat A10 n11 c12 23 2 vs14 r8, .blk b15 59 [.slice A10 n11 c12]] := hs
 refine wpO_nil <| wpL_seq <| wpL_region ?_
 refine sY hf hs rfl rfl rfl (Y_move rfl rfl) ?_; clear hf; intro a hf
 refine sY hf hs rfl rfl rfl (Y_lenH rfl rfl el59 rfl) ?_; clear hf; intro a hf
 refine sAlloc hf hs rfl rfl rfl rfl ti2 ?_; clear hf hs; intro a w b16 hs hf
 have hs : St [] W w [.mks [], .blk b1 52 [.int .i64 p0.Events, .slice ai p0.Places.length aj], .row A4 n5 c6 2 1 (ints r2.1), .mat A10 n11 c12 23 2 vs14 r8, .blk b15 59 [.slice A10 n11 c12], .blk b16 2 [.int .i64 0]] := hs
 refine sStore (i := 5) (us := [.int .i64 (p1.length : Int)]) hf hs rfl rfl rfl rfl rfl rfl ti2 rfl rfl rfl (Nat.le_of_ble_eq_true rfl) rfl ?_; clear hs; intro w hs
 have hs : St [] W w [.mks [], .blk b1 52 [.int .i64 p0.Events, .slice ai p0.Places.length aj], .row A4 n5 c6 2 1 (ints r2.1), .mat A10 n11 c12 23 2 vs14 r8, .blk b15 59 [.slice A10 n11 c12], .blk b16 2 [.int .i64 (p1.length : Int)]] := hs
 refine wpO_nil <| wpL_seq <| wpL_seq <| wpL_region ?_
 refine sY hf hs rfl rfl rfl (Y_load_blk rfl rfl (i := 5) rfl rfl ag2) ?_; clear hf; intro a hf
 refine sY hf hs rfl rfl rfl (Y_sub rfl rfl rfl) ?_; clear hf; intro a hf
 refine sAlloc hf hs rfl rfl rfl rfl ti2 ?_; clear hf hs; intro a w b17 hs hf
 have hs : St [] W w [.mks [], .blk b1 52 [.int .i64 p0.Events, .slice ai p0.Places.length aj], .row A4 n5 c6 2 1 (ints r2.1), .mat A10 n11 c12 23 2 vs14 r8, .blk b15 59 [.slice A10 n11 c12], .blk b16 2 [.int .i64 (p1.length : Int)], .blk b17 2 [.int .i64 0]] := hs
 refine sStore (i := 6) (us := [.int .i64 (IntKind.i64.wrap ((p1.length : Int) - 1))]) hf hs rfl rfl rfl rfl rfl rfl ti2 rfl rfl rfl (Nat.le_of_ble_eq_true rfl) rfl ?_; clear hs; intro w hs
 have hs : St [] W w [.mks [], .blk b1 52 [.int .i64 p0.Events, .slice ai p0.Places.length aj], .row A4 n5 c6 2 1 (ints r2.1), .mat A10 n11 c12 23 2 vs14 r8, .blk b15 59 [.slice A10 n11 c12], .blk b16 2 [.int .i64 (p1.length : Int)], .blk b17 2 [.int .i64 (IntKind.i64.wrap ((p1.length : Int) - 1))]] := hs
 refine wpO_nil ?_
 obtain ⟨r1507, hl1508, hm⟩ := bind_some hm
 refine wpL_block (fun a w => ∃ ms1505 : List (List Int), ∃ bs1504 : List Nat, ms1505 = r1507 ∧ n11 = ms1505.length ∧ FrD (mkd bs1504) a 83 [(7, .pointer (some ⟨b15, 0, none⟩))] ∧ St [] W w [.mks bs1504, .blk b15 59 [.slice A10 n11 c12], .mat A10 n11 c12 23 2 vs14 ms1505]) ?_ ?_
 ·refine wpL_loop (fun n a w => ∃ ms1008 : List (List Int), ∃ x1011 : Int, ∃ bs1007 : List Nat, ∃ b1010, impl_latestTimes_L13 F p0 p1 r2 n ms1008 x1011 = some r1507 ∧ n11 = ms1008.length ∧ FrD (mkd bs1007) a 83 [(2, .pointer (some ⟨b1, 0, none⟩)), (5, .slice A4 n5 c6), (7, .pointer (some ⟨b15, 0, none⟩)), (8, .pointer (some ⟨b16, 0, none⟩)), (9, .pointer (some ⟨b1010, 0, none⟩))] ∧ St [] W w [.mks bs1007, .blk b1 52 [.int .i64 p0.Events, .slice ai p0.Places.length aj], .row A4 n5 c6 2 1 (ints r2.1), .blk b15 59 [.slice A10 n11 c12], .mat A10 n11 c12 23 2 vs14 ms1008, .blk b16 2 [.int .i64 (p1.length : Int)], .blk b1010 2 [.int .i64 x1011]]) F ?_ ?_ ?_
  ·exact ⟨r8, (IntKind.i64.wrap ((p1.length : Int) - 1)), [], b17, hl1508, hn13, (FrD.pick (FrD.pick (FrD.pick (FrD.pick (FrD.pick hf.none hf rfl) hf rfl) hf rfl) hf rfl) hf rfl), hs.sel [0, 1, 2, 4, 3, 5, 6] (by decide)⟩
  ·rintro a w ⟨ms1008, x1011, bs1007, b1010, h0_, -, -, -⟩; simp [impl_latestTimes_L13] at h0_
  ·rintro n1510 a w ⟨ms1008, x1011, bs1007, b1010, hm1509, hn1009, hf, hs⟩
   rw [impl_latestTimes_L13] at hm1509
   refine wpL_seq <| wpL_seq <| wpL_region ?_
   refine sY hf hs rfl rfl rfl (Y_load_blk rfl rfl (i := 6) rfl rfl ag2) ?_; clear hf; intro a hf
   refine sY hf hs rfl rfl rfl (Y_geq rfl rfl rfl) ?_; clear hf; intro a hf
   refine wpO_nil ?_
   refine wpL_cond hf rfl (fun hb1511 => ?_) (fun hb1511 => ?_)
   ·have hm1509 := bif_t hm1509 hb1511
    refine wpL_skip <| wpL_seq <| wpL_block0 <| wpL_seq <| wpL_region ?_
    refine sY hf hs rfl rfl rfl (Y_move rfl rfl) ?_; clear hf; intro a hf
    refine sCall hf rfl rfl rfl rfl rfl rfl (cap := []) bk_en0 (backward_ok A4 n5 c6 _) ?_; clear hf; rintro _ w ⟨b1512, rfl, hs1⟩ a hf
    have hs : St [] W w [.mks bs1007, .blk b1 52 [.int .i64 p0.Events, .slice ai p0.Places.length aj], .row A4 n5 c6 2 1 (ints r2.1), .blk b15 59 [.slice A10 n11 c12], .mat A10 n11 c12 23 2 vs14 ms1008, .blk b16 2 [.int .i64 (p1.length : Int)], .blk b1010 2 [.int .i64 x1011], .blk b1512 23 [.slice A4 n5 c6]] := hs.join hs1
    clear hs1
    refine wpO_nil <| wpL_block0 ?_
    obtain ⟨r1838, hl1839, hm1509⟩ := bind_some hm1509
    refine wpL_range (La := [.mks bs1007, .row A4 n5 c6 2 1 (ints r2.1), .blk b1512 23 [.slice A4 n5 c6]]) (L0 := [.blk b1010 2 [.int .i64 x1011], .blk b16 2 [.int .i64 (p1.length : Int)], .blk b15 59 [.slice A10 n11 c12], .mat A10 n11 c12 23 2 vs14 ms1008, .blk b1 52 [.int .i64 p0.Events, .slice ai p0.Places.length aj]]) (xs := r2.1) (ib := 2) (ir := 1) (im := 0) (fun x1513 => [(2, .pointer (some ⟨b1, 0, none⟩)), (7, .pointer (some ⟨b15, 0, none⟩)), (8, .pointer (some ⟨b16, 0, none⟩)), (9, .pointer (some ⟨b1010, 0, none⟩)), (11, .int .i64 x1513.2)]) (fun pre_ L_ => ∃ rest_, pre_ ++ rest_ = revE r2.1 ∧ ∃ ms1836 : List (List Int), impl_latestTimes_R16 F p0 p1 x1011 rest_ ms1836 = some r1838 ∧ n11 = ms1836.length ∧ L_ = [.blk b1010 2 [.int .i64 x1011], .blk b16 2 [.int .i64 (p1.length : Int)], .blk b15 59 [.slice A10 n11 c12], .mat A10 n11 c12 23 2 vs14 ms1836, .blk b1 52 [.int .i64 p0.Events, .slice ai p0.Places.length aj]]) back_ok hf (hs.sel [0, 2, 7, 6, 5, 3, 4, 1] (by decide)) rfl bk_en rfl rfl hn7 rfl rfl (by rintro _ _ ⟨_, _, _, _, _, rfl⟩; rfl) ⟨_, rfl, ms1008, hl1839, hn1009, rfl⟩ rfl rfl ?_ ?_ ?_
    ·intro lp_ x1513 a w hf
     have hs := St.start w
     refine wpR_region rfl ?_
     refine sY hf hs rfl rfl rfl (Y_assign rfl rfl) ?_; clear hf; intro a hf
     refine wpO_nil ?_
     exact wpR_nil ⟨rfl, rfl, (FrD.pick (FrD.pick (FrD.pick (FrD.pick (FrD.pick hf.none hf rfl) hf rfl) hf rfl) hf rfl) hf rfl)⟩
    ·rintro lp_ pre_ x1513 rest_ _ W a ⟨rest2_, hr2_, ms1836, hm1840, hn1837, rfl⟩ hpre_ hs0_ hf
     obtain rfl := List.append_cancel_left (hr2_.trans hpre_.symm)
     clear hr2_
     rw [impl_latestTimes_R16] at hm1840
     have aJ := aJ.pass hs0_ [3, 4, 5, 6, 7]
     have hs : St (muL [.blk b1010 2 [.int .i64 x1011], .blk b16 2 [.int .i64 (p1.length : Int)], .blk b15 59 [.slice A10 n11 c12], .mat A10 n11 c12 23 2 vs14 ms1836, .blk b1 52 [.int .i64 p0.Events, .slice ai p0.Places.length aj]]) W W [.blk b1010 2 [.int .i64 x1011], .blk b16 2 [.int .i64 (p1.length : Int)], .blk b15 59 [.slice A10 n11 c12], .mat A10 n11 c12 23 2 vs14 ms1836, .blk b1 52 [.int .i64 p0.Events, .slice ai p0.Places.length aj]] := (hs0_.sel [3, 4, 5, 6, 7] (by decide)).rebase
     refine wpR_block0 ?_
     refine wpR_seq ?_
     refine wpR_region rfl ?_
     refine sY hf hs rfl rfl rfl (Y_fieldAddr rfl rfl fo52_1) ?_; clear hf; intro a hf
     refine sY hf hs rfl rfl rfl (Y_load_blk rfl rfl (i := 4) rfl rfl ag50) ?_; clear hf; intro a hf
     refine sY hf hs rfl rfl rfl (Y_lenH rfl rfl el50 rfl) ?_; clear hf; intro a hf
     refine sY hf hs rfl rfl rfl (Y_move rfl rfl) ?_; clear hf; intro a hf
     refine wpO_nil ?_
     obtain ⟨r1960, hl1961, hm1840⟩ := bind_some hm1840
     refine wpR_block (fun a w => ∃ ms1958 : List (List Int), ms1958 = r1960 ∧ n11 = ms1958.length ∧ Fr a 83 [] ∧ St (muL [.blk b1010 2 [.int .i64 x1011], .blk b16 2 [.int .i64 (p1.length : Int)], .blk b15 59 [.slice A10 n11 c12], .mat A10 n11 c12 23 2 vs14 ms1836, .blk b1 52 [.int .i64 p0.Events, .slice ai p0.Places.length aj]]) W w [.blk b1010 2 [.int .i64 x1011], .blk b16 2 [.int .i64 (p1.length : Int)], .blk b15 59 [.slice A10 n11 c12], .mat A10 n11 c12 23 2 vs14 ms1958, .blk b1 52 [.int .i64 p0.Events, .slice ai p0.Places.length aj]]) ?_ ?_
     ·refine wpR_loop (fun n a w => ∃ ms1918 : List (List Int), ∃ x1920 : Int, impl_latestTimes_L17 F p0 p1 x1011 x1513 n ms1918 x1920 = some r1960 ∧ n11 = ms1918.length ∧ Fr a 83 [(7, .pointer (some ⟨b15, 0, none⟩)), (8, .pointer (some ⟨b16, 0, none⟩)), (9, .pointer (some ⟨b1010, 0, none⟩)), (11, .int .i64 x1513.2), (34, .slice ai p0.Places.length aj), (35, .int .i64 (p0.Places.length : Int)), (36, .int .i64 x1920)] ∧ St (muL [.blk b1010 2 [.int .i64 x1011], .blk b16 2 [.int .i64 (p1.length : Int)], .blk b15 59 [.slice A10 n11 c12], .mat A10 n11 c12 23 2 vs14 ms1836, .blk b1 52 [.int .i64 p0.Events, .slice ai p0.Places.length aj]]) W w [.blk b1010 2 [.int .i64 x1011], .blk b16 2 [.int .i64 (p1.length : Int)], .blk b15 59 [.slice A10 n11 c12], .mat A10 n11 c12 23 2 vs14 ms1918, .blk b1 52 [.int .i64 p0.Events, .slice ai p0.Places.length aj]]) F ?_ ?_ ?_
      ·exact ⟨ms1836, 0, hl1961, hn1837, (FrD.pick (FrD.pick (FrD.pick (FrD.pick (FrD.pick (FrD.pick (FrD.pick hf.none hf rfl) hf rfl) hf rfl) hf rfl) hf rfl) hf rfl) hf rfl), hs⟩
      ·rintro a w ⟨ms1918, x1920, h0_, -, -, -⟩; simp [impl_latestTimes_L17] at h0_
      ·rintro n1963 a w ⟨ms1918, x1920, hm1962, hn1919, hf, hs⟩
       rw [impl_latestTimes_L17] at hm1962
       refine wpR_seq ?_
       refine wpR_region rfl ?_
       refine sY hf hs rfl rfl rfl (Y_lss rfl rfl rfl) ?_; clear hf; intro a hf
       refine wpO_nil ?_
       refine wpR_seq ?_
       refine wpR_cond hf rfl (fun hb1964 => ?_) (fun hb1964 => ?_)
       ·have hm1962 := bif_t hm1962 hb1964
        refine wpR_skip ?_
        refine wpR_seq ?_
        refine wpR_block0 ?_
        refine wpR_seq ?_
        refine wpR_region rfl ?_
        obtain ⟨q1965, hi1966, hm1962⟩ := bind_some hm1962
        obtain ⟨hi1966a, hi1966b, hi1966q⟩ := idx_some hi1966
        refine sY hf hs rfl rfl rfl (Y_index rfl rfl rfl el50 ti112 (Rd.isAt (aJ.at hs) (recs_at (s := 4) GPlace.len hi1966q (j := 0) rfl)) hi1966a hi1966b) ?_; clear hf; intro a hf
        refine sY hf hs rfl rfl rfl (Y_load_rdS rfl rfl (us := [.int .i64 q1965.From, .int .i64 q1965.To, .int .i64 q1965.Delay, .int .i64 q1965.Tokens]) (fun w hs => aJ.at hs) (fun j u hj => recs_at (s := 4) GPlace.len hi1966q hj) (Nat.succ_pos _) ag112 ti112 rfl) ?_; clear hf; intro a hf
        refine sAlloc hf hs rfl rfl rfl rfl ti112 ?_; clear hf hs; intro a w b1967 hs hf
        have hs : St (muL [.blk b1010 2 [.int .i64 x1011], .blk b16 2 [.int .i64 (p1.length : Int)], .blk b15 59 [.slice A10 n11 c12], .mat A10 n11 c12 23 2 vs14 ms1836, .blk b1 52 [.int .i64 p0.Events, .slice ai p0.Places.length aj]]) W w [.blk b1010 2 [.int .i64 x1011], .blk b16 2 [.int .i64 (p1.length : Int)], .blk b15 59 [.slice A10 n11 c12], .mat A10 n11 c12 23 2 vs14 ms1918, .blk b1 52 [.int .i64 p0.Events, .slice ai p0.Places.length aj], .blk b1967 112 [.int .i64 0, .int .i64 0, .int .i64 0, .int .i64 0]] := hs
        refine sStore (i := 5) (us := [.int .i64 q1965.From, .int .i64 q1965.To, .int .i64 q1965.Delay, .int .i64 q1965.Tokens]) hf hs rfl rfl rfl rfl rfl rfl ti112 rfl rfl rfl (Nat.le_of_ble_eq_true rfl) rfl ?_; clear hs; intro w hs
        have hs : St (muL [.blk b1010 2 [.int .i64 x1011], .blk b16 2 [.int .i64 (p1.length : Int)], .blk b15 59 [.slice A10 n11 c12], .mat A10 n11 c12 23 2 vs14 ms1836, .blk b1 52 [.int .i64 p0.Events, .slice ai p0.Places.length aj]]) W w [.blk b1010 2 [.int .i64 x1011], .blk b16 2 [.int .i64 (p1.length : Int)], .blk b15 59 [.slice A10 n11 c12], .mat A10 n11 c12 23 2 vs14 ms1918, .blk b1 52 [.int .i64 p0.Events, .slice ai p0.Places.length aj], .blk b1967 112 [.int .i64 q1965.From, .int .i64 q1965.To, .int .i64 q1965.Delay, .int .i64 q1965.Tokens]] := hs
        refine wpO_nil ?_
        refine wpR_seq ?_
        obtain ⟨r1970, hj1971, hm1962⟩ := bind_some hm1962
        refine wpR_cut (fun a w => ∃ b1969 : Bool, b1969 = r1970 ∧ Fr a 83 [(7, .pointer (some ⟨b15, 0, none⟩)), (8, .pointer (some ⟨b16, 0, none⟩)), (9, .pointer (some ⟨b1010, 0, none⟩)), (11, .int .i64 x1513.2), (13, .pointer (some ⟨b1967, 0, none⟩)), (34, .slice ai p0.Places.length aj), (35, .int .i64 (p0.Places.length : Int)), (36, .int .i64 x1920), (51, .bool b1969)] ∧ St (muL [.blk b1010 2 [.int .i64 x1011], .blk b16 2 [.int .i64 (p1.length : Int)], .blk b15 59 [.slice A10 n11 c12], .mat A10 n11 c12 23 2 vs14 ms1836, .blk b1 52 [.int .i64 p0.Events, .slice ai p0.Places.length aj]]) W w [.blk b1010 2 [.int .i64 x1011], .blk b16 2 [.int .i64 (p1.length : Int)], .blk b15 59 [.slice A10 n11 c12], .mat A10 n11 c12 23 2 vs14 ms1918, .blk b1 52 [.int .i64 p0.Events, .slice ai p0.Places.length aj], .blk b1967 112 [.int .i64 q1965.From, .int .i64 q1965.To, .int .i64 q1965.Delay, .int .i64 q1965.Tokens]]) ?_ ?_
        ·refine wpR_region rfl ?_
         refine sY hf hs rfl rfl rfl (Y_fieldAddr rfl rfl fo112_0) ?_; clear hf; intro a hf
         refine sY hf hs rfl rfl rfl (Y_load_blk rfl rfl (i := 5) rfl rfl ag2) ?_; clear hf; intro a hf
         refine sY hf hs rfl rfl rfl (Y_move rfl rfl) ?_; clear hf; intro a hf
         refine sY hf hs rfl rfl rfl (Y_eql rfl rfl rfl) ?_; clear hf; intro a hf
         refine sY hf hs rfl rfl rfl (Y_move rfl rfl) ?_; clear hf; intro a hf
         refine bsplit (q1965.From == x1513.2) (fun hb1972 => ?_) (fun hb1972 => ?_)
         ·have hj1971 := bif_t hj1971 hb1972
          refine sYg hf hs rfl rfl rfl (congrArg (fun b => some (Value.bool b)) hb1972) rfl rfl rfl (Y_load_blk rfl rfl (i := 0) rfl rfl ag2) ?_; clear hf; intro a hf
          refine sYg hf hs rfl rfl rfl (congrArg (fun b => some (Value.bool b)) hb1972) rfl rfl rfl (Y_fieldAddr rfl rfl fo112_3) ?_; clear hf; intro a hf
          refine sYg hf hs rfl rfl rfl (congrArg (fun b => some (Value.bool b)) hb1972) rfl rfl rfl (Y_load_blk rfl rfl (i := 5) rfl rfl ag2) ?_; clear hf; intro a hf
          refine sYg hf hs rfl rfl rfl (congrArg (fun b => some (Value.bool b)) hb1972) rfl rfl rfl (Y_add rfl rfl rfl) ?_; clear hf; intro a hf
          refine sYg hf hs rfl rfl rfl (congrArg (fun b => some (Value.bool b)) hb1972) rfl rfl rfl (Y_load_blk rfl rfl (i := 1) rfl rfl ag2) ?_; clear hf; intro a hf
          refine sYg hf hs rfl rfl rfl (congrArg (fun b => some (Value.bool b)) hb1972) rfl rfl rfl (Y_lss rfl rfl rfl) ?_; clear hf; intro a hf
          refine sY hf hs rfl rfl rfl (Y_pickT rfl (congrArg (fun b => some (Value.bool b)) hb1972) rfl) ?_; clear hf; intro a hf
          refine wpO_nil ?_
          refine wpR_nil (then_normal ?_)
          exact ⟨(decide ((IntKind.i64.wrap (x1011 + q1965.Tokens)) < (p1.length : Int))), Option.some.inj hj1971, (FrD.pick (FrD.pick (FrD.pick (FrD.pick (FrD.pick (FrD.pick (FrD.pick (FrD.pick (FrD.pick hf.none hf rfl) hf rfl) hf rfl) hf rfl) hf rfl) hf rfl) hf rfl) hf rfl) hf rfl), hs⟩
         ·have hj1971 := bif_f hj1971 hb1972
          refine sNo hf rfl rfl rfl (congrArg (fun b => some (Value.bool b)) hb1972) rfl rfl rfl ?_; clear hf; intro a hf
          refine sNo hf rfl rfl rfl (congrArg (fun b => some (Value.bool b)) hb1972) rfl rfl rfl ?_; clear hf; intro a hf
          refine sNo hf rfl rfl rfl (congrArg (fun b => some (Value.bool b)) hb1972) rfl rfl rfl ?_; clear hf; intro a hf
          refine sNo hf rfl rfl rfl (congrArg (fun b => some (Value.bool b)) hb1972) rfl rfl rfl ?_; clear hf; intro a hf
          refine sNo hf rfl rfl rfl (congrArg (fun b => some (Value.bool b)) hb1972) rfl rfl rfl ?_; clear hf; intro a hf
          refine sNo hf rfl rfl rfl (congrArg (fun b => some (Value.bool b)) hb1972) rfl rfl rfl ?_; clear hf; intro a hf
          refine sY hf hs rfl rfl rfl (Y_pickF rfl (congrArg (fun b => some (Value.bool b)) hb1972) rfl) ?_; clear hf; intro a hf
          refine wpO_nil ?_
          refine wpR_nil (then_normal ?_)
          exact ⟨false, Option.some.inj hj1971, (FrD.pick (FrD.pick (FrD.pick (FrD.pick (FrD.pick (FrD.pick (FrD.pick (FrD.pick (FrD.pick hf.none hf rfl) hf rfl) hf rfl) hf rfl) hf rfl) hf rfl) hf rfl) hf rfl) hf rfl), hs⟩
        ·rintro a w ⟨b1969, hr_, hf, hs⟩
         subst hr_
         try dsimp only at hm1962
         refine wpR_cond hf rfl (fun hb1973 => ?_) (fun hb1973 => ?_)
         ·have hm1962 := bif_t hm1962 hb1973
          refine wpR_drawM [.blk b1010 2 [.int .i64 x1011], .blk b16 2 [.int .i64 (p1.length : Int)], .blk b15 59 [.slice A10 n11 c12], .mat A10 n11 c12 23 2 vs14 ms1918, .blk b1 52 [.int .i64 p0.Events, .slice ai p0.Places.length aj], .blk b1967 112 [.int .i64 q1965.From, .int .i64 q1965.To, .int .i64 q1965.Delay, .int .i64 q1965.Tokens]] [28] rfl (by kernel_rfl) hs ?_; clear hs; intro w hs
          have hs0 : St (muL [.blk b1010 2 [.int .i64 x1011], .blk b16 2 [.int .i64 (p1.length : Int)], .blk b15 59 [.slice A10 n11 c12], .mat A10 n11 c12 23 2 vs14 ms1836, .blk b1 52 [.int .i64 p0.Events, .slice ai p0.Places.length aj]]) W w [.blk b1010 2 [.int .i64 x1011], .blk b16 2 [.int .i64 (p1.length : Int)], .blk b15 59 [.slice A10 n11 c12], .mat A10 n11 c12 23 2 vs14 ms1918, .blk b1 52 [.int .i64 p0.Events, .slice ai p0.Places.length aj], .blk b1967 112 [.int .i64 q1965.From, .int .i64 q1965.To, .int .i64 q1965.Delay, .int .i64 q1965.Tokens]] := hs
          refine mY (i := 0) [[]] rfl (by kernel_rfl) (by kernel_rfl) hf hs0 rfl rfl rfl (Y_load_blk rfl rfl (i := 2) rfl rfl ag59) ?_; clear hf; intro a hf
          refine mY (i := 1) [[]] rfl (by kernel_rfl) (by kernel_rfl) hf hs0 rfl rfl rfl (Y_load_blk rfl rfl (i := 0) rfl rfl ag2) ?_; clear hf; intro a hf
          obtain ⟨q1974, hi1975, hm1962⟩ := bind_some hm1962
          obtain ⟨hi1975a, hi1975b, hi1975q⟩ := idx_some hi1975
          obtain ⟨A1976, c1977, hv1978⟩ := hs.matRow (i := 3) rfl hi1975q
          refine mYp (i := 2) rfl (by kernel_rfl) (by kernel_rfl) hf rfl rfl rfl (fun _ => Y_index rfl rfl rfl el59 ti23 (Rd.isAt (hs.rdV (i := 3) rfl) hv1978) hi1975a (ltn hn1919 hi1975b)) ?_; clear hf; intro a hf
          refine mY (i := 3) [[]] rfl (by kernel_rfl) (by kernel_rfl) hf hs0 rfl rfl rfl (Y_load_rd rfl rfl (fun w hs => hs.rdV (i := 3) rfl) (at1 hv1978) ag23) ?_; clear hf; intro a hf
          refine mYp (i := 4) rfl (by kernel_rfl) (by kernel_rfl) hf rfl rfl rfl (fun _ => Y_move rfl rfl) ?_; clear hf; intro a hf
          refine mY (i := 5) [[]] rfl (by kernel_rfl) (by kernel_rfl) hf hs0 rfl rfl rfl (Y_load_blk rfl rfl (i := 2) rfl rfl ag59) ?_; clear hf; intro a hf
          refine mY (i := 6) [[]] rfl (by kernel_rfl) (by kernel_rfl) hf hs0 rfl rfl rfl (Y_load_blk rfl rfl (i := 0) rfl rfl ag2) ?_; clear hf; intro a hf
          obtain ⟨q1979, hi1980, hm1962⟩ := bind_some hm1962
          obtain ⟨hi1980a, hi1980b, hi1980q⟩ := idx_some hi1980
          obtain ⟨A1981, c1982, hv1983⟩ := hs.matRow (i := 3) rfl hi1980q
          refine mYp (i := 7) rfl (by kernel_rfl) (by kernel_rfl) hf rfl rfl rfl (fun _ => Y_index rfl rfl rfl el59 ti23 (Rd.isAt (hs.rdV (i := 3) rfl) hv1983) hi1980a (ltn hn1919 hi1980b)) ?_; clear hf; intro a hf
          refine mY (i := 8) [[]] rfl (by kernel_rfl) (by kernel_rfl) hf hs0 rfl rfl rfl (Y_load_rd rfl rfl (fun w hs => hs.rdV (i := 3) rfl) (at1 hv1983) ag23) ?_; clear hf; intro a hf
          refine mYp (i := 9) rfl (by kernel_rfl) (by kernel_rfl) hf rfl rfl rfl (fun _ => Y_move rfl rfl) ?_; clear hf; intro a hf
          obtain ⟨q1984, hi1985, hm1962⟩ := bind_some hm1962
          obtain ⟨hi1985a, hi1985b, hi1985q⟩ := idx_some hi1985
          refine mYp (i := 10) rfl (by kernel_rfl) (by kernel_rfl) hf rfl rfl rfl (fun _ => Y_index rfl rfl rfl el23 ti2 (Rd.isAt (hs.rdRow (i := 3) rfl ⟨hi1980q, hv1983⟩) (at1 (ints_at hi1985q))) hi1985a hi1985b) ?_; clear hf; intro a hf
          refine mY (i := 11) [[]] rfl (by kernel_rfl) (by kernel_rfl) hf hs0 rfl rfl rfl (Y_load_rd rfl rfl (fun w hs => hs.rdRow (i := 3) rfl ⟨hi1980q, hv1983⟩) (at1 (ints_at hi1985q)) ag2) ?_; clear hf; intro a hf
          refine mY (i := 12) [[]] rfl (by kernel_rfl) (by kernel_rfl) hf hs0 rfl rfl rfl (Y_load_blk rfl rfl (i := 2) rfl rfl ag59) ?_; clear hf; intro a hf
          refine mY (i := 13) [[]] rfl (by kernel_rfl) (by kernel_rfl) hf hs0 rfl rfl rfl (Y_load_blk rfl rfl (i := 0) rfl rfl ag2) ?_; clear hf; intro a hf
          refine mYp (i := 14) rfl (by kernel_rfl) (by kernel_rfl) hf rfl rfl rfl (fun _ => Y_fieldAddr rfl rfl fo112_3) ?_; clear hf; intro a hf
          refine mY (i := 15) [[]] rfl (by kernel_rfl) (by kernel_rfl) hf hs0 rfl rfl rfl (Y_load_blk rfl rfl (i := 5) rfl rfl ag2) ?_; clear hf; intro a hf
          refine mYp (i := 16) rfl (by kernel_rfl) (by kernel_rfl) hf rfl rfl rfl (fun _ => Y_add rfl rfl rfl) ?_; clear hf; intro a hf
          obtain ⟨q1986, hi1987, hm1962⟩ := bind_some hm1962
          obtain ⟨hi1987a, hi1987b, hi1987q⟩ := idx_some hi1987
          obtain ⟨A1988, c1989, hv1990⟩ := hs.matRow (i := 3) rfl hi1987q
          refine mYp (i := 17) rfl (by kernel_rfl) (by kernel_rfl) hf rfl rfl rfl (fun _ => Y_index rfl rfl rfl el59 ti23 (Rd.isAt (hs.rdV (i := 3) rfl) hv1990) hi1987a (ltn hn1919 hi1987b)) ?_; clear hf; intro a hf
          refine mY (i := 18) [[]] rfl (by kernel_rfl) (by kernel_rfl) hf hs0 rfl rfl rfl (Y_load_rd rfl rfl (fun w hs => hs.rdV (i := 3) rfl) (at1 hv1990) ag23) ?_; clear hf; intro a hf
          refine mYp (i := 19) rfl (by kernel_rfl) (by kernel_rfl) hf rfl rfl rfl (fun _ => Y_fieldAddr rfl rfl fo112_1) ?_; clear hf; intro a hf
          refine mY (i := 20) [[]] rfl (by kernel_rfl) (by kernel_rfl) hf hs0 rfl rfl rfl (Y_load_blk rfl rfl (i := 5) rfl rfl ag2) ?_; clear hf; intro a hf
          obtain ⟨q1991, hi1992, hm1962⟩ := bind_some hm1962
          obtain ⟨hi1992a, hi1992b, hi1992q⟩ := idx_some hi1992
          refine mYp (i := 21) rfl (by kernel_rfl) (by kernel_rfl) hf rfl rfl rfl (fun _ => Y_index rfl rfl rfl el23 ti2 (Rd.isAt (hs.rdRow (i := 3) rfl ⟨hi1987q, hv1990⟩) (at1 (ints_at hi1992q))) hi1992a hi1992b) ?_; clear hf; intro a hf
          refine mY (i := 22) [[]] rfl (by kernel_rfl) (by kernel_rfl) hf hs0 rfl rfl rfl (Y_load_rd rfl rfl (fun w hs => hs.rdRow (i := 3) rfl ⟨hi1987q, hv1990⟩) (at1 (ints_at hi1992q)) ag2) ?_; clear hf; intro a hf
          refine mYp (i := 23) rfl (by kernel_rfl) (by kernel_rfl) hf rfl rfl rfl (fun _ => Y_fieldAddr rfl rfl fo112_2) ?_; clear hf; intro a hf
          refine mY (i := 24) [[]] rfl (by kernel_rfl) (by kernel_rfl) hf hs0 rfl rfl rfl (Y_load_blk rfl rfl (i := 5) rfl rfl ag2) ?_; clear hf; intro a hf
          refine mYp (i := 25) rfl (by kernel_rfl) (by kernel_rfl) hf rfl rfl rfl (fun _ => Y_sub rfl rfl rfl) ?_; clear hf; intro a hf
          refine mYp (i := 26) rfl (by kernel_rfl) (by kernel_rfl) hf rfl rfl rfl (fun _ => Y_min rfl rfl rfl) ?_; clear hf; intro a hf
          obtain ⟨q1993, hi1994, hm1962⟩ := bind_some hm1962
          obtain ⟨hi1994a, hi1994b, hi1994q⟩ := idx_some hi1994
          refine mYp (i := 27) rfl (by kernel_rfl) (by kernel_rfl) hf rfl rfl rfl (fun _ => Y_index rfl rfl rfl el23 ti2 (Rd.isAt (hs.rdRow (i := 3) rfl ⟨hi1975q, hv1978⟩) (at1 (ints_at hi1994q))) hi1994a hi1994b) ?_; clear hf; intro a hf
          refine mRun (i := 28) rfl (by kernel_rfl) ?_
          obtain ⟨xs1995, hu1997, hm1962⟩ := bind_some hm1962
          obtain ⟨ms1996, hu1998, hm1962⟩ := bind_some hm1962
          refine sStoreM (i := 3) (k := x1011) hf hs rfl rfl rfl rfl rfl rfl hi1975q hv1978 rfl hu1997 hu1998 ti2 ?_; clear hs; intro w hs
          obtain ⟨hq1999, hv2000⟩ := rowUpd hu1997 hu1998 hv1978
          have hs : St (muL [.blk b1010 2 [.int .i64 x1011], .blk b16 2 [.int .i64 (p1.length : Int)], .blk b15 59 [.slice A10 n11 c12], .mat A10 n11 c12 23 2 vs14 ms1836, .blk b1 52 [.int .i64 p0.Events, .slice ai p0.Places.length aj]]) W w [.blk b1010 2 [.int .i64 x1011], .blk b16 2 [.int .i64 (p1.length : Int)], .blk b15 59 [.slice A10 n11 c12], .mat A10 n11 c12 23 2 vs14 ms1996, .blk b1 52 [.int .i64 p0.Events, .slice ai p0.Places.length aj], .blk b1967 112 [.int .i64 q1965.From, .int .i64 q1965.To, .int .i64 q1965.Delay, .int .i64 q1965.Tokens]] := hs
          refine wpO_nil ⟨Or.inl (by decide), ?_⟩
          refine mDone (by kernel_rfl) ?_
          clear hs0
          refine wpR_nil (Qb_normal ?_)
          refine wpR_region rfl ?_
          refine sY hf hs rfl rfl rfl (Y_add rfl rfl rfl) ?_; clear hf; intro a hf
          refine sY hf hs rfl rfl rfl (Y_move rfl rfl) ?_; clear hf; intro a hf
          refine wpO_nil ?_
          refine wpR_nil (Ql_normal ?_)
          exact ⟨ms1996, (IntKind.i64.wrap (x1920 + 1)), hm1962, ((hn1919).trans (upd_len hu1998).symm), (FrD.pick (FrD.pick (FrD.pick (FrD.pick (FrD.pick (FrD.pick (FrD.pick hf.none hf rfl) hf rfl) hf rfl) hf rfl) hf rfl) hf rfl) hf rfl), hs.sel [0, 1, 2, 3, 4] (by decide)⟩
         ·have hm1962 := bif_f hm1962 hb1973
          refine wpR_skip ?_
          refine wpR_nil (Qb_normal ?_)
          refine wpR_region rfl ?_
          refine sY hf hs rfl rfl rfl (Y_add rfl rfl rfl) ?_; clear hf; intro a hf
          refine sY hf hs rfl rfl rfl (Y_move rfl rfl) ?_; clear hf; intro a hf
          refine wpO_nil ?_
          refine wpR_nil (Ql_normal ?_)
          exact ⟨ms1918, (IntKind.i64.wrap (x1920 + 1)), hm1962, hn1919, (FrD.pick (FrD.pick (FrD.pick (FrD.pick (FrD.pick (FrD.pick (FrD.pick hf.none hf rfl) hf rfl) hf rfl) hf rfl) hf rfl) hf rfl) hf rfl), hs.sel [0, 1, 2, 3, 4] (by decide)⟩
       ·have hm1962 := bif_f hm1962 hb1964
        refine wpR_exit (Ql_exit (Qb_exit ?_))
        exact ⟨ms1918, Option.some.inj hm1962, hn1919, hf.none, hs⟩
     ·rintro a w ⟨ms1958, hr_, hn1959, hf, hs⟩
      subst hr_
      try dsimp only at hm1840
      refine wpR_nil (Qb_normal ?_)
      refine wpR_nil ?_
      exact ⟨rfl, _, ⟨rest_, by rw [← hpre_]; simp, ms1958, hm1840, hn1959, rfl⟩, hs⟩
    ·rintro a w D2001 _ ⟨rest_, hr2_, ms1836, hm1840, hn1837, rfl⟩ hs hf
     obtain rfl : rest_ = [] := by simpa using hr2_
     rw [impl_latestTimes_R16] at hm1840
     obtain rfl := Option.some.inj hm1840
     try dsimp only at hm1509
     have hs : St [] W w [.mks (D2001 :: bs1007), .row A4 n5 c6 2 1 (ints r2.1), .blk b1512 23 [.slice A4 n5 c6], .blk b1010 2 [.int .i64 x1011], .blk b16 2 [.int .i64 (p1.length : Int)], .blk b15 59 [.slice A10 n11 c12], .mat A10 n11 c12 23 2 vs14 ms1836, .blk b1 52 [.int .i64 p0.Events, .slice ai p0.Places.length aj]] := hs
     refine wpL_nil (Qb_normal ?_)
     refine wpL_nil (Qb_normal ?_)
     refine wpL_seq <| wpL_seq <| wpL_region ?_
     refine sY hf hs rfl rfl rfl (Y_load_blk rfl rfl (i := 3) rfl rfl ag2) ?_; clear hf; intro a hf
     refine wpO_nil <| wpL_region ?_
     refine sAlloc hf hs rfl rfl rfl rfl ti2 ?_; clear hf hs; intro a w b2002 hs hf
     have hs : St [] W w [.mks (D2001 :: bs1007), .row A4 n5 c6 2 1 (ints r2.1), .blk b1512 23 [.slice A4 n5 c6], .blk b1010 2 [.int .i64 x1011], .blk b16 2 [.int .i64 (p1.length : Int)], .blk b15 59 [.slice A10 n11 c12], .mat A10 n11 c12 23 2 vs14 ms1836, .blk b1 52 [.int .i64 p0.Events, .slice ai p0.Places.length aj], .blk b2002 2 [.int .i64 0]] := hs
     refine sStore (i := 8) (us := [.int .i64 x1011]) hf hs rfl rfl rfl rfl rfl rfl ti2 rfl rfl rfl (Nat.le_of_ble_eq_true rfl) rfl ?_; clear hs; intro w hs
     have hs : St [] W w [.mks (D2001 :: bs1007), .row A4 n5 c6 2 1 (ints r2.1), .blk b1512 23 [.slice A4 n5 c6], .blk b1010 2 [.int .i64 x1011], .blk b16 2 [.int .i64 (p1.length : Int)], .blk b15 59 [.slice A10 n11 c12], .mat A10 n11 c12 23 2 vs14 ms1836, .blk b1 52 [.int .i64 p0.Events, .slice ai p0.Places.length aj], .blk b2002 2 [.int .i64 x1011]] := hs
     refine wpO_nil <| wpL_region ?_
     refine sY hf hs rfl rfl rfl (Y_load_blk rfl rfl (i := 8) rfl rfl ag2) ?_; clear hf; intro a hf
     refine sY hf hs rfl rfl rfl (Y_sub rfl rfl rfl) ?_; clear hf; intro a hf
     refine sStore (i := 8) (us := [.int .i64 (IntKind.i64.wrap (x1011 - 1))]) hf hs rfl rfl rfl rfl rfl rfl ti2 rfl rfl rfl (Nat.le_of_ble_eq_true rfl) rfl ?_; clear hs; intro w hs
     have hs : St [] W w [.mks (D2001 :: bs1007), .row A4 n5 c6 2 1 (ints r2.1), .blk b1512 23 [.slice A4 n5 c6], .blk b1010 2 [.int .i64 x1011], .blk b16 2 [.int .i64 (p1.length : Int)], .blk b15 59 [.slice A10 n11 c12], .mat A10 n11 c12 23 2 vs14 ms1836, .blk b1 52 [.int .i64 p0.Events, .slice ai p0.Places.length aj], .blk b2002 2 [.int .i64 (IntKind.i64.wrap (x1011 - 1))]] := hs
     refine wpO_nil ?_
     refine wpL_nil (Ql_normal ?_)
     exact ⟨ms1836, (IntKind.i64.wrap (x1011 - 1)), (D2001 :: bs1007), b2002, hm1509, hn1837, (FrD.pick (FrD.pick (FrD.pick (FrD.pick (FrD.pick hf.none hf rfl) hf rfl) hf rfl) hf rfl) hf rfl), hs.sel [0, 7, 1, 5, 6, 4, 8] (by decide)⟩
   ·have hm1509 := bif_f hm1509 hb1511
    refine wpL_exit (Ql_exit (Qb_exit ?_))
    exact ⟨ms1008, bs1007, Option.some.inj hm1509, hn1009, (FrD.pick hf.none hf rfl), hs.sel [0, 3, 4] (by decide)⟩
 ·rintro a w ⟨ms1505, bs1504, hr_, hn1506, hf, hs⟩
  subst hr_
  try dsimp only at hm
  refine wpL_seq <| wpL_region ?_
  refine sY hf hs rfl rfl rfl (Y_load_blk rfl rfl (i := 1) rfl rfl ag59) ?_; clear hf; intro a hf
  refine sY hf hs rfl rfl rfl (Y_assign rfl rfl) ?_; clear hf; intro a hf
  refine wpO_nil ?_
  obtain rfl := Option.some.inj hm
  refine wpL_ret (retM_tmp rfl hf rfl hs (i := 0) rfl (fun w hs => ?_))
  exact ⟨_, rfl, A10, n11, c12, vs14, rfl, hn1506, hs.sel [1] (by decide)⟩

set_option maxHeartbeats 2000000 in
set_option maxRecDepth 100000 in
theorem impl_firingTimes_ok (F : Nat) (p0 : GEventGraph) (ai : Option Addr) (aL aj : Nat) (bo : aL = p0.Places.length) (p1 : Int) (p2 : List Int) (bh : Option Addr) (cg bk : Nat) (cC : cg = p2.length) (r : List (List Int)) (W : World) (hm : impl_firingTimes F p0 p1 p2 = some r) (aJ : Rd W ai ((recs GPlace.cells) p0.Places)) (cH : Rd W bh (ints p2)) :
  Calls Try.prog 101 [.agg #[.int .i64 p0.Events, .slice ai aL aj], .int .i64 p1, .slice bh cg bk].toArray W fun e w' => ∃ v, e = .returned v ∧ ∃ A2752, ∃ n2753, ∃ c2754, ∃ vs2756, v = .slice A2752 n2753 c2754 ∧ n2753 = r.length ∧ St [] W w' [.mat A2752 n2753 c2754 23 2 vs2756 r] := by
 subst bo
 subst cC
 unfold impl_firingTimes at hm
 refine Calls.enter (N := 84) Try.func101 rfl rfl rfl (fun a hf => ?_)
 have hs := St.start W
 obtain ⟨w, hw_⟩ : ∃ w, w = W := ⟨W, rfl⟩
 clear hw_ w
 refine wpL_seq <| wpL_region ?_
 refine sBox hf hs rfl rfl rfl rfl rfl (cs := [.int .i64 p0.Events, .slice ai p0.Places.length aj]) rfl ?_; clear hf hs; intro a w b1 hs hf
 have hs : St [] W w [.blk b1 52 [.int .i64 p0.Events, .slice ai p0.Places.length aj]] := hs
 refine sY hf hs rfl rfl rfl (Y_assign rfl rfl) ?_; clear hf; intro a hf
 refine wpO_nil <| wpL_seq <| wpL_region ?_
 refine sY hf hs rfl rfl rfl (Y_load_blkS rfl rfl (i := 0) rfl ag52 ti52 rfl) ?_; clear hf; intro a hf
 obtain ⟨r2, hc3, hm⟩ := bind_some hm
 refine sCall hf rfl rfl rfl rfl (cap := []) rfl rfl en142 (impl_firingOrder_ok F p0 ai p0.Places.length aj rfl _ _ hc3 (aJ.at hs)) ?_; clear hf
 rintro _ w ⟨A4, n5, c6, rfl, hn7, hs1⟩ a hf
 have hs : St [] W w [.blk b1 52 [.int .i64 p0.Events, .slice ai p0.Places.length aj], .row A4 n5 c6 2 1 (ints r2.1)] := hs.join hs1
 clear hs1
 refine sY hf hs rfl rfl rfl (Y_move rfl rfl) ?_; clear hf; intro a hf
 refine sY hf hs rfl rfl rfl (Y_extract rfl rfl rfl) ?_; clear hf; intro a hf
 refine sY hf hs rfl rfl rfl (Y_extract rfl rfl rfl) ?_; clear hf; intro a hf
 refine sY hf hs rfl rfl rfl (Y_assign rfl rfl) ?_; clear hf; intro a hf
 refine sY hf hs rfl rfl rfl (Y_assign rfl rfl) ?_; clear hf; intro a hf
 refine wpO_nil <| wpL_seq <| wpL_region ?_
 refine sY hf hs rfl rfl rfl (Y_assign rfl rfl) ?_; clear hf; intro a hf
 refine wpO_nil <| wpL_seq <| wpL_seq <| wpL_region ?_
 refine sY hf hs rfl rfl rfl (Y_move rfl rfl) ?_; clear hf; intro a hf
 refine sY hf hs rfl rfl rfl (Y_move rfl rfl) ?_; clear hf; intro a hf
 refine wpO_nil ?_
 obtain ⟨r2068, hl2069, hm⟩ := bind_some hm
 have hs : St [] W _ [.blk b1 52 [.int .i64 p0.Events, .slice ai p0.Places.length aj], .row A4 n5 c6 2 1 (ints r2.1), .mat none 0 0 23 2 [] ([] : List (List Int))] := hs.addNilM 23 2
 refine wpL_block (fun a w => ∃ ms2062 : List (List Int), ∃ A2063, ∃ n2064, ∃ c2065, ∃ vs2067, ms2062 = r2068 ∧ n2064 = ms2062.length ∧ Fr a 84 [(9, .slice A2063 n2064 c2065)] ∧ St [] W w [.mat A2063 n2064 c2065 23 2 vs2067 ms2062]) ?_ ?_
 ·refine wpL_loop (fun n a w => ∃ ms1376 : List (List Int), ∃ x1382 : Int, ∃ A1377, ∃ n1378, ∃ c1379, ∃ vs1381, impl_firingTimes_L16 F p0 p1 p2 r2 n ms1376 x1382 = some r2068 ∧ n1378 = ms1376.length ∧ Fr a 84 [(2, .slice bh p2.length bk), (3, .pointer (some ⟨b1, 0, none⟩)), (7, .slice A4 n5 c6), (9, .slice A1377 n1378 c1379), (20, .int .i64 p1), (21, .int .i64 x1382)] ∧ St [] W w [.blk b1 52 [.int .i64 p0.Events, .slice ai p0.Places.length aj], .row A4 n5 c6 2 1 (ints r2.1), .mat A1377 n1378 c1379 23 2 vs1381 ms1376]) F ?_ ?_ ?_
  ·exact ⟨([] : List (List Int)), 0, none, 0, 0, [], hl2069, rfl, (FrD.pick (FrD.pick (FrD.pick (FrD.pick (FrD.pick (FrD.pick hf.none hf rfl) hf rfl) hf rfl) hf rfl) hf rfl) hf rfl), hs⟩
  ·rintro a w ⟨ms1376, x1382, A1377, n1378, c1379, vs1381, h0_, -, -, -⟩; simp [impl_firingTimes_L16] at h0_
  ·rintro n2071 a w ⟨ms1376, x1382, A1377, n1378, c1379, vs1381, hm2070, hn1380, hf, hs⟩
   rw [impl_firingTimes_L16] at hm2070
   refine wpL_seq <| wpL_region ?_
   refine sY hf hs rfl rfl rfl (Y_lss rfl rfl rfl) ?_; clear hf; intro a hf
   refine wpO_nil <| wpL_seq ?_
   refine wpL_cond hf rfl (fun hb2072 => ?_) (fun hb2072 => ?_)
   ·have hm2070 := bif_t hm2070 hb2072
    refine wpL_skip <| wpL_seq <| wpL_block0 <| wpL_seq <| wpL_region ?_
    refine sY hf hs rfl rfl rfl (Y_move rfl rfl) ?_; clear hf; intro a hf
    refine sY hf hs rfl rfl rfl (Y_assign rfl rfl) ?_; clear hf; intro a hf
    refine wpO_nil <| wpL_seq <| wpL_region ?_
    refine sY hf hs rfl rfl rfl (Y_move rfl rfl) ?_; clear hf; intro a hf
    refine sY hf hs rfl rfl rfl (Y_move rfl rfl) ?_; clear hf; intro a hf
    obtain ⟨r2073, hc2074, hm2070⟩ := bind_some hm2070
    refine sCall hf rfl rfl rfl rfl (cap := []) rfl rfl en153 (slices_Clone_int64_ok F p2 bh p2.length bk rfl _ _ hc2074 (cH.at hs)) ?_; clear hf
    rintro _ w ⟨A2075, n2076, c2077, rfl, hn2078, hs1⟩ a hf
    have hs : St [] W w [.blk b1 52 [.int .i64 p0.Events, .slice ai p0.Places.length aj], .row A4 n5 c6 2 1 (ints r2.1), .mat A1377 n1378 c1379 23 2 vs1381 ms1376, .row A2075 n2076 c2077 2 1 (ints r2073)] := hs.join hs1
    clear hs1
    refine sOneM (j := 3) hf hs rfl rfl rfl rfl rfl rfl hn2078 el59 ti23 ?_; clear hf hs; intro a w A2079 hs hf
    have hs : St [] W w [.blk b1 52 [.int .i64 p0.Events, .slice ai p0.Places.length aj], .row A4 n5 c6 2 1 (ints r2.1), .mat A1377 n1378 c1379 23 2 vs1381 ms1376, .mat A2079 1 1 23 2 ([Value.slice A2075 r2073.length c2077]) ([r2073])] := hs
    obtain ⟨ms2083, ha2084, hm2070⟩ := bind_some hm2070
    refine sAppendM (i := 2) (j := 3) hf hs rfl rfl rfl rfl rfl rfl hn1380 rfl (by decide) rfl rfl (by decide) ha2084 el59 ti23 rfl ?_; clear hf hs; intro a w A2081 c2082 hs hf
    have hs : St [] W w [.blk b1 52 [.int .i64 p0.Events, .slice ai p0.Places.length aj], .row A4 n5 c6 2 1 (ints r2.1), .mat A2081 ms2083.length c2082 23 2 (vs1381 ++ ([Value.slice A2075 r2073.length c2077])) ms2083] := hs
    obtain ⟨hq2085, hv2086⟩ := hs.appended (i := 2) rfl ha2084
    refine sY hf hs rfl rfl rfl (Y_assign rfl rfl) ?_; clear hf; intro a hf
    refine wpO_nil <| wpL_seq <| wpL_region ?_
    refine sY hf hs rfl rfl rfl (Y_move rfl rfl) ?_; clear hf; intro a hf
    refine sY hf hs rfl rfl rfl (Y_lenH rfl rfl el23 hn7) ?_; clear hf; intro a hf
    refine sY hf hs rfl rfl rfl (Y_move rfl rfl) ?_; clear hf; intro a hf
    refine wpO_nil ?_
    obtain ⟨r2584, hl2585, hm2070⟩ := bind_some hm2070
    refine wpL_block (fun a w => ∃ ms2582 : List (List Int), ms2582 = r2584 ∧ ms2083.length = ms2582.length ∧ Fr a 84 [(2, .slice bh p2.length bk), (3, .pointer (some ⟨b1, 0, none⟩)), (7, .slice A4 n5 c6), (9, .slice A2081 ms2083.length c2082), (20, .int .i64 p1), (21, .int .i64 x1382)] ∧ St [] W w [.blk b1 52 [.int .i64 p0.Events, .slice ai p0.Places.length aj], .row A4 n5 c6 2 1 (ints r2.1), .mat A2081 ms2083.length c2082 23 2 (vs1381 ++ ([Value.slice A2075 r2073.length c2077])) ms2582]) ?_ ?_
    ·refine wpL_loop (fun n a w => ∃ ms2416 : List (List Int), ∃ x2418 : Int, impl_firingTimes_L20 F p0 r2 x1382 n ms2416 x2418 = some r2584 ∧ ms2083.length = ms2416.length ∧ Fr a 84 [(2, .slice bh p2.length bk), (3, .pointer (some ⟨b1, 0, none⟩)), (7, .slice A4 n5 c6), (9, .slice A2081 ms2083.length c2082), (10, .int .i64 x1382), (20, .int .i64 p1), (21, .int .i64 x1382), (29, .slice A4 n5 c6), (30, .int .i64 (r2.1.length : Int)), (31, .int .i64 x2418)] ∧ St [] W w [.blk b1 52 [.int .i64 p0.Events, .slice ai p0.Places.length aj], .row A4 n5 c6 2 1 (ints r2.1), .mat A2081 ms2083.length c2082 23 2 (vs1381 ++ ([Value.slice A2075 r2073.length c2077])) ms2416]) F ?_ ?_ ?_
     ·exact ⟨ms2083, 0, hl2585, rfl, (FrD.pick (FrD.pick (FrD.pick (FrD.pick (FrD.pick (FrD.pick (FrD.pick (FrD.pick (FrD.pick (FrD.pick hf.none hf rfl) hf rfl) hf rfl) hf rfl) hf rfl) hf rfl) hf rfl) hf rfl) hf rfl) hf rfl), hs⟩
     ·rintro a w ⟨ms2416, x2418, h0_, -, -, -⟩; simp [impl_firingTimes_L20] at h0_
     ·rintro n2587 a w ⟨ms2416, x2418, hm2586, hn2417, hf, hs⟩
      rw [impl_firingTimes_L20] at hm2586
      refine wpL_seq <| wpL_region ?_
      refine sY hf hs rfl rfl rfl (Y_lss rfl rfl rfl) ?_; clear hf; intro a hf
      refine wpO_nil <| wpL_seq ?_
      refine wpL_cond hf rfl (fun hb2588 => ?_) (fun hb2588 => ?_)
      ·have hm2586 := bif_t hm2586 hb2588
       refine wpL_skip <| wpL_seq <| wpL_block0 <| wpL_seq <| wpL_region ?_
       obtain ⟨q2589, hi2590, hm2586⟩ := bind_some hm2586
       obtain ⟨hi2590a, hi2590b, hi2590q⟩ := idx_some hi2590
       refine sY hf hs rfl rfl rfl (Y_index rfl rfl rfl el23 ti2 (Rd.isAt (hs.rd (i := 1) rfl) (at1 (ints_at hi2590q))) hi2590a (ltn hn7 hi2590b)) ?_; clear hf; intro a hf
       refine sY hf hs rfl rfl rfl (Y_load_rd rfl rfl (fun w hs => hs.rd (i := 1) rfl) (at1 (ints_at hi2590q)) ag2) ?_; clear hf; intro a hf
       refine sY hf hs rfl rfl rfl (Y_assign rfl rfl) ?_; clear hf; intro a hf
       refine wpO_nil <| wpL_seq <| wpL_region ?_
       refine sY hf hs rfl rfl rfl (Y_fieldAddr rfl rfl fo52_1) ?_; clear hf; intro a hf
       refine sY hf hs rfl rfl rfl (Y_load_blk rfl rfl (i := 0) rfl rfl ag50) ?_; clear hf; intro a hf
       refine sY hf hs rfl rfl rfl (Y_lenH rfl rfl el50 rfl) ?_; clear hf; intro a hf
       refine sY hf hs rfl rfl rfl (Y_move rfl rfl) ?_; clear hf; intro a hf
       refine wpO_nil ?_
       obtain ⟨r2710, hl2711, hm2586⟩ := bind_some hm2586
       refine wpL_block (fun a w => ∃ ms2708 : List (List Int), ms2708 = r2710 ∧ ms2083.length = ms2708.length ∧ Fr a 84 [(2, .slice bh p2.length bk), (3, .pointer (some ⟨b1, 0, none⟩)), (7, .slice A4 n5 c6), (9, .slice A2081 ms2083.length c2082), (10, .int .i64 x1382), (20, .int .i64 p1), (21, .int .i64 x1382), (29, .slice A4 n5 c6), (30, .int .i64 (r2.1.length : Int)), (31, .int .i64 x2418)] ∧ St [] W w [.blk b1 52 [.int .i64 p0.Events, .slice ai p0.Places.length aj], .row A4 n5 c6 2 1 (ints r2.1), .mat A2081 ms2083.length c2082 23 2 (vs1381 ++ ([Value.slice A2075 r2073.length c2077])) ms2708]) ?_ ?_
       ·refine wpL_loop (fun n a w => ∃ ms2668 : List (List Int), ∃ x2670 : Int, impl_firingTimes_L21 F p0 x1382 q2589 n ms2668 x2670 = some r2710 ∧ ms2083.length = ms2668.length ∧ Fr a 84 [(2, .slice bh p2.length bk), (3, .pointer (some ⟨b1, 0, none⟩)), (7, .slice A4 n5 c6), (9, .slice A2081 ms2083.length c2082), (10, .int .i64 x1382), (12, .int .i64 q2589), (20, .int .i64 p1), (21, .int .i64 x1382), (29, .slice A4 n5 c6), (30, .int .i64 (r2.1.length : Int)), (31, .int .i64 x2418), (36, .slice ai p0.Places.length aj), (37, .int .i64 (p0.Places.length : Int)), (38, .int .i64 x2670)] ∧ St [] W w [.blk b1 52 [.int .i64 p0.Events, .slice ai p0.Places.length aj], .row A4 n5 c6 2 1 (ints r2.1), .mat A2081 ms2083.length c2082 23 2 (vs1381 ++ ([Value.slice A2075 r2073.length c2077])) ms2668]) F ?_ ?_ ?_
        ·exact ⟨ms2416, 0, hl2711, hn2417, (FrD.pick (FrD.pick (FrD.pick (FrD.pick (FrD.pick (FrD.pick (FrD.pick (FrD.pick (FrD.pick (FrD.pick (FrD.pick (FrD.pick (FrD.pick (FrD.pick hf.none hf rfl) hf rfl) hf rfl) hf rfl) hf rfl) hf rfl) hf rfl) hf rfl) hf rfl) hf rfl) hf rfl) hf rfl) hf rfl) hf rfl), hs⟩
        ·rintro a w ⟨ms2668, x2670, h0_, -, -, -⟩; simp [impl_firingTimes_L21] at h0_
        ·rintro n2713 a w ⟨ms2668, x2670, hm2712, hn2669, hf, hs⟩
         rw [impl_firingTimes_L21] at hm2712
         refine wpL_seq <| wpL_region ?_
         refine sY hf hs rfl rfl rfl (Y_lss rfl rfl rfl) ?_; clear hf; intro a hf
         refine wpO_nil <| wpL_seq ?_
         refine wpL_cond hf rfl (fun hb2714 => ?_) (fun hb2714 => ?_)
         ·have hm2712 := bif_t hm2712 hb2714
          refine wpL_skip <| wpL_seq <| wpL_block0 <| wpL_seq <| wpL_region ?_
          obtain ⟨q2715, hi2716, hm2712⟩ := bind_some hm2712
          obtain ⟨hi2716a, hi2716b, hi2716q⟩ := idx_some hi2716
          refine sY hf hs rfl rfl rfl (Y_index rfl rfl rfl el50 ti112 (Rd.isAt (aJ.at hs) (recs_at (s := 4) GPlace.len hi2716q (j := 0) rfl)) hi2716a hi2716b) ?_; clear hf; intro a hf
          refine sY hf hs rfl rfl rfl (Y_load_rdS rfl rfl (us := [.int .i64 q2715.From, .int .i64 q2715.To, .int .i64 q2715.Delay, .int .i64 q2715.Tokens]) (fun w hs => aJ.at hs) (fun j u hj => recs_at (s := 4) GPlace.len hi2716q hj) (Nat.succ_pos _) ag112 ti112 rfl) ?_; clear hf; intro a hf
          refine sAlloc hf hs rfl rfl rfl rfl ti112 ?_; clear hf hs; intro a w b2717 hs hf
          have hs : St [] W w [.blk b1 52 [.int .i64 p0.Events, .slice ai p0.Places.length aj], .row A4 n5 c6 2 1 (ints r2.1), .mat A2081 ms2083.length c2082 23 2 (vs1381 ++ ([Value.slice A2075 r2073.length c2077])) ms2668, .blk b2717 112 [.int .i64 0, .int .i64 0, .int .i64 0, .int .i64 0]] := hs
          refine sStore (i := 3) (us := [.int .i64 q2715.From, .int .i64 q2715.To, .int .i64 q2715.Delay, .int .i64 q2715.Tokens]) hf hs rfl rfl rfl rfl rfl rfl ti112 rfl rfl rfl (Nat.le_of_ble_eq_true rfl) rfl ?_; clear hs; intro w hs
          have hs : St [] W w [.blk b1 52 [.int .i64 p0.Events, .slice ai p0.Places.length aj], .row A4 n5 c6 2 1 (ints r2.1), .mat A2081 ms2083.length c2082 23 2 (vs1381 ++ ([Value.slice A2075 r2073.length c2077])) ms2668, .blk b2717 112 [.int .i64 q2715.From, .int .i64 q2715.To, .int .i64 q2715.Delay, .int .i64 q2715.Tokens]] := hs
          refine wpO_nil <| wpL_seq ?_
          obtain ⟨r2720, hj2721, hm2712⟩ := bind_some hm2712
          refine wpL_cut (fun a w => ∃ b2719 : Bool, b2719 = r2720 ∧ Fr a 84 [(2, .slice bh p2.length bk), (3, .pointer (some ⟨b1, 0, none⟩)), (7, .slice A4 n5 c6), (9, .slice A2081 ms2083.length c2082), (10, .int .i64 x1382), (12, .int .i64 q2589), (14, .pointer (some ⟨b2717, 0, none⟩)), (20, .int .i64 p1), (21, .int .i64 x1382), (29, .slice A4 n5 c6), (30, .int .i64 (r2.1.length : Int)), (31, .int .i64 x2418), (36, .slice ai p0.Places.length aj), (37, .int .i64 (p0.Places.length : Int)), (38, .int .i64 x2670), (51, .bool b2719)] ∧ St [] W w [.blk b1 52 [.int .i64 p0.Events, .slice ai p0.Places.length aj], .row A4 n5 c6 2 1 (ints r2.1), .mat A2081 ms2083.length c2082 23 2 (vs1381 ++ ([Value.slice A2075 r2073.length c2077])) ms2668, .blk b2717 112 [.int .i64 q2715.From, .int .i64 q2715.To, .int .i64 q2715.Delay, .int .i64 q2715.Tokens]]) ?_ ?_
          ·refine wpL_region ?_
           refine sY hf hs rfl rfl rfl (Y_fieldAddr rfl rfl fo112_1) ?_; clear hf; intro a hf
           refine sY hf hs rfl rfl rfl (Y_load_blk rfl rfl (i := 3) rfl rfl ag2) ?_; clear hf; intro a hf
           refine sY hf hs rfl rfl rfl (Y_move rfl rfl) ?_; clear hf; intro a hf
           refine sY hf hs rfl rfl rfl (Y_eql rfl rfl rfl) ?_; clear hf; intro a hf
           refine sY hf hs rfl rfl rfl (Y_move rfl rfl) ?_; clear hf; intro a hf
           refine bsplit (q2715.To == q2589) (fun hb2722 => ?_) (fun hb2722 => ?_)
           ·have hj2721 := bif_t hj2721 hb2722
            refine sYg hf hs rfl rfl rfl (congrArg (fun b => some (Value.bool b)) hb2722) rfl rfl rfl (Y_move rfl rfl) ?_; clear hf; intro a hf
            refine sYg hf hs rfl rfl rfl (congrArg (fun b => some (Value.bool b)) hb2722) rfl rfl rfl (Y_fieldAddr rfl rfl fo112_3) ?_; clear hf; intro a hf
            refine sYg hf hs rfl rfl rfl (congrArg (fun b => some (Value.bool b)) hb2722) rfl rfl rfl (Y_load_blk rfl rfl (i := 3) rfl rfl ag2) ?_; clear hf; intro a hf
            refine sYg hf hs rfl rfl rfl (congrArg (fun b => some (Value.bool b)) hb2722) rfl rfl rfl (Y_geq rfl rfl rfl) ?_; clear hf; intro a hf
            refine sY hf hs rfl rfl rfl (Y_pickT rfl (congrArg (fun b => some (Value.bool b)) hb2722) rfl) ?_; clear hf; intro a hf
            refine wpO_nil ?_
            refine wpL_nil (then_normal ?_)
            exact ⟨(decide (q2715.Tokens ≤ x1382)), Option.some.inj hj2721, (FrD.pick (FrD.pick (FrD.pick (FrD.pick (FrD.pick (FrD.pick (FrD.pick (FrD.pick (FrD.pick (FrD.pick (FrD.pick (FrD.pick (FrD.pick (FrD.pick (FrD.pick (FrD.pick hf.none hf rfl) hf rfl) hf rfl) hf rfl) hf rfl) hf rfl) hf rfl) hf rfl) hf rfl) hf rfl) hf rfl) hf rfl) hf rfl) hf rfl) hf rfl) hf rfl), hs⟩
           ·have hj2721 := bif_f hj2721 hb2722
            refine sNo hf rfl rfl rfl (congrArg (fun b => some (Value.bool b)) hb2722) rfl rfl rfl ?_; clear hf; intro a hf
            refine sNo hf rfl rfl rfl (congrArg (fun b => some (Value.bool b)) hb2722) rfl rfl rfl ?_; clear hf; intro a hf
            refine sNo hf rfl rfl rfl (congrArg (fun b => some (Value.bool b)) hb2722) rfl rfl rfl ?_; clear hf; intro a hf
            refine sNo hf rfl rfl rfl (congrArg (fun b => some (Value.bool b)) hb2722) rfl rfl rfl ?_; clear hf; intro a hf
            refine sY hf hs rfl rfl rfl (Y_pickF rfl (congrArg (fun b => some (Value.bool b)) hb2722) rfl) ?_; clear hf; intro a hf
            refine wpO_nil ?_
            refine wpL_nil (then_normal ?_)
            exact ⟨false, Option.some.inj hj2721, (FrD.pick (FrD.pick (FrD.pick (FrD.pick (FrD.pick (FrD.pick (FrD.pick (FrD.pick (FrD.pick (FrD.pick (FrD.pick (FrD.pick (FrD.pick (FrD.pick (FrD.pick (FrD.pick hf.none hf rfl) hf rfl) hf rfl) hf rfl) hf rfl) hf rfl) hf rfl) hf rfl) hf rfl) hf rfl) hf rfl) hf rfl) hf rfl) hf rfl) hf rfl) hf rfl), hs⟩
          ·rintro a w ⟨b2719, hr_, hf, hs⟩
           subst hr_
           try dsimp only at hm2712
           refine wpL_cond hf rfl (fun hb2723 => ?_) (fun hb2723 => ?_)
           ·have hm2712 := bif_t hm2712 hb2723
            refine wpL_drawM [.blk b1 52 [.int .i64 p0.Events, .slice ai p0.Places.length aj], .row A4 n5 c6 2 1 (ints r2.1), .mat A2081 ms2083.length c2082 23 2 (vs1381 ++ ([Value.slice A2075 r2073.length c2077])) ms2668, .blk b2717 112 [.int .i64 q2715.From, .int .i64 q2715.To, .int .i64 q2715.Delay, .int .i64 q2715.Tokens]] [28] (by kernel_rfl) hs ?_; clear hs; intro w hs
            have hs0 : St [] W w [.blk b1 52 [.int .i64 p0.Events, .slice ai p0.Places.length aj], .row A4 n5 c6 2 1 (ints r2.1), .mat A2081 ms2083.length c2082 23 2 (vs1381 ++ ([Value.slice A2075 r2073.length c2077])) ms2668, .blk b2717 112 [.int .i64 q2715.From, .int .i64 q2715.To, .int .i64 q2715.Delay, .int .i64 q2715.Tokens]] := hs
            refine mYp (i := 0) rfl (by kernel_rfl) (by kernel_rfl) hf rfl rfl rfl (fun _ => Y_move rfl rfl) ?_; clear hf; intro a hf
            refine mYp (i := 1) rfl (by kernel_rfl) (by kernel_rfl) hf rfl rfl rfl (fun _ => Y_move rfl rfl) ?_; clear hf; intro a hf
            obtain ⟨q2724, hi2725, hm2712⟩ := bind_some hm2712
            obtain ⟨hi2725a, hi2725b, hi2725q⟩ := idx_some hi2725
            obtain ⟨A2726, c2727, hv2728⟩ := hs.matRow (i := 2) rfl hi2725q
            refine mYp (i := 2) rfl (by kernel_rfl) (by kernel_rfl) hf rfl rfl rfl (fun _ => Y_index rfl rfl rfl el59 ti23 (Rd.isAt (hs.rdV (i := 2) rfl) hv2728) hi2725a (ltn hn2669 hi2725b)) ?_; clear hf; intro a hf
            refine mY (i := 3) [[]] rfl (by kernel_rfl) (by kernel_rfl) hf hs0 rfl rfl rfl (Y_load_rd rfl rfl (fun w hs => hs.rdV (i := 2) rfl) (at1 hv2728) ag23) ?_; clear hf; intro a hf
            refine mYp (i := 4) rfl (by kernel_rfl) (by kernel_rfl) hf rfl rfl rfl (fun _ => Y_move rfl rfl) ?_; clear hf; intro a hf
            refine mYp (i := 5) rfl (by kernel_rfl) (by kernel_rfl) hf rfl rfl rfl (fun _ => Y_move rfl rfl) ?_; clear hf; intro a hf
            refine mYp (i := 6) rfl (by kernel_rfl) (by kernel_rfl) hf rfl rfl rfl (fun _ => Y_move rfl rfl) ?_; clear hf; intro a hf
            obtain ⟨q2729, hi2730, hm2712⟩ := bind_some hm2712
            obtain ⟨hi2730a, hi2730b, hi2730q⟩ := idx_some hi2730
            obtain ⟨A2731, c2732, hv2733⟩ := hs.matRow (i := 2) rfl hi2730q
            refine mYp (i := 7) rfl (by kernel_rfl) (by kernel_rfl) hf rfl rfl rfl (fun _ => Y_index rfl rfl rfl el59 ti23 (Rd.isAt (hs.rdV (i := 2) rfl) hv2733) hi2730a (ltn hn2669 hi2730b)) ?_; clear hf; intro a hf
            refine mY (i := 8) [[]] rfl (by kernel_rfl) (by kernel_rfl) hf hs0 rfl rfl rfl (Y_load_rd rfl rfl (fun w hs => hs.rdV (i := 2) rfl) (at1 hv2733) ag23) ?_; clear hf; intro a hf
            refine mYp (i := 9) rfl (by kernel_rfl) (by kernel_rfl) hf rfl rfl rfl (fun _ => Y_move rfl rfl) ?_; clear hf; intro a hf
            obtain ⟨q2734, hi2735, hm2712⟩ := bind_some hm2712
            obtain ⟨hi2735a, hi2735b, hi2735q⟩ := idx_some hi2735
            refine mYp (i := 10) rfl (by kernel_rfl) (by kernel_rfl) hf rfl rfl rfl (fun _ => Y_index rfl rfl rfl el23 ti2 (Rd.isAt (hs.rdRow (i := 2) rfl ⟨hi2730q, hv2733⟩) (at1 (ints_at hi2735q))) hi2735a hi2735b) ?_; clear hf; intro a hf
            refine mY (i := 11) [[]] rfl (by kernel_rfl) (by kernel_rfl) hf hs0 rfl rfl rfl (Y_load_rd rfl rfl (fun w hs => hs.rdRow (i := 2) rfl ⟨hi2730q, hv2733⟩) (at1 (ints_at hi2735q)) ag2) ?_; clear hf; intro a hf
            refine mYp (i := 12) rfl (by kernel_rfl) (by kernel_rfl) hf rfl rfl rfl (fun _ => Y_move rfl rfl) ?_; clear hf; intro a hf
            refine mYp (i := 13) rfl (by kernel_rfl) (by kernel_rfl) hf rfl rfl rfl (fun _ => Y_move rfl rfl) ?_; clear hf; intro a hf
            refine mYp (i := 14) rfl (by kernel_rfl) (by kernel_rfl) hf rfl rfl rfl (fun _ => Y_fieldAddr rfl rfl fo112_3) ?_; clear hf; intro a hf
            refine mY (i := 15) [[]] rfl (by kernel_rfl) (by kernel_rfl) hf hs0 rfl rfl rfl (Y_load_blk rfl rfl (i := 3) rfl rfl ag2) ?_; clear hf; intro a hf
            refine mYp (i := 16) rfl (by kernel_rfl) (by kernel_rfl) hf rfl rfl rfl (fun _ => Y_sub rfl rfl rfl) ?_; clear hf; intro a hf
            obtain ⟨q2736, hi2737, hm2712⟩ := bind_some hm2712
            obtain ⟨hi2737a, hi2737b, hi2737q⟩ := idx_some hi2737
            obtain ⟨A2738, c2739, hv2740⟩ := hs.matRow (i := 2) rfl hi2737q
            refine mYp (i := 17) rfl (by kernel_rfl) (by kernel_rfl) hf rfl rfl rfl (fun _ => Y_index rfl rfl rfl el59 ti23 (Rd.isAt (hs.rdV (i := 2) rfl) hv2740) hi2737a (ltn hn2669 hi2737b)) ?_; clear hf; intro a hf
            refine mY (i := 18) [[]] rfl (by kernel_rfl) (by kernel_rfl) hf hs0 rfl rfl rfl (Y_load_rd rfl rfl (fun w hs => hs.rdV (i := 2) rfl) (at1 hv2740) ag23) ?_; clear hf; intro a hf
            refine mYp (i := 19) rfl (by kernel_rfl) (by kernel_rfl) hf rfl rfl rfl (fun _ => Y_fieldAddr rfl rfl fo112_0) ?_; clear hf; intro a hf
            refine mY (i := 20) [[]] rfl (by kernel_rfl) (by kernel_rfl) hf hs0 rfl rfl rfl (Y_load_blk rfl rfl (i := 3) rfl rfl ag2) ?_; clear hf; intro a hf
            obtain ⟨q2741, hi2742, hm2712⟩ := bind_some hm2712
            obtain ⟨hi2742a, hi2742b, hi2742q⟩ := idx_some hi2742
            refine mYp (i := 21) rfl (by kernel_rfl) (by kernel_rfl) hf rfl rfl rfl (fun _ => Y_index rfl rfl rfl el23 ti2 (Rd.isAt (hs.rdRow (i := 2) rfl ⟨hi2737q, hv2740⟩) (at1 (ints_at hi2742q))) hi2742a hi2742b) ?_; clear hf; intro a hf
            refine mY (i := 22) [[]] rfl (by kernel_rfl) (by kernel_rfl) hf hs0 rfl rfl rfl (Y_load_rd rfl rfl (fun w hs => hs.rdRow (i := 2) rfl ⟨hi2737q, hv2740⟩) (at1 (ints_at hi2742q)) ag2) ?_; clear hf; intro a hf
            refine mYp (i := 23) rfl (by kernel_rfl) (by kernel_rfl) hf rfl rfl rfl (fun _ => Y_fieldAddr rfl rfl fo112_2) ?_; clear hf; intro a hf
            refine mY (i := 24) [[]] rfl (by kernel_rfl) (by kernel_rfl) hf hs0 rfl rfl rfl (Y_load_blk rfl rfl (i := 3) rfl rfl ag2) ?_; clear hf; intro a hf
            refine mYp (i := 25) rfl (by kernel_rfl) (by kernel_rfl) hf rfl rfl rfl (fun _ => Y_add rfl rfl rfl) ?_; clear hf; intro a hf
            refine mYp (i := 26) rfl (by kernel_rfl) (by kernel_rfl) hf rfl rfl rfl (fun _ => Y_max rfl rfl rfl) ?_; clear hf; intro a hf
            obtain ⟨q2743, hi2744, hm2712⟩ := bind_some hm2712
            obtain ⟨hi2744a, hi2744b, hi2744q⟩ := idx_some hi2744
            refine mYp (i := 27) rfl (by kernel_rfl) (by kernel_rfl) hf rfl rfl rfl (fun _ => Y_index rfl rfl rfl el23 ti2 (Rd.isAt (hs.rdRow (i := 2) rfl ⟨hi2725q, hv2728⟩) (at1 (ints_at hi2744q))) hi2744a hi2744b) ?_; clear hf; intro a hf
            refine mRun (i := 28) rfl (by kernel_rfl) ?_
            obtain ⟨xs2745, hu2747, hm2712⟩ := bind_some hm2712
            obtain ⟨ms2746, hu2748, hm2712⟩ := bind_some hm2712
            refine sStoreM (i := 2) (k := x1382) hf hs rfl rfl rfl rfl rfl rfl hi2725q hv2728 rfl hu2747 hu2748 ti2 ?_; clear hs; intro w hs
            obtain ⟨hq2749, hv2750⟩ := rowUpd hu2747 hu2748 hv2728
            have hs : St [] W w [.blk b1 52 [.int .i64 p0.Events, .slice ai p0.Places.length aj], .row A4 n5 c6 2 1 (ints r2.1), .mat A2081 ms2083.length c2082 23 2 (vs1381 ++ ([Value.slice A2075 r2073.length c2077])) ms2746, .blk b2717 112 [.int .i64 q2715.From, .int .i64 q2715.To, .int .i64 q2715.Delay, .int .i64 q2715.Tokens]] := hs
            refine wpO_nil ⟨Or.inl (by decide), ?_⟩
            refine mDone (by kernel_rfl) ?_
            clear hs0
            refine wpL_nil (Qb_normal ?_)
            refine wpL_region ?_
            refine sY hf hs rfl rfl rfl (Y_add rfl rfl rfl) ?_; clear hf; intro a hf
            refine sY hf hs rfl rfl rfl (Y_move rfl rfl) ?_; clear hf; intro a hf
            refine wpO_nil ?_
            refine wpL_nil (Ql_normal ?_)
            exact ⟨ms2746, (IntKind.i64.wrap (x2670 + 1)), hm2712, ((hn2669).trans (upd_len hu2748).symm), (FrD.pick (FrD.pick (FrD.pick (FrD.pick (FrD.pick (FrD.pick (FrD.pick (FrD.pick (FrD.pick (FrD.pick (FrD.pick (FrD.pick (FrD.pick (FrD.pick hf.none hf rfl) hf rfl) hf rfl) hf rfl) hf rfl) hf rfl) hf rfl) hf rfl) hf rfl) hf rfl) hf rfl) hf rfl) hf rfl) hf rfl), hs.sel [0, 1, 2] (by decide)⟩
           ·have hm2712 := bif_f hm2712 hb2723
            refine wpL_skip ?_
            refine wpL_nil (Qb_normal ?_)
            refine wpL_region ?_
            refine sY hf hs rfl rfl rfl (Y_add rfl rfl rfl) ?_; clear hf; intro a hf
            refine sY hf hs rfl rfl rfl (Y_move rfl rfl) ?_; clear hf; intro a hf
            refine wpO_nil ?_
            refine wpL_nil (Ql_normal ?_)
            exact ⟨ms2668, (IntKind.i64.wrap (x2670 + 1)), hm2712, hn2669, (FrD.pick (FrD.pick (FrD.pick (FrD.pick (FrD.pick (FrD.pick (FrD.pick (FrD.pick (FrD.pick (FrD.pick (FrD.pick (FrD.pick (FrD.pick (FrD.pick hf.none hf rfl) hf rfl) hf rfl) hf rfl) hf rfl) hf rfl) hf rfl) hf rfl) hf rfl) hf rfl) hf rfl) hf rfl) hf rfl) hf rfl), hs.sel [0, 1, 2] (by decide)⟩
         ·have hm2712 := bif_f hm2712 hb2714
          refine wpL_exit (Ql_exit (Qb_exit ?_))
          exact ⟨ms2668, Option.some.inj hm2712, hn2669, (FrD.pick (FrD.pick (FrD.pick (FrD.pick (FrD.pick (FrD.pick (FrD.pick (FrD.pick (FrD.pick (FrD.pick hf.none hf rfl) hf rfl) hf rfl) hf rfl) hf rfl) hf rfl) hf rfl) hf rfl) hf rfl) hf rfl), hs⟩
       ·rintro a w ⟨ms2708, hr_, hn2709, hf, hs⟩
        subst hr_
        try dsimp only at hm2586
        refine wpL_nil (Qb_normal ?_)
        refine wpL_region ?_
        refine sY hf hs rfl rfl rfl (Y_add rfl rfl rfl) ?_; clear hf; intro a hf
        refine sY hf hs rfl rfl rfl (Y_move rfl rfl) ?_; clear hf; intro a hf
        refine wpO_nil ?_
        refine wpL_nil (Ql_normal ?_)
        exact ⟨ms2708, (IntKind.i64.wrap (x2418 + 1)), hm2586, hn2709, (FrD.pick (FrD.pick (FrD.pick (FrD.pick (FrD.pick (FrD.pick (FrD.pick (FrD.pick (FrD.pick (FrD.pick hf.none hf rfl) hf rfl) hf rfl) hf rfl) hf rfl) hf rfl) hf rfl) hf rfl) hf rfl) hf rfl), hs⟩
      ·have hm2586 := bif_f hm2586 hb2588
       refine wpL_exit (Ql_exit (Qb_exit ?_))
       exact ⟨ms2416, Option.some.inj hm2586, hn2417, (FrD.pick (FrD.pick (FrD.pick (FrD.pick (FrD.pick (FrD.pick hf.none hf rfl) hf rfl) hf rfl) hf rfl) hf rfl) hf rfl), hs⟩
    ·rintro a w ⟨ms2582, hr_, hn2583, hf, hs⟩
     subst hr_
     try dsimp only at hm2070
     refine wpL_nil (Qb_normal ?_)
     refine wpL_region ?_
     refine sY hf hs rfl rfl rfl (Y_add rfl rfl rfl) ?_; clear hf; intro a hf
     refine sY hf hs rfl rfl rfl (Y_move rfl rfl) ?_; clear hf; intro a hf
     refine wpO_nil ?_
     refine wpL_nil (Ql_normal ?_)
     exact ⟨ms2582, (IntKind.i64.wrap (x1382 + 1)), A2081, ms2083.length, c2082, (vs1381 ++ ([Value.slice A2075 r2073.length c2077])), hm2070, hn2583, (FrD.pick (FrD.pick (FrD.pick (FrD.pick (FrD.pick (FrD.pick hf.none hf rfl) hf rfl) hf rfl) hf rfl) hf rfl) hf rfl), hs⟩
   ·have hm2070 := bif_f hm2070 hb2072
    refine wpL_exit (Ql_exit (Qb_exit ?_))
    exact ⟨ms1376, A1377, n1378, c1379, vs1381, Option.some.inj hm2070, hn1380, (FrD.pick hf.none hf rfl), hs.sel [2] (by decide)⟩
 ·rintro a w ⟨ms2062, A2063, n2064, c2065, vs2067, hr_, hn2066, hf, hs⟩
  subst hr_
  try dsimp only at hm
  refine wpL_seq <| wpL_region ?_
  refine sY hf hs rfl rfl rfl (Y_move rfl rfl) ?_; clear hf; intro a hf
  refine sY hf hs rfl rfl rfl (Y_assign rfl rfl) ?_; clear hf; intro a hf
  refine wpO_nil ?_
  obtain rfl := Option.some.inj hm
  refine wpL_ret (ret_tmp rfl hf rfl ?_)
  exact ⟨_, rfl, A2063, n2064, c2065, vs2067, rfl, hn2066, hs⟩

set_option maxRecDepth 100000 in
theorem impl_floatsOf_ok (F : Nat) (ae : GEventGraph) (ad : Option Addr) (ao af : Nat) (au : ao = ae.Places.length) (al : List (List Int)) (ak : Option Addr) (ax am : Nat) (aE : ax = al.length) (r : List (List Int)) (W : World) (hm : impl_floatsOf F ae al = some r) (ap : Rd W ad ((recs GPlace.cells) ae.Places)) (aB : RdM W ak al) :
  Calls Try.prog 98 [.agg #[.int .i64 ae.Events, .slice ad ao af], .slice ak ax am].toArray W fun e w' => ∃ v, e = .returned v ∧ ∃ A401, ∃ n402, ∃ c403, ∃ vs405, v = .slice A401 n402 c403 ∧ n402 = r.length ∧ St [] W w' [.mat A401 n402 c403 23 2 vs405 r] := by
 subst au
 subst aE
 unfold impl_floatsOf at hm
 refine Calls.enter (N := 46) Try.func98 rfl rfl rfl (fun a hf => ?_)
 have hs := St.start W
 obtain ⟨w, hw_⟩ : ∃ w, w = W := ⟨W, rfl⟩
 clear hw_ w
 refine wpL_seq <| wpL_region ?_
 refine sBox hf hs rfl rfl rfl rfl rfl (cs := [.int .i64 ae.Events, .slice ad ae.Places.length af]) rfl ?_; clear hf hs; intro a w b1 hs hf
 have hs : St [] W w [.blk b1 52 [.int .i64 ae.Events, .slice ad ae.Places.length af]] := hs
 refine sY hf hs rfl rfl rfl (Y_assign rfl rfl) ?_; clear hf; intro a hf
 refine wpO_nil <| wpL_seq <| wpL_region ?_
 refine sY hf hs rfl rfl rfl (Y_load_blkS rfl rfl (i := 0) rfl ag52 ti52 rfl) ?_; clear hf; intro a hf
 refine sY hf hs rfl rfl rfl (Y_move rfl rfl) ?_; clear hf; intro a hf
 obtain ⟨r2, hc3, hm⟩ := bind_some hm
 refine sCall hf rfl rfl rfl rfl (cap := []) rfl rfl en151 (impl_latestTimes_ok F ae ad ae.Places.length af rfl al ak al.length am rfl _ _ hc3 (ap.at hs) (aB.at hs)) ?_; clear hf
 rintro _ w ⟨A4, n5, c6, vs8, rfl, hn7, hs1⟩ a hf
 have hs : St [] W w [.blk b1 52 [.int .i64 ae.Events, .slice ad ae.Places.length af], .mat A4 n5 c6 23 2 vs8 r2] := hs.join hs1
 clear hs1
 refine sY hf hs rfl rfl rfl (Y_assign rfl rfl) ?_; clear hf; intro a hf
 refine wpO_nil <| wpL_seq <| wpL_seq ?_
 refine wpL_drawM [.blk b1 52 [.int .i64 ae.Events, .slice ad ae.Places.length af], .mat A4 n5 c6 23 2 vs8 r2] [6] (by kernel_rfl) hs ?_; clear hs; intro w hs
 have hs0 : St [] W w [.blk b1 52 [.int .i64 ae.Events, .slice ad ae.Places.length af], .mat A4 n5 c6 23 2 vs8 r2] := hs
 refine mY (i := 0) [[]] rfl (by kernel_rfl) (by kernel_rfl) hf hs0 rfl rfl rfl (Y_load_blkS rfl rfl (i := 0) rfl ag52 ti52 rfl) ?_; clear hf; intro a hf
 refine mYp (i := 1) rfl (by kernel_rfl) (by kernel_rfl) hf rfl rfl rfl (fun _ => Y_move rfl rfl) ?_; clear hf; intro a hf
 refine mYp (i := 2) rfl (by kernel_rfl) (by kernel_rfl) hf rfl rfl rfl (fun _ => Y_lenH rfl rfl el59 rfl) ?_; clear hf; intro a hf
 refine mYp (i := 3) rfl (by kernel_rfl) (by kernel_rfl) hf rfl rfl rfl (fun _ => Y_fieldAddr rfl rfl fo52_0) ?_; clear hf; intro a hf
 refine mY (i := 4) [[5]] rfl (by kernel_rfl) (by kernel_rfl) hf hs0 rfl rfl rfl (Y_load_blk rfl rfl (i := 0) rfl rfl ag2) ?_; clear hf; intro a hf
 refine mYp (i := 8) rfl (by kernel_rfl) (by kernel_rfl) hf rfl rfl rfl (fun _ => Y_move rfl rfl) ?_; clear hf; intro a hf
 refine mRun (i := 5) rfl (by kernel_rfl) ?_
 obtain ⟨xs21, hk20, hm⟩ := bind_some hm
 refine sMakeL (enc := ints) hf hs rfl rfl rfl rfl rfl hk20 el23 ti2 rfl ints_made ?_; clear hf hs; intro a w A19 hs hf
 have hs : St [] W w [.blk b1 52 [.int .i64 ae.Events, .slice ad ae.Places.length af], .mat A4 n5 c6 23 2 vs8 r2, .row A19 xs21.length xs21.length 2 1 (ints xs21)] := hs
 have hs0 : St [] W w [.blk b1 52 [.int .i64 ae.Events, .slice ad ae.Places.length af], .mat A4 n5 c6 23 2 vs8 r2] := hs.sel [0, 1] (by decide)
 refine wpO_nil ⟨Or.inr (fun _ => hs0), ?_⟩
 refine mRun (i := 6) rfl (by kernel_rfl) ?_
 obtain ⟨r22, hc23, hm⟩ := bind_some hm
 refine sCall hf rfl rfl rfl rfl (cap := []) rfl rfl en101 (impl_firingTimes_ok F ae ad ae.Places.length af rfl (al.length : Int) xs21 A19 xs21.length xs21.length rfl _ _ hc23 (ap.at hs) (hs.rd (i := 2) rfl)) ?_; clear hf
 rintro _ w ⟨A24, n25, c26, vs28, rfl, hn27, hs1⟩ a hf
 have hs : St [] W w [.blk b1 52 [.int .i64 ae.Events, .slice ad ae.Places.length af], .mat A4 n5 c6 23 2 vs8 r2, .row A19 xs21.length xs21.length 2 1 (ints xs21), .mat A24 n25 c26 23 2 vs28 r22] := hs.join hs1
 clear hs1
 refine wpO_nil ⟨Or.inl (by decide), ?_⟩
 refine mYp (i := 7) rfl (by kernel_rfl) (by kernel_rfl) hf rfl rfl rfl (fun _ => Y_lenH rfl rfl el59 hn27) ?_; clear hf; intro a hf
 refine mDone (by kernel_rfl) ?_
 clear hs0
 obtain ⟨r307, hl308, hm⟩ := bind_some hm
 refine wpL_block (fun a w => ∃ ms305 : List (List Int), ms305 = r307 ∧ n5 = ms305.length ∧ Fr a 46 [(5, .slice A4 n5 c6)] ∧ St [] W w [.mat A4 n5 c6 23 2 vs8 ms305]) ?_ ?_
 ·refine wpL_loop (fun n a w => ∃ ms212 : List (List Int), ∃ x214 : Int, impl_floatsOf_L4 F r22 n ms212 x214 = some r307 ∧ n5 = ms212.length ∧ Fr a 46 [(5, .slice A4 n5 c6), (19, .slice A24 n25 c26), (20, .int .i64 (r22.length : Int)), (21, .int .i64 x214)] ∧ St [] W w [.mat A4 n5 c6 23 2 vs8 ms212, .mat A24 n25 c26 23 2 vs28 r22]) F ?_ ?_ ?_
  ·exact ⟨r2, 0, hl308, hn7, (FrD.pick (FrD.pick (FrD.pick (FrD.pick hf.none hf rfl) hf rfl) hf rfl) hf rfl), hs.sel [1, 3] (by decide)⟩
  ·rintro a w ⟨ms212, x214, h0_, -, -, -⟩; simp [impl_floatsOf_L4] at h0_
  ·rintro n310 a w ⟨ms212, x214, hm309, hn213, hf, hs⟩
   rw [impl_floatsOf_L4] at hm309
   refine wpL_seq <| wpL_region ?_
   refine sY hf hs rfl rfl rfl (Y_lss rfl rfl rfl) ?_; clear hf; intro a hf
   refine wpO_nil <| wpL_seq ?_
   refine wpL_cond hf rfl (fun hb311 => ?_) (fun hb311 => ?_)
   ·have hm309 := bif_t hm309 hb311
    refine wpL_skip <| wpL_seq <| wpL_block0 <| wpL_seq <| wpL_region ?_
    refine sY hf hs rfl rfl rfl (Y_move rfl rfl) ?_; clear hf; intro a hf
    obtain ⟨q312, hi313, hm309⟩ := bind_some hm309
    obtain ⟨hi313a, hi313b, hi313q⟩ := idx_some hi313
    obtain ⟨A314, c315, hv316⟩ := hs.matRow (i := 1) rfl hi313q
    refine sY hf hs rfl rfl rfl (Y_index rfl rfl rfl el59 ti23 (Rd.isAt (hs.rdV (i := 1) rfl) hv316) hi313a (ltn hn27 hi313b)) ?_; clear hf; intro a hf
    refine sY hf hs rfl rfl rfl (Y_load_rd rfl rfl (fun w hs => hs.rdV (i := 1) rfl) (at1 hv316) ag23) ?_; clear hf; intro a hf
    refine sY hf hs rfl rfl rfl (Y_assign rfl rfl) ?_; clear hf; intro a hf
    refine sY hf hs rfl rfl rfl (Y_assign rfl rfl) ?_; clear hf; intro a hf
    refine wpO_nil <| wpL_seq <| wpL_region ?_
    refine sY hf hs rfl rfl rfl (Y_move rfl rfl) ?_; clear hf; intro a hf
    refine sY hf hs rfl rfl rfl (Y_lenH rfl rfl el23 rfl) ?_; clear hf; intro a hf
    refine sY hf hs rfl rfl rfl (Y_move rfl rfl) ?_; clear hf; intro a hf
    refine wpO_nil ?_
    obtain ⟨r379, hl380, hm309⟩ := bind_some hm309
    refine wpL_block (fun a w => ∃ ms377 : List (List Int), ms377 = r379 ∧ n5 = ms377.length ∧ Fr a 46 [(5, .slice A4 n5 c6), (19, .slice A24 n25 c26), (20, .int .i64 (r22.length : Int)), (21, .int .i64 x214)] ∧ St [] W w [.mat A4 n5 c6 23 2 vs8 ms377, .mat A24 n25 c26 23 2 vs28 r22]) ?_ ?_
    ·refine wpL_loop (fun n a w => ∃ ms356 : List (List Int), ∃ x358 : Int, impl_floatsOf_L5 F x214 q312 n ms356 x358 = some r379 ∧ n5 = ms356.length ∧ Fr a 46 [(5, .slice A4 n5 c6), (6, .int .i64 x214), (19, .slice A24 n25 c26), (20, .int .i64 (r22.length : Int)), (21, .int .i64 x214), (26, .slice A314 q312.length c315), (27, .int .i64 (q312.length : Int)), (28, .int .i64 x358)] ∧ St [] W w [.mat A4 n5 c6 23 2 vs8 ms356, .mat A24 n25 c26 23 2 vs28 r22]) F ?_ ?_ ?_
     ·exact ⟨ms212, 0, hl380, hn213, (FrD.pick (FrD.pick (FrD.pick (FrD.pick (FrD.pick (FrD.pick (FrD.pick (FrD.pick hf.none hf rfl) hf rfl) hf rfl) hf rfl) hf rfl) hf rfl) hf rfl) hf rfl), hs⟩
     ·rintro a w ⟨ms356, x358, h0_, -, -, -⟩; simp [impl_floatsOf_L5] at h0_
     ·rintro n382 a w ⟨ms356, x358, hm381, hn357, hf, hs⟩
      rw [impl_floatsOf_L5] at hm381
      refine wpL_seq <| wpL_region ?_
      refine sY hf hs rfl rfl rfl (Y_lss rfl rfl rfl) ?_; clear hf; intro a hf
      refine wpO_nil <| wpL_seq ?_
      refine wpL_cond hf rfl (fun hb383 => ?_) (fun hb383 => ?_)
      ·have hm381 := bif_t hm381 hb383
       refine wpL_skip <| wpL_seq <| wpL_block0 <| wpL_seq <| wpL_region ?_
       refine sY hf hs rfl rfl rfl (Y_move rfl rfl) ?_; clear hf; intro a hf
       obtain ⟨q384, hi385, hm381⟩ := bind_some hm381
       obtain ⟨hi385a, hi385b, hi385q⟩ := idx_some hi385
       refine sY hf hs rfl rfl rfl (Y_index rfl rfl rfl el23 ti2 (Rd.isAt (hs.rdRow (i := 1) rfl ⟨hi313q, hv316⟩) (at1 (ints_at hi385q))) hi385a hi385b) ?_; clear hf; intro a hf
       refine sY hf hs rfl rfl rfl (Y_load_rd rfl rfl (fun w hs => hs.rdRow (i := 1) rfl ⟨hi313q, hv316⟩) (at1 (ints_at hi385q)) ag2) ?_; clear hf; intro a hf
       refine sY hf hs rfl rfl rfl (Y_assign rfl rfl) ?_; clear hf; intro a hf
       refine sY hf hs rfl rfl rfl (Y_assign rfl rfl) ?_; clear hf; intro a hf
       refine wpO_nil <| wpL_region ?_
       refine sY hf hs rfl rfl rfl (Y_move rfl rfl) ?_; clear hf; intro a hf
       refine sY hf hs rfl rfl rfl (Y_move rfl rfl) ?_; clear hf; intro a hf
       obtain ⟨q386, hi387, hm381⟩ := bind_some hm381
       obtain ⟨hi387a, hi387b, hi387q⟩ := idx_some hi387
       obtain ⟨A388, c389, hv390⟩ := hs.matRow (i := 0) rfl hi387q
       refine sY hf hs rfl rfl rfl (Y_index rfl rfl rfl el59 ti23 (Rd.isAt (hs.rdV (i := 0) rfl) hv390) hi387a (ltn hn357 hi387b)) ?_; clear hf; intro a hf
       refine sY hf hs rfl rfl rfl (Y_load_rd rfl rfl (fun w hs => hs.rdV (i := 0) rfl) (at1 hv390) ag23) ?_; clear hf; intro a hf
       refine sY hf hs rfl rfl rfl (Y_move rfl rfl) ?_; clear hf; intro a hf
       obtain ⟨q391, hi392, hm381⟩ := bind_some hm381
       obtain ⟨hi392a, hi392b, hi392q⟩ := idx_some hi392
       refine sY hf hs rfl rfl rfl (Y_index rfl rfl rfl el23 ti2 (Rd.isAt (hs.rdRow (i := 0) rfl ⟨hi387q, hv390⟩) (at1 (ints_at hi392q))) hi392a hi392b) ?_; clear hf; intro a hf
       refine sY hf hs rfl rfl rfl (Y_load_rd rfl rfl (fun w hs => hs.rdRow (i := 0) rfl ⟨hi387q, hv390⟩) (at1 (ints_at hi392q)) ag2) ?_; clear hf; intro a hf
       refine sY hf hs rfl rfl rfl (Y_move rfl rfl) ?_; clear hf; intro a hf
       refine sY hf hs rfl rfl rfl (Y_sub rfl rfl rfl) ?_; clear hf; intro a hf
       obtain ⟨q393, hi394, hm381⟩ := bind_some hm381
       obtain ⟨hi394a, hi394b, hi394q⟩ := idx_some hi394
       refine sY hf hs rfl rfl rfl (Y_index rfl rfl rfl el23 ti2 (Rd.isAt (hs.rdRow (i := 0) rfl ⟨hi387q, hv390⟩) (at1 (ints_at hi394q))) hi394a hi394b) ?_; clear hf; intro a hf
       obtain ⟨xs395, hu397, hm381⟩ := bind_some hm381
       obtain ⟨ms396, hu398, hm381⟩ := bind_some hm381
       refine sStoreM (i := 0) (k := x214) hf hs rfl rfl rfl rfl rfl rfl hi387q hv390 rfl hu397 hu398 ti2 ?_; clear hs; intro w hs
       obtain ⟨hq399, hv400⟩ := rowUpd hu397 hu398 hv390
       have hs : St [] W w [.mat A4 n5 c6 23 2 vs8 ms396, .mat A24 n25 c26 23 2 vs28 r22] := hs
       refine wpO_nil ?_
       refine wpL_nil (Qb_normal ?_)
       refine wpL_region ?_
       refine sY hf hs rfl rfl rfl (Y_add rfl rfl rfl) ?_; clear hf; intro a hf
       refine sY hf hs rfl rfl rfl (Y_move rfl rfl) ?_; clear hf; intro a hf
       refine wpO_nil ?_
       refine wpL_nil (Ql_normal ?_)
       exact ⟨ms396, (IntKind.i64.wrap (x358 + 1)), hm381, ((hn357).trans (upd_len hu398).symm), (FrD.pick (FrD.pick (FrD.pick (FrD.pick (FrD.pick (FrD.pick (FrD.pick (FrD.pick hf.none hf rfl) hf rfl) hf rfl) hf rfl) hf rfl) hf rfl) hf rfl) hf rfl), hs⟩
      ·have hm381 := bif_f hm381 hb383
       refine wpL_exit (Ql_exit (Qb_exit ?_))
       exact ⟨ms356, Option.some.inj hm381, hn357, (FrD.pick (FrD.pick (FrD.pick (FrD.pick hf.none hf rfl) hf rfl) hf rfl) hf rfl), hs⟩
    ·rintro a w ⟨ms377, hr_, hn378, hf, hs⟩
     subst hr_
     try dsimp only at hm309
     refine wpL_nil (Qb_normal ?_)
     refine wpL_region ?_
     refine sY hf hs rfl rfl rfl (Y_add rfl rfl rfl) ?_; clear hf; intro a hf
     refine sY hf hs rfl rfl rfl (Y_move rfl rfl) ?_; clear hf; intro a hf
     refine wpO_nil ?_
     refine wpL_nil (Ql_normal ?_)
     exact ⟨ms377, (IntKind.i64.wrap (x214 + 1)), hm309, hn378, (FrD.pick (FrD.pick (FrD.pick (FrD.pick hf.none hf rfl) hf rfl) hf rfl) hf rfl), hs⟩
   ·have hm309 := bif_f hm309 hb311
    refine wpL_exit (Ql_exit (Qb_exit ?_))
    exact ⟨ms212, Option.some.inj hm309, hn213, (FrD.pick hf.none hf rfl), hs.sel [0] (by decide)⟩
 ·rintro a w ⟨ms305, hr_, hn306, hf, hs⟩
  subst hr_
  try dsimp only at hm
  refine wpL_seq <| wpL_region ?_
  refine sY hf hs rfl rfl rfl (Y_move rfl rfl) ?_; clear hf; intro a hf
  refine sY hf hs rfl rfl rfl (Y_assign rfl rfl) ?_; clear hf; intro a hf
  refine wpO_nil ?_
  obtain rfl := Option.some.inj hm
  refine wpL_ret (ret_tmp rfl hf rfl ?_)
  exact ⟨_, rfl, A4, n5, c6, vs8, rfl, hn306, hs⟩

set_option maxRecDepth 100000 in
theorem slices_Min_int64_ok (F : Nat) (cJ : List Int) (cx : Option Addr) (cK cL : Nat) (cU : cK = cJ.length) (r : Int) (W : World) (hm : slices_Min_int64 F cJ = some r) (cd : Rd W cx (ints cJ)) :
  Calls Try.prog 99 [.slice cx cK cL].toArray W fun e w' => ∃ v, e = .returned v ∧ v = .int .i64 r ∧ St [] W w' [] := by
 subst cU
 unfold slices_Min_int64 at hm
 refine Calls.enter (N := 25) Try.func99 rfl rfl rfl (fun a hf => ?_)
 have hs := St.start W
 obtain ⟨w, hw_⟩ : ∃ w, w = W := ⟨W, rfl⟩
 clear hw_ w
 refine wpL_seq <| wpL_region ?_
 refine sY hf hs rfl rfl rfl (Y_assign rfl rfl) ?_; clear hf; intro a hf
 refine wpO_nil <| wpL_seq <| wpL_seq <| wpL_region ?_
 refine sY hf hs rfl rfl rfl (Y_move rfl rfl) ?_; clear hf; intro a hf
 refine sY hf hs rfl rfl rfl (Y_lenH rfl rfl el23 rfl) ?_; clear hf; intro a hf
 refine sY hf hs rfl rfl rfl (Y_lss rfl rfl rfl) ?_; clear hf; intro a hf
 refine wpO_nil ?_
 refine wpL_cond hf rfl (fun hb1 => ?_) (fun hb1 => ?_)
 ·have hm := bif_t hm hb1
  cases hm
 ·have hm := bif_f hm hb1
  refine wpL_skip <| wpL_seq <| wpL_region ?_
  refine sY hf hs rfl rfl rfl (Y_move rfl rfl) ?_; clear hf; intro a hf
  obtain ⟨q2, hi3, hm⟩ := bind_some hm
  obtain ⟨hi3a, hi3b, hi3q⟩ := idx_some hi3
  refine sY hf hs rfl rfl rfl (Y_index rfl rfl rfl el23 ti2 (Rd.isAt (cd.at hs) (at1 (ints_at hi3q))) hi3a hi3b) ?_; clear hf; intro a hf
  refine sY hf hs rfl rfl rfl (Y_load_rd rfl rfl (fun w hs => cd.at hs) (at1 (ints_at hi3q)) ag2) ?_; clear hf; intro a hf
  refine sY hf hs rfl rfl rfl (Y_assign rfl rfl) ?_; clear hf; intro a hf
  refine wpO_nil <| wpL_seq <| wpL_seq <| wpL_region ?_
  refine sY hf hs rfl rfl rfl (Y_assign rfl rfl) ?_; clear hf; intro a hf
  refine wpO_nil ?_
  obtain ⟨r18, hl19, hm⟩ := bind_some hm
  refine wpL_block (fun a w => ∃ x17 : Int, x17 = r18 ∧ Fr a 25 [(3, .int .i64 x17)] ∧ St [] W w []) ?_ ?_
  ·refine wpL_loop (fun n a w => ∃ x12 : Int, ∃ x13 : Int, slices_Min_int64_L1 F cJ n x12 x13 = some r18 ∧ Fr a 25 [(0, .slice cx cJ.length cL), (3, .int .i64 x12), (4, .int .i64 x13)] ∧ St [] W w []) F ?_ ?_ ?_
   ·exact ⟨q2, 1, hl19, (FrD.pick (FrD.pick (FrD.pick hf.none hf rfl) hf rfl) hf rfl), hs⟩
   ·rintro a w ⟨x12, x13, h0_, -, -⟩; simp [slices_Min_int64_L1] at h0_
   ·rintro n21 a w ⟨x12, x13, hm20, hf, hs⟩
    rw [slices_Min_int64_L1] at hm20
    refine wpL_seq <| wpL_seq <| wpL_region ?_
    refine sY hf hs rfl rfl rfl (Y_move rfl rfl) ?_; clear hf; intro a hf
    refine sY hf hs rfl rfl rfl (Y_move rfl rfl) ?_; clear hf; intro a hf
    refine sY hf hs rfl rfl rfl (Y_lenH rfl rfl el23 rfl) ?_; clear hf; intro a hf
    refine sY hf hs rfl rfl rfl (Y_lss rfl rfl rfl) ?_; clear hf; intro a hf
    refine wpO_nil ?_
    refine wpL_cond hf rfl (fun hb22 => ?_) (fun hb22 => ?_)
    ·have hm20 := bif_t hm20 hb22
     refine wpL_skip <| wpL_seq <| wpL_block0 <| wpL_region ?_
     refine sY hf hs rfl rfl rfl (Y_move rfl rfl) ?_; clear hf; intro a hf
     refine sY hf hs rfl rfl rfl (Y_move rfl rfl) ?_; clear hf; intro a hf
     refine sY hf hs rfl rfl rfl (Y_move rfl rfl) ?_; clear hf; intro a hf
     obtain ⟨q23, hi24, hm20⟩ := bind_some hm20
     obtain ⟨hi24a, hi24b, hi24q⟩ := idx_some hi24
     refine sY hf hs rfl rfl rfl (Y_index rfl rfl rfl el23 ti2 (Rd.isAt (cd.at hs) (at1 (ints_at hi24q))) hi24a hi24b) ?_; clear hf; intro a hf
     refine sY hf hs rfl rfl rfl (Y_load_rd rfl rfl (fun w hs => cd.at hs) (at1 (ints_at hi24q)) ag2) ?_; clear hf; intro a hf
     refine sY hf hs rfl rfl rfl (Y_min rfl rfl rfl) ?_; clear hf; intro a hf
     refine sY hf hs rfl rfl rfl (Y_assign rfl rfl) ?_; clear hf; intro a hf
     refine wpO_nil ?_
     refine wpL_nil (Qb_normal ?_)
     refine wpL_region ?_
     refine sY hf hs rfl rfl rfl (Y_move rfl rfl) ?_; clear hf; intro a hf
     refine sY hf hs rfl rfl rfl (Y_add rfl rfl rfl) ?_; clear hf; intro a hf
     refine sY hf hs rfl rfl rfl (Y_assign rfl rfl) ?_; clear hf; intro a hf
     refine wpO_nil ?_
     refine wpL_nil (Ql_normal ?_)
     exact ⟨(min x12 q23), (IntKind.i64.wrap (x13 + 1)), hm20, (FrD.pick (FrD.pick (FrD.pick hf.none hf rfl) hf rfl) hf rfl), hs⟩
    ·have hm20 := bif_f hm20 hb22
     refine wpL_exit (Ql_exit (Qb_exit ?_))
     exact ⟨x12, Option.some.inj hm20, (FrD.pick hf.none hf rfl), hs⟩
  ·rintro a w ⟨x17, hr_, hf, hs⟩
   subst hr_
   try dsimp only at hm
   refine wpL_seq <| wpL_region ?_
   refine sY hf hs rfl rfl rfl (Y_move rfl rfl) ?_; clear hf; intro a hf
   refine sY hf hs rfl rfl rfl (Y_assign rfl rfl) ?_; clear hf; intro a hf
   refine wpO_nil ?_
   obtain rfl := Option.some.inj hm
   refine wpL_ret (ret_tmp rfl hf rfl ?_)
   exact ⟨_, rfl, rfl, hs⟩

set_option maxRecDepth 100000 in
theorem impl_CanMeet_ok (F : Nat) (ae : GEventGraph) (ad : Option Addr) (ao af : Nat) (au : ao = ae.Places.length) (al : List (List Int)) (ak : Option Addr) (ax am : Nat) (aE : ax = al.length) (r : Bool × Int) (W : World) (hm : impl_CanMeet F ae al = some r) (ap : Rd W ad ((recs GPlace.cells) ae.Places)) (aB : RdM W ak al) :
  Calls Try.prog 48 [.agg #[.int .i64 ae.Events, .slice ad ao af], .slice ak ax am].toArray W fun e w' => ∃ v, e = .returned v ∧ v = .tuple #[.bool r.1, .int .i64 r.2] ∧ St [] W w' [] := by
 subst au
 subst aE
 unfold impl_CanMeet at hm
 refine Calls.enter (N := 27) Try.func48 rfl rfl rfl (fun a hf => ?_)
 have hs := St.start W
 obtain ⟨w, hw_⟩ : ∃ w, w = W := ⟨W, rfl⟩
 clear hw_ w
 refine wpL_seq <| wpL_region ?_
 refine sBox hf hs rfl rfl rfl rfl rfl (cs := [.int .i64 ae.Events, .slice ad ae.Places.length af]) rfl ?_; clear hf hs; intro a w b1 hs hf
 have hs : St [] W w [.blk b1 52 [.int .i64 ae.Events, .slice ad ae.Places.length af]] := hs
 refine sY hf hs rfl rfl rfl (Y_assign rfl rfl) ?_; clear hf; intro a hf
 refine sY hf hs rfl rfl rfl (Y_assign rfl rfl) ?_; clear hf; intro a hf
 refine wpO_nil <| wpL_seq <| wpL_seq <| wpL_region ?_
 refine sY hf hs rfl rfl rfl (Y_load_blkS rfl rfl (i := 0) rfl ag52 ti52 rfl) ?_; clear hf; intro a hf
 refine sY hf hs rfl rfl rfl (Y_move rfl rfl) ?_; clear hf; intro a hf
 obtain ⟨r2, hc3, hm⟩ := bind_some hm
 refine sCall hf rfl rfl rfl rfl (cap := []) rfl rfl en97 (impl_checkDue_ok F ae ad ae.Places.length af rfl al ak al.length am rfl _ _ hc3 (ap.at hs) (aB.at hs)) ?_; clear hf
 rintro _ w ⟨rfl, hs1⟩ a hf
 have hs : St [] W w [.blk b1 52 [.int .i64 ae.Events, .slice ad ae.Places.length af]] := hs.ext hs1.below
 clear hs1
 refine sY hf hs rfl rfl rfl (Y_assign rfl rfl) ?_; clear hf; intro a hf
 refine wpO_nil <| wpL_seq <| wpL_region ?_
 refine sY hf hs rfl rfl rfl (Y_move rfl rfl) ?_; clear hf; intro a hf
 refine sY hf hs rfl rfl rfl (Y_neq rfl rfl rfl) ?_; clear hf; intro a hf
 refine wpO_nil ?_
 refine wpL_cond hf rfl (fun hb4 => ?_) (fun hb4 => ?_)
 ·have hm := bif_t hm hb4
  refine wpL_seq <| wpL_region ?_
  refine sY hf hs rfl rfl rfl (Y_move rfl rfl) ?_; clear hf; intro a hf
  refine sY hf hs rfl rfl rfl (Y_assign rfl rfl) ?_; clear hf; intro a hf
  refine sY hf hs rfl rfl rfl (Y_assign rfl rfl) ?_; clear hf; intro a hf
  refine wpO_nil ?_
  obtain rfl := Option.some.inj hm
  refine wpL_ret (ret_tmp2 rfl hf rfl rfl ?_)
  exact ⟨_, rfl, rfl, hs.sel [] (by decide)⟩
 ·have hm := bif_f hm hb4
  refine wpL_skip <| wpL_seq <| wpL_seq <| wpL_region ?_
  refine sY hf hs rfl rfl rfl (Y_load_blkS rfl rfl (i := 0) rfl ag52 ti52 rfl) ?_; clear hf; intro a hf
  refine sY hf hs rfl rfl rfl (Y_move rfl rfl) ?_; clear hf; intro a hf
  obtain ⟨r5, hc6, hm⟩ := bind_some hm
  refine sCall hf rfl rfl rfl rfl (cap := []) rfl rfl en98 (impl_floatsOf_ok F ae ad ae.Places.length af rfl al ak al.length am rfl _ _ hc6 (ap.at hs) (aB.at hs)) ?_; clear hf
  rintro _ w ⟨A7, n8, c9, vs11, rfl, hn10, hs1⟩ a hf
  have hs : St [] W w [.blk b1 52 [.int .i64 ae.Events, .slice ad ae.Places.length af], .mat A7 n8 c9 23 2 vs11 r5] := hs.join hs1
  clear hs1
  refine sY hf hs rfl rfl rfl (Y_lenH rfl rfl el59 hn10) ?_; clear hf; intro a hf
  refine sY hf hs rfl rfl rfl (Y_move rfl rfl) ?_; clear hf; intro a hf
  refine wpO_nil ?_
  obtain ⟨r41, hl42, hm⟩ := bind_some hm
  refine wpL_block (fun a w => Sum.inr () = r41 ∧ Fr a 27 [] ∧ St [] W w []) ?_ ?_
  ·refine wpL_loop (fun n a w => ∃ x31 : Int, impl_CanMeet_L1 F r5 n x31 = some r41 ∧ Fr a 27 [(17, .slice A7 n8 c9), (18, .int .i64 (r5.length : Int)), (19, .int .i64 x31)] ∧ St [] W w [.mat A7 n8 c9 23 2 vs11 r5]) F ?_ ?_ ?_
   ·exact ⟨0, hl42, (FrD.pick (FrD.pick (FrD.pick hf.none hf rfl) hf rfl) hf rfl), hs.sel [1] (by decide)⟩
   ·rintro a w ⟨x31, h0_, -, -⟩; simp [impl_CanMeet_L1] at h0_
   ·rintro n44 a w ⟨x31, hm43, hf, hs⟩
    rw [impl_CanMeet_L1] at hm43
    refine wpL_seq <| wpL_region ?_
    refine sY hf hs rfl rfl rfl (Y_lss rfl rfl rfl) ?_; clear hf; intro a hf
    refine wpO_nil <| wpL_seq ?_
    refine wpL_cond hf rfl (fun hb45 => ?_) (fun hb45 => ?_)
    ·have hm43 := bif_t hm43 hb45
     refine wpL_skip <| wpL_seq <| wpL_block0 <| wpL_seq <| wpL_region ?_
     obtain ⟨q46, hi47, hm43⟩ := bind_some hm43
     obtain ⟨hi47a, hi47b, hi47q⟩ := idx_some hi47
     obtain ⟨A48, c49, hv50⟩ := hs.matRow (i := 0) rfl hi47q
     refine sY hf hs rfl rfl rfl (Y_index rfl rfl rfl el59 ti23 (Rd.isAt (hs.rdV (i := 0) rfl) hv50) hi47a (ltn hn10 hi47b)) ?_; clear hf; intro a hf
     refine sY hf hs rfl rfl rfl (Y_load_rd rfl rfl (fun w hs => hs.rdV (i := 0) rfl) (at1 hv50) ag23) ?_; clear hf; intro a hf
     refine sY hf hs rfl rfl rfl (Y_assign rfl rfl) ?_; clear hf; intro a hf
     refine wpO_nil <| wpL_seq <| wpL_region ?_
     refine sY hf hs rfl rfl rfl (Y_move rfl rfl) ?_; clear hf; intro a hf
     obtain ⟨r51, hc52, hm43⟩ := bind_some hm43
     refine sCall hf rfl rfl rfl rfl (cap := []) rfl rfl en99 (slices_Min_int64_ok F q46 A48 q46.length c49 rfl _ _ hc52 (hs.rdRow (i := 0) rfl ⟨hi47q, hv50⟩)) ?_; clear hf
     rintro _ w ⟨rfl, hs1⟩ a hf
     have hs : St [] W w [.mat A7 n8 c9 23 2 vs11 r5] := hs.ext hs1.below
     clear hs1
     refine sY hf hs rfl rfl rfl (Y_lss rfl rfl rfl) ?_; clear hf; intro a hf
     refine wpO_nil ?_
     refine wpL_cond hf rfl (fun hb53 => ?_) (fun hb53 => ?_)
     ·have hm43 := bif_t hm43 hb53
      refine wpL_seq <| wpL_region ?_
      refine sY hf hs rfl rfl rfl (Y_assign rfl rfl) ?_; clear hf; intro a hf
      refine sY hf hs rfl rfl rfl (Y_assign rfl rfl) ?_; clear hf; intro a hf
      refine wpO_nil ?_
      obtain rfl := Option.some.inj hm43
      try dsimp only at hm
      obtain rfl := Option.some.inj hm
      refine wpL_ret (Qb_ret (Ql_ret (Qb_ret (ret_tmp2 rfl hf rfl rfl ?_))))
      exact ⟨_, rfl, rfl, hs.sel [] (by decide)⟩
     ·have hm43 := bif_f hm43 hb53
      refine wpL_skip ?_
      refine wpL_nil (Qb_normal ?_)
      refine wpL_region ?_
      refine sY hf hs rfl rfl rfl (Y_add rfl rfl rfl) ?_; clear hf; intro a hf
      refine sY hf hs rfl rfl rfl (Y_move rfl rfl) ?_; clear hf; intro a hf
      refine wpO_nil ?_
      refine wpL_nil (Ql_normal ?_)
      exact ⟨(IntKind.i64.wrap (x31 + 1)), hm43, (FrD.pick (FrD.pick (FrD.pick hf.none hf rfl) hf rfl) hf rfl), hs⟩
    ·have hm43 := bif_f hm43 hb45
     refine wpL_exit (Ql_exit (Qb_exit ?_))
     exact ⟨Option.some.inj hm43, hf.none, hs.sel [] (by decide)⟩
  ·rintro a w ⟨hr_, hf, hs⟩
   subst hr_
   try dsimp only at hm
   refine wpL_seq <| wpL_region ?_
   refine sY hf hs rfl rfl rfl (Y_assign rfl rfl) ?_; clear hf; intro a hf
   refine sY hf hs rfl rfl rfl (Y_assign rfl rfl) ?_; clear hf; intro a hf
   refine wpO_nil ?_
   obtain rfl := Option.some.inj hm
   refine wpL_ret (ret_tmp2 rfl hf rfl rfl ?_)
   exact ⟨_, rfl, rfl, hs⟩

set_option maxRecDepth 100000 in
theorem spec_l01Within_ok (F : Nat) (aO : List Int) (aN : Option Addr) (aW aX : Nat) (bp : aW = aO.length) (cr : Int) (cn : Int) (bX : Int) (r : Bool) (W : World) (hm : spec_l01Within F aO cr cn bX = some r) (bc : Rd W aN (ints aO)) :
  Calls Try.prog 138 [.slice aN aW aX, .int .i64 cr, .int .i64 cn, .int .i64 bX].toArray W fun e w' => ∃ v, e = .returned v ∧ v = .bool r ∧ St [] W w' [] := by
 subst bp
 unfold spec_l01Within at hm
 refine Calls.enter (N := 28) Try.func138 rfl rfl rfl (fun a hf => ?_)
 have hs := St.start W
 obtain ⟨w, hw_⟩ : ∃ w, w = W := ⟨W, rfl⟩
 clear hw_ w
 refine wpL_seq <| wpL_region ?_
 refine sY hf hs rfl rfl rfl (Y_assign rfl rfl) ?_; clear hf; intro a hf
 refine wpO_nil <| wpL_seq <| wpL_seq <| wpL_region ?_
 refine sY hf hs rfl rfl rfl (Y_assign rfl rfl) ?_; clear hf; intro a hf
 refine wpO_nil ?_
 obtain ⟨r21, hl22, hm⟩ := bind_some hm
 refine wpL_block (fun a w => Sum.inr () = r21 ∧ Fr a 28 [(0, .slice aN aO.length aX), (1, .int .i64 cr)] ∧ St [] W w []) ?_ ?_
 ·refine wpL_loop (fun n a w => ∃ x14 : Int, spec_l01Within_L1 F aO cn bX n x14 = some r21 ∧ Fr a 28 [(0, .slice aN aO.length aX), (1, .int .i64 cr), (2, .int .i64 cn), (3, .int .i64 bX), (9, .int .i64 x14)] ∧ St [] W w []) F ?_ ?_ ?_
  ·exact ⟨0, hl22, (FrD.pick (FrD.pick (FrD.pick (FrD.pick (FrD.pick hf.none hf rfl) hf rfl) hf rfl) hf rfl) hf rfl), hs⟩
  ·rintro a w ⟨x14, h0_, -, -⟩; simp [spec_l01Within_L1] at h0_
  ·rintro n24 a w ⟨x14, hm23, hf, hs⟩
   rw [spec_l01Within_L1] at hm23
   refine wpL_seq <| wpL_seq <| wpL_region ?_
   refine sY hf hs rfl rfl rfl (Y_move rfl rfl) ?_; clear hf; intro a hf
   refine sY hf hs rfl rfl rfl (Y_move rfl rfl) ?_; clear hf; intro a hf
   refine sY hf hs rfl rfl rfl (Y_lenH rfl rfl el23 rfl) ?_; clear hf; intro a hf
   refine sY hf hs rfl rfl rfl (Y_lss rfl rfl rfl) ?_; clear hf; intro a hf
   refine wpO_nil ?_
   refine wpL_cond hf rfl (fun hb25 => ?_) (fun hb25 => ?_)
   ·have hm23 := bif_t hm23 hb25
    refine wpL_skip <| wpL_seq <| wpL_block0 <| wpL_seq <| wpL_region ?_
    refine sY hf hs rfl rfl rfl (Y_move rfl rfl) ?_; clear hf; intro a hf
    refine sY hf hs rfl rfl rfl (Y_move rfl rfl) ?_; clear hf; intro a hf
    obtain ⟨q26, hi27, hm23⟩ := bind_some hm23
    obtain ⟨hi27a, hi27b, hi27q⟩ := idx_some hi27
    refine sY hf hs rfl rfl rfl (Y_index rfl rfl rfl el23 ti2 (Rd.isAt (bc.at hs) (at1 (ints_at hi27q))) hi27a hi27b) ?_; clear hf; intro a hf
    refine sY hf hs rfl rfl rfl (Y_load_rd rfl rfl (fun w hs => bc.at hs) (at1 (ints_at hi27q)) ag2) ?_; clear hf; intro a hf
    refine sY hf hs rfl rfl rfl (Y_move rfl rfl) ?_; clear hf; intro a hf
    refine sY hf hs rfl rfl rfl (Y_move rfl rfl) ?_; clear hf; intro a hf
    obtain ⟨r28, hc29, hm23⟩ := bind_some hm23
    refine sCall hf rfl rfl rfl rfl (cap := []) rfl rfl en89 (spec_l01In_ok F q26 cn bX _ _ hc29) ?_; clear hf
    rintro _ w ⟨rfl, hs1⟩ a hf
    have hs : St [] W w [] := hs.ext hs1.below
    clear hs1
    refine sY hf hs rfl rfl rfl (Y_not rfl rfl) ?_; clear hf; intro a hf
    refine wpO_nil ?_
    refine wpL_cond hf rfl (fun hb30 => ?_) (fun hb30 => ?_)
    ·have hm23 := bif_t hm23 hb30
     refine wpL_seq <| wpL_region ?_
     refine sY hf hs rfl rfl rfl (Y_assign rfl rfl) ?_; clear hf; intro a hf
     refine wpO_nil ?_
     obtain rfl := Option.some.inj hm23
     try dsimp only at hm
     obtain rfl := Option.some.inj hm
     refine wpL_ret (Qb_ret (Ql_ret (Qb_ret (ret_tmp rfl hf rfl ?_))))
     exact ⟨_, rfl, rfl, hs⟩
    ·have hm23 := bif_f hm23 hb30
     refine wpL_skip ?_
     refine wpL_nil (Qb_normal ?_)
     refine wpL_region ?_
     refine sY hf hs rfl rfl rfl (Y_move rfl rfl) ?_; clear hf; intro a hf
     refine sY hf hs rfl rfl rfl (Y_add rfl rfl rfl) ?_; clear hf; intro a hf
     refine sY hf hs rfl rfl rfl (Y_assign rfl rfl) ?_; clear hf; intro a hf
     refine wpO_nil ?_
     refine wpL_nil (Ql_normal ?_)
     exact ⟨(IntKind.i64.wrap (x14 + 1)), hm23, (FrD.pick (FrD.pick (FrD.pick (FrD.pick (FrD.pick hf.none hf rfl) hf rfl) hf rfl) hf rfl) hf rfl), hs⟩
   ·have hm23 := bif_f hm23 hb25
    refine wpL_exit (Ql_exit (Qb_exit ?_))
    exact ⟨Option.some.inj hm23, (FrD.pick (FrD.pick hf.none hf rfl) hf rfl), hs⟩
 ·rintro a w ⟨hr_, hf, hs⟩
  subst hr_
  try dsimp only at hm
  refine wpL_seq <| wpL_region ?_
  refine sY hf hs rfl rfl rfl (Y_move rfl rfl) ?_; clear hf; intro a hf
  refine sY hf hs rfl rfl rfl (Y_lenH rfl rfl el23 rfl) ?_; clear hf; intro a hf
  refine sY hf hs rfl rfl rfl (Y_move rfl rfl) ?_; clear hf; intro a hf
  refine sY hf hs rfl rfl rfl (Y_leq rfl rfl rfl) ?_; clear hf; intro a hf
  refine sY hf hs rfl rfl rfl (Y_assign rfl rfl) ?_; clear hf; intro a hf
  refine wpO_nil ?_
  obtain rfl := Option.some.inj hm
  refine wpL_ret (ret_tmp rfl hf rfl ?_)
  exact ⟨_, rfl, rfl, hs⟩

set_option maxRecDepth 100000 in
theorem spec_l22Due_ok (F : Nat) (ae : GEventGraph) (ad : Option Addr) (ao af : Nat) (au : ao = ae.Places.length) (al : List (List Int)) (ak : Option Addr) (ax am : Nat) (aE : ax = al.length) (r : Bool) (W : World) (hm : spec_l22Due F ae al = some r) (_h_p0_g_1 : Rd W ad ((recs GPlace.cells) ae.Places)) (aB : RdM W ak al) :
  Calls Try.prog 105 [.agg #[.int .i64 ae.Events, .slice ad ao af], .slice ak ax am].toArray W fun e w' => ∃ v, e = .returned v ∧ v = .bool r ∧ St [] W w' [] := by
 subst au
 subst aE
 unfold spec_l22Due at hm
 refine Calls.enter (N := 31) Try.func105 rfl rfl rfl (fun a hf => ?_)
 have hs := St.start W
 obtain ⟨w, hw_⟩ : ∃ w, w = W := ⟨W, rfl⟩
 clear hw_ w
 refine wpL_seq <| wpL_region ?_
 refine sBox hf hs rfl rfl rfl rfl rfl (cs := [.int .i64 ae.Events, .slice ad ae.Places.length af]) rfl ?_; clear hf hs; intro a w b1 hs hf
 have hs : St [] W w [.blk b1 52 [.int .i64 ae.Events, .slice ad ae.Places.length af]] := hs
 refine sY hf hs rfl rfl rfl (Y_assign rfl rfl) ?_; clear hf; intro a hf
 refine wpO_nil <| wpL_seq <| wpL_seq <| wpL_region ?_
 refine sY hf hs rfl rfl rfl (Y_assign rfl rfl) ?_; clear hf; intro a hf
 refine wpO_nil ?_
 obtain ⟨r145, hl146, hm⟩ := bind_some hm
 refine wpL_block (fun a w => Sum.inr () = r145 ∧ Fr a 31 [(1, .slice ak al.length am)] ∧ St [] W w []) ?_ ?_
 ·refine wpL_loop (fun n a w => ∃ x97 : Int, spec_l22Due_L1 F ae al n x97 = some r145 ∧ Fr a 31 [(1, .slice ak al.length am), (2, .pointer (some ⟨b1, 0, none⟩)), (5, .int .i64 x97)] ∧ St [] W w [.blk b1 52 [.int .i64 ae.Events, .slice ad ae.Places.length af]]) F ?_ ?_ ?_
  ·exact ⟨0, hl146, (FrD.pick (FrD.pick (FrD.pick hf.none hf rfl) hf rfl) hf rfl), hs⟩
  ·rintro a w ⟨x97, h0_, -, -⟩; simp [spec_l22Due_L1] at h0_
  ·rintro n148 a w ⟨x97, hm147, hf, hs⟩
   rw [spec_l22Due_L1] at hm147
   refine wpL_seq <| wpL_seq <| wpL_region ?_
   refine sY hf hs rfl rfl rfl (Y_move rfl rfl) ?_; clear hf; intro a hf
   refine sY hf hs rfl rfl rfl (Y_move rfl rfl) ?_; clear hf; intro a hf
   refine sY hf hs rfl rfl rfl (Y_lenH rfl rfl el59 rfl) ?_; clear hf; intro a hf
   refine sY hf hs rfl rfl rfl (Y_lss rfl rfl rfl) ?_; clear hf; intro a hf
   refine wpO_nil ?_
   refine wpL_cond hf rfl (fun hb149 => ?_) (fun hb149 => ?_)
   ·have hm147 := bif_t hm147 hb149
    refine wpL_skip <| wpL_seq <| wpL_block0 <| wpL_seq ?_
    obtain ⟨r172, hj173, hm147⟩ := bind_some hm147
    refine wpL_cut (fun a w => ∃ b171 : Bool, b171 = r172 ∧ Fr a 31 [(1, .slice ak al.length am), (2, .pointer (some ⟨b1, 0, none⟩)), (5, .int .i64 x97), (27, .bool b171)] ∧ St [] W w [.blk b1 52 [.int .i64 ae.Events, .slice ad ae.Places.length af]]) ?_ ?_
    ·refine wpL_draw (by kernel_rfl) (by kernel_rfl) hs ?_
     refine qY hf rfl rfl rfl (Y_move rfl rfl) ?_; clear hf; intro a hf
     refine qY hf rfl rfl rfl (Y_move rfl rfl) ?_; clear hf; intro a hf
     obtain ⟨q174, hi175, hj173⟩ := bind_some hj173
     obtain ⟨hi175a, hi175b, hi175q⟩ := idx_some hi175
     obtain ⟨vs176, hv177, hr178⟩ := id aB
     obtain ⟨A179, c180, hv181, hR182⟩ := hr178 _ _ hi175q
     refine qY hf rfl rfl rfl (Y_index rfl rfl rfl el59 ti23 (Rd.isAt hv177 hv181) hi175a hi175b) ?_; clear hf; intro a hf
     refine qY hf rfl rfl rfl (Y_load_rd rfl rfl (fun w hs => hv177.at hs) (at1 hv181) ag23) ?_; clear hf; intro a hf
     refine qY hf rfl rfl rfl (Y_lenH rfl rfl el23 rfl) ?_; clear hf; intro a hf
     refine qY hf rfl rfl rfl (Y_fieldAddr rfl rfl fo52_0) ?_; clear hf; intro a hf
     refine qY hf rfl rfl rfl (Y_load_blk rfl rfl (i := 0) rfl rfl ag2) ?_; clear hf; intro a hf
     refine qY hf rfl rfl rfl (Y_neq rfl rfl rfl) ?_; clear hf; intro a hf
     refine qY hf rfl rfl rfl (Y_move rfl rfl) ?_; clear hf; intro a hf
     refine bsplit ((q174.length : Int) != ae.Events) (fun hb183 => ?_) (fun hb183 => ?_)
     ·have hj173 := bif_t hj173 hb183
      refine qNo hf rfl rfl rfl (congrArg (fun b => some (Value.bool b)) hb183) rfl rfl rfl ?_; clear hf; intro a hf
      refine qNo hf rfl rfl rfl (congrArg (fun b => some (Value.bool b)) hb183) rfl rfl rfl ?_; clear hf; intro a hf
      refine qNo hf rfl rfl rfl (congrArg (fun b => some (Value.bool b)) hb183) rfl rfl rfl ?_; clear hf; intro a hf
      refine qNo hf rfl rfl rfl (congrArg (fun b => some (Value.bool b)) hb183) rfl rfl rfl ?_; clear hf; intro a hf
      refine qNo hf rfl rfl rfl (congrArg (fun b => some (Value.bool b)) hb183) rfl rfl rfl ?_; clear hf; intro a hf
      refine qNo hf rfl rfl rfl (congrArg (fun b => some (Value.bool b)) hb183) rfl rfl rfl ?_; clear hf; intro a hf
      refine qY hf rfl rfl rfl (Y_pickT rfl (congrArg (fun b => some (Value.bool b)) hb183) rfl) ?_; clear hf; intro a hf
      refine qNil ?_; clear hs; intro w hs
      refine wpL_nil (then_normal ?_)
      exact ⟨true, Option.some.inj hj173, (FrD.pick (FrD.pick (FrD.pick (FrD.pick hf.none hf rfl) hf rfl) hf rfl) hf rfl), hs⟩
     ·have hj173 := bif_f hj173 hb183
      refine qYg hf rfl rfl rfl (congrArg (fun b => some (Value.bool b)) hb183) rfl rfl rfl (Y_move rfl rfl) ?_; clear hf; intro a hf
      refine qYg hf rfl rfl rfl (congrArg (fun b => some (Value.bool b)) hb183) rfl rfl rfl (Y_move rfl rfl) ?_; clear hf; intro a hf
      obtain ⟨q184, hi185, hj173⟩ := bind_some hj173
      obtain ⟨hi185a, hi185b, hi185q⟩ := idx_some hi185
      obtain ⟨vs186, hv187, hr188⟩ := id aB
      obtain ⟨A189, c190, hv191, hR192⟩ := hr188 _ _ hi185q
      refine qYg hf rfl rfl rfl (congrArg (fun b => some (Value.bool b)) hb183) rfl rfl rfl (Y_index rfl rfl rfl el59 ti23 (Rd.isAt hv187 hv191) hi185a hi185b) ?_; clear hf; intro a hf
      refine qYg hf rfl rfl rfl (congrArg (fun b => some (Value.bool b)) hb183) rfl rfl rfl (Y_load_rd rfl rfl (fun w hs => hv187.at hs) (at1 hv191) ag23) ?_; clear hf; intro a hf
      obtain ⟨r193, hc194, hj173⟩ := bind_some hj173
      refine qCallg hf rfl rfl rfl (congrArg (fun b => some (Value.bool b)) hb183) rfl rfl rfl rfl (cap := []) rfl rfl en138 (v := .bool r193) (fun w hs => Calls.scal (spec_l01Within_ok F q184 A189 q184.length c190 rfl 10 0 1000000 _ _ hc194 (hR192.at hs))) ?_; clear hf; intro a hf
      refine qYg hf rfl rfl rfl (congrArg (fun b => some (Value.bool b)) hb183) rfl rfl rfl (Y_not rfl rfl) ?_; clear hf; intro a hf
      refine qY hf rfl rfl rfl (Y_pickF rfl (congrArg (fun b => some (Value.bool b)) hb183) rfl) ?_; clear hf; intro a hf
      refine qNil ?_; clear hs; intro w hs
      refine wpL_nil (then_normal ?_)
      exact ⟨(!r193), Option.some.inj hj173, (FrD.pick (FrD.pick (FrD.pick (FrD.pick hf.none hf rfl) hf rfl) hf rfl) hf rfl), hs⟩
    ·rintro a w ⟨b171, hr_, hf, hs⟩
     subst hr_
     try dsimp only at hm147
     refine wpL_cond hf rfl (fun hb195 => ?_) (fun hb195 => ?_)
     ·have hm147 := bif_t hm147 hb195
      refine wpL_seq <| wpL_region ?_
      refine sY hf hs rfl rfl rfl (Y_assign rfl rfl) ?_; clear hf; intro a hf
      refine wpO_nil ?_
      obtain rfl := Option.some.inj hm147
      try dsimp only at hm
      obtain rfl := Option.some.inj hm
      refine wpL_ret (Qb_ret (Ql_ret (Qb_ret (ret_tmp rfl hf rfl ?_))))
      exact ⟨_, rfl, rfl, hs.sel [] (by decide)⟩
     ·have hm147 := bif_f hm147 hb195
      refine wpL_skip ?_
      refine wpL_nil (Qb_normal ?_)
      refine wpL_region ?_
      refine sY hf hs rfl rfl rfl (Y_move rfl rfl) ?_; clear hf; intro a hf
      refine sY hf hs rfl rfl rfl (Y_add rfl rfl rfl) ?_; clear hf; intro a hf
      refine sY hf hs rfl rfl rfl (Y_assign rfl rfl) ?_; clear hf; intro a hf
      refine wpO_nil ?_
      refine wpL_nil (Ql_normal ?_)
      exact ⟨(IntKind.i64.wrap (x97 + 1)), hm147, (FrD.pick (FrD.pick (FrD.pick hf.none hf rfl) hf rfl) hf rfl), hs⟩
   ·have hm147 := bif_f hm147 hb149
    refine wpL_exit (Ql_exit (Qb_exit ?_))
    exact ⟨Option.some.inj hm147, (FrD.pick hf.none hf rfl), hs.sel [] (by decide)⟩
 ·rintro a w ⟨hr_, hf, hs⟩
  subst hr_
  try dsimp only at hm
  refine wpL_seq <| wpL_region ?_
  refine sY hf hs rfl rfl rfl (Y_move rfl rfl) ?_; clear hf; intro a hf
  refine sY hf hs rfl rfl rfl (Y_lenH rfl rfl el59 rfl) ?_; clear hf; intro a hf
  refine sY hf hs rfl rfl rfl (Y_leq rfl rfl rfl) ?_; clear hf; intro a hf
  refine sY hf hs rfl rfl rfl (Y_assign rfl rfl) ?_; clear hf; intro a hf
  refine wpO_nil ?_
  obtain rfl := Option.some.inj hm
  refine wpL_ret (ret_tmp rfl hf rfl ?_)
  exact ⟨_, rfl, rfl, hs⟩

set_option maxRecDepth 100000 in
theorem spec_l02Own_ok (F : Nat) (aY : List (List Int)) (aP : Option Addr) (bg aZ : Nat) (bt : bg = aY.length) (r : List (List Int)) (W : World) (hm : spec_l02Own F aY = some r) (bu : RdM W aP aY) :
  Calls Try.prog 164 [.slice aP bg aZ].toArray W fun e w' => ∃ v, e = .returned v ∧ ∃ A124, ∃ n125, ∃ c126, ∃ vs128, v = .slice A124 n125 c126 ∧ n125 = r.length ∧ St [] W w' [.mat A124 n125 c126 23 2 vs128 r] := by
 subst bt
 unfold spec_l02Own at hm
 refine Calls.enter (N := 21) Try.func164 rfl rfl rfl (fun a hf => ?_)
 have hs := St.start W
 obtain ⟨w, hw_⟩ : ∃ w, w = W := ⟨W, rfl⟩
 clear hw_ w
 refine wpL_seq <| wpL_region ?_
 refine sY hf hs rfl rfl rfl (Y_assign rfl rfl) ?_; clear hf; intro a hf
 refine wpO_nil <| wpL_seq <| wpL_region ?_
 refine sEmptyM 2 hf hs rfl rfl rfl rfl el59 ti23 rfl ?_; clear hf hs; intro a w A1 hs hf
 have hs : St [] W w [.mat A1 0 0 23 2 [] []] := hs
 refine sY hf hs rfl rfl rfl (Y_assign rfl rfl) ?_; clear hf; intro a hf
 refine wpO_nil <| wpL_seq <| wpL_seq <| wpL_region ?_
 refine sY hf hs rfl rfl rfl (Y_assign rfl rfl) ?_; clear hf; intro a hf
 refine wpO_nil ?_
 obtain ⟨r96, hl97, hm⟩ := bind_some hm
 refine wpL_block (fun a w => ∃ ms90 : List (List Int), ∃ A91, ∃ n92, ∃ c93, ∃ vs95, ms90 = r96 ∧ n92 = ms90.length ∧ Fr a 21 [(3, .slice A91 n92 c93)] ∧ St [] W w [.mat A91 n92 c93 23 2 vs95 ms90]) ?_ ?_
 ·refine wpL_loop (fun n a w => ∃ ms59 : List (List Int), ∃ x65 : Int, ∃ A60, ∃ n61, ∃ c62, ∃ vs64, spec_l02Own_L1 F aY n ms59 x65 = some r96 ∧ n61 = ms59.length ∧ Fr a 21 [(0, .slice aP aY.length aZ), (3, .slice A60 n61 c62), (4, .int .i64 x65)] ∧ St [] W w [.mat A60 n61 c62 23 2 vs64 ms59]) F ?_ ?_ ?_
  ·exact ⟨[], 0, A1, 0, 0, [], hl97, rfl, (FrD.pick (FrD.pick (FrD.pick hf.none hf rfl) hf rfl) hf rfl), hs⟩
  ·rintro a w ⟨ms59, x65, A60, n61, c62, vs64, h0_, -, -, -⟩; simp [spec_l02Own_L1] at h0_
  ·rintro n99 a w ⟨ms59, x65, A60, n61, c62, vs64, hm98, hn63, hf, hs⟩
   rw [spec_l02Own_L1] at hm98
   refine wpL_seq <| wpL_seq <| wpL_region ?_
   refine sY hf hs rfl rfl rfl (Y_move rfl rfl) ?_; clear hf; intro a hf
   refine sY hf hs rfl rfl rfl (Y_move rfl rfl) ?_; clear hf; intro a hf
   refine sY hf hs rfl rfl rfl (Y_lenH rfl rfl el59 rfl) ?_; clear hf; intro a hf
   refine sY hf hs rfl rfl rfl (Y_lss rfl rfl rfl) ?_; clear hf; intro a hf
   refine wpO_nil ?_
   refine wpL_cond hf rfl (fun hb100 => ?_) (fun hb100 => ?_)
   ·have hm98 := bif_t hm98 hb100
    refine wpL_skip <| wpL_seq <| wpL_block0 <| wpL_region ?_
    refine sY hf hs rfl rfl rfl (Y_move rfl rfl) ?_; clear hf; intro a hf
    refine sY hf hs rfl rfl rfl (Y_move rfl rfl) ?_; clear hf; intro a hf
    refine sY hf hs rfl rfl rfl (Y_move rfl rfl) ?_; clear hf; intro a hf
    obtain ⟨q101, hi102, hm98⟩ := bind_some hm98
    obtain ⟨hi102a, hi102b, hi102q⟩ := idx_some hi102
    obtain ⟨vs103, hv104, hr105⟩ := id bu
    obtain ⟨A106, c107, hv108, hR109⟩ := hr105 _ _ hi102q
    refine sY hf hs rfl rfl rfl (Y_index rfl rfl rfl el59 ti23 (Rd.isAt hv104 hv108) hi102a hi102b) ?_; clear hf; intro a hf
    refine sY hf hs rfl rfl rfl (Y_load_rd rfl rfl (fun w hs => hv104.at hs) (at1 hv108) ag23) ?_; clear hf; intro a hf
    obtain ⟨r110, hc111, hm98⟩ := bind_some hm98
    refine sCall hf rfl rfl rfl rfl (cap := []) rfl rfl en146 (spec_l01Own_ok F q101 A106 q101.length c107 rfl _ _ hc111 (hR109.at hs)) ?_; clear hf
    rintro _ w ⟨A112, n113, c114, rfl, hn115, hs1⟩ a hf
    have hs : St [] W w [.mat A60 n61 c62 23 2 vs64 ms59, .row A112 n113 c114 2 1 (ints r110)] := hs.join hs1
    clear hs1
    refine sOneM (j := 1) hf hs rfl rfl rfl rfl rfl rfl hn115 el59 ti23 ?_; clear hf hs; intro a w A116 hs hf
    have hs : St [] W w [.mat A60 n61 c62 23 2 vs64 ms59, .mat A116 1 1 23 2 ([Value.slice A112 r110.length c114]) ([r110])] := hs
    obtain ⟨ms120, ha121, hm98⟩ := bind_some hm98
    refine sAppendM (i := 0) (j := 1) hf hs rfl rfl rfl rfl rfl rfl hn63 rfl (by decide) rfl rfl (by decide) ha121 el59 ti23 rfl ?_; clear hf hs; intro a w A118 c119 hs hf
    have hs : St [] W w [.mat A118 ms120.length c119 23 2 (vs64 ++ ([Value.slice A112 r110.length c114])) ms120] := hs
    obtain ⟨hq122, hv123⟩ := hs.appended (i := 0) rfl ha121
    refine sY hf hs rfl rfl rfl (Y_assign rfl rfl) ?_; clear hf; intro a hf
    refine wpO_nil ?_
    refine wpL_nil (Qb_normal ?_)
    refine wpL_region ?_
    refine sY hf hs rfl rfl rfl (Y_move rfl rfl) ?_; clear hf; intro a hf
    refine sY hf hs rfl rfl rfl (Y_add rfl rfl rfl) ?_; clear hf; intro a hf
    refine sY hf hs rfl rfl rfl (Y_assign rfl rfl) ?_; clear hf; intro a hf
    refine wpO_nil ?_
    refine wpL_nil (Ql_normal ?_)
    exact ⟨ms120, (IntKind.i64.wrap (x65 + 1)), A118, ms120.length, c119, (vs64 ++ ([Value.slice A112 r110.length c114])), hm98, rfl, (FrD.pick (FrD.pick (FrD.pick hf.none hf rfl) hf rfl) hf rfl), hs⟩
   ·have hm98 := bif_f hm98 hb100
    refine wpL_exit (Ql_exit (Qb_exit ?_))
    exact ⟨ms59, A60, n61, c62, vs64, Option.some.inj hm98, hn63, (FrD.pick hf.none hf rfl), hs⟩
 ·rintro a w ⟨ms90, A91, n92, c93, vs95, hr_, hn94, hf, hs⟩
  subst hr_
  try dsimp only at hm
  refine wpL_seq <| wpL_region ?_
  refine sY hf hs rfl rfl rfl (Y_move rfl rfl) ?_; clear hf; intro a hf
  refine sY hf hs rfl rfl rfl (Y_assign rfl rfl) ?_; clear hf; intro a hf
  refine wpO_nil ?_
  obtain rfl := Option.some.inj hm
  refine wpL_ret (ret_tmp rfl hf rfl ?_)
  exact ⟨_, rfl, A91, n92, c93, vs95, rfl, hn94, hs⟩

end Go.Proofs.Ytebmlphobgaboaa
