/- The functions do what their models say. -/
import Derived.Test.YtebmlphobgaboabLatestLifted2
import Derived.Test.YtebmlphobgaboabRows
namespace Go.Proofs.Ytebmlphobgaboab
open Go.RowKit

set_option maxRecDepth 100000 in
theorem slices_ContainsFunc_Place_ok (F : Nat) (aK : List GPlace) (aF : Option Addr) (aR aU : Nat) (bl : aR = aK.length) (bx : GPlace → Option Bool) (bq : FuncId) (bt : List Value) (r : Bool) (W : World) (hm : slices_ContainsFunc_Place F aK bx = some r) (aZ : Rd W aF ((recs GPlace.cells) aK)) (bO : ∀ (x0 : GPlace) (r : Bool) (w : World), bx x0 = some r → Below W.heap.size W w → Calls Try.prog bq (([.agg #[.int .i64 x0.From, .int .i64 x0.To, .int .i64 x0.Delay, .int .i64 x0.Tokens]] : List Value) ++ bt).toArray w fun e w' => ∃ v, e = .returned v ∧ v = .bool r ∧ St [] w w' []) (bP : En Try.prog bq) :
  Calls Try.prog 182 [.slice aF aR aU, .func (.func bq) #[] bt.toArray].toArray W fun e w' => ∃ v, e = .returned v ∧ v = .bool r ∧ St [] W w' [] := by
 subst bl
 unfold slices_ContainsFunc_Place at hm
 refine Calls.enter (N := 9) Try.func182 rfl rfl rfl (fun a hf => ?_)
 have hs := St.start W
 obtain ⟨w, hw_⟩ : ∃ w, w = W := ⟨W, rfl⟩
 clear hw_ w
 refine wpL_seq <| wpL_region ?_
 refine sY hf hs rfl rfl rfl (Y_assign rfl rfl) ?_; clear hf; intro a hf
 refine wpO_nil <| wpL_seq <| wpL_region ?_
 refine sY hf hs rfl rfl rfl (Y_move rfl rfl) ?_; clear hf; intro a hf
 refine sY hf hs rfl rfl rfl (Y_move rfl rfl) ?_; clear hf; intro a hf
 obtain ⟨r1, hc2, hm⟩ := bind_some hm
 refine sCall hf rfl rfl rfl rfl (cap := []) rfl rfl en212 (slices_IndexFunc_Place_ok F aK aF aK.length aU rfl bx bq bt _ _ hc2 (aZ.at hs) (fun x0 r w' hm_ hb => bO x0 r w' hm_ (hs.below.trans (hb.mono hs.below.size))) bP) ?_; clear hf
 rintro _ w ⟨rfl, hs1⟩ a hf
 have hs : St _ W w [] := hs.ext hs1.below
 clear hs1
 refine sY hf hs rfl rfl rfl (Y_geq rfl rfl rfl) ?_; clear hf; intro a hf
 refine sY hf hs rfl rfl rfl (Y_assign rfl rfl) ?_; clear hf; intro a hf
 refine wpO_nil ?_
 obtain rfl := Option.some.inj hm
 refine wpL_ret (ret_tmp rfl hf rfl ?_)
 exact ⟨_, rfl, rfl, hs⟩

set_option maxRecDepth 100000 in
theorem impl_IsEventGraph_ok (F : Nat) (ae : GEventGraph) (ad : Option Addr) (ap af : Nat) (aw : ap = ae.Places.length) (r : Bool) (W : World) (hm : impl_IsEventGraph F ae = some r) (au : Rd W ad ((recs GPlace.cells) ae.Places)) :
  Calls Try.prog 110 [.agg #[.int .i64 ae.Events, .slice ad ap af]].toArray W fun e w' => ∃ v, e = .returned v ∧ v = .bool r ∧ St [] W w' [] := by
 subst aw
 unfold impl_IsEventGraph at hm
 refine Calls.enter (N := 19) Try.func110 rfl rfl rfl (fun a hf => ?_)
 have hs := St.start W
 obtain ⟨w, hw_⟩ : ∃ w, w = W := ⟨W, rfl⟩
 clear hw_ w
 refine wpL_seq <| wpL_region ?_
 refine sBox hf hs rfl rfl rfl rfl rfl (cs := [.int .i64 ae.Events, .slice ad ae.Places.length af]) rfl ?_; clear hf hs; intro a w b1 hs hf
 have hs : St _ W w [.blk b1 55 [.int .i64 ae.Events, .slice ad ae.Places.length af]] := hs
 refine sY hf hs rfl rfl rfl (Y_assign rfl rfl) ?_; clear hf; intro a hf
 refine wpO_nil <| wpL_seq ?_
 obtain ⟨r9, hj10, hm⟩ := bind_some hm
 refine wpL_cut (fun a w => ∃ b8 : Bool, b8 = r9 ∧ Fr a 19 [(2, .bool b8)] ∧ St [] W w []) ?_ ?_
 ·refine wpL_region ?_
  refine sY hf hs rfl rfl rfl (Y_fieldAddr rfl rfl fo55_0) ?_; clear hf; intro a hf
  refine sY hf hs rfl rfl rfl (Y_load_blk rfl rfl (i := 0) rfl rfl ag2) ?_; clear hf; intro a hf
  obtain ⟨r11, hc12, hj10⟩ := bind_some hj10
  refine sCall hf rfl rfl rfl rfl (cap := []) rfl rfl en71 (impl_within_ok F ae.Events 1 10 _ _ hc12) ?_; clear hf
  rintro _ w ⟨rfl, hs1⟩ a hf
  have hs : St _ W w [_] := hs.ext hs1.below
  clear hs1
  refine sY hf hs rfl rfl rfl (Y_move rfl rfl) ?_; clear hf; intro a hf
  refine bsplit r11 (fun hb13 => ?_) (fun hb13 => ?_)
  ·have hj10 := bif_t hj10 hb13
   refine sYg hf hs rfl rfl rfl (congrArg (fun b => some (Value.bool b)) hb13) rfl rfl rfl (Y_fieldAddr rfl rfl fo55_1) ?_; clear hf; intro a hf
   refine sYg hf hs rfl rfl rfl (congrArg (fun b => some (Value.bool b)) hb13) rfl rfl rfl (Y_load_blk rfl rfl (i := 0) rfl rfl ag53) ?_; clear hf; intro a hf
   refine sYg hf hs rfl rfl rfl (congrArg (fun b => some (Value.bool b)) hb13) rfl rfl rfl (Y_lenH rfl rfl el53 rfl) ?_; clear hf; intro a hf
   refine sYg hf hs rfl rfl rfl (congrArg (fun b => some (Value.bool b)) hb13) rfl rfl rfl (Y_leq rfl rfl rfl) ?_; clear hf; intro a hf
   refine sY hf hs rfl rfl rfl (Y_pickT rfl (congrArg (fun b => some (Value.bool b)) hb13) rfl) ?_; clear hf; intro a hf
   refine sY hf hs rfl rfl rfl (Y_move rfl rfl) ?_; clear hf; intro a hf
   refine bsplit (decide ((ae.Places.length : Int) ≤ 30)) (fun hb14 => ?_) (fun hb14 => ?_)
   ·have hj10 := bif_t hj10 hb14
    refine sYg hf hs rfl rfl rfl (congrArg (fun b => some (Value.bool b)) hb14) rfl rfl rfl (Y_fieldAddr rfl rfl fo55_1) ?_; clear hf; intro a hf
    refine sYg hf hs rfl rfl rfl (congrArg (fun b => some (Value.bool b)) hb14) rfl rfl rfl (Y_load_blk rfl rfl (i := 0) rfl rfl ag53) ?_; clear hf; intro a hf
    refine sYg hf hs rfl rfl rfl (congrArg (fun b => some (Value.bool b)) hb14) rfl rfl rfl (Y_makeFunc (us := []) (vs := [.pointer (some ⟨b1, 0, none⟩)]) rfl rfl rfl) ?_; clear hf; intro a hf
    obtain ⟨r15, hc16, hj10⟩ := bind_some hj10
    refine sCallg hf rfl rfl rfl (congrArg (fun b => some (Value.bool b)) hb14) rfl rfl rfl rfl (cap := []) rfl rfl en182 (slices_ContainsFunc_Place_ok F ae.Places ad ae.Places.length af rfl (fun x0 => impl_IsEventGraph_c1 F x0 ae) 183 ([.pointer (some ⟨b1, 0, none⟩)]) _ _ hc16 (au.at hs) (fun x0 r w' hm_ hb => impl_IsEventGraph_c1_ok F x0 b1 ae ad ae.Places.length af rfl r w' hm_ ((au.at hs).below hb (Nat.le_refl _)) ((hs.pb (i := 0) rfl).below hb (Nat.le_refl _))) en183) ?_; clear hf
    rintro _ w ⟨rfl, hs1⟩ a hf
    have hs : St _ W w [_] := hs.ext hs1.below
    clear hs1
    refine sYg hf hs rfl rfl rfl (congrArg (fun b => some (Value.bool b)) hb14) rfl rfl rfl (Y_not rfl rfl) ?_; clear hf; intro a hf
    refine sY hf hs rfl rfl rfl (Y_pickT rfl (congrArg (fun b => some (Value.bool b)) hb14) rfl) ?_; clear hf; intro a hf
    refine sY hf hs rfl rfl rfl (Y_assign rfl rfl) ?_; clear hf; intro a hf
    refine wpO_nil ?_
    refine wpL_nil (then_normal ?_)
    exact ⟨(!r15), Option.some.inj hj10, (FrD.pick hf.none hf rfl), hs.sel [] (by decide)⟩
   ·have hj10 := bif_f hj10 hb14
    refine sNo hf rfl rfl rfl (congrArg (fun b => some (Value.bool b)) hb14) rfl rfl rfl ?_; clear hf; intro a hf
    refine sNo hf rfl rfl rfl (congrArg (fun b => some (Value.bool b)) hb14) rfl rfl rfl ?_; clear hf; intro a hf
    refine sNo hf rfl rfl rfl (congrArg (fun b => some (Value.bool b)) hb14) rfl rfl rfl ?_; clear hf; intro a hf
    refine sNo hf rfl rfl rfl (congrArg (fun b => some (Value.bool b)) hb14) rfl rfl rfl ?_; clear hf; intro a hf
    refine sNo hf rfl rfl rfl (congrArg (fun b => some (Value.bool b)) hb14) rfl rfl rfl ?_; clear hf; intro a hf
    refine sY hf hs rfl rfl rfl (Y_pickF rfl (congrArg (fun b => some (Value.bool b)) hb14) rfl) ?_; clear hf; intro a hf
    refine sY hf hs rfl rfl rfl (Y_assign rfl rfl) ?_; clear hf; intro a hf
    refine wpO_nil ?_
    refine wpL_nil (then_normal ?_)
    exact ⟨false, Option.some.inj hj10, (FrD.pick hf.none hf rfl), hs.sel [] (by decide)⟩
  ·have hj10 := bif_f hj10 hb13
   refine sNo hf rfl rfl rfl (congrArg (fun b => some (Value.bool b)) hb13) rfl rfl rfl ?_; clear hf; intro a hf
   refine sNo hf rfl rfl rfl (congrArg (fun b => some (Value.bool b)) hb13) rfl rfl rfl ?_; clear hf; intro a hf
   refine sNo hf rfl rfl rfl (congrArg (fun b => some (Value.bool b)) hb13) rfl rfl rfl ?_; clear hf; intro a hf
   refine sNo hf rfl rfl rfl (congrArg (fun b => some (Value.bool b)) hb13) rfl rfl rfl ?_; clear hf; intro a hf
   refine sY hf hs rfl rfl rfl (Y_pickF rfl (congrArg (fun b => some (Value.bool b)) hb13) rfl) ?_; clear hf; intro a hf
   refine sY hf hs rfl rfl rfl (Y_move rfl rfl) ?_; clear hf; intro a hf
   refine sNo hf rfl rfl rfl rfl rfl rfl rfl ?_; clear hf; intro a hf
   refine sNo hf rfl rfl rfl rfl rfl rfl rfl ?_; clear hf; intro a hf
   refine sNo hf rfl rfl rfl rfl rfl rfl rfl ?_; clear hf; intro a hf
   refine sNo hf rfl rfl rfl rfl rfl rfl rfl ?_; clear hf; intro a hf
   refine sNo hf rfl rfl rfl rfl rfl rfl rfl ?_; clear hf; intro a hf
   refine sY hf hs rfl rfl rfl (Y_pickF rfl rfl rfl) ?_; clear hf; intro a hf
   refine sY hf hs rfl rfl rfl (Y_assign rfl rfl) ?_; clear hf; intro a hf
   refine wpO_nil ?_
   refine wpL_nil (then_normal ?_)
   exact ⟨false, Option.some.inj hj10, (FrD.pick hf.none hf rfl), hs.sel [] (by decide)⟩
 ·rintro a w ⟨b8, hr_, hf, hs⟩
  subst hr_
  try dsimp only at hm
  obtain rfl := Option.some.inj hm
  refine wpL_ret (ret_tmp rfl hf rfl ?_)
  exact ⟨_, rfl, rfl, hs⟩

set_option maxRecDepth 100000 in
theorem impl_allWithin_ok (F : Nat) (aO : List Int) (aM : Option Addr) (bg bh : Nat) (bw : bg = aO.length) (bB : Int) (bu : Int) (r : Bool) (W : World) (hm : impl_allWithin F aO bB bu = some r) (bn : Rd W aM (ints aO)) :
  Calls Try.prog 74 [.slice aM bg bh, .int .i64 bB, .int .i64 bu].toArray W fun e w' => ∃ v, e = .returned v ∧ v = .bool r ∧ St [] W w' [] := by
 subst bw
 unfold impl_allWithin at hm
 refine Calls.enter (N := 21) Try.func74 rfl rfl rfl (fun a hf => ?_)
 have hs := St.start W
 obtain ⟨w, hw_⟩ : ∃ w, w = W := ⟨W, rfl⟩
 clear hw_ w
 refine wpL_seq <| wpL_region ?_
 refine sY hf hs rfl rfl rfl (Y_assign rfl rfl) ?_; clear hf; intro a hf
 refine wpO_nil <| wpL_seq <| wpL_seq <| wpL_region ?_
 refine sY hf hs rfl rfl rfl (Y_move rfl rfl) ?_; clear hf; intro a hf
 refine sY hf hs rfl rfl rfl (Y_lenH rfl rfl el28 rfl) ?_; clear hf; intro a hf
 refine sY hf hs rfl rfl rfl (Y_move rfl rfl) ?_; clear hf; intro a hf
 refine wpO_nil ?_
 obtain ⟨r21, hl22, hm⟩ := bind_some hm
 refine wpL_block (fun a w => Sum.inr () = r21 ∧ Fr a 21 [] ∧ St [] W w []) ?_ ?_
 ·refine wpL_loop (fun n a w => ∃ x14 : Int, impl_allWithin_L1 F aO bB bu n x14 = some r21 ∧ Fr a 21 [(1, .int .i64 bB), (2, .int .i64 bu), (9, .slice aM aO.length bh), (10, .int .i64 (aO.length : Int)), (11, .int .i64 x14)] ∧ St [] W w []) F ?_ ?_ ?_
  ·exact ⟨0, hl22, (FrD.pick (FrD.pick (FrD.pick (FrD.pick (FrD.pick hf.none hf rfl) hf rfl) hf rfl) hf rfl) hf rfl), hs⟩
  ·rintro a w ⟨x14, h0_, -, -⟩; simp [impl_allWithin_L1] at h0_
  ·rintro n24 a w ⟨x14, hm23, hf, hs⟩
   rw [impl_allWithin_L1] at hm23
   refine wpL_seq <| wpL_region ?_
   refine sY hf hs rfl rfl rfl (Y_lss rfl rfl rfl) ?_; clear hf; intro a hf
   refine wpO_nil <| wpL_seq ?_
   refine wpL_cond hf rfl (fun hb25 => ?_) (fun hb25 => ?_)
   ·have hm23 := bif_t hm23 hb25
    refine wpL_skip <| wpL_seq <| wpL_block0 <| wpL_seq <| wpL_region ?_
    obtain ⟨q26, hi27, hm23⟩ := bind_some hm23
    obtain ⟨hi27a, hi27b, hi27q⟩ := idx_some hi27
    refine sY hf hs rfl rfl rfl (Y_index rfl rfl rfl el28 ti2 (Rd.isAt (bn.at hs) (at1 (ints_at hi27q))) hi27a hi27b) ?_; clear hf; intro a hf
    refine sY hf hs rfl rfl rfl (Y_load_rd rfl rfl (fun w hs => bn.at hs) (at1 (ints_at hi27q)) ag2) ?_; clear hf; intro a hf
    refine sY hf hs rfl rfl rfl (Y_assign rfl rfl) ?_; clear hf; intro a hf
    refine wpO_nil <| wpL_seq <| wpL_region ?_
    refine sY hf hs rfl rfl rfl (Y_move rfl rfl) ?_; clear hf; intro a hf
    refine sY hf hs rfl rfl rfl (Y_move rfl rfl) ?_; clear hf; intro a hf
    refine sY hf hs rfl rfl rfl (Y_move rfl rfl) ?_; clear hf; intro a hf
    obtain ⟨r28, hc29, hm23⟩ := bind_some hm23
    refine sCall hf rfl rfl rfl rfl (cap := []) rfl rfl en71 (impl_within_ok F q26 bB bu _ _ hc29) ?_; clear hf
    rintro _ w ⟨rfl, hs1⟩ a hf
    have hs : St _ W w [] := hs.ext hs1.below
    clear hs1
    refine sY hf hs rfl rfl rfl (Y_not rfl rfl) ?_; clear hf; intro a hf
    refine wpO_nil ?_
    refine wpL_cond hf rfl (fun hb30 => ?_) (fun hb30 => ?_)
    ·have hm23 := bif_t hm23 hb30
     refine wpL_seq <| wpL_region ?_
     refine sY hf hs rfl rfl rfl (Y_assign rfl rfl) ?_; clear hf; intro a hf
     refine wpO_nil ?_
     obtain rfl := Option.some.inj hm23
     try dsimp only at hm
     obtain rfl := Option.some.inj hm
     refine wpL_ret (Qb_ret (Ql_ret (Qb_ret (ret_tmp rfl hf rfl ?_))))
     exact ⟨_, rfl, rfl, hs⟩
    ·have hm23 := bif_f hm23 hb30
     refine wpL_skip ?_
     refine wpL_nil (Qb_normal ?_)
     refine wpL_region ?_
     refine sY hf hs rfl rfl rfl (Y_add rfl rfl rfl) ?_; clear hf; intro a hf
     refine sY hf hs rfl rfl rfl (Y_move rfl rfl) ?_; clear hf; intro a hf
     refine wpO_nil ?_
     refine wpL_nil (Ql_normal ?_)
     exact ⟨(IntKind.i64.wrap (x14 + 1)), hm23, (FrD.pick (FrD.pick (FrD.pick (FrD.pick (FrD.pick hf.none hf rfl) hf rfl) hf rfl) hf rfl) hf rfl), hs⟩
   ·have hm23 := bif_f hm23 hb25
    refine wpL_exit (Ql_exit (Qb_exit ?_))
    exact ⟨Option.some.inj hm23, hf.none, hs⟩
 ·rintro a w ⟨hr_, hf, hs⟩
  subst hr_
  try dsimp only at hm
  refine wpL_seq <| wpL_region ?_
  refine sY hf hs rfl rfl rfl (Y_assign rfl rfl) ?_; clear hf; intro a hf
  refine wpO_nil ?_
  obtain rfl := Option.some.inj hm
  refine wpL_ret (ret_tmp rfl hf rfl ?_)
  exact ⟨_, rfl, rfl, hs⟩

set_option maxRecDepth 100000 in
theorem impl_isTimeTable_c1_ok (F : Nat) (bZ : List Int) (cg : Option Addr) (cA cB : Nat) (cJ : cA = bZ.length) (b_z0 : Nat) (z0 : GEventGraph) (A_z0_1 : Option Addr) (n_z0_1 c_z0_1 : Nat) (hn_z0_1 : n_z0_1 = z0.Places.length) (r : Bool) (W : World) (hm : impl_isTimeTable_c1 F bZ z0 = some r) (cM : Rd W cg (ints bZ)) (_h_z0_1 : Rd W A_z0_1 ((recs GPlace.cells) z0.Places)) (h_z0 : PB W b_z0 55 [.int .i64 z0.Events, .slice A_z0_1 n_z0_1 c_z0_1]) :
  Calls Try.prog 208 [.slice cg cA cB, .pointer (some ⟨b_z0, 0, none⟩)].toArray W fun e w' => ∃ v, e = .returned v ∧ v = .bool r ∧ St [] W w' [] := by
 subst cJ
 subst hn_z0_1
 unfold impl_isTimeTable_c1 at hm
 refine Calls.enter (N := 14) Try.func208 rfl rfl rfl (fun a hf => ?_)
 have hs := St.start W
 obtain ⟨w, hw_⟩ : ∃ w, w = W := ⟨W, rfl⟩
 clear hw_ w
 refine wpL_seq <| wpL_region ?_
 refine sY hf hs rfl rfl rfl (Y_assign rfl rfl) ?_; clear hf; intro a hf
 refine wpO_nil <| wpL_seq ?_
 obtain ⟨r5, hj6, hm⟩ := bind_some hm
 refine wpL_cut (fun a w => ∃ b4 : Bool, b4 = r5 ∧ Fr a 14 [(3, .bool b4)] ∧ St [] W w []) ?_ ?_
 ·refine wpL_region ?_
  refine sY hf hs rfl rfl rfl (Y_move rfl rfl) ?_; clear hf; intro a hf
  refine sY hf hs rfl rfl rfl (Y_lenH rfl rfl el28 rfl) ?_; clear hf; intro a hf
  refine sY hf hs rfl rfl rfl (Y_fieldAddr rfl rfl fo55_0) ?_; clear hf; intro a hf
  refine sY hf hs rfl rfl rfl (Y_load_pb rfl rfl h_z0 rfl ag2) ?_; clear hf; intro a hf
  refine sY hf hs rfl rfl rfl (Y_neq rfl rfl rfl) ?_; clear hf; intro a hf
  refine sY hf hs rfl rfl rfl (Y_move rfl rfl) ?_; clear hf; intro a hf
  refine bsplit ((bZ.length : Int) != z0.Events) (fun hb7 => ?_) (fun hb7 => ?_)
  ·have hj6 := bif_t hj6 hb7
   refine sNo hf rfl rfl rfl (congrArg (fun b => some (Value.bool b)) hb7) rfl rfl rfl ?_; clear hf; intro a hf
   refine sNo hf rfl rfl rfl (congrArg (fun b => some (Value.bool b)) hb7) rfl rfl rfl ?_; clear hf; intro a hf
   refine sNo hf rfl rfl rfl (congrArg (fun b => some (Value.bool b)) hb7) rfl rfl rfl ?_; clear hf; intro a hf
   refine sY hf hs rfl rfl rfl (Y_pickT rfl (congrArg (fun b => some (Value.bool b)) hb7) rfl) ?_; clear hf; intro a hf
   refine sY hf hs rfl rfl rfl (Y_assign rfl rfl) ?_; clear hf; intro a hf
   refine wpO_nil ?_
   refine wpL_nil (then_normal ?_)
   exact ⟨true, Option.some.inj hj6, (FrD.pick hf.none hf rfl), hs⟩
  ·have hj6 := bif_f hj6 hb7
   refine sYg hf hs rfl rfl rfl (congrArg (fun b => some (Value.bool b)) hb7) rfl rfl rfl (Y_move rfl rfl) ?_; clear hf; intro a hf
   obtain ⟨r8, hc9, hj6⟩ := bind_some hj6
   refine sCallg hf rfl rfl rfl (congrArg (fun b => some (Value.bool b)) hb7) rfl rfl rfl rfl (cap := []) rfl rfl en74 (impl_allWithin_ok F bZ cg bZ.length cB rfl 0 1000000 _ _ hc9 (cM.at hs)) ?_; clear hf
   rintro _ w ⟨rfl, hs1⟩ a hf
   have hs : St _ W w [] := hs.ext hs1.below
   clear hs1
   refine sYg hf hs rfl rfl rfl (congrArg (fun b => some (Value.bool b)) hb7) rfl rfl rfl (Y_not rfl rfl) ?_; clear hf; intro a hf
   refine sY hf hs rfl rfl rfl (Y_pickF rfl (congrArg (fun b => some (Value.bool b)) hb7) rfl) ?_; clear hf; intro a hf
   refine sY hf hs rfl rfl rfl (Y_assign rfl rfl) ?_; clear hf; intro a hf
   refine wpO_nil ?_
   refine wpL_nil (then_normal ?_)
   exact ⟨(!r8), Option.some.inj hj6, (FrD.pick hf.none hf rfl), hs⟩
 ·rintro a w ⟨b4, hr_, hf, hs⟩
  subst hr_
  try dsimp only at hm
  obtain rfl := Option.some.inj hm
  refine wpL_ret (ret_tmp rfl hf rfl ?_)
  exact ⟨_, rfl, rfl, hs⟩

set_option maxRecDepth 100000 in
theorem slices_IndexFunc_sint64_ok (F : Nat) (aK : List (List Int)) (aF : Option Addr) (aR aU : Nat) (bl : aR = aK.length) (bx : (List Int) → Option Bool) (bq : FuncId) (bt : List Value) (r : Int) (W : World) (hm : slices_IndexFunc_sint64 F aK bx = some r) (aZ : RdM W aF aK) (bO : ∀ (x0 : List Int) (Ax0_1 : Option Addr) (nx0_1 cx0_1 : Nat) (_hnx0_1 : nx0_1 = x0.length) (r : Bool) (w : World), bx x0 = some r → Below W.heap.size W w → Rd w Ax0_1 (ints x0) → Calls Try.prog bq (([.slice Ax0_1 nx0_1 cx0_1] : List Value) ++ bt).toArray w fun e w' => ∃ v, e = .returned v ∧ v = .bool r ∧ St [] w w' []) (bP : En Try.prog bq) :
  Calls Try.prog 202 [.slice aF aR aU, .func (.func bq) #[] bt.toArray].toArray W fun e w' => ∃ v, e = .returned v ∧ v = .int .i64 r ∧ St [] W w' [] := by
 subst bl
 unfold slices_IndexFunc_sint64 at hm
 refine Calls.enter (N := 19) Try.func202 rfl rfl rfl (fun a hf => ?_)
 have hs := St.start W
 obtain ⟨w, hw_⟩ : ∃ w, w = W := ⟨W, rfl⟩
 clear hw_ w
 refine wpL_seq <| wpL_region ?_
 refine sY hf hs rfl rfl rfl (Y_assign rfl rfl) ?_; clear hf; intro a hf
 refine wpO_nil <| wpL_seq <| wpL_seq <| wpL_region ?_
 refine sY hf hs rfl rfl rfl (Y_move rfl rfl) ?_; clear hf; intro a hf
 refine sY hf hs rfl rfl rfl (Y_lenH rfl rfl el40 rfl) ?_; clear hf; intro a hf
 refine sY hf hs rfl rfl rfl (Y_move rfl rfl) ?_; clear hf; intro a hf
 refine wpO_nil ?_
 obtain ⟨r42, hl43, hm⟩ := bind_some hm
 refine wpL_block (fun a w => Sum.inr () = r42 ∧ Fr a 19 [] ∧ St [] W w []) ?_ ?_
 ·refine wpL_loop (fun n a w => ∃ x28 : Int, slices_IndexFunc_sint64_L1 F aK bx n x28 = some r42 ∧ Fr a 19 [(0, .slice aF aK.length aU), (1, .func (.func bq) #[] bt.toArray), (7, .int .i64 (aK.length : Int)), (8, .int .i64 x28)] ∧ St [] W w []) F ?_ ?_ ?_
  ·exact ⟨0, hl43, (FrD.pick (FrD.pick (FrD.pick (FrD.pick hf.none hf rfl) hf rfl) hf rfl) hf rfl), hs⟩
  ·rintro a w ⟨x28, h0_, -, -⟩; simp [slices_IndexFunc_sint64_L1] at h0_
  ·rintro n45 a w ⟨x28, hm44, hf, hs⟩
   rw [slices_IndexFunc_sint64_L1] at hm44
   refine wpL_seq <| wpL_region ?_
   refine sY hf hs rfl rfl rfl (Y_lss rfl rfl rfl) ?_; clear hf; intro a hf
   refine wpO_nil <| wpL_seq ?_
   refine wpL_cond hf rfl (fun hb46 => ?_) (fun hb46 => ?_)
   ·have hm44 := bif_t hm44 hb46
    refine wpL_skip <| wpL_seq <| wpL_block0 <| wpL_seq <| wpL_region ?_
    refine sY hf hs rfl rfl rfl (Y_move rfl rfl) ?_; clear hf; intro a hf
    refine sY hf hs rfl rfl rfl (Y_assign rfl rfl) ?_; clear hf; intro a hf
    refine wpO_nil <| wpL_seq <| wpL_region ?_
    refine sY hf hs rfl rfl rfl (Y_move rfl rfl) ?_; clear hf; intro a hf
    refine sY hf hs rfl rfl rfl (Y_move rfl rfl) ?_; clear hf; intro a hf
    refine sY hf hs rfl rfl rfl (Y_move rfl rfl) ?_; clear hf; intro a hf
    obtain ⟨q47, hi48, hm44⟩ := bind_some hm44
    obtain ⟨hi48a, hi48b, hi48q⟩ := idx_some hi48
    obtain ⟨vs49, hv50, hr51⟩ := id aZ
    obtain ⟨A52, c53, hv54, hR55⟩ := hr51 _ _ hi48q
    refine sY hf hs rfl rfl rfl (Y_index rfl rfl rfl el40 ti28 (Rd.isAt hv50 hv54) hi48a hi48b) ?_; clear hf; intro a hf
    refine sY hf hs rfl rfl rfl (Y_load_rd rfl rfl (fun w hs => hv50.at hs) (at1 hv54) ag28) ?_; clear hf; intro a hf
    obtain ⟨r56, hc57, hm44⟩ := bind_some hm44
    refine sCall hf rfl rfl rfl rfl (cap := bt) rfl rfl bP (bO q47 A52 q47.length c53 rfl _ _ hc57 hs.below (hR55.at hs)) ?_; clear hf; rintro _ w ⟨rfl, hs1⟩ a hf; have hs := hs.ext hs1.below; clear hs1
    refine wpO_nil ?_
    refine wpL_cond hf rfl (fun hb58 => ?_) (fun hb58 => ?_)
    ·have hm44 := bif_t hm44 hb58
     refine wpL_seq <| wpL_region ?_
     refine sY hf hs rfl rfl rfl (Y_move rfl rfl) ?_; clear hf; intro a hf
     refine sY hf hs rfl rfl rfl (Y_assign rfl rfl) ?_; clear hf; intro a hf
     refine wpO_nil ?_
     obtain rfl := Option.some.inj hm44
     try dsimp only at hm
     obtain rfl := Option.some.inj hm
     refine wpL_ret (Qb_ret (Ql_ret (Qb_ret (ret_tmp rfl hf rfl ?_))))
     exact ⟨_, rfl, rfl, hs⟩
    ·have hm44 := bif_f hm44 hb58
     refine wpL_skip ?_
     refine wpL_nil (Qb_normal ?_)
     refine wpL_region ?_
     refine sY hf hs rfl rfl rfl (Y_add rfl rfl rfl) ?_; clear hf; intro a hf
     refine sY hf hs rfl rfl rfl (Y_move rfl rfl) ?_; clear hf; intro a hf
     refine wpO_nil ?_
     refine wpL_nil (Ql_normal ?_)
     exact ⟨(IntKind.i64.wrap (x28 + 1)), hm44, (FrD.pick (FrD.pick (FrD.pick (FrD.pick hf.none hf rfl) hf rfl) hf rfl) hf rfl), hs⟩
   ·have hm44 := bif_f hm44 hb46
    refine wpL_exit (Ql_exit (Qb_exit ?_))
    exact ⟨Option.some.inj hm44, hf.none, hs⟩
 ·rintro a w ⟨hr_, hf, hs⟩
  subst hr_
  try dsimp only at hm
  refine wpL_seq <| wpL_region ?_
  refine sY hf hs rfl rfl rfl (Y_assign rfl rfl) ?_; clear hf; intro a hf
  refine wpO_nil ?_
  obtain rfl := Option.some.inj hm
  refine wpL_ret (ret_tmp rfl hf rfl ?_)
  exact ⟨_, rfl, rfl, hs⟩

set_option maxRecDepth 100000 in
theorem slices_ContainsFunc_sint64_ok (F : Nat) (aK : List (List Int)) (aF : Option Addr) (aR aU : Nat) (bl : aR = aK.length) (bx : (List Int) → Option Bool) (bq : FuncId) (bt : List Value) (r : Bool) (W : World) (hm : slices_ContainsFunc_sint64 F aK bx = some r) (aZ : RdM W aF aK) (bO : ∀ (x0 : List Int) (Ax0_1 : Option Addr) (nx0_1 cx0_1 : Nat) (_hnx0_1 : nx0_1 = x0.length) (r : Bool) (w : World), bx x0 = some r → Below W.heap.size W w → Rd w Ax0_1 (ints x0) → Calls Try.prog bq (([.slice Ax0_1 nx0_1 cx0_1] : List Value) ++ bt).toArray w fun e w' => ∃ v, e = .returned v ∧ v = .bool r ∧ St [] w w' []) (bP : En Try.prog bq) :
  Calls Try.prog 146 [.slice aF aR aU, .func (.func bq) #[] bt.toArray].toArray W fun e w' => ∃ v, e = .returned v ∧ v = .bool r ∧ St [] W w' [] := by
 subst bl
 unfold slices_ContainsFunc_sint64 at hm
 refine Calls.enter (N := 9) Try.func146 rfl rfl rfl (fun a hf => ?_)
 have hs := St.start W
 obtain ⟨w, hw_⟩ : ∃ w, w = W := ⟨W, rfl⟩
 clear hw_ w
 refine wpL_seq <| wpL_region ?_
 refine sY hf hs rfl rfl rfl (Y_assign rfl rfl) ?_; clear hf; intro a hf
 refine wpO_nil <| wpL_seq <| wpL_region ?_
 refine sY hf hs rfl rfl rfl (Y_move rfl rfl) ?_; clear hf; intro a hf
 refine sY hf hs rfl rfl rfl (Y_move rfl rfl) ?_; clear hf; intro a hf
 obtain ⟨r1, hc2, hm⟩ := bind_some hm
 refine sCall hf rfl rfl rfl rfl (cap := []) rfl rfl en202 (slices_IndexFunc_sint64_ok F aK aF aK.length aU rfl bx bq bt _ _ hc2 (aZ.at hs) (fun x0 A0_0 n0_0 c0_0 h0_0 r w' hm_ hb r0_0 => bO x0 A0_0 n0_0 c0_0 h0_0 r w' hm_ (hs.below.trans (hb.mono hs.below.size)) r0_0) bP) ?_; clear hf
 rintro _ w ⟨rfl, hs1⟩ a hf
 have hs : St _ W w [] := hs.ext hs1.below
 clear hs1
 refine sY hf hs rfl rfl rfl (Y_geq rfl rfl rfl) ?_; clear hf; intro a hf
 refine sY hf hs rfl rfl rfl (Y_assign rfl rfl) ?_; clear hf; intro a hf
 refine wpO_nil ?_
 obtain rfl := Option.some.inj hm
 refine wpL_ret (ret_tmp rfl hf rfl ?_)
 exact ⟨_, rfl, rfl, hs⟩

set_option maxRecDepth 100000 in
theorem impl_isTimeTable_ok (F : Nat) (ae : GEventGraph) (ad : Option Addr) (ap af : Nat) (aw : ap = ae.Places.length) (bM : List (List Int)) (bQ : Option Addr) (cm cn : Nat) (cD : cm = bM.length) (r : Bool) (W : World) (hm : impl_isTimeTable F ae bM = some r) (au : Rd W ad ((recs GPlace.cells) ae.Places)) (cH : RdM W bQ bM) :
  Calls Try.prog 173 [.agg #[.int .i64 ae.Events, .slice ad ap af], .slice bQ cm cn].toArray W fun e w' => ∃ v, e = .returned v ∧ v = .bool r ∧ St [] W w' [] := by
 subst aw
 subst cD
 unfold impl_isTimeTable at hm
 refine Calls.enter (N := 14) Try.func173 rfl rfl rfl (fun a hf => ?_)
 have hs := St.start W
 obtain ⟨w, hw_⟩ : ∃ w, w = W := ⟨W, rfl⟩
 clear hw_ w
 refine wpL_seq <| wpL_region ?_
 refine sBox hf hs rfl rfl rfl rfl rfl (cs := [.int .i64 ae.Events, .slice ad ae.Places.length af]) rfl ?_; clear hf hs; intro a w b1 hs hf
 have hs : St _ W w [.blk b1 55 [.int .i64 ae.Events, .slice ad ae.Places.length af]] := hs
 refine sY hf hs rfl rfl rfl (Y_assign rfl rfl) ?_; clear hf; intro a hf
 refine wpO_nil <| wpL_seq ?_
 obtain ⟨r6, hj7, hm⟩ := bind_some hm
 refine wpL_cut (fun a w => ∃ b5 : Bool, b5 = r6 ∧ Fr a 14 [(4, .bool b5)] ∧ St [] W w []) ?_ ?_
 ·refine wpL_region ?_
  refine sY hf hs rfl rfl rfl (Y_move rfl rfl) ?_; clear hf; intro a hf
  refine sY hf hs rfl rfl rfl (Y_lenH rfl rfl el40 rfl) ?_; clear hf; intro a hf
  refine sY hf hs rfl rfl rfl (Y_leq rfl rfl rfl) ?_; clear hf; intro a hf
  refine sY hf hs rfl rfl rfl (Y_move rfl rfl) ?_; clear hf; intro a hf
  refine bsplit (decide ((bM.length : Int) ≤ 50)) (fun hb8 => ?_) (fun hb8 => ?_)
  ·have hj7 := bif_t hj7 hb8
   refine sYg hf hs rfl rfl rfl (congrArg (fun b => some (Value.bool b)) hb8) rfl rfl rfl (Y_move rfl rfl) ?_; clear hf; intro a hf
   refine sYg hf hs rfl rfl rfl (congrArg (fun b => some (Value.bool b)) hb8) rfl rfl rfl (Y_makeFunc (us := []) (vs := [.pointer (some ⟨b1, 0, none⟩)]) rfl rfl rfl) ?_; clear hf; intro a hf
   obtain ⟨r9, hc10, hj7⟩ := bind_some hj7
   refine sCallg hf rfl rfl rfl (congrArg (fun b => some (Value.bool b)) hb8) rfl rfl rfl rfl (cap := []) rfl rfl en146 (slices_ContainsFunc_sint64_ok F bM bQ bM.length cn rfl (fun x0 => impl_isTimeTable_c1 F x0 ae) 208 ([.pointer (some ⟨b1, 0, none⟩)]) _ _ hc10 (cH.at hs) (fun x0 Ax00 nx00 cx00 hx00 r w' hm_ hb rx00 => impl_isTimeTable_c1_ok F x0 Ax00 nx00 cx00 hx00 b1 ae ad ae.Places.length af rfl r w' hm_ rx00 ((au.at hs).below hb (Nat.le_refl _)) ((hs.pb (i := 0) rfl).below hb (Nat.le_refl _))) en208) ?_; clear hf
   rintro _ w ⟨rfl, hs1⟩ a hf
   have hs : St _ W w [_] := hs.ext hs1.below
   clear hs1
   refine sYg hf hs rfl rfl rfl (congrArg (fun b => some (Value.bool b)) hb8) rfl rfl rfl (Y_not rfl rfl) ?_; clear hf; intro a hf
   refine sY hf hs rfl rfl rfl (Y_pickT rfl (congrArg (fun b => some (Value.bool b)) hb8) rfl) ?_; clear hf; intro a hf
   refine sY hf hs rfl rfl rfl (Y_assign rfl rfl) ?_; clear hf; intro a hf
   refine wpO_nil ?_
   refine wpL_nil (then_normal ?_)
   exact ⟨(!r9), Option.some.inj hj7, (FrD.pick hf.none hf rfl), hs.sel [] (by decide)⟩
  ·have hj7 := bif_f hj7 hb8
   refine sNo hf rfl rfl rfl (congrArg (fun b => some (Value.bool b)) hb8) rfl rfl rfl ?_; clear hf; intro a hf
   refine sNo hf rfl rfl rfl (congrArg (fun b => some (Value.bool b)) hb8) rfl rfl rfl ?_; clear hf; intro a hf
   refine sNo hf rfl rfl rfl (congrArg (fun b => some (Value.bool b)) hb8) rfl rfl rfl ?_; clear hf; intro a hf
   refine sNo hf rfl rfl rfl (congrArg (fun b => some (Value.bool b)) hb8) rfl rfl rfl ?_; clear hf; intro a hf
   refine sY hf hs rfl rfl rfl (Y_pickF rfl (congrArg (fun b => some (Value.bool b)) hb8) rfl) ?_; clear hf; intro a hf
   refine sY hf hs rfl rfl rfl (Y_assign rfl rfl) ?_; clear hf; intro a hf
   refine wpO_nil ?_
   refine wpL_nil (then_normal ?_)
   exact ⟨false, Option.some.inj hj7, (FrD.pick hf.none hf rfl), hs.sel [] (by decide)⟩
 ·rintro a w ⟨b5, hr_, hf, hs⟩
  subst hr_
  try dsimp only at hm
  obtain rfl := Option.some.inj hm
  refine wpL_ret (ret_tmp rfl hf rfl ?_)
  exact ⟨_, rfl, rfl, hs⟩

set_option maxRecDepth 100000 in
theorem slices_Index_int64_ok (F : Nat) (aK : List Int) (aF : Option Addr) (aR aU : Nat) (bl : aR = aK.length) (co : Int) (r : Int) (W : World) (hm : slices_Index_int64 F aK co = some r) (aZ : Rd W aF (ints aK)) :
  Calls Try.prog 207 [.slice aF aR aU, .int .i64 co].toArray W fun e w' => ∃ v, e = .returned v ∧ v = .int .i64 r ∧ St [] W w' [] := by
 subst bl
 unfold slices_Index_int64 at hm
 refine Calls.enter (N := 19) Try.func207 rfl rfl rfl (fun a hf => ?_)
 have hs := St.start W
 obtain ⟨w, hw_⟩ : ∃ w, w = W := ⟨W, rfl⟩
 clear hw_ w
 refine wpL_seq <| wpL_region ?_
 refine sY hf hs rfl rfl rfl (Y_assign rfl rfl) ?_; clear hf; intro a hf
 refine wpO_nil <| wpL_seq <| wpL_seq <| wpL_region ?_
 refine sY hf hs rfl rfl rfl (Y_move rfl rfl) ?_; clear hf; intro a hf
 refine sY hf hs rfl rfl rfl (Y_lenH rfl rfl el28 rfl) ?_; clear hf; intro a hf
 refine sY hf hs rfl rfl rfl (Y_move rfl rfl) ?_; clear hf; intro a hf
 refine wpO_nil ?_
 obtain ⟨r15, hl16, hm⟩ := bind_some hm
 refine wpL_block (fun a w => Sum.inr () = r15 ∧ Fr a 19 [] ∧ St [] W w []) ?_ ?_
 ·refine wpL_loop (fun n a w => ∃ x10 : Int, slices_Index_int64_L1 F aK co n x10 = some r15 ∧ Fr a 19 [(0, .slice aF aK.length aU), (1, .int .i64 co), (7, .int .i64 (aK.length : Int)), (8, .int .i64 x10)] ∧ St [] W w []) F ?_ ?_ ?_
  ·exact ⟨0, hl16, (FrD.pick (FrD.pick (FrD.pick (FrD.pick hf.none hf rfl) hf rfl) hf rfl) hf rfl), hs⟩
  ·rintro a w ⟨x10, h0_, -, -⟩; simp [slices_Index_int64_L1] at h0_
  ·rintro n18 a w ⟨x10, hm17, hf, hs⟩
   rw [slices_Index_int64_L1] at hm17
   refine wpL_seq <| wpL_region ?_
   refine sY hf hs rfl rfl rfl (Y_lss rfl rfl rfl) ?_; clear hf; intro a hf
   refine wpO_nil <| wpL_seq ?_
   refine wpL_cond hf rfl (fun hb19 => ?_) (fun hb19 => ?_)
   ·have hm17 := bif_t hm17 hb19
    refine wpL_skip <| wpL_seq <| wpL_block0 <| wpL_seq <| wpL_region ?_
    refine sY hf hs rfl rfl rfl (Y_move rfl rfl) ?_; clear hf; intro a hf
    refine sY hf hs rfl rfl rfl (Y_assign rfl rfl) ?_; clear hf; intro a hf
    refine wpO_nil <| wpL_seq <| wpL_region ?_
    refine sY hf hs rfl rfl rfl (Y_move rfl rfl) ?_; clear hf; intro a hf
    refine sY hf hs rfl rfl rfl (Y_move rfl rfl) ?_; clear hf; intro a hf
    refine sY hf hs rfl rfl rfl (Y_move rfl rfl) ?_; clear hf; intro a hf
    obtain ⟨q20, hi21, hm17⟩ := bind_some hm17
    obtain ⟨hi21a, hi21b, hi21q⟩ := idx_some hi21
    refine sY hf hs rfl rfl rfl (Y_index rfl rfl rfl el28 ti2 (Rd.isAt (aZ.at hs) (at1 (ints_at hi21q))) hi21a hi21b) ?_; clear hf; intro a hf
    refine sY hf hs rfl rfl rfl (Y_load_rd rfl rfl (fun w hs => aZ.at hs) (at1 (ints_at hi21q)) ag2) ?_; clear hf; intro a hf
    refine sY hf hs rfl rfl rfl (Y_eql rfl rfl rfl) ?_; clear hf; intro a hf
    refine wpO_nil ?_
    refine wpL_cond hf rfl (fun hb22 => ?_) (fun hb22 => ?_)
    ·have hm17 := bif_t hm17 hb22
     refine wpL_seq <| wpL_region ?_
     refine sY hf hs rfl rfl rfl (Y_move rfl rfl) ?_; clear hf; intro a hf
     refine sY hf hs rfl rfl rfl (Y_assign rfl rfl) ?_; clear hf; intro a hf
     refine wpO_nil ?_
     obtain rfl := Option.some.inj hm17
     try dsimp only at hm
     obtain rfl := Option.some.inj hm
     refine wpL_ret (Qb_ret (Ql_ret (Qb_ret (ret_tmp rfl hf rfl ?_))))
     exact ⟨_, rfl, rfl, hs⟩
    ·have hm17 := bif_f hm17 hb22
     refine wpL_skip ?_
     refine wpL_nil (Qb_normal ?_)
     refine wpL_region ?_
     refine sY hf hs rfl rfl rfl (Y_add rfl rfl rfl) ?_; clear hf; intro a hf
     refine sY hf hs rfl rfl rfl (Y_move rfl rfl) ?_; clear hf; intro a hf
     refine wpO_nil ?_
     refine wpL_nil (Ql_normal ?_)
     exact ⟨(IntKind.i64.wrap (x10 + 1)), hm17, (FrD.pick (FrD.pick (FrD.pick (FrD.pick hf.none hf rfl) hf rfl) hf rfl) hf rfl), hs⟩
   ·have hm17 := bif_f hm17 hb19
    refine wpL_exit (Ql_exit (Qb_exit ?_))
    exact ⟨Option.some.inj hm17, hf.none, hs⟩
 ·rintro a w ⟨hr_, hf, hs⟩
  subst hr_
  try dsimp only at hm
  refine wpL_seq <| wpL_region ?_
  refine sY hf hs rfl rfl rfl (Y_assign rfl rfl) ?_; clear hf; intro a hf
  refine wpO_nil ?_
  obtain rfl := Option.some.inj hm
  refine wpL_ret (ret_tmp rfl hf rfl ?_)
  exact ⟨_, rfl, rfl, hs⟩

set_option maxRecDepth 100000 in
theorem slices_Contains_int64_ok (F : Nat) (aK : List Int) (aF : Option Addr) (aR aU : Nat) (bl : aR = aK.length) (co : Int) (r : Bool) (W : World) (hm : slices_Contains_int64 F aK co = some r) (aZ : Rd W aF (ints aK)) :
  Calls Try.prog 163 [.slice aF aR aU, .int .i64 co].toArray W fun e w' => ∃ v, e = .returned v ∧ v = .bool r ∧ St [] W w' [] := by
 subst bl
 unfold slices_Contains_int64 at hm
 refine Calls.enter (N := 9) Try.func163 rfl rfl rfl (fun a hf => ?_)
 have hs := St.start W
 obtain ⟨w, hw_⟩ : ∃ w, w = W := ⟨W, rfl⟩
 clear hw_ w
 refine wpL_seq <| wpL_region ?_
 refine sY hf hs rfl rfl rfl (Y_assign rfl rfl) ?_; clear hf; intro a hf
 refine wpO_nil <| wpL_seq <| wpL_region ?_
 refine sY hf hs rfl rfl rfl (Y_move rfl rfl) ?_; clear hf; intro a hf
 refine sY hf hs rfl rfl rfl (Y_move rfl rfl) ?_; clear hf; intro a hf
 obtain ⟨r1, hc2, hm⟩ := bind_some hm
 refine sCall hf rfl rfl rfl rfl (cap := []) rfl rfl en207 (slices_Index_int64_ok F aK aF aK.length aU rfl co _ _ hc2 (aZ.at hs)) ?_; clear hf
 rintro _ w ⟨rfl, hs1⟩ a hf
 have hs : St _ W w [] := hs.ext hs1.below
 clear hs1
 refine sY hf hs rfl rfl rfl (Y_geq rfl rfl rfl) ?_; clear hf; intro a hf
 refine sY hf hs rfl rfl rfl (Y_assign rfl rfl) ?_; clear hf; intro a hf
 refine wpO_nil ?_
 obtain rfl := Option.some.inj hm
 refine wpL_ret (ret_tmp rfl hf rfl ?_)
 exact ⟨_, rfl, rfl, hs⟩

set_option maxRecDepth 100000 in
theorem impl_firingOrder_c1_ok (F : Nat) (aC : GPlace) (b_z0 : Nat) (z0 : Int) (b_z1 : Nat) (z1 : List Int) (A_z1_1 : Option Addr) (n_z1_1 c_z1_1 : Nat) (hn_z1_1 : n_z1_1 = z1.length) (r : Bool) (W : World) (hm : impl_firingOrder_c1 F aC z0 z1 = some r) (h_z0 : PB W b_z0 2 [.int .i64 z0]) (h_z1_1 : Rd W A_z1_1 (ints z1)) (h_z1 : PB W b_z1 28 [.slice A_z1_1 n_z1_1 c_z1_1]) :
  Calls Try.prog 209 [.agg #[.int .i64 aC.From, .int .i64 aC.To, .int .i64 aC.Delay, .int .i64 aC.Tokens], .pointer (some ⟨b_z0, 0, none⟩), .pointer (some ⟨b_z1, 0, none⟩)].toArray W fun e w' => ∃ v, e = .returned v ∧ v = .bool r ∧ St [] W w' [] := by
 subst hn_z1_1
 unfold impl_firingOrder_c1 at hm
 refine Calls.enter (N := 21) Try.func209 rfl rfl rfl (fun a hf => ?_)
 have hs := St.start W
 obtain ⟨w, hw_⟩ : ∃ w, w = W := ⟨W, rfl⟩
 clear hw_ w
 refine wpL_seq <| wpL_region ?_
 refine sBox hf hs rfl rfl rfl rfl rfl (cs := [.int .i64 aC.From, .int .i64 aC.To, .int .i64 aC.Delay, .int .i64 aC.Tokens]) rfl ?_; clear hf hs; intro a w b1 hs hf
 have hs : St _ W w [.blk b1 64 [.int .i64 aC.From, .int .i64 aC.To, .int .i64 aC.Delay, .int .i64 aC.Tokens]] := hs
 refine sY hf hs rfl rfl rfl (Y_assign rfl rfl) ?_; clear hf; intro a hf
 refine wpO_nil <| wpL_seq ?_
 obtain ⟨r7, hj8, hm⟩ := bind_some hm
 refine wpL_cut (fun a w => ∃ b6 : Bool, b6 = r7 ∧ Fr a 21 [(4, .bool b6)] ∧ St [] W w []) ?_ ?_
 ·refine wpL_region ?_
  refine sY hf hs rfl rfl rfl (Y_fieldAddr rfl rfl fo64_1) ?_; clear hf; intro a hf
  refine sY hf hs rfl rfl rfl (Y_load_blk rfl rfl (i := 0) rfl rfl ag2) ?_; clear hf; intro a hf
  refine sY hf hs rfl rfl rfl (Y_load_pb rfl rfl h_z0 rfl ag2) ?_; clear hf; intro a hf
  refine sY hf hs rfl rfl rfl (Y_eql rfl rfl rfl) ?_; clear hf; intro a hf
  refine sY hf hs rfl rfl rfl (Y_move rfl rfl) ?_; clear hf; intro a hf
  refine bsplit (aC.To == z0) (fun hb9 => ?_) (fun hb9 => ?_)
  ·have hj8 := bif_t hj8 hb9
   refine sYg hf hs rfl rfl rfl (congrArg (fun b => some (Value.bool b)) hb9) rfl rfl rfl (Y_fieldAddr rfl rfl fo64_3) ?_; clear hf; intro a hf
   refine sYg hf hs rfl rfl rfl (congrArg (fun b => some (Value.bool b)) hb9) rfl rfl rfl (Y_load_blk rfl rfl (i := 0) rfl rfl ag2) ?_; clear hf; intro a hf
   refine sYg hf hs rfl rfl rfl (congrArg (fun b => some (Value.bool b)) hb9) rfl rfl rfl (Y_eql rfl rfl rfl) ?_; clear hf; intro a hf
   refine sY hf hs rfl rfl rfl (Y_pickT rfl (congrArg (fun b => some (Value.bool b)) hb9) rfl) ?_; clear hf; intro a hf
   refine sY hf hs rfl rfl rfl (Y_move rfl rfl) ?_; clear hf; intro a hf
   refine bsplit (aC.Tokens == 0) (fun hb10 => ?_) (fun hb10 => ?_)
   ·have hj8 := bif_t hj8 hb10
    refine sYg hf hs rfl rfl rfl (congrArg (fun b => some (Value.bool b)) hb10) rfl rfl rfl (Y_load_pb rfl rfl h_z1 rfl ag28) ?_; clear hf; intro a hf
    refine sYg hf hs rfl rfl rfl (congrArg (fun b => some (Value.bool b)) hb10) rfl rfl rfl (Y_fieldAddr rfl rfl fo64_0) ?_; clear hf; intro a hf
    refine sYg hf hs rfl rfl rfl (congrArg (fun b => some (Value.bool b)) hb10) rfl rfl rfl (Y_load_blk rfl rfl (i := 0) rfl rfl ag2) ?_; clear hf; intro a hf
    obtain ⟨r11, hc12, hj8⟩ := bind_some hj8
    refine sCallg hf rfl rfl rfl (congrArg (fun b => some (Value.bool b)) hb10) rfl rfl rfl rfl (cap := []) rfl rfl en163 (slices_Contains_int64_ok F z1 A_z1_1 z1.length c_z1_1 rfl aC.From _ _ hc12 (h_z1_1.at hs)) ?_; clear hf
    rintro _ w ⟨rfl, hs1⟩ a hf
    have hs : St _ W w [_] := hs.ext hs1.below
    clear hs1
    refine sYg hf hs rfl rfl rfl (congrArg (fun b => some (Value.bool b)) hb10) rfl rfl rfl (Y_not rfl rfl) ?_; clear hf; intro a hf
    refine sY hf hs rfl rfl rfl (Y_pickT rfl (congrArg (fun b => some (Value.bool b)) hb10) rfl) ?_; clear hf; intro a hf
    refine sY hf hs rfl rfl rfl (Y_assign rfl rfl) ?_; clear hf; intro a hf
    refine wpO_nil ?_
    refine wpL_nil (then_normal ?_)
    exact ⟨(!r11), Option.some.inj hj8, (FrD.pick hf.none hf rfl), hs.sel [] (by decide)⟩
   ·have hj8 := bif_f hj8 hb10
    refine sNo hf rfl rfl rfl (congrArg (fun b => some (Value.bool b)) hb10) rfl rfl rfl ?_; clear hf; intro a hf
    refine sNo hf rfl rfl rfl (congrArg (fun b => some (Value.bool b)) hb10) rfl rfl rfl ?_; clear hf; intro a hf
    refine sNo hf rfl rfl rfl (congrArg (fun b => some (Value.bool b)) hb10) rfl rfl rfl ?_; clear hf; intro a hf
    refine sNo hf rfl rfl rfl (congrArg (fun b => some (Value.bool b)) hb10) rfl rfl rfl ?_; clear hf; intro a hf
    refine sNo hf rfl rfl rfl (congrArg (fun b => some (Value.bool b)) hb10) rfl rfl rfl ?_; clear hf; intro a hf
    refine sY hf hs rfl rfl rfl (Y_pickF rfl (congrArg (fun b => some (Value.bool b)) hb10) rfl) ?_; clear hf; intro a hf
    refine sY hf hs rfl rfl rfl (Y_assign rfl rfl) ?_; clear hf; intro a hf
    refine wpO_nil ?_
    refine wpL_nil (then_normal ?_)
    exact ⟨false, Option.some.inj hj8, (FrD.pick hf.none hf rfl), hs.sel [] (by decide)⟩
  ·have hj8 := bif_f hj8 hb9
   refine sNo hf rfl rfl rfl (congrArg (fun b => some (Value.bool b)) hb9) rfl rfl rfl ?_; clear hf; intro a hf
   refine sNo hf rfl rfl rfl (congrArg (fun b => some (Value.bool b)) hb9) rfl rfl rfl ?_; clear hf; intro a hf
   refine sNo hf rfl rfl rfl (congrArg (fun b => some (Value.bool b)) hb9) rfl rfl rfl ?_; clear hf; intro a hf
   refine sY hf hs rfl rfl rfl (Y_pickF rfl (congrArg (fun b => some (Value.bool b)) hb9) rfl) ?_; clear hf; intro a hf
   refine sY hf hs rfl rfl rfl (Y_move rfl rfl) ?_; clear hf; intro a hf
   refine sNo hf rfl rfl rfl rfl rfl rfl rfl ?_; clear hf; intro a hf
   refine sNo hf rfl rfl rfl rfl rfl rfl rfl ?_; clear hf; intro a hf
   refine sNo hf rfl rfl rfl rfl rfl rfl rfl ?_; clear hf; intro a hf
   refine sNo hf rfl rfl rfl rfl rfl rfl rfl ?_; clear hf; intro a hf
   refine sNo hf rfl rfl rfl rfl rfl rfl rfl ?_; clear hf; intro a hf
   refine sY hf hs rfl rfl rfl (Y_pickF rfl rfl rfl) ?_; clear hf; intro a hf
   refine sY hf hs rfl rfl rfl (Y_assign rfl rfl) ?_; clear hf; intro a hf
   refine wpO_nil ?_
   refine wpL_nil (then_normal ?_)
   exact ⟨false, Option.some.inj hj8, (FrD.pick hf.none hf rfl), hs.sel [] (by decide)⟩
 ·rintro a w ⟨b6, hr_, hf, hs⟩
  subst hr_
  try dsimp only at hm
  obtain rfl := Option.some.inj hm
  refine wpL_ret (ret_tmp rfl hf rfl ?_)
  exact ⟨_, rfl, rfl, hs⟩

set_option maxRecDepth 100000 in
theorem impl_firingOrder_ok (F : Nat) (ae : GEventGraph) (ad : Option Addr) (ap af : Nat) (aw : ap = ae.Places.length) (r : List Int × Bool) (W : World) (hm : impl_firingOrder F ae = some r) (au : Rd W ad ((recs GPlace.cells) ae.Places)) :
  Calls Try.prog 175 [.agg #[.int .i64 ae.Events, .slice ad ap af]].toArray W fun e w' => ∃ v, e = .returned v ∧ ∃ A459, ∃ n460, ∃ c461, v = .tuple #[.slice A459 n460 c461, .bool r.2] ∧ n460 = r.1.length ∧ St [] W w' [.row A459 n460 c461 2 1 (ints r.1)] := by
 subst aw
 unfold impl_firingOrder at hm
 refine Calls.enter (N := 41) Try.func175 rfl rfl rfl (fun a hf => ?_)
 have hs := St.start W
 obtain ⟨w, hw_⟩ : ∃ w, w = W := ⟨W, rfl⟩
 clear hw_ w
 refine wpL_seq <| wpL_region ?_
 refine sBox hf hs rfl rfl rfl rfl rfl (cs := [.int .i64 ae.Events, .slice ad ae.Places.length af]) rfl ?_; clear hf hs; intro a w b1 hs hf
 have hs : St _ W w [.blk b1 55 [.int .i64 ae.Events, .slice ad ae.Places.length af]] := hs
 refine sY hf hs rfl rfl rfl (Y_assign rfl rfl) ?_; clear hf; intro a hf
 refine sY hf hs rfl rfl rfl (Y_assign rfl rfl) ?_; clear hf; intro a hf
 refine wpO_nil <| wpL_seq <| wpL_region ?_
 refine sAlloc hf hs rfl rfl rfl rfl ti28 ?_; clear hf hs; intro a w b2 hs hf
 have hs : St _ W w [_, .blk b2 28 [.slice none 0 0]] := hs
 refine wpO_nil <| wpL_seq ?_
 obtain ⟨r345, hl346, hm⟩ := bind_some hm
 have hs : St [] W _ [.blk b1 55 [.int .i64 ae.Events, .slice ad ae.Places.length af], .blk b2 28 [.slice none 0 0], .row none 0 0 2 1 (ints ([] : List Int))] := hs.addNil 2 1
 refine wpL_block (fun a w => ∃ xs340 : List Int, ∃ A341, ∃ n342, ∃ c343, Sum.inr xs340 = r345 ∧ n342 = xs340.length ∧ Fr a 41 [(4, .pointer (some ⟨b2, 0, none⟩))] ∧ St [] W w [.blk b2 28 [.slice A341 n342 c343], .row A341 n342 c343 2 1 (ints xs340)]) ?_ ?_
 ·refine wpL_loop (fun n a w => ∃ xs227 : List Int, ∃ A228, ∃ n229, ∃ c230, impl_firingOrder_L4 F ae n xs227 = some r345 ∧ n229 = xs227.length ∧ Fr a 41 [(1, .pointer (some ⟨b1, 0, none⟩)), (4, .pointer (some ⟨b2, 0, none⟩))] ∧ St [] W w [.blk b1 55 [.int .i64 ae.Events, .slice ad ae.Places.length af], .blk b2 28 [.slice A228 n229 c230], .row A228 n229 c230 2 1 (ints xs227)]) F ?_ ?_ ?_
  ·exact ⟨[], none, 0, 0, hl346, rfl, (FrD.pick (FrD.pick hf.none hf rfl) hf rfl), hs⟩
  ·rintro a w ⟨xs227, A228, n229, c230, h0_, -, -, -⟩; simp [impl_firingOrder_L4] at h0_
  ·rintro n348 a w ⟨xs227, A228, n229, c230, hm347, hn231, hf, hs⟩
   rw [impl_firingOrder_L4] at hm347
   refine wpL_seq <| wpL_seq <| wpL_region ?_
   refine sY hf hs rfl rfl rfl (Y_load_blk rfl rfl (i := 1) rfl rfl ag28) ?_; clear hf; intro a hf
   refine sY hf hs rfl rfl rfl (Y_lenH rfl rfl el28 hn231) ?_; clear hf; intro a hf
   refine sY hf hs rfl rfl rfl (Y_fieldAddr rfl rfl fo55_0) ?_; clear hf; intro a hf
   refine sY hf hs rfl rfl rfl (Y_load_blk rfl rfl (i := 0) rfl rfl ag2) ?_; clear hf; intro a hf
   refine sY hf hs rfl rfl rfl (Y_lss rfl rfl rfl) ?_; clear hf; intro a hf
   refine wpO_nil ?_
   refine wpL_cond hf rfl (fun hb349 => ?_) (fun hb349 => ?_)
   ·have hm347 := bif_t hm347 hb349
    refine wpL_skip <| wpL_block0 <| wpL_seq <| wpL_region ?_
    refine sY hf hs rfl rfl rfl (Y_assign rfl rfl) ?_; clear hf; intro a hf
    refine wpO_nil <| wpL_seq <| wpL_seq <| wpL_region ?_
    refine sAlloc hf hs rfl rfl rfl rfl ti2 ?_; clear hf hs; intro a w b350 hs hf
    have hs : St _ W w [_, _, _, .blk b350 2 [.int .i64 0]] := hs
    refine sStore (i := 3) (us := [.int .i64 0]) hf hs rfl rfl rfl rfl rfl rfl ti2 rfl rfl rfl (Nat.le_of_ble_eq_true rfl) rfl ?_; clear hs; intro w hs
    have hs : St _ W w [_, _, _, _] := hs
    refine wpO_nil ?_
    obtain ⟨r424, hl425, hm347⟩ := bind_some hm347
    refine wpL_block (fun a w => ∃ x423 : Int, x423 = r424 ∧ Fr a 41 [(1, .pointer (some ⟨b1, 0, none⟩)), (4, .pointer (some ⟨b2, 0, none⟩)), (5, .int .i64 x423)] ∧ St [] W w [.blk b1 55 [.int .i64 ae.Events, .slice ad ae.Places.length af], .blk b2 28 [.slice A228 n229 c230], .row A228 n229 c230 2 1 (ints xs227)]) ?_ ?_
    ·refine wpL_loop (fun n a w => ∃ x398 : Int, ∃ x400 : Int, ∃ b399, impl_firingOrder_L5 F ae xs227 n x398 x400 = some r424 ∧ Fr a 41 [(1, .pointer (some ⟨b1, 0, none⟩)), (4, .pointer (some ⟨b2, 0, none⟩)), (5, .int .i64 x398), (6, .pointer (some ⟨b399, 0, none⟩))] ∧ St [] W w [.blk b1 55 [.int .i64 ae.Events, .slice ad ae.Places.length af], .blk b2 28 [.slice A228 n229 c230], .row A228 n229 c230 2 1 (ints xs227), .blk b399 2 [.int .i64 x400]]) F ?_ ?_ ?_
     ·exact ⟨(-1), 0, b350, hl425, (FrD.pick (FrD.pick (FrD.pick (FrD.pick hf.none hf rfl) hf rfl) hf rfl) hf rfl), hs⟩
     ·rintro a w ⟨x398, x400, b399, h0_, -, -⟩; simp [impl_firingOrder_L5] at h0_
     ·rintro n427 a w ⟨x398, x400, b399, hm426, hf, hs⟩
      rw [impl_firingOrder_L5] at hm426
      refine wpL_seq <| wpL_seq ?_
      obtain ⟨r430, hj431, hm426⟩ := bind_some hm426
      refine wpL_cut (fun a w => ∃ b429 : Bool, b429 = r430 ∧ Fr a 41 [(1, .pointer (some ⟨b1, 0, none⟩)), (4, .pointer (some ⟨b2, 0, none⟩)), (5, .int .i64 x398), (6, .pointer (some ⟨b399, 0, none⟩)), (20, .bool b429)] ∧ St [] W w [.blk b1 55 [.int .i64 ae.Events, .slice ad ae.Places.length af], .blk b2 28 [.slice A228 n229 c230], .row A228 n229 c230 2 1 (ints xs227), .blk b399 2 [.int .i64 x400]]) ?_ ?_
      ·refine wpL_region ?_
       refine sY hf hs rfl rfl rfl (Y_load_blk rfl rfl (i := 3) rfl rfl ag2) ?_; clear hf; intro a hf
       refine sY hf hs rfl rfl rfl (Y_fieldAddr rfl rfl fo55_0) ?_; clear hf; intro a hf
       refine sY hf hs rfl rfl rfl (Y_load_blk rfl rfl (i := 0) rfl rfl ag2) ?_; clear hf; intro a hf
       refine sY hf hs rfl rfl rfl (Y_lss rfl rfl rfl) ?_; clear hf; intro a hf
       refine sY hf hs rfl rfl rfl (Y_move rfl rfl) ?_; clear hf; intro a hf
       refine bsplit (decide (x400 < ae.Events)) (fun hb432 => ?_) (fun hb432 => ?_)
       ·have hj431 := bif_t hj431 hb432
        refine sYg hf hs rfl rfl rfl (congrArg (fun b => some (Value.bool b)) hb432) rfl rfl rfl (Y_move rfl rfl) ?_; clear hf; intro a hf
        refine sYg hf hs rfl rfl rfl (congrArg (fun b => some (Value.bool b)) hb432) rfl rfl rfl (Y_lss rfl rfl rfl) ?_; clear hf; intro a hf
        refine sY hf hs rfl rfl rfl (Y_pickT rfl (congrArg (fun b => some (Value.bool b)) hb432) rfl) ?_; clear hf; intro a hf
        refine wpO_nil ?_
        refine wpL_nil (then_normal ?_)
        exact ⟨(decide (x398 < 0)), Option.some.inj hj431, (FrD.pick (FrD.pick (FrD.pick (FrD.pick (FrD.pick hf.none hf rfl) hf rfl) hf rfl) hf rfl) hf rfl), hs⟩
       ·have hj431 := bif_f hj431 hb432
        refine sNo hf rfl rfl rfl (congrArg (fun b => some (Value.bool b)) hb432) rfl rfl rfl ?_; clear hf; intro a hf
        refine sNo hf rfl rfl rfl (congrArg (fun b => some (Value.bool b)) hb432) rfl rfl rfl ?_; clear hf; intro a hf
        refine sY hf hs rfl rfl rfl (Y_pickF rfl (congrArg (fun b => some (Value.bool b)) hb432) rfl) ?_; clear hf; intro a hf
        refine wpO_nil ?_
        refine wpL_nil (then_normal ?_)
        exact ⟨false, Option.some.inj hj431, (FrD.pick (FrD.pick (FrD.pick (FrD.pick (FrD.pick hf.none hf rfl) hf rfl) hf rfl) hf rfl) hf rfl), hs⟩
      ·rintro a w ⟨b429, hr_, hf, hs⟩
       subst hr_
       try dsimp only at hm426
       refine wpL_cond hf rfl (fun hb433 => ?_) (fun hb433 => ?_)
       ·have hm426 := bif_t hm426 hb433
        refine wpL_skip <| wpL_seq ?_
        obtain ⟨r441, hj442, hm426⟩ := bind_some hm426
        refine wpL_block (fun a w => ∃ x440 : Int, x440 = r441 ∧ Fr a 41 [(1, .pointer (some ⟨b1, 0, none⟩)), (4, .pointer (some ⟨b2, 0, none⟩)), (5, .int .i64 x440), (6, .pointer (some ⟨b399, 0, none⟩))] ∧ St [] W w [.blk b1 55 [.int .i64 ae.Events, .slice ad ae.Places.length af], .blk b2 28 [.slice A228 n229 c230], .row A228 n229 c230 2 1 (ints xs227), .blk b399 2 [.int .i64 x400]]) ?_ ?_
        ·refine wpL_seq <| wpL_seq <| wpL_region ?_
         refine sY hf hs rfl rfl rfl (Y_load_blk rfl rfl (i := 1) rfl rfl ag28) ?_; clear hf; intro a hf
         refine sY hf hs rfl rfl rfl (Y_load_blk rfl rfl (i := 3) rfl rfl ag2) ?_; clear hf; intro a hf
         obtain ⟨r443, hc444, hj442⟩ := bind_some hj442
         refine sCall hf rfl rfl rfl rfl (cap := []) rfl rfl en163 (slices_Contains_int64_ok F xs227 A228 n229 c230 hn231 x400 _ _ hc444 (hs.rd (i := 2) rfl)) ?_; clear hf
         rintro _ w ⟨rfl, hs1⟩ a hf
         have hs : St _ W w [_, _, _, _] := hs.ext hs1.below
         clear hs1
         refine wpO_nil ?_
         refine wpL_cond hf rfl (fun hb445 => ?_) (fun hb445 => ?_)
         ·have hj442 := bif_t hj442 hb445
          refine wpL_exit (Qb_exit ?_)
          exact ⟨x398, Option.some.inj hj442, (FrD.pick (FrD.pick (FrD.pick (FrD.pick hf.none hf rfl) hf rfl) hf rfl) hf rfl), hs⟩
         ·have hj442 := bif_f hj442 hb445
          refine wpL_skip <| wpL_seq <| wpL_region ?_
          refine sY hf hs rfl rfl rfl (Y_fieldAddr rfl rfl fo55_1) ?_; clear hf; intro a hf
          refine sY hf hs rfl rfl rfl (Y_load_blk rfl rfl (i := 0) rfl rfl ag53) ?_; clear hf; intro a hf
          refine sY hf hs rfl rfl rfl (Y_makeFunc (us := []) (vs := [.pointer (some ⟨b399, 0, none⟩), .pointer (some ⟨b2, 0, none⟩)]) rfl rfl rfl) ?_; clear hf; intro a hf
          obtain ⟨r446, hc447, hj442⟩ := bind_some hj442
          refine sCall hf rfl rfl rfl rfl (cap := []) rfl rfl en182 (slices_ContainsFunc_Place_ok F ae.Places ad ae.Places.length af rfl (fun x0 => impl_firingOrder_c1 F x0 x400 xs227) 209 ([.pointer (some ⟨b399, 0, none⟩), .pointer (some ⟨b2, 0, none⟩)]) _ _ hc447 (au.at hs) (fun x0 r w' hm_ hb => impl_firingOrder_c1_ok F x0 b399 x400 b2 xs227 A228 n229 c230 hn231 r w' hm_ ((hs.pb (i := 3) rfl).below hb (Nat.le_refl _)) ((hs.rd (i := 2) rfl).below hb (Nat.le_refl _)) ((hs.pb (i := 1) rfl).below hb (Nat.le_refl _))) en209) ?_; clear hf
          rintro _ w ⟨rfl, hs1⟩ a hf
          have hs : St _ W w [_, _, _, _] := hs.ext hs1.below
          clear hs1
          refine sY hf hs rfl rfl rfl (Y_assign rfl rfl) ?_; clear hf; intro a hf
          refine wpO_nil <| wpL_seq <| wpL_region ?_
          refine sY hf hs rfl rfl rfl (Y_move rfl rfl) ?_; clear hf; intro a hf
          refine sY hf hs rfl rfl rfl (Y_not rfl rfl) ?_; clear hf; intro a hf
          refine wpO_nil ?_
          refine wpL_cond hf rfl (fun hb448 => ?_) (fun hb448 => ?_)
          ·have hj442 := bif_t hj442 hb448
           refine wpL_region ?_
           refine sY hf hs rfl rfl rfl (Y_load_blk rfl rfl (i := 3) rfl rfl ag2) ?_; clear hf; intro a hf
           refine sY hf hs rfl rfl rfl (Y_assign rfl rfl) ?_; clear hf; intro a hf
           refine wpO_nil ?_
           refine wpL_nil (Qb_normal ?_)
           exact ⟨x400, Option.some.inj hj442, (FrD.pick (FrD.pick (FrD.pick (FrD.pick hf.none hf rfl) hf rfl) hf rfl) hf rfl), hs⟩
          ·have hj442 := bif_f hj442 hb448
           refine wpL_skip ?_
           refine wpL_nil (Qb_normal ?_)
           exact ⟨x398, Option.some.inj hj442, (FrD.pick (FrD.pick (FrD.pick (FrD.pick hf.none hf rfl) hf rfl) hf rfl) hf rfl), hs⟩
        ·rintro a w ⟨x440, hr_, hf, hs⟩
         subst hr_
         try dsimp only at hm426
         refine wpL_seq <| wpL_seq <| wpL_region ?_
         refine sY hf hs rfl rfl rfl (Y_load_blk rfl rfl (i := 3) rfl rfl ag2) ?_; clear hf; intro a hf
         refine wpO_nil <| wpL_region ?_
         refine sAlloc hf hs rfl rfl rfl rfl ti2 ?_; clear hf hs; intro a w b449 hs hf
         have hs : St _ W w [_, _, _, _, .blk b449 2 [.int .i64 0]] := hs
         refine sStore (i := 4) (us := [.int .i64 x400]) hf hs rfl rfl rfl rfl rfl rfl ti2 rfl rfl rfl (Nat.le_of_ble_eq_true rfl) rfl ?_; clear hs; intro w hs
         have hs : St _ W w [_, _, _, _, .blk b449 2 [.int .i64 x400]] := hs
         refine wpO_nil <| wpL_region ?_
         refine sY hf hs rfl rfl rfl (Y_load_blk rfl rfl (i := 4) rfl rfl ag2) ?_; clear hf; intro a hf
         refine sY hf hs rfl rfl rfl (Y_add rfl rfl rfl) ?_; clear hf; intro a hf
         refine sStore (i := 4) (us := [.int .i64 (IntKind.i64.wrap (x400 + 1))]) hf hs rfl rfl rfl rfl rfl rfl ti2 rfl rfl rfl (Nat.le_of_ble_eq_true rfl) rfl ?_; clear hs; intro w hs
         have hs : St _ W w [_, _, _, _, .blk b449 2 [.int .i64 (IntKind.i64.wrap (x400 + 1))]] := hs
         refine wpO_nil ?_
         refine wpL_nil (Ql_normal ?_)
         exact ⟨x440, (IntKind.i64.wrap (x400 + 1)), b449, hm426, (FrD.pick (FrD.pick (FrD.pick (FrD.pick hf.none hf rfl) hf rfl) hf rfl) hf rfl), hs.sel [0, 1, 2, 4] (by decide)⟩
       ·have hm426 := bif_f hm426 hb433
        refine wpL_exit (Ql_exit (Qb_exit ?_))
        exact ⟨x398, Option.some.inj hm426, (FrD.pick (FrD.pick (FrD.pick hf.none hf rfl) hf rfl) hf rfl), hs.sel [0, 1, 2] (by decide)⟩
    ·rintro a w ⟨x423, hr_, hf, hs⟩
     subst hr_
     try dsimp only at hm347
     refine wpL_seq <| wpL_seq <| wpL_region ?_
     refine sY hf hs rfl rfl rfl (Y_move rfl rfl) ?_; clear hf; intro a hf
     refine sY hf hs rfl rfl rfl (Y_lss rfl rfl rfl) ?_; clear hf; intro a hf
     refine wpO_nil ?_
     refine wpL_cond hf rfl (fun hb450 => ?_) (fun hb450 => ?_)
     ·have hm347 := bif_t hm347 hb450
      refine wpL_seq <| wpL_region ?_
      refine sY hf hs rfl rfl rfl (Y_assign rfl rfl) ?_; clear hf; intro a hf
      refine sY hf hs rfl rfl rfl (Y_assign rfl rfl) ?_; clear hf; intro a hf
      refine wpO_nil ?_
      have hs : St [] W _ [.blk b1 55 [.int .i64 ae.Events, .slice ad ae.Places.length af], .blk b2 28 [.slice A228 n229 c230], .row A228 n229 c230 2 1 (ints xs227), .row none 0 0 2 1 (ints ([] : List Int))] := hs.addNil 2 1
      obtain rfl := Option.some.inj hm347
      try dsimp only at hm
      obtain rfl := Option.some.inj hm
      refine wpL_ret (Qb_ret (Ql_ret (Qb_ret (ret_tmp2 rfl hf rfl rfl ?_))))
      exact ⟨_, rfl, none, 0, 0, rfl, rfl, hs.sel [3] (by decide)⟩
     ·have hm347 := bif_f hm347 hb450
      refine wpL_skip <| wpL_region ?_
      refine sY hf hs rfl rfl rfl (Y_load_blk rfl rfl (i := 1) rfl rfl ag28) ?_; clear hf; intro a hf
      refine sY hf hs rfl rfl rfl (Y_move rfl rfl) ?_; clear hf; intro a hf
      refine sBuildSlice (parts := [(0, .tmp 37)]) (vs := [.int .i64 x423]) (cells := [.int .i64 x423]) hf hs rfl rfl rfl rfl rfl el28 ti2 rfl rfl rfl rfl ?_; clear hf hs; intro a w A452 hs hA453 hf
      have hs : St _ W w [_, _, _, .row A452 1 1 2 1 (ints ([x423]))] := hs
      obtain ⟨xs456, ha457, hm347⟩ := bind_some hm347
      refine sAppendL (i := 2) (xs := xs227) (ys := [x423]) (enc := ints) hf hs rfl rfl rfl rfl rfl rfl hn231 rfl rfl ha457 el28 ti2 rfl rfl rfl (hs.rd (i := 3) rfl) (Nat.succ_pos _) ints_len1 ints_append ints_one ?_; clear hf hs; intro a w A454 c455 hs hf
      have hs : St _ W w [_, _, .row A454 xs456.length c455 2 1 (ints xs456), _] := hs
      refine sStore (i := 1) (us := [.slice A454 xs456.length c455]) hf hs rfl rfl rfl rfl rfl rfl ti28 rfl rfl rfl (Nat.le_of_ble_eq_true rfl) rfl ?_; clear hs; intro w hs
      have hs : St _ W w [_, .blk b2 28 [.slice A454 xs456.length c455], _, _] := hs
      refine wpO_nil ?_
      refine wpL_nil (Qb_normal ?_)
      refine wpL_nil (Ql_normal ?_)
      exact ⟨xs456, A454, xs456.length, c455, hm347, rfl, (FrD.pick (FrD.pick hf.none hf rfl) hf rfl), hs.sel [0, 1, 2] (by decide)⟩
   ·have hm347 := bif_f hm347 hb349
    refine wpL_exit (Ql_exit (Qb_exit ?_))
    exact ⟨xs227, A228, n229, c230, Option.some.inj hm347, hn231, (FrD.pick hf.none hf rfl), hs.sel [1, 2] (by decide)⟩
 ·rintro a w ⟨xs340, A341, n342, c343, hr_, hn344, hf, hs⟩
  subst hr_
  try dsimp only at hm
  refine wpL_seq <| wpL_region ?_
  refine sY hf hs rfl rfl rfl (Y_load_blk rfl rfl (i := 0) rfl rfl ag28) ?_; clear hf; intro a hf
  refine sY hf hs rfl rfl rfl (Y_assign rfl rfl) ?_; clear hf; intro a hf
  refine sY hf hs rfl rfl rfl (Y_assign rfl rfl) ?_; clear hf; intro a hf
  refine wpO_nil ?_
  obtain rfl := Option.some.inj hm
  refine wpL_ret (ret_tmp2 rfl hf rfl rfl ?_)
  exact ⟨_, rfl, A341, n342, c343, rfl, hn344, hs.sel [1] (by decide)⟩

set_option maxRecDepth 100000 in
theorem impl_isLive_ok (F : Nat) (ae : GEventGraph) (ad : Option Addr) (ap af : Nat) (aw : ap = ae.Places.length) (r : Bool) (W : World) (hm : impl_isLive F ae = some r) (au : Rd W ad ((recs GPlace.cells) ae.Places)) :
  Calls Try.prog 174 [.agg #[.int .i64 ae.Events, .slice ad ap af]].toArray W fun e w' => ∃ v, e = .returned v ∧ v = .bool r ∧ St [] W w' [] := by
 subst aw
 unfold impl_isLive at hm
 refine Calls.enter (N := 11) Try.func174 rfl rfl rfl (fun a hf => ?_)
 have hs := St.start W
 obtain ⟨w, hw_⟩ : ∃ w, w = W := ⟨W, rfl⟩
 clear hw_ w
 refine wpL_seq <| wpL_region ?_
 refine sBox hf hs rfl rfl rfl rfl rfl (cs := [.int .i64 ae.Events, .slice ad ae.Places.length af]) rfl ?_; clear hf hs; intro a w b1 hs hf
 have hs : St _ W w [_] := hs
 refine sY hf hs rfl rfl rfl (Y_assign rfl rfl) ?_; clear hf; intro a hf
 refine wpO_nil <| wpL_seq <| wpL_region ?_
 refine sY hf hs rfl rfl rfl (Y_load_blkS rfl rfl (i := 0) rfl ag55 ti55 rfl) ?_; clear hf; intro a hf
 obtain ⟨r2, hc3, hm⟩ := bind_some hm
 refine sCall hf rfl rfl rfl rfl (cap := []) rfl rfl en175 (impl_firingOrder_ok F ae ad ae.Places.length af rfl _ _ hc3 (au.at hs)) ?_; clear hf
 rintro _ w ⟨A4, n5, c6, rfl, hn7, hs1⟩ a hf
 have hs : St _ W w [_, .row A4 n5 c6 2 1 (ints r2.1)] := hs.join hs1
 clear hs1
 refine sY hf hs rfl rfl rfl (Y_move rfl rfl) ?_; clear hf; intro a hf
 refine sY hf hs rfl rfl rfl (Y_extract rfl rfl rfl) ?_; clear hf; intro a hf
 refine sY hf hs rfl rfl rfl (Y_extract rfl rfl rfl) ?_; clear hf; intro a hf
 refine sY hf hs rfl rfl rfl (Y_assign rfl rfl) ?_; clear hf; intro a hf
 refine sY hf hs rfl rfl rfl (Y_assign rfl rfl) ?_; clear hf; intro a hf
 refine wpO_nil <| wpL_seq <| wpL_region ?_
 refine sY hf hs rfl rfl rfl (Y_move rfl rfl) ?_; clear hf; intro a hf
 refine sY hf hs rfl rfl rfl (Y_assign rfl rfl) ?_; clear hf; intro a hf
 refine wpO_nil ?_
 obtain rfl := Option.some.inj hm
 refine wpL_ret (ret_tmp rfl hf rfl ?_)
 exact ⟨_, rfl, rfl, hs.sel [] (by decide)⟩

set_option maxRecDepth 100000 in
theorem impl_checkDue_ok (F : Nat) (ae : GEventGraph) (ad : Option Addr) (ap af : Nat) (aw : ap = ae.Places.length) (aA : List (List Int)) (ay : Option Addr) (aE aB : Nat) (aN : aE = aA.length) (r : Int) (W : World) (hm : impl_checkDue F ae aA = some r) (au : Rd W ad ((recs GPlace.cells) ae.Places)) (aG : RdM W ay aA) :
  Calls Try.prog 101 [.agg #[.int .i64 ae.Events, .slice ad ap af], .slice ay aE aB].toArray W fun e w' => ∃ v, e = .returned v ∧ v = .int .i64 r ∧ St [] W w' [] := by
 subst aw
 subst aN
 unfold impl_checkDue at hm
 refine Calls.enter (N := 18) Try.func101 rfl rfl rfl (fun a hf => ?_)
 have hs := St.start W
 obtain ⟨w, hw_⟩ : ∃ w, w = W := ⟨W, rfl⟩
 clear hw_ w
 refine wpL_seq <| wpL_region ?_
 refine sBox hf hs rfl rfl rfl rfl rfl (cs := [.int .i64 ae.Events, .slice ad ae.Places.length af]) rfl ?_; clear hf hs; intro a w b1 hs hf
 have hs : St _ W w [_] := hs
 refine sY hf hs rfl rfl rfl (Y_assign rfl rfl) ?_; clear hf; intro a hf
 refine wpO_nil <| wpL_seq <| wpL_block0 <| wpL_seq <| wpL_region ?_
 refine sY hf hs rfl rfl rfl (Y_load_blkS rfl rfl (i := 0) rfl ag55 ti55 rfl) ?_; clear hf; intro a hf
 obtain ⟨r2, hc3, hm⟩ := bind_some hm
 refine sCall hf rfl rfl rfl rfl (cap := []) rfl rfl en110 (impl_IsEventGraph_ok F ae ad ae.Places.length af rfl _ _ hc3 (au.at hs)) ?_; clear hf
 rintro _ w ⟨rfl, hs1⟩ a hf
 have hs : St _ W w [_] := hs.ext hs1.below
 clear hs1
 refine sY hf hs rfl rfl rfl (Y_not rfl rfl) ?_; clear hf; intro a hf
 refine sY hf hs rfl rfl rfl (Y_assign rfl rfl) ?_; clear hf; intro a hf
 refine wpO_nil ?_
 refine wpL_cond hf rfl (fun hb4 => ?_) (fun hb4 => ?_)
 ·have hm := bif_t hm hb4
  refine wpL_seq <| wpL_region ?_
  refine sY hf hs rfl rfl rfl (Y_assign rfl rfl) ?_; clear hf; intro a hf
  refine wpO_nil ?_
  obtain rfl := Option.some.inj hm
  refine wpL_ret (Qb_ret (ret_tmp rfl hf rfl ?_))
  exact ⟨_, rfl, rfl, hs.sel [] (by decide)⟩
 ·have hm := bif_f hm hb4
  refine wpL_seq <| wpL_region ?_
  refine sY hf hs rfl rfl rfl (Y_load_blkS rfl rfl (i := 0) rfl ag55 ti55 rfl) ?_; clear hf; intro a hf
  refine sY hf hs rfl rfl rfl (Y_move rfl rfl) ?_; clear hf; intro a hf
  obtain ⟨r5, hc6, hm⟩ := bind_some hm
  refine sCall hf rfl rfl rfl rfl (cap := []) rfl rfl en173 (impl_isTimeTable_ok F ae ad ae.Places.length af rfl aA ay aA.length aB rfl _ _ hc6 (au.at hs) (aG.at hs)) ?_; clear hf
  rintro _ w ⟨rfl, hs1⟩ a hf
  have hs : St _ W w [_] := hs.ext hs1.below
  clear hs1
  refine sY hf hs rfl rfl rfl (Y_not rfl rfl) ?_; clear hf; intro a hf
  refine sY hf hs rfl rfl rfl (Y_assign rfl rfl) ?_; clear hf; intro a hf
  refine wpO_nil ?_
  refine wpL_cond hf rfl (fun hb7 => ?_) (fun hb7 => ?_)
  ·have hm := bif_t hm hb7
   refine wpL_seq <| wpL_region ?_
   refine sY hf hs rfl rfl rfl (Y_assign rfl rfl) ?_; clear hf; intro a hf
   refine wpO_nil ?_
   obtain rfl := Option.some.inj hm
   refine wpL_ret (Qb_ret (ret_tmp rfl hf rfl ?_))
   exact ⟨_, rfl, rfl, hs.sel [] (by decide)⟩
  ·have hm := bif_f hm hb7
   refine wpL_seq <| wpL_region ?_
   refine sY hf hs rfl rfl rfl (Y_load_blkS rfl rfl (i := 0) rfl ag55 ti55 rfl) ?_; clear hf; intro a hf
   obtain ⟨r8, hc9, hm⟩ := bind_some hm
   refine sCall hf rfl rfl rfl rfl (cap := []) rfl rfl en174 (impl_isLive_ok F ae ad ae.Places.length af rfl _ _ hc9 (au.at hs)) ?_; clear hf
   rintro _ w ⟨rfl, hs1⟩ a hf
   have hs : St _ W w [_] := hs.ext hs1.below
   clear hs1
   refine sY hf hs rfl rfl rfl (Y_not rfl rfl) ?_; clear hf; intro a hf
   refine sY hf hs rfl rfl rfl (Y_assign rfl rfl) ?_; clear hf; intro a hf
   refine wpO_nil ?_
   refine wpL_cond hf rfl (fun hb10 => ?_) (fun hb10 => ?_)
   ·have hm := bif_t hm hb10
    refine wpL_seq <| wpL_region ?_
    refine sY hf hs rfl rfl rfl (Y_assign rfl rfl) ?_; clear hf; intro a hf
    refine wpO_nil ?_
    obtain rfl := Option.some.inj hm
    refine wpL_ret (Qb_ret (ret_tmp rfl hf rfl ?_))
    exact ⟨_, rfl, rfl, hs.sel [] (by decide)⟩
   ·have hm := bif_f hm hb10
    refine wpL_skip ?_
    refine wpL_nil (Qb_normal ?_)
    refine wpL_seq <| wpL_region ?_
    refine sY hf hs rfl rfl rfl (Y_assign rfl rfl) ?_; clear hf; intro a hf
    refine wpO_nil ?_
    obtain rfl := Option.some.inj hm
    refine wpL_ret (ret_tmp rfl hf rfl ?_)
    exact ⟨_, rfl, rfl, hs.sel [] (by decide)⟩

set_option maxRecDepth 100000 in
theorem slices_Clone_int64_ok (F : Nat) (aK : List Int) (aF : Option Addr) (aR aU : Nat) (bl : aR = aK.length) (r : List Int) (W : World) (hm : slices_Clone_int64 F aK = some r) (aZ : Rd W aF (ints aK)) :
  Calls Try.prog 120 [.slice aF aR aU].toArray W fun e w' => ∃ v, e = .returned v ∧ ∃ A7, ∃ n8, ∃ c9, v = .slice A7 n8 c9 ∧ n8 = r.length ∧ St [] W w' [.row A7 n8 c9 2 1 (ints r)] := by
 subst bl
 cases aF with
 | none =>
  obtain rfl : aK = [] := rd_none_ints aZ
  have hm : some ([] : List Int) = some r := hm
  refine Calls.enter (N := 8) Try.func120 rfl rfl rfl (fun a hf => ?_)
  have hs := St.start W
  obtain ⟨w, hw_⟩ : ∃ w, w = W := ⟨W, rfl⟩
  clear hw_ w
  refine wpL_seq <| wpL_region ?_
  refine sY hf hs rfl rfl rfl (Y_assign rfl rfl) ?_; clear hf; intro a hf
  refine wpO_nil <| wpL_seq <| wpL_seq <| wpL_region ?_
  refine sY hf hs rfl rfl rfl (Y_move rfl rfl) ?_; clear hf; intro a hf
  refine sY hf hs rfl rfl rfl (Y_eqnil rfl rfl rfl un28) ?_; clear hf; intro a hf
  refine wpO_nil ?_
  refine wpL_cond hf rfl (fun _ => ?_) (fun e => absurd e (by decide))
  refine wpL_seq <| wpL_region ?_
  refine sY hf hs rfl rfl rfl (Y_assign rfl rfl) ?_; clear hf; intro a hf
  refine wpO_nil ?_
  have hs : St [] W _ [.row none 0 0 2 1 (ints ([] : List Int))] := hs.addNil 2 1
  obtain rfl := Option.some.inj hm
  refine wpL_ret (ret_tmp rfl hf rfl ?_)
  exact ⟨_, rfl, none, 0, 0, rfl, rfl, hs⟩
 | some a_ =>
  unfold slices_Clone_int64 at hm
  refine Calls.enter (N := 8) Try.func120 rfl rfl rfl (fun a hf => ?_)
  have hs := St.start W
  obtain ⟨w, hw_⟩ : ∃ w, w = W := ⟨W, rfl⟩
  clear hw_ w
  refine wpL_seq <| wpL_region ?_
  refine sY hf hs rfl rfl rfl (Y_assign rfl rfl) ?_; clear hf; intro a hf
  refine wpO_nil <| wpL_seq <| wpL_seq <| wpL_region ?_
  refine sY hf hs rfl rfl rfl (Y_move rfl rfl) ?_; clear hf; intro a hf
  refine sY hf hs rfl rfl rfl (Y_eqnil rfl rfl rfl un28) ?_; clear hf; intro a hf
  refine wpO_nil ?_
  refine wpL_cond hf rfl (fun e => absurd e Bool.false_ne_true) (fun _ => ?_)
  refine wpL_skip <| wpL_seq <| wpL_region ?_
  refine sEmpty hf hs rfl rfl rfl rfl el28 ti2 ?_; clear hf hs; intro a w A1 hs hf
  have hs : St _ W w [.row A1 0 0 2 1 (ints ([] : List Int))] := hs
  refine sY hf hs rfl rfl rfl (Y_move rfl rfl) ?_; clear hf; intro a hf
  obtain ⟨xs5, ha6, hm⟩ := bind_some hm
  refine sAppendG (i := 0) (xs := ([] : List Int)) (ys := aK) (enc := ints) hf hs rfl rfl rfl rfl rfl rfl rfl rfl rfl ha6 el28 ti2 rfl rfl rfl (aZ.at hs) ints_len1 ints_append ints_one ?_; clear hf hs; intro a w A3 c4 hs hf
  have hs : St _ W w [.row A3 xs5.length c4 2 1 (ints xs5)] := hs
  refine sY hf hs rfl rfl rfl (Y_assign rfl rfl) ?_; clear hf; intro a hf
  refine wpO_nil ?_
  obtain rfl := Option.some.inj hm
  refine wpL_ret (ret_tmp rfl hf rfl ?_)
  exact ⟨_, rfl, A3, xs5.length, c4, rfl, rfl, hs⟩

set_option maxRecDepth 100000 in
theorem impl_cloneMatrix_ok (F : Nat) (bj : List (List Int)) (aQ : Option Addr) (bo bk : Nat) (bz : bo = bj.length) (r : List (List Int)) (W : World) (hm : impl_cloneMatrix F bj = some r) (bA : RdM W aQ bj) :
  Calls Try.prog 176 [.slice aQ bo bk].toArray W fun e w' => ∃ v, e = .returned v ∧ ∃ A125, ∃ n126, ∃ c127, ∃ vs129, v = .slice A125 n126 c127 ∧ n126 = r.length ∧ St [] W w' [.mat A125 n126 c127 28 2 vs129 r] := by
 subst bz
 unfold impl_cloneMatrix at hm
 refine Calls.enter (N := 23) Try.func176 rfl rfl rfl (fun a hf => ?_)
 have hs := St.start W
 obtain ⟨w, hw_⟩ : ∃ w, w = W := ⟨W, rfl⟩
 clear hw_ w
 refine wpL_seq <| wpL_region ?_
 refine sY hf hs rfl rfl rfl (Y_assign rfl rfl) ?_; clear hf; intro a hf
 refine wpO_nil <| wpL_seq <| wpL_region ?_
 refine sY hf hs rfl rfl rfl (Y_move rfl rfl) ?_; clear hf; intro a hf
 refine sY hf hs rfl rfl rfl (Y_lenH rfl rfl el40 rfl) ?_; clear hf; intro a hf
 obtain ⟨ms3, hk2, hm⟩ := bind_some hm
 refine sMakeM 2 hf hs rfl rfl rfl rfl rfl hk2 el40 ti28 rfl ?_; clear hf hs; intro a w A1 vs4 hs hf
 have hs : St _ W w [.mat A1 ms3.length ms3.length 28 2 vs4 ms3] := hs
 refine sY hf hs rfl rfl rfl (Y_assign rfl rfl) ?_; clear hf; intro a hf
 refine wpO_nil <| wpL_seq <| wpL_seq <| wpL_region ?_
 refine sY hf hs rfl rfl rfl (Y_move rfl rfl) ?_; clear hf; intro a hf
 refine sY hf hs rfl rfl rfl (Y_lenH rfl rfl el40 rfl) ?_; clear hf; intro a hf
 refine sY hf hs rfl rfl rfl (Y_move rfl rfl) ?_; clear hf; intro a hf
 refine wpO_nil ?_
 obtain ⟨r97, hl98, hm⟩ := bind_some hm
 refine wpL_block (fun a w => ∃ ms91 : List (List Int), ∃ A92, ∃ n93, ∃ c94, ∃ vs96, ms91 = r97 ∧ n93 = ms91.length ∧ Fr a 23 [(3, .slice A92 n93 c94)] ∧ St [] W w [.mat A92 n93 c94 28 2 vs96 ms91]) ?_ ?_
 ·refine wpL_loop (fun n a w => ∃ ms60 : List (List Int), ∃ x66 : Int, ∃ A61, ∃ n62, ∃ c63, ∃ vs65, impl_cloneMatrix_L1 F bj n ms60 x66 = some r97 ∧ n62 = ms60.length ∧ Fr a 23 [(3, .slice A61 n62 c63), (9, .slice aQ bj.length bk), (10, .int .i64 (bj.length : Int)), (11, .int .i64 x66)] ∧ St [] W w [.mat A61 n62 c63 28 2 vs65 ms60]) F ?_ ?_ ?_
  ·exact ⟨ms3, 0, A1, ms3.length, ms3.length, vs4, hl98, rfl, (FrD.pick (FrD.pick (FrD.pick (FrD.pick hf.none hf rfl) hf rfl) hf rfl) hf rfl), hs⟩
  ·rintro a w ⟨ms60, x66, A61, n62, c63, vs65, h0_, -, -, -⟩; simp [impl_cloneMatrix_L1] at h0_
  ·rintro n100 a w ⟨ms60, x66, A61, n62, c63, vs65, hm99, hn64, hf, hs⟩
   rw [impl_cloneMatrix_L1] at hm99
   refine wpL_seq <| wpL_region ?_
   refine sY hf hs rfl rfl rfl (Y_lss rfl rfl rfl) ?_; clear hf; intro a hf
   refine wpO_nil <| wpL_seq ?_
   refine wpL_cond hf rfl (fun hb101 => ?_) (fun hb101 => ?_)
   ·have hm99 := bif_t hm99 hb101
    refine wpL_skip <| wpL_seq <| wpL_block0 <| wpL_seq <| wpL_region ?_
    refine sY hf hs rfl rfl rfl (Y_move rfl rfl) ?_; clear hf; intro a hf
    obtain ⟨q102, hi103, hm99⟩ := bind_some hm99
    obtain ⟨hi103a, hi103b, hi103q⟩ := idx_some hi103
    obtain ⟨vs104, hv105, hr106⟩ := id bA
    obtain ⟨A107, c108, hv109, hR110⟩ := hr106 _ _ hi103q
    refine sY hf hs rfl rfl rfl (Y_index rfl rfl rfl el40 ti28 (Rd.isAt hv105 hv109) hi103a hi103b) ?_; clear hf; intro a hf
    refine sY hf hs rfl rfl rfl (Y_load_rd rfl rfl (fun w hs => hv105.at hs) (at1 hv109) ag28) ?_; clear hf; intro a hf
    refine sY hf hs rfl rfl rfl (Y_assign rfl rfl) ?_; clear hf; intro a hf
    refine sY hf hs rfl rfl rfl (Y_assign rfl rfl) ?_; clear hf; intro a hf
    refine wpO_nil <| wpL_region ?_
    refine sY hf hs rfl rfl rfl (Y_move rfl rfl) ?_; clear hf; intro a hf
    refine sY hf hs rfl rfl rfl (Y_move rfl rfl) ?_; clear hf; intro a hf
    refine sY hf hs rfl rfl rfl (Y_move rfl rfl) ?_; clear hf; intro a hf
    obtain ⟨r111, hc112, hm99⟩ := bind_some hm99
    refine sCall hf rfl rfl rfl rfl (cap := []) rfl rfl en120 (slices_Clone_int64_ok F q102 A107 q102.length c108 rfl _ _ hc112 (hR110.at hs)) ?_; clear hf
    rintro _ w ⟨A113, n114, c115, rfl, hn116, hs1⟩ a hf
    have hs : St _ W w [_, .row A113 n114 c115 2 1 (ints r111)] := hs.join hs1
    clear hs1
    obtain ⟨q117, hi118, hm99⟩ := bind_some hm99
    obtain ⟨hi118a, hi118b, hi118q⟩ := idx_some hi118
    obtain ⟨A119, c120, hv121⟩ := hs.matRow (i := 0) rfl hi118q
    refine sY hf hs rfl rfl rfl (Y_index rfl rfl rfl el40 ti28 (Rd.isAt (hs.rdV (i := 0) rfl) hv121) hi118a (ltn hn64 hi118b)) ?_; clear hf; intro a hf
    obtain ⟨ms122, hu123, hm99⟩ := bind_some hm99
    refine sStoreRowM (i := 0) (j := 1) (k := x66) hf hs rfl rfl rfl rfl rfl rfl rfl (by decide) hn116 hu123 ti28 ?_; clear hs; intro w vs124 hs
    have hs : St _ W w [.mat A61 n62 c63 28 2 vs124 ms122] := hs
    refine wpO_nil ?_
    refine wpL_nil (Qb_normal ?_)
    refine wpL_region ?_
    refine sY hf hs rfl rfl rfl (Y_add rfl rfl rfl) ?_; clear hf; intro a hf
    refine sY hf hs rfl rfl rfl (Y_move rfl rfl) ?_; clear hf; intro a hf
    refine wpO_nil ?_
    refine wpL_nil (Ql_normal ?_)
    exact ⟨ms122, (IntKind.i64.wrap (x66 + 1)), A61, n62, c63, vs124, hm99, ((hn64).trans (upd_len hu123).symm), (FrD.pick (FrD.pick (FrD.pick (FrD.pick hf.none hf rfl) hf rfl) hf rfl) hf rfl), hs⟩
   ·have hm99 := bif_f hm99 hb101
    refine wpL_exit (Ql_exit (Qb_exit ?_))
    exact ⟨ms60, A61, n62, c63, vs65, Option.some.inj hm99, hn64, (FrD.pick hf.none hf rfl), hs⟩
 ·rintro a w ⟨ms91, A92, n93, c94, vs96, hr_, hn95, hf, hs⟩
  subst hr_
  try dsimp only at hm
  refine wpL_seq <| wpL_region ?_
  refine sY hf hs rfl rfl rfl (Y_move rfl rfl) ?_; clear hf; intro a hf
  refine sY hf hs rfl rfl rfl (Y_assign rfl rfl) ?_; clear hf; intro a hf
  refine wpO_nil ?_
  obtain rfl := Option.some.inj hm
  refine wpL_ret (ret_tmp rfl hf rfl ?_)
  exact ⟨_, rfl, A92, n93, c94, vs96, rfl, hn95, hs⟩

set_option maxHeartbeats 2000000 in
set_option maxRecDepth 100000 in
theorem impl_latestTimes_ok (F : Nat) (p0 : GEventGraph) (al : Option Addr) (aS am : Nat) (bC : aS = p0.Places.length) (p1 : List (List Int)) (aH : Option Addr) (bi aT : Nat) (bX : bi = p1.length) (r : List (List Int)) (W : World) (hm : impl_latestTimes F p0 p1 = some r) (aP : Rd W al ((recs GPlace.cells) p0.Places)) (bE : RdM W aH p1) :
  Calls Try.prog 102 [.agg #[.int .i64 p0.Events, .slice al aS am], .slice aH bi aT].toArray W fun e w' => ∃ v, e = .returned v ∧ ∃ A2003, ∃ n2004, ∃ c2005, ∃ vs2007, v = .slice A2003 n2004 c2005 ∧ n2004 = r.length ∧ St [] W w' [.mat A2003 n2004 c2005 28 2 vs2007 r] := by
 subst bC
 subst bX
 unfold impl_latestTimes at hm
 refine Calls.enterM (N := 83) Try.func102 rfl rfl rfl (fun a hf => ?_)
 have hs := St.start W
 obtain ⟨w, hw_⟩ : ∃ w, w = W := ⟨W, rfl⟩
 clear hw_ w
 have hs : St [] W W [.mks []] := hs.addMks
 refine wpL_seq <| wpL_region ?_
 refine sBox hf hs rfl rfl rfl rfl rfl (cs := [.int .i64 p0.Events, .slice al p0.Places.length am]) rfl ?_; clear hf hs; intro a w b1 hs hf
 have hs : St _ W w [_, .blk b1 55 [.int .i64 p0.Events, .slice al p0.Places.length am]] := hs
 refine sY hf hs rfl rfl rfl (Y_assign rfl rfl) ?_; clear hf; intro a hf
 refine wpO_nil <| wpL_seq <| wpL_region ?_
 refine sY hf hs rfl rfl rfl (Y_load_blkS rfl rfl (i := 1) rfl ag55 ti55 rfl) ?_; clear hf; intro a hf
 obtain ⟨r2, hc3, hm⟩ := bind_some hm
 refine sCall hf rfl rfl rfl rfl (cap := []) rfl rfl en175 (impl_firingOrder_ok F p0 al p0.Places.length am rfl _ _ hc3 (aP.at hs)) ?_; clear hf
 rintro _ w ⟨A4, n5, c6, rfl, hn7, hs1⟩ a hf
 have hs : St _ W w [_, _, .row A4 n5 c6 2 1 (ints r2.1)] := hs.join hs1
 clear hs1
 refine sY hf hs rfl rfl rfl (Y_move rfl rfl) ?_; clear hf; intro a hf
 refine sY hf hs rfl rfl rfl (Y_extract rfl rfl rfl) ?_; clear hf; intro a hf
 refine sY hf hs rfl rfl rfl (Y_extract rfl rfl rfl) ?_; clear hf; intro a hf
 refine sY hf hs rfl rfl rfl (Y_assign rfl rfl) ?_; clear hf; intro a hf
 refine sY hf hs rfl rfl rfl (Y_assign rfl rfl) ?_; clear hf; intro a hf
 refine wpO_nil <| wpL_seq <| wpL_region ?_
 refine sY hf hs rfl rfl rfl (Y_move rfl rfl) ?_; clear hf; intro a hf
 obtain ⟨r8, hc9, hm⟩ := bind_some hm
 refine sCall hf rfl rfl rfl rfl (cap := []) rfl rfl en176 (impl_cloneMatrix_ok F p1 aH p1.length aT rfl _ _ hc9 (bE.at hs)) ?_; clear hf
 rintro _ w ⟨A10, n11, c12, vs14, rfl, hn13, hs1⟩ a hf
 have hs : St _ W w [_, _, _, .mat A10 n11 c12 28 2 vs14 r8] := hs.join hs1
 clear hs1
 refine sAlloc hf hs rfl rfl rfl rfl ti40 ?_; clear hf hs; intro a w b15 hs hf
 have hs : St _ W w [_, _, _, _, .blk b15 40 [.slice none 0 0]] := hs
 refine sStore (i := 4) (us := [.slice A10 n11 c12]) hf hs rfl rfl rfl rfl rfl rfl ti40 rfl rfl rfl (Nat.le_of_ble_eq_true rfl) rfl ?_; clear hs; intro w hs
 have hs : St _ W w [_, _, _, _, .blk b15 40 [.slice A10 n11 c12]] := hs
 refine wpO_nil <| wpL_seq <| wpL_region ?_
 refine sY hf hs rfl rfl rfl (Y_move rfl rfl) ?_; clear hf; intro a hf
 refine sY hf hs rfl rfl rfl (Y_lenH rfl rfl el40 rfl) ?_; clear hf; intro a hf
 refine sAlloc hf hs rfl rfl rfl rfl ti2 ?_; clear hf hs; intro a w b16 hs hf
 have hs : St _ W w [_, _, _, _, _, .blk b16 2 [.int .i64 0]] := hs
 refine sStore (i := 5) (us := [.int .i64 (p1.length : Int)]) hf hs rfl rfl rfl rfl rfl rfl ti2 rfl rfl rfl (Nat.le_of_ble_eq_true rfl) rfl ?_; clear hs; intro w hs
 have hs : St _ W w [_, _, _, _, _, .blk b16 2 [.int .i64 (p1.length : Int)]] := hs
 refine wpO_nil <| wpL_seq <| wpL_seq <| wpL_region ?_
 refine sY hf hs rfl rfl rfl (Y_load_blk rfl rfl (i := 5) rfl rfl ag2) ?_; clear hf; intro a hf
 refine sY hf hs rfl rfl rfl (Y_sub rfl rfl rfl) ?_; clear hf; intro a hf
 refine sAlloc hf hs rfl rfl rfl rfl ti2 ?_; clear hf hs; intro a w b17 hs hf
 have hs : St _ W w [_, _, _, _, _, _, .blk b17 2 [.int .i64 0]] := hs
 refine sStore (i := 6) (us := [.int .i64 (IntKind.i64.wrap ((p1.length : Int) - 1))]) hf hs rfl rfl rfl rfl rfl rfl ti2 rfl rfl rfl (Nat.le_of_ble_eq_true rfl) rfl ?_; clear hs; intro w hs
 have hs : St _ W w [_, _, _, _, _, _, .blk b17 2 [.int .i64 (IntKind.i64.wrap ((p1.length : Int) - 1))]] := hs
 refine wpO_nil ?_
 obtain ⟨r1507, hl1508, hm⟩ := bind_some hm
 refine wpL_block (fun a w => ∃ ms1505 : List (List Int), ∃ bs1504 : List Nat, ms1505 = r1507 ∧ n11 = ms1505.length ∧ FrD (mkd bs1504) a 83 [(7, .pointer (some ⟨b15, 0, none⟩))] ∧ St [] W w [.mks bs1504, .blk b15 40 [.slice A10 n11 c12], .mat A10 n11 c12 28 2 vs14 ms1505]) ?_ ?_
 ·refine wpL_loop (fun n a w => ∃ ms1008 : List (List Int), ∃ x1011 : Int, ∃ bs1007 : List Nat, ∃ b1010, impl_latestTimes_L13 F p0 p1 r2 n ms1008 x1011 = some r1507 ∧ n11 = ms1008.length ∧ FrD (mkd bs1007) a 83 [(2, .pointer (some ⟨b1, 0, none⟩)), (5, .slice A4 n5 c6), (7, .pointer (some ⟨b15, 0, none⟩)), (8, .pointer (some ⟨b16, 0, none⟩)), (9, .pointer (some ⟨b1010, 0, none⟩))] ∧ St [] W w [.mks bs1007, .blk b1 55 [.int .i64 p0.Events, .slice al p0.Places.length am], .row A4 n5 c6 2 1 (ints r2.1), .blk b15 40 [.slice A10 n11 c12], .mat A10 n11 c12 28 2 vs14 ms1008, .blk b16 2 [.int .i64 (p1.length : Int)], .blk b1010 2 [.int .i64 x1011]]) F ?_ ?_ ?_
  ·exact ⟨r8, (IntKind.i64.wrap ((p1.length : Int) - 1)), [], b17, hl1508, hn13, (FrD.pick (FrD.pick (FrD.pick (FrD.pick (FrD.pick hf.none hf rfl) hf rfl) hf rfl) hf rfl) hf rfl), hs.sel [0, 1, 2, 4, 3, 5, 6] (by decide)⟩
  ·rintro a w ⟨ms1008, x1011, bs1007, b1010, h0_, -, -, -⟩; simp [impl_latestTimes_L13] at h0_
  ·rintro n1510 a w ⟨ms1008, x1011, bs1007, b1010, hm1509, hn1009, hf, hs⟩
   rw [impl_latestTimes_L13] at hm1509
   refine wpL_seq <| wpL_seq <| wpL_region ?_
   refine sY hf hs rfl rfl rfl (Y_load_blk rfl rfl (i := 6) rfl rfl ag2) ?_; clear hf; intro a hf
   refine sY hf hs rfl rfl rfl (Y_geq rfl rfl rfl) ?_; clear hf; intro a hf
   refine wpO_nil ?_
   refine wpL_cond hf rfl (fun hb1511 => ?_) (fun hb1511 => ?_)
   ·have hm1509 := bif_t hm1509 hb1511
    refine wpL_skip <| wpL_seq <| wpL_block0 <| wpL_seq <| wpL_region ?_
    refine sY hf hs rfl rfl rfl (Y_move rfl rfl) ?_; clear hf; intro a hf
    refine sCall hf rfl rfl rfl rfl rfl rfl (cap := []) bk_en0 (backward_ok A4 n5 c6 _) ?_; clear hf; rintro _ w ⟨b1512, rfl, hs1⟩ a hf
    have hs : St _ W w [_, _, _, _, _, _, _, .blk b1512 28 [.slice A4 n5 c6]] := hs.join hs1
    clear hs1
    refine wpO_nil <| wpL_block0 ?_
    obtain ⟨r1838, hl1839, hm1509⟩ := bind_some hm1509
    refine wpL_range (La := [.mks bs1007, .row A4 n5 c6 2 1 (ints r2.1), .blk b1512 28 [.slice A4 n5 c6]]) (L0 := [.blk b1010 2 [.int .i64 x1011], .blk b16 2 [.int .i64 (p1.length : Int)], .blk b15 40 [.slice A10 n11 c12], .mat A10 n11 c12 28 2 vs14 ms1008, .blk b1 55 [.int .i64 p0.Events, .slice al p0.Places.length am]]) (xs := r2.1) (ib := 2) (ir := 1) (im := 0) (fun x1513 => [(2, .pointer (some ⟨b1, 0, none⟩)), (7, .pointer (some ⟨b15, 0, none⟩)), (8, .pointer (some ⟨b16, 0, none⟩)), (9, .pointer (some ⟨b1010, 0, none⟩)), (11, .int .i64 x1513.2)]) (fun pre_ L_ => ∃ rest_, pre_ ++ rest_ = revE r2.1 ∧ ∃ ms1836 : List (List Int), impl_latestTimes_R16 F p0 p1 x1011 rest_ ms1836 = some r1838 ∧ n11 = ms1836.length ∧ L_ = [.blk b1010 2 [.int .i64 x1011], .blk b16 2 [.int .i64 (p1.length : Int)], .blk b15 40 [.slice A10 n11 c12], .mat A10 n11 c12 28 2 vs14 ms1836, .blk b1 55 [.int .i64 p0.Events, .slice al p0.Places.length am]]) back_ok hf (hs.sel [0, 2, 7, 6, 5, 3, 4, 1] (by decide)) rfl bk_en rfl rfl hn7 rfl rfl (by rintro _ _ ⟨_, _, _, _, _, rfl⟩; rfl) ⟨_, rfl, ms1008, hl1839, hn1009, rfl⟩ rfl rfl ?_ ?_ ?_
    ·intro lp_ x1513 a w hf
     have hs := St.start w
     refine wpR_region rfl ?_
     refine sY hf hs rfl rfl rfl (Y_assign rfl rfl) ?_; clear hf; intro a hf
     refine wpO_nil ?_
     exact wpR_nil ⟨rfl, rfl, (FrD.pick (FrD.pick (FrD.pick (FrD.pick (FrD.pick hf.none hf rfl) hf rfl) hf rfl) hf rfl) hf rfl)⟩
    ·rintro lp_ pre_ x1513 rest_ _ W a ⟨rest2_, hr2_, ms1836, hm1840, hn1837, rfl⟩ hpre_ hs0_ hf
     obtain rfl := List.append_cancel_left (hr2_.trans hpre_.symm)
     clear hr2_
     rw [impl_latestTimes_R16] at hm1840
     have aP := aP.pass hs0_ [3, 4, 5, 6, 7]
     have hs : St (muL [.blk b1010 2 [.int .i64 x1011], .blk b16 2 [.int .i64 (p1.length : Int)], .blk b15 40 [.slice A10 n11 c12], .mat A10 n11 c12 28 2 vs14 ms1836, .blk b1 55 [.int .i64 p0.Events, .slice al p0.Places.length am]]) W W [.blk b1010 2 [.int .i64 x1011], .blk b16 2 [.int .i64 (p1.length : Int)], .blk b15 40 [.slice A10 n11 c12], .mat A10 n11 c12 28 2 vs14 ms1836, .blk b1 55 [.int .i64 p0.Events, .slice al p0.Places.length am]] := (hs0_.sel [3, 4, 5, 6, 7] (by decide)).rebase
     refine wpR_block0 ?_
     refine wpR_seq ?_
     refine wpR_region rfl ?_
     refine sY hf hs rfl rfl rfl (Y_fieldAddr rfl rfl fo55_1) ?_; clear hf; intro a hf
     refine sY hf hs rfl rfl rfl (Y_load_blk rfl rfl (i := 4) rfl rfl ag53) ?_; clear hf; intro a hf
     refine sY hf hs rfl rfl rfl (Y_lenH rfl rfl el53 rfl) ?_; clear hf; intro a hf
     refine sY hf hs rfl rfl rfl (Y_move rfl rfl) ?_; clear hf; intro a hf
     refine wpO_nil ?_
     obtain ⟨r1960, hl1961, hm1840⟩ := bind_some hm1840
     refine wpR_block (fun a w => ∃ ms1958 : List (List Int), ms1958 = r1960 ∧ n11 = ms1958.length ∧ Fr a 83 [] ∧ St (muL [.blk b1010 2 [.int .i64 x1011], .blk b16 2 [.int .i64 (p1.length : Int)], .blk b15 40 [.slice A10 n11 c12], .mat A10 n11 c12 28 2 vs14 ms1836, .blk b1 55 [.int .i64 p0.Events, .slice al p0.Places.length am]]) W w [.blk b1010 2 [.int .i64 x1011], .blk b16 2 [.int .i64 (p1.length : Int)], .blk b15 40 [.slice A10 n11 c12], .mat A10 n11 c12 28 2 vs14 ms1958, .blk b1 55 [.int .i64 p0.Events, .slice al p0.Places.length am]]) ?_ ?_
     ·refine wpR_loop (fun n a w => ∃ ms1918 : List (List Int), ∃ x1920 : Int, impl_latestTimes_L17 F p0 p1 x1011 x1513 n ms1918 x1920 = some r1960 ∧ n11 = ms1918.length ∧ Fr a 83 [(7, .pointer (some ⟨b15, 0, none⟩)), (8, .pointer (some ⟨b16, 0, none⟩)), (9, .pointer (some ⟨b1010, 0, none⟩)), (11, .int .i64 x1513.2), (34, .slice al p0.Places.length am), (35, .int .i64 (p0.Places.length : Int)), (36, .int .i64 x1920)] ∧ St (muL [.blk b1010 2 [.int .i64 x1011], .blk b16 2 [.int .i64 (p1.length : Int)], .blk b15 40 [.slice A10 n11 c12], .mat A10 n11 c12 28 2 vs14 ms1836, .blk b1 55 [.int .i64 p0.Events, .slice al p0.Places.length am]]) W w [.blk b1010 2 [.int .i64 x1011], .blk b16 2 [.int .i64 (p1.length : Int)], .blk b15 40 [.slice A10 n11 c12], .mat A10 n11 c12 28 2 vs14 ms1918, .blk b1 55 [.int .i64 p0.Events, .slice al p0.Places.length am]]) F ?_ ?_ ?_
      ·exact ⟨ms1836, 0, hl1961, hn1837, (FrD.pick (FrD.pick (FrD.pick (FrD.pick (FrD.pick (FrD.pick (FrD.pick hf.none hf rfl) hf rfl) hf rfl) hf rfl) hf rfl) hf rfl) hf rfl), hs⟩
      ·rintro a w ⟨ms1918, x1920, h0_, -, -, -⟩; simp [impl_latestTimes_L17] at h0_
      ·rintro n1963 a w ⟨ms1918, x1920, hm1962, hn1919, hf, hs⟩
       rw [impl_latestTimes_L17] at hm1962
       refine wpR_seq ?_
       refine wpR_region rfl ?_
       refine sY hf hs rfl rfl rfl (Y_lss rfl rfl rfl) ?_; clear hf; intro a hf
       refine wpO_nil ?_
       refine wpR_seq ?_
       refine wpR_cond hf rfl (fun hb1964 => ?_) (fun hb1964 => ?_)
       ·have hm1962 := bif_t hm1962 hb1964
        refine wpR_skip ?_
        refine wpR_seq ?_
        refine wpR_block0 ?_
        refine wpR_seq ?_
        refine wpR_region rfl ?_
        obtain ⟨q1965, hi1966, hm1962⟩ := bind_some hm1962
        obtain ⟨hi1966a, hi1966b, hi1966q⟩ := idx_some hi1966
        refine sY hf hs rfl rfl rfl (Y_index rfl rfl rfl el53 ti64 (Rd.isAt (aP.at hs) (recs_at (s := 4) GPlace.len hi1966q (j := 0) rfl)) hi1966a hi1966b) ?_; clear hf; intro a hf
        refine sY hf hs rfl rfl rfl (Y_load_rdS rfl rfl (us := [.int .i64 q1965.From, .int .i64 q1965.To, .int .i64 q1965.Delay, .int .i64 q1965.Tokens]) (fun w hs => aP.at hs) (fun j u hj => recs_at (s := 4) GPlace.len hi1966q hj) (Nat.succ_pos _) ag64 ti64 rfl) ?_; clear hf; intro a hf
        refine sAlloc hf hs rfl rfl rfl rfl ti64 ?_; clear hf hs; intro a w b1967 hs hf
        have hs : St _ W w [_, _, _, _, _, .blk b1967 64 [.int .i64 0, .int .i64 0, .int .i64 0, .int .i64 0]] := hs
        refine sStore (i := 5) (us := [.int .i64 q1965.From, .int .i64 q1965.To, .int .i64 q1965.Delay, .int .i64 q1965.Tokens]) hf hs rfl rfl rfl rfl rfl rfl ti64 rfl rfl rfl (Nat.le_of_ble_eq_true rfl) rfl ?_; clear hs; intro w hs
        have hs : St _ W w [_, _, _, _, _, .blk b1967 64 [.int .i64 q1965.From, .int .i64 q1965.To, .int .i64 q1965.Delay, .int .i64 q1965.Tokens]] := hs
        refine wpO_nil ?_
        refine wpR_seq ?_
        obtain ⟨r1970, hj1971, hm1962⟩ := bind_some hm1962
        refine wpR_cut (fun a w => ∃ b1969 : Bool, b1969 = r1970 ∧ Fr a 83 [(7, .pointer (some ⟨b15, 0, none⟩)), (8, .pointer (some ⟨b16, 0, none⟩)), (9, .pointer (some ⟨b1010, 0, none⟩)), (11, .int .i64 x1513.2), (13, .pointer (some ⟨b1967, 0, none⟩)), (34, .slice al p0.Places.length am), (35, .int .i64 (p0.Places.length : Int)), (36, .int .i64 x1920), (51, .bool b1969)] ∧ St (muL [.blk b1010 2 [.int .i64 x1011], .blk b16 2 [.int .i64 (p1.length : Int)], .blk b15 40 [.slice A10 n11 c12], .mat A10 n11 c12 28 2 vs14 ms1836, .blk b1 55 [.int .i64 p0.Events, .slice al p0.Places.length am]]) W w [.blk b1010 2 [.int .i64 x1011], .blk b16 2 [.int .i64 (p1.length : Int)], .blk b15 40 [.slice A10 n11 c12], .mat A10 n11 c12 28 2 vs14 ms1918, .blk b1 55 [.int .i64 p0.Events, .slice al p0.Places.length am], .blk b1967 64 [.int .i64 q1965.From, .int .i64 q1965.To, .int .i64 q1965.Delay, .int .i64 q1965.Tokens]]) ?_ ?_
        ·refine wpR_region rfl ?_
         refine sY hf hs rfl rfl rfl (Y_fieldAddr rfl rfl fo64_0) ?_; clear hf; intro a hf
         refine sY hf hs rfl rfl rfl (Y_load_blk rfl rfl (i := 5) rfl rfl ag2) ?_; clear hf; intro a hf
         refine sY hf hs rfl rfl rfl (Y_move rfl rfl) ?_; clear hf; intro a hf
         refine sY hf hs rfl rfl rfl (Y_eql rfl rfl rfl) ?_; clear hf; intro a hf
         refine sY hf hs rfl rfl rfl (Y_move rfl rfl) ?_; clear hf; intro a hf
         refine bsplit (q1965.From == x1513.2) (fun hb1972 => ?_) (fun hb1972 => ?_)
         ·have hj1971 := bif_t hj1971 hb1972
          refine sYg hf hs rfl rfl rfl (congrArg (fun b => some (Value.bool b)) hb1972) rfl rfl rfl (Y_load_blk rfl rfl (i := 0) rfl rfl ag2) ?_; clear hf; intro a hf
          refine sYg hf hs rfl rfl rfl (congrArg (fun b => some (Value.bool b)) hb1972) rfl rfl rfl (Y_fieldAddr rfl rfl fo64_3) ?_; clear hf; intro a hf
          refine sYg hf hs rfl rfl rfl (congrArg (fun b => some (Value.bool b)) hb1972) rfl rfl rfl (Y_load_blk rfl rfl (i := 5) rfl rfl ag2) ?_; clear hf; intro a hf
          refine sYg hf hs rfl rfl rfl (congrArg (fun b => some (Value.bool b)) hb1972) rfl rfl rfl (Y_add rfl rfl rfl) ?_; clear hf; intro a hf
          refine sYg hf hs rfl rfl rfl (congrArg (fun b => some (Value.bool b)) hb1972) rfl rfl rfl (Y_load_blk rfl rfl (i := 1) rfl rfl ag2) ?_; clear hf; intro a hf
          refine sYg hf hs rfl rfl rfl (congrArg (fun b => some (Value.bool b)) hb1972) rfl rfl rfl (Y_lss rfl rfl rfl) ?_; clear hf; intro a hf
          refine sY hf hs rfl rfl rfl (Y_pickT rfl (congrArg (fun b => some (Value.bool b)) hb1972) rfl) ?_; clear hf; intro a hf
          refine wpO_nil ?_
          refine wpR_nil (then_normal ?_)
          exact ⟨(decide ((IntKind.i64.wrap (x1011 + q1965.Tokens)) < (p1.length : Int))), Option.some.inj hj1971, (FrD.pick (FrD.pick (FrD.pick (FrD.pick (FrD.pick (FrD.pick (FrD.pick (FrD.pick (FrD.pick hf.none hf rfl) hf rfl) hf rfl) hf rfl) hf rfl) hf rfl) hf rfl) hf rfl) hf rfl), hs⟩
         ·have hj1971 := bif_f hj1971 hb1972
          refine sNo hf rfl rfl rfl (congrArg (fun b => some (Value.bool b)) hb1972) rfl rfl rfl ?_; clear hf; intro a hf
          refine sNo hf rfl rfl rfl (congrArg (fun b => some (Value.bool b)) hb1972) rfl rfl rfl ?_; clear hf; intro a hf
          refine sNo hf rfl rfl rfl (congrArg (fun b => some (Value.bool b)) hb1972) rfl rfl rfl ?_; clear hf; intro a hf
          refine sNo hf rfl rfl rfl (congrArg (fun b => some (Value.bool b)) hb1972) rfl rfl rfl ?_; clear hf; intro a hf
          refine sNo hf rfl rfl rfl (congrArg (fun b => some (Value.bool b)) hb1972) rfl rfl rfl ?_; clear hf; intro a hf
          refine sNo hf rfl rfl rfl (congrArg (fun b => some (Value.bool b)) hb1972) rfl rfl rfl ?_; clear hf; intro a hf
          refine sY hf hs rfl rfl rfl (Y_pickF rfl (congrArg (fun b => some (Value.bool b)) hb1972) rfl) ?_; clear hf; intro a hf
          refine wpO_nil ?_
          refine wpR_nil (then_normal ?_)
          exact ⟨false, Option.some.inj hj1971, (FrD.pick (FrD.pick (FrD.pick (FrD.pick (FrD.pick (FrD.pick (FrD.pick (FrD.pick (FrD.pick hf.none hf rfl) hf rfl) hf rfl) hf rfl) hf rfl) hf rfl) hf rfl) hf rfl) hf rfl), hs⟩
        ·rintro a w ⟨b1969, hr_, hf, hs⟩
         subst hr_
         try dsimp only at hm1962
         refine wpR_cond hf rfl (fun hb1973 => ?_) (fun hb1973 => ?_)
         ·have hm1962 := bif_t hm1962 hb1973
          refine wpR_drawM [.blk b1010 2 [.int .i64 x1011], .blk b16 2 [.int .i64 (p1.length : Int)], .blk b15 40 [.slice A10 n11 c12], .mat A10 n11 c12 28 2 vs14 ms1918, .blk b1 55 [.int .i64 p0.Events, .slice al p0.Places.length am], .blk b1967 64 [.int .i64 q1965.From, .int .i64 q1965.To, .int .i64 q1965.Delay, .int .i64 q1965.Tokens]] [28] rfl (by kernel_rfl) hs ?_; clear hs; intro w hs
          have hs0 : St _ W w [_, _, _, _, _, _] := hs
          refine mY (i := 0) [[]] rfl (by kernel_rfl) (by kernel_rfl) hf hs0 rfl rfl rfl (Y_load_blk rfl rfl (i := 2) rfl rfl ag40) ?_; clear hf; intro a hf
          refine mY (i := 1) [[]] rfl (by kernel_rfl) (by kernel_rfl) hf hs0 rfl rfl rfl (Y_load_blk rfl rfl (i := 0) rfl rfl ag2) ?_; clear hf; intro a hf
          obtain ⟨q1974, hi1975, hm1962⟩ := bind_some hm1962
          obtain ⟨hi1975a, hi1975b, hi1975q⟩ := idx_some hi1975
          obtain ⟨A1976, c1977, hv1978⟩ := hs.matRow (i := 3) rfl hi1975q
          refine mYp (i := 2) rfl (by kernel_rfl) (by kernel_rfl) hf rfl rfl rfl (fun _ => Y_index rfl rfl rfl el40 ti28 (Rd.isAt (hs.rdV (i := 3) rfl) hv1978) hi1975a (ltn hn1919 hi1975b)) ?_; clear hf; intro a hf
          refine mY (i := 3) [[]] rfl (by kernel_rfl) (by kernel_rfl) hf hs0 rfl rfl rfl (Y_load_rd rfl rfl (fun w hs => hs.rdV (i := 3) rfl) (at1 hv1978) ag28) ?_; clear hf; intro a hf
          refine mYp (i := 4) rfl (by kernel_rfl) (by kernel_rfl) hf rfl rfl rfl (fun _ => Y_move rfl rfl) ?_; clear hf; intro a hf
          refine mY (i := 5) [[]] rfl (by kernel_rfl) (by kernel_rfl) hf hs0 rfl rfl rfl (Y_load_blk rfl rfl (i := 2) rfl rfl ag40) ?_; clear hf; intro a hf
          refine mY (i := 6) [[]] rfl (by kernel_rfl) (by kernel_rfl) hf hs0 rfl rfl rfl (Y_load_blk rfl rfl (i := 0) rfl rfl ag2) ?_; clear hf; intro a hf
          obtain ⟨q1979, hi1980, hm1962⟩ := bind_some hm1962
          obtain ⟨hi1980a, hi1980b, hi1980q⟩ := idx_some hi1980
          obtain ⟨A1981, c1982, hv1983⟩ := hs.matRow (i := 3) rfl hi1980q
          refine mYp (i := 7) rfl (by kernel_rfl) (by kernel_rfl) hf rfl rfl rfl (fun _ => Y_index rfl rfl rfl el40 ti28 (Rd.isAt (hs.rdV (i := 3) rfl) hv1983) hi1980a (ltn hn1919 hi1980b)) ?_; clear hf; intro a hf
          refine mY (i := 8) [[]] rfl (by kernel_rfl) (by kernel_rfl) hf hs0 rfl rfl rfl (Y_load_rd rfl rfl (fun w hs => hs.rdV (i := 3) rfl) (at1 hv1983) ag28) ?_; clear hf; intro a hf
          refine mYp (i := 9) rfl (by kernel_rfl) (by kernel_rfl) hf rfl rfl rfl (fun _ => Y_move rfl rfl) ?_; clear hf; intro a hf
          obtain ⟨q1984, hi1985, hm1962⟩ := bind_some hm1962
          obtain ⟨hi1985a, hi1985b, hi1985q⟩ := idx_some hi1985
          refine mYp (i := 10) rfl (by kernel_rfl) (by kernel_rfl) hf rfl rfl rfl (fun _ => Y_index rfl rfl rfl el28 ti2 (Rd.isAt (hs.rdRow (i := 3) rfl ⟨hi1980q, hv1983⟩) (at1 (ints_at hi1985q))) hi1985a hi1985b) ?_; clear hf; intro a hf
          refine mY (i := 11) [[]] rfl (by kernel_rfl) (by kernel_rfl) hf hs0 rfl rfl rfl (Y_load_rd rfl rfl (fun w hs => hs.rdRow (i := 3) rfl ⟨hi1980q, hv1983⟩) (at1 (ints_at hi1985q)) ag2) ?_; clear hf; intro a hf
          refine mY (i := 12) [[]] rfl (by kernel_rfl) (by kernel_rfl) hf hs0 rfl rfl rfl (Y_load_blk rfl rfl (i := 2) rfl rfl ag40) ?_; clear hf; intro a hf
          refine mY (i := 13) [[]] rfl (by kernel_rfl) (by kernel_rfl) hf hs0 rfl rfl rfl (Y_load_blk rfl rfl (i := 0) rfl rfl ag2) ?_; clear hf; intro a hf
          refine mYp (i := 14) rfl (by kernel_rfl) (by kernel_rfl) hf rfl rfl rfl (fun _ => Y_fieldAddr rfl rfl fo64_3) ?_; clear hf; intro a hf
          refine mY (i := 15) [[]] rfl (by kernel_rfl) (by kernel_rfl) hf hs0 rfl rfl rfl (Y_load_blk rfl rfl (i := 5) rfl rfl ag2) ?_; clear hf; intro a hf
          refine mYp (i := 16) rfl (by kernel_rfl) (by kernel_rfl) hf rfl rfl rfl (fun _ => Y_add rfl rfl rfl) ?_; clear hf; intro a hf
          obtain ⟨q1986, hi1987, hm1962⟩ := bind_some hm1962
          obtain ⟨hi1987a, hi1987b, hi1987q⟩ := idx_some hi1987
          obtain ⟨A1988, c1989, hv1990⟩ := hs.matRow (i := 3) rfl hi1987q
          refine mYp (i := 17) rfl (by kernel_rfl) (by kernel_rfl) hf rfl rfl rfl (fun _ => Y_index rfl rfl rfl el40 ti28 (Rd.isAt (hs.rdV (i := 3) rfl) hv1990) hi1987a (ltn hn1919 hi1987b)) ?_; clear hf; intro a hf
          refine mY (i := 18) [[]] rfl (by kernel_rfl) (by kernel_rfl) hf hs0 rfl rfl rfl (Y_load_rd rfl rfl (fun w hs => hs.rdV (i := 3) rfl) (at1 hv1990) ag28) ?_; clear hf; intro a hf
          refine mYp (i := 19) rfl (by kernel_rfl) (by kernel_rfl) hf rfl rfl rfl (fun _ => Y_fieldAddr rfl rfl fo64_1) ?_; clear hf; intro a hf
          refine mY (i := 20) [[]] rfl (by kernel_rfl) (by kernel_rfl) hf hs0 rfl rfl rfl (Y_load_blk rfl rfl (i := 5) rfl rfl ag2) ?_; clear hf; intro a hf
          obtain ⟨q1991, hi1992, hm1962⟩ := bind_some hm1962
          obtain ⟨hi1992a, hi1992b, hi1992q⟩ := idx_some hi1992
          refine mYp (i := 21) rfl (by kernel_rfl) (by kernel_rfl) hf rfl rfl rfl (fun _ => Y_index rfl rfl rfl el28 ti2 (Rd.isAt (hs.rdRow (i := 3) rfl ⟨hi1987q, hv1990⟩) (at1 (ints_at hi1992q))) hi1992a hi1992b) ?_; clear hf; intro a hf
          refine mY (i := 22) [[]] rfl (by kernel_rfl) (by kernel_rfl) hf hs0 rfl rfl rfl (Y_load_rd rfl rfl (fun w hs => hs.rdRow (i := 3) rfl ⟨hi1987q, hv1990⟩) (at1 (ints_at hi1992q)) ag2) ?_; clear hf; intro a hf
          refine mYp (i := 23) rfl (by kernel_rfl) (by kernel_rfl) hf rfl rfl rfl (fun _ => Y_fieldAddr rfl rfl fo64_2) ?_; clear hf; intro a hf
          refine mY (i := 24) [[]] rfl (by kernel_rfl) (by kernel_rfl) hf hs0 rfl rfl rfl (Y_load_blk rfl rfl (i := 5) rfl rfl ag2) ?_; clear hf; intro a hf
          refine mYp (i := 25) rfl (by kernel_rfl) (by kernel_rfl) hf rfl rfl rfl (fun _ => Y_sub rfl rfl rfl) ?_; clear hf; intro a hf
          refine mYp (i := 26) rfl (by kernel_rfl) (by kernel_rfl) hf rfl rfl rfl (fun _ => Y_min rfl rfl rfl) ?_; clear hf; intro a hf
          obtain ⟨q1993, hi1994, hm1962⟩ := bind_some hm1962
          obtain ⟨hi1994a, hi1994b, hi1994q⟩ := idx_some hi1994
          refine mYp (i := 27) rfl (by kernel_rfl) (by kernel_rfl) hf rfl rfl rfl (fun _ => Y_index rfl rfl rfl el28 ti2 (Rd.isAt (hs.rdRow (i := 3) rfl ⟨hi1975q, hv1978⟩) (at1 (ints_at hi1994q))) hi1994a hi1994b) ?_; clear hf; intro a hf
          refine mRun (i := 28) rfl (by kernel_rfl) ?_
          obtain ⟨xs1995, hu1997, hm1962⟩ := bind_some hm1962
          obtain ⟨ms1996, hu1998, hm1962⟩ := bind_some hm1962
          refine sStoreM (i := 3) (k := x1011) hf hs rfl rfl rfl rfl rfl rfl hi1975q hv1978 rfl hu1997 hu1998 ti2 ?_; clear hs; intro w hs
          obtain ⟨hq1999, hv2000⟩ := rowUpd hu1997 hu1998 hv1978
          have hs : St _ W w [_, _, _, .mat A10 n11 c12 28 2 vs14 ms1996, _, _] := hs
          refine wpO_nil ⟨Or.inl (by decide), ?_⟩
          refine mDone (by kernel_rfl) ?_
          clear hs0
          refine wpR_nil (Qb_normal ?_)
          refine wpR_region rfl ?_
          refine sY hf hs rfl rfl rfl (Y_add rfl rfl rfl) ?_; clear hf; intro a hf
          refine sY hf hs rfl rfl rfl (Y_move rfl rfl) ?_; clear hf; intro a hf
          refine wpO_nil ?_
          refine wpR_nil (Ql_normal ?_)
          exact ⟨ms1996, (IntKind.i64.wrap (x1920 + 1)), hm1962, ((hn1919).trans (upd_len hu1998).symm), (FrD.pick (FrD.pick (FrD.pick (FrD.pick (FrD.pick (FrD.pick (FrD.pick hf.none hf rfl) hf rfl) hf rfl) hf rfl) hf rfl) hf rfl) hf rfl), hs.sel [0, 1, 2, 3, 4] (by decide)⟩
         ·have hm1962 := bif_f hm1962 hb1973
          refine wpR_skip ?_
          refine wpR_nil (Qb_normal ?_)
          refine wpR_region rfl ?_
          refine sY hf hs rfl rfl rfl (Y_add rfl rfl rfl) ?_; clear hf; intro a hf
          refine sY hf hs rfl rfl rfl (Y_move rfl rfl) ?_; clear hf; intro a hf
          refine wpO_nil ?_
          refine wpR_nil (Ql_normal ?_)
          exact ⟨ms1918, (IntKind.i64.wrap (x1920 + 1)), hm1962, hn1919, (FrD.pick (FrD.pick (FrD.pick (FrD.pick (FrD.pick (FrD.pick (FrD.pick hf.none hf rfl) hf rfl) hf rfl) hf rfl) hf rfl) hf rfl) hf rfl), hs.sel [0, 1, 2, 3, 4] (by decide)⟩
       ·have hm1962 := bif_f hm1962 hb1964
        refine wpR_exit (Ql_exit (Qb_exit ?_))
        exact ⟨ms1918, Option.some.inj hm1962, hn1919, hf.none, hs⟩
     ·rintro a w ⟨ms1958, hr_, hn1959, hf, hs⟩
      subst hr_
      try dsimp only at hm1840
      refine wpR_nil (Qb_normal ?_)
      refine wpR_nil ?_
      exact ⟨rfl, _, ⟨rest_, by rw [← hpre_]; simp, ms1958, hm1840, hn1959, rfl⟩, hs⟩
    ·rintro a w D2001 _ ⟨rest_, hr2_, ms1836, hm1840, hn1837, rfl⟩ hs hf
     obtain rfl : rest_ = [] := by simpa using hr2_
     rw [impl_latestTimes_R16] at hm1840
     obtain rfl := Option.some.inj hm1840
     try dsimp only at hm1509
     have hs : St _ W w [.mks (D2001 :: bs1007), .row A4 n5 c6 2 1 (ints r2.1), .blk b1512 28 [.slice A4 n5 c6], _, _, _, _, _] := hs
     refine wpL_nil (Qb_normal ?_)
     refine wpL_nil (Qb_normal ?_)
     refine wpL_seq <| wpL_seq <| wpL_region ?_
     refine sY hf hs rfl rfl rfl (Y_load_blk rfl rfl (i := 3) rfl rfl ag2) ?_; clear hf; intro a hf
     refine wpO_nil <| wpL_region ?_
     refine sAlloc hf hs rfl rfl rfl rfl ti2 ?_; clear hf hs; intro a w b2002 hs hf
     have hs : St _ W w [_, _, _, _, _, _, _, _, .blk b2002 2 [.int .i64 0]] := hs
     refine sStore (i := 8) (us := [.int .i64 x1011]) hf hs rfl rfl rfl rfl rfl rfl ti2 rfl rfl rfl (Nat.le_of_ble_eq_true rfl) rfl ?_; clear hs; intro w hs
     have hs : St _ W w [_, _, _, _, _, _, _, _, .blk b2002 2 [.int .i64 x1011]] := hs
     refine wpO_nil <| wpL_region ?_
     refine sY hf hs rfl rfl rfl (Y_load_blk rfl rfl (i := 8) rfl rfl ag2) ?_; clear hf; intro a hf
     refine sY hf hs rfl rfl rfl (Y_sub rfl rfl rfl) ?_; clear hf; intro a hf
     refine sStore (i := 8) (us := [.int .i64 (IntKind.i64.wrap (x1011 - 1))]) hf hs rfl rfl rfl rfl rfl rfl ti2 rfl rfl rfl (Nat.le_of_ble_eq_true rfl) rfl ?_; clear hs; intro w hs
     have hs : St _ W w [_, _, _, _, _, _, _, _, .blk b2002 2 [.int .i64 (IntKind.i64.wrap (x1011 - 1))]] := hs
     refine wpO_nil ?_
     refine wpL_nil (Ql_normal ?_)
     exact ⟨ms1836, (IntKind.i64.wrap (x1011 - 1)), (D2001 :: bs1007), b2002, hm1509, hn1837, (FrD.pick (FrD.pick (FrD.pick (FrD.pick (FrD.pick hf.none hf rfl) hf rfl) hf rfl) hf rfl) hf rfl), hs.sel [0, 7, 1, 5, 6, 4, 8] (by decide)⟩
   ·have hm1509 := bif_f hm1509 hb1511
    refine wpL_exit (Ql_exit (Qb_exit ?_))
    exact ⟨ms1008, bs1007, Option.some.inj hm1509, hn1009, (FrD.pick hf.none hf rfl), hs.sel [0, 3, 4] (by decide)⟩
 ·rintro a w ⟨ms1505, bs1504, hr_, hn1506, hf, hs⟩
  subst hr_
  try dsimp only at hm
  refine wpL_seq <| wpL_region ?_
  refine sY hf hs rfl rfl rfl (Y_load_blk rfl rfl (i := 1) rfl rfl ag40) ?_; clear hf; intro a hf
  refine sY hf hs rfl rfl rfl (Y_assign rfl rfl) ?_; clear hf; intro a hf
  refine wpO_nil ?_
  obtain rfl := Option.some.inj hm
  refine wpL_ret (retM_tmp rfl hf rfl hs (i := 0) rfl (fun w hs => ?_))
  exact ⟨_, rfl, A10, n11, c12, vs14, rfl, hn1506, hs.sel [1] (by decide)⟩

set_option maxRecDepth 100000 in
theorem impl_LatestTimes_ok (F : Nat) (ae : GEventGraph) (ad : Option Addr) (ap af : Nat) (aw : ap = ae.Places.length) (aA : List (List Int)) (ay : Option Addr) (aE aB : Nat) (aN : aE = aA.length) (r : List (List Int) × Int) (W : World) (hm : impl_LatestTimes F ae aA = some r) (au : Rd W ad ((recs GPlace.cells) ae.Places)) (aG : RdM W ay aA) :
  Calls Try.prog 42 [.agg #[.int .i64 ae.Events, .slice ad ap af], .slice ay aE aB].toArray W fun e w' => ∃ v, e = .returned v ∧ ∃ A13, ∃ n14, ∃ c15, ∃ vs17, v = .tuple #[.slice A13 n14 c15, .int .i64 r.2] ∧ n14 = r.1.length ∧ St [] W w' [.mat A13 n14 c15 28 2 vs17 r.1] := by
 subst aw
 subst aN
 unfold impl_LatestTimes at hm
 refine Calls.enter (N := 16) Try.func42 rfl rfl rfl (fun a hf => ?_)
 have hs := St.start W
 obtain ⟨w, hw_⟩ : ∃ w, w = W := ⟨W, rfl⟩
 clear hw_ w
 refine wpL_seq <| wpL_region ?_
 refine sBox hf hs rfl rfl rfl rfl rfl (cs := [.int .i64 ae.Events, .slice ad ae.Places.length af]) rfl ?_; clear hf hs; intro a w b1 hs hf
 have hs : St _ W w [.blk b1 55 [.int .i64 ae.Events, .slice ad ae.Places.length af]] := hs
 refine sY hf hs rfl rfl rfl (Y_assign rfl rfl) ?_; clear hf; intro a hf
 refine sY hf hs rfl rfl rfl (Y_assign rfl rfl) ?_; clear hf; intro a hf
 refine wpO_nil <| wpL_seq <| wpL_seq <| wpL_region ?_
 refine sY hf hs rfl rfl rfl (Y_load_blkS rfl rfl (i := 0) rfl ag55 ti55 rfl) ?_; clear hf; intro a hf
 refine sY hf hs rfl rfl rfl (Y_move rfl rfl) ?_; clear hf; intro a hf
 obtain ⟨r2, hc3, hm⟩ := bind_some hm
 refine sCall hf rfl rfl rfl rfl (cap := []) rfl rfl en101 (impl_checkDue_ok F ae ad ae.Places.length af rfl aA ay aA.length aB rfl _ _ hc3 (au.at hs) (aG.at hs)) ?_; clear hf
 rintro _ w ⟨rfl, hs1⟩ a hf
 have hs : St _ W w [_] := hs.ext hs1.below
 clear hs1
 refine sY hf hs rfl rfl rfl (Y_assign rfl rfl) ?_; clear hf; intro a hf
 refine wpO_nil <| wpL_seq <| wpL_region ?_
 refine sY hf hs rfl rfl rfl (Y_move rfl rfl) ?_; clear hf; intro a hf
 refine sY hf hs rfl rfl rfl (Y_neq rfl rfl rfl) ?_; clear hf; intro a hf
 refine wpO_nil ?_
 refine wpL_cond hf rfl (fun hb4 => ?_) (fun hb4 => ?_)
 ·have hm := bif_t hm hb4
  refine wpL_seq <| wpL_region ?_
  refine sY hf hs rfl rfl rfl (Y_move rfl rfl) ?_; clear hf; intro a hf
  refine sY hf hs rfl rfl rfl (Y_assign rfl rfl) ?_; clear hf; intro a hf
  refine sY hf hs rfl rfl rfl (Y_assign rfl rfl) ?_; clear hf; intro a hf
  refine wpO_nil ?_
  have hs : St [] W _ [.blk b1 55 [.int .i64 ae.Events, .slice ad ae.Places.length af], .mat none 0 0 28 2 [] ([] : List (List Int))] := hs.addNilM 28 2
  obtain rfl := Option.some.inj hm
  refine wpL_ret (ret_tmp2 rfl hf rfl rfl ?_)
  exact ⟨_, rfl, none, 0, 0, [], rfl, rfl, hs.sel [1] (by decide)⟩
 ·have hm := bif_f hm hb4
  refine wpL_skip <| wpL_seq <| wpL_region ?_
  refine sY hf hs rfl rfl rfl (Y_load_blkS rfl rfl (i := 0) rfl ag55 ti55 rfl) ?_; clear hf; intro a hf
  refine sY hf hs rfl rfl rfl (Y_move rfl rfl) ?_; clear hf; intro a hf
  obtain ⟨r6, hc7, hm⟩ := bind_some hm
  refine sCall hf rfl rfl rfl rfl (cap := []) rfl rfl en102 (impl_latestTimes_ok F ae ad ae.Places.length af rfl aA ay aA.length aB rfl _ _ hc7 (au.at hs) (aG.at hs)) ?_; clear hf
  rintro _ w ⟨A8, n9, c10, vs12, rfl, hn11, hs1⟩ a hf
  have hs : St _ W w [_, .mat A8 n9 c10 28 2 vs12 r6] := hs.join hs1
  clear hs1
  refine sY hf hs rfl rfl rfl (Y_assign rfl rfl) ?_; clear hf; intro a hf
  refine sY hf hs rfl rfl rfl (Y_assign rfl rfl) ?_; clear hf; intro a hf
  refine wpO_nil ?_
  obtain rfl := Option.some.inj hm
  refine wpL_ret (ret_tmp2 rfl hf rfl rfl ?_)
  exact ⟨_, rfl, A8, n9, c10, vs12, rfl, hn11, hs.sel [1] (by decide)⟩

set_option maxRecDepth 100000 in
theorem spec_l01Within_ok (F : Nat) (aO : List Int) (aM : Option Addr) (bg bh : Nat) (bw : bg = aO.length) (ct : Int) (cp : Int) (cd : Int) (r : Bool) (W : World) (hm : spec_l01Within F aO ct cp cd = some r) (bn : Rd W aM (ints aO)) :
  Calls Try.prog 76 [.slice aM bg bh, .int .i64 ct, .int .i64 cp, .int .i64 cd].toArray W fun e w' => ∃ v, e = .returned v ∧ v = .bool r ∧ St [] W w' [] := by
 subst bw
 unfold spec_l01Within at hm
 refine Calls.enter (N := 28) Try.func76 rfl rfl rfl (fun a hf => ?_)
 have hs := St.start W
 obtain ⟨w, hw_⟩ : ∃ w, w = W := ⟨W, rfl⟩
 clear hw_ w
 refine wpL_seq <| wpL_region ?_
 refine sY hf hs rfl rfl rfl (Y_assign rfl rfl) ?_; clear hf; intro a hf
 refine wpO_nil <| wpL_seq <| wpL_seq <| wpL_region ?_
 refine sY hf hs rfl rfl rfl (Y_assign rfl rfl) ?_; clear hf; intro a hf
 refine wpO_nil ?_
 obtain ⟨r21, hl22, hm⟩ := bind_some hm
 refine wpL_block (fun a w => Sum.inr () = r21 ∧ Fr a 28 [(0, .slice aM aO.length bh), (1, .int .i64 ct)] ∧ St [] W w []) ?_ ?_
 ·refine wpL_loop (fun n a w => ∃ x14 : Int, spec_l01Within_L1 F aO cp cd n x14 = some r21 ∧ Fr a 28 [(0, .slice aM aO.length bh), (1, .int .i64 ct), (2, .int .i64 cp), (3, .int .i64 cd), (9, .int .i64 x14)] ∧ St [] W w []) F ?_ ?_ ?_
  ·exact ⟨0, hl22, (FrD.pick (FrD.pick (FrD.pick (FrD.pick (FrD.pick hf.none hf rfl) hf rfl) hf rfl) hf rfl) hf rfl), hs⟩
  ·rintro a w ⟨x14, h0_, -, -⟩; simp [spec_l01Within_L1] at h0_
  ·rintro n24 a w ⟨x14, hm23, hf, hs⟩
   rw [spec_l01Within_L1] at hm23
   refine wpL_seq <| wpL_seq <| wpL_region ?_
   refine sY hf hs rfl rfl rfl (Y_move rfl rfl) ?_; clear hf; intro a hf
   refine sY hf hs rfl rfl rfl (Y_move rfl rfl) ?_; clear hf; intro a hf
   refine sY hf hs rfl rfl rfl (Y_lenH rfl rfl el28 rfl) ?_; clear hf; intro a hf
   refine sY hf hs rfl rfl rfl (Y_lss rfl rfl rfl) ?_; clear hf; intro a hf
   refine wpO_nil ?_
   refine wpL_cond hf rfl (fun hb25 => ?_) (fun hb25 => ?_)
   ·have hm23 := bif_t hm23 hb25
    refine wpL_skip <| wpL_seq <| wpL_block0 <| wpL_seq <| wpL_region ?_
    refine sY hf hs rfl rfl rfl (Y_move rfl rfl) ?_; clear hf; intro a hf
    refine sY hf hs rfl rfl rfl (Y_move rfl rfl) ?_; clear hf; intro a hf
    obtain ⟨q26, hi27, hm23⟩ := bind_some hm23
    obtain ⟨hi27a, hi27b, hi27q⟩ := idx_some hi27
    refine sY hf hs rfl rfl rfl (Y_index rfl rfl rfl el28 ti2 (Rd.isAt (bn.at hs) (at1 (ints_at hi27q))) hi27a hi27b) ?_; clear hf; intro a hf
    refine sY hf hs rfl rfl rfl (Y_load_rd rfl rfl (fun w hs => bn.at hs) (at1 (ints_at hi27q)) ag2) ?_; clear hf; intro a hf
    refine sY hf hs rfl rfl rfl (Y_move rfl rfl) ?_; clear hf; intro a hf
    refine sY hf hs rfl rfl rfl (Y_move rfl rfl) ?_; clear hf; intro a hf
    obtain ⟨r28, hc29, hm23⟩ := bind_some hm23
    refine sCall hf rfl rfl rfl rfl (cap := []) rfl rfl en77 (spec_l01In_ok F q26 cp cd _ _ hc29) ?_; clear hf
    rintro _ w ⟨rfl, hs1⟩ a hf
    have hs : St _ W w [] := hs.ext hs1.below
    clear hs1
    refine sY hf hs rfl rfl rfl (Y_not rfl rfl) ?_; clear hf; intro a hf
    refine wpO_nil ?_
    refine wpL_cond hf rfl (fun hb30 => ?_) (fun hb30 => ?_)
    ·have hm23 := bif_t hm23 hb30
     refine wpL_seq <| wpL_region ?_
     refine sY hf hs rfl rfl rfl (Y_assign rfl rfl) ?_; clear hf; intro a hf
     refine wpO_nil ?_
     obtain rfl := Option.some.inj hm23
     try dsimp only at hm
     obtain rfl := Option.some.inj hm
     refine wpL_ret (Qb_ret (Ql_ret (Qb_ret (ret_tmp rfl hf rfl ?_))))
     exact ⟨_, rfl, rfl, hs⟩
    ·have hm23 := bif_f hm23 hb30
     refine wpL_skip ?_
     refine wpL_nil (Qb_normal ?_)
     refine wpL_region ?_
     refine sY hf hs rfl rfl rfl (Y_move rfl rfl) ?_; clear hf; intro a hf
     refine sY hf hs rfl rfl rfl (Y_add rfl rfl rfl) ?_; clear hf; intro a hf
     refine sY hf hs rfl rfl rfl (Y_assign rfl rfl) ?_; clear hf; intro a hf
     refine wpO_nil ?_
     refine wpL_nil (Ql_normal ?_)
     exact ⟨(IntKind.i64.wrap (x14 + 1)), hm23, (FrD.pick (FrD.pick (FrD.pick (FrD.pick (FrD.pick hf.none hf rfl) hf rfl) hf rfl) hf rfl) hf rfl), hs⟩
   ·have hm23 := bif_f hm23 hb25
    refine wpL_exit (Ql_exit (Qb_exit ?_))
    exact ⟨Option.some.inj hm23, (FrD.pick (FrD.pick hf.none hf rfl) hf rfl), hs⟩
 ·rintro a w ⟨hr_, hf, hs⟩
  subst hr_
  try dsimp only at hm
  refine wpL_seq <| wpL_region ?_
  refine sY hf hs rfl rfl rfl (Y_move rfl rfl) ?_; clear hf; intro a hf
  refine sY hf hs rfl rfl rfl (Y_lenH rfl rfl el28 rfl) ?_; clear hf; intro a hf
  refine sY hf hs rfl rfl rfl (Y_move rfl rfl) ?_; clear hf; intro a hf
  refine sY hf hs rfl rfl rfl (Y_leq rfl rfl rfl) ?_; clear hf; intro a hf
  refine sY hf hs rfl rfl rfl (Y_assign rfl rfl) ?_; clear hf; intro a hf
  refine wpO_nil ?_
  obtain rfl := Option.some.inj hm
  refine wpL_ret (ret_tmp rfl hf rfl ?_)
  exact ⟨_, rfl, rfl, hs⟩

set_option maxRecDepth 100000 in
theorem spec_l22Due_ok (F : Nat) (ae : GEventGraph) (ad : Option Addr) (ap af : Nat) (aw : ap = ae.Places.length) (aA : List (List Int)) (ay : Option Addr) (aE aB : Nat) (aN : aE = aA.length) (r : Bool) (W : World) (hm : spec_l22Due F ae aA = some r) (_h_p0_g_1 : Rd W ad ((recs GPlace.cells) ae.Places)) (aG : RdM W ay aA) :
  Calls Try.prog 104 [.agg #[.int .i64 ae.Events, .slice ad ap af], .slice ay aE aB].toArray W fun e w' => ∃ v, e = .returned v ∧ v = .bool r ∧ St [] W w' [] := by
 subst aw
 subst aN
 unfold spec_l22Due at hm
 refine Calls.enter (N := 31) Try.func104 rfl rfl rfl (fun a hf => ?_)
 have hs := St.start W
 obtain ⟨w, hw_⟩ : ∃ w, w = W := ⟨W, rfl⟩
 clear hw_ w
 refine wpL_seq <| wpL_region ?_
 refine sBox hf hs rfl rfl rfl rfl rfl (cs := [.int .i64 ae.Events, .slice ad ae.Places.length af]) rfl ?_; clear hf hs; intro a w b1 hs hf
 have hs : St _ W w [_] := hs
 refine sY hf hs rfl rfl rfl (Y_assign rfl rfl) ?_; clear hf; intro a hf
 refine wpO_nil <| wpL_seq <| wpL_seq <| wpL_region ?_
 refine sY hf hs rfl rfl rfl (Y_assign rfl rfl) ?_; clear hf; intro a hf
 refine wpO_nil ?_
 obtain ⟨r145, hl146, hm⟩ := bind_some hm
 refine wpL_block (fun a w => Sum.inr () = r145 ∧ Fr a 31 [(1, .slice ay aA.length aB)] ∧ St [] W w []) ?_ ?_
 ·refine wpL_loop (fun n a w => ∃ x97 : Int, spec_l22Due_L1 F ae aA n x97 = some r145 ∧ Fr a 31 [(1, .slice ay aA.length aB), (2, .pointer (some ⟨b1, 0, none⟩)), (5, .int .i64 x97)] ∧ St [] W w [.blk b1 55 [.int .i64 ae.Events, .slice ad ae.Places.length af]]) F ?_ ?_ ?_
  ·exact ⟨0, hl146, (FrD.pick (FrD.pick (FrD.pick hf.none hf rfl) hf rfl) hf rfl), hs⟩
  ·rintro a w ⟨x97, h0_, -, -⟩; simp [spec_l22Due_L1] at h0_
  ·rintro n148 a w ⟨x97, hm147, hf, hs⟩
   rw [spec_l22Due_L1] at hm147
   refine wpL_seq <| wpL_seq <| wpL_region ?_
   refine sY hf hs rfl rfl rfl (Y_move rfl rfl) ?_; clear hf; intro a hf
   refine sY hf hs rfl rfl rfl (Y_move rfl rfl) ?_; clear hf; intro a hf
   refine sY hf hs rfl rfl rfl (Y_lenH rfl rfl el40 rfl) ?_; clear hf; intro a hf
   refine sY hf hs rfl rfl rfl (Y_lss rfl rfl rfl) ?_; clear hf; intro a hf
   refine wpO_nil ?_
   refine wpL_cond hf rfl (fun hb149 => ?_) (fun hb149 => ?_)
   ·have hm147 := bif_t hm147 hb149
    refine wpL_skip <| wpL_seq <| wpL_block0 <| wpL_seq ?_
    obtain ⟨r172, hj173, hm147⟩ := bind_some hm147
    refine wpL_cut (fun a w => ∃ b171 : Bool, b171 = r172 ∧ Fr a 31 [(1, .slice ay aA.length aB), (2, .pointer (some ⟨b1, 0, none⟩)), (5, .int .i64 x97), (27, .bool b171)] ∧ St [] W w [.blk b1 55 [.int .i64 ae.Events, .slice ad ae.Places.length af]]) ?_ ?_
    ·refine wpL_draw (by kernel_rfl) (by kernel_rfl) hs ?_
     refine qY hf rfl rfl rfl (Y_move rfl rfl) ?_; clear hf; intro a hf
     refine qY hf rfl rfl rfl (Y_move rfl rfl) ?_; clear hf; intro a hf
     obtain ⟨q174, hi175, hj173⟩ := bind_some hj173
     obtain ⟨hi175a, hi175b, hi175q⟩ := idx_some hi175
     obtain ⟨vs176, hv177, hr178⟩ := id aG
     obtain ⟨A179, c180, hv181, hR182⟩ := hr178 _ _ hi175q
     refine qY hf rfl rfl rfl (Y_index rfl rfl rfl el40 ti28 (Rd.isAt hv177 hv181) hi175a hi175b) ?_; clear hf; intro a hf
     refine qY hf rfl rfl rfl (Y_load_rd rfl rfl (fun w hs => hv177.at hs) (at1 hv181) ag28) ?_; clear hf; intro a hf
     refine qY hf rfl rfl rfl (Y_lenH rfl rfl el28 rfl) ?_; clear hf; intro a hf
     refine qY hf rfl rfl rfl (Y_fieldAddr rfl rfl fo55_0) ?_; clear hf; intro a hf
     refine qY hf rfl rfl rfl (Y_load_blk rfl rfl (i := 0) rfl rfl ag2) ?_; clear hf; intro a hf
     refine qY hf rfl rfl rfl (Y_neq rfl rfl rfl) ?_; clear hf; intro a hf
     refine qY hf rfl rfl rfl (Y_move rfl rfl) ?_; clear hf; intro a hf
     refine bsplit ((q174.length : Int) != ae.Events) (fun hb183 => ?_) (fun hb183 => ?_)
     ·have hj173 := bif_t hj173 hb183
      refine qNo hf rfl rfl rfl (congrArg (fun b => some (Value.bool b)) hb183) rfl rfl rfl ?_; clear hf; intro a hf
      refine qNo hf rfl rfl rfl (congrArg (fun b => some (Value.bool b)) hb183) rfl rfl rfl ?_; clear hf; intro a hf
      refine qNo hf rfl rfl rfl (congrArg (fun b => some (Value.bool b)) hb183) rfl rfl rfl ?_; clear hf; intro a hf
      refine qNo hf rfl rfl rfl (congrArg (fun b => some (Value.bool b)) hb183) rfl rfl rfl ?_; clear hf; intro a hf
      refine qNo hf rfl rfl rfl (congrArg (fun b => some (Value.bool b)) hb183) rfl rfl rfl ?_; clear hf; intro a hf
      refine qNo hf rfl rfl rfl (congrArg (fun b => some (Value.bool b)) hb183) rfl rfl rfl ?_; clear hf; intro a hf
      refine qY hf rfl rfl rfl (Y_pickT rfl (congrArg (fun b => some (Value.bool b)) hb183) rfl) ?_; clear hf; intro a hf
      refine qNil ?_; clear hs; intro w hs
      refine wpL_nil (then_normal ?_)
      exact ⟨true, Option.some.inj hj173, (FrD.pick (FrD.pick (FrD.pick (FrD.pick hf.none hf rfl) hf rfl) hf rfl) hf rfl), hs⟩
     ·have hj173 := bif_f hj173 hb183
      refine qYg hf rfl rfl rfl (congrArg (fun b => some (Value.bool b)) hb183) rfl rfl rfl (Y_move rfl rfl) ?_; clear hf; intro a hf
      refine qYg hf rfl rfl rfl (congrArg (fun b => some (Value.bool b)) hb183) rfl rfl rfl (Y_move rfl rfl) ?_; clear hf; intro a hf
      obtain ⟨q184, hi185, hj173⟩ := bind_some hj173
      obtain ⟨hi185a, hi185b, hi185q⟩ := idx_some hi185
      obtain ⟨vs186, hv187, hr188⟩ := id aG
      obtain ⟨A189, c190, hv191, hR192⟩ := hr188 _ _ hi185q
      refine qYg hf rfl rfl rfl (congrArg (fun b => some (Value.bool b)) hb183) rfl rfl rfl (Y_index rfl rfl rfl el40 ti28 (Rd.isAt hv187 hv191) hi185a hi185b) ?_; clear hf; intro a hf
      refine qYg hf rfl rfl rfl (congrArg (fun b => some (Value.bool b)) hb183) rfl rfl rfl (Y_load_rd rfl rfl (fun w hs => hv187.at hs) (at1 hv191) ag28) ?_; clear hf; intro a hf
      obtain ⟨r193, hc194, hj173⟩ := bind_some hj173
      refine qCallg hf rfl rfl rfl (congrArg (fun b => some (Value.bool b)) hb183) rfl rfl rfl rfl (cap := []) rfl rfl en76 (v := .bool r193) (fun w hs => Calls.scal (spec_l01Within_ok F q184 A189 q184.length c190 rfl 10 0 1000000 _ _ hc194 (hR192.at hs))) ?_; clear hf; intro a hf
      refine qYg hf rfl rfl rfl (congrArg (fun b => some (Value.bool b)) hb183) rfl rfl rfl (Y_not rfl rfl) ?_; clear hf; intro a hf
      refine qY hf rfl rfl rfl (Y_pickF rfl (congrArg (fun b => some (Value.bool b)) hb183) rfl) ?_; clear hf; intro a hf
      refine qNil ?_; clear hs; intro w hs
      refine wpL_nil (then_normal ?_)
      exact ⟨(!r193), Option.some.inj hj173, (FrD.pick (FrD.pick (FrD.pick (FrD.pick hf.none hf rfl) hf rfl) hf rfl) hf rfl), hs⟩
    ·rintro a w ⟨b171, hr_, hf, hs⟩
     subst hr_
     try dsimp only at hm147
     refine wpL_cond hf rfl (fun hb195 => ?_) (fun hb195 => ?_)
     ·have hm147 := bif_t hm147 hb195
      refine wpL_seq <| wpL_region ?_
      refine sY hf hs rfl rfl rfl (Y_assign rfl rfl) ?_; clear hf; intro a hf
      refine wpO_nil ?_
      obtain rfl := Option.some.inj hm147
      try dsimp only at hm
      obtain rfl := Option.some.inj hm
      refine wpL_ret (Qb_ret (Ql_ret (Qb_ret (ret_tmp rfl hf rfl ?_))))
      exact ⟨_, rfl, rfl, hs.sel [] (by decide)⟩
     ·have hm147 := bif_f hm147 hb195
      refine wpL_skip ?_
      refine wpL_nil (Qb_normal ?_)
      refine wpL_region ?_
      refine sY hf hs rfl rfl rfl (Y_move rfl rfl) ?_; clear hf; intro a hf
      refine sY hf hs rfl rfl rfl (Y_add rfl rfl rfl) ?_; clear hf; intro a hf
      refine sY hf hs rfl rfl rfl (Y_assign rfl rfl) ?_; clear hf; intro a hf
      refine wpO_nil ?_
      refine wpL_nil (Ql_normal ?_)
      exact ⟨(IntKind.i64.wrap (x97 + 1)), hm147, (FrD.pick (FrD.pick (FrD.pick hf.none hf rfl) hf rfl) hf rfl), hs⟩
   ·have hm147 := bif_f hm147 hb149
    refine wpL_exit (Ql_exit (Qb_exit ?_))
    exact ⟨Option.some.inj hm147, (FrD.pick hf.none hf rfl), hs.sel [] (by decide)⟩
 ·rintro a w ⟨hr_, hf, hs⟩
  subst hr_
  try dsimp only at hm
  refine wpL_seq <| wpL_region ?_
  refine sY hf hs rfl rfl rfl (Y_move rfl rfl) ?_; clear hf; intro a hf
  refine sY hf hs rfl rfl rfl (Y_lenH rfl rfl el40 rfl) ?_; clear hf; intro a hf
  refine sY hf hs rfl rfl rfl (Y_leq rfl rfl rfl) ?_; clear hf; intro a hf
  refine sY hf hs rfl rfl rfl (Y_assign rfl rfl) ?_; clear hf; intro a hf
  refine wpO_nil ?_
  obtain rfl := Option.some.inj hm
  refine wpL_ret (ret_tmp rfl hf rfl ?_)
  exact ⟨_, rfl, rfl, hs⟩

set_option maxRecDepth 100000 in
theorem spec_l02Own_ok (F : Nat) (bj : List (List Int)) (aQ : Option Addr) (bo bk : Nat) (bz : bo = bj.length) (r : List (List Int)) (W : World) (hm : spec_l02Own F bj = some r) (bA : RdM W aQ bj) :
  Calls Try.prog 180 [.slice aQ bo bk].toArray W fun e w' => ∃ v, e = .returned v ∧ ∃ A124, ∃ n125, ∃ c126, ∃ vs128, v = .slice A124 n125 c126 ∧ n125 = r.length ∧ St [] W w' [.mat A124 n125 c126 28 2 vs128 r] := by
 subst bz
 unfold spec_l02Own at hm
 refine Calls.enter (N := 21) Try.func180 rfl rfl rfl (fun a hf => ?_)
 have hs := St.start W
 obtain ⟨w, hw_⟩ : ∃ w, w = W := ⟨W, rfl⟩
 clear hw_ w
 refine wpL_seq <| wpL_region ?_
 refine sY hf hs rfl rfl rfl (Y_assign rfl rfl) ?_; clear hf; intro a hf
 refine wpO_nil <| wpL_seq <| wpL_region ?_
 refine sEmptyM 2 hf hs rfl rfl rfl rfl el40 ti28 rfl ?_; clear hf hs; intro a w A1 hs hf
 have hs : St _ W w [.mat A1 0 0 28 2 [] []] := hs
 refine sY hf hs rfl rfl rfl (Y_assign rfl rfl) ?_; clear hf; intro a hf
 refine wpO_nil <| wpL_seq <| wpL_seq <| wpL_region ?_
 refine sY hf hs rfl rfl rfl (Y_assign rfl rfl) ?_; clear hf; intro a hf
 refine wpO_nil ?_
 obtain ⟨r96, hl97, hm⟩ := bind_some hm
 refine wpL_block (fun a w => ∃ ms90 : List (List Int), ∃ A91, ∃ n92, ∃ c93, ∃ vs95, ms90 = r96 ∧ n92 = ms90.length ∧ Fr a 21 [(3, .slice A91 n92 c93)] ∧ St [] W w [.mat A91 n92 c93 28 2 vs95 ms90]) ?_ ?_
 ·refine wpL_loop (fun n a w => ∃ ms59 : List (List Int), ∃ x65 : Int, ∃ A60, ∃ n61, ∃ c62, ∃ vs64, spec_l02Own_L1 F bj n ms59 x65 = some r96 ∧ n61 = ms59.length ∧ Fr a 21 [(0, .slice aQ bj.length bk), (3, .slice A60 n61 c62), (4, .int .i64 x65)] ∧ St [] W w [.mat A60 n61 c62 28 2 vs64 ms59]) F ?_ ?_ ?_
  ·exact ⟨[], 0, A1, 0, 0, [], hl97, rfl, (FrD.pick (FrD.pick (FrD.pick hf.none hf rfl) hf rfl) hf rfl), hs⟩
  ·rintro a w ⟨ms59, x65, A60, n61, c62, vs64, h0_, -, -, -⟩; simp [spec_l02Own_L1] at h0_
  ·rintro n99 a w ⟨ms59, x65, A60, n61, c62, vs64, hm98, hn63, hf, hs⟩
   rw [spec_l02Own_L1] at hm98
   refine wpL_seq <| wpL_seq <| wpL_region ?_
   refine sY hf hs rfl rfl rfl (Y_move rfl rfl) ?_; clear hf; intro a hf
   refine sY hf hs rfl rfl rfl (Y_move rfl rfl) ?_; clear hf; intro a hf
   refine sY hf hs rfl rfl rfl (Y_lenH rfl rfl el40 rfl) ?_; clear hf; intro a hf
   refine sY hf hs rfl rfl rfl (Y_lss rfl rfl rfl) ?_; clear hf; intro a hf
   refine wpO_nil ?_
   refine wpL_cond hf rfl (fun hb100 => ?_) (fun hb100 => ?_)
   ·have hm98 := bif_t hm98 hb100
    refine wpL_skip <| wpL_seq <| wpL_block0 <| wpL_region ?_
    refine sY hf hs rfl rfl rfl (Y_move rfl rfl) ?_; clear hf; intro a hf
    refine sY hf hs rfl rfl rfl (Y_move rfl rfl) ?_; clear hf; intro a hf
    refine sY hf hs rfl rfl rfl (Y_move rfl rfl) ?_; clear hf; intro a hf
    obtain ⟨q101, hi102, hm98⟩ := bind_some hm98
    obtain ⟨hi102a, hi102b, hi102q⟩ := idx_some hi102
    obtain ⟨vs103, hv104, hr105⟩ := id bA
    obtain ⟨A106, c107, hv108, hR109⟩ := hr105 _ _ hi102q
    refine sY hf hs rfl rfl rfl (Y_index rfl rfl rfl el40 ti28 (Rd.isAt hv104 hv108) hi102a hi102b) ?_; clear hf; intro a hf
    refine sY hf hs rfl rfl rfl (Y_load_rd rfl rfl (fun w hs => hv104.at hs) (at1 hv108) ag28) ?_; clear hf; intro a hf
    obtain ⟨r110, hc111, hm98⟩ := bind_some hm98
    refine sCall hf rfl rfl rfl rfl (cap := []) rfl rfl en114 (spec_l01Own_ok F q101 A106 q101.length c107 rfl _ _ hc111 (hR109.at hs)) ?_; clear hf
    rintro _ w ⟨A112, n113, c114, rfl, hn115, hs1⟩ a hf
    have hs : St _ W w [_, .row A112 n113 c114 2 1 (ints r110)] := hs.join hs1
    clear hs1
    refine sOneM (j := 1) hf hs rfl rfl rfl rfl rfl rfl hn115 el40 ti28 ?_; clear hf hs; intro a w A116 hs hf
    have hs : St _ W w [_, .mat A116 1 1 28 2 ([Value.slice A112 r110.length c114]) ([r110])] := hs
    obtain ⟨ms120, ha121, hm98⟩ := bind_some hm98
    refine sAppendM (i := 0) (j := 1) hf hs rfl rfl rfl rfl rfl rfl hn63 rfl (by decide) rfl rfl (by decide) ha121 el40 ti28 rfl ?_; clear hf hs; intro a w A118 c119 hs hf
    have hs : St _ W w [.mat A118 ms120.length c119 28 2 (vs64 ++ ([Value.slice A112 r110.length c114])) ms120] := hs
    obtain ⟨hq122, hv123⟩ := hs.appended (i := 0) rfl ha121
    refine sY hf hs rfl rfl rfl (Y_assign rfl rfl) ?_; clear hf; intro a hf
    refine wpO_nil ?_
    refine wpL_nil (Qb_normal ?_)
    refine wpL_region ?_
    refine sY hf hs rfl rfl rfl (Y_move rfl rfl) ?_; clear hf; intro a hf
    refine sY hf hs rfl rfl rfl (Y_add rfl rfl rfl) ?_; clear hf; intro a hf
    refine sY hf hs rfl rfl rfl (Y_assign rfl rfl) ?_; clear hf; intro a hf
    refine wpO_nil ?_
    refine wpL_nil (Ql_normal ?_)
    exact ⟨ms120, (IntKind.i64.wrap (x65 + 1)), A118, ms120.length, c119, (vs64 ++ ([Value.slice A112 r110.length c114])), hm98, rfl, (FrD.pick (FrD.pick (FrD.pick hf.none hf rfl) hf rfl) hf rfl), hs⟩
   ·have hm98 := bif_f hm98 hb100
    refine wpL_exit (Ql_exit (Qb_exit ?_))
    exact ⟨ms59, A60, n61, c62, vs64, Option.some.inj hm98, hn63, (FrD.pick hf.none hf rfl), hs⟩
 ·rintro a w ⟨ms90, A91, n92, c93, vs95, hr_, hn94, hf, hs⟩
  subst hr_
  try dsimp only at hm
  refine wpL_seq <| wpL_region ?_
  refine sY hf hs rfl rfl rfl (Y_move rfl rfl) ?_; clear hf; intro a hf
  refine sY hf hs rfl rfl rfl (Y_assign rfl rfl) ?_; clear hf; intro a hf
  refine wpO_nil ?_
  obtain rfl := Option.some.inj hm
  refine wpL_ret (ret_tmp rfl hf rfl ?_)
  exact ⟨_, rfl, A91, n92, c93, vs95, rfl, hn94, hs⟩

set_option maxHeartbeats 2000000 in
set_option maxRecDepth 100000 in
theorem spec_l22Latest_ok (F : Nat) (p0 : GEventGraph) (al : Option Addr) (aS am : Nat) (bC : aS = p0.Places.length) (p1 : List (List Int)) (aH : Option Addr) (bi aT : Nat) (bX : bi = p1.length) (r : List (List Int)) (W : World) (hm : spec_l22Latest F p0 p1 = some r) (aP : Rd W al ((recs GPlace.cells) p0.Places)) (bE : RdM W aH p1) :
  Calls Try.prog 105 [.agg #[.int .i64 p0.Events, .slice al aS am], .slice aH bi aT].toArray W fun e w' => ∃ v, e = .returned v ∧ ∃ A2911, ∃ n2912, ∃ c2913, ∃ vs2915, v = .slice A2911 n2912 c2913 ∧ n2912 = r.length ∧ St [] W w' [.mat A2911 n2912 c2913 28 2 vs2915 r] := by
 subst bC
 subst bX
 unfold spec_l22Latest at hm
 refine Calls.enter (N := 91) Try.func105 rfl rfl rfl (fun a hf => ?_)
 have hs := St.start W
 obtain ⟨w, hw_⟩ : ∃ w, w = W := ⟨W, rfl⟩
 clear hw_ w
 refine wpL_seq <| wpL_region ?_
 refine sBox hf hs rfl rfl rfl rfl rfl (cs := [.int .i64 p0.Events, .slice al p0.Places.length am]) rfl ?_; clear hf hs; intro a w b1 hs hf
 have hs : St _ W w [.blk b1 55 [.int .i64 p0.Events, .slice al p0.Places.length am]] := hs
 refine sY hf hs rfl rfl rfl (Y_assign rfl rfl) ?_; clear hf; intro a hf
 refine wpO_nil <| wpL_seq <| wpL_region ?_
 refine sY hf hs rfl rfl rfl (Y_load_blkS rfl rfl (i := 0) rfl ag55 ti55 rfl) ?_; clear hf; intro a hf
 obtain ⟨r2, hc3, hm⟩ := bind_some hm
 refine sCall hf rfl rfl rfl rfl (cap := []) rfl rfl en179 (spec_l12Order_ok F p0 al p0.Places.length am rfl _ _ hc3 (aP.at hs)) ?_; clear hf
 rintro _ w ⟨A4, n5, c6, rfl, hn7, hs1⟩ a hf
 have hs : St _ W w [_, .row A4 n5 c6 2 1 (ints r2)] := hs.join hs1
 clear hs1
 refine sY hf hs rfl rfl rfl (Y_assign rfl rfl) ?_; clear hf; intro a hf
 refine wpO_nil <| wpL_seq <| wpL_region ?_
 refine sY hf hs rfl rfl rfl (Y_move rfl rfl) ?_; clear hf; intro a hf
 obtain ⟨r8, hc9, hm⟩ := bind_some hm
 refine sCall hf rfl rfl rfl rfl (cap := []) rfl rfl en180 (spec_l02Own_ok F p1 aH p1.length aT rfl _ _ hc9 (bE.at hs)) ?_; clear hf
 rintro _ w ⟨A10, n11, c12, vs14, rfl, hn13, hs1⟩ a hf
 have hs : St _ W w [_, _, .mat A10 n11 c12 28 2 vs14 r8] := hs.join hs1
 clear hs1
 refine sY hf hs rfl rfl rfl (Y_assign rfl rfl) ?_; clear hf; intro a hf
 refine wpO_nil <| wpL_seq <| wpL_region ?_
 refine sY hf hs rfl rfl rfl (Y_move rfl rfl) ?_; clear hf; intro a hf
 refine sY hf hs rfl rfl rfl (Y_lenH rfl rfl el40 rfl) ?_; clear hf; intro a hf
 refine sY hf hs rfl rfl rfl (Y_assign rfl rfl) ?_; clear hf; intro a hf
 refine wpO_nil <| wpL_seq <| wpL_seq <| wpL_region ?_
 refine sY hf hs rfl rfl rfl (Y_move rfl rfl) ?_; clear hf; intro a hf
 refine sY hf hs rfl rfl rfl (Y_assign rfl rfl) ?_; clear hf; intro a hf
 refine wpO_nil ?_
 obtain ⟨r2186, hl2187, hm⟩ := bind_some hm
 refine wpL_block (fun a w => ∃ ms2184 : List (List Int), ms2184 = r2186 ∧ n11 = ms2184.length ∧ Fr a 91 [(6, .slice A10 n11 c12)] ∧ St [] W w [.mat A10 n11 c12 28 2 vs14 ms2184]) ?_ ?_
 ·refine wpL_loop (fun n a w => ∃ ms1460 : List (List Int), ∃ x1462 : Int, spec_l22Latest_L16 F p0 p1 r2 n ms1460 x1462 = some r2186 ∧ n11 = ms1460.length ∧ Fr a 91 [(2, .pointer (some ⟨b1, 0, none⟩)), (5, .slice A4 n5 c6), (6, .slice A10 n11 c12), (7, .int .i64 (p1.length : Int)), (8, .int .i64 x1462)] ∧ St [] W w [.blk b1 55 [.int .i64 p0.Events, .slice al p0.Places.length am], .row A4 n5 c6 2 1 (ints r2), .mat A10 n11 c12 28 2 vs14 ms1460]) F ?_ ?_ ?_
  ·exact ⟨r8, (p1.length : Int), hl2187, hn13, (FrD.pick (FrD.pick (FrD.pick (FrD.pick (FrD.pick hf.none hf rfl) hf rfl) hf rfl) hf rfl) hf rfl), hs⟩
  ·rintro a w ⟨ms1460, x1462, h0_, -, -, -⟩; simp [spec_l22Latest_L16] at h0_
  ·rintro n2189 a w ⟨ms1460, x1462, hm2188, hn1461, hf, hs⟩
   rw [spec_l22Latest_L16] at hm2188
   refine wpL_seq <| wpL_seq <| wpL_region ?_
   refine sY hf hs rfl rfl rfl (Y_move rfl rfl) ?_; clear hf; intro a hf
   refine sY hf hs rfl rfl rfl (Y_geq rfl rfl rfl) ?_; clear hf; intro a hf
   refine wpO_nil ?_
   refine wpL_cond hf rfl (fun hb2190 => ?_) (fun hb2190 => ?_)
   ·have hm2188 := bif_t hm2188 hb2190
    refine wpL_skip <| wpL_seq <| wpL_block0 <| wpL_seq <| wpL_region ?_
    refine sY hf hs rfl rfl rfl (Y_move rfl rfl) ?_; clear hf; intro a hf
    refine sY hf hs rfl rfl rfl (Y_lenH rfl rfl el28 hn7) ?_; clear hf; intro a hf
    refine sY hf hs rfl rfl rfl (Y_sub rfl rfl rfl) ?_; clear hf; intro a hf
    refine sY hf hs rfl rfl rfl (Y_assign rfl rfl) ?_; clear hf; intro a hf
    refine wpO_nil ?_
    obtain ⟨r2730, hl2731, hm2188⟩ := bind_some hm2188
    refine wpL_block (fun a w => ∃ ms2728 : List (List Int), ms2728 = r2730 ∧ n11 = ms2728.length ∧ Fr a 91 [(2, .pointer (some ⟨b1, 0, none⟩)), (5, .slice A4 n5 c6), (6, .slice A10 n11 c12), (7, .int .i64 (p1.length : Int)), (8, .int .i64 x1462)] ∧ St [] W w [.blk b1 55 [.int .i64 p0.Events, .slice al p0.Places.length am], .row A4 n5 c6 2 1 (ints r2), .mat A10 n11 c12 28 2 vs14 ms2728]) ?_ ?_
    ·refine wpL_loop (fun n a w => ∃ ms2548 : List (List Int), ∃ x2550 : Int, spec_l22Latest_L20 F p0 p1 r2 x1462 n ms2548 x2550 = some r2730 ∧ n11 = ms2548.length ∧ Fr a 91 [(2, .pointer (some ⟨b1, 0, none⟩)), (5, .slice A4 n5 c6), (6, .slice A10 n11 c12), (7, .int .i64 (p1.length : Int)), (8, .int .i64 x1462), (9, .int .i64 x2550)] ∧ St [] W w [.blk b1 55 [.int .i64 p0.Events, .slice al p0.Places.length am], .row A4 n5 c6 2 1 (ints r2), .mat A10 n11 c12 28 2 vs14 ms2548]) F ?_ ?_ ?_
     ·exact ⟨ms1460, (IntKind.i64.wrap ((r2.length : Int) - 1)), hl2731, hn1461, (FrD.pick (FrD.pick (FrD.pick (FrD.pick (FrD.pick (FrD.pick hf.none hf rfl) hf rfl) hf rfl) hf rfl) hf rfl) hf rfl), hs⟩
     ·rintro a w ⟨ms2548, x2550, h0_, -, -, -⟩; simp [spec_l22Latest_L20] at h0_
     ·rintro n2733 a w ⟨ms2548, x2550, hm2732, hn2549, hf, hs⟩
      rw [spec_l22Latest_L20] at hm2732
      refine wpL_seq <| wpL_seq <| wpL_region ?_
      refine sY hf hs rfl rfl rfl (Y_move rfl rfl) ?_; clear hf; intro a hf
      refine sY hf hs rfl rfl rfl (Y_geq rfl rfl rfl) ?_; clear hf; intro a hf
      refine wpO_nil ?_
      refine wpL_cond hf rfl (fun hb2734 => ?_) (fun hb2734 => ?_)
      ·have hm2732 := bif_t hm2732 hb2734
       refine wpL_skip <| wpL_seq <| wpL_block0 <| wpL_seq <| wpL_region ?_
       refine sY hf hs rfl rfl rfl (Y_assign rfl rfl) ?_; clear hf; intro a hf
       refine wpO_nil ?_
       obtain ⟨r2866, hl2867, hm2732⟩ := bind_some hm2732
       refine wpL_block (fun a w => ∃ ms2864 : List (List Int), ms2864 = r2866 ∧ n11 = ms2864.length ∧ Fr a 91 [(2, .pointer (some ⟨b1, 0, none⟩)), (5, .slice A4 n5 c6), (6, .slice A10 n11 c12), (7, .int .i64 (p1.length : Int)), (8, .int .i64 x1462), (9, .int .i64 x2550)] ∧ St [] W w [.blk b1 55 [.int .i64 p0.Events, .slice al p0.Places.length am], .row A4 n5 c6 2 1 (ints r2), .mat A10 n11 c12 28 2 vs14 ms2864]) ?_ ?_
       ·refine wpL_loop (fun n a w => ∃ ms2820 : List (List Int), ∃ x2822 : Int, spec_l22Latest_L21 F p0 p1 r2 x1462 x2550 n ms2820 x2822 = some r2866 ∧ n11 = ms2820.length ∧ Fr a 91 [(2, .pointer (some ⟨b1, 0, none⟩)), (5, .slice A4 n5 c6), (6, .slice A10 n11 c12), (7, .int .i64 (p1.length : Int)), (8, .int .i64 x1462), (9, .int .i64 x2550), (10, .int .i64 x2822)] ∧ St [] W w [.blk b1 55 [.int .i64 p0.Events, .slice al p0.Places.length am], .row A4 n5 c6 2 1 (ints r2), .mat A10 n11 c12 28 2 vs14 ms2820]) F ?_ ?_ ?_
        ·exact ⟨ms2548, 0, hl2867, hn2549, (FrD.pick (FrD.pick (FrD.pick (FrD.pick (FrD.pick (FrD.pick (FrD.pick hf.none hf rfl) hf rfl) hf rfl) hf rfl) hf rfl) hf rfl) hf rfl), hs⟩
        ·rintro a w ⟨ms2820, x2822, h0_, -, -, -⟩; simp [spec_l22Latest_L21] at h0_
        ·rintro n2869 a w ⟨ms2820, x2822, hm2868, hn2821, hf, hs⟩
         rw [spec_l22Latest_L21] at hm2868
         refine wpL_seq <| wpL_seq <| wpL_region ?_
         refine sY hf hs rfl rfl rfl (Y_move rfl rfl) ?_; clear hf; intro a hf
         refine sY hf hs rfl rfl rfl (Y_fieldAddr rfl rfl fo55_1) ?_; clear hf; intro a hf
         refine sY hf hs rfl rfl rfl (Y_load_blk rfl rfl (i := 0) rfl rfl ag53) ?_; clear hf; intro a hf
         refine sY hf hs rfl rfl rfl (Y_lenH rfl rfl el53 rfl) ?_; clear hf; intro a hf
         refine sY hf hs rfl rfl rfl (Y_lss rfl rfl rfl) ?_; clear hf; intro a hf
         refine wpO_nil ?_
         refine wpL_cond hf rfl (fun hb2870 => ?_) (fun hb2870 => ?_)
         ·have hm2868 := bif_t hm2868 hb2870
          refine wpL_skip <| wpL_seq <| wpL_block0 <| wpL_seq <| wpL_region ?_
          refine sY hf hs rfl rfl rfl (Y_fieldAddr rfl rfl fo55_1) ?_; clear hf; intro a hf
          refine sY hf hs rfl rfl rfl (Y_load_blk rfl rfl (i := 0) rfl rfl ag53) ?_; clear hf; intro a hf
          refine sY hf hs rfl rfl rfl (Y_move rfl rfl) ?_; clear hf; intro a hf
          obtain ⟨q2871, hi2872, hm2868⟩ := bind_some hm2868
          obtain ⟨hi2872a, hi2872b, hi2872q⟩ := idx_some hi2872
          refine sY hf hs rfl rfl rfl (Y_index rfl rfl rfl el53 ti64 (Rd.isAt (aP.at hs) (recs_at (s := 4) GPlace.len hi2872q (j := 0) rfl)) hi2872a hi2872b) ?_; clear hf; intro a hf
          refine sY hf hs rfl rfl rfl (Y_load_rdS rfl rfl (us := [.int .i64 q2871.From, .int .i64 q2871.To, .int .i64 q2871.Delay, .int .i64 q2871.Tokens]) (fun w hs => aP.at hs) (fun j u hj => recs_at (s := 4) GPlace.len hi2872q hj) (Nat.succ_pos _) ag64 ti64 rfl) ?_; clear hf; intro a hf
          refine sAlloc hf hs rfl rfl rfl rfl ti64 ?_; clear hf hs; intro a w b2873 hs hf
          have hs : St _ W w [_, _, _, .blk b2873 64 [.int .i64 0, .int .i64 0, .int .i64 0, .int .i64 0]] := hs
          refine sStore (i := 3) (us := [.int .i64 q2871.From, .int .i64 q2871.To, .int .i64 q2871.Delay, .int .i64 q2871.Tokens]) hf hs rfl rfl rfl rfl rfl rfl ti64 rfl rfl rfl (Nat.le_of_ble_eq_true rfl) rfl ?_; clear hs; intro w hs
          have hs : St _ W w [_, _, _, .blk b2873 64 [.int .i64 q2871.From, .int .i64 q2871.To, .int .i64 q2871.Delay, .int .i64 q2871.Tokens]] := hs
          refine wpO_nil <| wpL_seq ?_
          obtain ⟨r2878, hj2879, hm2868⟩ := bind_some hm2868
          refine wpL_cut (fun a w => ∃ b2877 : Bool, b2877 = r2878 ∧ Fr a 91 [(2, .pointer (some ⟨b1, 0, none⟩)), (5, .slice A4 n5 c6), (6, .slice A10 n11 c12), (7, .int .i64 (p1.length : Int)), (8, .int .i64 x1462), (9, .int .i64 x2550), (10, .int .i64 x2822), (11, .pointer (some ⟨b2873, 0, none⟩)), (56, .bool b2877)] ∧ St [] W w [.blk b1 55 [.int .i64 p0.Events, .slice al p0.Places.length am], .row A4 n5 c6 2 1 (ints r2), .mat A10 n11 c12 28 2 vs14 ms2820, .blk b2873 64 [.int .i64 q2871.From, .int .i64 q2871.To, .int .i64 q2871.Delay, .int .i64 q2871.Tokens]]) ?_ ?_
          ·refine wpL_draw (by kernel_rfl) (by kernel_rfl) hs ?_
           refine qY hf rfl rfl rfl (Y_fieldAddr rfl rfl fo64_0) ?_; clear hf; intro a hf
           refine qY hf rfl rfl rfl (Y_load_blk rfl rfl (i := 3) rfl rfl ag2) ?_; clear hf; intro a hf
           refine qY hf rfl rfl rfl (Y_move rfl rfl) ?_; clear hf; intro a hf
           refine qY hf rfl rfl rfl (Y_move rfl rfl) ?_; clear hf; intro a hf
           obtain ⟨q2880, hi2881, hj2879⟩ := bind_some hj2879
           obtain ⟨hi2881a, hi2881b, hi2881q⟩ := idx_some hi2881
           refine qY hf rfl rfl rfl (Y_index rfl rfl rfl el28 ti2 (Rd.isAt (hs.rd (i := 1) rfl) (at1 (ints_at hi2881q))) hi2881a (ltn hn7 hi2881b)) ?_; clear hf; intro a hf
           refine qY hf rfl rfl rfl (Y_load_rd rfl rfl (fun w hs => hs.rd (i := 1) rfl) (at1 (ints_at hi2881q)) ag2) ?_; clear hf; intro a hf
           refine qY hf rfl rfl rfl (Y_eql rfl rfl rfl) ?_; clear hf; intro a hf
           refine qY hf rfl rfl rfl (Y_move rfl rfl) ?_; clear hf; intro a hf
           refine bsplit (q2871.From == q2880) (fun hb2882 => ?_) (fun hb2882 => ?_)
           ·have hj2879 := bif_t hj2879 hb2882
            refine qYg hf rfl rfl rfl (congrArg (fun b => some (Value.bool b)) hb2882) rfl rfl rfl (Y_move rfl rfl) ?_; clear hf; intro a hf
            refine qYg hf rfl rfl rfl (congrArg (fun b => some (Value.bool b)) hb2882) rfl rfl rfl (Y_fieldAddr rfl rfl fo64_3) ?_; clear hf; intro a hf
            refine qYg hf rfl rfl rfl (congrArg (fun b => some (Value.bool b)) hb2882) rfl rfl rfl (Y_load_blk rfl rfl (i := 3) rfl rfl ag2) ?_; clear hf; intro a hf
            refine qYg hf rfl rfl rfl (congrArg (fun b => some (Value.bool b)) hb2882) rfl rfl rfl (Y_add rfl rfl rfl) ?_; clear hf; intro a hf
            refine qYg hf rfl rfl rfl (congrArg (fun b => some (Value.bool b)) hb2882) rfl rfl rfl (Y_move rfl rfl) ?_; clear hf; intro a hf
            refine qYg hf rfl rfl rfl (congrArg (fun b => some (Value.bool b)) hb2882) rfl rfl rfl (Y_leq rfl rfl rfl) ?_; clear hf; intro a hf
            refine qY hf rfl rfl rfl (Y_pickT rfl (congrArg (fun b => some (Value.bool b)) hb2882) rfl) ?_; clear hf; intro a hf
            refine qNil ?_; clear hs; intro w hs
            refine wpL_nil (then_normal ?_)
            exact ⟨(decide ((IntKind.i64.wrap (x1462 + q2871.Tokens)) ≤ (p1.length : Int))), Option.some.inj hj2879, (FrD.pick (FrD.pick (FrD.pick (FrD.pick (FrD.pick (FrD.pick (FrD.pick (FrD.pick (FrD.pick hf.none hf rfl) hf rfl) hf rfl) hf rfl) hf rfl) hf rfl) hf rfl) hf rfl) hf rfl), hs⟩
           ·have hj2879 := bif_f hj2879 hb2882
            refine qNo hf rfl rfl rfl (congrArg (fun b => some (Value.bool b)) hb2882) rfl rfl rfl ?_; clear hf; intro a hf
            refine qNo hf rfl rfl rfl (congrArg (fun b => some (Value.bool b)) hb2882) rfl rfl rfl ?_; clear hf; intro a hf
            refine qNo hf rfl rfl rfl (congrArg (fun b => some (Value.bool b)) hb2882) rfl rfl rfl ?_; clear hf; intro a hf
            refine qNo hf rfl rfl rfl (congrArg (fun b => some (Value.bool b)) hb2882) rfl rfl rfl ?_; clear hf; intro a hf
            refine qNo hf rfl rfl rfl (congrArg (fun b => some (Value.bool b)) hb2882) rfl rfl rfl ?_; clear hf; intro a hf
            refine qNo hf rfl rfl rfl (congrArg (fun b => some (Value.bool b)) hb2882) rfl rfl rfl ?_; clear hf; intro a hf
            refine qY hf rfl rfl rfl (Y_pickF rfl (congrArg (fun b => some (Value.bool b)) hb2882) rfl) ?_; clear hf; intro a hf
            refine qNil ?_; clear hs; intro w hs
            refine wpL_nil (then_normal ?_)
            exact ⟨false, Option.some.inj hj2879, (FrD.pick (FrD.pick (FrD.pick (FrD.pick (FrD.pick (FrD.pick (FrD.pick (FrD.pick (FrD.pick hf.none hf rfl) hf rfl) hf rfl) hf rfl) hf rfl) hf rfl) hf rfl) hf rfl) hf rfl), hs⟩
          ·rintro a w ⟨b2877, hr_, hf, hs⟩
           subst hr_
           try dsimp only at hm2868
           refine wpL_cond hf rfl (fun hb2883 => ?_) (fun hb2883 => ?_)
           ·have hm2868 := bif_t hm2868 hb2883
            refine wpL_drawM [.blk b1 55 [.int .i64 p0.Events, .slice al p0.Places.length am], .row A4 n5 c6 2 1 (ints r2), .mat A10 n11 c12 28 2 vs14 ms2820, .blk b2873 64 [.int .i64 q2871.From, .int .i64 q2871.To, .int .i64 q2871.Delay, .int .i64 q2871.Tokens]] [33] (by kernel_rfl) hs ?_; clear hs; intro w hs
            have hs0 : St _ W w [_, _, _, _] := hs
            refine mYp (i := 0) rfl (by kernel_rfl) (by kernel_rfl) hf rfl rfl rfl (fun _ => Y_move rfl rfl) ?_; clear hf; intro a hf
            refine mYp (i := 1) rfl (by kernel_rfl) (by kernel_rfl) hf rfl rfl rfl (fun _ => Y_move rfl rfl) ?_; clear hf; intro a hf
            refine mYp (i := 2) rfl (by kernel_rfl) (by kernel_rfl) hf rfl rfl rfl (fun _ => Y_sub rfl rfl rfl) ?_; clear hf; intro a hf
            obtain ⟨q2884, hi2885, hm2868⟩ := bind_some hm2868
            obtain ⟨hi2885a, hi2885b, hi2885q⟩ := idx_some hi2885
            obtain ⟨A2886, c2887, hv2888⟩ := hs.matRow (i := 2) rfl hi2885q
            refine mYp (i := 3) rfl (by kernel_rfl) (by kernel_rfl) hf rfl rfl rfl (fun _ => Y_index rfl rfl rfl el40 ti28 (Rd.isAt (hs.rdV (i := 2) rfl) hv2888) hi2885a (ltn hn2821 hi2885b)) ?_; clear hf; intro a hf
            refine mY (i := 4) [[]] rfl (by kernel_rfl) (by kernel_rfl) hf hs0 rfl rfl rfl (Y_load_rd rfl rfl (fun w hs => hs.rdV (i := 2) rfl) (at1 hv2888) ag28) ?_; clear hf; intro a hf
            refine mYp (i := 5) rfl (by kernel_rfl) (by kernel_rfl) hf rfl rfl rfl (fun _ => Y_fieldAddr rfl rfl fo64_0) ?_; clear hf; intro a hf
            refine mY (i := 6) [[]] rfl (by kernel_rfl) (by kernel_rfl) hf hs0 rfl rfl rfl (Y_load_blk rfl rfl (i := 3) rfl rfl ag2) ?_; clear hf; intro a hf
            refine mYp (i := 7) rfl (by kernel_rfl) (by kernel_rfl) hf rfl rfl rfl (fun _ => Y_move rfl rfl) ?_; clear hf; intro a hf
            refine mYp (i := 8) rfl (by kernel_rfl) (by kernel_rfl) hf rfl rfl rfl (fun _ => Y_move rfl rfl) ?_; clear hf; intro a hf
            refine mYp (i := 9) rfl (by kernel_rfl) (by kernel_rfl) hf rfl rfl rfl (fun _ => Y_sub rfl rfl rfl) ?_; clear hf; intro a hf
            obtain ⟨q2889, hi2890, hm2868⟩ := bind_some hm2868
            obtain ⟨hi2890a, hi2890b, hi2890q⟩ := idx_some hi2890
            obtain ⟨A2891, c2892, hv2893⟩ := hs.matRow (i := 2) rfl hi2890q
            refine mYp (i := 10) rfl (by kernel_rfl) (by kernel_rfl) hf rfl rfl rfl (fun _ => Y_index rfl rfl rfl el40 ti28 (Rd.isAt (hs.rdV (i := 2) rfl) hv2893) hi2890a (ltn hn2821 hi2890b)) ?_; clear hf; intro a hf
            refine mY (i := 11) [[]] rfl (by kernel_rfl) (by kernel_rfl) hf hs0 rfl rfl rfl (Y_load_rd rfl rfl (fun w hs => hs.rdV (i := 2) rfl) (at1 hv2893) ag28) ?_; clear hf; intro a hf
            refine mYp (i := 12) rfl (by kernel_rfl) (by kernel_rfl) hf rfl rfl rfl (fun _ => Y_fieldAddr rfl rfl fo64_0) ?_; clear hf; intro a hf
            refine mY (i := 13) [[]] rfl (by kernel_rfl) (by kernel_rfl) hf hs0 rfl rfl rfl (Y_load_blk rfl rfl (i := 3) rfl rfl ag2) ?_; clear hf; intro a hf
            obtain ⟨q2894, hi2895, hm2868⟩ := bind_some hm2868
            obtain ⟨hi2895a, hi2895b, hi2895q⟩ := idx_some hi2895
            refine mYp (i := 14) rfl (by kernel_rfl) (by kernel_rfl) hf rfl rfl rfl (fun _ => Y_index rfl rfl rfl el28 ti2 (Rd.isAt (hs.rdRow (i := 2) rfl ⟨hi2890q, hv2893⟩) (at1 (ints_at hi2895q))) hi2895a hi2895b) ?_; clear hf; intro a hf
            refine mY (i := 15) [[]] rfl (by kernel_rfl) (by kernel_rfl) hf hs0 rfl rfl rfl (Y_load_rd rfl rfl (fun w hs => hs.rdRow (i := 2) rfl ⟨hi2890q, hv2893⟩) (at1 (ints_at hi2895q)) ag2) ?_; clear hf; intro a hf
            refine mYp (i := 16) rfl (by kernel_rfl) (by kernel_rfl) hf rfl rfl rfl (fun _ => Y_move rfl rfl) ?_; clear hf; intro a hf
            refine mYp (i := 17) rfl (by kernel_rfl) (by kernel_rfl) hf rfl rfl rfl (fun _ => Y_move rfl rfl) ?_; clear hf; intro a hf
            refine mYp (i := 18) rfl (by kernel_rfl) (by kernel_rfl) hf rfl rfl rfl (fun _ => Y_fieldAddr rfl rfl fo64_3) ?_; clear hf; intro a hf
            refine mY (i := 19) [[]] rfl (by kernel_rfl) (by kernel_rfl) hf hs0 rfl rfl rfl (Y_load_blk rfl rfl (i := 3) rfl rfl ag2) ?_; clear hf; intro a hf
            refine mYp (i := 20) rfl (by kernel_rfl) (by kernel_rfl) hf rfl rfl rfl (fun _ => Y_add rfl rfl rfl) ?_; clear hf; intro a hf
            refine mYp (i := 21) rfl (by kernel_rfl) (by kernel_rfl) hf rfl rfl rfl (fun _ => Y_sub rfl rfl rfl) ?_; clear hf; intro a hf
            obtain ⟨q2896, hi2897, hm2868⟩ := bind_some hm2868
            obtain ⟨hi2897a, hi2897b, hi2897q⟩ := idx_some hi2897
            obtain ⟨A2898, c2899, hv2900⟩ := hs.matRow (i := 2) rfl hi2897q
            refine mYp (i := 22) rfl (by kernel_rfl) (by kernel_rfl) hf rfl rfl rfl (fun _ => Y_index rfl rfl rfl el40 ti28 (Rd.isAt (hs.rdV (i := 2) rfl) hv2900) hi2897a (ltn hn2821 hi2897b)) ?_; clear hf; intro a hf
            refine mY (i := 23) [[]] rfl (by kernel_rfl) (by kernel_rfl) hf hs0 rfl rfl rfl (Y_load_rd rfl rfl (fun w hs => hs.rdV (i := 2) rfl) (at1 hv2900) ag28) ?_; clear hf; intro a hf
            refine mYp (i := 24) rfl (by kernel_rfl) (by kernel_rfl) hf rfl rfl rfl (fun _ => Y_fieldAddr rfl rfl fo64_1) ?_; clear hf; intro a hf
            refine mY (i := 25) [[]] rfl (by kernel_rfl) (by kernel_rfl) hf hs0 rfl rfl rfl (Y_load_blk rfl rfl (i := 3) rfl rfl ag2) ?_; clear hf; intro a hf
            obtain ⟨q2901, hi2902, hm2868⟩ := bind_some hm2868
            obtain ⟨hi2902a, hi2902b, hi2902q⟩ := idx_some hi2902
            refine mYp (i := 26) rfl (by kernel_rfl) (by kernel_rfl) hf rfl rfl rfl (fun _ => Y_index rfl rfl rfl el28 ti2 (Rd.isAt (hs.rdRow (i := 2) rfl ⟨hi2897q, hv2900⟩) (at1 (ints_at hi2902q))) hi2902a hi2902b) ?_; clear hf; intro a hf
            refine mY (i := 27) [[]] rfl (by kernel_rfl) (by kernel_rfl) hf hs0 rfl rfl rfl (Y_load_rd rfl rfl (fun w hs => hs.rdRow (i := 2) rfl ⟨hi2897q, hv2900⟩) (at1 (ints_at hi2902q)) ag2) ?_; clear hf; intro a hf
            refine mYp (i := 28) rfl (by kernel_rfl) (by kernel_rfl) hf rfl rfl rfl (fun _ => Y_fieldAddr rfl rfl fo64_2) ?_; clear hf; intro a hf
            refine mY (i := 29) [[]] rfl (by kernel_rfl) (by kernel_rfl) hf hs0 rfl rfl rfl (Y_load_blk rfl rfl (i := 3) rfl rfl ag2) ?_; clear hf; intro a hf
            refine mYp (i := 30) rfl (by kernel_rfl) (by kernel_rfl) hf rfl rfl rfl (fun _ => Y_sub rfl rfl rfl) ?_; clear hf; intro a hf
            refine mYp (i := 31) rfl (by kernel_rfl) (by kernel_rfl) hf rfl rfl rfl (fun _ => Y_min rfl rfl rfl) ?_; clear hf; intro a hf
            obtain ⟨q2903, hi2904, hm2868⟩ := bind_some hm2868
            obtain ⟨hi2904a, hi2904b, hi2904q⟩ := idx_some hi2904
            refine mYp (i := 32) rfl (by kernel_rfl) (by kernel_rfl) hf rfl rfl rfl (fun _ => Y_index rfl rfl rfl el28 ti2 (Rd.isAt (hs.rdRow (i := 2) rfl ⟨hi2885q, hv2888⟩) (at1 (ints_at hi2904q))) hi2904a hi2904b) ?_; clear hf; intro a hf
            refine mRun (i := 33) rfl (by kernel_rfl) ?_
            obtain ⟨xs2905, hu2907, hm2868⟩ := bind_some hm2868
            obtain ⟨ms2906, hu2908, hm2868⟩ := bind_some hm2868
            refine sStoreM (i := 2) (k := (IntKind.i64.wrap (x1462 - 1))) hf hs rfl rfl rfl rfl rfl rfl hi2885q hv2888 rfl hu2907 hu2908 ti2 ?_; clear hs; intro w hs
            obtain ⟨hq2909, hv2910⟩ := rowUpd hu2907 hu2908 hv2888
            have hs : St _ W w [_, _, .mat A10 n11 c12 28 2 vs14 ms2906, _] := hs
            refine wpO_nil ⟨Or.inl (by decide), ?_⟩
            refine mDone (by kernel_rfl) ?_
            clear hs0
            refine wpL_nil (Qb_normal ?_)
            refine wpL_region ?_
            refine sY hf hs rfl rfl rfl (Y_move rfl rfl) ?_; clear hf; intro a hf
            refine sY hf hs rfl rfl rfl (Y_add rfl rfl rfl) ?_; clear hf; intro a hf
            refine sY hf hs rfl rfl rfl (Y_assign rfl rfl) ?_; clear hf; intro a hf
            refine wpO_nil ?_
            refine wpL_nil (Ql_normal ?_)
            exact ⟨ms2906, (IntKind.i64.wrap (x2822 + 1)), hm2868, ((hn2821).trans (upd_len hu2908).symm), (FrD.pick (FrD.pick (FrD.pick (FrD.pick (FrD.pick (FrD.pick (FrD.pick hf.none hf rfl) hf rfl) hf rfl) hf rfl) hf rfl) hf rfl) hf rfl), hs.sel [0, 1, 2] (by decide)⟩
           ·have hm2868 := bif_f hm2868 hb2883
            refine wpL_skip ?_
            refine wpL_nil (Qb_normal ?_)
            refine wpL_region ?_
            refine sY hf hs rfl rfl rfl (Y_move rfl rfl) ?_; clear hf; intro a hf
            refine sY hf hs rfl rfl rfl (Y_add rfl rfl rfl) ?_; clear hf; intro a hf
            refine sY hf hs rfl rfl rfl (Y_assign rfl rfl) ?_; clear hf; intro a hf
            refine wpO_nil ?_
            refine wpL_nil (Ql_normal ?_)
            exact ⟨ms2820, (IntKind.i64.wrap (x2822 + 1)), hm2868, hn2821, (FrD.pick (FrD.pick (FrD.pick (FrD.pick (FrD.pick (FrD.pick (FrD.pick hf.none hf rfl) hf rfl) hf rfl) hf rfl) hf rfl) hf rfl) hf rfl), hs.sel [0, 1, 2] (by decide)⟩
         ·have hm2868 := bif_f hm2868 hb2870
          refine wpL_exit (Ql_exit (Qb_exit ?_))
          exact ⟨ms2820, Option.some.inj hm2868, hn2821, (FrD.pick (FrD.pick (FrD.pick (FrD.pick (FrD.pick (FrD.pick hf.none hf rfl) hf rfl) hf rfl) hf rfl) hf rfl) hf rfl), hs⟩
       ·rintro a w ⟨ms2864, hr_, hn2865, hf, hs⟩
        subst hr_
        try dsimp only at hm2732
        refine wpL_nil (Qb_normal ?_)
        refine wpL_region ?_
        refine sY hf hs rfl rfl rfl (Y_move rfl rfl) ?_; clear hf; intro a hf
        refine sY hf hs rfl rfl rfl (Y_sub rfl rfl rfl) ?_; clear hf; intro a hf
        refine sY hf hs rfl rfl rfl (Y_assign rfl rfl) ?_; clear hf; intro a hf
        refine wpO_nil ?_
        refine wpL_nil (Ql_normal ?_)
        exact ⟨ms2864, (IntKind.i64.wrap (x2550 - 1)), hm2732, hn2865, (FrD.pick (FrD.pick (FrD.pick (FrD.pick (FrD.pick (FrD.pick hf.none hf rfl) hf rfl) hf rfl) hf rfl) hf rfl) hf rfl), hs⟩
      ·have hm2732 := bif_f hm2732 hb2734
       refine wpL_exit (Ql_exit (Qb_exit ?_))
       exact ⟨ms2548, Option.some.inj hm2732, hn2549, (FrD.pick (FrD.pick (FrD.pick (FrD.pick (FrD.pick hf.none hf rfl) hf rfl) hf rfl) hf rfl) hf rfl), hs⟩
    ·rintro a w ⟨ms2728, hr_, hn2729, hf, hs⟩
     subst hr_
     try dsimp only at hm2188
     refine wpL_nil (Qb_normal ?_)
     refine wpL_region ?_
     refine sY hf hs rfl rfl rfl (Y_move rfl rfl) ?_; clear hf; intro a hf
     refine sY hf hs rfl rfl rfl (Y_sub rfl rfl rfl) ?_; clear hf; intro a hf
     refine sY hf hs rfl rfl rfl (Y_assign rfl rfl) ?_; clear hf; intro a hf
     refine wpO_nil ?_
     refine wpL_nil (Ql_normal ?_)
     exact ⟨ms2728, (IntKind.i64.wrap (x1462 - 1)), hm2188, hn2729, (FrD.pick (FrD.pick (FrD.pick (FrD.pick (FrD.pick hf.none hf rfl) hf rfl) hf rfl) hf rfl) hf rfl), hs⟩
   ·have hm2188 := bif_f hm2188 hb2190
    refine wpL_exit (Ql_exit (Qb_exit ?_))
    exact ⟨ms1460, Option.some.inj hm2188, hn1461, (FrD.pick hf.none hf rfl), hs.sel [2] (by decide)⟩
 ·rintro a w ⟨ms2184, hr_, hn2185, hf, hs⟩
  subst hr_
  try dsimp only at hm
  refine wpL_seq <| wpL_region ?_
  refine sY hf hs rfl rfl rfl (Y_move rfl rfl) ?_; clear hf; intro a hf
  refine sY hf hs rfl rfl rfl (Y_assign rfl rfl) ?_; clear hf; intro a hf
  refine wpO_nil ?_
  obtain rfl := Option.some.inj hm
  refine wpL_ret (ret_tmp rfl hf rfl ?_)
  exact ⟨_, rfl, A10, n11, c12, vs14, rfl, hn2185, hs⟩

set_option maxRecDepth 100000 in
theorem spec_LatestTimes_ok (F : Nat) (ae : GEventGraph) (ad : Option Addr) (ap af : Nat) (aw : ap = ae.Places.length) (aA : List (List Int)) (ay : Option Addr) (aE aB : Nat) (aN : aE = aA.length) (r : List (List Int) × Int) (W : World) (hm : spec_LatestTimes F ae aA = some r) (au : Rd W ad ((recs GPlace.cells) ae.Places)) (aG : RdM W ay aA) :
  Calls Try.prog 43 [.agg #[.int .i64 ae.Events, .slice ad ap af], .slice ay aE aB].toArray W fun e w' => ∃ v, e = .returned v ∧ ∃ A15, ∃ n16, ∃ c17, ∃ vs19, v = .tuple #[.slice A15 n16 c17, .int .i64 r.2] ∧ n16 = r.1.length ∧ St [] W w' [.mat A15 n16 c17 28 2 vs19 r.1] := by
 subst aw
 subst aN
 unfold spec_LatestTimes at hm
 refine Calls.enter (N := 18) Try.func43 rfl rfl rfl (fun a hf => ?_)
 have hs := St.start W
 obtain ⟨w, hw_⟩ : ∃ w, w = W := ⟨W, rfl⟩
 clear hw_ w
 refine wpL_seq <| wpL_region ?_
 refine sBox hf hs rfl rfl rfl rfl rfl (cs := [.int .i64 ae.Events, .slice ad ae.Places.length af]) rfl ?_; clear hf hs; intro a w b1 hs hf
 have hs : St _ W w [.blk b1 55 [.int .i64 ae.Events, .slice ad ae.Places.length af]] := hs
 refine sY hf hs rfl rfl rfl (Y_assign rfl rfl) ?_; clear hf; intro a hf
 refine sY hf hs rfl rfl rfl (Y_assign rfl rfl) ?_; clear hf; intro a hf
 refine wpO_nil <| wpL_seq ?_
 refine wpL_draw (by kernel_rfl) (by kernel_rfl) hs ?_
 refine qY hf rfl rfl rfl (Y_load_blkS rfl rfl (i := 0) rfl ag55 ti55 rfl) ?_; clear hf; intro a hf
 refine qY hf rfl rfl rfl (Y_load_blkS rfl rfl (i := 0) rfl ag55 ti55 rfl) ?_; clear hf; intro a hf
 refine qY hf rfl rfl rfl (Y_move rfl rfl) ?_; clear hf; intro a hf
 obtain ⟨r2, hc3, hm⟩ := bind_some hm
 refine qCall hf rfl rfl rfl rfl (cap := []) rfl rfl en104 (v := .bool r2) (fun w hs => Calls.scal (spec_l22Due_ok F ae ad ae.Places.length af rfl aA ay aA.length aB rfl _ _ hc3 (au.at hs) (aG.at hs))) ?_; clear hf; intro a hf
 obtain ⟨r4, hc5, hm⟩ := bind_some hm
 refine qCall hf rfl rfl rfl rfl (cap := []) rfl rfl en103 (v := .int .i64 r4) (fun w hs => Calls.scal (spec_l13Code_ok F ae ad ae.Places.length af rfl r2 _ _ hc5 (au.at hs))) ?_; clear hf; intro a hf
 refine qY hf rfl rfl rfl (Y_assign rfl rfl) ?_; clear hf; intro a hf
 refine qNil ?_; clear hs; intro w hs
 refine wpL_seq <| wpL_seq <| wpL_region ?_
 refine sY hf hs rfl rfl rfl (Y_move rfl rfl) ?_; clear hf; intro a hf
 refine sY hf hs rfl rfl rfl (Y_neq rfl rfl rfl) ?_; clear hf; intro a hf
 refine wpO_nil ?_
 refine wpL_cond hf rfl (fun hb6 => ?_) (fun hb6 => ?_)
 ·have hm := bif_t hm hb6
  refine wpL_seq <| wpL_region ?_
  refine sY hf hs rfl rfl rfl (Y_move rfl rfl) ?_; clear hf; intro a hf
  refine sY hf hs rfl rfl rfl (Y_assign rfl rfl) ?_; clear hf; intro a hf
  refine sY hf hs rfl rfl rfl (Y_assign rfl rfl) ?_; clear hf; intro a hf
  refine wpO_nil ?_
  have hs : St [] W _ [.blk b1 55 [.int .i64 ae.Events, .slice ad ae.Places.length af], .mat none 0 0 28 2 [] ([] : List (List Int))] := hs.addNilM 28 2
  obtain rfl := Option.some.inj hm
  refine wpL_ret (ret_tmp2 rfl hf rfl rfl ?_)
  exact ⟨_, rfl, none, 0, 0, [], rfl, rfl, hs.sel [1] (by decide)⟩
 ·have hm := bif_f hm hb6
  refine wpL_skip <| wpL_seq <| wpL_region ?_
  refine sY hf hs rfl rfl rfl (Y_load_blkS rfl rfl (i := 0) rfl ag55 ti55 rfl) ?_; clear hf; intro a hf
  refine sY hf hs rfl rfl rfl (Y_move rfl rfl) ?_; clear hf; intro a hf
  obtain ⟨r8, hc9, hm⟩ := bind_some hm
  refine sCall hf rfl rfl rfl rfl (cap := []) rfl rfl en105 (spec_l22Latest_ok F ae ad ae.Places.length af rfl aA ay aA.length aB rfl _ _ hc9 (au.at hs) (aG.at hs)) ?_; clear hf
  rintro _ w ⟨A10, n11, c12, vs14, rfl, hn13, hs1⟩ a hf
  have hs : St _ W w [_, .mat A10 n11 c12 28 2 vs14 r8] := hs.join hs1
  clear hs1
  refine sY hf hs rfl rfl rfl (Y_assign rfl rfl) ?_; clear hf; intro a hf
  refine sY hf hs rfl rfl rfl (Y_assign rfl rfl) ?_; clear hf; intro a hf
  refine wpO_nil ?_
  obtain rfl := Option.some.inj hm
  refine wpL_ret (ret_tmp2 rfl hf rfl rfl ?_)
  exact ⟨_, rfl, A10, n11, c12, vs14, rfl, hn13, hs.sel [1] (by decide)⟩

end Go.Proofs.Ytebmlphobgaboab
