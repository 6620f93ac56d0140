/- The functions do what their models say. -/
import Derived.Test.YtebmlphobgaboaaFreeSlacksLifted3
import Derived.Test.YtebmlphobgaboaaRows
namespace Go.Proofs.Ytebmlphobgaboaa
open Go.RowKit

set_option maxRecDepth 100000 in
theorem slices_ContainsFunc_Place_ok (F : Nat) (bi : List GPlace) (aX : Option Addr) (bp bq : Nat) (bG : bp = bi.length) (bP : GPlace → Option Bool) (bA : FuncId) (bH : List Value) (r : Bool) (W : World) (hm : slices_ContainsFunc_Place F bi bP = some r) (bB : Rd W aX ((recs GPlace.cells) bi)) (cn : ∀ (x0 : GPlace) (r : Bool) (w : World), bP x0 = some r → Below W.heap.size W w → Calls Try.prog bA (([.agg #[.int .i64 x0.From, .int .i64 x0.To, .int .i64 x0.Delay, .int .i64 x0.Tokens]] : List Value) ++ bH).toArray w fun e w' => ∃ v, e = .returned v ∧ v = .bool r ∧ St [] w w' []) (co : En Try.prog bA) :
  Calls Try.prog 173 [.slice aX bp bq, .func (.func bA) #[] bH.toArray].toArray W fun e w' => ∃ v, e = .returned v ∧ v = .bool r ∧ St [] W w' [] := by
 subst bG
 unfold slices_ContainsFunc_Place at hm
 refine Calls.enter (N := 9) Try.func173 rfl rfl rfl (fun a hf => ?_)
 have hs := St.start W
 obtain ⟨w, hw_⟩ : ∃ w, w = W := ⟨W, rfl⟩
 clear hw_ w
 refine wpL_seq <| wpL_region ?_
 refine sY hf hs rfl rfl rfl (Y_assign rfl rfl) ?_; clear hf; intro a hf
 refine wpO_nil <| wpL_seq <| wpL_region ?_
 refine sY hf hs rfl rfl rfl (Y_move rfl rfl) ?_; clear hf; intro a hf
 refine sY hf hs rfl rfl rfl (Y_move rfl rfl) ?_; clear hf; intro a hf
 obtain ⟨r1, hc2, hm⟩ := bind_some hm
 refine sCall hf rfl rfl rfl rfl (cap := []) rfl rfl en200 (slices_IndexFunc_Place_ok F bi aX bi.length bq rfl bP bA bH _ _ hc2 (bB.at hs) (fun x0 r w' hm_ hb => cn x0 r w' hm_ (hs.below.trans (hb.mono hs.below.size))) co) ?_; clear hf
 rintro _ w ⟨rfl, hs1⟩ a hf
 have hs : St _ W w [] := hs.ext hs1.below
 clear hs1
 refine sY hf hs rfl rfl rfl (Y_geq rfl rfl rfl) ?_; clear hf; intro a hf
 refine sY hf hs rfl rfl rfl (Y_assign rfl rfl) ?_; clear hf; intro a hf
 refine wpO_nil ?_
 obtain rfl := Option.some.inj hm
 refine wpL_ret (ret_tmp rfl hf rfl ?_)
 exact ⟨_, rfl, rfl, hs⟩

set_option maxRecDepth 100000 in
theorem impl_IsEventGraph_ok (F : Nat) (ad : GEventGraph) (ae : Option Addr) (az ah : Nat) (aC : az = ad.Places.length) (r : Bool) (W : World) (hm : impl_IsEventGraph F ad = some r) (aA : Rd W ae ((recs GPlace.cells) ad.Places)) :
  Calls Try.prog 132 [.agg #[.int .i64 ad.Events, .slice ae az ah]].toArray W fun e w' => ∃ v, e = .returned v ∧ v = .bool r ∧ St [] W w' [] := by
 subst aC
 unfold impl_IsEventGraph at hm
 refine Calls.enter (N := 19) Try.func132 rfl rfl rfl (fun a hf => ?_)
 have hs := St.start W
 obtain ⟨w, hw_⟩ : ∃ w, w = W := ⟨W, rfl⟩
 clear hw_ w
 refine wpL_seq <| wpL_region ?_
 refine sBox hf hs rfl rfl rfl rfl rfl (cs := [.int .i64 ad.Events, .slice ae ad.Places.length ah]) rfl ?_; clear hf hs; intro a w b1 hs hf
 have hs : St _ W w [.blk b1 52 [.int .i64 ad.Events, .slice ae ad.Places.length ah]] := hs
 refine sY hf hs rfl rfl rfl (Y_assign rfl rfl) ?_; clear hf; intro a hf
 refine wpO_nil <| wpL_seq ?_
 obtain ⟨r9, hj10, hm⟩ := bind_some hm
 refine wpL_cut (fun a w => ∃ b8 : Bool, b8 = r9 ∧ Fr a 19 [(2, .bool b8)] ∧ St [] W w []) ?_ ?_
 ·refine wpL_region ?_
  refine sY hf hs rfl rfl rfl (Y_fieldAddr rfl rfl fo52_0) ?_; clear hf; intro a hf
  refine sY hf hs rfl rfl rfl (Y_load_blk rfl rfl (i := 0) rfl rfl ag2) ?_; clear hf; intro a hf
  obtain ⟨r11, hc12, hj10⟩ := bind_some hj10
  refine sCall hf rfl rfl rfl rfl (cap := []) rfl rfl en85 (impl_within_ok F ad.Events 1 10 _ _ hc12) ?_; clear hf
  rintro _ w ⟨rfl, hs1⟩ a hf
  have hs : St _ W w [_] := hs.ext hs1.below
  clear hs1
  refine sY hf hs rfl rfl rfl (Y_move rfl rfl) ?_; clear hf; intro a hf
  refine bsplit r11 (fun hb13 => ?_) (fun hb13 => ?_)
  ·have hj10 := bif_t hj10 hb13
   refine sYg hf hs rfl rfl rfl (congrArg (fun b => some (Value.bool b)) hb13) rfl rfl rfl (Y_fieldAddr rfl rfl fo52_1) ?_; clear hf; intro a hf
   refine sYg hf hs rfl rfl rfl (congrArg (fun b => some (Value.bool b)) hb13) rfl rfl rfl (Y_load_blk rfl rfl (i := 0) rfl rfl ag50) ?_; clear hf; intro a hf
   refine sYg hf hs rfl rfl rfl (congrArg (fun b => some (Value.bool b)) hb13) rfl rfl rfl (Y_lenH rfl rfl el50 rfl) ?_; clear hf; intro a hf
   refine sYg hf hs rfl rfl rfl (congrArg (fun b => some (Value.bool b)) hb13) rfl rfl rfl (Y_leq rfl rfl rfl) ?_; clear hf; intro a hf
   refine sY hf hs rfl rfl rfl (Y_pickT rfl (congrArg (fun b => some (Value.bool b)) hb13) rfl) ?_; clear hf; intro a hf
   refine sY hf hs rfl rfl rfl (Y_move rfl rfl) ?_; clear hf; intro a hf
   refine bsplit (decide ((ad.Places.length : Int) ≤ 30)) (fun hb14 => ?_) (fun hb14 => ?_)
   ·have hj10 := bif_t hj10 hb14
    refine sYg hf hs rfl rfl rfl (congrArg (fun b => some (Value.bool b)) hb14) rfl rfl rfl (Y_fieldAddr rfl rfl fo52_1) ?_; clear hf; intro a hf
    refine sYg hf hs rfl rfl rfl (congrArg (fun b => some (Value.bool b)) hb14) rfl rfl rfl (Y_load_blk rfl rfl (i := 0) rfl rfl ag50) ?_; clear hf; intro a hf
    refine sYg hf hs rfl rfl rfl (congrArg (fun b => some (Value.bool b)) hb14) rfl rfl rfl (Y_makeFunc (us := []) (vs := [.pointer (some ⟨b1, 0, none⟩)]) rfl rfl rfl) ?_; clear hf; intro a hf
    obtain ⟨r15, hc16, hj10⟩ := bind_some hj10
    refine sCallg hf rfl rfl rfl (congrArg (fun b => some (Value.bool b)) hb14) rfl rfl rfl rfl (cap := []) rfl rfl en173 (slices_ContainsFunc_Place_ok F ad.Places ae ad.Places.length ah rfl (fun x0 => impl_IsEventGraph_c1 F x0 ad) 174 ([.pointer (some ⟨b1, 0, none⟩)]) _ _ hc16 (aA.at hs) (fun x0 r w' hm_ hb => impl_IsEventGraph_c1_ok F x0 b1 ad ae ad.Places.length ah rfl r w' hm_ ((aA.at hs).below hb (Nat.le_refl _)) ((hs.pb (i := 0) rfl).below hb (Nat.le_refl _))) en174) ?_; clear hf
    rintro _ w ⟨rfl, hs1⟩ a hf
    have hs : St _ W w [_] := hs.ext hs1.below
    clear hs1
    refine sYg hf hs rfl rfl rfl (congrArg (fun b => some (Value.bool b)) hb14) rfl rfl rfl (Y_not rfl rfl) ?_; clear hf; intro a hf
    refine sY hf hs rfl rfl rfl (Y_pickT rfl (congrArg (fun b => some (Value.bool b)) hb14) rfl) ?_; clear hf; intro a hf
    refine sY hf hs rfl rfl rfl (Y_assign rfl rfl) ?_; clear hf; intro a hf
    refine wpO_nil ?_
    refine wpL_nil (then_normal ?_)
    exact ⟨(!r15), Option.some.inj hj10, (FrD.pick hf.none hf rfl), hs.sel [] (by decide)⟩
   ·have hj10 := bif_f hj10 hb14
    refine sNo hf rfl rfl rfl (congrArg (fun b => some (Value.bool b)) hb14) rfl rfl rfl ?_; clear hf; intro a hf
    refine sNo hf rfl rfl rfl (congrArg (fun b => some (Value.bool b)) hb14) rfl rfl rfl ?_; clear hf; intro a hf
    refine sNo hf rfl rfl rfl (congrArg (fun b => some (Value.bool b)) hb14) rfl rfl rfl ?_; clear hf; intro a hf
    refine sNo hf rfl rfl rfl (congrArg (fun b => some (Value.bool b)) hb14) rfl rfl rfl ?_; clear hf; intro a hf
    refine sNo hf rfl rfl rfl (congrArg (fun b => some (Value.bool b)) hb14) rfl rfl rfl ?_; clear hf; intro a hf
    refine sY hf hs rfl rfl rfl (Y_pickF rfl (congrArg (fun b => some (Value.bool b)) hb14) rfl) ?_; clear hf; intro a hf
    refine sY hf hs rfl rfl rfl (Y_assign rfl rfl) ?_; clear hf; intro a hf
    refine wpO_nil ?_
    refine wpL_nil (then_normal ?_)
    exact ⟨false, Option.some.inj hj10, (FrD.pick hf.none hf rfl), hs.sel [] (by decide)⟩
  ·have hj10 := bif_f hj10 hb13
   refine sNo hf rfl rfl rfl (congrArg (fun b => some (Value.bool b)) hb13) rfl rfl rfl ?_; clear hf; intro a hf
   refine sNo hf rfl rfl rfl (congrArg (fun b => some (Value.bool b)) hb13) rfl rfl rfl ?_; clear hf; intro a hf
   refine sNo hf rfl rfl rfl (congrArg (fun b => some (Value.bool b)) hb13) rfl rfl rfl ?_; clear hf; intro a hf
   refine sNo hf rfl rfl rfl (congrArg (fun b => some (Value.bool b)) hb13) rfl rfl rfl ?_; clear hf; intro a hf
   refine sY hf hs rfl rfl rfl (Y_pickF rfl (congrArg (fun b => some (Value.bool b)) hb13) rfl) ?_; clear hf; intro a hf
   refine sY hf hs rfl rfl rfl (Y_move rfl rfl) ?_; clear hf; intro a hf
   refine sNo hf rfl rfl rfl rfl rfl rfl rfl ?_; clear hf; intro a hf
   refine sNo hf rfl rfl rfl rfl rfl rfl rfl ?_; clear hf; intro a hf
   refine sNo hf rfl rfl rfl rfl rfl rfl rfl ?_; clear hf; intro a hf
   refine sNo hf rfl rfl rfl rfl rfl rfl rfl ?_; clear hf; intro a hf
   refine sNo hf rfl rfl rfl rfl rfl rfl rfl ?_; clear hf; intro a hf
   refine sY hf hs rfl rfl rfl (Y_pickF rfl rfl rfl) ?_; clear hf; intro a hf
   refine sY hf hs rfl rfl rfl (Y_assign rfl rfl) ?_; clear hf; intro a hf
   refine wpO_nil ?_
   refine wpL_nil (then_normal ?_)
   exact ⟨false, Option.some.inj hj10, (FrD.pick hf.none hf rfl), hs.sel [] (by decide)⟩
 ·rintro a w ⟨b8, hr_, hf, hs⟩
  subst hr_
  try dsimp only at hm
  obtain rfl := Option.some.inj hm
  refine wpL_ret (ret_tmp rfl hf rfl ?_)
  exact ⟨_, rfl, rfl, hs⟩

set_option maxRecDepth 100000 in
theorem impl_allWithin_ok (F : Nat) (aN : List Int) (aL : Option Addr) (aT aU : Nat) (bl : aT = aN.length) (bS : Int) (bK : Int) (r : Bool) (W : World) (hm : impl_allWithin F aN bS bK = some r) (bb : Rd W aL (ints aN)) :
  Calls Try.prog 134 [.slice aL aT aU, .int .i64 bS, .int .i64 bK].toArray W fun e w' => ∃ v, e = .returned v ∧ v = .bool r ∧ St [] W w' [] := by
 subst bl
 unfold impl_allWithin at hm
 refine Calls.enter (N := 21) Try.func134 rfl rfl rfl (fun a hf => ?_)
 have hs := St.start W
 obtain ⟨w, hw_⟩ : ∃ w, w = W := ⟨W, rfl⟩
 clear hw_ w
 refine wpL_seq <| wpL_region ?_
 refine sY hf hs rfl rfl rfl (Y_assign rfl rfl) ?_; clear hf; intro a hf
 refine wpO_nil <| wpL_seq <| wpL_seq <| wpL_region ?_
 refine sY hf hs rfl rfl rfl (Y_move rfl rfl) ?_; clear hf; intro a hf
 refine sY hf hs rfl rfl rfl (Y_lenH rfl rfl el23 rfl) ?_; clear hf; intro a hf
 refine sY hf hs rfl rfl rfl (Y_move rfl rfl) ?_; clear hf; intro a hf
 refine wpO_nil ?_
 obtain ⟨r21, hl22, hm⟩ := bind_some hm
 refine wpL_block (fun a w => Sum.inr () = r21 ∧ Fr a 21 [] ∧ St [] W w []) ?_ ?_
 ·refine wpL_loop (fun n a w => ∃ x14 : Int, impl_allWithin_L1 F aN bS bK n x14 = some r21 ∧ Fr a 21 [(1, .int .i64 bS), (2, .int .i64 bK), (9, .slice aL aN.length aU), (10, .int .i64 (aN.length : Int)), (11, .int .i64 x14)] ∧ St [] W w []) F ?_ ?_ ?_
  ·exact ⟨0, hl22, (FrD.pick (FrD.pick (FrD.pick (FrD.pick (FrD.pick hf.none hf rfl) hf rfl) hf rfl) hf rfl) hf rfl), hs⟩
  ·rintro a w ⟨x14, h0_, -, -⟩; simp [impl_allWithin_L1] at h0_
  ·rintro n24 a w ⟨x14, hm23, hf, hs⟩
   rw [impl_allWithin_L1] at hm23
   refine wpL_seq <| wpL_region ?_
   refine sY hf hs rfl rfl rfl (Y_lss rfl rfl rfl) ?_; clear hf; intro a hf
   refine wpO_nil <| wpL_seq ?_
   refine wpL_cond hf rfl (fun hb25 => ?_) (fun hb25 => ?_)
   ·have hm23 := bif_t hm23 hb25
    refine wpL_skip <| wpL_seq <| wpL_block0 <| wpL_seq <| wpL_region ?_
    obtain ⟨q26, hi27, hm23⟩ := bind_some hm23
    obtain ⟨hi27a, hi27b, hi27q⟩ := idx_some hi27
    refine sY hf hs rfl rfl rfl (Y_index rfl rfl rfl el23 ti2 (Rd.isAt (bb.at hs) (at1 (ints_at hi27q))) hi27a hi27b) ?_; clear hf; intro a hf
    refine sY hf hs rfl rfl rfl (Y_load_rd rfl rfl (fun w hs => bb.at hs) (at1 (ints_at hi27q)) ag2) ?_; clear hf; intro a hf
    refine sY hf hs rfl rfl rfl (Y_assign rfl rfl) ?_; clear hf; intro a hf
    refine wpO_nil <| wpL_seq <| wpL_region ?_
    refine sY hf hs rfl rfl rfl (Y_move rfl rfl) ?_; clear hf; intro a hf
    refine sY hf hs rfl rfl rfl (Y_move rfl rfl) ?_; clear hf; intro a hf
    refine sY hf hs rfl rfl rfl (Y_move rfl rfl) ?_; clear hf; intro a hf
    obtain ⟨r28, hc29, hm23⟩ := bind_some hm23
    refine sCall hf rfl rfl rfl rfl (cap := []) rfl rfl en85 (impl_within_ok F q26 bS bK _ _ hc29) ?_; clear hf
    rintro _ w ⟨rfl, hs1⟩ a hf
    have hs : St _ W w [] := hs.ext hs1.below
    clear hs1
    refine sY hf hs rfl rfl rfl (Y_not rfl rfl) ?_; clear hf; intro a hf
    refine wpO_nil ?_
    refine wpL_cond hf rfl (fun hb30 => ?_) (fun hb30 => ?_)
    ·have hm23 := bif_t hm23 hb30
     refine wpL_seq <| wpL_region ?_
     refine sY hf hs rfl rfl rfl (Y_assign rfl rfl) ?_; clear hf; intro a hf
     refine wpO_nil ?_
     obtain rfl := Option.some.inj hm23
     try dsimp only at hm
     obtain rfl := Option.some.inj hm
     refine wpL_ret (Qb_ret (Ql_ret (Qb_ret (ret_tmp rfl hf rfl ?_))))
     exact ⟨_, rfl, rfl, hs⟩
    ·have hm23 := bif_f hm23 hb30
     refine wpL_skip ?_
     refine wpL_nil (Qb_normal ?_)
     refine wpL_region ?_
     refine sY hf hs rfl rfl rfl (Y_add rfl rfl rfl) ?_; clear hf; intro a hf
     refine sY hf hs rfl rfl rfl (Y_move rfl rfl) ?_; clear hf; intro a hf
     refine wpO_nil ?_
     refine wpL_nil (Ql_normal ?_)
     exact ⟨(IntKind.i64.wrap (x14 + 1)), hm23, (FrD.pick (FrD.pick (FrD.pick (FrD.pick (FrD.pick hf.none hf rfl) hf rfl) hf rfl) hf rfl) hf rfl), hs⟩
   ·have hm23 := bif_f hm23 hb25
    refine wpL_exit (Ql_exit (Qb_exit ?_))
    exact ⟨Option.some.inj hm23, hf.none, hs⟩
 ·rintro a w ⟨hr_, hf, hs⟩
  subst hr_
  try dsimp only at hm
  refine wpL_seq <| wpL_region ?_
  refine sY hf hs rfl rfl rfl (Y_assign rfl rfl) ?_; clear hf; intro a hf
  refine wpO_nil ?_
  obtain rfl := Option.some.inj hm
  refine wpL_ret (ret_tmp rfl hf rfl ?_)
  exact ⟨_, rfl, rfl, hs⟩

set_option maxRecDepth 100000 in
theorem impl_isTimetable_ok (F : Nat) (ad : GEventGraph) (ae : Option Addr) (az ah : Nat) (aC : az = ad.Places.length) (am : GTimetable) (ao : Option Addr) (aG ap : Nat) (aQ : aG = am.Starts.length) (r : Bool) (W : World) (hm : impl_isTimetable F ad am = some r) (_h_p0_g_1 : Rd W ae ((recs GPlace.cells) ad.Places)) (aJ : Rd W ao (ints am.Starts)) :
  Calls Try.prog 133 [.agg #[.int .i64 ad.Events, .slice ae az ah], .agg #[.int .i64 am.Period, .slice ao aG ap]].toArray W fun e w' => ∃ v, e = .returned v ∧ v = .bool r ∧ St [] W w' [] := by
 subst aC
 subst aQ
 unfold impl_isTimetable at hm
 refine Calls.enter (N := 21) Try.func133 rfl rfl rfl (fun a hf => ?_)
 have hs := St.start W
 obtain ⟨w, hw_⟩ : ∃ w, w = W := ⟨W, rfl⟩
 clear hw_ w
 refine wpL_seq <| wpL_region ?_
 refine sBox hf hs rfl rfl rfl rfl rfl (cs := [.int .i64 ad.Events, .slice ae ad.Places.length ah]) rfl ?_; clear hf hs; intro a w b1 hs hf
 have hs : St _ W w [_] := hs
 refine sBox hf hs rfl rfl rfl rfl rfl (cs := [.int .i64 am.Period, .slice ao am.Starts.length ap]) rfl ?_; clear hf hs; intro a w b2 hs hf
 have hs : St _ W w [_, .blk b2 54 [.int .i64 am.Period, .slice ao am.Starts.length ap]] := hs
 refine sY hf hs rfl rfl rfl (Y_assign rfl rfl) ?_; clear hf; intro a hf
 refine wpO_nil <| wpL_seq ?_
 obtain ⟨r10, hj11, hm⟩ := bind_some hm
 refine wpL_cut (fun a w => ∃ b9 : Bool, b9 = r10 ∧ Fr a 21 [(4, .bool b9)] ∧ St [] W w []) ?_ ?_
 ·refine wpL_region ?_
  refine sY hf hs rfl rfl rfl (Y_fieldAddr rfl rfl fo54_0) ?_; clear hf; intro a hf
  refine sY hf hs rfl rfl rfl (Y_load_blk rfl rfl (i := 1) rfl rfl ag2) ?_; clear hf; intro a hf
  obtain ⟨r12, hc13, hj11⟩ := bind_some hj11
  refine sCall hf rfl rfl rfl rfl (cap := []) rfl rfl en85 (impl_within_ok F am.Period 0 100000 _ _ hc13) ?_; clear hf
  rintro _ w ⟨rfl, hs1⟩ a hf
  have hs : St _ W w [_, _] := hs.ext hs1.below
  clear hs1
  refine sY hf hs rfl rfl rfl (Y_move rfl rfl) ?_; clear hf; intro a hf
  refine bsplit r12 (fun hb14 => ?_) (fun hb14 => ?_)
  ·have hj11 := bif_t hj11 hb14
   refine sYg hf hs rfl rfl rfl (congrArg (fun b => some (Value.bool b)) hb14) rfl rfl rfl (Y_fieldAddr rfl rfl fo54_1) ?_; clear hf; intro a hf
   refine sYg hf hs rfl rfl rfl (congrArg (fun b => some (Value.bool b)) hb14) rfl rfl rfl (Y_load_blk rfl rfl (i := 1) rfl rfl ag23) ?_; clear hf; intro a hf
   refine sYg hf hs rfl rfl rfl (congrArg (fun b => some (Value.bool b)) hb14) rfl rfl rfl (Y_lenH rfl rfl el23 rfl) ?_; clear hf; intro a hf
   refine sYg hf hs rfl rfl rfl (congrArg (fun b => some (Value.bool b)) hb14) rfl rfl rfl (Y_fieldAddr rfl rfl fo52_0) ?_; clear hf; intro a hf
   refine sYg hf hs rfl rfl rfl (congrArg (fun b => some (Value.bool b)) hb14) rfl rfl rfl (Y_load_blk rfl rfl (i := 0) rfl rfl ag2) ?_; clear hf; intro a hf
   refine sYg hf hs rfl rfl rfl (congrArg (fun b => some (Value.bool b)) hb14) rfl rfl rfl (Y_eql rfl rfl rfl) ?_; clear hf; intro a hf
   refine sY hf hs rfl rfl rfl (Y_pickT rfl (congrArg (fun b => some (Value.bool b)) hb14) rfl) ?_; clear hf; intro a hf
   refine sY hf hs rfl rfl rfl (Y_move rfl rfl) ?_; clear hf; intro a hf
   refine bsplit ((am.Starts.length : Int) == ad.Events) (fun hb15 => ?_) (fun hb15 => ?_)
   ·have hj11 := bif_t hj11 hb15
    refine sYg hf hs rfl rfl rfl (congrArg (fun b => some (Value.bool b)) hb15) rfl rfl rfl (Y_fieldAddr rfl rfl fo54_1) ?_; clear hf; intro a hf
    refine sYg hf hs rfl rfl rfl (congrArg (fun b => some (Value.bool b)) hb15) rfl rfl rfl (Y_load_blk rfl rfl (i := 1) rfl rfl ag23) ?_; clear hf; intro a hf
    obtain ⟨r16, hc17, hj11⟩ := bind_some hj11
    refine sCallg hf rfl rfl rfl (congrArg (fun b => some (Value.bool b)) hb15) rfl rfl rfl rfl (cap := []) rfl rfl en134 (impl_allWithin_ok F am.Starts ao am.Starts.length ap rfl 0 1000000 _ _ hc17 (aJ.at hs)) ?_; clear hf
    rintro _ w ⟨rfl, hs1⟩ a hf
    have hs : St _ W w [_, _] := hs.ext hs1.below
    clear hs1
    refine sY hf hs rfl rfl rfl (Y_pickT rfl (congrArg (fun b => some (Value.bool b)) hb15) rfl) ?_; clear hf; intro a hf
    refine sY hf hs rfl rfl rfl (Y_assign rfl rfl) ?_; clear hf; intro a hf
    refine wpO_nil ?_
    refine wpL_nil (then_normal ?_)
    exact ⟨r16, Option.some.inj hj11, (FrD.pick hf.none hf rfl), hs.sel [] (by decide)⟩
   ·have hj11 := bif_f hj11 hb15
    refine sNo hf rfl rfl rfl (congrArg (fun b => some (Value.bool b)) hb15) rfl rfl rfl ?_; clear hf; intro a hf
    refine sNo hf rfl rfl rfl (congrArg (fun b => some (Value.bool b)) hb15) rfl rfl rfl ?_; clear hf; intro a hf
    refine sNo hf rfl rfl rfl (congrArg (fun b => some (Value.bool b)) hb15) rfl rfl rfl ?_; clear hf; intro a hf
    refine sY hf hs rfl rfl rfl (Y_pickF rfl (congrArg (fun b => some (Value.bool b)) hb15) rfl) ?_; clear hf; intro a hf
    refine sY hf hs rfl rfl rfl (Y_assign rfl rfl) ?_; clear hf; intro a hf
    refine wpO_nil ?_
    refine wpL_nil (then_normal ?_)
    exact ⟨false, Option.some.inj hj11, (FrD.pick hf.none hf rfl), hs.sel [] (by decide)⟩
  ·have hj11 := bif_f hj11 hb14
   refine sNo hf rfl rfl rfl (congrArg (fun b => some (Value.bool b)) hb14) rfl rfl rfl ?_; clear hf; intro a hf
   refine sNo hf rfl rfl rfl (congrArg (fun b => some (Value.bool b)) hb14) rfl rfl rfl ?_; clear hf; intro a hf
   refine sNo hf rfl rfl rfl (congrArg (fun b => some (Value.bool b)) hb14) rfl rfl rfl ?_; clear hf; intro a hf
   refine sNo hf rfl rfl rfl (congrArg (fun b => some (Value.bool b)) hb14) rfl rfl rfl ?_; clear hf; intro a hf
   refine sNo hf rfl rfl rfl (congrArg (fun b => some (Value.bool b)) hb14) rfl rfl rfl ?_; clear hf; intro a hf
   refine sNo hf rfl rfl rfl (congrArg (fun b => some (Value.bool b)) hb14) rfl rfl rfl ?_; clear hf; intro a hf
   refine sY hf hs rfl rfl rfl (Y_pickF rfl (congrArg (fun b => some (Value.bool b)) hb14) rfl) ?_; clear hf; intro a hf
   refine sY hf hs rfl rfl rfl (Y_move rfl rfl) ?_; clear hf; intro a hf
   refine sNo hf rfl rfl rfl rfl rfl rfl rfl ?_; clear hf; intro a hf
   refine sNo hf rfl rfl rfl rfl rfl rfl rfl ?_; clear hf; intro a hf
   refine sNo hf rfl rfl rfl rfl rfl rfl rfl ?_; clear hf; intro a hf
   refine sY hf hs rfl rfl rfl (Y_pickF rfl rfl rfl) ?_; clear hf; intro a hf
   refine sY hf hs rfl rfl rfl (Y_assign rfl rfl) ?_; clear hf; intro a hf
   refine wpO_nil ?_
   refine wpL_nil (then_normal ?_)
   exact ⟨false, Option.some.inj hj11, (FrD.pick hf.none hf rfl), hs.sel [] (by decide)⟩
 ·rintro a w ⟨b9, hr_, hf, hs⟩
  subst hr_
  try dsimp only at hm
  obtain rfl := Option.some.inj hm
  refine wpL_ret (ret_tmp rfl hf rfl ?_)
  exact ⟨_, rfl, rfl, hs⟩

set_option maxRecDepth 100000 in
theorem slices_Index_int64_ok (F : Nat) (bi : List Int) (aX : Option Addr) (bp bq : Nat) (bG : bp = bi.length) (cu : Int) (r : Int) (W : World) (hm : slices_Index_int64 F bi cu = some r) (bB : Rd W aX (ints bi)) :
  Calls Try.prog 205 [.slice aX bp bq, .int .i64 cu].toArray W fun e w' => ∃ v, e = .returned v ∧ v = .int .i64 r ∧ St [] W w' [] := by
 subst bG
 unfold slices_Index_int64 at hm
 refine Calls.enter (N := 19) Try.func205 rfl rfl rfl (fun a hf => ?_)
 have hs := St.start W
 obtain ⟨w, hw_⟩ : ∃ w, w = W := ⟨W, rfl⟩
 clear hw_ w
 refine wpL_seq <| wpL_region ?_
 refine sY hf hs rfl rfl rfl (Y_assign rfl rfl) ?_; clear hf; intro a hf
 refine wpO_nil <| wpL_seq <| wpL_seq <| wpL_region ?_
 refine sY hf hs rfl rfl rfl (Y_move rfl rfl) ?_; clear hf; intro a hf
 refine sY hf hs rfl rfl rfl (Y_lenH rfl rfl el23 rfl) ?_; clear hf; intro a hf
 refine sY hf hs rfl rfl rfl (Y_move rfl rfl) ?_; clear hf; intro a hf
 refine wpO_nil ?_
 obtain ⟨r15, hl16, hm⟩ := bind_some hm
 refine wpL_block (fun a w => Sum.inr () = r15 ∧ Fr a 19 [] ∧ St [] W w []) ?_ ?_
 ·refine wpL_loop (fun n a w => ∃ x10 : Int, slices_Index_int64_L1 F bi cu n x10 = some r15 ∧ Fr a 19 [(0, .slice aX bi.length bq), (1, .int .i64 cu), (7, .int .i64 (bi.length : Int)), (8, .int .i64 x10)] ∧ St [] W w []) F ?_ ?_ ?_
  ·exact ⟨0, hl16, (FrD.pick (FrD.pick (FrD.pick (FrD.pick hf.none hf rfl) hf rfl) hf rfl) hf rfl), hs⟩
  ·rintro a w ⟨x10, h0_, -, -⟩; simp [slices_Index_int64_L1] at h0_
  ·rintro n18 a w ⟨x10, hm17, hf, hs⟩
   rw [slices_Index_int64_L1] at hm17
   refine wpL_seq <| wpL_region ?_
   refine sY hf hs rfl rfl rfl (Y_lss rfl rfl rfl) ?_; clear hf; intro a hf
   refine wpO_nil <| wpL_seq ?_
   refine wpL_cond hf rfl (fun hb19 => ?_) (fun hb19 => ?_)
   ·have hm17 := bif_t hm17 hb19
    refine wpL_skip <| wpL_seq <| wpL_block0 <| wpL_seq <| wpL_region ?_
    refine sY hf hs rfl rfl rfl (Y_move rfl rfl) ?_; clear hf; intro a hf
    refine sY hf hs rfl rfl rfl (Y_assign rfl rfl) ?_; clear hf; intro a hf
    refine wpO_nil <| wpL_seq <| wpL_region ?_
    refine sY hf hs rfl rfl rfl (Y_move rfl rfl) ?_; clear hf; intro a hf
    refine sY hf hs rfl rfl rfl (Y_move rfl rfl) ?_; clear hf; intro a hf
    refine sY hf hs rfl rfl rfl (Y_move rfl rfl) ?_; clear hf; intro a hf
    obtain ⟨q20, hi21, hm17⟩ := bind_some hm17
    obtain ⟨hi21a, hi21b, hi21q⟩ := idx_some hi21
    refine sY hf hs rfl rfl rfl (Y_index rfl rfl rfl el23 ti2 (Rd.isAt (bB.at hs) (at1 (ints_at hi21q))) hi21a hi21b) ?_; clear hf; intro a hf
    refine sY hf hs rfl rfl rfl (Y_load_rd rfl rfl (fun w hs => bB.at hs) (at1 (ints_at hi21q)) ag2) ?_; clear hf; intro a hf
    refine sY hf hs rfl rfl rfl (Y_eql rfl rfl rfl) ?_; clear hf; intro a hf
    refine wpO_nil ?_
    refine wpL_cond hf rfl (fun hb22 => ?_) (fun hb22 => ?_)
    ·have hm17 := bif_t hm17 hb22
     refine wpL_seq <| wpL_region ?_
     refine sY hf hs rfl rfl rfl (Y_move rfl rfl) ?_; clear hf; intro a hf
     refine sY hf hs rfl rfl rfl (Y_assign rfl rfl) ?_; clear hf; intro a hf
     refine wpO_nil ?_
     obtain rfl := Option.some.inj hm17
     try dsimp only at hm
     obtain rfl := Option.some.inj hm
     refine wpL_ret (Qb_ret (Ql_ret (Qb_ret (ret_tmp rfl hf rfl ?_))))
     exact ⟨_, rfl, rfl, hs⟩
    ·have hm17 := bif_f hm17 hb22
     refine wpL_skip ?_
     refine wpL_nil (Qb_normal ?_)
     refine wpL_region ?_
     refine sY hf hs rfl rfl rfl (Y_add rfl rfl rfl) ?_; clear hf; intro a hf
     refine sY hf hs rfl rfl rfl (Y_move rfl rfl) ?_; clear hf; intro a hf
     refine wpO_nil ?_
     refine wpL_nil (Ql_normal ?_)
     exact ⟨(IntKind.i64.wrap (x10 + 1)), hm17, (FrD.pick (FrD.pick (FrD.pick (FrD.pick hf.none hf rfl) hf rfl) hf rfl) hf rfl), hs⟩
   ·have hm17 := bif_f hm17 hb19
    refine wpL_exit (Ql_exit (Qb_exit ?_))
    exact ⟨Option.some.inj hm17, hf.none, hs⟩
 ·rintro a w ⟨hr_, hf, hs⟩
  subst hr_
  try dsimp only at hm
  refine wpL_seq <| wpL_region ?_
  refine sY hf hs rfl rfl rfl (Y_assign rfl rfl) ?_; clear hf; intro a hf
  refine wpO_nil ?_
  obtain rfl := Option.some.inj hm
  refine wpL_ret (ret_tmp rfl hf rfl ?_)
  exact ⟨_, rfl, rfl, hs⟩

set_option maxRecDepth 100000 in
theorem slices_Contains_int64_ok (F : Nat) (bi : List Int) (aX : Option Addr) (bp bq : Nat) (bG : bp = bi.length) (cu : Int) (r : Bool) (W : World) (hm : slices_Contains_int64 F bi cu = some r) (bB : Rd W aX (ints bi)) :
  Calls Try.prog 182 [.slice aX bp bq, .int .i64 cu].toArray W fun e w' => ∃ v, e = .returned v ∧ v = .bool r ∧ St [] W w' [] := by
 subst bG
 unfold slices_Contains_int64 at hm
 refine Calls.enter (N := 9) Try.func182 rfl rfl rfl (fun a hf => ?_)
 have hs := St.start W
 obtain ⟨w, hw_⟩ : ∃ w, w = W := ⟨W, rfl⟩
 clear hw_ w
 refine wpL_seq <| wpL_region ?_
 refine sY hf hs rfl rfl rfl (Y_assign rfl rfl) ?_; clear hf; intro a hf
 refine wpO_nil <| wpL_seq <| wpL_region ?_
 refine sY hf hs rfl rfl rfl (Y_move rfl rfl) ?_; clear hf; intro a hf
 refine sY hf hs rfl rfl rfl (Y_move rfl rfl) ?_; clear hf; intro a hf
 obtain ⟨r1, hc2, hm⟩ := bind_some hm
 refine sCall hf rfl rfl rfl rfl (cap := []) rfl rfl en205 (slices_Index_int64_ok F bi aX bi.length bq rfl cu _ _ hc2 (bB.at hs)) ?_; clear hf
 rintro _ w ⟨rfl, hs1⟩ a hf
 have hs : St _ W w [] := hs.ext hs1.below
 clear hs1
 refine sY hf hs rfl rfl rfl (Y_geq rfl rfl rfl) ?_; clear hf; intro a hf
 refine sY hf hs rfl rfl rfl (Y_assign rfl rfl) ?_; clear hf; intro a hf
 refine wpO_nil ?_
 obtain rfl := Option.some.inj hm
 refine wpL_ret (ret_tmp rfl hf rfl ?_)
 exact ⟨_, rfl, rfl, hs⟩

set_option maxRecDepth 100000 in
theorem impl_firingOrder_c1_ok (F : Nat) (aK : GPlace) (b_z0 : Nat) (z0 : Int) (b_z1 : Nat) (z1 : List Int) (A_z1_1 : Option Addr) (n_z1_1 c_z1_1 : Nat) (hn_z1_1 : n_z1_1 = z1.length) (r : Bool) (W : World) (hm : impl_firingOrder_c1 F aK z0 z1 = some r) (h_z0 : PB W b_z0 2 [.int .i64 z0]) (h_z1_1 : Rd W A_z1_1 (ints z1)) (h_z1 : PB W b_z1 23 [.slice A_z1_1 n_z1_1 c_z1_1]) :
  Calls Try.prog 183 [.agg #[.int .i64 aK.From, .int .i64 aK.To, .int .i64 aK.Delay, .int .i64 aK.Tokens], .pointer (some ⟨b_z0, 0, none⟩), .pointer (some ⟨b_z1, 0, none⟩)].toArray W fun e w' => ∃ v, e = .returned v ∧ v = .bool r ∧ St [] W w' [] := by
 subst hn_z1_1
 unfold impl_firingOrder_c1 at hm
 refine Calls.enter (N := 21) Try.func183 rfl rfl rfl (fun a hf => ?_)
 have hs := St.start W
 obtain ⟨w, hw_⟩ : ∃ w, w = W := ⟨W, rfl⟩
 clear hw_ w
 refine wpL_seq <| wpL_region ?_
 refine sBox hf hs rfl rfl rfl rfl rfl (cs := [.int .i64 aK.From, .int .i64 aK.To, .int .i64 aK.Delay, .int .i64 aK.Tokens]) rfl ?_; clear hf hs; intro a w b1 hs hf
 have hs : St _ W w [.blk b1 112 [.int .i64 aK.From, .int .i64 aK.To, .int .i64 aK.Delay, .int .i64 aK.Tokens]] := hs
 refine sY hf hs rfl rfl rfl (Y_assign rfl rfl) ?_; clear hf; intro a hf
 refine wpO_nil <| wpL_seq ?_
 obtain ⟨r7, hj8, hm⟩ := bind_some hm
 refine wpL_cut (fun a w => ∃ b6 : Bool, b6 = r7 ∧ Fr a 21 [(4, .bool b6)] ∧ St [] W w []) ?_ ?_
 ·refine wpL_region ?_
  refine sY hf hs rfl rfl rfl (Y_fieldAddr rfl rfl fo112_1) ?_; clear hf; intro a hf
  refine sY hf hs rfl rfl rfl (Y_load_blk rfl rfl (i := 0) rfl rfl ag2) ?_; clear hf; intro a hf
  refine sY hf hs rfl rfl rfl (Y_load_pb rfl rfl h_z0 rfl ag2) ?_; clear hf; intro a hf
  refine sY hf hs rfl rfl rfl (Y_eql rfl rfl rfl) ?_; clear hf; intro a hf
  refine sY hf hs rfl rfl rfl (Y_move rfl rfl) ?_; clear hf; intro a hf
  refine bsplit (aK.To == z0) (fun hb9 => ?_) (fun hb9 => ?_)
  ·have hj8 := bif_t hj8 hb9
   refine sYg hf hs rfl rfl rfl (congrArg (fun b => some (Value.bool b)) hb9) rfl rfl rfl (Y_fieldAddr rfl rfl fo112_3) ?_; clear hf; intro a hf
   refine sYg hf hs rfl rfl rfl (congrArg (fun b => some (Value.bool b)) hb9) rfl rfl rfl (Y_load_blk rfl rfl (i := 0) rfl rfl ag2) ?_; clear hf; intro a hf
   refine sYg hf hs rfl rfl rfl (congrArg (fun b => some (Value.bool b)) hb9) rfl rfl rfl (Y_eql rfl rfl rfl) ?_; clear hf; intro a hf
   refine sY hf hs rfl rfl rfl (Y_pickT rfl (congrArg (fun b => some (Value.bool b)) hb9) rfl) ?_; clear hf; intro a hf
   refine sY hf hs rfl rfl rfl (Y_move rfl rfl) ?_; clear hf; intro a hf
   refine bsplit (aK.Tokens == 0) (fun hb10 => ?_) (fun hb10 => ?_)
   ·have hj8 := bif_t hj8 hb10
    refine sYg hf hs rfl rfl rfl (congrArg (fun b => some (Value.bool b)) hb10) rfl rfl rfl (Y_load_pb rfl rfl h_z1 rfl ag23) ?_; clear hf; intro a hf
    refine sYg hf hs rfl rfl rfl (congrArg (fun b => some (Value.bool b)) hb10) rfl rfl rfl (Y_fieldAddr rfl rfl fo112_0) ?_; clear hf; intro a hf
    refine sYg hf hs rfl rfl rfl (congrArg (fun b => some (Value.bool b)) hb10) rfl rfl rfl (Y_load_blk rfl rfl (i := 0) rfl rfl ag2) ?_; clear hf; intro a hf
    obtain ⟨r11, hc12, hj8⟩ := bind_some hj8
    refine sCallg hf rfl rfl rfl (congrArg (fun b => some (Value.bool b)) hb10) rfl rfl rfl rfl (cap := []) rfl rfl en182 (slices_Contains_int64_ok F z1 A_z1_1 z1.length c_z1_1 rfl aK.From _ _ hc12 (h_z1_1.at hs)) ?_; clear hf
    rintro _ w ⟨rfl, hs1⟩ a hf
    have hs : St _ W w [_] := hs.ext hs1.below
    clear hs1
    refine sYg hf hs rfl rfl rfl (congrArg (fun b => some (Value.bool b)) hb10) rfl rfl rfl (Y_not rfl rfl) ?_; clear hf; intro a hf
    refine sY hf hs rfl rfl rfl (Y_pickT rfl (congrArg (fun b => some (Value.bool b)) hb10) rfl) ?_; clear hf; intro a hf
    refine sY hf hs rfl rfl rfl (Y_assign rfl rfl) ?_; clear hf; intro a hf
    refine wpO_nil ?_
    refine wpL_nil (then_normal ?_)
    exact ⟨(!r11), Option.some.inj hj8, (FrD.pick hf.none hf rfl), hs.sel [] (by decide)⟩
   ·have hj8 := bif_f hj8 hb10
    refine sNo hf rfl rfl rfl (congrArg (fun b => some (Value.bool b)) hb10) rfl rfl rfl ?_; clear hf; intro a hf
    refine sNo hf rfl rfl rfl (congrArg (fun b => some (Value.bool b)) hb10) rfl rfl rfl ?_; clear hf; intro a hf
    refine sNo hf rfl rfl rfl (congrArg (fun b => some (Value.bool b)) hb10) rfl rfl rfl ?_; clear hf; intro a hf
    refine sNo hf rfl rfl rfl (congrArg (fun b => some (Value.bool b)) hb10) rfl rfl rfl ?_; clear hf; intro a hf
    refine sNo hf rfl rfl rfl (congrArg (fun b => some (Value.bool b)) hb10) rfl rfl rfl ?_; clear hf; intro a hf
    refine sY hf hs rfl rfl rfl (Y_pickF rfl (congrArg (fun b => some (Value.bool b)) hb10) rfl) ?_; clear hf; intro a hf
    refine sY hf hs rfl rfl rfl (Y_assign rfl rfl) ?_; clear hf; intro a hf
    refine wpO_nil ?_
    refine wpL_nil (then_normal ?_)
    exact ⟨false, Option.some.inj hj8, (FrD.pick hf.none hf rfl), hs.sel [] (by decide)⟩
  ·have hj8 := bif_f hj8 hb9
   refine sNo hf rfl rfl rfl (congrArg (fun b => some (Value.bool b)) hb9) rfl rfl rfl ?_; clear hf; intro a hf
   refine sNo hf rfl rfl rfl (congrArg (fun b => some (Value.bool b)) hb9) rfl rfl rfl ?_; clear hf; intro a hf
   refine sNo hf rfl rfl rfl (congrArg (fun b => some (Value.bool b)) hb9) rfl rfl rfl ?_; clear hf; intro a hf
   refine sY hf hs rfl rfl rfl (Y_pickF rfl (congrArg (fun b => some (Value.bool b)) hb9) rfl) ?_; clear hf; intro a hf
   refine sY hf hs rfl rfl rfl (Y_move rfl rfl) ?_; clear hf; intro a hf
   refine sNo hf rfl rfl rfl rfl rfl rfl rfl ?_; clear hf; intro a hf
   refine sNo hf rfl rfl rfl rfl rfl rfl rfl ?_; clear hf; intro a hf
   refine sNo hf rfl rfl rfl rfl rfl rfl rfl ?_; clear hf; intro a hf
   refine sNo hf rfl rfl rfl rfl rfl rfl rfl ?_; clear hf; intro a hf
   refine sNo hf rfl rfl rfl rfl rfl rfl rfl ?_; clear hf; intro a hf
   refine sY hf hs rfl rfl rfl (Y_pickF rfl rfl rfl) ?_; clear hf; intro a hf
   refine sY hf hs rfl rfl rfl (Y_assign rfl rfl) ?_; clear hf; intro a hf
   refine wpO_nil ?_
   refine wpL_nil (then_normal ?_)
   exact ⟨false, Option.some.inj hj8, (FrD.pick hf.none hf rfl), hs.sel [] (by decide)⟩
 ·rintro a w ⟨b6, hr_, hf, hs⟩
  subst hr_
  try dsimp only at hm
  obtain rfl := Option.some.inj hm
  refine wpL_ret (ret_tmp rfl hf rfl ?_)
  exact ⟨_, rfl, rfl, hs⟩

set_option maxRecDepth 100000 in
theorem impl_firingOrder_ok (F : Nat) (ad : GEventGraph) (ae : Option Addr) (az ah : Nat) (aC : az = ad.Places.length) (r : List Int × Bool) (W : World) (hm : impl_firingOrder F ad = some r) (aA : Rd W ae ((recs GPlace.cells) ad.Places)) :
  Calls Try.prog 142 [.agg #[.int .i64 ad.Events, .slice ae az ah]].toArray W fun e w' => ∃ v, e = .returned v ∧ ∃ A459, ∃ n460, ∃ c461, v = .tuple #[.slice A459 n460 c461, .bool r.2] ∧ n460 = r.1.length ∧ St [] W w' [.row A459 n460 c461 2 1 (ints r.1)] := by
 subst aC
 unfold impl_firingOrder at hm
 refine Calls.enter (N := 41) Try.func142 rfl rfl rfl (fun a hf => ?_)
 have hs := St.start W
 obtain ⟨w, hw_⟩ : ∃ w, w = W := ⟨W, rfl⟩
 clear hw_ w
 refine wpL_seq <| wpL_region ?_
 refine sBox hf hs rfl rfl rfl rfl rfl (cs := [.int .i64 ad.Events, .slice ae ad.Places.length ah]) rfl ?_; clear hf hs; intro a w b1 hs hf
 have hs : St _ W w [.blk b1 52 [.int .i64 ad.Events, .slice ae ad.Places.length ah]] := hs
 refine sY hf hs rfl rfl rfl (Y_assign rfl rfl) ?_; clear hf; intro a hf
 refine sY hf hs rfl rfl rfl (Y_assign rfl rfl) ?_; clear hf; intro a hf
 refine wpO_nil <| wpL_seq <| wpL_region ?_
 refine sAlloc hf hs rfl rfl rfl rfl ti23 ?_; clear hf hs; intro a w b2 hs hf
 have hs : St _ W w [_, .blk b2 23 [.slice none 0 0]] := hs
 refine wpO_nil <| wpL_seq ?_
 obtain ⟨r345, hl346, hm⟩ := bind_some hm
 have hs : St [] W _ [.blk b1 52 [.int .i64 ad.Events, .slice ae ad.Places.length ah], .blk b2 23 [.slice none 0 0], .row none 0 0 2 1 (ints ([] : List Int))] := hs.addNil 2 1
 refine wpL_block (fun a w => ∃ xs340 : List Int, ∃ A341, ∃ n342, ∃ c343, Sum.inr xs340 = r345 ∧ n342 = xs340.length ∧ Fr a 41 [(4, .pointer (some ⟨b2, 0, none⟩))] ∧ St [] W w [.blk b2 23 [.slice A341 n342 c343], .row A341 n342 c343 2 1 (ints xs340)]) ?_ ?_
 ·refine wpL_loop (fun n a w => ∃ xs227 : List Int, ∃ A228, ∃ n229, ∃ c230, impl_firingOrder_L4 F ad n xs227 = some r345 ∧ n229 = xs227.length ∧ Fr a 41 [(1, .pointer (some ⟨b1, 0, none⟩)), (4, .pointer (some ⟨b2, 0, none⟩))] ∧ St [] W w [.blk b1 52 [.int .i64 ad.Events, .slice ae ad.Places.length ah], .blk b2 23 [.slice A228 n229 c230], .row A228 n229 c230 2 1 (ints xs227)]) F ?_ ?_ ?_
  ·exact ⟨[], none, 0, 0, hl346, rfl, (FrD.pick (FrD.pick hf.none hf rfl) hf rfl), hs⟩
  ·rintro a w ⟨xs227, A228, n229, c230, h0_, -, -, -⟩; simp [impl_firingOrder_L4] at h0_
  ·rintro n348 a w ⟨xs227, A228, n229, c230, hm347, hn231, hf, hs⟩
   rw [impl_firingOrder_L4] at hm347
   refine wpL_seq <| wpL_seq <| wpL_region ?_
   refine sY hf hs rfl rfl rfl (Y_load_blk rfl rfl (i := 1) rfl rfl ag23) ?_; clear hf; intro a hf
   refine sY hf hs rfl rfl rfl (Y_lenH rfl rfl el23 hn231) ?_; clear hf; intro a hf
   refine sY hf hs rfl rfl rfl (Y_fieldAddr rfl rfl fo52_0) ?_; clear hf; intro a hf
   refine sY hf hs rfl rfl rfl (Y_load_blk rfl rfl (i := 0) rfl rfl ag2) ?_; clear hf; intro a hf
   refine sY hf hs rfl rfl rfl (Y_lss rfl rfl rfl) ?_; clear hf; intro a hf
   refine wpO_nil ?_
   refine wpL_cond hf rfl (fun hb349 => ?_) (fun hb349 => ?_)
   ·have hm347 := bif_t hm347 hb349
    refine wpL_skip <| wpL_block0 <| wpL_seq <| wpL_region ?_
    refine sY hf hs rfl rfl rfl (Y_assign rfl rfl) ?_; clear hf; intro a hf
    refine wpO_nil <| wpL_seq <| wpL_seq <| wpL_region ?_
    refine sAlloc hf hs rfl rfl rfl rfl ti2 ?_; clear hf hs; intro a w b350 hs hf
    have hs : St _ W w [_, _, _, .blk b350 2 [.int .i64 0]] := hs
    refine sStore (i := 3) (us := [.int .i64 0]) hf hs rfl rfl rfl rfl rfl rfl ti2 rfl rfl rfl (Nat.le_of_ble_eq_true rfl) rfl ?_; clear hs; intro w hs
    have hs : St _ W w [_, _, _, _] := hs
    refine wpO_nil ?_
    obtain ⟨r424, hl425, hm347⟩ := bind_some hm347
    refine wpL_block (fun a w => ∃ x423 : Int, x423 = r424 ∧ Fr a 41 [(1, .pointer (some ⟨b1, 0, none⟩)), (4, .pointer (some ⟨b2, 0, none⟩)), (5, .int .i64 x423)] ∧ St [] W w [.blk b1 52 [.int .i64 ad.Events, .slice ae ad.Places.length ah], .blk b2 23 [.slice A228 n229 c230], .row A228 n229 c230 2 1 (ints xs227)]) ?_ ?_
    ·refine wpL_loop (fun n a w => ∃ x398 : Int, ∃ x400 : Int, ∃ b399, impl_firingOrder_L5 F ad xs227 n x398 x400 = some r424 ∧ Fr a 41 [(1, .pointer (some ⟨b1, 0, none⟩)), (4, .pointer (some ⟨b2, 0, none⟩)), (5, .int .i64 x398), (6, .pointer (some ⟨b399, 0, none⟩))] ∧ St [] W w [.blk b1 52 [.int .i64 ad.Events, .slice ae ad.Places.length ah], .blk b2 23 [.slice A228 n229 c230], .row A228 n229 c230 2 1 (ints xs227), .blk b399 2 [.int .i64 x400]]) F ?_ ?_ ?_
     ·exact ⟨(-1), 0, b350, hl425, (FrD.pick (FrD.pick (FrD.pick (FrD.pick hf.none hf rfl) hf rfl) hf rfl) hf rfl), hs⟩
     ·rintro a w ⟨x398, x400, b399, h0_, -, -⟩; simp [impl_firingOrder_L5] at h0_
     ·rintro n427 a w ⟨x398, x400, b399, hm426, hf, hs⟩
      rw [impl_firingOrder_L5] at hm426
      refine wpL_seq <| wpL_seq ?_
      obtain ⟨r430, hj431, hm426⟩ := bind_some hm426
      refine wpL_cut (fun a w => ∃ b429 : Bool, b429 = r430 ∧ Fr a 41 [(1, .pointer (some ⟨b1, 0, none⟩)), (4, .pointer (some ⟨b2, 0, none⟩)), (5, .int .i64 x398), (6, .pointer (some ⟨b399, 0, none⟩)), (20, .bool b429)] ∧ St [] W w [.blk b1 52 [.int .i64 ad.Events, .slice ae ad.Places.length ah], .blk b2 23 [.slice A228 n229 c230], .row A228 n229 c230 2 1 (ints xs227), .blk b399 2 [.int .i64 x400]]) ?_ ?_
      ·refine wpL_region ?_
       refine sY hf hs rfl rfl rfl (Y_load_blk rfl rfl (i := 3) rfl rfl ag2) ?_; clear hf; intro a hf
       refine sY hf hs rfl rfl rfl (Y_fieldAddr rfl rfl fo52_0) ?_; clear hf; intro a hf
       refine sY hf hs rfl rfl rfl (Y_load_blk rfl rfl (i := 0) rfl rfl ag2) ?_; clear hf; intro a hf
       refine sY hf hs rfl rfl rfl (Y_lss rfl rfl rfl) ?_; clear hf; intro a hf
       refine sY hf hs rfl rfl rfl (Y_move rfl rfl) ?_; clear hf; intro a hf
       refine bsplit (decide (x400 < ad.Events)) (fun hb432 => ?_) (fun hb432 => ?_)
       ·have hj431 := bif_t hj431 hb432
        refine sYg hf hs rfl rfl rfl (congrArg (fun b => some (Value.bool b)) hb432) rfl rfl rfl (Y_move rfl rfl) ?_; clear hf; intro a hf
        refine sYg hf hs rfl rfl rfl (congrArg (fun b => some (Value.bool b)) hb432) rfl rfl rfl (Y_lss rfl rfl rfl) ?_; clear hf; intro a hf
        refine sY hf hs rfl rfl rfl (Y_pickT rfl (congrArg (fun b => some (Value.bool b)) hb432) rfl) ?_; clear hf; intro a hf
        refine wpO_nil ?_
        refine wpL_nil (then_normal ?_)
        exact ⟨(decide (x398 < 0)), Option.some.inj hj431, (FrD.pick (FrD.pick (FrD.pick (FrD.pick (FrD.pick hf.none hf rfl) hf rfl) hf rfl) hf rfl) hf rfl), hs⟩
       ·have hj431 := bif_f hj431 hb432
        refine sNo hf rfl rfl rfl (congrArg (fun b => some (Value.bool b)) hb432) rfl rfl rfl ?_; clear hf; intro a hf
        refine sNo hf rfl rfl rfl (congrArg (fun b => some (Value.bool b)) hb432) rfl rfl rfl ?_; clear hf; intro a hf
        refine sY hf hs rfl rfl rfl (Y_pickF rfl (congrArg (fun b => some (Value.bool b)) hb432) rfl) ?_; clear hf; intro a hf
        refine wpO_nil ?_
        refine wpL_nil (then_normal ?_)
        exact ⟨false, Option.some.inj hj431, (FrD.pick (FrD.pick (FrD.pick (FrD.pick (FrD.pick hf.none hf rfl) hf rfl) hf rfl) hf rfl) hf rfl), hs⟩
      ·rintro a w ⟨b429, hr_, hf, hs⟩
       subst hr_
       try dsimp only at hm426
       refine wpL_cond hf rfl (fun hb433 => ?_) (fun hb433 => ?_)
       ·have hm426 := bif_t hm426 hb433
        refine wpL_skip <| wpL_seq ?_
        obtain ⟨r441, hj442, hm426⟩ := bind_some hm426
        refine wpL_block (fun a w => ∃ x440 : Int, x440 = r441 ∧ Fr a 41 [(1, .pointer (some ⟨b1, 0, none⟩)), (4, .pointer (some ⟨b2, 0, none⟩)), (5, .int .i64 x440), (6, .pointer (some ⟨b399, 0, none⟩))] ∧ St [] W w [.blk b1 52 [.int .i64 ad.Events, .slice ae ad.Places.length ah], .blk b2 23 [.slice A228 n229 c230], .row A228 n229 c230 2 1 (ints xs227), .blk b399 2 [.int .i64 x400]]) ?_ ?_
        ·refine wpL_seq <| wpL_seq <| wpL_region ?_
         refine sY hf hs rfl rfl rfl (Y_load_blk rfl rfl (i := 1) rfl rfl ag23) ?_; clear hf; intro a hf
         refine sY hf hs rfl rfl rfl (Y_load_blk rfl rfl (i := 3) rfl rfl ag2) ?_; clear hf; intro a hf
         obtain ⟨r443, hc444, hj442⟩ := bind_some hj442
         refine sCall hf rfl rfl rfl rfl (cap := []) rfl rfl en182 (slices_Contains_int64_ok F xs227 A228 n229 c230 hn231 x400 _ _ hc444 (hs.rd (i := 2) rfl)) ?_; clear hf
         rintro _ w ⟨rfl, hs1⟩ a hf
         have hs : St _ W w [_, _, _, _] := hs.ext hs1.below
         clear hs1
         refine wpO_nil ?_
         refine wpL_cond hf rfl (fun hb445 => ?_) (fun hb445 => ?_)
         ·have hj442 := bif_t hj442 hb445
          refine wpL_exit (Qb_exit ?_)
          exact ⟨x398, Option.some.inj hj442, (FrD.pick (FrD.pick (FrD.pick (FrD.pick hf.none hf rfl) hf rfl) hf rfl) hf rfl), hs⟩
         ·have hj442 := bif_f hj442 hb445
          refine wpL_skip <| wpL_seq <| wpL_region ?_
          refine sY hf hs rfl rfl rfl (Y_fieldAddr rfl rfl fo52_1) ?_; clear hf; intro a hf
          refine sY hf hs rfl rfl rfl (Y_load_blk rfl rfl (i := 0) rfl rfl ag50) ?_; clear hf; intro a hf
          refine sY hf hs rfl rfl rfl (Y_makeFunc (us := []) (vs := [.pointer (some ⟨b399, 0, none⟩), .pointer (some ⟨b2, 0, none⟩)]) rfl rfl rfl) ?_; clear hf; intro a hf
          obtain ⟨r446, hc447, hj442⟩ := bind_some hj442
          refine sCall hf rfl rfl rfl rfl (cap := []) rfl rfl en173 (slices_ContainsFunc_Place_ok F ad.Places ae ad.Places.length ah rfl (fun x0 => impl_firingOrder_c1 F x0 x400 xs227) 183 ([.pointer (some ⟨b399, 0, none⟩), .pointer (some ⟨b2, 0, none⟩)]) _ _ hc447 (aA.at hs) (fun x0 r w' hm_ hb => impl_firingOrder_c1_ok F x0 b399 x400 b2 xs227 A228 n229 c230 hn231 r w' hm_ ((hs.pb (i := 3) rfl).below hb (Nat.le_refl _)) ((hs.rd (i := 2) rfl).below hb (Nat.le_refl _)) ((hs.pb (i := 1) rfl).below hb (Nat.le_refl _))) en183) ?_; clear hf
          rintro _ w ⟨rfl, hs1⟩ a hf
          have hs : St _ W w [_, _, _, _] := hs.ext hs1.below
          clear hs1
          refine sY hf hs rfl rfl rfl (Y_assign rfl rfl) ?_; clear hf; intro a hf
          refine wpO_nil <| wpL_seq <| wpL_region ?_
          refine sY hf hs rfl rfl rfl (Y_move rfl rfl) ?_; clear hf; intro a hf
          refine sY hf hs rfl rfl rfl (Y_not rfl rfl) ?_; clear hf; intro a hf
          refine wpO_nil ?_
          refine wpL_cond hf rfl (fun hb448 => ?_) (fun hb448 => ?_)
          ·have hj442 := bif_t hj442 hb448
           refine wpL_region ?_
           refine sY hf hs rfl rfl rfl (Y_load_blk rfl rfl (i := 3) rfl rfl ag2) ?_; clear hf; intro a hf
           refine sY hf hs rfl rfl rfl (Y_assign rfl rfl) ?_; clear hf; intro a hf
           refine wpO_nil ?_
           refine wpL_nil (Qb_normal ?_)
           exact ⟨x400, Option.some.inj hj442, (FrD.pick (FrD.pick (FrD.pick (FrD.pick hf.none hf rfl) hf rfl) hf rfl) hf rfl), hs⟩
          ·have hj442 := bif_f hj442 hb448
           refine wpL_skip ?_
           refine wpL_nil (Qb_normal ?_)
           exact ⟨x398, Option.some.inj hj442, (FrD.pick (FrD.pick (FrD.pick (FrD.pick hf.none hf rfl) hf rfl) hf rfl) hf rfl), hs⟩
        ·rintro a w ⟨x440, hr_, hf, hs⟩
         subst hr_
         try dsimp only at hm426
         refine wpL_seq <| wpL_seq <| wpL_region ?_
         refine sY hf hs rfl rfl rfl (Y_load_blk rfl rfl (i := 3) rfl rfl ag2) ?_; clear hf; intro a hf
         refine wpO_nil <| wpL_region ?_
         refine sAlloc hf hs rfl rfl rfl rfl ti2 ?_; clear hf hs; intro a w b449 hs hf
         have hs : St _ W w [_, _, _, _, .blk b449 2 [.int .i64 0]] := hs
         refine sStore (i := 4) (us := [.int .i64 x400]) hf hs rfl rfl rfl rfl rfl rfl ti2 rfl rfl rfl (Nat.le_of_ble_eq_true rfl) rfl ?_; clear hs; intro w hs
         have hs : St _ W w [_, _, _, _, .blk b449 2 [.int .i64 x400]] := hs
         refine wpO_nil <| wpL_region ?_
         refine sY hf hs rfl rfl rfl (Y_load_blk rfl rfl (i := 4) rfl rfl ag2) ?_; clear hf; intro a hf
         refine sY hf hs rfl rfl rfl (Y_add rfl rfl rfl) ?_; clear hf; intro a hf
         refine sStore (i := 4) (us := [.int .i64 (IntKind.i64.wrap (x400 + 1))]) hf hs rfl rfl rfl rfl rfl rfl ti2 rfl rfl rfl (Nat.le_of_ble_eq_true rfl) rfl ?_; clear hs; intro w hs
         have hs : St _ W w [_, _, _, _, .blk b449 2 [.int .i64 (IntKind.i64.wrap (x400 + 1))]] := hs
         refine wpO_nil ?_
         refine wpL_nil (Ql_normal ?_)
         exact ⟨x440, (IntKind.i64.wrap (x400 + 1)), b449, hm426, (FrD.pick (FrD.pick (FrD.pick (FrD.pick hf.none hf rfl) hf rfl) hf rfl) hf rfl), hs.sel [0, 1, 2, 4] (by decide)⟩
       ·have hm426 := bif_f hm426 hb433
        refine wpL_exit (Ql_exit (Qb_exit ?_))
        exact ⟨x398, Option.some.inj hm426, (FrD.pick (FrD.pick (FrD.pick hf.none hf rfl) hf rfl) hf rfl), hs.sel [0, 1, 2] (by decide)⟩
    ·rintro a w ⟨x423, hr_, hf, hs⟩
     subst hr_
     try dsimp only at hm347
     refine wpL_seq <| wpL_seq <| wpL_region ?_
     refine sY hf hs rfl rfl rfl (Y_move rfl rfl) ?_; clear hf; intro a hf
     refine sY hf hs rfl rfl rfl (Y_lss rfl rfl rfl) ?_; clear hf; intro a hf
     refine wpO_nil ?_
     refine wpL_cond hf rfl (fun hb450 => ?_) (fun hb450 => ?_)
     ·have hm347 := bif_t hm347 hb450
      refine wpL_seq <| wpL_region ?_
      refine sY hf hs rfl rfl rfl (Y_assign rfl rfl) ?_; clear hf; intro a hf
      refine sY hf hs rfl rfl rfl (Y_assign rfl rfl) ?_; clear hf; intro a hf
      refine wpO_nil ?_
      have hs : St [] W _ [.blk b1 52 [.int .i64 ad.Events, .slice ae ad.Places.length ah], .blk b2 23 [.slice A228 n229 c230], .row A228 n229 c230 2 1 (ints xs227), .row none 0 0 2 1 (ints ([] : List Int))] := hs.addNil 2 1
      obtain rfl := Option.some.inj hm347
      try dsimp only at hm
      obtain rfl := Option.some.inj hm
      refine wpL_ret (Qb_ret (Ql_ret (Qb_ret (ret_tmp2 rfl hf rfl rfl ?_))))
      exact ⟨_, rfl, none, 0, 0, rfl, rfl, hs.sel [3] (by decide)⟩
     ·have hm347 := bif_f hm347 hb450
      refine wpL_skip <| wpL_region ?_
      refine sY hf hs rfl rfl rfl (Y_load_blk rfl rfl (i := 1) rfl rfl ag23) ?_; clear hf; intro a hf
      refine sY hf hs rfl rfl rfl (Y_move rfl rfl) ?_; clear hf; intro a hf
      refine sBuildSlice (parts := [(0, .tmp 37)]) (vs := [.int .i64 x423]) (cells := [.int .i64 x423]) hf hs rfl rfl rfl rfl rfl el23 ti2 rfl rfl rfl rfl ?_; clear hf hs; intro a w A452 hs hA453 hf
      have hs : St _ W w [_, _, _, .row A452 1 1 2 1 (ints ([x423]))] := hs
      obtain ⟨xs456, ha457, hm347⟩ := bind_some hm347
      refine sAppendL (i := 2) (xs := xs227) (ys := [x423]) (enc := ints) hf hs rfl rfl rfl rfl rfl rfl hn231 rfl rfl ha457 el23 ti2 rfl rfl rfl (hs.rd (i := 3) rfl) (Nat.succ_pos _) ints_len1 ints_append ints_one ?_; clear hf hs; intro a w A454 c455 hs hf
      have hs : St _ W w [_, _, .row A454 xs456.length c455 2 1 (ints xs456), _] := hs
      refine sStore (i := 1) (us := [.slice A454 xs456.length c455]) hf hs rfl rfl rfl rfl rfl rfl ti23 rfl rfl rfl (Nat.le_of_ble_eq_true rfl) rfl ?_; clear hs; intro w hs
      have hs : St _ W w [_, .blk b2 23 [.slice A454 xs456.length c455], _, _] := hs
      refine wpO_nil ?_
      refine wpL_nil (Qb_normal ?_)
      refine wpL_nil (Ql_normal ?_)
      exact ⟨xs456, A454, xs456.length, c455, hm347, rfl, (FrD.pick (FrD.pick hf.none hf rfl) hf rfl), hs.sel [0, 1, 2] (by decide)⟩
   ·have hm347 := bif_f hm347 hb349
    refine wpL_exit (Ql_exit (Qb_exit ?_))
    exact ⟨xs227, A228, n229, c230, Option.some.inj hm347, hn231, (FrD.pick hf.none hf rfl), hs.sel [1, 2] (by decide)⟩
 ·rintro a w ⟨xs340, A341, n342, c343, hr_, hn344, hf, hs⟩
  subst hr_
  try dsimp only at hm
  refine wpL_seq <| wpL_region ?_
  refine sY hf hs rfl rfl rfl (Y_load_blk rfl rfl (i := 0) rfl rfl ag23) ?_; clear hf; intro a hf
  refine sY hf hs rfl rfl rfl (Y_assign rfl rfl) ?_; clear hf; intro a hf
  refine sY hf hs rfl rfl rfl (Y_assign rfl rfl) ?_; clear hf; intro a hf
  refine wpO_nil ?_
  obtain rfl := Option.some.inj hm
  refine wpL_ret (ret_tmp2 rfl hf rfl rfl ?_)
  exact ⟨_, rfl, A341, n342, c343, rfl, hn344, hs.sel [1] (by decide)⟩

set_option maxRecDepth 100000 in
theorem impl_isLive_ok (F : Nat) (ad : GEventGraph) (ae : Option Addr) (az ah : Nat) (aC : az = ad.Places.length) (r : Bool) (W : World) (hm : impl_isLive F ad = some r) (aA : Rd W ae ((recs GPlace.cells) ad.Places)) :
  Calls Try.prog 135 [.agg #[.int .i64 ad.Events, .slice ae az ah]].toArray W fun e w' => ∃ v, e = .returned v ∧ v = .bool r ∧ St [] W w' [] := by
 subst aC
 unfold impl_isLive at hm
 refine Calls.enter (N := 11) Try.func135 rfl rfl rfl (fun a hf => ?_)
 have hs := St.start W
 obtain ⟨w, hw_⟩ : ∃ w, w = W := ⟨W, rfl⟩
 clear hw_ w
 refine wpL_seq <| wpL_region ?_
 refine sBox hf hs rfl rfl rfl rfl rfl (cs := [.int .i64 ad.Events, .slice ae ad.Places.length ah]) rfl ?_; clear hf hs; intro a w b1 hs hf
 have hs : St _ W w [_] := hs
 refine sY hf hs rfl rfl rfl (Y_assign rfl rfl) ?_; clear hf; intro a hf
 refine wpO_nil <| wpL_seq <| wpL_region ?_
 refine sY hf hs rfl rfl rfl (Y_load_blkS rfl rfl (i := 0) rfl ag52 ti52 rfl) ?_; clear hf; intro a hf
 obtain ⟨r2, hc3, hm⟩ := bind_some hm
 refine sCall hf rfl rfl rfl rfl (cap := []) rfl rfl en142 (impl_firingOrder_ok F ad ae ad.Places.length ah rfl _ _ hc3 (aA.at hs)) ?_; clear hf
 rintro _ w ⟨A4, n5, c6, rfl, hn7, hs1⟩ a hf
 have hs : St _ W w [_, .row A4 n5 c6 2 1 (ints r2.1)] := hs.join hs1
 clear hs1
 refine sY hf hs rfl rfl rfl (Y_move rfl rfl) ?_; clear hf; intro a hf
 refine sY hf hs rfl rfl rfl (Y_extract rfl rfl rfl) ?_; clear hf; intro a hf
 refine sY hf hs rfl rfl rfl (Y_extract rfl rfl rfl) ?_; clear hf; intro a hf
 refine sY hf hs rfl rfl rfl (Y_assign rfl rfl) ?_; clear hf; intro a hf
 refine sY hf hs rfl rfl rfl (Y_assign rfl rfl) ?_; clear hf; intro a hf
 refine wpO_nil <| wpL_seq <| wpL_region ?_
 refine sY hf hs rfl rfl rfl (Y_move rfl rfl) ?_; clear hf; intro a hf
 refine sY hf hs rfl rfl rfl (Y_assign rfl rfl) ?_; clear hf; intro a hf
 refine wpO_nil ?_
 obtain rfl := Option.some.inj hm
 refine wpL_ret (ret_tmp rfl hf rfl ?_)
 exact ⟨_, rfl, rfl, hs.sel [] (by decide)⟩

set_option maxRecDepth 100000 in
theorem impl_slacksOf_ok (F : Nat) (ad : GEventGraph) (ae : Option Addr) (az ah : Nat) (aC : az = ad.Places.length) (am : GTimetable) (ao : Option Addr) (aG ap : Nat) (aQ : aG = am.Starts.length) (r : List Int) (W : World) (hm : impl_slacksOf F ad am = some r) (aA : Rd W ae ((recs GPlace.cells) ad.Places)) (aJ : Rd W ao (ints am.Starts)) :
  Calls Try.prog 87 [.agg #[.int .i64 ad.Events, .slice ae az ah], .agg #[.int .i64 am.Period, .slice ao aG ap]].toArray W fun e w' => ∃ v, e = .returned v ∧ ∃ A66, ∃ n67, ∃ c68, v = .slice A66 n67 c68 ∧ n67 = r.length ∧ St [] W w' [.row A66 n67 c68 2 1 (ints r)] := by
 subst aC
 subst aQ
 unfold impl_slacksOf at hm
 refine Calls.enter (N := 47) Try.func87 rfl rfl rfl (fun a hf => ?_)
 have hs := St.start W
 obtain ⟨w, hw_⟩ : ∃ w, w = W := ⟨W, rfl⟩
 clear hw_ w
 refine wpL_seq <| wpL_region ?_
 refine sBox hf hs rfl rfl rfl rfl rfl (cs := [.int .i64 ad.Events, .slice ae ad.Places.length ah]) rfl ?_; clear hf hs; intro a w b1 hs hf
 have hs : St _ W w [_] := hs
 refine sBox hf hs rfl rfl rfl rfl rfl (cs := [.int .i64 am.Period, .slice ao am.Starts.length ap]) rfl ?_; clear hf hs; intro a w b2 hs hf
 have hs : St _ W w [_, .blk b2 54 [.int .i64 am.Period, .slice ao am.Starts.length ap]] := hs
 refine sY hf hs rfl rfl rfl (Y_assign rfl rfl) ?_; clear hf; intro a hf
 refine wpO_nil <| wpL_seq <| wpL_region ?_
 refine sY hf hs rfl rfl rfl (Y_fieldAddr rfl rfl fo52_1) ?_; clear hf; intro a hf
 refine sY hf hs rfl rfl rfl (Y_load_blk rfl rfl (i := 0) rfl rfl ag50) ?_; clear hf; intro a hf
 refine sY hf hs rfl rfl rfl (Y_lenH rfl rfl el50 rfl) ?_; clear hf; intro a hf
 obtain ⟨xs5, hk4, hm⟩ := bind_some hm
 refine sMakeL (enc := ints) hf hs rfl rfl rfl rfl rfl hk4 el23 ti2 rfl ints_made ?_; clear hf hs; intro a w A3 hs hf
 have hs : St _ W w [_, _, .row A3 xs5.length xs5.length 2 1 (ints xs5)] := hs
 refine sY hf hs rfl rfl rfl (Y_assign rfl rfl) ?_; clear hf; intro a hf
 refine wpO_nil <| wpL_seq <| wpL_seq <| wpL_region ?_
 refine sY hf hs rfl rfl rfl (Y_fieldAddr rfl rfl fo52_1) ?_; clear hf; intro a hf
 refine sY hf hs rfl rfl rfl (Y_load_blk rfl rfl (i := 0) rfl rfl ag50) ?_; clear hf; intro a hf
 refine sY hf hs rfl rfl rfl (Y_lenH rfl rfl el50 rfl) ?_; clear hf; intro a hf
 refine sY hf hs rfl rfl rfl (Y_move rfl rfl) ?_; clear hf; intro a hf
 refine wpO_nil ?_
 obtain ⟨r50, hl51, hm⟩ := bind_some hm
 refine wpL_block (fun a w => ∃ xs48 : List Int, xs48 = r50 ∧ xs5.length = xs48.length ∧ Fr a 47 [(5, .slice A3 xs5.length xs5.length)] ∧ St [] W w [.row A3 xs5.length xs5.length 2 1 (ints xs48)]) ?_ ?_
 ·refine wpL_loop (fun n a w => ∃ xs33 : List Int, ∃ x35 : Int, impl_slacksOf_L1 F ad am n xs33 x35 = some r50 ∧ xs5.length = xs33.length ∧ Fr a 47 [(3, .pointer (some ⟨b2, 0, none⟩)), (5, .slice A3 xs5.length xs5.length), (13, .slice ae ad.Places.length ah), (14, .int .i64 (ad.Places.length : Int)), (15, .int .i64 x35)] ∧ St [] W w [.blk b2 54 [.int .i64 am.Period, .slice ao am.Starts.length ap], .row A3 xs5.length xs5.length 2 1 (ints xs33)]) F ?_ ?_ ?_
  ·exact ⟨xs5, 0, hl51, rfl, (FrD.pick (FrD.pick (FrD.pick (FrD.pick (FrD.pick hf.none hf rfl) hf rfl) hf rfl) hf rfl) hf rfl), hs.sel [1, 2] (by decide)⟩
  ·rintro a w ⟨xs33, x35, h0_, -, -, -⟩; simp [impl_slacksOf_L1] at h0_
  ·rintro n53 a w ⟨xs33, x35, hm52, hn34, hf, hs⟩
   rw [impl_slacksOf_L1] at hm52
   refine wpL_seq <| wpL_region ?_
   refine sY hf hs rfl rfl rfl (Y_lss rfl rfl rfl) ?_; clear hf; intro a hf
   refine wpO_nil <| wpL_seq ?_
   refine wpL_cond hf rfl (fun hb54 => ?_) (fun hb54 => ?_)
   ·have hm52 := bif_t hm52 hb54
    refine wpL_skip <| wpL_seq <| wpL_block0 <| wpL_seq <| wpL_region ?_
    refine sY hf hs rfl rfl rfl (Y_move rfl rfl) ?_; clear hf; intro a hf
    obtain ⟨q55, hi56, hm52⟩ := bind_some hm52
    obtain ⟨hi56a, hi56b, hi56q⟩ := idx_some hi56
    refine sY hf hs rfl rfl rfl (Y_index rfl rfl rfl el50 ti112 (Rd.isAt (aA.at hs) (recs_at (s := 4) GPlace.len hi56q (j := 0) rfl)) hi56a hi56b) ?_; clear hf; intro a hf
    refine sY hf hs rfl rfl rfl (Y_load_rdS rfl rfl (us := [.int .i64 q55.From, .int .i64 q55.To, .int .i64 q55.Delay, .int .i64 q55.Tokens]) (fun w hs => aA.at hs) (fun j u hj => recs_at (s := 4) GPlace.len hi56q hj) (Nat.succ_pos _) ag112 ti112 rfl) ?_; clear hf; intro a hf
    refine sAlloc hf hs rfl rfl rfl rfl ti112 ?_; clear hf hs; intro a w b57 hs hf
    have hs : St _ W w [_, _, .blk b57 112 [.int .i64 0, .int .i64 0, .int .i64 0, .int .i64 0]] := hs
    refine sY hf hs rfl rfl rfl (Y_assign rfl rfl) ?_; clear hf; intro a hf
    refine sStore (i := 2) (us := [.int .i64 q55.From, .int .i64 q55.To, .int .i64 q55.Delay, .int .i64 q55.Tokens]) hf hs rfl rfl rfl rfl rfl rfl ti112 rfl rfl rfl (Nat.le_of_ble_eq_true rfl) rfl ?_; clear hs; intro w hs
    have hs : St _ W w [_, _, .blk b57 112 [.int .i64 q55.From, .int .i64 q55.To, .int .i64 q55.Delay, .int .i64 q55.Tokens]] := hs
    refine wpO_nil ?_
    refine wpL_drawM [.blk b2 54 [.int .i64 am.Period, .slice ao am.Starts.length ap], .row A3 xs5.length xs5.length 2 1 (ints xs33), .blk b57 112 [.int .i64 q55.From, .int .i64 q55.To, .int .i64 q55.Delay, .int .i64 q55.Tokens]] [25] (by kernel_rfl) hs ?_; clear hs; intro w hs
    have hs0 : St _ W w [_, _, _] := hs
    refine mYp (i := 0) rfl (by kernel_rfl) (by kernel_rfl) hf rfl rfl rfl (fun _ => Y_move rfl rfl) ?_; clear hf; intro a hf
    refine mYp (i := 1) rfl (by kernel_rfl) (by kernel_rfl) hf rfl rfl rfl (fun _ => Y_move rfl rfl) ?_; clear hf; intro a hf
    refine mYp (i := 2) rfl (by kernel_rfl) (by kernel_rfl) hf rfl rfl rfl (fun _ => Y_fieldAddr rfl rfl fo54_1) ?_; clear hf; intro a hf
    refine mY (i := 3) [[]] rfl (by kernel_rfl) (by kernel_rfl) hf hs0 rfl rfl rfl (Y_load_blk rfl rfl (i := 0) rfl rfl ag23) ?_; clear hf; intro a hf
    refine mYp (i := 4) rfl (by kernel_rfl) (by kernel_rfl) hf rfl rfl rfl (fun _ => Y_fieldAddr rfl rfl fo112_1) ?_; clear hf; intro a hf
    refine mY (i := 5) [[]] rfl (by kernel_rfl) (by kernel_rfl) hf hs0 rfl rfl rfl (Y_load_blk rfl rfl (i := 2) rfl rfl ag2) ?_; clear hf; intro a hf
    obtain ⟨q58, hi59, hm52⟩ := bind_some hm52
    obtain ⟨hi59a, hi59b, hi59q⟩ := idx_some hi59
    refine mYp (i := 6) rfl (by kernel_rfl) (by kernel_rfl) hf rfl rfl rfl (fun _ => Y_index rfl rfl rfl el23 ti2 (Rd.isAt (aJ.at hs) (at1 (ints_at hi59q))) hi59a hi59b) ?_; clear hf; intro a hf
    refine mY (i := 7) [[]] rfl (by kernel_rfl) (by kernel_rfl) hf hs0 rfl rfl rfl (Y_load_rd rfl rfl (fun w hs => aJ.at hs) (at1 (ints_at hi59q)) ag2) ?_; clear hf; intro a hf
    refine mYp (i := 8) rfl (by kernel_rfl) (by kernel_rfl) hf rfl rfl rfl (fun _ => Y_fieldAddr rfl rfl fo112_3) ?_; clear hf; intro a hf
    refine mY (i := 9) [[]] rfl (by kernel_rfl) (by kernel_rfl) hf hs0 rfl rfl rfl (Y_load_blk rfl rfl (i := 2) rfl rfl ag2) ?_; clear hf; intro a hf
    refine mYp (i := 10) rfl (by kernel_rfl) (by kernel_rfl) hf rfl rfl rfl (fun _ => Y_fieldAddr rfl rfl fo54_0) ?_; clear hf; intro a hf
    refine mY (i := 11) [[]] rfl (by kernel_rfl) (by kernel_rfl) hf hs0 rfl rfl rfl (Y_load_blk rfl rfl (i := 0) rfl rfl ag2) ?_; clear hf; intro a hf
    refine mYp (i := 12) rfl (by kernel_rfl) (by kernel_rfl) hf rfl rfl rfl (fun _ => Y_mul rfl rfl rfl) ?_; clear hf; intro a hf
    refine mYp (i := 13) rfl (by kernel_rfl) (by kernel_rfl) hf rfl rfl rfl (fun _ => Y_add rfl rfl rfl) ?_; clear hf; intro a hf
    refine mYp (i := 14) rfl (by kernel_rfl) (by kernel_rfl) hf rfl rfl rfl (fun _ => Y_fieldAddr rfl rfl fo54_1) ?_; clear hf; intro a hf
    refine mY (i := 15) [[]] rfl (by kernel_rfl) (by kernel_rfl) hf hs0 rfl rfl rfl (Y_load_blk rfl rfl (i := 0) rfl rfl ag23) ?_; clear hf; intro a hf
    refine mYp (i := 16) rfl (by kernel_rfl) (by kernel_rfl) hf rfl rfl rfl (fun _ => Y_fieldAddr rfl rfl fo112_0) ?_; clear hf; intro a hf
    refine mY (i := 17) [[]] rfl (by kernel_rfl) (by kernel_rfl) hf hs0 rfl rfl rfl (Y_load_blk rfl rfl (i := 2) rfl rfl ag2) ?_; clear hf; intro a hf
    obtain ⟨q60, hi61, hm52⟩ := bind_some hm52
    obtain ⟨hi61a, hi61b, hi61q⟩ := idx_some hi61
    refine mYp (i := 18) rfl (by kernel_rfl) (by kernel_rfl) hf rfl rfl rfl (fun _ => Y_index rfl rfl rfl el23 ti2 (Rd.isAt (aJ.at hs) (at1 (ints_at hi61q))) hi61a hi61b) ?_; clear hf; intro a hf
    refine mY (i := 19) [[]] rfl (by kernel_rfl) (by kernel_rfl) hf hs0 rfl rfl rfl (Y_load_rd rfl rfl (fun w hs => aJ.at hs) (at1 (ints_at hi61q)) ag2) ?_; clear hf; intro a hf
    refine mYp (i := 20) rfl (by kernel_rfl) (by kernel_rfl) hf rfl rfl rfl (fun _ => Y_sub rfl rfl rfl) ?_; clear hf; intro a hf
    refine mYp (i := 21) rfl (by kernel_rfl) (by kernel_rfl) hf rfl rfl rfl (fun _ => Y_fieldAddr rfl rfl fo112_2) ?_; clear hf; intro a hf
    refine mY (i := 22) [[]] rfl (by kernel_rfl) (by kernel_rfl) hf hs0 rfl rfl rfl (Y_load_blk rfl rfl (i := 2) rfl rfl ag2) ?_; clear hf; intro a hf
    refine mYp (i := 23) rfl (by kernel_rfl) (by kernel_rfl) hf rfl rfl rfl (fun _ => Y_sub rfl rfl rfl) ?_; clear hf; intro a hf
    obtain ⟨q62, hi63, hm52⟩ := bind_some hm52
    obtain ⟨hi63a, hi63b, hi63q⟩ := idx_some hi63
    refine mYp (i := 24) rfl (by kernel_rfl) (by kernel_rfl) hf rfl rfl rfl (fun _ => Y_index rfl rfl rfl el23 ti2 (Rd.isAt (hs.rd (i := 1) rfl) (at1 (ints_at hi63q))) hi63a (ltn hn34 hi63b)) ?_; clear hf; intro a hf
    refine mRun (i := 25) rfl (by kernel_rfl) ?_
    obtain ⟨xs64, hu65, hm52⟩ := bind_some hm52
    refine sStoreL (i := 1) (us := [.int .i64 (IntKind.i64.wrap ((IntKind.i64.wrap ((IntKind.i64.wrap (q58 + (IntKind.i64.wrap (q55.Tokens * am.Period)))) - q60)) - q55.Delay))]) (enc := ints) hf hs rfl rfl rfl rfl rfl rfl hn34 hu65 ti2 rfl rfl rfl rfl rfl ints_len1 (ints_set (IntKind.i64.wrap ((IntKind.i64.wrap ((IntKind.i64.wrap (q58 + (IntKind.i64.wrap (q55.Tokens * am.Period)))) - q60)) - q55.Delay))) ?_; clear hs; intro w hs
    have hs : St _ W w [_, .row A3 xs5.length xs5.length 2 1 (ints xs64), _] := hs
    refine wpO_nil ⟨Or.inl (by decide), ?_⟩
    refine mDone (by kernel_rfl) ?_
    clear hs0
    refine wpL_nil (Qb_normal ?_)
    refine wpL_region ?_
    refine sY hf hs rfl rfl rfl (Y_add rfl rfl rfl) ?_; clear hf; intro a hf
    refine sY hf hs rfl rfl rfl (Y_move rfl rfl) ?_; clear hf; intro a hf
    refine wpO_nil ?_
    refine wpL_nil (Ql_normal ?_)
    exact ⟨xs64, (IntKind.i64.wrap (x35 + 1)), hm52, ((hn34).trans (upd_len hu65).symm), (FrD.pick (FrD.pick (FrD.pick (FrD.pick (FrD.pick hf.none hf rfl) hf rfl) hf rfl) hf rfl) hf rfl), hs.sel [0, 1] (by decide)⟩
   ·have hm52 := bif_f hm52 hb54
    refine wpL_exit (Ql_exit (Qb_exit ?_))
    exact ⟨xs33, Option.some.inj hm52, hn34, (FrD.pick hf.none hf rfl), hs.sel [1] (by decide)⟩
 ·rintro a w ⟨xs48, hr_, hn49, hf, hs⟩
  subst hr_
  try dsimp only at hm
  refine wpL_seq <| wpL_region ?_
  refine sY hf hs rfl rfl rfl (Y_move rfl rfl) ?_; clear hf; intro a hf
  refine sY hf hs rfl rfl rfl (Y_assign rfl rfl) ?_; clear hf; intro a hf
  refine wpO_nil ?_
  obtain rfl := Option.some.inj hm
  refine wpL_ret (ret_tmp rfl hf rfl ?_)
  exact ⟨_, rfl, A3, xs5.length, xs5.length, rfl, hn49, hs⟩

set_option maxRecDepth 100000 in
theorem slices_IndexFunc_int64_ok (F : Nat) (bi : List Int) (aX : Option Addr) (bp bq : Nat) (bG : bp = bi.length) (bP : Int → Option Bool) (bA : FuncId) (bH : List Value) (r : Int) (W : World) (hm : slices_IndexFunc_int64 F bi bP = some r) (bB : Rd W aX (ints bi)) (cn : ∀ (x0 : Int) (r : Bool) (w : World), bP x0 = some r → Below W.heap.size W w → Calls Try.prog bA (([.int .i64 x0] : List Value) ++ bH).toArray w fun e w' => ∃ v, e = .returned v ∧ v = .bool r ∧ St [] w w' []) (co : En Try.prog bA) :
  Calls Try.prog 202 [.slice aX bp bq, .func (.func bA) #[] bH.toArray].toArray W fun e w' => ∃ v, e = .returned v ∧ v = .int .i64 r ∧ St [] W w' [] := by
 subst bG
 unfold slices_IndexFunc_int64 at hm
 refine Calls.enter (N := 19) Try.func202 rfl rfl rfl (fun a hf => ?_)
 have hs := St.start W
 obtain ⟨w, hw_⟩ : ∃ w, w = W := ⟨W, rfl⟩
 clear hw_ w
 refine wpL_seq <| wpL_region ?_
 refine sY hf hs rfl rfl rfl (Y_assign rfl rfl) ?_; clear hf; intro a hf
 refine wpO_nil <| wpL_seq <| wpL_seq <| wpL_region ?_
 refine sY hf hs rfl rfl rfl (Y_move rfl rfl) ?_; clear hf; intro a hf
 refine sY hf hs rfl rfl rfl (Y_lenH rfl rfl el23 rfl) ?_; clear hf; intro a hf
 refine sY hf hs rfl rfl rfl (Y_move rfl rfl) ?_; clear hf; intro a hf
 refine wpO_nil ?_
 obtain ⟨r21, hl22, hm⟩ := bind_some hm
 refine wpL_block (fun a w => Sum.inr () = r21 ∧ Fr a 19 [] ∧ St [] W w []) ?_ ?_
 ·refine wpL_loop (fun n a w => ∃ x14 : Int, slices_IndexFunc_int64_L1 F bi bP n x14 = some r21 ∧ Fr a 19 [(0, .slice aX bi.length bq), (1, .func (.func bA) #[] bH.toArray), (7, .int .i64 (bi.length : Int)), (8, .int .i64 x14)] ∧ St [] W w []) F ?_ ?_ ?_
  ·exact ⟨0, hl22, (FrD.pick (FrD.pick (FrD.pick (FrD.pick hf.none hf rfl) hf rfl) hf rfl) hf rfl), hs⟩
  ·rintro a w ⟨x14, h0_, -, -⟩; simp [slices_IndexFunc_int64_L1] at h0_
  ·rintro n24 a w ⟨x14, hm23, hf, hs⟩
   rw [slices_IndexFunc_int64_L1] at hm23
   refine wpL_seq <| wpL_region ?_
   refine sY hf hs rfl rfl rfl (Y_lss rfl rfl rfl) ?_; clear hf; intro a hf
   refine wpO_nil <| wpL_seq ?_
   refine wpL_cond hf rfl (fun hb25 => ?_) (fun hb25 => ?_)
   ·have hm23 := bif_t hm23 hb25
    refine wpL_skip <| wpL_seq <| wpL_block0 <| wpL_seq <| wpL_region ?_
    refine sY hf hs rfl rfl rfl (Y_move rfl rfl) ?_; clear hf; intro a hf
    refine sY hf hs rfl rfl rfl (Y_assign rfl rfl) ?_; clear hf; intro a hf
    refine wpO_nil <| wpL_seq <| wpL_region ?_
    refine sY hf hs rfl rfl rfl (Y_move rfl rfl) ?_; clear hf; intro a hf
    refine sY hf hs rfl rfl rfl (Y_move rfl rfl) ?_; clear hf; intro a hf
    refine sY hf hs rfl rfl rfl (Y_move rfl rfl) ?_; clear hf; intro a hf
    obtain ⟨q26, hi27, hm23⟩ := bind_some hm23
    obtain ⟨hi27a, hi27b, hi27q⟩ := idx_some hi27
    refine sY hf hs rfl rfl rfl (Y_index rfl rfl rfl el23 ti2 (Rd.isAt (bB.at hs) (at1 (ints_at hi27q))) hi27a hi27b) ?_; clear hf; intro a hf
    refine sY hf hs rfl rfl rfl (Y_load_rd rfl rfl (fun w hs => bB.at hs) (at1 (ints_at hi27q)) ag2) ?_; clear hf; intro a hf
    obtain ⟨r28, hc29, hm23⟩ := bind_some hm23
    refine sCall hf rfl rfl rfl rfl (cap := bH) rfl rfl co (cn q26 _ _ hc29 hs.below) ?_; clear hf; rintro _ w ⟨rfl, hs1⟩ a hf; have hs := hs.ext hs1.below; clear hs1
    refine wpO_nil ?_
    refine wpL_cond hf rfl (fun hb30 => ?_) (fun hb30 => ?_)
    ·have hm23 := bif_t hm23 hb30
     refine wpL_seq <| wpL_region ?_
     refine sY hf hs rfl rfl rfl (Y_move rfl rfl) ?_; clear hf; intro a hf
     refine sY hf hs rfl rfl rfl (Y_assign rfl rfl) ?_; clear hf; intro a hf
     refine wpO_nil ?_
     obtain rfl := Option.some.inj hm23
     try dsimp only at hm
     obtain rfl := Option.some.inj hm
     refine wpL_ret (Qb_ret (Ql_ret (Qb_ret (ret_tmp rfl hf rfl ?_))))
     exact ⟨_, rfl, rfl, hs⟩
    ·have hm23 := bif_f hm23 hb30
     refine wpL_skip ?_
     refine wpL_nil (Qb_normal ?_)
     refine wpL_region ?_
     refine sY hf hs rfl rfl rfl (Y_add rfl rfl rfl) ?_; clear hf; intro a hf
     refine sY hf hs rfl rfl rfl (Y_move rfl rfl) ?_; clear hf; intro a hf
     refine wpO_nil ?_
     refine wpL_nil (Ql_normal ?_)
     exact ⟨(IntKind.i64.wrap (x14 + 1)), hm23, (FrD.pick (FrD.pick (FrD.pick (FrD.pick hf.none hf rfl) hf rfl) hf rfl) hf rfl), hs⟩
   ·have hm23 := bif_f hm23 hb25
    refine wpL_exit (Ql_exit (Qb_exit ?_))
    exact ⟨Option.some.inj hm23, hf.none, hs⟩
 ·rintro a w ⟨hr_, hf, hs⟩
  subst hr_
  try dsimp only at hm
  refine wpL_seq <| wpL_region ?_
  refine sY hf hs rfl rfl rfl (Y_assign rfl rfl) ?_; clear hf; intro a hf
  refine wpO_nil ?_
  obtain rfl := Option.some.inj hm
  refine wpL_ret (ret_tmp rfl hf rfl ?_)
  exact ⟨_, rfl, rfl, hs⟩

set_option maxRecDepth 100000 in
theorem slices_ContainsFunc_int64_ok (F : Nat) (bi : List Int) (aX : Option Addr) (bp bq : Nat) (bG : bp = bi.length) (bP : Int → Option Bool) (bA : FuncId) (bH : List Value) (r : Bool) (W : World) (hm : slices_ContainsFunc_int64 F bi bP = some r) (bB : Rd W aX (ints bi)) (cn : ∀ (x0 : Int) (r : Bool) (w : World), bP x0 = some r → Below W.heap.size W w → Calls Try.prog bA (([.int .i64 x0] : List Value) ++ bH).toArray w fun e w' => ∃ v, e = .returned v ∧ v = .bool r ∧ St [] w w' []) (co : En Try.prog bA) :
  Calls Try.prog 176 [.slice aX bp bq, .func (.func bA) #[] bH.toArray].toArray W fun e w' => ∃ v, e = .returned v ∧ v = .bool r ∧ St [] W w' [] := by
 subst bG
 unfold slices_ContainsFunc_int64 at hm
 refine Calls.enter (N := 9) Try.func176 rfl rfl rfl (fun a hf => ?_)
 have hs := St.start W
 obtain ⟨w, hw_⟩ : ∃ w, w = W := ⟨W, rfl⟩
 clear hw_ w
 refine wpL_seq <| wpL_region ?_
 refine sY hf hs rfl rfl rfl (Y_assign rfl rfl) ?_; clear hf; intro a hf
 refine wpO_nil <| wpL_seq <| wpL_region ?_
 refine sY hf hs rfl rfl rfl (Y_move rfl rfl) ?_; clear hf; intro a hf
 refine sY hf hs rfl rfl rfl (Y_move rfl rfl) ?_; clear hf; intro a hf
 obtain ⟨r1, hc2, hm⟩ := bind_some hm
 refine sCall hf rfl rfl rfl rfl (cap := []) rfl rfl en202 (slices_IndexFunc_int64_ok F bi aX bi.length bq rfl bP bA bH _ _ hc2 (bB.at hs) (fun x0 r w' hm_ hb => cn x0 r w' hm_ (hs.below.trans (hb.mono hs.below.size))) co) ?_; clear hf
 rintro _ w ⟨rfl, hs1⟩ a hf
 have hs : St _ W w [] := hs.ext hs1.below
 clear hs1
 refine sY hf hs rfl rfl rfl (Y_geq rfl rfl rfl) ?_; clear hf; intro a hf
 refine sY hf hs rfl rfl rfl (Y_assign rfl rfl) ?_; clear hf; intro a hf
 refine wpO_nil ?_
 obtain rfl := Option.some.inj hm
 refine wpL_ret (ret_tmp rfl hf rfl ?_)
 exact ⟨_, rfl, rfl, hs⟩

set_option maxRecDepth 100000 in
theorem impl_isKept_c1_ok (F : Nat) (cK : Int) (r : Bool) (W : World) (hm : impl_isKept_c1 F cK = some r) :
  Calls Try.prog 177 [.int .i64 cK].toArray W fun e w' => ∃ v, e = .returned v ∧ v = .bool r ∧ St [] W w' [] := by
 unfold impl_isKept_c1 at hm
 refine Calls.enter (N := 5) Try.func177 rfl rfl rfl (fun a hf => ?_)
 have hs := St.start W
 obtain ⟨w, hw_⟩ : ∃ w, w = W := ⟨W, rfl⟩
 clear hw_ w
 refine wpL_seq <| wpL_region ?_
 refine sY hf hs rfl rfl rfl (Y_assign rfl rfl) ?_; clear hf; intro a hf
 refine wpO_nil <| wpL_seq <| wpL_region ?_
 refine sY hf hs rfl rfl rfl (Y_move rfl rfl) ?_; clear hf; intro a hf
 refine sY hf hs rfl rfl rfl (Y_lss rfl rfl rfl) ?_; clear hf; intro a hf
 refine sY hf hs rfl rfl rfl (Y_assign rfl rfl) ?_; clear hf; intro a hf
 refine wpO_nil ?_
 obtain rfl := Option.some.inj hm
 refine wpL_ret (ret_tmp rfl hf rfl ?_)
 exact ⟨_, rfl, rfl, hs⟩

set_option maxRecDepth 100000 in
theorem impl_isKept_ok (F : Nat) (ad : GEventGraph) (ae : Option Addr) (az ah : Nat) (aC : az = ad.Places.length) (am : GTimetable) (ao : Option Addr) (aG ap : Nat) (aQ : aG = am.Starts.length) (r : Bool) (W : World) (hm : impl_isKept F ad am = some r) (aA : Rd W ae ((recs GPlace.cells) ad.Places)) (aJ : Rd W ao (ints am.Starts)) :
  Calls Try.prog 136 [.agg #[.int .i64 ad.Events, .slice ae az ah], .agg #[.int .i64 am.Period, .slice ao aG ap]].toArray W fun e w' => ∃ v, e = .returned v ∧ v = .bool r ∧ St [] W w' [] := by
 subst aC
 subst aQ
 unfold impl_isKept at hm
 refine Calls.enter (N := 10) Try.func136 rfl rfl rfl (fun a hf => ?_)
 have hs := St.start W
 obtain ⟨w, hw_⟩ : ∃ w, w = W := ⟨W, rfl⟩
 clear hw_ w
 refine wpL_seq <| wpL_region ?_
 refine sBox hf hs rfl rfl rfl rfl rfl (cs := [.int .i64 ad.Events, .slice ae ad.Places.length ah]) rfl ?_; clear hf hs; intro a w b1 hs hf
 have hs : St _ W w [.blk b1 52 [.int .i64 ad.Events, .slice ae ad.Places.length ah]] := hs
 refine sBox hf hs rfl rfl rfl rfl rfl (cs := [.int .i64 am.Period, .slice ao am.Starts.length ap]) rfl ?_; clear hf hs; intro a w b2 hs hf
 have hs : St _ W w [_, .blk b2 54 [.int .i64 am.Period, .slice ao am.Starts.length ap]] := hs
 refine sY hf hs rfl rfl rfl (Y_assign rfl rfl) ?_; clear hf; intro a hf
 refine wpO_nil <| wpL_seq <| wpL_region ?_
 refine sY hf hs rfl rfl rfl (Y_load_blkS rfl rfl (i := 0) rfl ag52 ti52 rfl) ?_; clear hf; intro a hf
 refine sY hf hs rfl rfl rfl (Y_load_blkS rfl rfl (i := 1) rfl ag54 ti54 rfl) ?_; clear hf; intro a hf
 obtain ⟨r3, hc4, hm⟩ := bind_some hm
 refine sCall hf rfl rfl rfl rfl (cap := []) rfl rfl en87 (impl_slacksOf_ok F ad ae ad.Places.length ah rfl am ao am.Starts.length ap rfl _ _ hc4 (aA.at hs) (aJ.at hs)) ?_; clear hf
 rintro _ w ⟨A5, n6, c7, rfl, hn8, hs1⟩ a hf
 have hs : St _ W w [_, _, .row A5 n6 c7 2 1 (ints r3)] := hs.join hs1
 clear hs1
 obtain ⟨r9, hc10, hm⟩ := bind_some hm
 refine sCall hf rfl rfl rfl rfl (cap := []) rfl rfl en176 (slices_ContainsFunc_int64_ok F r3 A5 n6 c7 hn8 (fun x0 => impl_isKept_c1 F x0) 177 [] _ _ hc10 (hs.rd (i := 2) rfl) (fun x0 r w' hm_ hb => impl_isKept_c1_ok F x0 r w' hm_ ) en177) ?_; clear hf
 rintro _ w ⟨rfl, hs1⟩ a hf
 have hs : St _ W w [_, _, _] := hs.ext hs1.below
 clear hs1
 refine sY hf hs rfl rfl rfl (Y_not rfl rfl) ?_; clear hf; intro a hf
 refine sY hf hs rfl rfl rfl (Y_assign rfl rfl) ?_; clear hf; intro a hf
 refine wpO_nil ?_
 obtain rfl := Option.some.inj hm
 refine wpL_ret (ret_tmp rfl hf rfl ?_)
 exact ⟨_, rfl, rfl, hs.sel [] (by decide)⟩

set_option maxRecDepth 100000 in
theorem impl_checkDelays_ok (F : Nat) (ad : GEventGraph) (ae : Option Addr) (az ah : Nat) (aC : az = ad.Places.length) (am : GTimetable) (ao : Option Addr) (aG ap : Nat) (aQ : aG = am.Starts.length) (aV : List Int) (bg : Option Addr) (bD bx : Nat) (bV : bD = aV.length) (cN : Bool) (r : Int) (W : World) (hm : impl_checkDelays F ad am aV cN = some r) (aA : Rd W ae ((recs GPlace.cells) ad.Places)) (aJ : Rd W ao (ints am.Starts)) (bQ : Rd W bg (ints aV)) :
  Calls Try.prog 77 [.agg #[.int .i64 ad.Events, .slice ae az ah], .agg #[.int .i64 am.Period, .slice ao aG ap], .slice bg bD bx, .bool cN].toArray W fun e w' => ∃ v, e = .returned v ∧ v = .int .i64 r ∧ St [] W w' [] := by
 subst aC
 subst aQ
 subst bV
 unfold impl_checkDelays at hm
 refine Calls.enter (N := 44) Try.func77 rfl rfl rfl (fun a hf => ?_)
 have hs := St.start W
 obtain ⟨w, hw_⟩ : ∃ w, w = W := ⟨W, rfl⟩
 clear hw_ w
 refine wpL_seq <| wpL_region ?_
 refine sBox hf hs rfl rfl rfl rfl rfl (cs := [.int .i64 ad.Events, .slice ae ad.Places.length ah]) rfl ?_; clear hf hs; intro a w b1 hs hf
 have hs : St _ W w [_] := hs
 refine sBox hf hs rfl rfl rfl rfl rfl (cs := [.int .i64 am.Period, .slice ao am.Starts.length ap]) rfl ?_; clear hf hs; intro a w b2 hs hf
 have hs : St _ W w [_, _] := hs
 refine sY hf hs rfl rfl rfl (Y_assign rfl rfl) ?_; clear hf; intro a hf
 refine wpO_nil <| wpL_seq <| wpL_block0 <| wpL_seq <| wpL_region ?_
 refine sY hf hs rfl rfl rfl (Y_load_blkS rfl rfl (i := 0) rfl ag52 ti52 rfl) ?_; clear hf; intro a hf
 obtain ⟨r3, hc4, hm⟩ := bind_some hm
 refine sCall hf rfl rfl rfl rfl (cap := []) rfl rfl en132 (impl_IsEventGraph_ok F ad ae ad.Places.length ah rfl _ _ hc4 (aA.at hs)) ?_; clear hf
 rintro _ w ⟨rfl, hs1⟩ a hf
 have hs : St _ W w [_, _] := hs.ext hs1.below
 clear hs1
 refine sY hf hs rfl rfl rfl (Y_not rfl rfl) ?_; clear hf; intro a hf
 refine sY hf hs rfl rfl rfl (Y_assign rfl rfl) ?_; clear hf; intro a hf
 refine wpO_nil ?_
 refine wpL_cond hf rfl (fun hb5 => ?_) (fun hb5 => ?_)
 ·have hm := bif_t hm hb5
  refine wpL_seq <| wpL_region ?_
  refine sY hf hs rfl rfl rfl (Y_assign rfl rfl) ?_; clear hf; intro a hf
  refine wpO_nil ?_
  obtain rfl := Option.some.inj hm
  refine wpL_ret (Qb_ret (ret_tmp rfl hf rfl ?_))
  exact ⟨_, rfl, rfl, hs.sel [] (by decide)⟩
 ·have hm := bif_f hm hb5
  refine wpL_seq ?_
  obtain ⟨r14, hj15, hm⟩ := bind_some hm
  refine wpL_cut (fun a w => ∃ b13 : Bool, b13 = r14 ∧ Fr a 44 [(4, .pointer (some ⟨b1, 0, none⟩)), (5, .pointer (some ⟨b2, 0, none⟩)), (13, .bool b13)] ∧ St [] W w [.blk b1 52 [.int .i64 ad.Events, .slice ae ad.Places.length ah], .blk b2 54 [.int .i64 am.Period, .slice ao am.Starts.length ap]]) ?_ ?_
  ·refine wpL_region ?_
   refine sY hf hs rfl rfl rfl (Y_load_blkS rfl rfl (i := 0) rfl ag52 ti52 rfl) ?_; clear hf; intro a hf
   refine sY hf hs rfl rfl rfl (Y_load_blkS rfl rfl (i := 1) rfl ag54 ti54 rfl) ?_; clear hf; intro a hf
   obtain ⟨r16, hc17, hj15⟩ := bind_some hj15
   refine sCall hf rfl rfl rfl rfl (cap := []) rfl rfl en133 (impl_isTimetable_ok F ad ae ad.Places.length ah rfl am ao am.Starts.length ap rfl _ _ hc17 (aA.at hs) (aJ.at hs)) ?_; clear hf
   rintro _ w ⟨rfl, hs1⟩ a hf
   have hs : St _ W w [_, _] := hs.ext hs1.below
   clear hs1
   refine sY hf hs rfl rfl rfl (Y_not rfl rfl) ?_; clear hf; intro a hf
   refine sY hf hs rfl rfl rfl (Y_move rfl rfl) ?_; clear hf; intro a hf
   refine bsplit (!r16) (fun hb18 => ?_) (fun hb18 => ?_)
   ·have hj15 := bif_t hj15 hb18
    refine sNo hf rfl rfl rfl (congrArg (fun b => some (Value.bool b)) hb18) rfl rfl rfl ?_; clear hf; intro a hf
    refine sNo hf rfl rfl rfl (congrArg (fun b => some (Value.bool b)) hb18) rfl rfl rfl ?_; clear hf; intro a hf
    refine sNo hf rfl rfl rfl (congrArg (fun b => some (Value.bool b)) hb18) rfl rfl rfl ?_; clear hf; intro a hf
    refine sNo hf rfl rfl rfl (congrArg (fun b => some (Value.bool b)) hb18) rfl rfl rfl ?_; clear hf; intro a hf
    refine sNo hf rfl rfl rfl (congrArg (fun b => some (Value.bool b)) hb18) rfl rfl rfl ?_; clear hf; intro a hf
    refine sY hf hs rfl rfl rfl (Y_pickT rfl (congrArg (fun b => some (Value.bool b)) hb18) rfl) ?_; clear hf; intro a hf
    refine sY hf hs rfl rfl rfl (Y_move rfl rfl) ?_; clear hf; intro a hf
    refine sNo hf rfl rfl rfl rfl rfl rfl rfl ?_; clear hf; intro a hf
    refine sNo hf rfl rfl rfl rfl rfl rfl rfl ?_; clear hf; intro a hf
    refine sNo hf rfl rfl rfl rfl rfl rfl rfl ?_; clear hf; intro a hf
    refine sY hf hs rfl rfl rfl (Y_pickT rfl rfl rfl) ?_; clear hf; intro a hf
    refine sY hf hs rfl rfl rfl (Y_move rfl rfl) ?_; clear hf; intro a hf
    refine sNo hf rfl rfl rfl rfl rfl rfl rfl ?_; clear hf; intro a hf
    refine sNo hf rfl rfl rfl rfl rfl rfl rfl ?_; clear hf; intro a hf
    refine sY hf hs rfl rfl rfl (Y_pickT rfl rfl rfl) ?_; clear hf; intro a hf
    refine sY hf hs rfl rfl rfl (Y_assign rfl rfl) ?_; clear hf; intro a hf
    refine wpO_nil ?_
    refine wpL_nil (then_normal ?_)
    exact ⟨true, Option.some.inj hj15, (FrD.pick (FrD.pick (FrD.pick hf.none hf rfl) hf rfl) hf rfl), hs⟩
   ·have hj15 := bif_f hj15 hb18
    refine sYg hf hs rfl rfl rfl (congrArg (fun b => some (Value.bool b)) hb18) rfl rfl rfl (Y_move rfl rfl) ?_; clear hf; intro a hf
    refine sYg hf hs rfl rfl rfl (congrArg (fun b => some (Value.bool b)) hb18) rfl rfl rfl (Y_lenH rfl rfl el23 rfl) ?_; clear hf; intro a hf
    refine sYg hf hs rfl rfl rfl (congrArg (fun b => some (Value.bool b)) hb18) rfl rfl rfl (Y_fieldAddr rfl rfl fo52_0) ?_; clear hf; intro a hf
    refine sYg hf hs rfl rfl rfl (congrArg (fun b => some (Value.bool b)) hb18) rfl rfl rfl (Y_load_blk rfl rfl (i := 0) rfl rfl ag2) ?_; clear hf; intro a hf
    refine sYg hf hs rfl rfl rfl (congrArg (fun b => some (Value.bool b)) hb18) rfl rfl rfl (Y_neq rfl rfl rfl) ?_; clear hf; intro a hf
    refine sY hf hs rfl rfl rfl (Y_pickF rfl (congrArg (fun b => some (Value.bool b)) hb18) rfl) ?_; clear hf; intro a hf
    refine sY hf hs rfl rfl rfl (Y_move rfl rfl) ?_; clear hf; intro a hf
    refine bsplit ((aV.length : Int) != ad.Events) (fun hb19 => ?_) (fun hb19 => ?_)
    ·have hj15 := bif_t hj15 hb19
     refine sNo hf rfl rfl rfl (congrArg (fun b => some (Value.bool b)) hb19) rfl rfl rfl ?_; clear hf; intro a hf
     refine sNo hf rfl rfl rfl (congrArg (fun b => some (Value.bool b)) hb19) rfl rfl rfl ?_; clear hf; intro a hf
     refine sNo hf rfl rfl rfl (congrArg (fun b => some (Value.bool b)) hb19) rfl rfl rfl ?_; clear hf; intro a hf
     refine sY hf hs rfl rfl rfl (Y_pickT rfl (congrArg (fun b => some (Value.bool b)) hb19) rfl) ?_; clear hf; intro a hf
     refine sY hf hs rfl rfl rfl (Y_move rfl rfl) ?_; clear hf; intro a hf
     refine sNo hf rfl rfl rfl rfl rfl rfl rfl ?_; clear hf; intro a hf
     refine sNo hf rfl rfl rfl rfl rfl rfl rfl ?_; clear hf; intro a hf
     refine sY hf hs rfl rfl rfl (Y_pickT rfl rfl rfl) ?_; clear hf; intro a hf
     refine sY hf hs rfl rfl rfl (Y_assign rfl rfl) ?_; clear hf; intro a hf
     refine wpO_nil ?_
     refine wpL_nil (then_normal ?_)
     exact ⟨true, Option.some.inj hj15, (FrD.pick (FrD.pick (FrD.pick hf.none hf rfl) hf rfl) hf rfl), hs⟩
    ·have hj15 := bif_f hj15 hb19
     refine sYg hf hs rfl rfl rfl (congrArg (fun b => some (Value.bool b)) hb19) rfl rfl rfl (Y_move rfl rfl) ?_; clear hf; intro a hf
     obtain ⟨r20, hc21, hj15⟩ := bind_some hj15
     refine sCallg hf rfl rfl rfl (congrArg (fun b => some (Value.bool b)) hb19) rfl rfl rfl rfl (cap := []) rfl rfl en134 (impl_allWithin_ok F aV bg aV.length bx rfl 0 1000000 _ _ hc21 (bQ.at hs)) ?_; clear hf
     rintro _ w ⟨rfl, hs1⟩ a hf
     have hs : St _ W w [_, _] := hs.ext hs1.below
     clear hs1
     refine sYg hf hs rfl rfl rfl (congrArg (fun b => some (Value.bool b)) hb19) rfl rfl rfl (Y_not rfl rfl) ?_; clear hf; intro a hf
     refine sY hf hs rfl rfl rfl (Y_pickF rfl (congrArg (fun b => some (Value.bool b)) hb19) rfl) ?_; clear hf; intro a hf
     refine sY hf hs rfl rfl rfl (Y_move rfl rfl) ?_; clear hf; intro a hf
     refine bsplit (!r20) (fun hb22 => ?_) (fun hb22 => ?_)
     ·have hj15 := bif_t hj15 hb22
      refine sNo hf rfl rfl rfl (congrArg (fun b => some (Value.bool b)) hb22) rfl rfl rfl ?_; clear hf; intro a hf
      refine sNo hf rfl rfl rfl (congrArg (fun b => some (Value.bool b)) hb22) rfl rfl rfl ?_; clear hf; intro a hf
      refine sY hf hs rfl rfl rfl (Y_pickT rfl (congrArg (fun b => some (Value.bool b)) hb22) rfl) ?_; clear hf; intro a hf
      refine sY hf hs rfl rfl rfl (Y_assign rfl rfl) ?_; clear hf; intro a hf
      refine wpO_nil ?_
      refine wpL_nil (then_normal ?_)
      exact ⟨true, Option.some.inj hj15, (FrD.pick (FrD.pick (FrD.pick hf.none hf rfl) hf rfl) hf rfl), hs⟩
     ·have hj15 := bif_f hj15 hb22
      refine sYg hf hs rfl rfl rfl (congrArg (fun b => some (Value.bool b)) hb22) rfl rfl rfl (Y_move rfl rfl) ?_; clear hf; intro a hf
      refine sYg hf hs rfl rfl rfl (congrArg (fun b => some (Value.bool b)) hb22) rfl rfl rfl (Y_not rfl rfl) ?_; clear hf; intro a hf
      refine sY hf hs rfl rfl rfl (Y_pickF rfl (congrArg (fun b => some (Value.bool b)) hb22) rfl) ?_; clear hf; intro a hf
      refine sY hf hs rfl rfl rfl (Y_assign rfl rfl) ?_; clear hf; intro a hf
      refine wpO_nil ?_
      refine wpL_nil (then_normal ?_)
      exact ⟨(!cN), Option.some.inj hj15, (FrD.pick (FrD.pick (FrD.pick hf.none hf rfl) hf rfl) hf rfl), hs⟩
  ·rintro a w ⟨b13, hr_, hf, hs⟩
   subst hr_
   try dsimp only at hm
   refine wpL_cond hf rfl (fun hb23 => ?_) (fun hb23 => ?_)
   ·have hm := bif_t hm hb23
    refine wpL_seq <| wpL_region ?_
    refine sY hf hs rfl rfl rfl (Y_assign rfl rfl) ?_; clear hf; intro a hf
    refine wpO_nil ?_
    obtain rfl := Option.some.inj hm
    refine wpL_ret (Qb_ret (ret_tmp rfl hf rfl ?_))
    exact ⟨_, rfl, rfl, hs.sel [] (by decide)⟩
   ·have hm := bif_f hm hb23
    refine wpL_seq ?_
    obtain ⟨r30, hj31, hm⟩ := bind_some hm
    refine wpL_cut (fun a w => ∃ b29 : Bool, b29 = r30 ∧ Fr a 44 [(34, .bool b29)] ∧ St [] W w []) ?_ ?_
    ·refine wpL_region ?_
     refine sY hf hs rfl rfl rfl (Y_load_blkS rfl rfl (i := 0) rfl ag52 ti52 rfl) ?_; clear hf; intro a hf
     obtain ⟨r32, hc33, hj31⟩ := bind_some hj31
     refine sCall hf rfl rfl rfl rfl (cap := []) rfl rfl en135 (impl_isLive_ok F ad ae ad.Places.length ah rfl _ _ hc33 (aA.at hs)) ?_; clear hf
     rintro _ w ⟨rfl, hs1⟩ a hf
     have hs : St _ W w [_, _] := hs.ext hs1.below
     clear hs1
     refine sY hf hs rfl rfl rfl (Y_not rfl rfl) ?_; clear hf; intro a hf
     refine sY hf hs rfl rfl rfl (Y_move rfl rfl) ?_; clear hf; intro a hf
     refine bsplit (!r32) (fun hb34 => ?_) (fun hb34 => ?_)
     ·have hj31 := bif_t hj31 hb34
      refine sNo hf rfl rfl rfl (congrArg (fun b => some (Value.bool b)) hb34) rfl rfl rfl ?_; clear hf; intro a hf
      refine sNo hf rfl rfl rfl (congrArg (fun b => some (Value.bool b)) hb34) rfl rfl rfl ?_; clear hf; intro a hf
      refine sNo hf rfl rfl rfl (congrArg (fun b => some (Value.bool b)) hb34) rfl rfl rfl ?_; clear hf; intro a hf
      refine sNo hf rfl rfl rfl (congrArg (fun b => some (Value.bool b)) hb34) rfl rfl rfl ?_; clear hf; intro a hf
      refine sY hf hs rfl rfl rfl (Y_pickT rfl (congrArg (fun b => some (Value.bool b)) hb34) rfl) ?_; clear hf; intro a hf
      refine sY hf hs rfl rfl rfl (Y_assign rfl rfl) ?_; clear hf; intro a hf
      refine wpO_nil ?_
      refine wpL_nil (then_normal ?_)
      exact ⟨true, Option.some.inj hj31, (FrD.pick hf.none hf rfl), hs.sel [] (by decide)⟩
     ·have hj31 := bif_f hj31 hb34
      refine sYg hf hs rfl rfl rfl (congrArg (fun b => some (Value.bool b)) hb34) rfl rfl rfl (Y_load_blkS rfl rfl (i := 0) rfl ag52 ti52 rfl) ?_; clear hf; intro a hf
      refine sYg hf hs rfl rfl rfl (congrArg (fun b => some (Value.bool b)) hb34) rfl rfl rfl (Y_load_blkS rfl rfl (i := 1) rfl ag54 ti54 rfl) ?_; clear hf; intro a hf
      obtain ⟨r35, hc36, hj31⟩ := bind_some hj31
      refine sCallg hf rfl rfl rfl (congrArg (fun b => some (Value.bool b)) hb34) rfl rfl rfl rfl (cap := []) rfl rfl en136 (impl_isKept_ok F ad ae ad.Places.length ah rfl am ao am.Starts.length ap rfl _ _ hc36 (aA.at hs) (aJ.at hs)) ?_; clear hf
      rintro _ w ⟨rfl, hs1⟩ a hf
      have hs : St _ W w [_, _] := hs.ext hs1.below
      clear hs1
      refine sYg hf hs rfl rfl rfl (congrArg (fun b => some (Value.bool b)) hb34) rfl rfl rfl (Y_not rfl rfl) ?_; clear hf; intro a hf
      refine sY hf hs rfl rfl rfl (Y_pickF rfl (congrArg (fun b => some (Value.bool b)) hb34) rfl) ?_; clear hf; intro a hf
      refine sY hf hs rfl rfl rfl (Y_assign rfl rfl) ?_; clear hf; intro a hf
      refine wpO_nil ?_
      refine wpL_nil (then_normal ?_)
      exact ⟨(!r35), Option.some.inj hj31, (FrD.pick hf.none hf rfl), hs.sel [] (by decide)⟩
    ·rintro a w ⟨b29, hr_, hf, hs⟩
     subst hr_
     try dsimp only at hm
     refine wpL_cond hf rfl (fun hb37 => ?_) (fun hb37 => ?_)
     ·have hm := bif_t hm hb37
      refine wpL_seq <| wpL_region ?_
      refine sY hf hs rfl rfl rfl (Y_assign rfl rfl) ?_; clear hf; intro a hf
      refine wpO_nil ?_
      obtain rfl := Option.some.inj hm
      refine wpL_ret (Qb_ret (ret_tmp rfl hf rfl ?_))
      exact ⟨_, rfl, rfl, hs⟩
     ·have hm := bif_f hm hb37
      refine wpL_skip ?_
      refine wpL_nil (Qb_normal ?_)
      refine wpL_seq <| wpL_region ?_
      refine sY hf hs rfl rfl rfl (Y_assign rfl rfl) ?_; clear hf; intro a hf
      refine wpO_nil ?_
      obtain rfl := Option.some.inj hm
      refine wpL_ret (ret_tmp rfl hf rfl ?_)
      exact ⟨_, rfl, rfl, hs⟩

set_option maxRecDepth 100000 in
theorem impl_FreeSlack_ok (F : Nat) (ad : GEventGraph) (ae : Option Addr) (az ah : Nat) (aC : az = ad.Places.length) (am : GTimetable) (ao : Option Addr) (aG ap : Nat) (aQ : aG = am.Starts.length) (aS : Int) (r : Int × Int) (W : World) (hm : impl_FreeSlack F ad am aS = some r) (aA : Rd W ae ((recs GPlace.cells) ad.Places)) (aJ : Rd W ao (ints am.Starts)) :
  Calls Try.prog 40 [.agg #[.int .i64 ad.Events, .slice ae az ah], .agg #[.int .i64 am.Period, .slice ao aG ap], .int .i64 aS].toArray W fun e w' => ∃ v, e = .returned v ∧ v = .tuple #[.int .i64 r.1, .int .i64 r.2] ∧ St [] W w' [] := by
 subst aC
 subst aQ
 unfold impl_FreeSlack at hm
 refine Calls.enter (N := 52) Try.func40 rfl rfl rfl (fun a hf => ?_)
 have hs := St.start W
 obtain ⟨w, hw_⟩ : ∃ w, w = W := ⟨W, rfl⟩
 clear hw_ w
 refine wpL_seq <| wpL_region ?_
 refine sBox hf hs rfl rfl rfl rfl rfl (cs := [.int .i64 ad.Events, .slice ae ad.Places.length ah]) rfl ?_; clear hf hs; intro a w b1 hs hf
 have hs : St _ W w [_] := hs
 refine sBox hf hs rfl rfl rfl rfl rfl (cs := [.int .i64 am.Period, .slice ao am.Starts.length ap]) rfl ?_; clear hf hs; intro a w b2 hs hf
 have hs : St _ W w [_, _] := hs
 refine sY hf hs rfl rfl rfl (Y_assign rfl rfl) ?_; clear hf; intro a hf
 refine sY hf hs rfl rfl rfl (Y_assign rfl rfl) ?_; clear hf; intro a hf
 refine wpO_nil <| wpL_seq <| wpL_region ?_
 refine sY hf hs rfl rfl rfl (Y_fieldAddr rfl rfl fo52_0) ?_; clear hf; intro a hf
 refine sY hf hs rfl rfl rfl (Y_load_blk rfl rfl (i := 0) rfl rfl ag2) ?_; clear hf; intro a hf
 refine sY hf hs rfl rfl rfl (Y_min rfl rfl rfl) ?_; clear hf; intro a hf
 refine sY hf hs rfl rfl rfl (Y_max rfl rfl rfl) ?_; clear hf; intro a hf
 obtain ⟨xs5, hk4, hm⟩ := bind_some hm
 refine sMakeL (enc := ints) hf hs rfl rfl rfl rfl rfl hk4 el23 ti2 rfl ints_made ?_; clear hf hs; intro a w A3 hs hf
 have hs : St _ W w [_, _, .row A3 xs5.length xs5.length 2 1 (ints xs5)] := hs
 refine sY hf hs rfl rfl rfl (Y_assign rfl rfl) ?_; clear hf; intro a hf
 refine wpO_nil <| wpL_seq <| wpL_seq ?_
 refine wpL_draw (by kernel_rfl) (by kernel_rfl) hs ?_
 refine qY hf rfl rfl rfl (Y_load_blkS rfl rfl (i := 0) rfl ag52 ti52 rfl) ?_; clear hf; intro a hf
 refine qY hf rfl rfl rfl (Y_load_blkS rfl rfl (i := 1) rfl ag54 ti54 rfl) ?_; clear hf; intro a hf
 refine qY hf rfl rfl rfl (Y_move rfl rfl) ?_; clear hf; intro a hf
 refine qY hf rfl rfl rfl (Y_move rfl rfl) ?_; clear hf; intro a hf
 refine qY hf rfl rfl rfl (Y_move rfl rfl) ?_; clear hf; intro a hf
 refine qY hf rfl rfl rfl (Y_lenH rfl rfl el23 rfl) ?_; clear hf; intro a hf
 refine qY hf rfl rfl rfl (Y_sub rfl rfl rfl) ?_; clear hf; intro a hf
 obtain ⟨r6, hc7, hm⟩ := bind_some hm
 refine qCall hf rfl rfl rfl rfl (cap := []) rfl rfl en85 (v := .bool r6) (fun w hs => Calls.scal (impl_within_ok F aS 0 (IntKind.i64.wrap ((xs5.length : Int) - 1)) _ _ hc7)) ?_; clear hf; intro a hf
 obtain ⟨r8, hc9, hm⟩ := bind_some hm
 refine qCall hf rfl rfl rfl rfl (cap := []) rfl rfl en77 (v := .int .i64 r8) (fun w hs => Calls.scal (impl_checkDelays_ok F ad ae ad.Places.length ah rfl am ao am.Starts.length ap rfl xs5 A3 xs5.length xs5.length rfl r6 _ _ hc9 (aA.at hs) (aJ.at hs) (hs.rd (i := 2) rfl))) ?_; clear hf; intro a hf
 refine qY hf rfl rfl rfl (Y_assign rfl rfl) ?_; clear hf; intro a hf
 refine qNil ?_; clear hs; intro w hs
 refine wpL_seq <| wpL_region ?_
 refine sY hf hs rfl rfl rfl (Y_move rfl rfl) ?_; clear hf; intro a hf
 refine sY hf hs rfl rfl rfl (Y_neq rfl rfl rfl) ?_; clear hf; intro a hf
 refine wpO_nil ?_
 refine wpL_cond hf rfl (fun hb10 => ?_) (fun hb10 => ?_)
 ·have hm := bif_t hm hb10
  refine wpL_seq <| wpL_region ?_
  refine sY hf hs rfl rfl rfl (Y_move rfl rfl) ?_; clear hf; intro a hf
  refine sY hf hs rfl rfl rfl (Y_assign rfl rfl) ?_; clear hf; intro a hf
  refine sY hf hs rfl rfl rfl (Y_assign rfl rfl) ?_; clear hf; intro a hf
  refine wpO_nil ?_
  obtain rfl := Option.some.inj hm
  refine wpL_ret (ret_tmp2 rfl hf rfl rfl ?_)
  exact ⟨_, rfl, rfl, hs.sel [] (by decide)⟩
 ·have hm := bif_f hm hb10
  refine wpL_skip <| wpL_seq <| wpL_region ?_
  refine sY hf hs rfl rfl rfl (Y_assign rfl rfl) ?_; clear hf; intro a hf
  refine wpO_nil <| wpL_seq <| wpL_seq <| wpL_region ?_
  refine sY hf hs rfl rfl rfl (Y_load_blkS rfl rfl (i := 0) rfl ag52 ti52 rfl) ?_; clear hf; intro a hf
  refine sY hf hs rfl rfl rfl (Y_load_blkS rfl rfl (i := 1) rfl ag54 ti54 rfl) ?_; clear hf; intro a hf
  obtain ⟨r11, hc12, hm⟩ := bind_some hm
  refine sCall hf rfl rfl rfl rfl (cap := []) rfl rfl en87 (impl_slacksOf_ok F ad ae ad.Places.length ah rfl am ao am.Starts.length ap rfl _ _ hc12 (aA.at hs) (aJ.at hs)) ?_; clear hf
  rintro _ w ⟨A13, n14, c15, rfl, hn16, hs1⟩ a hf
  have hs : St _ W w [_, _, _, .row A13 n14 c15 2 1 (ints r11)] := hs.join hs1
  clear hs1
  refine sY hf hs rfl rfl rfl (Y_lenH rfl rfl el23 hn16) ?_; clear hf; intro a hf
  refine sY hf hs rfl rfl rfl (Y_move rfl rfl) ?_; clear hf; intro a hf
  refine wpO_nil ?_
  obtain ⟨r40, hl41, hm⟩ := bind_some hm
  refine wpL_block (fun a w => ∃ x39 : Int, x39 = r40 ∧ Fr a 52 [(10, .int .i64 x39)] ∧ St [] W w []) ?_ ?_
  ·refine wpL_loop (fun n a w => ∃ x31 : Int, ∃ x32 : Int, impl_FreeSlack_L1 F ad aS r11 n x31 x32 = some r40 ∧ Fr a 52 [(2, .int .i64 aS), (3, .pointer (some ⟨b1, 0, none⟩)), (10, .int .i64 x31), (32, .slice A13 n14 c15), (33, .int .i64 (r11.length : Int)), (34, .int .i64 x32)] ∧ St [] W w [.blk b1 52 [.int .i64 ad.Events, .slice ae ad.Places.length ah], .row A13 n14 c15 2 1 (ints r11)]) F ?_ ?_ ?_
   ·exact ⟨1000000, 0, hl41, (FrD.pick (FrD.pick (FrD.pick (FrD.pick (FrD.pick (FrD.pick hf.none hf rfl) hf rfl) hf rfl) hf rfl) hf rfl) hf rfl), hs.sel [0, 3] (by decide)⟩
   ·rintro a w ⟨x31, x32, h0_, -, -⟩; simp [impl_FreeSlack_L1] at h0_
   ·rintro n43 a w ⟨x31, x32, hm42, hf, hs⟩
    rw [impl_FreeSlack_L1] at hm42
    refine wpL_seq <| wpL_region ?_
    refine sY hf hs rfl rfl rfl (Y_lss rfl rfl rfl) ?_; clear hf; intro a hf
    refine wpO_nil <| wpL_seq ?_
    refine wpL_cond hf rfl (fun hb44 => ?_) (fun hb44 => ?_)
    ·have hm42 := bif_t hm42 hb44
     refine wpL_skip <| wpL_seq <| wpL_block0 <| wpL_seq <| wpL_region ?_
     refine sY hf hs rfl rfl rfl (Y_move rfl rfl) ?_; clear hf; intro a hf
     obtain ⟨q45, hi46, hm42⟩ := bind_some hm42
     obtain ⟨hi46a, hi46b, hi46q⟩ := idx_some hi46
     refine sY hf hs rfl rfl rfl (Y_index rfl rfl rfl el23 ti2 (Rd.isAt (hs.rd (i := 1) rfl) (at1 (ints_at hi46q))) hi46a (ltn hn16 hi46b)) ?_; clear hf; intro a hf
     refine sY hf hs rfl rfl rfl (Y_load_rd rfl rfl (fun w hs => hs.rd (i := 1) rfl) (at1 (ints_at hi46q)) ag2) ?_; clear hf; intro a hf
     refine sY hf hs rfl rfl rfl (Y_assign rfl rfl) ?_; clear hf; intro a hf
     refine sY hf hs rfl rfl rfl (Y_assign rfl rfl) ?_; clear hf; intro a hf
     refine wpO_nil <| wpL_seq <| wpL_region ?_
     refine sY hf hs rfl rfl rfl (Y_fieldAddr rfl rfl fo52_1) ?_; clear hf; intro a hf
     refine sY hf hs rfl rfl rfl (Y_load_blk rfl rfl (i := 0) rfl rfl ag50) ?_; clear hf; intro a hf
     refine sY hf hs rfl rfl rfl (Y_move rfl rfl) ?_; clear hf; intro a hf
     obtain ⟨q47, hi48, hm42⟩ := bind_some hm42
     obtain ⟨hi48a, hi48b, hi48q⟩ := idx_some hi48
     refine sY hf hs rfl rfl rfl (Y_index rfl rfl rfl el50 ti112 (Rd.isAt (aA.at hs) (recs_at (s := 4) GPlace.len hi48q (j := 0) rfl)) hi48a hi48b) ?_; clear hf; intro a hf
     refine sY hf hs rfl rfl rfl (Y_fieldAddrE rfl rfl fo112_0) ?_; clear hf; intro a hf
     refine sY hf hs rfl rfl rfl (Y_load_rd rfl rfl (fun w hs => aA.at hs) (recs_at (s := 4) GPlace.len hi48q (j := 0) rfl) ag2) ?_; clear hf; intro a hf
     refine sY hf hs rfl rfl rfl (Y_move rfl rfl) ?_; clear hf; intro a hf
     refine sY hf hs rfl rfl rfl (Y_eql rfl rfl rfl) ?_; clear hf; intro a hf
     refine wpO_nil ?_
     refine wpL_cond hf rfl (fun hb49 => ?_) (fun hb49 => ?_)
     ·have hm42 := bif_t hm42 hb49
      refine wpL_region ?_
      refine sY hf hs rfl rfl rfl (Y_move rfl rfl) ?_; clear hf; intro a hf
      refine sY hf hs rfl rfl rfl (Y_move rfl rfl) ?_; clear hf; intro a hf
      refine sY hf hs rfl rfl rfl (Y_min rfl rfl rfl) ?_; clear hf; intro a hf
      refine sY hf hs rfl rfl rfl (Y_assign rfl rfl) ?_; clear hf; intro a hf
      refine wpO_nil ?_
      refine wpL_nil (Qb_normal ?_)
      refine wpL_region ?_
      refine sY hf hs rfl rfl rfl (Y_add rfl rfl rfl) ?_; clear hf; intro a hf
      refine sY hf hs rfl rfl rfl (Y_move rfl rfl) ?_; clear hf; intro a hf
      refine wpO_nil ?_
      refine wpL_nil (Ql_normal ?_)
      exact ⟨(min x31 q45), (IntKind.i64.wrap (x32 + 1)), hm42, (FrD.pick (FrD.pick (FrD.pick (FrD.pick (FrD.pick (FrD.pick hf.none hf rfl) hf rfl) hf rfl) hf rfl) hf rfl) hf rfl), hs⟩
     ·have hm42 := bif_f hm42 hb49
      refine wpL_skip ?_
      refine wpL_nil (Qb_normal ?_)
      refine wpL_region ?_
      refine sY hf hs rfl rfl rfl (Y_add rfl rfl rfl) ?_; clear hf; intro a hf
      refine sY hf hs rfl rfl rfl (Y_move rfl rfl) ?_; clear hf; intro a hf
      refine wpO_nil ?_
      refine wpL_nil (Ql_normal ?_)
      exact ⟨x31, (IntKind.i64.wrap (x32 + 1)), hm42, (FrD.pick (FrD.pick (FrD.pick (FrD.pick (FrD.pick (FrD.pick hf.none hf rfl) hf rfl) hf rfl) hf rfl) hf rfl) hf rfl), hs⟩
    ·have hm42 := bif_f hm42 hb44
     refine wpL_exit (Ql_exit (Qb_exit ?_))
     exact ⟨x31, Option.some.inj hm42, (FrD.pick hf.none hf rfl), hs.sel [] (by decide)⟩
  ·rintro a w ⟨x39, hr_, hf, hs⟩
   subst hr_
   try dsimp only at hm
   refine wpL_seq <| wpL_region ?_
   refine sY hf hs rfl rfl rfl (Y_move rfl rfl) ?_; clear hf; intro a hf
   refine sY hf hs rfl rfl rfl (Y_assign rfl rfl) ?_; clear hf; intro a hf
   refine sY hf hs rfl rfl rfl (Y_assign rfl rfl) ?_; clear hf; intro a hf
   refine wpO_nil ?_
   obtain rfl := Option.some.inj hm
   refine wpL_ret (ret_tmp2 rfl hf rfl rfl ?_)
   exact ⟨_, rfl, rfl, hs⟩

set_option maxRecDepth 100000 in
theorem spec_l21One_ok (F : Nat) (ad : GEventGraph) (ae : Option Addr) (az ah : Nat) (aC : az = ad.Places.length) (cf : Int) (cH : Int) (r : List Int) (W : World) (hm : spec_l21One F ad cf cH = some r) (_h_p0_g_1 : Rd W ae ((recs GPlace.cells) ad.Places)) :
  Calls Try.prog 88 [.agg #[.int .i64 ad.Events, .slice ae az ah], .int .i64 cf, .int .i64 cH].toArray W fun e w' => ∃ v, e = .returned v ∧ ∃ A21, ∃ n22, ∃ c23, v = .slice A21 n22 c23 ∧ n22 = r.length ∧ St [] W w' [.row A21 n22 c23 2 1 (ints r)] := by
 subst aC
 unfold spec_l21One at hm
 refine Calls.enter (N := 23) Try.func88 rfl rfl rfl (fun a hf => ?_)
 have hs := St.start W
 obtain ⟨w, hw_⟩ : ∃ w, w = W := ⟨W, rfl⟩
 clear hw_ w
 refine wpL_seq <| wpL_region ?_
 refine sBox hf hs rfl rfl rfl rfl rfl (cs := [.int .i64 ad.Events, .slice ae ad.Places.length ah]) rfl ?_; clear hf hs; intro a w b1 hs hf
 have hs : St _ W w [_] := hs
 refine sY hf hs rfl rfl rfl (Y_assign rfl rfl) ?_; clear hf; intro a hf
 refine wpO_nil <| wpL_seq <| wpL_region ?_
 refine sY hf hs rfl rfl rfl (Y_fieldAddr rfl rfl fo52_0) ?_; clear hf; intro a hf
 refine sY hf hs rfl rfl rfl (Y_load_blk rfl rfl (i := 0) rfl rfl ag2) ?_; clear hf; intro a hf
 refine sY hf hs rfl rfl rfl (Y_min rfl rfl rfl) ?_; clear hf; intro a hf
 refine sY hf hs rfl rfl rfl (Y_max rfl rfl rfl) ?_; clear hf; intro a hf
 obtain ⟨xs4, hk3, hm⟩ := bind_some hm
 refine sMakeL (enc := ints) hf hs rfl rfl rfl rfl rfl hk3 el23 ti2 rfl ints_made ?_; clear hf hs; intro a w A2 hs hf
 have hs : St _ W w [_, .row A2 xs4.length xs4.length 2 1 (ints xs4)] := hs
 refine sY hf hs rfl rfl rfl (Y_assign rfl rfl) ?_; clear hf; intro a hf
 refine wpO_nil <| wpL_seq <| wpL_seq <| wpL_region ?_
 refine sY hf hs rfl rfl rfl (Y_move rfl rfl) ?_; clear hf; intro a hf
 refine sY hf hs rfl rfl rfl (Y_move rfl rfl) ?_; clear hf; intro a hf
 refine sY hf hs rfl rfl rfl (Y_lenH rfl rfl el23 rfl) ?_; clear hf; intro a hf
 refine sY hf hs rfl rfl rfl (Y_sub rfl rfl rfl) ?_; clear hf; intro a hf
 obtain ⟨r5, hc6, hm⟩ := bind_some hm
 refine sCall hf rfl rfl rfl rfl (cap := []) rfl rfl en89 (spec_l01In_ok F cf 0 (IntKind.i64.wrap ((xs4.length : Int) - 1)) _ _ hc6) ?_; clear hf
 rintro _ w ⟨rfl, hs1⟩ a hf
 have hs : St _ W w [_, _] := hs.ext hs1.below
 clear hs1
 refine wpO_nil ?_
 obtain ⟨r14, hj15, hm⟩ := bind_some hm
 refine wpL_cut (fun a w => ∃ xs12 : List Int, xs12 = r14 ∧ xs4.length = xs12.length ∧ Fr a 23 [(7, .slice A2 xs4.length xs4.length)] ∧ St [] W w [.row A2 xs4.length xs4.length 2 1 (ints xs12)]) ?_ ?_
 ·refine wpL_cond hf rfl (fun hb16 => ?_) (fun hb16 => ?_)
  ·have hj15 := bif_t hj15 hb16
   refine wpL_region ?_
   refine sY hf hs rfl rfl rfl (Y_move rfl rfl) ?_; clear hf; intro a hf
   refine sY hf hs rfl rfl rfl (Y_move rfl rfl) ?_; clear hf; intro a hf
   refine sY hf hs rfl rfl rfl (Y_move rfl rfl) ?_; clear hf; intro a hf
   obtain ⟨q17, hi18, hj15⟩ := bind_some hj15
   obtain ⟨hi18a, hi18b, hi18q⟩ := idx_some hi18
   refine sY hf hs rfl rfl rfl (Y_index rfl rfl rfl el23 ti2 (Rd.isAt (hs.rd (i := 1) rfl) (at1 (ints_at hi18q))) hi18a hi18b) ?_; clear hf; intro a hf
   obtain ⟨xs19, hu20, hj15⟩ := bind_some hj15
   refine sStoreL (i := 1) (us := [.int .i64 cH]) (enc := ints) hf hs rfl rfl rfl rfl rfl rfl rfl hu20 ti2 rfl rfl rfl rfl rfl ints_len1 (ints_set cH) ?_; clear hs; intro w hs
   have hs : St _ W w [_, .row A2 xs4.length xs4.length 2 1 (ints xs19)] := hs
   refine wpO_nil ?_
   refine wpL_nil (then_normal ?_)
   exact ⟨xs19, Option.some.inj hj15, (upd_len hu20).symm, (FrD.pick hf.none hf rfl), hs.sel [1] (by decide)⟩
  ·have hj15 := bif_f hj15 hb16
   refine wpL_skip ?_
   refine wpL_nil (then_normal ?_)
   exact ⟨xs4, Option.some.inj hj15, rfl, (FrD.pick hf.none hf rfl), hs.sel [1] (by decide)⟩
 ·rintro a w ⟨xs12, hr_, hn13, hf, hs⟩
  subst hr_
  try dsimp only at hm
  refine wpL_seq <| wpL_region ?_
  refine sY hf hs rfl rfl rfl (Y_move rfl rfl) ?_; clear hf; intro a hf
  refine sY hf hs rfl rfl rfl (Y_assign rfl rfl) ?_; clear hf; intro a hf
  refine wpO_nil ?_
  obtain rfl := Option.some.inj hm
  refine wpL_ret (ret_tmp rfl hf rfl ?_)
  exact ⟨_, rfl, A2, xs4.length, xs4.length, rfl, hn13, hs⟩

set_option maxRecDepth 100000 in
theorem spec_l01Within_ok (F : Nat) (aN : List Int) (aL : Option Addr) (aT aU : Nat) (bl : aT = aN.length) (cA : Int) (cv : Int) (cq : Int) (r : Bool) (W : World) (hm : spec_l01Within F aN cA cv cq = some r) (bb : Rd W aL (ints aN)) :
  Calls Try.prog 138 [.slice aL aT aU, .int .i64 cA, .int .i64 cv, .int .i64 cq].toArray W fun e w' => ∃ v, e = .returned v ∧ v = .bool r ∧ St [] W w' [] := by
 subst bl
 unfold spec_l01Within at hm
 refine Calls.enter (N := 28) Try.func138 rfl rfl rfl (fun a hf => ?_)
 have hs := St.start W
 obtain ⟨w, hw_⟩ : ∃ w, w = W := ⟨W, rfl⟩
 clear hw_ w
 refine wpL_seq <| wpL_region ?_
 refine sY hf hs rfl rfl rfl (Y_assign rfl rfl) ?_; clear hf; intro a hf
 refine wpO_nil <| wpL_seq <| wpL_seq <| wpL_region ?_
 refine sY hf hs rfl rfl rfl (Y_assign rfl rfl) ?_; clear hf; intro a hf
 refine wpO_nil ?_
 obtain ⟨r21, hl22, hm⟩ := bind_some hm
 refine wpL_block (fun a w => Sum.inr () = r21 ∧ Fr a 28 [(0, .slice aL aN.length aU), (1, .int .i64 cA)] ∧ St [] W w []) ?_ ?_
 ·refine wpL_loop (fun n a w => ∃ x14 : Int, spec_l01Within_L1 F aN cv cq n x14 = some r21 ∧ Fr a 28 [(0, .slice aL aN.length aU), (1, .int .i64 cA), (2, .int .i64 cv), (3, .int .i64 cq), (9, .int .i64 x14)] ∧ St [] W w []) F ?_ ?_ ?_
  ·exact ⟨0, hl22, (FrD.pick (FrD.pick (FrD.pick (FrD.pick (FrD.pick hf.none hf rfl) hf rfl) hf rfl) hf rfl) hf rfl), hs⟩
  ·rintro a w ⟨x14, h0_, -, -⟩; simp [spec_l01Within_L1] at h0_
  ·rintro n24 a w ⟨x14, hm23, hf, hs⟩
   rw [spec_l01Within_L1] at hm23
   refine wpL_seq <| wpL_seq <| wpL_region ?_
   refine sY hf hs rfl rfl rfl (Y_move rfl rfl) ?_; clear hf; intro a hf
   refine sY hf hs rfl rfl rfl (Y_move rfl rfl) ?_; clear hf; intro a hf
   refine sY hf hs rfl rfl rfl (Y_lenH rfl rfl el23 rfl) ?_; clear hf; intro a hf
   refine sY hf hs rfl rfl rfl (Y_lss rfl rfl rfl) ?_; clear hf; intro a hf
   refine wpO_nil ?_
   refine wpL_cond hf rfl (fun hb25 => ?_) (fun hb25 => ?_)
   ·have hm23 := bif_t hm23 hb25
    refine wpL_skip <| wpL_seq <| wpL_block0 <| wpL_seq <| wpL_region ?_
    refine sY hf hs rfl rfl rfl (Y_move rfl rfl) ?_; clear hf; intro a hf
    refine sY hf hs rfl rfl rfl (Y_move rfl rfl) ?_; clear hf; intro a hf
    obtain ⟨q26, hi27, hm23⟩ := bind_some hm23
    obtain ⟨hi27a, hi27b, hi27q⟩ := idx_some hi27
    refine sY hf hs rfl rfl rfl (Y_index rfl rfl rfl el23 ti2 (Rd.isAt (bb.at hs) (at1 (ints_at hi27q))) hi27a hi27b) ?_; clear hf; intro a hf
    refine sY hf hs rfl rfl rfl (Y_load_rd rfl rfl (fun w hs => bb.at hs) (at1 (ints_at hi27q)) ag2) ?_; clear hf; intro a hf
    refine sY hf hs rfl rfl rfl (Y_move rfl rfl) ?_; clear hf; intro a hf
    refine sY hf hs rfl rfl rfl (Y_move rfl rfl) ?_; clear hf; intro a hf
    obtain ⟨r28, hc29, hm23⟩ := bind_some hm23
    refine sCall hf rfl rfl rfl rfl (cap := []) rfl rfl en89 (spec_l01In_ok F q26 cv cq _ _ hc29) ?_; clear hf
    rintro _ w ⟨rfl, hs1⟩ a hf
    have hs : St _ W w [] := hs.ext hs1.below
    clear hs1
    refine sY hf hs rfl rfl rfl (Y_not rfl rfl) ?_; clear hf; intro a hf
    refine wpO_nil ?_
    refine wpL_cond hf rfl (fun hb30 => ?_) (fun hb30 => ?_)
    ·have hm23 := bif_t hm23 hb30
     refine wpL_seq <| wpL_region ?_
     refine sY hf hs rfl rfl rfl (Y_assign rfl rfl) ?_; clear hf; intro a hf
     refine wpO_nil ?_
     obtain rfl := Option.some.inj hm23
     try dsimp only at hm
     obtain rfl := Option.some.inj hm
     refine wpL_ret (Qb_ret (Ql_ret (Qb_ret (ret_tmp rfl hf rfl ?_))))
     exact ⟨_, rfl, rfl, hs⟩
    ·have hm23 := bif_f hm23 hb30
     refine wpL_skip ?_
     refine wpL_nil (Qb_normal ?_)
     refine wpL_region ?_
     refine sY hf hs rfl rfl rfl (Y_move rfl rfl) ?_; clear hf; intro a hf
     refine sY hf hs rfl rfl rfl (Y_add rfl rfl rfl) ?_; clear hf; intro a hf
     refine sY hf hs rfl rfl rfl (Y_assign rfl rfl) ?_; clear hf; intro a hf
     refine wpO_nil ?_
     refine wpL_nil (Ql_normal ?_)
     exact ⟨(IntKind.i64.wrap (x14 + 1)), hm23, (FrD.pick (FrD.pick (FrD.pick (FrD.pick (FrD.pick hf.none hf rfl) hf rfl) hf rfl) hf rfl) hf rfl), hs⟩
   ·have hm23 := bif_f hm23 hb25
    refine wpL_exit (Ql_exit (Qb_exit ?_))
    exact ⟨Option.some.inj hm23, (FrD.pick (FrD.pick hf.none hf rfl) hf rfl), hs⟩
 ·rintro a w ⟨hr_, hf, hs⟩
  subst hr_
  try dsimp only at hm
  refine wpL_seq <| wpL_region ?_
  refine sY hf hs rfl rfl rfl (Y_move rfl rfl) ?_; clear hf; intro a hf
  refine sY hf hs rfl rfl rfl (Y_lenH rfl rfl el23 rfl) ?_; clear hf; intro a hf
  refine sY hf hs rfl rfl rfl (Y_move rfl rfl) ?_; clear hf; intro a hf
  refine sY hf hs rfl rfl rfl (Y_leq rfl rfl rfl) ?_; clear hf; intro a hf
  refine sY hf hs rfl rfl rfl (Y_assign rfl rfl) ?_; clear hf; intro a hf
  refine wpO_nil ?_
  obtain rfl := Option.some.inj hm
  refine wpL_ret (ret_tmp rfl hf rfl ?_)
  exact ⟨_, rfl, rfl, hs⟩

set_option maxRecDepth 100000 in
theorem spec_IsTimetable_ok (F : Nat) (ad : GEventGraph) (ae : Option Addr) (az ah : Nat) (aC : az = ad.Places.length) (am : GTimetable) (ao : Option Addr) (aG ap : Nat) (aQ : aG = am.Starts.length) (r : Bool) (W : World) (hm : spec_IsTimetable F ad am = some r) (aA : Rd W ae ((recs GPlace.cells) ad.Places)) (aJ : Rd W ao (ints am.Starts)) :
  Calls Try.prog 179 [.agg #[.int .i64 ad.Events, .slice ae az ah], .agg #[.int .i64 am.Period, .slice ao aG ap]].toArray W fun e w' => ∃ v, e = .returned v ∧ v = .bool r ∧ St [] W w' [] := by
 subst aC
 subst aQ
 unfold spec_IsTimetable at hm
 refine Calls.enter (N := 25) Try.func179 rfl rfl rfl (fun a hf => ?_)
 have hs := St.start W
 obtain ⟨w, hw_⟩ : ∃ w, w = W := ⟨W, rfl⟩
 clear hw_ w
 refine wpL_seq <| wpL_region ?_
 refine sBox hf hs rfl rfl rfl rfl rfl (cs := [.int .i64 ad.Events, .slice ae ad.Places.length ah]) rfl ?_; clear hf hs; intro a w b1 hs hf
 have hs : St _ W w [_] := hs
 refine sBox hf hs rfl rfl rfl rfl rfl (cs := [.int .i64 am.Period, .slice ao am.Starts.length ap]) rfl ?_; clear hf hs; intro a w b2 hs hf
 have hs : St _ W w [_, .blk b2 54 [.int .i64 am.Period, .slice ao am.Starts.length ap]] := hs
 refine sY hf hs rfl rfl rfl (Y_assign rfl rfl) ?_; clear hf; intro a hf
 refine wpO_nil <| wpL_seq ?_
 obtain ⟨r13, hj14, hm⟩ := bind_some hm
 refine wpL_cut (fun a w => ∃ b12 : Bool, b12 = r13 ∧ Fr a 25 [(4, .bool b12)] ∧ St [] W w []) ?_ ?_
 ·refine wpL_region ?_
  refine sY hf hs rfl rfl rfl (Y_load_blkS rfl rfl (i := 0) rfl ag52 ti52 rfl) ?_; clear hf; intro a hf
  obtain ⟨r15, hc16, hj14⟩ := bind_some hj14
  refine sCall hf rfl rfl rfl rfl (cap := []) rfl rfl en178 (spec_IsEventGraph_ok F ad ae ad.Places.length ah rfl _ _ hc16 (aA.at hs)) ?_; clear hf
  rintro _ w ⟨rfl, hs1⟩ a hf
  have hs : St _ W w [_, _] := hs.ext hs1.below
  clear hs1
  refine sY hf hs rfl rfl rfl (Y_move rfl rfl) ?_; clear hf; intro a hf
  refine bsplit r15 (fun hb17 => ?_) (fun hb17 => ?_)
  ·have hj14 := bif_t hj14 hb17
   refine sYg hf hs rfl rfl rfl (congrArg (fun b => some (Value.bool b)) hb17) rfl rfl rfl (Y_fieldAddr rfl rfl fo54_0) ?_; clear hf; intro a hf
   refine sYg hf hs rfl rfl rfl (congrArg (fun b => some (Value.bool b)) hb17) rfl rfl rfl (Y_load_blk rfl rfl (i := 1) rfl rfl ag2) ?_; clear hf; intro a hf
   obtain ⟨r18, hc19, hj14⟩ := bind_some hj14
   refine sCallg hf rfl rfl rfl (congrArg (fun b => some (Value.bool b)) hb17) rfl rfl rfl rfl (cap := []) rfl rfl en89 (spec_l01In_ok F am.Period 0 100000 _ _ hc19) ?_; clear hf
   rintro _ w ⟨rfl, hs1⟩ a hf
   have hs : St _ W w [_, _] := hs.ext hs1.below
   clear hs1
   refine sY hf hs rfl rfl rfl (Y_pickT rfl (congrArg (fun b => some (Value.bool b)) hb17) rfl) ?_; clear hf; intro a hf
   refine sY hf hs rfl rfl rfl (Y_move rfl rfl) ?_; clear hf; intro a hf
   refine bsplit r18 (fun hb20 => ?_) (fun hb20 => ?_)
   ·have hj14 := bif_t hj14 hb20
    refine sYg hf hs rfl rfl rfl (congrArg (fun b => some (Value.bool b)) hb20) rfl rfl rfl (Y_fieldAddr rfl rfl fo54_1) ?_; clear hf; intro a hf
    refine sYg hf hs rfl rfl rfl (congrArg (fun b => some (Value.bool b)) hb20) rfl rfl rfl (Y_load_blk rfl rfl (i := 1) rfl rfl ag23) ?_; clear hf; intro a hf
    refine sYg hf hs rfl rfl rfl (congrArg (fun b => some (Value.bool b)) hb20) rfl rfl rfl (Y_lenH rfl rfl el23 rfl) ?_; clear hf; intro a hf
    refine sYg hf hs rfl rfl rfl (congrArg (fun b => some (Value.bool b)) hb20) rfl rfl rfl (Y_fieldAddr rfl rfl fo52_0) ?_; clear hf; intro a hf
    refine sYg hf hs rfl rfl rfl (congrArg (fun b => some (Value.bool b)) hb20) rfl rfl rfl (Y_load_blk rfl rfl (i := 0) rfl rfl ag2) ?_; clear hf; intro a hf
    refine sYg hf hs rfl rfl rfl (congrArg (fun b => some (Value.bool b)) hb20) rfl rfl rfl (Y_eql rfl rfl rfl) ?_; clear hf; intro a hf
    refine sY hf hs rfl rfl rfl (Y_pickT rfl (congrArg (fun b => some (Value.bool b)) hb20) rfl) ?_; clear hf; intro a hf
    refine sY hf hs rfl rfl rfl (Y_move rfl rfl) ?_; clear hf; intro a hf
    refine bsplit ((am.Starts.length : Int) == ad.Events) (fun hb21 => ?_) (fun hb21 => ?_)
    ·have hj14 := bif_t hj14 hb21
     refine sYg hf hs rfl rfl rfl (congrArg (fun b => some (Value.bool b)) hb21) rfl rfl rfl (Y_fieldAddr rfl rfl fo54_1) ?_; clear hf; intro a hf
     refine sYg hf hs rfl rfl rfl (congrArg (fun b => some (Value.bool b)) hb21) rfl rfl rfl (Y_load_blk rfl rfl (i := 1) rfl rfl ag23) ?_; clear hf; intro a hf
     obtain ⟨r22, hc23, hj14⟩ := bind_some hj14
     refine sCallg hf rfl rfl rfl (congrArg (fun b => some (Value.bool b)) hb21) rfl rfl rfl rfl (cap := []) rfl rfl en138 (spec_l01Within_ok F am.Starts ao am.Starts.length ap rfl 10 0 1000000 _ _ hc23 (aJ.at hs)) ?_; clear hf
     rintro _ w ⟨rfl, hs1⟩ a hf
     have hs : St _ W w [_, _] := hs.ext hs1.below
     clear hs1
     refine sY hf hs rfl rfl rfl (Y_pickT rfl (congrArg (fun b => some (Value.bool b)) hb21) rfl) ?_; clear hf; intro a hf
     refine sY hf hs rfl rfl rfl (Y_assign rfl rfl) ?_; clear hf; intro a hf
     refine wpO_nil ?_
     refine wpL_nil (then_normal ?_)
     exact ⟨r22, Option.some.inj hj14, (FrD.pick hf.none hf rfl), hs.sel [] (by decide)⟩
    ·have hj14 := bif_f hj14 hb21
     refine sNo hf rfl rfl rfl (congrArg (fun b => some (Value.bool b)) hb21) rfl rfl rfl ?_; clear hf; intro a hf
     refine sNo hf rfl rfl rfl (congrArg (fun b => some (Value.bool b)) hb21) rfl rfl rfl ?_; clear hf; intro a hf
     refine sNo hf rfl rfl rfl (congrArg (fun b => some (Value.bool b)) hb21) rfl rfl rfl ?_; clear hf; intro a hf
     refine sY hf hs rfl rfl rfl (Y_pickF rfl (congrArg (fun b => some (Value.bool b)) hb21) rfl) ?_; clear hf; intro a hf
     refine sY hf hs rfl rfl rfl (Y_assign rfl rfl) ?_; clear hf; intro a hf
     refine wpO_nil ?_
     refine wpL_nil (then_normal ?_)
     exact ⟨false, Option.some.inj hj14, (FrD.pick hf.none hf rfl), hs.sel [] (by decide)⟩
   ·have hj14 := bif_f hj14 hb20
    refine sNo hf rfl rfl rfl (congrArg (fun b => some (Value.bool b)) hb20) rfl rfl rfl ?_; clear hf; intro a hf
    refine sNo hf rfl rfl rfl (congrArg (fun b => some (Value.bool b)) hb20) rfl rfl rfl ?_; clear hf; intro a hf
    refine sNo hf rfl rfl rfl (congrArg (fun b => some (Value.bool b)) hb20) rfl rfl rfl ?_; clear hf; intro a hf
    refine sNo hf rfl rfl rfl (congrArg (fun b => some (Value.bool b)) hb20) rfl rfl rfl ?_; clear hf; intro a hf
    refine sNo hf rfl rfl rfl (congrArg (fun b => some (Value.bool b)) hb20) rfl rfl rfl ?_; clear hf; intro a hf
    refine sNo hf rfl rfl rfl (congrArg (fun b => some (Value.bool b)) hb20) rfl rfl rfl ?_; clear hf; intro a hf
    refine sY hf hs rfl rfl rfl (Y_pickF rfl (congrArg (fun b => some (Value.bool b)) hb20) rfl) ?_; clear hf; intro a hf
    refine sY hf hs rfl rfl rfl (Y_move rfl rfl) ?_; clear hf; intro a hf
    refine sNo hf rfl rfl rfl rfl rfl rfl rfl ?_; clear hf; intro a hf
    refine sNo hf rfl rfl rfl rfl rfl rfl rfl ?_; clear hf; intro a hf
    refine sNo hf rfl rfl rfl rfl rfl rfl rfl ?_; clear hf; intro a hf
    refine sY hf hs rfl rfl rfl (Y_pickF rfl rfl rfl) ?_; clear hf; intro a hf
    refine sY hf hs rfl rfl rfl (Y_assign rfl rfl) ?_; clear hf; intro a hf
    refine wpO_nil ?_
    refine wpL_nil (then_normal ?_)
    exact ⟨false, Option.some.inj hj14, (FrD.pick hf.none hf rfl), hs.sel [] (by decide)⟩
  ·have hj14 := bif_f hj14 hb17
   refine sNo hf rfl rfl rfl (congrArg (fun b => some (Value.bool b)) hb17) rfl rfl rfl ?_; clear hf; intro a hf
   refine sNo hf rfl rfl rfl (congrArg (fun b => some (Value.bool b)) hb17) rfl rfl rfl ?_; clear hf; intro a hf
   refine sNo hf rfl rfl rfl (congrArg (fun b => some (Value.bool b)) hb17) rfl rfl rfl ?_; clear hf; intro a hf
   refine sY hf hs rfl rfl rfl (Y_pickF rfl (congrArg (fun b => some (Value.bool b)) hb17) rfl) ?_; clear hf; intro a hf
   refine sY hf hs rfl rfl rfl (Y_move rfl rfl) ?_; clear hf; intro a hf
   refine sNo hf rfl rfl rfl rfl rfl rfl rfl ?_; clear hf; intro a hf
   refine sNo hf rfl rfl rfl rfl rfl rfl rfl ?_; clear hf; intro a hf
   refine sNo hf rfl rfl rfl rfl rfl rfl rfl ?_; clear hf; intro a hf
   refine sNo hf rfl rfl rfl rfl rfl rfl rfl ?_; clear hf; intro a hf
   refine sNo hf rfl rfl rfl rfl rfl rfl rfl ?_; clear hf; intro a hf
   refine sNo hf rfl rfl rfl rfl rfl rfl rfl ?_; clear hf; intro a hf
   refine sY hf hs rfl rfl rfl (Y_pickF rfl rfl rfl) ?_; clear hf; intro a hf
   refine sY hf hs rfl rfl rfl (Y_move rfl rfl) ?_; clear hf; intro a hf
   refine sNo hf rfl rfl rfl rfl rfl rfl rfl ?_; clear hf; intro a hf
   refine sNo hf rfl rfl rfl rfl rfl rfl rfl ?_; clear hf; intro a hf
   refine sNo hf rfl rfl rfl rfl rfl rfl rfl ?_; clear hf; intro a hf
   refine sY hf hs rfl rfl rfl (Y_pickF rfl rfl rfl) ?_; clear hf; intro a hf
   refine sY hf hs rfl rfl rfl (Y_assign rfl rfl) ?_; clear hf; intro a hf
   refine wpO_nil ?_
   refine wpL_nil (then_normal ?_)
   exact ⟨false, Option.some.inj hj14, (FrD.pick hf.none hf rfl), hs.sel [] (by decide)⟩
 ·rintro a w ⟨b12, hr_, hf, hs⟩
  subst hr_
  try dsimp only at hm
  obtain rfl := Option.some.inj hm
  refine wpL_ret (ret_tmp rfl hf rfl ?_)
  exact ⟨_, rfl, rfl, hs⟩

set_option maxRecDepth 100000 in
theorem spec_l20Code_ok (F : Nat) (ad : GEventGraph) (ae : Option Addr) (az ah : Nat) (aC : az = ad.Places.length) (am : GTimetable) (ao : Option Addr) (aG ap : Nat) (aQ : aG = am.Starts.length) (r : Int) (W : World) (hm : spec_l20Code F ad am = some r) (aA : Rd W ae ((recs GPlace.cells) ad.Places)) (aJ : Rd W ao (ints am.Starts)) :
  Calls Try.prog 137 [.agg #[.int .i64 ad.Events, .slice ae az ah], .agg #[.int .i64 am.Period, .slice ao aG ap]].toArray W fun e w' => ∃ v, e = .returned v ∧ v = .int .i64 r ∧ St [] W w' [] := by
 subst aC
 subst aQ
 unfold spec_l20Code at hm
 refine Calls.enter (N := 14) Try.func137 rfl rfl rfl (fun a hf => ?_)
 have hs := St.start W
 obtain ⟨w, hw_⟩ : ∃ w, w = W := ⟨W, rfl⟩
 clear hw_ w
 refine wpL_seq <| wpL_region ?_
 refine sBox hf hs rfl rfl rfl rfl rfl (cs := [.int .i64 ad.Events, .slice ae ad.Places.length ah]) rfl ?_; clear hf hs; intro a w b1 hs hf
 have hs : St _ W w [_] := hs
 refine sBox hf hs rfl rfl rfl rfl rfl (cs := [.int .i64 am.Period, .slice ao am.Starts.length ap]) rfl ?_; clear hf hs; intro a w b2 hs hf
 have hs : St _ W w [_, _] := hs
 refine sY hf hs rfl rfl rfl (Y_assign rfl rfl) ?_; clear hf; intro a hf
 refine wpO_nil <| wpL_seq <| wpL_block0 <| wpL_seq <| wpL_region ?_
 refine sY hf hs rfl rfl rfl (Y_load_blkS rfl rfl (i := 0) rfl ag52 ti52 rfl) ?_; clear hf; intro a hf
 obtain ⟨r3, hc4, hm⟩ := bind_some hm
 refine sCall hf rfl rfl rfl rfl (cap := []) rfl rfl en178 (spec_IsEventGraph_ok F ad ae ad.Places.length ah rfl _ _ hc4 (aA.at hs)) ?_; clear hf
 rintro _ w ⟨rfl, hs1⟩ a hf
 have hs : St _ W w [_, _] := hs.ext hs1.below
 clear hs1
 refine sY hf hs rfl rfl rfl (Y_not rfl rfl) ?_; clear hf; intro a hf
 refine sY hf hs rfl rfl rfl (Y_assign rfl rfl) ?_; clear hf; intro a hf
 refine wpO_nil ?_
 refine wpL_cond hf rfl (fun hb5 => ?_) (fun hb5 => ?_)
 ·have hm := bif_t hm hb5
  refine wpL_seq <| wpL_region ?_
  refine sY hf hs rfl rfl rfl (Y_assign rfl rfl) ?_; clear hf; intro a hf
  refine wpO_nil ?_
  obtain rfl := Option.some.inj hm
  refine wpL_ret (Qb_ret (ret_tmp rfl hf rfl ?_))
  exact ⟨_, rfl, rfl, hs.sel [] (by decide)⟩
 ·have hm := bif_f hm hb5
  refine wpL_seq <| wpL_region ?_
  refine sY hf hs rfl rfl rfl (Y_load_blkS rfl rfl (i := 0) rfl ag52 ti52 rfl) ?_; clear hf; intro a hf
  refine sY hf hs rfl rfl rfl (Y_load_blkS rfl rfl (i := 1) rfl ag54 ti54 rfl) ?_; clear hf; intro a hf
  obtain ⟨r6, hc7, hm⟩ := bind_some hm
  refine sCall hf rfl rfl rfl rfl (cap := []) rfl rfl en179 (spec_IsTimetable_ok F ad ae ad.Places.length ah rfl am ao am.Starts.length ap rfl _ _ hc7 (aA.at hs) (aJ.at hs)) ?_; clear hf
  rintro _ w ⟨rfl, hs1⟩ a hf
  have hs : St _ W w [_, _] := hs.ext hs1.below
  clear hs1
  refine sY hf hs rfl rfl rfl (Y_not rfl rfl) ?_; clear hf; intro a hf
  refine sY hf hs rfl rfl rfl (Y_assign rfl rfl) ?_; clear hf; intro a hf
  refine wpO_nil ?_
  refine wpL_cond hf rfl (fun hb8 => ?_) (fun hb8 => ?_)
  ·have hm := bif_t hm hb8
   refine wpL_seq <| wpL_region ?_
   refine sY hf hs rfl rfl rfl (Y_assign rfl rfl) ?_; clear hf; intro a hf
   refine wpO_nil ?_
   obtain rfl := Option.some.inj hm
   refine wpL_ret (Qb_ret (ret_tmp rfl hf rfl ?_))
   exact ⟨_, rfl, rfl, hs.sel [] (by decide)⟩
  ·have hm := bif_f hm hb8
   refine wpL_skip ?_
   refine wpL_nil (Qb_normal ?_)
   refine wpL_seq <| wpL_region ?_
   refine sY hf hs rfl rfl rfl (Y_assign rfl rfl) ?_; clear hf; intro a hf
   refine wpO_nil ?_
   obtain rfl := Option.some.inj hm
   refine wpL_ret (ret_tmp rfl hf rfl ?_)
   exact ⟨_, rfl, rfl, hs.sel [] (by decide)⟩

set_option maxRecDepth 100000 in
theorem spec_l12Free_ok (F : Nat) (ad : GEventGraph) (ae : Option Addr) (az ah : Nat) (aC : az = ad.Places.length) (r : List (List Int)) (W : World) (hm : spec_l12Free F ad = some r) (aA : Rd W ae ((recs GPlace.cells) ad.Places)) :
  Calls Try.prog 181 [.agg #[.int .i64 ad.Events, .slice ae az ah]].toArray W fun e w' => ∃ v, e = .returned v ∧ ∃ A105, ∃ n106, ∃ c107, ∃ vs109, v = .slice A105 n106 c107 ∧ n106 = r.length ∧ St [] W w' [.mat A105 n106 c107 23 2 vs109 r] := by
 subst aC
 unfold spec_l12Free at hm
 refine Calls.enter (N := 41) Try.func181 rfl rfl rfl (fun a hf => ?_)
 have hs := St.start W
 obtain ⟨w, hw_⟩ : ∃ w, w = W := ⟨W, rfl⟩
 clear hw_ w
 refine wpL_seq <| wpL_region ?_
 refine sBox hf hs rfl rfl rfl rfl rfl (cs := [.int .i64 ad.Events, .slice ae ad.Places.length ah]) rfl ?_; clear hf hs; intro a w b1 hs hf
 have hs : St _ W w [_] := hs
 refine sY hf hs rfl rfl rfl (Y_assign rfl rfl) ?_; clear hf; intro a hf
 refine wpO_nil <| wpL_seq <| wpL_region ?_
 refine sY hf hs rfl rfl rfl (Y_fieldAddr rfl rfl fo52_0) ?_; clear hf; intro a hf
 refine sY hf hs rfl rfl rfl (Y_load_blk rfl rfl (i := 0) rfl rfl ag2) ?_; clear hf; intro a hf
 refine sY hf hs rfl rfl rfl (Y_fieldAddr rfl rfl fo52_0) ?_; clear hf; intro a hf
 refine sY hf hs rfl rfl rfl (Y_load_blk rfl rfl (i := 0) rfl rfl ag2) ?_; clear hf; intro a hf
 obtain ⟨r2, hc3, hm⟩ := bind_some hm
 refine sCall hf rfl rfl rfl rfl (cap := []) rfl rfl en116 (spec_l02Bottom_ok F ad.Events ad.Events _ _ hc3) ?_; clear hf
 rintro _ w ⟨A4, n5, c6, vs8, rfl, hn7, hs1⟩ a hf
 have hs : St _ W w [_, .mat A4 n5 c6 23 2 vs8 r2] := hs.join hs1
 clear hs1
 refine sY hf hs rfl rfl rfl (Y_assign rfl rfl) ?_; clear hf; intro a hf
 refine wpO_nil <| wpL_seq <| wpL_seq <| wpL_region ?_
 refine sY hf hs rfl rfl rfl (Y_assign rfl rfl) ?_; clear hf; intro a hf
 refine wpO_nil ?_
 obtain ⟨r80, hl81, hm⟩ := bind_some hm
 refine wpL_block (fun a w => ∃ ms78 : List (List Int), ms78 = r80 ∧ n5 = ms78.length ∧ Fr a 41 [(3, .slice A4 n5 c6)] ∧ St [] W w [.mat A4 n5 c6 23 2 vs8 ms78]) ?_ ?_
 ·refine wpL_loop (fun n a w => ∃ ms54 : List (List Int), ∃ x56 : Int, spec_l12Free_L1 F ad n ms54 x56 = some r80 ∧ n5 = ms54.length ∧ Fr a 41 [(1, .pointer (some ⟨b1, 0, none⟩)), (3, .slice A4 n5 c6), (4, .int .i64 x56)] ∧ St [] W w [.blk b1 52 [.int .i64 ad.Events, .slice ae ad.Places.length ah], .mat A4 n5 c6 23 2 vs8 ms54]) F ?_ ?_ ?_
  ·exact ⟨r2, 0, hl81, hn7, (FrD.pick (FrD.pick (FrD.pick hf.none hf rfl) hf rfl) hf rfl), hs⟩
  ·rintro a w ⟨ms54, x56, h0_, -, -, -⟩; simp [spec_l12Free_L1] at h0_
  ·rintro n83 a w ⟨ms54, x56, hm82, hn55, hf, hs⟩
   rw [spec_l12Free_L1] at hm82
   refine wpL_seq <| wpL_seq <| wpL_region ?_
   refine sY hf hs rfl rfl rfl (Y_move rfl rfl) ?_; clear hf; intro a hf
   refine sY hf hs rfl rfl rfl (Y_fieldAddr rfl rfl fo52_1) ?_; clear hf; intro a hf
   refine sY hf hs rfl rfl rfl (Y_load_blk rfl rfl (i := 0) rfl rfl ag50) ?_; clear hf; intro a hf
   refine sY hf hs rfl rfl rfl (Y_lenH rfl rfl el50 rfl) ?_; clear hf; intro a hf
   refine sY hf hs rfl rfl rfl (Y_lss rfl rfl rfl) ?_; clear hf; intro a hf
   refine wpO_nil ?_
   refine wpL_cond hf rfl (fun hb84 => ?_) (fun hb84 => ?_)
   ·have hm82 := bif_t hm82 hb84
    refine wpL_skip <| wpL_seq <| wpL_block0 <| wpL_seq <| wpL_region ?_
    refine sY hf hs rfl rfl rfl (Y_fieldAddr rfl rfl fo52_1) ?_; clear hf; intro a hf
    refine sY hf hs rfl rfl rfl (Y_load_blk rfl rfl (i := 0) rfl rfl ag50) ?_; clear hf; intro a hf
    refine sY hf hs rfl rfl rfl (Y_move rfl rfl) ?_; clear hf; intro a hf
    obtain ⟨q85, hi86, hm82⟩ := bind_some hm82
    obtain ⟨hi86a, hi86b, hi86q⟩ := idx_some hi86
    refine sY hf hs rfl rfl rfl (Y_index rfl rfl rfl el50 ti112 (Rd.isAt (aA.at hs) (recs_at (s := 4) GPlace.len hi86q (j := 0) rfl)) hi86a hi86b) ?_; clear hf; intro a hf
    refine sY hf hs rfl rfl rfl (Y_fieldAddrE rfl rfl fo112_3) ?_; clear hf; intro a hf
    refine sY hf hs rfl rfl rfl (Y_load_rd rfl rfl (fun w hs => aA.at hs) (recs_at (s := 4) GPlace.len hi86q (j := 3) rfl) ag2) ?_; clear hf; intro a hf
    refine sY hf hs rfl rfl rfl (Y_eql rfl rfl rfl) ?_; clear hf; intro a hf
    refine wpO_nil ?_
    refine wpL_cond hf rfl (fun hb87 => ?_) (fun hb87 => ?_)
    ·have hm82 := bif_t hm82 hb87
     refine wpL_drawM [.blk b1 52 [.int .i64 ad.Events, .slice ae ad.Places.length ah], .mat A4 n5 c6 23 2 vs8 ms54] [16] (by kernel_rfl) hs ?_; clear hs; intro w hs
     have hs0 : St _ W w [_, _] := hs
     refine mYp (i := 0) rfl (by kernel_rfl) (by kernel_rfl) hf rfl rfl rfl (fun _ => Y_move rfl rfl) ?_; clear hf; intro a hf
     refine mYp (i := 1) rfl (by kernel_rfl) (by kernel_rfl) hf rfl rfl rfl (fun _ => Y_fieldAddr rfl rfl fo52_1) ?_; clear hf; intro a hf
     refine mY (i := 2) [[]] rfl (by kernel_rfl) (by kernel_rfl) hf hs0 rfl rfl rfl (Y_load_blk rfl rfl (i := 0) rfl rfl ag50) ?_; clear hf; intro a hf
     refine mYp (i := 3) rfl (by kernel_rfl) (by kernel_rfl) hf rfl rfl rfl (fun _ => Y_move rfl rfl) ?_; clear hf; intro a hf
     obtain ⟨q88, hi89, hm82⟩ := bind_some hm82
     obtain ⟨hi89a, hi89b, hi89q⟩ := idx_some hi89
     refine mYp (i := 4) rfl (by kernel_rfl) (by kernel_rfl) hf rfl rfl rfl (fun _ => Y_index rfl rfl rfl el50 ti112 (Rd.isAt (aA.at hs) (recs_at (s := 4) GPlace.len hi89q (j := 0) rfl)) hi89a hi89b) ?_; clear hf; intro a hf
     refine mYp (i := 5) rfl (by kernel_rfl) (by kernel_rfl) hf rfl rfl rfl (fun _ => Y_fieldAddrE rfl rfl fo112_1) ?_; clear hf; intro a hf
     refine mY (i := 6) [[]] rfl (by kernel_rfl) (by kernel_rfl) hf hs0 rfl rfl rfl (Y_load_rd rfl rfl (fun w hs => aA.at hs) (recs_at (s := 4) GPlace.len hi89q (j := 1) rfl) ag2) ?_; clear hf; intro a hf
     obtain ⟨q90, hi91, hm82⟩ := bind_some hm82
     obtain ⟨hi91a, hi91b, hi91q⟩ := idx_some hi91
     obtain ⟨A92, c93, hv94⟩ := hs.matRow (i := 1) rfl hi91q
     refine mYp (i := 7) rfl (by kernel_rfl) (by kernel_rfl) hf rfl rfl rfl (fun _ => Y_index rfl rfl rfl el59 ti23 (Rd.isAt (hs.rdV (i := 1) rfl) hv94) hi91a (ltn hn55 hi91b)) ?_; clear hf; intro a hf
     refine mY (i := 8) [[]] rfl (by kernel_rfl) (by kernel_rfl) hf hs0 rfl rfl rfl (Y_load_rd rfl rfl (fun w hs => hs.rdV (i := 1) rfl) (at1 hv94) ag23) ?_; clear hf; intro a hf
     refine mYp (i := 9) rfl (by kernel_rfl) (by kernel_rfl) hf rfl rfl rfl (fun _ => Y_fieldAddr rfl rfl fo52_1) ?_; clear hf; intro a hf
     refine mY (i := 10) [[]] rfl (by kernel_rfl) (by kernel_rfl) hf hs0 rfl rfl rfl (Y_load_blk rfl rfl (i := 0) rfl rfl ag50) ?_; clear hf; intro a hf
     refine mYp (i := 11) rfl (by kernel_rfl) (by kernel_rfl) hf rfl rfl rfl (fun _ => Y_move rfl rfl) ?_; clear hf; intro a hf
     obtain ⟨q95, hi96, hm82⟩ := bind_some hm82
     obtain ⟨hi96a, hi96b, hi96q⟩ := idx_some hi96
     refine mYp (i := 12) rfl (by kernel_rfl) (by kernel_rfl) hf rfl rfl rfl (fun _ => Y_index rfl rfl rfl el50 ti112 (Rd.isAt (aA.at hs) (recs_at (s := 4) GPlace.len hi96q (j := 0) rfl)) hi96a hi96b) ?_; clear hf; intro a hf
     refine mYp (i := 13) rfl (by kernel_rfl) (by kernel_rfl) hf rfl rfl rfl (fun _ => Y_fieldAddrE rfl rfl fo112_0) ?_; clear hf; intro a hf
     refine mY (i := 14) [[]] rfl (by kernel_rfl) (by kernel_rfl) hf hs0 rfl rfl rfl (Y_load_rd rfl rfl (fun w hs => aA.at hs) (recs_at (s := 4) GPlace.len hi96q (j := 0) rfl) ag2) ?_; clear hf; intro a hf
     obtain ⟨q97, hi98, hm82⟩ := bind_some hm82
     obtain ⟨hi98a, hi98b, hi98q⟩ := idx_some hi98
     refine mYp (i := 15) rfl (by kernel_rfl) (by kernel_rfl) hf rfl rfl rfl (fun _ => Y_index rfl rfl rfl el23 ti2 (Rd.isAt (hs.rdRow (i := 1) rfl ⟨hi91q, hv94⟩) (at1 (ints_at hi98q))) hi98a hi98b) ?_; clear hf; intro a hf
     refine mRun (i := 16) rfl (by kernel_rfl) ?_
     obtain ⟨xs99, hu101, hm82⟩ := bind_some hm82
     obtain ⟨ms100, hu102, hm82⟩ := bind_some hm82
     refine sStoreM (i := 1) (k := q88.To) hf hs rfl rfl rfl rfl rfl rfl hi91q hv94 rfl hu101 hu102 ti2 ?_; clear hs; intro w hs
     obtain ⟨hq103, hv104⟩ := rowUpd hu101 hu102 hv94
     have hs : St _ W w [_, .mat A4 n5 c6 23 2 vs8 ms100] := hs
     refine wpO_nil ⟨Or.inl (by decide), ?_⟩
     refine mDone (by kernel_rfl) ?_
     clear hs0
     refine wpL_nil (Qb_normal ?_)
     refine wpL_region ?_
     refine sY hf hs rfl rfl rfl (Y_move rfl rfl) ?_; clear hf; intro a hf
     refine sY hf hs rfl rfl rfl (Y_add rfl rfl rfl) ?_; clear hf; intro a hf
     refine sY hf hs rfl rfl rfl (Y_assign rfl rfl) ?_; clear hf; intro a hf
     refine wpO_nil ?_
     refine wpL_nil (Ql_normal ?_)
     exact ⟨ms100, (IntKind.i64.wrap (x56 + 1)), hm82, ((hn55).trans (upd_len hu102).symm), (FrD.pick (FrD.pick (FrD.pick hf.none hf rfl) hf rfl) hf rfl), hs⟩
    ·have hm82 := bif_f hm82 hb87
     refine wpL_skip ?_
     refine wpL_nil (Qb_normal ?_)
     refine wpL_region ?_
     refine sY hf hs rfl rfl rfl (Y_move rfl rfl) ?_; clear hf; intro a hf
     refine sY hf hs rfl rfl rfl (Y_add rfl rfl rfl) ?_; clear hf; intro a hf
     refine sY hf hs rfl rfl rfl (Y_assign rfl rfl) ?_; clear hf; intro a hf
     refine wpO_nil ?_
     refine wpL_nil (Ql_normal ?_)
     exact ⟨ms54, (IntKind.i64.wrap (x56 + 1)), hm82, hn55, (FrD.pick (FrD.pick (FrD.pick hf.none hf rfl) hf rfl) hf rfl), hs⟩
   ·have hm82 := bif_f hm82 hb84
    refine wpL_exit (Ql_exit (Qb_exit ?_))
    exact ⟨ms54, Option.some.inj hm82, hn55, (FrD.pick hf.none hf rfl), hs.sel [1] (by decide)⟩
 ·rintro a w ⟨ms78, hr_, hn79, hf, hs⟩
  subst hr_
  try dsimp only at hm
  refine wpL_seq <| wpL_region ?_
  refine sY hf hs rfl rfl rfl (Y_move rfl rfl) ?_; clear hf; intro a hf
  refine sY hf hs rfl rfl rfl (Y_assign rfl rfl) ?_; clear hf; intro a hf
  refine wpO_nil ?_
  obtain rfl := Option.some.inj hm
  refine wpL_ret (ret_tmp rfl hf rfl ?_)
  exact ⟨_, rfl, A4, n5, c6, vs8, rfl, hn79, hs⟩

set_option maxRecDepth 100000 in
theorem spec_l01Has_ok (F : Nat) (aN : List Int) (aL : Option Addr) (aT aU : Nat) (bl : aT = aN.length) (bX : Int) (r : Bool) (W : World) (hm : spec_l01Has F aN bX = some r) (bb : Rd W aL (ints aN)) :
  Calls Try.prog 188 [.slice aL aT aU, .int .i64 bX].toArray W fun e w' => ∃ v, e = .returned v ∧ v = .bool r ∧ St [] W w' [] := by
 subst bl
 unfold spec_l01Has at hm
 refine Calls.enter (N := 18) Try.func188 rfl rfl rfl (fun a hf => ?_)
 have hs := St.start W
 obtain ⟨w, hw_⟩ : ∃ w, w = W := ⟨W, rfl⟩
 clear hw_ w
 refine wpL_seq <| wpL_region ?_
 refine sY hf hs rfl rfl rfl (Y_assign rfl rfl) ?_; clear hf; intro a hf
 refine wpO_nil <| wpL_seq <| wpL_seq <| wpL_region ?_
 refine sY hf hs rfl rfl rfl (Y_assign rfl rfl) ?_; clear hf; intro a hf
 refine wpO_nil ?_
 obtain ⟨r15, hl16, hm⟩ := bind_some hm
 refine wpL_block (fun a w => Sum.inr () = r15 ∧ Fr a 18 [] ∧ St [] W w []) ?_ ?_
 ·refine wpL_loop (fun n a w => ∃ x10 : Int, spec_l01Has_L1 F aN bX n x10 = some r15 ∧ Fr a 18 [(0, .slice aL aN.length aU), (1, .int .i64 bX), (5, .int .i64 x10)] ∧ St [] W w []) F ?_ ?_ ?_
  ·exact ⟨0, hl16, (FrD.pick (FrD.pick (FrD.pick hf.none hf rfl) hf rfl) hf rfl), hs⟩
  ·rintro a w ⟨x10, h0_, -, -⟩; simp [spec_l01Has_L1] at h0_
  ·rintro n18 a w ⟨x10, hm17, hf, hs⟩
   rw [spec_l01Has_L1] at hm17
   refine wpL_seq <| wpL_seq <| wpL_region ?_
   refine sY hf hs rfl rfl rfl (Y_move rfl rfl) ?_; clear hf; intro a hf
   refine sY hf hs rfl rfl rfl (Y_move rfl rfl) ?_; clear hf; intro a hf
   refine sY hf hs rfl rfl rfl (Y_lenH rfl rfl el23 rfl) ?_; clear hf; intro a hf
   refine sY hf hs rfl rfl rfl (Y_lss rfl rfl rfl) ?_; clear hf; intro a hf
   refine wpO_nil ?_
   refine wpL_cond hf rfl (fun hb19 => ?_) (fun hb19 => ?_)
   ·have hm17 := bif_t hm17 hb19
    refine wpL_skip <| wpL_seq <| wpL_block0 <| wpL_seq <| wpL_region ?_
    refine sY hf hs rfl rfl rfl (Y_move rfl rfl) ?_; clear hf; intro a hf
    refine sY hf hs rfl rfl rfl (Y_move rfl rfl) ?_; clear hf; intro a hf
    obtain ⟨q20, hi21, hm17⟩ := bind_some hm17
    obtain ⟨hi21a, hi21b, hi21q⟩ := idx_some hi21
    refine sY hf hs rfl rfl rfl (Y_index rfl rfl rfl el23 ti2 (Rd.isAt (bb.at hs) (at1 (ints_at hi21q))) hi21a hi21b) ?_; clear hf; intro a hf
    refine sY hf hs rfl rfl rfl (Y_load_rd rfl rfl (fun w hs => bb.at hs) (at1 (ints_at hi21q)) ag2) ?_; clear hf; intro a hf
    refine sY hf hs rfl rfl rfl (Y_move rfl rfl) ?_; clear hf; intro a hf
    refine sY hf hs rfl rfl rfl (Y_eql rfl rfl rfl) ?_; clear hf; intro a hf
    refine wpO_nil ?_
    refine wpL_cond hf rfl (fun hb22 => ?_) (fun hb22 => ?_)
    ·have hm17 := bif_t hm17 hb22
     refine wpL_seq <| wpL_region ?_
     refine sY hf hs rfl rfl rfl (Y_assign rfl rfl) ?_; clear hf; intro a hf
     refine wpO_nil ?_
     obtain rfl := Option.some.inj hm17
     try dsimp only at hm
     obtain rfl := Option.some.inj hm
     refine wpL_ret (Qb_ret (Ql_ret (Qb_ret (ret_tmp rfl hf rfl ?_))))
     exact ⟨_, rfl, rfl, hs⟩
    ·have hm17 := bif_f hm17 hb22
     refine wpL_skip ?_
     refine wpL_nil (Qb_normal ?_)
     refine wpL_region ?_
     refine sY hf hs rfl rfl rfl (Y_move rfl rfl) ?_; clear hf; intro a hf
     refine sY hf hs rfl rfl rfl (Y_add rfl rfl rfl) ?_; clear hf; intro a hf
     refine sY hf hs rfl rfl rfl (Y_assign rfl rfl) ?_; clear hf; intro a hf
     refine wpO_nil ?_
     refine wpL_nil (Ql_normal ?_)
     exact ⟨(IntKind.i64.wrap (x10 + 1)), hm17, (FrD.pick (FrD.pick (FrD.pick hf.none hf rfl) hf rfl) hf rfl), hs⟩
   ·have hm17 := bif_f hm17 hb19
    refine wpL_exit (Ql_exit (Qb_exit ?_))
    exact ⟨Option.some.inj hm17, hf.none, hs⟩
 ·rintro a w ⟨hr_, hf, hs⟩
  subst hr_
  try dsimp only at hm
  refine wpL_seq <| wpL_region ?_
  refine sY hf hs rfl rfl rfl (Y_assign rfl rfl) ?_; clear hf; intro a hf
  refine wpO_nil ?_
  obtain rfl := Option.some.inj hm
  refine wpL_ret (ret_tmp rfl hf rfl ?_)
  exact ⟨_, rfl, rfl, hs⟩

set_option maxHeartbeats 2000000 in
set_option maxRecDepth 100000 in
theorem spec_l03Grow_step (F k_ : Nat) (ih_ : ∀ (p0 : List (List Int)) (aq : Option Addr) (aP au : Nat) (_hn_p0_1 : aP = p0.length) (p1 : List Int) (ay : Option Addr) (aM aB : Nat) (_hn_p1_1 : aM = p1.length) (p2 : Int) (p3 : Int) (r : List Int) (W : World) (_hm : spec_l03Grow_rec F k_ p0 p1 p2 p3 = some r) (_h_p0_1 : RdM W aq p0) (_h_p1_1 : Rd W ay (ints p1)), Calls Try.prog 204 [.slice aq aP au, .slice ay aM aB, .int .i64 p2, .int .i64 p3].toArray W fun e w' => ∃ v, e = .returned v ∧ ∃ A1851, ∃ n1852, ∃ c1853, ∃ A1854, ∃ n1855, ∃ c1856, ∃ ys1857, v = .slice A1851 n1852 c1853 ∧ n1852 = r.length ∧ Ei ay aM aB p1 A1854 n1855 c1856 ys1857 A1851 n1852 c1853 r ∧ St [] W w' [.row A1854 n1855 c1856 2 1 (ints ys1857)]) (p0 : List (List Int)) (aq : Option Addr) (aP au : Nat) (bL : aP = p0.length) (p1 : List Int) (ay : Option Addr) (aM aB : Nat) (bU : aM = p1.length) (p2 : Int) (p3 : Int) (r : List Int) (W : World) (hm : spec_l03Grow_rec F (k_ + 1) p0 p1 p2 p3 = some r) (aR : RdM W aq p0) (bc : Rd W ay (ints p1)) :
  Calls Try.prog 204 [.slice aq aP au, .slice ay aM aB, .int .i64 p2, .int .i64 p3].toArray W fun e w' => ∃ v, e = .returned v ∧ ∃ A1851, ∃ n1852, ∃ c1853, ∃ A1854, ∃ n1855, ∃ c1856, ∃ ys1857, v = .slice A1851 n1852 c1853 ∧ n1852 = r.length ∧ Ei ay aM aB p1 A1854 n1855 c1856 ys1857 A1851 n1852 c1853 r ∧ St [] W w' [.row A1854 n1855 c1856 2 1 (ints ys1857)] := by
 subst bL
 subst bU
 unfold spec_l03Grow_rec at hm
 refine Calls.enter (N := 86) Try.func204 rfl rfl rfl (fun a hf => ?_)
 have hs := St.start W
 obtain ⟨w, hw_⟩ : ∃ w, w = W := ⟨W, rfl⟩
 clear hw_ w
 refine wpL_seq <| wpL_region ?_
 refine sY hf hs rfl rfl rfl (Y_assign rfl rfl) ?_; clear hf; intro a hf
 refine wpO_nil <| wpL_seq ?_
 refine wpL_draw (by kernel_rfl) (by kernel_rfl) hs ?_
 refine qY hf rfl rfl rfl (Y_move rfl rfl) ?_; clear hf; intro a hf
 obtain ⟨q1, hi2, hm⟩ := bind_some hm
 obtain ⟨hi2a, hi2b, hi2q⟩ := idx_some hi2
 refine qY hf rfl rfl rfl (Y_index rfl rfl rfl el23 ti2 (Rd.isAt (bc.at hs) (at1 (ints_at hi2q))) hi2a hi2b) ?_; clear hf; intro a hf
 refine qY hf rfl rfl rfl (Y_load_rd rfl rfl (fun w hs => bc.at hs) (at1 (ints_at hi2q)) ag2) ?_; clear hf; intro a hf
 refine qY hf rfl rfl rfl (Y_move rfl rfl) ?_; clear hf; intro a hf
 refine qY hf rfl rfl rfl (Y_move rfl rfl) ?_; clear hf; intro a hf
 refine qY hf rfl rfl rfl (Y_lenH rfl rfl el23 rfl) ?_; clear hf; intro a hf
 refine qY hf rfl rfl rfl (Y_sub rfl rfl rfl) ?_; clear hf; intro a hf
 obtain ⟨q3, hi4, hm⟩ := bind_some hm
 obtain ⟨hi4a, hi4b, hi4q⟩ := idx_some hi4
 refine qY hf rfl rfl rfl (Y_index rfl rfl rfl el23 ti2 (Rd.isAt (bc.at hs) (at1 (ints_at hi4q))) hi4a hi4b) ?_; clear hf; intro a hf
 refine qY hf rfl rfl rfl (Y_load_rd rfl rfl (fun w hs => bc.at hs) (at1 (ints_at hi4q)) ag2) ?_; clear hf; intro a hf
 refine qY hf rfl rfl rfl (Y_assign rfl rfl) ?_; clear hf; intro a hf
 refine qY hf rfl rfl rfl (Y_assign rfl rfl) ?_; clear hf; intro a hf
 refine qNil ?_; clear hs; intro w hs
 refine wpL_seq <| wpL_seq ?_
 obtain ⟨r29, hj30, hm⟩ := bind_some hm
 refine wpL_cut (fun a w => ∃ b28 : Bool, b28 = r29 ∧ Fr a 86 [(0, .slice aq p0.length au), (1, .slice ay p1.length aB), (2, .int .i64 p2), (3, .int .i64 p3), (9, .int .i64 q1), (10, .int .i64 q3), (42, .bool b28)] ∧ St [] W w []) ?_ ?_
 ·refine wpL_region ?_
  refine sY hf hs rfl rfl rfl (Y_move rfl rfl) ?_; clear hf; intro a hf
  refine sY hf hs rfl rfl rfl (Y_move rfl rfl) ?_; clear hf; intro a hf
  obtain ⟨q31, hi32, hj30⟩ := bind_some hj30
  obtain ⟨hi32a, hi32b, hi32q⟩ := idx_some hi32
  obtain ⟨vs33, hv34, hr35⟩ := id aR
  obtain ⟨A36, c37, hv38, hR39⟩ := hr35 _ _ hi32q
  refine sY hf hs rfl rfl rfl (Y_index rfl rfl rfl el59 ti23 (Rd.isAt hv34 hv38) hi32a hi32b) ?_; clear hf; intro a hf
  refine sY hf hs rfl rfl rfl (Y_load_rd rfl rfl (fun w hs => hv34.at hs) (at1 hv38) ag23) ?_; clear hf; intro a hf
  refine sY hf hs rfl rfl rfl (Y_move rfl rfl) ?_; clear hf; intro a hf
  obtain ⟨q40, hi41, hj30⟩ := bind_some hj30
  obtain ⟨hi41a, hi41b, hi41q⟩ := idx_some hi41
  refine sY hf hs rfl rfl rfl (Y_index rfl rfl rfl el23 ti2 (Rd.isAt (hR39.at hs) (at1 (ints_at hi41q))) hi41a hi41b) ?_; clear hf; intro a hf
  refine sY hf hs rfl rfl rfl (Y_load_rd rfl rfl (fun w hs => hR39.at hs) (at1 (ints_at hi41q)) ag2) ?_; clear hf; intro a hf
  refine sY hf hs rfl rfl rfl (Y_neq rfl rfl rfl) ?_; clear hf; intro a hf
  refine sY hf hs rfl rfl rfl (Y_move rfl rfl) ?_; clear hf; intro a hf
  refine bsplit (q40 != (-1000000000000000)) (fun hb42 => ?_) (fun hb42 => ?_)
  ·have hj30 := bif_t hj30 hb42
   refine sYg hf hs rfl rfl rfl (congrArg (fun b => some (Value.bool b)) hb42) rfl rfl rfl (Y_move rfl rfl) ?_; clear hf; intro a hf
   refine sYg hf hs rfl rfl rfl (congrArg (fun b => some (Value.bool b)) hb42) rfl rfl rfl (Y_move rfl rfl) ?_; clear hf; intro a hf
   refine sYg hf hs rfl rfl rfl (congrArg (fun b => some (Value.bool b)) hb42) rfl rfl rfl (Y_move rfl rfl) ?_; clear hf; intro a hf
   obtain ⟨q43, hi44, hj30⟩ := bind_some hj30
   obtain ⟨hi44a, hi44b, hi44q⟩ := idx_some hi44
   obtain ⟨vs45, hv46, hr47⟩ := id aR
   obtain ⟨A48, c49, hv50, hR51⟩ := hr47 _ _ hi44q
   refine sYg hf hs rfl rfl rfl (congrArg (fun b => some (Value.bool b)) hb42) rfl rfl rfl (Y_index rfl rfl rfl el59 ti23 (Rd.isAt hv46 hv50) hi44a hi44b) ?_; clear hf; intro a hf
   refine sYg hf hs rfl rfl rfl (congrArg (fun b => some (Value.bool b)) hb42) rfl rfl rfl (Y_load_rd rfl rfl (fun w hs => hv46.at hs) (at1 hv50) ag23) ?_; clear hf; intro a hf
   refine sYg hf hs rfl rfl rfl (congrArg (fun b => some (Value.bool b)) hb42) rfl rfl rfl (Y_move rfl rfl) ?_; clear hf; intro a hf
   obtain ⟨q52, hi53, hj30⟩ := bind_some hj30
   obtain ⟨hi53a, hi53b, hi53q⟩ := idx_some hi53
   refine sYg hf hs rfl rfl rfl (congrArg (fun b => some (Value.bool b)) hb42) rfl rfl rfl (Y_index rfl rfl rfl el23 ti2 (Rd.isAt (hR51.at hs) (at1 (ints_at hi53q))) hi53a hi53b) ?_; clear hf; intro a hf
   refine sYg hf hs rfl rfl rfl (congrArg (fun b => some (Value.bool b)) hb42) rfl rfl rfl (Y_load_rd rfl rfl (fun w hs => hR51.at hs) (at1 (ints_at hi53q)) ag2) ?_; clear hf; intro a hf
   refine sYg hf hs rfl rfl rfl (congrArg (fun b => some (Value.bool b)) hb42) rfl rfl rfl (Y_add rfl rfl rfl) ?_; clear hf; intro a hf
   refine sYg hf hs rfl rfl rfl (congrArg (fun b => some (Value.bool b)) hb42) rfl rfl rfl (Y_move rfl rfl) ?_; clear hf; intro a hf
   refine sYg hf hs rfl rfl rfl (congrArg (fun b => some (Value.bool b)) hb42) rfl rfl rfl (Y_gtr rfl rfl rfl) ?_; clear hf; intro a hf
   refine sY hf hs rfl rfl rfl (Y_pickT rfl (congrArg (fun b => some (Value.bool b)) hb42) rfl) ?_; clear hf; intro a hf
   refine wpO_nil ?_
   refine wpL_nil (then_normal ?_)
   exact ⟨(decide (p3 < (IntKind.i64.wrap (p2 + q52)))), Option.some.inj hj30, (FrD.pick (FrD.pick (FrD.pick (FrD.pick (FrD.pick (FrD.pick (FrD.pick hf.none hf rfl) hf rfl) hf rfl) hf rfl) hf rfl) hf rfl) hf rfl), hs⟩
  ·have hj30 := bif_f hj30 hb42
   refine sNo hf rfl rfl rfl (congrArg (fun b => some (Value.bool b)) hb42) rfl rfl rfl ?_; clear hf; intro a hf
   refine sNo hf rfl rfl rfl (congrArg (fun b => some (Value.bool b)) hb42) rfl rfl rfl ?_; clear hf; intro a hf
   refine sNo hf rfl rfl rfl (congrArg (fun b => some (Value.bool b)) hb42) rfl rfl rfl ?_; clear hf; intro a hf
   refine sNo hf rfl rfl rfl (congrArg (fun b => some (Value.bool b)) hb42) rfl rfl rfl ?_; clear hf; intro a hf
   refine sNo hf rfl rfl rfl (congrArg (fun b => some (Value.bool b)) hb42) rfl rfl rfl ?_; clear hf; intro a hf
   refine sNo hf rfl rfl rfl (congrArg (fun b => some (Value.bool b)) hb42) rfl rfl rfl ?_; clear hf; intro a hf
   refine sNo hf rfl rfl rfl (congrArg (fun b => some (Value.bool b)) hb42) rfl rfl rfl ?_; clear hf; intro a hf
   refine sNo hf rfl rfl rfl (congrArg (fun b => some (Value.bool b)) hb42) rfl rfl rfl ?_; clear hf; intro a hf
   refine sNo hf rfl rfl rfl (congrArg (fun b => some (Value.bool b)) hb42) rfl rfl rfl ?_; clear hf; intro a hf
   refine sNo hf rfl rfl rfl (congrArg (fun b => some (Value.bool b)) hb42) rfl rfl rfl ?_; clear hf; intro a hf
   refine sNo hf rfl rfl rfl (congrArg (fun b => some (Value.bool b)) hb42) rfl rfl rfl ?_; clear hf; intro a hf
   refine sY hf hs rfl rfl rfl (Y_pickF rfl (congrArg (fun b => some (Value.bool b)) hb42) rfl) ?_; clear hf; intro a hf
   refine wpO_nil ?_
   refine wpL_nil (then_normal ?_)
   exact ⟨false, Option.some.inj hj30, (FrD.pick (FrD.pick (FrD.pick (FrD.pick (FrD.pick (FrD.pick (FrD.pick hf.none hf rfl) hf rfl) hf rfl) hf rfl) hf rfl) hf rfl) hf rfl), hs⟩
 ·rintro a w ⟨b28, hr_, hf, hs⟩
  subst hr_
  try dsimp only at hm
  refine wpL_cond hf rfl (fun hb54 => ?_) (fun hb54 => ?_)
  ·have hm := bif_t hm hb54
   refine wpL_seq <| wpL_region ?_
   refine sY hf hs rfl rfl rfl (Y_move rfl rfl) ?_; clear hf; intro a hf
   refine sY hf hs rfl rfl rfl (Y_assign rfl rfl) ?_; clear hf; intro a hf
   refine wpO_nil ?_
   have hs : St [] W _ [.row none 0 0 2 1 (ints ([] : List Int))] := hs.addNil 2 1
   obtain rfl := Option.some.inj hm
   refine wpL_ret (ret_tmp rfl hf rfl ?_)
   exact ⟨_, rfl, ay, p1.length, aB, none, 0, 0, ([] : List Int), rfl, rfl, .inl ⟨rfl, rfl, rfl, rfl⟩, hs⟩
  ·have hm := bif_f hm hb54
   refine wpL_skip <| wpL_seq <| wpL_seq <| wpL_region ?_
   refine sY hf hs rfl rfl rfl (Y_move rfl rfl) ?_; clear hf; intro a hf
   refine sY hf hs rfl rfl rfl (Y_add rfl rfl rfl) ?_; clear hf; intro a hf
   refine sY hf hs rfl rfl rfl (Y_assign rfl rfl) ?_; clear hf; intro a hf
   refine wpO_nil ?_
   obtain ⟨r1399, hl1400, hm⟩ := bind_some hm
   refine wpL_block (fun a w => Sum.inr () = r1399 ∧ Fr a 86 [] ∧ St [] W w []) ?_ ?_
   ·refine wpL_loop (fun n a w => ∃ x951 : Int, spec_l03Grow_L1 F p0 p1 p2 p3 q3 (spec_l03Grow_rec F k_) n x951 = some r1399 ∧ Fr a 86 [(0, .slice aq p0.length au), (1, .slice ay p1.length aB), (2, .int .i64 p2), (3, .int .i64 p3), (10, .int .i64 q3), (11, .int .i64 x951)] ∧ St [] W w []) F ?_ ?_ ?_
    ·exact ⟨(IntKind.i64.wrap (q1 + 1)), hl1400, (FrD.pick (FrD.pick (FrD.pick (FrD.pick (FrD.pick (FrD.pick hf.none hf rfl) hf rfl) hf rfl) hf rfl) hf rfl) hf rfl), hs⟩
    ·rintro a w ⟨x951, h0_, -, -⟩; simp [spec_l03Grow_L1] at h0_
    ·rintro n1402 a w ⟨x951, hm1401, hf, hs⟩
     rw [spec_l03Grow_L1] at hm1401
     refine wpL_seq <| wpL_seq <| wpL_region ?_
     refine sY hf hs rfl rfl rfl (Y_move rfl rfl) ?_; clear hf; intro a hf
     refine sY hf hs rfl rfl rfl (Y_move rfl rfl) ?_; clear hf; intro a hf
     refine sY hf hs rfl rfl rfl (Y_lenH rfl rfl el59 rfl) ?_; clear hf; intro a hf
     refine sY hf hs rfl rfl rfl (Y_lss rfl rfl rfl) ?_; clear hf; intro a hf
     refine wpO_nil ?_
     refine wpL_cond hf rfl (fun hb1403 => ?_) (fun hb1403 => ?_)
     ·have hm1401 := bif_t hm1401 hb1403
      refine wpL_skip <| wpL_seq ?_
      obtain ⟨r1626, hj1627, hm1401⟩ := bind_some hm1401
      refine wpL_block (fun a w => Sum.inr () = r1626 ∧ Fr a 86 [(0, .slice aq p0.length au), (1, .slice ay p1.length aB), (2, .int .i64 p2), (3, .int .i64 p3), (10, .int .i64 q3), (11, .int .i64 x951)] ∧ St [] W w []) ?_ ?_
      ·refine wpL_seq <| wpL_seq ?_
       obtain ⟨r1643, hj1644, hj1627⟩ := bind_some hj1627
       refine wpL_cut (fun a w => ∃ b1642 : Bool, b1642 = r1643 ∧ Fr a 86 [(0, .slice aq p0.length au), (1, .slice ay p1.length aB), (2, .int .i64 p2), (3, .int .i64 p3), (10, .int .i64 q3), (11, .int .i64 x951), (64, .bool b1642)] ∧ St [] W w []) ?_ ?_
       ·refine wpL_region ?_
        refine sY hf hs rfl rfl rfl (Y_move rfl rfl) ?_; clear hf; intro a hf
        refine sY hf hs rfl rfl rfl (Y_move rfl rfl) ?_; clear hf; intro a hf
        obtain ⟨q1645, hi1646, hj1644⟩ := bind_some hj1644
        obtain ⟨hi1646a, hi1646b, hi1646q⟩ := idx_some hi1646
        obtain ⟨vs1647, hv1648, hr1649⟩ := id aR
        obtain ⟨A1650, c1651, hv1652, hR1653⟩ := hr1649 _ _ hi1646q
        refine sY hf hs rfl rfl rfl (Y_index rfl rfl rfl el59 ti23 (Rd.isAt hv1648 hv1652) hi1646a hi1646b) ?_; clear hf; intro a hf
        refine sY hf hs rfl rfl rfl (Y_load_rd rfl rfl (fun w hs => hv1648.at hs) (at1 hv1652) ag23) ?_; clear hf; intro a hf
        refine sY hf hs rfl rfl rfl (Y_move rfl rfl) ?_; clear hf; intro a hf
        obtain ⟨q1654, hi1655, hj1644⟩ := bind_some hj1644
        obtain ⟨hi1655a, hi1655b, hi1655q⟩ := idx_some hi1655
        refine sY hf hs rfl rfl rfl (Y_index rfl rfl rfl el23 ti2 (Rd.isAt (hR1653.at hs) (at1 (ints_at hi1655q))) hi1655a hi1655b) ?_; clear hf; intro a hf
        refine sY hf hs rfl rfl rfl (Y_load_rd rfl rfl (fun w hs => hR1653.at hs) (at1 (ints_at hi1655q)) ag2) ?_; clear hf; intro a hf
        refine sY hf hs rfl rfl rfl (Y_eql rfl rfl rfl) ?_; clear hf; intro a hf
        refine sY hf hs rfl rfl rfl (Y_move rfl rfl) ?_; clear hf; intro a hf
        refine bsplit (q1654 == (-1000000000000000)) (fun hb1656 => ?_) (fun hb1656 => ?_)
        ·have hj1644 := bif_t hj1644 hb1656
         refine sNo hf rfl rfl rfl (congrArg (fun b => some (Value.bool b)) hb1656) rfl rfl rfl ?_; clear hf; intro a hf
         refine sNo hf rfl rfl rfl (congrArg (fun b => some (Value.bool b)) hb1656) rfl rfl rfl ?_; clear hf; intro a hf
         refine sNo hf rfl rfl rfl (congrArg (fun b => some (Value.bool b)) hb1656) rfl rfl rfl ?_; clear hf; intro a hf
         refine sY hf hs rfl rfl rfl (Y_pickT rfl (congrArg (fun b => some (Value.bool b)) hb1656) rfl) ?_; clear hf; intro a hf
         refine wpO_nil ?_
         refine wpL_nil (then_normal ?_)
         exact ⟨true, Option.some.inj hj1644, (FrD.pick (FrD.pick (FrD.pick (FrD.pick (FrD.pick (FrD.pick (FrD.pick hf.none hf rfl) hf rfl) hf rfl) hf rfl) hf rfl) hf rfl) hf rfl), hs⟩
        ·have hj1644 := bif_f hj1644 hb1656
         refine sYg hf hs rfl rfl rfl (congrArg (fun b => some (Value.bool b)) hb1656) rfl rfl rfl (Y_move rfl rfl) ?_; clear hf; intro a hf
         refine sYg hf hs rfl rfl rfl (congrArg (fun b => some (Value.bool b)) hb1656) rfl rfl rfl (Y_move rfl rfl) ?_; clear hf; intro a hf
         obtain ⟨r1657, hc1658, hj1644⟩ := bind_some hj1644
         refine sCallg hf rfl rfl rfl (congrArg (fun b => some (Value.bool b)) hb1656) rfl rfl rfl rfl (cap := []) rfl rfl en188 (spec_l01Has_ok F p1 ay p1.length aB rfl x951 _ _ hc1658 (bc.at hs)) ?_; clear hf
         rintro _ w ⟨rfl, hs1⟩ a hf
         have hs : St _ W w [] := hs.ext hs1.below
         clear hs1
         refine sY hf hs rfl rfl rfl (Y_pickF rfl (congrArg (fun b => some (Value.bool b)) hb1656) rfl) ?_; clear hf; intro a hf
         refine wpO_nil ?_
         refine wpL_nil (then_normal ?_)
         exact ⟨r1657, Option.some.inj hj1644, (FrD.pick (FrD.pick (FrD.pick (FrD.pick (FrD.pick (FrD.pick (FrD.pick hf.none hf rfl) hf rfl) hf rfl) hf rfl) hf rfl) hf rfl) hf rfl), hs⟩
       ·rintro a w ⟨b1642, hr_, hf, hs⟩
        subst hr_
        try dsimp only at hj1627
        refine wpL_cond hf rfl (fun hb1659 => ?_) (fun hb1659 => ?_)
        ·have hj1627 := bif_t hj1627 hb1659
         refine wpL_exit (Qb_exit ?_)
         exact ⟨Option.some.inj hj1627, (FrD.pick (FrD.pick (FrD.pick (FrD.pick (FrD.pick (FrD.pick hf.none hf rfl) hf rfl) hf rfl) hf rfl) hf rfl) hf rfl), hs⟩
        ·have hj1627 := bif_f hj1627 hb1659
         refine wpL_skip <| wpL_seq ?_
         obtain ⟨r1756, hj1757, hj1627⟩ := bind_some hj1627
         refine wpL_cut (fun a w => ∃ xs1751 : List Int, ∃ A1752, ∃ n1753, ∃ c1754, xs1751 = r1756 ∧ n1753 = xs1751.length ∧ Fr a 86 [(0, .slice aq p0.length au), (1, .slice ay p1.length aB), (2, .int .i64 p2), (3, .int .i64 p3), (10, .int .i64 q3), (11, .int .i64 x951), (12, .slice A1752 n1753 c1754)] ∧ St [] W w [.row A1752 n1753 c1754 2 1 (ints xs1751)]) ?_ ?_
         ·refine wpL_drawM [] [16] (by kernel_rfl) hs ?_; clear hs; intro w hs
          have hs0 : St _ W w [] := hs
          refine mYp (i := 0) rfl (by kernel_rfl) (by kernel_rfl) hf rfl rfl rfl (fun _ => Y_move rfl rfl) ?_; clear hf; intro a hf
          refine mYp (i := 1) rfl (by kernel_rfl) (by kernel_rfl) hf rfl rfl rfl (fun _ => Y_move rfl rfl) ?_; clear hf; intro a hf
          refine mYp (i := 3) rfl (by kernel_rfl) (by kernel_rfl) hf rfl rfl rfl (fun _ => Y_move rfl rfl) ?_; clear hf; intro a hf
          refine mYp (i := 6) rfl (by kernel_rfl) (by kernel_rfl) hf rfl rfl rfl (fun _ => Y_move rfl rfl) ?_; clear hf; intro a hf
          refine mYp (i := 7) rfl (by kernel_rfl) (by kernel_rfl) hf rfl rfl rfl (fun _ => Y_move rfl rfl) ?_; clear hf; intro a hf
          refine mYp (i := 8) rfl (by kernel_rfl) (by kernel_rfl) hf rfl rfl rfl (fun _ => Y_move rfl rfl) ?_; clear hf; intro a hf
          obtain ⟨q1792, hi1793, hj1757⟩ := bind_some hj1757
          obtain ⟨hi1793a, hi1793b, hi1793q⟩ := idx_some hi1793
          obtain ⟨vs1794, hv1795, hr1796⟩ := id aR
          obtain ⟨A1797, c1798, hv1799, hR1800⟩ := hr1796 _ _ hi1793q
          refine mYp (i := 9) rfl (by kernel_rfl) (by kernel_rfl) hf rfl rfl rfl (fun _ => Y_index rfl rfl rfl el59 ti23 (Rd.isAt hv1795 hv1799) hi1793a hi1793b) ?_; clear hf; intro a hf
          refine mY (i := 10) [[12, 13, 14]] rfl (by kernel_rfl) (by kernel_rfl) hf hs0 rfl rfl rfl (Y_load_rd rfl rfl (fun w hs => hv1795.at hs) (at1 hv1799) ag23) ?_; clear hf; intro a hf
          refine mYp (i := 11) rfl (by kernel_rfl) (by kernel_rfl) hf rfl rfl rfl (fun _ => Y_move rfl rfl) ?_; clear hf; intro a hf
          obtain ⟨q1801, hi1802, hj1757⟩ := bind_some hj1757
          obtain ⟨hi1802a, hi1802b, hi1802q⟩ := idx_some hi1802
          refine mYp (i := 12) rfl (by kernel_rfl) (by kernel_rfl) hf rfl rfl rfl (fun _ => Y_index rfl rfl rfl el23 ti2 (Rd.isAt (hR1800.at hs) (at1 (ints_at hi1802q))) hi1802a hi1802b) ?_; clear hf; intro a hf
          refine mY (i := 13) [[14]] rfl (by kernel_rfl) (by kernel_rfl) hf hs0 rfl rfl rfl (Y_load_rd rfl rfl (fun w hs => hR1800.at hs) (at1 (ints_at hi1802q)) ag2) ?_; clear hf; intro a hf
          refine mYp (i := 14) rfl (by kernel_rfl) (by kernel_rfl) hf rfl rfl rfl (fun _ => Y_add rfl rfl rfl) ?_; clear hf; intro a hf
          refine mYp (i := 15) rfl (by kernel_rfl) (by kernel_rfl) hf rfl rfl rfl (fun _ => Y_move rfl rfl) ?_; clear hf; intro a hf
          refine mRun2 (i := 2) (j := 4) rfl rfl (by kernel_rfl) ?_ ?_
          ·obtain ⟨r1803, hc1804, hj1757⟩ := bind_some hj1757
           refine sCall hf rfl rfl rfl rfl (cap := []) rfl rfl en146 (spec_l01Own_ok F p1 ay p1.length aB rfl _ _ hc1804 (bc.at hs)) ?_; clear hf
           rintro _ w ⟨A1805, n1806, c1807, rfl, hn1808, hs1⟩ a hf
           have hs : St _ W w [.row A1805 n1806 c1807 2 1 (ints r1803)] := hs.join hs1
           clear hs1
           have hs0 : St _ W w [] := hs.sel [] (by decide)
           refine wpO_nil ⟨Or.inr (fun _ => hs0), ?_⟩
           refine mRun (i := 4) rfl (by kernel_rfl) ?_
           refine sBuildSlice (parts := [(0, .tmp 68)]) (vs := [.int .i64 x951]) (cells := [.int .i64 x951]) hf hs rfl rfl rfl rfl rfl el23 ti2 rfl rfl rfl rfl ?_; clear hf hs; intro a w A1809 hs hA1810 hf
           have hs : St _ W w [_, .row A1809 1 1 2 1 (ints ([x951]))] := hs
           have hs0 : St _ W w [] := hs.sel [] (by decide)
           refine wpO_nil ⟨Or.inr (fun _ => hs0), ?_⟩
           refine mRun (i := 5) rfl (by kernel_rfl) ?_
           obtain ⟨xs1813, ha1814, hj1757⟩ := bind_some hj1757
           refine sAppendL (i := 0) (xs := r1803) (ys := [x951]) (enc := ints) hf hs rfl rfl rfl rfl rfl rfl hn1808 rfl rfl ha1814 el23 ti2 rfl rfl rfl (hs.rd (i := 1) rfl) (Nat.succ_pos _) ints_len1 ints_append ints_one ?_; clear hf hs; intro a w A1811 c1812 hs hf
           have hs : St _ W w [.row A1811 xs1813.length c1812 2 1 (ints xs1813), _] := hs
           have hs0 : St _ W w [] := hs.sel [] (by decide)
           refine wpO_nil ⟨Or.inr (fun _ => hs0), ?_⟩
           refine mRun (i := 16) rfl (by kernel_rfl) ?_
           obtain ⟨r1815, hc1816, hj1757⟩ := bind_some hj1757
           refine sCall hf rfl rfl rfl rfl (cap := []) rfl rfl en204 (ih_ p0 aq p0.length au rfl xs1813 A1811 xs1813.length c1812 rfl (IntKind.i64.wrap (p2 + q1801)) p3 _ _ hc1816 (aR.at hs) (hs.rd (i := 0) rfl)) ?_; clear hf
           rintro _ w ⟨A1817, n1818, c1819, A1820, n1821, c1822, ys1823, rfl, hn1824, he1825, hs1⟩ a hf
           have hs : St _ W w [_, _, .row A1820 n1821 c1822 2 1 (ints ys1823)] := hs.join hs1
           clear hs1
           have hs := hs.eiOwn (i := 0) (j := 2) (enc := ints) rfl rfl (by decide) he1825
           have hs : St _ W w [.row A1817 n1818 c1819 2 1 (ints r1815), _] := hs
           refine wpO_nil ⟨Or.inl (by decide), ?_⟩
           refine mYp (i := 17) rfl (by kernel_rfl) (by kernel_rfl) hf rfl rfl rfl (fun _ => Y_assign rfl rfl) ?_; clear hf; intro a hf
           refine mDone (by kernel_rfl) ?_
           clear hs0
           refine wpL_nil (then_normal ?_)
           exact ⟨r1815, A1817, n1818, c1819, Option.some.inj hj1757, hn1824, (FrD.pick (FrD.pick (FrD.pick (FrD.pick (FrD.pick (FrD.pick (FrD.pick hf.none hf rfl) hf rfl) hf rfl) hf rfl) hf rfl) hf rfl) hf rfl), hs.sel [0] (by decide)⟩
          ·refine sBuildSlice (parts := [(0, .tmp 68)]) (vs := [.int .i64 x951]) (cells := [.int .i64 x951]) hf hs rfl rfl rfl rfl rfl el23 ti2 rfl rfl rfl rfl ?_; clear hf hs; intro a w A1826 hs hA1827 hf
           have hs : St _ W w [.row A1826 1 1 2 1 (ints ([x951]))] := hs
           have hs0 : St _ W w [] := hs.sel [] (by decide)
           refine wpO_nil ⟨Or.inr (fun _ => hs0), ?_⟩
           refine mRun (i := 2) rfl (by kernel_rfl) ?_
           obtain ⟨r1828, hc1829, hj1757⟩ := bind_some hj1757
           refine sCall hf rfl rfl rfl rfl (cap := []) rfl rfl en146 (spec_l01Own_ok F p1 ay p1.length aB rfl _ _ hc1829 (bc.at hs)) ?_; clear hf
           rintro _ w ⟨A1830, n1831, c1832, rfl, hn1833, hs1⟩ a hf
           have hs : St _ W w [_, .row A1830 n1831 c1832 2 1 (ints r1828)] := hs.join hs1
           clear hs1
           have hs0 : St _ W w [] := hs.sel [] (by decide)
           refine wpO_nil ⟨Or.inr (fun _ => hs0), ?_⟩
           refine mRun (i := 5) rfl (by kernel_rfl) ?_
           obtain ⟨xs1836, ha1837, hj1757⟩ := bind_some hj1757
           refine sAppendL (i := 1) (xs := r1828) (ys := [x951]) (enc := ints) hf hs rfl rfl rfl rfl rfl rfl hn1833 rfl rfl ha1837 el23 ti2 rfl rfl rfl (hs.rd (i := 0) rfl) (Nat.succ_pos _) ints_len1 ints_append ints_one ?_; clear hf hs; intro a w A1834 c1835 hs hf
           have hs : St _ W w [_, .row A1834 xs1836.length c1835 2 1 (ints xs1836)] := hs
           have hs0 : St _ W w [] := hs.sel [] (by decide)
           refine wpO_nil ⟨Or.inr (fun _ => hs0), ?_⟩
           refine mRun (i := 16) rfl (by kernel_rfl) ?_
           obtain ⟨r1838, hc1839, hj1757⟩ := bind_some hj1757
           refine sCall hf rfl rfl rfl rfl (cap := []) rfl rfl en204 (ih_ p0 aq p0.length au rfl xs1836 A1834 xs1836.length c1835 rfl (IntKind.i64.wrap (p2 + q1801)) p3 _ _ hc1839 (aR.at hs) (hs.rd (i := 1) rfl)) ?_; clear hf
           rintro _ w ⟨A1840, n1841, c1842, A1843, n1844, c1845, ys1846, rfl, hn1847, he1848, hs1⟩ a hf
           have hs : St _ W w [_, _, .row A1843 n1844 c1845 2 1 (ints ys1846)] := hs.join hs1
           clear hs1
           have hs := hs.eiOwn (i := 1) (j := 2) (enc := ints) rfl rfl (by decide) he1848
           have hs : St _ W w [_, .row A1840 n1841 c1842 2 1 (ints r1838)] := hs
           refine wpO_nil ⟨Or.inl (by decide), ?_⟩
           refine mYp (i := 17) rfl (by kernel_rfl) (by kernel_rfl) hf rfl rfl rfl (fun _ => Y_assign rfl rfl) ?_; clear hf; intro a hf
           refine mDone (by kernel_rfl) ?_
           clear hs0
           refine wpL_nil (then_normal ?_)
           exact ⟨r1838, A1840, n1841, c1842, Option.some.inj hj1757, hn1847, (FrD.pick (FrD.pick (FrD.pick (FrD.pick (FrD.pick (FrD.pick (FrD.pick hf.none hf rfl) hf rfl) hf rfl) hf rfl) hf rfl) hf rfl) hf rfl), hs.sel [1] (by decide)⟩
         ·rintro a w ⟨xs1751, A1752, n1753, c1754, hr_, hn1755, hf, hs⟩
          subst hr_
          try dsimp only at hj1627
          refine wpL_seq <| wpL_region ?_
          refine sY hf hs rfl rfl rfl (Y_move rfl rfl) ?_; clear hf; intro a hf
          refine sY hf hs rfl rfl rfl (Y_lenH rfl rfl el23 hn1755) ?_; clear hf; intro a hf
          refine sY hf hs rfl rfl rfl (Y_gtr rfl rfl rfl) ?_; clear hf; intro a hf
          refine wpO_nil ?_
          refine wpL_cond hf rfl (fun hb1849 => ?_) (fun hb1849 => ?_)
          ·have hj1627 := bif_t hj1627 hb1849
           refine wpL_seq <| wpL_region ?_
           refine sY hf hs rfl rfl rfl (Y_move rfl rfl) ?_; clear hf; intro a hf
           refine sY hf hs rfl rfl rfl (Y_assign rfl rfl) ?_; clear hf; intro a hf
           refine wpO_nil ?_
           obtain rfl := Option.some.inj hj1627
           try dsimp only at hm1401
           obtain rfl := Option.some.inj hm1401
           try dsimp only at hm
           obtain rfl := Option.some.inj hm
           refine wpL_ret (Qb_ret (Ql_ret (Qb_ret (ret_tmp rfl hf rfl ?_))))
           exact ⟨_, rfl, A1752, n1753, c1754, A1752, n1753, c1754, xs1751, rfl, hn1755, .inr ⟨rfl, rfl, rfl, rfl⟩, hs⟩
          ·have hj1627 := bif_f hj1627 hb1849
           refine wpL_skip ?_
           refine wpL_nil (Qb_normal ?_)
           exact ⟨Option.some.inj hj1627, (FrD.pick (FrD.pick (FrD.pick (FrD.pick (FrD.pick (FrD.pick hf.none hf rfl) hf rfl) hf rfl) hf rfl) hf rfl) hf rfl), hs.sel [] (by decide)⟩
      ·rintro a w ⟨hr_, hf, hs⟩
       subst hr_
       try dsimp only at hm1401
       refine wpL_region ?_
       refine sY hf hs rfl rfl rfl (Y_move rfl rfl) ?_; clear hf; intro a hf
       refine sY hf hs rfl rfl rfl (Y_add rfl rfl rfl) ?_; clear hf; intro a hf
       refine sY hf hs rfl rfl rfl (Y_assign rfl rfl) ?_; clear hf; intro a hf
       refine wpO_nil ?_
       refine wpL_nil (Ql_normal ?_)
       exact ⟨(IntKind.i64.wrap (x951 + 1)), hm1401, (FrD.pick (FrD.pick (FrD.pick (FrD.pick (FrD.pick (FrD.pick hf.none hf rfl) hf rfl) hf rfl) hf rfl) hf rfl) hf rfl), hs⟩
     ·have hm1401 := bif_f hm1401 hb1403
      refine wpL_exit (Ql_exit (Qb_exit ?_))
      exact ⟨Option.some.inj hm1401, hf.none, hs⟩
   ·rintro a w ⟨hr_, hf, hs⟩
    subst hr_
    try dsimp only at hm
    refine wpL_seq <| wpL_region ?_
    refine sY hf hs rfl rfl rfl (Y_assign rfl rfl) ?_; clear hf; intro a hf
    refine wpO_nil ?_
    have hs : St [] W _ [.row none 0 0 2 1 (ints ([] : List Int))] := hs.addNil 2 1
    obtain rfl := Option.some.inj hm
    refine wpL_ret (ret_tmp rfl hf rfl ?_)
    exact ⟨_, rfl, none, 0, 0, none, 0, 0, ([] : List Int), rfl, rfl, .inr ⟨rfl, rfl, rfl, rfl⟩, hs⟩
theorem spec_l03Grow_rec_ok (F : Nat) : ∀ (k_ : Nat) (p0 : List (List Int)) (aq : Option Addr) (aP au : Nat) (_hn_p0_1 : aP = p0.length) (p1 : List Int) (ay : Option Addr) (aM aB : Nat) (_hn_p1_1 : aM = p1.length) (p2 : Int) (p3 : Int) (r : List Int) (W : World) (_hm : spec_l03Grow_rec F k_ p0 p1 p2 p3 = some r) (_h_p0_1 : RdM W aq p0) (_h_p1_1 : Rd W ay (ints p1)), Calls Try.prog 204 [.slice aq aP au, .slice ay aM aB, .int .i64 p2, .int .i64 p3].toArray W fun e w' => ∃ v, e = .returned v ∧ ∃ A1851, ∃ n1852, ∃ c1853, ∃ A1854, ∃ n1855, ∃ c1856, ∃ ys1857, v = .slice A1851 n1852 c1853 ∧ n1852 = r.length ∧ Ei ay aM aB p1 A1854 n1855 c1856 ys1857 A1851 n1852 c1853 r ∧ St [] W w' [.row A1854 n1855 c1856 2 1 (ints ys1857)]
 | 0 => by intros; simp [spec_l03Grow_rec] at *
 | k_ + 1 => spec_l03Grow_step F k_ (spec_l03Grow_rec_ok F k_)
theorem spec_l03Grow_ok (F : Nat) : ∀ (p0 : List (List Int)) (aq : Option Addr) (aP au : Nat) (_hn_p0_1 : aP = p0.length) (p1 : List Int) (ay : Option Addr) (aM aB : Nat) (_hn_p1_1 : aM = p1.length) (p2 : Int) (p3 : Int) (r : List Int) (W : World) (_hm : spec_l03Grow F p0 p1 p2 p3 = some r) (_h_p0_1 : RdM W aq p0) (_h_p1_1 : Rd W ay (ints p1)), Calls Try.prog 204 [.slice aq aP au, .slice ay aM aB, .int .i64 p2, .int .i64 p3].toArray W fun e w' => ∃ v, e = .returned v ∧ ∃ A1851, ∃ n1852, ∃ c1853, ∃ A1854, ∃ n1855, ∃ c1856, ∃ ys1857, v = .slice A1851 n1852 c1853 ∧ n1852 = r.length ∧ Ei ay aM aB p1 A1854 n1855 c1856 ys1857 A1851 n1852 c1853 r ∧ St [] W w' [.row A1854 n1855 c1856 2 1 (ints ys1857)] := spec_l03Grow_rec_ok F F

set_option maxRecDepth 100000 in
theorem spec_l03Over_ok (F : Nat) (aH : List (List Int)) (aI : Option Addr) (aW aO : Nat) (bn : aW = aH.length) (cr : Int) (r : List Int) (W : World) (hm : spec_l03Over F aH cr = some r) (bk : RdM W aI aH) :
  Calls Try.prog 180 [.slice aI aW aO, .int .i64 cr].toArray W fun e w' => ∃ v, e = .returned v ∧ ∃ A68, ∃ n69, ∃ c70, v = .slice A68 n69 c70 ∧ n69 = r.length ∧ St [] W w' [.row A68 n69 c70 2 1 (ints r)] := by
 subst bn
 unfold spec_l03Over at hm
 refine Calls.enter (N := 22) Try.func180 rfl rfl rfl (fun a hf => ?_)
 have hs := St.start W
 obtain ⟨w, hw_⟩ : ∃ w, w = W := ⟨W, rfl⟩
 clear hw_ w
 refine wpL_seq <| wpL_region ?_
 refine sY hf hs rfl rfl rfl (Y_assign rfl rfl) ?_; clear hf; intro a hf
 refine wpO_nil <| wpL_seq <| wpL_seq <| wpL_region ?_
 refine sY hf hs rfl rfl rfl (Y_assign rfl rfl) ?_; clear hf; intro a hf
 refine wpO_nil ?_
 obtain ⟨r48, hl49, hm⟩ := bind_some hm
 refine wpL_block (fun a w => Sum.inr () = r48 ∧ Fr a 22 [] ∧ St [] W w []) ?_ ?_
 ·refine wpL_loop (fun n a w => ∃ x32 : Int, spec_l03Over_L1 F aH cr n x32 = some r48 ∧ Fr a 22 [(0, .slice aI aH.length aO), (1, .int .i64 cr), (5, .int .i64 x32)] ∧ St [] W w []) F ?_ ?_ ?_
  ·exact ⟨0, hl49, (FrD.pick (FrD.pick (FrD.pick hf.none hf rfl) hf rfl) hf rfl), hs⟩
  ·rintro a w ⟨x32, h0_, -, -⟩; simp [spec_l03Over_L1] at h0_
  ·rintro n51 a w ⟨x32, hm50, hf, hs⟩
   rw [spec_l03Over_L1] at hm50
   refine wpL_seq <| wpL_seq <| wpL_region ?_
   refine sY hf hs rfl rfl rfl (Y_move rfl rfl) ?_; clear hf; intro a hf
   refine sY hf hs rfl rfl rfl (Y_move rfl rfl) ?_; clear hf; intro a hf
   refine sY hf hs rfl rfl rfl (Y_lenH rfl rfl el59 rfl) ?_; clear hf; intro a hf
   refine sY hf hs rfl rfl rfl (Y_lss rfl rfl rfl) ?_; clear hf; intro a hf
   refine wpO_nil ?_
   refine wpL_cond hf rfl (fun hb52 => ?_) (fun hb52 => ?_)
   ·have hm50 := bif_t hm50 hb52
    refine wpL_skip <| wpL_seq <| wpL_block0 <| wpL_seq <| wpL_region ?_
    refine sY hf hs rfl rfl rfl (Y_move rfl rfl) ?_; clear hf; intro a hf
    refine sY hf hs rfl rfl rfl (Y_move rfl rfl) ?_; clear hf; intro a hf
    refine sBuildSlice (parts := [(0, .tmp 14)]) (vs := [.int .i64 x32]) (cells := [.int .i64 x32]) hf hs rfl rfl rfl rfl rfl el23 ti2 rfl rfl rfl rfl ?_; clear hf hs; intro a w A53 hs hA54 hf
    have hs : St _ W w [.row A53 1 1 2 1 (ints ([x32]))] := hs
    refine sY hf hs rfl rfl rfl (Y_move rfl rfl) ?_; clear hf; intro a hf
    obtain ⟨r55, hc56, hm50⟩ := bind_some hm50
    refine sCall hf rfl rfl rfl rfl (cap := []) rfl rfl en204 (spec_l03Grow_ok F aH aI aH.length aO rfl ([x32]) A53 1 1 rfl 0 cr _ _ hc56 (bk.at hs) (hs.rd (i := 0) rfl)) ?_; clear hf
    rintro _ w ⟨A57, n58, c59, A60, n61, c62, ys63, rfl, hn64, he65, hs1⟩ a hf
    have hs : St _ W w [_, .row A60 n61 c62 2 1 (ints ys63)] := hs.join hs1
    clear hs1
    have hs := hs.eiOwn (i := 0) (j := 1) (enc := ints) rfl rfl (by decide) he65
    have hs : St _ W w [.row A57 n58 c59 2 1 (ints r55)] := hs
    refine sY hf hs rfl rfl rfl (Y_assign rfl rfl) ?_; clear hf; intro a hf
    refine wpO_nil <| wpL_seq <| wpL_region ?_
    refine sY hf hs rfl rfl rfl (Y_move rfl rfl) ?_; clear hf; intro a hf
    refine sY hf hs rfl rfl rfl (Y_lenH rfl rfl el23 hn64) ?_; clear hf; intro a hf
    refine sY hf hs rfl rfl rfl (Y_gtr rfl rfl rfl) ?_; clear hf; intro a hf
    refine wpO_nil ?_
    refine wpL_cond hf rfl (fun hb66 => ?_) (fun hb66 => ?_)
    ·have hm50 := bif_t hm50 hb66
     refine wpL_seq <| wpL_region ?_
     refine sY hf hs rfl rfl rfl (Y_move rfl rfl) ?_; clear hf; intro a hf
     refine sY hf hs rfl rfl rfl (Y_assign rfl rfl) ?_; clear hf; intro a hf
     refine wpO_nil ?_
     obtain rfl := Option.some.inj hm50
     try dsimp only at hm
     obtain rfl := Option.some.inj hm
     refine wpL_ret (Qb_ret (Ql_ret (Qb_ret (ret_tmp rfl hf rfl ?_))))
     exact ⟨_, rfl, A57, n58, c59, rfl, hn64, hs⟩
    ·have hm50 := bif_f hm50 hb66
     refine wpL_skip ?_
     refine wpL_nil (Qb_normal ?_)
     refine wpL_region ?_
     refine sY hf hs rfl rfl rfl (Y_move rfl rfl) ?_; clear hf; intro a hf
     refine sY hf hs rfl rfl rfl (Y_add rfl rfl rfl) ?_; clear hf; intro a hf
     refine sY hf hs rfl rfl rfl (Y_assign rfl rfl) ?_; clear hf; intro a hf
     refine wpO_nil ?_
     refine wpL_nil (Ql_normal ?_)
     exact ⟨(IntKind.i64.wrap (x32 + 1)), hm50, (FrD.pick (FrD.pick (FrD.pick hf.none hf rfl) hf rfl) hf rfl), hs.sel [] (by decide)⟩
   ·have hm50 := bif_f hm50 hb52
    refine wpL_exit (Ql_exit (Qb_exit ?_))
    exact ⟨Option.some.inj hm50, hf.none, hs⟩
 ·rintro a w ⟨hr_, hf, hs⟩
  subst hr_
  try dsimp only at hm
  refine wpL_seq <| wpL_region ?_
  refine sY hf hs rfl rfl rfl (Y_assign rfl rfl) ?_; clear hf; intro a hf
  refine wpO_nil ?_
  have hs : St [] W _ [.row none 0 0 2 1 (ints ([] : List Int))] := hs.addNil 2 1
  obtain rfl := Option.some.inj hm
  refine wpL_ret (ret_tmp rfl hf rfl ?_)
  exact ⟨_, rfl, none, 0, 0, rfl, rfl, hs⟩

set_option maxRecDepth 100000 in
theorem spec_l12Dead_ok (F : Nat) (ad : GEventGraph) (ae : Option Addr) (az ah : Nat) (aC : az = ad.Places.length) (r : List Int) (W : World) (hm : spec_l12Dead F ad = some r) (aA : Rd W ae ((recs GPlace.cells) ad.Places)) :
  Calls Try.prog 139 [.agg #[.int .i64 ad.Events, .slice ae az ah]].toArray W fun e w' => ∃ v, e = .returned v ∧ ∃ A15, ∃ n16, ∃ c17, v = .slice A15 n16 c17 ∧ n16 = r.length ∧ St [] W w' [.row A15 n16 c17 2 1 (ints r)] := by
 subst aC
 unfold spec_l12Dead at hm
 refine Calls.enter (N := 6) Try.func139 rfl rfl rfl (fun a hf => ?_)
 have hs := St.start W
 obtain ⟨w, hw_⟩ : ∃ w, w = W := ⟨W, rfl⟩
 clear hw_ w
 refine wpL_seq <| wpL_region ?_
 refine sBox hf hs rfl rfl rfl rfl rfl (cs := [.int .i64 ad.Events, .slice ae ad.Places.length ah]) rfl ?_; clear hf hs; intro a w b1 hs hf
 have hs : St _ W w [.blk b1 52 [.int .i64 ad.Events, .slice ae ad.Places.length ah]] := hs
 refine sY hf hs rfl rfl rfl (Y_assign rfl rfl) ?_; clear hf; intro a hf
 refine wpO_nil <| wpL_seq <| wpL_region ?_
 refine sY hf hs rfl rfl rfl (Y_load_blkS rfl rfl (i := 0) rfl ag52 ti52 rfl) ?_; clear hf; intro a hf
 obtain ⟨r2, hc3, hm⟩ := bind_some hm
 refine sCall hf rfl rfl rfl rfl (cap := []) rfl rfl en181 (spec_l12Free_ok F ad ae ad.Places.length ah rfl _ _ hc3 (aA.at hs)) ?_; clear hf
 rintro _ w ⟨A4, n5, c6, vs8, rfl, hn7, hs1⟩ a hf
 have hs : St _ W w [_, .mat A4 n5 c6 23 2 vs8 r2] := hs.join hs1
 clear hs1
 obtain ⟨r9, hc10, hm⟩ := bind_some hm
 refine sCall hf rfl rfl rfl rfl (cap := []) rfl rfl en180 (spec_l03Over_ok F r2 A4 n5 c6 hn7 (-1) _ _ hc10 (hs.rdM (i := 1) rfl)) ?_; clear hf
 rintro _ w ⟨A11, n12, c13, rfl, hn14, hs1⟩ a hf
 have hs : St _ W w [_, _, .row A11 n12 c13 2 1 (ints r9)] := hs.join hs1
 clear hs1
 refine sY hf hs rfl rfl rfl (Y_assign rfl rfl) ?_; clear hf; intro a hf
 refine wpO_nil ?_
 obtain rfl := Option.some.inj hm
 refine wpL_ret (ret_tmp rfl hf rfl ?_)
 exact ⟨_, rfl, A11, n12, c13, rfl, hn14, hs.sel [2] (by decide)⟩

end Go.Proofs.Ytebmlphobgaboaa
