/- The functions do what their models say. -/
import Derived.Test.YtebmlphobgaboabLatestTablesLifted2
import Derived.Test.YtebmlphobgaboabRows
namespace Go.Proofs.Ytebmlphobgaboab
open Go.RowKit

set_option maxRecDepth 100000 in
theorem impl_IsEventGraph_ok (F : Nat) (ag : GEventGraph) (ah : Option Addr) (ax aj : Nat) (aC : ax = ag.Places.length) (r : Bool) (W : World) (hm : impl_IsEventGraph F ag = some r) (ay : Rd W ah ((recs GPlace.cells) ag.Places)) :
  Calls Try.prog 110 [.agg #[.int .i64 ag.Events, .slice ah ax aj]].toArray W fun e w' => ∃ v, e = .returned v ∧ v = .bool r ∧ St [] W w' [] := by
 subst aC
 unfold impl_IsEventGraph at hm
 refine Calls.enter (N := 19) Try.func110 rfl rfl rfl (fun a hf => ?_)
 have hs := St.start W
 obtain ⟨w, hw_⟩ : ∃ w, w = W := ⟨W, rfl⟩
 clear hw_ w
 refine wpL_seq <| wpL_region ?_
 refine sBox hf hs rfl rfl rfl rfl rfl (cs := [.int .i64 ag.Events, .slice ah ag.Places.length aj]) rfl ?_; clear hf hs; intro a w b1 hs hf
 have hs : St [] W w [.blk b1 55 [.int .i64 ag.Events, .slice ah ag.Places.length aj]] := hs
 refine sY hf hs rfl rfl rfl (Y_assign rfl rfl) ?_; clear hf; intro a hf
 refine wpO_nil <| wpL_seq ?_
 obtain ⟨r9, hj10, hm⟩ := bind_some hm
 refine wpL_cut (fun a w => ∃ b8 : Bool, b8 = r9 ∧ Fr a 19 [(2, .bool b8)] ∧ St [] W w []) ?_ ?_
 ·refine wpL_region ?_
  refine sY hf hs rfl rfl rfl (Y_fieldAddr rfl rfl fo55_0) ?_; clear hf; intro a hf
  refine sY hf hs rfl rfl rfl (Y_load_blk rfl rfl (i := 0) rfl rfl ag2) ?_; clear hf; intro a hf
  obtain ⟨r11, hc12, hj10⟩ := bind_some hj10
  refine sCall hf rfl rfl rfl rfl (cap := []) rfl rfl en71 (impl_within_ok F ag.Events 1 10 _ _ hc12) ?_; clear hf
  rintro _ w ⟨rfl, hs1⟩ a hf
  have hs : St [] W w [.blk b1 55 [.int .i64 ag.Events, .slice ah ag.Places.length aj]] := hs.ext hs1.below
  clear hs1
  refine sY hf hs rfl rfl rfl (Y_move rfl rfl) ?_; clear hf; intro a hf
  refine bsplit r11 (fun hb13 => ?_) (fun hb13 => ?_)
  ·have hj10 := bif_t hj10 hb13
   refine sYg hf hs rfl rfl rfl (congrArg (fun b => some (Value.bool b)) hb13) rfl rfl rfl (Y_fieldAddr rfl rfl fo55_1) ?_; clear hf; intro a hf
   refine sYg hf hs rfl rfl rfl (congrArg (fun b => some (Value.bool b)) hb13) rfl rfl rfl (Y_load_blk rfl rfl (i := 0) rfl rfl ag53) ?_; clear hf; intro a hf
   refine sYg hf hs rfl rfl rfl (congrArg (fun b => some (Value.bool b)) hb13) rfl rfl rfl (Y_lenH rfl rfl el53 rfl) ?_; clear hf; intro a hf
   refine sYg hf hs rfl rfl rfl (congrArg (fun b => some (Value.bool b)) hb13) rfl rfl rfl (Y_leq rfl rfl rfl) ?_; clear hf; intro a hf
   refine sY hf hs rfl rfl rfl (Y_pickT rfl (congrArg (fun b => some (Value.bool b)) hb13) rfl) ?_; clear hf; intro a hf
   refine sY hf hs rfl rfl rfl (Y_move rfl rfl) ?_; clear hf; intro a hf
   refine bsplit (decide ((ag.Places.length : Int) ≤ 30)) (fun hb14 => ?_) (fun hb14 => ?_)
   ·have hj10 := bif_t hj10 hb14
    refine sYg hf hs rfl rfl rfl (congrArg (fun b => some (Value.bool b)) hb14) rfl rfl rfl (Y_fieldAddr rfl rfl fo55_1) ?_; clear hf; intro a hf
    refine sYg hf hs rfl rfl rfl (congrArg (fun b => some (Value.bool b)) hb14) rfl rfl rfl (Y_load_blk rfl rfl (i := 0) rfl rfl ag53) ?_; clear hf; intro a hf
    refine sYg hf hs rfl rfl rfl (congrArg (fun b => some (Value.bool b)) hb14) rfl rfl rfl (Y_makeFunc (us := []) (vs := [.pointer (some ⟨b1, 0, none⟩)]) rfl rfl rfl) ?_; clear hf; intro a hf
    obtain ⟨r15, hc16, hj10⟩ := bind_some hj10
    refine sCallg hf rfl rfl rfl (congrArg (fun b => some (Value.bool b)) hb14) rfl rfl rfl rfl (cap := []) rfl rfl en182 (slices_ContainsFunc_Place_ok F ag.Places ah ag.Places.length aj rfl (fun x0 => impl_IsEventGraph_c1 F x0 ag) 183 ([.pointer (some ⟨b1, 0, none⟩)]) _ _ hc16 (ay.at hs) (fun x0 r w' hm_ hb => impl_IsEventGraph_c1_ok F x0 b1 ag ah ag.Places.length aj rfl r w' hm_ ((ay.at hs).below hb (Nat.le_refl _)) ((hs.pb (i := 0) rfl).below hb (Nat.le_refl _))) en183) ?_; clear hf
    rintro _ w ⟨rfl, hs1⟩ a hf
    have hs : St [] W w [.blk b1 55 [.int .i64 ag.Events, .slice ah ag.Places.length aj]] := hs.ext hs1.below
    clear hs1
    refine sYg hf hs rfl rfl rfl (congrArg (fun b => some (Value.bool b)) hb14) rfl rfl rfl (Y_not rfl rfl) ?_; clear hf; intro a hf
    refine sY hf hs rfl rfl rfl (Y_pickT rfl (congrArg (fun b => some (Value.bool b)) hb14) rfl) ?_; clear hf; intro a hf
    refine sY hf hs rfl rfl rfl (Y_assign rfl rfl) ?_; clear hf; intro a hf
    refine wpO_nil ?_
    refine wpL_nil (then_normal ?_)
    exact ⟨(!r15), Option.some.inj hj10, (FrD.pick hf.none hf rfl), hs.sel [] (by decide)⟩
   ·have hj10 := bif_f hj10 hb14
    refine sNo hf rfl rfl rfl (congrArg (fun b => some (Value.bool b)) hb14) rfl rfl rfl ?_; clear hf; intro a hf
    refine sNo hf rfl rfl rfl (congrArg (fun b => some (Value.bool b)) hb14) rfl rfl rfl ?_; clear hf; intro a hf
    refine sNo hf rfl rfl rfl (congrArg (fun b => some (Value.bool b)) hb14) rfl rfl rfl ?_; clear hf; intro a hf
    refine sNo hf rfl rfl rfl (congrArg (fun b => some (Value.bool b)) hb14) rfl rfl rfl ?_; clear hf; intro a hf
    refine sNo hf rfl rfl rfl (congrArg (fun b => some (Value.bool b)) hb14) rfl rfl rfl ?_; clear hf; intro a hf
    refine sY hf hs rfl rfl rfl (Y_pickF rfl (congrArg (fun b => some (Value.bool b)) hb14) rfl) ?_; clear hf; intro a hf
    refine sY hf hs rfl rfl rfl (Y_assign rfl rfl) ?_; clear hf; intro a hf
    refine wpO_nil ?_
    refine wpL_nil (then_normal ?_)
    exact ⟨false, Option.some.inj hj10, (FrD.pick hf.none hf rfl), hs.sel [] (by decide)⟩
  ·have hj10 := bif_f hj10 hb13
   refine sNo hf rfl rfl rfl (congrArg (fun b => some (Value.bool b)) hb13) rfl rfl rfl ?_; clear hf; intro a hf
   refine sNo hf rfl rfl rfl (congrArg (fun b => some (Value.bool b)) hb13) rfl rfl rfl ?_; clear hf; intro a hf
   refine sNo hf rfl rfl rfl (congrArg (fun b => some (Value.bool b)) hb13) rfl rfl rfl ?_; clear hf; intro a hf
   refine sNo hf rfl rfl rfl (congrArg (fun b => some (Value.bool b)) hb13) rfl rfl rfl ?_; clear hf; intro a hf
   refine sY hf hs rfl rfl rfl (Y_pickF rfl (congrArg (fun b => some (Value.bool b)) hb13) rfl) ?_; clear hf; intro a hf
   refine sY hf hs rfl rfl rfl (Y_move rfl rfl) ?_; clear hf; intro a hf
   refine sNo hf rfl rfl rfl rfl rfl rfl rfl ?_; clear hf; intro a hf
   refine sNo hf rfl rfl rfl rfl rfl rfl rfl ?_; clear hf; intro a hf
   refine sNo hf rfl rfl rfl rfl rfl rfl rfl ?_; clear hf; intro a hf
   refine sNo hf rfl rfl rfl rfl rfl rfl rfl ?_; clear hf; intro a hf
   refine sNo hf rfl rfl rfl rfl rfl rfl rfl ?_; clear hf; intro a hf
   refine sY hf hs rfl rfl rfl (Y_pickF rfl rfl rfl) ?_; clear hf; intro a hf
   refine sY hf hs rfl rfl rfl (Y_assign rfl rfl) ?_; clear hf; intro a hf
   refine wpO_nil ?_
   refine wpL_nil (then_normal ?_)
   exact ⟨false, Option.some.inj hj10, (FrD.pick hf.none hf rfl), hs.sel [] (by decide)⟩
 ·rintro a w ⟨b8, hr_, hf, hs⟩
  subst hr_
  try dsimp only at hm
  obtain rfl := Option.some.inj hm
  refine wpL_ret (ret_tmp rfl hf rfl ?_)
  exact ⟨_, rfl, rfl, hs⟩

set_option maxRecDepth 100000 in
theorem impl_checkPeriod_ok (F : Nat) (ag : GEventGraph) (ah : Option Addr) (ax aj : Nat) (aC : ax = ag.Places.length) (aG : Int) (r : Int) (W : World) (hm : impl_checkPeriod F ag aG = some r) (ay : Rd W ah ((recs GPlace.cells) ag.Places)) :
  Calls Try.prog 118 [.agg #[.int .i64 ag.Events, .slice ah ax aj], .int .i64 aG].toArray W fun e w' => ∃ v, e = .returned v ∧ v = .int .i64 r ∧ St [] W w' [] := by
 subst aC
 unfold impl_checkPeriod at hm
 refine Calls.enter (N := 13) Try.func118 rfl rfl rfl (fun a hf => ?_)
 have hs := St.start W
 obtain ⟨w, hw_⟩ : ∃ w, w = W := ⟨W, rfl⟩
 clear hw_ w
 refine wpL_seq <| wpL_region ?_
 refine sBox hf hs rfl rfl rfl rfl rfl (cs := [.int .i64 ag.Events, .slice ah ag.Places.length aj]) rfl ?_; clear hf hs; intro a w b1 hs hf
 have hs : St [] W w [.blk b1 55 [.int .i64 ag.Events, .slice ah ag.Places.length aj]] := hs
 refine sY hf hs rfl rfl rfl (Y_assign rfl rfl) ?_; clear hf; intro a hf
 refine wpO_nil <| wpL_seq <| wpL_block0 <| wpL_seq <| wpL_region ?_
 refine sY hf hs rfl rfl rfl (Y_load_blkS rfl rfl (i := 0) rfl ag55 ti55 rfl) ?_; clear hf; intro a hf
 obtain ⟨r2, hc3, hm⟩ := bind_some hm
 refine sCall hf rfl rfl rfl rfl (cap := []) rfl rfl en110 (impl_IsEventGraph_ok F ag ah ag.Places.length aj rfl _ _ hc3 (ay.at hs)) ?_; clear hf
 rintro _ w ⟨rfl, hs1⟩ a hf
 have hs : St [] W w [.blk b1 55 [.int .i64 ag.Events, .slice ah ag.Places.length aj]] := hs.ext hs1.below
 clear hs1
 refine sY hf hs rfl rfl rfl (Y_not rfl rfl) ?_; clear hf; intro a hf
 refine sY hf hs rfl rfl rfl (Y_assign rfl rfl) ?_; clear hf; intro a hf
 refine wpO_nil ?_
 refine wpL_cond hf rfl (fun hb4 => ?_) (fun hb4 => ?_)
 ·have hm := bif_t hm hb4
  refine wpL_seq <| wpL_region ?_
  refine sY hf hs rfl rfl rfl (Y_assign rfl rfl) ?_; clear hf; intro a hf
  refine wpO_nil ?_
  obtain rfl := Option.some.inj hm
  refine wpL_ret (Qb_ret (ret_tmp rfl hf rfl ?_))
  exact ⟨_, rfl, rfl, hs.sel [] (by decide)⟩
 ·have hm := bif_f hm hb4
  refine wpL_seq <| wpL_region ?_
  refine sY hf hs rfl rfl rfl (Y_move rfl rfl) ?_; clear hf; intro a hf
  obtain ⟨r5, hc6, hm⟩ := bind_some hm
  refine sCall hf rfl rfl rfl rfl (cap := []) rfl rfl en71 (impl_within_ok F aG 0 100000 _ _ hc6) ?_; clear hf
  rintro _ w ⟨rfl, hs1⟩ a hf
  have hs : St [] W w [.blk b1 55 [.int .i64 ag.Events, .slice ah ag.Places.length aj]] := hs.ext hs1.below
  clear hs1
  refine sY hf hs rfl rfl rfl (Y_not rfl rfl) ?_; clear hf; intro a hf
  refine sY hf hs rfl rfl rfl (Y_assign rfl rfl) ?_; clear hf; intro a hf
  refine wpO_nil ?_
  refine wpL_cond hf rfl (fun hb7 => ?_) (fun hb7 => ?_)
  ·have hm := bif_t hm hb7
   refine wpL_seq <| wpL_region ?_
   refine sY hf hs rfl rfl rfl (Y_assign rfl rfl) ?_; clear hf; intro a hf
   refine wpO_nil ?_
   obtain rfl := Option.some.inj hm
   refine wpL_ret (Qb_ret (ret_tmp rfl hf rfl ?_))
   exact ⟨_, rfl, rfl, hs.sel [] (by decide)⟩
  ·have hm := bif_f hm hb7
   refine wpL_skip ?_
   refine wpL_nil (Qb_normal ?_)
   refine wpL_seq <| wpL_region ?_
   refine sY hf hs rfl rfl rfl (Y_assign rfl rfl) ?_; clear hf; intro a hf
   refine wpO_nil ?_
   obtain rfl := Option.some.inj hm
   refine wpL_ret (ret_tmp rfl hf rfl ?_)
   exact ⟨_, rfl, rfl, hs.sel [] (by decide)⟩

set_option maxRecDepth 100000 in
theorem impl_allWithin_ok (F : Nat) (bh : List Int) (bj : Option Addr) (bA bB : Nat) (bP : bA = bh.length) (bJ : Int) (bC : Int) (r : Bool) (W : World) (hm : impl_allWithin F bh bJ bC = some r) (bI : Rd W bj (ints bh)) :
  Calls Try.prog 74 [.slice bj bA bB, .int .i64 bJ, .int .i64 bC].toArray W fun e w' => ∃ v, e = .returned v ∧ v = .bool r ∧ St [] W w' [] := by
 subst bP
 unfold impl_allWithin at hm
 refine Calls.enter (N := 21) Try.func74 rfl rfl rfl (fun a hf => ?_)
 have hs := St.start W
 obtain ⟨w, hw_⟩ : ∃ w, w = W := ⟨W, rfl⟩
 clear hw_ w
 refine wpL_seq <| wpL_region ?_
 refine sY hf hs rfl rfl rfl (Y_assign rfl rfl) ?_; clear hf; intro a hf
 refine wpO_nil <| wpL_seq <| wpL_seq <| wpL_region ?_
 refine sY hf hs rfl rfl rfl (Y_move rfl rfl) ?_; clear hf; intro a hf
 refine sY hf hs rfl rfl rfl (Y_lenH rfl rfl el28 rfl) ?_; clear hf; intro a hf
 refine sY hf hs rfl rfl rfl (Y_move rfl rfl) ?_; clear hf; intro a hf
 refine wpO_nil ?_
 obtain ⟨r21, hl22, hm⟩ := bind_some hm
 refine wpL_block (fun a w => Sum.inr () = r21 ∧ Fr a 21 [] ∧ St [] W w []) ?_ ?_
 ·refine wpL_loop (fun n a w => ∃ x14 : Int, impl_allWithin_L1 F bh bJ bC n x14 = some r21 ∧ Fr a 21 [(1, .int .i64 bJ), (2, .int .i64 bC), (9, .slice bj bh.length bB), (10, .int .i64 (bh.length : Int)), (11, .int .i64 x14)] ∧ St [] W w []) F ?_ ?_ ?_
  ·exact ⟨0, hl22, (FrD.pick (FrD.pick (FrD.pick (FrD.pick (FrD.pick hf.none hf rfl) hf rfl) hf rfl) hf rfl) hf rfl), hs⟩
  ·rintro a w ⟨x14, h0_, -, -⟩; simp [impl_allWithin_L1] at h0_
  ·rintro n24 a w ⟨x14, hm23, hf, hs⟩
   rw [impl_allWithin_L1] at hm23
   refine wpL_seq <| wpL_region ?_
   refine sY hf hs rfl rfl rfl (Y_lss rfl rfl rfl) ?_; clear hf; intro a hf
   refine wpO_nil <| wpL_seq ?_
   refine wpL_cond hf rfl (fun hb25 => ?_) (fun hb25 => ?_)
   ·have hm23 := bif_t hm23 hb25
    refine wpL_skip <| wpL_seq <| wpL_block0 <| wpL_seq <| wpL_region ?_
    obtain ⟨q26, hi27, hm23⟩ := bind_some hm23
    obtain ⟨hi27a, hi27b, hi27q⟩ := idx_some hi27
    refine sY hf hs rfl rfl rfl (Y_index rfl rfl rfl el28 ti2 (Rd.isAt (bI.at hs) (at1 (ints_at hi27q))) hi27a hi27b) ?_; clear hf; intro a hf
    refine sY hf hs rfl rfl rfl (Y_load_rd rfl rfl (fun w hs => bI.at hs) (at1 (ints_at hi27q)) ag2) ?_; clear hf; intro a hf
    refine sY hf hs rfl rfl rfl (Y_assign rfl rfl) ?_; clear hf; intro a hf
    refine wpO_nil <| wpL_seq <| wpL_region ?_
    refine sY hf hs rfl rfl rfl (Y_move rfl rfl) ?_; clear hf; intro a hf
    refine sY hf hs rfl rfl rfl (Y_move rfl rfl) ?_; clear hf; intro a hf
    refine sY hf hs rfl rfl rfl (Y_move rfl rfl) ?_; clear hf; intro a hf
    obtain ⟨r28, hc29, hm23⟩ := bind_some hm23
    refine sCall hf rfl rfl rfl rfl (cap := []) rfl rfl en71 (impl_within_ok F q26 bJ bC _ _ hc29) ?_; clear hf
    rintro _ w ⟨rfl, hs1⟩ a hf
    have hs : St [] W w [] := hs.ext hs1.below
    clear hs1
    refine sY hf hs rfl rfl rfl (Y_not rfl rfl) ?_; clear hf; intro a hf
    refine wpO_nil ?_
    refine wpL_cond hf rfl (fun hb30 => ?_) (fun hb30 => ?_)
    ·have hm23 := bif_t hm23 hb30
     refine wpL_seq <| wpL_region ?_
     refine sY hf hs rfl rfl rfl (Y_assign rfl rfl) ?_; clear hf; intro a hf
     refine wpO_nil ?_
     obtain rfl := Option.some.inj hm23
     try dsimp only at hm
     obtain rfl := Option.some.inj hm
     refine wpL_ret (Qb_ret (Ql_ret (Qb_ret (ret_tmp rfl hf rfl ?_))))
     exact ⟨_, rfl, rfl, hs⟩
    ·have hm23 := bif_f hm23 hb30
     refine wpL_skip ?_
     refine wpL_nil (Qb_normal ?_)
     refine wpL_region ?_
     refine sY hf hs rfl rfl rfl (Y_add rfl rfl rfl) ?_; clear hf; intro a hf
     refine sY hf hs rfl rfl rfl (Y_move rfl rfl) ?_; clear hf; intro a hf
     refine wpO_nil ?_
     refine wpL_nil (Ql_normal ?_)
     exact ⟨(IntKind.i64.wrap (x14 + 1)), hm23, (FrD.pick (FrD.pick (FrD.pick (FrD.pick (FrD.pick hf.none hf rfl) hf rfl) hf rfl) hf rfl) hf rfl), hs⟩
   ·have hm23 := bif_f hm23 hb25
    refine wpL_exit (Ql_exit (Qb_exit ?_))
    exact ⟨Option.some.inj hm23, hf.none, hs⟩
 ·rintro a w ⟨hr_, hf, hs⟩
  subst hr_
  try dsimp only at hm
  refine wpL_seq <| wpL_region ?_
  refine sY hf hs rfl rfl rfl (Y_assign rfl rfl) ?_; clear hf; intro a hf
  refine wpO_nil ?_
  obtain rfl := Option.some.inj hm
  refine wpL_ret (ret_tmp rfl hf rfl ?_)
  exact ⟨_, rfl, rfl, hs⟩

set_option maxRecDepth 100000 in
theorem impl_placeWeight_ok (F : Nat) (aM : GPlace) (aA : GRatio) (r : Int) (W : World) (hm : impl_placeWeight F aM aA = some r) :
  Calls Try.prog 188 [.agg #[.int .i64 aM.From, .int .i64 aM.To, .int .i64 aM.Delay, .int .i64 aM.Tokens], .agg #[.int .i64 aA.Num, .int .i64 aA.Den]].toArray W fun e w' => ∃ v, e = .returned v ∧ v = .int .i64 r ∧ St [] W w' [] := by
 unfold impl_placeWeight at hm
 refine Calls.enter (N := 16) Try.func188 rfl rfl rfl (fun a hf => ?_)
 have hs := St.start W
 obtain ⟨w, hw_⟩ : ∃ w, w = W := ⟨W, rfl⟩
 clear hw_ w
 refine wpL_seq <| wpL_region ?_
 refine sBox hf hs rfl rfl rfl rfl rfl (cs := [.int .i64 aM.From, .int .i64 aM.To, .int .i64 aM.Delay, .int .i64 aM.Tokens]) rfl ?_; clear hf hs; intro a w b1 hs hf
 have hs : St [] W w [.blk b1 64 [.int .i64 aM.From, .int .i64 aM.To, .int .i64 aM.Delay, .int .i64 aM.Tokens]] := hs
 refine sBox hf hs rfl rfl rfl rfl rfl (cs := [.int .i64 aA.Num, .int .i64 aA.Den]) rfl ?_; clear hf hs; intro a w b2 hs hf
 have hs : St [] W w [.blk b1 64 [.int .i64 aM.From, .int .i64 aM.To, .int .i64 aM.Delay, .int .i64 aM.Tokens], .blk b2 129 [.int .i64 aA.Num, .int .i64 aA.Den]] := hs
 refine sY hf hs rfl rfl rfl (Y_assign rfl rfl) ?_; clear hf; intro a hf
 refine wpO_nil <| wpL_seq <| wpL_region ?_
 refine sY hf hs rfl rfl rfl (Y_fieldAddr rfl rfl fo129_1) ?_; clear hf; intro a hf
 refine sY hf hs rfl rfl rfl (Y_load_blk rfl rfl (i := 1) rfl rfl ag2) ?_; clear hf; intro a hf
 refine sY hf hs rfl rfl rfl (Y_fieldAddr rfl rfl fo64_2) ?_; clear hf; intro a hf
 refine sY hf hs rfl rfl rfl (Y_load_blk rfl rfl (i := 0) rfl rfl ag2) ?_; clear hf; intro a hf
 refine sY hf hs rfl rfl rfl (Y_mul rfl rfl rfl) ?_; clear hf; intro a hf
 refine sY hf hs rfl rfl rfl (Y_fieldAddr rfl rfl fo129_0) ?_; clear hf; intro a hf
 refine sY hf hs rfl rfl rfl (Y_load_blk rfl rfl (i := 1) rfl rfl ag2) ?_; clear hf; intro a hf
 refine sY hf hs rfl rfl rfl (Y_fieldAddr rfl rfl fo64_3) ?_; clear hf; intro a hf
 refine sY hf hs rfl rfl rfl (Y_load_blk rfl rfl (i := 0) rfl rfl ag2) ?_; clear hf; intro a hf
 refine sY hf hs rfl rfl rfl (Y_mul rfl rfl rfl) ?_; clear hf; intro a hf
 refine sY hf hs rfl rfl rfl (Y_sub rfl rfl rfl) ?_; clear hf; intro a hf
 refine sY hf hs rfl rfl rfl (Y_assign rfl rfl) ?_; clear hf; intro a hf
 refine wpO_nil ?_
 obtain rfl := Option.some.inj hm
 refine wpL_ret (ret_tmp rfl hf rfl ?_)
 exact ⟨_, rfl, rfl, hs.sel [] (by decide)⟩

set_option maxRecDepth 100000 in
theorem slices_Reverse_int64_ok (F : Nat) (aT : List Int) (aK : Option Addr) (aY aQ : Nat) (bu : aY = aT.length) (r : (Unit) × List Int) (W : World) (hm : slices_Reverse_int64 F aT = some r) (bo : (Res.row aK aY aQ 2 1 (ints aT) : Res).holds 0 W) :
  Calls Try.prog 189 [.slice aK aY aQ].toArray W fun e w' => ∃ v, e = .returned v ∧ v = .tuple #[] ∧ aY = r.2.length ∧ St (muA aK) W w' [.row aK aY aQ 2 1 (ints r.2)] := by
 subst bu
 unfold slices_Reverse_int64 at hm
 refine Calls.enter (N := 28) Try.func189 rfl rfl rfl (fun a hf => ?_)
 have hs : St (muA aK) W W [.row aK aT.length aQ 2 1 (ints aT)] := St.startMut bo (fun b hb => mem_muA hb)
 obtain ⟨w, hw_⟩ : ∃ w, w = W := ⟨W, rfl⟩
 clear hw_ w
 refine wpL_seq <| wpL_region ?_
 refine sY hf hs rfl rfl rfl (Y_move rfl rfl) ?_; clear hf; intro a hf
 refine sY hf hs rfl rfl rfl (Y_lenH rfl rfl el28 rfl) ?_; clear hf; intro a hf
 refine sY hf hs rfl rfl rfl (Y_sub rfl rfl rfl) ?_; clear hf; intro a hf
 refine sY hf hs rfl rfl rfl (Y_assign rfl rfl) ?_; clear hf; intro a hf
 refine sY hf hs rfl rfl rfl (Y_assign rfl rfl) ?_; clear hf; intro a hf
 refine wpO_nil ?_
 obtain ⟨r50, hl51, hm⟩ := bind_some hm
 refine wpL_block (fun a w => ∃ xs48 : List Int, xs48 = r50 ∧ aT.length = xs48.length ∧ Fr a 28 [] ∧ St (muA aK) W w [.row aK aT.length aQ 2 1 (ints xs48)]) ?_ ?_
 ·refine wpL_loop (fun n a w => ∃ xs31 : List Int, ∃ x33 : Int, ∃ x34 : Int, slices_Reverse_int64_L1 F n xs31 x33 x34 = some r50 ∧ aT.length = xs31.length ∧ Fr a 28 [(0, .slice aK aT.length aQ), (2, .int .i64 x33), (3, .int .i64 x34)] ∧ St (muA aK) W w [.row aK aT.length aQ 2 1 (ints xs31)]) F ?_ ?_ ?_
  ·exact ⟨aT, 0, (IntKind.i64.wrap ((aT.length : Int) - 1)), hl51, rfl, (FrD.pick (FrD.pick (FrD.pick hf.none hf rfl) hf rfl) hf rfl), hs⟩
  ·rintro a w ⟨xs31, x33, x34, h0_, -, -, -⟩; simp [slices_Reverse_int64_L1] at h0_
  ·rintro n53 a w ⟨xs31, x33, x34, hm52, hn32, hf, hs⟩
   rw [slices_Reverse_int64_L1] at hm52
   refine wpL_seq <| wpL_seq <| wpL_region ?_
   refine sY hf hs rfl rfl rfl (Y_move rfl rfl) ?_; clear hf; intro a hf
   refine sY hf hs rfl rfl rfl (Y_move rfl rfl) ?_; clear hf; intro a hf
   refine sY hf hs rfl rfl rfl (Y_lss rfl rfl rfl) ?_; clear hf; intro a hf
   refine wpO_nil ?_
   refine wpL_cond hf rfl (fun hb54 => ?_) (fun hb54 => ?_)
   ·have hm52 := bif_t hm52 hb54
    refine wpL_skip <| wpL_seq <| wpL_block0 ?_
    refine wpL_drawM [.row aK aT.length aQ 2 1 (ints xs31)] [13, 15] (by kernel_rfl) hs ?_; clear hs; intro w hs
    have hs0 : St (muA aK) W w [.row aK aT.length aQ 2 1 (ints xs31)] := hs
    refine mYp (i := 0) rfl (by kernel_rfl) (by kernel_rfl) hf rfl rfl rfl (fun _ => Y_move rfl rfl) ?_; clear hf; intro a hf
    refine mYp (i := 1) rfl (by kernel_rfl) (by kernel_rfl) hf rfl rfl rfl (fun _ => Y_move rfl rfl) ?_; clear hf; intro a hf
    refine mYp (i := 2) rfl (by kernel_rfl) (by kernel_rfl) hf rfl rfl rfl (fun _ => Y_move rfl rfl) ?_; clear hf; intro a hf
    refine mYp (i := 3) rfl (by kernel_rfl) (by kernel_rfl) hf rfl rfl rfl (fun _ => Y_move rfl rfl) ?_; clear hf; intro a hf
    refine mYp (i := 4) rfl (by kernel_rfl) (by kernel_rfl) hf rfl rfl rfl (fun _ => Y_move rfl rfl) ?_; clear hf; intro a hf
    refine mYp (i := 5) rfl (by kernel_rfl) (by kernel_rfl) hf rfl rfl rfl (fun _ => Y_move rfl rfl) ?_; clear hf; intro a hf
    obtain ⟨q55, hi56, hm52⟩ := bind_some hm52
    obtain ⟨hi56a, hi56b, hi56q⟩ := idx_some hi56
    refine mYp (i := 6) rfl (by kernel_rfl) (by kernel_rfl) hf rfl rfl rfl (fun _ => Y_index rfl rfl rfl el28 ti2 (Rd.isAt (hs.rd (i := 0) rfl) (at1 (ints_at hi56q))) hi56a (ltn hn32 hi56b)) ?_; clear hf; intro a hf
    refine mY (i := 7) [[], []] rfl (by kernel_rfl) (by kernel_rfl) hf hs0 rfl rfl rfl (Y_load_rd rfl rfl (fun w hs => hs.rd (i := 0) rfl) (at1 (ints_at hi56q)) ag2) ?_; clear hf; intro a hf
    refine mYp (i := 8) rfl (by kernel_rfl) (by kernel_rfl) hf rfl rfl rfl (fun _ => Y_move rfl rfl) ?_; clear hf; intro a hf
    refine mYp (i := 9) rfl (by kernel_rfl) (by kernel_rfl) hf rfl rfl rfl (fun _ => Y_move rfl rfl) ?_; clear hf; intro a hf
    obtain ⟨q57, hi58, hm52⟩ := bind_some hm52
    obtain ⟨hi58a, hi58b, hi58q⟩ := idx_some hi58
    refine mYp (i := 10) rfl (by kernel_rfl) (by kernel_rfl) hf rfl rfl rfl (fun _ => Y_index rfl rfl rfl el28 ti2 (Rd.isAt (hs.rd (i := 0) rfl) (at1 (ints_at hi58q))) hi58a (ltn hn32 hi58b)) ?_; clear hf; intro a hf
    refine mY (i := 11) [[], []] rfl (by kernel_rfl) (by kernel_rfl) hf hs0 rfl rfl rfl (Y_load_rd rfl rfl (fun w hs => hs.rd (i := 0) rfl) (at1 (ints_at hi58q)) ag2) ?_; clear hf; intro a hf
    obtain ⟨q59, hi60, hm52⟩ := bind_some hm52
    obtain ⟨hi60a, hi60b, hi60q⟩ := idx_some hi60
    refine mYp (i := 12) rfl (by kernel_rfl) (by kernel_rfl) hf rfl rfl rfl (fun _ => Y_index rfl rfl rfl el28 ti2 (Rd.isAt (hs.rd (i := 0) rfl) (at1 (ints_at hi60q))) hi60a (ltn hn32 hi60b)) ?_; clear hf; intro a hf
    refine mRun (i := 13) rfl (by kernel_rfl) ?_
    obtain ⟨xs61, hu62, hm52⟩ := bind_some hm52
    refine sStoreL (i := 0) (us := [.int .i64 q55]) (enc := ints) hf hs rfl rfl rfl rfl rfl rfl hn32 hu62 ti2 rfl rfl rfl rfl rfl ints_len1 (ints_set q55) ?_; clear hs; intro w hs
    have hs : St (muA aK) W w [.row aK aT.length aQ 2 1 (ints xs61)] := hs
    refine wpO_nil ⟨Or.inl (by decide), ?_⟩
    obtain ⟨q63, hi64, hm52⟩ := bind_some hm52
    obtain ⟨hi64a, hi64b, hi64q⟩ := idx_some hi64
    refine mYp (i := 14) rfl (by kernel_rfl) (by kernel_rfl) hf rfl rfl rfl (fun _ => Y_index rfl rfl rfl el28 ti2 (Rd.isAt (hs.rd (i := 0) rfl) (at1 (ints_at hi64q))) hi64a (ltn ((hn32).trans (upd_len hu62).symm) hi64b)) ?_; clear hf; intro a hf
    refine mRun (i := 15) rfl (by kernel_rfl) ?_
    obtain ⟨xs65, hu66, hm52⟩ := bind_some hm52
    refine sStoreL (i := 0) (us := [.int .i64 q57]) (enc := ints) hf hs rfl rfl rfl rfl rfl rfl ((hn32).trans (upd_len hu62).symm) hu66 ti2 rfl rfl rfl rfl rfl ints_len1 (ints_set q57) ?_; clear hs; intro w hs
    have hs : St (muA aK) W w [.row aK aT.length aQ 2 1 (ints xs65)] := hs
    refine wpO_nil ⟨Or.inl (by decide), ?_⟩
    refine mDone (by kernel_rfl) ?_
    clear hs0
    refine wpL_nil (Qb_normal ?_)
    refine wpL_region ?_
    refine sY hf hs rfl rfl rfl (Y_move rfl rfl) ?_; clear hf; intro a hf
    refine sY hf hs rfl rfl rfl (Y_add rfl rfl rfl) ?_; clear hf; intro a hf
    refine sY hf hs rfl rfl rfl (Y_move rfl rfl) ?_; clear hf; intro a hf
    refine sY hf hs rfl rfl rfl (Y_sub rfl rfl rfl) ?_; clear hf; intro a hf
    refine sY hf hs rfl rfl rfl (Y_assign rfl rfl) ?_; clear hf; intro a hf
    refine sY hf hs rfl rfl rfl (Y_assign rfl rfl) ?_; clear hf; intro a hf
    refine wpO_nil ?_
    refine wpL_nil (Ql_normal ?_)
    exact ⟨xs65, (IntKind.i64.wrap (x33 + 1)), (IntKind.i64.wrap (x34 - 1)), hm52, ((((hn32).trans (upd_len hu62).symm)).trans (upd_len hu66).symm), (FrD.pick (FrD.pick (FrD.pick hf.none hf rfl) hf rfl) hf rfl), hs⟩
   ·have hm52 := bif_f hm52 hb54
    refine wpL_exit (Ql_exit (Qb_exit ?_))
    exact ⟨xs31, Option.some.inj hm52, hn32, hf.none, hs⟩
 ·rintro a w ⟨xs48, hr_, hn49, hf, hs⟩
  subst hr_
  try dsimp only at hm
  obtain rfl := Option.some.inj hm
  refine wpL_nil (ret_end (ret_none rfl hf ?_))
  exact ⟨_, rfl, rfl, hn49, hs⟩

set_option maxHeartbeats 2000000 in
set_option maxRecDepth 100000 in
theorem impl_betterCircuit_ok (F : Nat) (p0 : GEventGraph) (ao : Option Addr) (aZ aq : Nat) (bK : aZ = p0.Places.length) (p1 : GRatio) (r : List Int) (W : World) (hm : impl_betterCircuit F p0 p1 = some r) (aV : Rd W ao ((recs GPlace.cells) p0.Places)) :
  Calls Try.prog 119 [.agg #[.int .i64 p0.Events, .slice ao aZ aq], .agg #[.int .i64 p1.Num, .int .i64 p1.Den]].toArray W fun e w' => ∃ v, e = .returned v ∧ ∃ A663, ∃ n664, ∃ c665, v = .slice A663 n664 c665 ∧ n664 = r.length ∧ (r = [] → A663 = none) ∧ St [] W w' [.row A663 n664 c665 2 1 (ints r)] := by
 subst bK
 unfold impl_betterCircuit at hm
 refine Calls.enter (N := 101) Try.func119 rfl rfl rfl (fun a hf => ?_)
 have hs := St.start W
 obtain ⟨w, hw_⟩ : ∃ w, w = W := ⟨W, rfl⟩
 clear hw_ w
 refine wpL_seq <| wpL_region ?_
 refine sBox hf hs rfl rfl rfl rfl rfl (cs := [.int .i64 p0.Events, .slice ao p0.Places.length aq]) rfl ?_; clear hf hs; intro a w b1 hs hf
 have hs : St [] W w [.blk b1 55 [.int .i64 p0.Events, .slice ao p0.Places.length aq]] := hs
 refine sBox hf hs rfl rfl rfl rfl rfl (cs := [.int .i64 p1.Num, .int .i64 p1.Den]) rfl ?_; clear hf hs; intro a w b2 hs hf
 have hs : St [] W w [.blk b1 55 [.int .i64 p0.Events, .slice ao p0.Places.length aq], .blk b2 129 [.int .i64 p1.Num, .int .i64 p1.Den]] := hs
 refine sY hf hs rfl rfl rfl (Y_assign rfl rfl) ?_; clear hf; intro a hf
 refine wpO_nil <| wpL_seq <| wpL_region ?_
 refine sY hf hs rfl rfl rfl (Y_fieldAddr rfl rfl fo55_0) ?_; clear hf; intro a hf
 refine sY hf hs rfl rfl rfl (Y_load_blk rfl rfl (i := 0) rfl rfl ag2) ?_; clear hf; intro a hf
 obtain ⟨xs5, hk4, hm⟩ := bind_some hm
 refine sMakeL (enc := ints) hf hs rfl rfl rfl rfl rfl hk4 el28 ti2 rfl ints_made ?_; clear hf hs; intro a w A3 hs hf
 have hs : St [] W w [.blk b1 55 [.int .i64 p0.Events, .slice ao p0.Places.length aq], .blk b2 129 [.int .i64 p1.Num, .int .i64 p1.Den], .row A3 xs5.length xs5.length 2 1 (ints xs5)] := hs
 refine sY hf hs rfl rfl rfl (Y_assign rfl rfl) ?_; clear hf; intro a hf
 refine wpO_nil <| wpL_seq <| wpL_region ?_
 refine sY hf hs rfl rfl rfl (Y_fieldAddr rfl rfl fo55_0) ?_; clear hf; intro a hf
 refine sY hf hs rfl rfl rfl (Y_load_blk rfl rfl (i := 0) rfl rfl ag2) ?_; clear hf; intro a hf
 obtain ⟨xs8, hk7, hm⟩ := bind_some hm
 refine sMakeL (enc := ints) hf hs rfl rfl rfl rfl rfl hk7 el28 ti2 rfl ints_made ?_; clear hf hs; intro a w A6 hs hf
 have hs : St [] W w [.blk b1 55 [.int .i64 p0.Events, .slice ao p0.Places.length aq], .blk b2 129 [.int .i64 p1.Num, .int .i64 p1.Den], .row A3 xs5.length xs5.length 2 1 (ints xs5), .row A6 xs8.length xs8.length 2 1 (ints xs8)] := hs
 refine sY hf hs rfl rfl rfl (Y_assign rfl rfl) ?_; clear hf; intro a hf
 refine wpO_nil <| wpL_seq <| wpL_region ?_
 refine sY hf hs rfl rfl rfl (Y_assign rfl rfl) ?_; clear hf; intro a hf
 refine wpO_nil <| wpL_seq <| wpL_seq <| wpL_region ?_
 refine sY hf hs rfl rfl rfl (Y_fieldAddr rfl rfl fo55_0) ?_; clear hf; intro a hf
 refine sY hf hs rfl rfl rfl (Y_load_blk rfl rfl (i := 0) rfl rfl ag2) ?_; clear hf; intro a hf
 refine sY hf hs rfl rfl rfl (Y_add rfl rfl rfl) ?_; clear hf; intro a hf
 refine sY hf hs rfl rfl rfl (Y_move rfl rfl) ?_; clear hf; intro a hf
 refine wpO_nil ?_
 obtain ⟨r417, hl418, hm⟩ := bind_some hm
 refine wpL_block (fun a w => ∃ xs414 : List Int, ∃ x416 : Int, Sum.inr (xs414, x416) = r417 ∧ xs8.length = xs414.length ∧ Fr a 101 [(2, .pointer (some ⟨b1, 0, none⟩)), (6, .slice A6 xs8.length xs8.length), (7, .int .i64 x416)] ∧ St [] W w [.blk b1 55 [.int .i64 p0.Events, .slice ao p0.Places.length aq], .row A6 xs8.length xs8.length 2 1 (ints xs414)]) ?_ ?_
 ·refine wpL_loop (fun n a w => ∃ xs277 : List Int, ∃ xs279 : List Int, ∃ x281 : Int, ∃ x282 : Int, impl_betterCircuit_L4 F p0 p1 n xs277 xs279 x281 x282 = some r417 ∧ xs5.length = xs277.length ∧ xs8.length = xs279.length ∧ Fr a 101 [(2, .pointer (some ⟨b1, 0, none⟩)), (3, .pointer (some ⟨b2, 0, none⟩)), (5, .slice A3 xs5.length xs5.length), (6, .slice A6 xs8.length xs8.length), (7, .int .i64 x281), (21, .int .i64 (IntKind.i64.wrap (p0.Events + 1))), (22, .int .i64 x282)] ∧ St [] W w [.blk b1 55 [.int .i64 p0.Events, .slice ao p0.Places.length aq], .blk b2 129 [.int .i64 p1.Num, .int .i64 p1.Den], .row A3 xs5.length xs5.length 2 1 (ints xs277), .row A6 xs8.length xs8.length 2 1 (ints xs279)]) F ?_ ?_ ?_
  ·exact ⟨xs5, xs8, (-1), 0, hl418, rfl, rfl, (FrD.pick (FrD.pick (FrD.pick (FrD.pick (FrD.pick (FrD.pick (FrD.pick hf.none hf rfl) hf rfl) hf rfl) hf rfl) hf rfl) hf rfl) hf rfl), hs⟩
  ·rintro a w ⟨xs277, xs279, x281, x282, h0_, -, -, -, -⟩; simp [impl_betterCircuit_L4] at h0_
  ·rintro n420 a w ⟨xs277, xs279, x281, x282, hm419, hn278, hn280, hf, hs⟩
   rw [impl_betterCircuit_L4] at hm419
   refine wpL_seq <| wpL_region ?_
   refine sY hf hs rfl rfl rfl (Y_lss rfl rfl rfl) ?_; clear hf; intro a hf
   refine wpO_nil <| wpL_seq ?_
   refine wpL_cond hf rfl (fun hb421 => ?_) (fun hb421 => ?_)
   ·have hm419 := bif_t hm419 hb421
    refine wpL_skip <| wpL_seq <| wpL_block0 <| wpL_seq <| wpL_region ?_
    refine sY hf hs rfl rfl rfl (Y_assign rfl rfl) ?_; clear hf; intro a hf
    refine wpO_nil <| wpL_seq <| wpL_seq <| wpL_region ?_
    refine sY hf hs rfl rfl rfl (Y_fieldAddr rfl rfl fo55_1) ?_; clear hf; intro a hf
    refine sY hf hs rfl rfl rfl (Y_load_blk rfl rfl (i := 0) rfl rfl ag53) ?_; clear hf; intro a hf
    refine sY hf hs rfl rfl rfl (Y_lenH rfl rfl el53 rfl) ?_; clear hf; intro a hf
    refine sY hf hs rfl rfl rfl (Y_move rfl rfl) ?_; clear hf; intro a hf
    refine wpO_nil ?_
    obtain ⟨r520, hl521, hm419⟩ := bind_some hm419
    refine wpL_block (fun a w => ∃ xs515 : List Int, ∃ xs517 : List Int, ∃ x519 : Int, (xs515, xs517, x519) = r520 ∧ xs5.length = xs515.length ∧ xs8.length = xs517.length ∧ Fr a 101 [(2, .pointer (some ⟨b1, 0, none⟩)), (3, .pointer (some ⟨b2, 0, none⟩)), (5, .slice A3 xs5.length xs5.length), (6, .slice A6 xs8.length xs8.length), (7, .int .i64 x519), (21, .int .i64 (IntKind.i64.wrap (p0.Events + 1))), (22, .int .i64 x282)] ∧ St [] W w [.blk b1 55 [.int .i64 p0.Events, .slice ao p0.Places.length aq], .blk b2 129 [.int .i64 p1.Num, .int .i64 p1.Den], .row A3 xs5.length xs5.length 2 1 (ints xs515), .row A6 xs8.length xs8.length 2 1 (ints xs517)]) ?_ ?_
    ·refine wpL_loop (fun n a w => ∃ xs482 : List Int, ∃ xs484 : List Int, ∃ x486 : Int, ∃ x487 : Int, impl_betterCircuit_L5 F p0 p1 n xs482 xs484 x486 x487 = some r520 ∧ xs5.length = xs482.length ∧ xs8.length = xs484.length ∧ Fr a 101 [(2, .pointer (some ⟨b1, 0, none⟩)), (3, .pointer (some ⟨b2, 0, none⟩)), (5, .slice A3 xs5.length xs5.length), (6, .slice A6 xs8.length xs8.length), (7, .int .i64 x486), (21, .int .i64 (IntKind.i64.wrap (p0.Events + 1))), (22, .int .i64 x282), (25, .slice ao p0.Places.length aq), (26, .int .i64 (p0.Places.length : Int)), (27, .int .i64 x487)] ∧ St [] W w [.blk b1 55 [.int .i64 p0.Events, .slice ao p0.Places.length aq], .blk b2 129 [.int .i64 p1.Num, .int .i64 p1.Den], .row A3 xs5.length xs5.length 2 1 (ints xs482), .row A6 xs8.length xs8.length 2 1 (ints xs484)]) F ?_ ?_ ?_
     ·exact ⟨xs277, xs279, (-1), 0, hl521, hn278, hn280, (FrD.pick (FrD.pick (FrD.pick (FrD.pick (FrD.pick (FrD.pick (FrD.pick (FrD.pick (FrD.pick (FrD.pick hf.none hf rfl) hf rfl) hf rfl) hf rfl) hf rfl) hf rfl) hf rfl) hf rfl) hf rfl) hf rfl), hs⟩
     ·rintro a w ⟨xs482, xs484, x486, x487, h0_, -, -, -, -⟩; simp [impl_betterCircuit_L5] at h0_
     ·rintro n523 a w ⟨xs482, xs484, x486, x487, hm522, hn483, hn485, hf, hs⟩
      rw [impl_betterCircuit_L5] at hm522
      refine wpL_seq <| wpL_region ?_
      refine sY hf hs rfl rfl rfl (Y_lss rfl rfl rfl) ?_; clear hf; intro a hf
      refine wpO_nil <| wpL_seq ?_
      refine wpL_cond hf rfl (fun hb524 => ?_) (fun hb524 => ?_)
      ·have hm522 := bif_t hm522 hb524
       refine wpL_skip <| wpL_seq <| wpL_block0 <| wpL_seq <| wpL_region ?_
       refine sY hf hs rfl rfl rfl (Y_move rfl rfl) ?_; clear hf; intro a hf
       obtain ⟨q525, hi526, hm522⟩ := bind_some hm522
       obtain ⟨hi526a, hi526b, hi526q⟩ := idx_some hi526
       refine sY hf hs rfl rfl rfl (Y_index rfl rfl rfl el53 ti64 (Rd.isAt (aV.at hs) (recs_at (s := 4) GPlace.len hi526q (j := 0) rfl)) hi526a hi526b) ?_; clear hf; intro a hf
       refine sY hf hs rfl rfl rfl (Y_load_rdS rfl rfl (us := [.int .i64 q525.From, .int .i64 q525.To, .int .i64 q525.Delay, .int .i64 q525.Tokens]) (fun w hs => aV.at hs) (fun j u hj => recs_at (s := 4) GPlace.len hi526q hj) (Nat.succ_pos _) ag64 ti64 rfl) ?_; clear hf; intro a hf
       refine sAlloc hf hs rfl rfl rfl rfl ti64 ?_; clear hf hs; intro a w b527 hs hf
       have hs : St [] W w [.blk b1 55 [.int .i64 p0.Events, .slice ao p0.Places.length aq], .blk b2 129 [.int .i64 p1.Num, .int .i64 p1.Den], .row A3 xs5.length xs5.length 2 1 (ints xs482), .row A6 xs8.length xs8.length 2 1 (ints xs484), .blk b527 64 [.int .i64 0, .int .i64 0, .int .i64 0, .int .i64 0]] := hs
       refine sY hf hs rfl rfl rfl (Y_assign rfl rfl) ?_; clear hf; intro a hf
       refine sStore (i := 4) (us := [.int .i64 q525.From, .int .i64 q525.To, .int .i64 q525.Delay, .int .i64 q525.Tokens]) hf hs rfl rfl rfl rfl rfl rfl ti64 rfl rfl rfl (Nat.le_of_ble_eq_true rfl) rfl ?_; clear hs; intro w hs
       have hs : St [] W w [.blk b1 55 [.int .i64 p0.Events, .slice ao p0.Places.length aq], .blk b2 129 [.int .i64 p1.Num, .int .i64 p1.Den], .row A3 xs5.length xs5.length 2 1 (ints xs482), .row A6 xs8.length xs8.length 2 1 (ints xs484), .blk b527 64 [.int .i64 q525.From, .int .i64 q525.To, .int .i64 q525.Delay, .int .i64 q525.Tokens]] := hs
       refine wpO_nil <| wpL_seq ?_
       refine wpL_draw (by kernel_rfl) (by kernel_rfl) hs ?_
       refine qY hf rfl rfl rfl (Y_move rfl rfl) ?_; clear hf; intro a hf
       refine qY hf rfl rfl rfl (Y_fieldAddr rfl rfl fo64_0) ?_; clear hf; intro a hf
       refine qY hf rfl rfl rfl (Y_load_blk rfl rfl (i := 4) rfl rfl ag2) ?_; clear hf; intro a hf
       obtain ⟨q528, hi529, hm522⟩ := bind_some hm522
       obtain ⟨hi529a, hi529b, hi529q⟩ := idx_some hi529
       refine qY hf rfl rfl rfl (Y_index rfl rfl rfl el28 ti2 (Rd.isAt (hs.rd (i := 2) rfl) (at1 (ints_at hi529q))) hi529a (ltn hn483 hi529b)) ?_; clear hf; intro a hf
       refine qY hf rfl rfl rfl (Y_load_rd rfl rfl (fun w hs => hs.rd (i := 2) rfl) (at1 (ints_at hi529q)) ag2) ?_; clear hf; intro a hf
       refine qY hf rfl rfl rfl (Y_load_blkS rfl rfl (i := 4) rfl ag64 ti64 rfl) ?_; clear hf; intro a hf
       refine qY hf rfl rfl rfl (Y_load_blkS rfl rfl (i := 1) rfl ag129 ti129 rfl) ?_; clear hf; intro a hf
       obtain ⟨r530, hc531, hm522⟩ := bind_some hm522
       refine qCall hf rfl rfl rfl rfl (cap := []) rfl rfl en188 (v := .int .i64 r530) (fun w hs => Calls.scal (impl_placeWeight_ok F q525 p1 _ _ hc531)) ?_; clear hf; intro a hf
       refine qY hf rfl rfl rfl (Y_add rfl rfl rfl) ?_; clear hf; intro a hf
       refine qY hf rfl rfl rfl (Y_assign rfl rfl) ?_; clear hf; intro a hf
       refine qNil ?_; clear hs; intro w hs
       refine wpL_seq <| wpL_region ?_
       refine sY hf hs rfl rfl rfl (Y_move rfl rfl) ?_; clear hf; intro a hf
       refine sY hf hs rfl rfl rfl (Y_move rfl rfl) ?_; clear hf; intro a hf
       refine sY hf hs rfl rfl rfl (Y_fieldAddr rfl rfl fo64_1) ?_; clear hf; intro a hf
       refine sY hf hs rfl rfl rfl (Y_load_blk rfl rfl (i := 4) rfl rfl ag2) ?_; clear hf; intro a hf
       obtain ⟨q532, hi533, hm522⟩ := bind_some hm522
       obtain ⟨hi533a, hi533b, hi533q⟩ := idx_some hi533
       refine sY hf hs rfl rfl rfl (Y_index rfl rfl rfl el28 ti2 (Rd.isAt (hs.rd (i := 2) rfl) (at1 (ints_at hi533q))) hi533a (ltn hn483 hi533b)) ?_; clear hf; intro a hf
       refine sY hf hs rfl rfl rfl (Y_load_rd rfl rfl (fun w hs => hs.rd (i := 2) rfl) (at1 (ints_at hi533q)) ag2) ?_; clear hf; intro a hf
       refine sY hf hs rfl rfl rfl (Y_gtr rfl rfl rfl) ?_; clear hf; intro a hf
       refine wpO_nil ?_
       refine wpL_cond hf rfl (fun hb534 => ?_) (fun hb534 => ?_)
       ·have hm522 := bif_t hm522 hb534
        refine wpL_drawM [.blk b1 55 [.int .i64 p0.Events, .slice ao p0.Places.length aq], .blk b2 129 [.int .i64 p1.Num, .int .i64 p1.Den], .blk b527 64 [.int .i64 q525.From, .int .i64 q525.To, .int .i64 q525.Delay, .int .i64 q525.Tokens]] [] (by kernel_rfl) hs ?_; clear hs; intro w hs
        have hs0 : St [] W w [.blk b1 55 [.int .i64 p0.Events, .slice ao p0.Places.length aq], .blk b2 129 [.int .i64 p1.Num, .int .i64 p1.Den], .blk b527 64 [.int .i64 q525.From, .int .i64 q525.To, .int .i64 q525.Delay, .int .i64 q525.Tokens]] := hs.sel [0, 1, 4] (by decide)
        refine mYp (i := 0) rfl (by kernel_rfl) (by kernel_rfl) hf rfl rfl rfl (fun _ => Y_move rfl rfl) ?_; clear hf; intro a hf
        refine mYp (i := 1) rfl (by kernel_rfl) (by kernel_rfl) hf rfl rfl rfl (fun _ => Y_fieldAddr rfl rfl fo64_1) ?_; clear hf; intro a hf
        refine mY (i := 2) [] rfl (by kernel_rfl) (by kernel_rfl) hf hs0 rfl rfl rfl (Y_load_blk rfl rfl (i := 2) rfl rfl ag2) ?_; clear hf; intro a hf
        refine mYp (i := 3) rfl (by kernel_rfl) (by kernel_rfl) hf rfl rfl rfl (fun _ => Y_move rfl rfl) ?_; clear hf; intro a hf
        refine mYp (i := 4) rfl (by kernel_rfl) (by kernel_rfl) hf rfl rfl rfl (fun _ => Y_fieldAddr rfl rfl fo64_1) ?_; clear hf; intro a hf
        refine mY (i := 5) [] rfl (by kernel_rfl) (by kernel_rfl) hf hs0 rfl rfl rfl (Y_load_blk rfl rfl (i := 2) rfl rfl ag2) ?_; clear hf; intro a hf
        refine mYp (i := 6) rfl (by kernel_rfl) (by kernel_rfl) hf rfl rfl rfl (fun _ => Y_move rfl rfl) ?_; clear hf; intro a hf
        refine mYp (i := 7) rfl (by kernel_rfl) (by kernel_rfl) hf rfl rfl rfl (fun _ => Y_move rfl rfl) ?_; clear hf; intro a hf
        refine mYp (i := 8) rfl (by kernel_rfl) (by kernel_rfl) hf rfl rfl rfl (fun _ => Y_fieldAddr rfl rfl fo64_1) ?_; clear hf; intro a hf
        refine mY (i := 9) [] rfl (by kernel_rfl) (by kernel_rfl) hf hs0 rfl rfl rfl (Y_load_blk rfl rfl (i := 2) rfl rfl ag2) ?_; clear hf; intro a hf
        obtain ⟨q543, hi544, hm522⟩ := bind_some hm522
        obtain ⟨hi544a, hi544b, hi544q⟩ := idx_some hi544
        refine mYp (i := 10) rfl (by kernel_rfl) (by kernel_rfl) hf rfl rfl rfl (fun _ => Y_index rfl rfl rfl el28 ti2 (Rd.isAt (hs.rd (i := 2) rfl) (at1 (ints_at hi544q))) hi544a (ltn hn483 hi544b)) ?_; clear hf; intro a hf
        refine mRun (i := 11) rfl (by kernel_rfl) ?_
        obtain ⟨xs545, hu546, hm522⟩ := bind_some hm522
        refine sStoreL (i := 2) (us := [.int .i64 (IntKind.i64.wrap (q528 + r530))]) (enc := ints) hf hs rfl rfl rfl rfl rfl rfl hn483 hu546 ti2 rfl rfl rfl rfl rfl ints_len1 (ints_set (IntKind.i64.wrap (q528 + r530))) ?_; clear hs; intro w hs
        have hs : St [] W w [.blk b1 55 [.int .i64 p0.Events, .slice ao p0.Places.length aq], .blk b2 129 [.int .i64 p1.Num, .int .i64 p1.Den], .row A3 xs5.length xs5.length 2 1 (ints xs545), .row A6 xs8.length xs8.length 2 1 (ints xs484), .blk b527 64 [.int .i64 q525.From, .int .i64 q525.To, .int .i64 q525.Delay, .int .i64 q525.Tokens]] := hs
        have hs0 : St [] W w [.blk b1 55 [.int .i64 p0.Events, .slice ao p0.Places.length aq], .blk b2 129 [.int .i64 p1.Num, .int .i64 p1.Den], .blk b527 64 [.int .i64 q525.From, .int .i64 q525.To, .int .i64 q525.Delay, .int .i64 q525.Tokens]] := hs.sel [0, 1, 4] (by decide)
        refine wpO_nil ⟨Or.inr (fun _ => hs0), ?_⟩
        obtain ⟨q547, hi548, hm522⟩ := bind_some hm522
        obtain ⟨hi548a, hi548b, hi548q⟩ := idx_some hi548
        refine mYp (i := 12) rfl (by kernel_rfl) (by kernel_rfl) hf rfl rfl rfl (fun _ => Y_index rfl rfl rfl el28 ti2 (Rd.isAt (hs.rd (i := 3) rfl) (at1 (ints_at hi548q))) hi548a (ltn hn485 hi548b)) ?_; clear hf; intro a hf
        refine mRun (i := 13) rfl (by kernel_rfl) ?_
        obtain ⟨xs549, hu550, hm522⟩ := bind_some hm522
        refine sStoreL (i := 3) (us := [.int .i64 x487]) (enc := ints) hf hs rfl rfl rfl rfl rfl rfl hn485 hu550 ti2 rfl rfl rfl rfl rfl ints_len1 (ints_set x487) ?_; clear hs; intro w hs
        have hs : St [] W w [.blk b1 55 [.int .i64 p0.Events, .slice ao p0.Places.length aq], .blk b2 129 [.int .i64 p1.Num, .int .i64 p1.Den], .row A3 xs5.length xs5.length 2 1 (ints xs545), .row A6 xs8.length xs8.length 2 1 (ints xs549), .blk b527 64 [.int .i64 q525.From, .int .i64 q525.To, .int .i64 q525.Delay, .int .i64 q525.Tokens]] := hs
        have hs0 : St [] W w [.blk b1 55 [.int .i64 p0.Events, .slice ao p0.Places.length aq], .blk b2 129 [.int .i64 p1.Num, .int .i64 p1.Den], .blk b527 64 [.int .i64 q525.From, .int .i64 q525.To, .int .i64 q525.Delay, .int .i64 q525.Tokens]] := hs.sel [0, 1, 4] (by decide)
        refine wpO_nil ⟨Or.inr (fun _ => hs0), ?_⟩
        refine mYp (i := 14) rfl (by kernel_rfl) (by kernel_rfl) hf rfl rfl rfl (fun _ => Y_assign rfl rfl) ?_; clear hf; intro a hf
        refine mDone (by kernel_rfl) ?_
        clear hs0
        refine wpL_nil (Qb_normal ?_)
        refine wpL_region ?_
        refine sY hf hs rfl rfl rfl (Y_add rfl rfl rfl) ?_; clear hf; intro a hf
        refine sY hf hs rfl rfl rfl (Y_move rfl rfl) ?_; clear hf; intro a hf
        refine wpO_nil ?_
        refine wpL_nil (Ql_normal ?_)
        exact ⟨xs545, xs549, q525.To, (IntKind.i64.wrap (x487 + 1)), hm522, ((hn483).trans (upd_len hu546).symm), ((hn485).trans (upd_len hu550).symm), (FrD.pick (FrD.pick (FrD.pick (FrD.pick (FrD.pick (FrD.pick (FrD.pick (FrD.pick (FrD.pick (FrD.pick hf.none hf rfl) hf rfl) hf rfl) hf rfl) hf rfl) hf rfl) hf rfl) hf rfl) hf rfl) hf rfl), hs.sel [0, 1, 2, 3] (by decide)⟩
       ·have hm522 := bif_f hm522 hb534
        refine wpL_skip ?_
        refine wpL_nil (Qb_normal ?_)
        refine wpL_region ?_
        refine sY hf hs rfl rfl rfl (Y_add rfl rfl rfl) ?_; clear hf; intro a hf
        refine sY hf hs rfl rfl rfl (Y_move rfl rfl) ?_; clear hf; intro a hf
        refine wpO_nil ?_
        refine wpL_nil (Ql_normal ?_)
        exact ⟨xs482, xs484, x486, (IntKind.i64.wrap (x487 + 1)), hm522, hn483, hn485, (FrD.pick (FrD.pick (FrD.pick (FrD.pick (FrD.pick (FrD.pick (FrD.pick (FrD.pick (FrD.pick (FrD.pick hf.none hf rfl) hf rfl) hf rfl) hf rfl) hf rfl) hf rfl) hf rfl) hf rfl) hf rfl) hf rfl), hs.sel [0, 1, 2, 3] (by decide)⟩
      ·have hm522 := bif_f hm522 hb524
       refine wpL_exit (Ql_exit (Qb_exit ?_))
       exact ⟨xs482, xs484, x486, Option.some.inj hm522, hn483, hn485, (FrD.pick (FrD.pick (FrD.pick (FrD.pick (FrD.pick (FrD.pick (FrD.pick hf.none hf rfl) hf rfl) hf rfl) hf rfl) hf rfl) hf rfl) hf rfl), hs⟩
    ·rintro a w ⟨xs515, xs517, x519, hr_, hn516, hn518, hf, hs⟩
     subst hr_
     try dsimp only at hm419
     refine wpL_seq <| wpL_region ?_
     refine sY hf hs rfl rfl rfl (Y_move rfl rfl) ?_; clear hf; intro a hf
     refine sY hf hs rfl rfl rfl (Y_lss rfl rfl rfl) ?_; clear hf; intro a hf
     refine wpO_nil ?_
     refine wpL_cond hf rfl (fun hb551 => ?_) (fun hb551 => ?_)
     ·have hm419 := bif_t hm419 hb551
      refine wpL_seq <| wpL_region ?_
      refine sY hf hs rfl rfl rfl (Y_assign rfl rfl) ?_; clear hf; intro a hf
      refine wpO_nil ?_
      have hs : St [] W _ [.blk b1 55 [.int .i64 p0.Events, .slice ao p0.Places.length aq], .blk b2 129 [.int .i64 p1.Num, .int .i64 p1.Den], .row A3 xs5.length xs5.length 2 1 (ints xs515), .row A6 xs8.length xs8.length 2 1 (ints xs517), .row none 0 0 2 1 (ints ([] : List Int))] := hs.addNil 2 1
      obtain rfl := Option.some.inj hm419
      try dsimp only at hm
      obtain rfl := Option.some.inj hm
      refine wpL_ret (Qb_ret (Ql_ret (Qb_ret (ret_tmp rfl hf rfl ?_))))
      exact ⟨_, rfl, none, 0, 0, rfl, rfl, (fun _ => rfl), hs.sel [4] (by decide)⟩
     ·have hm419 := bif_f hm419 hb551
      refine wpL_skip ?_
      refine wpL_nil (Qb_normal ?_)
      refine wpL_region ?_
      refine sY hf hs rfl rfl rfl (Y_add rfl rfl rfl) ?_; clear hf; intro a hf
      refine sY hf hs rfl rfl rfl (Y_move rfl rfl) ?_; clear hf; intro a hf
      refine wpO_nil ?_
      refine wpL_nil (Ql_normal ?_)
      exact ⟨xs515, xs517, x519, (IntKind.i64.wrap (x282 + 1)), hm419, hn516, hn518, (FrD.pick (FrD.pick (FrD.pick (FrD.pick (FrD.pick (FrD.pick (FrD.pick hf.none hf rfl) hf rfl) hf rfl) hf rfl) hf rfl) hf rfl) hf rfl), hs⟩
   ·have hm419 := bif_f hm419 hb421
    refine wpL_exit (Ql_exit (Qb_exit ?_))
    exact ⟨xs279, x281, Option.some.inj hm419, hn280, (FrD.pick (FrD.pick (FrD.pick hf.none hf rfl) hf rfl) hf rfl), hs.sel [0, 3] (by decide)⟩
 ·rintro a w ⟨xs414, x416, hr_, hn415, hf, hs⟩
  subst hr_
  try dsimp only at hm
  refine wpL_seq <| wpL_seq <| wpL_region ?_
  refine sY hf hs rfl rfl rfl (Y_fieldAddr rfl rfl fo55_0) ?_; clear hf; intro a hf
  refine sY hf hs rfl rfl rfl (Y_load_blk rfl rfl (i := 0) rfl rfl ag2) ?_; clear hf; intro a hf
  refine sY hf hs rfl rfl rfl (Y_move rfl rfl) ?_; clear hf; intro a hf
  refine wpO_nil ?_
  obtain ⟨r573, hl574, hm⟩ := bind_some hm
  refine wpL_block (fun a w => ∃ x572 : Int, x572 = r573 ∧ Fr a 101 [(2, .pointer (some ⟨b1, 0, none⟩)), (6, .slice A6 xs8.length xs8.length), (7, .int .i64 x572)] ∧ St [] W w [.blk b1 55 [.int .i64 p0.Events, .slice ao p0.Places.length aq], .row A6 xs8.length xs8.length 2 1 (ints xs414)]) ?_ ?_
  ·refine wpL_loop (fun n a w => ∃ x565 : Int, ∃ x566 : Int, impl_betterCircuit_L6 F p0 xs414 n x565 x566 = some r573 ∧ Fr a 101 [(2, .pointer (some ⟨b1, 0, none⟩)), (6, .slice A6 xs8.length xs8.length), (7, .int .i64 x565), (65, .int .i64 p0.Events), (66, .int .i64 x566)] ∧ St [] W w [.blk b1 55 [.int .i64 p0.Events, .slice ao p0.Places.length aq], .row A6 xs8.length xs8.length 2 1 (ints xs414)]) F ?_ ?_ ?_
   ·exact ⟨x416, 0, hl574, (FrD.pick (FrD.pick (FrD.pick (FrD.pick (FrD.pick hf.none hf rfl) hf rfl) hf rfl) hf rfl) hf rfl), hs⟩
   ·rintro a w ⟨x565, x566, h0_, -, -⟩; simp [impl_betterCircuit_L6] at h0_
   ·rintro n576 a w ⟨x565, x566, hm575, hf, hs⟩
    rw [impl_betterCircuit_L6] at hm575
    refine wpL_seq <| wpL_region ?_
    refine sY hf hs rfl rfl rfl (Y_lss rfl rfl rfl) ?_; clear hf; intro a hf
    refine wpO_nil <| wpL_seq ?_
    refine wpL_cond hf rfl (fun hb577 => ?_) (fun hb577 => ?_)
    ·have hm575 := bif_t hm575 hb577
     refine wpL_skip <| wpL_seq <| wpL_block0 ?_
     refine wpL_draw (by kernel_rfl) (by kernel_rfl) hs ?_
     refine qY hf rfl rfl rfl (Y_fieldAddr rfl rfl fo55_1) ?_; clear hf; intro a hf
     refine qY hf rfl rfl rfl (Y_load_blk rfl rfl (i := 0) rfl rfl ag53) ?_; clear hf; intro a hf
     refine qY hf rfl rfl rfl (Y_move rfl rfl) ?_; clear hf; intro a hf
     refine qY hf rfl rfl rfl (Y_move rfl rfl) ?_; clear hf; intro a hf
     obtain ⟨q578, hi579, hm575⟩ := bind_some hm575
     obtain ⟨hi579a, hi579b, hi579q⟩ := idx_some hi579
     refine qY hf rfl rfl rfl (Y_index rfl rfl rfl el28 ti2 (Rd.isAt (hs.rd (i := 1) rfl) (at1 (ints_at hi579q))) hi579a (ltn hn415 hi579b)) ?_; clear hf; intro a hf
     refine qY hf rfl rfl rfl (Y_load_rd rfl rfl (fun w hs => hs.rd (i := 1) rfl) (at1 (ints_at hi579q)) ag2) ?_; clear hf; intro a hf
     obtain ⟨q580, hi581, hm575⟩ := bind_some hm575
     obtain ⟨hi581a, hi581b, hi581q⟩ := idx_some hi581
     refine qY hf rfl rfl rfl (Y_index rfl rfl rfl el53 ti64 (Rd.isAt (aV.at hs) (recs_at (s := 4) GPlace.len hi581q (j := 0) rfl)) hi581a hi581b) ?_; clear hf; intro a hf
     refine qY hf rfl rfl rfl (Y_fieldAddrE rfl rfl fo64_0) ?_; clear hf; intro a hf
     refine qY hf rfl rfl rfl (Y_load_rd rfl rfl (fun w hs => aV.at hs) (recs_at (s := 4) GPlace.len hi581q (j := 0) rfl) ag2) ?_; clear hf; intro a hf
     refine qY hf rfl rfl rfl (Y_assign rfl rfl) ?_; clear hf; intro a hf
     refine qNil ?_; clear hs; intro w hs
     refine wpL_nil (Qb_normal ?_)
     refine wpL_region ?_
     refine sY hf hs rfl rfl rfl (Y_add rfl rfl rfl) ?_; clear hf; intro a hf
     refine sY hf hs rfl rfl rfl (Y_move rfl rfl) ?_; clear hf; intro a hf
     refine wpO_nil ?_
     refine wpL_nil (Ql_normal ?_)
     exact ⟨q580.From, (IntKind.i64.wrap (x566 + 1)), hm575, (FrD.pick (FrD.pick (FrD.pick (FrD.pick (FrD.pick hf.none hf rfl) hf rfl) hf rfl) hf rfl) hf rfl), hs⟩
    ·have hm575 := bif_f hm575 hb577
     refine wpL_exit (Ql_exit (Qb_exit ?_))
     exact ⟨x565, Option.some.inj hm575, (FrD.pick (FrD.pick (FrD.pick hf.none hf rfl) hf rfl) hf rfl), hs⟩
  ·rintro a w ⟨x572, hr_, hf, hs⟩
   subst hr_
   try dsimp only at hm
   refine wpL_seq <| wpL_region ?_
   refine sY hf hs rfl rfl rfl (Y_assign rfl rfl) ?_; clear hf; intro a hf
   refine wpO_nil <| wpL_seq <| wpL_seq <| wpL_region ?_
   refine sY hf hs rfl rfl rfl (Y_move rfl rfl) ?_; clear hf; intro a hf
   refine sY hf hs rfl rfl rfl (Y_assign rfl rfl) ?_; clear hf; intro a hf
   refine wpO_nil ?_
   obtain ⟨r641, hl642, hm⟩ := bind_some hm
   have hs : St [] W _ [.blk b1 55 [.int .i64 p0.Events, .slice ao p0.Places.length aq], .row A6 xs8.length xs8.length 2 1 (ints xs414), .row none 0 0 2 1 (ints ([] : List Int))] := hs.addNil 2 1
   refine wpL_block (fun a w => ∃ xs636 : List Int, ∃ A637, ∃ n638, ∃ c639, xs636 = r641 ∧ n638 = xs636.length ∧ Fr a 101 [(11, .slice A637 n638 c639)] ∧ St [] W w [.row A637 n638 c639 2 1 (ints xs636)]) ?_ ?_
   ·refine wpL_loop (fun n a w => ∃ xs617 : List Int, ∃ x622 : Int, ∃ A618, ∃ n619, ∃ c620, impl_betterCircuit_L7 F p0 xs414 x572 n xs617 x622 = some r641 ∧ n619 = xs617.length ∧ Fr a 101 [(2, .pointer (some ⟨b1, 0, none⟩)), (6, .slice A6 xs8.length xs8.length), (7, .int .i64 x572), (11, .slice A618 n619 c620), (12, .int .i64 x622)] ∧ St [] W w [.blk b1 55 [.int .i64 p0.Events, .slice ao p0.Places.length aq], .row A6 xs8.length xs8.length 2 1 (ints xs414), .row A618 n619 c620 2 1 (ints xs617)]) F ?_ ?_ ?_
    ·exact ⟨([] : List Int), x572, none, 0, 0, hl642, rfl, (FrD.pick (FrD.pick (FrD.pick (FrD.pick (FrD.pick hf.none hf rfl) hf rfl) hf rfl) hf rfl) hf rfl), hs⟩
    ·rintro a w ⟨xs617, x622, A618, n619, c620, h0_, -, -, -⟩; simp [impl_betterCircuit_L7] at h0_
    ·rintro n644 a w ⟨xs617, x622, A618, n619, c620, hm643, hn621, hf, hs⟩
     rw [impl_betterCircuit_L7] at hm643
     refine wpL_block0 <| wpL_seq <| wpL_region ?_
     refine sY hf hs rfl rfl rfl (Y_move rfl rfl) ?_; clear hf; intro a hf
     refine sY hf hs rfl rfl rfl (Y_move rfl rfl) ?_; clear hf; intro a hf
     refine sY hf hs rfl rfl rfl (Y_move rfl rfl) ?_; clear hf; intro a hf
     obtain ⟨q645, hi646, hm643⟩ := bind_some hm643
     obtain ⟨hi646a, hi646b, hi646q⟩ := idx_some hi646
     refine sY hf hs rfl rfl rfl (Y_index rfl rfl rfl el28 ti2 (Rd.isAt (hs.rd (i := 1) rfl) (at1 (ints_at hi646q))) hi646a (ltn hn415 hi646b)) ?_; clear hf; intro a hf
     refine sY hf hs rfl rfl rfl (Y_load_rd rfl rfl (fun w hs => hs.rd (i := 1) rfl) (at1 (ints_at hi646q)) ag2) ?_; clear hf; intro a hf
     refine sBuildSlice (parts := [(0, .tmp 83)]) (vs := [.int .i64 q645]) (cells := [.int .i64 q645]) hf hs rfl rfl rfl rfl rfl el28 ti2 rfl rfl rfl rfl ?_; clear hf hs; intro a w A647 hs hA648 hf
     have hs : St [] W w [.blk b1 55 [.int .i64 p0.Events, .slice ao p0.Places.length aq], .row A6 xs8.length xs8.length 2 1 (ints xs414), .row A618 n619 c620 2 1 (ints xs617), .row A647 1 1 2 1 (ints ([q645]))] := hs
     obtain ⟨xs651, ha652, hm643⟩ := bind_some hm643
     refine sAppendL (i := 2) (xs := xs617) (ys := [q645]) (enc := ints) hf hs rfl rfl rfl rfl rfl rfl hn621 rfl rfl ha652 el28 ti2 rfl rfl rfl (hs.rd (i := 3) rfl) (Nat.succ_pos _) ints_len1 ints_append ints_one ?_; clear hf hs; intro a w A649 c650 hs hf
     have hs : St [] W w [.blk b1 55 [.int .i64 p0.Events, .slice ao p0.Places.length aq], .row A6 xs8.length xs8.length 2 1 (ints xs414), .row A649 xs651.length c650 2 1 (ints xs651), .row A647 1 1 2 1 (ints ([q645]))] := hs
     refine sY hf hs rfl rfl rfl (Y_assign rfl rfl) ?_; clear hf; intro a hf
     refine wpO_nil <| wpL_seq ?_
     refine wpL_draw (by kernel_rfl) (by kernel_rfl) hs ?_
     refine qY hf rfl rfl rfl (Y_fieldAddr rfl rfl fo55_1) ?_; clear hf; intro a hf
     refine qY hf rfl rfl rfl (Y_load_blk rfl rfl (i := 0) rfl rfl ag53) ?_; clear hf; intro a hf
     refine qY hf rfl rfl rfl (Y_move rfl rfl) ?_; clear hf; intro a hf
     refine qY hf rfl rfl rfl (Y_move rfl rfl) ?_; clear hf; intro a hf
     obtain ⟨q653, hi654, hm643⟩ := bind_some hm643
     obtain ⟨hi654a, hi654b, hi654q⟩ := idx_some hi654
     refine qY hf rfl rfl rfl (Y_index rfl rfl rfl el28 ti2 (Rd.isAt (hs.rd (i := 1) rfl) (at1 (ints_at hi654q))) hi654a (ltn hn415 hi654b)) ?_; clear hf; intro a hf
     refine qY hf rfl rfl rfl (Y_load_rd rfl rfl (fun w hs => hs.rd (i := 1) rfl) (at1 (ints_at hi654q)) ag2) ?_; clear hf; intro a hf
     obtain ⟨q655, hi656, hm643⟩ := bind_some hm643
     obtain ⟨hi656a, hi656b, hi656q⟩ := idx_some hi656
     refine qY hf rfl rfl rfl (Y_index rfl rfl rfl el53 ti64 (Rd.isAt (aV.at hs) (recs_at (s := 4) GPlace.len hi656q (j := 0) rfl)) hi656a hi656b) ?_; clear hf; intro a hf
     refine qY hf rfl rfl rfl (Y_fieldAddrE rfl rfl fo64_0) ?_; clear hf; intro a hf
     refine qY hf rfl rfl rfl (Y_load_rd rfl rfl (fun w hs => aV.at hs) (recs_at (s := 4) GPlace.len hi656q (j := 0) rfl) ag2) ?_; clear hf; intro a hf
     refine qY hf rfl rfl rfl (Y_assign rfl rfl) ?_; clear hf; intro a hf
     refine qNil ?_; clear hs; intro w hs
     refine wpL_seq <| wpL_region ?_
     refine sY hf hs rfl rfl rfl (Y_move rfl rfl) ?_; clear hf; intro a hf
     refine sY hf hs rfl rfl rfl (Y_move rfl rfl) ?_; clear hf; intro a hf
     refine sY hf hs rfl rfl rfl (Y_eql rfl rfl rfl) ?_; clear hf; intro a hf
     refine wpO_nil ?_
     refine wpL_cond hf rfl (fun hb657 => ?_) (fun hb657 => ?_)
     ·have hm643 := bif_t hm643 hb657
      refine wpL_exit (Qb_exit_ne rfl (Ql_exit (Qb_exit ?_)))
      exact ⟨xs651, A649, xs651.length, c650, Option.some.inj hm643, rfl, (FrD.pick hf.none hf rfl), hs.sel [2] (by decide)⟩
     ·have hm643 := bif_f hm643 hb657
      refine wpL_skip ?_
      refine wpL_nil (Qb_normal ?_)
      refine wpL_nil (Ql_normal ?_)
      exact ⟨xs651, q655.From, A649, xs651.length, c650, hm643, rfl, (FrD.pick (FrD.pick (FrD.pick (FrD.pick (FrD.pick hf.none hf rfl) hf rfl) hf rfl) hf rfl) hf rfl), hs.sel [0, 1, 2] (by decide)⟩
   ·rintro a w ⟨xs636, A637, n638, c639, hr_, hn640, hf, hs⟩
    subst hr_
    try dsimp only at hm
    refine wpL_seq <| wpL_region ?_
    refine sY hf hs rfl rfl rfl (Y_move rfl rfl) ?_; clear hf; intro a hf
    obtain ⟨r658, hc659, hm⟩ := bind_some hm
    refine sCall hf rfl rfl rfl rfl (cap := []) rfl rfl en189 (slices_Reverse_int64_ok F xs636 A637 n638 c639 hn640 _ _ hc659 (hs.res _ _ (show _[0]? = some _ from rfl))) ?_; clear hf
    rintro _ w ⟨rfl, hn660, hs1⟩ a hf
    have hs : St [] W w [.row A637 n638 c639 2 1 (ints r658.2)] := hs.mut (i := 0) rfl (fun b hb => muA_mem hb) hs1
    clear hs1
    refine wpO_nil <| wpL_seq <| wpL_region ?_
    refine sY hf hs rfl rfl rfl (Y_move rfl rfl) ?_; clear hf; intro a hf
    refine sY hf hs rfl rfl rfl (Y_assign rfl rfl) ?_; clear hf; intro a hf
    refine wpO_nil ?_
    obtain ⟨_, hne661, hm⟩ := bind_some hm
    obtain rfl := Option.some.inj hm
    refine wpL_ret (ret_tmp rfl hf rfl ?_)
    exact ⟨_, rfl, A637, n638, c639, rfl, hn660, (fun h_ => absurd h_ (nonE_some hne661)), hs⟩

set_option maxRecDepth 100000 in
theorem slices_Clone_int64_ok (F : Nat) (aT : List Int) (aK : Option Addr) (aY aQ : Nat) (bu : aY = aT.length) (r : List Int) (W : World) (hm : slices_Clone_int64 F aT = some r) (bo : Rd W aK (ints aT)) :
  Calls Try.prog 120 [.slice aK aY aQ].toArray W fun e w' => ∃ v, e = .returned v ∧ ∃ A7, ∃ n8, ∃ c9, v = .slice A7 n8 c9 ∧ n8 = r.length ∧ St [] W w' [.row A7 n8 c9 2 1 (ints r)] := by
 subst bu
 cases aK with
 | none =>
  obtain rfl : aT = [] := rd_none_ints bo
  have hm : some ([] : List Int) = some r := hm
  refine Calls.enter (N := 8) Try.func120 rfl rfl rfl (fun a hf => ?_)
  have hs := St.start W
  obtain ⟨w, hw_⟩ : ∃ w, w = W := ⟨W, rfl⟩
  clear hw_ w
  refine wpL_seq <| wpL_region ?_
  refine sY hf hs rfl rfl rfl (Y_assign rfl rfl) ?_; clear hf; intro a hf
  refine wpO_nil <| wpL_seq <| wpL_seq <| wpL_region ?_
  refine sY hf hs rfl rfl rfl (Y_move rfl rfl) ?_; clear hf; intro a hf
  refine sY hf hs rfl rfl rfl (Y_eqnil rfl rfl rfl un28) ?_; clear hf; intro a hf
  refine wpO_nil ?_
  refine wpL_cond hf rfl (fun _ => ?_) (fun e => absurd e (by decide))
  refine wpL_seq <| wpL_region ?_
  refine sY hf hs rfl rfl rfl (Y_assign rfl rfl) ?_; clear hf; intro a hf
  refine wpO_nil ?_
  have hs : St [] W _ [.row none 0 0 2 1 (ints ([] : List Int))] := hs.addNil 2 1
  obtain rfl := Option.some.inj hm
  refine wpL_ret (ret_tmp rfl hf rfl ?_)
  exact ⟨_, rfl, none, 0, 0, rfl, rfl, hs⟩
 | some a_ =>
  unfold slices_Clone_int64 at hm
  refine Calls.enter (N := 8) Try.func120 rfl rfl rfl (fun a hf => ?_)
  have hs := St.start W
  obtain ⟨w, hw_⟩ : ∃ w, w = W := ⟨W, rfl⟩
  clear hw_ w
  refine wpL_seq <| wpL_region ?_
  refine sY hf hs rfl rfl rfl (Y_assign rfl rfl) ?_; clear hf; intro a hf
  refine wpO_nil <| wpL_seq <| wpL_seq <| wpL_region ?_
  refine sY hf hs rfl rfl rfl (Y_move rfl rfl) ?_; clear hf; intro a hf
  refine sY hf hs rfl rfl rfl (Y_eqnil rfl rfl rfl un28) ?_; clear hf; intro a hf
  refine wpO_nil ?_
  refine wpL_cond hf rfl (fun e => absurd e Bool.false_ne_true) (fun _ => ?_)
  refine wpL_skip <| wpL_seq <| wpL_region ?_
  refine sEmpty hf hs rfl rfl rfl rfl el28 ti2 ?_; clear hf hs; intro a w A1 hs hf
  have hs : St [] W w [.row A1 0 0 2 1 (ints ([] : List Int))] := hs
  refine sY hf hs rfl rfl rfl (Y_move rfl rfl) ?_; clear hf; intro a hf
  obtain ⟨xs5, ha6, hm⟩ := bind_some hm
  refine sAppendG (i := 0) (xs := ([] : List Int)) (ys := aT) (enc := ints) hf hs rfl rfl rfl rfl rfl rfl rfl rfl rfl ha6 el28 ti2 rfl rfl rfl (bo.at hs) ints_len1 ints_append ints_one ?_; clear hf hs; intro a w A3 c4 hs hf
  have hs : St [] W w [.row A3 xs5.length c4 2 1 (ints xs5)] := hs
  refine sY hf hs rfl rfl rfl (Y_assign rfl rfl) ?_; clear hf; intro a hf
  refine wpO_nil ?_
  obtain rfl := Option.some.inj hm
  refine wpL_ret (ret_tmp rfl hf rfl ?_)
  exact ⟨_, rfl, A3, xs5.length, c4, rfl, rfl, hs⟩

set_option maxRecDepth 100000 in
theorem slices_Min_int64_ok (F : Nat) (cB : List Int) (cu : Option Addr) (cC cD : Nat) (cN : cC = cB.length) (r : Int) (W : World) (hm : slices_Min_int64 F cB = some r) (cm : Rd W cu (ints cB)) :
  Calls Try.prog 121 [.slice cu cC cD].toArray W fun e w' => ∃ v, e = .returned v ∧ v = .int .i64 r ∧ St [] W w' [] := by
 subst cN
 unfold slices_Min_int64 at hm
 refine Calls.enter (N := 25) Try.func121 rfl rfl rfl (fun a hf => ?_)
 have hs := St.start W
 obtain ⟨w, hw_⟩ : ∃ w, w = W := ⟨W, rfl⟩
 clear hw_ w
 refine wpL_seq <| wpL_region ?_
 refine sY hf hs rfl rfl rfl (Y_assign rfl rfl) ?_; clear hf; intro a hf
 refine wpO_nil <| wpL_seq <| wpL_seq <| wpL_region ?_
 refine sY hf hs rfl rfl rfl (Y_move rfl rfl) ?_; clear hf; intro a hf
 refine sY hf hs rfl rfl rfl (Y_lenH rfl rfl el28 rfl) ?_; clear hf; intro a hf
 refine sY hf hs rfl rfl rfl (Y_lss rfl rfl rfl) ?_; clear hf; intro a hf
 refine wpO_nil ?_
 refine wpL_cond hf rfl (fun hb1 => ?_) (fun hb1 => ?_)
 ·have hm := bif_t hm hb1
  cases hm
 ·have hm := bif_f hm hb1
  refine wpL_skip <| wpL_seq <| wpL_region ?_
  refine sY hf hs rfl rfl rfl (Y_move rfl rfl) ?_; clear hf; intro a hf
  obtain ⟨q2, hi3, hm⟩ := bind_some hm
  obtain ⟨hi3a, hi3b, hi3q⟩ := idx_some hi3
  refine sY hf hs rfl rfl rfl (Y_index rfl rfl rfl el28 ti2 (Rd.isAt (cm.at hs) (at1 (ints_at hi3q))) hi3a hi3b) ?_; clear hf; intro a hf
  refine sY hf hs rfl rfl rfl (Y_load_rd rfl rfl (fun w hs => cm.at hs) (at1 (ints_at hi3q)) ag2) ?_; clear hf; intro a hf
  refine sY hf hs rfl rfl rfl (Y_assign rfl rfl) ?_; clear hf; intro a hf
  refine wpO_nil <| wpL_seq <| wpL_seq <| wpL_region ?_
  refine sY hf hs rfl rfl rfl (Y_assign rfl rfl) ?_; clear hf; intro a hf
  refine wpO_nil ?_
  obtain ⟨r18, hl19, hm⟩ := bind_some hm
  refine wpL_block (fun a w => ∃ x17 : Int, x17 = r18 ∧ Fr a 25 [(3, .int .i64 x17)] ∧ St [] W w []) ?_ ?_
  ·refine wpL_loop (fun n a w => ∃ x12 : Int, ∃ x13 : Int, slices_Min_int64_L1 F cB n x12 x13 = some r18 ∧ Fr a 25 [(0, .slice cu cB.length cD), (3, .int .i64 x12), (4, .int .i64 x13)] ∧ St [] W w []) F ?_ ?_ ?_
   ·exact ⟨q2, 1, hl19, (FrD.pick (FrD.pick (FrD.pick hf.none hf rfl) hf rfl) hf rfl), hs⟩
   ·rintro a w ⟨x12, x13, h0_, -, -⟩; simp [slices_Min_int64_L1] at h0_
   ·rintro n21 a w ⟨x12, x13, hm20, hf, hs⟩
    rw [slices_Min_int64_L1] at hm20
    refine wpL_seq <| wpL_seq <| wpL_region ?_
    refine sY hf hs rfl rfl rfl (Y_move rfl rfl) ?_; clear hf; intro a hf
    refine sY hf hs rfl rfl rfl (Y_move rfl rfl) ?_; clear hf; intro a hf
    refine sY hf hs rfl rfl rfl (Y_lenH rfl rfl el28 rfl) ?_; clear hf; intro a hf
    refine sY hf hs rfl rfl rfl (Y_lss rfl rfl rfl) ?_; clear hf; intro a hf
    refine wpO_nil ?_
    refine wpL_cond hf rfl (fun hb22 => ?_) (fun hb22 => ?_)
    ·have hm20 := bif_t hm20 hb22
     refine wpL_skip <| wpL_seq <| wpL_block0 <| wpL_region ?_
     refine sY hf hs rfl rfl rfl (Y_move rfl rfl) ?_; clear hf; intro a hf
     refine sY hf hs rfl rfl rfl (Y_move rfl rfl) ?_; clear hf; intro a hf
     refine sY hf hs rfl rfl rfl (Y_move rfl rfl) ?_; clear hf; intro a hf
     obtain ⟨q23, hi24, hm20⟩ := bind_some hm20
     obtain ⟨hi24a, hi24b, hi24q⟩ := idx_some hi24
     refine sY hf hs rfl rfl rfl (Y_index rfl rfl rfl el28 ti2 (Rd.isAt (cm.at hs) (at1 (ints_at hi24q))) hi24a hi24b) ?_; clear hf; intro a hf
     refine sY hf hs rfl rfl rfl (Y_load_rd rfl rfl (fun w hs => cm.at hs) (at1 (ints_at hi24q)) ag2) ?_; clear hf; intro a hf
     refine sY hf hs rfl rfl rfl (Y_min rfl rfl rfl) ?_; clear hf; intro a hf
     refine sY hf hs rfl rfl rfl (Y_assign rfl rfl) ?_; clear hf; intro a hf
     refine wpO_nil ?_
     refine wpL_nil (Qb_normal ?_)
     refine wpL_region ?_
     refine sY hf hs rfl rfl rfl (Y_move rfl rfl) ?_; clear hf; intro a hf
     refine sY hf hs rfl rfl rfl (Y_add rfl rfl rfl) ?_; clear hf; intro a hf
     refine sY hf hs rfl rfl rfl (Y_assign rfl rfl) ?_; clear hf; intro a hf
     refine wpO_nil ?_
     refine wpL_nil (Ql_normal ?_)
     exact ⟨(min x12 q23), (IntKind.i64.wrap (x13 + 1)), hm20, (FrD.pick (FrD.pick (FrD.pick hf.none hf rfl) hf rfl) hf rfl), hs⟩
    ·have hm20 := bif_f hm20 hb22
     refine wpL_exit (Ql_exit (Qb_exit ?_))
     exact ⟨x12, Option.some.inj hm20, (FrD.pick hf.none hf rfl), hs⟩
  ·rintro a w ⟨x17, hr_, hf, hs⟩
   subst hr_
   try dsimp only at hm
   refine wpL_seq <| wpL_region ?_
   refine sY hf hs rfl rfl rfl (Y_move rfl rfl) ?_; clear hf; intro a hf
   refine sY hf hs rfl rfl rfl (Y_assign rfl rfl) ?_; clear hf; intro a hf
   refine wpO_nil ?_
   obtain rfl := Option.some.inj hm
   refine wpL_ret (ret_tmp rfl hf rfl ?_)
   exact ⟨_, rfl, rfl, hs⟩

set_option maxHeartbeats 2000000 in
set_option maxRecDepth 100000 in
theorem impl_LatestTimetable_ok (F : Nat) (p0 : GEventGraph) (ao : Option Addr) (aZ aq : Nat) (bK : aZ = p0.Places.length) (p1 : Int) (p2 : List Int) (co : Option Addr) (cO cv : Nat) (cR : cO = p2.length) (r : GTimetable × Int) (W : World) (hm : impl_LatestTimetable F p0 p1 p2 = some r) (aV : Rd W ao ((recs GPlace.cells) p0.Places)) (cP : Rd W co (ints p2)) :
  Calls Try.prog 51 [.agg #[.int .i64 p0.Events, .slice ao aZ aq], .int .i64 p1, .slice co cO cv].toArray W fun e w' => ∃ v, e = .returned v ∧ ∃ A320, ∃ n321, ∃ c322, v = .tuple #[.agg #[.int .i64 r.1.Period, .slice A320 n321 c322], .int .i64 r.2] ∧ n321 = r.1.Starts.length ∧ St [] W w' [.row A320 n321 c322 2 1 (ints r.1.Starts)] := by
 subst bK
 subst cR
 unfold impl_LatestTimetable at hm
 refine Calls.enter (N := 81) Try.func51 rfl rfl rfl (fun a hf => ?_)
 have hs := St.start W
 obtain ⟨w, hw_⟩ : ∃ w, w = W := ⟨W, rfl⟩
 clear hw_ w
 refine wpL_seq <| wpL_region ?_
 refine sBox hf hs rfl rfl rfl rfl rfl (cs := [.int .i64 p0.Events, .slice ao p0.Places.length aq]) rfl ?_; clear hf hs; intro a w b1 hs hf
 have hs : St [] W w [.blk b1 55 [.int .i64 p0.Events, .slice ao p0.Places.length aq]] := hs
 refine sAlloc hf hs rfl rfl rfl rfl ti66 ?_; clear hf hs; intro a w b2 hs hf
 have hs : St [] W w [.blk b1 55 [.int .i64 p0.Events, .slice ao p0.Places.length aq], .blk b2 66 [.int .i64 0, .slice none 0 0]] := hs
 refine sY hf hs rfl rfl rfl (Y_assign rfl rfl) ?_; clear hf; intro a hf
 refine wpO_nil <| wpL_seq <| wpL_seq <| wpL_region ?_
 refine sY hf hs rfl rfl rfl (Y_load_blkS rfl rfl (i := 0) rfl ag55 ti55 rfl) ?_; clear hf; intro a hf
 refine sY hf hs rfl rfl rfl (Y_move rfl rfl) ?_; clear hf; intro a hf
 obtain ⟨r3, hc4, hm⟩ := bind_some hm
 refine sCall hf rfl rfl rfl rfl (cap := []) rfl rfl en118 (impl_checkPeriod_ok F p0 ao p0.Places.length aq rfl p1 _ _ hc4 (aV.at hs)) ?_; clear hf
 rintro _ w ⟨rfl, hs1⟩ a hf
 have hs : St [] W w [.blk b1 55 [.int .i64 p0.Events, .slice ao p0.Places.length aq], .blk b2 66 [.int .i64 0, .slice none 0 0]] := hs.ext hs1.below
 clear hs1
 refine sY hf hs rfl rfl rfl (Y_assign rfl rfl) ?_; clear hf; intro a hf
 refine wpO_nil <| wpL_seq <| wpL_region ?_
 refine sY hf hs rfl rfl rfl (Y_move rfl rfl) ?_; clear hf; intro a hf
 refine sY hf hs rfl rfl rfl (Y_neq rfl rfl rfl) ?_; clear hf; intro a hf
 refine wpO_nil ?_
 refine wpL_cond hf rfl (fun hb5 => ?_) (fun hb5 => ?_)
 ·have hm := bif_t hm hb5
  refine wpL_seq <| wpL_region ?_
  refine sY hf hs rfl rfl rfl (Y_build (parts := []) (vs := []) rfl rfl (run_build (parts := []) (cells := [.int .i64 0, .slice none 0 0]) (places := #[(0, 1), (1, 1)]) ti66 Try.underlying66 (fun w => by simp [go_sem]) rfl)) ?_; clear hf; intro a hf
  refine sY hf hs rfl rfl rfl (Y_move rfl rfl) ?_; clear hf; intro a hf
  refine sStore (i := 1) (us := [.int .i64 0, .slice none 0 0]) hf hs rfl rfl rfl rfl rfl rfl ti66 rfl rfl rfl (Nat.le_of_ble_eq_true rfl) rfl ?_; clear hs; intro w hs
  have hs : St [] W w [.blk b1 55 [.int .i64 p0.Events, .slice ao p0.Places.length aq], .blk b2 66 [.int .i64 0, .slice none 0 0]] := hs
  refine sY hf hs rfl rfl rfl (Y_assign rfl rfl) ?_; clear hf; intro a hf
  refine wpO_nil ?_
  have hs : St [] W _ [.blk b1 55 [.int .i64 p0.Events, .slice ao p0.Places.length aq], .blk b2 66 [.int .i64 0, .slice none 0 0], .row none 0 0 2 1 (ints ([] : List Int))] := hs.addNil 2 1
  obtain rfl := Option.some.inj hm
  refine wpL_ret (ret_cell_tmp rfl hf rfl rfl hs (i := 1) rfl ag66 ti66 rfl ?_)
  exact ⟨_, rfl, none, 0, 0, rfl, rfl, hs.sel [2] (by decide)⟩
 ·have hm := bif_f hm hb5
  refine wpL_skip <| wpL_seq <| wpL_seq ?_
  obtain ⟨r11, hj12, hm⟩ := bind_some hm
  refine wpL_cut (fun a w => ∃ b10 : Bool, b10 = r11 ∧ Fr a 81 [(1, .int .i64 p1), (2, .slice co p2.length cv), (3, .pointer (some ⟨b1, 0, none⟩)), (6, .pointer (some ⟨b2, 0, none⟩)), (30, .bool b10)] ∧ St [] W w [.blk b1 55 [.int .i64 p0.Events, .slice ao p0.Places.length aq], .blk b2 66 [.int .i64 0, .slice none 0 0]]) ?_ ?_
  ·refine wpL_region ?_
   refine sY hf hs rfl rfl rfl (Y_move rfl rfl) ?_; clear hf; intro a hf
   refine sY hf hs rfl rfl rfl (Y_lenH rfl rfl el28 rfl) ?_; clear hf; intro a hf
   refine sY hf hs rfl rfl rfl (Y_fieldAddr rfl rfl fo55_0) ?_; clear hf; intro a hf
   refine sY hf hs rfl rfl rfl (Y_load_blk rfl rfl (i := 0) rfl rfl ag2) ?_; clear hf; intro a hf
   refine sY hf hs rfl rfl rfl (Y_neq rfl rfl rfl) ?_; clear hf; intro a hf
   refine sY hf hs rfl rfl rfl (Y_move rfl rfl) ?_; clear hf; intro a hf
   refine bsplit ((p2.length : Int) != p0.Events) (fun hb13 => ?_) (fun hb13 => ?_)
   ·have hj12 := bif_t hj12 hb13
    refine sNo hf rfl rfl rfl (congrArg (fun b => some (Value.bool b)) hb13) rfl rfl rfl ?_; clear hf; intro a hf
    refine sNo hf rfl rfl rfl (congrArg (fun b => some (Value.bool b)) hb13) rfl rfl rfl ?_; clear hf; intro a hf
    refine sNo hf rfl rfl rfl (congrArg (fun b => some (Value.bool b)) hb13) rfl rfl rfl ?_; clear hf; intro a hf
    refine sY hf hs rfl rfl rfl (Y_pickT rfl (congrArg (fun b => some (Value.bool b)) hb13) rfl) ?_; clear hf; intro a hf
    refine wpO_nil ?_
    refine wpL_nil (then_normal ?_)
    exact ⟨true, Option.some.inj hj12, (FrD.pick (FrD.pick (FrD.pick (FrD.pick (FrD.pick hf.none hf rfl) hf rfl) hf rfl) hf rfl) hf rfl), hs⟩
   ·have hj12 := bif_f hj12 hb13
    refine sYg hf hs rfl rfl rfl (congrArg (fun b => some (Value.bool b)) hb13) rfl rfl rfl (Y_move rfl rfl) ?_; clear hf; intro a hf
    obtain ⟨r14, hc15, hj12⟩ := bind_some hj12
    refine sCallg hf rfl rfl rfl (congrArg (fun b => some (Value.bool b)) hb13) rfl rfl rfl rfl (cap := []) rfl rfl en74 (impl_allWithin_ok F p2 co p2.length cv rfl 0 1000000 _ _ hc15 (cP.at hs)) ?_; clear hf
    rintro _ w ⟨rfl, hs1⟩ a hf
    have hs : St [] W w [.blk b1 55 [.int .i64 p0.Events, .slice ao p0.Places.length aq], .blk b2 66 [.int .i64 0, .slice none 0 0]] := hs.ext hs1.below
    clear hs1
    refine sYg hf hs rfl rfl rfl (congrArg (fun b => some (Value.bool b)) hb13) rfl rfl rfl (Y_not rfl rfl) ?_; clear hf; intro a hf
    refine sY hf hs rfl rfl rfl (Y_pickF rfl (congrArg (fun b => some (Value.bool b)) hb13) rfl) ?_; clear hf; intro a hf
    refine wpO_nil ?_
    refine wpL_nil (then_normal ?_)
    exact ⟨(!r14), Option.some.inj hj12, (FrD.pick (FrD.pick (FrD.pick (FrD.pick (FrD.pick hf.none hf rfl) hf rfl) hf rfl) hf rfl) hf rfl), hs⟩
  ·rintro a w ⟨b10, hr_, hf, hs⟩
   subst hr_
   try dsimp only at hm
   refine wpL_cond hf rfl (fun hb16 => ?_) (fun hb16 => ?_)
   ·have hm := bif_t hm hb16
    refine wpL_seq <| wpL_region ?_
    refine sY hf hs rfl rfl rfl (Y_build (parts := []) (vs := []) rfl rfl (run_build (parts := []) (cells := [.int .i64 0, .slice none 0 0]) (places := #[(0, 1), (1, 1)]) ti66 Try.underlying66 (fun w => by simp [go_sem]) rfl)) ?_; clear hf; intro a hf
    refine sStore (i := 1) (us := [.int .i64 0, .slice none 0 0]) hf hs rfl rfl rfl rfl rfl rfl ti66 rfl rfl rfl (Nat.le_of_ble_eq_true rfl) rfl ?_; clear hs; intro w hs
    have hs : St [] W w [.blk b1 55 [.int .i64 p0.Events, .slice ao p0.Places.length aq], .blk b2 66 [.int .i64 0, .slice none 0 0]] := hs
    refine sY hf hs rfl rfl rfl (Y_assign rfl rfl) ?_; clear hf; intro a hf
    refine wpO_nil ?_
    have hs : St [] W _ [.blk b1 55 [.int .i64 p0.Events, .slice ao p0.Places.length aq], .blk b2 66 [.int .i64 0, .slice none 0 0], .row none 0 0 2 1 (ints ([] : List Int))] := hs.addNil 2 1
    obtain rfl := Option.some.inj hm
    refine wpL_ret (ret_cell_tmp rfl hf rfl rfl hs (i := 1) rfl ag66 ti66 rfl ?_)
    exact ⟨_, rfl, none, 0, 0, rfl, rfl, hs.sel [2] (by decide)⟩
   ·have hm := bif_f hm hb16
    refine wpL_skip <| wpL_seq <| wpL_seq <| wpL_region ?_
    refine sY hf hs rfl rfl rfl (Y_load_blkS rfl rfl (i := 0) rfl ag55 ti55 rfl) ?_; clear hf; intro a hf
    refine sY hf hs rfl rfl rfl (Y_move rfl rfl) ?_; clear hf; intro a hf
    refine sY hf hs rfl rfl rfl (Y_build (parts := [(0, .tmp 33), (1, .const (.int .i64 1))]) (vs := [.int .i64 p1, .int .i64 1]) rfl rfl (run_build (parts := [(0, .int .i64 p1), (1, .int .i64 1)]) (cells := [.int .i64 p1, .int .i64 1]) (places := #[(0, 1), (1, 1)]) ti129 Try.underlying129 (fun w => by simp [go_sem]) rfl)) ?_; clear hf; intro a hf
    obtain ⟨r18, hc19, hm⟩ := bind_some hm
    refine sCall hf rfl rfl rfl rfl (cap := []) rfl rfl en119 (impl_betterCircuit_ok F p0 ao p0.Places.length aq rfl (GRatio.mk p1 1) _ _ hc19 (aV.at hs)) ?_; clear hf
    rintro _ w ⟨A20, n21, c22, rfl, hn23, hz24, hs1⟩ a hf
    have hs : St [] W w [.blk b1 55 [.int .i64 p0.Events, .slice ao p0.Places.length aq], .blk b2 66 [.int .i64 0, .slice none 0 0], .row A20 n21 c22 2 1 (ints r18)] := hs.join hs1
    clear hs1
    refine sY hf hs rfl rfl rfl (Y_neqnilO rfl rfl rfl un28 (hs.nilInts (i := 2) rfl hn23 hz24)) ?_; clear hf; intro a hf
    refine wpO_nil ?_
    refine wpL_cond hf rfl (fun hb25 => ?_) (fun hb25 => ?_)
    ·have hm := bif_t hm hb25
     refine wpL_seq <| wpL_region ?_
     refine sY hf hs rfl rfl rfl (Y_build (parts := []) (vs := []) rfl rfl (run_build (parts := []) (cells := [.int .i64 0, .slice none 0 0]) (places := #[(0, 1), (1, 1)]) ti66 Try.underlying66 (fun w => by simp [go_sem]) rfl)) ?_; clear hf; intro a hf
     refine sStore (i := 1) (us := [.int .i64 0, .slice none 0 0]) hf hs rfl rfl rfl rfl rfl rfl ti66 rfl rfl rfl (Nat.le_of_ble_eq_true rfl) rfl ?_; clear hs; intro w hs
     have hs : St [] W w [.blk b1 55 [.int .i64 p0.Events, .slice ao p0.Places.length aq], .blk b2 66 [.int .i64 0, .slice none 0 0], .row A20 n21 c22 2 1 (ints r18)] := hs
     refine sY hf hs rfl rfl rfl (Y_assign rfl rfl) ?_; clear hf; intro a hf
     refine wpO_nil ?_
     have hs : St [] W _ [.blk b1 55 [.int .i64 p0.Events, .slice ao p0.Places.length aq], .blk b2 66 [.int .i64 0, .slice none 0 0], .row A20 n21 c22 2 1 (ints r18), .row none 0 0 2 1 (ints ([] : List Int))] := hs.addNil 2 1
     obtain rfl := Option.some.inj hm
     refine wpL_ret (ret_cell_tmp rfl hf rfl rfl hs (i := 1) rfl ag66 ti66 rfl ?_)
     exact ⟨_, rfl, none, 0, 0, rfl, rfl, hs.sel [3] (by decide)⟩
    ·have hm := bif_f hm hb25
     refine wpL_skip <| wpL_seq <| wpL_region ?_
     refine sY hf hs rfl rfl rfl (Y_move rfl rfl) ?_; clear hf; intro a hf
     obtain ⟨r27, hc28, hm⟩ := bind_some hm
     refine sCall hf rfl rfl rfl rfl (cap := []) rfl rfl en120 (slices_Clone_int64_ok F p2 co p2.length cv rfl _ _ hc28 (cP.at hs)) ?_; clear hf
     rintro _ w ⟨A29, n30, c31, rfl, hn32, hs1⟩ a hf
     have hs : St [] W w [.blk b1 55 [.int .i64 p0.Events, .slice ao p0.Places.length aq], .blk b2 66 [.int .i64 0, .slice none 0 0], .row A20 n21 c22 2 1 (ints r18), .row A29 n30 c31 2 1 (ints r27)] := hs.join hs1
     clear hs1
     refine sY hf hs rfl rfl rfl (Y_assign rfl rfl) ?_; clear hf; intro a hf
     refine wpO_nil <| wpL_seq <| wpL_seq <| wpL_region ?_
     refine sY hf hs rfl rfl rfl (Y_assign rfl rfl) ?_; clear hf; intro a hf
     refine wpO_nil ?_
     obtain ⟨r244, hl245, hm⟩ := bind_some hm
     refine wpL_block (fun a w => ∃ xs242 : List Int, xs242 = r244 ∧ n30 = xs242.length ∧ Fr a 81 [(1, .int .i64 p1), (6, .pointer (some ⟨b2, 0, none⟩)), (9, .slice A29 n30 c31)] ∧ St [] W w [.blk b2 66 [.int .i64 0, .slice none 0 0], .row A29 n30 c31 2 1 (ints xs242)]) ?_ ?_
     ·refine wpL_loop (fun n a w => ∃ xs171 : List Int, ∃ b173 : Bool, impl_LatestTimetable_L4 F p0 p1 n xs171 b173 = some r244 ∧ n30 = xs171.length ∧ Fr a 81 [(1, .int .i64 p1), (3, .pointer (some ⟨b1, 0, none⟩)), (6, .pointer (some ⟨b2, 0, none⟩)), (9, .slice A29 n30 c31), (10, .bool b173)] ∧ St [] W w [.blk b1 55 [.int .i64 p0.Events, .slice ao p0.Places.length aq], .blk b2 66 [.int .i64 0, .slice none 0 0], .row A29 n30 c31 2 1 (ints xs171)]) F ?_ ?_ ?_
      ·exact ⟨r27, true, hl245, hn32, (FrD.pick (FrD.pick (FrD.pick (FrD.pick (FrD.pick hf.none hf rfl) hf rfl) hf rfl) hf rfl) hf rfl), hs.sel [0, 1, 3] (by decide)⟩
      ·rintro a w ⟨xs171, b173, h0_, -, -, -⟩; simp [impl_LatestTimetable_L4] at h0_
      ·rintro n247 a w ⟨xs171, b173, hm246, hn172, hf, hs⟩
       rw [impl_LatestTimetable_L4] at hm246
       refine wpL_seq <| wpL_seq <| wpL_region ?_
       refine sY hf hs rfl rfl rfl (Y_move rfl rfl) ?_; clear hf; intro a hf
       refine wpO_nil ?_
       refine wpL_cond hf rfl (fun hb248 => ?_) (fun hb248 => ?_)
       ·have hm246 := bif_t hm246 hb248
        refine wpL_skip <| wpL_block0 <| wpL_seq <| wpL_region ?_
        refine sY hf hs rfl rfl rfl (Y_assign rfl rfl) ?_; clear hf; intro a hf
        refine wpO_nil <| wpL_seq <| wpL_region ?_
        refine sY hf hs rfl rfl rfl (Y_fieldAddr rfl rfl fo55_1) ?_; clear hf; intro a hf
        refine sY hf hs rfl rfl rfl (Y_load_blk rfl rfl (i := 0) rfl rfl ag53) ?_; clear hf; intro a hf
        refine sY hf hs rfl rfl rfl (Y_lenH rfl rfl el53 rfl) ?_; clear hf; intro a hf
        refine sY hf hs rfl rfl rfl (Y_move rfl rfl) ?_; clear hf; intro a hf
        refine wpO_nil ?_
        obtain ⟨r299, hl300, hm246⟩ := bind_some hm246
        refine wpL_block (fun a w => ∃ xs296 : List Int, ∃ b298 : Bool, (xs296, b298) = r299 ∧ n30 = xs296.length ∧ Fr a 81 [(1, .int .i64 p1), (3, .pointer (some ⟨b1, 0, none⟩)), (6, .pointer (some ⟨b2, 0, none⟩)), (9, .slice A29 n30 c31), (10, .bool b298)] ∧ St [] W w [.blk b1 55 [.int .i64 p0.Events, .slice ao p0.Places.length aq], .blk b2 66 [.int .i64 0, .slice none 0 0], .row A29 n30 c31 2 1 (ints xs296)]) ?_ ?_
        ·refine wpL_loop (fun n a w => ∃ xs279 : List Int, ∃ b281 : Bool, ∃ x282 : Int, impl_LatestTimetable_L5 F p0 p1 n xs279 b281 x282 = some r299 ∧ n30 = xs279.length ∧ Fr a 81 [(1, .int .i64 p1), (3, .pointer (some ⟨b1, 0, none⟩)), (6, .pointer (some ⟨b2, 0, none⟩)), (9, .slice A29 n30 c31), (10, .bool b281), (42, .slice ao p0.Places.length aq), (43, .int .i64 (p0.Places.length : Int)), (44, .int .i64 x282)] ∧ St [] W w [.blk b1 55 [.int .i64 p0.Events, .slice ao p0.Places.length aq], .blk b2 66 [.int .i64 0, .slice none 0 0], .row A29 n30 c31 2 1 (ints xs279)]) F ?_ ?_ ?_
         ·exact ⟨xs171, false, 0, hl300, hn172, (FrD.pick (FrD.pick (FrD.pick (FrD.pick (FrD.pick (FrD.pick (FrD.pick (FrD.pick hf.none hf rfl) hf rfl) hf rfl) hf rfl) hf rfl) hf rfl) hf rfl) hf rfl), hs⟩
         ·rintro a w ⟨xs279, b281, x282, h0_, -, -, -⟩; simp [impl_LatestTimetable_L5] at h0_
         ·rintro n302 a w ⟨xs279, b281, x282, hm301, hn280, hf, hs⟩
          rw [impl_LatestTimetable_L5] at hm301
          refine wpL_seq <| wpL_region ?_
          refine sY hf hs rfl rfl rfl (Y_lss rfl rfl rfl) ?_; clear hf; intro a hf
          refine wpO_nil <| wpL_seq ?_
          refine wpL_cond hf rfl (fun hb303 => ?_) (fun hb303 => ?_)
          ·have hm301 := bif_t hm301 hb303
           refine wpL_skip <| wpL_seq <| wpL_block0 <| wpL_seq <| wpL_region ?_
           obtain ⟨q304, hi305, hm301⟩ := bind_some hm301
           obtain ⟨hi305a, hi305b, hi305q⟩ := idx_some hi305
           refine sY hf hs rfl rfl rfl (Y_index rfl rfl rfl el53 ti64 (Rd.isAt (aV.at hs) (recs_at (s := 4) GPlace.len hi305q (j := 0) rfl)) hi305a hi305b) ?_; clear hf; intro a hf
           refine sY hf hs rfl rfl rfl (Y_load_rdS rfl rfl (us := [.int .i64 q304.From, .int .i64 q304.To, .int .i64 q304.Delay, .int .i64 q304.Tokens]) (fun w hs => aV.at hs) (fun j u hj => recs_at (s := 4) GPlace.len hi305q hj) (Nat.succ_pos _) ag64 ti64 rfl) ?_; clear hf; intro a hf
           refine sAlloc hf hs rfl rfl rfl rfl ti64 ?_; clear hf hs; intro a w b306 hs hf
           have hs : St [] W w [.blk b1 55 [.int .i64 p0.Events, .slice ao p0.Places.length aq], .blk b2 66 [.int .i64 0, .slice none 0 0], .row A29 n30 c31 2 1 (ints xs279), .blk b306 64 [.int .i64 0, .int .i64 0, .int .i64 0, .int .i64 0]] := hs
           refine sStore (i := 3) (us := [.int .i64 q304.From, .int .i64 q304.To, .int .i64 q304.Delay, .int .i64 q304.Tokens]) hf hs rfl rfl rfl rfl rfl rfl ti64 rfl rfl rfl (Nat.le_of_ble_eq_true rfl) rfl ?_; clear hs; intro w hs
           have hs : St [] W w [.blk b1 55 [.int .i64 p0.Events, .slice ao p0.Places.length aq], .blk b2 66 [.int .i64 0, .slice none 0 0], .row A29 n30 c31 2 1 (ints xs279), .blk b306 64 [.int .i64 q304.From, .int .i64 q304.To, .int .i64 q304.Delay, .int .i64 q304.Tokens]] := hs
           refine wpO_nil <| wpL_seq ?_
           refine wpL_draw (by kernel_rfl) (by kernel_rfl) hs ?_
           refine qY hf rfl rfl rfl (Y_move rfl rfl) ?_; clear hf; intro a hf
           refine qY hf rfl rfl rfl (Y_fieldAddr rfl rfl fo64_1) ?_; clear hf; intro a hf
           refine qY hf rfl rfl rfl (Y_load_blk rfl rfl (i := 3) rfl rfl ag2) ?_; clear hf; intro a hf
           obtain ⟨q307, hi308, hm301⟩ := bind_some hm301
           obtain ⟨hi308a, hi308b, hi308q⟩ := idx_some hi308
           refine qY hf rfl rfl rfl (Y_index rfl rfl rfl el28 ti2 (Rd.isAt (hs.rd (i := 2) rfl) (at1 (ints_at hi308q))) hi308a (ltn hn280 hi308b)) ?_; clear hf; intro a hf
           refine qY hf rfl rfl rfl (Y_load_rd rfl rfl (fun w hs => hs.rd (i := 2) rfl) (at1 (ints_at hi308q)) ag2) ?_; clear hf; intro a hf
           refine qY hf rfl rfl rfl (Y_fieldAddr rfl rfl fo64_3) ?_; clear hf; intro a hf
           refine qY hf rfl rfl rfl (Y_load_blk rfl rfl (i := 3) rfl rfl ag2) ?_; clear hf; intro a hf
           refine qY hf rfl rfl rfl (Y_move rfl rfl) ?_; clear hf; intro a hf
           refine qY hf rfl rfl rfl (Y_mul rfl rfl rfl) ?_; clear hf; intro a hf
           refine qY hf rfl rfl rfl (Y_add rfl rfl rfl) ?_; clear hf; intro a hf
           refine qY hf rfl rfl rfl (Y_fieldAddr rfl rfl fo64_2) ?_; clear hf; intro a hf
           refine qY hf rfl rfl rfl (Y_load_blk rfl rfl (i := 3) rfl rfl ag2) ?_; clear hf; intro a hf
           refine qY hf rfl rfl rfl (Y_sub rfl rfl rfl) ?_; clear hf; intro a hf
           refine qY hf rfl rfl rfl (Y_assign rfl rfl) ?_; clear hf; intro a hf
           refine qNil ?_; clear hs; intro w hs
           refine wpL_seq <| wpL_region ?_
           refine sY hf hs rfl rfl rfl (Y_move rfl rfl) ?_; clear hf; intro a hf
           refine sY hf hs rfl rfl rfl (Y_move rfl rfl) ?_; clear hf; intro a hf
           refine sY hf hs rfl rfl rfl (Y_fieldAddr rfl rfl fo64_0) ?_; clear hf; intro a hf
           refine sY hf hs rfl rfl rfl (Y_load_blk rfl rfl (i := 3) rfl rfl ag2) ?_; clear hf; intro a hf
           obtain ⟨q309, hi310, hm301⟩ := bind_some hm301
           obtain ⟨hi310a, hi310b, hi310q⟩ := idx_some hi310
           refine sY hf hs rfl rfl rfl (Y_index rfl rfl rfl el28 ti2 (Rd.isAt (hs.rd (i := 2) rfl) (at1 (ints_at hi310q))) hi310a (ltn hn280 hi310b)) ?_; clear hf; intro a hf
           refine sY hf hs rfl rfl rfl (Y_load_rd rfl rfl (fun w hs => hs.rd (i := 2) rfl) (at1 (ints_at hi310q)) ag2) ?_; clear hf; intro a hf
           refine sY hf hs rfl rfl rfl (Y_lss rfl rfl rfl) ?_; clear hf; intro a hf
           refine wpO_nil ?_
           refine wpL_cond hf rfl (fun hb311 => ?_) (fun hb311 => ?_)
           ·have hm301 := bif_t hm301 hb311
            refine wpL_region ?_
            refine sY hf hs rfl rfl rfl (Y_move rfl rfl) ?_; clear hf; intro a hf
            refine sY hf hs rfl rfl rfl (Y_fieldAddr rfl rfl fo64_0) ?_; clear hf; intro a hf
            refine sY hf hs rfl rfl rfl (Y_load_blk rfl rfl (i := 3) rfl rfl ag2) ?_; clear hf; intro a hf
            refine sY hf hs rfl rfl rfl (Y_move rfl rfl) ?_; clear hf; intro a hf
            obtain ⟨q312, hi313, hm301⟩ := bind_some hm301
            obtain ⟨hi313a, hi313b, hi313q⟩ := idx_some hi313
            refine sY hf hs rfl rfl rfl (Y_index rfl rfl rfl el28 ti2 (Rd.isAt (hs.rd (i := 2) rfl) (at1 (ints_at hi313q))) hi313a (ltn hn280 hi313b)) ?_; clear hf; intro a hf
            obtain ⟨xs314, hu315, hm301⟩ := bind_some hm301
            refine sStoreL (i := 2) (us := [.int .i64 (IntKind.i64.wrap ((IntKind.i64.wrap (q307 + (IntKind.i64.wrap (q304.Tokens * p1)))) - q304.Delay))]) (enc := ints) hf hs rfl rfl rfl rfl rfl rfl hn280 hu315 ti2 rfl rfl rfl rfl rfl ints_len1 (ints_set (IntKind.i64.wrap ((IntKind.i64.wrap (q307 + (IntKind.i64.wrap (q304.Tokens * p1)))) - q304.Delay))) ?_; clear hs; intro w hs
            have hs : St [] W w [.blk b1 55 [.int .i64 p0.Events, .slice ao p0.Places.length aq], .blk b2 66 [.int .i64 0, .slice none 0 0], .row A29 n30 c31 2 1 (ints xs314), .blk b306 64 [.int .i64 q304.From, .int .i64 q304.To, .int .i64 q304.Delay, .int .i64 q304.Tokens]] := hs
            refine sY hf hs rfl rfl rfl (Y_assign rfl rfl) ?_; clear hf; intro a hf
            refine wpO_nil ?_
            refine wpL_nil (Qb_normal ?_)
            refine wpL_region ?_
            refine sY hf hs rfl rfl rfl (Y_add rfl rfl rfl) ?_; clear hf; intro a hf
            refine sY hf hs rfl rfl rfl (Y_move rfl rfl) ?_; clear hf; intro a hf
            refine wpO_nil ?_
            refine wpL_nil (Ql_normal ?_)
            exact ⟨xs314, true, (IntKind.i64.wrap (x282 + 1)), hm301, ((hn280).trans (upd_len hu315).symm), (FrD.pick (FrD.pick (FrD.pick (FrD.pick (FrD.pick (FrD.pick (FrD.pick (FrD.pick hf.none hf rfl) hf rfl) hf rfl) hf rfl) hf rfl) hf rfl) hf rfl) hf rfl), hs.sel [0, 1, 2] (by decide)⟩
           ·have hm301 := bif_f hm301 hb311
            refine wpL_skip ?_
            refine wpL_nil (Qb_normal ?_)
            refine wpL_region ?_
            refine sY hf hs rfl rfl rfl (Y_add rfl rfl rfl) ?_; clear hf; intro a hf
            refine sY hf hs rfl rfl rfl (Y_move rfl rfl) ?_; clear hf; intro a hf
            refine wpO_nil ?_
            refine wpL_nil (Ql_normal ?_)
            exact ⟨xs279, b281, (IntKind.i64.wrap (x282 + 1)), hm301, hn280, (FrD.pick (FrD.pick (FrD.pick (FrD.pick (FrD.pick (FrD.pick (FrD.pick (FrD.pick hf.none hf rfl) hf rfl) hf rfl) hf rfl) hf rfl) hf rfl) hf rfl) hf rfl), hs.sel [0, 1, 2] (by decide)⟩
          ·have hm301 := bif_f hm301 hb303
           refine wpL_exit (Ql_exit (Qb_exit ?_))
           exact ⟨xs279, b281, Option.some.inj hm301, hn280, (FrD.pick (FrD.pick (FrD.pick (FrD.pick (FrD.pick hf.none hf rfl) hf rfl) hf rfl) hf rfl) hf rfl), hs⟩
        ·rintro a w ⟨xs296, b298, hr_, hn297, hf, hs⟩
         subst hr_
         try dsimp only at hm246
         refine wpL_nil (Qb_normal ?_)
         refine wpL_nil (Ql_normal ?_)
         exact ⟨xs296, b298, hm246, hn297, (FrD.pick (FrD.pick (FrD.pick (FrD.pick (FrD.pick hf.none hf rfl) hf rfl) hf rfl) hf rfl) hf rfl), hs⟩
       ·have hm246 := bif_f hm246 hb248
        refine wpL_exit (Ql_exit (Qb_exit ?_))
        exact ⟨xs171, Option.some.inj hm246, hn172, (FrD.pick (FrD.pick (FrD.pick hf.none hf rfl) hf rfl) hf rfl), hs.sel [1, 2] (by decide)⟩
     ·rintro a w ⟨xs242, hr_, hn243, hf, hs⟩
      subst hr_
      try dsimp only at hm
      refine wpL_seq <| wpL_seq <| wpL_region ?_
      refine sY hf hs rfl rfl rfl (Y_move rfl rfl) ?_; clear hf; intro a hf
      obtain ⟨r316, hc317, hm⟩ := bind_some hm
      refine sCall hf rfl rfl rfl rfl (cap := []) rfl rfl en121 (slices_Min_int64_ok F xs242 A29 n30 c31 hn243 _ _ hc317 (hs.rd (i := 1) rfl)) ?_; clear hf
      rintro _ w ⟨rfl, hs1⟩ a hf
      have hs : St [] W w [.blk b2 66 [.int .i64 0, .slice none 0 0], .row A29 n30 c31 2 1 (ints xs242)] := hs.ext hs1.below
      clear hs1
      refine sY hf hs rfl rfl rfl (Y_lss rfl rfl rfl) ?_; clear hf; intro a hf
      refine wpO_nil ?_
      refine wpL_cond hf rfl (fun hb318 => ?_) (fun hb318 => ?_)
      ·have hm := bif_t hm hb318
       refine wpL_seq <| wpL_region ?_
       refine sY hf hs rfl rfl rfl (Y_build (parts := []) (vs := []) rfl rfl (run_build (parts := []) (cells := [.int .i64 0, .slice none 0 0]) (places := #[(0, 1), (1, 1)]) ti66 Try.underlying66 (fun w => by simp [go_sem]) rfl)) ?_; clear hf; intro a hf
       refine sStore (i := 0) (us := [.int .i64 0, .slice none 0 0]) hf hs rfl rfl rfl rfl rfl rfl ti66 rfl rfl rfl (Nat.le_of_ble_eq_true rfl) rfl ?_; clear hs; intro w hs
       have hs : St [] W w [.blk b2 66 [.int .i64 0, .slice none 0 0], .row A29 n30 c31 2 1 (ints xs242)] := hs
       refine sY hf hs rfl rfl rfl (Y_assign rfl rfl) ?_; clear hf; intro a hf
       refine wpO_nil ?_
       have hs : St [] W _ [.blk b2 66 [.int .i64 0, .slice none 0 0], .row A29 n30 c31 2 1 (ints xs242), .row none 0 0 2 1 (ints ([] : List Int))] := hs.addNil 2 1
       obtain rfl := Option.some.inj hm
       refine wpL_ret (ret_cell_tmp rfl hf rfl rfl hs (i := 0) rfl ag66 ti66 rfl ?_)
       exact ⟨_, rfl, none, 0, 0, rfl, rfl, hs.sel [2] (by decide)⟩
      ·have hm := bif_f hm hb318
       refine wpL_skip <| wpL_seq <| wpL_region ?_
       refine sY hf hs rfl rfl rfl (Y_move rfl rfl) ?_; clear hf; intro a hf
       refine sY hf hs rfl rfl rfl (Y_move rfl rfl) ?_; clear hf; intro a hf
       refine sY hf hs rfl rfl rfl (Y_build (parts := [(0, .tmp 78), (1, .tmp 79)]) (vs := [.int .i64 p1, .slice A29 n30 c31]) rfl rfl (run_build (parts := [(0, .int .i64 p1), (1, .slice A29 n30 c31)]) (cells := [.int .i64 p1, .slice A29 n30 c31]) (places := #[(0, 1), (1, 1)]) ti66 Try.underlying66 (fun w => by simp [go_sem]) rfl)) ?_; clear hf; intro a hf
       refine sStore (i := 0) (us := [.int .i64 p1, .slice A29 n30 c31]) hf hs rfl rfl rfl rfl rfl rfl ti66 rfl rfl rfl (Nat.le_of_ble_eq_true rfl) rfl ?_; clear hs; intro w hs
       have hs : St [] W w [.blk b2 66 [.int .i64 p1, .slice A29 n30 c31], .row A29 n30 c31 2 1 (ints xs242)] := hs
       refine sY hf hs rfl rfl rfl (Y_assign rfl rfl) ?_; clear hf; intro a hf
       refine wpO_nil ?_
       obtain rfl := Option.some.inj hm
       refine wpL_ret (ret_cell_tmp rfl hf rfl rfl hs (i := 0) rfl ag66 ti66 rfl ?_)
       exact ⟨_, rfl, A29, n30, c31, rfl, hn243, hs.sel [1] (by decide)⟩

set_option maxRecDepth 100000 in
theorem spec_l20Period_ok (F : Nat) (ag : GEventGraph) (ah : Option Addr) (ax aj : Nat) (aC : ax = ag.Places.length) (aG : Int) (r : Int) (W : World) (hm : spec_l20Period F ag aG = some r) (ay : Rd W ah ((recs GPlace.cells) ag.Places)) :
  Calls Try.prog 122 [.agg #[.int .i64 ag.Events, .slice ah ax aj], .int .i64 aG].toArray W fun e w' => ∃ v, e = .returned v ∧ v = .int .i64 r ∧ St [] W w' [] := by
 subst aC
 unfold spec_l20Period at hm
 refine Calls.enter (N := 13) Try.func122 rfl rfl rfl (fun a hf => ?_)
 have hs := St.start W
 obtain ⟨w, hw_⟩ : ∃ w, w = W := ⟨W, rfl⟩
 clear hw_ w
 refine wpL_seq <| wpL_region ?_
 refine sBox hf hs rfl rfl rfl rfl rfl (cs := [.int .i64 ag.Events, .slice ah ag.Places.length aj]) rfl ?_; clear hf hs; intro a w b1 hs hf
 have hs : St [] W w [.blk b1 55 [.int .i64 ag.Events, .slice ah ag.Places.length aj]] := hs
 refine sY hf hs rfl rfl rfl (Y_assign rfl rfl) ?_; clear hf; intro a hf
 refine wpO_nil <| wpL_seq <| wpL_block0 <| wpL_seq <| wpL_region ?_
 refine sY hf hs rfl rfl rfl (Y_load_blkS rfl rfl (i := 0) rfl ag55 ti55 rfl) ?_; clear hf; intro a hf
 obtain ⟨r2, hc3, hm⟩ := bind_some hm
 refine sCall hf rfl rfl rfl rfl (cap := []) rfl rfl en113 (spec_IsEventGraph_ok F ag ah ag.Places.length aj rfl _ _ hc3 (ay.at hs)) ?_; clear hf
 rintro _ w ⟨rfl, hs1⟩ a hf
 have hs : St [] W w [.blk b1 55 [.int .i64 ag.Events, .slice ah ag.Places.length aj]] := hs.ext hs1.below
 clear hs1
 refine sY hf hs rfl rfl rfl (Y_not rfl rfl) ?_; clear hf; intro a hf
 refine sY hf hs rfl rfl rfl (Y_assign rfl rfl) ?_; clear hf; intro a hf
 refine wpO_nil ?_
 refine wpL_cond hf rfl (fun hb4 => ?_) (fun hb4 => ?_)
 ·have hm := bif_t hm hb4
  refine wpL_seq <| wpL_region ?_
  refine sY hf hs rfl rfl rfl (Y_assign rfl rfl) ?_; clear hf; intro a hf
  refine wpO_nil ?_
  obtain rfl := Option.some.inj hm
  refine wpL_ret (Qb_ret (ret_tmp rfl hf rfl ?_))
  exact ⟨_, rfl, rfl, hs.sel [] (by decide)⟩
 ·have hm := bif_f hm hb4
  refine wpL_seq <| wpL_region ?_
  refine sY hf hs rfl rfl rfl (Y_move rfl rfl) ?_; clear hf; intro a hf
  obtain ⟨r5, hc6, hm⟩ := bind_some hm
  refine sCall hf rfl rfl rfl rfl (cap := []) rfl rfl en77 (spec_l01In_ok F aG 0 100000 _ _ hc6) ?_; clear hf
  rintro _ w ⟨rfl, hs1⟩ a hf
  have hs : St [] W w [.blk b1 55 [.int .i64 ag.Events, .slice ah ag.Places.length aj]] := hs.ext hs1.below
  clear hs1
  refine sY hf hs rfl rfl rfl (Y_not rfl rfl) ?_; clear hf; intro a hf
  refine sY hf hs rfl rfl rfl (Y_assign rfl rfl) ?_; clear hf; intro a hf
  refine wpO_nil ?_
  refine wpL_cond hf rfl (fun hb7 => ?_) (fun hb7 => ?_)
  ·have hm := bif_t hm hb7
   refine wpL_seq <| wpL_region ?_
   refine sY hf hs rfl rfl rfl (Y_assign rfl rfl) ?_; clear hf; intro a hf
   refine wpO_nil ?_
   obtain rfl := Option.some.inj hm
   refine wpL_ret (Qb_ret (ret_tmp rfl hf rfl ?_))
   exact ⟨_, rfl, rfl, hs.sel [] (by decide)⟩
  ·have hm := bif_f hm hb7
   refine wpL_skip ?_
   refine wpL_nil (Qb_normal ?_)
   refine wpL_seq <| wpL_region ?_
   refine sY hf hs rfl rfl rfl (Y_assign rfl rfl) ?_; clear hf; intro a hf
   refine wpO_nil ?_
   obtain rfl := Option.some.inj hm
   refine wpL_ret (ret_tmp rfl hf rfl ?_)
   exact ⟨_, rfl, rfl, hs.sel [] (by decide)⟩

set_option maxRecDepth 100000 in
theorem spec_l01Within_ok (F : Nat) (bh : List Int) (bj : Option Addr) (bA bB : Nat) (bP : bA = bh.length) (cr : Int) (cp : Int) (ci : Int) (r : Bool) (W : World) (hm : spec_l01Within F bh cr cp ci = some r) (bI : Rd W bj (ints bh)) :
  Calls Try.prog 76 [.slice bj bA bB, .int .i64 cr, .int .i64 cp, .int .i64 ci].toArray W fun e w' => ∃ v, e = .returned v ∧ v = .bool r ∧ St [] W w' [] := by
 subst bP
 unfold spec_l01Within at hm
 refine Calls.enter (N := 28) Try.func76 rfl rfl rfl (fun a hf => ?_)
 have hs := St.start W
 obtain ⟨w, hw_⟩ : ∃ w, w = W := ⟨W, rfl⟩
 clear hw_ w
 refine wpL_seq <| wpL_region ?_
 refine sY hf hs rfl rfl rfl (Y_assign rfl rfl) ?_; clear hf; intro a hf
 refine wpO_nil <| wpL_seq <| wpL_seq <| wpL_region ?_
 refine sY hf hs rfl rfl rfl (Y_assign rfl rfl) ?_; clear hf; intro a hf
 refine wpO_nil ?_
 obtain ⟨r21, hl22, hm⟩ := bind_some hm
 refine wpL_block (fun a w => Sum.inr () = r21 ∧ Fr a 28 [(0, .slice bj bh.length bB), (1, .int .i64 cr)] ∧ St [] W w []) ?_ ?_
 ·refine wpL_loop (fun n a w => ∃ x14 : Int, spec_l01Within_L1 F bh cp ci n x14 = some r21 ∧ Fr a 28 [(0, .slice bj bh.length bB), (1, .int .i64 cr), (2, .int .i64 cp), (3, .int .i64 ci), (9, .int .i64 x14)] ∧ St [] W w []) F ?_ ?_ ?_
  ·exact ⟨0, hl22, (FrD.pick (FrD.pick (FrD.pick (FrD.pick (FrD.pick hf.none hf rfl) hf rfl) hf rfl) hf rfl) hf rfl), hs⟩
  ·rintro a w ⟨x14, h0_, -, -⟩; simp [spec_l01Within_L1] at h0_
  ·rintro n24 a w ⟨x14, hm23, hf, hs⟩
   rw [spec_l01Within_L1] at hm23
   refine wpL_seq <| wpL_seq <| wpL_region ?_
   refine sY hf hs rfl rfl rfl (Y_move rfl rfl) ?_; clear hf; intro a hf
   refine sY hf hs rfl rfl rfl (Y_move rfl rfl) ?_; clear hf; intro a hf
   refine sY hf hs rfl rfl rfl (Y_lenH rfl rfl el28 rfl) ?_; clear hf; intro a hf
   refine sY hf hs rfl rfl rfl (Y_lss rfl rfl rfl) ?_; clear hf; intro a hf
   refine wpO_nil ?_
   refine wpL_cond hf rfl (fun hb25 => ?_) (fun hb25 => ?_)
   ·have hm23 := bif_t hm23 hb25
    refine wpL_skip <| wpL_seq <| wpL_block0 <| wpL_seq <| wpL_region ?_
    refine sY hf hs rfl rfl rfl (Y_move rfl rfl) ?_; clear hf; intro a hf
    refine sY hf hs rfl rfl rfl (Y_move rfl rfl) ?_; clear hf; intro a hf
    obtain ⟨q26, hi27, hm23⟩ := bind_some hm23
    obtain ⟨hi27a, hi27b, hi27q⟩ := idx_some hi27
    refine sY hf hs rfl rfl rfl (Y_index rfl rfl rfl el28 ti2 (Rd.isAt (bI.at hs) (at1 (ints_at hi27q))) hi27a hi27b) ?_; clear hf; intro a hf
    refine sY hf hs rfl rfl rfl (Y_load_rd rfl rfl (fun w hs => bI.at hs) (at1 (ints_at hi27q)) ag2) ?_; clear hf; intro a hf
    refine sY hf hs rfl rfl rfl (Y_move rfl rfl) ?_; clear hf; intro a hf
    refine sY hf hs rfl rfl rfl (Y_move rfl rfl) ?_; clear hf; intro a hf
    obtain ⟨r28, hc29, hm23⟩ := bind_some hm23
    refine sCall hf rfl rfl rfl rfl (cap := []) rfl rfl en77 (spec_l01In_ok F q26 cp ci _ _ hc29) ?_; clear hf
    rintro _ w ⟨rfl, hs1⟩ a hf
    have hs : St [] W w [] := hs.ext hs1.below
    clear hs1
    refine sY hf hs rfl rfl rfl (Y_not rfl rfl) ?_; clear hf; intro a hf
    refine wpO_nil ?_
    refine wpL_cond hf rfl (fun hb30 => ?_) (fun hb30 => ?_)
    ·have hm23 := bif_t hm23 hb30
     refine wpL_seq <| wpL_region ?_
     refine sY hf hs rfl rfl rfl (Y_assign rfl rfl) ?_; clear hf; intro a hf
     refine wpO_nil ?_
     obtain rfl := Option.some.inj hm23
     try dsimp only at hm
     obtain rfl := Option.some.inj hm
     refine wpL_ret (Qb_ret (Ql_ret (Qb_ret (ret_tmp rfl hf rfl ?_))))
     exact ⟨_, rfl, rfl, hs⟩
    ·have hm23 := bif_f hm23 hb30
     refine wpL_skip ?_
     refine wpL_nil (Qb_normal ?_)
     refine wpL_region ?_
     refine sY hf hs rfl rfl rfl (Y_move rfl rfl) ?_; clear hf; intro a hf
     refine sY hf hs rfl rfl rfl (Y_add rfl rfl rfl) ?_; clear hf; intro a hf
     refine sY hf hs rfl rfl rfl (Y_assign rfl rfl) ?_; clear hf; intro a hf
     refine wpO_nil ?_
     refine wpL_nil (Ql_normal ?_)
     exact ⟨(IntKind.i64.wrap (x14 + 1)), hm23, (FrD.pick (FrD.pick (FrD.pick (FrD.pick (FrD.pick hf.none hf rfl) hf rfl) hf rfl) hf rfl) hf rfl), hs⟩
   ·have hm23 := bif_f hm23 hb25
    refine wpL_exit (Ql_exit (Qb_exit ?_))
    exact ⟨Option.some.inj hm23, (FrD.pick (FrD.pick hf.none hf rfl) hf rfl), hs⟩
 ·rintro a w ⟨hr_, hf, hs⟩
  subst hr_
  try dsimp only at hm
  refine wpL_seq <| wpL_region ?_
  refine sY hf hs rfl rfl rfl (Y_move rfl rfl) ?_; clear hf; intro a hf
  refine sY hf hs rfl rfl rfl (Y_lenH rfl rfl el28 rfl) ?_; clear hf; intro a hf
  refine sY hf hs rfl rfl rfl (Y_move rfl rfl) ?_; clear hf; intro a hf
  refine sY hf hs rfl rfl rfl (Y_leq rfl rfl rfl) ?_; clear hf; intro a hf
  refine sY hf hs rfl rfl rfl (Y_assign rfl rfl) ?_; clear hf; intro a hf
  refine wpO_nil ?_
  obtain rfl := Option.some.inj hm
  refine wpL_ret (ret_tmp rfl hf rfl ?_)
  exact ⟨_, rfl, rfl, hs⟩

set_option maxRecDepth 100000 in
theorem spec_l02Bottom_ok (F : Nat) (bX : Int) (bM : Int) (r : List (List Int)) (W : World) (hm : spec_l02Bottom F bX bM = some r) :
  Calls Try.prog 154 [.int .i64 bX, .int .i64 bM].toArray W fun e w' => ∃ v, e = .returned v ∧ ∃ A268, ∃ n269, ∃ c270, ∃ vs272, v = .slice A268 n269 c270 ∧ n269 = r.length ∧ St [] W w' [.mat A268 n269 c270 28 2 vs272 r] := by
 unfold spec_l02Bottom at hm
 refine Calls.enter (N := 29) Try.func154 rfl rfl rfl (fun a hf => ?_)
 have hs := St.start W
 obtain ⟨w, hw_⟩ : ∃ w, w = W := ⟨W, rfl⟩
 clear hw_ w
 refine wpL_seq <| wpL_region ?_
 refine sY hf hs rfl rfl rfl (Y_assign rfl rfl) ?_; clear hf; intro a hf
 refine wpO_nil <| wpL_seq <| wpL_region ?_
 refine sEmptyM 2 hf hs rfl rfl rfl rfl el40 ti28 rfl ?_; clear hf hs; intro a w A1 hs hf
 have hs : St [] W w [.mat A1 0 0 28 2 [] []] := hs
 refine sY hf hs rfl rfl rfl (Y_assign rfl rfl) ?_; clear hf; intro a hf
 refine wpO_nil <| wpL_seq <| wpL_seq <| wpL_region ?_
 refine sY hf hs rfl rfl rfl (Y_assign rfl rfl) ?_; clear hf; intro a hf
 refine wpO_nil ?_
 obtain ⟨r204, hl205, hm⟩ := bind_some hm
 refine wpL_block (fun a w => ∃ ms198 : List (List Int), ∃ A199, ∃ n200, ∃ c201, ∃ vs203, ms198 = r204 ∧ n200 = ms198.length ∧ Fr a 29 [(5, .slice A199 n200 c201)] ∧ St [] W w [.mat A199 n200 c201 28 2 vs203 ms198]) ?_ ?_
 ·refine wpL_loop (fun n a w => ∃ ms131 : List (List Int), ∃ x137 : Int, ∃ A132, ∃ n133, ∃ c134, ∃ vs136, spec_l02Bottom_L4 F bX bM n ms131 x137 = some r204 ∧ n133 = ms131.length ∧ Fr a 29 [(0, .int .i64 bX), (1, .int .i64 bM), (5, .slice A132 n133 c134), (6, .int .i64 x137)] ∧ St [] W w [.mat A132 n133 c134 28 2 vs136 ms131]) F ?_ ?_ ?_
  ·exact ⟨[], 0, A1, 0, 0, [], hl205, rfl, (FrD.pick (FrD.pick (FrD.pick (FrD.pick hf.none hf rfl) hf rfl) hf rfl) hf rfl), hs⟩
  ·rintro a w ⟨ms131, x137, A132, n133, c134, vs136, h0_, -, -, -⟩; simp [spec_l02Bottom_L4] at h0_
  ·rintro n207 a w ⟨ms131, x137, A132, n133, c134, vs136, hm206, hn135, hf, hs⟩
   rw [spec_l02Bottom_L4] at hm206
   refine wpL_seq <| wpL_seq <| wpL_region ?_
   refine sY hf hs rfl rfl rfl (Y_move rfl rfl) ?_; clear hf; intro a hf
   refine sY hf hs rfl rfl rfl (Y_move rfl rfl) ?_; clear hf; intro a hf
   refine sY hf hs rfl rfl rfl (Y_lss rfl rfl rfl) ?_; clear hf; intro a hf
   refine wpO_nil ?_
   refine wpL_cond hf rfl (fun hb208 => ?_) (fun hb208 => ?_)
   ·have hm206 := bif_t hm206 hb208
    refine wpL_skip <| wpL_seq <| wpL_block0 <| wpL_seq <| wpL_region ?_
    refine sEmpty hf hs rfl rfl rfl rfl el28 ti2 ?_; clear hf hs; intro a w A209 hs hf
    have hs : St [] W w [.mat A132 n133 c134 28 2 vs136 ms131, .row A209 0 0 2 1 (ints ([] : List Int))] := hs
    refine sY hf hs rfl rfl rfl (Y_assign rfl rfl) ?_; clear hf; intro a hf
    refine wpO_nil <| wpL_seq <| wpL_seq <| wpL_region ?_
    refine sY hf hs rfl rfl rfl (Y_assign rfl rfl) ?_; clear hf; intro a hf
    refine wpO_nil ?_
    obtain ⟨r249, hl250, hm206⟩ := bind_some hm206
    refine wpL_block (fun a w => ∃ xs244 : List Int, ∃ A245, ∃ n246, ∃ c247, xs244 = r249 ∧ n246 = xs244.length ∧ Fr a 29 [(0, .int .i64 bX), (1, .int .i64 bM), (5, .slice A132 n133 c134), (6, .int .i64 x137), (7, .slice A245 n246 c247)] ∧ St [] W w [.mat A132 n133 c134 28 2 vs136 ms131, .row A245 n246 c247 2 1 (ints xs244)]) ?_ ?_
    ·refine wpL_loop (fun n a w => ∃ xs231 : List Int, ∃ x236 : Int, ∃ A232, ∃ n233, ∃ c234, spec_l02Bottom_L5 F bM n xs231 x236 = some r249 ∧ n233 = xs231.length ∧ Fr a 29 [(0, .int .i64 bX), (1, .int .i64 bM), (5, .slice A132 n133 c134), (6, .int .i64 x137), (7, .slice A232 n233 c234), (8, .int .i64 x236)] ∧ St [] W w [.mat A132 n133 c134 28 2 vs136 ms131, .row A232 n233 c234 2 1 (ints xs231)]) F ?_ ?_ ?_
     ·exact ⟨([] : List Int), 0, A209, 0, 0, hl250, rfl, (FrD.pick (FrD.pick (FrD.pick (FrD.pick (FrD.pick (FrD.pick hf.none hf rfl) hf rfl) hf rfl) hf rfl) hf rfl) hf rfl), hs⟩
     ·rintro a w ⟨xs231, x236, A232, n233, c234, h0_, -, -, -⟩; simp [spec_l02Bottom_L5] at h0_
     ·rintro n252 a w ⟨xs231, x236, A232, n233, c234, hm251, hn235, hf, hs⟩
      rw [spec_l02Bottom_L5] at hm251
      refine wpL_seq <| wpL_seq <| wpL_region ?_
      refine sY hf hs rfl rfl rfl (Y_move rfl rfl) ?_; clear hf; intro a hf
      refine sY hf hs rfl rfl rfl (Y_move rfl rfl) ?_; clear hf; intro a hf
      refine sY hf hs rfl rfl rfl (Y_lss rfl rfl rfl) ?_; clear hf; intro a hf
      refine wpO_nil ?_
      refine wpL_cond hf rfl (fun hb253 => ?_) (fun hb253 => ?_)
      ·have hm251 := bif_t hm251 hb253
       refine wpL_skip <| wpL_seq <| wpL_block0 <| wpL_region ?_
       refine sY hf hs rfl rfl rfl (Y_move rfl rfl) ?_; clear hf; intro a hf
       refine sBuildSlice (parts := [(0, .const (.int .i64 (-1000000000000000)))]) (vs := [.int .i64 (-1000000000000000)]) (cells := [.int .i64 (-1000000000000000)]) hf hs rfl rfl rfl rfl rfl el28 ti2 rfl rfl rfl rfl ?_; clear hf hs; intro a w A254 hs hA255 hf
       have hs : St [] W w [.mat A132 n133 c134 28 2 vs136 ms131, .row A232 n233 c234 2 1 (ints xs231), .row A254 1 1 2 1 (ints ([(-1000000000000000)]))] := hs
       obtain ⟨xs258, ha259, hm251⟩ := bind_some hm251
       refine sAppendL (i := 1) (xs := xs231) (ys := [(-1000000000000000)]) (enc := ints) hf hs rfl rfl rfl rfl rfl rfl hn235 rfl rfl ha259 el28 ti2 rfl rfl rfl (hs.rd (i := 2) rfl) (Nat.succ_pos _) ints_len1 ints_append ints_one ?_; clear hf hs; intro a w A256 c257 hs hf
       have hs : St [] W w [.mat A132 n133 c134 28 2 vs136 ms131, .row A256 xs258.length c257 2 1 (ints xs258), .row A254 1 1 2 1 (ints ([(-1000000000000000)]))] := hs
       refine sY hf hs rfl rfl rfl (Y_assign rfl rfl) ?_; clear hf; intro a hf
       refine wpO_nil ?_
       refine wpL_nil (Qb_normal ?_)
       refine wpL_region ?_
       refine sY hf hs rfl rfl rfl (Y_move rfl rfl) ?_; clear hf; intro a hf
       refine sY hf hs rfl rfl rfl (Y_add rfl rfl rfl) ?_; clear hf; intro a hf
       refine sY hf hs rfl rfl rfl (Y_assign rfl rfl) ?_; clear hf; intro a hf
       refine wpO_nil ?_
       refine wpL_nil (Ql_normal ?_)
       exact ⟨xs258, (IntKind.i64.wrap (x236 + 1)), A256, xs258.length, c257, hm251, rfl, (FrD.pick (FrD.pick (FrD.pick (FrD.pick (FrD.pick (FrD.pick hf.none hf rfl) hf rfl) hf rfl) hf rfl) hf rfl) hf rfl), hs.sel [0, 1] (by decide)⟩
      ·have hm251 := bif_f hm251 hb253
       refine wpL_exit (Ql_exit (Qb_exit ?_))
       exact ⟨xs231, A232, n233, c234, Option.some.inj hm251, hn235, (FrD.pick (FrD.pick (FrD.pick (FrD.pick (FrD.pick hf.none hf rfl) hf rfl) hf rfl) hf rfl) hf rfl), hs⟩
    ·rintro a w ⟨xs244, A245, n246, c247, hr_, hn248, hf, hs⟩
     subst hr_
     try dsimp only at hm206
     refine wpL_region ?_
     refine sY hf hs rfl rfl rfl (Y_move rfl rfl) ?_; clear hf; intro a hf
     refine sY hf hs rfl rfl rfl (Y_move rfl rfl) ?_; clear hf; intro a hf
     refine sOneM (j := 1) hf hs rfl rfl rfl rfl rfl rfl hn248 el40 ti28 ?_; clear hf hs; intro a w A260 hs hf
     have hs : St [] W w [.mat A132 n133 c134 28 2 vs136 ms131, .mat A260 1 1 28 2 ([Value.slice A245 xs244.length c247]) ([xs244])] := hs
     obtain ⟨ms264, ha265, hm206⟩ := bind_some hm206
     refine sAppendM (i := 0) (j := 1) hf hs rfl rfl rfl rfl rfl rfl hn135 rfl (by decide) rfl rfl (by decide) ha265 el40 ti28 rfl ?_; clear hf hs; intro a w A262 c263 hs hf
     have hs : St [] W w [.mat A262 ms264.length c263 28 2 (vs136 ++ ([Value.slice A245 xs244.length c247])) ms264] := hs
     obtain ⟨hq266, hv267⟩ := hs.appended (i := 0) rfl ha265
     refine sY hf hs rfl rfl rfl (Y_assign rfl rfl) ?_; clear hf; intro a hf
     refine wpO_nil ?_
     refine wpL_nil (Qb_normal ?_)
     refine wpL_region ?_
     refine sY hf hs rfl rfl rfl (Y_move rfl rfl) ?_; clear hf; intro a hf
     refine sY hf hs rfl rfl rfl (Y_add rfl rfl rfl) ?_; clear hf; intro a hf
     refine sY hf hs rfl rfl rfl (Y_assign rfl rfl) ?_; clear hf; intro a hf
     refine wpO_nil ?_
     refine wpL_nil (Ql_normal ?_)
     exact ⟨ms264, (IntKind.i64.wrap (x137 + 1)), A262, ms264.length, c263, (vs136 ++ ([Value.slice A245 xs244.length c247])), hm206, rfl, (FrD.pick (FrD.pick (FrD.pick (FrD.pick hf.none hf rfl) hf rfl) hf rfl) hf rfl), hs⟩
   ·have hm206 := bif_f hm206 hb208
    refine wpL_exit (Ql_exit (Qb_exit ?_))
    exact ⟨ms131, A132, n133, c134, vs136, Option.some.inj hm206, hn135, (FrD.pick hf.none hf rfl), hs⟩
 ·rintro a w ⟨ms198, A199, n200, c201, vs203, hr_, hn202, hf, hs⟩
  subst hr_
  try dsimp only at hm
  refine wpL_seq <| wpL_region ?_
  refine sY hf hs rfl rfl rfl (Y_move rfl rfl) ?_; clear hf; intro a hf
  refine sY hf hs rfl rfl rfl (Y_assign rfl rfl) ?_; clear hf; intro a hf
  refine wpO_nil ?_
  obtain rfl := Option.some.inj hm
  refine wpL_ret (ret_tmp rfl hf rfl ?_)
  exact ⟨_, rfl, A199, n200, c201, vs203, rfl, hn202, hs⟩

set_option maxRecDepth 100000 in
theorem spec_l15Weights_ok (F : Nat) (ag : GEventGraph) (ah : Option Addr) (ax aj : Nat) (aC : ax = ag.Places.length) (aA : GRatio) (r : List (List Int)) (W : World) (hm : spec_l15Weights F ag aA = some r) (ay : Rd W ah ((recs GPlace.cells) ag.Places)) :
  Calls Try.prog 123 [.agg #[.int .i64 ag.Events, .slice ah ax aj], .agg #[.int .i64 aA.Num, .int .i64 aA.Den]].toArray W fun e w' => ∃ v, e = .returned v ∧ ∃ A118, ∃ n119, ∃ c120, ∃ vs122, v = .slice A118 n119 c120 ∧ n119 = r.length ∧ St [] W w' [.mat A118 n119 c120 28 2 vs122 r] := by
 subst aC
 unfold spec_l15Weights at hm
 refine Calls.enter (N := 55) Try.func123 rfl rfl rfl (fun a hf => ?_)
 have hs := St.start W
 obtain ⟨w, hw_⟩ : ∃ w, w = W := ⟨W, rfl⟩
 clear hw_ w
 refine wpL_seq <| wpL_region ?_
 refine sBox hf hs rfl rfl rfl rfl rfl (cs := [.int .i64 ag.Events, .slice ah ag.Places.length aj]) rfl ?_; clear hf hs; intro a w b1 hs hf
 have hs : St [] W w [.blk b1 55 [.int .i64 ag.Events, .slice ah ag.Places.length aj]] := hs
 refine sBox hf hs rfl rfl rfl rfl rfl (cs := [.int .i64 aA.Num, .int .i64 aA.Den]) rfl ?_; clear hf hs; intro a w b2 hs hf
 have hs : St [] W w [.blk b1 55 [.int .i64 ag.Events, .slice ah ag.Places.length aj], .blk b2 129 [.int .i64 aA.Num, .int .i64 aA.Den]] := hs
 refine sY hf hs rfl rfl rfl (Y_assign rfl rfl) ?_; clear hf; intro a hf
 refine wpO_nil <| wpL_seq <| wpL_region ?_
 refine sY hf hs rfl rfl rfl (Y_fieldAddr rfl rfl fo55_0) ?_; clear hf; intro a hf
 refine sY hf hs rfl rfl rfl (Y_load_blk rfl rfl (i := 0) rfl rfl ag2) ?_; clear hf; intro a hf
 refine sY hf hs rfl rfl rfl (Y_fieldAddr rfl rfl fo55_0) ?_; clear hf; intro a hf
 refine sY hf hs rfl rfl rfl (Y_load_blk rfl rfl (i := 0) rfl rfl ag2) ?_; clear hf; intro a hf
 obtain ⟨r3, hc4, hm⟩ := bind_some hm
 refine sCall hf rfl rfl rfl rfl (cap := []) rfl rfl en154 (spec_l02Bottom_ok F ag.Events ag.Events _ _ hc4) ?_; clear hf
 rintro _ w ⟨A5, n6, c7, vs9, rfl, hn8, hs1⟩ a hf
 have hs : St [] W w [.blk b1 55 [.int .i64 ag.Events, .slice ah ag.Places.length aj], .blk b2 129 [.int .i64 aA.Num, .int .i64 aA.Den], .mat A5 n6 c7 28 2 vs9 r3] := hs.join hs1
 clear hs1
 refine sY hf hs rfl rfl rfl (Y_assign rfl rfl) ?_; clear hf; intro a hf
 refine wpO_nil <| wpL_seq <| wpL_seq <| wpL_region ?_
 refine sY hf hs rfl rfl rfl (Y_assign rfl rfl) ?_; clear hf; intro a hf
 refine wpO_nil ?_
 obtain ⟨r90, hl91, hm⟩ := bind_some hm
 refine wpL_block (fun a w => ∃ ms88 : List (List Int), ms88 = r90 ∧ n6 = ms88.length ∧ Fr a 55 [(5, .slice A5 n6 c7)] ∧ St [] W w [.mat A5 n6 c7 28 2 vs9 ms88]) ?_ ?_
 ·refine wpL_loop (fun n a w => ∃ ms61 : List (List Int), ∃ x63 : Int, spec_l15Weights_L1 F ag aA n ms61 x63 = some r90 ∧ n6 = ms61.length ∧ Fr a 55 [(2, .pointer (some ⟨b1, 0, none⟩)), (3, .pointer (some ⟨b2, 0, none⟩)), (5, .slice A5 n6 c7), (6, .int .i64 x63)] ∧ St [] W w [.blk b1 55 [.int .i64 ag.Events, .slice ah ag.Places.length aj], .blk b2 129 [.int .i64 aA.Num, .int .i64 aA.Den], .mat A5 n6 c7 28 2 vs9 ms61]) F ?_ ?_ ?_
  ·exact ⟨r3, 0, hl91, hn8, (FrD.pick (FrD.pick (FrD.pick (FrD.pick hf.none hf rfl) hf rfl) hf rfl) hf rfl), hs⟩
  ·rintro a w ⟨ms61, x63, h0_, -, -, -⟩; simp [spec_l15Weights_L1] at h0_
  ·rintro n93 a w ⟨ms61, x63, hm92, hn62, hf, hs⟩
   rw [spec_l15Weights_L1] at hm92
   refine wpL_seq <| wpL_seq <| wpL_region ?_
   refine sY hf hs rfl rfl rfl (Y_move rfl rfl) ?_; clear hf; intro a hf
   refine sY hf hs rfl rfl rfl (Y_fieldAddr rfl rfl fo55_1) ?_; clear hf; intro a hf
   refine sY hf hs rfl rfl rfl (Y_load_blk rfl rfl (i := 0) rfl rfl ag53) ?_; clear hf; intro a hf
   refine sY hf hs rfl rfl rfl (Y_lenH rfl rfl el53 rfl) ?_; clear hf; intro a hf
   refine sY hf hs rfl rfl rfl (Y_lss rfl rfl rfl) ?_; clear hf; intro a hf
   refine wpO_nil ?_
   refine wpL_cond hf rfl (fun hb94 => ?_) (fun hb94 => ?_)
   ·have hm92 := bif_t hm92 hb94
    refine wpL_skip <| wpL_seq <| wpL_block0 <| wpL_seq <| wpL_region ?_
    refine sY hf hs rfl rfl rfl (Y_fieldAddr rfl rfl fo55_1) ?_; clear hf; intro a hf
    refine sY hf hs rfl rfl rfl (Y_load_blk rfl rfl (i := 0) rfl rfl ag53) ?_; clear hf; intro a hf
    refine sY hf hs rfl rfl rfl (Y_move rfl rfl) ?_; clear hf; intro a hf
    obtain ⟨q95, hi96, hm92⟩ := bind_some hm92
    obtain ⟨hi96a, hi96b, hi96q⟩ := idx_some hi96
    refine sY hf hs rfl rfl rfl (Y_index rfl rfl rfl el53 ti64 (Rd.isAt (ay.at hs) (recs_at (s := 4) GPlace.len hi96q (j := 0) rfl)) hi96a hi96b) ?_; clear hf; intro a hf
    refine sY hf hs rfl rfl rfl (Y_load_rdS rfl rfl (us := [.int .i64 q95.From, .int .i64 q95.To, .int .i64 q95.Delay, .int .i64 q95.Tokens]) (fun w hs => ay.at hs) (fun j u hj => recs_at (s := 4) GPlace.len hi96q hj) (Nat.succ_pos _) ag64 ti64 rfl) ?_; clear hf; intro a hf
    refine sAlloc hf hs rfl rfl rfl rfl ti64 ?_; clear hf hs; intro a w b97 hs hf
    have hs : St [] W w [.blk b1 55 [.int .i64 ag.Events, .slice ah ag.Places.length aj], .blk b2 129 [.int .i64 aA.Num, .int .i64 aA.Den], .mat A5 n6 c7 28 2 vs9 ms61, .blk b97 64 [.int .i64 0, .int .i64 0, .int .i64 0, .int .i64 0]] := hs
    refine sStore (i := 3) (us := [.int .i64 q95.From, .int .i64 q95.To, .int .i64 q95.Delay, .int .i64 q95.Tokens]) hf hs rfl rfl rfl rfl rfl rfl ti64 rfl rfl rfl (Nat.le_of_ble_eq_true rfl) rfl ?_; clear hs; intro w hs
    have hs : St [] W w [.blk b1 55 [.int .i64 ag.Events, .slice ah ag.Places.length aj], .blk b2 129 [.int .i64 aA.Num, .int .i64 aA.Den], .mat A5 n6 c7 28 2 vs9 ms61, .blk b97 64 [.int .i64 q95.From, .int .i64 q95.To, .int .i64 q95.Delay, .int .i64 q95.Tokens]] := hs
    refine wpO_nil ?_
    refine wpL_drawM [.blk b1 55 [.int .i64 ag.Events, .slice ah ag.Places.length aj], .blk b2 129 [.int .i64 aA.Num, .int .i64 aA.Den], .mat A5 n6 c7 28 2 vs9 ms61, .blk b97 64 [.int .i64 q95.From, .int .i64 q95.To, .int .i64 q95.Delay, .int .i64 q95.Tokens]] [29] (by kernel_rfl) hs ?_; clear hs; intro w hs
    have hs0 : St [] W w [.blk b1 55 [.int .i64 ag.Events, .slice ah ag.Places.length aj], .blk b2 129 [.int .i64 aA.Num, .int .i64 aA.Den], .mat A5 n6 c7 28 2 vs9 ms61, .blk b97 64 [.int .i64 q95.From, .int .i64 q95.To, .int .i64 q95.Delay, .int .i64 q95.Tokens]] := hs
    refine mYp (i := 0) rfl (by kernel_rfl) (by kernel_rfl) hf rfl rfl rfl (fun _ => Y_move rfl rfl) ?_; clear hf; intro a hf
    refine mYp (i := 1) rfl (by kernel_rfl) (by kernel_rfl) hf rfl rfl rfl (fun _ => Y_fieldAddr rfl rfl fo64_1) ?_; clear hf; intro a hf
    refine mY (i := 2) [[]] rfl (by kernel_rfl) (by kernel_rfl) hf hs0 rfl rfl rfl (Y_load_blk rfl rfl (i := 3) rfl rfl ag2) ?_; clear hf; intro a hf
    obtain ⟨q98, hi99, hm92⟩ := bind_some hm92
    obtain ⟨hi99a, hi99b, hi99q⟩ := idx_some hi99
    obtain ⟨A100, c101, hv102⟩ := hs.matRow (i := 2) rfl hi99q
    refine mYp (i := 3) rfl (by kernel_rfl) (by kernel_rfl) hf rfl rfl rfl (fun _ => Y_index rfl rfl rfl el40 ti28 (Rd.isAt (hs.rdV (i := 2) rfl) hv102) hi99a (ltn hn62 hi99b)) ?_; clear hf; intro a hf
    refine mY (i := 4) [[]] rfl (by kernel_rfl) (by kernel_rfl) hf hs0 rfl rfl rfl (Y_load_rd rfl rfl (fun w hs => hs.rdV (i := 2) rfl) (at1 hv102) ag28) ?_; clear hf; intro a hf
    refine mYp (i := 5) rfl (by kernel_rfl) (by kernel_rfl) hf rfl rfl rfl (fun _ => Y_fieldAddr rfl rfl fo64_0) ?_; clear hf; intro a hf
    refine mY (i := 6) [[]] rfl (by kernel_rfl) (by kernel_rfl) hf hs0 rfl rfl rfl (Y_load_blk rfl rfl (i := 3) rfl rfl ag2) ?_; clear hf; intro a hf
    refine mYp (i := 7) rfl (by kernel_rfl) (by kernel_rfl) hf rfl rfl rfl (fun _ => Y_move rfl rfl) ?_; clear hf; intro a hf
    refine mYp (i := 8) rfl (by kernel_rfl) (by kernel_rfl) hf rfl rfl rfl (fun _ => Y_fieldAddr rfl rfl fo64_1) ?_; clear hf; intro a hf
    refine mY (i := 9) [[]] rfl (by kernel_rfl) (by kernel_rfl) hf hs0 rfl rfl rfl (Y_load_blk rfl rfl (i := 3) rfl rfl ag2) ?_; clear hf; intro a hf
    obtain ⟨q103, hi104, hm92⟩ := bind_some hm92
    obtain ⟨hi104a, hi104b, hi104q⟩ := idx_some hi104
    obtain ⟨A105, c106, hv107⟩ := hs.matRow (i := 2) rfl hi104q
    refine mYp (i := 10) rfl (by kernel_rfl) (by kernel_rfl) hf rfl rfl rfl (fun _ => Y_index rfl rfl rfl el40 ti28 (Rd.isAt (hs.rdV (i := 2) rfl) hv107) hi104a (ltn hn62 hi104b)) ?_; clear hf; intro a hf
    refine mY (i := 11) [[]] rfl (by kernel_rfl) (by kernel_rfl) hf hs0 rfl rfl rfl (Y_load_rd rfl rfl (fun w hs => hs.rdV (i := 2) rfl) (at1 hv107) ag28) ?_; clear hf; intro a hf
    refine mYp (i := 12) rfl (by kernel_rfl) (by kernel_rfl) hf rfl rfl rfl (fun _ => Y_fieldAddr rfl rfl fo64_0) ?_; clear hf; intro a hf
    refine mY (i := 13) [[]] rfl (by kernel_rfl) (by kernel_rfl) hf hs0 rfl rfl rfl (Y_load_blk rfl rfl (i := 3) rfl rfl ag2) ?_; clear hf; intro a hf
    obtain ⟨q108, hi109, hm92⟩ := bind_some hm92
    obtain ⟨hi109a, hi109b, hi109q⟩ := idx_some hi109
    refine mYp (i := 14) rfl (by kernel_rfl) (by kernel_rfl) hf rfl rfl rfl (fun _ => Y_index rfl rfl rfl el28 ti2 (Rd.isAt (hs.rdRow (i := 2) rfl ⟨hi104q, hv107⟩) (at1 (ints_at hi109q))) hi109a hi109b) ?_; clear hf; intro a hf
    refine mY (i := 15) [[]] rfl (by kernel_rfl) (by kernel_rfl) hf hs0 rfl rfl rfl (Y_load_rd rfl rfl (fun w hs => hs.rdRow (i := 2) rfl ⟨hi104q, hv107⟩) (at1 (ints_at hi109q)) ag2) ?_; clear hf; intro a hf
    refine mYp (i := 16) rfl (by kernel_rfl) (by kernel_rfl) hf rfl rfl rfl (fun _ => Y_fieldAddr rfl rfl fo129_1) ?_; clear hf; intro a hf
    refine mY (i := 17) [[]] rfl (by kernel_rfl) (by kernel_rfl) hf hs0 rfl rfl rfl (Y_load_blk rfl rfl (i := 1) rfl rfl ag2) ?_; clear hf; intro a hf
    refine mYp (i := 18) rfl (by kernel_rfl) (by kernel_rfl) hf rfl rfl rfl (fun _ => Y_fieldAddr rfl rfl fo64_2) ?_; clear hf; intro a hf
    refine mY (i := 19) [[]] rfl (by kernel_rfl) (by kernel_rfl) hf hs0 rfl rfl rfl (Y_load_blk rfl rfl (i := 3) rfl rfl ag2) ?_; clear hf; intro a hf
    refine mYp (i := 20) rfl (by kernel_rfl) (by kernel_rfl) hf rfl rfl rfl (fun _ => Y_mul rfl rfl rfl) ?_; clear hf; intro a hf
    refine mYp (i := 21) rfl (by kernel_rfl) (by kernel_rfl) hf rfl rfl rfl (fun _ => Y_fieldAddr rfl rfl fo129_0) ?_; clear hf; intro a hf
    refine mY (i := 22) [[]] rfl (by kernel_rfl) (by kernel_rfl) hf hs0 rfl rfl rfl (Y_load_blk rfl rfl (i := 1) rfl rfl ag2) ?_; clear hf; intro a hf
    refine mYp (i := 23) rfl (by kernel_rfl) (by kernel_rfl) hf rfl rfl rfl (fun _ => Y_fieldAddr rfl rfl fo64_3) ?_; clear hf; intro a hf
    refine mY (i := 24) [[]] rfl (by kernel_rfl) (by kernel_rfl) hf hs0 rfl rfl rfl (Y_load_blk rfl rfl (i := 3) rfl rfl ag2) ?_; clear hf; intro a hf
    refine mYp (i := 25) rfl (by kernel_rfl) (by kernel_rfl) hf rfl rfl rfl (fun _ => Y_mul rfl rfl rfl) ?_; clear hf; intro a hf
    refine mYp (i := 26) rfl (by kernel_rfl) (by kernel_rfl) hf rfl rfl rfl (fun _ => Y_sub rfl rfl rfl) ?_; clear hf; intro a hf
    refine mYp (i := 27) rfl (by kernel_rfl) (by kernel_rfl) hf rfl rfl rfl (fun _ => Y_max rfl rfl rfl) ?_; clear hf; intro a hf
    obtain ⟨q110, hi111, hm92⟩ := bind_some hm92
    obtain ⟨hi111a, hi111b, hi111q⟩ := idx_some hi111
    refine mYp (i := 28) rfl (by kernel_rfl) (by kernel_rfl) hf rfl rfl rfl (fun _ => Y_index rfl rfl rfl el28 ti2 (Rd.isAt (hs.rdRow (i := 2) rfl ⟨hi99q, hv102⟩) (at1 (ints_at hi111q))) hi111a hi111b) ?_; clear hf; intro a hf
    refine mRun (i := 29) rfl (by kernel_rfl) ?_
    obtain ⟨xs112, hu114, hm92⟩ := bind_some hm92
    obtain ⟨ms113, hu115, hm92⟩ := bind_some hm92
    refine sStoreM (i := 2) (k := q95.To) hf hs rfl rfl rfl rfl rfl rfl hi99q hv102 rfl hu114 hu115 ti2 ?_; clear hs; intro w hs
    obtain ⟨hq116, hv117⟩ := rowUpd hu114 hu115 hv102
    have hs : St [] W w [.blk b1 55 [.int .i64 ag.Events, .slice ah ag.Places.length aj], .blk b2 129 [.int .i64 aA.Num, .int .i64 aA.Den], .mat A5 n6 c7 28 2 vs9 ms113, .blk b97 64 [.int .i64 q95.From, .int .i64 q95.To, .int .i64 q95.Delay, .int .i64 q95.Tokens]] := hs
    refine wpO_nil ⟨Or.inl (by decide), ?_⟩
    refine mDone (by kernel_rfl) ?_
    clear hs0
    refine wpL_nil (Qb_normal ?_)
    refine wpL_region ?_
    refine sY hf hs rfl rfl rfl (Y_move rfl rfl) ?_; clear hf; intro a hf
    refine sY hf hs rfl rfl rfl (Y_add rfl rfl rfl) ?_; clear hf; intro a hf
    refine sY hf hs rfl rfl rfl (Y_assign rfl rfl) ?_; clear hf; intro a hf
    refine wpO_nil ?_
    refine wpL_nil (Ql_normal ?_)
    exact ⟨ms113, (IntKind.i64.wrap (x63 + 1)), hm92, ((hn62).trans (upd_len hu115).symm), (FrD.pick (FrD.pick (FrD.pick (FrD.pick hf.none hf rfl) hf rfl) hf rfl) hf rfl), hs.sel [0, 1, 2] (by decide)⟩
   ·have hm92 := bif_f hm92 hb94
    refine wpL_exit (Ql_exit (Qb_exit ?_))
    exact ⟨ms61, Option.some.inj hm92, hn62, (FrD.pick hf.none hf rfl), hs.sel [2] (by decide)⟩
 ·rintro a w ⟨ms88, hr_, hn89, hf, hs⟩
  subst hr_
  try dsimp only at hm
  refine wpL_seq <| wpL_region ?_
  refine sY hf hs rfl rfl rfl (Y_move rfl rfl) ?_; clear hf; intro a hf
  refine sY hf hs rfl rfl rfl (Y_assign rfl rfl) ?_; clear hf; intro a hf
  refine wpO_nil ?_
  obtain rfl := Option.some.inj hm
  refine wpL_ret (ret_tmp rfl hf rfl ?_)
  exact ⟨_, rfl, A5, n6, c7, vs9, rfl, hn89, hs⟩

set_option maxRecDepth 100000 in
theorem spec_l02Unit_ok (F : Nat) (bH : Int) (r : List (List Int)) (W : World) (hm : spec_l02Unit F bH = some r) :
  Calls Try.prog 150 [.int .i64 bH].toArray W fun e w' => ∃ v, e = .returned v ∧ ∃ A76, ∃ n77, ∃ c78, ∃ vs80, v = .slice A76 n77 c78 ∧ n77 = r.length ∧ St [] W w' [.mat A76 n77 c78 28 2 vs80 r] := by
 unfold spec_l02Unit at hm
 refine Calls.enter (N := 20) Try.func150 rfl rfl rfl (fun a hf => ?_)
 have hs := St.start W
 obtain ⟨w, hw_⟩ : ∃ w, w = W := ⟨W, rfl⟩
 clear hw_ w
 refine wpL_seq <| wpL_region ?_
 refine sY hf hs rfl rfl rfl (Y_assign rfl rfl) ?_; clear hf; intro a hf
 refine wpO_nil <| wpL_seq <| wpL_region ?_
 refine sY hf hs rfl rfl rfl (Y_move rfl rfl) ?_; clear hf; intro a hf
 refine sY hf hs rfl rfl rfl (Y_move rfl rfl) ?_; clear hf; intro a hf
 obtain ⟨r1, hc2, hm⟩ := bind_some hm
 refine sCall hf rfl rfl rfl rfl (cap := []) rfl rfl en154 (spec_l02Bottom_ok F bH bH _ _ hc2) ?_; clear hf
 rintro _ w ⟨A3, n4, c5, vs7, rfl, hn6, hs1⟩ a hf
 have hs : St [] W w [.mat A3 n4 c5 28 2 vs7 r1] := hs.join hs1
 clear hs1
 refine sY hf hs rfl rfl rfl (Y_assign rfl rfl) ?_; clear hf; intro a hf
 refine wpO_nil <| wpL_seq <| wpL_seq <| wpL_region ?_
 refine sY hf hs rfl rfl rfl (Y_assign rfl rfl) ?_; clear hf; intro a hf
 refine wpO_nil ?_
 obtain ⟨r58, hl59, hm⟩ := bind_some hm
 refine wpL_block (fun a w => ∃ ms56 : List (List Int), ms56 = r58 ∧ n4 = ms56.length ∧ Fr a 20 [(3, .slice A3 n4 c5)] ∧ St [] W w [.mat A3 n4 c5 28 2 vs7 ms56]) ?_ ?_
 ·refine wpL_loop (fun n a w => ∃ ms39 : List (List Int), ∃ x41 : Int, spec_l02Unit_L1 F bH n ms39 x41 = some r58 ∧ n4 = ms39.length ∧ Fr a 20 [(0, .int .i64 bH), (3, .slice A3 n4 c5), (4, .int .i64 x41)] ∧ St [] W w [.mat A3 n4 c5 28 2 vs7 ms39]) F ?_ ?_ ?_
  ·exact ⟨r1, 0, hl59, hn6, (FrD.pick (FrD.pick (FrD.pick hf.none hf rfl) hf rfl) hf rfl), hs⟩
  ·rintro a w ⟨ms39, x41, h0_, -, -, -⟩; simp [spec_l02Unit_L1] at h0_
  ·rintro n61 a w ⟨ms39, x41, hm60, hn40, hf, hs⟩
   rw [spec_l02Unit_L1] at hm60
   refine wpL_seq <| wpL_seq <| wpL_region ?_
   refine sY hf hs rfl rfl rfl (Y_move rfl rfl) ?_; clear hf; intro a hf
   refine sY hf hs rfl rfl rfl (Y_move rfl rfl) ?_; clear hf; intro a hf
   refine sY hf hs rfl rfl rfl (Y_lss rfl rfl rfl) ?_; clear hf; intro a hf
   refine wpO_nil ?_
   refine wpL_cond hf rfl (fun hb62 => ?_) (fun hb62 => ?_)
   ·have hm60 := bif_t hm60 hb62
    refine wpL_skip <| wpL_seq <| wpL_block0 <| wpL_region ?_
    refine sY hf hs rfl rfl rfl (Y_move rfl rfl) ?_; clear hf; intro a hf
    refine sY hf hs rfl rfl rfl (Y_move rfl rfl) ?_; clear hf; intro a hf
    obtain ⟨q63, hi64, hm60⟩ := bind_some hm60
    obtain ⟨hi64a, hi64b, hi64q⟩ := idx_some hi64
    obtain ⟨A65, c66, hv67⟩ := hs.matRow (i := 0) rfl hi64q
    refine sY hf hs rfl rfl rfl (Y_index rfl rfl rfl el40 ti28 (Rd.isAt (hs.rdV (i := 0) rfl) hv67) hi64a (ltn hn40 hi64b)) ?_; clear hf; intro a hf
    refine sY hf hs rfl rfl rfl (Y_load_rd rfl rfl (fun w hs => hs.rdV (i := 0) rfl) (at1 hv67) ag28) ?_; clear hf; intro a hf
    refine sY hf hs rfl rfl rfl (Y_move rfl rfl) ?_; clear hf; intro a hf
    obtain ⟨q68, hi69, hm60⟩ := bind_some hm60
    obtain ⟨hi69a, hi69b, hi69q⟩ := idx_some hi69
    refine sY hf hs rfl rfl rfl (Y_index rfl rfl rfl el28 ti2 (Rd.isAt (hs.rdRow (i := 0) rfl ⟨hi64q, hv67⟩) (at1 (ints_at hi69q))) hi69a hi69b) ?_; clear hf; intro a hf
    obtain ⟨xs70, hu72, hm60⟩ := bind_some hm60
    obtain ⟨ms71, hu73, hm60⟩ := bind_some hm60
    refine sStoreM (i := 0) (k := x41) hf hs rfl rfl rfl rfl rfl rfl hi64q hv67 rfl hu72 hu73 ti2 ?_; clear hs; intro w hs
    obtain ⟨hq74, hv75⟩ := rowUpd hu72 hu73 hv67
    have hs : St [] W w [.mat A3 n4 c5 28 2 vs7 ms71] := hs
    refine wpO_nil ?_
    refine wpL_nil (Qb_normal ?_)
    refine wpL_region ?_
    refine sY hf hs rfl rfl rfl (Y_move rfl rfl) ?_; clear hf; intro a hf
    refine sY hf hs rfl rfl rfl (Y_add rfl rfl rfl) ?_; clear hf; intro a hf
    refine sY hf hs rfl rfl rfl (Y_assign rfl rfl) ?_; clear hf; intro a hf
    refine wpO_nil ?_
    refine wpL_nil (Ql_normal ?_)
    exact ⟨ms71, (IntKind.i64.wrap (x41 + 1)), hm60, ((hn40).trans (upd_len hu73).symm), (FrD.pick (FrD.pick (FrD.pick hf.none hf rfl) hf rfl) hf rfl), hs⟩
   ·have hm60 := bif_f hm60 hb62
    refine wpL_exit (Ql_exit (Qb_exit ?_))
    exact ⟨ms39, Option.some.inj hm60, hn40, (FrD.pick hf.none hf rfl), hs⟩
 ·rintro a w ⟨ms56, hr_, hn57, hf, hs⟩
  subst hr_
  try dsimp only at hm
  refine wpL_seq <| wpL_region ?_
  refine sY hf hs rfl rfl rfl (Y_move rfl rfl) ?_; clear hf; intro a hf
  refine sY hf hs rfl rfl rfl (Y_assign rfl rfl) ?_; clear hf; intro a hf
  refine wpO_nil ?_
  obtain rfl := Option.some.inj hm
  refine wpL_ret (ret_tmp rfl hf rfl ?_)
  exact ⟨_, rfl, A3, n4, c5, vs7, rfl, hn57, hs⟩

set_option maxRecDepth 100000 in
theorem spec_l01Times_ok (F : Nat) (aw : Int) (aD : Int) (r : Int) (W : World) (hm : spec_l01Times F aw aD = some r) :
  Calls Try.prog 155 [.int .i64 aw, .int .i64 aD].toArray W fun e w' => ∃ v, e = .returned v ∧ v = .int .i64 r ∧ St [] W w' [] := by
 unfold spec_l01Times at hm
 refine Calls.enter (N := 14) Try.func155 rfl rfl rfl (fun a hf => ?_)
 have hs := St.start W
 obtain ⟨w, hw_⟩ : ∃ w, w = W := ⟨W, rfl⟩
 clear hw_ w
 refine wpL_seq <| wpL_region ?_
 refine sY hf hs rfl rfl rfl (Y_assign rfl rfl) ?_; clear hf; intro a hf
 refine wpO_nil <| wpL_seq <| wpL_seq ?_
 obtain ⟨r3, hj4, hm⟩ := bind_some hm
 refine wpL_cut (fun a w => ∃ b2 : Bool, b2 = r3 ∧ Fr a 14 [(0, .int .i64 aw), (1, .int .i64 aD), (10, .bool b2)] ∧ St [] W w []) ?_ ?_
 ·refine wpL_region ?_
  refine sY hf hs rfl rfl rfl (Y_move rfl rfl) ?_; clear hf; intro a hf
  refine sY hf hs rfl rfl rfl (Y_eql rfl rfl rfl) ?_; clear hf; intro a hf
  refine sY hf hs rfl rfl rfl (Y_move rfl rfl) ?_; clear hf; intro a hf
  refine bsplit (aw == (-1000000000000000)) (fun hb5 => ?_) (fun hb5 => ?_)
  ·have hj4 := bif_t hj4 hb5
   refine sNo hf rfl rfl rfl (congrArg (fun b => some (Value.bool b)) hb5) rfl rfl rfl ?_; clear hf; intro a hf
   refine sNo hf rfl rfl rfl (congrArg (fun b => some (Value.bool b)) hb5) rfl rfl rfl ?_; clear hf; intro a hf
   refine sY hf hs rfl rfl rfl (Y_pickT rfl (congrArg (fun b => some (Value.bool b)) hb5) rfl) ?_; clear hf; intro a hf
   refine wpO_nil ?_
   refine wpL_nil (then_normal ?_)
   exact ⟨true, Option.some.inj hj4, (FrD.pick (FrD.pick (FrD.pick hf.none hf rfl) hf rfl) hf rfl), hs⟩
  ·have hj4 := bif_f hj4 hb5
   refine sYg hf hs rfl rfl rfl (congrArg (fun b => some (Value.bool b)) hb5) rfl rfl rfl (Y_move rfl rfl) ?_; clear hf; intro a hf
   refine sYg hf hs rfl rfl rfl (congrArg (fun b => some (Value.bool b)) hb5) rfl rfl rfl (Y_eql rfl rfl rfl) ?_; clear hf; intro a hf
   refine sY hf hs rfl rfl rfl (Y_pickF rfl (congrArg (fun b => some (Value.bool b)) hb5) rfl) ?_; clear hf; intro a hf
   refine wpO_nil ?_
   refine wpL_nil (then_normal ?_)
   exact ⟨(aD == (-1000000000000000)), Option.some.inj hj4, (FrD.pick (FrD.pick (FrD.pick hf.none hf rfl) hf rfl) hf rfl), hs⟩
 ·rintro a w ⟨b2, hr_, hf, hs⟩
  subst hr_
  try dsimp only at hm
  refine wpL_cond hf rfl (fun hb6 => ?_) (fun hb6 => ?_)
  ·have hm := bif_t hm hb6
   refine wpL_seq <| wpL_region ?_
   refine sY hf hs rfl rfl rfl (Y_assign rfl rfl) ?_; clear hf; intro a hf
   refine wpO_nil ?_
   obtain rfl := Option.some.inj hm
   refine wpL_ret (ret_tmp rfl hf rfl ?_)
   exact ⟨_, rfl, rfl, hs⟩
  ·have hm := bif_f hm hb6
   refine wpL_skip <| wpL_seq <| wpL_region ?_
   refine sY hf hs rfl rfl rfl (Y_move rfl rfl) ?_; clear hf; intro a hf
   refine sY hf hs rfl rfl rfl (Y_move rfl rfl) ?_; clear hf; intro a hf
   refine sY hf hs rfl rfl rfl (Y_add rfl rfl rfl) ?_; clear hf; intro a hf
   refine sY hf hs rfl rfl rfl (Y_assign rfl rfl) ?_; clear hf; intro a hf
   refine wpO_nil ?_
   obtain rfl := Option.some.inj hm
   refine wpL_ret (ret_tmp rfl hf rfl ?_)
   exact ⟨_, rfl, rfl, hs⟩

set_option maxRecDepth 100000 in
theorem spec_l02Multiply_ok (F : Nat) (p0 : List (List Int)) (ao : Option Addr) (aZ aq : Nat) (bK : aZ = p0.length) (p1 : List (List Int)) (aR : Option Addr) (bq aX : Nat) (cA : bq = p1.length) (r : List (List Int)) (W : World) (hm : spec_l02Multiply F p0 p1 = some r) (aV : RdM W ao p0) (bL : RdM W aR p1) :
  Calls Try.prog 86 [.slice ao aZ aq, .slice aR bq aX].toArray W fun e w' => ∃ v, e = .returned v ∧ ∃ A6129, ∃ n6130, ∃ c6131, ∃ vs6133, v = .slice A6129 n6130 c6131 ∧ n6130 = r.length ∧ St [] W w' [.mat A6129 n6130 c6131 28 2 vs6133 r] := by
 subst bK
 subst cA
 unfold spec_l02Multiply at hm
 refine Calls.enter (N := 66) Try.func86 rfl rfl rfl (fun a hf => ?_)
 have hs := St.start W
 obtain ⟨w, hw_⟩ : ∃ w, w = W := ⟨W, rfl⟩
 clear hw_ w
 refine wpL_seq <| wpL_region ?_
 refine sY hf hs rfl rfl rfl (Y_assign rfl rfl) ?_; clear hf; intro a hf
 refine wpO_nil <| wpL_seq <| wpL_region ?_
 refine sY hf hs rfl rfl rfl (Y_move rfl rfl) ?_; clear hf; intro a hf
 refine sY hf hs rfl rfl rfl (Y_lenH rfl rfl el40 rfl) ?_; clear hf; intro a hf
 refine sY hf hs rfl rfl rfl (Y_move rfl rfl) ?_; clear hf; intro a hf
 obtain ⟨q1, hi2, hm⟩ := bind_some hm
 obtain ⟨hi2a, hi2b, hi2q⟩ := idx_some hi2
 obtain ⟨vs3, hv4, hr5⟩ := id bL
 obtain ⟨A6, c7, hv8, hR9⟩ := hr5 _ _ hi2q
 refine sY hf hs rfl rfl rfl (Y_index rfl rfl rfl el40 ti28 (Rd.isAt hv4 hv8) hi2a hi2b) ?_; clear hf; intro a hf
 refine sY hf hs rfl rfl rfl (Y_load_rd rfl rfl (fun w hs => hv4.at hs) (at1 hv8) ag28) ?_; clear hf; intro a hf
 refine sY hf hs rfl rfl rfl (Y_lenH rfl rfl el28 rfl) ?_; clear hf; intro a hf
 obtain ⟨r10, hc11, hm⟩ := bind_some hm
 refine sCall hf rfl rfl rfl rfl (cap := []) rfl rfl en154 (spec_l02Bottom_ok F (p0.length : Int) (q1.length : Int) _ _ hc11) ?_; clear hf
 rintro _ w ⟨A12, n13, c14, vs16, rfl, hn15, hs1⟩ a hf
 have hs : St [] W w [.mat A12 n13 c14 28 2 vs16 r10] := hs.join hs1
 clear hs1
 refine sY hf hs rfl rfl rfl (Y_assign rfl rfl) ?_; clear hf; intro a hf
 refine wpO_nil <| wpL_seq <| wpL_seq <| wpL_region ?_
 refine sY hf hs rfl rfl rfl (Y_assign rfl rfl) ?_; clear hf; intro a hf
 refine wpO_nil ?_
 obtain ⟨r4600, hl4601, hm⟩ := bind_some hm
 refine wpL_block (fun a w => ∃ ms4598 : List (List Int), ms4598 = r4600 ∧ n13 = ms4598.length ∧ Fr a 66 [(5, .slice A12 n13 c14)] ∧ St [] W w [.mat A12 n13 c14 28 2 vs16 ms4598]) ?_ ?_
 ·refine wpL_loop (fun n a w => ∃ ms3070 : List (List Int), ∃ x3072 : Int, spec_l02Multiply_L16 F p0 p1 n ms3070 x3072 = some r4600 ∧ n13 = ms3070.length ∧ Fr a 66 [(0, .slice ao p0.length aq), (1, .slice aR p1.length aX), (5, .slice A12 n13 c14), (6, .int .i64 x3072)] ∧ St [] W w [.mat A12 n13 c14 28 2 vs16 ms3070]) F ?_ ?_ ?_
  ·exact ⟨r10, 0, hl4601, hn15, (FrD.pick (FrD.pick (FrD.pick (FrD.pick hf.none hf rfl) hf rfl) hf rfl) hf rfl), hs⟩
  ·rintro a w ⟨ms3070, x3072, h0_, -, -, -⟩; simp [spec_l02Multiply_L16] at h0_
  ·rintro n4603 a w ⟨ms3070, x3072, hm4602, hn3071, hf, hs⟩
   rw [spec_l02Multiply_L16] at hm4602
   refine wpL_seq <| wpL_seq <| wpL_region ?_
   refine sY hf hs rfl rfl rfl (Y_move rfl rfl) ?_; clear hf; intro a hf
   refine sY hf hs rfl rfl rfl (Y_move rfl rfl) ?_; clear hf; intro a hf
   refine sY hf hs rfl rfl rfl (Y_lenH rfl rfl el40 rfl) ?_; clear hf; intro a hf
   refine sY hf hs rfl rfl rfl (Y_lss rfl rfl rfl) ?_; clear hf; intro a hf
   refine wpO_nil ?_
   refine wpL_cond hf rfl (fun hb4604 => ?_) (fun hb4604 => ?_)
   ·have hm4602 := bif_t hm4602 hb4604
    refine wpL_skip <| wpL_seq <| wpL_block0 <| wpL_seq <| wpL_region ?_
    refine sY hf hs rfl rfl rfl (Y_assign rfl rfl) ?_; clear hf; intro a hf
    refine wpO_nil ?_
    obtain ⟨r5747, hl5748, hm4602⟩ := bind_some hm4602
    refine wpL_block (fun a w => ∃ ms5745 : List (List Int), ms5745 = r5747 ∧ n13 = ms5745.length ∧ Fr a 66 [(0, .slice ao p0.length aq), (1, .slice aR p1.length aX), (5, .slice A12 n13 c14), (6, .int .i64 x3072)] ∧ St [] W w [.mat A12 n13 c14 28 2 vs16 ms5745]) ?_ ?_
    ·refine wpL_loop (fun n a w => ∃ ms5364 : List (List Int), ∃ x5366 : Int, spec_l02Multiply_L20 F p0 p1 x3072 n ms5364 x5366 = some r5747 ∧ n13 = ms5364.length ∧ Fr a 66 [(0, .slice ao p0.length aq), (1, .slice aR p1.length aX), (5, .slice A12 n13 c14), (6, .int .i64 x3072), (7, .int .i64 x5366)] ∧ St [] W w [.mat A12 n13 c14 28 2 vs16 ms5364]) F ?_ ?_ ?_
     ·exact ⟨ms3070, 0, hl5748, hn3071, (FrD.pick (FrD.pick (FrD.pick (FrD.pick (FrD.pick hf.none hf rfl) hf rfl) hf rfl) hf rfl) hf rfl), hs⟩
     ·rintro a w ⟨ms5364, x5366, h0_, -, -, -⟩; simp [spec_l02Multiply_L20] at h0_
     ·rintro n5750 a w ⟨ms5364, x5366, hm5749, hn5365, hf, hs⟩
      rw [spec_l02Multiply_L20] at hm5749
      refine wpL_seq <| wpL_seq <| wpL_region ?_
      refine sY hf hs rfl rfl rfl (Y_move rfl rfl) ?_; clear hf; intro a hf
      refine sY hf hs rfl rfl rfl (Y_move rfl rfl) ?_; clear hf; intro a hf
      obtain ⟨q5751, hi5752, hm5749⟩ := bind_some hm5749
      obtain ⟨hi5752a, hi5752b, hi5752q⟩ := idx_some hi5752
      obtain ⟨vs5753, hv5754, hr5755⟩ := id bL
      obtain ⟨A5756, c5757, hv5758, hR5759⟩ := hr5755 _ _ hi5752q
      refine sY hf hs rfl rfl rfl (Y_index rfl rfl rfl el40 ti28 (Rd.isAt hv5754 hv5758) hi5752a hi5752b) ?_; clear hf; intro a hf
      refine sY hf hs rfl rfl rfl (Y_load_rd rfl rfl (fun w hs => hv5754.at hs) (at1 hv5758) ag28) ?_; clear hf; intro a hf
      refine sY hf hs rfl rfl rfl (Y_lenH rfl rfl el28 rfl) ?_; clear hf; intro a hf
      refine sY hf hs rfl rfl rfl (Y_lss rfl rfl rfl) ?_; clear hf; intro a hf
      refine wpO_nil ?_
      refine wpL_cond hf rfl (fun hb5760 => ?_) (fun hb5760 => ?_)
      ·have hm5749 := bif_t hm5749 hb5760
       refine wpL_skip <| wpL_seq <| wpL_block0 <| wpL_seq <| wpL_region ?_
       refine sY hf hs rfl rfl rfl (Y_assign rfl rfl) ?_; clear hf; intro a hf
       refine wpO_nil ?_
       obtain ⟨r6036, hl6037, hm5749⟩ := bind_some hm5749
       refine wpL_block (fun a w => ∃ ms6034 : List (List Int), ms6034 = r6036 ∧ n13 = ms6034.length ∧ Fr a 66 [(0, .slice ao p0.length aq), (1, .slice aR p1.length aX), (5, .slice A12 n13 c14), (6, .int .i64 x3072), (7, .int .i64 x5366)] ∧ St [] W w [.mat A12 n13 c14 28 2 vs16 ms6034]) ?_ ?_
       ·refine wpL_loop (fun n a w => ∃ ms5942 : List (List Int), ∃ x5944 : Int, spec_l02Multiply_L21 F p0 p1 x3072 x5366 n ms5942 x5944 = some r6036 ∧ n13 = ms5942.length ∧ Fr a 66 [(0, .slice ao p0.length aq), (1, .slice aR p1.length aX), (5, .slice A12 n13 c14), (6, .int .i64 x3072), (7, .int .i64 x5366), (8, .int .i64 x5944)] ∧ St [] W w [.mat A12 n13 c14 28 2 vs16 ms5942]) F ?_ ?_ ?_
        ·exact ⟨ms5364, 0, hl6037, hn5365, (FrD.pick (FrD.pick (FrD.pick (FrD.pick (FrD.pick (FrD.pick hf.none hf rfl) hf rfl) hf rfl) hf rfl) hf rfl) hf rfl), hs⟩
        ·rintro a w ⟨ms5942, x5944, h0_, -, -, -⟩; simp [spec_l02Multiply_L21] at h0_
        ·rintro n6039 a w ⟨ms5942, x5944, hm6038, hn5943, hf, hs⟩
         rw [spec_l02Multiply_L21] at hm6038
         refine wpL_seq <| wpL_seq <| wpL_region ?_
         refine sY hf hs rfl rfl rfl (Y_move rfl rfl) ?_; clear hf; intro a hf
         refine sY hf hs rfl rfl rfl (Y_move rfl rfl) ?_; clear hf; intro a hf
         refine sY hf hs rfl rfl rfl (Y_lenH rfl rfl el40 rfl) ?_; clear hf; intro a hf
         refine sY hf hs rfl rfl rfl (Y_lss rfl rfl rfl) ?_; clear hf; intro a hf
         refine wpO_nil ?_
         refine wpL_cond hf rfl (fun hb6040 => ?_) (fun hb6040 => ?_)
         ·have hm6038 := bif_t hm6038 hb6040
          refine wpL_skip <| wpL_seq <| wpL_block0 ?_
          refine wpL_drawM [.mat A12 n13 c14 28 2 vs16 ms5942] [29] (by kernel_rfl) hs ?_; clear hs; intro w hs
          have hs0 : St [] W w [.mat A12 n13 c14 28 2 vs16 ms5942] := hs
          refine mYp (i := 0) rfl (by kernel_rfl) (by kernel_rfl) hf rfl rfl rfl (fun _ => Y_move rfl rfl) ?_; clear hf; intro a hf
          refine mYp (i := 1) rfl (by kernel_rfl) (by kernel_rfl) hf rfl rfl rfl (fun _ => Y_move rfl rfl) ?_; clear hf; intro a hf
          obtain ⟨q6085, hi6086, hm6038⟩ := bind_some hm6038
          obtain ⟨hi6086a, hi6086b, hi6086q⟩ := idx_some hi6086
          obtain ⟨A6087, c6088, hv6089⟩ := hs.matRow (i := 0) rfl hi6086q
          refine mYp (i := 2) rfl (by kernel_rfl) (by kernel_rfl) hf rfl rfl rfl (fun _ => Y_index rfl rfl rfl el40 ti28 (Rd.isAt (hs.rdV (i := 0) rfl) hv6089) hi6086a (ltn hn5943 hi6086b)) ?_; clear hf; intro a hf
          refine mY (i := 3) [[]] rfl (by kernel_rfl) (by kernel_rfl) hf hs0 rfl rfl rfl (Y_load_rd rfl rfl (fun w hs => hs.rdV (i := 0) rfl) (at1 hv6089) ag28) ?_; clear hf; intro a hf
          refine mYp (i := 4) rfl (by kernel_rfl) (by kernel_rfl) hf rfl rfl rfl (fun _ => Y_move rfl rfl) ?_; clear hf; intro a hf
          refine mYp (i := 5) rfl (by kernel_rfl) (by kernel_rfl) hf rfl rfl rfl (fun _ => Y_move rfl rfl) ?_; clear hf; intro a hf
          refine mYp (i := 6) rfl (by kernel_rfl) (by kernel_rfl) hf rfl rfl rfl (fun _ => Y_move rfl rfl) ?_; clear hf; intro a hf
          obtain ⟨q6090, hi6091, hm6038⟩ := bind_some hm6038
          obtain ⟨hi6091a, hi6091b, hi6091q⟩ := idx_some hi6091
          obtain ⟨A6092, c6093, hv6094⟩ := hs.matRow (i := 0) rfl hi6091q
          refine mYp (i := 7) rfl (by kernel_rfl) (by kernel_rfl) hf rfl rfl rfl (fun _ => Y_index rfl rfl rfl el40 ti28 (Rd.isAt (hs.rdV (i := 0) rfl) hv6094) hi6091a (ltn hn5943 hi6091b)) ?_; clear hf; intro a hf
          refine mY (i := 8) [[]] rfl (by kernel_rfl) (by kernel_rfl) hf hs0 rfl rfl rfl (Y_load_rd rfl rfl (fun w hs => hs.rdV (i := 0) rfl) (at1 hv6094) ag28) ?_; clear hf; intro a hf
          refine mYp (i := 9) rfl (by kernel_rfl) (by kernel_rfl) hf rfl rfl rfl (fun _ => Y_move rfl rfl) ?_; clear hf; intro a hf
          obtain ⟨q6095, hi6096, hm6038⟩ := bind_some hm6038
          obtain ⟨hi6096a, hi6096b, hi6096q⟩ := idx_some hi6096
          refine mYp (i := 10) rfl (by kernel_rfl) (by kernel_rfl) hf rfl rfl rfl (fun _ => Y_index rfl rfl rfl el28 ti2 (Rd.isAt (hs.rdRow (i := 0) rfl ⟨hi6091q, hv6094⟩) (at1 (ints_at hi6096q))) hi6096a hi6096b) ?_; clear hf; intro a hf
          refine mY (i := 11) [[]] rfl (by kernel_rfl) (by kernel_rfl) hf hs0 rfl rfl rfl (Y_load_rd rfl rfl (fun w hs => hs.rdRow (i := 0) rfl ⟨hi6091q, hv6094⟩) (at1 (ints_at hi6096q)) ag2) ?_; clear hf; intro a hf
          refine mYp (i := 12) rfl (by kernel_rfl) (by kernel_rfl) hf rfl rfl rfl (fun _ => Y_move rfl rfl) ?_; clear hf; intro a hf
          refine mYp (i := 13) rfl (by kernel_rfl) (by kernel_rfl) hf rfl rfl rfl (fun _ => Y_move rfl rfl) ?_; clear hf; intro a hf
          obtain ⟨q6097, hi6098, hm6038⟩ := bind_some hm6038
          obtain ⟨hi6098a, hi6098b, hi6098q⟩ := idx_some hi6098
          obtain ⟨vs6099, hv6100, hr6101⟩ := id aV
          obtain ⟨A6102, c6103, hv6104, hR6105⟩ := hr6101 _ _ hi6098q
          refine mYp (i := 14) rfl (by kernel_rfl) (by kernel_rfl) hf rfl rfl rfl (fun _ => Y_index rfl rfl rfl el40 ti28 (Rd.isAt hv6100 hv6104) hi6098a hi6098b) ?_; clear hf; intro a hf
          refine mY (i := 15) [[]] rfl (by kernel_rfl) (by kernel_rfl) hf hs0 rfl rfl rfl (Y_load_rd rfl rfl (fun w hs => hv6100.at hs) (at1 hv6104) ag28) ?_; clear hf; intro a hf
          refine mYp (i := 16) rfl (by kernel_rfl) (by kernel_rfl) hf rfl rfl rfl (fun _ => Y_move rfl rfl) ?_; clear hf; intro a hf
          obtain ⟨q6106, hi6107, hm6038⟩ := bind_some hm6038
          obtain ⟨hi6107a, hi6107b, hi6107q⟩ := idx_some hi6107
          refine mYp (i := 17) rfl (by kernel_rfl) (by kernel_rfl) hf rfl rfl rfl (fun _ => Y_index rfl rfl rfl el28 ti2 (Rd.isAt (hR6105.at hs) (at1 (ints_at hi6107q))) hi6107a hi6107b) ?_; clear hf; intro a hf
          refine mY (i := 18) [[]] rfl (by kernel_rfl) (by kernel_rfl) hf hs0 rfl rfl rfl (Y_load_rd rfl rfl (fun w hs => hR6105.at hs) (at1 (ints_at hi6107q)) ag2) ?_; clear hf; intro a hf
          refine mYp (i := 19) rfl (by kernel_rfl) (by kernel_rfl) hf rfl rfl rfl (fun _ => Y_move rfl rfl) ?_; clear hf; intro a hf
          refine mYp (i := 20) rfl (by kernel_rfl) (by kernel_rfl) hf rfl rfl rfl (fun _ => Y_move rfl rfl) ?_; clear hf; intro a hf
          obtain ⟨q6108, hi6109, hm6038⟩ := bind_some hm6038
          obtain ⟨hi6109a, hi6109b, hi6109q⟩ := idx_some hi6109
          obtain ⟨vs6110, hv6111, hr6112⟩ := id bL
          obtain ⟨A6113, c6114, hv6115, hR6116⟩ := hr6112 _ _ hi6109q
          refine mYp (i := 21) rfl (by kernel_rfl) (by kernel_rfl) hf rfl rfl rfl (fun _ => Y_index rfl rfl rfl el40 ti28 (Rd.isAt hv6111 hv6115) hi6109a hi6109b) ?_; clear hf; intro a hf
          refine mY (i := 22) [[]] rfl (by kernel_rfl) (by kernel_rfl) hf hs0 rfl rfl rfl (Y_load_rd rfl rfl (fun w hs => hv6111.at hs) (at1 hv6115) ag28) ?_; clear hf; intro a hf
          refine mYp (i := 23) rfl (by kernel_rfl) (by kernel_rfl) hf rfl rfl rfl (fun _ => Y_move rfl rfl) ?_; clear hf; intro a hf
          obtain ⟨q6117, hi6118, hm6038⟩ := bind_some hm6038
          obtain ⟨hi6118a, hi6118b, hi6118q⟩ := idx_some hi6118
          refine mYp (i := 24) rfl (by kernel_rfl) (by kernel_rfl) hf rfl rfl rfl (fun _ => Y_index rfl rfl rfl el28 ti2 (Rd.isAt (hR6116.at hs) (at1 (ints_at hi6118q))) hi6118a hi6118b) ?_; clear hf; intro a hf
          refine mY (i := 25) [[]] rfl (by kernel_rfl) (by kernel_rfl) hf hs0 rfl rfl rfl (Y_load_rd rfl rfl (fun w hs => hR6116.at hs) (at1 (ints_at hi6118q)) ag2) ?_; clear hf; intro a hf
          refine mRun (i := 26) rfl (by kernel_rfl) ?_
          obtain ⟨r6119, hc6120, hm6038⟩ := bind_some hm6038
          refine sCall hf rfl rfl rfl rfl (cap := []) rfl rfl en155 (spec_l01Times_ok F q6106 q6117 _ _ hc6120) ?_; clear hf
          rintro _ w ⟨rfl, hs1⟩ a hf
          have hs : St [] W w [.mat A12 n13 c14 28 2 vs16 ms5942] := hs.ext hs1.below
          clear hs1
          have hs0 : St [] W w [.mat A12 n13 c14 28 2 vs16 ms5942] := hs
          refine wpO_nil ⟨Or.inr (fun _ => hs0), ?_⟩
          refine mYp (i := 27) rfl (by kernel_rfl) (by kernel_rfl) hf rfl rfl rfl (fun _ => Y_max rfl rfl rfl) ?_; clear hf; intro a hf
          obtain ⟨q6121, hi6122, hm6038⟩ := bind_some hm6038
          obtain ⟨hi6122a, hi6122b, hi6122q⟩ := idx_some hi6122
          refine mYp (i := 28) rfl (by kernel_rfl) (by kernel_rfl) hf rfl rfl rfl (fun _ => Y_index rfl rfl rfl el28 ti2 (Rd.isAt (hs.rdRow (i := 0) rfl ⟨hi6086q, hv6089⟩) (at1 (ints_at hi6122q))) hi6122a hi6122b) ?_; clear hf; intro a hf
          refine mRun (i := 29) rfl (by kernel_rfl) ?_
          obtain ⟨xs6123, hu6125, hm6038⟩ := bind_some hm6038
          obtain ⟨ms6124, hu6126, hm6038⟩ := bind_some hm6038
          refine sStoreM (i := 0) (k := x3072) hf hs rfl rfl rfl rfl rfl rfl hi6086q hv6089 rfl hu6125 hu6126 ti2 ?_; clear hs; intro w hs
          obtain ⟨hq6127, hv6128⟩ := rowUpd hu6125 hu6126 hv6089
          have hs : St [] W w [.mat A12 n13 c14 28 2 vs16 ms6124] := hs
          refine wpO_nil ⟨Or.inl (by decide), ?_⟩
          refine mDone (by kernel_rfl) ?_
          clear hs0
          refine wpL_nil (Qb_normal ?_)
          refine wpL_region ?_
          refine sY hf hs rfl rfl rfl (Y_move rfl rfl) ?_; clear hf; intro a hf
          refine sY hf hs rfl rfl rfl (Y_add rfl rfl rfl) ?_; clear hf; intro a hf
          refine sY hf hs rfl rfl rfl (Y_assign rfl rfl) ?_; clear hf; intro a hf
          refine wpO_nil ?_
          refine wpL_nil (Ql_normal ?_)
          exact ⟨ms6124, (IntKind.i64.wrap (x5944 + 1)), hm6038, ((hn5943).trans (upd_len hu6126).symm), (FrD.pick (FrD.pick (FrD.pick (FrD.pick (FrD.pick (FrD.pick hf.none hf rfl) hf rfl) hf rfl) hf rfl) hf rfl) hf rfl), hs⟩
         ·have hm6038 := bif_f hm6038 hb6040
          refine wpL_exit (Ql_exit (Qb_exit ?_))
          exact ⟨ms5942, Option.some.inj hm6038, hn5943, (FrD.pick (FrD.pick (FrD.pick (FrD.pick (FrD.pick hf.none hf rfl) hf rfl) hf rfl) hf rfl) hf rfl), hs⟩
       ·rintro a w ⟨ms6034, hr_, hn6035, hf, hs⟩
        subst hr_
        try dsimp only at hm5749
        refine wpL_nil (Qb_normal ?_)
        refine wpL_region ?_
        refine sY hf hs rfl rfl rfl (Y_move rfl rfl) ?_; clear hf; intro a hf
        refine sY hf hs rfl rfl rfl (Y_add rfl rfl rfl) ?_; clear hf; intro a hf
        refine sY hf hs rfl rfl rfl (Y_assign rfl rfl) ?_; clear hf; intro a hf
        refine wpO_nil ?_
        refine wpL_nil (Ql_normal ?_)
        exact ⟨ms6034, (IntKind.i64.wrap (x5366 + 1)), hm5749, hn6035, (FrD.pick (FrD.pick (FrD.pick (FrD.pick (FrD.pick hf.none hf rfl) hf rfl) hf rfl) hf rfl) hf rfl), hs⟩
      ·have hm5749 := bif_f hm5749 hb5760
       refine wpL_exit (Ql_exit (Qb_exit ?_))
       exact ⟨ms5364, Option.some.inj hm5749, hn5365, (FrD.pick (FrD.pick (FrD.pick (FrD.pick hf.none hf rfl) hf rfl) hf rfl) hf rfl), hs⟩
    ·rintro a w ⟨ms5745, hr_, hn5746, hf, hs⟩
     subst hr_
     try dsimp only at hm4602
     refine wpL_nil (Qb_normal ?_)
     refine wpL_region ?_
     refine sY hf hs rfl rfl rfl (Y_move rfl rfl) ?_; clear hf; intro a hf
     refine sY hf hs rfl rfl rfl (Y_add rfl rfl rfl) ?_; clear hf; intro a hf
     refine sY hf hs rfl rfl rfl (Y_assign rfl rfl) ?_; clear hf; intro a hf
     refine wpO_nil ?_
     refine wpL_nil (Ql_normal ?_)
     exact ⟨ms5745, (IntKind.i64.wrap (x3072 + 1)), hm4602, hn5746, (FrD.pick (FrD.pick (FrD.pick (FrD.pick hf.none hf rfl) hf rfl) hf rfl) hf rfl), hs⟩
   ·have hm4602 := bif_f hm4602 hb4604
    refine wpL_exit (Ql_exit (Qb_exit ?_))
    exact ⟨ms3070, Option.some.inj hm4602, hn3071, (FrD.pick hf.none hf rfl), hs⟩
 ·rintro a w ⟨ms4598, hr_, hn4599, hf, hs⟩
  subst hr_
  try dsimp only at hm
  refine wpL_seq <| wpL_region ?_
  refine sY hf hs rfl rfl rfl (Y_move rfl rfl) ?_; clear hf; intro a hf
  refine sY hf hs rfl rfl rfl (Y_assign rfl rfl) ?_; clear hf; intro a hf
  refine wpO_nil ?_
  obtain rfl := Option.some.inj hm
  refine wpL_ret (ret_tmp rfl hf rfl ?_)
  exact ⟨_, rfl, A12, n13, c14, vs16, rfl, hn4599, hs⟩

set_option maxRecDepth 100000 in
theorem spec_l02Own_ok (F : Nat) (aw : List (List Int)) (av : Option Addr) (aO az : Nat) (aS : aO = aw.length) (r : List (List Int)) (W : World) (hm : spec_l02Own F aw = some r) (aP : RdM W av aw) :
  Calls Try.prog 180 [.slice av aO az].toArray W fun e w' => ∃ v, e = .returned v ∧ ∃ A124, ∃ n125, ∃ c126, ∃ vs128, v = .slice A124 n125 c126 ∧ n125 = r.length ∧ St [] W w' [.mat A124 n125 c126 28 2 vs128 r] := by
 subst aS
 unfold spec_l02Own at hm
 refine Calls.enter (N := 21) Try.func180 rfl rfl rfl (fun a hf => ?_)
 have hs := St.start W
 obtain ⟨w, hw_⟩ : ∃ w, w = W := ⟨W, rfl⟩
 clear hw_ w
 refine wpL_seq <| wpL_region ?_
 refine sY hf hs rfl rfl rfl (Y_assign rfl rfl) ?_; clear hf; intro a hf
 refine wpO_nil <| wpL_seq <| wpL_region ?_
 refine sEmptyM 2 hf hs rfl rfl rfl rfl el40 ti28 rfl ?_; clear hf hs; intro a w A1 hs hf
 have hs : St [] W w [.mat A1 0 0 28 2 [] []] := hs
 refine sY hf hs rfl rfl rfl (Y_assign rfl rfl) ?_; clear hf; intro a hf
 refine wpO_nil <| wpL_seq <| wpL_seq <| wpL_region ?_
 refine sY hf hs rfl rfl rfl (Y_assign rfl rfl) ?_; clear hf; intro a hf
 refine wpO_nil ?_
 obtain ⟨r96, hl97, hm⟩ := bind_some hm
 refine wpL_block (fun a w => ∃ ms90 : List (List Int), ∃ A91, ∃ n92, ∃ c93, ∃ vs95, ms90 = r96 ∧ n92 = ms90.length ∧ Fr a 21 [(3, .slice A91 n92 c93)] ∧ St [] W w [.mat A91 n92 c93 28 2 vs95 ms90]) ?_ ?_
 ·refine wpL_loop (fun n a w => ∃ ms59 : List (List Int), ∃ x65 : Int, ∃ A60, ∃ n61, ∃ c62, ∃ vs64, spec_l02Own_L1 F aw n ms59 x65 = some r96 ∧ n61 = ms59.length ∧ Fr a 21 [(0, .slice av aw.length az), (3, .slice A60 n61 c62), (4, .int .i64 x65)] ∧ St [] W w [.mat A60 n61 c62 28 2 vs64 ms59]) F ?_ ?_ ?_
  ·exact ⟨[], 0, A1, 0, 0, [], hl97, rfl, (FrD.pick (FrD.pick (FrD.pick hf.none hf rfl) hf rfl) hf rfl), hs⟩
  ·rintro a w ⟨ms59, x65, A60, n61, c62, vs64, h0_, -, -, -⟩; simp [spec_l02Own_L1] at h0_
  ·rintro n99 a w ⟨ms59, x65, A60, n61, c62, vs64, hm98, hn63, hf, hs⟩
   rw [spec_l02Own_L1] at hm98
   refine wpL_seq <| wpL_seq <| wpL_region ?_
   refine sY hf hs rfl rfl rfl (Y_move rfl rfl) ?_; clear hf; intro a hf
   refine sY hf hs rfl rfl rfl (Y_move rfl rfl) ?_; clear hf; intro a hf
   refine sY hf hs rfl rfl rfl (Y_lenH rfl rfl el40 rfl) ?_; clear hf; intro a hf
   refine sY hf hs rfl rfl rfl (Y_lss rfl rfl rfl) ?_; clear hf; intro a hf
   refine wpO_nil ?_
   refine wpL_cond hf rfl (fun hb100 => ?_) (fun hb100 => ?_)
   ·have hm98 := bif_t hm98 hb100
    refine wpL_skip <| wpL_seq <| wpL_block0 <| wpL_region ?_
    refine sY hf hs rfl rfl rfl (Y_move rfl rfl) ?_; clear hf; intro a hf
    refine sY hf hs rfl rfl rfl (Y_move rfl rfl) ?_; clear hf; intro a hf
    refine sY hf hs rfl rfl rfl (Y_move rfl rfl) ?_; clear hf; intro a hf
    obtain ⟨q101, hi102, hm98⟩ := bind_some hm98
    obtain ⟨hi102a, hi102b, hi102q⟩ := idx_some hi102
    obtain ⟨vs103, hv104, hr105⟩ := id aP
    obtain ⟨A106, c107, hv108, hR109⟩ := hr105 _ _ hi102q
    refine sY hf hs rfl rfl rfl (Y_index rfl rfl rfl el40 ti28 (Rd.isAt hv104 hv108) hi102a hi102b) ?_; clear hf; intro a hf
    refine sY hf hs rfl rfl rfl (Y_load_rd rfl rfl (fun w hs => hv104.at hs) (at1 hv108) ag28) ?_; clear hf; intro a hf
    obtain ⟨r110, hc111, hm98⟩ := bind_some hm98
    refine sCall hf rfl rfl rfl rfl (cap := []) rfl rfl en114 (spec_l01Own_ok F q101 A106 q101.length c107 rfl _ _ hc111 (hR109.at hs)) ?_; clear hf
    rintro _ w ⟨A112, n113, c114, rfl, hn115, hs1⟩ a hf
    have hs : St [] W w [.mat A60 n61 c62 28 2 vs64 ms59, .row A112 n113 c114 2 1 (ints r110)] := hs.join hs1
    clear hs1
    refine sOneM (j := 1) hf hs rfl rfl rfl rfl rfl rfl hn115 el40 ti28 ?_; clear hf hs; intro a w A116 hs hf
    have hs : St [] W w [.mat A60 n61 c62 28 2 vs64 ms59, .mat A116 1 1 28 2 ([Value.slice A112 r110.length c114]) ([r110])] := hs
    obtain ⟨ms120, ha121, hm98⟩ := bind_some hm98
    refine sAppendM (i := 0) (j := 1) hf hs rfl rfl rfl rfl rfl rfl hn63 rfl (by decide) rfl rfl (by decide) ha121 el40 ti28 rfl ?_; clear hf hs; intro a w A118 c119 hs hf
    have hs : St [] W w [.mat A118 ms120.length c119 28 2 (vs64 ++ ([Value.slice A112 r110.length c114])) ms120] := hs
    obtain ⟨hq122, hv123⟩ := hs.appended (i := 0) rfl ha121
    refine sY hf hs rfl rfl rfl (Y_assign rfl rfl) ?_; clear hf; intro a hf
    refine wpO_nil ?_
    refine wpL_nil (Qb_normal ?_)
    refine wpL_region ?_
    refine sY hf hs rfl rfl rfl (Y_move rfl rfl) ?_; clear hf; intro a hf
    refine sY hf hs rfl rfl rfl (Y_add rfl rfl rfl) ?_; clear hf; intro a hf
    refine sY hf hs rfl rfl rfl (Y_assign rfl rfl) ?_; clear hf; intro a hf
    refine wpO_nil ?_
    refine wpL_nil (Ql_normal ?_)
    exact ⟨ms120, (IntKind.i64.wrap (x65 + 1)), A118, ms120.length, c119, (vs64 ++ ([Value.slice A112 r110.length c114])), hm98, rfl, (FrD.pick (FrD.pick (FrD.pick hf.none hf rfl) hf rfl) hf rfl), hs⟩
   ·have hm98 := bif_f hm98 hb100
    refine wpL_exit (Ql_exit (Qb_exit ?_))
    exact ⟨ms59, A60, n61, c62, vs64, Option.some.inj hm98, hn63, (FrD.pick hf.none hf rfl), hs⟩
 ·rintro a w ⟨ms90, A91, n92, c93, vs95, hr_, hn94, hf, hs⟩
  subst hr_
  try dsimp only at hm
  refine wpL_seq <| wpL_region ?_
  refine sY hf hs rfl rfl rfl (Y_move rfl rfl) ?_; clear hf; intro a hf
  refine sY hf hs rfl rfl rfl (Y_assign rfl rfl) ?_; clear hf; intro a hf
  refine wpO_nil ?_
  obtain rfl := Option.some.inj hm
  refine wpL_ret (ret_tmp rfl hf rfl ?_)
  exact ⟨_, rfl, A91, n92, c93, vs95, rfl, hn94, hs⟩

set_option maxRecDepth 100000 in
theorem spec_l02Add_ok (F : Nat) (aw : List (List Int)) (av : Option Addr) (aO az : Nat) (aS : aO = aw.length) (aD : List (List Int)) (aB : Option Addr) (aU aL : Nat) (bb : aU = aD.length) (r : List (List Int)) (W : World) (hm : spec_l02Add F aw aD = some r) (aP : RdM W av aw) (aW : RdM W aB aD) :
  Calls Try.prog 151 [.slice av aO az, .slice aB aU aL].toArray W fun e w' => ∃ v, e = .returned v ∧ ∃ A664, ∃ n665, ∃ c666, ∃ vs668, v = .slice A664 n665 c666 ∧ n665 = r.length ∧ St [] W w' [.mat A664 n665 c666 28 2 vs668 r] := by
 subst aS
 subst bb
 unfold spec_l02Add at hm
 refine Calls.enter (N := 47) Try.func151 rfl rfl rfl (fun a hf => ?_)
 have hs := St.start W
 obtain ⟨w, hw_⟩ : ∃ w, w = W := ⟨W, rfl⟩
 clear hw_ w
 refine wpL_seq <| wpL_region ?_
 refine sY hf hs rfl rfl rfl (Y_assign rfl rfl) ?_; clear hf; intro a hf
 refine wpO_nil <| wpL_seq <| wpL_region ?_
 refine sY hf hs rfl rfl rfl (Y_move rfl rfl) ?_; clear hf; intro a hf
 obtain ⟨r1, hc2, hm⟩ := bind_some hm
 refine sCall hf rfl rfl rfl rfl (cap := []) rfl rfl en180 (spec_l02Own_ok F aw av aw.length az rfl _ _ hc2 (aP.at hs)) ?_; clear hf
 rintro _ w ⟨A3, n4, c5, vs7, rfl, hn6, hs1⟩ a hf
 have hs : St [] W w [.mat A3 n4 c5 28 2 vs7 r1] := hs.join hs1
 clear hs1
 refine sY hf hs rfl rfl rfl (Y_assign rfl rfl) ?_; clear hf; intro a hf
 refine wpO_nil <| wpL_seq <| wpL_seq <| wpL_region ?_
 refine sY hf hs rfl rfl rfl (Y_assign rfl rfl) ?_; clear hf; intro a hf
 refine wpO_nil ?_
 obtain ⟨r499, hl500, hm⟩ := bind_some hm
 refine wpL_block (fun a w => ∃ ms497 : List (List Int), ms497 = r499 ∧ n4 = ms497.length ∧ Fr a 47 [(5, .slice A3 n4 c5)] ∧ St [] W w [.mat A3 n4 c5 28 2 vs7 ms497]) ?_ ?_
 ·refine wpL_loop (fun n a w => ∃ ms333 : List (List Int), ∃ x335 : Int, spec_l02Add_L4 F aD n ms333 x335 = some r499 ∧ n4 = ms333.length ∧ Fr a 47 [(1, .slice aB aD.length aL), (5, .slice A3 n4 c5), (6, .int .i64 x335)] ∧ St [] W w [.mat A3 n4 c5 28 2 vs7 ms333]) F ?_ ?_ ?_
  ·exact ⟨r1, 0, hl500, hn6, (FrD.pick (FrD.pick (FrD.pick hf.none hf rfl) hf rfl) hf rfl), hs⟩
  ·rintro a w ⟨ms333, x335, h0_, -, -, -⟩; simp [spec_l02Add_L4] at h0_
  ·rintro n502 a w ⟨ms333, x335, hm501, hn334, hf, hs⟩
   rw [spec_l02Add_L4] at hm501
   refine wpL_seq <| wpL_seq <| wpL_region ?_
   refine sY hf hs rfl rfl rfl (Y_move rfl rfl) ?_; clear hf; intro a hf
   refine sY hf hs rfl rfl rfl (Y_move rfl rfl) ?_; clear hf; intro a hf
   refine sY hf hs rfl rfl rfl (Y_lenH rfl rfl el40 hn334) ?_; clear hf; intro a hf
   refine sY hf hs rfl rfl rfl (Y_lss rfl rfl rfl) ?_; clear hf; intro a hf
   refine wpO_nil ?_
   refine wpL_cond hf rfl (fun hb503 => ?_) (fun hb503 => ?_)
   ·have hm501 := bif_t hm501 hb503
    refine wpL_skip <| wpL_seq <| wpL_block0 <| wpL_seq <| wpL_region ?_
    refine sY hf hs rfl rfl rfl (Y_assign rfl rfl) ?_; clear hf; intro a hf
    refine wpO_nil ?_
    obtain ⟨r623, hl624, hm501⟩ := bind_some hm501
    refine wpL_block (fun a w => ∃ ms621 : List (List Int), ms621 = r623 ∧ n4 = ms621.length ∧ Fr a 47 [(1, .slice aB aD.length aL), (5, .slice A3 n4 c5), (6, .int .i64 x335)] ∧ St [] W w [.mat A3 n4 c5 28 2 vs7 ms621]) ?_ ?_
    ·refine wpL_loop (fun n a w => ∃ ms581 : List (List Int), ∃ x583 : Int, spec_l02Add_L5 F aD x335 n ms581 x583 = some r623 ∧ n4 = ms581.length ∧ Fr a 47 [(1, .slice aB aD.length aL), (5, .slice A3 n4 c5), (6, .int .i64 x335), (7, .int .i64 x583)] ∧ St [] W w [.mat A3 n4 c5 28 2 vs7 ms581]) F ?_ ?_ ?_
     ·exact ⟨ms333, 0, hl624, hn334, (FrD.pick (FrD.pick (FrD.pick (FrD.pick hf.none hf rfl) hf rfl) hf rfl) hf rfl), hs⟩
     ·rintro a w ⟨ms581, x583, h0_, -, -, -⟩; simp [spec_l02Add_L5] at h0_
     ·rintro n626 a w ⟨ms581, x583, hm625, hn582, hf, hs⟩
      rw [spec_l02Add_L5] at hm625
      refine wpL_seq <| wpL_seq <| wpL_region ?_
      refine sY hf hs rfl rfl rfl (Y_move rfl rfl) ?_; clear hf; intro a hf
      refine sY hf hs rfl rfl rfl (Y_move rfl rfl) ?_; clear hf; intro a hf
      refine sY hf hs rfl rfl rfl (Y_move rfl rfl) ?_; clear hf; intro a hf
      obtain ⟨q627, hi628, hm625⟩ := bind_some hm625
      obtain ⟨hi628a, hi628b, hi628q⟩ := idx_some hi628
      obtain ⟨A629, c630, hv631⟩ := hs.matRow (i := 0) rfl hi628q
      refine sY hf hs rfl rfl rfl (Y_index rfl rfl rfl el40 ti28 (Rd.isAt (hs.rdV (i := 0) rfl) hv631) hi628a (ltn hn582 hi628b)) ?_; clear hf; intro a hf
      refine sY hf hs rfl rfl rfl (Y_load_rd rfl rfl (fun w hs => hs.rdV (i := 0) rfl) (at1 hv631) ag28) ?_; clear hf; intro a hf
      refine sY hf hs rfl rfl rfl (Y_lenH rfl rfl el28 rfl) ?_; clear hf; intro a hf
      refine sY hf hs rfl rfl rfl (Y_lss rfl rfl rfl) ?_; clear hf; intro a hf
      refine wpO_nil ?_
      refine wpL_cond hf rfl (fun hb632 => ?_) (fun hb632 => ?_)
      ·have hm625 := bif_t hm625 hb632
       refine wpL_skip <| wpL_seq <| wpL_block0 ?_
       refine wpL_drawM [.mat A3 n4 c5 28 2 vs7 ms581] [21] (by kernel_rfl) hs ?_; clear hs; intro w hs
       have hs0 : St [] W w [.mat A3 n4 c5 28 2 vs7 ms581] := hs
       refine mYp (i := 0) rfl (by kernel_rfl) (by kernel_rfl) hf rfl rfl rfl (fun _ => Y_move rfl rfl) ?_; clear hf; intro a hf
       refine mYp (i := 1) rfl (by kernel_rfl) (by kernel_rfl) hf rfl rfl rfl (fun _ => Y_move rfl rfl) ?_; clear hf; intro a hf
       obtain ⟨q633, hi634, hm625⟩ := bind_some hm625
       obtain ⟨hi634a, hi634b, hi634q⟩ := idx_some hi634
       obtain ⟨A635, c636, hv637⟩ := hs.matRow (i := 0) rfl hi634q
       refine mYp (i := 2) rfl (by kernel_rfl) (by kernel_rfl) hf rfl rfl rfl (fun _ => Y_index rfl rfl rfl el40 ti28 (Rd.isAt (hs.rdV (i := 0) rfl) hv637) hi634a (ltn hn582 hi634b)) ?_; clear hf; intro a hf
       refine mY (i := 3) [[]] rfl (by kernel_rfl) (by kernel_rfl) hf hs0 rfl rfl rfl (Y_load_rd rfl rfl (fun w hs => hs.rdV (i := 0) rfl) (at1 hv637) ag28) ?_; clear hf; intro a hf
       refine mYp (i := 4) rfl (by kernel_rfl) (by kernel_rfl) hf rfl rfl rfl (fun _ => Y_move rfl rfl) ?_; clear hf; intro a hf
       refine mYp (i := 5) rfl (by kernel_rfl) (by kernel_rfl) hf rfl rfl rfl (fun _ => Y_move rfl rfl) ?_; clear hf; intro a hf
       refine mYp (i := 6) rfl (by kernel_rfl) (by kernel_rfl) hf rfl rfl rfl (fun _ => Y_move rfl rfl) ?_; clear hf; intro a hf
       obtain ⟨q638, hi639, hm625⟩ := bind_some hm625
       obtain ⟨hi639a, hi639b, hi639q⟩ := idx_some hi639
       obtain ⟨A640, c641, hv642⟩ := hs.matRow (i := 0) rfl hi639q
       refine mYp (i := 7) rfl (by kernel_rfl) (by kernel_rfl) hf rfl rfl rfl (fun _ => Y_index rfl rfl rfl el40 ti28 (Rd.isAt (hs.rdV (i := 0) rfl) hv642) hi639a (ltn hn582 hi639b)) ?_; clear hf; intro a hf
       refine mY (i := 8) [[]] rfl (by kernel_rfl) (by kernel_rfl) hf hs0 rfl rfl rfl (Y_load_rd rfl rfl (fun w hs => hs.rdV (i := 0) rfl) (at1 hv642) ag28) ?_; clear hf; intro a hf
       refine mYp (i := 9) rfl (by kernel_rfl) (by kernel_rfl) hf rfl rfl rfl (fun _ => Y_move rfl rfl) ?_; clear hf; intro a hf
       obtain ⟨q643, hi644, hm625⟩ := bind_some hm625
       obtain ⟨hi644a, hi644b, hi644q⟩ := idx_some hi644
       refine mYp (i := 10) rfl (by kernel_rfl) (by kernel_rfl) hf rfl rfl rfl (fun _ => Y_index rfl rfl rfl el28 ti2 (Rd.isAt (hs.rdRow (i := 0) rfl ⟨hi639q, hv642⟩) (at1 (ints_at hi644q))) hi644a hi644b) ?_; clear hf; intro a hf
       refine mY (i := 11) [[]] rfl (by kernel_rfl) (by kernel_rfl) hf hs0 rfl rfl rfl (Y_load_rd rfl rfl (fun w hs => hs.rdRow (i := 0) rfl ⟨hi639q, hv642⟩) (at1 (ints_at hi644q)) ag2) ?_; clear hf; intro a hf
       refine mYp (i := 12) rfl (by kernel_rfl) (by kernel_rfl) hf rfl rfl rfl (fun _ => Y_move rfl rfl) ?_; clear hf; intro a hf
       refine mYp (i := 13) rfl (by kernel_rfl) (by kernel_rfl) hf rfl rfl rfl (fun _ => Y_move rfl rfl) ?_; clear hf; intro a hf
       obtain ⟨q645, hi646, hm625⟩ := bind_some hm625
       obtain ⟨hi646a, hi646b, hi646q⟩ := idx_some hi646
       obtain ⟨vs647, hv648, hr649⟩ := id aW
       obtain ⟨A650, c651, hv652, hR653⟩ := hr649 _ _ hi646q
       refine mYp (i := 14) rfl (by kernel_rfl) (by kernel_rfl) hf rfl rfl rfl (fun _ => Y_index rfl rfl rfl el40 ti28 (Rd.isAt hv648 hv652) hi646a hi646b) ?_; clear hf; intro a hf
       refine mY (i := 15) [[]] rfl (by kernel_rfl) (by kernel_rfl) hf hs0 rfl rfl rfl (Y_load_rd rfl rfl (fun w hs => hv648.at hs) (at1 hv652) ag28) ?_; clear hf; intro a hf
       refine mYp (i := 16) rfl (by kernel_rfl) (by kernel_rfl) hf rfl rfl rfl (fun _ => Y_move rfl rfl) ?_; clear hf; intro a hf
       obtain ⟨q654, hi655, hm625⟩ := bind_some hm625
       obtain ⟨hi655a, hi655b, hi655q⟩ := idx_some hi655
       refine mYp (i := 17) rfl (by kernel_rfl) (by kernel_rfl) hf rfl rfl rfl (fun _ => Y_index rfl rfl rfl el28 ti2 (Rd.isAt (hR653.at hs) (at1 (ints_at hi655q))) hi655a hi655b) ?_; clear hf; intro a hf
       refine mY (i := 18) [[]] rfl (by kernel_rfl) (by kernel_rfl) hf hs0 rfl rfl rfl (Y_load_rd rfl rfl (fun w hs => hR653.at hs) (at1 (ints_at hi655q)) ag2) ?_; clear hf; intro a hf
       refine mYp (i := 19) rfl (by kernel_rfl) (by kernel_rfl) hf rfl rfl rfl (fun _ => Y_max rfl rfl rfl) ?_; clear hf; intro a hf
       obtain ⟨q656, hi657, hm625⟩ := bind_some hm625
       obtain ⟨hi657a, hi657b, hi657q⟩ := idx_some hi657
       refine mYp (i := 20) rfl (by kernel_rfl) (by kernel_rfl) hf rfl rfl rfl (fun _ => Y_index rfl rfl rfl el28 ti2 (Rd.isAt (hs.rdRow (i := 0) rfl ⟨hi634q, hv637⟩) (at1 (ints_at hi657q))) hi657a hi657b) ?_; clear hf; intro a hf
       refine mRun (i := 21) rfl (by kernel_rfl) ?_
       obtain ⟨xs658, hu660, hm625⟩ := bind_some hm625
       obtain ⟨ms659, hu661, hm625⟩ := bind_some hm625
       refine sStoreM (i := 0) (k := x335) hf hs rfl rfl rfl rfl rfl rfl hi634q hv637 rfl hu660 hu661 ti2 ?_; clear hs; intro w hs
       obtain ⟨hq662, hv663⟩ := rowUpd hu660 hu661 hv637
       have hs : St [] W w [.mat A3 n4 c5 28 2 vs7 ms659] := hs
       refine wpO_nil ⟨Or.inl (by decide), ?_⟩
       refine mDone (by kernel_rfl) ?_
       clear hs0
       refine wpL_nil (Qb_normal ?_)
       refine wpL_region ?_
       refine sY hf hs rfl rfl rfl (Y_move rfl rfl) ?_; clear hf; intro a hf
       refine sY hf hs rfl rfl rfl (Y_add rfl rfl rfl) ?_; clear hf; intro a hf
       refine sY hf hs rfl rfl rfl (Y_assign rfl rfl) ?_; clear hf; intro a hf
       refine wpO_nil ?_
       refine wpL_nil (Ql_normal ?_)
       exact ⟨ms659, (IntKind.i64.wrap (x583 + 1)), hm625, ((hn582).trans (upd_len hu661).symm), (FrD.pick (FrD.pick (FrD.pick (FrD.pick hf.none hf rfl) hf rfl) hf rfl) hf rfl), hs⟩
      ·have hm625 := bif_f hm625 hb632
       refine wpL_exit (Ql_exit (Qb_exit ?_))
       exact ⟨ms581, Option.some.inj hm625, hn582, (FrD.pick (FrD.pick (FrD.pick hf.none hf rfl) hf rfl) hf rfl), hs⟩
    ·rintro a w ⟨ms621, hr_, hn622, hf, hs⟩
     subst hr_
     try dsimp only at hm501
     refine wpL_nil (Qb_normal ?_)
     refine wpL_region ?_
     refine sY hf hs rfl rfl rfl (Y_move rfl rfl) ?_; clear hf; intro a hf
     refine sY hf hs rfl rfl rfl (Y_add rfl rfl rfl) ?_; clear hf; intro a hf
     refine sY hf hs rfl rfl rfl (Y_assign rfl rfl) ?_; clear hf; intro a hf
     refine wpO_nil ?_
     refine wpL_nil (Ql_normal ?_)
     exact ⟨ms621, (IntKind.i64.wrap (x335 + 1)), hm501, hn622, (FrD.pick (FrD.pick (FrD.pick hf.none hf rfl) hf rfl) hf rfl), hs⟩
   ·have hm501 := bif_f hm501 hb503
    refine wpL_exit (Ql_exit (Qb_exit ?_))
    exact ⟨ms333, Option.some.inj hm501, hn334, (FrD.pick hf.none hf rfl), hs⟩
 ·rintro a w ⟨ms497, hr_, hn498, hf, hs⟩
  subst hr_
  try dsimp only at hm
  refine wpL_seq <| wpL_region ?_
  refine sY hf hs rfl rfl rfl (Y_move rfl rfl) ?_; clear hf; intro a hf
  refine sY hf hs rfl rfl rfl (Y_assign rfl rfl) ?_; clear hf; intro a hf
  refine wpO_nil ?_
  obtain rfl := Option.some.inj hm
  refine wpL_ret (ret_tmp rfl hf rfl ?_)
  exact ⟨_, rfl, A3, n4, c5, vs7, rfl, hn498, hs⟩

set_option maxRecDepth 100000 in
theorem spec_l01Same_ok (F : Nat) (aw : List Int) (av : Option Addr) (aO az : Nat) (aS : aO = aw.length) (aD : List Int) (aB : Option Addr) (aU aL : Nat) (bb : aU = aD.length) (r : Bool) (W : World) (hm : spec_l01Same F aw aD = some r) (aP : Rd W av (ints aw)) (aW : Rd W aB (ints aD)) :
  Calls Try.prog 205 [.slice av aO az, .slice aB aU aL].toArray W fun e w' => ∃ v, e = .returned v ∧ v = .bool r ∧ St [] W w' [] := by
 subst aS
 subst bb
 unfold spec_l01Same at hm
 refine Calls.enter (N := 26) Try.func205 rfl rfl rfl (fun a hf => ?_)
 have hs := St.start W
 obtain ⟨w, hw_⟩ : ∃ w, w = W := ⟨W, rfl⟩
 clear hw_ w
 refine wpL_seq <| wpL_region ?_
 refine sY hf hs rfl rfl rfl (Y_assign rfl rfl) ?_; clear hf; intro a hf
 refine wpO_nil <| wpL_seq <| wpL_seq <| wpL_region ?_
 refine sY hf hs rfl rfl rfl (Y_move rfl rfl) ?_; clear hf; intro a hf
 refine sY hf hs rfl rfl rfl (Y_lenH rfl rfl el28 rfl) ?_; clear hf; intro a hf
 refine sY hf hs rfl rfl rfl (Y_move rfl rfl) ?_; clear hf; intro a hf
 refine sY hf hs rfl rfl rfl (Y_lenH rfl rfl el28 rfl) ?_; clear hf; intro a hf
 refine sY hf hs rfl rfl rfl (Y_neq rfl rfl rfl) ?_; clear hf; intro a hf
 refine wpO_nil ?_
 refine wpL_cond hf rfl (fun hb1 => ?_) (fun hb1 => ?_)
 ·have hm := bif_t hm hb1
  refine wpL_seq <| wpL_region ?_
  refine sY hf hs rfl rfl rfl (Y_assign rfl rfl) ?_; clear hf; intro a hf
  refine wpO_nil ?_
  obtain rfl := Option.some.inj hm
  refine wpL_ret (ret_tmp rfl hf rfl ?_)
  exact ⟨_, rfl, rfl, hs⟩
 ·have hm := bif_f hm hb1
  refine wpL_skip <| wpL_seq <| wpL_seq <| wpL_region ?_
  refine sY hf hs rfl rfl rfl (Y_assign rfl rfl) ?_; clear hf; intro a hf
  refine wpO_nil ?_
  obtain ⟨r22, hl23, hm⟩ := bind_some hm
  refine wpL_block (fun a w => Sum.inr () = r22 ∧ Fr a 26 [] ∧ St [] W w []) ?_ ?_
  ·refine wpL_loop (fun n a w => ∃ x15 : Int, spec_l01Same_L1 F aw aD n x15 = some r22 ∧ Fr a 26 [(0, .slice av aw.length az), (1, .slice aB aD.length aL), (5, .int .i64 x15)] ∧ St [] W w []) F ?_ ?_ ?_
   ·exact ⟨0, hl23, (FrD.pick (FrD.pick (FrD.pick hf.none hf rfl) hf rfl) hf rfl), hs⟩
   ·rintro a w ⟨x15, h0_, -, -⟩; simp [spec_l01Same_L1] at h0_
   ·rintro n25 a w ⟨x15, hm24, hf, hs⟩
    rw [spec_l01Same_L1] at hm24
    refine wpL_seq <| wpL_seq <| wpL_region ?_
    refine sY hf hs rfl rfl rfl (Y_move rfl rfl) ?_; clear hf; intro a hf
    refine sY hf hs rfl rfl rfl (Y_move rfl rfl) ?_; clear hf; intro a hf
    refine sY hf hs rfl rfl rfl (Y_lenH rfl rfl el28 rfl) ?_; clear hf; intro a hf
    refine sY hf hs rfl rfl rfl (Y_lss rfl rfl rfl) ?_; clear hf; intro a hf
    refine wpO_nil ?_
    refine wpL_cond hf rfl (fun hb26 => ?_) (fun hb26 => ?_)
    ·have hm24 := bif_t hm24 hb26
     refine wpL_skip <| wpL_seq <| wpL_block0 <| wpL_seq ?_
     refine wpL_draw (by kernel_rfl) (by kernel_rfl) hs ?_
     refine qY hf rfl rfl rfl (Y_move rfl rfl) ?_; clear hf; intro a hf
     refine qY hf rfl rfl rfl (Y_move rfl rfl) ?_; clear hf; intro a hf
     obtain ⟨q27, hi28, hm24⟩ := bind_some hm24
     obtain ⟨hi28a, hi28b, hi28q⟩ := idx_some hi28
     refine qY hf rfl rfl rfl (Y_index rfl rfl rfl el28 ti2 (Rd.isAt (aP.at hs) (at1 (ints_at hi28q))) hi28a hi28b) ?_; clear hf; intro a hf
     refine qY hf rfl rfl rfl (Y_load_rd rfl rfl (fun w hs => aP.at hs) (at1 (ints_at hi28q)) ag2) ?_; clear hf; intro a hf
     refine qY hf rfl rfl rfl (Y_move rfl rfl) ?_; clear hf; intro a hf
     refine qY hf rfl rfl rfl (Y_move rfl rfl) ?_; clear hf; intro a hf
     obtain ⟨q29, hi30, hm24⟩ := bind_some hm24
     obtain ⟨hi30a, hi30b, hi30q⟩ := idx_some hi30
     refine qY hf rfl rfl rfl (Y_index rfl rfl rfl el28 ti2 (Rd.isAt (aW.at hs) (at1 (ints_at hi30q))) hi30a hi30b) ?_; clear hf; intro a hf
     refine qY hf rfl rfl rfl (Y_load_rd rfl rfl (fun w hs => aW.at hs) (at1 (ints_at hi30q)) ag2) ?_; clear hf; intro a hf
     refine qY hf rfl rfl rfl (Y_neq rfl rfl rfl) ?_; clear hf; intro a hf
     refine qNil ?_; clear hs; intro w hs
     refine wpL_cond hf rfl (fun hb31 => ?_) (fun hb31 => ?_)
     ·have hm24 := bif_t hm24 hb31
      refine wpL_seq <| wpL_region ?_
      refine sY hf hs rfl rfl rfl (Y_assign rfl rfl) ?_; clear hf; intro a hf
      refine wpO_nil ?_
      obtain rfl := Option.some.inj hm24
      try dsimp only at hm
      obtain rfl := Option.some.inj hm
      refine wpL_ret (Qb_ret (Ql_ret (Qb_ret (ret_tmp rfl hf rfl ?_))))
      exact ⟨_, rfl, rfl, hs⟩
     ·have hm24 := bif_f hm24 hb31
      refine wpL_skip ?_
      refine wpL_nil (Qb_normal ?_)
      refine wpL_region ?_
      refine sY hf hs rfl rfl rfl (Y_move rfl rfl) ?_; clear hf; intro a hf
      refine sY hf hs rfl rfl rfl (Y_add rfl rfl rfl) ?_; clear hf; intro a hf
      refine sY hf hs rfl rfl rfl (Y_assign rfl rfl) ?_; clear hf; intro a hf
      refine wpO_nil ?_
      refine wpL_nil (Ql_normal ?_)
      exact ⟨(IntKind.i64.wrap (x15 + 1)), hm24, (FrD.pick (FrD.pick (FrD.pick hf.none hf rfl) hf rfl) hf rfl), hs⟩
    ·have hm24 := bif_f hm24 hb26
     refine wpL_exit (Ql_exit (Qb_exit ?_))
     exact ⟨Option.some.inj hm24, hf.none, hs⟩
  ·rintro a w ⟨hr_, hf, hs⟩
   subst hr_
   try dsimp only at hm
   refine wpL_seq <| wpL_region ?_
   refine sY hf hs rfl rfl rfl (Y_assign rfl rfl) ?_; clear hf; intro a hf
   refine wpO_nil ?_
   obtain rfl := Option.some.inj hm
   refine wpL_ret (ret_tmp rfl hf rfl ?_)
   exact ⟨_, rfl, rfl, hs⟩

set_option maxRecDepth 100000 in
theorem spec_l02Same_ok (F : Nat) (aw : List (List Int)) (av : Option Addr) (aO az : Nat) (aS : aO = aw.length) (aD : List (List Int)) (aB : Option Addr) (aU aL : Nat) (bb : aU = aD.length) (r : Bool) (W : World) (hm : spec_l02Same F aw aD = some r) (aP : RdM W av aw) (aW : RdM W aB aD) :
  Calls Try.prog 152 [.slice av aO az, .slice aB aU aL].toArray W fun e w' => ∃ v, e = .returned v ∧ v = .bool r ∧ St [] W w' [] := by
 subst aS
 subst bb
 unfold spec_l02Same at hm
 refine Calls.enter (N := 27) Try.func152 rfl rfl rfl (fun a hf => ?_)
 have hs := St.start W
 obtain ⟨w, hw_⟩ : ∃ w, w = W := ⟨W, rfl⟩
 clear hw_ w
 refine wpL_seq <| wpL_region ?_
 refine sY hf hs rfl rfl rfl (Y_assign rfl rfl) ?_; clear hf; intro a hf
 refine wpO_nil <| wpL_seq <| wpL_seq <| wpL_region ?_
 refine sY hf hs rfl rfl rfl (Y_move rfl rfl) ?_; clear hf; intro a hf
 refine sY hf hs rfl rfl rfl (Y_lenH rfl rfl el40 rfl) ?_; clear hf; intro a hf
 refine sY hf hs rfl rfl rfl (Y_move rfl rfl) ?_; clear hf; intro a hf
 refine sY hf hs rfl rfl rfl (Y_lenH rfl rfl el40 rfl) ?_; clear hf; intro a hf
 refine sY hf hs rfl rfl rfl (Y_neq rfl rfl rfl) ?_; clear hf; intro a hf
 refine wpO_nil ?_
 refine wpL_cond hf rfl (fun hb1 => ?_) (fun hb1 => ?_)
 ·have hm := bif_t hm hb1
  refine wpL_seq <| wpL_region ?_
  refine sY hf hs rfl rfl rfl (Y_assign rfl rfl) ?_; clear hf; intro a hf
  refine wpO_nil ?_
  obtain rfl := Option.some.inj hm
  refine wpL_ret (ret_tmp rfl hf rfl ?_)
  exact ⟨_, rfl, rfl, hs⟩
 ·have hm := bif_f hm hb1
  refine wpL_skip <| wpL_seq <| wpL_seq <| wpL_region ?_
  refine sY hf hs rfl rfl rfl (Y_assign rfl rfl) ?_; clear hf; intro a hf
  refine wpO_nil ?_
  obtain ⟨r70, hl71, hm⟩ := bind_some hm
  refine wpL_block (fun a w => Sum.inr () = r70 ∧ Fr a 27 [] ∧ St [] W w []) ?_ ?_
  ·refine wpL_loop (fun n a w => ∃ x47 : Int, spec_l02Same_L1 F aw aD n x47 = some r70 ∧ Fr a 27 [(0, .slice av aw.length az), (1, .slice aB aD.length aL), (5, .int .i64 x47)] ∧ St [] W w []) F ?_ ?_ ?_
   ·exact ⟨0, hl71, (FrD.pick (FrD.pick (FrD.pick hf.none hf rfl) hf rfl) hf rfl), hs⟩
   ·rintro a w ⟨x47, h0_, -, -⟩; simp [spec_l02Same_L1] at h0_
   ·rintro n73 a w ⟨x47, hm72, hf, hs⟩
    rw [spec_l02Same_L1] at hm72
    refine wpL_seq <| wpL_seq <| wpL_region ?_
    refine sY hf hs rfl rfl rfl (Y_move rfl rfl) ?_; clear hf; intro a hf
    refine sY hf hs rfl rfl rfl (Y_move rfl rfl) ?_; clear hf; intro a hf
    refine sY hf hs rfl rfl rfl (Y_lenH rfl rfl el40 rfl) ?_; clear hf; intro a hf
    refine sY hf hs rfl rfl rfl (Y_lss rfl rfl rfl) ?_; clear hf; intro a hf
    refine wpO_nil ?_
    refine wpL_cond hf rfl (fun hb74 => ?_) (fun hb74 => ?_)
    ·have hm72 := bif_t hm72 hb74
     refine wpL_skip <| wpL_seq <| wpL_block0 <| wpL_seq ?_
     refine wpL_draw (by kernel_rfl) (by kernel_rfl) hs ?_
     refine qY hf rfl rfl rfl (Y_move rfl rfl) ?_; clear hf; intro a hf
     refine qY hf rfl rfl rfl (Y_move rfl rfl) ?_; clear hf; intro a hf
     obtain ⟨q75, hi76, hm72⟩ := bind_some hm72
     obtain ⟨hi76a, hi76b, hi76q⟩ := idx_some hi76
     obtain ⟨vs77, hv78, hr79⟩ := id aP
     obtain ⟨A80, c81, hv82, hR83⟩ := hr79 _ _ hi76q
     refine qY hf rfl rfl rfl (Y_index rfl rfl rfl el40 ti28 (Rd.isAt hv78 hv82) hi76a hi76b) ?_; clear hf; intro a hf
     refine qY hf rfl rfl rfl (Y_load_rd rfl rfl (fun w hs => hv78.at hs) (at1 hv82) ag28) ?_; clear hf; intro a hf
     refine qY hf rfl rfl rfl (Y_move rfl rfl) ?_; clear hf; intro a hf
     refine qY hf rfl rfl rfl (Y_move rfl rfl) ?_; clear hf; intro a hf
     obtain ⟨q84, hi85, hm72⟩ := bind_some hm72
     obtain ⟨hi85a, hi85b, hi85q⟩ := idx_some hi85
     obtain ⟨vs86, hv87, hr88⟩ := id aW
     obtain ⟨A89, c90, hv91, hR92⟩ := hr88 _ _ hi85q
     refine qY hf rfl rfl rfl (Y_index rfl rfl rfl el40 ti28 (Rd.isAt hv87 hv91) hi85a hi85b) ?_; clear hf; intro a hf
     refine qY hf rfl rfl rfl (Y_load_rd rfl rfl (fun w hs => hv87.at hs) (at1 hv91) ag28) ?_; clear hf; intro a hf
     obtain ⟨r93, hc94, hm72⟩ := bind_some hm72
     refine qCall hf rfl rfl rfl rfl (cap := []) rfl rfl en205 (v := .bool r93) (fun w hs => Calls.scal (spec_l01Same_ok F q75 A80 q75.length c81 rfl q84 A89 q84.length c90 rfl _ _ hc94 (hR83.at hs) (hR92.at hs))) ?_; clear hf; intro a hf
     refine qY hf rfl rfl rfl (Y_not rfl rfl) ?_; clear hf; intro a hf
     refine qNil ?_; clear hs; intro w hs
     refine wpL_cond hf rfl (fun hb95 => ?_) (fun hb95 => ?_)
     ·have hm72 := bif_t hm72 hb95
      refine wpL_seq <| wpL_region ?_
      refine sY hf hs rfl rfl rfl (Y_assign rfl rfl) ?_; clear hf; intro a hf
      refine wpO_nil ?_
      obtain rfl := Option.some.inj hm72
      try dsimp only at hm
      obtain rfl := Option.some.inj hm
      refine wpL_ret (Qb_ret (Ql_ret (Qb_ret (ret_tmp rfl hf rfl ?_))))
      exact ⟨_, rfl, rfl, hs⟩
     ·have hm72 := bif_f hm72 hb95
      refine wpL_skip ?_
      refine wpL_nil (Qb_normal ?_)
      refine wpL_region ?_
      refine sY hf hs rfl rfl rfl (Y_move rfl rfl) ?_; clear hf; intro a hf
      refine sY hf hs rfl rfl rfl (Y_add rfl rfl rfl) ?_; clear hf; intro a hf
      refine sY hf hs rfl rfl rfl (Y_assign rfl rfl) ?_; clear hf; intro a hf
      refine wpO_nil ?_
      refine wpL_nil (Ql_normal ?_)
      exact ⟨(IntKind.i64.wrap (x47 + 1)), hm72, (FrD.pick (FrD.pick (FrD.pick hf.none hf rfl) hf rfl) hf rfl), hs⟩
    ·have hm72 := bif_f hm72 hb74
     refine wpL_exit (Ql_exit (Qb_exit ?_))
     exact ⟨Option.some.inj hm72, hf.none, hs⟩
  ·rintro a w ⟨hr_, hf, hs⟩
   subst hr_
   try dsimp only at hm
   refine wpL_seq <| wpL_region ?_
   refine sY hf hs rfl rfl rfl (Y_assign rfl rfl) ?_; clear hf; intro a hf
   refine wpO_nil ?_
   obtain rfl := Option.some.inj hm
   refine wpL_ret (ret_tmp rfl hf rfl ?_)
   exact ⟨_, rfl, rfl, hs⟩

end Go.Proofs.Ytebmlphobgaboab
