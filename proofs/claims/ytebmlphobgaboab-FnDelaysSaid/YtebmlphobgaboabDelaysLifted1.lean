/- The functions do what their models say. -/
import Derived.Test.YtebmlphobgaboabDelaysFacts
import Derived.Test.YtebmlphobgaboabRows
namespace Go.Proofs.Ytebmlphobgaboab
open Go.RowKit

set_option maxRecDepth 100000 in
theorem laws_big_ok (F : Nat) (ad : List Int) (av : Option Addr) (bi az : Nat) (bD : bi = ad.length) (r : Bool) (W : World) (hm : laws_big F ad = some r) (_h_p0_code_1 : Rd W av (bytes ad)) :
  Calls Try.prog 9 [.slice av bi az].toArray W fun e w' => ∃ v, e = .returned v ∧ v = .bool r ∧ St [] W w' [] := by
 subst bD
 unfold laws_big at hm
 refine Calls.enter (N := 6) Try.func9 rfl rfl rfl (fun a hf => ?_)
 have hs := St.start W
 obtain ⟨w, hw_⟩ : ∃ w, w = W := ⟨W, rfl⟩
 clear hw_ w
 refine wpL_seq <| wpL_region ?_
 refine sY hf hs rfl rfl rfl (Y_assign rfl rfl) ?_; clear hf; intro a hf
 refine wpO_nil <| wpL_seq <| wpL_region ?_
 refine sY hf hs rfl rfl rfl (Y_move rfl rfl) ?_; clear hf; intro a hf
 refine sY hf hs rfl rfl rfl (Y_lenH rfl rfl el22 rfl) ?_; clear hf; intro a hf
 refine sY hf hs rfl rfl rfl (Y_gtr rfl rfl rfl) ?_; clear hf; intro a hf
 refine sY hf hs rfl rfl rfl (Y_assign rfl rfl) ?_; clear hf; intro a hf
 refine wpO_nil ?_
 obtain rfl := Option.some.inj hm
 refine wpL_ret (ret_tmp rfl hf rfl ?_)
 exact ⟨_, rfl, rfl, hs⟩

set_option maxRecDepth 100000 in
theorem spec_l01From_ok (F : Nat) (ad : List Int) (av : Option Addr) (bi az : Nat) (bD : bi = ad.length) (r : (Int × Int)) (W : World) (hm : spec_l01From F ad = some r) (bl : Rd W av (bytes ad)) :
  Calls Try.prog 65 [.slice av bi az].toArray W fun e w' => ∃ v, e = .returned v ∧ ∃ b43, v = .pointer (some ⟨b43, 0, none⟩) ∧ St [] W w' [.blk b43 149 [.slice av bi az, .int .i64 r.1, .int .i64 r.2]] := by
 subst bD
 unfold spec_l01From at hm
 refine Calls.enter (N := 34) Try.func65 rfl rfl rfl (fun a hf => ?_)
 have hs := St.start W
 obtain ⟨w, hw_⟩ : ∃ w, w = W := ⟨W, rfl⟩
 clear hw_ w
 refine wpL_seq <| wpL_region ?_
 refine sY hf hs rfl rfl rfl (Y_assign rfl rfl) ?_; clear hf; intro a hf
 refine wpO_nil <| wpL_seq <| wpL_region ?_
 refine sY hf hs rfl rfl rfl (Y_move rfl rfl) ?_; clear hf; intro a hf
 refine sY hf hs rfl rfl rfl (Y_build (parts := [(0, .tmp 5), (2, .const (.int .i64 61403))]) (vs := [.slice av ad.length az, .int .i64 61403]) rfl rfl (run_build (parts := [(0, .slice av ad.length az), (2, .int .i64 61403)]) (cells := [.slice av ad.length az, .int .i64 0, .int .i64 61403]) (places := #[(0, 1), (1, 1), (2, 1)]) ti149 Try.underlying149 (fun w => by simp [go_sem]) rfl)) ?_; clear hf; intro a hf
 refine sBox hf hs rfl rfl rfl rfl rfl (cs := [.slice av ad.length az, .int .i64 0, .int .i64 61403]) rfl ?_; clear hf hs; intro a w b1 hs hf
 have hs : St _ W w [.blk b1 149 [.slice av ad.length az, .int .i64 0, .int .i64 61403]] := hs
 refine sY hf hs rfl rfl rfl (Y_assign rfl rfl) ?_; clear hf; intro a hf
 refine wpO_nil <| wpL_seq <| wpL_seq <| wpL_region ?_
 refine sY hf hs rfl rfl rfl (Y_assign rfl rfl) ?_; clear hf; intro a hf
 refine wpO_nil ?_
 obtain ⟨r31, hl32, hm⟩ := bind_some hm
 refine wpL_block (fun a w => ∃ x30 : Int, x30 = r31 ∧ Fr a 34 [(3, .pointer (some ⟨b1, 0, none⟩))] ∧ St [] W w [.blk b1 149 [.slice av ad.length az, .int .i64 0, .int .i64 x30]]) ?_ ?_
 ·refine wpL_loop (fun n a w => ∃ x20 : Int, ∃ x21 : Int, spec_l01From_L1 F ad n x20 x21 = some r31 ∧ Fr a 34 [(0, .slice av ad.length az), (3, .pointer (some ⟨b1, 0, none⟩)), (4, .int .i64 x21)] ∧ St [] W w [.blk b1 149 [.slice av ad.length az, .int .i64 0, .int .i64 x20]]) F ?_ ?_ ?_
  ·exact ⟨61403, 0, hl32, (FrD.pick (FrD.pick (FrD.pick hf.none hf rfl) hf rfl) hf rfl), hs⟩
  ·rintro a w ⟨x20, x21, h0_, -, -⟩; simp [spec_l01From_L1] at h0_
  ·rintro n34 a w ⟨x20, x21, hm33, hf, hs⟩
   rw [spec_l01From_L1] at hm33
   refine wpL_seq <| wpL_seq ?_
   obtain ⟨r37, hj38, hm33⟩ := bind_some hm33
   refine wpL_cut (fun a w => ∃ b36 : Bool, b36 = r37 ∧ Fr a 34 [(0, .slice av ad.length az), (3, .pointer (some ⟨b1, 0, none⟩)), (4, .int .i64 x21), (15, .bool b36)] ∧ St [] W w [.blk b1 149 [.slice av ad.length az, .int .i64 0, .int .i64 x20]]) ?_ ?_
   ·refine wpL_region ?_
    refine sY hf hs rfl rfl rfl (Y_move rfl rfl) ?_; clear hf; intro a hf
    refine sY hf hs rfl rfl rfl (Y_move rfl rfl) ?_; clear hf; intro a hf
    refine sY hf hs rfl rfl rfl (Y_lenH rfl rfl el22 rfl) ?_; clear hf; intro a hf
    refine sY hf hs rfl rfl rfl (Y_lss rfl rfl rfl) ?_; clear hf; intro a hf
    refine sY hf hs rfl rfl rfl (Y_move rfl rfl) ?_; clear hf; intro a hf
    refine bsplit (decide (x21 < (ad.length : Int))) (fun hb39 => ?_) (fun hb39 => ?_)
    ·have hj38 := bif_t hj38 hb39
     refine sYg hf hs rfl rfl rfl (congrArg (fun b => some (Value.bool b)) hb39) rfl rfl rfl (Y_move rfl rfl) ?_; clear hf; intro a hf
     refine sYg hf hs rfl rfl rfl (congrArg (fun b => some (Value.bool b)) hb39) rfl rfl rfl (Y_lss rfl rfl rfl) ?_; clear hf; intro a hf
     refine sY hf hs rfl rfl rfl (Y_pickT rfl (congrArg (fun b => some (Value.bool b)) hb39) rfl) ?_; clear hf; intro a hf
     refine wpO_nil ?_
     refine wpL_nil (then_normal ?_)
     exact ⟨(decide (x21 < 64)), Option.some.inj hj38, (FrD.pick (FrD.pick (FrD.pick (FrD.pick hf.none hf rfl) hf rfl) hf rfl) hf rfl), hs⟩
    ·have hj38 := bif_f hj38 hb39
     refine sNo hf rfl rfl rfl (congrArg (fun b => some (Value.bool b)) hb39) rfl rfl rfl ?_; clear hf; intro a hf
     refine sNo hf rfl rfl rfl (congrArg (fun b => some (Value.bool b)) hb39) rfl rfl rfl ?_; clear hf; intro a hf
     refine sY hf hs rfl rfl rfl (Y_pickF rfl (congrArg (fun b => some (Value.bool b)) hb39) rfl) ?_; clear hf; intro a hf
     refine wpO_nil ?_
     refine wpL_nil (then_normal ?_)
     exact ⟨false, Option.some.inj hj38, (FrD.pick (FrD.pick (FrD.pick (FrD.pick hf.none hf rfl) hf rfl) hf rfl) hf rfl), hs⟩
   ·rintro a w ⟨b36, hr_, hf, hs⟩
    subst hr_
    try dsimp only at hm33
    refine wpL_cond hf rfl (fun hb40 => ?_) (fun hb40 => ?_)
    ·have hm33 := bif_t hm33 hb40
     refine wpL_skip <| wpL_seq <| wpL_block0 ?_
     refine wpL_drawM [.blk b1 149 [.slice av ad.length az, .int .i64 0, .int .i64 x20]] [15] (by kernel_rfl) hs ?_; clear hs; intro w hs
     have hs0 : St _ W w [_] := hs
     refine mYp (i := 0) rfl (by kernel_rfl) (by kernel_rfl) hf rfl rfl rfl (fun _ => Y_move rfl rfl) ?_; clear hf; intro a hf
     refine mYp (i := 1) rfl (by kernel_rfl) (by kernel_rfl) hf rfl rfl rfl (fun _ => Y_move rfl rfl) ?_; clear hf; intro a hf
     refine mYp (i := 2) rfl (by kernel_rfl) (by kernel_rfl) hf rfl rfl rfl (fun _ => Y_nilCheck rfl rfl) ?_; clear hf; intro a hf
     refine mYp (i := 3) rfl (by kernel_rfl) (by kernel_rfl) hf rfl rfl rfl (fun _ => Y_fieldAddr rfl rfl fo149_2) ?_; clear hf; intro a hf
     refine mY (i := 4) [[]] rfl (by kernel_rfl) (by kernel_rfl) hf hs0 rfl rfl rfl (Y_load_blk rfl rfl (i := 0) rfl rfl ag2) ?_; clear hf; intro a hf
     refine mYp (i := 5) rfl (by kernel_rfl) (by kernel_rfl) hf rfl rfl rfl (fun _ => Y_mul rfl rfl rfl) ?_; clear hf; intro a hf
     refine mYp (i := 6) rfl (by kernel_rfl) (by kernel_rfl) hf rfl rfl rfl (fun _ => Y_move rfl rfl) ?_; clear hf; intro a hf
     refine mYp (i := 7) rfl (by kernel_rfl) (by kernel_rfl) hf rfl rfl rfl (fun _ => Y_move rfl rfl) ?_; clear hf; intro a hf
     obtain ⟨q41, hi42, hm33⟩ := bind_some hm33
     obtain ⟨hi42a, hi42b, hi42q⟩ := idx_some hi42
     refine mYp (i := 8) rfl (by kernel_rfl) (by kernel_rfl) hf rfl rfl rfl (fun _ => Y_index rfl rfl rfl el22 ti5 (Rd.isAt (bl.at hs) (at1 (bytes_at hi42q))) hi42a hi42b) ?_; clear hf; intro a hf
     refine mY (i := 9) [[]] rfl (by kernel_rfl) (by kernel_rfl) hf hs0 rfl rfl rfl (Y_load_rd rfl rfl (fun w hs => bl.at hs) (at1 (bytes_at hi42q)) ag5) ?_; clear hf; intro a hf
     refine mY (i := 10) [[]] rfl (by kernel_rfl) (by kernel_rfl) hf hs0 rfl rfl rfl (Y_convert rfl rfl un5 un2) ?_; clear hf; intro a hf
     refine mYp (i := 11) rfl (by kernel_rfl) (by kernel_rfl) hf rfl rfl rfl (fun _ => Y_add rfl rfl rfl) ?_; clear hf; intro a hf
     refine mYp (i := 12) rfl (by kernel_rfl) (by kernel_rfl) hf rfl rfl rfl (fun _ => Y_rem rfl rfl rfl (by decide)) ?_; clear hf; intro a hf
     refine mYp (i := 13) rfl (by kernel_rfl) (by kernel_rfl) hf rfl rfl rfl (fun _ => Y_nilCheck rfl rfl) ?_; clear hf; intro a hf
     refine mYp (i := 14) rfl (by kernel_rfl) (by kernel_rfl) hf rfl rfl rfl (fun _ => Y_fieldAddr rfl rfl fo149_2) ?_; clear hf; intro a hf
     refine mRun (i := 15) rfl (by kernel_rfl) ?_
     refine sStore (i := 0) (us := [.int .i64 ((IntKind.i64.wrap ((IntKind.i64.wrap (x20 * 67)) + (IntKind.i64.wrap q41))).tmod 2147483647)]) hf hs rfl rfl rfl rfl rfl rfl ti2 rfl rfl rfl (Nat.le_of_ble_eq_true rfl) rfl ?_; clear hs; intro w hs
     have hs : St _ W w [.blk b1 149 [.slice av ad.length az, .int .i64 0, .int .i64 ((IntKind.i64.wrap ((IntKind.i64.wrap (x20 * 67)) + (IntKind.i64.wrap q41))).tmod 2147483647)]] := hs
     refine wpO_nil ⟨Or.inl (by decide), ?_⟩
     refine mDone (by kernel_rfl) ?_
     clear hs0
     refine wpL_nil (Qb_normal ?_)
     refine wpL_region ?_
     refine sY hf hs rfl rfl rfl (Y_move rfl rfl) ?_; clear hf; intro a hf
     refine sY hf hs rfl rfl rfl (Y_add rfl rfl rfl) ?_; clear hf; intro a hf
     refine sY hf hs rfl rfl rfl (Y_assign rfl rfl) ?_; clear hf; intro a hf
     refine wpO_nil ?_
     refine wpL_nil (Ql_normal ?_)
     exact ⟨((IntKind.i64.wrap ((IntKind.i64.wrap (x20 * 67)) + (IntKind.i64.wrap q41))).tmod 2147483647), (IntKind.i64.wrap (x21 + 1)), hm33, (FrD.pick (FrD.pick (FrD.pick hf.none hf rfl) hf rfl) hf rfl), hs⟩
    ·have hm33 := bif_f hm33 hb40
     refine wpL_exit (Ql_exit (Qb_exit ?_))
     exact ⟨x20, Option.some.inj hm33, (FrD.pick hf.none hf rfl), hs⟩
 ·rintro a w ⟨x30, hr_, hf, hs⟩
  subst hr_
  try dsimp only at hm
  refine wpL_seq <| wpL_region ?_
  refine sY hf hs rfl rfl rfl (Y_move rfl rfl) ?_; clear hf; intro a hf
  refine sY hf hs rfl rfl rfl (Y_assign rfl rfl) ?_; clear hf; intro a hf
  refine wpO_nil ?_
  obtain rfl := Option.some.inj hm
  refine wpL_ret (ret_tmp rfl hf rfl ?_)
  exact ⟨_, rfl, b1, rfl, hs⟩

set_option maxRecDepth 100000 in
theorem spec_l01Next_ok (F : Nat) (b_p0 : Nat) (ad : List Int) (ae : Option Addr) (bg af : Nat) (cn : bg = ad.length) (ar : Int) (am : Int) (p1 : Int) (r : (Int) × Int × Int) (W : World) (hm : spec_l01Next F ad ar am p1 = some r) (aL : KR (muL [.blk b_p0 149 [.slice ae bg af, .int .i64 ar, .int .i64 am]]) W ae (bytes ad)) (hst : St (muL [.blk b_p0 149 [.slice ae bg af, .int .i64 ar, .int .i64 am]]) W W [.blk b_p0 149 [.slice ae bg af, .int .i64 ar, .int .i64 am]]) :
  Calls Try.prog 93 [.pointer (some ⟨b_p0, 0, none⟩), .int .i64 p1].toArray W fun e w' => ∃ v, e = .returned v ∧ v = .int .i64 r.1 ∧ St (muL [.blk b_p0 149 [.slice ae bg af, .int .i64 ar, .int .i64 am]]) W w' [.blk b_p0 149 [.slice ae bg af, .int .i64 r.2.1, .int .i64 r.2.2]] := by
 subst cn
 unfold spec_l01Next at hm
 refine Calls.enter (N := 78) Try.func93 rfl rfl rfl (fun a hf => ?_)
 have hs := hst
 obtain ⟨w, hw_⟩ : ∃ w, w = W := ⟨W, rfl⟩
 clear hw_ w
 refine wpL_seq <| wpL_region ?_
 refine sY hf hs rfl rfl rfl (Y_assign rfl rfl) ?_; clear hf; intro a hf
 refine wpO_nil <| wpL_seq <| wpL_seq <| wpL_region ?_
 refine sY hf hs rfl rfl rfl (Y_move rfl rfl) ?_; clear hf; intro a hf
 refine sY hf hs rfl rfl rfl (Y_leq rfl rfl rfl) ?_; clear hf; intro a hf
 refine wpO_nil ?_
 refine wpL_cond hf rfl (fun hb1 => ?_) (fun hb1 => ?_)
 ·have hm := bif_t hm hb1
  refine wpL_seq <| wpL_region ?_
  refine sY hf hs rfl rfl rfl (Y_assign rfl rfl) ?_; clear hf; intro a hf
  refine wpO_nil ?_
  obtain rfl := Option.some.inj hm
  refine wpL_ret (ret_tmp rfl hf rfl ?_)
  exact ⟨_, rfl, rfl, hs⟩
 ·have hm := bif_f hm hb1
  refine wpL_skip <| wpL_seq <| wpL_region ?_
  refine sY hf hs rfl rfl rfl (Y_move rfl rfl) ?_; clear hf; intro a hf
  refine sY hf hs rfl rfl rfl (Y_move rfl rfl) ?_; clear hf; intro a hf
  refine sY hf hs rfl rfl rfl (Y_nilCheck rfl rfl) ?_; clear hf; intro a hf
  refine sY hf hs rfl rfl rfl (Y_fieldAddr rfl rfl fo149_2) ?_; clear hf; intro a hf
  refine sY hf hs rfl rfl rfl (Y_load_blk rfl rfl (i := 0) rfl rfl ag2) ?_; clear hf; intro a hf
  refine sY hf hs rfl rfl rfl (Y_mul rfl rfl rfl) ?_; clear hf; intro a hf
  refine sY hf hs rfl rfl rfl (Y_add rfl rfl rfl) ?_; clear hf; intro a hf
  refine sY hf hs rfl rfl rfl (Y_rem rfl rfl rfl (by decide)) ?_; clear hf; intro a hf
  refine sY hf hs rfl rfl rfl (Y_nilCheck rfl rfl) ?_; clear hf; intro a hf
  refine sY hf hs rfl rfl rfl (Y_fieldAddr rfl rfl fo149_2) ?_; clear hf; intro a hf
  refine sStore (i := 0) (us := [.int .i64 ((IntKind.i64.wrap ((IntKind.i64.wrap (am * 48271)) + 59)).tmod 2147483647)]) hf hs rfl rfl rfl rfl rfl rfl ti2 rfl rfl rfl (Nat.le_of_ble_eq_true rfl) rfl ?_; clear hs; intro w hs
  have hs : St _ W w [.blk b_p0 149 [.slice ae ad.length af, .int .i64 ar, .int .i64 ((IntKind.i64.wrap ((IntKind.i64.wrap (am * 48271)) + 59)).tmod 2147483647)]] := hs
  refine wpO_nil <| wpL_seq <| wpL_region ?_
  refine sY hf hs rfl rfl rfl (Y_move rfl rfl) ?_; clear hf; intro a hf
  refine sY hf hs rfl rfl rfl (Y_nilCheck rfl rfl) ?_; clear hf; intro a hf
  refine sY hf hs rfl rfl rfl (Y_fieldAddr rfl rfl fo149_2) ?_; clear hf; intro a hf
  refine sY hf hs rfl rfl rfl (Y_load_blk rfl rfl (i := 0) rfl rfl ag2) ?_; clear hf; intro a hf
  refine sY hf hs rfl rfl rfl (Y_quo rfl rfl rfl (by decide)) ?_; clear hf; intro a hf
  refine sY hf hs rfl rfl rfl (Y_assign rfl rfl) ?_; clear hf; intro a hf
  refine wpO_nil <| wpL_seq <| wpL_seq ?_
  refine wpL_draw (by kernel_rfl) (by kernel_rfl) hs ?_
  refine qY hf rfl rfl rfl (Y_move rfl rfl) ?_; clear hf; intro a hf
  refine qY hf rfl rfl rfl (Y_nilCheck rfl rfl) ?_; clear hf; intro a hf
  refine qY hf rfl rfl rfl (Y_fieldAddr rfl rfl fo149_1) ?_; clear hf; intro a hf
  refine qY hf rfl rfl rfl (Y_load_blk rfl rfl (i := 0) rfl rfl ag3) ?_; clear hf; intro a hf
  refine qY hf rfl rfl rfl (Y_move rfl rfl) ?_; clear hf; intro a hf
  refine qY hf rfl rfl rfl (Y_nilCheck rfl rfl) ?_; clear hf; intro a hf
  refine qY hf rfl rfl rfl (Y_fieldAddr rfl rfl fo149_0) ?_; clear hf; intro a hf
  refine qY hf rfl rfl rfl (Y_load_blk rfl rfl (i := 0) rfl rfl ag22) ?_; clear hf; intro a hf
  refine qY hf rfl rfl rfl (Y_lenH rfl rfl el22 rfl) ?_; clear hf; intro a hf
  refine qY hf rfl rfl rfl (Y_lss rfl rfl rfl) ?_; clear hf; intro a hf
  refine qNil ?_; clear hs; intro w hs
  obtain ⟨r15, hj16, hm⟩ := bind_some hm
  refine wpL_cut (fun a w => ∃ x13 : Int, ∃ x14 : Int, (x13, x14) = r15 ∧ Fr a 78 [(1, .int .i64 p1), (5, .int .i64 x14)] ∧ St (muL [.blk b_p0 149 [.slice ae ad.length af, .int .i64 ar, .int .i64 am]]) W w [.blk b_p0 149 [.slice ae ad.length af, .int .i64 x13, .int .i64 ((IntKind.i64.wrap ((IntKind.i64.wrap (am * 48271)) + 59)).tmod 2147483647)]]) ?_ ?_
  ·refine wpL_cond hf rfl (fun hb17 => ?_) (fun hb17 => ?_)
   ·have hj16 := bif_t hj16 hb17
    refine wpL_seq ?_
    refine wpL_draw (by kernel_rfl) (by kernel_rfl) hs ?_
    refine qY hf rfl rfl rfl (Y_move rfl rfl) ?_; clear hf; intro a hf
    refine qY hf rfl rfl rfl (Y_move rfl rfl) ?_; clear hf; intro a hf
    refine qY hf rfl rfl rfl (Y_nilCheck rfl rfl) ?_; clear hf; intro a hf
    refine qY hf rfl rfl rfl (Y_fieldAddr rfl rfl fo149_0) ?_; clear hf; intro a hf
    refine qY hf rfl rfl rfl (Y_load_blk rfl rfl (i := 0) rfl rfl ag22) ?_; clear hf; intro a hf
    refine qY hf rfl rfl rfl (Y_move rfl rfl) ?_; clear hf; intro a hf
    refine qY hf rfl rfl rfl (Y_nilCheck rfl rfl) ?_; clear hf; intro a hf
    refine qY hf rfl rfl rfl (Y_fieldAddr rfl rfl fo149_1) ?_; clear hf; intro a hf
    refine qY hf rfl rfl rfl (Y_load_blk rfl rfl (i := 0) rfl rfl ag3) ?_; clear hf; intro a hf
    obtain ⟨q18, hi19, hj16⟩ := bind_some hj16
    obtain ⟨hi19a, hi19b, hi19q⟩ := idx_some hi19
    refine qY hf rfl rfl rfl (Y_index rfl rfl rfl el22 ti5 (Rd.isAt (aL.at hs) (at1 (bytes_at hi19q))) hi19a hi19b) ?_; clear hf; intro a hf
    refine qY hf rfl rfl rfl (Y_load_rd rfl rfl (fun w hs => aL.at hs) (at1 (bytes_at hi19q)) ag5) ?_; clear hf; intro a hf
    refine qY hf rfl rfl rfl (Y_convert rfl rfl un5 un2) ?_; clear hf; intro a hf
    refine qY hf rfl rfl rfl (Y_add rfl rfl rfl) ?_; clear hf; intro a hf
    refine qY hf rfl rfl rfl (Y_assign rfl rfl) ?_; clear hf; intro a hf
    refine qNil ?_; clear hs; intro w hs
    refine wpL_seq <| wpL_region ?_
    refine sY hf hs rfl rfl rfl (Y_move rfl rfl) ?_; clear hf; intro a hf
    refine sY hf hs rfl rfl rfl (Y_nilCheck rfl rfl) ?_; clear hf; intro a hf
    refine sY hf hs rfl rfl rfl (Y_fieldAddr rfl rfl fo149_1) ?_; clear hf; intro a hf
    refine sY hf hs rfl rfl rfl (Y_load_blk rfl rfl (i := 0) rfl rfl ag3) ?_; clear hf; intro a hf
    refine sY hf hs rfl rfl rfl (Y_add rfl rfl rfl) ?_; clear hf; intro a hf
    refine sY hf hs rfl rfl rfl (Y_nilCheck rfl rfl) ?_; clear hf; intro a hf
    refine sY hf hs rfl rfl rfl (Y_fieldAddr rfl rfl fo149_1) ?_; clear hf; intro a hf
    refine sStore (i := 0) (us := [.int .i64 (IntKind.i64.wrap (ar + 1))]) hf hs rfl rfl rfl rfl rfl rfl ti3 rfl rfl rfl (Nat.le_of_ble_eq_true rfl) rfl ?_; clear hs; intro w hs
    have hs : St _ W w [.blk b_p0 149 [.slice ae ad.length af, .int .i64 (IntKind.i64.wrap (ar + 1)), .int .i64 ((IntKind.i64.wrap ((IntKind.i64.wrap (am * 48271)) + 59)).tmod 2147483647)]] := hs
    refine wpO_nil <| wpL_seq ?_
    obtain ⟨r22, hj23, hj16⟩ := bind_some hj16
    refine wpL_cut (fun a w => ∃ b21 : Bool, b21 = r22 ∧ Fr a 78 [(0, .pointer (some ⟨b_p0, 0, none⟩)), (1, .int .i64 p1), (5, .int .i64 (IntKind.i64.wrap ((IntKind.i64.wrap (((IntKind.i64.wrap ((IntKind.i64.wrap (am * 48271)) + 59)).tmod 2147483647).tdiv 31)) + (IntKind.i64.wrap q18)))), (62, .bool b21)] ∧ St (muL [.blk b_p0 149 [.slice ae ad.length af, .int .i64 ar, .int .i64 am]]) W w [.blk b_p0 149 [.slice ae ad.length af, .int .i64 (IntKind.i64.wrap (ar + 1)), .int .i64 ((IntKind.i64.wrap ((IntKind.i64.wrap (am * 48271)) + 59)).tmod 2147483647)]]) ?_ ?_
    ·refine wpL_region ?_
     refine sY hf hs rfl rfl rfl (Y_move rfl rfl) ?_; clear hf; intro a hf
     refine sY hf hs rfl rfl rfl (Y_leq rfl rfl rfl) ?_; clear hf; intro a hf
     refine sY hf hs rfl rfl rfl (Y_move rfl rfl) ?_; clear hf; intro a hf
     refine bsplit (decide (p1 ≤ 256)) (fun hb24 => ?_) (fun hb24 => ?_)
     ·have hj23 := bif_t hj23 hb24
      refine sYg hf hs rfl rfl rfl (congrArg (fun b => some (Value.bool b)) hb24) rfl rfl rfl (Y_move rfl rfl) ?_; clear hf; intro a hf
      refine sYg hf hs rfl rfl rfl (congrArg (fun b => some (Value.bool b)) hb24) rfl rfl rfl (Y_nilCheck rfl rfl) ?_; clear hf; intro a hf
      refine sYg hf hs rfl rfl rfl (congrArg (fun b => some (Value.bool b)) hb24) rfl rfl rfl (Y_fieldAddr rfl rfl fo149_1) ?_; clear hf; intro a hf
      refine sYg hf hs rfl rfl rfl (congrArg (fun b => some (Value.bool b)) hb24) rfl rfl rfl (Y_load_blk rfl rfl (i := 0) rfl rfl ag3) ?_; clear hf; intro a hf
      refine sYg hf hs rfl rfl rfl (congrArg (fun b => some (Value.bool b)) hb24) rfl rfl rfl (Y_rem rfl rfl rfl (by decide)) ?_; clear hf; intro a hf
      refine sYg hf hs rfl rfl rfl (congrArg (fun b => some (Value.bool b)) hb24) rfl rfl rfl (Y_eql rfl rfl rfl) ?_; clear hf; intro a hf
      refine sY hf hs rfl rfl rfl (Y_pickT rfl (congrArg (fun b => some (Value.bool b)) hb24) rfl) ?_; clear hf; intro a hf
      refine wpO_nil ?_
      refine wpL_nil (then_normal ?_)
      exact ⟨(((IntKind.i64.wrap (ar + 1)).tmod 2) == 0), Option.some.inj hj23, (FrD.pick (FrD.pick (FrD.pick (FrD.pick hf.none hf rfl) hf rfl) hf rfl) hf rfl), hs⟩
     ·have hj23 := bif_f hj23 hb24
      refine sNo hf rfl rfl rfl (congrArg (fun b => some (Value.bool b)) hb24) rfl rfl rfl ?_; clear hf; intro a hf
      refine sNo hf rfl rfl rfl (congrArg (fun b => some (Value.bool b)) hb24) rfl rfl rfl ?_; clear hf; intro a hf
      refine sNo hf rfl rfl rfl (congrArg (fun b => some (Value.bool b)) hb24) rfl rfl rfl ?_; clear hf; intro a hf
      refine sNo hf rfl rfl rfl (congrArg (fun b => some (Value.bool b)) hb24) rfl rfl rfl ?_; clear hf; intro a hf
      refine sNo hf rfl rfl rfl (congrArg (fun b => some (Value.bool b)) hb24) rfl rfl rfl ?_; clear hf; intro a hf
      refine sNo hf rfl rfl rfl (congrArg (fun b => some (Value.bool b)) hb24) rfl rfl rfl ?_; clear hf; intro a hf
      refine sY hf hs rfl rfl rfl (Y_pickF rfl (congrArg (fun b => some (Value.bool b)) hb24) rfl) ?_; clear hf; intro a hf
      refine wpO_nil ?_
      refine wpL_nil (then_normal ?_)
      exact ⟨false, Option.some.inj hj23, (FrD.pick (FrD.pick (FrD.pick (FrD.pick hf.none hf rfl) hf rfl) hf rfl) hf rfl), hs⟩
    ·rintro a w ⟨b21, hr_, hf, hs⟩
     subst hr_
     try dsimp only at hj16
     refine wpL_cond hf rfl (fun hb25 => ?_) (fun hb25 => ?_)
     ·have hj16 := bif_t hj16 hb25
      refine wpL_draw (by kernel_rfl) (by kernel_rfl) hs ?_
      refine qY hf rfl rfl rfl (Y_move rfl rfl) ?_; clear hf; intro a hf
      refine qY hf rfl rfl rfl (Y_nilCheck rfl rfl) ?_; clear hf; intro a hf
      refine qY hf rfl rfl rfl (Y_fieldAddr rfl rfl fo149_0) ?_; clear hf; intro a hf
      refine qY hf rfl rfl rfl (Y_load_blk rfl rfl (i := 0) rfl rfl ag22) ?_; clear hf; intro a hf
      refine qY hf rfl rfl rfl (Y_move rfl rfl) ?_; clear hf; intro a hf
      refine qY hf rfl rfl rfl (Y_nilCheck rfl rfl) ?_; clear hf; intro a hf
      refine qY hf rfl rfl rfl (Y_fieldAddr rfl rfl fo149_1) ?_; clear hf; intro a hf
      refine qY hf rfl rfl rfl (Y_load_blk rfl rfl (i := 0) rfl rfl ag3) ?_; clear hf; intro a hf
      refine qY hf rfl rfl rfl (Y_sub rfl rfl rfl) ?_; clear hf; intro a hf
      obtain ⟨q26, hi27, hj16⟩ := bind_some hj16
      obtain ⟨hi27a, hi27b, hi27q⟩ := idx_some hi27
      refine qY hf rfl rfl rfl (Y_index rfl rfl rfl el22 ti5 (Rd.isAt (aL.at hs) (at1 (bytes_at hi27q))) hi27a hi27b) ?_; clear hf; intro a hf
      refine qY hf rfl rfl rfl (Y_load_rd rfl rfl (fun w hs => aL.at hs) (at1 (bytes_at hi27q)) ag5) ?_; clear hf; intro a hf
      refine qY hf rfl rfl rfl (Y_convert rfl rfl un5 un2) ?_; clear hf; intro a hf
      refine qY hf rfl rfl rfl (Y_assign rfl rfl) ?_; clear hf; intro a hf
      refine qNil ?_; clear hs; intro w hs
      refine wpL_nil (then_normal ?_)
      exact ⟨(IntKind.i64.wrap (ar + 1)), (IntKind.i64.wrap q26), Option.some.inj hj16, (FrD.pick (FrD.pick hf.none hf rfl) hf rfl), hs⟩
     ·have hj16 := bif_f hj16 hb25
      refine wpL_skip ?_
      refine wpL_nil (then_normal ?_)
      exact ⟨(IntKind.i64.wrap (ar + 1)), (IntKind.i64.wrap ((IntKind.i64.wrap (((IntKind.i64.wrap ((IntKind.i64.wrap (am * 48271)) + 59)).tmod 2147483647).tdiv 31)) + (IntKind.i64.wrap q18))), Option.some.inj hj16, (FrD.pick (FrD.pick hf.none hf rfl) hf rfl), hs⟩
   ·have hj16 := bif_f hj16 hb17
    refine wpL_skip ?_
    refine wpL_nil (then_normal ?_)
    exact ⟨ar, (IntKind.i64.wrap (((IntKind.i64.wrap ((IntKind.i64.wrap (am * 48271)) + 59)).tmod 2147483647).tdiv 31)), Option.some.inj hj16, (FrD.pick (FrD.pick hf.none hf rfl) hf rfl), hs⟩
  ·rintro a w ⟨x13, x14, hr_, hf, hs⟩
   subst hr_
   try dsimp only at hm
   refine wpL_seq <| wpL_region ?_
   refine sY hf hs rfl rfl rfl (Y_move rfl rfl) ?_; clear hf; intro a hf
   refine sY hf hs rfl rfl rfl (Y_move rfl rfl) ?_; clear hf; intro a hf
   obtain ⟨_, hz28, hm⟩ := bind_some hm
   refine sY hf hs rfl rfl rfl (Y_rem rfl rfl rfl (nz_some hz28)) ?_; clear hf; intro a hf
   refine sY hf hs rfl rfl rfl (Y_assign rfl rfl) ?_; clear hf; intro a hf
   refine wpO_nil ?_
   obtain rfl := Option.some.inj hm
   refine wpL_ret (ret_tmp rfl hf rfl ?_)
   exact ⟨_, rfl, rfl, hs⟩

set_option maxRecDepth 100000 in
theorem spec_l01Pick_ok (F : Nat) (aj : Nat) (ac : List Int) (aa : Option Addr) (aF ab : Nat) (bE : aF = ac.length) (al : Int) (ak : Int) (bC : List Int) (bA : Option Addr) (bP bQ : Nat) (ce : bP = bC.length) (r : (Int) × Int × Int) (W : World) (hm : spec_l01Pick F ac al ak bC = some r) (aG : KR (muL [.blk aj 149 [.slice aa aF ab, .int .i64 al, .int .i64 ak]]) W aa (bytes ac)) (bx : KR (muL [.blk aj 149 [.slice aa aF ab, .int .i64 al, .int .i64 ak]]) W bA (ints bC)) (hst : St (muL [.blk aj 149 [.slice aa aF ab, .int .i64 al, .int .i64 ak]]) W W [.blk aj 149 [.slice aa aF ab, .int .i64 al, .int .i64 ak]]) :
  Calls Try.prog 109 [.pointer (some ⟨aj, 0, none⟩), .slice bA bP bQ].toArray W fun e w' => ∃ v, e = .returned v ∧ v = .int .i64 r.1 ∧ St (muL [.blk aj 149 [.slice aa aF ab, .int .i64 al, .int .i64 ak]]) W w' [.blk aj 149 [.slice aa aF ab, .int .i64 r.2.1, .int .i64 r.2.2]] := by
 subst bE
 subst ce
 unfold spec_l01Pick at hm
 refine Calls.enter (N := 12) Try.func109 rfl rfl rfl (fun a hf => ?_)
 have hs := hst
 obtain ⟨w, hw_⟩ : ∃ w, w = W := ⟨W, rfl⟩
 clear hw_ w
 refine wpL_seq <| wpL_region ?_
 refine sY hf hs rfl rfl rfl (Y_assign rfl rfl) ?_; clear hf; intro a hf
 refine wpO_nil <| wpL_seq <| wpL_region ?_
 refine sY hf hs rfl rfl rfl (Y_move rfl rfl) ?_; clear hf; intro a hf
 refine sY hf hs rfl rfl rfl (Y_move rfl rfl) ?_; clear hf; intro a hf
 refine sY hf hs rfl rfl rfl (Y_move rfl rfl) ?_; clear hf; intro a hf
 refine sY hf hs rfl rfl rfl (Y_lenH rfl rfl el28 rfl) ?_; clear hf; intro a hf
 obtain ⟨r1, hc2, hm⟩ := bind_some hm
 refine sCall hf rfl rfl rfl rfl (cap := []) rfl rfl en93 (spec_l01Next_ok F aj ac aa ac.length ab rfl al ak (bC.length : Int) _ _ hc2 (aG.pass hs [0]) (hs.sel [0] (by decide)).rebase) ?_; clear hf
 rintro _ w ⟨rfl, hs1⟩ a hf
 have hs : St _ W w [.blk aj 149 [.slice aa ac.length ab, .int .i64 r1.2.1, .int .i64 r1.2.2]] := St.mutTail (La := []) (Lb := [_]) (hs.sel [0] (by decide)) hs1
 clear hs1
 obtain ⟨q3, hi4, hm⟩ := bind_some hm
 obtain ⟨hi4a, hi4b, hi4q⟩ := idx_some hi4
 refine sY hf hs rfl rfl rfl (Y_index rfl rfl rfl el28 ti2 (Rd.isAt (bx.at hs) (at1 (ints_at hi4q))) hi4a hi4b) ?_; clear hf; intro a hf
 refine sY hf hs rfl rfl rfl (Y_load_rd rfl rfl (fun w hs => bx.at hs) (at1 (ints_at hi4q)) ag2) ?_; clear hf; intro a hf
 refine sY hf hs rfl rfl rfl (Y_assign rfl rfl) ?_; clear hf; intro a hf
 refine wpO_nil ?_
 obtain rfl := Option.some.inj hm
 refine wpL_ret (ret_tmp rfl hf rfl ?_)
 exact ⟨_, rfl, rfl, hs⟩

set_option maxHeartbeats 2000000 in
set_option maxRecDepth 100000 in
theorem spec_l11Draw_ok (F : Nat) (b_p0 : Nat) (ad : List Int) (ae : Option Addr) (bg af : Nat) (cn : bg = ad.length) (ar : Int) (am : Int) (r : (GEventGraph) × Int × Int) (W : World) (hm : spec_l11Draw F ad ar am = some r) (aL : KR (muL [.blk b_p0 149 [.slice ae bg af, .int .i64 ar, .int .i64 am]]) W ae (bytes ad)) (hst : St (muL [.blk b_p0 149 [.slice ae bg af, .int .i64 ar, .int .i64 am]]) W W [.blk b_p0 149 [.slice ae bg af, .int .i64 ar, .int .i64 am]]) :
  Calls Try.prog 170 [.pointer (some ⟨b_p0, 0, none⟩)].toArray W fun e w' => ∃ v, e = .returned v ∧ ∃ A670, ∃ n671, ∃ c672, v = .agg #[.int .i64 r.1.Events, .slice A670 n671 c672] ∧ n671 = r.1.Places.length ∧ St (muL [.blk b_p0 149 [.slice ae bg af, .int .i64 ar, .int .i64 am]]) W w' [.row A670 n671 c672 64 4 ((recs GPlace.cells) r.1.Places), .blk b_p0 149 [.slice ae bg af, .int .i64 r.2.1, .int .i64 r.2.2]] := by
 subst cn
 unfold spec_l11Draw at hm
 refine Calls.enter (N := 108) Try.func170 rfl rfl rfl (fun a hf => ?_)
 have hs := hst
 obtain ⟨w, hw_⟩ : ∃ w, w = W := ⟨W, rfl⟩
 clear hw_ w
 refine wpL_seq <| wpL_region ?_
 refine sAlloc hf hs rfl rfl rfl rfl ti55 ?_; clear hf hs; intro a w b1 hs hf
 have hs : St _ W w [.blk b_p0 149 [.slice ae ad.length af, .int .i64 ar, .int .i64 am], .blk b1 55 [.int .i64 0, .slice none 0 0]] := hs
 refine wpO_nil <| wpL_seq <| wpL_region ?_
 refine sY hf hs rfl rfl rfl (Y_move rfl rfl) ?_; clear hf; intro a hf
 obtain ⟨r2, hc3, hm⟩ := bind_some hm
 refine sCall hf rfl rfl rfl rfl (cap := []) rfl rfl en93 (spec_l01Next_ok F b_p0 ad ae ad.length af rfl ar am 5 _ _ hc3 (aL.pass hs [0]) (hs.sel [0] (by decide)).rebase) ?_; clear hf
 rintro _ w ⟨rfl, hs1⟩ a hf
 have hs : St _ W w [_, .blk b_p0 149 [.slice ae ad.length af, .int .i64 r2.2.1, .int .i64 r2.2.2]] := St.mutTail (La := [_]) (Lb := [_]) (hs.sel [1, 0] (by decide)) hs1
 clear hs1
 refine sY hf hs rfl rfl rfl (Y_add rfl rfl rfl) ?_; clear hf; intro a hf
 refine sEmpty hf hs rfl rfl rfl rfl el53 ti64 ?_; clear hf hs; intro a w A4 hs hf
 have hs : St _ W w [_, _, .row A4 0 0 64 4 ((recs GPlace.cells) ([] : List GPlace))] := hs
 refine sY hf hs rfl rfl rfl (Y_build (parts := [(0, .tmp 9), (1, .tmp 10)]) (vs := [.int .i64 (IntKind.i64.wrap (1 + r2.1)), .slice A4 0 0]) rfl rfl (run_build (parts := [(0, .int .i64 (IntKind.i64.wrap (1 + r2.1))), (1, .slice A4 0 0)]) (cells := [.int .i64 (IntKind.i64.wrap (1 + r2.1)), .slice A4 0 0]) (places := #[(0, 1), (1, 1)]) ti55 Try.underlying55 (fun w => by simp [go_sem]) rfl)) ?_; clear hf; intro a hf
 refine sAlloc hf hs rfl rfl rfl rfl ti55 ?_; clear hf hs; intro a w b6 hs hf
 have hs : St _ W w [_, _, _, .blk b6 55 [.int .i64 0, .slice none 0 0]] := hs
 refine sStore (i := 3) (us := [.int .i64 (IntKind.i64.wrap (1 + r2.1)), .slice A4 0 0]) hf hs rfl rfl rfl rfl rfl rfl ti55 rfl rfl rfl (Nat.le_of_ble_eq_true rfl) rfl ?_; clear hs; intro w hs
 have hs : St _ W w [_, _, _, .blk b6 55 [.int .i64 (IntKind.i64.wrap (1 + r2.1)), .slice A4 0 0]] := hs
 refine wpO_nil <| wpL_seq <| wpL_seq <| wpL_region ?_
 refine sY hf hs rfl rfl rfl (Y_move rfl rfl) ?_; clear hf; intro a hf
 obtain ⟨r7, hc8, hm⟩ := bind_some hm
 refine sCall hf rfl rfl rfl rfl (cap := []) rfl rfl en93 (spec_l01Next_ok F b_p0 ad ae ad.length af rfl r2.2.1 r2.2.2 9 _ _ hc8 (aL.pass hs [1]) (hs.sel [1] (by decide)).rebase) ?_; clear hf
 rintro _ w ⟨rfl, hs1⟩ a hf
 have hs : St _ W w [_, _, _, .blk b_p0 149 [.slice ae ad.length af, .int .i64 r7.2.1, .int .i64 r7.2.2]] := St.mutTail (La := [_, _, _]) (Lb := [_]) (hs.sel [0, 2, 3, 1] (by decide)) hs1
 clear hs1
 refine sY hf hs rfl rfl rfl (Y_assign rfl rfl) ?_; clear hf; intro a hf
 refine wpO_nil ?_
 obtain ⟨r350, hl351, hm⟩ := bind_some hm
 refine wpL_block (fun a w => ∃ x343 : Int, ∃ x344 : Int, ∃ xs345 : List GPlace, ∃ A346, ∃ n347, ∃ c348, (x343, x344, xs345) = r350 ∧ n347 = xs345.length ∧ Fr a 108 [(0, .pointer (some ⟨b_p0, 0, none⟩)), (2, .pointer (some ⟨b1, 0, none⟩)), (3, .pointer (some ⟨b6, 0, none⟩))] ∧ St (muL [.blk b_p0 149 [.slice ae ad.length af, .int .i64 ar, .int .i64 am]]) W w [.blk b_p0 149 [.slice ae ad.length af, .int .i64 x343, .int .i64 x344], .blk b1 55 [.int .i64 0, .slice none 0 0], .blk b6 55 [.int .i64 (IntKind.i64.wrap (1 + r2.1)), .slice A346 n347 c348], .row A346 n347 c348 64 4 ((recs GPlace.cells) xs345)]) ?_ ?_
 ·refine wpL_loop (fun n a w => ∃ x229 : Int, ∃ x230 : Int, ∃ xs231 : List GPlace, ∃ x236 : Int, ∃ A232, ∃ n233, ∃ c234, spec_l11Draw_L1 F ad r2 n x229 x230 xs231 x236 = some r350 ∧ n233 = xs231.length ∧ Fr a 108 [(0, .pointer (some ⟨b_p0, 0, none⟩)), (2, .pointer (some ⟨b1, 0, none⟩)), (3, .pointer (some ⟨b6, 0, none⟩)), (4, .int .i64 x236)] ∧ St (muL [.blk b_p0 149 [.slice ae ad.length af, .int .i64 ar, .int .i64 am]]) W w [.blk b_p0 149 [.slice ae ad.length af, .int .i64 x229, .int .i64 x230], .blk b1 55 [.int .i64 0, .slice none 0 0], .blk b6 55 [.int .i64 (IntKind.i64.wrap (1 + r2.1)), .slice A232 n233 c234], .row A232 n233 c234 64 4 ((recs GPlace.cells) xs231)]) F ?_ ?_ ?_
  ·exact ⟨r7.2.1, r7.2.2, ([] : List GPlace), r7.1, A4, 0, 0, hl351, rfl, (FrD.pick (FrD.pick (FrD.pick (FrD.pick hf.none hf rfl) hf rfl) hf rfl) hf rfl), hs.sel [3, 0, 2, 1] (by decide)⟩
  ·rintro a w ⟨x229, x230, xs231, x236, A232, n233, c234, h0_, -, -, -⟩; simp [spec_l11Draw_L1] at h0_
  ·rintro n353 a w ⟨x229, x230, xs231, x236, A232, n233, c234, hm352, hn235, hf, hs⟩
   rw [spec_l11Draw_L1] at hm352
   refine wpL_seq <| wpL_seq <| wpL_region ?_
   refine sY hf hs rfl rfl rfl (Y_move rfl rfl) ?_; clear hf; intro a hf
   refine sY hf hs rfl rfl rfl (Y_gtr rfl rfl rfl) ?_; clear hf; intro a hf
   refine wpO_nil ?_
   refine wpL_cond hf rfl (fun hb354 => ?_) (fun hb354 => ?_)
   ·have hm352 := bif_t hm352 hb354
    refine wpL_skip <| wpL_seq <| wpL_block0 <| wpL_seq ?_
    obtain ⟨r390, hj391, hm352⟩ := bind_some hm352
    refine wpL_cut (fun a w => ∃ x384 : Int, ∃ x385 : Int, ∃ x387 : Int, ∃ x388 : Int, ∃ x389 : Int, ∃ b386, (x384, x385, x387, x388, x389) = r390 ∧ Fr a 108 [(0, .pointer (some ⟨b_p0, 0, none⟩)), (2, .pointer (some ⟨b1, 0, none⟩)), (3, .pointer (some ⟨b6, 0, none⟩)), (4, .int .i64 x236), (5, .pointer (some ⟨b386, 0, none⟩))] ∧ St (muL [.blk b_p0 149 [.slice ae ad.length af, .int .i64 ar, .int .i64 am]]) W w [.blk b_p0 149 [.slice ae ad.length af, .int .i64 x384, .int .i64 x385], .blk b1 55 [.int .i64 0, .slice none 0 0], .blk b6 55 [.int .i64 (IntKind.i64.wrap (1 + r2.1)), .slice A232 n233 c234], .row A232 n233 c234 64 4 ((recs GPlace.cells) xs231), .blk b386 64 [.int .i64 x387, .int .i64 x388, .int .i64 x389, .int .i64 0]]) ?_ ?_
    ·refine wpL_drawM [.blk b1 55 [.int .i64 0, .slice none 0 0], .blk b6 55 [.int .i64 (IntKind.i64.wrap (1 + r2.1)), .slice A232 n233 c234], .row A232 n233 c234 64 4 ((recs GPlace.cells) xs231)] [7, 9, 12] (by kernel_rfl) hs ?_; clear hs; intro w hs
     have hs0 : St _ W w [_, _, _] := hs.sel [1, 2, 3] (by decide)
     refine mYp (i := 0) rfl (by kernel_rfl) (by kernel_rfl) hf rfl rfl rfl (fun _ => Y_move rfl rfl) ?_; clear hf; intro a hf
     refine mYp (i := 1) rfl (by kernel_rfl) (by kernel_rfl) hf rfl rfl rfl (fun _ => Y_fieldAddr rfl rfl fo55_0) ?_; clear hf; intro a hf
     refine mY (i := 2) [[3], [3, 7], []] rfl (by kernel_rfl) (by kernel_rfl) hf hs0 rfl rfl rfl (Y_load_blk rfl rfl (i := 1) rfl rfl ag2) ?_; clear hf; intro a hf
     refine mYp (i := 4) rfl (by kernel_rfl) (by kernel_rfl) hf rfl rfl rfl (fun _ => Y_move rfl rfl) ?_; clear hf; intro a hf
     refine mYp (i := 5) rfl (by kernel_rfl) (by kernel_rfl) hf rfl rfl rfl (fun _ => Y_fieldAddr rfl rfl fo55_0) ?_; clear hf; intro a hf
     refine mY (i := 6) [[], [7], []] rfl (by kernel_rfl) (by kernel_rfl) hf hs0 rfl rfl rfl (Y_load_blk rfl rfl (i := 1) rfl rfl ag2) ?_; clear hf; intro a hf
     refine mYp (i := 8) rfl (by kernel_rfl) (by kernel_rfl) hf rfl rfl rfl (fun _ => Y_move rfl rfl) ?_; clear hf; intro a hf
     refine mRun2 (i := 3) (j := 11) rfl rfl (by kernel_rfl) ?_ ?_
     ·obtain ⟨r399, hc400, hj391⟩ := bind_some hj391
      refine sCall hf rfl rfl rfl rfl (cap := []) rfl rfl en93 (spec_l01Next_ok F b_p0 ad ae ad.length af rfl x229 x230 (IntKind.i64.wrap (1 + r2.1)) _ _ hc400 (aL.pass hs [0]) (hs.sel [0] (by decide)).rebase) ?_; clear hf
      rintro _ w ⟨rfl, hs1⟩ a hf
      have hs : St _ W w [_, _, _, .blk b_p0 149 [.slice ae ad.length af, .int .i64 r399.2.1, .int .i64 r399.2.2]] := St.mutTail (La := [_, _, _]) (Lb := [_]) (hs.sel [1, 2, 3, 0] (by decide)) hs1
      clear hs1
      have hs0 : St _ W w [_, _, _] := hs.sel [0, 1, 2] (by decide)
      refine wpO_nil ⟨Or.inr (fun _ => hs0), ?_⟩
      refine mRun2 (i := 7) (j := 11) rfl rfl (by kernel_rfl) ?_ ?_
      ·obtain ⟨r401, hc402, hj391⟩ := bind_some hj391
       refine sCall hf rfl rfl rfl rfl (cap := []) rfl rfl en93 (spec_l01Next_ok F b_p0 ad ae ad.length af rfl r399.2.1 r399.2.2 (IntKind.i64.wrap (1 + r2.1)) _ _ hc402 (aL.pass hs [3]) (hs.sel [3] (by decide)).rebase) ?_; clear hf
       rintro _ w ⟨rfl, hs1⟩ a hf
       have hs : St _ W w [_, _, _, .blk b_p0 149 [.slice ae ad.length af, .int .i64 r401.2.1, .int .i64 r401.2.2]] := St.mutTail (La := [_, _, _]) (Lb := [_]) (hs.sel [0, 1, 2, 3] (by decide)) hs1
       clear hs1
       refine wpO_nil ⟨Or.inl (by decide), ?_⟩
       refine mRun2 (i := 9) (j := 11) rfl rfl (by kernel_rfl) ?_ ?_
       ·obtain ⟨r403, hc404, hj391⟩ := bind_some hj391
        refine sCall hf rfl rfl rfl rfl (cap := []) rfl rfl en93 (spec_l01Next_ok F b_p0 ad ae ad.length af rfl r401.2.1 r401.2.2 12 _ _ hc404 (aL.pass hs [3]) (hs.sel [3] (by decide)).rebase) ?_; clear hf
        rintro _ w ⟨rfl, hs1⟩ a hf
        have hs : St _ W w [_, _, _, .blk b_p0 149 [.slice ae ad.length af, .int .i64 r403.2.1, .int .i64 r403.2.2]] := St.mutTail (La := [_, _, _]) (Lb := [_]) (hs.sel [0, 1, 2, 3] (by decide)) hs1
        clear hs1
        refine wpO_nil ⟨Or.inl (by decide), ?_⟩
        refine mYp (i := 10) rfl (by kernel_rfl) (by kernel_rfl) hf rfl rfl rfl (fun _ => Y_build (parts := [(0, .tmp 21), (1, .tmp 25), (2, .tmp 27)]) (vs := [.int .i64 r399.1, .int .i64 r401.1, .int .i64 r403.1]) rfl rfl (run_build (parts := [(0, .int .i64 r399.1), (1, .int .i64 r401.1), (2, .int .i64 r403.1)]) (cells := [.int .i64 r399.1, .int .i64 r401.1, .int .i64 r403.1, .int .i64 0]) (places := #[(0, 1), (1, 1), (2, 1), (3, 1)]) ti64 Try.underlying64 (fun w => by simp [go_sem]) rfl)) ?_; clear hf; intro a hf
        refine mRun (i := 11) rfl (by kernel_rfl) ?_
        refine sAlloc hf hs rfl rfl rfl rfl ti64 ?_; clear hf hs; intro a w b405 hs hf
        have hs : St _ W w [_, _, _, _, .blk b405 64 [.int .i64 0, .int .i64 0, .int .i64 0, .int .i64 0]] := hs
        have hs0 : St _ W w [_, _, _] := hs.sel [0, 1, 2] (by decide)
        refine wpO_nil ⟨Or.inr (fun _ => hs0), ?_⟩
        refine mRun (i := 12) rfl (by kernel_rfl) ?_
        refine sStore (i := 4) (us := [.int .i64 r399.1, .int .i64 r401.1, .int .i64 r403.1, .int .i64 0]) hf hs rfl rfl rfl rfl rfl rfl ti64 rfl rfl rfl (Nat.le_of_ble_eq_true rfl) rfl ?_; clear hs; intro w hs
        have hs : St _ W w [_, _, _, _, .blk b405 64 [.int .i64 r399.1, .int .i64 r401.1, .int .i64 r403.1, .int .i64 0]] := hs
        refine wpO_nil ⟨Or.inl (by decide), ?_⟩
        refine mDone (by kernel_rfl) ?_
        clear hs0
        refine wpL_nil (then_normal ?_)
        exact ⟨r403.2.1, r403.2.2, r399.1, r401.1, r403.1, b405, Option.some.inj hj391, (FrD.pick (FrD.pick (FrD.pick (FrD.pick (FrD.pick hf.none hf rfl) hf rfl) hf rfl) hf rfl) hf rfl), hs.sel [3, 0, 1, 2, 4] (by decide)⟩
       ·refine sAlloc hf hs rfl rfl rfl rfl ti64 ?_; clear hf hs; intro a w b406 hs hf
        have hs : St _ W w [_, _, _, _, .blk b406 64 [.int .i64 0, .int .i64 0, .int .i64 0, .int .i64 0]] := hs
        have hs0 : St _ W w [_, _, _] := hs.sel [0, 1, 2] (by decide)
        refine wpO_nil ⟨Or.inr (fun _ => hs0), ?_⟩
        refine mRun (i := 9) rfl (by kernel_rfl) ?_
        obtain ⟨r407, hc408, hj391⟩ := bind_some hj391
        refine sCall hf rfl rfl rfl rfl (cap := []) rfl rfl en93 (spec_l01Next_ok F b_p0 ad ae ad.length af rfl r401.2.1 r401.2.2 12 _ _ hc408 (aL.pass hs [3]) (hs.sel [3] (by decide)).rebase) ?_; clear hf
        rintro _ w ⟨rfl, hs1⟩ a hf
        have hs : St _ W w [_, _, _, _, .blk b_p0 149 [.slice ae ad.length af, .int .i64 r407.2.1, .int .i64 r407.2.2]] := St.mutTail (La := [_, _, _, _]) (Lb := [_]) (hs.sel [0, 1, 2, 4, 3] (by decide)) hs1
        clear hs1
        refine wpO_nil ⟨Or.inl (by decide), ?_⟩
        refine mYp (i := 10) rfl (by kernel_rfl) (by kernel_rfl) hf rfl rfl rfl (fun _ => Y_build (parts := [(0, .tmp 21), (1, .tmp 25), (2, .tmp 27)]) (vs := [.int .i64 r399.1, .int .i64 r401.1, .int .i64 r407.1]) rfl rfl (run_build (parts := [(0, .int .i64 r399.1), (1, .int .i64 r401.1), (2, .int .i64 r407.1)]) (cells := [.int .i64 r399.1, .int .i64 r401.1, .int .i64 r407.1, .int .i64 0]) (places := #[(0, 1), (1, 1), (2, 1), (3, 1)]) ti64 Try.underlying64 (fun w => by simp [go_sem]) rfl)) ?_; clear hf; intro a hf
        refine mRun (i := 12) rfl (by kernel_rfl) ?_
        refine sStore (i := 3) (us := [.int .i64 r399.1, .int .i64 r401.1, .int .i64 r407.1, .int .i64 0]) hf hs rfl rfl rfl rfl rfl rfl ti64 rfl rfl rfl (Nat.le_of_ble_eq_true rfl) rfl ?_; clear hs; intro w hs
        have hs : St _ W w [_, _, _, .blk b406 64 [.int .i64 r399.1, .int .i64 r401.1, .int .i64 r407.1, .int .i64 0], _] := hs
        refine wpO_nil ⟨Or.inl (by decide), ?_⟩
        refine mDone (by kernel_rfl) ?_
        clear hs0
        refine wpL_nil (then_normal ?_)
        exact ⟨r407.2.1, r407.2.2, r399.1, r401.1, r407.1, b406, Option.some.inj hj391, (FrD.pick (FrD.pick (FrD.pick (FrD.pick (FrD.pick hf.none hf rfl) hf rfl) hf rfl) hf rfl) hf rfl), hs.sel [4, 0, 1, 2, 3] (by decide)⟩
      ·refine sAlloc hf hs rfl rfl rfl rfl ti64 ?_; clear hf hs; intro a w b409 hs hf
       have hs : St _ W w [_, _, _, .blk b_p0 149 [.slice ae ad.length af, .int .i64 r399.2.1, .int .i64 r399.2.2], .blk b409 64 [.int .i64 0, .int .i64 0, .int .i64 0, .int .i64 0]] := hs
       have hs0 : St _ W w [_, _, _] := hs.sel [0, 1, 2] (by decide)
       refine wpO_nil ⟨Or.inr (fun _ => hs0), ?_⟩
       refine mRun (i := 7) rfl (by kernel_rfl) ?_
       obtain ⟨r410, hc411, hj391⟩ := bind_some hj391
       refine sCall hf rfl rfl rfl rfl (cap := []) rfl rfl en93 (spec_l01Next_ok F b_p0 ad ae ad.length af rfl r399.2.1 r399.2.2 (IntKind.i64.wrap (1 + r2.1)) _ _ hc411 (aL.pass hs [3]) (hs.sel [3] (by decide)).rebase) ?_; clear hf
       rintro _ w ⟨rfl, hs1⟩ a hf
       have hs : St _ W w [_, _, _, _, .blk b_p0 149 [.slice ae ad.length af, .int .i64 r410.2.1, .int .i64 r410.2.2]] := St.mutTail (La := [_, _, _, _]) (Lb := [_]) (hs.sel [0, 1, 2, 4, 3] (by decide)) hs1
       clear hs1
       refine wpO_nil ⟨Or.inl (by decide), ?_⟩
       refine mRun (i := 9) rfl (by kernel_rfl) ?_
       obtain ⟨r412, hc413, hj391⟩ := bind_some hj391
       refine sCall hf rfl rfl rfl rfl (cap := []) rfl rfl en93 (spec_l01Next_ok F b_p0 ad ae ad.length af rfl r410.2.1 r410.2.2 12 _ _ hc413 (aL.pass hs [4]) (hs.sel [4] (by decide)).rebase) ?_; clear hf
       rintro _ w ⟨rfl, hs1⟩ a hf
       have hs : St _ W w [_, _, _, _, .blk b_p0 149 [.slice ae ad.length af, .int .i64 r412.2.1, .int .i64 r412.2.2]] := St.mutTail (La := [_, _, _, _]) (Lb := [_]) (hs.sel [0, 1, 2, 3, 4] (by decide)) hs1
       clear hs1
       refine wpO_nil ⟨Or.inl (by decide), ?_⟩
       refine mYp (i := 10) rfl (by kernel_rfl) (by kernel_rfl) hf rfl rfl rfl (fun _ => Y_build (parts := [(0, .tmp 21), (1, .tmp 25), (2, .tmp 27)]) (vs := [.int .i64 r399.1, .int .i64 r410.1, .int .i64 r412.1]) rfl rfl (run_build (parts := [(0, .int .i64 r399.1), (1, .int .i64 r410.1), (2, .int .i64 r412.1)]) (cells := [.int .i64 r399.1, .int .i64 r410.1, .int .i64 r412.1, .int .i64 0]) (places := #[(0, 1), (1, 1), (2, 1), (3, 1)]) ti64 Try.underlying64 (fun w => by simp [go_sem]) rfl)) ?_; clear hf; intro a hf
       refine mRun (i := 12) rfl (by kernel_rfl) ?_
       refine sStore (i := 3) (us := [.int .i64 r399.1, .int .i64 r410.1, .int .i64 r412.1, .int .i64 0]) hf hs rfl rfl rfl rfl rfl rfl ti64 rfl rfl rfl (Nat.le_of_ble_eq_true rfl) rfl ?_; clear hs; intro w hs
       have hs : St _ W w [_, _, _, .blk b409 64 [.int .i64 r399.1, .int .i64 r410.1, .int .i64 r412.1, .int .i64 0], _] := hs
       refine wpO_nil ⟨Or.inl (by decide), ?_⟩
       refine mDone (by kernel_rfl) ?_
       clear hs0
       refine wpL_nil (then_normal ?_)
       exact ⟨r412.2.1, r412.2.2, r399.1, r410.1, r412.1, b409, Option.some.inj hj391, (FrD.pick (FrD.pick (FrD.pick (FrD.pick (FrD.pick hf.none hf rfl) hf rfl) hf rfl) hf rfl) hf rfl), hs.sel [4, 0, 1, 2, 3] (by decide)⟩
     ·refine sAlloc hf hs rfl rfl rfl rfl ti64 ?_; clear hf hs; intro a w b414 hs hf
      have hs : St _ W w [.blk b_p0 149 [.slice ae ad.length af, .int .i64 x229, .int .i64 x230], _, _, _, .blk b414 64 [.int .i64 0, .int .i64 0, .int .i64 0, .int .i64 0]] := hs
      have hs0 : St _ W w [_, _, _] := hs.sel [1, 2, 3] (by decide)
      refine wpO_nil ⟨Or.inr (fun _ => hs0), ?_⟩
      refine mRun (i := 3) rfl (by kernel_rfl) ?_
      obtain ⟨r415, hc416, hj391⟩ := bind_some hj391
      refine sCall hf rfl rfl rfl rfl (cap := []) rfl rfl en93 (spec_l01Next_ok F b_p0 ad ae ad.length af rfl x229 x230 (IntKind.i64.wrap (1 + r2.1)) _ _ hc416 (aL.pass hs [0]) (hs.sel [0] (by decide)).rebase) ?_; clear hf
      rintro _ w ⟨rfl, hs1⟩ a hf
      have hs : St _ W w [_, _, _, _, .blk b_p0 149 [.slice ae ad.length af, .int .i64 r415.2.1, .int .i64 r415.2.2]] := St.mutTail (La := [_, _, _, _]) (Lb := [_]) (hs.sel [1, 2, 3, 4, 0] (by decide)) hs1
      clear hs1
      have hs0 : St _ W w [_, _, _] := hs.sel [0, 1, 2] (by decide)
      refine wpO_nil ⟨Or.inr (fun _ => hs0), ?_⟩
      refine mRun (i := 7) rfl (by kernel_rfl) ?_
      obtain ⟨r417, hc418, hj391⟩ := bind_some hj391
      refine sCall hf rfl rfl rfl rfl (cap := []) rfl rfl en93 (spec_l01Next_ok F b_p0 ad ae ad.length af rfl r415.2.1 r415.2.2 (IntKind.i64.wrap (1 + r2.1)) _ _ hc418 (aL.pass hs [4]) (hs.sel [4] (by decide)).rebase) ?_; clear hf
      rintro _ w ⟨rfl, hs1⟩ a hf
      have hs : St _ W w [_, _, _, _, .blk b_p0 149 [.slice ae ad.length af, .int .i64 r417.2.1, .int .i64 r417.2.2]] := St.mutTail (La := [_, _, _, _]) (Lb := [_]) (hs.sel [0, 1, 2, 3, 4] (by decide)) hs1
      clear hs1
      refine wpO_nil ⟨Or.inl (by decide), ?_⟩
      refine mRun (i := 9) rfl (by kernel_rfl) ?_
      obtain ⟨r419, hc420, hj391⟩ := bind_some hj391
      refine sCall hf rfl rfl rfl rfl (cap := []) rfl rfl en93 (spec_l01Next_ok F b_p0 ad ae ad.length af rfl r417.2.1 r417.2.2 12 _ _ hc420 (aL.pass hs [4]) (hs.sel [4] (by decide)).rebase) ?_; clear hf
      rintro _ w ⟨rfl, hs1⟩ a hf
      have hs : St _ W w [_, _, _, _, .blk b_p0 149 [.slice ae ad.length af, .int .i64 r419.2.1, .int .i64 r419.2.2]] := St.mutTail (La := [_, _, _, _]) (Lb := [_]) (hs.sel [0, 1, 2, 3, 4] (by decide)) hs1
      clear hs1
      refine wpO_nil ⟨Or.inl (by decide), ?_⟩
      refine mYp (i := 10) rfl (by kernel_rfl) (by kernel_rfl) hf rfl rfl rfl (fun _ => Y_build (parts := [(0, .tmp 21), (1, .tmp 25), (2, .tmp 27)]) (vs := [.int .i64 r415.1, .int .i64 r417.1, .int .i64 r419.1]) rfl rfl (run_build (parts := [(0, .int .i64 r415.1), (1, .int .i64 r417.1), (2, .int .i64 r419.1)]) (cells := [.int .i64 r415.1, .int .i64 r417.1, .int .i64 r419.1, .int .i64 0]) (places := #[(0, 1), (1, 1), (2, 1), (3, 1)]) ti64 Try.underlying64 (fun w => by simp [go_sem]) rfl)) ?_; clear hf; intro a hf
      refine mRun (i := 12) rfl (by kernel_rfl) ?_
      refine sStore (i := 3) (us := [.int .i64 r415.1, .int .i64 r417.1, .int .i64 r419.1, .int .i64 0]) hf hs rfl rfl rfl rfl rfl rfl ti64 rfl rfl rfl (Nat.le_of_ble_eq_true rfl) rfl ?_; clear hs; intro w hs
      have hs : St _ W w [_, _, _, .blk b414 64 [.int .i64 r415.1, .int .i64 r417.1, .int .i64 r419.1, .int .i64 0], _] := hs
      refine wpO_nil ⟨Or.inl (by decide), ?_⟩
      refine mDone (by kernel_rfl) ?_
      clear hs0
      refine wpL_nil (then_normal ?_)
      exact ⟨r419.2.1, r419.2.2, r415.1, r417.1, r419.1, b414, Option.some.inj hj391, (FrD.pick (FrD.pick (FrD.pick (FrD.pick (FrD.pick hf.none hf rfl) hf rfl) hf rfl) hf rfl) hf rfl), hs.sel [4, 0, 1, 2, 3] (by decide)⟩
    ·rintro a w ⟨x384, x385, x387, x388, x389, b386, hr_, hf, hs⟩
     subst hr_
     try dsimp only at hm352
     refine wpL_seq <| wpL_seq ?_
     obtain ⟨r427, hj428, hm352⟩ := bind_some hm352
     refine wpL_cut (fun a w => ∃ x424 : Int, ∃ x425 : Int, ∃ b426 : Bool, (x424, x425, b426) = r427 ∧ Fr a 108 [(0, .pointer (some ⟨b_p0, 0, none⟩)), (2, .pointer (some ⟨b1, 0, none⟩)), (3, .pointer (some ⟨b6, 0, none⟩)), (4, .int .i64 x236), (5, .pointer (some ⟨b386, 0, none⟩)), (38, .bool b426)] ∧ St (muL [.blk b_p0 149 [.slice ae ad.length af, .int .i64 ar, .int .i64 am]]) W w [.blk b_p0 149 [.slice ae ad.length af, .int .i64 x424, .int .i64 x425], .blk b1 55 [.int .i64 0, .slice none 0 0], .blk b6 55 [.int .i64 (IntKind.i64.wrap (1 + r2.1)), .slice A232 n233 c234], .row A232 n233 c234 64 4 ((recs GPlace.cells) xs231), .blk b386 64 [.int .i64 x387, .int .i64 x388, .int .i64 x389, .int .i64 0]]) ?_ ?_
     ·refine wpL_region ?_
      refine sY hf hs rfl rfl rfl (Y_fieldAddr rfl rfl fo64_0) ?_; clear hf; intro a hf
      refine sY hf hs rfl rfl rfl (Y_load_blk rfl rfl (i := 4) rfl rfl ag2) ?_; clear hf; intro a hf
      refine sY hf hs rfl rfl rfl (Y_fieldAddr rfl rfl fo64_1) ?_; clear hf; intro a hf
      refine sY hf hs rfl rfl rfl (Y_load_blk rfl rfl (i := 4) rfl rfl ag2) ?_; clear hf; intro a hf
      refine sY hf hs rfl rfl rfl (Y_geq rfl rfl rfl) ?_; clear hf; intro a hf
      refine sY hf hs rfl rfl rfl (Y_move rfl rfl) ?_; clear hf; intro a hf
      refine bsplit (decide (x388 ≤ x387)) (fun hb429 => ?_) (fun hb429 => ?_)
      ·have hj428 := bif_t hj428 hb429
       refine sNo hf rfl rfl rfl (congrArg (fun b => some (Value.bool b)) hb429) rfl rfl rfl ?_; clear hf; intro a hf
       refine sNo hf rfl rfl rfl (congrArg (fun b => some (Value.bool b)) hb429) rfl rfl rfl ?_; clear hf; intro a hf
       refine sNo hf rfl rfl rfl (congrArg (fun b => some (Value.bool b)) hb429) rfl rfl rfl ?_; clear hf; intro a hf
       refine sY hf hs rfl rfl rfl (Y_pickT rfl (congrArg (fun b => some (Value.bool b)) hb429) rfl) ?_; clear hf; intro a hf
       refine wpO_nil ?_
       refine wpL_nil (then_normal ?_)
       exact ⟨x384, x385, true, Option.some.inj hj428, (FrD.pick (FrD.pick (FrD.pick (FrD.pick (FrD.pick (FrD.pick hf.none hf rfl) hf rfl) hf rfl) hf rfl) hf rfl) hf rfl), hs⟩
      ·have hj428 := bif_f hj428 hb429
       refine sYg hf hs rfl rfl rfl (congrArg (fun b => some (Value.bool b)) hb429) rfl rfl rfl (Y_move rfl rfl) ?_; clear hf; intro a hf
       obtain ⟨r430, hc431, hj428⟩ := bind_some hj428
       refine sCallg hf rfl rfl rfl (congrArg (fun b => some (Value.bool b)) hb429) rfl rfl rfl rfl (cap := []) rfl rfl en93 (spec_l01Next_ok F b_p0 ad ae ad.length af rfl x384 x385 4 _ _ hc431 (aL.pass hs [0]) (hs.sel [0] (by decide)).rebase) ?_; clear hf
       rintro _ w ⟨rfl, hs1⟩ a hf
       have hs : St _ W w [_, _, _, _, .blk b_p0 149 [.slice ae ad.length af, .int .i64 r430.2.1, .int .i64 r430.2.2]] := St.mutTail (La := [_, _, _, _]) (Lb := [_]) (hs.sel [1, 2, 3, 4, 0] (by decide)) hs1
       clear hs1
       refine sYg hf hs rfl rfl rfl (congrArg (fun b => some (Value.bool b)) hb429) rfl rfl rfl (Y_eql rfl rfl rfl) ?_; clear hf; intro a hf
       refine sY hf hs rfl rfl rfl (Y_pickF rfl (congrArg (fun b => some (Value.bool b)) hb429) rfl) ?_; clear hf; intro a hf
       refine wpO_nil ?_
       refine wpL_nil (then_normal ?_)
       exact ⟨r430.2.1, r430.2.2, (r430.1 == 0), Option.some.inj hj428, (FrD.pick (FrD.pick (FrD.pick (FrD.pick (FrD.pick (FrD.pick hf.none hf rfl) hf rfl) hf rfl) hf rfl) hf rfl) hf rfl), hs.sel [4, 0, 1, 2, 3] (by decide)⟩
     ·rintro a w ⟨x424, x425, b426, hr_, hf, hs⟩
      subst hr_
      try dsimp only at hm352
      obtain ⟨r440, hj441, hm352⟩ := bind_some hm352
      refine wpL_cut (fun a w => ∃ x437 : Int, ∃ x438 : Int, ∃ x439 : Int, (x437, x438, x439) = r440 ∧ Fr a 108 [(0, .pointer (some ⟨b_p0, 0, none⟩)), (2, .pointer (some ⟨b1, 0, none⟩)), (3, .pointer (some ⟨b6, 0, none⟩)), (4, .int .i64 x236), (5, .pointer (some ⟨b386, 0, none⟩))] ∧ St (muL [.blk b_p0 149 [.slice ae ad.length af, .int .i64 ar, .int .i64 am]]) W w [.blk b_p0 149 [.slice ae ad.length af, .int .i64 x437, .int .i64 x438], .blk b1 55 [.int .i64 0, .slice none 0 0], .blk b6 55 [.int .i64 (IntKind.i64.wrap (1 + r2.1)), .slice A232 n233 c234], .row A232 n233 c234 64 4 ((recs GPlace.cells) xs231), .blk b386 64 [.int .i64 x387, .int .i64 x388, .int .i64 x389, .int .i64 x439]]) ?_ ?_
      ·refine wpL_cond hf rfl (fun hb442 => ?_) (fun hb442 => ?_)
       ·have hj441 := bif_t hj441 hb442
        refine wpL_region ?_
        refine sY hf hs rfl rfl rfl (Y_move rfl rfl) ?_; clear hf; intro a hf
        obtain ⟨r443, hc444, hj441⟩ := bind_some hj441
        refine sCall hf rfl rfl rfl rfl (cap := []) rfl rfl en93 (spec_l01Next_ok F b_p0 ad ae ad.length af rfl x424 x425 2 _ _ hc444 (aL.pass hs [0]) (hs.sel [0] (by decide)).rebase) ?_; clear hf
        rintro _ w ⟨rfl, hs1⟩ a hf
        have hs : St _ W w [_, _, _, _, .blk b_p0 149 [.slice ae ad.length af, .int .i64 r443.2.1, .int .i64 r443.2.2]] := St.mutTail (La := [_, _, _, _]) (Lb := [_]) (hs.sel [1, 2, 3, 4, 0] (by decide)) hs1
        clear hs1
        refine sY hf hs rfl rfl rfl (Y_move rfl rfl) ?_; clear hf; intro a hf
        obtain ⟨r445, hc446, hj441⟩ := bind_some hj441
        refine sCall hf rfl rfl rfl rfl (cap := []) rfl rfl en93 (spec_l01Next_ok F b_p0 ad ae ad.length af rfl r443.2.1 r443.2.2 3 _ _ hc446 (aL.pass hs [4]) (hs.sel [4] (by decide)).rebase) ?_; clear hf
        rintro _ w ⟨rfl, hs1⟩ a hf
        have hs : St _ W w [_, _, _, _, .blk b_p0 149 [.slice ae ad.length af, .int .i64 r445.2.1, .int .i64 r445.2.2]] := St.mutTail (La := [_, _, _, _]) (Lb := [_]) (hs.sel [0, 1, 2, 3, 4] (by decide)) hs1
        clear hs1
        refine sY hf hs rfl rfl rfl (Y_mul rfl rfl rfl) ?_; clear hf; intro a hf
        refine sY hf hs rfl rfl rfl (Y_add rfl rfl rfl) ?_; clear hf; intro a hf
        refine sY hf hs rfl rfl rfl (Y_fieldAddr rfl rfl fo64_3) ?_; clear hf; intro a hf
        refine sStore (i := 3) (us := [.int .i64 (IntKind.i64.wrap (1 + (IntKind.i64.wrap (r443.1 * r445.1))))]) hf hs rfl rfl rfl rfl rfl rfl ti2 rfl rfl rfl (Nat.le_of_ble_eq_true rfl) rfl ?_; clear hs; intro w hs
        have hs : St _ W w [_, _, _, .blk b386 64 [.int .i64 x387, .int .i64 x388, .int .i64 x389, .int .i64 (IntKind.i64.wrap (1 + (IntKind.i64.wrap (r443.1 * r445.1))))], _] := hs
        refine wpO_nil ?_
        refine wpL_nil (then_normal ?_)
        exact ⟨r445.2.1, r445.2.2, (IntKind.i64.wrap (1 + (IntKind.i64.wrap (r443.1 * r445.1)))), Option.some.inj hj441, (FrD.pick (FrD.pick (FrD.pick (FrD.pick (FrD.pick hf.none hf rfl) hf rfl) hf rfl) hf rfl) hf rfl), hs.sel [4, 0, 1, 2, 3] (by decide)⟩
       ·have hj441 := bif_f hj441 hb442
        refine wpL_skip ?_
        refine wpL_nil (then_normal ?_)
        exact ⟨x424, x425, 0, Option.some.inj hj441, (FrD.pick (FrD.pick (FrD.pick (FrD.pick (FrD.pick hf.none hf rfl) hf rfl) hf rfl) hf rfl) hf rfl), hs⟩
      ·rintro a w ⟨x437, x438, x439, hr_, hf, hs⟩
       subst hr_
       try dsimp only at hm352
       refine wpL_seq <| wpL_seq <| wpL_region ?_
       refine sY hf hs rfl rfl rfl (Y_move rfl rfl) ?_; clear hf; intro a hf
       obtain ⟨r447, hc448, hm352⟩ := bind_some hm352
       refine sCall hf rfl rfl rfl rfl (cap := []) rfl rfl en93 (spec_l01Next_ok F b_p0 ad ae ad.length af rfl x437 x438 30 _ _ hc448 (aL.pass hs [0]) (hs.sel [0] (by decide)).rebase) ?_; clear hf
       rintro _ w ⟨rfl, hs1⟩ a hf
       have hs : St _ W w [_, _, _, _, .blk b_p0 149 [.slice ae ad.length af, .int .i64 r447.2.1, .int .i64 r447.2.2]] := St.mutTail (La := [_, _, _, _]) (Lb := [_]) (hs.sel [1, 2, 3, 4, 0] (by decide)) hs1
       clear hs1
       refine sY hf hs rfl rfl rfl (Y_eql rfl rfl rfl) ?_; clear hf; intro a hf
       refine wpO_nil ?_
       obtain ⟨r451, hj452, hm352⟩ := bind_some hm352
       refine wpL_cut (fun a w => ∃ x450 : Int, x450 = r451 ∧ Fr a 108 [(0, .pointer (some ⟨b_p0, 0, none⟩)), (2, .pointer (some ⟨b1, 0, none⟩)), (3, .pointer (some ⟨b6, 0, none⟩)), (4, .int .i64 x236), (5, .pointer (some ⟨b386, 0, none⟩))] ∧ St (muL [.blk b_p0 149 [.slice ae ad.length af, .int .i64 ar, .int .i64 am]]) W w [.blk b_p0 149 [.slice ae ad.length af, .int .i64 r447.2.1, .int .i64 r447.2.2], .blk b1 55 [.int .i64 0, .slice none 0 0], .blk b6 55 [.int .i64 (IntKind.i64.wrap (1 + r2.1)), .slice A232 n233 c234], .row A232 n233 c234 64 4 ((recs GPlace.cells) xs231), .blk b386 64 [.int .i64 x387, .int .i64 x388, .int .i64 x389, .int .i64 x450]]) ?_ ?_
       ·refine wpL_cond hf rfl (fun hb453 => ?_) (fun hb453 => ?_)
        ·have hj452 := bif_t hj452 hb453
         refine wpL_region ?_
         refine sY hf hs rfl rfl rfl (Y_fieldAddr rfl rfl fo64_3) ?_; clear hf; intro a hf
         refine sStore (i := 3) (us := [.int .i64 0]) hf hs rfl rfl rfl rfl rfl rfl ti2 rfl rfl rfl (Nat.le_of_ble_eq_true rfl) rfl ?_; clear hs; intro w hs
         have hs : St _ W w [_, _, _, _, _] := hs
         refine wpO_nil ?_
         refine wpL_nil (then_normal ?_)
         exact ⟨0, Option.some.inj hj452, (FrD.pick (FrD.pick (FrD.pick (FrD.pick (FrD.pick hf.none hf rfl) hf rfl) hf rfl) hf rfl) hf rfl), hs.sel [4, 0, 1, 2, 3] (by decide)⟩
        ·have hj452 := bif_f hj452 hb453
         refine wpL_skip ?_
         refine wpL_nil (then_normal ?_)
         exact ⟨x439, Option.some.inj hj452, (FrD.pick (FrD.pick (FrD.pick (FrD.pick (FrD.pick hf.none hf rfl) hf rfl) hf rfl) hf rfl) hf rfl), hs.sel [4, 0, 1, 2, 3] (by decide)⟩
       ·rintro a w ⟨x450, hr_, hf, hs⟩
        subst hr_
        try dsimp only at hm352
        refine wpL_region ?_
        refine sY hf hs rfl rfl rfl (Y_fieldAddr rfl rfl fo55_1) ?_; clear hf; intro a hf
        refine sY hf hs rfl rfl rfl (Y_load_blk rfl rfl (i := 2) rfl rfl ag53) ?_; clear hf; intro a hf
        refine sY hf hs rfl rfl rfl (Y_load_blkS rfl rfl (i := 4) rfl ag64 ti64 rfl) ?_; clear hf; intro a hf
        refine sBuildSlice (parts := [(0, .tmp 52)]) (vs := [.agg #[.int .i64 x387, .int .i64 x388, .int .i64 x389, .int .i64 x450]]) (cells := [.int .i64 x387, .int .i64 x388, .int .i64 x389, .int .i64 x450]) hf hs rfl rfl rfl rfl rfl el53 ti64 rfl rfl rfl rfl ?_; clear hf hs; intro a w A454 hs hA455 hf
        have hs : St _ W w [_, _, _, _, _, .row A454 1 1 64 4 ((recs GPlace.cells) ([(GPlace.mk x387 x388 x389 x450)]))] := hs
        obtain ⟨xs458, ha459, hm352⟩ := bind_some hm352
        refine sAppendL (i := 3) (xs := xs231) (ys := [(GPlace.mk x387 x388 x389 x450)]) (enc := (recs GPlace.cells)) hf hs rfl rfl rfl rfl rfl rfl hn235 rfl rfl ha459 el53 ti64 rfl rfl rfl (hs.rd (i := 5) rfl) (Nat.succ_pos _) (recs_length GPlace.len) (recs_append GPlace.cells) (recs_one GPlace.one) ?_; clear hf hs; intro a w A456 c457 hs hf
        have hs : St _ W w [_, _, _, .row A456 xs458.length c457 64 4 ((recs GPlace.cells) xs458), _, _] := hs
        refine sY hf hs rfl rfl rfl (Y_fieldAddr rfl rfl fo55_1) ?_; clear hf; intro a hf
        refine sStore (i := 2) (us := [.slice A456 xs458.length c457]) hf hs rfl rfl rfl rfl rfl rfl ti53 rfl rfl rfl (Nat.le_of_ble_eq_true rfl) rfl ?_; clear hs; intro w hs
        have hs : St _ W w [_, _, .blk b6 55 [.int .i64 (IntKind.i64.wrap (1 + r2.1)), .slice A456 xs458.length c457], _, _, _] := hs
        refine wpO_nil ?_
        refine wpL_nil (Qb_normal ?_)
        refine wpL_region ?_
        refine sY hf hs rfl rfl rfl (Y_move rfl rfl) ?_; clear hf; intro a hf
        refine sY hf hs rfl rfl rfl (Y_sub rfl rfl rfl) ?_; clear hf; intro a hf
        refine sY hf hs rfl rfl rfl (Y_assign rfl rfl) ?_; clear hf; intro a hf
        refine wpO_nil ?_
        refine wpL_nil (Ql_normal ?_)
        exact ⟨r447.2.1, r447.2.2, xs458, (IntKind.i64.wrap (x236 - 1)), A456, xs458.length, c457, hm352, rfl, (FrD.pick (FrD.pick (FrD.pick (FrD.pick hf.none hf rfl) hf rfl) hf rfl) hf rfl), hs.sel [0, 1, 2, 3] (by decide)⟩
   ·have hm352 := bif_f hm352 hb354
    refine wpL_exit (Ql_exit (Qb_exit ?_))
    exact ⟨x229, x230, xs231, A232, n233, c234, Option.some.inj hm352, hn235, (FrD.pick (FrD.pick (FrD.pick hf.none hf rfl) hf rfl) hf rfl), hs⟩
 ·rintro a w ⟨x343, x344, xs345, A346, n347, c348, hr_, hn349, hf, hs⟩
  subst hr_
  try dsimp only at hm
  refine wpL_seq <| wpL_seq <| wpL_region ?_
  refine sY hf hs rfl rfl rfl (Y_move rfl rfl) ?_; clear hf; intro a hf
  obtain ⟨r460, hc461, hm⟩ := bind_some hm
  refine sCall hf rfl rfl rfl rfl (cap := []) rfl rfl en93 (spec_l01Next_ok F b_p0 ad ae ad.length af rfl x343 x344 60 _ _ hc461 (aL.pass hs [0]) (hs.sel [0] (by decide)).rebase) ?_; clear hf
  rintro _ w ⟨rfl, hs1⟩ a hf
  have hs : St _ W w [_, _, _, .blk b_p0 149 [.slice ae ad.length af, .int .i64 r460.2.1, .int .i64 r460.2.2]] := St.mutTail (La := [_, _, _]) (Lb := [_]) (hs.sel [1, 2, 3, 0] (by decide)) hs1
  clear hs1
  refine wpO_nil <| wpL_block0 <| wpL_seq <| wpL_region ?_
  refine sY hf hs rfl rfl rfl (Y_eql rfl rfl rfl) ?_; clear hf; intro a hf
  refine sY hf hs rfl rfl rfl (Y_assign rfl rfl) ?_; clear hf; intro a hf
  refine wpO_nil ?_
  refine wpL_cond hf rfl (fun hb462 => ?_) (fun hb462 => ?_)
  ·have hm := bif_t hm hb462
   refine wpL_region ?_
   refine sY hf hs rfl rfl rfl (Y_move rfl rfl) ?_; clear hf; intro a hf
   refine sBuildSlice (parts := [(0, .const (.int .i64 0)), (1, .const (.int .i64 10)), (2, .const (.int .i64 11))]) (vs := [.int .i64 0, .int .i64 10, .int .i64 11]) (cells := [.int .i64 0, .int .i64 10, .int .i64 11]) hf hs rfl rfl rfl rfl rfl el28 ti2 rfl rfl rfl rfl ?_; clear hf hs; intro a w A463 hs hA464 hf
   have hs : St _ W w [_, _, _, _, .row A463 3 3 2 1 (ints ([0, 10, 11]))] := hs
   obtain ⟨r465, hc466, hm⟩ := bind_some hm
   refine sCall hf rfl rfl rfl rfl (cap := []) rfl rfl en109 (spec_l01Pick_ok F b_p0 ad ae ad.length af rfl r460.2.1 r460.2.2 ([0, 10, 11]) A463 3 3 rfl _ _ hc466 (aL.pass hs [3]) (hs.keepR (i := 4) rfl [3] (by decide)) (hs.sel [3] (by decide)).rebase) ?_; clear hf
   rintro _ w ⟨rfl, hs1⟩ a hf
   have hs : St _ W w [_, _, _, _, .blk b_p0 149 [.slice ae ad.length af, .int .i64 r465.2.1, .int .i64 r465.2.2]] := St.mutTail (La := [_, _, _, _]) (Lb := [_]) (hs.sel [0, 1, 2, 4, 3] (by decide)) hs1
   clear hs1
   refine sY hf hs rfl rfl rfl (Y_fieldAddr rfl rfl fo55_0) ?_; clear hf; intro a hf
   refine sStore (i := 1) (us := [.int .i64 r465.1]) hf hs rfl rfl rfl rfl rfl rfl ti2 rfl rfl rfl (Nat.le_of_ble_eq_true rfl) rfl ?_; clear hs; intro w hs
   have hs : St _ W w [_, .blk b6 55 [.int .i64 r465.1, .slice A346 n347 c348], _, _, _] := hs
   refine wpO_nil ?_
   refine wpL_nil (Qb_normal ?_)
   refine wpL_seq <| wpL_region ?_
   refine sY hf hs rfl rfl rfl (Y_load_blkS rfl rfl (i := 1) rfl ag55 ti55 rfl) ?_; clear hf; intro a hf
   refine sStore (i := 0) (us := [.int .i64 r465.1, .slice A346 n347 c348]) hf hs rfl rfl rfl rfl rfl rfl ti55 rfl rfl rfl (Nat.le_of_ble_eq_true rfl) rfl ?_; clear hs; intro w hs
   have hs : St _ W w [.blk b1 55 [.int .i64 r465.1, .slice A346 n347 c348], _, _, _, _] := hs
   refine wpO_nil ?_
   obtain rfl := Option.some.inj hm
   refine wpL_ret (ret_cell rfl hf rfl hs (i := 0) rfl ag55 ti55 rfl ?_)
   exact ⟨_, rfl, A346, n347, c348, rfl, hn349, hs.sel [2, 4] (by decide)⟩
  ·have hm := bif_f hm hb462
   refine wpL_seq <| wpL_region ?_
   refine sY hf hs rfl rfl rfl (Y_eql rfl rfl rfl) ?_; clear hf; intro a hf
   refine sY hf hs rfl rfl rfl (Y_assign rfl rfl) ?_; clear hf; intro a hf
   refine wpO_nil ?_
   refine wpL_cond hf rfl (fun hb467 => ?_) (fun hb467 => ?_)
   ·have hm := bif_t hm hb467
    obtain ⟨r529, hj530, hm⟩ := bind_some hm
    refine wpL_cut (fun a w => ∃ x522 : Int, ∃ x523 : Int, ∃ xs524 : List GPlace, ∃ A525, ∃ n526, ∃ c527, (x522, x523, xs524) = r529 ∧ n526 = xs524.length ∧ Fr a 108 [(2, .pointer (some ⟨b1, 0, none⟩)), (3, .pointer (some ⟨b6, 0, none⟩))] ∧ St (muL [.blk b_p0 149 [.slice ae ad.length af, .int .i64 ar, .int .i64 am]]) W w [.blk b_p0 149 [.slice ae ad.length af, .int .i64 x522, .int .i64 x523], .blk b1 55 [.int .i64 0, .slice none 0 0], .blk b6 55 [.int .i64 (IntKind.i64.wrap (1 + r2.1)), .slice A525 n526 c527], .row A525 n526 c527 64 4 ((recs GPlace.cells) xs524)]) ?_ ?_
    ·refine wpL_drawM [.blk b1 55 [.int .i64 0, .slice none 0 0], .blk b6 55 [.int .i64 (IntKind.i64.wrap (1 + r2.1)), .slice A346 n347 c348], .row A346 n347 c348 64 4 ((recs GPlace.cells) xs345)] [12, 14] (by kernel_rfl) hs ?_; clear hs; intro w hs
     have hs0 : St _ W w [_, _, _] := hs.sel [0, 1, 2] (by decide)
     refine mYp (i := 0) rfl (by kernel_rfl) (by kernel_rfl) hf rfl rfl rfl (fun _ => Y_fieldAddr rfl rfl fo55_1) ?_; clear hf; intro a hf
     refine mY (i := 1) [[], []] rfl (by kernel_rfl) (by kernel_rfl) hf hs0 rfl rfl rfl (Y_load_blk rfl rfl (i := 1) rfl rfl ag53) ?_; clear hf; intro a hf
     refine mYp (i := 2) rfl (by kernel_rfl) (by kernel_rfl) hf rfl rfl rfl (fun _ => Y_move rfl rfl) ?_; clear hf; intro a hf
     refine mYp (i := 3) rfl (by kernel_rfl) (by kernel_rfl) hf rfl rfl rfl (fun _ => Y_fieldAddr rfl rfl fo55_0) ?_; clear hf; intro a hf
     refine mY (i := 4) [[5, 6, 9], []] rfl (by kernel_rfl) (by kernel_rfl) hf hs0 rfl rfl rfl (Y_load_blk rfl rfl (i := 1) rfl rfl ag2) ?_; clear hf; intro a hf
     refine mYp (i := 7) rfl (by kernel_rfl) (by kernel_rfl) hf rfl rfl rfl (fun _ => Y_move rfl rfl) ?_; clear hf; intro a hf
     refine mRun2 (i := 5) (j := 8) rfl rfl (by kernel_rfl) ?_ ?_
     ·refine sBuildSlice (parts := [(0, .const (.int .i64 (-1))), (1, .const (.int .i64 0)), (2, .tmp 70)]) (vs := [.int .i64 (-1), .int .i64 0, .int .i64 (IntKind.i64.wrap (1 + r2.1))]) (cells := [.int .i64 (-1), .int .i64 0, .int .i64 (IntKind.i64.wrap (1 + r2.1))]) hf hs rfl rfl rfl rfl rfl el28 ti2 rfl rfl rfl rfl ?_; clear hf hs; intro a w A545 hs hA546 hf
      have hs : St _ W w [_, _, _, _, .row A545 3 3 2 1 (ints ([(-1), 0, (IntKind.i64.wrap (1 + r2.1))]))] := hs
      have hs0 : St _ W w [_, _, _] := hs.sel [0, 1, 2] (by decide)
      refine wpO_nil ⟨Or.inr (fun _ => hs0), ?_⟩
      refine mRun2 (i := 6) (j := 8) rfl rfl (by kernel_rfl) ?_ ?_
      ·obtain ⟨r547, hc548, hj530⟩ := bind_some hj530
       refine sCall hf rfl rfl rfl rfl (cap := []) rfl rfl en109 (spec_l01Pick_ok F b_p0 ad ae ad.length af rfl r460.2.1 r460.2.2 ([(-1), 0, (IntKind.i64.wrap (1 + r2.1))]) A545 3 3 rfl _ _ hc548 (aL.pass hs [3]) (hs.keepR (i := 4) rfl [3] (by decide)) (hs.sel [3] (by decide)).rebase) ?_; clear hf
       rintro _ w ⟨rfl, hs1⟩ a hf
       have hs : St _ W w [_, _, _, _, .blk b_p0 149 [.slice ae ad.length af, .int .i64 r547.2.1, .int .i64 r547.2.2]] := St.mutTail (La := [_, _, _, _]) (Lb := [_]) (hs.sel [0, 1, 2, 4, 3] (by decide)) hs1
       clear hs1
       have hs0 : St _ W w [_, _, _] := hs.sel [0, 1, 2] (by decide)
       refine wpO_nil ⟨Or.inr (fun _ => hs0), ?_⟩
       refine mRun (i := 8) rfl (by kernel_rfl) ?_
       refine sBuildSlice (parts := [(0, .const (.int .i64 (-1))), (1, .const (.int .i64 1000)), (2, .const (.int .i64 1001))]) (vs := [.int .i64 (-1), .int .i64 1000, .int .i64 1001]) (cells := [.int .i64 (-1), .int .i64 1000, .int .i64 1001]) hf hs rfl rfl rfl rfl rfl el28 ti2 rfl rfl rfl rfl ?_; clear hf hs; intro a w A549 hs hA550 hf
       have hs : St _ W w [_, _, _, _, _, .row A549 3 3 2 1 (ints ([(-1), 1000, 1001]))] := hs
       have hs0 : St _ W w [_, _, _] := hs.sel [0, 1, 2] (by decide)
       refine wpO_nil ⟨Or.inr (fun _ => hs0), ?_⟩
       refine mRun (i := 9) rfl (by kernel_rfl) ?_
       obtain ⟨r551, hc552, hj530⟩ := bind_some hj530
       refine sCall hf rfl rfl rfl rfl (cap := []) rfl rfl en109 (spec_l01Pick_ok F b_p0 ad ae ad.length af rfl r547.2.1 r547.2.2 ([(-1), 1000, 1001]) A549 3 3 rfl _ _ hc552 (aL.pass hs [4]) (hs.keepR (i := 5) rfl [4] (by decide)) (hs.sel [4] (by decide)).rebase) ?_; clear hf
       rintro _ w ⟨rfl, hs1⟩ a hf
       have hs : St _ W w [_, _, _, _, _, .blk b_p0 149 [.slice ae ad.length af, .int .i64 r551.2.1, .int .i64 r551.2.2]] := St.mutTail (La := [_, _, _, _, _]) (Lb := [_]) (hs.sel [0, 1, 2, 3, 5, 4] (by decide)) hs1
       clear hs1
       have hs0 : St _ W w [_, _, _] := hs.sel [0, 1, 2] (by decide)
       refine wpO_nil ⟨Or.inr (fun _ => hs0), ?_⟩
       refine mYp (i := 10) rfl (by kernel_rfl) (by kernel_rfl) hf rfl rfl rfl (fun _ => Y_build (parts := [(0, .tmp 72), (2, .tmp 75), (3, .const (.int .i64 1))]) (vs := [.int .i64 r547.1, .int .i64 r551.1, .int .i64 1]) rfl rfl (run_build (parts := [(0, .int .i64 r547.1), (2, .int .i64 r551.1), (3, .int .i64 1)]) (cells := [.int .i64 r547.1, .int .i64 0, .int .i64 r551.1, .int .i64 1]) (places := #[(0, 1), (1, 1), (2, 1), (3, 1)]) ti64 Try.underlying64 (fun w => by simp [go_sem]) rfl)) ?_; clear hf; intro a hf
       refine mRun (i := 11) rfl (by kernel_rfl) ?_
       refine sBuildSlice (parts := [(0, .tmp 76)]) (vs := [.agg #[.int .i64 r547.1, .int .i64 0, .int .i64 r551.1, .int .i64 1]]) (cells := [.int .i64 r547.1, .int .i64 0, .int .i64 r551.1, .int .i64 1]) hf hs rfl rfl rfl rfl rfl el53 ti64 rfl rfl rfl rfl ?_; clear hf hs; intro a w A553 hs hA554 hf
       have hs : St _ W w [_, _, _, _, _, _, .row A553 1 1 64 4 ((recs GPlace.cells) ([(GPlace.mk r547.1 0 r551.1 1)]))] := hs
       have hs0 : St _ W w [_, _, _] := hs.sel [0, 1, 2] (by decide)
       refine wpO_nil ⟨Or.inr (fun _ => hs0), ?_⟩
       refine mRun (i := 12) rfl (by kernel_rfl) ?_
       obtain ⟨xs557, ha558, hj530⟩ := bind_some hj530
       refine sAppendL (i := 2) (xs := xs345) (ys := [(GPlace.mk r547.1 0 r551.1 1)]) (enc := (recs GPlace.cells)) hf hs rfl rfl rfl rfl rfl rfl hn349 rfl rfl ha558 el53 ti64 rfl rfl rfl (hs.rd (i := 6) rfl) (Nat.succ_pos _) (recs_length GPlace.len) (recs_append GPlace.cells) (recs_one GPlace.one) ?_; clear hf hs; intro a w A555 c556 hs hf
       have hs : St _ W w [_, _, .row A555 xs557.length c556 64 4 ((recs GPlace.cells) xs557), _, _, _, _] := hs
       refine wpO_nil ⟨Or.inl (by decide), ?_⟩
       refine mYp (i := 13) rfl (by kernel_rfl) (by kernel_rfl) hf rfl rfl rfl (fun _ => Y_fieldAddr rfl rfl fo55_1) ?_; clear hf; intro a hf
       refine mRun (i := 14) rfl (by kernel_rfl) ?_
       refine sStore (i := 1) (us := [.slice A555 xs557.length c556]) hf hs rfl rfl rfl rfl rfl rfl ti53 rfl rfl rfl (Nat.le_of_ble_eq_true rfl) rfl ?_; clear hs; intro w hs
       have hs : St _ W w [_, .blk b6 55 [.int .i64 (IntKind.i64.wrap (1 + r2.1)), .slice A555 xs557.length c556], _, _, _, _, _] := hs
       refine wpO_nil ⟨Or.inl (by decide), ?_⟩
       refine mDone (by kernel_rfl) ?_
       clear hs0
       refine wpL_nil (then_normal ?_)
       exact ⟨r551.2.1, r551.2.2, xs557, A555, xs557.length, c556, Option.some.inj hj530, rfl, (FrD.pick (FrD.pick hf.none hf rfl) hf rfl), hs.sel [5, 0, 1, 2] (by decide)⟩
      ·refine sBuildSlice (parts := [(0, .const (.int .i64 (-1))), (1, .const (.int .i64 1000)), (2, .const (.int .i64 1001))]) (vs := [.int .i64 (-1), .int .i64 1000, .int .i64 1001]) (cells := [.int .i64 (-1), .int .i64 1000, .int .i64 1001]) hf hs rfl rfl rfl rfl rfl el28 ti2 rfl rfl rfl rfl ?_; clear hf hs; intro a w A559 hs hA560 hf
       have hs : St _ W w [_, _, _, .blk b_p0 149 [.slice ae ad.length af, .int .i64 r460.2.1, .int .i64 r460.2.2], _, .row A559 3 3 2 1 (ints ([(-1), 1000, 1001]))] := hs
       have hs0 : St _ W w [_, _, _] := hs.sel [0, 1, 2] (by decide)
       refine wpO_nil ⟨Or.inr (fun _ => hs0), ?_⟩
       refine mRun (i := 6) rfl (by kernel_rfl) ?_
       obtain ⟨r561, hc562, hj530⟩ := bind_some hj530
       refine sCall hf rfl rfl rfl rfl (cap := []) rfl rfl en109 (spec_l01Pick_ok F b_p0 ad ae ad.length af rfl r460.2.1 r460.2.2 ([(-1), 0, (IntKind.i64.wrap (1 + r2.1))]) A545 3 3 rfl _ _ hc562 (aL.pass hs [3]) (hs.keepR (i := 4) rfl [3] (by decide)) (hs.sel [3] (by decide)).rebase) ?_; clear hf
       rintro _ w ⟨rfl, hs1⟩ a hf
       have hs : St _ W w [_, _, _, _, _, .blk b_p0 149 [.slice ae ad.length af, .int .i64 r561.2.1, .int .i64 r561.2.2]] := St.mutTail (La := [_, _, _, _, _]) (Lb := [_]) (hs.sel [0, 1, 2, 4, 5, 3] (by decide)) hs1
       clear hs1
       have hs0 : St _ W w [_, _, _] := hs.sel [0, 1, 2] (by decide)
       refine wpO_nil ⟨Or.inr (fun _ => hs0), ?_⟩
       refine mRun (i := 9) rfl (by kernel_rfl) ?_
       obtain ⟨r563, hc564, hj530⟩ := bind_some hj530
       refine sCall hf rfl rfl rfl rfl (cap := []) rfl rfl en109 (spec_l01Pick_ok F b_p0 ad ae ad.length af rfl r561.2.1 r561.2.2 ([(-1), 1000, 1001]) A559 3 3 rfl _ _ hc564 (aL.pass hs [5]) (hs.keepR (i := 4) rfl [5] (by decide)) (hs.sel [5] (by decide)).rebase) ?_; clear hf
       rintro _ w ⟨rfl, hs1⟩ a hf
       have hs : St _ W w [_, _, _, _, _, .blk b_p0 149 [.slice ae ad.length af, .int .i64 r563.2.1, .int .i64 r563.2.2]] := St.mutTail (La := [_, _, _, _, _]) (Lb := [_]) (hs.sel [0, 1, 2, 3, 4, 5] (by decide)) hs1
       clear hs1
       have hs0 : St _ W w [_, _, _] := hs.sel [0, 1, 2] (by decide)
       refine wpO_nil ⟨Or.inr (fun _ => hs0), ?_⟩
       refine mYp (i := 10) rfl (by kernel_rfl) (by kernel_rfl) hf rfl rfl rfl (fun _ => Y_build (parts := [(0, .tmp 72), (2, .tmp 75), (3, .const (.int .i64 1))]) (vs := [.int .i64 r561.1, .int .i64 r563.1, .int .i64 1]) rfl rfl (run_build (parts := [(0, .int .i64 r561.1), (2, .int .i64 r563.1), (3, .int .i64 1)]) (cells := [.int .i64 r561.1, .int .i64 0, .int .i64 r563.1, .int .i64 1]) (places := #[(0, 1), (1, 1), (2, 1), (3, 1)]) ti64 Try.underlying64 (fun w => by simp [go_sem]) rfl)) ?_; clear hf; intro a hf
       refine mRun (i := 11) rfl (by kernel_rfl) ?_
       refine sBuildSlice (parts := [(0, .tmp 76)]) (vs := [.agg #[.int .i64 r561.1, .int .i64 0, .int .i64 r563.1, .int .i64 1]]) (cells := [.int .i64 r561.1, .int .i64 0, .int .i64 r563.1, .int .i64 1]) hf hs rfl rfl rfl rfl rfl el53 ti64 rfl rfl rfl rfl ?_; clear hf hs; intro a w A565 hs hA566 hf
       have hs : St _ W w [_, _, _, _, _, _, .row A565 1 1 64 4 ((recs GPlace.cells) ([(GPlace.mk r561.1 0 r563.1 1)]))] := hs
       have hs0 : St _ W w [_, _, _] := hs.sel [0, 1, 2] (by decide)
       refine wpO_nil ⟨Or.inr (fun _ => hs0), ?_⟩
       refine mRun (i := 12) rfl (by kernel_rfl) ?_
       obtain ⟨xs569, ha570, hj530⟩ := bind_some hj530
       refine sAppendL (i := 2) (xs := xs345) (ys := [(GPlace.mk r561.1 0 r563.1 1)]) (enc := (recs GPlace.cells)) hf hs rfl rfl rfl rfl rfl rfl hn349 rfl rfl ha570 el53 ti64 rfl rfl rfl (hs.rd (i := 6) rfl) (Nat.succ_pos _) (recs_length GPlace.len) (recs_append GPlace.cells) (recs_one GPlace.one) ?_; clear hf hs; intro a w A567 c568 hs hf
       have hs : St _ W w [_, _, .row A567 xs569.length c568 64 4 ((recs GPlace.cells) xs569), _, _, _, _] := hs
       refine wpO_nil ⟨Or.inl (by decide), ?_⟩
       refine mYp (i := 13) rfl (by kernel_rfl) (by kernel_rfl) hf rfl rfl rfl (fun _ => Y_fieldAddr rfl rfl fo55_1) ?_; clear hf; intro a hf
       refine mRun (i := 14) rfl (by kernel_rfl) ?_
       refine sStore (i := 1) (us := [.slice A567 xs569.length c568]) hf hs rfl rfl rfl rfl rfl rfl ti53 rfl rfl rfl (Nat.le_of_ble_eq_true rfl) rfl ?_; clear hs; intro w hs
       have hs : St _ W w [_, .blk b6 55 [.int .i64 (IntKind.i64.wrap (1 + r2.1)), .slice A567 xs569.length c568], _, _, _, _, _] := hs
       refine wpO_nil ⟨Or.inl (by decide), ?_⟩
       refine mDone (by kernel_rfl) ?_
       clear hs0
       refine wpL_nil (then_normal ?_)
       exact ⟨r563.2.1, r563.2.2, xs569, A567, xs569.length, c568, Option.some.inj hj530, rfl, (FrD.pick (FrD.pick hf.none hf rfl) hf rfl), hs.sel [5, 0, 1, 2] (by decide)⟩
     ·refine sBuildSlice (parts := [(0, .const (.int .i64 (-1))), (1, .const (.int .i64 1000)), (2, .const (.int .i64 1001))]) (vs := [.int .i64 (-1), .int .i64 1000, .int .i64 1001]) (cells := [.int .i64 (-1), .int .i64 1000, .int .i64 1001]) hf hs rfl rfl rfl rfl rfl el28 ti2 rfl rfl rfl rfl ?_; clear hf hs; intro a w A571 hs hA572 hf
      have hs : St _ W w [_, _, _, .blk b_p0 149 [.slice ae ad.length af, .int .i64 r460.2.1, .int .i64 r460.2.2], .row A571 3 3 2 1 (ints ([(-1), 1000, 1001]))] := hs
      have hs0 : St _ W w [_, _, _] := hs.sel [0, 1, 2] (by decide)
      refine wpO_nil ⟨Or.inr (fun _ => hs0), ?_⟩
      refine mRun (i := 5) rfl (by kernel_rfl) ?_
      refine sBuildSlice (parts := [(0, .const (.int .i64 (-1))), (1, .const (.int .i64 0)), (2, .tmp 70)]) (vs := [.int .i64 (-1), .int .i64 0, .int .i64 (IntKind.i64.wrap (1 + r2.1))]) (cells := [.int .i64 (-1), .int .i64 0, .int .i64 (IntKind.i64.wrap (1 + r2.1))]) hf hs rfl rfl rfl rfl rfl el28 ti2 rfl rfl rfl rfl ?_; clear hf hs; intro a w A573 hs hA574 hf
      have hs : St _ W w [_, _, _, _, _, .row A573 3 3 2 1 (ints ([(-1), 0, (IntKind.i64.wrap (1 + r2.1))]))] := hs
      have hs0 : St _ W w [_, _, _] := hs.sel [0, 1, 2] (by decide)
      refine wpO_nil ⟨Or.inr (fun _ => hs0), ?_⟩
      refine mRun (i := 6) rfl (by kernel_rfl) ?_
      obtain ⟨r575, hc576, hj530⟩ := bind_some hj530
      refine sCall hf rfl rfl rfl rfl (cap := []) rfl rfl en109 (spec_l01Pick_ok F b_p0 ad ae ad.length af rfl r460.2.1 r460.2.2 ([(-1), 0, (IntKind.i64.wrap (1 + r2.1))]) A573 3 3 rfl _ _ hc576 (aL.pass hs [3]) (hs.keepR (i := 5) rfl [3] (by decide)) (hs.sel [3] (by decide)).rebase) ?_; clear hf
      rintro _ w ⟨rfl, hs1⟩ a hf
      have hs : St _ W w [_, _, _, _, _, .blk b_p0 149 [.slice ae ad.length af, .int .i64 r575.2.1, .int .i64 r575.2.2]] := St.mutTail (La := [_, _, _, _, _]) (Lb := [_]) (hs.sel [0, 1, 2, 4, 5, 3] (by decide)) hs1
      clear hs1
      have hs0 : St _ W w [_, _, _] := hs.sel [0, 1, 2] (by decide)
      refine wpO_nil ⟨Or.inr (fun _ => hs0), ?_⟩
      refine mRun (i := 9) rfl (by kernel_rfl) ?_
      obtain ⟨r577, hc578, hj530⟩ := bind_some hj530
      refine sCall hf rfl rfl rfl rfl (cap := []) rfl rfl en109 (spec_l01Pick_ok F b_p0 ad ae ad.length af rfl r575.2.1 r575.2.2 ([(-1), 1000, 1001]) A571 3 3 rfl _ _ hc578 (aL.pass hs [5]) (hs.keepR (i := 3) rfl [5] (by decide)) (hs.sel [5] (by decide)).rebase) ?_; clear hf
      rintro _ w ⟨rfl, hs1⟩ a hf
      have hs : St _ W w [_, _, _, _, _, .blk b_p0 149 [.slice ae ad.length af, .int .i64 r577.2.1, .int .i64 r577.2.2]] := St.mutTail (La := [_, _, _, _, _]) (Lb := [_]) (hs.sel [0, 1, 2, 3, 4, 5] (by decide)) hs1
      clear hs1
      have hs0 : St _ W w [_, _, _] := hs.sel [0, 1, 2] (by decide)
      refine wpO_nil ⟨Or.inr (fun _ => hs0), ?_⟩
      refine mYp (i := 10) rfl (by kernel_rfl) (by kernel_rfl) hf rfl rfl rfl (fun _ => Y_build (parts := [(0, .tmp 72), (2, .tmp 75), (3, .const (.int .i64 1))]) (vs := [.int .i64 r575.1, .int .i64 r577.1, .int .i64 1]) rfl rfl (run_build (parts := [(0, .int .i64 r575.1), (2, .int .i64 r577.1), (3, .int .i64 1)]) (cells := [.int .i64 r575.1, .int .i64 0, .int .i64 r577.1, .int .i64 1]) (places := #[(0, 1), (1, 1), (2, 1), (3, 1)]) ti64 Try.underlying64 (fun w => by simp [go_sem]) rfl)) ?_; clear hf; intro a hf
      refine mRun (i := 11) rfl (by kernel_rfl) ?_
      refine sBuildSlice (parts := [(0, .tmp 76)]) (vs := [.agg #[.int .i64 r575.1, .int .i64 0, .int .i64 r577.1, .int .i64 1]]) (cells := [.int .i64 r575.1, .int .i64 0, .int .i64 r577.1, .int .i64 1]) hf hs rfl rfl rfl rfl rfl el53 ti64 rfl rfl rfl rfl ?_; clear hf hs; intro a w A579 hs hA580 hf
      have hs : St _ W w [_, _, _, _, _, _, .row A579 1 1 64 4 ((recs GPlace.cells) ([(GPlace.mk r575.1 0 r577.1 1)]))] := hs
      have hs0 : St _ W w [_, _, _] := hs.sel [0, 1, 2] (by decide)
      refine wpO_nil ⟨Or.inr (fun _ => hs0), ?_⟩
      refine mRun (i := 12) rfl (by kernel_rfl) ?_
      obtain ⟨xs583, ha584, hj530⟩ := bind_some hj530
      refine sAppendL (i := 2) (xs := xs345) (ys := [(GPlace.mk r575.1 0 r577.1 1)]) (enc := (recs GPlace.cells)) hf hs rfl rfl rfl rfl rfl rfl hn349 rfl rfl ha584 el53 ti64 rfl rfl rfl (hs.rd (i := 6) rfl) (Nat.succ_pos _) (recs_length GPlace.len) (recs_append GPlace.cells) (recs_one GPlace.one) ?_; clear hf hs; intro a w A581 c582 hs hf
      have hs : St _ W w [_, _, .row A581 xs583.length c582 64 4 ((recs GPlace.cells) xs583), _, _, _, _] := hs
      refine wpO_nil ⟨Or.inl (by decide), ?_⟩
      refine mYp (i := 13) rfl (by kernel_rfl) (by kernel_rfl) hf rfl rfl rfl (fun _ => Y_fieldAddr rfl rfl fo55_1) ?_; clear hf; intro a hf
      refine mRun (i := 14) rfl (by kernel_rfl) ?_
      refine sStore (i := 1) (us := [.slice A581 xs583.length c582]) hf hs rfl rfl rfl rfl rfl rfl ti53 rfl rfl rfl (Nat.le_of_ble_eq_true rfl) rfl ?_; clear hs; intro w hs
      have hs : St _ W w [_, .blk b6 55 [.int .i64 (IntKind.i64.wrap (1 + r2.1)), .slice A581 xs583.length c582], _, _, _, _, _] := hs
      refine wpO_nil ⟨Or.inl (by decide), ?_⟩
      refine mDone (by kernel_rfl) ?_
      clear hs0
      refine wpL_nil (then_normal ?_)
      exact ⟨r577.2.1, r577.2.2, xs583, A581, xs583.length, c582, Option.some.inj hj530, rfl, (FrD.pick (FrD.pick hf.none hf rfl) hf rfl), hs.sel [5, 0, 1, 2] (by decide)⟩
    ·rintro a w ⟨x522, x523, xs524, A525, n526, c527, hr_, hn528, hf, hs⟩
     subst hr_
     try dsimp only at hm
     refine wpL_nil (Qb_normal ?_)
     refine wpL_seq <| wpL_region ?_
     refine sY hf hs rfl rfl rfl (Y_load_blkS rfl rfl (i := 2) rfl ag55 ti55 rfl) ?_; clear hf; intro a hf
     refine sStore (i := 1) (us := [.int .i64 (IntKind.i64.wrap (1 + r2.1)), .slice A525 n526 c527]) hf hs rfl rfl rfl rfl rfl rfl ti55 rfl rfl rfl (Nat.le_of_ble_eq_true rfl) rfl ?_; clear hs; intro w hs
     have hs : St _ W w [.blk b_p0 149 [.slice ae ad.length af, .int .i64 x522, .int .i64 x523], .blk b1 55 [.int .i64 (IntKind.i64.wrap (1 + r2.1)), .slice A525 n526 c527], .blk b6 55 [.int .i64 (IntKind.i64.wrap (1 + r2.1)), .slice A525 n526 c527], .row A525 n526 c527 64 4 ((recs GPlace.cells) xs524)] := hs
     refine wpO_nil ?_
     obtain rfl := Option.some.inj hm
     refine wpL_ret (ret_cell rfl hf rfl hs (i := 1) rfl ag55 ti55 rfl ?_)
     exact ⟨_, rfl, A525, n526, c527, rfl, hn528, hs.sel [3, 0] (by decide)⟩
   ·have hm := bif_f hm hb467
    refine wpL_seq <| wpL_region ?_
    refine sY hf hs rfl rfl rfl (Y_eql rfl rfl rfl) ?_; clear hf; intro a hf
    refine sY hf hs rfl rfl rfl (Y_assign rfl rfl) ?_; clear hf; intro a hf
    refine wpO_nil ?_
    refine wpL_cond hf rfl (fun hb585 => ?_) (fun hb585 => ?_)
    ·have hm := bif_t hm hb585
     refine wpL_drawM [.blk b1 55 [.int .i64 0, .slice none 0 0], .blk b6 55 [.int .i64 (IntKind.i64.wrap (1 + r2.1)), .slice A346 n347 c348], .row A346 n347 c348 64 4 ((recs GPlace.cells) xs345)] [7, 9] (by kernel_rfl) hs ?_; clear hs; intro w hs
     have hs0 : St _ W w [_, _, _] := hs.sel [0, 1, 2] (by decide)
     refine mYp (i := 0) rfl (by kernel_rfl) (by kernel_rfl) hf rfl rfl rfl (fun _ => Y_fieldAddr rfl rfl fo55_1) ?_; clear hf; intro a hf
     refine mY (i := 1) [[], []] rfl (by kernel_rfl) (by kernel_rfl) hf hs0 rfl rfl rfl (Y_load_blk rfl rfl (i := 1) rfl rfl ag53) ?_; clear hf; intro a hf
     refine mYp (i := 2) rfl (by kernel_rfl) (by kernel_rfl) hf rfl rfl rfl (fun _ => Y_move rfl rfl) ?_; clear hf; intro a hf
     refine mRun (i := 3) rfl (by kernel_rfl) ?_
     refine sBuildSlice (parts := [(0, .const (.int .i64 5)), (1, .const (.int .i64 6)), (2, .const (.int .i64 (-1)))]) (vs := [.int .i64 5, .int .i64 6, .int .i64 (-1)]) (cells := [.int .i64 5, .int .i64 6, .int .i64 (-1)]) hf hs rfl rfl rfl rfl rfl el28 ti2 rfl rfl rfl rfl ?_; clear hf hs; intro a w A596 hs hA597 hf
     have hs : St _ W w [_, _, _, .blk b_p0 149 [.slice ae ad.length af, .int .i64 r460.2.1, .int .i64 r460.2.2], .row A596 3 3 2 1 (ints ([5, 6, (-1)]))] := hs
     have hs0 : St _ W w [_, _, _] := hs.sel [0, 1, 2] (by decide)
     refine wpO_nil ⟨Or.inr (fun _ => hs0), ?_⟩
     refine mRun (i := 4) rfl (by kernel_rfl) ?_
     obtain ⟨r598, hc599, hm⟩ := bind_some hm
     refine sCall hf rfl rfl rfl rfl (cap := []) rfl rfl en109 (spec_l01Pick_ok F b_p0 ad ae ad.length af rfl r460.2.1 r460.2.2 ([5, 6, (-1)]) A596 3 3 rfl _ _ hc599 (aL.pass hs [3]) (hs.keepR (i := 4) rfl [3] (by decide)) (hs.sel [3] (by decide)).rebase) ?_; clear hf
     rintro _ w ⟨rfl, hs1⟩ a hf
     have hs : St _ W w [_, _, _, _, .blk b_p0 149 [.slice ae ad.length af, .int .i64 r598.2.1, .int .i64 r598.2.2]] := St.mutTail (La := [_, _, _, _]) (Lb := [_]) (hs.sel [0, 1, 2, 4, 3] (by decide)) hs1
     clear hs1
     have hs0 : St _ W w [_, _, _] := hs.sel [0, 1, 2] (by decide)
     refine wpO_nil ⟨Or.inr (fun _ => hs0), ?_⟩
     refine mYp (i := 5) rfl (by kernel_rfl) (by kernel_rfl) hf rfl rfl rfl (fun _ => Y_build (parts := [(3, .tmp 86)]) (vs := [.int .i64 r598.1]) rfl rfl (run_build (parts := [(3, .int .i64 r598.1)]) (cells := [.int .i64 0, .int .i64 0, .int .i64 0, .int .i64 r598.1]) (places := #[(0, 1), (1, 1), (2, 1), (3, 1)]) ti64 Try.underlying64 (fun w => by simp [go_sem]) rfl)) ?_; clear hf; intro a hf
     refine mRun (i := 6) rfl (by kernel_rfl) ?_
     refine sBuildSlice (parts := [(0, .tmp 87)]) (vs := [.agg #[.int .i64 0, .int .i64 0, .int .i64 0, .int .i64 r598.1]]) (cells := [.int .i64 0, .int .i64 0, .int .i64 0, .int .i64 r598.1]) hf hs rfl rfl rfl rfl rfl el53 ti64 rfl rfl rfl rfl ?_; clear hf hs; intro a w A600 hs hA601 hf
     have hs : St _ W w [_, _, _, _, _, .row A600 1 1 64 4 ((recs GPlace.cells) ([(GPlace.mk 0 0 0 r598.1)]))] := hs
     have hs0 : St _ W w [_, _, _] := hs.sel [0, 1, 2] (by decide)
     refine wpO_nil ⟨Or.inr (fun _ => hs0), ?_⟩
     refine mRun (i := 7) rfl (by kernel_rfl) ?_
     obtain ⟨xs604, ha605, hm⟩ := bind_some hm
     refine sAppendL (i := 2) (xs := xs345) (ys := [(GPlace.mk 0 0 0 r598.1)]) (enc := (recs GPlace.cells)) hf hs rfl rfl rfl rfl rfl rfl hn349 rfl rfl ha605 el53 ti64 rfl rfl rfl (hs.rd (i := 5) rfl) (Nat.succ_pos _) (recs_length GPlace.len) (recs_append GPlace.cells) (recs_one GPlace.one) ?_; clear hf hs; intro a w A602 c603 hs hf
     have hs : St _ W w [_, _, .row A602 xs604.length c603 64 4 ((recs GPlace.cells) xs604), _, _, _] := hs
     refine wpO_nil ⟨Or.inl (by decide), ?_⟩
     refine mYp (i := 8) rfl (by kernel_rfl) (by kernel_rfl) hf rfl rfl rfl (fun _ => Y_fieldAddr rfl rfl fo55_1) ?_; clear hf; intro a hf
     refine mRun (i := 9) rfl (by kernel_rfl) ?_
     refine sStore (i := 1) (us := [.slice A602 xs604.length c603]) hf hs rfl rfl rfl rfl rfl rfl ti53 rfl rfl rfl (Nat.le_of_ble_eq_true rfl) rfl ?_; clear hs; intro w hs
     have hs : St _ W w [_, .blk b6 55 [.int .i64 (IntKind.i64.wrap (1 + r2.1)), .slice A602 xs604.length c603], _, _, _, _] := hs
     refine wpO_nil ⟨Or.inl (by decide), ?_⟩
     refine mDone (by kernel_rfl) ?_
     clear hs0
     refine wpL_nil (Qb_normal ?_)
     refine wpL_seq <| wpL_region ?_
     refine sY hf hs rfl rfl rfl (Y_load_blkS rfl rfl (i := 1) rfl ag55 ti55 rfl) ?_; clear hf; intro a hf
     refine sStore (i := 0) (us := [.int .i64 (IntKind.i64.wrap (1 + r2.1)), .slice A602 xs604.length c603]) hf hs rfl rfl rfl rfl rfl rfl ti55 rfl rfl rfl (Nat.le_of_ble_eq_true rfl) rfl ?_; clear hs; intro w hs
     have hs : St _ W w [.blk b1 55 [.int .i64 (IntKind.i64.wrap (1 + r2.1)), .slice A602 xs604.length c603], _, _, _, _, _] := hs
     refine wpO_nil ?_
     obtain rfl := Option.some.inj hm
     refine wpL_ret (ret_cell rfl hf rfl hs (i := 0) rfl ag55 ti55 rfl ?_)
     exact ⟨_, rfl, A602, xs604.length, c603, rfl, rfl, hs.sel [2, 4] (by decide)⟩
    ·have hm := bif_f hm hb585
     refine wpL_seq <| wpL_region ?_
     refine sY hf hs rfl rfl rfl (Y_eql rfl rfl rfl) ?_; clear hf; intro a hf
     refine sY hf hs rfl rfl rfl (Y_assign rfl rfl) ?_; clear hf; intro a hf
     refine wpO_nil ?_
     refine wpL_cond hf rfl (fun hb606 => ?_) (fun hb606 => ?_)
     ·have hm := bif_t hm hb606
      refine wpL_seq <| wpL_region ?_
      refine sY hf hs rfl rfl rfl (Y_assign rfl rfl) ?_; clear hf; intro a hf
      refine wpO_nil ?_
      obtain ⟨r657, hl658, hm⟩ := bind_some hm
      refine wpL_block (fun a w => ∃ x650 : Int, ∃ x651 : Int, ∃ xs652 : List GPlace, ∃ A653, ∃ n654, ∃ c655, (x650, x651, xs652) = r657 ∧ n654 = xs652.length ∧ Fr a 108 [(2, .pointer (some ⟨b1, 0, none⟩)), (3, .pointer (some ⟨b6, 0, none⟩))] ∧ St (muL [.blk b_p0 149 [.slice ae ad.length af, .int .i64 ar, .int .i64 am]]) W w [.blk b_p0 149 [.slice ae ad.length af, .int .i64 x650, .int .i64 x651], .blk b1 55 [.int .i64 0, .slice none 0 0], .blk b6 55 [.int .i64 (IntKind.i64.wrap (1 + r2.1)), .slice A653 n654 c655], .row A653 n654 c655 64 4 ((recs GPlace.cells) xs652)]) ?_ ?_
      ·refine wpL_loop (fun n a w => ∃ x633 : Int, ∃ x634 : Int, ∃ xs635 : List GPlace, ∃ x640 : Int, ∃ A636, ∃ n637, ∃ c638, spec_l11Draw_L2 F ad n x633 x634 xs635 x640 = some r657 ∧ n637 = xs635.length ∧ Fr a 108 [(0, .pointer (some ⟨b_p0, 0, none⟩)), (2, .pointer (some ⟨b1, 0, none⟩)), (3, .pointer (some ⟨b6, 0, none⟩)), (6, .int .i64 x640)] ∧ St (muL [.blk b_p0 149 [.slice ae ad.length af, .int .i64 ar, .int .i64 am]]) W w [.blk b_p0 149 [.slice ae ad.length af, .int .i64 x633, .int .i64 x634], .blk b1 55 [.int .i64 0, .slice none 0 0], .blk b6 55 [.int .i64 (IntKind.i64.wrap (1 + r2.1)), .slice A636 n637 c638], .row A636 n637 c638 64 4 ((recs GPlace.cells) xs635)]) F ?_ ?_ ?_
       ·exact ⟨r460.2.1, r460.2.2, xs345, 0, A346, n347, c348, hl658, hn349, (FrD.pick (FrD.pick (FrD.pick (FrD.pick hf.none hf rfl) hf rfl) hf rfl) hf rfl), hs.sel [3, 0, 1, 2] (by decide)⟩
       ·rintro a w ⟨x633, x634, xs635, x640, A636, n637, c638, h0_, -, -, -⟩; simp [spec_l11Draw_L2] at h0_
       ·rintro n660 a w ⟨x633, x634, xs635, x640, A636, n637, c638, hm659, hn639, hf, hs⟩
        rw [spec_l11Draw_L2] at hm659
        refine wpL_seq <| wpL_seq <| wpL_region ?_
        refine sY hf hs rfl rfl rfl (Y_move rfl rfl) ?_; clear hf; intro a hf
        refine sY hf hs rfl rfl rfl (Y_move rfl rfl) ?_; clear hf; intro a hf
        obtain ⟨r661, hc662, hm659⟩ := bind_some hm659
        refine sCall hf rfl rfl rfl rfl (cap := []) rfl rfl en93 (spec_l01Next_ok F b_p0 ad ae ad.length af rfl x633 x634 9 _ _ hc662 (aL.pass hs [0]) (hs.sel [0] (by decide)).rebase) ?_; clear hf
        rintro _ w ⟨rfl, hs1⟩ a hf
        have hs : St _ W w [_, _, _, .blk b_p0 149 [.slice ae ad.length af, .int .i64 r661.2.1, .int .i64 r661.2.2]] := St.mutTail (La := [_, _, _]) (Lb := [_]) (hs.sel [1, 2, 3, 0] (by decide)) hs1
        clear hs1
        refine sY hf hs rfl rfl rfl (Y_add rfl rfl rfl) ?_; clear hf; intro a hf
        refine sY hf hs rfl rfl rfl (Y_lss rfl rfl rfl) ?_; clear hf; intro a hf
        refine wpO_nil ?_
        refine wpL_cond hf rfl (fun hb663 => ?_) (fun hb663 => ?_)
        ·have hm659 := bif_t hm659 hb663
         refine wpL_skip <| wpL_seq <| wpL_block0 <| wpL_region ?_
         refine sY hf hs rfl rfl rfl (Y_fieldAddr rfl rfl fo55_1) ?_; clear hf; intro a hf
         refine sY hf hs rfl rfl rfl (Y_load_blk rfl rfl (i := 1) rfl rfl ag53) ?_; clear hf; intro a hf
         refine sY hf hs rfl rfl rfl (Y_move rfl rfl) ?_; clear hf; intro a hf
         refine sY hf hs rfl rfl rfl (Y_build (parts := [(2, .tmp 102), (3, .const (.int .i64 1))]) (vs := [.int .i64 x640, .int .i64 1]) rfl rfl (run_build (parts := [(2, .int .i64 x640), (3, .int .i64 1)]) (cells := [.int .i64 0, .int .i64 0, .int .i64 x640, .int .i64 1]) (places := #[(0, 1), (1, 1), (2, 1), (3, 1)]) ti64 Try.underlying64 (fun w => by simp [go_sem]) rfl)) ?_; clear hf; intro a hf
         refine sBuildSlice (parts := [(0, .tmp 103)]) (vs := [.agg #[.int .i64 0, .int .i64 0, .int .i64 x640, .int .i64 1]]) (cells := [.int .i64 0, .int .i64 0, .int .i64 x640, .int .i64 1]) hf hs rfl rfl rfl rfl rfl el53 ti64 rfl rfl rfl rfl ?_; clear hf hs; intro a w A664 hs hA665 hf
         have hs : St _ W w [_, _, _, _, .row A664 1 1 64 4 ((recs GPlace.cells) ([(GPlace.mk 0 0 x640 1)]))] := hs
         obtain ⟨xs668, ha669, hm659⟩ := bind_some hm659
         refine sAppendL (i := 2) (xs := xs635) (ys := [(GPlace.mk 0 0 x640 1)]) (enc := (recs GPlace.cells)) hf hs rfl rfl rfl rfl rfl rfl hn639 rfl rfl ha669 el53 ti64 rfl rfl rfl (hs.rd (i := 4) rfl) (Nat.succ_pos _) (recs_length GPlace.len) (recs_append GPlace.cells) (recs_one GPlace.one) ?_; clear hf hs; intro a w A666 c667 hs hf
         have hs : St _ W w [_, _, .row A666 xs668.length c667 64 4 ((recs GPlace.cells) xs668), _, _] := hs
         refine sY hf hs rfl rfl rfl (Y_fieldAddr rfl rfl fo55_1) ?_; clear hf; intro a hf
         refine sStore (i := 1) (us := [.slice A666 xs668.length c667]) hf hs rfl rfl rfl rfl rfl rfl ti53 rfl rfl rfl (Nat.le_of_ble_eq_true rfl) rfl ?_; clear hs; intro w hs
         have hs : St _ W w [_, .blk b6 55 [.int .i64 (IntKind.i64.wrap (1 + r2.1)), .slice A666 xs668.length c667], _, _, _] := hs
         refine wpO_nil ?_
         refine wpL_nil (Qb_normal ?_)
         refine wpL_region ?_
         refine sY hf hs rfl rfl rfl (Y_move rfl rfl) ?_; clear hf; intro a hf
         refine sY hf hs rfl rfl rfl (Y_add rfl rfl rfl) ?_; clear hf; intro a hf
         refine sY hf hs rfl rfl rfl (Y_assign rfl rfl) ?_; clear hf; intro a hf
         refine wpO_nil ?_
         refine wpL_nil (Ql_normal ?_)
         exact ⟨r661.2.1, r661.2.2, xs668, (IntKind.i64.wrap (x640 + 1)), A666, xs668.length, c667, hm659, rfl, (FrD.pick (FrD.pick (FrD.pick (FrD.pick hf.none hf rfl) hf rfl) hf rfl) hf rfl), hs.sel [3, 0, 1, 2] (by decide)⟩
        ·have hm659 := bif_f hm659 hb663
         refine wpL_exit (Ql_exit (Qb_exit ?_))
         exact ⟨r661.2.1, r661.2.2, xs635, A636, n637, c638, Option.some.inj hm659, hn639, (FrD.pick (FrD.pick hf.none hf rfl) hf rfl), hs.sel [3, 0, 1, 2] (by decide)⟩
      ·rintro a w ⟨x650, x651, xs652, A653, n654, c655, hr_, hn656, hf, hs⟩
       subst hr_
       try dsimp only at hm
       refine wpL_nil (Qb_normal ?_)
       refine wpL_seq <| wpL_region ?_
       refine sY hf hs rfl rfl rfl (Y_load_blkS rfl rfl (i := 2) rfl ag55 ti55 rfl) ?_; clear hf; intro a hf
       refine sStore (i := 1) (us := [.int .i64 (IntKind.i64.wrap (1 + r2.1)), .slice A653 n654 c655]) hf hs rfl rfl rfl rfl rfl rfl ti55 rfl rfl rfl (Nat.le_of_ble_eq_true rfl) rfl ?_; clear hs; intro w hs
       have hs : St _ W w [_, .blk b1 55 [.int .i64 (IntKind.i64.wrap (1 + r2.1)), .slice A653 n654 c655], _, _] := hs
       refine wpO_nil ?_
       obtain rfl := Option.some.inj hm
       refine wpL_ret (ret_cell rfl hf rfl hs (i := 1) rfl ag55 ti55 rfl ?_)
       exact ⟨_, rfl, A653, n654, c655, rfl, hn656, hs.sel [3, 0] (by decide)⟩
     ·have hm := bif_f hm hb606
      refine wpL_skip ?_
      refine wpL_nil (Qb_normal ?_)
      refine wpL_seq <| wpL_region ?_
      refine sY hf hs rfl rfl rfl (Y_load_blkS rfl rfl (i := 1) rfl ag55 ti55 rfl) ?_; clear hf; intro a hf
      refine sStore (i := 0) (us := [.int .i64 (IntKind.i64.wrap (1 + r2.1)), .slice A346 n347 c348]) hf hs rfl rfl rfl rfl rfl rfl ti55 rfl rfl rfl (Nat.le_of_ble_eq_true rfl) rfl ?_; clear hs; intro w hs
      have hs : St _ W w [.blk b1 55 [.int .i64 (IntKind.i64.wrap (1 + r2.1)), .slice A346 n347 c348], .blk b6 55 [.int .i64 (IntKind.i64.wrap (1 + r2.1)), .slice A346 n347 c348], .row A346 n347 c348 64 4 ((recs GPlace.cells) xs345), .blk b_p0 149 [.slice ae ad.length af, .int .i64 r460.2.1, .int .i64 r460.2.2]] := hs
      refine wpO_nil ?_
      obtain rfl := Option.some.inj hm
      refine wpL_ret (ret_cell rfl hf rfl hs (i := 0) rfl ag55 ti55 rfl ?_)
      exact ⟨_, rfl, A346, n347, c348, rfl, hn349, hs.sel [2, 3] (by decide)⟩

set_option maxRecDepth 100000 in
theorem spec_l15Draw_ok (F : Nat) (aj : Nat) (ac : List Int) (aa : Option Addr) (aF ab : Nat) (bE : aF = ac.length) (al : Int) (ak : Int) (r : (GEventGraph) × Int × Int) (W : World) (hm : spec_l15Draw F ac al ak = some r) (aG : KR (muL [.blk aj 149 [.slice aa aF ab, .int .i64 al, .int .i64 ak]]) W aa (bytes ac)) (hst : St (muL [.blk aj 149 [.slice aa aF ab, .int .i64 al, .int .i64 ak]]) W W [.blk aj 149 [.slice aa aF ab, .int .i64 al, .int .i64 ak]]) :
  Calls Try.prog 186 [.pointer (some ⟨aj, 0, none⟩)].toArray W fun e w' => ∃ v, e = .returned v ∧ ∃ A27, ∃ n28, ∃ c29, v = .agg #[.int .i64 r.1.Events, .slice A27 n28 c29] ∧ n28 = r.1.Places.length ∧ St (muL [.blk aj 149 [.slice aa aF ab, .int .i64 al, .int .i64 ak]]) W w' [.row A27 n28 c29 64 4 ((recs GPlace.cells) r.1.Places), .blk aj 149 [.slice aa aF ab, .int .i64 r.2.1, .int .i64 r.2.2]] := by
 subst bE
 unfold spec_l15Draw at hm
 refine Calls.enter (N := 20) Try.func186 rfl rfl rfl (fun a hf => ?_)
 have hs := hst
 obtain ⟨w, hw_⟩ : ∃ w, w = W := ⟨W, rfl⟩
 clear hw_ w
 refine wpL_seq <| wpL_region ?_
 refine sAlloc hf hs rfl rfl rfl rfl ti55 ?_; clear hf hs; intro a w b1 hs hf
 have hs : St _ W w [.blk aj 149 [.slice aa ac.length ab, .int .i64 al, .int .i64 ak], _] := hs
 refine wpO_nil <| wpL_seq <| wpL_region ?_
 refine sY hf hs rfl rfl rfl (Y_move rfl rfl) ?_; clear hf; intro a hf
 obtain ⟨r2, hc3, hm⟩ := bind_some hm
 refine sCall hf rfl rfl rfl rfl (cap := []) rfl rfl en170 (spec_l11Draw_ok F aj ac aa ac.length ab rfl al ak _ _ hc3 (aG.pass hs [0]) (hs.sel [0] (by decide)).rebase) ?_; clear hf
 rintro _ w ⟨A4, n5, c6, rfl, hn7, hs1⟩ a hf
 have hs : St _ W w [_, .row A4 n5 c6 64 4 ((recs GPlace.cells) r2.1.Places), .blk aj 149 [.slice aa ac.length ab, .int .i64 r2.2.1, .int .i64 r2.2.2]] := St.mutTail (La := [_]) (Lb := [_]) (hs.sel [1, 0] (by decide)) hs1
 clear hs1
 refine sAlloc hf hs rfl rfl rfl rfl ti55 ?_; clear hf hs; intro a w b8 hs hf
 have hs : St _ W w [_, _, _, .blk b8 55 [.int .i64 0, .slice none 0 0]] := hs
 refine sStore (i := 3) (us := [.int .i64 r2.1.Events, .slice A4 n5 c6]) hf hs rfl rfl rfl rfl rfl rfl ti55 rfl rfl rfl (Nat.le_of_ble_eq_true rfl) rfl ?_; clear hs; intro w hs
 have hs : St _ W w [_, _, _, .blk b8 55 [.int .i64 r2.1.Events, .slice A4 n5 c6]] := hs
 refine wpO_nil <| wpL_seq <| wpL_seq ?_
 obtain ⟨r11, hj12, hm⟩ := bind_some hm
 refine wpL_cut (fun a w => ∃ b10 : Bool, b10 = r11 ∧ Fr a 20 [(2, .pointer (some ⟨b1, 0, none⟩)), (3, .pointer (some ⟨b8, 0, none⟩)), (14, .bool b10)] ∧ St (muL [.blk aj 149 [.slice aa ac.length ab, .int .i64 al, .int .i64 ak]]) W w [.blk aj 149 [.slice aa ac.length ab, .int .i64 r2.2.1, .int .i64 r2.2.2], .blk b1 55 [.int .i64 0, .slice none 0 0], .blk b8 55 [.int .i64 r2.1.Events, .slice A4 n5 c6], .row A4 n5 c6 64 4 ((recs GPlace.cells) r2.1.Places)]) ?_ ?_
 ·refine wpL_region ?_
  refine sY hf hs rfl rfl rfl (Y_fieldAddr rfl rfl fo55_1) ?_; clear hf; intro a hf
  refine sY hf hs rfl rfl rfl (Y_load_blk rfl rfl (i := 3) rfl rfl ag53) ?_; clear hf; intro a hf
  refine sY hf hs rfl rfl rfl (Y_lenH rfl rfl el53 hn7) ?_; clear hf; intro a hf
  refine sY hf hs rfl rfl rfl (Y_gtr rfl rfl rfl) ?_; clear hf; intro a hf
  refine sY hf hs rfl rfl rfl (Y_move rfl rfl) ?_; clear hf; intro a hf
  refine bsplit (decide (20 < (r2.1.Places.length : Int))) (fun hb13 => ?_) (fun hb13 => ?_)
  ·have hj12 := bif_t hj12 hb13
   refine sYg hf hs rfl rfl rfl (congrArg (fun b => some (Value.bool b)) hb13) rfl rfl rfl (Y_fieldAddr rfl rfl fo55_0) ?_; clear hf; intro a hf
   refine sYg hf hs rfl rfl rfl (congrArg (fun b => some (Value.bool b)) hb13) rfl rfl rfl (Y_load_blk rfl rfl (i := 3) rfl rfl ag2) ?_; clear hf; intro a hf
   refine sYg hf hs rfl rfl rfl (congrArg (fun b => some (Value.bool b)) hb13) rfl rfl rfl (Y_gtr rfl rfl rfl) ?_; clear hf; intro a hf
   refine sY hf hs rfl rfl rfl (Y_pickT rfl (congrArg (fun b => some (Value.bool b)) hb13) rfl) ?_; clear hf; intro a hf
   refine wpO_nil ?_
   refine wpL_nil (then_normal ?_)
   exact ⟨(decide (2 < r2.1.Events)), Option.some.inj hj12, (FrD.pick (FrD.pick (FrD.pick hf.none hf rfl) hf rfl) hf rfl), hs.sel [2, 0, 3, 1] (by decide)⟩
  ·have hj12 := bif_f hj12 hb13
   refine sNo hf rfl rfl rfl (congrArg (fun b => some (Value.bool b)) hb13) rfl rfl rfl ?_; clear hf; intro a hf
   refine sNo hf rfl rfl rfl (congrArg (fun b => some (Value.bool b)) hb13) rfl rfl rfl ?_; clear hf; intro a hf
   refine sNo hf rfl rfl rfl (congrArg (fun b => some (Value.bool b)) hb13) rfl rfl rfl ?_; clear hf; intro a hf
   refine sY hf hs rfl rfl rfl (Y_pickF rfl (congrArg (fun b => some (Value.bool b)) hb13) rfl) ?_; clear hf; intro a hf
   refine wpO_nil ?_
   refine wpL_nil (then_normal ?_)
   exact ⟨false, Option.some.inj hj12, (FrD.pick (FrD.pick (FrD.pick hf.none hf rfl) hf rfl) hf rfl), hs.sel [2, 0, 3, 1] (by decide)⟩
 ·rintro a w ⟨b10, hr_, hf, hs⟩
  subst hr_
  try dsimp only at hm
  obtain ⟨r22, hj23, hm⟩ := bind_some hm
  refine wpL_cut (fun a w => ∃ xs17 : List GPlace, ∃ A18, ∃ n19, ∃ c20, xs17 = r22 ∧ n19 = xs17.length ∧ Fr a 20 [(2, .pointer (some ⟨b1, 0, none⟩)), (3, .pointer (some ⟨b8, 0, none⟩))] ∧ St (muL [.blk aj 149 [.slice aa ac.length ab, .int .i64 al, .int .i64 ak]]) W w [.blk aj 149 [.slice aa ac.length ab, .int .i64 r2.2.1, .int .i64 r2.2.2], .blk b1 55 [.int .i64 0, .slice none 0 0], .blk b8 55 [.int .i64 r2.1.Events, .slice A18 n19 c20], .row A18 n19 c20 64 4 ((recs GPlace.cells) xs17)]) ?_ ?_
  ·refine wpL_cond hf rfl (fun hb24 => ?_) (fun hb24 => ?_)
   ·have hj23 := bif_t hj23 hb24
    refine wpL_region ?_
    refine sY hf hs rfl rfl rfl (Y_fieldAddr rfl rfl fo55_1) ?_; clear hf; intro a hf
    refine sY hf hs rfl rfl rfl (Y_load_blk rfl rfl (i := 2) rfl rfl ag53) ?_; clear hf; intro a hf
    obtain ⟨xs26, hk25, hj23⟩ := bind_some hj23
    refine sY hf hs rfl rfl rfl (Y_sliceH rfl rfl rfl (cutTo_some hk25).1 (leC hn7 (hs.capR (i := 3) rfl) hk25) el53 ti64) ?_; clear hf; intro a hf
    have hs := (St.cutRecs GPlace.len hs (i := 3) rfl hn7 hk25)
    have hs : St _ W _ [_, _, _, .row A4 (20 : Int).toNat c6 64 4 ((recs GPlace.cells) xs26)] := hs
    refine sY hf hs rfl rfl rfl (Y_fieldAddr rfl rfl fo55_1) ?_; clear hf; intro a hf
    refine sStore (i := 2) (us := [.slice A4 ((20 : Int).toNat) c6]) hf hs rfl rfl rfl rfl rfl rfl ti53 rfl rfl rfl (Nat.le_of_ble_eq_true rfl) rfl ?_; clear hs; intro w hs
    have hs : St _ W w [_, _, .blk b8 55 [.int .i64 r2.1.Events, .slice A4 ((20 : Int).toNat) c6], _] := hs
    refine wpO_nil ?_
    refine wpL_nil (then_normal ?_)
    exact ⟨xs26, A4, (20 : Int).toNat, c6, Option.some.inj hj23, (pre_len hk25), (FrD.pick (FrD.pick hf.none hf rfl) hf rfl), hs⟩
   ·have hj23 := bif_f hj23 hb24
    refine wpL_skip ?_
    refine wpL_nil (then_normal ?_)
    exact ⟨r2.1.Places, A4, n5, c6, Option.some.inj hj23, hn7, (FrD.pick (FrD.pick hf.none hf rfl) hf rfl), hs⟩
  ·rintro a w ⟨xs17, A18, n19, c20, hr_, hn21, hf, hs⟩
   subst hr_
   try dsimp only at hm
   refine wpL_seq <| wpL_region ?_
   refine sY hf hs rfl rfl rfl (Y_load_blkS rfl rfl (i := 2) rfl ag55 ti55 rfl) ?_; clear hf; intro a hf
   refine sStore (i := 1) (us := [.int .i64 r2.1.Events, .slice A18 n19 c20]) hf hs rfl rfl rfl rfl rfl rfl ti55 rfl rfl rfl (Nat.le_of_ble_eq_true rfl) rfl ?_; clear hs; intro w hs
   have hs : St _ W w [_, .blk b1 55 [.int .i64 r2.1.Events, .slice A18 n19 c20], _, _] := hs
   refine wpO_nil ?_
   obtain rfl := Option.some.inj hm
   refine wpL_ret (ret_cell rfl hf rfl hs (i := 1) rfl ag55 ti55 rfl ?_)
   exact ⟨_, rfl, A18, n19, c20, rfl, hn21, hs.sel [3, 0] (by decide)⟩

set_option maxRecDepth 100000 in
theorem spec_l12Draw_ok (F : Nat) (aj : Nat) (ac : List Int) (aa : Option Addr) (aF ab : Nat) (bE : aF = ac.length) (al : Int) (ak : Int) (r : (GEventGraph) × Int × Int) (W : World) (hm : spec_l12Draw F ac al ak = some r) (aG : KR (muL [.blk aj 149 [.slice aa aF ab, .int .i64 al, .int .i64 ak]]) W aa (bytes ac)) (hst : St (muL [.blk aj 149 [.slice aa aF ab, .int .i64 al, .int .i64 ak]]) W W [.blk aj 149 [.slice aa aF ab, .int .i64 al, .int .i64 ak]]) :
  Calls Try.prog 171 [.pointer (some ⟨aj, 0, none⟩)].toArray W fun e w' => ∃ v, e = .returned v ∧ ∃ A79, ∃ n80, ∃ c81, v = .agg #[.int .i64 r.1.Events, .slice A79 n80 c81] ∧ n80 = r.1.Places.length ∧ St (muL [.blk aj 149 [.slice aa aF ab, .int .i64 al, .int .i64 ak]]) W w' [.row A79 n80 c81 64 4 ((recs GPlace.cells) r.1.Places), .blk aj 149 [.slice aa aF ab, .int .i64 r.2.1, .int .i64 r.2.2]] := by
 subst bE
 unfold spec_l12Draw at hm
 refine Calls.enter (N := 27) Try.func171 rfl rfl rfl (fun a hf => ?_)
 have hs := hst
 obtain ⟨w, hw_⟩ : ∃ w, w = W := ⟨W, rfl⟩
 clear hw_ w
 refine wpL_seq <| wpL_region ?_
 refine sAlloc hf hs rfl rfl rfl rfl ti55 ?_; clear hf hs; intro a w b1 hs hf
 have hs : St _ W w [.blk aj 149 [.slice aa ac.length ab, .int .i64 al, .int .i64 ak], _] := hs
 refine wpO_nil <| wpL_seq <| wpL_region ?_
 refine sY hf hs rfl rfl rfl (Y_move rfl rfl) ?_; clear hf; intro a hf
 obtain ⟨r2, hc3, hm⟩ := bind_some hm
 refine sCall hf rfl rfl rfl rfl (cap := []) rfl rfl en170 (spec_l11Draw_ok F aj ac aa ac.length ab rfl al ak _ _ hc3 (aG.pass hs [0]) (hs.sel [0] (by decide)).rebase) ?_; clear hf
 rintro _ w ⟨A4, n5, c6, rfl, hn7, hs1⟩ a hf
 have hs : St _ W w [_, .row A4 n5 c6 64 4 ((recs GPlace.cells) r2.1.Places), .blk aj 149 [.slice aa ac.length ab, .int .i64 r2.2.1, .int .i64 r2.2.2]] := St.mutTail (La := [_]) (Lb := [_]) (hs.sel [1, 0] (by decide)) hs1
 clear hs1
 refine sAlloc hf hs rfl rfl rfl rfl ti55 ?_; clear hf hs; intro a w b8 hs hf
 have hs : St _ W w [_, _, _, .blk b8 55 [.int .i64 0, .slice none 0 0]] := hs
 refine sStore (i := 3) (us := [.int .i64 r2.1.Events, .slice A4 n5 c6]) hf hs rfl rfl rfl rfl rfl rfl ti55 rfl rfl rfl (Nat.le_of_ble_eq_true rfl) rfl ?_; clear hs; intro w hs
 have hs : St _ W w [_, _, _, _] := hs
 refine wpO_nil <| wpL_seq <| wpL_seq <| wpL_region ?_
 refine sY hf hs rfl rfl rfl (Y_assign rfl rfl) ?_; clear hf; intro a hf
 refine wpO_nil ?_
 obtain ⟨r62, hl63, hm⟩ := bind_some hm
 refine wpL_block (fun a w => ∃ x58 : Int, ∃ x59 : Int, ∃ xs60 : List GPlace, (x58, x59, xs60) = r62 ∧ n5 = xs60.length ∧ Fr a 27 [(2, .pointer (some ⟨b1, 0, none⟩)), (3, .pointer (some ⟨b8, 0, none⟩))] ∧ St (muL [.blk aj 149 [.slice aa ac.length ab, .int .i64 al, .int .i64 ak]]) W w [.blk aj 149 [.slice aa ac.length ab, .int .i64 x58, .int .i64 x59], .blk b1 55 [.int .i64 0, .slice none 0 0], .blk b8 55 [.int .i64 r2.1.Events, .slice A4 n5 c6], .row A4 n5 c6 64 4 ((recs GPlace.cells) xs60)]) ?_ ?_
 ·refine wpL_loop (fun n a w => ∃ x40 : Int, ∃ x41 : Int, ∃ xs42 : List GPlace, ∃ x44 : Int, spec_l12Draw_L1 F ac n x40 x41 xs42 x44 = some r62 ∧ n5 = xs42.length ∧ Fr a 27 [(0, .pointer (some ⟨aj, 0, none⟩)), (2, .pointer (some ⟨b1, 0, none⟩)), (3, .pointer (some ⟨b8, 0, none⟩)), (4, .int .i64 x44)] ∧ St (muL [.blk aj 149 [.slice aa ac.length ab, .int .i64 al, .int .i64 ak]]) W w [.blk aj 149 [.slice aa ac.length ab, .int .i64 x40, .int .i64 x41], .blk b1 55 [.int .i64 0, .slice none 0 0], .blk b8 55 [.int .i64 r2.1.Events, .slice A4 n5 c6], .row A4 n5 c6 64 4 ((recs GPlace.cells) xs42)]) F ?_ ?_ ?_
  ·exact ⟨r2.2.1, r2.2.2, r2.1.Places, 0, hl63, hn7, (FrD.pick (FrD.pick (FrD.pick (FrD.pick hf.none hf rfl) hf rfl) hf rfl) hf rfl), hs.sel [2, 0, 3, 1] (by decide)⟩
  ·rintro a w ⟨x40, x41, xs42, x44, h0_, -, -, -⟩; simp [spec_l12Draw_L1] at h0_
  ·rintro n65 a w ⟨x40, x41, xs42, x44, hm64, hn43, hf, hs⟩
   rw [spec_l12Draw_L1] at hm64
   refine wpL_seq <| wpL_seq ?_
   obtain ⟨r68, hj69, hm64⟩ := bind_some hm64
   refine wpL_cut (fun a w => ∃ b67 : Bool, b67 = r68 ∧ Fr a 27 [(0, .pointer (some ⟨aj, 0, none⟩)), (2, .pointer (some ⟨b1, 0, none⟩)), (3, .pointer (some ⟨b8, 0, none⟩)), (4, .int .i64 x44), (15, .bool b67)] ∧ St (muL [.blk aj 149 [.slice aa ac.length ab, .int .i64 al, .int .i64 ak]]) W w [.blk aj 149 [.slice aa ac.length ab, .int .i64 x40, .int .i64 x41], .blk b1 55 [.int .i64 0, .slice none 0 0], .blk b8 55 [.int .i64 r2.1.Events, .slice A4 n5 c6], .row A4 n5 c6 64 4 ((recs GPlace.cells) xs42)]) ?_ ?_
   ·refine wpL_region ?_
    refine sY hf hs rfl rfl rfl (Y_move rfl rfl) ?_; clear hf; intro a hf
    refine sY hf hs rfl rfl rfl (Y_fieldAddr rfl rfl fo55_1) ?_; clear hf; intro a hf
    refine sY hf hs rfl rfl rfl (Y_load_blk rfl rfl (i := 2) rfl rfl ag53) ?_; clear hf; intro a hf
    refine sY hf hs rfl rfl rfl (Y_lenH rfl rfl el53 hn43) ?_; clear hf; intro a hf
    refine sY hf hs rfl rfl rfl (Y_lss rfl rfl rfl) ?_; clear hf; intro a hf
    refine sY hf hs rfl rfl rfl (Y_move rfl rfl) ?_; clear hf; intro a hf
    refine bsplit (decide (x44 < (xs42.length : Int))) (fun hb70 => ?_) (fun hb70 => ?_)
    ·have hj69 := bif_t hj69 hb70
     refine sYg hf hs rfl rfl rfl (congrArg (fun b => some (Value.bool b)) hb70) rfl rfl rfl (Y_move rfl rfl) ?_; clear hf; intro a hf
     refine sYg hf hs rfl rfl rfl (congrArg (fun b => some (Value.bool b)) hb70) rfl rfl rfl (Y_lss rfl rfl rfl) ?_; clear hf; intro a hf
     refine sY hf hs rfl rfl rfl (Y_pickT rfl (congrArg (fun b => some (Value.bool b)) hb70) rfl) ?_; clear hf; intro a hf
     refine wpO_nil ?_
     refine wpL_nil (then_normal ?_)
     exact ⟨(decide (x44 < 9)), Option.some.inj hj69, (FrD.pick (FrD.pick (FrD.pick (FrD.pick (FrD.pick hf.none hf rfl) hf rfl) hf rfl) hf rfl) hf rfl), hs⟩
    ·have hj69 := bif_f hj69 hb70
     refine sNo hf rfl rfl rfl (congrArg (fun b => some (Value.bool b)) hb70) rfl rfl rfl ?_; clear hf; intro a hf
     refine sNo hf rfl rfl rfl (congrArg (fun b => some (Value.bool b)) hb70) rfl rfl rfl ?_; clear hf; intro a hf
     refine sY hf hs rfl rfl rfl (Y_pickF rfl (congrArg (fun b => some (Value.bool b)) hb70) rfl) ?_; clear hf; intro a hf
     refine wpO_nil ?_
     refine wpL_nil (then_normal ?_)
     exact ⟨false, Option.some.inj hj69, (FrD.pick (FrD.pick (FrD.pick (FrD.pick (FrD.pick hf.none hf rfl) hf rfl) hf rfl) hf rfl) hf rfl), hs⟩
   ·rintro a w ⟨b67, hr_, hf, hs⟩
    subst hr_
    try dsimp only at hm64
    refine wpL_cond hf rfl (fun hb71 => ?_) (fun hb71 => ?_)
    ·have hm64 := bif_t hm64 hb71
     refine wpL_skip <| wpL_seq <| wpL_block0 <| wpL_seq <| wpL_region ?_
     refine sY hf hs rfl rfl rfl (Y_move rfl rfl) ?_; clear hf; intro a hf
     obtain ⟨r72, hc73, hm64⟩ := bind_some hm64
     refine sCall hf rfl rfl rfl rfl (cap := []) rfl rfl en93 (spec_l01Next_ok F aj ac aa ac.length ab rfl x40 x41 12 _ _ hc73 (aG.pass hs [0]) (hs.sel [0] (by decide)).rebase) ?_; clear hf
     rintro _ w ⟨rfl, hs1⟩ a hf
     have hs : St _ W w [_, _, _, .blk aj 149 [.slice aa ac.length ab, .int .i64 r72.2.1, .int .i64 r72.2.2]] := St.mutTail (La := [_, _, _]) (Lb := [_]) (hs.sel [1, 2, 3, 0] (by decide)) hs1
     clear hs1
     refine sY hf hs rfl rfl rfl (Y_eql rfl rfl rfl) ?_; clear hf; intro a hf
     refine wpO_nil ?_
     refine wpL_cond hf rfl (fun hb74 => ?_) (fun hb74 => ?_)
     ·have hm64 := bif_t hm64 hb74
      refine wpL_region ?_
      refine sY hf hs rfl rfl rfl (Y_fieldAddr rfl rfl fo55_1) ?_; clear hf; intro a hf
      refine sY hf hs rfl rfl rfl (Y_load_blk rfl rfl (i := 1) rfl rfl ag53) ?_; clear hf; intro a hf
      refine sY hf hs rfl rfl rfl (Y_move rfl rfl) ?_; clear hf; intro a hf
      obtain ⟨q75, hi76, hm64⟩ := bind_some hm64
      obtain ⟨hi76a, hi76b, hi76q⟩ := idx_some hi76
      refine sY hf hs rfl rfl rfl (Y_index rfl rfl rfl el53 ti64 (Rd.isAt (hs.rd (i := 2) rfl) (recs_at (s := 4) GPlace.len hi76q (j := 0) rfl)) hi76a (ltn hn43 hi76b)) ?_; clear hf; intro a hf
      refine sY hf hs rfl rfl rfl (Y_fieldAddrE rfl rfl fo64_3) ?_; clear hf; intro a hf
      obtain ⟨xs77, hu78, hm64⟩ := bind_some hm64
      refine sStoreF (i := 2) (s := 4) (fo := 3) (f := GPlace.cells) (x' := (GPlace.mk q75.From q75.To q75.Delay 0)) hf hs rfl rfl rfl rfl rfl rfl hi76q hu78 ti2 rfl rfl rfl GPlace.len rfl rfl ?_; clear hs; intro w hs
      have hs : St _ W w [_, _, .row A4 n5 c6 64 4 ((recs GPlace.cells) xs77), _] := hs
      refine wpO_nil ?_
      refine wpL_nil (Qb_normal ?_)
      refine wpL_region ?_
      refine sY hf hs rfl rfl rfl (Y_move rfl rfl) ?_; clear hf; intro a hf
      refine sY hf hs rfl rfl rfl (Y_add rfl rfl rfl) ?_; clear hf; intro a hf
      refine sY hf hs rfl rfl rfl (Y_assign rfl rfl) ?_; clear hf; intro a hf
      refine wpO_nil ?_
      refine wpL_nil (Ql_normal ?_)
      exact ⟨r72.2.1, r72.2.2, xs77, (IntKind.i64.wrap (x44 + 1)), hm64, ((hn43).trans (upd_len hu78).symm), (FrD.pick (FrD.pick (FrD.pick (FrD.pick hf.none hf rfl) hf rfl) hf rfl) hf rfl), hs.sel [3, 0, 1, 2] (by decide)⟩
     ·have hm64 := bif_f hm64 hb74
      refine wpL_skip ?_
      refine wpL_nil (Qb_normal ?_)
      refine wpL_region ?_
      refine sY hf hs rfl rfl rfl (Y_move rfl rfl) ?_; clear hf; intro a hf
      refine sY hf hs rfl rfl rfl (Y_add rfl rfl rfl) ?_; clear hf; intro a hf
      refine sY hf hs rfl rfl rfl (Y_assign rfl rfl) ?_; clear hf; intro a hf
      refine wpO_nil ?_
      refine wpL_nil (Ql_normal ?_)
      exact ⟨r72.2.1, r72.2.2, xs42, (IntKind.i64.wrap (x44 + 1)), hm64, hn43, (FrD.pick (FrD.pick (FrD.pick (FrD.pick hf.none hf rfl) hf rfl) hf rfl) hf rfl), hs.sel [3, 0, 1, 2] (by decide)⟩
    ·have hm64 := bif_f hm64 hb71
     refine wpL_exit (Ql_exit (Qb_exit ?_))
     exact ⟨x40, x41, xs42, Option.some.inj hm64, hn43, (FrD.pick (FrD.pick hf.none hf rfl) hf rfl), hs⟩
 ·rintro a w ⟨x58, x59, xs60, hr_, hn61, hf, hs⟩
  subst hr_
  try dsimp only at hm
  refine wpL_seq <| wpL_region ?_
  refine sY hf hs rfl rfl rfl (Y_load_blkS rfl rfl (i := 2) rfl ag55 ti55 rfl) ?_; clear hf; intro a hf
  refine sStore (i := 1) (us := [.int .i64 r2.1.Events, .slice A4 n5 c6]) hf hs rfl rfl rfl rfl rfl rfl ti55 rfl rfl rfl (Nat.le_of_ble_eq_true rfl) rfl ?_; clear hs; intro w hs
  have hs : St _ W w [_, .blk b1 55 [.int .i64 r2.1.Events, .slice A4 n5 c6], _, _] := hs
  refine wpO_nil ?_
  obtain rfl := Option.some.inj hm
  refine wpL_ret (ret_cell rfl hf rfl hs (i := 1) rfl ag55 ti55 rfl ?_)
  exact ⟨_, rfl, A4, n5, c6, rfl, hn61, hs.sel [3, 0] (by decide)⟩

set_option maxRecDepth 100000 in
theorem spec_l01In_ok (F : Nat) (ci : Int) (bX : Int) (bR : Int) (r : Bool) (W : World) (hm : spec_l01In F ci bX bR = some r) :
  Calls Try.prog 77 [.int .i64 ci, .int .i64 bX, .int .i64 bR].toArray W fun e w' => ∃ v, e = .returned v ∧ v = .bool r ∧ St [] W w' [] := by
 unfold spec_l01In at hm
 refine Calls.enter (N := 15) Try.func77 rfl rfl rfl (fun a hf => ?_)
 have hs := St.start W
 obtain ⟨w, hw_⟩ : ∃ w, w = W := ⟨W, rfl⟩
 clear hw_ w
 refine wpL_seq <| wpL_region ?_
 refine sY hf hs rfl rfl rfl (Y_assign rfl rfl) ?_; clear hf; intro a hf
 refine wpO_nil <| wpL_seq ?_
 obtain ⟨r3, hj4, hm⟩ := bind_some hm
 refine wpL_cut (fun a w => ∃ b2 : Bool, b2 = r3 ∧ Fr a 15 [(6, .bool b2)] ∧ St [] W w []) ?_ ?_
 ·refine wpL_region ?_
  refine sY hf hs rfl rfl rfl (Y_move rfl rfl) ?_; clear hf; intro a hf
  refine sY hf hs rfl rfl rfl (Y_move rfl rfl) ?_; clear hf; intro a hf
  refine sY hf hs rfl rfl rfl (Y_geq rfl rfl rfl) ?_; clear hf; intro a hf
  refine sY hf hs rfl rfl rfl (Y_move rfl rfl) ?_; clear hf; intro a hf
  refine bsplit (decide (bX ≤ ci)) (fun hb5 => ?_) (fun hb5 => ?_)
  ·have hj4 := bif_t hj4 hb5
   refine sYg hf hs rfl rfl rfl (congrArg (fun b => some (Value.bool b)) hb5) rfl rfl rfl (Y_move rfl rfl) ?_; clear hf; intro a hf
   refine sYg hf hs rfl rfl rfl (congrArg (fun b => some (Value.bool b)) hb5) rfl rfl rfl (Y_move rfl rfl) ?_; clear hf; intro a hf
   refine sYg hf hs rfl rfl rfl (congrArg (fun b => some (Value.bool b)) hb5) rfl rfl rfl (Y_leq rfl rfl rfl) ?_; clear hf; intro a hf
   refine sY hf hs rfl rfl rfl (Y_pickT rfl (congrArg (fun b => some (Value.bool b)) hb5) rfl) ?_; clear hf; intro a hf
   refine sY hf hs rfl rfl rfl (Y_assign rfl rfl) ?_; clear hf; intro a hf
   refine wpO_nil ?_
   refine wpL_nil (then_normal ?_)
   exact ⟨(decide (ci ≤ bR)), Option.some.inj hj4, (FrD.pick hf.none hf rfl), hs⟩
  ·have hj4 := bif_f hj4 hb5
   refine sNo hf rfl rfl rfl (congrArg (fun b => some (Value.bool b)) hb5) rfl rfl rfl ?_; clear hf; intro a hf
   refine sNo hf rfl rfl rfl (congrArg (fun b => some (Value.bool b)) hb5) rfl rfl rfl ?_; clear hf; intro a hf
   refine sNo hf rfl rfl rfl (congrArg (fun b => some (Value.bool b)) hb5) rfl rfl rfl ?_; clear hf; intro a hf
   refine sY hf hs rfl rfl rfl (Y_pickF rfl (congrArg (fun b => some (Value.bool b)) hb5) rfl) ?_; clear hf; intro a hf
   refine sY hf hs rfl rfl rfl (Y_assign rfl rfl) ?_; clear hf; intro a hf
   refine wpO_nil ?_
   refine wpL_nil (then_normal ?_)
   exact ⟨false, Option.some.inj hj4, (FrD.pick hf.none hf rfl), hs⟩
 ·rintro a w ⟨b2, hr_, hf, hs⟩
  subst hr_
  try dsimp only at hm
  obtain rfl := Option.some.inj hm
  refine wpL_ret (ret_tmp rfl hf rfl ?_)
  exact ⟨_, rfl, rfl, hs⟩

set_option maxRecDepth 100000 in
theorem spec_l11Place_ok (F : Nat) (aO : GPlace) (cA : Int) (r : Bool) (W : World) (hm : spec_l11Place F aO cA = some r) :
  Calls Try.prog 185 [.agg #[.int .i64 aO.From, .int .i64 aO.To, .int .i64 aO.Delay, .int .i64 aO.Tokens], .int .i64 cA].toArray W fun e w' => ∃ v, e = .returned v ∧ v = .bool r ∧ St [] W w' [] := by
 unfold spec_l11Place at hm
 refine Calls.enter (N := 27) Try.func185 rfl rfl rfl (fun a hf => ?_)
 have hs := St.start W
 obtain ⟨w, hw_⟩ : ∃ w, w = W := ⟨W, rfl⟩
 clear hw_ w
 refine wpL_seq <| wpL_region ?_
 refine sBox hf hs rfl rfl rfl rfl rfl (cs := [.int .i64 aO.From, .int .i64 aO.To, .int .i64 aO.Delay, .int .i64 aO.Tokens]) rfl ?_; clear hf hs; intro a w b1 hs hf
 have hs : St _ W w [.blk b1 64 [.int .i64 aO.From, .int .i64 aO.To, .int .i64 aO.Delay, .int .i64 aO.Tokens]] := hs
 refine sY hf hs rfl rfl rfl (Y_assign rfl rfl) ?_; clear hf; intro a hf
 refine wpO_nil <| wpL_seq ?_
 obtain ⟨r14, hj15, hm⟩ := bind_some hm
 refine wpL_cut (fun a w => ∃ b13 : Bool, b13 = r14 ∧ Fr a 27 [(4, .bool b13)] ∧ St [] W w []) ?_ ?_
 ·refine wpL_region ?_
  refine sY hf hs rfl rfl rfl (Y_fieldAddr rfl rfl fo64_0) ?_; clear hf; intro a hf
  refine sY hf hs rfl rfl rfl (Y_load_blk rfl rfl (i := 0) rfl rfl ag2) ?_; clear hf; intro a hf
  refine sY hf hs rfl rfl rfl (Y_move rfl rfl) ?_; clear hf; intro a hf
  refine sY hf hs rfl rfl rfl (Y_sub rfl rfl rfl) ?_; clear hf; intro a hf
  obtain ⟨r16, hc17, hj15⟩ := bind_some hj15
  refine sCall hf rfl rfl rfl rfl (cap := []) rfl rfl en77 (spec_l01In_ok F aO.From 0 (IntKind.i64.wrap (cA - 1)) _ _ hc17) ?_; clear hf
  rintro _ w ⟨rfl, hs1⟩ a hf
  have hs : St _ W w [_] := hs.ext hs1.below
  clear hs1
  refine sY hf hs rfl rfl rfl (Y_move rfl rfl) ?_; clear hf; intro a hf
  refine bsplit r16 (fun hb18 => ?_) (fun hb18 => ?_)
  ·have hj15 := bif_t hj15 hb18
   refine sYg hf hs rfl rfl rfl (congrArg (fun b => some (Value.bool b)) hb18) rfl rfl rfl (Y_fieldAddr rfl rfl fo64_1) ?_; clear hf; intro a hf
   refine sYg hf hs rfl rfl rfl (congrArg (fun b => some (Value.bool b)) hb18) rfl rfl rfl (Y_load_blk rfl rfl (i := 0) rfl rfl ag2) ?_; clear hf; intro a hf
   refine sYg hf hs rfl rfl rfl (congrArg (fun b => some (Value.bool b)) hb18) rfl rfl rfl (Y_move rfl rfl) ?_; clear hf; intro a hf
   refine sYg hf hs rfl rfl rfl (congrArg (fun b => some (Value.bool b)) hb18) rfl rfl rfl (Y_sub rfl rfl rfl) ?_; clear hf; intro a hf
   obtain ⟨r19, hc20, hj15⟩ := bind_some hj15
   refine sCallg hf rfl rfl rfl (congrArg (fun b => some (Value.bool b)) hb18) rfl rfl rfl rfl (cap := []) rfl rfl en77 (spec_l01In_ok F aO.To 0 (IntKind.i64.wrap (cA - 1)) _ _ hc20) ?_; clear hf
   rintro _ w ⟨rfl, hs1⟩ a hf
   have hs : St _ W w [_] := hs.ext hs1.below
   clear hs1
   refine sY hf hs rfl rfl rfl (Y_pickT rfl (congrArg (fun b => some (Value.bool b)) hb18) rfl) ?_; clear hf; intro a hf
   refine sY hf hs rfl rfl rfl (Y_move rfl rfl) ?_; clear hf; intro a hf
   refine bsplit r19 (fun hb21 => ?_) (fun hb21 => ?_)
   ·have hj15 := bif_t hj15 hb21
    refine sYg hf hs rfl rfl rfl (congrArg (fun b => some (Value.bool b)) hb21) rfl rfl rfl (Y_fieldAddr rfl rfl fo64_2) ?_; clear hf; intro a hf
    refine sYg hf hs rfl rfl rfl (congrArg (fun b => some (Value.bool b)) hb21) rfl rfl rfl (Y_load_blk rfl rfl (i := 0) rfl rfl ag2) ?_; clear hf; intro a hf
    obtain ⟨r22, hc23, hj15⟩ := bind_some hj15
    refine sCallg hf rfl rfl rfl (congrArg (fun b => some (Value.bool b)) hb21) rfl rfl rfl rfl (cap := []) rfl rfl en77 (spec_l01In_ok F aO.Delay 0 1000 _ _ hc23) ?_; clear hf
    rintro _ w ⟨rfl, hs1⟩ a hf
    have hs : St _ W w [_] := hs.ext hs1.below
    clear hs1
    refine sY hf hs rfl rfl rfl (Y_pickT rfl (congrArg (fun b => some (Value.bool b)) hb21) rfl) ?_; clear hf; intro a hf
    refine sY hf hs rfl rfl rfl (Y_move rfl rfl) ?_; clear hf; intro a hf
    refine bsplit r22 (fun hb24 => ?_) (fun hb24 => ?_)
    ·have hj15 := bif_t hj15 hb24
     refine sYg hf hs rfl rfl rfl (congrArg (fun b => some (Value.bool b)) hb24) rfl rfl rfl (Y_fieldAddr rfl rfl fo64_3) ?_; clear hf; intro a hf
     refine sYg hf hs rfl rfl rfl (congrArg (fun b => some (Value.bool b)) hb24) rfl rfl rfl (Y_load_blk rfl rfl (i := 0) rfl rfl ag2) ?_; clear hf; intro a hf
     obtain ⟨r25, hc26, hj15⟩ := bind_some hj15
     refine sCallg hf rfl rfl rfl (congrArg (fun b => some (Value.bool b)) hb24) rfl rfl rfl rfl (cap := []) rfl rfl en77 (spec_l01In_ok F aO.Tokens 0 5 _ _ hc26) ?_; clear hf
     rintro _ w ⟨rfl, hs1⟩ a hf
     have hs : St _ W w [_] := hs.ext hs1.below
     clear hs1
     refine sY hf hs rfl rfl rfl (Y_pickT rfl (congrArg (fun b => some (Value.bool b)) hb24) rfl) ?_; clear hf; intro a hf
     refine sY hf hs rfl rfl rfl (Y_assign rfl rfl) ?_; clear hf; intro a hf
     refine wpO_nil ?_
     refine wpL_nil (then_normal ?_)
     exact ⟨r25, Option.some.inj hj15, (FrD.pick hf.none hf rfl), hs.sel [] (by decide)⟩
    ·have hj15 := bif_f hj15 hb24
     refine sNo hf rfl rfl rfl (congrArg (fun b => some (Value.bool b)) hb24) rfl rfl rfl ?_; clear hf; intro a hf
     refine sNo hf rfl rfl rfl (congrArg (fun b => some (Value.bool b)) hb24) rfl rfl rfl ?_; clear hf; intro a hf
     refine sNo hf rfl rfl rfl (congrArg (fun b => some (Value.bool b)) hb24) rfl rfl rfl ?_; clear hf; intro a hf
     refine sY hf hs rfl rfl rfl (Y_pickF rfl (congrArg (fun b => some (Value.bool b)) hb24) rfl) ?_; clear hf; intro a hf
     refine sY hf hs rfl rfl rfl (Y_assign rfl rfl) ?_; clear hf; intro a hf
     refine wpO_nil ?_
     refine wpL_nil (then_normal ?_)
     exact ⟨false, Option.some.inj hj15, (FrD.pick hf.none hf rfl), hs.sel [] (by decide)⟩
   ·have hj15 := bif_f hj15 hb21
    refine sNo hf rfl rfl rfl (congrArg (fun b => some (Value.bool b)) hb21) rfl rfl rfl ?_; clear hf; intro a hf
    refine sNo hf rfl rfl rfl (congrArg (fun b => some (Value.bool b)) hb21) rfl rfl rfl ?_; clear hf; intro a hf
    refine sNo hf rfl rfl rfl (congrArg (fun b => some (Value.bool b)) hb21) rfl rfl rfl ?_; clear hf; intro a hf
    refine sY hf hs rfl rfl rfl (Y_pickF rfl (congrArg (fun b => some (Value.bool b)) hb21) rfl) ?_; clear hf; intro a hf
    refine sY hf hs rfl rfl rfl (Y_move rfl rfl) ?_; clear hf; intro a hf
    refine sNo hf rfl rfl rfl rfl rfl rfl rfl ?_; clear hf; intro a hf
    refine sNo hf rfl rfl rfl rfl rfl rfl rfl ?_; clear hf; intro a hf
    refine sNo hf rfl rfl rfl rfl rfl rfl rfl ?_; clear hf; intro a hf
    refine sY hf hs rfl rfl rfl (Y_pickF rfl rfl rfl) ?_; clear hf; intro a hf
    refine sY hf hs rfl rfl rfl (Y_assign rfl rfl) ?_; clear hf; intro a hf
    refine wpO_nil ?_
    refine wpL_nil (then_normal ?_)
    exact ⟨false, Option.some.inj hj15, (FrD.pick hf.none hf rfl), hs.sel [] (by decide)⟩
  ·have hj15 := bif_f hj15 hb18
   refine sNo hf rfl rfl rfl (congrArg (fun b => some (Value.bool b)) hb18) rfl rfl rfl ?_; clear hf; intro a hf
   refine sNo hf rfl rfl rfl (congrArg (fun b => some (Value.bool b)) hb18) rfl rfl rfl ?_; clear hf; intro a hf
   refine sNo hf rfl rfl rfl (congrArg (fun b => some (Value.bool b)) hb18) rfl rfl rfl ?_; clear hf; intro a hf
   refine sNo hf rfl rfl rfl (congrArg (fun b => some (Value.bool b)) hb18) rfl rfl rfl ?_; clear hf; intro a hf
   refine sNo hf rfl rfl rfl (congrArg (fun b => some (Value.bool b)) hb18) rfl rfl rfl ?_; clear hf; intro a hf
   refine sY hf hs rfl rfl rfl (Y_pickF rfl (congrArg (fun b => some (Value.bool b)) hb18) rfl) ?_; clear hf; intro a hf
   refine sY hf hs rfl rfl rfl (Y_move rfl rfl) ?_; clear hf; intro a hf
   refine sNo hf rfl rfl rfl rfl rfl rfl rfl ?_; clear hf; intro a hf
   refine sNo hf rfl rfl rfl rfl rfl rfl rfl ?_; clear hf; intro a hf
   refine sNo hf rfl rfl rfl rfl rfl rfl rfl ?_; clear hf; intro a hf
   refine sY hf hs rfl rfl rfl (Y_pickF rfl rfl rfl) ?_; clear hf; intro a hf
   refine sY hf hs rfl rfl rfl (Y_move rfl rfl) ?_; clear hf; intro a hf
   refine sNo hf rfl rfl rfl rfl rfl rfl rfl ?_; clear hf; intro a hf
   refine sNo hf rfl rfl rfl rfl rfl rfl rfl ?_; clear hf; intro a hf
   refine sNo hf rfl rfl rfl rfl rfl rfl rfl ?_; clear hf; intro a hf
   refine sY hf hs rfl rfl rfl (Y_pickF rfl rfl rfl) ?_; clear hf; intro a hf
   refine sY hf hs rfl rfl rfl (Y_assign rfl rfl) ?_; clear hf; intro a hf
   refine wpO_nil ?_
   refine wpL_nil (then_normal ?_)
   exact ⟨false, Option.some.inj hj15, (FrD.pick hf.none hf rfl), hs.sel [] (by decide)⟩
 ·rintro a w ⟨b13, hr_, hf, hs⟩
  subst hr_
  try dsimp only at hm
  obtain rfl := Option.some.inj hm
  refine wpL_ret (ret_tmp rfl hf rfl ?_)
  exact ⟨_, rfl, rfl, hs⟩

set_option maxRecDepth 100000 in
theorem spec_IsEventGraph_ok (F : Nat) (ah : GEventGraph) (ag : Option Addr) (ax ai : Nat) (aB : ax = ah.Places.length) (r : Bool) (W : World) (hm : spec_IsEventGraph F ah = some r) (ay : Rd W ag ((recs GPlace.cells) ah.Places)) :
  Calls Try.prog 113 [.agg #[.int .i64 ah.Events, .slice ag ax ai]].toArray W fun e w' => ∃ v, e = .returned v ∧ v = .bool r ∧ St [] W w' [] := by
 subst aB
 unfold spec_IsEventGraph at hm
 refine Calls.enter (N := 29) Try.func113 rfl rfl rfl (fun a hf => ?_)
 have hs := St.start W
 obtain ⟨w, hw_⟩ : ∃ w, w = W := ⟨W, rfl⟩
 clear hw_ w
 refine wpL_seq <| wpL_region ?_
 refine sBox hf hs rfl rfl rfl rfl rfl (cs := [.int .i64 ah.Events, .slice ag ah.Places.length ai]) rfl ?_; clear hf hs; intro a w b1 hs hf
 have hs : St _ W w [.blk b1 55 [.int .i64 ah.Events, .slice ag ah.Places.length ai]] := hs
 refine sY hf hs rfl rfl rfl (Y_assign rfl rfl) ?_; clear hf; intro a hf
 refine wpO_nil <| wpL_seq <| wpL_seq <| wpL_region ?_
 refine sY hf hs rfl rfl rfl (Y_assign rfl rfl) ?_; clear hf; intro a hf
 refine wpO_nil ?_
 obtain ⟨r22, hl23, hm⟩ := bind_some hm
 refine wpL_block (fun a w => Sum.inr () = r22 ∧ Fr a 29 [(1, .pointer (some ⟨b1, 0, none⟩))] ∧ St [] W w [.blk b1 55 [.int .i64 ah.Events, .slice ag ah.Places.length ai]]) ?_ ?_
 ·refine wpL_loop (fun n a w => ∃ x15 : Int, spec_IsEventGraph_L1 F ah n x15 = some r22 ∧ Fr a 29 [(1, .pointer (some ⟨b1, 0, none⟩)), (3, .int .i64 x15)] ∧ St [] W w [.blk b1 55 [.int .i64 ah.Events, .slice ag ah.Places.length ai]]) F ?_ ?_ ?_
  ·exact ⟨0, hl23, (FrD.pick (FrD.pick hf.none hf rfl) hf rfl), hs⟩
  ·rintro a w ⟨x15, h0_, -, -⟩; simp [spec_IsEventGraph_L1] at h0_
  ·rintro n25 a w ⟨x15, hm24, hf, hs⟩
   rw [spec_IsEventGraph_L1] at hm24
   refine wpL_seq <| wpL_seq <| wpL_region ?_
   refine sY hf hs rfl rfl rfl (Y_move rfl rfl) ?_; clear hf; intro a hf
   refine sY hf hs rfl rfl rfl (Y_fieldAddr rfl rfl fo55_1) ?_; clear hf; intro a hf
   refine sY hf hs rfl rfl rfl (Y_load_blk rfl rfl (i := 0) rfl rfl ag53) ?_; clear hf; intro a hf
   refine sY hf hs rfl rfl rfl (Y_lenH rfl rfl el53 rfl) ?_; clear hf; intro a hf
   refine sY hf hs rfl rfl rfl (Y_lss rfl rfl rfl) ?_; clear hf; intro a hf
   refine wpO_nil ?_
   refine wpL_cond hf rfl (fun hb26 => ?_) (fun hb26 => ?_)
   ·have hm24 := bif_t hm24 hb26
    refine wpL_skip <| wpL_seq <| wpL_block0 <| wpL_seq ?_
    refine wpL_draw (by kernel_rfl) (by kernel_rfl) hs ?_
    refine qY hf rfl rfl rfl (Y_fieldAddr rfl rfl fo55_1) ?_; clear hf; intro a hf
    refine qY hf rfl rfl rfl (Y_load_blk rfl rfl (i := 0) rfl rfl ag53) ?_; clear hf; intro a hf
    refine qY hf rfl rfl rfl (Y_move rfl rfl) ?_; clear hf; intro a hf
    obtain ⟨q27, hi28, hm24⟩ := bind_some hm24
    obtain ⟨hi28a, hi28b, hi28q⟩ := idx_some hi28
    refine qY hf rfl rfl rfl (Y_index rfl rfl rfl el53 ti64 (Rd.isAt (ay.at hs) (recs_at (s := 4) GPlace.len hi28q (j := 0) rfl)) hi28a hi28b) ?_; clear hf; intro a hf
    refine qY hf rfl rfl rfl (Y_load_rdS rfl rfl (us := [.int .i64 q27.From, .int .i64 q27.To, .int .i64 q27.Delay, .int .i64 q27.Tokens]) (fun w hs => ay.at hs) (fun j u hj => recs_at (s := 4) GPlace.len hi28q hj) (Nat.succ_pos _) ag64 ti64 rfl) ?_; clear hf; intro a hf
    refine qY hf rfl rfl rfl (Y_fieldAddr rfl rfl fo55_0) ?_; clear hf; intro a hf
    refine qY hf rfl rfl rfl (Y_load_blk rfl rfl (i := 0) rfl rfl ag2) ?_; clear hf; intro a hf
    obtain ⟨r29, hc30, hm24⟩ := bind_some hm24
    refine qCall hf rfl rfl rfl rfl (cap := []) rfl rfl en185 (v := .bool r29) (fun w hs => Calls.scal (spec_l11Place_ok F q27 ah.Events _ _ hc30)) ?_; clear hf; intro a hf
    refine qY hf rfl rfl rfl (Y_not rfl rfl) ?_; clear hf; intro a hf
    refine qNil ?_; clear hs; intro w hs
    refine wpL_cond hf rfl (fun hb31 => ?_) (fun hb31 => ?_)
    ·have hm24 := bif_t hm24 hb31
     refine wpL_seq <| wpL_region ?_
     refine sY hf hs rfl rfl rfl (Y_assign rfl rfl) ?_; clear hf; intro a hf
     refine wpO_nil ?_
     obtain rfl := Option.some.inj hm24
     try dsimp only at hm
     obtain rfl := Option.some.inj hm
     refine wpL_ret (Qb_ret (Ql_ret (Qb_ret (ret_tmp rfl hf rfl ?_))))
     exact ⟨_, rfl, rfl, hs.sel [] (by decide)⟩
    ·have hm24 := bif_f hm24 hb31
     refine wpL_skip ?_
     refine wpL_nil (Qb_normal ?_)
     refine wpL_region ?_
     refine sY hf hs rfl rfl rfl (Y_move rfl rfl) ?_; clear hf; intro a hf
     refine sY hf hs rfl rfl rfl (Y_add rfl rfl rfl) ?_; clear hf; intro a hf
     refine sY hf hs rfl rfl rfl (Y_assign rfl rfl) ?_; clear hf; intro a hf
     refine wpO_nil ?_
     refine wpL_nil (Ql_normal ?_)
     exact ⟨(IntKind.i64.wrap (x15 + 1)), hm24, (FrD.pick (FrD.pick hf.none hf rfl) hf rfl), hs⟩
   ·have hm24 := bif_f hm24 hb26
    refine wpL_exit (Ql_exit (Qb_exit ?_))
    exact ⟨Option.some.inj hm24, (FrD.pick hf.none hf rfl), hs⟩
 ·rintro a w ⟨hr_, hf, hs⟩
  subst hr_
  try dsimp only at hm
  refine wpL_seq ?_
  obtain ⟨r36, hj37, hm⟩ := bind_some hm
  refine wpL_cut (fun a w => ∃ b35 : Bool, b35 = r36 ∧ Fr a 29 [(2, .bool b35)] ∧ St [] W w []) ?_ ?_
  ·refine wpL_region ?_
   refine sY hf hs rfl rfl rfl (Y_fieldAddr rfl rfl fo55_0) ?_; clear hf; intro a hf
   refine sY hf hs rfl rfl rfl (Y_load_blk rfl rfl (i := 0) rfl rfl ag2) ?_; clear hf; intro a hf
   obtain ⟨r38, hc39, hj37⟩ := bind_some hj37
   refine sCall hf rfl rfl rfl rfl (cap := []) rfl rfl en77 (spec_l01In_ok F ah.Events 1 10 _ _ hc39) ?_; clear hf
   rintro _ w ⟨rfl, hs1⟩ a hf
   have hs : St _ W w [_] := hs.ext hs1.below
   clear hs1
   refine sY hf hs rfl rfl rfl (Y_move rfl rfl) ?_; clear hf; intro a hf
   refine bsplit r38 (fun hb40 => ?_) (fun hb40 => ?_)
   ·have hj37 := bif_t hj37 hb40
    refine sYg hf hs rfl rfl rfl (congrArg (fun b => some (Value.bool b)) hb40) rfl rfl rfl (Y_fieldAddr rfl rfl fo55_1) ?_; clear hf; intro a hf
    refine sYg hf hs rfl rfl rfl (congrArg (fun b => some (Value.bool b)) hb40) rfl rfl rfl (Y_load_blk rfl rfl (i := 0) rfl rfl ag53) ?_; clear hf; intro a hf
    refine sYg hf hs rfl rfl rfl (congrArg (fun b => some (Value.bool b)) hb40) rfl rfl rfl (Y_lenH rfl rfl el53 rfl) ?_; clear hf; intro a hf
    refine sYg hf hs rfl rfl rfl (congrArg (fun b => some (Value.bool b)) hb40) rfl rfl rfl (Y_leq rfl rfl rfl) ?_; clear hf; intro a hf
    refine sY hf hs rfl rfl rfl (Y_pickT rfl (congrArg (fun b => some (Value.bool b)) hb40) rfl) ?_; clear hf; intro a hf
    refine sY hf hs rfl rfl rfl (Y_assign rfl rfl) ?_; clear hf; intro a hf
    refine wpO_nil ?_
    refine wpL_nil (then_normal ?_)
    exact ⟨(decide ((ah.Places.length : Int) ≤ 30)), Option.some.inj hj37, (FrD.pick hf.none hf rfl), hs.sel [] (by decide)⟩
   ·have hj37 := bif_f hj37 hb40
    refine sNo hf rfl rfl rfl (congrArg (fun b => some (Value.bool b)) hb40) rfl rfl rfl ?_; clear hf; intro a hf
    refine sNo hf rfl rfl rfl (congrArg (fun b => some (Value.bool b)) hb40) rfl rfl rfl ?_; clear hf; intro a hf
    refine sNo hf rfl rfl rfl (congrArg (fun b => some (Value.bool b)) hb40) rfl rfl rfl ?_; clear hf; intro a hf
    refine sNo hf rfl rfl rfl (congrArg (fun b => some (Value.bool b)) hb40) rfl rfl rfl ?_; clear hf; intro a hf
    refine sY hf hs rfl rfl rfl (Y_pickF rfl (congrArg (fun b => some (Value.bool b)) hb40) rfl) ?_; clear hf; intro a hf
    refine sY hf hs rfl rfl rfl (Y_assign rfl rfl) ?_; clear hf; intro a hf
    refine wpO_nil ?_
    refine wpL_nil (then_normal ?_)
    exact ⟨false, Option.some.inj hj37, (FrD.pick hf.none hf rfl), hs.sel [] (by decide)⟩
  ·rintro a w ⟨b35, hr_, hf, hs⟩
   subst hr_
   try dsimp only at hm
   obtain rfl := Option.some.inj hm
   refine wpL_ret (ret_tmp rfl hf rfl ?_)
   exact ⟨_, rfl, rfl, hs⟩

set_option maxRecDepth 100000 in
theorem spec_l15Sums_ok (F : Nat) (ah : GEventGraph) (ag : Option Addr) (ax ai : Nat) (aB : ax = ah.Places.length) (bC : List Int) (bA : Option Addr) (bP bQ : Nat) (ce : bP = bC.length) (r : Int × Int) (W : World) (hm : spec_l15Sums F ah bC = some r) (ay : Rd W ag ((recs GPlace.cells) ah.Places)) (bx : Rd W bA (ints bC)) :
  Calls Try.prog 215 [.agg #[.int .i64 ah.Events, .slice ag ax ai], .slice bA bP bQ].toArray W fun e w' => ∃ v, e = .returned v ∧ v = .tuple #[.int .i64 r.1, .int .i64 r.2] ∧ St [] W w' [] := by
 subst aB
 subst ce
 unfold spec_l15Sums at hm
 refine Calls.enter (N := 39) Try.func215 rfl rfl rfl (fun a hf => ?_)
 have hs := St.start W
 obtain ⟨w, hw_⟩ : ∃ w, w = W := ⟨W, rfl⟩
 clear hw_ w
 refine wpL_seq <| wpL_region ?_
 refine sBox hf hs rfl rfl rfl rfl rfl (cs := [.int .i64 ah.Events, .slice ag ah.Places.length ai]) rfl ?_; clear hf hs; intro a w b1 hs hf
 have hs : St _ W w [_] := hs
 refine sY hf hs rfl rfl rfl (Y_assign rfl rfl) ?_; clear hf; intro a hf
 refine sY hf hs rfl rfl rfl (Y_assign rfl rfl) ?_; clear hf; intro a hf
 refine wpO_nil <| wpL_seq <| wpL_region ?_
 refine sY hf hs rfl rfl rfl (Y_assign rfl rfl) ?_; clear hf; intro a hf
 refine sY hf hs rfl rfl rfl (Y_assign rfl rfl) ?_; clear hf; intro a hf
 refine wpO_nil <| wpL_seq <| wpL_seq <| wpL_region ?_
 refine sY hf hs rfl rfl rfl (Y_assign rfl rfl) ?_; clear hf; intro a hf
 refine wpO_nil ?_
 obtain ⟨r37, hl38, hm⟩ := bind_some hm
 refine wpL_block (fun a w => ∃ x35 : Int, ∃ x36 : Int, (x35, x36) = r37 ∧ Fr a 39 [(6, .int .i64 x35), (7, .int .i64 x36)] ∧ St [] W w []) ?_ ?_
 ·refine wpL_loop (fun n a w => ∃ x23 : Int, ∃ x24 : Int, ∃ x25 : Int, spec_l15Sums_L1 F ah bC n x23 x24 x25 = some r37 ∧ Fr a 39 [(1, .slice bA bC.length bQ), (2, .pointer (some ⟨b1, 0, none⟩)), (6, .int .i64 x23), (7, .int .i64 x24), (8, .int .i64 x25)] ∧ St [] W w [.blk b1 55 [.int .i64 ah.Events, .slice ag ah.Places.length ai]]) F ?_ ?_ ?_
  ·exact ⟨0, 0, 0, hl38, (FrD.pick (FrD.pick (FrD.pick (FrD.pick (FrD.pick hf.none hf rfl) hf rfl) hf rfl) hf rfl) hf rfl), hs⟩
  ·rintro a w ⟨x23, x24, x25, h0_, -, -⟩; simp [spec_l15Sums_L1] at h0_
  ·rintro n40 a w ⟨x23, x24, x25, hm39, hf, hs⟩
   rw [spec_l15Sums_L1] at hm39
   refine wpL_seq <| wpL_seq <| wpL_region ?_
   refine sY hf hs rfl rfl rfl (Y_move rfl rfl) ?_; clear hf; intro a hf
   refine sY hf hs rfl rfl rfl (Y_move rfl rfl) ?_; clear hf; intro a hf
   refine sY hf hs rfl rfl rfl (Y_lenH rfl rfl el28 rfl) ?_; clear hf; intro a hf
   refine sY hf hs rfl rfl rfl (Y_lss rfl rfl rfl) ?_; clear hf; intro a hf
   refine wpO_nil ?_
   refine wpL_cond hf rfl (fun hb41 => ?_) (fun hb41 => ?_)
   ·have hm39 := bif_t hm39 hb41
    refine wpL_skip <| wpL_seq <| wpL_block0 <| wpL_seq ?_
    refine wpL_draw (by kernel_rfl) (by kernel_rfl) hs ?_
    refine qY hf rfl rfl rfl (Y_move rfl rfl) ?_; clear hf; intro a hf
    refine qY hf rfl rfl rfl (Y_fieldAddr rfl rfl fo55_1) ?_; clear hf; intro a hf
    refine qY hf rfl rfl rfl (Y_load_blk rfl rfl (i := 0) rfl rfl ag53) ?_; clear hf; intro a hf
    refine qY hf rfl rfl rfl (Y_move rfl rfl) ?_; clear hf; intro a hf
    refine qY hf rfl rfl rfl (Y_move rfl rfl) ?_; clear hf; intro a hf
    obtain ⟨q42, hi43, hm39⟩ := bind_some hm39
    obtain ⟨hi43a, hi43b, hi43q⟩ := idx_some hi43
    refine qY hf rfl rfl rfl (Y_index rfl rfl rfl el28 ti2 (Rd.isAt (bx.at hs) (at1 (ints_at hi43q))) hi43a hi43b) ?_; clear hf; intro a hf
    refine qY hf rfl rfl rfl (Y_load_rd rfl rfl (fun w hs => bx.at hs) (at1 (ints_at hi43q)) ag2) ?_; clear hf; intro a hf
    obtain ⟨q44, hi45, hm39⟩ := bind_some hm39
    obtain ⟨hi45a, hi45b, hi45q⟩ := idx_some hi45
    refine qY hf rfl rfl rfl (Y_index rfl rfl rfl el53 ti64 (Rd.isAt (ay.at hs) (recs_at (s := 4) GPlace.len hi45q (j := 0) rfl)) hi45a hi45b) ?_; clear hf; intro a hf
    refine qY hf rfl rfl rfl (Y_fieldAddrE rfl rfl fo64_2) ?_; clear hf; intro a hf
    refine qY hf rfl rfl rfl (Y_load_rd rfl rfl (fun w hs => ay.at hs) (recs_at (s := 4) GPlace.len hi45q (j := 2) rfl) ag2) ?_; clear hf; intro a hf
    refine qY hf rfl rfl rfl (Y_add rfl rfl rfl) ?_; clear hf; intro a hf
    refine qY hf rfl rfl rfl (Y_assign rfl rfl) ?_; clear hf; intro a hf
    refine qNil ?_; clear hs; intro w hs
    refine wpL_draw (by kernel_rfl) (by kernel_rfl) hs ?_
    refine qY hf rfl rfl rfl (Y_move rfl rfl) ?_; clear hf; intro a hf
    refine qY hf rfl rfl rfl (Y_fieldAddr rfl rfl fo55_1) ?_; clear hf; intro a hf
    refine qY hf rfl rfl rfl (Y_load_blk rfl rfl (i := 0) rfl rfl ag53) ?_; clear hf; intro a hf
    refine qY hf rfl rfl rfl (Y_move rfl rfl) ?_; clear hf; intro a hf
    refine qY hf rfl rfl rfl (Y_move rfl rfl) ?_; clear hf; intro a hf
    obtain ⟨q46, hi47, hm39⟩ := bind_some hm39
    obtain ⟨hi47a, hi47b, hi47q⟩ := idx_some hi47
    refine qY hf rfl rfl rfl (Y_index rfl rfl rfl el28 ti2 (Rd.isAt (bx.at hs) (at1 (ints_at hi47q))) hi47a hi47b) ?_; clear hf; intro a hf
    refine qY hf rfl rfl rfl (Y_load_rd rfl rfl (fun w hs => bx.at hs) (at1 (ints_at hi47q)) ag2) ?_; clear hf; intro a hf
    obtain ⟨q48, hi49, hm39⟩ := bind_some hm39
    obtain ⟨hi49a, hi49b, hi49q⟩ := idx_some hi49
    refine qY hf rfl rfl rfl (Y_index rfl rfl rfl el53 ti64 (Rd.isAt (ay.at hs) (recs_at (s := 4) GPlace.len hi49q (j := 0) rfl)) hi49a hi49b) ?_; clear hf; intro a hf
    refine qY hf rfl rfl rfl (Y_fieldAddrE rfl rfl fo64_3) ?_; clear hf; intro a hf
    refine qY hf rfl rfl rfl (Y_load_rd rfl rfl (fun w hs => ay.at hs) (recs_at (s := 4) GPlace.len hi49q (j := 3) rfl) ag2) ?_; clear hf; intro a hf
    refine qY hf rfl rfl rfl (Y_add rfl rfl rfl) ?_; clear hf; intro a hf
    refine qY hf rfl rfl rfl (Y_assign rfl rfl) ?_; clear hf; intro a hf
    refine qNil ?_; clear hs; intro w hs
    refine wpL_nil (Qb_normal ?_)
    refine wpL_region ?_
    refine sY hf hs rfl rfl rfl (Y_move rfl rfl) ?_; clear hf; intro a hf
    refine sY hf hs rfl rfl rfl (Y_add rfl rfl rfl) ?_; clear hf; intro a hf
    refine sY hf hs rfl rfl rfl (Y_assign rfl rfl) ?_; clear hf; intro a hf
    refine wpO_nil ?_
    refine wpL_nil (Ql_normal ?_)
    exact ⟨(IntKind.i64.wrap (x23 + q44.Delay)), (IntKind.i64.wrap (x24 + q48.Tokens)), (IntKind.i64.wrap (x25 + 1)), hm39, (FrD.pick (FrD.pick (FrD.pick (FrD.pick (FrD.pick hf.none hf rfl) hf rfl) hf rfl) hf rfl) hf rfl), hs⟩
   ·have hm39 := bif_f hm39 hb41
    refine wpL_exit (Ql_exit (Qb_exit ?_))
    exact ⟨x23, x24, Option.some.inj hm39, (FrD.pick (FrD.pick hf.none hf rfl) hf rfl), hs.sel [] (by decide)⟩
 ·rintro a w ⟨x35, x36, hr_, hf, hs⟩
  subst hr_
  try dsimp only at hm
  refine wpL_seq <| wpL_region ?_
  refine sY hf hs rfl rfl rfl (Y_move rfl rfl) ?_; clear hf; intro a hf
  refine sY hf hs rfl rfl rfl (Y_move rfl rfl) ?_; clear hf; intro a hf
  refine sY hf hs rfl rfl rfl (Y_assign rfl rfl) ?_; clear hf; intro a hf
  refine sY hf hs rfl rfl rfl (Y_assign rfl rfl) ?_; clear hf; intro a hf
  refine wpO_nil ?_
  obtain rfl := Option.some.inj hm
  refine wpL_ret (ret_tmp2 rfl hf rfl rfl ?_)
  exact ⟨_, rfl, rfl, hs⟩

end Go.Proofs.Ytebmlphobgaboab
