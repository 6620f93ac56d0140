/- The functions do what their models say. -/
import Derived.Test.YtgkgimglgjfcjaaReversedFacts
import Derived.Test.YtgkgimglgjfcjaaRows
namespace Go.Proofs.Ytgkgimglgjfcjaa
open Go.RowKit

set_option maxRecDepth 100000 in
theorem laws_big_ok (F : Nat) (aa : List Int) (ag : Option Addr) (aL ah : Nat) (aP : aL = aa.length) (r : Bool) (W : World) (hm : laws_big F aa = some r) (_h_p0_code_1 : Rd W ag (bytes aa)) :
  Calls Try.prog 17 [.slice ag aL ah].toArray W fun e w' => ∃ v, e = .returned v ∧ v = .bool r ∧ St [] W w' [] := by
 subst aP
 unfold laws_big at hm
 refine Calls.enter (N := 6) Try.func17 rfl rfl rfl (fun a hf => ?_)
 have hs := St.start W
 obtain ⟨w, hw_⟩ : ∃ w, w = W := ⟨W, rfl⟩
 clear hw_ w
 refine wpL_seq <| wpL_region ?_
 refine sY hf hs rfl rfl rfl (Y_assign rfl rfl) ?_; clear hf; intro a hf
 refine wpO_nil <| wpL_seq <| wpL_region ?_
 refine sY hf hs rfl rfl rfl (Y_move rfl rfl) ?_; clear hf; intro a hf
 refine sY hf hs rfl rfl rfl (Y_lenH rfl rfl el34 rfl) ?_; clear hf; intro a hf
 refine sY hf hs rfl rfl rfl (Y_gtr rfl rfl rfl) ?_; clear hf; intro a hf
 refine sY hf hs rfl rfl rfl (Y_assign rfl rfl) ?_; clear hf; intro a hf
 refine wpO_nil ?_
 obtain rfl := Option.some.inj hm
 refine wpL_ret (ret_tmp rfl hf rfl ?_)
 exact ⟨_, rfl, rfl, hs⟩

set_option maxRecDepth 100000 in
theorem spec_l01From_ok (F : Nat) (aa : List Int) (ag : Option Addr) (aL ah : Nat) (aP : aL = aa.length) (r : (Int × Int)) (W : World) (hm : spec_l01From F aa = some r) (aG : Rd W ag (bytes aa)) :
  Calls Try.prog 101 [.slice ag aL ah].toArray W fun e w' => ∃ v, e = .returned v ∧ ∃ b43, v = .pointer (some ⟨b43, 0, none⟩) ∧ St [] W w' [.blk b43 145 [.slice ag aL ah, .int .i64 r.1, .int .i64 r.2]] := by
 subst aP
 unfold spec_l01From at hm
 refine Calls.enter (N := 34) Try.func101 rfl rfl rfl (fun a hf => ?_)
 have hs := St.start W
 obtain ⟨w, hw_⟩ : ∃ w, w = W := ⟨W, rfl⟩
 clear hw_ w
 refine wpL_seq <| wpL_region ?_
 refine sY hf hs rfl rfl rfl (Y_assign rfl rfl) ?_; clear hf; intro a hf
 refine wpO_nil <| wpL_seq <| wpL_region ?_
 refine sY hf hs rfl rfl rfl (Y_move rfl rfl) ?_; clear hf; intro a hf
 refine sY hf hs rfl rfl rfl (Y_build (parts := [(0, .tmp 5), (2, .const (.int .i64 61403))]) (vs := [.slice ag aa.length ah, .int .i64 61403]) rfl rfl (run_build (parts := [(0, .slice ag aa.length ah), (2, .int .i64 61403)]) (cells := [.slice ag aa.length ah, .int .i64 0, .int .i64 61403]) (places := #[(0, 1), (1, 1), (2, 1)]) ti145 Try.underlying145 (fun w => by simp [go_sem]) rfl)) ?_; clear hf; intro a hf
 refine sBox hf hs rfl rfl rfl rfl rfl (cs := [.slice ag aa.length ah, .int .i64 0, .int .i64 61403]) rfl ?_; clear hf hs; intro a w b1 hs hf
 have hs : St [] W w [.blk b1 145 [.slice ag aa.length ah, .int .i64 0, .int .i64 61403]] := hs
 refine sY hf hs rfl rfl rfl (Y_assign rfl rfl) ?_; clear hf; intro a hf
 refine wpO_nil <| wpL_seq <| wpL_seq <| wpL_region ?_
 refine sY hf hs rfl rfl rfl (Y_assign rfl rfl) ?_; clear hf; intro a hf
 refine wpO_nil ?_
 obtain ⟨r31, hl32, hm⟩ := bind_some hm
 refine wpL_block (fun a w => ∃ x30 : Int, x30 = r31 ∧ Fr a 34 [(3, .pointer (some ⟨b1, 0, none⟩))] ∧ St [] W w [.blk b1 145 [.slice ag aa.length ah, .int .i64 0, .int .i64 x30]]) ?_ ?_
 ·refine wpL_loop (fun n a w => ∃ x20 : Int, ∃ x21 : Int, spec_l01From_L1 F aa n x20 x21 = some r31 ∧ Fr a 34 [(0, .slice ag aa.length ah), (3, .pointer (some ⟨b1, 0, none⟩)), (4, .int .i64 x21)] ∧ St [] W w [.blk b1 145 [.slice ag aa.length ah, .int .i64 0, .int .i64 x20]]) F ?_ ?_ ?_
  ·exact ⟨61403, 0, hl32, (FrD.pick (FrD.pick (FrD.pick hf.none hf rfl) hf rfl) hf rfl), hs⟩
  ·rintro a w ⟨x20, x21, h0_, -, -⟩; simp [spec_l01From_L1] at h0_
  ·rintro n34 a w ⟨x20, x21, hm33, hf, hs⟩
   rw [spec_l01From_L1] at hm33
   refine wpL_seq <| wpL_seq ?_
   obtain ⟨r37, hj38, hm33⟩ := bind_some hm33
   refine wpL_cut (fun a w => ∃ b36 : Bool, b36 = r37 ∧ Fr a 34 [(0, .slice ag aa.length ah), (3, .pointer (some ⟨b1, 0, none⟩)), (4, .int .i64 x21), (15, .bool b36)] ∧ St [] W w [.blk b1 145 [.slice ag aa.length ah, .int .i64 0, .int .i64 x20]]) ?_ ?_
   ·refine wpL_region ?_
    refine sY hf hs rfl rfl rfl (Y_move rfl rfl) ?_; clear hf; intro a hf
    refine sY hf hs rfl rfl rfl (Y_move rfl rfl) ?_; clear hf; intro a hf
    refine sY hf hs rfl rfl rfl (Y_lenH rfl rfl el34 rfl) ?_; clear hf; intro a hf
    refine sY hf hs rfl rfl rfl (Y_lss rfl rfl rfl) ?_; clear hf; intro a hf
    refine sY hf hs rfl rfl rfl (Y_move rfl rfl) ?_; clear hf; intro a hf
    refine bsplit (decide (x21 < (aa.length : Int))) (fun hb39 => ?_) (fun hb39 => ?_)
    ·have hj38 := bif_t hj38 hb39
     refine sYg hf hs rfl rfl rfl (congrArg (fun b => some (Value.bool b)) hb39) rfl rfl rfl (Y_move rfl rfl) ?_; clear hf; intro a hf
     refine sYg hf hs rfl rfl rfl (congrArg (fun b => some (Value.bool b)) hb39) rfl rfl rfl (Y_lss rfl rfl rfl) ?_; clear hf; intro a hf
     refine sY hf hs rfl rfl rfl (Y_pickT rfl (congrArg (fun b => some (Value.bool b)) hb39) rfl) ?_; clear hf; intro a hf
     refine wpO_nil ?_
     refine wpL_nil (then_normal ?_)
     exact ⟨(decide (x21 < 64)), Option.some.inj hj38, (FrD.pick (FrD.pick (FrD.pick (FrD.pick hf.none hf rfl) hf rfl) hf rfl) hf rfl), hs⟩
    ·have hj38 := bif_f hj38 hb39
     refine sNo hf rfl rfl rfl (congrArg (fun b => some (Value.bool b)) hb39) rfl rfl rfl ?_; clear hf; intro a hf
     refine sNo hf rfl rfl rfl (congrArg (fun b => some (Value.bool b)) hb39) rfl rfl rfl ?_; clear hf; intro a hf
     refine sY hf hs rfl rfl rfl (Y_pickF rfl (congrArg (fun b => some (Value.bool b)) hb39) rfl) ?_; clear hf; intro a hf
     refine wpO_nil ?_
     refine wpL_nil (then_normal ?_)
     exact ⟨false, Option.some.inj hj38, (FrD.pick (FrD.pick (FrD.pick (FrD.pick hf.none hf rfl) hf rfl) hf rfl) hf rfl), hs⟩
   ·rintro a w ⟨b36, hr_, hf, hs⟩
    subst hr_
    try dsimp only at hm33
    refine wpL_cond hf rfl (fun hb40 => ?_) (fun hb40 => ?_)
    ·have hm33 := bif_t hm33 hb40
     refine wpL_skip <| wpL_seq <| wpL_block0 ?_
     refine wpL_drawM [.blk b1 145 [.slice ag aa.length ah, .int .i64 0, .int .i64 x20]] [15] (by kernel_rfl) hs ?_; clear hs; intro w hs
     have hs0 : St [] W w [.blk b1 145 [.slice ag aa.length ah, .int .i64 0, .int .i64 x20]] := hs
     refine mYp (i := 0) rfl (by kernel_rfl) (by kernel_rfl) hf rfl rfl rfl (fun _ => Y_move rfl rfl) ?_; clear hf; intro a hf
     refine mYp (i := 1) rfl (by kernel_rfl) (by kernel_rfl) hf rfl rfl rfl (fun _ => Y_move rfl rfl) ?_; clear hf; intro a hf
     refine mYp (i := 2) rfl (by kernel_rfl) (by kernel_rfl) hf rfl rfl rfl (fun _ => Y_nilCheck rfl rfl) ?_; clear hf; intro a hf
     refine mYp (i := 3) rfl (by kernel_rfl) (by kernel_rfl) hf rfl rfl rfl (fun _ => Y_fieldAddr rfl rfl fo145_2) ?_; clear hf; intro a hf
     refine mY (i := 4) [[]] rfl (by kernel_rfl) (by kernel_rfl) hf hs0 rfl rfl rfl (Y_load_blk rfl rfl (i := 0) rfl rfl ag2) ?_; clear hf; intro a hf
     refine mYp (i := 5) rfl (by kernel_rfl) (by kernel_rfl) hf rfl rfl rfl (fun _ => Y_mul rfl rfl rfl) ?_; clear hf; intro a hf
     refine mYp (i := 6) rfl (by kernel_rfl) (by kernel_rfl) hf rfl rfl rfl (fun _ => Y_move rfl rfl) ?_; clear hf; intro a hf
     refine mYp (i := 7) rfl (by kernel_rfl) (by kernel_rfl) hf rfl rfl rfl (fun _ => Y_move rfl rfl) ?_; clear hf; intro a hf
     obtain ⟨q41, hi42, hm33⟩ := bind_some hm33
     obtain ⟨hi42a, hi42b, hi42q⟩ := idx_some hi42
     refine mYp (i := 8) rfl (by kernel_rfl) (by kernel_rfl) hf rfl rfl rfl (fun _ => Y_index rfl rfl rfl el34 ti5 (Rd.isAt (aG.at hs) (at1 (bytes_at hi42q))) hi42a hi42b) ?_; clear hf; intro a hf
     refine mY (i := 9) [[]] rfl (by kernel_rfl) (by kernel_rfl) hf hs0 rfl rfl rfl (Y_load_rd rfl rfl (fun w hs => aG.at hs) (at1 (bytes_at hi42q)) ag5) ?_; clear hf; intro a hf
     refine mY (i := 10) [[]] rfl (by kernel_rfl) (by kernel_rfl) hf hs0 rfl rfl rfl (Y_convert rfl rfl un5 un2) ?_; clear hf; intro a hf
     refine mYp (i := 11) rfl (by kernel_rfl) (by kernel_rfl) hf rfl rfl rfl (fun _ => Y_add rfl rfl rfl) ?_; clear hf; intro a hf
     refine mYp (i := 12) rfl (by kernel_rfl) (by kernel_rfl) hf rfl rfl rfl (fun _ => Y_rem rfl rfl rfl (by decide)) ?_; clear hf; intro a hf
     refine mYp (i := 13) rfl (by kernel_rfl) (by kernel_rfl) hf rfl rfl rfl (fun _ => Y_nilCheck rfl rfl) ?_; clear hf; intro a hf
     refine mYp (i := 14) rfl (by kernel_rfl) (by kernel_rfl) hf rfl rfl rfl (fun _ => Y_fieldAddr rfl rfl fo145_2) ?_; clear hf; intro a hf
     refine mRun (i := 15) rfl (by kernel_rfl) ?_
     refine sStore (i := 0) (us := [.int .i64 ((IntKind.i64.wrap ((IntKind.i64.wrap (x20 * 67)) + (IntKind.i64.wrap q41))).tmod 2147483647)]) hf hs rfl rfl rfl rfl rfl rfl ti2 rfl rfl rfl (Nat.le_of_ble_eq_true rfl) rfl ?_; clear hs; intro w hs
     have hs : St [] W w [.blk b1 145 [.slice ag aa.length ah, .int .i64 0, .int .i64 ((IntKind.i64.wrap ((IntKind.i64.wrap (x20 * 67)) + (IntKind.i64.wrap q41))).tmod 2147483647)]] := hs
     refine wpO_nil ⟨Or.inl (by decide), ?_⟩
     refine mDone (by kernel_rfl) ?_
     clear hs0
     refine wpL_nil (Qb_normal ?_)
     refine wpL_region ?_
     refine sY hf hs rfl rfl rfl (Y_move rfl rfl) ?_; clear hf; intro a hf
     refine sY hf hs rfl rfl rfl (Y_add rfl rfl rfl) ?_; clear hf; intro a hf
     refine sY hf hs rfl rfl rfl (Y_assign rfl rfl) ?_; clear hf; intro a hf
     refine wpO_nil ?_
     refine wpL_nil (Ql_normal ?_)
     exact ⟨((IntKind.i64.wrap ((IntKind.i64.wrap (x20 * 67)) + (IntKind.i64.wrap q41))).tmod 2147483647), (IntKind.i64.wrap (x21 + 1)), hm33, (FrD.pick (FrD.pick (FrD.pick hf.none hf rfl) hf rfl) hf rfl), hs⟩
    ·have hm33 := bif_f hm33 hb40
     refine wpL_exit (Ql_exit (Qb_exit ?_))
     exact ⟨x20, Option.some.inj hm33, (FrD.pick hf.none hf rfl), hs⟩
 ·rintro a w ⟨x30, hr_, hf, hs⟩
  subst hr_
  try dsimp only at hm
  refine wpL_seq <| wpL_region ?_
  refine sY hf hs rfl rfl rfl (Y_move rfl rfl) ?_; clear hf; intro a hf
  refine sY hf hs rfl rfl rfl (Y_assign rfl rfl) ?_; clear hf; intro a hf
  refine wpO_nil ?_
  obtain rfl := Option.some.inj hm
  refine wpL_ret (ret_tmp rfl hf rfl ?_)
  exact ⟨_, rfl, b1, rfl, hs⟩

set_option maxRecDepth 100000 in
theorem spec_l01Next_ok (F : Nat) (b_p0 : Nat) (aa : List Int) (ae : Option Addr) (aU af : Nat) (bP : aU = aa.length) (al : Int) (ai : Int) (p1 : Int) (r : (Int) × Int × Int) (W : World) (hm : spec_l01Next F aa al ai p1 = some r) (aF : KR (muL [.blk b_p0 145 [.slice ae aU af, .int .i64 al, .int .i64 ai]]) W ae (bytes aa)) (hst : St (muL [.blk b_p0 145 [.slice ae aU af, .int .i64 al, .int .i64 ai]]) W W [.blk b_p0 145 [.slice ae aU af, .int .i64 al, .int .i64 ai]]) :
  Calls Try.prog 107 [.pointer (some ⟨b_p0, 0, none⟩), .int .i64 p1].toArray W fun e w' => ∃ v, e = .returned v ∧ v = .int .i64 r.1 ∧ St (muL [.blk b_p0 145 [.slice ae aU af, .int .i64 al, .int .i64 ai]]) W w' [.blk b_p0 145 [.slice ae aU af, .int .i64 r.2.1, .int .i64 r.2.2]] := by
 subst bP
 unfold spec_l01Next at hm
 refine Calls.enter (N := 78) Try.func107 rfl rfl rfl (fun a hf => ?_)
 have hs := hst
 obtain ⟨w, hw_⟩ : ∃ w, w = W := ⟨W, rfl⟩
 clear hw_ w
 refine wpL_seq <| wpL_region ?_
 refine sY hf hs rfl rfl rfl (Y_assign rfl rfl) ?_; clear hf; intro a hf
 refine wpO_nil <| wpL_seq <| wpL_seq <| wpL_region ?_
 refine sY hf hs rfl rfl rfl (Y_move rfl rfl) ?_; clear hf; intro a hf
 refine sY hf hs rfl rfl rfl (Y_leq rfl rfl rfl) ?_; clear hf; intro a hf
 refine wpO_nil ?_
 refine wpL_cond hf rfl (fun hb1 => ?_) (fun hb1 => ?_)
 ·have hm := bif_t hm hb1
  refine wpL_seq <| wpL_region ?_
  refine sY hf hs rfl rfl rfl (Y_assign rfl rfl) ?_; clear hf; intro a hf
  refine wpO_nil ?_
  obtain rfl := Option.some.inj hm
  refine wpL_ret (ret_tmp rfl hf rfl ?_)
  exact ⟨_, rfl, rfl, hs⟩
 ·have hm := bif_f hm hb1
  refine wpL_skip <| wpL_seq <| wpL_region ?_
  refine sY hf hs rfl rfl rfl (Y_move rfl rfl) ?_; clear hf; intro a hf
  refine sY hf hs rfl rfl rfl (Y_move rfl rfl) ?_; clear hf; intro a hf
  refine sY hf hs rfl rfl rfl (Y_nilCheck rfl rfl) ?_; clear hf; intro a hf
  refine sY hf hs rfl rfl rfl (Y_fieldAddr rfl rfl fo145_2) ?_; clear hf; intro a hf
  refine sY hf hs rfl rfl rfl (Y_load_blk rfl rfl (i := 0) rfl rfl ag2) ?_; clear hf; intro a hf
  refine sY hf hs rfl rfl rfl (Y_mul rfl rfl rfl) ?_; clear hf; intro a hf
  refine sY hf hs rfl rfl rfl (Y_add rfl rfl rfl) ?_; clear hf; intro a hf
  refine sY hf hs rfl rfl rfl (Y_rem rfl rfl rfl (by decide)) ?_; clear hf; intro a hf
  refine sY hf hs rfl rfl rfl (Y_nilCheck rfl rfl) ?_; clear hf; intro a hf
  refine sY hf hs rfl rfl rfl (Y_fieldAddr rfl rfl fo145_2) ?_; clear hf; intro a hf
  refine sStore (i := 0) (us := [.int .i64 ((IntKind.i64.wrap ((IntKind.i64.wrap (ai * 48271)) + 59)).tmod 2147483647)]) hf hs rfl rfl rfl rfl rfl rfl ti2 rfl rfl rfl (Nat.le_of_ble_eq_true rfl) rfl ?_; clear hs; intro w hs
  have hs : St (muL [.blk b_p0 145 [.slice ae aa.length af, .int .i64 al, .int .i64 ai]]) W w [.blk b_p0 145 [.slice ae aa.length af, .int .i64 al, .int .i64 ((IntKind.i64.wrap ((IntKind.i64.wrap (ai * 48271)) + 59)).tmod 2147483647)]] := hs
  refine wpO_nil <| wpL_seq <| wpL_region ?_
  refine sY hf hs rfl rfl rfl (Y_move rfl rfl) ?_; clear hf; intro a hf
  refine sY hf hs rfl rfl rfl (Y_nilCheck rfl rfl) ?_; clear hf; intro a hf
  refine sY hf hs rfl rfl rfl (Y_fieldAddr rfl rfl fo145_2) ?_; clear hf; intro a hf
  refine sY hf hs rfl rfl rfl (Y_load_blk rfl rfl (i := 0) rfl rfl ag2) ?_; clear hf; intro a hf
  refine sY hf hs rfl rfl rfl (Y_quo rfl rfl rfl (by decide)) ?_; clear hf; intro a hf
  refine sY hf hs rfl rfl rfl (Y_assign rfl rfl) ?_; clear hf; intro a hf
  refine wpO_nil <| wpL_seq <| wpL_seq ?_
  refine wpL_draw (by kernel_rfl) (by kernel_rfl) hs ?_
  refine qY hf rfl rfl rfl (Y_move rfl rfl) ?_; clear hf; intro a hf
  refine qY hf rfl rfl rfl (Y_nilCheck rfl rfl) ?_; clear hf; intro a hf
  refine qY hf rfl rfl rfl (Y_fieldAddr rfl rfl fo145_1) ?_; clear hf; intro a hf
  refine qY hf rfl rfl rfl (Y_load_blk rfl rfl (i := 0) rfl rfl ag3) ?_; clear hf; intro a hf
  refine qY hf rfl rfl rfl (Y_move rfl rfl) ?_; clear hf; intro a hf
  refine qY hf rfl rfl rfl (Y_nilCheck rfl rfl) ?_; clear hf; intro a hf
  refine qY hf rfl rfl rfl (Y_fieldAddr rfl rfl fo145_0) ?_; clear hf; intro a hf
  refine qY hf rfl rfl rfl (Y_load_blk rfl rfl (i := 0) rfl rfl ag34) ?_; clear hf; intro a hf
  refine qY hf rfl rfl rfl (Y_lenH rfl rfl el34 rfl) ?_; clear hf; intro a hf
  refine qY hf rfl rfl rfl (Y_lss rfl rfl rfl) ?_; clear hf; intro a hf
  refine qNil ?_; clear hs; intro w hs
  obtain ⟨r15, hj16, hm⟩ := bind_some hm
  refine wpL_cut (fun a w => ∃ x13 : Int, ∃ x14 : Int, (x13, x14) = r15 ∧ Fr a 78 [(1, .int .i64 p1), (5, .int .i64 x14)] ∧ St (muL [.blk b_p0 145 [.slice ae aa.length af, .int .i64 al, .int .i64 ai]]) W w [.blk b_p0 145 [.slice ae aa.length af, .int .i64 x13, .int .i64 ((IntKind.i64.wrap ((IntKind.i64.wrap (ai * 48271)) + 59)).tmod 2147483647)]]) ?_ ?_
  ·refine wpL_cond hf rfl (fun hb17 => ?_) (fun hb17 => ?_)
   ·have hj16 := bif_t hj16 hb17
    refine wpL_seq ?_
    refine wpL_draw (by kernel_rfl) (by kernel_rfl) hs ?_
    refine qY hf rfl rfl rfl (Y_move rfl rfl) ?_; clear hf; intro a hf
    refine qY hf rfl rfl rfl (Y_move rfl rfl) ?_; clear hf; intro a hf
    refine qY hf rfl rfl rfl (Y_nilCheck rfl rfl) ?_; clear hf; intro a hf
    refine qY hf rfl rfl rfl (Y_fieldAddr rfl rfl fo145_0) ?_; clear hf; intro a hf
    refine qY hf rfl rfl rfl (Y_load_blk rfl rfl (i := 0) rfl rfl ag34) ?_; clear hf; intro a hf
    refine qY hf rfl rfl rfl (Y_move rfl rfl) ?_; clear hf; intro a hf
    refine qY hf rfl rfl rfl (Y_nilCheck rfl rfl) ?_; clear hf; intro a hf
    refine qY hf rfl rfl rfl (Y_fieldAddr rfl rfl fo145_1) ?_; clear hf; intro a hf
    refine qY hf rfl rfl rfl (Y_load_blk rfl rfl (i := 0) rfl rfl ag3) ?_; clear hf; intro a hf
    obtain ⟨q18, hi19, hj16⟩ := bind_some hj16
    obtain ⟨hi19a, hi19b, hi19q⟩ := idx_some hi19
    refine qY hf rfl rfl rfl (Y_index rfl rfl rfl el34 ti5 (Rd.isAt (aF.at hs) (at1 (bytes_at hi19q))) hi19a hi19b) ?_; clear hf; intro a hf
    refine qY hf rfl rfl rfl (Y_load_rd rfl rfl (fun w hs => aF.at hs) (at1 (bytes_at hi19q)) ag5) ?_; clear hf; intro a hf
    refine qY hf rfl rfl rfl (Y_convert rfl rfl un5 un2) ?_; clear hf; intro a hf
    refine qY hf rfl rfl rfl (Y_add rfl rfl rfl) ?_; clear hf; intro a hf
    refine qY hf rfl rfl rfl (Y_assign rfl rfl) ?_; clear hf; intro a hf
    refine qNil ?_; clear hs; intro w hs
    refine wpL_seq <| wpL_region ?_
    refine sY hf hs rfl rfl rfl (Y_move rfl rfl) ?_; clear hf; intro a hf
    refine sY hf hs rfl rfl rfl (Y_nilCheck rfl rfl) ?_; clear hf; intro a hf
    refine sY hf hs rfl rfl rfl (Y_fieldAddr rfl rfl fo145_1) ?_; clear hf; intro a hf
    refine sY hf hs rfl rfl rfl (Y_load_blk rfl rfl (i := 0) rfl rfl ag3) ?_; clear hf; intro a hf
    refine sY hf hs rfl rfl rfl (Y_add rfl rfl rfl) ?_; clear hf; intro a hf
    refine sY hf hs rfl rfl rfl (Y_nilCheck rfl rfl) ?_; clear hf; intro a hf
    refine sY hf hs rfl rfl rfl (Y_fieldAddr rfl rfl fo145_1) ?_; clear hf; intro a hf
    refine sStore (i := 0) (us := [.int .i64 (IntKind.i64.wrap (al + 1))]) hf hs rfl rfl rfl rfl rfl rfl ti3 rfl rfl rfl (Nat.le_of_ble_eq_true rfl) rfl ?_; clear hs; intro w hs
    have hs : St (muL [.blk b_p0 145 [.slice ae aa.length af, .int .i64 al, .int .i64 ai]]) W w [.blk b_p0 145 [.slice ae aa.length af, .int .i64 (IntKind.i64.wrap (al + 1)), .int .i64 ((IntKind.i64.wrap ((IntKind.i64.wrap (ai * 48271)) + 59)).tmod 2147483647)]] := hs
    refine wpO_nil <| wpL_seq ?_
    obtain ⟨r22, hj23, hj16⟩ := bind_some hj16
    refine wpL_cut (fun a w => ∃ b21 : Bool, b21 = r22 ∧ Fr a 78 [(0, .pointer (some ⟨b_p0, 0, none⟩)), (1, .int .i64 p1), (5, .int .i64 (IntKind.i64.wrap ((IntKind.i64.wrap (((IntKind.i64.wrap ((IntKind.i64.wrap (ai * 48271)) + 59)).tmod 2147483647).tdiv 31)) + (IntKind.i64.wrap q18)))), (62, .bool b21)] ∧ St (muL [.blk b_p0 145 [.slice ae aa.length af, .int .i64 al, .int .i64 ai]]) W w [.blk b_p0 145 [.slice ae aa.length af, .int .i64 (IntKind.i64.wrap (al + 1)), .int .i64 ((IntKind.i64.wrap ((IntKind.i64.wrap (ai * 48271)) + 59)).tmod 2147483647)]]) ?_ ?_
    ·refine wpL_region ?_
     refine sY hf hs rfl rfl rfl (Y_move rfl rfl) ?_; clear hf; intro a hf
     refine sY hf hs rfl rfl rfl (Y_leq rfl rfl rfl) ?_; clear hf; intro a hf
     refine sY hf hs rfl rfl rfl (Y_move rfl rfl) ?_; clear hf; intro a hf
     refine bsplit (decide (p1 ≤ 256)) (fun hb24 => ?_) (fun hb24 => ?_)
     ·have hj23 := bif_t hj23 hb24
      refine sYg hf hs rfl rfl rfl (congrArg (fun b => some (Value.bool b)) hb24) rfl rfl rfl (Y_move rfl rfl) ?_; clear hf; intro a hf
      refine sYg hf hs rfl rfl rfl (congrArg (fun b => some (Value.bool b)) hb24) rfl rfl rfl (Y_nilCheck rfl rfl) ?_; clear hf; intro a hf
      refine sYg hf hs rfl rfl rfl (congrArg (fun b => some (Value.bool b)) hb24) rfl rfl rfl (Y_fieldAddr rfl rfl fo145_1) ?_; clear hf; intro a hf
      refine sYg hf hs rfl rfl rfl (congrArg (fun b => some (Value.bool b)) hb24) rfl rfl rfl (Y_load_blk rfl rfl (i := 0) rfl rfl ag3) ?_; clear hf; intro a hf
      refine sYg hf hs rfl rfl rfl (congrArg (fun b => some (Value.bool b)) hb24) rfl rfl rfl (Y_rem rfl rfl rfl (by decide)) ?_; clear hf; intro a hf
      refine sYg hf hs rfl rfl rfl (congrArg (fun b => some (Value.bool b)) hb24) rfl rfl rfl (Y_eql rfl rfl rfl) ?_; clear hf; intro a hf
      refine sY hf hs rfl rfl rfl (Y_pickT rfl (congrArg (fun b => some (Value.bool b)) hb24) rfl) ?_; clear hf; intro a hf
      refine wpO_nil ?_
      refine wpL_nil (then_normal ?_)
      exact ⟨(((IntKind.i64.wrap (al + 1)).tmod 2) == 0), Option.some.inj hj23, (FrD.pick (FrD.pick (FrD.pick (FrD.pick hf.none hf rfl) hf rfl) hf rfl) hf rfl), hs⟩
     ·have hj23 := bif_f hj23 hb24
      refine sNo hf rfl rfl rfl (congrArg (fun b => some (Value.bool b)) hb24) rfl rfl rfl ?_; clear hf; intro a hf
      refine sNo hf rfl rfl rfl (congrArg (fun b => some (Value.bool b)) hb24) rfl rfl rfl ?_; clear hf; intro a hf
      refine sNo hf rfl rfl rfl (congrArg (fun b => some (Value.bool b)) hb24) rfl rfl rfl ?_; clear hf; intro a hf
      refine sNo hf rfl rfl rfl (congrArg (fun b => some (Value.bool b)) hb24) rfl rfl rfl ?_; clear hf; intro a hf
      refine sNo hf rfl rfl rfl (congrArg (fun b => some (Value.bool b)) hb24) rfl rfl rfl ?_; clear hf; intro a hf
      refine sNo hf rfl rfl rfl (congrArg (fun b => some (Value.bool b)) hb24) rfl rfl rfl ?_; clear hf; intro a hf
      refine sY hf hs rfl rfl rfl (Y_pickF rfl (congrArg (fun b => some (Value.bool b)) hb24) rfl) ?_; clear hf; intro a hf
      refine wpO_nil ?_
      refine wpL_nil (then_normal ?_)
      exact ⟨false, Option.some.inj hj23, (FrD.pick (FrD.pick (FrD.pick (FrD.pick hf.none hf rfl) hf rfl) hf rfl) hf rfl), hs⟩
    ·rintro a w ⟨b21, hr_, hf, hs⟩
     subst hr_
     try dsimp only at hj16
     refine wpL_cond hf rfl (fun hb25 => ?_) (fun hb25 => ?_)
     ·have hj16 := bif_t hj16 hb25
      refine wpL_draw (by kernel_rfl) (by kernel_rfl) hs ?_
      refine qY hf rfl rfl rfl (Y_move rfl rfl) ?_; clear hf; intro a hf
      refine qY hf rfl rfl rfl (Y_nilCheck rfl rfl) ?_; clear hf; intro a hf
      refine qY hf rfl rfl rfl (Y_fieldAddr rfl rfl fo145_0) ?_; clear hf; intro a hf
      refine qY hf rfl rfl rfl (Y_load_blk rfl rfl (i := 0) rfl rfl ag34) ?_; clear hf; intro a hf
      refine qY hf rfl rfl rfl (Y_move rfl rfl) ?_; clear hf; intro a hf
      refine qY hf rfl rfl rfl (Y_nilCheck rfl rfl) ?_; clear hf; intro a hf
      refine qY hf rfl rfl rfl (Y_fieldAddr rfl rfl fo145_1) ?_; clear hf; intro a hf
      refine qY hf rfl rfl rfl (Y_load_blk rfl rfl (i := 0) rfl rfl ag3) ?_; clear hf; intro a hf
      refine qY hf rfl rfl rfl (Y_sub rfl rfl rfl) ?_; clear hf; intro a hf
      obtain ⟨q26, hi27, hj16⟩ := bind_some hj16
      obtain ⟨hi27a, hi27b, hi27q⟩ := idx_some hi27
      refine qY hf rfl rfl rfl (Y_index rfl rfl rfl el34 ti5 (Rd.isAt (aF.at hs) (at1 (bytes_at hi27q))) hi27a hi27b) ?_; clear hf; intro a hf
      refine qY hf rfl rfl rfl (Y_load_rd rfl rfl (fun w hs => aF.at hs) (at1 (bytes_at hi27q)) ag5) ?_; clear hf; intro a hf
      refine qY hf rfl rfl rfl (Y_convert rfl rfl un5 un2) ?_; clear hf; intro a hf
      refine qY hf rfl rfl rfl (Y_assign rfl rfl) ?_; clear hf; intro a hf
      refine qNil ?_; clear hs; intro w hs
      refine wpL_nil (then_normal ?_)
      exact ⟨(IntKind.i64.wrap (al + 1)), (IntKind.i64.wrap q26), Option.some.inj hj16, (FrD.pick (FrD.pick hf.none hf rfl) hf rfl), hs⟩
     ·have hj16 := bif_f hj16 hb25
      refine wpL_skip ?_
      refine wpL_nil (then_normal ?_)
      exact ⟨(IntKind.i64.wrap (al + 1)), (IntKind.i64.wrap ((IntKind.i64.wrap (((IntKind.i64.wrap ((IntKind.i64.wrap (ai * 48271)) + 59)).tmod 2147483647).tdiv 31)) + (IntKind.i64.wrap q18))), Option.some.inj hj16, (FrD.pick (FrD.pick hf.none hf rfl) hf rfl), hs⟩
   ·have hj16 := bif_f hj16 hb17
    refine wpL_skip ?_
    refine wpL_nil (then_normal ?_)
    exact ⟨al, (IntKind.i64.wrap (((IntKind.i64.wrap ((IntKind.i64.wrap (ai * 48271)) + 59)).tmod 2147483647).tdiv 31)), Option.some.inj hj16, (FrD.pick (FrD.pick hf.none hf rfl) hf rfl), hs⟩
  ·rintro a w ⟨x13, x14, hr_, hf, hs⟩
   subst hr_
   try dsimp only at hm
   refine wpL_seq <| wpL_region ?_
   refine sY hf hs rfl rfl rfl (Y_move rfl rfl) ?_; clear hf; intro a hf
   refine sY hf hs rfl rfl rfl (Y_move rfl rfl) ?_; clear hf; intro a hf
   obtain ⟨_, hz28, hm⟩ := bind_some hm
   refine sY hf hs rfl rfl rfl (Y_rem rfl rfl rfl (nz_some hz28)) ?_; clear hf; intro a hf
   refine sY hf hs rfl rfl rfl (Y_assign rfl rfl) ?_; clear hf; intro a hf
   refine wpO_nil ?_
   obtain rfl := Option.some.inj hm
   refine wpL_ret (ret_tmp rfl hf rfl ?_)
   exact ⟨_, rfl, rfl, hs⟩

set_option maxRecDepth 100000 in
theorem spec_l01Pick_ok (F : Nat) (ay : Nat) (ar : List Int) (ak : Option Addr) (aN am : Nat) (bD : aN = ar.length) (aH : Int) (az : Int) (bX : List Int) (bY : Option Addr) (bZ cI : Nat) (cv : bZ = bX.length) (r : (Int) × Int × Int) (W : World) (hm : spec_l01Pick F ar aH az bX = some r) (bK : KR (muL [.blk ay 145 [.slice ak aN am, .int .i64 aH, .int .i64 az]]) W ak (bytes ar)) (cd : KR (muL [.blk ay 145 [.slice ak aN am, .int .i64 aH, .int .i64 az]]) W bY (ints bX)) (hst : St (muL [.blk ay 145 [.slice ak aN am, .int .i64 aH, .int .i64 az]]) W W [.blk ay 145 [.slice ak aN am, .int .i64 aH, .int .i64 az]]) :
  Calls Try.prog 114 [.pointer (some ⟨ay, 0, none⟩), .slice bY bZ cI].toArray W fun e w' => ∃ v, e = .returned v ∧ v = .int .i64 r.1 ∧ St (muL [.blk ay 145 [.slice ak aN am, .int .i64 aH, .int .i64 az]]) W w' [.blk ay 145 [.slice ak aN am, .int .i64 r.2.1, .int .i64 r.2.2]] := by
 subst bD
 subst cv
 unfold spec_l01Pick at hm
 refine Calls.enter (N := 12) Try.func114 rfl rfl rfl (fun a hf => ?_)
 have hs := hst
 obtain ⟨w, hw_⟩ : ∃ w, w = W := ⟨W, rfl⟩
 clear hw_ w
 refine wpL_seq <| wpL_region ?_
 refine sY hf hs rfl rfl rfl (Y_assign rfl rfl) ?_; clear hf; intro a hf
 refine wpO_nil <| wpL_seq <| wpL_region ?_
 refine sY hf hs rfl rfl rfl (Y_move rfl rfl) ?_; clear hf; intro a hf
 refine sY hf hs rfl rfl rfl (Y_move rfl rfl) ?_; clear hf; intro a hf
 refine sY hf hs rfl rfl rfl (Y_move rfl rfl) ?_; clear hf; intro a hf
 refine sY hf hs rfl rfl rfl (Y_lenH rfl rfl el23 rfl) ?_; clear hf; intro a hf
 obtain ⟨r1, hc2, hm⟩ := bind_some hm
 refine sCall hf rfl rfl rfl rfl (cap := []) rfl rfl en107 (spec_l01Next_ok F ay ar ak ar.length am rfl aH az (bX.length : Int) _ _ hc2 (bK.pass hs [0]) (hs.sel [0] (by decide)).rebase) ?_; clear hf
 rintro _ w ⟨rfl, hs1⟩ a hf
 have hs : St (muL [.blk ay 145 [.slice ak ar.length am, .int .i64 aH, .int .i64 az]]) W w [.blk ay 145 [.slice ak ar.length am, .int .i64 r1.2.1, .int .i64 r1.2.2]] := St.mutTail (La := []) (Lb := [.blk ay 145 [.slice ak ar.length am, .int .i64 aH, .int .i64 az]]) (hs.sel [0] (by decide)) hs1
 clear hs1
 obtain ⟨q3, hi4, hm⟩ := bind_some hm
 obtain ⟨hi4a, hi4b, hi4q⟩ := idx_some hi4
 refine sY hf hs rfl rfl rfl (Y_index rfl rfl rfl el23 ti2 (Rd.isAt (cd.at hs) (at1 (ints_at hi4q))) hi4a hi4b) ?_; clear hf; intro a hf
 refine sY hf hs rfl rfl rfl (Y_load_rd rfl rfl (fun w hs => cd.at hs) (at1 (ints_at hi4q)) ag2) ?_; clear hf; intro a hf
 refine sY hf hs rfl rfl rfl (Y_assign rfl rfl) ?_; clear hf; intro a hf
 refine wpO_nil ?_
 obtain rfl := Option.some.inj hm
 refine wpL_ret (ret_tmp rfl hf rfl ?_)
 exact ⟨_, rfl, rfl, hs⟩

set_option maxHeartbeats 2000000 in
set_option maxRecDepth 100000 in
theorem spec_l11Draw_ok (F : Nat) (b_p0 : Nat) (aa : List Int) (ae : Option Addr) (aU af : Nat) (bP : aU = aa.length) (al : Int) (ai : Int) (r : (GEventGraph) × Int × Int) (W : World) (hm : spec_l11Draw F aa al ai = some r) (aF : KR (muL [.blk b_p0 145 [.slice ae aU af, .int .i64 al, .int .i64 ai]]) W ae (bytes aa)) (hst : St (muL [.blk b_p0 145 [.slice ae aU af, .int .i64 al, .int .i64 ai]]) W W [.blk b_p0 145 [.slice ae aU af, .int .i64 al, .int .i64 ai]]) :
  Calls Try.prog 125 [.pointer (some ⟨b_p0, 0, none⟩)].toArray W fun e w' => ∃ v, e = .returned v ∧ ∃ A670, ∃ n671, ∃ c672, v = .agg #[.int .i64 r.1.Events, .slice A670 n671 c672] ∧ n671 = r.1.Places.length ∧ St (muL [.blk b_p0 145 [.slice ae aU af, .int .i64 al, .int .i64 ai]]) W w' [.row A670 n671 c672 127 4 ((recs GPlace.cells) r.1.Places), .blk b_p0 145 [.slice ae aU af, .int .i64 r.2.1, .int .i64 r.2.2]] := by
 subst bP
 unfold spec_l11Draw at hm
 refine Calls.enter (N := 108) Try.func125 rfl rfl rfl (fun a hf => ?_)
 have hs := hst
 obtain ⟨w, hw_⟩ : ∃ w, w = W := ⟨W, rfl⟩
 clear hw_ w
 refine wpL_seq <| wpL_region ?_
 refine sAlloc hf hs rfl rfl rfl rfl ti59 ?_; clear hf hs; intro a w b1 hs hf
 have hs : St (muL [.blk b_p0 145 [.slice ae aa.length af, .int .i64 al, .int .i64 ai]]) W w [.blk b_p0 145 [.slice ae aa.length af, .int .i64 al, .int .i64 ai], .blk b1 59 [.int .i64 0, .slice none 0 0]] := hs
 refine wpO_nil <| wpL_seq <| wpL_region ?_
 refine sY hf hs rfl rfl rfl (Y_move rfl rfl) ?_; clear hf; intro a hf
 obtain ⟨r2, hc3, hm⟩ := bind_some hm
 refine sCall hf rfl rfl rfl rfl (cap := []) rfl rfl en107 (spec_l01Next_ok F b_p0 aa ae aa.length af rfl al ai 5 _ _ hc3 (aF.pass hs [0]) (hs.sel [0] (by decide)).rebase) ?_; clear hf
 rintro _ w ⟨rfl, hs1⟩ a hf
 have hs : St (muL [.blk b_p0 145 [.slice ae aa.length af, .int .i64 al, .int .i64 ai]]) W w [.blk b1 59 [.int .i64 0, .slice none 0 0], .blk b_p0 145 [.slice ae aa.length af, .int .i64 r2.2.1, .int .i64 r2.2.2]] := St.mutTail (La := [.blk b1 59 [.int .i64 0, .slice none 0 0]]) (Lb := [.blk b_p0 145 [.slice ae aa.length af, .int .i64 al, .int .i64 ai]]) (hs.sel [1, 0] (by decide)) hs1
 clear hs1
 refine sY hf hs rfl rfl rfl (Y_add rfl rfl rfl) ?_; clear hf; intro a hf
 refine sEmpty hf hs rfl rfl rfl rfl el57 ti127 ?_; clear hf hs; intro a w A4 hs hf
 have hs : St (muL [.blk b_p0 145 [.slice ae aa.length af, .int .i64 al, .int .i64 ai]]) W w [.blk b1 59 [.int .i64 0, .slice none 0 0], .blk b_p0 145 [.slice ae aa.length af, .int .i64 r2.2.1, .int .i64 r2.2.2], .row A4 0 0 127 4 ((recs GPlace.cells) ([] : List GPlace))] := hs
 refine sY hf hs rfl rfl rfl (Y_build (parts := [(0, .tmp 9), (1, .tmp 10)]) (vs := [.int .i64 (IntKind.i64.wrap (1 + r2.1)), .slice A4 0 0]) rfl rfl (run_build (parts := [(0, .int .i64 (IntKind.i64.wrap (1 + r2.1))), (1, .slice A4 0 0)]) (cells := [.int .i64 (IntKind.i64.wrap (1 + r2.1)), .slice A4 0 0]) (places := #[(0, 1), (1, 1)]) ti59 Try.underlying59 (fun w => by simp [go_sem]) rfl)) ?_; clear hf; intro a hf
 refine sAlloc hf hs rfl rfl rfl rfl ti59 ?_; clear hf hs; intro a w b6 hs hf
 have hs : St (muL [.blk b_p0 145 [.slice ae aa.length af, .int .i64 al, .int .i64 ai]]) W w [.blk b1 59 [.int .i64 0, .slice none 0 0], .blk b_p0 145 [.slice ae aa.length af, .int .i64 r2.2.1, .int .i64 r2.2.2], .row A4 0 0 127 4 ((recs GPlace.cells) ([] : List GPlace)), .blk b6 59 [.int .i64 0, .slice none 0 0]] := hs
 refine sStore (i := 3) (us := [.int .i64 (IntKind.i64.wrap (1 + r2.1)), .slice A4 0 0]) hf hs rfl rfl rfl rfl rfl rfl ti59 rfl rfl rfl (Nat.le_of_ble_eq_true rfl) rfl ?_; clear hs; intro w hs
 have hs : St (muL [.blk b_p0 145 [.slice ae aa.length af, .int .i64 al, .int .i64 ai]]) W w [.blk b1 59 [.int .i64 0, .slice none 0 0], .blk b_p0 145 [.slice ae aa.length af, .int .i64 r2.2.1, .int .i64 r2.2.2], .row A4 0 0 127 4 ((recs GPlace.cells) ([] : List GPlace)), .blk b6 59 [.int .i64 (IntKind.i64.wrap (1 + r2.1)), .slice A4 0 0]] := hs
 refine wpO_nil <| wpL_seq <| wpL_seq <| wpL_region ?_
 refine sY hf hs rfl rfl rfl (Y_move rfl rfl) ?_; clear hf; intro a hf
 obtain ⟨r7, hc8, hm⟩ := bind_some hm
 refine sCall hf rfl rfl rfl rfl (cap := []) rfl rfl en107 (spec_l01Next_ok F b_p0 aa ae aa.length af rfl r2.2.1 r2.2.2 9 _ _ hc8 (aF.pass hs [1]) (hs.sel [1] (by decide)).rebase) ?_; clear hf
 rintro _ w ⟨rfl, hs1⟩ a hf
 have hs : St (muL [.blk b_p0 145 [.slice ae aa.length af, .int .i64 al, .int .i64 ai]]) W w [.blk b1 59 [.int .i64 0, .slice none 0 0], .row A4 0 0 127 4 ((recs GPlace.cells) ([] : List GPlace)), .blk b6 59 [.int .i64 (IntKind.i64.wrap (1 + r2.1)), .slice A4 0 0], .blk b_p0 145 [.slice ae aa.length af, .int .i64 r7.2.1, .int .i64 r7.2.2]] := St.mutTail (La := [.blk b1 59 [.int .i64 0, .slice none 0 0], .row A4 0 0 127 4 ((recs GPlace.cells) ([] : List GPlace)), .blk b6 59 [.int .i64 (IntKind.i64.wrap (1 + r2.1)), .slice A4 0 0]]) (Lb := [.blk b_p0 145 [.slice ae aa.length af, .int .i64 r2.2.1, .int .i64 r2.2.2]]) (hs.sel [0, 2, 3, 1] (by decide)) hs1
 clear hs1
 refine sY hf hs rfl rfl rfl (Y_assign rfl rfl) ?_; clear hf; intro a hf
 refine wpO_nil ?_
 obtain ⟨r350, hl351, hm⟩ := bind_some hm
 refine wpL_block (fun a w => ∃ x343 : Int, ∃ x344 : Int, ∃ xs345 : List GPlace, ∃ A346, ∃ n347, ∃ c348, (x343, x344, xs345) = r350 ∧ n347 = xs345.length ∧ Fr a 108 [(0, .pointer (some ⟨b_p0, 0, none⟩)), (2, .pointer (some ⟨b1, 0, none⟩)), (3, .pointer (some ⟨b6, 0, none⟩))] ∧ St (muL [.blk b_p0 145 [.slice ae aa.length af, .int .i64 al, .int .i64 ai]]) W w [.blk b_p0 145 [.slice ae aa.length af, .int .i64 x343, .int .i64 x344], .blk b1 59 [.int .i64 0, .slice none 0 0], .blk b6 59 [.int .i64 (IntKind.i64.wrap (1 + r2.1)), .slice A346 n347 c348], .row A346 n347 c348 127 4 ((recs GPlace.cells) xs345)]) ?_ ?_
 ·refine wpL_loop (fun n a w => ∃ x229 : Int, ∃ x230 : Int, ∃ xs231 : List GPlace, ∃ x236 : Int, ∃ A232, ∃ n233, ∃ c234, spec_l11Draw_L1 F aa r2 n x229 x230 xs231 x236 = some r350 ∧ n233 = xs231.length ∧ Fr a 108 [(0, .pointer (some ⟨b_p0, 0, none⟩)), (2, .pointer (some ⟨b1, 0, none⟩)), (3, .pointer (some ⟨b6, 0, none⟩)), (4, .int .i64 x236)] ∧ St (muL [.blk b_p0 145 [.slice ae aa.length af, .int .i64 al, .int .i64 ai]]) W w [.blk b_p0 145 [.slice ae aa.length af, .int .i64 x229, .int .i64 x230], .blk b1 59 [.int .i64 0, .slice none 0 0], .blk b6 59 [.int .i64 (IntKind.i64.wrap (1 + r2.1)), .slice A232 n233 c234], .row A232 n233 c234 127 4 ((recs GPlace.cells) xs231)]) F ?_ ?_ ?_
  ·exact ⟨r7.2.1, r7.2.2, ([] : List GPlace), r7.1, A4, 0, 0, hl351, rfl, (FrD.pick (FrD.pick (FrD.pick (FrD.pick hf.none hf rfl) hf rfl) hf rfl) hf rfl), hs.sel [3, 0, 2, 1] (by decide)⟩
  ·rintro a w ⟨x229, x230, xs231, x236, A232, n233, c234, h0_, -, -, -⟩; simp [spec_l11Draw_L1] at h0_
  ·rintro n353 a w ⟨x229, x230, xs231, x236, A232, n233, c234, hm352, hn235, hf, hs⟩
   rw [spec_l11Draw_L1] at hm352
   refine wpL_seq <| wpL_seq <| wpL_region ?_
   refine sY hf hs rfl rfl rfl (Y_move rfl rfl) ?_; clear hf; intro a hf
   refine sY hf hs rfl rfl rfl (Y_gtr rfl rfl rfl) ?_; clear hf; intro a hf
   refine wpO_nil ?_
   refine wpL_cond hf rfl (fun hb354 => ?_) (fun hb354 => ?_)
   ·have hm352 := bif_t hm352 hb354
    refine wpL_skip <| wpL_seq <| wpL_block0 <| wpL_seq ?_
    obtain ⟨r390, hj391, hm352⟩ := bind_some hm352
    refine wpL_cut (fun a w => ∃ x384 : Int, ∃ x385 : Int, ∃ x387 : Int, ∃ x388 : Int, ∃ x389 : Int, ∃ b386, (x384, x385, x387, x388, x389) = r390 ∧ Fr a 108 [(0, .pointer (some ⟨b_p0, 0, none⟩)), (2, .pointer (some ⟨b1, 0, none⟩)), (3, .pointer (some ⟨b6, 0, none⟩)), (4, .int .i64 x236), (5, .pointer (some ⟨b386, 0, none⟩))] ∧ St (muL [.blk b_p0 145 [.slice ae aa.length af, .int .i64 al, .int .i64 ai]]) W w [.blk b_p0 145 [.slice ae aa.length af, .int .i64 x384, .int .i64 x385], .blk b1 59 [.int .i64 0, .slice none 0 0], .blk b6 59 [.int .i64 (IntKind.i64.wrap (1 + r2.1)), .slice A232 n233 c234], .row A232 n233 c234 127 4 ((recs GPlace.cells) xs231), .blk b386 127 [.int .i64 x387, .int .i64 x388, .int .i64 x389, .int .i64 0]]) ?_ ?_
    ·refine wpL_drawM [.blk b1 59 [.int .i64 0, .slice none 0 0], .blk b6 59 [.int .i64 (IntKind.i64.wrap (1 + r2.1)), .slice A232 n233 c234], .row A232 n233 c234 127 4 ((recs GPlace.cells) xs231)] [7, 9, 12] (by kernel_rfl) hs ?_; clear hs; intro w hs
     have hs0 : St (muL [.blk b_p0 145 [.slice ae aa.length af, .int .i64 al, .int .i64 ai]]) W w [.blk b1 59 [.int .i64 0, .slice none 0 0], .blk b6 59 [.int .i64 (IntKind.i64.wrap (1 + r2.1)), .slice A232 n233 c234], .row A232 n233 c234 127 4 ((recs GPlace.cells) xs231)] := hs.sel [1, 2, 3] (by decide)
     refine mYp (i := 0) rfl (by kernel_rfl) (by kernel_rfl) hf rfl rfl rfl (fun _ => Y_move rfl rfl) ?_; clear hf; intro a hf
     refine mYp (i := 1) rfl (by kernel_rfl) (by kernel_rfl) hf rfl rfl rfl (fun _ => Y_fieldAddr rfl rfl fo59_0) ?_; clear hf; intro a hf
     refine mY (i := 2) [[3], [3, 7], []] rfl (by kernel_rfl) (by kernel_rfl) hf hs0 rfl rfl rfl (Y_load_blk rfl rfl (i := 1) rfl rfl ag2) ?_; clear hf; intro a hf
     refine mYp (i := 4) rfl (by kernel_rfl) (by kernel_rfl) hf rfl rfl rfl (fun _ => Y_move rfl rfl) ?_; clear hf; intro a hf
     refine mYp (i := 5) rfl (by kernel_rfl) (by kernel_rfl) hf rfl rfl rfl (fun _ => Y_fieldAddr rfl rfl fo59_0) ?_; clear hf; intro a hf
     refine mY (i := 6) [[], [7], []] rfl (by kernel_rfl) (by kernel_rfl) hf hs0 rfl rfl rfl (Y_load_blk rfl rfl (i := 1) rfl rfl ag2) ?_; clear hf; intro a hf
     refine mYp (i := 8) rfl (by kernel_rfl) (by kernel_rfl) hf rfl rfl rfl (fun _ => Y_move rfl rfl) ?_; clear hf; intro a hf
     refine mRun2 (i := 3) (j := 11) rfl rfl (by kernel_rfl) ?_ ?_
     ·obtain ⟨r399, hc400, hj391⟩ := bind_some hj391
      refine sCall hf rfl rfl rfl rfl (cap := []) rfl rfl en107 (spec_l01Next_ok F b_p0 aa ae aa.length af rfl x229 x230 (IntKind.i64.wrap (1 + r2.1)) _ _ hc400 (aF.pass hs [0]) (hs.sel [0] (by decide)).rebase) ?_; clear hf
      rintro _ w ⟨rfl, hs1⟩ a hf
      have hs : St (muL [.blk b_p0 145 [.slice ae aa.length af, .int .i64 al, .int .i64 ai]]) W w [.blk b1 59 [.int .i64 0, .slice none 0 0], .blk b6 59 [.int .i64 (IntKind.i64.wrap (1 + r2.1)), .slice A232 n233 c234], .row A232 n233 c234 127 4 ((recs GPlace.cells) xs231), .blk b_p0 145 [.slice ae aa.length af, .int .i64 r399.2.1, .int .i64 r399.2.2]] := St.mutTail (La := [.blk b1 59 [.int .i64 0, .slice none 0 0], .blk b6 59 [.int .i64 (IntKind.i64.wrap (1 + r2.1)), .slice A232 n233 c234], .row A232 n233 c234 127 4 ((recs GPlace.cells) xs231)]) (Lb := [.blk b_p0 145 [.slice ae aa.length af, .int .i64 x229, .int .i64 x230]]) (hs.sel [1, 2, 3, 0] (by decide)) hs1
      clear hs1
      have hs0 : St (muL [.blk b_p0 145 [.slice ae aa.length af, .int .i64 al, .int .i64 ai]]) W w [.blk b1 59 [.int .i64 0, .slice none 0 0], .blk b6 59 [.int .i64 (IntKind.i64.wrap (1 + r2.1)), .slice A232 n233 c234], .row A232 n233 c234 127 4 ((recs GPlace.cells) xs231)] := hs.sel [0, 1, 2] (by decide)
      refine wpO_nil ⟨Or.inr (fun _ => hs0), ?_⟩
      refine mRun2 (i := 7) (j := 11) rfl rfl (by kernel_rfl) ?_ ?_
      ·obtain ⟨r401, hc402, hj391⟩ := bind_some hj391
       refine sCall hf rfl rfl rfl rfl (cap := []) rfl rfl en107 (spec_l01Next_ok F b_p0 aa ae aa.length af rfl r399.2.1 r399.2.2 (IntKind.i64.wrap (1 + r2.1)) _ _ hc402 (aF.pass hs [3]) (hs.sel [3] (by decide)).rebase) ?_; clear hf
       rintro _ w ⟨rfl, hs1⟩ a hf
       have hs : St (muL [.blk b_p0 145 [.slice ae aa.length af, .int .i64 al, .int .i64 ai]]) W w [.blk b1 59 [.int .i64 0, .slice none 0 0], .blk b6 59 [.int .i64 (IntKind.i64.wrap (1 + r2.1)), .slice A232 n233 c234], .row A232 n233 c234 127 4 ((recs GPlace.cells) xs231), .blk b_p0 145 [.slice ae aa.length af, .int .i64 r401.2.1, .int .i64 r401.2.2]] := St.mutTail (La := [.blk b1 59 [.int .i64 0, .slice none 0 0], .blk b6 59 [.int .i64 (IntKind.i64.wrap (1 + r2.1)), .slice A232 n233 c234], .row A232 n233 c234 127 4 ((recs GPlace.cells) xs231)]) (Lb := [.blk b_p0 145 [.slice ae aa.length af, .int .i64 r399.2.1, .int .i64 r399.2.2]]) (hs.sel [0, 1, 2, 3] (by decide)) hs1
       clear hs1
       refine wpO_nil ⟨Or.inl (by decide), ?_⟩
       refine mRun2 (i := 9) (j := 11) rfl rfl (by kernel_rfl) ?_ ?_
       ·obtain ⟨r403, hc404, hj391⟩ := bind_some hj391
        refine sCall hf rfl rfl rfl rfl (cap := []) rfl rfl en107 (spec_l01Next_ok F b_p0 aa ae aa.length af rfl r401.2.1 r401.2.2 12 _ _ hc404 (aF.pass hs [3]) (hs.sel [3] (by decide)).rebase) ?_; clear hf
        rintro _ w ⟨rfl, hs1⟩ a hf
        have hs : St (muL [.blk b_p0 145 [.slice ae aa.length af, .int .i64 al, .int .i64 ai]]) W w [.blk b1 59 [.int .i64 0, .slice none 0 0], .blk b6 59 [.int .i64 (IntKind.i64.wrap (1 + r2.1)), .slice A232 n233 c234], .row A232 n233 c234 127 4 ((recs GPlace.cells) xs231), .blk b_p0 145 [.slice ae aa.length af, .int .i64 r403.2.1, .int .i64 r403.2.2]] := St.mutTail (La := [.blk b1 59 [.int .i64 0, .slice none 0 0], .blk b6 59 [.int .i64 (IntKind.i64.wrap (1 + r2.1)), .slice A232 n233 c234], .row A232 n233 c234 127 4 ((recs GPlace.cells) xs231)]) (Lb := [.blk b_p0 145 [.slice ae aa.length af, .int .i64 r401.2.1, .int .i64 r401.2.2]]) (hs.sel [0, 1, 2, 3] (by decide)) hs1
        clear hs1
        refine wpO_nil ⟨Or.inl (by decide), ?_⟩
        refine mYp (i := 10) rfl (by kernel_rfl) (by kernel_rfl) hf rfl rfl rfl (fun _ => Y_build (parts := [(0, .tmp 21), (1, .tmp 25), (2, .tmp 27)]) (vs := [.int .i64 r399.1, .int .i64 r401.1, .int .i64 r403.1]) rfl rfl (run_build (parts := [(0, .int .i64 r399.1), (1, .int .i64 r401.1), (2, .int .i64 r403.1)]) (cells := [.int .i64 r399.1, .int .i64 r401.1, .int .i64 r403.1, .int .i64 0]) (places := #[(0, 1), (1, 1), (2, 1), (3, 1)]) ti127 Try.underlying127 (fun w => by simp [go_sem]) rfl)) ?_; clear hf; intro a hf
        refine mRun (i := 11) rfl (by kernel_rfl) ?_
        refine sAlloc hf hs rfl rfl rfl rfl ti127 ?_; clear hf hs; intro a w b405 hs hf
        have hs : St (muL [.blk b_p0 145 [.slice ae aa.length af, .int .i64 al, .int .i64 ai]]) W w [.blk b1 59 [.int .i64 0, .slice none 0 0], .blk b6 59 [.int .i64 (IntKind.i64.wrap (1 + r2.1)), .slice A232 n233 c234], .row A232 n233 c234 127 4 ((recs GPlace.cells) xs231), .blk b_p0 145 [.slice ae aa.length af, .int .i64 r403.2.1, .int .i64 r403.2.2], .blk b405 127 [.int .i64 0, .int .i64 0, .int .i64 0, .int .i64 0]] := hs
        have hs0 : St (muL [.blk b_p0 145 [.slice ae aa.length af, .int .i64 al, .int .i64 ai]]) W w [.blk b1 59 [.int .i64 0, .slice none 0 0], .blk b6 59 [.int .i64 (IntKind.i64.wrap (1 + r2.1)), .slice A232 n233 c234], .row A232 n233 c234 127 4 ((recs GPlace.cells) xs231)] := hs.sel [0, 1, 2] (by decide)
        refine wpO_nil ⟨Or.inr (fun _ => hs0), ?_⟩
        refine mRun (i := 12) rfl (by kernel_rfl) ?_
        refine sStore (i := 4) (us := [.int .i64 r399.1, .int .i64 r401.1, .int .i64 r403.1, .int .i64 0]) hf hs rfl rfl rfl rfl rfl rfl ti127 rfl rfl rfl (Nat.le_of_ble_eq_true rfl) rfl ?_; clear hs; intro w hs
        have hs : St (muL [.blk b_p0 145 [.slice ae aa.length af, .int .i64 al, .int .i64 ai]]) W w [.blk b1 59 [.int .i64 0, .slice none 0 0], .blk b6 59 [.int .i64 (IntKind.i64.wrap (1 + r2.1)), .slice A232 n233 c234], .row A232 n233 c234 127 4 ((recs GPlace.cells) xs231), .blk b_p0 145 [.slice ae aa.length af, .int .i64 r403.2.1, .int .i64 r403.2.2], .blk b405 127 [.int .i64 r399.1, .int .i64 r401.1, .int .i64 r403.1, .int .i64 0]] := hs
        refine wpO_nil ⟨Or.inl (by decide), ?_⟩
        refine mDone (by kernel_rfl) ?_
        clear hs0
        refine wpL_nil (then_normal ?_)
        exact ⟨r403.2.1, r403.2.2, r399.1, r401.1, r403.1, b405, Option.some.inj hj391, (FrD.pick (FrD.pick (FrD.pick (FrD.pick (FrD.pick hf.none hf rfl) hf rfl) hf rfl) hf rfl) hf rfl), hs.sel [3, 0, 1, 2, 4] (by decide)⟩
       ·refine sAlloc hf hs rfl rfl rfl rfl ti127 ?_; clear hf hs; intro a w b406 hs hf
        have hs : St (muL [.blk b_p0 145 [.slice ae aa.length af, .int .i64 al, .int .i64 ai]]) W w [.blk b1 59 [.int .i64 0, .slice none 0 0], .blk b6 59 [.int .i64 (IntKind.i64.wrap (1 + r2.1)), .slice A232 n233 c234], .row A232 n233 c234 127 4 ((recs GPlace.cells) xs231), .blk b_p0 145 [.slice ae aa.length af, .int .i64 r401.2.1, .int .i64 r401.2.2], .blk b406 127 [.int .i64 0, .int .i64 0, .int .i64 0, .int .i64 0]] := hs
        have hs0 : St (muL [.blk b_p0 145 [.slice ae aa.length af, .int .i64 al, .int .i64 ai]]) W w [.blk b1 59 [.int .i64 0, .slice none 0 0], .blk b6 59 [.int .i64 (IntKind.i64.wrap (1 + r2.1)), .slice A232 n233 c234], .row A232 n233 c234 127 4 ((recs GPlace.cells) xs231)] := hs.sel [0, 1, 2] (by decide)
        refine wpO_nil ⟨Or.inr (fun _ => hs0), ?_⟩
        refine mRun (i := 9) rfl (by kernel_rfl) ?_
        obtain ⟨r407, hc408, hj391⟩ := bind_some hj391
        refine sCall hf rfl rfl rfl rfl (cap := []) rfl rfl en107 (spec_l01Next_ok F b_p0 aa ae aa.length af rfl r401.2.1 r401.2.2 12 _ _ hc408 (aF.pass hs [3]) (hs.sel [3] (by decide)).rebase) ?_; clear hf
        rintro _ w ⟨rfl, hs1⟩ a hf
        have hs : St (muL [.blk b_p0 145 [.slice ae aa.length af, .int .i64 al, .int .i64 ai]]) W w [.blk b1 59 [.int .i64 0, .slice none 0 0], .blk b6 59 [.int .i64 (IntKind.i64.wrap (1 + r2.1)), .slice A232 n233 c234], .row A232 n233 c234 127 4 ((recs GPlace.cells) xs231), .blk b406 127 [.int .i64 0, .int .i64 0, .int .i64 0, .int .i64 0], .blk b_p0 145 [.slice ae aa.length af, .int .i64 r407.2.1, .int .i64 r407.2.2]] := St.mutTail (La := [.blk b1 59 [.int .i64 0, .slice none 0 0], .blk b6 59 [.int .i64 (IntKind.i64.wrap (1 + r2.1)), .slice A232 n233 c234], .row A232 n233 c234 127 4 ((recs GPlace.cells) xs231), .blk b406 127 [.int .i64 0, .int .i64 0, .int .i64 0, .int .i64 0]]) (Lb := [.blk b_p0 145 [.slice ae aa.length af, .int .i64 r401.2.1, .int .i64 r401.2.2]]) (hs.sel [0, 1, 2, 4, 3] (by decide)) hs1
        clear hs1
        refine wpO_nil ⟨Or.inl (by decide), ?_⟩
        refine mYp (i := 10) rfl (by kernel_rfl) (by kernel_rfl) hf rfl rfl rfl (fun _ => Y_build (parts := [(0, .tmp 21), (1, .tmp 25), (2, .tmp 27)]) (vs := [.int .i64 r399.1, .int .i64 r401.1, .int .i64 r407.1]) rfl rfl (run_build (parts := [(0, .int .i64 r399.1), (1, .int .i64 r401.1), (2, .int .i64 r407.1)]) (cells := [.int .i64 r399.1, .int .i64 r401.1, .int .i64 r407.1, .int .i64 0]) (places := #[(0, 1), (1, 1), (2, 1), (3, 1)]) ti127 Try.underlying127 (fun w => by simp [go_sem]) rfl)) ?_; clear hf; intro a hf
        refine mRun (i := 12) rfl (by kernel_rfl) ?_
        refine sStore (i := 3) (us := [.int .i64 r399.1, .int .i64 r401.1, .int .i64 r407.1, .int .i64 0]) hf hs rfl rfl rfl rfl rfl rfl ti127 rfl rfl rfl (Nat.le_of_ble_eq_true rfl) rfl ?_; clear hs; intro w hs
        have hs : St (muL [.blk b_p0 145 [.slice ae aa.length af, .int .i64 al, .int .i64 ai]]) W w [.blk b1 59 [.int .i64 0, .slice none 0 0], .blk b6 59 [.int .i64 (IntKind.i64.wrap (1 + r2.1)), .slice A232 n233 c234], .row A232 n233 c234 127 4 ((recs GPlace.cells) xs231), .blk b406 127 [.int .i64 r399.1, .int .i64 r401.1, .int .i64 r407.1, .int .i64 0], .blk b_p0 145 [.slice ae aa.length af, .int .i64 r407.2.1, .int .i64 r407.2.2]] := hs
        refine wpO_nil ⟨Or.inl (by decide), ?_⟩
        refine mDone (by kernel_rfl) ?_
        clear hs0
        refine wpL_nil (then_normal ?_)
        exact ⟨r407.2.1, r407.2.2, r399.1, r401.1, r407.1, b406, Option.some.inj hj391, (FrD.pick (FrD.pick (FrD.pick (FrD.pick (FrD.pick hf.none hf rfl) hf rfl) hf rfl) hf rfl) hf rfl), hs.sel [4, 0, 1, 2, 3] (by decide)⟩
      ·refine sAlloc hf hs rfl rfl rfl rfl ti127 ?_; clear hf hs; intro a w b409 hs hf
       have hs : St (muL [.blk b_p0 145 [.slice ae aa.length af, .int .i64 al, .int .i64 ai]]) W w [.blk b1 59 [.int .i64 0, .slice none 0 0], .blk b6 59 [.int .i64 (IntKind.i64.wrap (1 + r2.1)), .slice A232 n233 c234], .row A232 n233 c234 127 4 ((recs GPlace.cells) xs231), .blk b_p0 145 [.slice ae aa.length af, .int .i64 r399.2.1, .int .i64 r399.2.2], .blk b409 127 [.int .i64 0, .int .i64 0, .int .i64 0, .int .i64 0]] := hs
       have hs0 : St (muL [.blk b_p0 145 [.slice ae aa.length af, .int .i64 al, .int .i64 ai]]) W w [.blk b1 59 [.int .i64 0, .slice none 0 0], .blk b6 59 [.int .i64 (IntKind.i64.wrap (1 + r2.1)), .slice A232 n233 c234], .row A232 n233 c234 127 4 ((recs GPlace.cells) xs231)] := hs.sel [0, 1, 2] (by decide)
       refine wpO_nil ⟨Or.inr (fun _ => hs0), ?_⟩
       refine mRun (i := 7) rfl (by kernel_rfl) ?_
       obtain ⟨r410, hc411, hj391⟩ := bind_some hj391
       refine sCall hf rfl rfl rfl rfl (cap := []) rfl rfl en107 (spec_l01Next_ok F b_p0 aa ae aa.length af rfl r399.2.1 r399.2.2 (IntKind.i64.wrap (1 + r2.1)) _ _ hc411 (aF.pass hs [3]) (hs.sel [3] (by decide)).rebase) ?_; clear hf
       rintro _ w ⟨rfl, hs1⟩ a hf
       have hs : St (muL [.blk b_p0 145 [.slice ae aa.length af, .int .i64 al, .int .i64 ai]]) W w [.blk b1 59 [.int .i64 0, .slice none 0 0], .blk b6 59 [.int .i64 (IntKind.i64.wrap (1 + r2.1)), .slice A232 n233 c234], .row A232 n233 c234 127 4 ((recs GPlace.cells) xs231), .blk b409 127 [.int .i64 0, .int .i64 0, .int .i64 0, .int .i64 0], .blk b_p0 145 [.slice ae aa.length af, .int .i64 r410.2.1, .int .i64 r410.2.2]] := St.mutTail (La := [.blk b1 59 [.int .i64 0, .slice none 0 0], .blk b6 59 [.int .i64 (IntKind.i64.wrap (1 + r2.1)), .slice A232 n233 c234], .row A232 n233 c234 127 4 ((recs GPlace.cells) xs231), .blk b409 127 [.int .i64 0, .int .i64 0, .int .i64 0, .int .i64 0]]) (Lb := [.blk b_p0 145 [.slice ae aa.length af, .int .i64 r399.2.1, .int .i64 r399.2.2]]) (hs.sel [0, 1, 2, 4, 3] (by decide)) hs1
       clear hs1
       refine wpO_nil ⟨Or.inl (by decide), ?_⟩
       refine mRun (i := 9) rfl (by kernel_rfl) ?_
       obtain ⟨r412, hc413, hj391⟩ := bind_some hj391
       refine sCall hf rfl rfl rfl rfl (cap := []) rfl rfl en107 (spec_l01Next_ok F b_p0 aa ae aa.length af rfl r410.2.1 r410.2.2 12 _ _ hc413 (aF.pass hs [4]) (hs.sel [4] (by decide)).rebase) ?_; clear hf
       rintro _ w ⟨rfl, hs1⟩ a hf
       have hs : St (muL [.blk b_p0 145 [.slice ae aa.length af, .int .i64 al, .int .i64 ai]]) W w [.blk b1 59 [.int .i64 0, .slice none 0 0], .blk b6 59 [.int .i64 (IntKind.i64.wrap (1 + r2.1)), .slice A232 n233 c234], .row A232 n233 c234 127 4 ((recs GPlace.cells) xs231), .blk b409 127 [.int .i64 0, .int .i64 0, .int .i64 0, .int .i64 0], .blk b_p0 145 [.slice ae aa.length af, .int .i64 r412.2.1, .int .i64 r412.2.2]] := St.mutTail (La := [.blk b1 59 [.int .i64 0, .slice none 0 0], .blk b6 59 [.int .i64 (IntKind.i64.wrap (1 + r2.1)), .slice A232 n233 c234], .row A232 n233 c234 127 4 ((recs GPlace.cells) xs231), .blk b409 127 [.int .i64 0, .int .i64 0, .int .i64 0, .int .i64 0]]) (Lb := [.blk b_p0 145 [.slice ae aa.length af, .int .i64 r410.2.1, .int .i64 r410.2.2]]) (hs.sel [0, 1, 2, 3, 4] (by decide)) hs1
       clear hs1
       refine wpO_nil ⟨Or.inl (by decide), ?_⟩
       refine mYp (i := 10) rfl (by kernel_rfl) (by kernel_rfl) hf rfl rfl rfl (fun _ => Y_build (parts := [(0, .tmp 21), (1, .tmp 25), (2, .tmp 27)]) (vs := [.int .i64 r399.1, .int .i64 r410.1, .int .i64 r412.1]) rfl rfl (run_build (parts := [(0, .int .i64 r399.1), (1, .int .i64 r410.1), (2, .int .i64 r412.1)]) (cells := [.int .i64 r399.1, .int .i64 r410.1, .int .i64 r412.1, .int .i64 0]) (places := #[(0, 1), (1, 1), (2, 1), (3, 1)]) ti127 Try.underlying127 (fun w => by simp [go_sem]) rfl)) ?_; clear hf; intro a hf
       refine mRun (i := 12) rfl (by kernel_rfl) ?_
       refine sStore (i := 3) (us := [.int .i64 r399.1, .int .i64 r410.1, .int .i64 r412.1, .int .i64 0]) hf hs rfl rfl rfl rfl rfl rfl ti127 rfl rfl rfl (Nat.le_of_ble_eq_true rfl) rfl ?_; clear hs; intro w hs
       have hs : St (muL [.blk b_p0 145 [.slice ae aa.length af, .int .i64 al, .int .i64 ai]]) W w [.blk b1 59 [.int .i64 0, .slice none 0 0], .blk b6 59 [.int .i64 (IntKind.i64.wrap (1 + r2.1)), .slice A232 n233 c234], .row A232 n233 c234 127 4 ((recs GPlace.cells) xs231), .blk b409 127 [.int .i64 r399.1, .int .i64 r410.1, .int .i64 r412.1, .int .i64 0], .blk b_p0 145 [.slice ae aa.length af, .int .i64 r412.2.1, .int .i64 r412.2.2]] := hs
       refine wpO_nil ⟨Or.inl (by decide), ?_⟩
       refine mDone (by kernel_rfl) ?_
       clear hs0
       refine wpL_nil (then_normal ?_)
       exact ⟨r412.2.1, r412.2.2, r399.1, r410.1, r412.1, b409, Option.some.inj hj391, (FrD.pick (FrD.pick (FrD.pick (FrD.pick (FrD.pick hf.none hf rfl) hf rfl) hf rfl) hf rfl) hf rfl), hs.sel [4, 0, 1, 2, 3] (by decide)⟩
     ·refine sAlloc hf hs rfl rfl rfl rfl ti127 ?_; clear hf hs; intro a w b414 hs hf
      have hs : St (muL [.blk b_p0 145 [.slice ae aa.length af, .int .i64 al, .int .i64 ai]]) W w [.blk b_p0 145 [.slice ae aa.length af, .int .i64 x229, .int .i64 x230], .blk b1 59 [.int .i64 0, .slice none 0 0], .blk b6 59 [.int .i64 (IntKind.i64.wrap (1 + r2.1)), .slice A232 n233 c234], .row A232 n233 c234 127 4 ((recs GPlace.cells) xs231), .blk b414 127 [.int .i64 0, .int .i64 0, .int .i64 0, .int .i64 0]] := hs
      have hs0 : St (muL [.blk b_p0 145 [.slice ae aa.length af, .int .i64 al, .int .i64 ai]]) W w [.blk b1 59 [.int .i64 0, .slice none 0 0], .blk b6 59 [.int .i64 (IntKind.i64.wrap (1 + r2.1)), .slice A232 n233 c234], .row A232 n233 c234 127 4 ((recs GPlace.cells) xs231)] := hs.sel [1, 2, 3] (by decide)
      refine wpO_nil ⟨Or.inr (fun _ => hs0), ?_⟩
      refine mRun (i := 3) rfl (by kernel_rfl) ?_
      obtain ⟨r415, hc416, hj391⟩ := bind_some hj391
      refine sCall hf rfl rfl rfl rfl (cap := []) rfl rfl en107 (spec_l01Next_ok F b_p0 aa ae aa.length af rfl x229 x230 (IntKind.i64.wrap (1 + r2.1)) _ _ hc416 (aF.pass hs [0]) (hs.sel [0] (by decide)).rebase) ?_; clear hf
      rintro _ w ⟨rfl, hs1⟩ a hf
      have hs : St (muL [.blk b_p0 145 [.slice ae aa.length af, .int .i64 al, .int .i64 ai]]) W w [.blk b1 59 [.int .i64 0, .slice none 0 0], .blk b6 59 [.int .i64 (IntKind.i64.wrap (1 + r2.1)), .slice A232 n233 c234], .row A232 n233 c234 127 4 ((recs GPlace.cells) xs231), .blk b414 127 [.int .i64 0, .int .i64 0, .int .i64 0, .int .i64 0], .blk b_p0 145 [.slice ae aa.length af, .int .i64 r415.2.1, .int .i64 r415.2.2]] := St.mutTail (La := [.blk b1 59 [.int .i64 0, .slice none 0 0], .blk b6 59 [.int .i64 (IntKind.i64.wrap (1 + r2.1)), .slice A232 n233 c234], .row A232 n233 c234 127 4 ((recs GPlace.cells) xs231), .blk b414 127 [.int .i64 0, .int .i64 0, .int .i64 0, .int .i64 0]]) (Lb := [.blk b_p0 145 [.slice ae aa.length af, .int .i64 x229, .int .i64 x230]]) (hs.sel [1, 2, 3, 4, 0] (by decide)) hs1
      clear hs1
      have hs0 : St (muL [.blk b_p0 145 [.slice ae aa.length af, .int .i64 al, .int .i64 ai]]) W w [.blk b1 59 [.int .i64 0, .slice none 0 0], .blk b6 59 [.int .i64 (IntKind.i64.wrap (1 + r2.1)), .slice A232 n233 c234], .row A232 n233 c234 127 4 ((recs GPlace.cells) xs231)] := hs.sel [0, 1, 2] (by decide)
      refine wpO_nil ⟨Or.inr (fun _ => hs0), ?_⟩
      refine mRun (i := 7) rfl (by kernel_rfl) ?_
      obtain ⟨r417, hc418, hj391⟩ := bind_some hj391
      refine sCall hf rfl rfl rfl rfl (cap := []) rfl rfl en107 (spec_l01Next_ok F b_p0 aa ae aa.length af rfl r415.2.1 r415.2.2 (IntKind.i64.wrap (1 + r2.1)) _ _ hc418 (aF.pass hs [4]) (hs.sel [4] (by decide)).rebase) ?_; clear hf
      rintro _ w ⟨rfl, hs1⟩ a hf
      have hs : St (muL [.blk b_p0 145 [.slice ae aa.length af, .int .i64 al, .int .i64 ai]]) W w [.blk b1 59 [.int .i64 0, .slice none 0 0], .blk b6 59 [.int .i64 (IntKind.i64.wrap (1 + r2.1)), .slice A232 n233 c234], .row A232 n233 c234 127 4 ((recs GPlace.cells) xs231), .blk b414 127 [.int .i64 0, .int .i64 0, .int .i64 0, .int .i64 0], .blk b_p0 145 [.slice ae aa.length af, .int .i64 r417.2.1, .int .i64 r417.2.2]] := St.mutTail (La := [.blk b1 59 [.int .i64 0, .slice none 0 0], .blk b6 59 [.int .i64 (IntKind.i64.wrap (1 + r2.1)), .slice A232 n233 c234], .row A232 n233 c234 127 4 ((recs GPlace.cells) xs231), .blk b414 127 [.int .i64 0, .int .i64 0, .int .i64 0, .int .i64 0]]) (Lb := [.blk b_p0 145 [.slice ae aa.length af, .int .i64 r415.2.1, .int .i64 r415.2.2]]) (hs.sel [0, 1, 2, 3, 4] (by decide)) hs1
      clear hs1
      refine wpO_nil ⟨Or.inl (by decide), ?_⟩
      refine mRun (i := 9) rfl (by kernel_rfl) ?_
      obtain ⟨r419, hc420, hj391⟩ := bind_some hj391
      refine sCall hf rfl rfl rfl rfl (cap := []) rfl rfl en107 (spec_l01Next_ok F b_p0 aa ae aa.length af rfl r417.2.1 r417.2.2 12 _ _ hc420 (aF.pass hs [4]) (hs.sel [4] (by decide)).rebase) ?_; clear hf
      rintro _ w ⟨rfl, hs1⟩ a hf
      have hs : St (muL [.blk b_p0 145 [.slice ae aa.length af, .int .i64 al, .int .i64 ai]]) W w [.blk b1 59 [.int .i64 0, .slice none 0 0], .blk b6 59 [.int .i64 (IntKind.i64.wrap (1 + r2.1)), .slice A232 n233 c234], .row A232 n233 c234 127 4 ((recs GPlace.cells) xs231), .blk b414 127 [.int .i64 0, .int .i64 0, .int .i64 0, .int .i64 0], .blk b_p0 145 [.slice ae aa.length af, .int .i64 r419.2.1, .int .i64 r419.2.2]] := St.mutTail (La := [.blk b1 59 [.int .i64 0, .slice none 0 0], .blk b6 59 [.int .i64 (IntKind.i64.wrap (1 + r2.1)), .slice A232 n233 c234], .row A232 n233 c234 127 4 ((recs GPlace.cells) xs231), .blk b414 127 [.int .i64 0, .int .i64 0, .int .i64 0, .int .i64 0]]) (Lb := [.blk b_p0 145 [.slice ae aa.length af, .int .i64 r417.2.1, .int .i64 r417.2.2]]) (hs.sel [0, 1, 2, 3, 4] (by decide)) hs1
      clear hs1
      refine wpO_nil ⟨Or.inl (by decide), ?_⟩
      refine mYp (i := 10) rfl (by kernel_rfl) (by kernel_rfl) hf rfl rfl rfl (fun _ => Y_build (parts := [(0, .tmp 21), (1, .tmp 25), (2, .tmp 27)]) (vs := [.int .i64 r415.1, .int .i64 r417.1, .int .i64 r419.1]) rfl rfl (run_build (parts := [(0, .int .i64 r415.1), (1, .int .i64 r417.1), (2, .int .i64 r419.1)]) (cells := [.int .i64 r415.1, .int .i64 r417.1, .int .i64 r419.1, .int .i64 0]) (places := #[(0, 1), (1, 1), (2, 1), (3, 1)]) ti127 Try.underlying127 (fun w => by simp [go_sem]) rfl)) ?_; clear hf; intro a hf
      refine mRun (i := 12) rfl (by kernel_rfl) ?_
      refine sStore (i := 3) (us := [.int .i64 r415.1, .int .i64 r417.1, .int .i64 r419.1, .int .i64 0]) hf hs rfl rfl rfl rfl rfl rfl ti127 rfl rfl rfl (Nat.le_of_ble_eq_true rfl) rfl ?_; clear hs; intro w hs
      have hs : St (muL [.blk b_p0 145 [.slice ae aa.length af, .int .i64 al, .int .i64 ai]]) W w [.blk b1 59 [.int .i64 0, .slice none 0 0], .blk b6 59 [.int .i64 (IntKind.i64.wrap (1 + r2.1)), .slice A232 n233 c234], .row A232 n233 c234 127 4 ((recs GPlace.cells) xs231), .blk b414 127 [.int .i64 r415.1, .int .i64 r417.1, .int .i64 r419.1, .int .i64 0], .blk b_p0 145 [.slice ae aa.length af, .int .i64 r419.2.1, .int .i64 r419.2.2]] := hs
      refine wpO_nil ⟨Or.inl (by decide), ?_⟩
      refine mDone (by kernel_rfl) ?_
      clear hs0
      refine wpL_nil (then_normal ?_)
      exact ⟨r419.2.1, r419.2.2, r415.1, r417.1, r419.1, b414, Option.some.inj hj391, (FrD.pick (FrD.pick (FrD.pick (FrD.pick (FrD.pick hf.none hf rfl) hf rfl) hf rfl) hf rfl) hf rfl), hs.sel [4, 0, 1, 2, 3] (by decide)⟩
    ·rintro a w ⟨x384, x385, x387, x388, x389, b386, hr_, hf, hs⟩
     subst hr_
     try dsimp only at hm352
     refine wpL_seq <| wpL_seq ?_
     obtain ⟨r427, hj428, hm352⟩ := bind_some hm352
     refine wpL_cut (fun a w => ∃ x424 : Int, ∃ x425 : Int, ∃ b426 : Bool, (x424, x425, b426) = r427 ∧ Fr a 108 [(0, .pointer (some ⟨b_p0, 0, none⟩)), (2, .pointer (some ⟨b1, 0, none⟩)), (3, .pointer (some ⟨b6, 0, none⟩)), (4, .int .i64 x236), (5, .pointer (some ⟨b386, 0, none⟩)), (38, .bool b426)] ∧ St (muL [.blk b_p0 145 [.slice ae aa.length af, .int .i64 al, .int .i64 ai]]) W w [.blk b_p0 145 [.slice ae aa.length af, .int .i64 x424, .int .i64 x425], .blk b1 59 [.int .i64 0, .slice none 0 0], .blk b6 59 [.int .i64 (IntKind.i64.wrap (1 + r2.1)), .slice A232 n233 c234], .row A232 n233 c234 127 4 ((recs GPlace.cells) xs231), .blk b386 127 [.int .i64 x387, .int .i64 x388, .int .i64 x389, .int .i64 0]]) ?_ ?_
     ·refine wpL_region ?_
      refine sY hf hs rfl rfl rfl (Y_fieldAddr rfl rfl fo127_0) ?_; clear hf; intro a hf
      refine sY hf hs rfl rfl rfl (Y_load_blk rfl rfl (i := 4) rfl rfl ag2) ?_; clear hf; intro a hf
      refine sY hf hs rfl rfl rfl (Y_fieldAddr rfl rfl fo127_1) ?_; clear hf; intro a hf
      refine sY hf hs rfl rfl rfl (Y_load_blk rfl rfl (i := 4) rfl rfl ag2) ?_; clear hf; intro a hf
      refine sY hf hs rfl rfl rfl (Y_geq rfl rfl rfl) ?_; clear hf; intro a hf
      refine sY hf hs rfl rfl rfl (Y_move rfl rfl) ?_; clear hf; intro a hf
      refine bsplit (decide (x388 ≤ x387)) (fun hb429 => ?_) (fun hb429 => ?_)
      ·have hj428 := bif_t hj428 hb429
       refine sNo hf rfl rfl rfl (congrArg (fun b => some (Value.bool b)) hb429) rfl rfl rfl ?_; clear hf; intro a hf
       refine sNo hf rfl rfl rfl (congrArg (fun b => some (Value.bool b)) hb429) rfl rfl rfl ?_; clear hf; intro a hf
       refine sNo hf rfl rfl rfl (congrArg (fun b => some (Value.bool b)) hb429) rfl rfl rfl ?_; clear hf; intro a hf
       refine sY hf hs rfl rfl rfl (Y_pickT rfl (congrArg (fun b => some (Value.bool b)) hb429) rfl) ?_; clear hf; intro a hf
       refine wpO_nil ?_
       refine wpL_nil (then_normal ?_)
       exact ⟨x384, x385, true, Option.some.inj hj428, (FrD.pick (FrD.pick (FrD.pick (FrD.pick (FrD.pick (FrD.pick hf.none hf rfl) hf rfl) hf rfl) hf rfl) hf rfl) hf rfl), hs⟩
      ·have hj428 := bif_f hj428 hb429
       refine sYg hf hs rfl rfl rfl (congrArg (fun b => some (Value.bool b)) hb429) rfl rfl rfl (Y_move rfl rfl) ?_; clear hf; intro a hf
       obtain ⟨r430, hc431, hj428⟩ := bind_some hj428
       refine sCallg hf rfl rfl rfl (congrArg (fun b => some (Value.bool b)) hb429) rfl rfl rfl rfl (cap := []) rfl rfl en107 (spec_l01Next_ok F b_p0 aa ae aa.length af rfl x384 x385 4 _ _ hc431 (aF.pass hs [0]) (hs.sel [0] (by decide)).rebase) ?_; clear hf
       rintro _ w ⟨rfl, hs1⟩ a hf
       have hs : St (muL [.blk b_p0 145 [.slice ae aa.length af, .int .i64 al, .int .i64 ai]]) W w [.blk b1 59 [.int .i64 0, .slice none 0 0], .blk b6 59 [.int .i64 (IntKind.i64.wrap (1 + r2.1)), .slice A232 n233 c234], .row A232 n233 c234 127 4 ((recs GPlace.cells) xs231), .blk b386 127 [.int .i64 x387, .int .i64 x388, .int .i64 x389, .int .i64 0], .blk b_p0 145 [.slice ae aa.length af, .int .i64 r430.2.1, .int .i64 r430.2.2]] := St.mutTail (La := [.blk b1 59 [.int .i64 0, .slice none 0 0], .blk b6 59 [.int .i64 (IntKind.i64.wrap (1 + r2.1)), .slice A232 n233 c234], .row A232 n233 c234 127 4 ((recs GPlace.cells) xs231), .blk b386 127 [.int .i64 x387, .int .i64 x388, .int .i64 x389, .int .i64 0]]) (Lb := [.blk b_p0 145 [.slice ae aa.length af, .int .i64 x384, .int .i64 x385]]) (hs.sel [1, 2, 3, 4, 0] (by decide)) hs1
       clear hs1
       refine sYg hf hs rfl rfl rfl (congrArg (fun b => some (Value.bool b)) hb429) rfl rfl rfl (Y_eql rfl rfl rfl) ?_; clear hf; intro a hf
       refine sY hf hs rfl rfl rfl (Y_pickF rfl (congrArg (fun b => some (Value.bool b)) hb429) rfl) ?_; clear hf; intro a hf
       refine wpO_nil ?_
       refine wpL_nil (then_normal ?_)
       exact ⟨r430.2.1, r430.2.2, (r430.1 == 0), Option.some.inj hj428, (FrD.pick (FrD.pick (FrD.pick (FrD.pick (FrD.pick (FrD.pick hf.none hf rfl) hf rfl) hf rfl) hf rfl) hf rfl) hf rfl), hs.sel [4, 0, 1, 2, 3] (by decide)⟩
     ·rintro a w ⟨x424, x425, b426, hr_, hf, hs⟩
      subst hr_
      try dsimp only at hm352
      obtain ⟨r440, hj441, hm352⟩ := bind_some hm352
      refine wpL_cut (fun a w => ∃ x437 : Int, ∃ x438 : Int, ∃ x439 : Int, (x437, x438, x439) = r440 ∧ Fr a 108 [(0, .pointer (some ⟨b_p0, 0, none⟩)), (2, .pointer (some ⟨b1, 0, none⟩)), (3, .pointer (some ⟨b6, 0, none⟩)), (4, .int .i64 x236), (5, .pointer (some ⟨b386, 0, none⟩))] ∧ St (muL [.blk b_p0 145 [.slice ae aa.length af, .int .i64 al, .int .i64 ai]]) W w [.blk b_p0 145 [.slice ae aa.length af, .int .i64 x437, .int .i64 x438], .blk b1 59 [.int .i64 0, .slice none 0 0], .blk b6 59 [.int .i64 (IntKind.i64.wrap (1 + r2.1)), .slice A232 n233 c234], .row A232 n233 c234 127 4 ((recs GPlace.cells) xs231), .blk b386 127 [.int .i64 x387, .int .i64 x388, .int .i64 x389, .int .i64 x439]]) ?_ ?_
      ·refine wpL_cond hf rfl (fun hb442 => ?_) (fun hb442 => ?_)
       ·have hj441 := bif_t hj441 hb442
        refine wpL_region ?_
        refine sY hf hs rfl rfl rfl (Y_move rfl rfl) ?_; clear hf; intro a hf
        obtain ⟨r443, hc444, hj441⟩ := bind_some hj441
        refine sCall hf rfl rfl rfl rfl (cap := []) rfl rfl en107 (spec_l01Next_ok F b_p0 aa ae aa.length af rfl x424 x425 2 _ _ hc444 (aF.pass hs [0]) (hs.sel [0] (by decide)).rebase) ?_; clear hf
        rintro _ w ⟨rfl, hs1⟩ a hf
        have hs : St (muL [.blk b_p0 145 [.slice ae aa.length af, .int .i64 al, .int .i64 ai]]) W w [.blk b1 59 [.int .i64 0, .slice none 0 0], .blk b6 59 [.int .i64 (IntKind.i64.wrap (1 + r2.1)), .slice A232 n233 c234], .row A232 n233 c234 127 4 ((recs GPlace.cells) xs231), .blk b386 127 [.int .i64 x387, .int .i64 x388, .int .i64 x389, .int .i64 0], .blk b_p0 145 [.slice ae aa.length af, .int .i64 r443.2.1, .int .i64 r443.2.2]] := St.mutTail (La := [.blk b1 59 [.int .i64 0, .slice none 0 0], .blk b6 59 [.int .i64 (IntKind.i64.wrap (1 + r2.1)), .slice A232 n233 c234], .row A232 n233 c234 127 4 ((recs GPlace.cells) xs231), .blk b386 127 [.int .i64 x387, .int .i64 x388, .int .i64 x389, .int .i64 0]]) (Lb := [.blk b_p0 145 [.slice ae aa.length af, .int .i64 x424, .int .i64 x425]]) (hs.sel [1, 2, 3, 4, 0] (by decide)) hs1
        clear hs1
        refine sY hf hs rfl rfl rfl (Y_move rfl rfl) ?_; clear hf; intro a hf
        obtain ⟨r445, hc446, hj441⟩ := bind_some hj441
        refine sCall hf rfl rfl rfl rfl (cap := []) rfl rfl en107 (spec_l01Next_ok F b_p0 aa ae aa.length af rfl r443.2.1 r443.2.2 3 _ _ hc446 (aF.pass hs [4]) (hs.sel [4] (by decide)).rebase) ?_; clear hf
        rintro _ w ⟨rfl, hs1⟩ a hf
        have hs : St (muL [.blk b_p0 145 [.slice ae aa.length af, .int .i64 al, .int .i64 ai]]) W w [.blk b1 59 [.int .i64 0, .slice none 0 0], .blk b6 59 [.int .i64 (IntKind.i64.wrap (1 + r2.1)), .slice A232 n233 c234], .row A232 n233 c234 127 4 ((recs GPlace.cells) xs231), .blk b386 127 [.int .i64 x387, .int .i64 x388, .int .i64 x389, .int .i64 0], .blk b_p0 145 [.slice ae aa.length af, .int .i64 r445.2.1, .int .i64 r445.2.2]] := St.mutTail (La := [.blk b1 59 [.int .i64 0, .slice none 0 0], .blk b6 59 [.int .i64 (IntKind.i64.wrap (1 + r2.1)), .slice A232 n233 c234], .row A232 n233 c234 127 4 ((recs GPlace.cells) xs231), .blk b386 127 [.int .i64 x387, .int .i64 x388, .int .i64 x389, .int .i64 0]]) (Lb := [.blk b_p0 145 [.slice ae aa.length af, .int .i64 r443.2.1, .int .i64 r443.2.2]]) (hs.sel [0, 1, 2, 3, 4] (by decide)) hs1
        clear hs1
        refine sY hf hs rfl rfl rfl (Y_mul rfl rfl rfl) ?_; clear hf; intro a hf
        refine sY hf hs rfl rfl rfl (Y_add rfl rfl rfl) ?_; clear hf; intro a hf
        refine sY hf hs rfl rfl rfl (Y_fieldAddr rfl rfl fo127_3) ?_; clear hf; intro a hf
        refine sStore (i := 3) (us := [.int .i64 (IntKind.i64.wrap (1 + (IntKind.i64.wrap (r443.1 * r445.1))))]) hf hs rfl rfl rfl rfl rfl rfl ti2 rfl rfl rfl (Nat.le_of_ble_eq_true rfl) rfl ?_; clear hs; intro w hs
        have hs : St (muL [.blk b_p0 145 [.slice ae aa.length af, .int .i64 al, .int .i64 ai]]) W w [.blk b1 59 [.int .i64 0, .slice none 0 0], .blk b6 59 [.int .i64 (IntKind.i64.wrap (1 + r2.1)), .slice A232 n233 c234], .row A232 n233 c234 127 4 ((recs GPlace.cells) xs231), .blk b386 127 [.int .i64 x387, .int .i64 x388, .int .i64 x389, .int .i64 (IntKind.i64.wrap (1 + (IntKind.i64.wrap (r443.1 * r445.1))))], .blk b_p0 145 [.slice ae aa.length af, .int .i64 r445.2.1, .int .i64 r445.2.2]] := hs
        refine wpO_nil ?_
        refine wpL_nil (then_normal ?_)
        exact ⟨r445.2.1, r445.2.2, (IntKind.i64.wrap (1 + (IntKind.i64.wrap (r443.1 * r445.1)))), Option.some.inj hj441, (FrD.pick (FrD.pick (FrD.pick (FrD.pick (FrD.pick hf.none hf rfl) hf rfl) hf rfl) hf rfl) hf rfl), hs.sel [4, 0, 1, 2, 3] (by decide)⟩
       ·have hj441 := bif_f hj441 hb442
        refine wpL_skip ?_
        refine wpL_nil (then_normal ?_)
        exact ⟨x424, x425, 0, Option.some.inj hj441, (FrD.pick (FrD.pick (FrD.pick (FrD.pick (FrD.pick hf.none hf rfl) hf rfl) hf rfl) hf rfl) hf rfl), hs⟩
      ·rintro a w ⟨x437, x438, x439, hr_, hf, hs⟩
       subst hr_
       try dsimp only at hm352
       refine wpL_seq <| wpL_seq <| wpL_region ?_
       refine sY hf hs rfl rfl rfl (Y_move rfl rfl) ?_; clear hf; intro a hf
       obtain ⟨r447, hc448, hm352⟩ := bind_some hm352
       refine sCall hf rfl rfl rfl rfl (cap := []) rfl rfl en107 (spec_l01Next_ok F b_p0 aa ae aa.length af rfl x437 x438 30 _ _ hc448 (aF.pass hs [0]) (hs.sel [0] (by decide)).rebase) ?_; clear hf
       rintro _ w ⟨rfl, hs1⟩ a hf
       have hs : St (muL [.blk b_p0 145 [.slice ae aa.length af, .int .i64 al, .int .i64 ai]]) W w [.blk b1 59 [.int .i64 0, .slice none 0 0], .blk b6 59 [.int .i64 (IntKind.i64.wrap (1 + r2.1)), .slice A232 n233 c234], .row A232 n233 c234 127 4 ((recs GPlace.cells) xs231), .blk b386 127 [.int .i64 x387, .int .i64 x388, .int .i64 x389, .int .i64 x439], .blk b_p0 145 [.slice ae aa.length af, .int .i64 r447.2.1, .int .i64 r447.2.2]] := St.mutTail (La := [.blk b1 59 [.int .i64 0, .slice none 0 0], .blk b6 59 [.int .i64 (IntKind.i64.wrap (1 + r2.1)), .slice A232 n233 c234], .row A232 n233 c234 127 4 ((recs GPlace.cells) xs231), .blk b386 127 [.int .i64 x387, .int .i64 x388, .int .i64 x389, .int .i64 x439]]) (Lb := [.blk b_p0 145 [.slice ae aa.length af, .int .i64 x437, .int .i64 x438]]) (hs.sel [1, 2, 3, 4, 0] (by decide)) hs1
       clear hs1
       refine sY hf hs rfl rfl rfl (Y_eql rfl rfl rfl) ?_; clear hf; intro a hf
       refine wpO_nil ?_
       obtain ⟨r451, hj452, hm352⟩ := bind_some hm352
       refine wpL_cut (fun a w => ∃ x450 : Int, x450 = r451 ∧ Fr a 108 [(0, .pointer (some ⟨b_p0, 0, none⟩)), (2, .pointer (some ⟨b1, 0, none⟩)), (3, .pointer (some ⟨b6, 0, none⟩)), (4, .int .i64 x236), (5, .pointer (some ⟨b386, 0, none⟩))] ∧ St (muL [.blk b_p0 145 [.slice ae aa.length af, .int .i64 al, .int .i64 ai]]) W w [.blk b_p0 145 [.slice ae aa.length af, .int .i64 r447.2.1, .int .i64 r447.2.2], .blk b1 59 [.int .i64 0, .slice none 0 0], .blk b6 59 [.int .i64 (IntKind.i64.wrap (1 + r2.1)), .slice A232 n233 c234], .row A232 n233 c234 127 4 ((recs GPlace.cells) xs231), .blk b386 127 [.int .i64 x387, .int .i64 x388, .int .i64 x389, .int .i64 x450]]) ?_ ?_
       ·refine wpL_cond hf rfl (fun hb453 => ?_) (fun hb453 => ?_)
        ·have hj452 := bif_t hj452 hb453
         refine wpL_region ?_
         refine sY hf hs rfl rfl rfl (Y_fieldAddr rfl rfl fo127_3) ?_; clear hf; intro a hf
         refine sStore (i := 3) (us := [.int .i64 0]) hf hs rfl rfl rfl rfl rfl rfl ti2 rfl rfl rfl (Nat.le_of_ble_eq_true rfl) rfl ?_; clear hs; intro w hs
         have hs : St (muL [.blk b_p0 145 [.slice ae aa.length af, .int .i64 al, .int .i64 ai]]) W w [.blk b1 59 [.int .i64 0, .slice none 0 0], .blk b6 59 [.int .i64 (IntKind.i64.wrap (1 + r2.1)), .slice A232 n233 c234], .row A232 n233 c234 127 4 ((recs GPlace.cells) xs231), .blk b386 127 [.int .i64 x387, .int .i64 x388, .int .i64 x389, .int .i64 0], .blk b_p0 145 [.slice ae aa.length af, .int .i64 r447.2.1, .int .i64 r447.2.2]] := hs
         refine wpO_nil ?_
         refine wpL_nil (then_normal ?_)
         exact ⟨0, Option.some.inj hj452, (FrD.pick (FrD.pick (FrD.pick (FrD.pick (FrD.pick hf.none hf rfl) hf rfl) hf rfl) hf rfl) hf rfl), hs.sel [4, 0, 1, 2, 3] (by decide)⟩
        ·have hj452 := bif_f hj452 hb453
         refine wpL_skip ?_
         refine wpL_nil (then_normal ?_)
         exact ⟨x439, Option.some.inj hj452, (FrD.pick (FrD.pick (FrD.pick (FrD.pick (FrD.pick hf.none hf rfl) hf rfl) hf rfl) hf rfl) hf rfl), hs.sel [4, 0, 1, 2, 3] (by decide)⟩
       ·rintro a w ⟨x450, hr_, hf, hs⟩
        subst hr_
        try dsimp only at hm352
        refine wpL_region ?_
        refine sY hf hs rfl rfl rfl (Y_fieldAddr rfl rfl fo59_1) ?_; clear hf; intro a hf
        refine sY hf hs rfl rfl rfl (Y_load_blk rfl rfl (i := 2) rfl rfl ag57) ?_; clear hf; intro a hf
        refine sY hf hs rfl rfl rfl (Y_load_blkS rfl rfl (i := 4) rfl ag127 ti127 rfl) ?_; clear hf; intro a hf
        refine sBuildSlice (parts := [(0, .tmp 52)]) (vs := [.agg #[.int .i64 x387, .int .i64 x388, .int .i64 x389, .int .i64 x450]]) (cells := [.int .i64 x387, .int .i64 x388, .int .i64 x389, .int .i64 x450]) hf hs rfl rfl rfl rfl rfl el57 ti127 rfl rfl rfl rfl ?_; clear hf hs; intro a w A454 hs hA455 hf
        have hs : St (muL [.blk b_p0 145 [.slice ae aa.length af, .int .i64 al, .int .i64 ai]]) W w [.blk b_p0 145 [.slice ae aa.length af, .int .i64 r447.2.1, .int .i64 r447.2.2], .blk b1 59 [.int .i64 0, .slice none 0 0], .blk b6 59 [.int .i64 (IntKind.i64.wrap (1 + r2.1)), .slice A232 n233 c234], .row A232 n233 c234 127 4 ((recs GPlace.cells) xs231), .blk b386 127 [.int .i64 x387, .int .i64 x388, .int .i64 x389, .int .i64 x450], .row A454 1 1 127 4 ((recs GPlace.cells) ([(GPlace.mk x387 x388 x389 x450)]))] := hs
        obtain ⟨xs458, ha459, hm352⟩ := bind_some hm352
        refine sAppendL (i := 3) (xs := xs231) (ys := [(GPlace.mk x387 x388 x389 x450)]) (enc := (recs GPlace.cells)) hf hs rfl rfl rfl rfl rfl rfl hn235 rfl rfl ha459 el57 ti127 rfl rfl rfl (hs.rd (i := 5) rfl) (Nat.succ_pos _) (recs_length GPlace.len) (recs_append GPlace.cells) (recs_one GPlace.one) ?_; clear hf hs; intro a w A456 c457 hs hf
        have hs : St (muL [.blk b_p0 145 [.slice ae aa.length af, .int .i64 al, .int .i64 ai]]) W w [.blk b_p0 145 [.slice ae aa.length af, .int .i64 r447.2.1, .int .i64 r447.2.2], .blk b1 59 [.int .i64 0, .slice none 0 0], .blk b6 59 [.int .i64 (IntKind.i64.wrap (1 + r2.1)), .slice A232 n233 c234], .row A456 xs458.length c457 127 4 ((recs GPlace.cells) xs458), .blk b386 127 [.int .i64 x387, .int .i64 x388, .int .i64 x389, .int .i64 x450], .row A454 1 1 127 4 ((recs GPlace.cells) ([(GPlace.mk x387 x388 x389 x450)]))] := hs
        refine sY hf hs rfl rfl rfl (Y_fieldAddr rfl rfl fo59_1) ?_; clear hf; intro a hf
        refine sStore (i := 2) (us := [.slice A456 xs458.length c457]) hf hs rfl rfl rfl rfl rfl rfl ti57 rfl rfl rfl (Nat.le_of_ble_eq_true rfl) rfl ?_; clear hs; intro w hs
        have hs : St (muL [.blk b_p0 145 [.slice ae aa.length af, .int .i64 al, .int .i64 ai]]) W w [.blk b_p0 145 [.slice ae aa.length af, .int .i64 r447.2.1, .int .i64 r447.2.2], .blk b1 59 [.int .i64 0, .slice none 0 0], .blk b6 59 [.int .i64 (IntKind.i64.wrap (1 + r2.1)), .slice A456 xs458.length c457], .row A456 xs458.length c457 127 4 ((recs GPlace.cells) xs458), .blk b386 127 [.int .i64 x387, .int .i64 x388, .int .i64 x389, .int .i64 x450], .row A454 1 1 127 4 ((recs GPlace.cells) ([(GPlace.mk x387 x388 x389 x450)]))] := hs
        refine wpO_nil ?_
        refine wpL_nil (Qb_normal ?_)
        refine wpL_region ?_
        refine sY hf hs rfl rfl rfl (Y_move rfl rfl) ?_; clear hf; intro a hf
        refine sY hf hs rfl rfl rfl (Y_sub rfl rfl rfl) ?_; clear hf; intro a hf
        refine sY hf hs rfl rfl rfl (Y_assign rfl rfl) ?_; clear hf; intro a hf
        refine wpO_nil ?_
        refine wpL_nil (Ql_normal ?_)
        exact ⟨r447.2.1, r447.2.2, xs458, (IntKind.i64.wrap (x236 - 1)), A456, xs458.length, c457, hm352, rfl, (FrD.pick (FrD.pick (FrD.pick (FrD.pick hf.none hf rfl) hf rfl) hf rfl) hf rfl), hs.sel [0, 1, 2, 3] (by decide)⟩
   ·have hm352 := bif_f hm352 hb354
    refine wpL_exit (Ql_exit (Qb_exit ?_))
    exact ⟨x229, x230, xs231, A232, n233, c234, Option.some.inj hm352, hn235, (FrD.pick (FrD.pick (FrD.pick hf.none hf rfl) hf rfl) hf rfl), hs⟩
 ·rintro a w ⟨x343, x344, xs345, A346, n347, c348, hr_, hn349, hf, hs⟩
  subst hr_
  try dsimp only at hm
  refine wpL_seq <| wpL_seq <| wpL_region ?_
  refine sY hf hs rfl rfl rfl (Y_move rfl rfl) ?_; clear hf; intro a hf
  obtain ⟨r460, hc461, hm⟩ := bind_some hm
  refine sCall hf rfl rfl rfl rfl (cap := []) rfl rfl en107 (spec_l01Next_ok F b_p0 aa ae aa.length af rfl x343 x344 60 _ _ hc461 (aF.pass hs [0]) (hs.sel [0] (by decide)).rebase) ?_; clear hf
  rintro _ w ⟨rfl, hs1⟩ a hf
  have hs : St (muL [.blk b_p0 145 [.slice ae aa.length af, .int .i64 al, .int .i64 ai]]) W w [.blk b1 59 [.int .i64 0, .slice none 0 0], .blk b6 59 [.int .i64 (IntKind.i64.wrap (1 + r2.1)), .slice A346 n347 c348], .row A346 n347 c348 127 4 ((recs GPlace.cells) xs345), .blk b_p0 145 [.slice ae aa.length af, .int .i64 r460.2.1, .int .i64 r460.2.2]] := St.mutTail (La := [.blk b1 59 [.int .i64 0, .slice none 0 0], .blk b6 59 [.int .i64 (IntKind.i64.wrap (1 + r2.1)), .slice A346 n347 c348], .row A346 n347 c348 127 4 ((recs GPlace.cells) xs345)]) (Lb := [.blk b_p0 145 [.slice ae aa.length af, .int .i64 x343, .int .i64 x344]]) (hs.sel [1, 2, 3, 0] (by decide)) hs1
  clear hs1
  refine wpO_nil <| wpL_block0 <| wpL_seq <| wpL_region ?_
  refine sY hf hs rfl rfl rfl (Y_eql rfl rfl rfl) ?_; clear hf; intro a hf
  refine sY hf hs rfl rfl rfl (Y_assign rfl rfl) ?_; clear hf; intro a hf
  refine wpO_nil ?_
  refine wpL_cond hf rfl (fun hb462 => ?_) (fun hb462 => ?_)
  ·have hm := bif_t hm hb462
   refine wpL_region ?_
   refine sY hf hs rfl rfl rfl (Y_move rfl rfl) ?_; clear hf; intro a hf
   refine sBuildSlice (parts := [(0, .const (.int .i64 0)), (1, .const (.int .i64 10)), (2, .const (.int .i64 11))]) (vs := [.int .i64 0, .int .i64 10, .int .i64 11]) (cells := [.int .i64 0, .int .i64 10, .int .i64 11]) hf hs rfl rfl rfl rfl rfl el23 ti2 rfl rfl rfl rfl ?_; clear hf hs; intro a w A463 hs hA464 hf
   have hs : St (muL [.blk b_p0 145 [.slice ae aa.length af, .int .i64 al, .int .i64 ai]]) W w [.blk b1 59 [.int .i64 0, .slice none 0 0], .blk b6 59 [.int .i64 (IntKind.i64.wrap (1 + r2.1)), .slice A346 n347 c348], .row A346 n347 c348 127 4 ((recs GPlace.cells) xs345), .blk b_p0 145 [.slice ae aa.length af, .int .i64 r460.2.1, .int .i64 r460.2.2], .row A463 3 3 2 1 (ints ([0, 10, 11]))] := hs
   obtain ⟨r465, hc466, hm⟩ := bind_some hm
   refine sCall hf rfl rfl rfl rfl (cap := []) rfl rfl en114 (spec_l01Pick_ok F b_p0 aa ae aa.length af rfl r460.2.1 r460.2.2 ([0, 10, 11]) A463 3 3 rfl _ _ hc466 (aF.pass hs [3]) (hs.keepR (i := 4) rfl [3] (by decide)) (hs.sel [3] (by decide)).rebase) ?_; clear hf
   rintro _ w ⟨rfl, hs1⟩ a hf
   have hs : St (muL [.blk b_p0 145 [.slice ae aa.length af, .int .i64 al, .int .i64 ai]]) W w [.blk b1 59 [.int .i64 0, .slice none 0 0], .blk b6 59 [.int .i64 (IntKind.i64.wrap (1 + r2.1)), .slice A346 n347 c348], .row A346 n347 c348 127 4 ((recs GPlace.cells) xs345), .row A463 3 3 2 1 (ints ([0, 10, 11])), .blk b_p0 145 [.slice ae aa.length af, .int .i64 r465.2.1, .int .i64 r465.2.2]] := St.mutTail (La := [.blk b1 59 [.int .i64 0, .slice none 0 0], .blk b6 59 [.int .i64 (IntKind.i64.wrap (1 + r2.1)), .slice A346 n347 c348], .row A346 n347 c348 127 4 ((recs GPlace.cells) xs345), .row A463 3 3 2 1 (ints ([0, 10, 11]))]) (Lb := [.blk b_p0 145 [.slice ae aa.length af, .int .i64 r460.2.1, .int .i64 r460.2.2]]) (hs.sel [0, 1, 2, 4, 3] (by decide)) hs1
   clear hs1
   refine sY hf hs rfl rfl rfl (Y_fieldAddr rfl rfl fo59_0) ?_; clear hf; intro a hf
   refine sStore (i := 1) (us := [.int .i64 r465.1]) hf hs rfl rfl rfl rfl rfl rfl ti2 rfl rfl rfl (Nat.le_of_ble_eq_true rfl) rfl ?_; clear hs; intro w hs
   have hs : St (muL [.blk b_p0 145 [.slice ae aa.length af, .int .i64 al, .int .i64 ai]]) W w [.blk b1 59 [.int .i64 0, .slice none 0 0], .blk b6 59 [.int .i64 r465.1, .slice A346 n347 c348], .row A346 n347 c348 127 4 ((recs GPlace.cells) xs345), .row A463 3 3 2 1 (ints ([0, 10, 11])), .blk b_p0 145 [.slice ae aa.length af, .int .i64 r465.2.1, .int .i64 r465.2.2]] := hs
   refine wpO_nil ?_
   refine wpL_nil (Qb_normal ?_)
   refine wpL_seq <| wpL_region ?_
   refine sY hf hs rfl rfl rfl (Y_load_blkS rfl rfl (i := 1) rfl ag59 ti59 rfl) ?_; clear hf; intro a hf
   refine sStore (i := 0) (us := [.int .i64 r465.1, .slice A346 n347 c348]) hf hs rfl rfl rfl rfl rfl rfl ti59 rfl rfl rfl (Nat.le_of_ble_eq_true rfl) rfl ?_; clear hs; intro w hs
   have hs : St (muL [.blk b_p0 145 [.slice ae aa.length af, .int .i64 al, .int .i64 ai]]) W w [.blk b1 59 [.int .i64 r465.1, .slice A346 n347 c348], .blk b6 59 [.int .i64 r465.1, .slice A346 n347 c348], .row A346 n347 c348 127 4 ((recs GPlace.cells) xs345), .row A463 3 3 2 1 (ints ([0, 10, 11])), .blk b_p0 145 [.slice ae aa.length af, .int .i64 r465.2.1, .int .i64 r465.2.2]] := hs
   refine wpO_nil ?_
   obtain rfl := Option.some.inj hm
   refine wpL_ret (ret_cell rfl hf rfl hs (i := 0) rfl ag59 ti59 rfl ?_)
   exact ⟨_, rfl, A346, n347, c348, rfl, hn349, hs.sel [2, 4] (by decide)⟩
  ·have hm := bif_f hm hb462
   refine wpL_seq <| wpL_region ?_
   refine sY hf hs rfl rfl rfl (Y_eql rfl rfl rfl) ?_; clear hf; intro a hf
   refine sY hf hs rfl rfl rfl (Y_assign rfl rfl) ?_; clear hf; intro a hf
   refine wpO_nil ?_
   refine wpL_cond hf rfl (fun hb467 => ?_) (fun hb467 => ?_)
   ·have hm := bif_t hm hb467
    obtain ⟨r529, hj530, hm⟩ := bind_some hm
    refine wpL_cut (fun a w => ∃ x522 : Int, ∃ x523 : Int, ∃ xs524 : List GPlace, ∃ A525, ∃ n526, ∃ c527, (x522, x523, xs524) = r529 ∧ n526 = xs524.length ∧ Fr a 108 [(2, .pointer (some ⟨b1, 0, none⟩)), (3, .pointer (some ⟨b6, 0, none⟩))] ∧ St (muL [.blk b_p0 145 [.slice ae aa.length af, .int .i64 al, .int .i64 ai]]) W w [.blk b_p0 145 [.slice ae aa.length af, .int .i64 x522, .int .i64 x523], .blk b1 59 [.int .i64 0, .slice none 0 0], .blk b6 59 [.int .i64 (IntKind.i64.wrap (1 + r2.1)), .slice A525 n526 c527], .row A525 n526 c527 127 4 ((recs GPlace.cells) xs524)]) ?_ ?_
    ·refine wpL_drawM [.blk b1 59 [.int .i64 0, .slice none 0 0], .blk b6 59 [.int .i64 (IntKind.i64.wrap (1 + r2.1)), .slice A346 n347 c348], .row A346 n347 c348 127 4 ((recs GPlace.cells) xs345)] [12, 14] (by kernel_rfl) hs ?_; clear hs; intro w hs
     have hs0 : St (muL [.blk b_p0 145 [.slice ae aa.length af, .int .i64 al, .int .i64 ai]]) W w [.blk b1 59 [.int .i64 0, .slice none 0 0], .blk b6 59 [.int .i64 (IntKind.i64.wrap (1 + r2.1)), .slice A346 n347 c348], .row A346 n347 c348 127 4 ((recs GPlace.cells) xs345)] := hs.sel [0, 1, 2] (by decide)
     refine mYp (i := 0) rfl (by kernel_rfl) (by kernel_rfl) hf rfl rfl rfl (fun _ => Y_fieldAddr rfl rfl fo59_1) ?_; clear hf; intro a hf
     refine mY (i := 1) [[], []] rfl (by kernel_rfl) (by kernel_rfl) hf hs0 rfl rfl rfl (Y_load_blk rfl rfl (i := 1) rfl rfl ag57) ?_; clear hf; intro a hf
     refine mYp (i := 2) rfl (by kernel_rfl) (by kernel_rfl) hf rfl rfl rfl (fun _ => Y_move rfl rfl) ?_; clear hf; intro a hf
     refine mYp (i := 3) rfl (by kernel_rfl) (by kernel_rfl) hf rfl rfl rfl (fun _ => Y_fieldAddr rfl rfl fo59_0) ?_; clear hf; intro a hf
     refine mY (i := 4) [[5, 6, 9], []] rfl (by kernel_rfl) (by kernel_rfl) hf hs0 rfl rfl rfl (Y_load_blk rfl rfl (i := 1) rfl rfl ag2) ?_; clear hf; intro a hf
     refine mYp (i := 7) rfl (by kernel_rfl) (by kernel_rfl) hf rfl rfl rfl (fun _ => Y_move rfl rfl) ?_; clear hf; intro a hf
     refine mRun2 (i := 5) (j := 8) rfl rfl (by kernel_rfl) ?_ ?_
     ·refine sBuildSlice (parts := [(0, .const (.int .i64 (-1))), (1, .const (.int .i64 0)), (2, .tmp 70)]) (vs := [.int .i64 (-1), .int .i64 0, .int .i64 (IntKind.i64.wrap (1 + r2.1))]) (cells := [.int .i64 (-1), .int .i64 0, .int .i64 (IntKind.i64.wrap (1 + r2.1))]) hf hs rfl rfl rfl rfl rfl el23 ti2 rfl rfl rfl rfl ?_; clear hf hs; intro a w A545 hs hA546 hf
      have hs : St (muL [.blk b_p0 145 [.slice ae aa.length af, .int .i64 al, .int .i64 ai]]) W w [.blk b1 59 [.int .i64 0, .slice none 0 0], .blk b6 59 [.int .i64 (IntKind.i64.wrap (1 + r2.1)), .slice A346 n347 c348], .row A346 n347 c348 127 4 ((recs GPlace.cells) xs345), .blk b_p0 145 [.slice ae aa.length af, .int .i64 r460.2.1, .int .i64 r460.2.2], .row A545 3 3 2 1 (ints ([(-1), 0, (IntKind.i64.wrap (1 + r2.1))]))] := hs
      have hs0 : St (muL [.blk b_p0 145 [.slice ae aa.length af, .int .i64 al, .int .i64 ai]]) W w [.blk b1 59 [.int .i64 0, .slice none 0 0], .blk b6 59 [.int .i64 (IntKind.i64.wrap (1 + r2.1)), .slice A346 n347 c348], .row A346 n347 c348 127 4 ((recs GPlace.cells) xs345)] := hs.sel [0, 1, 2] (by decide)
      refine wpO_nil ⟨Or.inr (fun _ => hs0), ?_⟩
      refine mRun2 (i := 6) (j := 8) rfl rfl (by kernel_rfl) ?_ ?_
      ·obtain ⟨r547, hc548, hj530⟩ := bind_some hj530
       refine sCall hf rfl rfl rfl rfl (cap := []) rfl rfl en114 (spec_l01Pick_ok F b_p0 aa ae aa.length af rfl r460.2.1 r460.2.2 ([(-1), 0, (IntKind.i64.wrap (1 + r2.1))]) A545 3 3 rfl _ _ hc548 (aF.pass hs [3]) (hs.keepR (i := 4) rfl [3] (by decide)) (hs.sel [3] (by decide)).rebase) ?_; clear hf
       rintro _ w ⟨rfl, hs1⟩ a hf
       have hs : St (muL [.blk b_p0 145 [.slice ae aa.length af, .int .i64 al, .int .i64 ai]]) W w [.blk b1 59 [.int .i64 0, .slice none 0 0], .blk b6 59 [.int .i64 (IntKind.i64.wrap (1 + r2.1)), .slice A346 n347 c348], .row A346 n347 c348 127 4 ((recs GPlace.cells) xs345), .row A545 3 3 2 1 (ints ([(-1), 0, (IntKind.i64.wrap (1 + r2.1))])), .blk b_p0 145 [.slice ae aa.length af, .int .i64 r547.2.1, .int .i64 r547.2.2]] := St.mutTail (La := [.blk b1 59 [.int .i64 0, .slice none 0 0], .blk b6 59 [.int .i64 (IntKind.i64.wrap (1 + r2.1)), .slice A346 n347 c348], .row A346 n347 c348 127 4 ((recs GPlace.cells) xs345), .row A545 3 3 2 1 (ints ([(-1), 0, (IntKind.i64.wrap (1 + r2.1))]))]) (Lb := [.blk b_p0 145 [.slice ae aa.length af, .int .i64 r460.2.1, .int .i64 r460.2.2]]) (hs.sel [0, 1, 2, 4, 3] (by decide)) hs1
       clear hs1
       have hs0 : St (muL [.blk b_p0 145 [.slice ae aa.length af, .int .i64 al, .int .i64 ai]]) W w [.blk b1 59 [.int .i64 0, .slice none 0 0], .blk b6 59 [.int .i64 (IntKind.i64.wrap (1 + r2.1)), .slice A346 n347 c348], .row A346 n347 c348 127 4 ((recs GPlace.cells) xs345)] := hs.sel [0, 1, 2] (by decide)
       refine wpO_nil ⟨Or.inr (fun _ => hs0), ?_⟩
       refine mRun (i := 8) rfl (by kernel_rfl) ?_
       refine sBuildSlice (parts := [(0, .const (.int .i64 (-1))), (1, .const (.int .i64 1000)), (2, .const (.int .i64 1001))]) (vs := [.int .i64 (-1), .int .i64 1000, .int .i64 1001]) (cells := [.int .i64 (-1), .int .i64 1000, .int .i64 1001]) hf hs rfl rfl rfl rfl rfl el23 ti2 rfl rfl rfl rfl ?_; clear hf hs; intro a w A549 hs hA550 hf
       have hs : St (muL [.blk b_p0 145 [.slice ae aa.length af, .int .i64 al, .int .i64 ai]]) W w [.blk b1 59 [.int .i64 0, .slice none 0 0], .blk b6 59 [.int .i64 (IntKind.i64.wrap (1 + r2.1)), .slice A346 n347 c348], .row A346 n347 c348 127 4 ((recs GPlace.cells) xs345), .row A545 3 3 2 1 (ints ([(-1), 0, (IntKind.i64.wrap (1 + r2.1))])), .blk b_p0 145 [.slice ae aa.length af, .int .i64 r547.2.1, .int .i64 r547.2.2], .row A549 3 3 2 1 (ints ([(-1), 1000, 1001]))] := hs
       have hs0 : St (muL [.blk b_p0 145 [.slice ae aa.length af, .int .i64 al, .int .i64 ai]]) W w [.blk b1 59 [.int .i64 0, .slice none 0 0], .blk b6 59 [.int .i64 (IntKind.i64.wrap (1 + r2.1)), .slice A346 n347 c348], .row A346 n347 c348 127 4 ((recs GPlace.cells) xs345)] := hs.sel [0, 1, 2] (by decide)
       refine wpO_nil ⟨Or.inr (fun _ => hs0), ?_⟩
       refine mRun (i := 9) rfl (by kernel_rfl) ?_
       obtain ⟨r551, hc552, hj530⟩ := bind_some hj530
       refine sCall hf rfl rfl rfl rfl (cap := []) rfl rfl en114 (spec_l01Pick_ok F b_p0 aa ae aa.length af rfl r547.2.1 r547.2.2 ([(-1), 1000, 1001]) A549 3 3 rfl _ _ hc552 (aF.pass hs [4]) (hs.keepR (i := 5) rfl [4] (by decide)) (hs.sel [4] (by decide)).rebase) ?_; clear hf
       rintro _ w ⟨rfl, hs1⟩ a hf
       have hs : St (muL [.blk b_p0 145 [.slice ae aa.length af, .int .i64 al, .int .i64 ai]]) W w [.blk b1 59 [.int .i64 0, .slice none 0 0], .blk b6 59 [.int .i64 (IntKind.i64.wrap (1 + r2.1)), .slice A346 n347 c348], .row A346 n347 c348 127 4 ((recs GPlace.cells) xs345), .row A545 3 3 2 1 (ints ([(-1), 0, (IntKind.i64.wrap (1 + r2.1))])), .row A549 3 3 2 1 (ints ([(-1), 1000, 1001])), .blk b_p0 145 [.slice ae aa.length af, .int .i64 r551.2.1, .int .i64 r551.2.2]] := St.mutTail (La := [.blk b1 59 [.int .i64 0, .slice none 0 0], .blk b6 59 [.int .i64 (IntKind.i64.wrap (1 + r2.1)), .slice A346 n347 c348], .row A346 n347 c348 127 4 ((recs GPlace.cells) xs345), .row A545 3 3 2 1 (ints ([(-1), 0, (IntKind.i64.wrap (1 + r2.1))])), .row A549 3 3 2 1 (ints ([(-1), 1000, 1001]))]) (Lb := [.blk b_p0 145 [.slice ae aa.length af, .int .i64 r547.2.1, .int .i64 r547.2.2]]) (hs.sel [0, 1, 2, 3, 5, 4] (by decide)) hs1
       clear hs1
       have hs0 : St (muL [.blk b_p0 145 [.slice ae aa.length af, .int .i64 al, .int .i64 ai]]) W w [.blk b1 59 [.int .i64 0, .slice none 0 0], .blk b6 59 [.int .i64 (IntKind.i64.wrap (1 + r2.1)), .slice A346 n347 c348], .row A346 n347 c348 127 4 ((recs GPlace.cells) xs345)] := hs.sel [0, 1, 2] (by decide)
       refine wpO_nil ⟨Or.inr (fun _ => hs0), ?_⟩
       refine mYp (i := 10) rfl (by kernel_rfl) (by kernel_rfl) hf rfl rfl rfl (fun _ => Y_build (parts := [(0, .tmp 72), (2, .tmp 75), (3, .const (.int .i64 1))]) (vs := [.int .i64 r547.1, .int .i64 r551.1, .int .i64 1]) rfl rfl (run_build (parts := [(0, .int .i64 r547.1), (2, .int .i64 r551.1), (3, .int .i64 1)]) (cells := [.int .i64 r547.1, .int .i64 0, .int .i64 r551.1, .int .i64 1]) (places := #[(0, 1), (1, 1), (2, 1), (3, 1)]) ti127 Try.underlying127 (fun w => by simp [go_sem]) rfl)) ?_; clear hf; intro a hf
       refine mRun (i := 11) rfl (by kernel_rfl) ?_
       refine sBuildSlice (parts := [(0, .tmp 76)]) (vs := [.agg #[.int .i64 r547.1, .int .i64 0, .int .i64 r551.1, .int .i64 1]]) (cells := [.int .i64 r547.1, .int .i64 0, .int .i64 r551.1, .int .i64 1]) hf hs rfl rfl rfl rfl rfl el57 ti127 rfl rfl rfl rfl ?_; clear hf hs; intro a w A553 hs hA554 hf
       have hs : St (muL [.blk b_p0 145 [.slice ae aa.length af, .int .i64 al, .int .i64 ai]]) W w [.blk b1 59 [.int .i64 0, .slice none 0 0], .blk b6 59 [.int .i64 (IntKind.i64.wrap (1 + r2.1)), .slice A346 n347 c348], .row A346 n347 c348 127 4 ((recs GPlace.cells) xs345), .row A545 3 3 2 1 (ints ([(-1), 0, (IntKind.i64.wrap (1 + r2.1))])), .row A549 3 3 2 1 (ints ([(-1), 1000, 1001])), .blk b_p0 145 [.slice ae aa.length af, .int .i64 r551.2.1, .int .i64 r551.2.2], .row A553 1 1 127 4 ((recs GPlace.cells) ([(GPlace.mk r547.1 0 r551.1 1)]))] := hs
       have hs0 : St (muL [.blk b_p0 145 [.slice ae aa.length af, .int .i64 al, .int .i64 ai]]) W w [.blk b1 59 [.int .i64 0, .slice none 0 0], .blk b6 59 [.int .i64 (IntKind.i64.wrap (1 + r2.1)), .slice A346 n347 c348], .row A346 n347 c348 127 4 ((recs GPlace.cells) xs345)] := hs.sel [0, 1, 2] (by decide)
       refine wpO_nil ⟨Or.inr (fun _ => hs0), ?_⟩
       refine mRun (i := 12) rfl (by kernel_rfl) ?_
       obtain ⟨xs557, ha558, hj530⟩ := bind_some hj530
       refine sAppendL (i := 2) (xs := xs345) (ys := [(GPlace.mk r547.1 0 r551.1 1)]) (enc := (recs GPlace.cells)) hf hs rfl rfl rfl rfl rfl rfl hn349 rfl rfl ha558 el57 ti127 rfl rfl rfl (hs.rd (i := 6) rfl) (Nat.succ_pos _) (recs_length GPlace.len) (recs_append GPlace.cells) (recs_one GPlace.one) ?_; clear hf hs; intro a w A555 c556 hs hf
       have hs : St (muL [.blk b_p0 145 [.slice ae aa.length af, .int .i64 al, .int .i64 ai]]) W w [.blk b1 59 [.int .i64 0, .slice none 0 0], .blk b6 59 [.int .i64 (IntKind.i64.wrap (1 + r2.1)), .slice A346 n347 c348], .row A555 xs557.length c556 127 4 ((recs GPlace.cells) xs557), .row A545 3 3 2 1 (ints ([(-1), 0, (IntKind.i64.wrap (1 + r2.1))])), .row A549 3 3 2 1 (ints ([(-1), 1000, 1001])), .blk b_p0 145 [.slice ae aa.length af, .int .i64 r551.2.1, .int .i64 r551.2.2], .row A553 1 1 127 4 ((recs GPlace.cells) ([(GPlace.mk r547.1 0 r551.1 1)]))] := hs
       refine wpO_nil ⟨Or.inl (by decide), ?_⟩
       refine mYp (i := 13) rfl (by kernel_rfl) (by kernel_rfl) hf rfl rfl rfl (fun _ => Y_fieldAddr rfl rfl fo59_1) ?_; clear hf; intro a hf
       refine mRun (i := 14) rfl (by kernel_rfl) ?_
       refine sStore (i := 1) (us := [.slice A555 xs557.length c556]) hf hs rfl rfl rfl rfl rfl rfl ti57 rfl rfl rfl (Nat.le_of_ble_eq_true rfl) rfl ?_; clear hs; intro w hs
       have hs : St (muL [.blk b_p0 145 [.slice ae aa.length af, .int .i64 al, .int .i64 ai]]) W w [.blk b1 59 [.int .i64 0, .slice none 0 0], .blk b6 59 [.int .i64 (IntKind.i64.wrap (1 + r2.1)), .slice A555 xs557.length c556], .row A555 xs557.length c556 127 4 ((recs GPlace.cells) xs557), .row A545 3 3 2 1 (ints ([(-1), 0, (IntKind.i64.wrap (1 + r2.1))])), .row A549 3 3 2 1 (ints ([(-1), 1000, 1001])), .blk b_p0 145 [.slice ae aa.length af, .int .i64 r551.2.1, .int .i64 r551.2.2], .row A553 1 1 127 4 ((recs GPlace.cells) ([(GPlace.mk r547.1 0 r551.1 1)]))] := hs
       refine wpO_nil ⟨Or.inl (by decide), ?_⟩
       refine mDone (by kernel_rfl) ?_
       clear hs0
       refine wpL_nil (then_normal ?_)
       exact ⟨r551.2.1, r551.2.2, xs557, A555, xs557.length, c556, Option.some.inj hj530, rfl, (FrD.pick (FrD.pick hf.none hf rfl) hf rfl), hs.sel [5, 0, 1, 2] (by decide)⟩
      ·refine sBuildSlice (parts := [(0, .const (.int .i64 (-1))), (1, .const (.int .i64 1000)), (2, .const (.int .i64 1001))]) (vs := [.int .i64 (-1), .int .i64 1000, .int .i64 1001]) (cells := [.int .i64 (-1), .int .i64 1000, .int .i64 1001]) hf hs rfl rfl rfl rfl rfl el23 ti2 rfl rfl rfl rfl ?_; clear hf hs; intro a w A559 hs hA560 hf
       have hs : St (muL [.blk b_p0 145 [.slice ae aa.length af, .int .i64 al, .int .i64 ai]]) W w [.blk b1 59 [.int .i64 0, .slice none 0 0], .blk b6 59 [.int .i64 (IntKind.i64.wrap (1 + r2.1)), .slice A346 n347 c348], .row A346 n347 c348 127 4 ((recs GPlace.cells) xs345), .blk b_p0 145 [.slice ae aa.length af, .int .i64 r460.2.1, .int .i64 r460.2.2], .row A545 3 3 2 1 (ints ([(-1), 0, (IntKind.i64.wrap (1 + r2.1))])), .row A559 3 3 2 1 (ints ([(-1), 1000, 1001]))] := hs
       have hs0 : St (muL [.blk b_p0 145 [.slice ae aa.length af, .int .i64 al, .int .i64 ai]]) W w [.blk b1 59 [.int .i64 0, .slice none 0 0], .blk b6 59 [.int .i64 (IntKind.i64.wrap (1 + r2.1)), .slice A346 n347 c348], .row A346 n347 c348 127 4 ((recs GPlace.cells) xs345)] := hs.sel [0, 1, 2] (by decide)
       refine wpO_nil ⟨Or.inr (fun _ => hs0), ?_⟩
       refine mRun (i := 6) rfl (by kernel_rfl) ?_
       obtain ⟨r561, hc562, hj530⟩ := bind_some hj530
       refine sCall hf rfl rfl rfl rfl (cap := []) rfl rfl en114 (spec_l01Pick_ok F b_p0 aa ae aa.length af rfl r460.2.1 r460.2.2 ([(-1), 0, (IntKind.i64.wrap (1 + r2.1))]) A545 3 3 rfl _ _ hc562 (aF.pass hs [3]) (hs.keepR (i := 4) rfl [3] (by decide)) (hs.sel [3] (by decide)).rebase) ?_; clear hf
       rintro _ w ⟨rfl, hs1⟩ a hf
       have hs : St (muL [.blk b_p0 145 [.slice ae aa.length af, .int .i64 al, .int .i64 ai]]) W w [.blk b1 59 [.int .i64 0, .slice none 0 0], .blk b6 59 [.int .i64 (IntKind.i64.wrap (1 + r2.1)), .slice A346 n347 c348], .row A346 n347 c348 127 4 ((recs GPlace.cells) xs345), .row A545 3 3 2 1 (ints ([(-1), 0, (IntKind.i64.wrap (1 + r2.1))])), .row A559 3 3 2 1 (ints ([(-1), 1000, 1001])), .blk b_p0 145 [.slice ae aa.length af, .int .i64 r561.2.1, .int .i64 r561.2.2]] := St.mutTail (La := [.blk b1 59 [.int .i64 0, .slice none 0 0], .blk b6 59 [.int .i64 (IntKind.i64.wrap (1 + r2.1)), .slice A346 n347 c348], .row A346 n347 c348 127 4 ((recs GPlace.cells) xs345), .row A545 3 3 2 1 (ints ([(-1), 0, (IntKind.i64.wrap (1 + r2.1))])), .row A559 3 3 2 1 (ints ([(-1), 1000, 1001]))]) (Lb := [.blk b_p0 145 [.slice ae aa.length af, .int .i64 r460.2.1, .int .i64 r460.2.2]]) (hs.sel [0, 1, 2, 4, 5, 3] (by decide)) hs1
       clear hs1
       have hs0 : St (muL [.blk b_p0 145 [.slice ae aa.length af, .int .i64 al, .int .i64 ai]]) W w [.blk b1 59 [.int .i64 0, .slice none 0 0], .blk b6 59 [.int .i64 (IntKind.i64.wrap (1 + r2.1)), .slice A346 n347 c348], .row A346 n347 c348 127 4 ((recs GPlace.cells) xs345)] := hs.sel [0, 1, 2] (by decide)
       refine wpO_nil ⟨Or.inr (fun _ => hs0), ?_⟩
       refine mRun (i := 9) rfl (by kernel_rfl) ?_
       obtain ⟨r563, hc564, hj530⟩ := bind_some hj530
       refine sCall hf rfl rfl rfl rfl (cap := []) rfl rfl en114 (spec_l01Pick_ok F b_p0 aa ae aa.length af rfl r561.2.1 r561.2.2 ([(-1), 1000, 1001]) A559 3 3 rfl _ _ hc564 (aF.pass hs [5]) (hs.keepR (i := 4) rfl [5] (by decide)) (hs.sel [5] (by decide)).rebase) ?_; clear hf
       rintro _ w ⟨rfl, hs1⟩ a hf
       have hs : St (muL [.blk b_p0 145 [.slice ae aa.length af, .int .i64 al, .int .i64 ai]]) W w [.blk b1 59 [.int .i64 0, .slice none 0 0], .blk b6 59 [.int .i64 (IntKind.i64.wrap (1 + r2.1)), .slice A346 n347 c348], .row A346 n347 c348 127 4 ((recs GPlace.cells) xs345), .row A545 3 3 2 1 (ints ([(-1), 0, (IntKind.i64.wrap (1 + r2.1))])), .row A559 3 3 2 1 (ints ([(-1), 1000, 1001])), .blk b_p0 145 [.slice ae aa.length af, .int .i64 r563.2.1, .int .i64 r563.2.2]] := St.mutTail (La := [.blk b1 59 [.int .i64 0, .slice none 0 0], .blk b6 59 [.int .i64 (IntKind.i64.wrap (1 + r2.1)), .slice A346 n347 c348], .row A346 n347 c348 127 4 ((recs GPlace.cells) xs345), .row A545 3 3 2 1 (ints ([(-1), 0, (IntKind.i64.wrap (1 + r2.1))])), .row A559 3 3 2 1 (ints ([(-1), 1000, 1001]))]) (Lb := [.blk b_p0 145 [.slice ae aa.length af, .int .i64 r561.2.1, .int .i64 r561.2.2]]) (hs.sel [0, 1, 2, 3, 4, 5] (by decide)) hs1
       clear hs1
       have hs0 : St (muL [.blk b_p0 145 [.slice ae aa.length af, .int .i64 al, .int .i64 ai]]) W w [.blk b1 59 [.int .i64 0, .slice none 0 0], .blk b6 59 [.int .i64 (IntKind.i64.wrap (1 + r2.1)), .slice A346 n347 c348], .row A346 n347 c348 127 4 ((recs GPlace.cells) xs345)] := hs.sel [0, 1, 2] (by decide)
       refine wpO_nil ⟨Or.inr (fun _ => hs0), ?_⟩
       refine mYp (i := 10) rfl (by kernel_rfl) (by kernel_rfl) hf rfl rfl rfl (fun _ => Y_build (parts := [(0, .tmp 72), (2, .tmp 75), (3, .const (.int .i64 1))]) (vs := [.int .i64 r561.1, .int .i64 r563.1, .int .i64 1]) rfl rfl (run_build (parts := [(0, .int .i64 r561.1), (2, .int .i64 r563.1), (3, .int .i64 1)]) (cells := [.int .i64 r561.1, .int .i64 0, .int .i64 r563.1, .int .i64 1]) (places := #[(0, 1), (1, 1), (2, 1), (3, 1)]) ti127 Try.underlying127 (fun w => by simp [go_sem]) rfl)) ?_; clear hf; intro a hf
       refine mRun (i := 11) rfl (by kernel_rfl) ?_
       refine sBuildSlice (parts := [(0, .tmp 76)]) (vs := [.agg #[.int .i64 r561.1, .int .i64 0, .int .i64 r563.1, .int .i64 1]]) (cells := [.int .i64 r561.1, .int .i64 0, .int .i64 r563.1, .int .i64 1]) hf hs rfl rfl rfl rfl rfl el57 ti127 rfl rfl rfl rfl ?_; clear hf hs; intro a w A565 hs hA566 hf
       have hs : St (muL [.blk b_p0 145 [.slice ae aa.length af, .int .i64 al, .int .i64 ai]]) W w [.blk b1 59 [.int .i64 0, .slice none 0 0], .blk b6 59 [.int .i64 (IntKind.i64.wrap (1 + r2.1)), .slice A346 n347 c348], .row A346 n347 c348 127 4 ((recs GPlace.cells) xs345), .row A545 3 3 2 1 (ints ([(-1), 0, (IntKind.i64.wrap (1 + r2.1))])), .row A559 3 3 2 1 (ints ([(-1), 1000, 1001])), .blk b_p0 145 [.slice ae aa.length af, .int .i64 r563.2.1, .int .i64 r563.2.2], .row A565 1 1 127 4 ((recs GPlace.cells) ([(GPlace.mk r561.1 0 r563.1 1)]))] := hs
       have hs0 : St (muL [.blk b_p0 145 [.slice ae aa.length af, .int .i64 al, .int .i64 ai]]) W w [.blk b1 59 [.int .i64 0, .slice none 0 0], .blk b6 59 [.int .i64 (IntKind.i64.wrap (1 + r2.1)), .slice A346 n347 c348], .row A346 n347 c348 127 4 ((recs GPlace.cells) xs345)] := hs.sel [0, 1, 2] (by decide)
       refine wpO_nil ⟨Or.inr (fun _ => hs0), ?_⟩
       refine mRun (i := 12) rfl (by kernel_rfl) ?_
       obtain ⟨xs569, ha570, hj530⟩ := bind_some hj530
       refine sAppendL (i := 2) (xs := xs345) (ys := [(GPlace.mk r561.1 0 r563.1 1)]) (enc := (recs GPlace.cells)) hf hs rfl rfl rfl rfl rfl rfl hn349 rfl rfl ha570 el57 ti127 rfl rfl rfl (hs.rd (i := 6) rfl) (Nat.succ_pos _) (recs_length GPlace.len) (recs_append GPlace.cells) (recs_one GPlace.one) ?_; clear hf hs; intro a w A567 c568 hs hf
       have hs : St (muL [.blk b_p0 145 [.slice ae aa.length af, .int .i64 al, .int .i64 ai]]) W w [.blk b1 59 [.int .i64 0, .slice none 0 0], .blk b6 59 [.int .i64 (IntKind.i64.wrap (1 + r2.1)), .slice A346 n347 c348], .row A567 xs569.length c568 127 4 ((recs GPlace.cells) xs569), .row A545 3 3 2 1 (ints ([(-1), 0, (IntKind.i64.wrap (1 + r2.1))])), .row A559 3 3 2 1 (ints ([(-1), 1000, 1001])), .blk b_p0 145 [.slice ae aa.length af, .int .i64 r563.2.1, .int .i64 r563.2.2], .row A565 1 1 127 4 ((recs GPlace.cells) ([(GPlace.mk r561.1 0 r563.1 1)]))] := hs
       refine wpO_nil ⟨Or.inl (by decide), ?_⟩
       refine mYp (i := 13) rfl (by kernel_rfl) (by kernel_rfl) hf rfl rfl rfl (fun _ => Y_fieldAddr rfl rfl fo59_1) ?_; clear hf; intro a hf
       refine mRun (i := 14) rfl (by kernel_rfl) ?_
       refine sStore (i := 1) (us := [.slice A567 xs569.length c568]) hf hs rfl rfl rfl rfl rfl rfl ti57 rfl rfl rfl (Nat.le_of_ble_eq_true rfl) rfl ?_; clear hs; intro w hs
       have hs : St (muL [.blk b_p0 145 [.slice ae aa.length af, .int .i64 al, .int .i64 ai]]) W w [.blk b1 59 [.int .i64 0, .slice none 0 0], .blk b6 59 [.int .i64 (IntKind.i64.wrap (1 + r2.1)), .slice A567 xs569.length c568], .row A567 xs569.length c568 127 4 ((recs GPlace.cells) xs569), .row A545 3 3 2 1 (ints ([(-1), 0, (IntKind.i64.wrap (1 + r2.1))])), .row A559 3 3 2 1 (ints ([(-1), 1000, 1001])), .blk b_p0 145 [.slice ae aa.length af, .int .i64 r563.2.1, .int .i64 r563.2.2], .row A565 1 1 127 4 ((recs GPlace.cells) ([(GPlace.mk r561.1 0 r563.1 1)]))] := hs
       refine wpO_nil ⟨Or.inl (by decide), ?_⟩
       refine mDone (by kernel_rfl) ?_
       clear hs0
       refine wpL_nil (then_normal ?_)
       exact ⟨r563.2.1, r563.2.2, xs569, A567, xs569.length, c568, Option.some.inj hj530, rfl, (FrD.pick (FrD.pick hf.none hf rfl) hf rfl), hs.sel [5, 0, 1, 2] (by decide)⟩
     ·refine sBuildSlice (parts := [(0, .const (.int .i64 (-1))), (1, .const (.int .i64 1000)), (2, .const (.int .i64 1001))]) (vs := [.int .i64 (-1), .int .i64 1000, .int .i64 1001]) (cells := [.int .i64 (-1), .int .i64 1000, .int .i64 1001]) hf hs rfl rfl rfl rfl rfl el23 ti2 rfl rfl rfl rfl ?_; clear hf hs; intro a w A571 hs hA572 hf
      have hs : St (muL [.blk b_p0 145 [.slice ae aa.length af, .int .i64 al, .int .i64 ai]]) W w [.blk b1 59 [.int .i64 0, .slice none 0 0], .blk b6 59 [.int .i64 (IntKind.i64.wrap (1 + r2.1)), .slice A346 n347 c348], .row A346 n347 c348 127 4 ((recs GPlace.cells) xs345), .blk b_p0 145 [.slice ae aa.length af, .int .i64 r460.2.1, .int .i64 r460.2.2], .row A571 3 3 2 1 (ints ([(-1), 1000, 1001]))] := hs
      have hs0 : St (muL [.blk b_p0 145 [.slice ae aa.length af, .int .i64 al, .int .i64 ai]]) W w [.blk b1 59 [.int .i64 0, .slice none 0 0], .blk b6 59 [.int .i64 (IntKind.i64.wrap (1 + r2.1)), .slice A346 n347 c348], .row A346 n347 c348 127 4 ((recs GPlace.cells) xs345)] := hs.sel [0, 1, 2] (by decide)
      refine wpO_nil ⟨Or.inr (fun _ => hs0), ?_⟩
      refine mRun (i := 5) rfl (by kernel_rfl) ?_
      refine sBuildSlice (parts := [(0, .const (.int .i64 (-1))), (1, .const (.int .i64 0)), (2, .tmp 70)]) (vs := [.int .i64 (-1), .int .i64 0, .int .i64 (IntKind.i64.wrap (1 + r2.1))]) (cells := [.int .i64 (-1), .int .i64 0, .int .i64 (IntKind.i64.wrap (1 + r2.1))]) hf hs rfl rfl rfl rfl rfl el23 ti2 rfl rfl rfl rfl ?_; clear hf hs; intro a w A573 hs hA574 hf
      have hs : St (muL [.blk b_p0 145 [.slice ae aa.length af, .int .i64 al, .int .i64 ai]]) W w [.blk b1 59 [.int .i64 0, .slice none 0 0], .blk b6 59 [.int .i64 (IntKind.i64.wrap (1 + r2.1)), .slice A346 n347 c348], .row A346 n347 c348 127 4 ((recs GPlace.cells) xs345), .blk b_p0 145 [.slice ae aa.length af, .int .i64 r460.2.1, .int .i64 r460.2.2], .row A571 3 3 2 1 (ints ([(-1), 1000, 1001])), .row A573 3 3 2 1 (ints ([(-1), 0, (IntKind.i64.wrap (1 + r2.1))]))] := hs
      have hs0 : St (muL [.blk b_p0 145 [.slice ae aa.length af, .int .i64 al, .int .i64 ai]]) W w [.blk b1 59 [.int .i64 0, .slice none 0 0], .blk b6 59 [.int .i64 (IntKind.i64.wrap (1 + r2.1)), .slice A346 n347 c348], .row A346 n347 c348 127 4 ((recs GPlace.cells) xs345)] := hs.sel [0, 1, 2] (by decide)
      refine wpO_nil ⟨Or.inr (fun _ => hs0), ?_⟩
      refine mRun (i := 6) rfl (by kernel_rfl) ?_
      obtain ⟨r575, hc576, hj530⟩ := bind_some hj530
      refine sCall hf rfl rfl rfl rfl (cap := []) rfl rfl en114 (spec_l01Pick_ok F b_p0 aa ae aa.length af rfl r460.2.1 r460.2.2 ([(-1), 0, (IntKind.i64.wrap (1 + r2.1))]) A573 3 3 rfl _ _ hc576 (aF.pass hs [3]) (hs.keepR (i := 5) rfl [3] (by decide)) (hs.sel [3] (by decide)).rebase) ?_; clear hf
      rintro _ w ⟨rfl, hs1⟩ a hf
      have hs : St (muL [.blk b_p0 145 [.slice ae aa.length af, .int .i64 al, .int .i64 ai]]) W w [.blk b1 59 [.int .i64 0, .slice none 0 0], .blk b6 59 [.int .i64 (IntKind.i64.wrap (1 + r2.1)), .slice A346 n347 c348], .row A346 n347 c348 127 4 ((recs GPlace.cells) xs345), .row A571 3 3 2 1 (ints ([(-1), 1000, 1001])), .row A573 3 3 2 1 (ints ([(-1), 0, (IntKind.i64.wrap (1 + r2.1))])), .blk b_p0 145 [.slice ae aa.length af, .int .i64 r575.2.1, .int .i64 r575.2.2]] := St.mutTail (La := [.blk b1 59 [.int .i64 0, .slice none 0 0], .blk b6 59 [.int .i64 (IntKind.i64.wrap (1 + r2.1)), .slice A346 n347 c348], .row A346 n347 c348 127 4 ((recs GPlace.cells) xs345), .row A571 3 3 2 1 (ints ([(-1), 1000, 1001])), .row A573 3 3 2 1 (ints ([(-1), 0, (IntKind.i64.wrap (1 + r2.1))]))]) (Lb := [.blk b_p0 145 [.slice ae aa.length af, .int .i64 r460.2.1, .int .i64 r460.2.2]]) (hs.sel [0, 1, 2, 4, 5, 3] (by decide)) hs1
      clear hs1
      have hs0 : St (muL [.blk b_p0 145 [.slice ae aa.length af, .int .i64 al, .int .i64 ai]]) W w [.blk b1 59 [.int .i64 0, .slice none 0 0], .blk b6 59 [.int .i64 (IntKind.i64.wrap (1 + r2.1)), .slice A346 n347 c348], .row A346 n347 c348 127 4 ((recs GPlace.cells) xs345)] := hs.sel [0, 1, 2] (by decide)
      refine wpO_nil ⟨Or.inr (fun _ => hs0), ?_⟩
      refine mRun (i := 9) rfl (by kernel_rfl) ?_
      obtain ⟨r577, hc578, hj530⟩ := bind_some hj530
      refine sCall hf rfl rfl rfl rfl (cap := []) rfl rfl en114 (spec_l01Pick_ok F b_p0 aa ae aa.length af rfl r575.2.1 r575.2.2 ([(-1), 1000, 1001]) A571 3 3 rfl _ _ hc578 (aF.pass hs [5]) (hs.keepR (i := 3) rfl [5] (by decide)) (hs.sel [5] (by decide)).rebase) ?_; clear hf
      rintro _ w ⟨rfl, hs1⟩ a hf
      have hs : St (muL [.blk b_p0 145 [.slice ae aa.length af, .int .i64 al, .int .i64 ai]]) W w [.blk b1 59 [.int .i64 0, .slice none 0 0], .blk b6 59 [.int .i64 (IntKind.i64.wrap (1 + r2.1)), .slice A346 n347 c348], .row A346 n347 c348 127 4 ((recs GPlace.cells) xs345), .row A571 3 3 2 1 (ints ([(-1), 1000, 1001])), .row A573 3 3 2 1 (ints ([(-1), 0, (IntKind.i64.wrap (1 + r2.1))])), .blk b_p0 145 [.slice ae aa.length af, .int .i64 r577.2.1, .int .i64 r577.2.2]] := St.mutTail (La := [.blk b1 59 [.int .i64 0, .slice none 0 0], .blk b6 59 [.int .i64 (IntKind.i64.wrap (1 + r2.1)), .slice A346 n347 c348], .row A346 n347 c348 127 4 ((recs GPlace.cells) xs345), .row A571 3 3 2 1 (ints ([(-1), 1000, 1001])), .row A573 3 3 2 1 (ints ([(-1), 0, (IntKind.i64.wrap (1 + r2.1))]))]) (Lb := [.blk b_p0 145 [.slice ae aa.length af, .int .i64 r575.2.1, .int .i64 r575.2.2]]) (hs.sel [0, 1, 2, 3, 4, 5] (by decide)) hs1
      clear hs1
      have hs0 : St (muL [.blk b_p0 145 [.slice ae aa.length af, .int .i64 al, .int .i64 ai]]) W w [.blk b1 59 [.int .i64 0, .slice none 0 0], .blk b6 59 [.int .i64 (IntKind.i64.wrap (1 + r2.1)), .slice A346 n347 c348], .row A346 n347 c348 127 4 ((recs GPlace.cells) xs345)] := hs.sel [0, 1, 2] (by decide)
      refine wpO_nil ⟨Or.inr (fun _ => hs0), ?_⟩
      refine mYp (i := 10) rfl (by kernel_rfl) (by kernel_rfl) hf rfl rfl rfl (fun _ => Y_build (parts := [(0, .tmp 72), (2, .tmp 75), (3, .const (.int .i64 1))]) (vs := [.int .i64 r575.1, .int .i64 r577.1, .int .i64 1]) rfl rfl (run_build (parts := [(0, .int .i64 r575.1), (2, .int .i64 r577.1), (3, .int .i64 1)]) (cells := [.int .i64 r575.1, .int .i64 0, .int .i64 r577.1, .int .i64 1]) (places := #[(0, 1), (1, 1), (2, 1), (3, 1)]) ti127 Try.underlying127 (fun w => by simp [go_sem]) rfl)) ?_; clear hf; intro a hf
      refine mRun (i := 11) rfl (by kernel_rfl) ?_
      refine sBuildSlice (parts := [(0, .tmp 76)]) (vs := [.agg #[.int .i64 r575.1, .int .i64 0, .int .i64 r577.1, .int .i64 1]]) (cells := [.int .i64 r575.1, .int .i64 0, .int .i64 r577.1, .int .i64 1]) hf hs rfl rfl rfl rfl rfl el57 ti127 rfl rfl rfl rfl ?_; clear hf hs; intro a w A579 hs hA580 hf
      have hs : St (muL [.blk b_p0 145 [.slice ae aa.length af, .int .i64 al, .int .i64 ai]]) W w [.blk b1 59 [.int .i64 0, .slice none 0 0], .blk b6 59 [.int .i64 (IntKind.i64.wrap (1 + r2.1)), .slice A346 n347 c348], .row A346 n347 c348 127 4 ((recs GPlace.cells) xs345), .row A571 3 3 2 1 (ints ([(-1), 1000, 1001])), .row A573 3 3 2 1 (ints ([(-1), 0, (IntKind.i64.wrap (1 + r2.1))])), .blk b_p0 145 [.slice ae aa.length af, .int .i64 r577.2.1, .int .i64 r577.2.2], .row A579 1 1 127 4 ((recs GPlace.cells) ([(GPlace.mk r575.1 0 r577.1 1)]))] := hs
      have hs0 : St (muL [.blk b_p0 145 [.slice ae aa.length af, .int .i64 al, .int .i64 ai]]) W w [.blk b1 59 [.int .i64 0, .slice none 0 0], .blk b6 59 [.int .i64 (IntKind.i64.wrap (1 + r2.1)), .slice A346 n347 c348], .row A346 n347 c348 127 4 ((recs GPlace.cells) xs345)] := hs.sel [0, 1, 2] (by decide)
      refine wpO_nil ⟨Or.inr (fun _ => hs0), ?_⟩
      refine mRun (i := 12) rfl (by kernel_rfl) ?_
      obtain ⟨xs583, ha584, hj530⟩ := bind_some hj530
      refine sAppendL (i := 2) (xs := xs345) (ys := [(GPlace.mk r575.1 0 r577.1 1)]) (enc := (recs GPlace.cells)) hf hs rfl rfl rfl rfl rfl rfl hn349 rfl rfl ha584 el57 ti127 rfl rfl rfl (hs.rd (i := 6) rfl) (Nat.succ_pos _) (recs_length GPlace.len) (recs_append GPlace.cells) (recs_one GPlace.one) ?_; clear hf hs; intro a w A581 c582 hs hf
      have hs : St (muL [.blk b_p0 145 [.slice ae aa.length af, .int .i64 al, .int .i64 ai]]) W w [.blk b1 59 [.int .i64 0, .slice none 0 0], .blk b6 59 [.int .i64 (IntKind.i64.wrap (1 + r2.1)), .slice A346 n347 c348], .row A581 xs583.length c582 127 4 ((recs GPlace.cells) xs583), .row A571 3 3 2 1 (ints ([(-1), 1000, 1001])), .row A573 3 3 2 1 (ints ([(-1), 0, (IntKind.i64.wrap (1 + r2.1))])), .blk b_p0 145 [.slice ae aa.length af, .int .i64 r577.2.1, .int .i64 r577.2.2], .row A579 1 1 127 4 ((recs GPlace.cells) ([(GPlace.mk r575.1 0 r577.1 1)]))] := hs
      refine wpO_nil ⟨Or.inl (by decide), ?_⟩
      refine mYp (i := 13) rfl (by kernel_rfl) (by kernel_rfl) hf rfl rfl rfl (fun _ => Y_fieldAddr rfl rfl fo59_1) ?_; clear hf; intro a hf
      refine mRun (i := 14) rfl (by kernel_rfl) ?_
      refine sStore (i := 1) (us := [.slice A581 xs583.length c582]) hf hs rfl rfl rfl rfl rfl rfl ti57 rfl rfl rfl (Nat.le_of_ble_eq_true rfl) rfl ?_; clear hs; intro w hs
      have hs : St (muL [.blk b_p0 145 [.slice ae aa.length af, .int .i64 al, .int .i64 ai]]) W w [.blk b1 59 [.int .i64 0, .slice none 0 0], .blk b6 59 [.int .i64 (IntKind.i64.wrap (1 + r2.1)), .slice A581 xs583.length c582], .row A581 xs583.length c582 127 4 ((recs GPlace.cells) xs583), .row A571 3 3 2 1 (ints ([(-1), 1000, 1001])), .row A573 3 3 2 1 (ints ([(-1), 0, (IntKind.i64.wrap (1 + r2.1))])), .blk b_p0 145 [.slice ae aa.length af, .int .i64 r577.2.1, .int .i64 r577.2.2], .row A579 1 1 127 4 ((recs GPlace.cells) ([(GPlace.mk r575.1 0 r577.1 1)]))] := hs
      refine wpO_nil ⟨Or.inl (by decide), ?_⟩
      refine mDone (by kernel_rfl) ?_
      clear hs0
      refine wpL_nil (then_normal ?_)
      exact ⟨r577.2.1, r577.2.2, xs583, A581, xs583.length, c582, Option.some.inj hj530, rfl, (FrD.pick (FrD.pick hf.none hf rfl) hf rfl), hs.sel [5, 0, 1, 2] (by decide)⟩
    ·rintro a w ⟨x522, x523, xs524, A525, n526, c527, hr_, hn528, hf, hs⟩
     subst hr_
     try dsimp only at hm
     refine wpL_nil (Qb_normal ?_)
     refine wpL_seq <| wpL_region ?_
     refine sY hf hs rfl rfl rfl (Y_load_blkS rfl rfl (i := 2) rfl ag59 ti59 rfl) ?_; clear hf; intro a hf
     refine sStore (i := 1) (us := [.int .i64 (IntKind.i64.wrap (1 + r2.1)), .slice A525 n526 c527]) hf hs rfl rfl rfl rfl rfl rfl ti59 rfl rfl rfl (Nat.le_of_ble_eq_true rfl) rfl ?_; clear hs; intro w hs
     have hs : St (muL [.blk b_p0 145 [.slice ae aa.length af, .int .i64 al, .int .i64 ai]]) W w [.blk b_p0 145 [.slice ae aa.length af, .int .i64 x522, .int .i64 x523], .blk b1 59 [.int .i64 (IntKind.i64.wrap (1 + r2.1)), .slice A525 n526 c527], .blk b6 59 [.int .i64 (IntKind.i64.wrap (1 + r2.1)), .slice A525 n526 c527], .row A525 n526 c527 127 4 ((recs GPlace.cells) xs524)] := hs
     refine wpO_nil ?_
     obtain rfl := Option.some.inj hm
     refine wpL_ret (ret_cell rfl hf rfl hs (i := 1) rfl ag59 ti59 rfl ?_)
     exact ⟨_, rfl, A525, n526, c527, rfl, hn528, hs.sel [3, 0] (by decide)⟩
   ·have hm := bif_f hm hb467
    refine wpL_seq <| wpL_region ?_
    refine sY hf hs rfl rfl rfl (Y_eql rfl rfl rfl) ?_; clear hf; intro a hf
    refine sY hf hs rfl rfl rfl (Y_assign rfl rfl) ?_; clear hf; intro a hf
    refine wpO_nil ?_
    refine wpL_cond hf rfl (fun hb585 => ?_) (fun hb585 => ?_)
    ·have hm := bif_t hm hb585
     refine wpL_drawM [.blk b1 59 [.int .i64 0, .slice none 0 0], .blk b6 59 [.int .i64 (IntKind.i64.wrap (1 + r2.1)), .slice A346 n347 c348], .row A346 n347 c348 127 4 ((recs GPlace.cells) xs345)] [7, 9] (by kernel_rfl) hs ?_; clear hs; intro w hs
     have hs0 : St (muL [.blk b_p0 145 [.slice ae aa.length af, .int .i64 al, .int .i64 ai]]) W w [.blk b1 59 [.int .i64 0, .slice none 0 0], .blk b6 59 [.int .i64 (IntKind.i64.wrap (1 + r2.1)), .slice A346 n347 c348], .row A346 n347 c348 127 4 ((recs GPlace.cells) xs345)] := hs.sel [0, 1, 2] (by decide)
     refine mYp (i := 0) rfl (by kernel_rfl) (by kernel_rfl) hf rfl rfl rfl (fun _ => Y_fieldAddr rfl rfl fo59_1) ?_; clear hf; intro a hf
     refine mY (i := 1) [[], []] rfl (by kernel_rfl) (by kernel_rfl) hf hs0 rfl rfl rfl (Y_load_blk rfl rfl (i := 1) rfl rfl ag57) ?_; clear hf; intro a hf
     refine mYp (i := 2) rfl (by kernel_rfl) (by kernel_rfl) hf rfl rfl rfl (fun _ => Y_move rfl rfl) ?_; clear hf; intro a hf
     refine mRun (i := 3) rfl (by kernel_rfl) ?_
     refine sBuildSlice (parts := [(0, .const (.int .i64 5)), (1, .const (.int .i64 6)), (2, .const (.int .i64 (-1)))]) (vs := [.int .i64 5, .int .i64 6, .int .i64 (-1)]) (cells := [.int .i64 5, .int .i64 6, .int .i64 (-1)]) hf hs rfl rfl rfl rfl rfl el23 ti2 rfl rfl rfl rfl ?_; clear hf hs; intro a w A596 hs hA597 hf
     have hs : St (muL [.blk b_p0 145 [.slice ae aa.length af, .int .i64 al, .int .i64 ai]]) W w [.blk b1 59 [.int .i64 0, .slice none 0 0], .blk b6 59 [.int .i64 (IntKind.i64.wrap (1 + r2.1)), .slice A346 n347 c348], .row A346 n347 c348 127 4 ((recs GPlace.cells) xs345), .blk b_p0 145 [.slice ae aa.length af, .int .i64 r460.2.1, .int .i64 r460.2.2], .row A596 3 3 2 1 (ints ([5, 6, (-1)]))] := hs
     have hs0 : St (muL [.blk b_p0 145 [.slice ae aa.length af, .int .i64 al, .int .i64 ai]]) W w [.blk b1 59 [.int .i64 0, .slice none 0 0], .blk b6 59 [.int .i64 (IntKind.i64.wrap (1 + r2.1)), .slice A346 n347 c348], .row A346 n347 c348 127 4 ((recs GPlace.cells) xs345)] := hs.sel [0, 1, 2] (by decide)
     refine wpO_nil ⟨Or.inr (fun _ => hs0), ?_⟩
     refine mRun (i := 4) rfl (by kernel_rfl) ?_
     obtain ⟨r598, hc599, hm⟩ := bind_some hm
     refine sCall hf rfl rfl rfl rfl (cap := []) rfl rfl en114 (spec_l01Pick_ok F b_p0 aa ae aa.length af rfl r460.2.1 r460.2.2 ([5, 6, (-1)]) A596 3 3 rfl _ _ hc599 (aF.pass hs [3]) (hs.keepR (i := 4) rfl [3] (by decide)) (hs.sel [3] (by decide)).rebase) ?_; clear hf
     rintro _ w ⟨rfl, hs1⟩ a hf
     have hs : St (muL [.blk b_p0 145 [.slice ae aa.length af, .int .i64 al, .int .i64 ai]]) W w [.blk b1 59 [.int .i64 0, .slice none 0 0], .blk b6 59 [.int .i64 (IntKind.i64.wrap (1 + r2.1)), .slice A346 n347 c348], .row A346 n347 c348 127 4 ((recs GPlace.cells) xs345), .row A596 3 3 2 1 (ints ([5, 6, (-1)])), .blk b_p0 145 [.slice ae aa.length af, .int .i64 r598.2.1, .int .i64 r598.2.2]] := St.mutTail (La := [.blk b1 59 [.int .i64 0, .slice none 0 0], .blk b6 59 [.int .i64 (IntKind.i64.wrap (1 + r2.1)), .slice A346 n347 c348], .row A346 n347 c348 127 4 ((recs GPlace.cells) xs345), .row A596 3 3 2 1 (ints ([5, 6, (-1)]))]) (Lb := [.blk b_p0 145 [.slice ae aa.length af, .int .i64 r460.2.1, .int .i64 r460.2.2]]) (hs.sel [0, 1, 2, 4, 3] (by decide)) hs1
     clear hs1
     have hs0 : St (muL [.blk b_p0 145 [.slice ae aa.length af, .int .i64 al, .int .i64 ai]]) W w [.blk b1 59 [.int .i64 0, .slice none 0 0], .blk b6 59 [.int .i64 (IntKind.i64.wrap (1 + r2.1)), .slice A346 n347 c348], .row A346 n347 c348 127 4 ((recs GPlace.cells) xs345)] := hs.sel [0, 1, 2] (by decide)
     refine wpO_nil ⟨Or.inr (fun _ => hs0), ?_⟩
     refine mYp (i := 5) rfl (by kernel_rfl) (by kernel_rfl) hf rfl rfl rfl (fun _ => Y_build (parts := [(3, .tmp 86)]) (vs := [.int .i64 r598.1]) rfl rfl (run_build (parts := [(3, .int .i64 r598.1)]) (cells := [.int .i64 0, .int .i64 0, .int .i64 0, .int .i64 r598.1]) (places := #[(0, 1), (1, 1), (2, 1), (3, 1)]) ti127 Try.underlying127 (fun w => by simp [go_sem]) rfl)) ?_; clear hf; intro a hf
     refine mRun (i := 6) rfl (by kernel_rfl) ?_
     refine sBuildSlice (parts := [(0, .tmp 87)]) (vs := [.agg #[.int .i64 0, .int .i64 0, .int .i64 0, .int .i64 r598.1]]) (cells := [.int .i64 0, .int .i64 0, .int .i64 0, .int .i64 r598.1]) hf hs rfl rfl rfl rfl rfl el57 ti127 rfl rfl rfl rfl ?_; clear hf hs; intro a w A600 hs hA601 hf
     have hs : St (muL [.blk b_p0 145 [.slice ae aa.length af, .int .i64 al, .int .i64 ai]]) W w [.blk b1 59 [.int .i64 0, .slice none 0 0], .blk b6 59 [.int .i64 (IntKind.i64.wrap (1 + r2.1)), .slice A346 n347 c348], .row A346 n347 c348 127 4 ((recs GPlace.cells) xs345), .row A596 3 3 2 1 (ints ([5, 6, (-1)])), .blk b_p0 145 [.slice ae aa.length af, .int .i64 r598.2.1, .int .i64 r598.2.2], .row A600 1 1 127 4 ((recs GPlace.cells) ([(GPlace.mk 0 0 0 r598.1)]))] := hs
     have hs0 : St (muL [.blk b_p0 145 [.slice ae aa.length af, .int .i64 al, .int .i64 ai]]) W w [.blk b1 59 [.int .i64 0, .slice none 0 0], .blk b6 59 [.int .i64 (IntKind.i64.wrap (1 + r2.1)), .slice A346 n347 c348], .row A346 n347 c348 127 4 ((recs GPlace.cells) xs345)] := hs.sel [0, 1, 2] (by decide)
     refine wpO_nil ⟨Or.inr (fun _ => hs0), ?_⟩
     refine mRun (i := 7) rfl (by kernel_rfl) ?_
     obtain ⟨xs604, ha605, hm⟩ := bind_some hm
     refine sAppendL (i := 2) (xs := xs345) (ys := [(GPlace.mk 0 0 0 r598.1)]) (enc := (recs GPlace.cells)) hf hs rfl rfl rfl rfl rfl rfl hn349 rfl rfl ha605 el57 ti127 rfl rfl rfl (hs.rd (i := 5) rfl) (Nat.succ_pos _) (recs_length GPlace.len) (recs_append GPlace.cells) (recs_one GPlace.one) ?_; clear hf hs; intro a w A602 c603 hs hf
     have hs : St (muL [.blk b_p0 145 [.slice ae aa.length af, .int .i64 al, .int .i64 ai]]) W w [.blk b1 59 [.int .i64 0, .slice none 0 0], .blk b6 59 [.int .i64 (IntKind.i64.wrap (1 + r2.1)), .slice A346 n347 c348], .row A602 xs604.length c603 127 4 ((recs GPlace.cells) xs604), .row A596 3 3 2 1 (ints ([5, 6, (-1)])), .blk b_p0 145 [.slice ae aa.length af, .int .i64 r598.2.1, .int .i64 r598.2.2], .row A600 1 1 127 4 ((recs GPlace.cells) ([(GPlace.mk 0 0 0 r598.1)]))] := hs
     refine wpO_nil ⟨Or.inl (by decide), ?_⟩
     refine mYp (i := 8) rfl (by kernel_rfl) (by kernel_rfl) hf rfl rfl rfl (fun _ => Y_fieldAddr rfl rfl fo59_1) ?_; clear hf; intro a hf
     refine mRun (i := 9) rfl (by kernel_rfl) ?_
     refine sStore (i := 1) (us := [.slice A602 xs604.length c603]) hf hs rfl rfl rfl rfl rfl rfl ti57 rfl rfl rfl (Nat.le_of_ble_eq_true rfl) rfl ?_; clear hs; intro w hs
     have hs : St (muL [.blk b_p0 145 [.slice ae aa.length af, .int .i64 al, .int .i64 ai]]) W w [.blk b1 59 [.int .i64 0, .slice none 0 0], .blk b6 59 [.int .i64 (IntKind.i64.wrap (1 + r2.1)), .slice A602 xs604.length c603], .row A602 xs604.length c603 127 4 ((recs GPlace.cells) xs604), .row A596 3 3 2 1 (ints ([5, 6, (-1)])), .blk b_p0 145 [.slice ae aa.length af, .int .i64 r598.2.1, .int .i64 r598.2.2], .row A600 1 1 127 4 ((recs GPlace.cells) ([(GPlace.mk 0 0 0 r598.1)]))] := hs
     refine wpO_nil ⟨Or.inl (by decide), ?_⟩
     refine mDone (by kernel_rfl) ?_
     clear hs0
     refine wpL_nil (Qb_normal ?_)
     refine wpL_seq <| wpL_region ?_
     refine sY hf hs rfl rfl rfl (Y_load_blkS rfl rfl (i := 1) rfl ag59 ti59 rfl) ?_; clear hf; intro a hf
     refine sStore (i := 0) (us := [.int .i64 (IntKind.i64.wrap (1 + r2.1)), .slice A602 xs604.length c603]) hf hs rfl rfl rfl rfl rfl rfl ti59 rfl rfl rfl (Nat.le_of_ble_eq_true rfl) rfl ?_; clear hs; intro w hs
     have hs : St (muL [.blk b_p0 145 [.slice ae aa.length af, .int .i64 al, .int .i64 ai]]) W w [.blk b1 59 [.int .i64 (IntKind.i64.wrap (1 + r2.1)), .slice A602 xs604.length c603], .blk b6 59 [.int .i64 (IntKind.i64.wrap (1 + r2.1)), .slice A602 xs604.length c603], .row A602 xs604.length c603 127 4 ((recs GPlace.cells) xs604), .row A596 3 3 2 1 (ints ([5, 6, (-1)])), .blk b_p0 145 [.slice ae aa.length af, .int .i64 r598.2.1, .int .i64 r598.2.2], .row A600 1 1 127 4 ((recs GPlace.cells) ([(GPlace.mk 0 0 0 r598.1)]))] := hs
     refine wpO_nil ?_
     obtain rfl := Option.some.inj hm
     refine wpL_ret (ret_cell rfl hf rfl hs (i := 0) rfl ag59 ti59 rfl ?_)
     exact ⟨_, rfl, A602, xs604.length, c603, rfl, rfl, hs.sel [2, 4] (by decide)⟩
    ·have hm := bif_f hm hb585
     refine wpL_seq <| wpL_region ?_
     refine sY hf hs rfl rfl rfl (Y_eql rfl rfl rfl) ?_; clear hf; intro a hf
     refine sY hf hs rfl rfl rfl (Y_assign rfl rfl) ?_; clear hf; intro a hf
     refine wpO_nil ?_
     refine wpL_cond hf rfl (fun hb606 => ?_) (fun hb606 => ?_)
     ·have hm := bif_t hm hb606
      refine wpL_seq <| wpL_region ?_
      refine sY hf hs rfl rfl rfl (Y_assign rfl rfl) ?_; clear hf; intro a hf
      refine wpO_nil ?_
      obtain ⟨r657, hl658, hm⟩ := bind_some hm
      refine wpL_block (fun a w => ∃ x650 : Int, ∃ x651 : Int, ∃ xs652 : List GPlace, ∃ A653, ∃ n654, ∃ c655, (x650, x651, xs652) = r657 ∧ n654 = xs652.length ∧ Fr a 108 [(2, .pointer (some ⟨b1, 0, none⟩)), (3, .pointer (some ⟨b6, 0, none⟩))] ∧ St (muL [.blk b_p0 145 [.slice ae aa.length af, .int .i64 al, .int .i64 ai]]) W w [.blk b_p0 145 [.slice ae aa.length af, .int .i64 x650, .int .i64 x651], .blk b1 59 [.int .i64 0, .slice none 0 0], .blk b6 59 [.int .i64 (IntKind.i64.wrap (1 + r2.1)), .slice A653 n654 c655], .row A653 n654 c655 127 4 ((recs GPlace.cells) xs652)]) ?_ ?_
      ·refine wpL_loop (fun n a w => ∃ x633 : Int, ∃ x634 : Int, ∃ xs635 : List GPlace, ∃ x640 : Int, ∃ A636, ∃ n637, ∃ c638, spec_l11Draw_L2 F aa n x633 x634 xs635 x640 = some r657 ∧ n637 = xs635.length ∧ Fr a 108 [(0, .pointer (some ⟨b_p0, 0, none⟩)), (2, .pointer (some ⟨b1, 0, none⟩)), (3, .pointer (some ⟨b6, 0, none⟩)), (6, .int .i64 x640)] ∧ St (muL [.blk b_p0 145 [.slice ae aa.length af, .int .i64 al, .int .i64 ai]]) W w [.blk b_p0 145 [.slice ae aa.length af, .int .i64 x633, .int .i64 x634], .blk b1 59 [.int .i64 0, .slice none 0 0], .blk b6 59 [.int .i64 (IntKind.i64.wrap (1 + r2.1)), .slice A636 n637 c638], .row A636 n637 c638 127 4 ((recs GPlace.cells) xs635)]) F ?_ ?_ ?_
       ·exact ⟨r460.2.1, r460.2.2, xs345, 0, A346, n347, c348, hl658, hn349, (FrD.pick (FrD.pick (FrD.pick (FrD.pick hf.none hf rfl) hf rfl) hf rfl) hf rfl), hs.sel [3, 0, 1, 2] (by decide)⟩
       ·rintro a w ⟨x633, x634, xs635, x640, A636, n637, c638, h0_, -, -, -⟩; simp [spec_l11Draw_L2] at h0_
       ·rintro n660 a w ⟨x633, x634, xs635, x640, A636, n637, c638, hm659, hn639, hf, hs⟩
        rw [spec_l11Draw_L2] at hm659
        refine wpL_seq <| wpL_seq <| wpL_region ?_
        refine sY hf hs rfl rfl rfl (Y_move rfl rfl) ?_; clear hf; intro a hf
        refine sY hf hs rfl rfl rfl (Y_move rfl rfl) ?_; clear hf; intro a hf
        obtain ⟨r661, hc662, hm659⟩ := bind_some hm659
        refine sCall hf rfl rfl rfl rfl (cap := []) rfl rfl en107 (spec_l01Next_ok F b_p0 aa ae aa.length af rfl x633 x634 9 _ _ hc662 (aF.pass hs [0]) (hs.sel [0] (by decide)).rebase) ?_; clear hf
        rintro _ w ⟨rfl, hs1⟩ a hf
        have hs : St (muL [.blk b_p0 145 [.slice ae aa.length af, .int .i64 al, .int .i64 ai]]) W w [.blk b1 59 [.int .i64 0, .slice none 0 0], .blk b6 59 [.int .i64 (IntKind.i64.wrap (1 + r2.1)), .slice A636 n637 c638], .row A636 n637 c638 127 4 ((recs GPlace.cells) xs635), .blk b_p0 145 [.slice ae aa.length af, .int .i64 r661.2.1, .int .i64 r661.2.2]] := St.mutTail (La := [.blk b1 59 [.int .i64 0, .slice none 0 0], .blk b6 59 [.int .i64 (IntKind.i64.wrap (1 + r2.1)), .slice A636 n637 c638], .row A636 n637 c638 127 4 ((recs GPlace.cells) xs635)]) (Lb := [.blk b_p0 145 [.slice ae aa.length af, .int .i64 x633, .int .i64 x634]]) (hs.sel [1, 2, 3, 0] (by decide)) hs1
        clear hs1
        refine sY hf hs rfl rfl rfl (Y_add rfl rfl rfl) ?_; clear hf; intro a hf
        refine sY hf hs rfl rfl rfl (Y_lss rfl rfl rfl) ?_; clear hf; intro a hf
        refine wpO_nil ?_
        refine wpL_cond hf rfl (fun hb663 => ?_) (fun hb663 => ?_)
        ·have hm659 := bif_t hm659 hb663
         refine wpL_skip <| wpL_seq <| wpL_block0 <| wpL_region ?_
         refine sY hf hs rfl rfl rfl (Y_fieldAddr rfl rfl fo59_1) ?_; clear hf; intro a hf
         refine sY hf hs rfl rfl rfl (Y_load_blk rfl rfl (i := 1) rfl rfl ag57) ?_; clear hf; intro a hf
         refine sY hf hs rfl rfl rfl (Y_move rfl rfl) ?_; clear hf; intro a hf
         refine sY hf hs rfl rfl rfl (Y_build (parts := [(2, .tmp 102), (3, .const (.int .i64 1))]) (vs := [.int .i64 x640, .int .i64 1]) rfl rfl (run_build (parts := [(2, .int .i64 x640), (3, .int .i64 1)]) (cells := [.int .i64 0, .int .i64 0, .int .i64 x640, .int .i64 1]) (places := #[(0, 1), (1, 1), (2, 1), (3, 1)]) ti127 Try.underlying127 (fun w => by simp [go_sem]) rfl)) ?_; clear hf; intro a hf
         refine sBuildSlice (parts := [(0, .tmp 103)]) (vs := [.agg #[.int .i64 0, .int .i64 0, .int .i64 x640, .int .i64 1]]) (cells := [.int .i64 0, .int .i64 0, .int .i64 x640, .int .i64 1]) hf hs rfl rfl rfl rfl rfl el57 ti127 rfl rfl rfl rfl ?_; clear hf hs; intro a w A664 hs hA665 hf
         have hs : St (muL [.blk b_p0 145 [.slice ae aa.length af, .int .i64 al, .int .i64 ai]]) W w [.blk b1 59 [.int .i64 0, .slice none 0 0], .blk b6 59 [.int .i64 (IntKind.i64.wrap (1 + r2.1)), .slice A636 n637 c638], .row A636 n637 c638 127 4 ((recs GPlace.cells) xs635), .blk b_p0 145 [.slice ae aa.length af, .int .i64 r661.2.1, .int .i64 r661.2.2], .row A664 1 1 127 4 ((recs GPlace.cells) ([(GPlace.mk 0 0 x640 1)]))] := hs
         obtain ⟨xs668, ha669, hm659⟩ := bind_some hm659
         refine sAppendL (i := 2) (xs := xs635) (ys := [(GPlace.mk 0 0 x640 1)]) (enc := (recs GPlace.cells)) hf hs rfl rfl rfl rfl rfl rfl hn639 rfl rfl ha669 el57 ti127 rfl rfl rfl (hs.rd (i := 4) rfl) (Nat.succ_pos _) (recs_length GPlace.len) (recs_append GPlace.cells) (recs_one GPlace.one) ?_; clear hf hs; intro a w A666 c667 hs hf
         have hs : St (muL [.blk b_p0 145 [.slice ae aa.length af, .int .i64 al, .int .i64 ai]]) W w [.blk b1 59 [.int .i64 0, .slice none 0 0], .blk b6 59 [.int .i64 (IntKind.i64.wrap (1 + r2.1)), .slice A636 n637 c638], .row A666 xs668.length c667 127 4 ((recs GPlace.cells) xs668), .blk b_p0 145 [.slice ae aa.length af, .int .i64 r661.2.1, .int .i64 r661.2.2], .row A664 1 1 127 4 ((recs GPlace.cells) ([(GPlace.mk 0 0 x640 1)]))] := hs
         refine sY hf hs rfl rfl rfl (Y_fieldAddr rfl rfl fo59_1) ?_; clear hf; intro a hf
         refine sStore (i := 1) (us := [.slice A666 xs668.length c667]) hf hs rfl rfl rfl rfl rfl rfl ti57 rfl rfl rfl (Nat.le_of_ble_eq_true rfl) rfl ?_; clear hs; intro w hs
         have hs : St (muL [.blk b_p0 145 [.slice ae aa.length af, .int .i64 al, .int .i64 ai]]) W w [.blk b1 59 [.int .i64 0, .slice none 0 0], .blk b6 59 [.int .i64 (IntKind.i64.wrap (1 + r2.1)), .slice A666 xs668.length c667], .row A666 xs668.length c667 127 4 ((recs GPlace.cells) xs668), .blk b_p0 145 [.slice ae aa.length af, .int .i64 r661.2.1, .int .i64 r661.2.2], .row A664 1 1 127 4 ((recs GPlace.cells) ([(GPlace.mk 0 0 x640 1)]))] := hs
         refine wpO_nil ?_
         refine wpL_nil (Qb_normal ?_)
         refine wpL_region ?_
         refine sY hf hs rfl rfl rfl (Y_move rfl rfl) ?_; clear hf; intro a hf
         refine sY hf hs rfl rfl rfl (Y_add rfl rfl rfl) ?_; clear hf; intro a hf
         refine sY hf hs rfl rfl rfl (Y_assign rfl rfl) ?_; clear hf; intro a hf
         refine wpO_nil ?_
         refine wpL_nil (Ql_normal ?_)
         exact ⟨r661.2.1, r661.2.2, xs668, (IntKind.i64.wrap (x640 + 1)), A666, xs668.length, c667, hm659, rfl, (FrD.pick (FrD.pick (FrD.pick (FrD.pick hf.none hf rfl) hf rfl) hf rfl) hf rfl), hs.sel [3, 0, 1, 2] (by decide)⟩
        ·have hm659 := bif_f hm659 hb663
         refine wpL_exit (Ql_exit (Qb_exit ?_))
         exact ⟨r661.2.1, r661.2.2, xs635, A636, n637, c638, Option.some.inj hm659, hn639, (FrD.pick (FrD.pick hf.none hf rfl) hf rfl), hs.sel [3, 0, 1, 2] (by decide)⟩
      ·rintro a w ⟨x650, x651, xs652, A653, n654, c655, hr_, hn656, hf, hs⟩
       subst hr_
       try dsimp only at hm
       refine wpL_nil (Qb_normal ?_)
       refine wpL_seq <| wpL_region ?_
       refine sY hf hs rfl rfl rfl (Y_load_blkS rfl rfl (i := 2) rfl ag59 ti59 rfl) ?_; clear hf; intro a hf
       refine sStore (i := 1) (us := [.int .i64 (IntKind.i64.wrap (1 + r2.1)), .slice A653 n654 c655]) hf hs rfl rfl rfl rfl rfl rfl ti59 rfl rfl rfl (Nat.le_of_ble_eq_true rfl) rfl ?_; clear hs; intro w hs
       have hs : St (muL [.blk b_p0 145 [.slice ae aa.length af, .int .i64 al, .int .i64 ai]]) W w [.blk b_p0 145 [.slice ae aa.length af, .int .i64 x650, .int .i64 x651], .blk b1 59 [.int .i64 (IntKind.i64.wrap (1 + r2.1)), .slice A653 n654 c655], .blk b6 59 [.int .i64 (IntKind.i64.wrap (1 + r2.1)), .slice A653 n654 c655], .row A653 n654 c655 127 4 ((recs GPlace.cells) xs652)] := hs
       refine wpO_nil ?_
       obtain rfl := Option.some.inj hm
       refine wpL_ret (ret_cell rfl hf rfl hs (i := 1) rfl ag59 ti59 rfl ?_)
       exact ⟨_, rfl, A653, n654, c655, rfl, hn656, hs.sel [3, 0] (by decide)⟩
     ·have hm := bif_f hm hb606
      refine wpL_skip ?_
      refine wpL_nil (Qb_normal ?_)
      refine wpL_seq <| wpL_region ?_
      refine sY hf hs rfl rfl rfl (Y_load_blkS rfl rfl (i := 1) rfl ag59 ti59 rfl) ?_; clear hf; intro a hf
      refine sStore (i := 0) (us := [.int .i64 (IntKind.i64.wrap (1 + r2.1)), .slice A346 n347 c348]) hf hs rfl rfl rfl rfl rfl rfl ti59 rfl rfl rfl (Nat.le_of_ble_eq_true rfl) rfl ?_; clear hs; intro w hs
      have hs : St (muL [.blk b_p0 145 [.slice ae aa.length af, .int .i64 al, .int .i64 ai]]) W w [.blk b1 59 [.int .i64 (IntKind.i64.wrap (1 + r2.1)), .slice A346 n347 c348], .blk b6 59 [.int .i64 (IntKind.i64.wrap (1 + r2.1)), .slice A346 n347 c348], .row A346 n347 c348 127 4 ((recs GPlace.cells) xs345), .blk b_p0 145 [.slice ae aa.length af, .int .i64 r460.2.1, .int .i64 r460.2.2]] := hs
      refine wpO_nil ?_
      obtain rfl := Option.some.inj hm
      refine wpL_ret (ret_cell rfl hf rfl hs (i := 0) rfl ag59 ti59 rfl ?_)
      exact ⟨_, rfl, A346, n347, c348, rfl, hn349, hs.sel [2, 3] (by decide)⟩

set_option maxRecDepth 100000 in
theorem spec_DrawReverseGraph_ok (F : Nat) (aa : List Int) (ag : Option Addr) (aL ah : Nat) (aP : aL = aa.length) (r : GEventGraph) (W : World) (hm : spec_DrawReverseGraph F aa = some r) (aG : Rd W ag (bytes aa)) :
  Calls Try.prog 58 [.slice ag aL ah].toArray W fun e w' => ∃ v, e = .returned v ∧ ∃ A11, ∃ n12, ∃ c13, v = .agg #[.int .i64 r.Events, .slice A11 n12 c13] ∧ n12 = r.Places.length ∧ St [] W w' [.row A11 n12 c13 127 4 ((recs GPlace.cells) r.Places)] := by
 subst aP
 unfold spec_DrawReverseGraph at hm
 refine Calls.enter (N := 6) Try.func58 rfl rfl rfl (fun a hf => ?_)
 have hs := St.start W
 obtain ⟨w, hw_⟩ : ∃ w, w = W := ⟨W, rfl⟩
 clear hw_ w
 refine wpL_seq <| wpL_region ?_
 refine sAlloc hf hs rfl rfl rfl rfl ti59 ?_; clear hf hs; intro a w b1 hs hf
 have hs : St [] W w [.blk b1 59 [.int .i64 0, .slice none 0 0]] := hs
 refine wpO_nil <| wpL_seq <| wpL_region ?_
 refine sY hf hs rfl rfl rfl (Y_move rfl rfl) ?_; clear hf; intro a hf
 obtain ⟨r2, hc3, hm⟩ := bind_some hm
 refine sCall hf rfl rfl rfl rfl (cap := []) rfl rfl en101 (spec_l01From_ok F aa ag aa.length ah rfl _ _ hc3 (aG.at hs)) ?_; clear hf
 rintro _ w ⟨b4, rfl, hs1⟩ a hf
 have hs : St [] W w [.blk b1 59 [.int .i64 0, .slice none 0 0], .blk b4 145 [.slice ag aa.length ah, .int .i64 r2.1, .int .i64 r2.2]] := hs.join hs1
 clear hs1
 obtain ⟨r5, hc6, hm⟩ := bind_some hm
 refine sCall hf rfl rfl rfl rfl (cap := []) rfl rfl en125 (spec_l11Draw_ok F b4 aa ag aa.length ah rfl r2.1 r2.2 _ _ hc6 (aG.pass hs [1]) (hs.sel [1] (by decide)).rebase) ?_; clear hf
 rintro _ w ⟨A7, n8, c9, rfl, hn10, hs1⟩ a hf
 have hs : St [] W w [.blk b1 59 [.int .i64 0, .slice none 0 0], .row A7 n8 c9 127 4 ((recs GPlace.cells) r5.1.Places), .blk b4 145 [.slice ag aa.length ah, .int .i64 r5.2.1, .int .i64 r5.2.2]] := St.mutTail (La := [.blk b1 59 [.int .i64 0, .slice none 0 0]]) (Lb := [.blk b4 145 [.slice ag aa.length ah, .int .i64 r2.1, .int .i64 r2.2]]) (hs.sel [0, 1] (by decide)) hs1
 clear hs1
 refine sStore (i := 0) (us := [.int .i64 r5.1.Events, .slice A7 n8 c9]) hf hs rfl rfl rfl rfl rfl rfl ti59 rfl rfl rfl (Nat.le_of_ble_eq_true rfl) rfl ?_; clear hs; intro w hs
 have hs : St [] W w [.blk b1 59 [.int .i64 r5.1.Events, .slice A7 n8 c9], .row A7 n8 c9 127 4 ((recs GPlace.cells) r5.1.Places), .blk b4 145 [.slice ag aa.length ah, .int .i64 r5.2.1, .int .i64 r5.2.2]] := hs
 refine wpO_nil ?_
 obtain rfl := Option.some.inj hm
 refine wpL_ret (ret_cell rfl hf rfl hs (i := 0) rfl ag59 ti59 rfl ?_)
 exact ⟨_, rfl, A7, n8, c9, rfl, hn10, hs.sel [1] (by decide)⟩

set_option maxRecDepth 100000 in
theorem impl_within_ok (F : Nat) (bB : Int) (bb : Int) (aY : Int) (r : Bool) (W : World) (hm : impl_within F bB bb aY = some r) :
  Calls Try.prog 105 [.int .i64 bB, .int .i64 bb, .int .i64 aY].toArray W fun e w' => ∃ v, e = .returned v ∧ v = .bool r ∧ St [] W w' [] := by
 unfold impl_within at hm
 refine Calls.enter (N := 15) Try.func105 rfl rfl rfl (fun a hf => ?_)
 have hs := St.start W
 obtain ⟨w, hw_⟩ : ∃ w, w = W := ⟨W, rfl⟩
 clear hw_ w
 refine wpL_seq <| wpL_region ?_
 refine sY hf hs rfl rfl rfl (Y_assign rfl rfl) ?_; clear hf; intro a hf
 refine wpO_nil <| wpL_seq ?_
 obtain ⟨r3, hj4, hm⟩ := bind_some hm
 refine wpL_cut (fun a w => ∃ b2 : Bool, b2 = r3 ∧ Fr a 15 [(6, .bool b2)] ∧ St [] W w []) ?_ ?_
 ·refine wpL_region ?_
  refine sY hf hs rfl rfl rfl (Y_move rfl rfl) ?_; clear hf; intro a hf
  refine sY hf hs rfl rfl rfl (Y_move rfl rfl) ?_; clear hf; intro a hf
  refine sY hf hs rfl rfl rfl (Y_geq rfl rfl rfl) ?_; clear hf; intro a hf
  refine sY hf hs rfl rfl rfl (Y_move rfl rfl) ?_; clear hf; intro a hf
  refine bsplit (decide (bb ≤ bB)) (fun hb5 => ?_) (fun hb5 => ?_)
  ·have hj4 := bif_t hj4 hb5
   refine sYg hf hs rfl rfl rfl (congrArg (fun b => some (Value.bool b)) hb5) rfl rfl rfl (Y_move rfl rfl) ?_; clear hf; intro a hf
   refine sYg hf hs rfl rfl rfl (congrArg (fun b => some (Value.bool b)) hb5) rfl rfl rfl (Y_move rfl rfl) ?_; clear hf; intro a hf
   refine sYg hf hs rfl rfl rfl (congrArg (fun b => some (Value.bool b)) hb5) rfl rfl rfl (Y_leq rfl rfl rfl) ?_; clear hf; intro a hf
   refine sY hf hs rfl rfl rfl (Y_pickT rfl (congrArg (fun b => some (Value.bool b)) hb5) rfl) ?_; clear hf; intro a hf
   refine sY hf hs rfl rfl rfl (Y_assign rfl rfl) ?_; clear hf; intro a hf
   refine wpO_nil ?_
   refine wpL_nil (then_normal ?_)
   exact ⟨(decide (bB ≤ aY)), Option.some.inj hj4, (FrD.pick hf.none hf rfl), hs⟩
  ·have hj4 := bif_f hj4 hb5
   refine sNo hf rfl rfl rfl (congrArg (fun b => some (Value.bool b)) hb5) rfl rfl rfl ?_; clear hf; intro a hf
   refine sNo hf rfl rfl rfl (congrArg (fun b => some (Value.bool b)) hb5) rfl rfl rfl ?_; clear hf; intro a hf
   refine sNo hf rfl rfl rfl (congrArg (fun b => some (Value.bool b)) hb5) rfl rfl rfl ?_; clear hf; intro a hf
   refine sY hf hs rfl rfl rfl (Y_pickF rfl (congrArg (fun b => some (Value.bool b)) hb5) rfl) ?_; clear hf; intro a hf
   refine sY hf hs rfl rfl rfl (Y_assign rfl rfl) ?_; clear hf; intro a hf
   refine wpO_nil ?_
   refine wpL_nil (then_normal ?_)
   exact ⟨false, Option.some.inj hj4, (FrD.pick hf.none hf rfl), hs⟩
 ·rintro a w ⟨b2, hr_, hf, hs⟩
  subst hr_
  try dsimp only at hm
  obtain rfl := Option.some.inj hm
  refine wpL_ret (ret_tmp rfl hf rfl ?_)
  exact ⟨_, rfl, rfl, hs⟩

set_option maxRecDepth 100000 in
theorem impl_isEvent_ok (F : Nat) (ab : GEventGraph) (ac : Option Addr) (ap ad : Nat) (ax : ap = ab.Places.length) (cg : Int) (r : Bool) (W : World) (hm : impl_isEvent F ab cg = some r) (_h_p0_g_1 : Rd W ac ((recs GPlace.cells) ab.Places)) :
  Calls Try.prog 134 [.agg #[.int .i64 ab.Events, .slice ac ap ad], .int .i64 cg].toArray W fun e w' => ∃ v, e = .returned v ∧ v = .bool r ∧ St [] W w' [] := by
 subst ax
 unfold impl_isEvent at hm
 refine Calls.enter (N := 10) Try.func134 rfl rfl rfl (fun a hf => ?_)
 have hs := St.start W
 obtain ⟨w, hw_⟩ : ∃ w, w = W := ⟨W, rfl⟩
 clear hw_ w
 refine wpL_seq <| wpL_region ?_
 refine sBox hf hs rfl rfl rfl rfl rfl (cs := [.int .i64 ab.Events, .slice ac ab.Places.length ad]) rfl ?_; clear hf hs; intro a w b1 hs hf
 have hs : St [] W w [.blk b1 59 [.int .i64 ab.Events, .slice ac ab.Places.length ad]] := hs
 refine sY hf hs rfl rfl rfl (Y_assign rfl rfl) ?_; clear hf; intro a hf
 refine wpO_nil <| wpL_seq <| wpL_region ?_
 refine sY hf hs rfl rfl rfl (Y_move rfl rfl) ?_; clear hf; intro a hf
 refine sY hf hs rfl rfl rfl (Y_fieldAddr rfl rfl fo59_0) ?_; clear hf; intro a hf
 refine sY hf hs rfl rfl rfl (Y_load_blk rfl rfl (i := 0) rfl rfl ag2) ?_; clear hf; intro a hf
 refine sY hf hs rfl rfl rfl (Y_sub rfl rfl rfl) ?_; clear hf; intro a hf
 obtain ⟨r2, hc3, hm⟩ := bind_some hm
 refine sCall hf rfl rfl rfl rfl (cap := []) rfl rfl en105 (impl_within_ok F cg 0 (IntKind.i64.wrap (ab.Events - 1)) _ _ hc3) ?_; clear hf
 rintro _ w ⟨rfl, hs1⟩ a hf
 have hs : St [] W w [.blk b1 59 [.int .i64 ab.Events, .slice ac ab.Places.length ad]] := hs.ext hs1.below
 clear hs1
 refine sY hf hs rfl rfl rfl (Y_assign rfl rfl) ?_; clear hf; intro a hf
 refine wpO_nil ?_
 obtain rfl := Option.some.inj hm
 refine wpL_ret (ret_tmp rfl hf rfl ?_)
 exact ⟨_, rfl, rfl, hs.sel [] (by decide)⟩

set_option maxRecDepth 100000 in
theorem impl_isPlace_ok (F : Nat) (ab : GEventGraph) (ac : Option Addr) (ap ad : Nat) (ax : ap = ab.Places.length) (aD : GPlace) (r : Bool) (W : World) (hm : impl_isPlace F ab aD = some r) (aq : Rd W ac ((recs GPlace.cells) ab.Places)) :
  Calls Try.prog 140 [.agg #[.int .i64 ab.Events, .slice ac ap ad], .agg #[.int .i64 aD.From, .int .i64 aD.To, .int .i64 aD.Delay, .int .i64 aD.Tokens]].toArray W fun e w' => ∃ v, e = .returned v ∧ v = .bool r ∧ St [] W w' [] := by
 subst ax
 unfold impl_isPlace at hm
 refine Calls.enter (N := 25) Try.func140 rfl rfl rfl (fun a hf => ?_)
 have hs := St.start W
 obtain ⟨w, hw_⟩ : ∃ w, w = W := ⟨W, rfl⟩
 clear hw_ w
 refine wpL_seq <| wpL_region ?_
 refine sBox hf hs rfl rfl rfl rfl rfl (cs := [.int .i64 ab.Events, .slice ac ab.Places.length ad]) rfl ?_; clear hf hs; intro a w b1 hs hf
 have hs : St [] W w [.blk b1 59 [.int .i64 ab.Events, .slice ac ab.Places.length ad]] := hs
 refine sBox hf hs rfl rfl rfl rfl rfl (cs := [.int .i64 aD.From, .int .i64 aD.To, .int .i64 aD.Delay, .int .i64 aD.Tokens]) rfl ?_; clear hf hs; intro a w b2 hs hf
 have hs : St [] W w [.blk b1 59 [.int .i64 ab.Events, .slice ac ab.Places.length ad], .blk b2 127 [.int .i64 aD.From, .int .i64 aD.To, .int .i64 aD.Delay, .int .i64 aD.Tokens]] := hs
 refine sY hf hs rfl rfl rfl (Y_assign rfl rfl) ?_; clear hf; intro a hf
 refine wpO_nil <| wpL_seq ?_
 obtain ⟨r15, hj16, hm⟩ := bind_some hm
 refine wpL_cut (fun a w => ∃ b14 : Bool, b14 = r15 ∧ Fr a 25 [(4, .bool b14)] ∧ St [] W w []) ?_ ?_
 ·refine wpL_region ?_
  refine sY hf hs rfl rfl rfl (Y_load_blkS rfl rfl (i := 0) rfl ag59 ti59 rfl) ?_; clear hf; intro a hf
  refine sY hf hs rfl rfl rfl (Y_fieldAddr rfl rfl fo127_0) ?_; clear hf; intro a hf
  refine sY hf hs rfl rfl rfl (Y_load_blk rfl rfl (i := 1) rfl rfl ag2) ?_; clear hf; intro a hf
  obtain ⟨r17, hc18, hj16⟩ := bind_some hj16
  refine sCall hf rfl rfl rfl rfl (cap := []) rfl rfl en134 (impl_isEvent_ok F ab ac ab.Places.length ad rfl aD.From _ _ hc18 (aq.at hs)) ?_; clear hf
  rintro _ w ⟨rfl, hs1⟩ a hf
  have hs : St [] W w [.blk b1 59 [.int .i64 ab.Events, .slice ac ab.Places.length ad], .blk b2 127 [.int .i64 aD.From, .int .i64 aD.To, .int .i64 aD.Delay, .int .i64 aD.Tokens]] := hs.ext hs1.below
  clear hs1
  refine sY hf hs rfl rfl rfl (Y_move rfl rfl) ?_; clear hf; intro a hf
  refine bsplit r17 (fun hb19 => ?_) (fun hb19 => ?_)
  ·have hj16 := bif_t hj16 hb19
   refine sYg hf hs rfl rfl rfl (congrArg (fun b => some (Value.bool b)) hb19) rfl rfl rfl (Y_load_blkS rfl rfl (i := 0) rfl ag59 ti59 rfl) ?_; clear hf; intro a hf
   refine sYg hf hs rfl rfl rfl (congrArg (fun b => some (Value.bool b)) hb19) rfl rfl rfl (Y_fieldAddr rfl rfl fo127_1) ?_; clear hf; intro a hf
   refine sYg hf hs rfl rfl rfl (congrArg (fun b => some (Value.bool b)) hb19) rfl rfl rfl (Y_load_blk rfl rfl (i := 1) rfl rfl ag2) ?_; clear hf; intro a hf
   obtain ⟨r20, hc21, hj16⟩ := bind_some hj16
   refine sCallg hf rfl rfl rfl (congrArg (fun b => some (Value.bool b)) hb19) rfl rfl rfl rfl (cap := []) rfl rfl en134 (impl_isEvent_ok F ab ac ab.Places.length ad rfl aD.To _ _ hc21 (aq.at hs)) ?_; clear hf
   rintro _ w ⟨rfl, hs1⟩ a hf
   have hs : St [] W w [.blk b1 59 [.int .i64 ab.Events, .slice ac ab.Places.length ad], .blk b2 127 [.int .i64 aD.From, .int .i64 aD.To, .int .i64 aD.Delay, .int .i64 aD.Tokens]] := hs.ext hs1.below
   clear hs1
   refine sY hf hs rfl rfl rfl (Y_pickT rfl (congrArg (fun b => some (Value.bool b)) hb19) rfl) ?_; clear hf; intro a hf
   refine sY hf hs rfl rfl rfl (Y_move rfl rfl) ?_; clear hf; intro a hf
   refine bsplit r20 (fun hb22 => ?_) (fun hb22 => ?_)
   ·have hj16 := bif_t hj16 hb22
    refine sYg hf hs rfl rfl rfl (congrArg (fun b => some (Value.bool b)) hb22) rfl rfl rfl (Y_fieldAddr rfl rfl fo127_2) ?_; clear hf; intro a hf
    refine sYg hf hs rfl rfl rfl (congrArg (fun b => some (Value.bool b)) hb22) rfl rfl rfl (Y_load_blk rfl rfl (i := 1) rfl rfl ag2) ?_; clear hf; intro a hf
    obtain ⟨r23, hc24, hj16⟩ := bind_some hj16
    refine sCallg hf rfl rfl rfl (congrArg (fun b => some (Value.bool b)) hb22) rfl rfl rfl rfl (cap := []) rfl rfl en105 (impl_within_ok F aD.Delay 0 1000 _ _ hc24) ?_; clear hf
    rintro _ w ⟨rfl, hs1⟩ a hf
    have hs : St [] W w [.blk b1 59 [.int .i64 ab.Events, .slice ac ab.Places.length ad], .blk b2 127 [.int .i64 aD.From, .int .i64 aD.To, .int .i64 aD.Delay, .int .i64 aD.Tokens]] := hs.ext hs1.below
    clear hs1
    refine sY hf hs rfl rfl rfl (Y_pickT rfl (congrArg (fun b => some (Value.bool b)) hb22) rfl) ?_; clear hf; intro a hf
    refine sY hf hs rfl rfl rfl (Y_move rfl rfl) ?_; clear hf; intro a hf
    refine bsplit r23 (fun hb25 => ?_) (fun hb25 => ?_)
    ·have hj16 := bif_t hj16 hb25
     refine sYg hf hs rfl rfl rfl (congrArg (fun b => some (Value.bool b)) hb25) rfl rfl rfl (Y_fieldAddr rfl rfl fo127_3) ?_; clear hf; intro a hf
     refine sYg hf hs rfl rfl rfl (congrArg (fun b => some (Value.bool b)) hb25) rfl rfl rfl (Y_load_blk rfl rfl (i := 1) rfl rfl ag2) ?_; clear hf; intro a hf
     obtain ⟨r26, hc27, hj16⟩ := bind_some hj16
     refine sCallg hf rfl rfl rfl (congrArg (fun b => some (Value.bool b)) hb25) rfl rfl rfl rfl (cap := []) rfl rfl en105 (impl_within_ok F aD.Tokens 0 5 _ _ hc27) ?_; clear hf
     rintro _ w ⟨rfl, hs1⟩ a hf
     have hs : St [] W w [.blk b1 59 [.int .i64 ab.Events, .slice ac ab.Places.length ad], .blk b2 127 [.int .i64 aD.From, .int .i64 aD.To, .int .i64 aD.Delay, .int .i64 aD.Tokens]] := hs.ext hs1.below
     clear hs1
     refine sY hf hs rfl rfl rfl (Y_pickT rfl (congrArg (fun b => some (Value.bool b)) hb25) rfl) ?_; clear hf; intro a hf
     refine sY hf hs rfl rfl rfl (Y_assign rfl rfl) ?_; clear hf; intro a hf
     refine wpO_nil ?_
     refine wpL_nil (then_normal ?_)
     exact ⟨r26, Option.some.inj hj16, (FrD.pick hf.none hf rfl), hs.sel [] (by decide)⟩
    ·have hj16 := bif_f hj16 hb25
     refine sNo hf rfl rfl rfl (congrArg (fun b => some (Value.bool b)) hb25) rfl rfl rfl ?_; clear hf; intro a hf
     refine sNo hf rfl rfl rfl (congrArg (fun b => some (Value.bool b)) hb25) rfl rfl rfl ?_; clear hf; intro a hf
     refine sNo hf rfl rfl rfl (congrArg (fun b => some (Value.bool b)) hb25) rfl rfl rfl ?_; clear hf; intro a hf
     refine sY hf hs rfl rfl rfl (Y_pickF rfl (congrArg (fun b => some (Value.bool b)) hb25) rfl) ?_; clear hf; intro a hf
     refine sY hf hs rfl rfl rfl (Y_assign rfl rfl) ?_; clear hf; intro a hf
     refine wpO_nil ?_
     refine wpL_nil (then_normal ?_)
     exact ⟨false, Option.some.inj hj16, (FrD.pick hf.none hf rfl), hs.sel [] (by decide)⟩
   ·have hj16 := bif_f hj16 hb22
    refine sNo hf rfl rfl rfl (congrArg (fun b => some (Value.bool b)) hb22) rfl rfl rfl ?_; clear hf; intro a hf
    refine sNo hf rfl rfl rfl (congrArg (fun b => some (Value.bool b)) hb22) rfl rfl rfl ?_; clear hf; intro a hf
    refine sNo hf rfl rfl rfl (congrArg (fun b => some (Value.bool b)) hb22) rfl rfl rfl ?_; clear hf; intro a hf
    refine sY hf hs rfl rfl rfl (Y_pickF rfl (congrArg (fun b => some (Value.bool b)) hb22) rfl) ?_; clear hf; intro a hf
    refine sY hf hs rfl rfl rfl (Y_move rfl rfl) ?_; clear hf; intro a hf
    refine sNo hf rfl rfl rfl rfl rfl rfl rfl ?_; clear hf; intro a hf
    refine sNo hf rfl rfl rfl rfl rfl rfl rfl ?_; clear hf; intro a hf
    refine sNo hf rfl rfl rfl rfl rfl rfl rfl ?_; clear hf; intro a hf
    refine sY hf hs rfl rfl rfl (Y_pickF rfl rfl rfl) ?_; clear hf; intro a hf
    refine sY hf hs rfl rfl rfl (Y_assign rfl rfl) ?_; clear hf; intro a hf
    refine wpO_nil ?_
    refine wpL_nil (then_normal ?_)
    exact ⟨false, Option.some.inj hj16, (FrD.pick hf.none hf rfl), hs.sel [] (by decide)⟩
  ·have hj16 := bif_f hj16 hb19
   refine sNo hf rfl rfl rfl (congrArg (fun b => some (Value.bool b)) hb19) rfl rfl rfl ?_; clear hf; intro a hf
   refine sNo hf rfl rfl rfl (congrArg (fun b => some (Value.bool b)) hb19) rfl rfl rfl ?_; clear hf; intro a hf
   refine sNo hf rfl rfl rfl (congrArg (fun b => some (Value.bool b)) hb19) rfl rfl rfl ?_; clear hf; intro a hf
   refine sNo hf rfl rfl rfl (congrArg (fun b => some (Value.bool b)) hb19) rfl rfl rfl ?_; clear hf; intro a hf
   refine sY hf hs rfl rfl rfl (Y_pickF rfl (congrArg (fun b => some (Value.bool b)) hb19) rfl) ?_; clear hf; intro a hf
   refine sY hf hs rfl rfl rfl (Y_move rfl rfl) ?_; clear hf; intro a hf
   refine sNo hf rfl rfl rfl rfl rfl rfl rfl ?_; clear hf; intro a hf
   refine sNo hf rfl rfl rfl rfl rfl rfl rfl ?_; clear hf; intro a hf
   refine sNo hf rfl rfl rfl rfl rfl rfl rfl ?_; clear hf; intro a hf
   refine sY hf hs rfl rfl rfl (Y_pickF rfl rfl rfl) ?_; clear hf; intro a hf
   refine sY hf hs rfl rfl rfl (Y_move rfl rfl) ?_; clear hf; intro a hf
   refine sNo hf rfl rfl rfl rfl rfl rfl rfl ?_; clear hf; intro a hf
   refine sNo hf rfl rfl rfl rfl rfl rfl rfl ?_; clear hf; intro a hf
   refine sNo hf rfl rfl rfl rfl rfl rfl rfl ?_; clear hf; intro a hf
   refine sY hf hs rfl rfl rfl (Y_pickF rfl rfl rfl) ?_; clear hf; intro a hf
   refine sY hf hs rfl rfl rfl (Y_assign rfl rfl) ?_; clear hf; intro a hf
   refine wpO_nil ?_
   refine wpL_nil (then_normal ?_)
   exact ⟨false, Option.some.inj hj16, (FrD.pick hf.none hf rfl), hs.sel [] (by decide)⟩
 ·rintro a w ⟨b14, hr_, hf, hs⟩
  subst hr_
  try dsimp only at hm
  obtain rfl := Option.some.inj hm
  refine wpL_ret (ret_tmp rfl hf rfl ?_)
  exact ⟨_, rfl, rfl, hs⟩

set_option maxRecDepth 100000 in
theorem impl_IsEventGraph_c1_ok (F : Nat) (ao : GPlace) (b_z0 : Nat) (z0 : GEventGraph) (A_z0_1 : Option Addr) (n_z0_1 c_z0_1 : Nat) (hn_z0_1 : n_z0_1 = z0.Places.length) (r : Bool) (W : World) (hm : impl_IsEventGraph_c1 F ao z0 = some r) (h_z0_1 : Rd W A_z0_1 ((recs GPlace.cells) z0.Places)) (h_z0 : PB W b_z0 59 [.int .i64 z0.Events, .slice A_z0_1 n_z0_1 c_z0_1]) :
  Calls Try.prog 139 [.agg #[.int .i64 ao.From, .int .i64 ao.To, .int .i64 ao.Delay, .int .i64 ao.Tokens], .pointer (some ⟨b_z0, 0, none⟩)].toArray W fun e w' => ∃ v, e = .returned v ∧ v = .bool r ∧ St [] W w' [] := by
 subst hn_z0_1
 unfold impl_IsEventGraph_c1 at hm
 refine Calls.enter (N := 8) Try.func139 rfl rfl rfl (fun a hf => ?_)
 have hs := St.start W
 obtain ⟨w, hw_⟩ : ∃ w, w = W := ⟨W, rfl⟩
 clear hw_ w
 refine wpL_seq <| wpL_region ?_
 refine sBox hf hs rfl rfl rfl rfl rfl (cs := [.int .i64 ao.From, .int .i64 ao.To, .int .i64 ao.Delay, .int .i64 ao.Tokens]) rfl ?_; clear hf hs; intro a w b1 hs hf
 have hs : St [] W w [.blk b1 127 [.int .i64 ao.From, .int .i64 ao.To, .int .i64 ao.Delay, .int .i64 ao.Tokens]] := hs
 refine sY hf hs rfl rfl rfl (Y_assign rfl rfl) ?_; clear hf; intro a hf
 refine wpO_nil <| wpL_seq <| wpL_region ?_
 refine sY hf hs rfl rfl rfl (Y_load_pbS rfl rfl h_z0 ag59 ti59 rfl) ?_; clear hf; intro a hf
 refine sY hf hs rfl rfl rfl (Y_load_blkS rfl rfl (i := 0) rfl ag127 ti127 rfl) ?_; clear hf; intro a hf
 obtain ⟨r2, hc3, hm⟩ := bind_some hm
 refine sCall hf rfl rfl rfl rfl (cap := []) rfl rfl en140 (impl_isPlace_ok F z0 A_z0_1 z0.Places.length c_z0_1 rfl ao _ _ hc3 (h_z0_1.at hs)) ?_; clear hf
 rintro _ w ⟨rfl, hs1⟩ a hf
 have hs : St [] W w [.blk b1 127 [.int .i64 ao.From, .int .i64 ao.To, .int .i64 ao.Delay, .int .i64 ao.Tokens]] := hs.ext hs1.below
 clear hs1
 refine sY hf hs rfl rfl rfl (Y_not rfl rfl) ?_; clear hf; intro a hf
 refine sY hf hs rfl rfl rfl (Y_assign rfl rfl) ?_; clear hf; intro a hf
 refine wpO_nil ?_
 obtain rfl := Option.some.inj hm
 refine wpL_ret (ret_tmp rfl hf rfl ?_)
 exact ⟨_, rfl, rfl, hs.sel [] (by decide)⟩

set_option maxRecDepth 100000 in
theorem slices_IndexFunc_Place_ok (F : Nat) (aE : List GPlace) (au : Option Addr) (aK aA : Nat) (aV : aK = aE.length) (bE : GPlace → Option Bool) (bo : FuncId) (bz : List Value) (r : Int) (W : World) (hm : slices_IndexFunc_Place F aE bE = some r) (aS : Rd W au ((recs GPlace.cells) aE)) (cx : ∀ (x0 : GPlace) (r : Bool) (w : World), bE x0 = some r → Below W.heap.size W w → Calls Try.prog bo (([.agg #[.int .i64 x0.From, .int .i64 x0.To, .int .i64 x0.Delay, .int .i64 x0.Tokens]] : List Value) ++ bz).toArray w fun e w' => ∃ v, e = .returned v ∧ v = .bool r ∧ St [] w w' []) (cz : En Try.prog bo) :
  Calls Try.prog 173 [.slice au aK aA, .func (.func bo) #[] bz.toArray].toArray W fun e w' => ∃ v, e = .returned v ∧ v = .int .i64 r ∧ St [] W w' [] := by
 subst aV
 unfold slices_IndexFunc_Place at hm
 refine Calls.enter (N := 19) Try.func173 rfl rfl rfl (fun a hf => ?_)
 have hs := St.start W
 obtain ⟨w, hw_⟩ : ∃ w, w = W := ⟨W, rfl⟩
 clear hw_ w
 refine wpL_seq <| wpL_region ?_
 refine sY hf hs rfl rfl rfl (Y_assign rfl rfl) ?_; clear hf; intro a hf
 refine wpO_nil <| wpL_seq <| wpL_seq <| wpL_region ?_
 refine sY hf hs rfl rfl rfl (Y_move rfl rfl) ?_; clear hf; intro a hf
 refine sY hf hs rfl rfl rfl (Y_lenH rfl rfl el57 rfl) ?_; clear hf; intro a hf
 refine sY hf hs rfl rfl rfl (Y_move rfl rfl) ?_; clear hf; intro a hf
 refine wpO_nil ?_
 obtain ⟨r21, hl22, hm⟩ := bind_some hm
 refine wpL_block (fun a w => Sum.inr () = r21 ∧ Fr a 19 [] ∧ St [] W w []) ?_ ?_
 ·refine wpL_loop (fun n a w => ∃ x14 : Int, slices_IndexFunc_Place_L1 F aE bE n x14 = some r21 ∧ Fr a 19 [(0, .slice au aE.length aA), (1, .func (.func bo) #[] bz.toArray), (7, .int .i64 (aE.length : Int)), (8, .int .i64 x14)] ∧ St [] W w []) F ?_ ?_ ?_
  ·exact ⟨0, hl22, (FrD.pick (FrD.pick (FrD.pick (FrD.pick hf.none hf rfl) hf rfl) hf rfl) hf rfl), hs⟩
  ·rintro a w ⟨x14, h0_, -, -⟩; simp [slices_IndexFunc_Place_L1] at h0_
  ·rintro n24 a w ⟨x14, hm23, hf, hs⟩
   rw [slices_IndexFunc_Place_L1] at hm23
   refine wpL_seq <| wpL_region ?_
   refine sY hf hs rfl rfl rfl (Y_lss rfl rfl rfl) ?_; clear hf; intro a hf
   refine wpO_nil <| wpL_seq ?_
   refine wpL_cond hf rfl (fun hb25 => ?_) (fun hb25 => ?_)
   ·have hm23 := bif_t hm23 hb25
    refine wpL_skip <| wpL_seq <| wpL_block0 <| wpL_seq <| wpL_region ?_
    refine sY hf hs rfl rfl rfl (Y_move rfl rfl) ?_; clear hf; intro a hf
    refine sY hf hs rfl rfl rfl (Y_assign rfl rfl) ?_; clear hf; intro a hf
    refine wpO_nil <| wpL_seq <| wpL_region ?_
    refine sY hf hs rfl rfl rfl (Y_move rfl rfl) ?_; clear hf; intro a hf
    refine sY hf hs rfl rfl rfl (Y_move rfl rfl) ?_; clear hf; intro a hf
    refine sY hf hs rfl rfl rfl (Y_move rfl rfl) ?_; clear hf; intro a hf
    obtain ⟨q26, hi27, hm23⟩ := bind_some hm23
    obtain ⟨hi27a, hi27b, hi27q⟩ := idx_some hi27
    refine sY hf hs rfl rfl rfl (Y_index rfl rfl rfl el57 ti127 (Rd.isAt (aS.at hs) (recs_at (s := 4) GPlace.len hi27q (j := 0) rfl)) hi27a hi27b) ?_; clear hf; intro a hf
    refine sY hf hs rfl rfl rfl (Y_load_rdS rfl rfl (us := [.int .i64 q26.From, .int .i64 q26.To, .int .i64 q26.Delay, .int .i64 q26.Tokens]) (fun w hs => aS.at hs) (fun j u hj => recs_at (s := 4) GPlace.len hi27q hj) (Nat.succ_pos _) ag127 ti127 rfl) ?_; clear hf; intro a hf
    obtain ⟨r28, hc29, hm23⟩ := bind_some hm23
    refine sCall hf rfl rfl rfl rfl (cap := bz) rfl rfl cz (cx q26 _ _ hc29 hs.below) ?_; clear hf; rintro _ w ⟨rfl, hs1⟩ a hf; have hs := hs.ext hs1.below; clear hs1
    refine wpO_nil ?_
    refine wpL_cond hf rfl (fun hb30 => ?_) (fun hb30 => ?_)
    ·have hm23 := bif_t hm23 hb30
     refine wpL_seq <| wpL_region ?_
     refine sY hf hs rfl rfl rfl (Y_move rfl rfl) ?_; clear hf; intro a hf
     refine sY hf hs rfl rfl rfl (Y_assign rfl rfl) ?_; clear hf; intro a hf
     refine wpO_nil ?_
     obtain rfl := Option.some.inj hm23
     try dsimp only at hm
     obtain rfl := Option.some.inj hm
     refine wpL_ret (Qb_ret (Ql_ret (Qb_ret (ret_tmp rfl hf rfl ?_))))
     exact ⟨_, rfl, rfl, hs⟩
    ·have hm23 := bif_f hm23 hb30
     refine wpL_skip ?_
     refine wpL_nil (Qb_normal ?_)
     refine wpL_region ?_
     refine sY hf hs rfl rfl rfl (Y_add rfl rfl rfl) ?_; clear hf; intro a hf
     refine sY hf hs rfl rfl rfl (Y_move rfl rfl) ?_; clear hf; intro a hf
     refine wpO_nil ?_
     refine wpL_nil (Ql_normal ?_)
     exact ⟨(IntKind.i64.wrap (x14 + 1)), hm23, (FrD.pick (FrD.pick (FrD.pick (FrD.pick hf.none hf rfl) hf rfl) hf rfl) hf rfl), hs⟩
   ·have hm23 := bif_f hm23 hb25
    refine wpL_exit (Ql_exit (Qb_exit ?_))
    exact ⟨Option.some.inj hm23, hf.none, hs⟩
 ·rintro a w ⟨hr_, hf, hs⟩
  subst hr_
  try dsimp only at hm
  refine wpL_seq <| wpL_region ?_
  refine sY hf hs rfl rfl rfl (Y_assign rfl rfl) ?_; clear hf; intro a hf
  refine wpO_nil ?_
  obtain rfl := Option.some.inj hm
  refine wpL_ret (ret_tmp rfl hf rfl ?_)
  exact ⟨_, rfl, rfl, hs⟩

set_option maxRecDepth 100000 in
theorem slices_ContainsFunc_Place_ok (F : Nat) (aE : List GPlace) (au : Option Addr) (aK aA : Nat) (aV : aK = aE.length) (bE : GPlace → Option Bool) (bo : FuncId) (bz : List Value) (r : Bool) (W : World) (hm : slices_ContainsFunc_Place F aE bE = some r) (aS : Rd W au ((recs GPlace.cells) aE)) (cx : ∀ (x0 : GPlace) (r : Bool) (w : World), bE x0 = some r → Below W.heap.size W w → Calls Try.prog bo (([.agg #[.int .i64 x0.From, .int .i64 x0.To, .int .i64 x0.Delay, .int .i64 x0.Tokens]] : List Value) ++ bz).toArray w fun e w' => ∃ v, e = .returned v ∧ v = .bool r ∧ St [] w w' []) (cz : En Try.prog bo) :
  Calls Try.prog 138 [.slice au aK aA, .func (.func bo) #[] bz.toArray].toArray W fun e w' => ∃ v, e = .returned v ∧ v = .bool r ∧ St [] W w' [] := by
 subst aV
 unfold slices_ContainsFunc_Place at hm
 refine Calls.enter (N := 9) Try.func138 rfl rfl rfl (fun a hf => ?_)
 have hs := St.start W
 obtain ⟨w, hw_⟩ : ∃ w, w = W := ⟨W, rfl⟩
 clear hw_ w
 refine wpL_seq <| wpL_region ?_
 refine sY hf hs rfl rfl rfl (Y_assign rfl rfl) ?_; clear hf; intro a hf
 refine wpO_nil <| wpL_seq <| wpL_region ?_
 refine sY hf hs rfl rfl rfl (Y_move rfl rfl) ?_; clear hf; intro a hf
 refine sY hf hs rfl rfl rfl (Y_move rfl rfl) ?_; clear hf; intro a hf
 obtain ⟨r1, hc2, hm⟩ := bind_some hm
 refine sCall hf rfl rfl rfl rfl (cap := []) rfl rfl en173 (slices_IndexFunc_Place_ok F aE au aE.length aA rfl bE bo bz _ _ hc2 (aS.at hs) (fun x0 r w' hm_ hb => cx x0 r w' hm_ (hs.below.trans (hb.mono hs.below.size))) cz) ?_; clear hf
 rintro _ w ⟨rfl, hs1⟩ a hf
 have hs : St [] W w [] := hs.ext hs1.below
 clear hs1
 refine sY hf hs rfl rfl rfl (Y_geq rfl rfl rfl) ?_; clear hf; intro a hf
 refine sY hf hs rfl rfl rfl (Y_assign rfl rfl) ?_; clear hf; intro a hf
 refine wpO_nil ?_
 obtain rfl := Option.some.inj hm
 refine wpL_ret (ret_tmp rfl hf rfl ?_)
 exact ⟨_, rfl, rfl, hs⟩

set_option maxRecDepth 100000 in
theorem impl_IsEventGraph_ok (F : Nat) (ab : GEventGraph) (ac : Option Addr) (ap ad : Nat) (ax : ap = ab.Places.length) (r : Bool) (W : World) (hm : impl_IsEventGraph F ab = some r) (aq : Rd W ac ((recs GPlace.cells) ab.Places)) :
  Calls Try.prog 51 [.agg #[.int .i64 ab.Events, .slice ac ap ad]].toArray W fun e w' => ∃ v, e = .returned v ∧ v = .bool r ∧ St [] W w' [] := by
 subst ax
 unfold impl_IsEventGraph at hm
 refine Calls.enter (N := 19) Try.func51 rfl rfl rfl (fun a hf => ?_)
 have hs := St.start W
 obtain ⟨w, hw_⟩ : ∃ w, w = W := ⟨W, rfl⟩
 clear hw_ w
 refine wpL_seq <| wpL_region ?_
 refine sBox hf hs rfl rfl rfl rfl rfl (cs := [.int .i64 ab.Events, .slice ac ab.Places.length ad]) rfl ?_; clear hf hs; intro a w b1 hs hf
 have hs : St [] W w [.blk b1 59 [.int .i64 ab.Events, .slice ac ab.Places.length ad]] := hs
 refine sY hf hs rfl rfl rfl (Y_assign rfl rfl) ?_; clear hf; intro a hf
 refine wpO_nil <| wpL_seq ?_
 obtain ⟨r9, hj10, hm⟩ := bind_some hm
 refine wpL_cut (fun a w => ∃ b8 : Bool, b8 = r9 ∧ Fr a 19 [(2, .bool b8)] ∧ St [] W w []) ?_ ?_
 ·refine wpL_region ?_
  refine sY hf hs rfl rfl rfl (Y_fieldAddr rfl rfl fo59_0) ?_; clear hf; intro a hf
  refine sY hf hs rfl rfl rfl (Y_load_blk rfl rfl (i := 0) rfl rfl ag2) ?_; clear hf; intro a hf
  obtain ⟨r11, hc12, hj10⟩ := bind_some hj10
  refine sCall hf rfl rfl rfl rfl (cap := []) rfl rfl en105 (impl_within_ok F ab.Events 1 10 _ _ hc12) ?_; clear hf
  rintro _ w ⟨rfl, hs1⟩ a hf
  have hs : St [] W w [.blk b1 59 [.int .i64 ab.Events, .slice ac ab.Places.length ad]] := hs.ext hs1.below
  clear hs1
  refine sY hf hs rfl rfl rfl (Y_move rfl rfl) ?_; clear hf; intro a hf
  refine bsplit r11 (fun hb13 => ?_) (fun hb13 => ?_)
  ·have hj10 := bif_t hj10 hb13
   refine sYg hf hs rfl rfl rfl (congrArg (fun b => some (Value.bool b)) hb13) rfl rfl rfl (Y_fieldAddr rfl rfl fo59_1) ?_; clear hf; intro a hf
   refine sYg hf hs rfl rfl rfl (congrArg (fun b => some (Value.bool b)) hb13) rfl rfl rfl (Y_load_blk rfl rfl (i := 0) rfl rfl ag57) ?_; clear hf; intro a hf
   refine sYg hf hs rfl rfl rfl (congrArg (fun b => some (Value.bool b)) hb13) rfl rfl rfl (Y_lenH rfl rfl el57 rfl) ?_; clear hf; intro a hf
   refine sYg hf hs rfl rfl rfl (congrArg (fun b => some (Value.bool b)) hb13) rfl rfl rfl (Y_leq rfl rfl rfl) ?_; clear hf; intro a hf
   refine sY hf hs rfl rfl rfl (Y_pickT rfl (congrArg (fun b => some (Value.bool b)) hb13) rfl) ?_; clear hf; intro a hf
   refine sY hf hs rfl rfl rfl (Y_move rfl rfl) ?_; clear hf; intro a hf
   refine bsplit (decide ((ab.Places.length : Int) ≤ 30)) (fun hb14 => ?_) (fun hb14 => ?_)
   ·have hj10 := bif_t hj10 hb14
    refine sYg hf hs rfl rfl rfl (congrArg (fun b => some (Value.bool b)) hb14) rfl rfl rfl (Y_fieldAddr rfl rfl fo59_1) ?_; clear hf; intro a hf
    refine sYg hf hs rfl rfl rfl (congrArg (fun b => some (Value.bool b)) hb14) rfl rfl rfl (Y_load_blk rfl rfl (i := 0) rfl rfl ag57) ?_; clear hf; intro a hf
    refine sYg hf hs rfl rfl rfl (congrArg (fun b => some (Value.bool b)) hb14) rfl rfl rfl (Y_makeFunc (us := []) (vs := [.pointer (some ⟨b1, 0, none⟩)]) rfl rfl rfl) ?_; clear hf; intro a hf
    obtain ⟨r15, hc16, hj10⟩ := bind_some hj10
    refine sCallg hf rfl rfl rfl (congrArg (fun b => some (Value.bool b)) hb14) rfl rfl rfl rfl (cap := []) rfl rfl en138 (slices_ContainsFunc_Place_ok F ab.Places ac ab.Places.length ad rfl (fun x0 => impl_IsEventGraph_c1 F x0 ab) 139 ([.pointer (some ⟨b1, 0, none⟩)]) _ _ hc16 (aq.at hs) (fun x0 r w' hm_ hb => impl_IsEventGraph_c1_ok F x0 b1 ab ac ab.Places.length ad rfl r w' hm_ ((aq.at hs).below hb (Nat.le_refl _)) ((hs.pb (i := 0) rfl).below hb (Nat.le_refl _))) en139) ?_; clear hf
    rintro _ w ⟨rfl, hs1⟩ a hf
    have hs : St [] W w [.blk b1 59 [.int .i64 ab.Events, .slice ac ab.Places.length ad]] := hs.ext hs1.below
    clear hs1
    refine sYg hf hs rfl rfl rfl (congrArg (fun b => some (Value.bool b)) hb14) rfl rfl rfl (Y_not rfl rfl) ?_; clear hf; intro a hf
    refine sY hf hs rfl rfl rfl (Y_pickT rfl (congrArg (fun b => some (Value.bool b)) hb14) rfl) ?_; clear hf; intro a hf
    refine sY hf hs rfl rfl rfl (Y_assign rfl rfl) ?_; clear hf; intro a hf
    refine wpO_nil ?_
    refine wpL_nil (then_normal ?_)
    exact ⟨(!r15), Option.some.inj hj10, (FrD.pick hf.none hf rfl), hs.sel [] (by decide)⟩
   ·have hj10 := bif_f hj10 hb14
    refine sNo hf rfl rfl rfl (congrArg (fun b => some (Value.bool b)) hb14) rfl rfl rfl ?_; clear hf; intro a hf
    refine sNo hf rfl rfl rfl (congrArg (fun b => some (Value.bool b)) hb14) rfl rfl rfl ?_; clear hf; intro a hf
    refine sNo hf rfl rfl rfl (congrArg (fun b => some (Value.bool b)) hb14) rfl rfl rfl ?_; clear hf; intro a hf
    refine sNo hf rfl rfl rfl (congrArg (fun b => some (Value.bool b)) hb14) rfl rfl rfl ?_; clear hf; intro a hf
    refine sNo hf rfl rfl rfl (congrArg (fun b => some (Value.bool b)) hb14) rfl rfl rfl ?_; clear hf; intro a hf
    refine sY hf hs rfl rfl rfl (Y_pickF rfl (congrArg (fun b => some (Value.bool b)) hb14) rfl) ?_; clear hf; intro a hf
    refine sY hf hs rfl rfl rfl (Y_assign rfl rfl) ?_; clear hf; intro a hf
    refine wpO_nil ?_
    refine wpL_nil (then_normal ?_)
    exact ⟨false, Option.some.inj hj10, (FrD.pick hf.none hf rfl), hs.sel [] (by decide)⟩
  ·have hj10 := bif_f hj10 hb13
   refine sNo hf rfl rfl rfl (congrArg (fun b => some (Value.bool b)) hb13) rfl rfl rfl ?_; clear hf; intro a hf
   refine sNo hf rfl rfl rfl (congrArg (fun b => some (Value.bool b)) hb13) rfl rfl rfl ?_; clear hf; intro a hf
   refine sNo hf rfl rfl rfl (congrArg (fun b => some (Value.bool b)) hb13) rfl rfl rfl ?_; clear hf; intro a hf
   refine sNo hf rfl rfl rfl (congrArg (fun b => some (Value.bool b)) hb13) rfl rfl rfl ?_; clear hf; intro a hf
   refine sY hf hs rfl rfl rfl (Y_pickF rfl (congrArg (fun b => some (Value.bool b)) hb13) rfl) ?_; clear hf; intro a hf
   refine sY hf hs rfl rfl rfl (Y_move rfl rfl) ?_; clear hf; intro a hf
   refine sNo hf rfl rfl rfl rfl rfl rfl rfl ?_; clear hf; intro a hf
   refine sNo hf rfl rfl rfl rfl rfl rfl rfl ?_; clear hf; intro a hf
   refine sNo hf rfl rfl rfl rfl rfl rfl rfl ?_; clear hf; intro a hf
   refine sNo hf rfl rfl rfl rfl rfl rfl rfl ?_; clear hf; intro a hf
   refine sNo hf rfl rfl rfl rfl rfl rfl rfl ?_; clear hf; intro a hf
   refine sY hf hs rfl rfl rfl (Y_pickF rfl rfl rfl) ?_; clear hf; intro a hf
   refine sY hf hs rfl rfl rfl (Y_assign rfl rfl) ?_; clear hf; intro a hf
   refine wpO_nil ?_
   refine wpL_nil (then_normal ?_)
   exact ⟨false, Option.some.inj hj10, (FrD.pick hf.none hf rfl), hs.sel [] (by decide)⟩
 ·rintro a w ⟨b8, hr_, hf, hs⟩
  subst hr_
  try dsimp only at hm
  obtain rfl := Option.some.inj hm
  refine wpL_ret (ret_tmp rfl hf rfl ?_)
  exact ⟨_, rfl, rfl, hs⟩

set_option maxRecDepth 100000 in
theorem slices_Clone_Place_ok (F : Nat) (aE : List GPlace) (au : Option Addr) (aK aA : Nat) (aV : aK = aE.length) (r : List GPlace) (W : World) (hm : slices_Clone_Place F aE = some r) (aS : Rd W au ((recs GPlace.cells) aE)) :
  Calls Try.prog 171 [.slice au aK aA].toArray W fun e w' => ∃ v, e = .returned v ∧ ∃ A7, ∃ n8, ∃ c9, v = .slice A7 n8 c9 ∧ n8 = r.length ∧ St [] W w' [.row A7 n8 c9 127 4 ((recs GPlace.cells) r)] := by
 subst aV
 cases au with
 | none =>
  obtain rfl : aE = [] := rd_none_recs GPlace.len (by decide) aS
  have hm : some ([] : List GPlace) = some r := hm
  refine Calls.enter (N := 8) Try.func171 rfl rfl rfl (fun a hf => ?_)
  have hs := St.start W
  obtain ⟨w, hw_⟩ : ∃ w, w = W := ⟨W, rfl⟩
  clear hw_ w
  refine wpL_seq <| wpL_region ?_
  refine sY hf hs rfl rfl rfl (Y_assign rfl rfl) ?_; clear hf; intro a hf
  refine wpO_nil <| wpL_seq <| wpL_seq <| wpL_region ?_
  refine sY hf hs rfl rfl rfl (Y_move rfl rfl) ?_; clear hf; intro a hf
  refine sY hf hs rfl rfl rfl (Y_eqnil rfl rfl rfl un57) ?_; clear hf; intro a hf
  refine wpO_nil ?_
  refine wpL_cond hf rfl (fun _ => ?_) (fun e => absurd e (by decide))
  refine wpL_seq <| wpL_region ?_
  refine sY hf hs rfl rfl rfl (Y_assign rfl rfl) ?_; clear hf; intro a hf
  refine wpO_nil ?_
  have hs : St [] W _ [.row none 0 0 127 4 ((recs GPlace.cells) ([] : List GPlace))] := hs.addNil 127 4
  obtain rfl := Option.some.inj hm
  refine wpL_ret (ret_tmp rfl hf rfl ?_)
  exact ⟨_, rfl, none, 0, 0, rfl, rfl, hs⟩
 | some a_ =>
  unfold slices_Clone_Place at hm
  refine Calls.enter (N := 8) Try.func171 rfl rfl rfl (fun a hf => ?_)
  have hs := St.start W
  obtain ⟨w, hw_⟩ : ∃ w, w = W := ⟨W, rfl⟩
  clear hw_ w
  refine wpL_seq <| wpL_region ?_
  refine sY hf hs rfl rfl rfl (Y_assign rfl rfl) ?_; clear hf; intro a hf
  refine wpO_nil <| wpL_seq <| wpL_seq <| wpL_region ?_
  refine sY hf hs rfl rfl rfl (Y_move rfl rfl) ?_; clear hf; intro a hf
  refine sY hf hs rfl rfl rfl (Y_eqnil rfl rfl rfl un57) ?_; clear hf; intro a hf
  refine wpO_nil ?_
  refine wpL_cond hf rfl (fun e => absurd e Bool.false_ne_true) (fun _ => ?_)
  refine wpL_skip <| wpL_seq <| wpL_region ?_
  refine sEmpty hf hs rfl rfl rfl rfl el57 ti127 ?_; clear hf hs; intro a w A1 hs hf
  have hs : St [] W w [.row A1 0 0 127 4 ((recs GPlace.cells) ([] : List GPlace))] := hs
  refine sY hf hs rfl rfl rfl (Y_move rfl rfl) ?_; clear hf; intro a hf
  obtain ⟨xs5, ha6, hm⟩ := bind_some hm
  refine sAppendG (i := 0) (xs := ([] : List GPlace)) (ys := aE) (enc := (recs GPlace.cells)) hf hs rfl rfl rfl rfl rfl rfl rfl rfl rfl ha6 el57 ti127 rfl rfl rfl (aS.at hs) (recs_length GPlace.len) (recs_append GPlace.cells) (recs_one GPlace.one) ?_; clear hf hs; intro a w A3 c4 hs hf
  have hs : St [] W w [.row A3 xs5.length c4 127 4 ((recs GPlace.cells) xs5)] := hs
  refine sY hf hs rfl rfl rfl (Y_assign rfl rfl) ?_; clear hf; intro a hf
  refine wpO_nil ?_
  obtain rfl := Option.some.inj hm
  refine wpL_ret (ret_tmp rfl hf rfl ?_)
  exact ⟨_, rfl, A3, xs5.length, c4, rfl, rfl, hs⟩

set_option maxRecDepth 100000 in
theorem impl_cloneGraph_ok (F : Nat) (ab : GEventGraph) (ac : Option Addr) (ap ad : Nat) (ax : ap = ab.Places.length) (r : GEventGraph) (W : World) (hm : impl_cloneGraph F ab = some r) (aq : Rd W ac ((recs GPlace.cells) ab.Places)) :
  Calls Try.prog 126 [.agg #[.int .i64 ab.Events, .slice ac ap ad]].toArray W fun e w' => ∃ v, e = .returned v ∧ ∃ A15, ∃ n16, ∃ c17, v = .agg #[.int .i64 r.Events, .slice A15 n16 c17] ∧ n16 = r.Places.length ∧ St [] W w' [.row A15 n16 c17 127 4 ((recs GPlace.cells) r.Places)] := by
 subst ax
 unfold impl_cloneGraph at hm
 refine Calls.enter (N := 9) Try.func126 rfl rfl rfl (fun a hf => ?_)
 have hs := St.start W
 obtain ⟨w, hw_⟩ : ∃ w, w = W := ⟨W, rfl⟩
 clear hw_ w
 refine wpL_seq <| wpL_region ?_
 refine sBox hf hs rfl rfl rfl rfl rfl (cs := [.int .i64 ab.Events, .slice ac ab.Places.length ad]) rfl ?_; clear hf hs; intro a w b1 hs hf
 have hs : St [] W w [.blk b1 59 [.int .i64 ab.Events, .slice ac ab.Places.length ad]] := hs
 refine sAlloc hf hs rfl rfl rfl rfl ti59 ?_; clear hf hs; intro a w b2 hs hf
 have hs : St [] W w [.blk b1 59 [.int .i64 ab.Events, .slice ac ab.Places.length ad], .blk b2 59 [.int .i64 0, .slice none 0 0]] := hs
 refine wpO_nil <| wpL_seq ?_
 refine wpL_drawM [.blk b1 59 [.int .i64 ab.Events, .slice ac ab.Places.length ad], .blk b2 59 [.int .i64 0, .slice none 0 0]] [6] (by kernel_rfl) hs ?_; clear hs; intro w hs
 have hs0 : St [] W w [.blk b1 59 [.int .i64 ab.Events, .slice ac ab.Places.length ad], .blk b2 59 [.int .i64 0, .slice none 0 0]] := hs
 refine mYp (i := 0) rfl (by kernel_rfl) (by kernel_rfl) hf rfl rfl rfl (fun _ => Y_fieldAddr rfl rfl fo59_0) ?_; clear hf; intro a hf
 refine mY (i := 1) [[]] rfl (by kernel_rfl) (by kernel_rfl) hf hs0 rfl rfl rfl (Y_load_blk rfl rfl (i := 0) rfl rfl ag2) ?_; clear hf; intro a hf
 refine mYp (i := 2) rfl (by kernel_rfl) (by kernel_rfl) hf rfl rfl rfl (fun _ => Y_fieldAddr rfl rfl fo59_1) ?_; clear hf; intro a hf
 refine mY (i := 3) [[]] rfl (by kernel_rfl) (by kernel_rfl) hf hs0 rfl rfl rfl (Y_load_blk rfl rfl (i := 0) rfl rfl ag57) ?_; clear hf; intro a hf
 refine mRun (i := 4) rfl (by kernel_rfl) ?_
 obtain ⟨r9, hc10, hm⟩ := bind_some hm
 refine sCall hf rfl rfl rfl rfl (cap := []) rfl rfl en171 (slices_Clone_Place_ok F ab.Places ac ab.Places.length ad rfl _ _ hc10 (aq.at hs)) ?_; clear hf
 rintro _ w ⟨A11, n12, c13, rfl, hn14, hs1⟩ a hf
 have hs : St [] W w [.blk b1 59 [.int .i64 ab.Events, .slice ac ab.Places.length ad], .blk b2 59 [.int .i64 0, .slice none 0 0], .row A11 n12 c13 127 4 ((recs GPlace.cells) r9)] := hs.join hs1
 clear hs1
 have hs0 : St [] W w [.blk b1 59 [.int .i64 ab.Events, .slice ac ab.Places.length ad], .blk b2 59 [.int .i64 0, .slice none 0 0]] := hs.sel [0, 1] (by decide)
 refine wpO_nil ⟨Or.inr (fun _ => hs0), ?_⟩
 refine mYp (i := 5) rfl (by kernel_rfl) (by kernel_rfl) hf rfl rfl rfl (fun _ => Y_build (parts := [(0, .tmp 4), (1, .tmp 7)]) (vs := [.int .i64 ab.Events, .slice A11 n12 c13]) rfl rfl (run_build (parts := [(0, .int .i64 ab.Events), (1, .slice A11 n12 c13)]) (cells := [.int .i64 ab.Events, .slice A11 n12 c13]) (places := #[(0, 1), (1, 1)]) ti59 Try.underlying59 (fun w => by simp [go_sem]) rfl)) ?_; clear hf; intro a hf
 refine mRun (i := 6) rfl (by kernel_rfl) ?_
 refine sStore (i := 1) (us := [.int .i64 ab.Events, .slice A11 n12 c13]) hf hs rfl rfl rfl rfl rfl rfl ti59 rfl rfl rfl (Nat.le_of_ble_eq_true rfl) rfl ?_; clear hs; intro w hs
 have hs : St [] W w [.blk b1 59 [.int .i64 ab.Events, .slice ac ab.Places.length ad], .blk b2 59 [.int .i64 ab.Events, .slice A11 n12 c13], .row A11 n12 c13 127 4 ((recs GPlace.cells) r9)] := hs
 refine wpO_nil ⟨Or.inl (by decide), ?_⟩
 refine mDone (by kernel_rfl) ?_
 clear hs0
 obtain rfl := Option.some.inj hm
 refine wpL_ret (ret_cell rfl hf rfl hs (i := 1) rfl ag59 ti59 rfl ?_)
 exact ⟨_, rfl, A11, n12, c13, rfl, hn14, hs.sel [2] (by decide)⟩

end Go.Proofs.Ytgkgimglgjfcjaa
