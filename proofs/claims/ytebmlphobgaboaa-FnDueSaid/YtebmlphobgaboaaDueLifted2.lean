/- The functions do what their models say. -/
import Derived.Test.YtebmlphobgaboaaDueLifted1
import Derived.Test.YtebmlphobgaboaaRows
namespace Go.Proofs.Ytebmlphobgaboaa
open Go.RowKit

set_option maxRecDepth 100000 in
theorem spec_l01Has_ok (F : Nat) (aO : List Int) (aN : Option Addr) (aW aX : Nat) (bp : aW = aO.length) (cQ : Int) (r : Bool) (W : World) (hm : spec_l01Has F aO cQ = some r) (bc : Rd W aN (ints aO)) :
  Calls Try.prog 188 [.slice aN aW aX, .int .i64 cQ].toArray W fun e w' => ∃ v, e = .returned v ∧ v = .bool r ∧ St [] W w' [] := by
 subst bp
 unfold spec_l01Has at hm
 refine Calls.enter (N := 18) Try.func188 rfl rfl rfl (fun a hf => ?_)
 have hs := St.start W
 obtain ⟨w, hw_⟩ : ∃ w, w = W := ⟨W, rfl⟩
 clear hw_ w
 refine wpL_seq <| wpL_region ?_
 refine sY hf hs rfl rfl rfl (Y_assign rfl rfl) ?_; clear hf; intro a hf
 refine wpO_nil <| wpL_seq <| wpL_seq <| wpL_region ?_
 refine sY hf hs rfl rfl rfl (Y_assign rfl rfl) ?_; clear hf; intro a hf
 refine wpO_nil ?_
 obtain ⟨r15, hl16, hm⟩ := bind_some hm
 refine wpL_block (fun a w => Sum.inr () = r15 ∧ Fr a 18 [] ∧ St [] W w []) ?_ ?_
 ·refine wpL_loop (fun n a w => ∃ x10 : Int, spec_l01Has_L1 F aO cQ n x10 = some r15 ∧ Fr a 18 [(0, .slice aN aO.length aX), (1, .int .i64 cQ), (5, .int .i64 x10)] ∧ St [] W w []) F ?_ ?_ ?_
  ·exact ⟨0, hl16, (FrD.pick (FrD.pick (FrD.pick hf.none hf rfl) hf rfl) hf rfl), hs⟩
  ·rintro a w ⟨x10, h0_, -, -⟩; simp [spec_l01Has_L1] at h0_
  ·rintro n18 a w ⟨x10, hm17, hf, hs⟩
   rw [spec_l01Has_L1] at hm17
   refine wpL_seq <| wpL_seq <| wpL_region ?_
   refine sY hf hs rfl rfl rfl (Y_move rfl rfl) ?_; clear hf; intro a hf
   refine sY hf hs rfl rfl rfl (Y_move rfl rfl) ?_; clear hf; intro a hf
   refine sY hf hs rfl rfl rfl (Y_lenH rfl rfl el23 rfl) ?_; clear hf; intro a hf
   refine sY hf hs rfl rfl rfl (Y_lss rfl rfl rfl) ?_; clear hf; intro a hf
   refine wpO_nil ?_
   refine wpL_cond hf rfl (fun hb19 => ?_) (fun hb19 => ?_)
   ·have hm17 := bif_t hm17 hb19
    refine wpL_skip <| wpL_seq <| wpL_block0 <| wpL_seq <| wpL_region ?_
    refine sY hf hs rfl rfl rfl (Y_move rfl rfl) ?_; clear hf; intro a hf
    refine sY hf hs rfl rfl rfl (Y_move rfl rfl) ?_; clear hf; intro a hf
    obtain ⟨q20, hi21, hm17⟩ := bind_some hm17
    obtain ⟨hi21a, hi21b, hi21q⟩ := idx_some hi21
    refine sY hf hs rfl rfl rfl (Y_index rfl rfl rfl el23 ti2 (Rd.isAt (bc.at hs) (at1 (ints_at hi21q))) hi21a hi21b) ?_; clear hf; intro a hf
    refine sY hf hs rfl rfl rfl (Y_load_rd rfl rfl (fun w hs => bc.at hs) (at1 (ints_at hi21q)) ag2) ?_; clear hf; intro a hf
    refine sY hf hs rfl rfl rfl (Y_move rfl rfl) ?_; clear hf; intro a hf
    refine sY hf hs rfl rfl rfl (Y_eql rfl rfl rfl) ?_; clear hf; intro a hf
    refine wpO_nil ?_
    refine wpL_cond hf rfl (fun hb22 => ?_) (fun hb22 => ?_)
    ·have hm17 := bif_t hm17 hb22
     refine wpL_seq <| wpL_region ?_
     refine sY hf hs rfl rfl rfl (Y_assign rfl rfl) ?_; clear hf; intro a hf
     refine wpO_nil ?_
     obtain rfl := Option.some.inj hm17
     try dsimp only at hm
     obtain rfl := Option.some.inj hm
     refine wpL_ret (Qb_ret (Ql_ret (Qb_ret (ret_tmp rfl hf rfl ?_))))
     exact ⟨_, rfl, rfl, hs⟩
    ·have hm17 := bif_f hm17 hb22
     refine wpL_skip ?_
     refine wpL_nil (Qb_normal ?_)
     refine wpL_region ?_
     refine sY hf hs rfl rfl rfl (Y_move rfl rfl) ?_; clear hf; intro a hf
     refine sY hf hs rfl rfl rfl (Y_add rfl rfl rfl) ?_; clear hf; intro a hf
     refine sY hf hs rfl rfl rfl (Y_assign rfl rfl) ?_; clear hf; intro a hf
     refine wpO_nil ?_
     refine wpL_nil (Ql_normal ?_)
     exact ⟨(IntKind.i64.wrap (x10 + 1)), hm17, (FrD.pick (FrD.pick (FrD.pick hf.none hf rfl) hf rfl) hf rfl), hs⟩
   ·have hm17 := bif_f hm17 hb19
    refine wpL_exit (Ql_exit (Qb_exit ?_))
    exact ⟨Option.some.inj hm17, hf.none, hs⟩
 ·rintro a w ⟨hr_, hf, hs⟩
  subst hr_
  try dsimp only at hm
  refine wpL_seq <| wpL_region ?_
  refine sY hf hs rfl rfl rfl (Y_assign rfl rfl) ?_; clear hf; intro a hf
  refine wpO_nil ?_
  obtain rfl := Option.some.inj hm
  refine wpL_ret (ret_tmp rfl hf rfl ?_)
  exact ⟨_, rfl, rfl, hs⟩

set_option maxRecDepth 100000 in
theorem spec_l01Own_ok (F : Nat) (aO : List Int) (aN : Option Addr) (aW aX : Nat) (bp : aW = aO.length) (r : List Int) (W : World) (hm : spec_l01Own F aO = some r) (bc : Rd W aN (ints aO)) :
  Calls Try.prog 146 [.slice aN aW aX].toArray W fun e w' => ∃ v, e = .returned v ∧ ∃ A7, ∃ n8, ∃ c9, v = .slice A7 n8 c9 ∧ n8 = r.length ∧ St [] W w' [.row A7 n8 c9 2 1 (ints r)] := by
 subst bp
 unfold spec_l01Own at hm
 refine Calls.enter (N := 6) Try.func146 rfl rfl rfl (fun a hf => ?_)
 have hs := St.start W
 obtain ⟨w, hw_⟩ : ∃ w, w = W := ⟨W, rfl⟩
 clear hw_ w
 refine wpL_seq <| wpL_region ?_
 refine sY hf hs rfl rfl rfl (Y_assign rfl rfl) ?_; clear hf; intro a hf
 refine wpO_nil <| wpL_seq <| wpL_region ?_
 refine sEmpty hf hs rfl rfl rfl rfl el23 ti2 ?_; clear hf hs; intro a w A1 hs hf
 have hs : St [] W w [.row A1 0 0 2 1 (ints ([] : List Int))] := hs
 refine sY hf hs rfl rfl rfl (Y_move rfl rfl) ?_; clear hf; intro a hf
 obtain ⟨xs5, ha6, hm⟩ := bind_some hm
 refine sAppendG (i := 0) (xs := ([] : List Int)) (ys := aO) (enc := ints) hf hs rfl rfl rfl rfl rfl rfl rfl rfl rfl ha6 el23 ti2 rfl rfl rfl (bc.at hs) ints_len1 ints_append ints_one ?_; clear hf hs; intro a w A3 c4 hs hf
 have hs : St [] W w [.row A3 xs5.length c4 2 1 (ints xs5)] := hs
 refine sY hf hs rfl rfl rfl (Y_assign rfl rfl) ?_; clear hf; intro a hf
 refine wpO_nil ?_
 obtain rfl := Option.some.inj hm
 refine wpL_ret (ret_tmp rfl hf rfl ?_)
 exact ⟨_, rfl, A3, xs5.length, c4, rfl, rfl, hs⟩

set_option maxHeartbeats 2000000 in
set_option maxRecDepth 100000 in
theorem spec_l03Grow_step (F k_ : Nat) (ih_ : ∀ (p0 : List (List Int)) (ai : Option Addr) (aL aj : Nat) (_hn_p0_1 : aL = p0.length) (p1 : List Int) (aF : Option Addr) (aT aI : Nat) (_hn_p1_1 : aT = p1.length) (p2 : Int) (p3 : Int) (r : List Int) (W : World) (_hm : spec_l03Grow_rec F k_ p0 p1 p2 p3 = some r) (_h_p0_1 : RdM W ai p0) (_h_p1_1 : Rd W aF (ints p1)), Calls Try.prog 204 [.slice ai aL aj, .slice aF aT aI, .int .i64 p2, .int .i64 p3].toArray W fun e w' => ∃ v, e = .returned v ∧ ∃ A1851, ∃ n1852, ∃ c1853, ∃ A1854, ∃ n1855, ∃ c1856, ∃ ys1857, v = .slice A1851 n1852 c1853 ∧ n1852 = r.length ∧ Ei aF aT aI p1 A1854 n1855 c1856 ys1857 A1851 n1852 c1853 r ∧ St [] W w' [.row A1854 n1855 c1856 2 1 (ints ys1857)]) (p0 : List (List Int)) (ai : Option Addr) (aL aj : Nat) (bo : aL = p0.length) (p1 : List Int) (aF : Option Addr) (aT aI : Nat) (bG : aT = p1.length) (p2 : Int) (p3 : Int) (r : List Int) (W : World) (hm : spec_l03Grow_rec F (k_ + 1) p0 p1 p2 p3 = some r) (aJ : RdM W ai p0) (br : Rd W aF (ints p1)) :
  Calls Try.prog 204 [.slice ai aL aj, .slice aF aT aI, .int .i64 p2, .int .i64 p3].toArray W fun e w' => ∃ v, e = .returned v ∧ ∃ A1851, ∃ n1852, ∃ c1853, ∃ A1854, ∃ n1855, ∃ c1856, ∃ ys1857, v = .slice A1851 n1852 c1853 ∧ n1852 = r.length ∧ Ei aF aT aI p1 A1854 n1855 c1856 ys1857 A1851 n1852 c1853 r ∧ St [] W w' [.row A1854 n1855 c1856 2 1 (ints ys1857)] := by
 subst bo
 subst bG
 unfold spec_l03Grow_rec at hm
 refine Calls.enter (N := 86) Try.func204 rfl rfl rfl (fun a hf => ?_)
 have hs := St.start W
 obtain ⟨w, hw_⟩ : ∃ w, w = W := ⟨W, rfl⟩
 clear hw_ w
 refine wpL_seq <| wpL_region ?_
 refine sY hf hs rfl rfl rfl (Y_assign rfl rfl) ?_; clear hf; intro a hf
 refine wpO_nil <| wpL_seq ?_
 refine wpL_draw (by kernel_rfl) (by kernel_rfl) hs ?_
 refine qY hf rfl rfl rfl (Y_move rfl rfl) ?_; clear hf; intro a hf
 obtain ⟨q1, hi2, hm⟩ := bind_some hm
 obtain ⟨hi2a, hi2b, hi2q⟩ := idx_some hi2
 refine qY hf rfl rfl rfl (Y_index rfl rfl rfl el23 ti2 (Rd.isAt (br.at hs) (at1 (ints_at hi2q))) hi2a hi2b) ?_; clear hf; intro a hf
 refine qY hf rfl rfl rfl (Y_load_rd rfl rfl (fun w hs => br.at hs) (at1 (ints_at hi2q)) ag2) ?_; clear hf; intro a hf
 refine qY hf rfl rfl rfl (Y_move rfl rfl) ?_; clear hf; intro a hf
 refine qY hf rfl rfl rfl (Y_move rfl rfl) ?_; clear hf; intro a hf
 refine qY hf rfl rfl rfl (Y_lenH rfl rfl el23 rfl) ?_; clear hf; intro a hf
 refine qY hf rfl rfl rfl (Y_sub rfl rfl rfl) ?_; clear hf; intro a hf
 obtain ⟨q3, hi4, hm⟩ := bind_some hm
 obtain ⟨hi4a, hi4b, hi4q⟩ := idx_some hi4
 refine qY hf rfl rfl rfl (Y_index rfl rfl rfl el23 ti2 (Rd.isAt (br.at hs) (at1 (ints_at hi4q))) hi4a hi4b) ?_; clear hf; intro a hf
 refine qY hf rfl rfl rfl (Y_load_rd rfl rfl (fun w hs => br.at hs) (at1 (ints_at hi4q)) ag2) ?_; clear hf; intro a hf
 refine qY hf rfl rfl rfl (Y_assign rfl rfl) ?_; clear hf; intro a hf
 refine qY hf rfl rfl rfl (Y_assign rfl rfl) ?_; clear hf; intro a hf
 refine qNil ?_; clear hs; intro w hs
 refine wpL_seq <| wpL_seq ?_
 obtain ⟨r29, hj30, hm⟩ := bind_some hm
 refine wpL_cut (fun a w => ∃ b28 : Bool, b28 = r29 ∧ Fr a 86 [(0, .slice ai p0.length aj), (1, .slice aF p1.length aI), (2, .int .i64 p2), (3, .int .i64 p3), (9, .int .i64 q1), (10, .int .i64 q3), (42, .bool b28)] ∧ St [] W w []) ?_ ?_
 ·refine wpL_region ?_
  refine sY hf hs rfl rfl rfl (Y_move rfl rfl) ?_; clear hf; intro a hf
  refine sY hf hs rfl rfl rfl (Y_move rfl rfl) ?_; clear hf; intro a hf
  obtain ⟨q31, hi32, hj30⟩ := bind_some hj30
  obtain ⟨hi32a, hi32b, hi32q⟩ := idx_some hi32
  obtain ⟨vs33, hv34, hr35⟩ := id aJ
  obtain ⟨A36, c37, hv38, hR39⟩ := hr35 _ _ hi32q
  refine sY hf hs rfl rfl rfl (Y_index rfl rfl rfl el59 ti23 (Rd.isAt hv34 hv38) hi32a hi32b) ?_; clear hf; intro a hf
  refine sY hf hs rfl rfl rfl (Y_load_rd rfl rfl (fun w hs => hv34.at hs) (at1 hv38) ag23) ?_; clear hf; intro a hf
  refine sY hf hs rfl rfl rfl (Y_move rfl rfl) ?_; clear hf; intro a hf
  obtain ⟨q40, hi41, hj30⟩ := bind_some hj30
  obtain ⟨hi41a, hi41b, hi41q⟩ := idx_some hi41
  refine sY hf hs rfl rfl rfl (Y_index rfl rfl rfl el23 ti2 (Rd.isAt (hR39.at hs) (at1 (ints_at hi41q))) hi41a hi41b) ?_; clear hf; intro a hf
  refine sY hf hs rfl rfl rfl (Y_load_rd rfl rfl (fun w hs => hR39.at hs) (at1 (ints_at hi41q)) ag2) ?_; clear hf; intro a hf
  refine sY hf hs rfl rfl rfl (Y_neq rfl rfl rfl) ?_; clear hf; intro a hf
  refine sY hf hs rfl rfl rfl (Y_move rfl rfl) ?_; clear hf; intro a hf
  refine bsplit (q40 != (-1000000000000000)) (fun hb42 => ?_) (fun hb42 => ?_)
  ·have hj30 := bif_t hj30 hb42
   refine sYg hf hs rfl rfl rfl (congrArg (fun b => some (Value.bool b)) hb42) rfl rfl rfl (Y_move rfl rfl) ?_; clear hf; intro a hf
   refine sYg hf hs rfl rfl rfl (congrArg (fun b => some (Value.bool b)) hb42) rfl rfl rfl (Y_move rfl rfl) ?_; clear hf; intro a hf
   refine sYg hf hs rfl rfl rfl (congrArg (fun b => some (Value.bool b)) hb42) rfl rfl rfl (Y_move rfl rfl) ?_; clear hf; intro a hf
   obtain ⟨q43, hi44, hj30⟩ := bind_some hj30
   obtain ⟨hi44a, hi44b, hi44q⟩ := idx_some hi44
   obtain ⟨vs45, hv46, hr47⟩ := id aJ
   obtain ⟨A48, c49, hv50, hR51⟩ := hr47 _ _ hi44q
   refine sYg hf hs rfl rfl rfl (congrArg (fun b => some (Value.bool b)) hb42) rfl rfl rfl (Y_index rfl rfl rfl el59 ti23 (Rd.isAt hv46 hv50) hi44a hi44b) ?_; clear hf; intro a hf
   refine sYg hf hs rfl rfl rfl (congrArg (fun b => some (Value.bool b)) hb42) rfl rfl rfl (Y_load_rd rfl rfl (fun w hs => hv46.at hs) (at1 hv50) ag23) ?_; clear hf; intro a hf
   refine sYg hf hs rfl rfl rfl (congrArg (fun b => some (Value.bool b)) hb42) rfl rfl rfl (Y_move rfl rfl) ?_; clear hf; intro a hf
   obtain ⟨q52, hi53, hj30⟩ := bind_some hj30
   obtain ⟨hi53a, hi53b, hi53q⟩ := idx_some hi53
   refine sYg hf hs rfl rfl rfl (congrArg (fun b => some (Value.bool b)) hb42) rfl rfl rfl (Y_index rfl rfl rfl el23 ti2 (Rd.isAt (hR51.at hs) (at1 (ints_at hi53q))) hi53a hi53b) ?_; clear hf; intro a hf
   refine sYg hf hs rfl rfl rfl (congrArg (fun b => some (Value.bool b)) hb42) rfl rfl rfl (Y_load_rd rfl rfl (fun w hs => hR51.at hs) (at1 (ints_at hi53q)) ag2) ?_; clear hf; intro a hf
   refine sYg hf hs rfl rfl rfl (congrArg (fun b => some (Value.bool b)) hb42) rfl rfl rfl (Y_add rfl rfl rfl) ?_; clear hf; intro a hf
   refine sYg hf hs rfl rfl rfl (congrArg (fun b => some (Value.bool b)) hb42) rfl rfl rfl (Y_move rfl rfl) ?_; clear hf; intro a hf
   refine sYg hf hs rfl rfl rfl (congrArg (fun b => some (Value.bool b)) hb42) rfl rfl rfl (Y_gtr rfl rfl rfl) ?_; clear hf; intro a hf
   refine sY hf hs rfl rfl rfl (Y_pickT rfl (congrArg (fun b => some (Value.bool b)) hb42) rfl) ?_; clear hf; intro a hf
   refine wpO_nil ?_
   refine wpL_nil (then_normal ?_)
   exact ⟨(decide (p3 < (IntKind.i64.wrap (p2 + q52)))), Option.some.inj hj30, (FrD.pick (FrD.pick (FrD.pick (FrD.pick (FrD.pick (FrD.pick (FrD.pick hf.none hf rfl) hf rfl) hf rfl) hf rfl) hf rfl) hf rfl) hf rfl), hs⟩
  ·have hj30 := bif_f hj30 hb42
   refine sNo hf rfl rfl rfl (congrArg (fun b => some (Value.bool b)) hb42) rfl rfl rfl ?_; clear hf; intro a hf
   refine sNo hf rfl rfl rfl (congrArg (fun b => some (Value.bool b)) hb42) rfl rfl rfl ?_; clear hf; intro a hf
   refine sNo hf rfl rfl rfl (congrArg (fun b => some (Value.bool b)) hb42) rfl rfl rfl ?_; clear hf; intro a hf
   refine sNo hf rfl rfl rfl (congrArg (fun b => some (Value.bool b)) hb42) rfl rfl rfl ?_; clear hf; intro a hf
   refine sNo hf rfl rfl rfl (congrArg (fun b => some (Value.bool b)) hb42) rfl rfl rfl ?_; clear hf; intro a hf
   refine sNo hf rfl rfl rfl (congrArg (fun b => some (Value.bool b)) hb42) rfl rfl rfl ?_; clear hf; intro a hf
   refine sNo hf rfl rfl rfl (congrArg (fun b => some (Value.bool b)) hb42) rfl rfl rfl ?_; clear hf; intro a hf
   refine sNo hf rfl rfl rfl (congrArg (fun b => some (Value.bool b)) hb42) rfl rfl rfl ?_; clear hf; intro a hf
   refine sNo hf rfl rfl rfl (congrArg (fun b => some (Value.bool b)) hb42) rfl rfl rfl ?_; clear hf; intro a hf
   refine sNo hf rfl rfl rfl (congrArg (fun b => some (Value.bool b)) hb42) rfl rfl rfl ?_; clear hf; intro a hf
   refine sNo hf rfl rfl rfl (congrArg (fun b => some (Value.bool b)) hb42) rfl rfl rfl ?_; clear hf; intro a hf
   refine sY hf hs rfl rfl rfl (Y_pickF rfl (congrArg (fun b => some (Value.bool b)) hb42) rfl) ?_; clear hf; intro a hf
   refine wpO_nil ?_
   refine wpL_nil (then_normal ?_)
   exact ⟨false, Option.some.inj hj30, (FrD.pick (FrD.pick (FrD.pick (FrD.pick (FrD.pick (FrD.pick (FrD.pick hf.none hf rfl) hf rfl) hf rfl) hf rfl) hf rfl) hf rfl) hf rfl), hs⟩
 ·rintro a w ⟨b28, hr_, hf, hs⟩
  subst hr_
  try dsimp only at hm
  refine wpL_cond hf rfl (fun hb54 => ?_) (fun hb54 => ?_)
  ·have hm := bif_t hm hb54
   refine wpL_seq <| wpL_region ?_
   refine sY hf hs rfl rfl rfl (Y_move rfl rfl) ?_; clear hf; intro a hf
   refine sY hf hs rfl rfl rfl (Y_assign rfl rfl) ?_; clear hf; intro a hf
   refine wpO_nil ?_
   have hs : St [] W _ [.row none 0 0 2 1 (ints ([] : List Int))] := hs.addNil 2 1
   obtain rfl := Option.some.inj hm
   refine wpL_ret (ret_tmp rfl hf rfl ?_)
   exact ⟨_, rfl, aF, p1.length, aI, none, 0, 0, ([] : List Int), rfl, rfl, .inl ⟨rfl, rfl, rfl, rfl⟩, hs⟩
  ·have hm := bif_f hm hb54
   refine wpL_skip <| wpL_seq <| wpL_seq <| wpL_region ?_
   refine sY hf hs rfl rfl rfl (Y_move rfl rfl) ?_; clear hf; intro a hf
   refine sY hf hs rfl rfl rfl (Y_add rfl rfl rfl) ?_; clear hf; intro a hf
   refine sY hf hs rfl rfl rfl (Y_assign rfl rfl) ?_; clear hf; intro a hf
   refine wpO_nil ?_
   obtain ⟨r1399, hl1400, hm⟩ := bind_some hm
   refine wpL_block (fun a w => Sum.inr () = r1399 ∧ Fr a 86 [] ∧ St [] W w []) ?_ ?_
   ·refine wpL_loop (fun n a w => ∃ x951 : Int, spec_l03Grow_L1 F p0 p1 p2 p3 q3 (spec_l03Grow_rec F k_) n x951 = some r1399 ∧ Fr a 86 [(0, .slice ai p0.length aj), (1, .slice aF p1.length aI), (2, .int .i64 p2), (3, .int .i64 p3), (10, .int .i64 q3), (11, .int .i64 x951)] ∧ St [] W w []) F ?_ ?_ ?_
    ·exact ⟨(IntKind.i64.wrap (q1 + 1)), hl1400, (FrD.pick (FrD.pick (FrD.pick (FrD.pick (FrD.pick (FrD.pick hf.none hf rfl) hf rfl) hf rfl) hf rfl) hf rfl) hf rfl), hs⟩
    ·rintro a w ⟨x951, h0_, -, -⟩; simp [spec_l03Grow_L1] at h0_
    ·rintro n1402 a w ⟨x951, hm1401, hf, hs⟩
     rw [spec_l03Grow_L1] at hm1401
     refine wpL_seq <| wpL_seq <| wpL_region ?_
     refine sY hf hs rfl rfl rfl (Y_move rfl rfl) ?_; clear hf; intro a hf
     refine sY hf hs rfl rfl rfl (Y_move rfl rfl) ?_; clear hf; intro a hf
     refine sY hf hs rfl rfl rfl (Y_lenH rfl rfl el59 rfl) ?_; clear hf; intro a hf
     refine sY hf hs rfl rfl rfl (Y_lss rfl rfl rfl) ?_; clear hf; intro a hf
     refine wpO_nil ?_
     refine wpL_cond hf rfl (fun hb1403 => ?_) (fun hb1403 => ?_)
     ·have hm1401 := bif_t hm1401 hb1403
      refine wpL_skip <| wpL_seq ?_
      obtain ⟨r1626, hj1627, hm1401⟩ := bind_some hm1401
      refine wpL_block (fun a w => Sum.inr () = r1626 ∧ Fr a 86 [(0, .slice ai p0.length aj), (1, .slice aF p1.length aI), (2, .int .i64 p2), (3, .int .i64 p3), (10, .int .i64 q3), (11, .int .i64 x951)] ∧ St [] W w []) ?_ ?_
      ·refine wpL_seq <| wpL_seq ?_
       obtain ⟨r1643, hj1644, hj1627⟩ := bind_some hj1627
       refine wpL_cut (fun a w => ∃ b1642 : Bool, b1642 = r1643 ∧ Fr a 86 [(0, .slice ai p0.length aj), (1, .slice aF p1.length aI), (2, .int .i64 p2), (3, .int .i64 p3), (10, .int .i64 q3), (11, .int .i64 x951), (64, .bool b1642)] ∧ St [] W w []) ?_ ?_
       ·refine wpL_region ?_
        refine sY hf hs rfl rfl rfl (Y_move rfl rfl) ?_; clear hf; intro a hf
        refine sY hf hs rfl rfl rfl (Y_move rfl rfl) ?_; clear hf; intro a hf
        obtain ⟨q1645, hi1646, hj1644⟩ := bind_some hj1644
        obtain ⟨hi1646a, hi1646b, hi1646q⟩ := idx_some hi1646
        obtain ⟨vs1647, hv1648, hr1649⟩ := id aJ
        obtain ⟨A1650, c1651, hv1652, hR1653⟩ := hr1649 _ _ hi1646q
        refine sY hf hs rfl rfl rfl (Y_index rfl rfl rfl el59 ti23 (Rd.isAt hv1648 hv1652) hi1646a hi1646b) ?_; clear hf; intro a hf
        refine sY hf hs rfl rfl rfl (Y_load_rd rfl rfl (fun w hs => hv1648.at hs) (at1 hv1652) ag23) ?_; clear hf; intro a hf
        refine sY hf hs rfl rfl rfl (Y_move rfl rfl) ?_; clear hf; intro a hf
        obtain ⟨q1654, hi1655, hj1644⟩ := bind_some hj1644
        obtain ⟨hi1655a, hi1655b, hi1655q⟩ := idx_some hi1655
        refine sY hf hs rfl rfl rfl (Y_index rfl rfl rfl el23 ti2 (Rd.isAt (hR1653.at hs) (at1 (ints_at hi1655q))) hi1655a hi1655b) ?_; clear hf; intro a hf
        refine sY hf hs rfl rfl rfl (Y_load_rd rfl rfl (fun w hs => hR1653.at hs) (at1 (ints_at hi1655q)) ag2) ?_; clear hf; intro a hf
        refine sY hf hs rfl rfl rfl (Y_eql rfl rfl rfl) ?_; clear hf; intro a hf
        refine sY hf hs rfl rfl rfl (Y_move rfl rfl) ?_; clear hf; intro a hf
        refine bsplit (q1654 == (-1000000000000000)) (fun hb1656 => ?_) (fun hb1656 => ?_)
        ·have hj1644 := bif_t hj1644 hb1656
         refine sNo hf rfl rfl rfl (congrArg (fun b => some (Value.bool b)) hb1656) rfl rfl rfl ?_; clear hf; intro a hf
         refine sNo hf rfl rfl rfl (congrArg (fun b => some (Value.bool b)) hb1656) rfl rfl rfl ?_; clear hf; intro a hf
         refine sNo hf rfl rfl rfl (congrArg (fun b => some (Value.bool b)) hb1656) rfl rfl rfl ?_; clear hf; intro a hf
         refine sY hf hs rfl rfl rfl (Y_pickT rfl (congrArg (fun b => some (Value.bool b)) hb1656) rfl) ?_; clear hf; intro a hf
         refine wpO_nil ?_
         refine wpL_nil (then_normal ?_)
         exact ⟨true, Option.some.inj hj1644, (FrD.pick (FrD.pick (FrD.pick (FrD.pick (FrD.pick (FrD.pick (FrD.pick hf.none hf rfl) hf rfl) hf rfl) hf rfl) hf rfl) hf rfl) hf rfl), hs⟩
        ·have hj1644 := bif_f hj1644 hb1656
         refine sYg hf hs rfl rfl rfl (congrArg (fun b => some (Value.bool b)) hb1656) rfl rfl rfl (Y_move rfl rfl) ?_; clear hf; intro a hf
         refine sYg hf hs rfl rfl rfl (congrArg (fun b => some (Value.bool b)) hb1656) rfl rfl rfl (Y_move rfl rfl) ?_; clear hf; intro a hf
         obtain ⟨r1657, hc1658, hj1644⟩ := bind_some hj1644
         refine sCallg hf rfl rfl rfl (congrArg (fun b => some (Value.bool b)) hb1656) rfl rfl rfl rfl (cap := []) rfl rfl en188 (spec_l01Has_ok F p1 aF p1.length aI rfl x951 _ _ hc1658 (br.at hs)) ?_; clear hf
         rintro _ w ⟨rfl, hs1⟩ a hf
         have hs : St [] W w [] := hs.ext hs1.below
         clear hs1
         refine sY hf hs rfl rfl rfl (Y_pickF rfl (congrArg (fun b => some (Value.bool b)) hb1656) rfl) ?_; clear hf; intro a hf
         refine wpO_nil ?_
         refine wpL_nil (then_normal ?_)
         exact ⟨r1657, Option.some.inj hj1644, (FrD.pick (FrD.pick (FrD.pick (FrD.pick (FrD.pick (FrD.pick (FrD.pick hf.none hf rfl) hf rfl) hf rfl) hf rfl) hf rfl) hf rfl) hf rfl), hs⟩
       ·rintro a w ⟨b1642, hr_, hf, hs⟩
        subst hr_
        try dsimp only at hj1627
        refine wpL_cond hf rfl (fun hb1659 => ?_) (fun hb1659 => ?_)
        ·have hj1627 := bif_t hj1627 hb1659
         refine wpL_exit (Qb_exit ?_)
         exact ⟨Option.some.inj hj1627, (FrD.pick (FrD.pick (FrD.pick (FrD.pick (FrD.pick (FrD.pick hf.none hf rfl) hf rfl) hf rfl) hf rfl) hf rfl) hf rfl), hs⟩
        ·have hj1627 := bif_f hj1627 hb1659
         refine wpL_skip <| wpL_seq ?_
         obtain ⟨r1756, hj1757, hj1627⟩ := bind_some hj1627
         refine wpL_cut (fun a w => ∃ xs1751 : List Int, ∃ A1752, ∃ n1753, ∃ c1754, xs1751 = r1756 ∧ n1753 = xs1751.length ∧ Fr a 86 [(0, .slice ai p0.length aj), (1, .slice aF p1.length aI), (2, .int .i64 p2), (3, .int .i64 p3), (10, .int .i64 q3), (11, .int .i64 x951), (12, .slice A1752 n1753 c1754)] ∧ St [] W w [.row A1752 n1753 c1754 2 1 (ints xs1751)]) ?_ ?_
         ·refine wpL_drawM [] [16] (by kernel_rfl) hs ?_; clear hs; intro w hs
          have hs0 : St [] W w [] := hs
          refine mYp (i := 0) rfl (by kernel_rfl) (by kernel_rfl) hf rfl rfl rfl (fun _ => Y_move rfl rfl) ?_; clear hf; intro a hf
          refine mYp (i := 1) rfl (by kernel_rfl) (by kernel_rfl) hf rfl rfl rfl (fun _ => Y_move rfl rfl) ?_; clear hf; intro a hf
          refine mYp (i := 3) rfl (by kernel_rfl) (by kernel_rfl) hf rfl rfl rfl (fun _ => Y_move rfl rfl) ?_; clear hf; intro a hf
          refine mYp (i := 6) rfl (by kernel_rfl) (by kernel_rfl) hf rfl rfl rfl (fun _ => Y_move rfl rfl) ?_; clear hf; intro a hf
          refine mYp (i := 7) rfl (by kernel_rfl) (by kernel_rfl) hf rfl rfl rfl (fun _ => Y_move rfl rfl) ?_; clear hf; intro a hf
          refine mYp (i := 8) rfl (by kernel_rfl) (by kernel_rfl) hf rfl rfl rfl (fun _ => Y_move rfl rfl) ?_; clear hf; intro a hf
          obtain ⟨q1792, hi1793, hj1757⟩ := bind_some hj1757
          obtain ⟨hi1793a, hi1793b, hi1793q⟩ := idx_some hi1793
          obtain ⟨vs1794, hv1795, hr1796⟩ := id aJ
          obtain ⟨A1797, c1798, hv1799, hR1800⟩ := hr1796 _ _ hi1793q
          refine mYp (i := 9) rfl (by kernel_rfl) (by kernel_rfl) hf rfl rfl rfl (fun _ => Y_index rfl rfl rfl el59 ti23 (Rd.isAt hv1795 hv1799) hi1793a hi1793b) ?_; clear hf; intro a hf
          refine mY (i := 10) [[12, 13, 14]] rfl (by kernel_rfl) (by kernel_rfl) hf hs0 rfl rfl rfl (Y_load_rd rfl rfl (fun w hs => hv1795.at hs) (at1 hv1799) ag23) ?_; clear hf; intro a hf
          refine mYp (i := 11) rfl (by kernel_rfl) (by kernel_rfl) hf rfl rfl rfl (fun _ => Y_move rfl rfl) ?_; clear hf; intro a hf
          obtain ⟨q1801, hi1802, hj1757⟩ := bind_some hj1757
          obtain ⟨hi1802a, hi1802b, hi1802q⟩ := idx_some hi1802
          refine mYp (i := 12) rfl (by kernel_rfl) (by kernel_rfl) hf rfl rfl rfl (fun _ => Y_index rfl rfl rfl el23 ti2 (Rd.isAt (hR1800.at hs) (at1 (ints_at hi1802q))) hi1802a hi1802b) ?_; clear hf; intro a hf
          refine mY (i := 13) [[14]] rfl (by kernel_rfl) (by kernel_rfl) hf hs0 rfl rfl rfl (Y_load_rd rfl rfl (fun w hs => hR1800.at hs) (at1 (ints_at hi1802q)) ag2) ?_; clear hf; intro a hf
          refine mYp (i := 14) rfl (by kernel_rfl) (by kernel_rfl) hf rfl rfl rfl (fun _ => Y_add rfl rfl rfl) ?_; clear hf; intro a hf
          refine mYp (i := 15) rfl (by kernel_rfl) (by kernel_rfl) hf rfl rfl rfl (fun _ => Y_move rfl rfl) ?_; clear hf; intro a hf
          refine mRun2 (i := 2) (j := 4) rfl rfl (by kernel_rfl) ?_ ?_
          ·obtain ⟨r1803, hc1804, hj1757⟩ := bind_some hj1757
           refine sCall hf rfl rfl rfl rfl (cap := []) rfl rfl en146 (spec_l01Own_ok F p1 aF p1.length aI rfl _ _ hc1804 (br.at hs)) ?_; clear hf
           rintro _ w ⟨A1805, n1806, c1807, rfl, hn1808, hs1⟩ a hf
           have hs : St [] W w [.row A1805 n1806 c1807 2 1 (ints r1803)] := hs.join hs1
           clear hs1
           have hs0 : St [] W w [] := hs.sel [] (by decide)
           refine wpO_nil ⟨Or.inr (fun _ => hs0), ?_⟩
           refine mRun (i := 4) rfl (by kernel_rfl) ?_
           refine sBuildSlice (parts := [(0, .tmp 68)]) (vs := [.int .i64 x951]) (cells := [.int .i64 x951]) hf hs rfl rfl rfl rfl rfl el23 ti2 rfl rfl rfl rfl ?_; clear hf hs; intro a w A1809 hs hA1810 hf
           have hs : St [] W w [.row A1805 n1806 c1807 2 1 (ints r1803), .row A1809 1 1 2 1 (ints ([x951]))] := hs
           have hs0 : St [] W w [] := hs.sel [] (by decide)
           refine wpO_nil ⟨Or.inr (fun _ => hs0), ?_⟩
           refine mRun (i := 5) rfl (by kernel_rfl) ?_
           obtain ⟨xs1813, ha1814, hj1757⟩ := bind_some hj1757
           refine sAppendL (i := 0) (xs := r1803) (ys := [x951]) (enc := ints) hf hs rfl rfl rfl rfl rfl rfl hn1808 rfl rfl ha1814 el23 ti2 rfl rfl rfl (hs.rd (i := 1) rfl) (Nat.succ_pos _) ints_len1 ints_append ints_one ?_; clear hf hs; intro a w A1811 c1812 hs hf
           have hs : St [] W w [.row A1811 xs1813.length c1812 2 1 (ints xs1813), .row A1809 1 1 2 1 (ints ([x951]))] := hs
           have hs0 : St [] W w [] := hs.sel [] (by decide)
           refine wpO_nil ⟨Or.inr (fun _ => hs0), ?_⟩
           refine mRun (i := 16) rfl (by kernel_rfl) ?_
           obtain ⟨r1815, hc1816, hj1757⟩ := bind_some hj1757
           refine sCall hf rfl rfl rfl rfl (cap := []) rfl rfl en204 (ih_ p0 ai p0.length aj rfl xs1813 A1811 xs1813.length c1812 rfl (IntKind.i64.wrap (p2 + q1801)) p3 _ _ hc1816 (aJ.at hs) (hs.rd (i := 0) rfl)) ?_; clear hf
           rintro _ w ⟨A1817, n1818, c1819, A1820, n1821, c1822, ys1823, rfl, hn1824, he1825, hs1⟩ a hf
           have hs : St [] W w [.row A1811 xs1813.length c1812 2 1 (ints xs1813), .row A1809 1 1 2 1 (ints ([x951])), .row A1820 n1821 c1822 2 1 (ints ys1823)] := hs.join hs1
           clear hs1
           have hs := hs.eiOwn (i := 0) (j := 2) (enc := ints) rfl rfl (by decide) he1825
           have hs : St [] W w [.row A1817 n1818 c1819 2 1 (ints r1815), .row A1809 1 1 2 1 (ints ([x951]))] := hs
           refine wpO_nil ⟨Or.inl (by decide), ?_⟩
           refine mYp (i := 17) rfl (by kernel_rfl) (by kernel_rfl) hf rfl rfl rfl (fun _ => Y_assign rfl rfl) ?_; clear hf; intro a hf
           refine mDone (by kernel_rfl) ?_
           clear hs0
           refine wpL_nil (then_normal ?_)
           exact ⟨r1815, A1817, n1818, c1819, Option.some.inj hj1757, hn1824, (FrD.pick (FrD.pick (FrD.pick (FrD.pick (FrD.pick (FrD.pick (FrD.pick hf.none hf rfl) hf rfl) hf rfl) hf rfl) hf rfl) hf rfl) hf rfl), hs.sel [0] (by decide)⟩
          ·refine sBuildSlice (parts := [(0, .tmp 68)]) (vs := [.int .i64 x951]) (cells := [.int .i64 x951]) hf hs rfl rfl rfl rfl rfl el23 ti2 rfl rfl rfl rfl ?_; clear hf hs; intro a w A1826 hs hA1827 hf
           have hs : St [] W w [.row A1826 1 1 2 1 (ints ([x951]))] := hs
           have hs0 : St [] W w [] := hs.sel [] (by decide)
           refine wpO_nil ⟨Or.inr (fun _ => hs0), ?_⟩
           refine mRun (i := 2) rfl (by kernel_rfl) ?_
           obtain ⟨r1828, hc1829, hj1757⟩ := bind_some hj1757
           refine sCall hf rfl rfl rfl rfl (cap := []) rfl rfl en146 (spec_l01Own_ok F p1 aF p1.length aI rfl _ _ hc1829 (br.at hs)) ?_; clear hf
           rintro _ w ⟨A1830, n1831, c1832, rfl, hn1833, hs1⟩ a hf
           have hs : St [] W w [.row A1826 1 1 2 1 (ints ([x951])), .row A1830 n1831 c1832 2 1 (ints r1828)] := hs.join hs1
           clear hs1
           have hs0 : St [] W w [] := hs.sel [] (by decide)
           refine wpO_nil ⟨Or.inr (fun _ => hs0), ?_⟩
           refine mRun (i := 5) rfl (by kernel_rfl) ?_
           obtain ⟨xs1836, ha1837, hj1757⟩ := bind_some hj1757
           refine sAppendL (i := 1) (xs := r1828) (ys := [x951]) (enc := ints) hf hs rfl rfl rfl rfl rfl rfl hn1833 rfl rfl ha1837 el23 ti2 rfl rfl rfl (hs.rd (i := 0) rfl) (Nat.succ_pos _) ints_len1 ints_append ints_one ?_; clear hf hs; intro a w A1834 c1835 hs hf
           have hs : St [] W w [.row A1826 1 1 2 1 (ints ([x951])), .row A1834 xs1836.length c1835 2 1 (ints xs1836)] := hs
           have hs0 : St [] W w [] := hs.sel [] (by decide)
           refine wpO_nil ⟨Or.inr (fun _ => hs0), ?_⟩
           refine mRun (i := 16) rfl (by kernel_rfl) ?_
           obtain ⟨r1838, hc1839, hj1757⟩ := bind_some hj1757
           refine sCall hf rfl rfl rfl rfl (cap := []) rfl rfl en204 (ih_ p0 ai p0.length aj rfl xs1836 A1834 xs1836.length c1835 rfl (IntKind.i64.wrap (p2 + q1801)) p3 _ _ hc1839 (aJ.at hs) (hs.rd (i := 1) rfl)) ?_; clear hf
           rintro _ w ⟨A1840, n1841, c1842, A1843, n1844, c1845, ys1846, rfl, hn1847, he1848, hs1⟩ a hf
           have hs : St [] W w [.row A1826 1 1 2 1 (ints ([x951])), .row A1834 xs1836.length c1835 2 1 (ints xs1836), .row A1843 n1844 c1845 2 1 (ints ys1846)] := hs.join hs1
           clear hs1
           have hs := hs.eiOwn (i := 1) (j := 2) (enc := ints) rfl rfl (by decide) he1848
           have hs : St [] W w [.row A1826 1 1 2 1 (ints ([x951])), .row A1840 n1841 c1842 2 1 (ints r1838)] := hs
           refine wpO_nil ⟨Or.inl (by decide), ?_⟩
           refine mYp (i := 17) rfl (by kernel_rfl) (by kernel_rfl) hf rfl rfl rfl (fun _ => Y_assign rfl rfl) ?_; clear hf; intro a hf
           refine mDone (by kernel_rfl) ?_
           clear hs0
           refine wpL_nil (then_normal ?_)
           exact ⟨r1838, A1840, n1841, c1842, Option.some.inj hj1757, hn1847, (FrD.pick (FrD.pick (FrD.pick (FrD.pick (FrD.pick (FrD.pick (FrD.pick hf.none hf rfl) hf rfl) hf rfl) hf rfl) hf rfl) hf rfl) hf rfl), hs.sel [1] (by decide)⟩
         ·rintro a w ⟨xs1751, A1752, n1753, c1754, hr_, hn1755, hf, hs⟩
          subst hr_
          try dsimp only at hj1627
          refine wpL_seq <| wpL_region ?_
          refine sY hf hs rfl rfl rfl (Y_move rfl rfl) ?_; clear hf; intro a hf
          refine sY hf hs rfl rfl rfl (Y_lenH rfl rfl el23 hn1755) ?_; clear hf; intro a hf
          refine sY hf hs rfl rfl rfl (Y_gtr rfl rfl rfl) ?_; clear hf; intro a hf
          refine wpO_nil ?_
          refine wpL_cond hf rfl (fun hb1849 => ?_) (fun hb1849 => ?_)
          ·have hj1627 := bif_t hj1627 hb1849
           refine wpL_seq <| wpL_region ?_
           refine sY hf hs rfl rfl rfl (Y_move rfl rfl) ?_; clear hf; intro a hf
           refine sY hf hs rfl rfl rfl (Y_assign rfl rfl) ?_; clear hf; intro a hf
           refine wpO_nil ?_
           obtain rfl := Option.some.inj hj1627
           try dsimp only at hm1401
           obtain rfl := Option.some.inj hm1401
           try dsimp only at hm
           obtain rfl := Option.some.inj hm
           refine wpL_ret (Qb_ret (Ql_ret (Qb_ret (ret_tmp rfl hf rfl ?_))))
           exact ⟨_, rfl, A1752, n1753, c1754, A1752, n1753, c1754, xs1751, rfl, hn1755, .inr ⟨rfl, rfl, rfl, rfl⟩, hs⟩
          ·have hj1627 := bif_f hj1627 hb1849
           refine wpL_skip ?_
           refine wpL_nil (Qb_normal ?_)
           exact ⟨Option.some.inj hj1627, (FrD.pick (FrD.pick (FrD.pick (FrD.pick (FrD.pick (FrD.pick hf.none hf rfl) hf rfl) hf rfl) hf rfl) hf rfl) hf rfl), hs.sel [] (by decide)⟩
      ·rintro a w ⟨hr_, hf, hs⟩
       subst hr_
       try dsimp only at hm1401
       refine wpL_region ?_
       refine sY hf hs rfl rfl rfl (Y_move rfl rfl) ?_; clear hf; intro a hf
       refine sY hf hs rfl rfl rfl (Y_add rfl rfl rfl) ?_; clear hf; intro a hf
       refine sY hf hs rfl rfl rfl (Y_assign rfl rfl) ?_; clear hf; intro a hf
       refine wpO_nil ?_
       refine wpL_nil (Ql_normal ?_)
       exact ⟨(IntKind.i64.wrap (x951 + 1)), hm1401, (FrD.pick (FrD.pick (FrD.pick (FrD.pick (FrD.pick (FrD.pick hf.none hf rfl) hf rfl) hf rfl) hf rfl) hf rfl) hf rfl), hs⟩
     ·have hm1401 := bif_f hm1401 hb1403
      refine wpL_exit (Ql_exit (Qb_exit ?_))
      exact ⟨Option.some.inj hm1401, hf.none, hs⟩
   ·rintro a w ⟨hr_, hf, hs⟩
    subst hr_
    try dsimp only at hm
    refine wpL_seq <| wpL_region ?_
    refine sY hf hs rfl rfl rfl (Y_assign rfl rfl) ?_; clear hf; intro a hf
    refine wpO_nil ?_
    have hs : St [] W _ [.row none 0 0 2 1 (ints ([] : List Int))] := hs.addNil 2 1
    obtain rfl := Option.some.inj hm
    refine wpL_ret (ret_tmp rfl hf rfl ?_)
    exact ⟨_, rfl, none, 0, 0, none, 0, 0, ([] : List Int), rfl, rfl, .inr ⟨rfl, rfl, rfl, rfl⟩, hs⟩
theorem spec_l03Grow_rec_ok (F : Nat) : ∀ (k_ : Nat) (p0 : List (List Int)) (ai : Option Addr) (aL aj : Nat) (_hn_p0_1 : aL = p0.length) (p1 : List Int) (aF : Option Addr) (aT aI : Nat) (_hn_p1_1 : aT = p1.length) (p2 : Int) (p3 : Int) (r : List Int) (W : World) (_hm : spec_l03Grow_rec F k_ p0 p1 p2 p3 = some r) (_h_p0_1 : RdM W ai p0) (_h_p1_1 : Rd W aF (ints p1)), Calls Try.prog 204 [.slice ai aL aj, .slice aF aT aI, .int .i64 p2, .int .i64 p3].toArray W fun e w' => ∃ v, e = .returned v ∧ ∃ A1851, ∃ n1852, ∃ c1853, ∃ A1854, ∃ n1855, ∃ c1856, ∃ ys1857, v = .slice A1851 n1852 c1853 ∧ n1852 = r.length ∧ Ei aF aT aI p1 A1854 n1855 c1856 ys1857 A1851 n1852 c1853 r ∧ St [] W w' [.row A1854 n1855 c1856 2 1 (ints ys1857)]
 | 0 => by intros; simp [spec_l03Grow_rec] at *
 | k_ + 1 => spec_l03Grow_step F k_ (spec_l03Grow_rec_ok F k_)
theorem spec_l03Grow_ok (F : Nat) : ∀ (p0 : List (List Int)) (ai : Option Addr) (aL aj : Nat) (_hn_p0_1 : aL = p0.length) (p1 : List Int) (aF : Option Addr) (aT aI : Nat) (_hn_p1_1 : aT = p1.length) (p2 : Int) (p3 : Int) (r : List Int) (W : World) (_hm : spec_l03Grow F p0 p1 p2 p3 = some r) (_h_p0_1 : RdM W ai p0) (_h_p1_1 : Rd W aF (ints p1)), Calls Try.prog 204 [.slice ai aL aj, .slice aF aT aI, .int .i64 p2, .int .i64 p3].toArray W fun e w' => ∃ v, e = .returned v ∧ ∃ A1851, ∃ n1852, ∃ c1853, ∃ A1854, ∃ n1855, ∃ c1856, ∃ ys1857, v = .slice A1851 n1852 c1853 ∧ n1852 = r.length ∧ Ei aF aT aI p1 A1854 n1855 c1856 ys1857 A1851 n1852 c1853 r ∧ St [] W w' [.row A1854 n1855 c1856 2 1 (ints ys1857)] := spec_l03Grow_rec_ok F F

set_option maxRecDepth 100000 in
theorem spec_l03Over_ok (F : Nat) (aY : List (List Int)) (aP : Option Addr) (bg aZ : Nat) (bt : bg = aY.length) (bV : Int) (r : List Int) (W : World) (hm : spec_l03Over F aY bV = some r) (bu : RdM W aP aY) :
  Calls Try.prog 180 [.slice aP bg aZ, .int .i64 bV].toArray W fun e w' => ∃ v, e = .returned v ∧ ∃ A68, ∃ n69, ∃ c70, v = .slice A68 n69 c70 ∧ n69 = r.length ∧ St [] W w' [.row A68 n69 c70 2 1 (ints r)] := by
 subst bt
 unfold spec_l03Over at hm
 refine Calls.enter (N := 22) Try.func180 rfl rfl rfl (fun a hf => ?_)
 have hs := St.start W
 obtain ⟨w, hw_⟩ : ∃ w, w = W := ⟨W, rfl⟩
 clear hw_ w
 refine wpL_seq <| wpL_region ?_
 refine sY hf hs rfl rfl rfl (Y_assign rfl rfl) ?_; clear hf; intro a hf
 refine wpO_nil <| wpL_seq <| wpL_seq <| wpL_region ?_
 refine sY hf hs rfl rfl rfl (Y_assign rfl rfl) ?_; clear hf; intro a hf
 refine wpO_nil ?_
 obtain ⟨r48, hl49, hm⟩ := bind_some hm
 refine wpL_block (fun a w => Sum.inr () = r48 ∧ Fr a 22 [] ∧ St [] W w []) ?_ ?_
 ·refine wpL_loop (fun n a w => ∃ x32 : Int, spec_l03Over_L1 F aY bV n x32 = some r48 ∧ Fr a 22 [(0, .slice aP aY.length aZ), (1, .int .i64 bV), (5, .int .i64 x32)] ∧ St [] W w []) F ?_ ?_ ?_
  ·exact ⟨0, hl49, (FrD.pick (FrD.pick (FrD.pick hf.none hf rfl) hf rfl) hf rfl), hs⟩
  ·rintro a w ⟨x32, h0_, -, -⟩; simp [spec_l03Over_L1] at h0_
  ·rintro n51 a w ⟨x32, hm50, hf, hs⟩
   rw [spec_l03Over_L1] at hm50
   refine wpL_seq <| wpL_seq <| wpL_region ?_
   refine sY hf hs rfl rfl rfl (Y_move rfl rfl) ?_; clear hf; intro a hf
   refine sY hf hs rfl rfl rfl (Y_move rfl rfl) ?_; clear hf; intro a hf
   refine sY hf hs rfl rfl rfl (Y_lenH rfl rfl el59 rfl) ?_; clear hf; intro a hf
   refine sY hf hs rfl rfl rfl (Y_lss rfl rfl rfl) ?_; clear hf; intro a hf
   refine wpO_nil ?_
   refine wpL_cond hf rfl (fun hb52 => ?_) (fun hb52 => ?_)
   ·have hm50 := bif_t hm50 hb52
    refine wpL_skip <| wpL_seq <| wpL_block0 <| wpL_seq <| wpL_region ?_
    refine sY hf hs rfl rfl rfl (Y_move rfl rfl) ?_; clear hf; intro a hf
    refine sY hf hs rfl rfl rfl (Y_move rfl rfl) ?_; clear hf; intro a hf
    refine sBuildSlice (parts := [(0, .tmp 14)]) (vs := [.int .i64 x32]) (cells := [.int .i64 x32]) hf hs rfl rfl rfl rfl rfl el23 ti2 rfl rfl rfl rfl ?_; clear hf hs; intro a w A53 hs hA54 hf
    have hs : St [] W w [.row A53 1 1 2 1 (ints ([x32]))] := hs
    refine sY hf hs rfl rfl rfl (Y_move rfl rfl) ?_; clear hf; intro a hf
    obtain ⟨r55, hc56, hm50⟩ := bind_some hm50
    refine sCall hf rfl rfl rfl rfl (cap := []) rfl rfl en204 (spec_l03Grow_ok F aY aP aY.length aZ rfl ([x32]) A53 1 1 rfl 0 bV _ _ hc56 (bu.at hs) (hs.rd (i := 0) rfl)) ?_; clear hf
    rintro _ w ⟨A57, n58, c59, A60, n61, c62, ys63, rfl, hn64, he65, hs1⟩ a hf
    have hs : St [] W w [.row A53 1 1 2 1 (ints ([x32])), .row A60 n61 c62 2 1 (ints ys63)] := hs.join hs1
    clear hs1
    have hs := hs.eiOwn (i := 0) (j := 1) (enc := ints) rfl rfl (by decide) he65
    have hs : St [] W w [.row A57 n58 c59 2 1 (ints r55)] := hs
    refine sY hf hs rfl rfl rfl (Y_assign rfl rfl) ?_; clear hf; intro a hf
    refine wpO_nil <| wpL_seq <| wpL_region ?_
    refine sY hf hs rfl rfl rfl (Y_move rfl rfl) ?_; clear hf; intro a hf
    refine sY hf hs rfl rfl rfl (Y_lenH rfl rfl el23 hn64) ?_; clear hf; intro a hf
    refine sY hf hs rfl rfl rfl (Y_gtr rfl rfl rfl) ?_; clear hf; intro a hf
    refine wpO_nil ?_
    refine wpL_cond hf rfl (fun hb66 => ?_) (fun hb66 => ?_)
    ·have hm50 := bif_t hm50 hb66
     refine wpL_seq <| wpL_region ?_
     refine sY hf hs rfl rfl rfl (Y_move rfl rfl) ?_; clear hf; intro a hf
     refine sY hf hs rfl rfl rfl (Y_assign rfl rfl) ?_; clear hf; intro a hf
     refine wpO_nil ?_
     obtain rfl := Option.some.inj hm50
     try dsimp only at hm
     obtain rfl := Option.some.inj hm
     refine wpL_ret (Qb_ret (Ql_ret (Qb_ret (ret_tmp rfl hf rfl ?_))))
     exact ⟨_, rfl, A57, n58, c59, rfl, hn64, hs⟩
    ·have hm50 := bif_f hm50 hb66
     refine wpL_skip ?_
     refine wpL_nil (Qb_normal ?_)
     refine wpL_region ?_
     refine sY hf hs rfl rfl rfl (Y_move rfl rfl) ?_; clear hf; intro a hf
     refine sY hf hs rfl rfl rfl (Y_add rfl rfl rfl) ?_; clear hf; intro a hf
     refine sY hf hs rfl rfl rfl (Y_assign rfl rfl) ?_; clear hf; intro a hf
     refine wpO_nil ?_
     refine wpL_nil (Ql_normal ?_)
     exact ⟨(IntKind.i64.wrap (x32 + 1)), hm50, (FrD.pick (FrD.pick (FrD.pick hf.none hf rfl) hf rfl) hf rfl), hs.sel [] (by decide)⟩
   ·have hm50 := bif_f hm50 hb52
    refine wpL_exit (Ql_exit (Qb_exit ?_))
    exact ⟨Option.some.inj hm50, hf.none, hs⟩
 ·rintro a w ⟨hr_, hf, hs⟩
  subst hr_
  try dsimp only at hm
  refine wpL_seq <| wpL_region ?_
  refine sY hf hs rfl rfl rfl (Y_assign rfl rfl) ?_; clear hf; intro a hf
  refine wpO_nil ?_
  have hs : St [] W _ [.row none 0 0 2 1 (ints ([] : List Int))] := hs.addNil 2 1
  obtain rfl := Option.some.inj hm
  refine wpL_ret (ret_tmp rfl hf rfl ?_)
  exact ⟨_, rfl, none, 0, 0, rfl, rfl, hs⟩

set_option maxRecDepth 100000 in
theorem spec_l12Dead_ok (F : Nat) (ae : GEventGraph) (ad : Option Addr) (ao af : Nat) (au : ao = ae.Places.length) (r : List Int) (W : World) (hm : spec_l12Dead F ae = some r) (ap : Rd W ad ((recs GPlace.cells) ae.Places)) :
  Calls Try.prog 139 [.agg #[.int .i64 ae.Events, .slice ad ao af]].toArray W fun e w' => ∃ v, e = .returned v ∧ ∃ A15, ∃ n16, ∃ c17, v = .slice A15 n16 c17 ∧ n16 = r.length ∧ St [] W w' [.row A15 n16 c17 2 1 (ints r)] := by
 subst au
 unfold spec_l12Dead at hm
 refine Calls.enter (N := 6) Try.func139 rfl rfl rfl (fun a hf => ?_)
 have hs := St.start W
 obtain ⟨w, hw_⟩ : ∃ w, w = W := ⟨W, rfl⟩
 clear hw_ w
 refine wpL_seq <| wpL_region ?_
 refine sBox hf hs rfl rfl rfl rfl rfl (cs := [.int .i64 ae.Events, .slice ad ae.Places.length af]) rfl ?_; clear hf hs; intro a w b1 hs hf
 have hs : St [] W w [.blk b1 52 [.int .i64 ae.Events, .slice ad ae.Places.length af]] := hs
 refine sY hf hs rfl rfl rfl (Y_assign rfl rfl) ?_; clear hf; intro a hf
 refine wpO_nil <| wpL_seq <| wpL_region ?_
 refine sY hf hs rfl rfl rfl (Y_load_blkS rfl rfl (i := 0) rfl ag52 ti52 rfl) ?_; clear hf; intro a hf
 obtain ⟨r2, hc3, hm⟩ := bind_some hm
 refine sCall hf rfl rfl rfl rfl (cap := []) rfl rfl en181 (spec_l12Free_ok F ae ad ae.Places.length af rfl _ _ hc3 (ap.at hs)) ?_; clear hf
 rintro _ w ⟨A4, n5, c6, vs8, rfl, hn7, hs1⟩ a hf
 have hs : St [] W w [.blk b1 52 [.int .i64 ae.Events, .slice ad ae.Places.length af], .mat A4 n5 c6 23 2 vs8 r2] := hs.join hs1
 clear hs1
 obtain ⟨r9, hc10, hm⟩ := bind_some hm
 refine sCall hf rfl rfl rfl rfl (cap := []) rfl rfl en180 (spec_l03Over_ok F r2 A4 n5 c6 hn7 (-1) _ _ hc10 (hs.rdM (i := 1) rfl)) ?_; clear hf
 rintro _ w ⟨A11, n12, c13, rfl, hn14, hs1⟩ a hf
 have hs : St [] W w [.blk b1 52 [.int .i64 ae.Events, .slice ad ae.Places.length af], .mat A4 n5 c6 23 2 vs8 r2, .row A11 n12 c13 2 1 (ints r9)] := hs.join hs1
 clear hs1
 refine sY hf hs rfl rfl rfl (Y_assign rfl rfl) ?_; clear hf; intro a hf
 refine wpO_nil ?_
 obtain rfl := Option.some.inj hm
 refine wpL_ret (ret_tmp rfl hf rfl ?_)
 exact ⟨_, rfl, A11, n12, c13, rfl, hn14, hs.sel [2] (by decide)⟩

set_option maxRecDepth 100000 in
theorem spec_l12Live_ok (F : Nat) (ae : GEventGraph) (ad : Option Addr) (ao af : Nat) (au : ao = ae.Places.length) (r : Int) (W : World) (hm : spec_l12Live F ae = some r) (ap : Rd W ad ((recs GPlace.cells) ae.Places)) :
  Calls Try.prog 154 [.agg #[.int .i64 ae.Events, .slice ad ao af]].toArray W fun e w' => ∃ v, e = .returned v ∧ v = .int .i64 r ∧ St [] W w' [] := by
 subst au
 unfold spec_l12Live at hm
 refine Calls.enter (N := 12) Try.func154 rfl rfl rfl (fun a hf => ?_)
 have hs := St.start W
 obtain ⟨w, hw_⟩ : ∃ w, w = W := ⟨W, rfl⟩
 clear hw_ w
 refine wpL_seq <| wpL_region ?_
 refine sBox hf hs rfl rfl rfl rfl rfl (cs := [.int .i64 ae.Events, .slice ad ae.Places.length af]) rfl ?_; clear hf hs; intro a w b1 hs hf
 have hs : St [] W w [.blk b1 52 [.int .i64 ae.Events, .slice ad ae.Places.length af]] := hs
 refine sY hf hs rfl rfl rfl (Y_assign rfl rfl) ?_; clear hf; intro a hf
 refine wpO_nil <| wpL_seq <| wpL_block0 <| wpL_seq <| wpL_region ?_
 refine sY hf hs rfl rfl rfl (Y_load_blkS rfl rfl (i := 0) rfl ag52 ti52 rfl) ?_; clear hf; intro a hf
 obtain ⟨r2, hc3, hm⟩ := bind_some hm
 refine sCall hf rfl rfl rfl rfl (cap := []) rfl rfl en178 (spec_IsEventGraph_ok F ae ad ae.Places.length af rfl _ _ hc3 (ap.at hs)) ?_; clear hf
 rintro _ w ⟨rfl, hs1⟩ a hf
 have hs : St [] W w [.blk b1 52 [.int .i64 ae.Events, .slice ad ae.Places.length af]] := hs.ext hs1.below
 clear hs1
 refine sY hf hs rfl rfl rfl (Y_not rfl rfl) ?_; clear hf; intro a hf
 refine sY hf hs rfl rfl rfl (Y_assign rfl rfl) ?_; clear hf; intro a hf
 refine wpO_nil ?_
 refine wpL_cond hf rfl (fun hb4 => ?_) (fun hb4 => ?_)
 ·have hm := bif_t hm hb4
  refine wpL_seq <| wpL_region ?_
  refine sY hf hs rfl rfl rfl (Y_assign rfl rfl) ?_; clear hf; intro a hf
  refine wpO_nil ?_
  obtain rfl := Option.some.inj hm
  refine wpL_ret (Qb_ret (ret_tmp rfl hf rfl ?_))
  exact ⟨_, rfl, rfl, hs.sel [] (by decide)⟩
 ·have hm := bif_f hm hb4
  refine wpL_seq <| wpL_region ?_
  refine sY hf hs rfl rfl rfl (Y_load_blkS rfl rfl (i := 0) rfl ag52 ti52 rfl) ?_; clear hf; intro a hf
  obtain ⟨r5, hc6, hm⟩ := bind_some hm
  refine sCall hf rfl rfl rfl rfl (cap := []) rfl rfl en139 (spec_l12Dead_ok F ae ad ae.Places.length af rfl _ _ hc6 (ap.at hs)) ?_; clear hf
  rintro _ w ⟨A7, n8, c9, rfl, hn10, hs1⟩ a hf
  have hs : St [] W w [.blk b1 52 [.int .i64 ae.Events, .slice ad ae.Places.length af], .row A7 n8 c9 2 1 (ints r5)] := hs.join hs1
  clear hs1
  refine sY hf hs rfl rfl rfl (Y_lenH rfl rfl el23 hn10) ?_; clear hf; intro a hf
  refine sY hf hs rfl rfl rfl (Y_gtr rfl rfl rfl) ?_; clear hf; intro a hf
  refine sY hf hs rfl rfl rfl (Y_assign rfl rfl) ?_; clear hf; intro a hf
  refine wpO_nil ?_
  refine wpL_cond hf rfl (fun hb11 => ?_) (fun hb11 => ?_)
  ·have hm := bif_t hm hb11
   refine wpL_seq <| wpL_region ?_
   refine sY hf hs rfl rfl rfl (Y_assign rfl rfl) ?_; clear hf; intro a hf
   refine wpO_nil ?_
   obtain rfl := Option.some.inj hm
   refine wpL_ret (Qb_ret (ret_tmp rfl hf rfl ?_))
   exact ⟨_, rfl, rfl, hs.sel [] (by decide)⟩
  ·have hm := bif_f hm hb11
   refine wpL_skip ?_
   refine wpL_nil (Qb_normal ?_)
   refine wpL_seq <| wpL_region ?_
   refine sY hf hs rfl rfl rfl (Y_assign rfl rfl) ?_; clear hf; intro a hf
   refine wpO_nil ?_
   obtain rfl := Option.some.inj hm
   refine wpL_ret (ret_tmp rfl hf rfl ?_)
   exact ⟨_, rfl, rfl, hs.sel [] (by decide)⟩

set_option maxRecDepth 100000 in
theorem spec_l13Code_ok (F : Nat) (ae : GEventGraph) (ad : Option Addr) (ao af : Nat) (au : ao = ae.Places.length) (cR : Bool) (r : Int) (W : World) (hm : spec_l13Code F ae cR = some r) (ap : Rd W ad ((recs GPlace.cells) ae.Places)) :
  Calls Try.prog 104 [.agg #[.int .i64 ae.Events, .slice ad ao af], .bool cR].toArray W fun e w' => ∃ v, e = .returned v ∧ v = .int .i64 r ∧ St [] W w' [] := by
 subst au
 unfold spec_l13Code at hm
 refine Calls.enter (N := 15) Try.func104 rfl rfl rfl (fun a hf => ?_)
 have hs := St.start W
 obtain ⟨w, hw_⟩ : ∃ w, w = W := ⟨W, rfl⟩
 clear hw_ w
 refine wpL_seq <| wpL_region ?_
 refine sBox hf hs rfl rfl rfl rfl rfl (cs := [.int .i64 ae.Events, .slice ad ae.Places.length af]) rfl ?_; clear hf hs; intro a w b1 hs hf
 have hs : St [] W w [.blk b1 52 [.int .i64 ae.Events, .slice ad ae.Places.length af]] := hs
 refine sY hf hs rfl rfl rfl (Y_assign rfl rfl) ?_; clear hf; intro a hf
 refine wpO_nil <| wpL_seq <| wpL_region ?_
 refine sY hf hs rfl rfl rfl (Y_load_blkS rfl rfl (i := 0) rfl ag52 ti52 rfl) ?_; clear hf; intro a hf
 obtain ⟨r2, hc3, hm⟩ := bind_some hm
 refine sCall hf rfl rfl rfl rfl (cap := []) rfl rfl en154 (spec_l12Live_ok F ae ad ae.Places.length af rfl _ _ hc3 (ap.at hs)) ?_; clear hf
 rintro _ w ⟨rfl, hs1⟩ a hf
 have hs : St [] W w [.blk b1 52 [.int .i64 ae.Events, .slice ad ae.Places.length af]] := hs.ext hs1.below
 clear hs1
 refine sY hf hs rfl rfl rfl (Y_assign rfl rfl) ?_; clear hf; intro a hf
 refine wpO_nil <| wpL_seq <| wpL_seq ?_
 obtain ⟨r6, hj7, hm⟩ := bind_some hm
 refine wpL_cut (fun a w => ∃ b5 : Bool, b5 = r6 ∧ Fr a 15 [(5, .int .i64 r2), (13, .bool b5)] ∧ St [] W w []) ?_ ?_
 ·refine wpL_region ?_
  refine sY hf hs rfl rfl rfl (Y_move rfl rfl) ?_; clear hf; intro a hf
  refine sY hf hs rfl rfl rfl (Y_neq rfl rfl rfl) ?_; clear hf; intro a hf
  refine sY hf hs rfl rfl rfl (Y_move rfl rfl) ?_; clear hf; intro a hf
  refine bsplit (r2 != 1) (fun hb8 => ?_) (fun hb8 => ?_)
  ·have hj7 := bif_t hj7 hb8
   refine sYg hf hs rfl rfl rfl (congrArg (fun b => some (Value.bool b)) hb8) rfl rfl rfl (Y_move rfl rfl) ?_; clear hf; intro a hf
   refine sYg hf hs rfl rfl rfl (congrArg (fun b => some (Value.bool b)) hb8) rfl rfl rfl (Y_not rfl rfl) ?_; clear hf; intro a hf
   refine sY hf hs rfl rfl rfl (Y_pickT rfl (congrArg (fun b => some (Value.bool b)) hb8) rfl) ?_; clear hf; intro a hf
   refine wpO_nil ?_
   refine wpL_nil (then_normal ?_)
   exact ⟨(!cR), Option.some.inj hj7, (FrD.pick (FrD.pick hf.none hf rfl) hf rfl), hs.sel [] (by decide)⟩
  ·have hj7 := bif_f hj7 hb8
   refine sNo hf rfl rfl rfl (congrArg (fun b => some (Value.bool b)) hb8) rfl rfl rfl ?_; clear hf; intro a hf
   refine sNo hf rfl rfl rfl (congrArg (fun b => some (Value.bool b)) hb8) rfl rfl rfl ?_; clear hf; intro a hf
   refine sY hf hs rfl rfl rfl (Y_pickF rfl (congrArg (fun b => some (Value.bool b)) hb8) rfl) ?_; clear hf; intro a hf
   refine wpO_nil ?_
   refine wpL_nil (then_normal ?_)
   exact ⟨false, Option.some.inj hj7, (FrD.pick (FrD.pick hf.none hf rfl) hf rfl), hs.sel [] (by decide)⟩
 ·rintro a w ⟨b5, hr_, hf, hs⟩
  subst hr_
  try dsimp only at hm
  refine wpL_cond hf rfl (fun hb9 => ?_) (fun hb9 => ?_)
  ·have hm := bif_t hm hb9
   refine wpL_seq <| wpL_region ?_
   refine sY hf hs rfl rfl rfl (Y_assign rfl rfl) ?_; clear hf; intro a hf
   refine wpO_nil ?_
   obtain rfl := Option.some.inj hm
   refine wpL_ret (ret_tmp rfl hf rfl ?_)
   exact ⟨_, rfl, rfl, hs⟩
  ·have hm := bif_f hm hb9
   refine wpL_skip <| wpL_seq <| wpL_region ?_
   refine sY hf hs rfl rfl rfl (Y_move rfl rfl) ?_; clear hf; intro a hf
   refine sY hf hs rfl rfl rfl (Y_assign rfl rfl) ?_; clear hf; intro a hf
   refine wpO_nil ?_
   obtain rfl := Option.some.inj hm
   refine wpL_ret (ret_tmp rfl hf rfl ?_)
   exact ⟨_, rfl, rfl, hs⟩

set_option maxRecDepth 100000 in
theorem spec_l12Order_ok (F : Nat) (ae : GEventGraph) (ad : Option Addr) (ao af : Nat) (au : ao = ae.Places.length) (r : List Int) (W : World) (hm : spec_l12Order F ae = some r) (ap : Rd W ad ((recs GPlace.cells) ae.Places)) :
  Calls Try.prog 145 [.agg #[.int .i64 ae.Events, .slice ad ao af]].toArray W fun e w' => ∃ v, e = .returned v ∧ ∃ A2046, ∃ n2047, ∃ c2048, v = .slice A2046 n2047 c2048 ∧ n2047 = r.length ∧ St [] W w' [.row A2046 n2047 c2048 2 1 (ints r)] := by
 subst au
 unfold spec_l12Order at hm
 refine Calls.enter (N := 54) Try.func145 rfl rfl rfl (fun a hf => ?_)
 have hs := St.start W
 obtain ⟨w, hw_⟩ : ∃ w, w = W := ⟨W, rfl⟩
 clear hw_ w
 refine wpL_seq <| wpL_region ?_
 refine sBox hf hs rfl rfl rfl rfl rfl (cs := [.int .i64 ae.Events, .slice ad ae.Places.length af]) rfl ?_; clear hf hs; intro a w b1 hs hf
 have hs : St [] W w [.blk b1 52 [.int .i64 ae.Events, .slice ad ae.Places.length af]] := hs
 refine sY hf hs rfl rfl rfl (Y_assign rfl rfl) ?_; clear hf; intro a hf
 refine wpO_nil <| wpL_seq <| wpL_region ?_
 refine sY hf hs rfl rfl rfl (Y_load_blkS rfl rfl (i := 0) rfl ag52 ti52 rfl) ?_; clear hf; intro a hf
 obtain ⟨r2, hc3, hm⟩ := bind_some hm
 refine sCall hf rfl rfl rfl rfl (cap := []) rfl rfl en181 (spec_l12Free_ok F ae ad ae.Places.length af rfl _ _ hc3 (ap.at hs)) ?_; clear hf
 rintro _ w ⟨A4, n5, c6, vs8, rfl, hn7, hs1⟩ a hf
 have hs : St [] W w [.blk b1 52 [.int .i64 ae.Events, .slice ad ae.Places.length af], .mat A4 n5 c6 23 2 vs8 r2] := hs.join hs1
 clear hs1
 refine sY hf hs rfl rfl rfl (Y_assign rfl rfl) ?_; clear hf; intro a hf
 refine wpO_nil <| wpL_seq <| wpL_region ?_
 refine sEmpty hf hs rfl rfl rfl rfl el23 ti2 ?_; clear hf hs; intro a w A9 hs hf
 have hs : St [] W w [.blk b1 52 [.int .i64 ae.Events, .slice ad ae.Places.length af], .mat A4 n5 c6 23 2 vs8 r2, .row A9 0 0 2 1 (ints ([] : List Int))] := hs
 refine sY hf hs rfl rfl rfl (Y_assign rfl rfl) ?_; clear hf; intro a hf
 refine wpO_nil <| wpL_seq ?_
 obtain ⟨r1538, hl1539, hm⟩ := bind_some hm
 refine wpL_block (fun a w => ∃ xs1533 : List Int, ∃ A1534, ∃ n1535, ∃ c1536, xs1533 = r1538 ∧ n1535 = xs1533.length ∧ Fr a 54 [(4, .slice A1534 n1535 c1536)] ∧ St [] W w [.row A1534 n1535 c1536 2 1 (ints xs1533)]) ?_ ?_
 ·refine wpL_loop (fun n a w => ∃ xs1024 : List Int, ∃ A1025, ∃ n1026, ∃ c1027, spec_l12Order_L16 F ae r2 n xs1024 = some r1538 ∧ n1026 = xs1024.length ∧ Fr a 54 [(1, .pointer (some ⟨b1, 0, none⟩)), (3, .slice A4 n5 c6), (4, .slice A1025 n1026 c1027)] ∧ St [] W w [.blk b1 52 [.int .i64 ae.Events, .slice ad ae.Places.length af], .mat A4 n5 c6 23 2 vs8 r2, .row A1025 n1026 c1027 2 1 (ints xs1024)]) F ?_ ?_ ?_
  ·exact ⟨([] : List Int), A9, 0, 0, hl1539, rfl, (FrD.pick (FrD.pick (FrD.pick hf.none hf rfl) hf rfl) hf rfl), hs⟩
  ·rintro a w ⟨xs1024, A1025, n1026, c1027, h0_, -, -, -⟩; simp [spec_l12Order_L16] at h0_
  ·rintro n1541 a w ⟨xs1024, A1025, n1026, c1027, hm1540, hn1028, hf, hs⟩
   rw [spec_l12Order_L16] at hm1540
   refine wpL_seq <| wpL_seq <| wpL_region ?_
   refine sY hf hs rfl rfl rfl (Y_move rfl rfl) ?_; clear hf; intro a hf
   refine sY hf hs rfl rfl rfl (Y_lenH rfl rfl el23 hn1028) ?_; clear hf; intro a hf
   refine sY hf hs rfl rfl rfl (Y_fieldAddr rfl rfl fo52_0) ?_; clear hf; intro a hf
   refine sY hf hs rfl rfl rfl (Y_load_blk rfl rfl (i := 0) rfl rfl ag2) ?_; clear hf; intro a hf
   refine sY hf hs rfl rfl rfl (Y_lss rfl rfl rfl) ?_; clear hf; intro a hf
   refine wpO_nil ?_
   refine wpL_cond hf rfl (fun hb1542 => ?_) (fun hb1542 => ?_)
   ·have hm1540 := bif_t hm1540 hb1542
    refine wpL_skip <| wpL_block0 <| wpL_seq <| wpL_region ?_
    refine sY hf hs rfl rfl rfl (Y_assign rfl rfl) ?_; clear hf; intro a hf
    refine wpO_nil ?_
    obtain ⟨r1919, hl1920, hm1540⟩ := bind_some hm1540
    refine wpL_block (fun a w => ∃ xs1914 : List Int, ∃ A1915, ∃ n1916, ∃ c1917, xs1914 = r1919 ∧ n1916 = xs1914.length ∧ Fr a 54 [(1, .pointer (some ⟨b1, 0, none⟩)), (3, .slice A4 n5 c6), (4, .slice A1915 n1916 c1917)] ∧ St [] W w [.blk b1 52 [.int .i64 ae.Events, .slice ad ae.Places.length af], .mat A4 n5 c6 23 2 vs8 r2, .row A1915 n1916 c1917 2 1 (ints xs1914)]) ?_ ?_
    ·refine wpL_loop (fun n a w => ∃ x1790 : Int, spec_l12Order_L20 F ae r2 xs1024 n x1790 = some r1919 ∧ Fr a 54 [(1, .pointer (some ⟨b1, 0, none⟩)), (3, .slice A4 n5 c6), (4, .slice A1025 n1026 c1027), (5, .int .i64 x1790)] ∧ St [] W w [.blk b1 52 [.int .i64 ae.Events, .slice ad ae.Places.length af], .mat A4 n5 c6 23 2 vs8 r2, .row A1025 n1026 c1027 2 1 (ints xs1024)]) F ?_ ?_ ?_
     ·exact ⟨0, hl1920, (FrD.pick (FrD.pick (FrD.pick (FrD.pick hf.none hf rfl) hf rfl) hf rfl) hf rfl), hs⟩
     ·rintro a w ⟨x1790, h0_, -, -⟩; simp [spec_l12Order_L20] at h0_
     ·rintro n1922 a w ⟨x1790, hm1921, hf, hs⟩
      rw [spec_l12Order_L20] at hm1921
      refine wpL_seq <| wpL_seq <| wpL_region ?_
      refine sY hf hs rfl rfl rfl (Y_move rfl rfl) ?_; clear hf; intro a hf
      refine sY hf hs rfl rfl rfl (Y_fieldAddr rfl rfl fo52_0) ?_; clear hf; intro a hf
      refine sY hf hs rfl rfl rfl (Y_load_blk rfl rfl (i := 0) rfl rfl ag2) ?_; clear hf; intro a hf
      refine sY hf hs rfl rfl rfl (Y_lss rfl rfl rfl) ?_; clear hf; intro a hf
      refine wpO_nil ?_
      refine wpL_cond hf rfl (fun hb1923 => ?_) (fun hb1923 => ?_)
      ·have hm1921 := bif_t hm1921 hb1923
       refine wpL_skip <| wpL_seq <| wpL_block0 <| wpL_seq <| wpL_region ?_
       refine sY hf hs rfl rfl rfl (Y_move rfl rfl) ?_; clear hf; intro a hf
       refine sY hf hs rfl rfl rfl (Y_move rfl rfl) ?_; clear hf; intro a hf
       obtain ⟨r1924, hc1925, hm1921⟩ := bind_some hm1921
       refine sCall hf rfl rfl rfl rfl (cap := []) rfl rfl en188 (spec_l01Has_ok F xs1024 A1025 n1026 c1027 hn1028 x1790 _ _ hc1925 (hs.rd (i := 2) rfl)) ?_; clear hf
       rintro _ w ⟨rfl, hs1⟩ a hf
       have hs : St [] W w [.blk b1 52 [.int .i64 ae.Events, .slice ad ae.Places.length af], .mat A4 n5 c6 23 2 vs8 r2, .row A1025 n1026 c1027 2 1 (ints xs1024)] := hs.ext hs1.below
       clear hs1
       refine sY hf hs rfl rfl rfl (Y_not rfl rfl) ?_; clear hf; intro a hf
       refine sY hf hs rfl rfl rfl (Y_assign rfl rfl) ?_; clear hf; intro a hf
       refine wpO_nil <| wpL_seq <| wpL_seq <| wpL_region ?_
       refine sY hf hs rfl rfl rfl (Y_assign rfl rfl) ?_; clear hf; intro a hf
       refine wpO_nil ?_
       obtain ⟨r2009, hl2010, hm1921⟩ := bind_some hm1921
       refine wpL_block (fun a w => ∃ b2008 : Bool, b2008 = r2009 ∧ Fr a 54 [(1, .pointer (some ⟨b1, 0, none⟩)), (3, .slice A4 n5 c6), (4, .slice A1025 n1026 c1027), (5, .int .i64 x1790), (6, .bool b2008)] ∧ St [] W w [.blk b1 52 [.int .i64 ae.Events, .slice ad ae.Places.length af], .mat A4 n5 c6 23 2 vs8 r2, .row A1025 n1026 c1027 2 1 (ints xs1024)]) ?_ ?_
       ·refine wpL_loop (fun n a w => ∃ b1980 : Bool, ∃ x1981 : Int, spec_l12Order_L21 F ae r2 xs1024 x1790 n b1980 x1981 = some r2009 ∧ Fr a 54 [(1, .pointer (some ⟨b1, 0, none⟩)), (3, .slice A4 n5 c6), (4, .slice A1025 n1026 c1027), (5, .int .i64 x1790), (6, .bool b1980), (7, .int .i64 x1981)] ∧ St [] W w [.blk b1 52 [.int .i64 ae.Events, .slice ad ae.Places.length af], .mat A4 n5 c6 23 2 vs8 r2, .row A1025 n1026 c1027 2 1 (ints xs1024)]) F ?_ ?_ ?_
        ·exact ⟨(!r1924), 0, hl2010, (FrD.pick (FrD.pick (FrD.pick (FrD.pick (FrD.pick (FrD.pick hf.none hf rfl) hf rfl) hf rfl) hf rfl) hf rfl) hf rfl), hs⟩
        ·rintro a w ⟨b1980, x1981, h0_, -, -⟩; simp [spec_l12Order_L21] at h0_
        ·rintro n2012 a w ⟨b1980, x1981, hm2011, hf, hs⟩
         rw [spec_l12Order_L21] at hm2011
         refine wpL_seq <| wpL_seq <| wpL_region ?_
         refine sY hf hs rfl rfl rfl (Y_move rfl rfl) ?_; clear hf; intro a hf
         refine sY hf hs rfl rfl rfl (Y_fieldAddr rfl rfl fo52_0) ?_; clear hf; intro a hf
         refine sY hf hs rfl rfl rfl (Y_load_blk rfl rfl (i := 0) rfl rfl ag2) ?_; clear hf; intro a hf
         refine sY hf hs rfl rfl rfl (Y_lss rfl rfl rfl) ?_; clear hf; intro a hf
         refine wpO_nil ?_
         refine wpL_cond hf rfl (fun hb2013 => ?_) (fun hb2013 => ?_)
         ·have hm2011 := bif_t hm2011 hb2013
          refine wpL_skip <| wpL_seq <| wpL_block0 ?_
          obtain ⟨r2026, hj2027, hm2011⟩ := bind_some hm2011
          refine wpL_cut (fun a w => ∃ b2025 : Bool, b2025 = r2026 ∧ Fr a 54 [(1, .pointer (some ⟨b1, 0, none⟩)), (3, .slice A4 n5 c6), (4, .slice A1025 n1026 c1027), (5, .int .i64 x1790), (6, .bool b2025), (7, .int .i64 x1981)] ∧ St [] W w [.blk b1 52 [.int .i64 ae.Events, .slice ad ae.Places.length af], .mat A4 n5 c6 23 2 vs8 r2, .row A1025 n1026 c1027 2 1 (ints xs1024)]) ?_ ?_
          ·refine wpL_region ?_
           refine sY hf hs rfl rfl rfl (Y_move rfl rfl) ?_; clear hf; intro a hf
           refine sY hf hs rfl rfl rfl (Y_move rfl rfl) ?_; clear hf; intro a hf
           refine bsplit b1980 (fun hb2028 => ?_) (fun hb2028 => ?_)
           ·have hj2027 := bif_t hj2027 hb2028
            refine sYg hf hs rfl rfl rfl (congrArg (fun b => some (Value.bool b)) hb2028) rfl rfl rfl (Y_move rfl rfl) ?_; clear hf; intro a hf
            refine sYg hf hs rfl rfl rfl (congrArg (fun b => some (Value.bool b)) hb2028) rfl rfl rfl (Y_move rfl rfl) ?_; clear hf; intro a hf
            obtain ⟨q2029, hi2030, hj2027⟩ := bind_some hj2027
            obtain ⟨hi2030a, hi2030b, hi2030q⟩ := idx_some hi2030
            obtain ⟨A2031, c2032, hv2033⟩ := hs.matRow (i := 1) rfl hi2030q
            refine sYg hf hs rfl rfl rfl (congrArg (fun b => some (Value.bool b)) hb2028) rfl rfl rfl (Y_index rfl rfl rfl el59 ti23 (Rd.isAt (hs.rdV (i := 1) rfl) hv2033) hi2030a (ltn hn7 hi2030b)) ?_; clear hf; intro a hf
            refine sYg hf hs rfl rfl rfl (congrArg (fun b => some (Value.bool b)) hb2028) rfl rfl rfl (Y_load_rd rfl rfl (fun w hs => hs.rdV (i := 1) rfl) (at1 hv2033) ag23) ?_; clear hf; intro a hf
            refine sYg hf hs rfl rfl rfl (congrArg (fun b => some (Value.bool b)) hb2028) rfl rfl rfl (Y_move rfl rfl) ?_; clear hf; intro a hf
            obtain ⟨q2034, hi2035, hj2027⟩ := bind_some hj2027
            obtain ⟨hi2035a, hi2035b, hi2035q⟩ := idx_some hi2035
            refine sYg hf hs rfl rfl rfl (congrArg (fun b => some (Value.bool b)) hb2028) rfl rfl rfl (Y_index rfl rfl rfl el23 ti2 (Rd.isAt (hs.rdRow (i := 1) rfl ⟨hi2030q, hv2033⟩) (at1 (ints_at hi2035q))) hi2035a hi2035b) ?_; clear hf; intro a hf
            refine sYg hf hs rfl rfl rfl (congrArg (fun b => some (Value.bool b)) hb2028) rfl rfl rfl (Y_load_rd rfl rfl (fun w hs => hs.rdRow (i := 1) rfl ⟨hi2030q, hv2033⟩) (at1 (ints_at hi2035q)) ag2) ?_; clear hf; intro a hf
            refine sYg hf hs rfl rfl rfl (congrArg (fun b => some (Value.bool b)) hb2028) rfl rfl rfl (Y_eql rfl rfl rfl) ?_; clear hf; intro a hf
            refine sYg hf hs rfl rfl rfl (congrArg (fun b => some (Value.bool b)) hb2028) rfl rfl rfl (Y_move rfl rfl) ?_; clear hf; intro a hf
            refine bsplit (q2034 == (-1000000000000000)) (fun hb2036 => ?_) (fun hb2036 => ?_)
            ·have hj2027 := bif_t hj2027 hb2036
             refine sNo hf rfl rfl rfl (congrArg (fun b => some (Value.bool b)) hb2036) rfl rfl rfl ?_; clear hf; intro a hf
             refine sNo hf rfl rfl rfl (congrArg (fun b => some (Value.bool b)) hb2036) rfl rfl rfl ?_; clear hf; intro a hf
             refine sNo hf rfl rfl rfl (congrArg (fun b => some (Value.bool b)) hb2036) rfl rfl rfl ?_; clear hf; intro a hf
             refine sYg hf hs rfl rfl rfl (congrArg (fun b => some (Value.bool b)) hb2028) rfl rfl rfl (Y_pickT rfl (congrArg (fun b => some (Value.bool b)) hb2036) rfl) ?_; clear hf; intro a hf
             refine sY hf hs rfl rfl rfl (Y_pickT rfl (congrArg (fun b => some (Value.bool b)) hb2028) rfl) ?_; clear hf; intro a hf
             refine sY hf hs rfl rfl rfl (Y_assign rfl rfl) ?_; clear hf; intro a hf
             refine wpO_nil ?_
             refine wpL_nil (then_normal ?_)
             exact ⟨true, Option.some.inj hj2027, (FrD.pick (FrD.pick (FrD.pick (FrD.pick (FrD.pick (FrD.pick hf.none hf rfl) hf rfl) hf rfl) hf rfl) hf rfl) hf rfl), hs⟩
            ·have hj2027 := bif_f hj2027 hb2036
             refine sYg hf hs rfl rfl rfl (congrArg (fun b => some (Value.bool b)) hb2036) rfl rfl rfl (Y_move rfl rfl) ?_; clear hf; intro a hf
             refine sYg hf hs rfl rfl rfl (congrArg (fun b => some (Value.bool b)) hb2036) rfl rfl rfl (Y_move rfl rfl) ?_; clear hf; intro a hf
             obtain ⟨r2037, hc2038, hj2027⟩ := bind_some hj2027
             refine sCallg hf rfl rfl rfl (congrArg (fun b => some (Value.bool b)) hb2036) rfl rfl rfl rfl (cap := []) rfl rfl en188 (spec_l01Has_ok F xs1024 A1025 n1026 c1027 hn1028 x1981 _ _ hc2038 (hs.rd (i := 2) rfl)) ?_; clear hf
             rintro _ w ⟨rfl, hs1⟩ a hf
             have hs : St [] W w [.blk b1 52 [.int .i64 ae.Events, .slice ad ae.Places.length af], .mat A4 n5 c6 23 2 vs8 r2, .row A1025 n1026 c1027 2 1 (ints xs1024)] := hs.ext hs1.below
             clear hs1
             refine sYg hf hs rfl rfl rfl (congrArg (fun b => some (Value.bool b)) hb2028) rfl rfl rfl (Y_pickF rfl (congrArg (fun b => some (Value.bool b)) hb2036) rfl) ?_; clear hf; intro a hf
             refine sY hf hs rfl rfl rfl (Y_pickT rfl (congrArg (fun b => some (Value.bool b)) hb2028) rfl) ?_; clear hf; intro a hf
             refine sY hf hs rfl rfl rfl (Y_assign rfl rfl) ?_; clear hf; intro a hf
             refine wpO_nil ?_
             refine wpL_nil (then_normal ?_)
             exact ⟨r2037, Option.some.inj hj2027, (FrD.pick (FrD.pick (FrD.pick (FrD.pick (FrD.pick (FrD.pick hf.none hf rfl) hf rfl) hf rfl) hf rfl) hf rfl) hf rfl), hs⟩
           ·have hj2027 := bif_f hj2027 hb2028
            refine sNo hf rfl rfl rfl (congrArg (fun b => some (Value.bool b)) hb2028) rfl rfl rfl ?_; clear hf; intro a hf
            refine sNo hf rfl rfl rfl (congrArg (fun b => some (Value.bool b)) hb2028) rfl rfl rfl ?_; clear hf; intro a hf
            refine sNo hf rfl rfl rfl (congrArg (fun b => some (Value.bool b)) hb2028) rfl rfl rfl ?_; clear hf; intro a hf
            refine sNo hf rfl rfl rfl (congrArg (fun b => some (Value.bool b)) hb2028) rfl rfl rfl ?_; clear hf; intro a hf
            refine sNo hf rfl rfl rfl (congrArg (fun b => some (Value.bool b)) hb2028) rfl rfl rfl ?_; clear hf; intro a hf
            refine sNo hf rfl rfl rfl (congrArg (fun b => some (Value.bool b)) hb2028) rfl rfl rfl ?_; clear hf; intro a hf
            refine sNo hf rfl rfl rfl (congrArg (fun b => some (Value.bool b)) hb2028) rfl rfl rfl ?_; clear hf; intro a hf
            refine sNo hf rfl rfl rfl (congrArg (fun b => some (Value.bool b)) hb2028) rfl rfl rfl ?_; clear hf; intro a hf
            refine sNo hf rfl rfl rfl (congrArg (fun b => some (Value.bool b)) hb2028) rfl rfl rfl ?_; clear hf; intro a hf
            refine sNoU hf rfl rfl rfl rfl rfl rfl rfl ?_; clear hf; intro a hf
            refine sNoU hf rfl rfl rfl rfl rfl rfl rfl ?_; clear hf; intro a hf
            refine sNoU hf rfl rfl rfl rfl rfl rfl rfl ?_; clear hf; intro a hf
            refine sNo hf rfl rfl rfl (congrArg (fun b => some (Value.bool b)) hb2028) rfl rfl rfl ?_; clear hf; intro a hf
            refine sY hf hs rfl rfl rfl (Y_pickF rfl (congrArg (fun b => some (Value.bool b)) hb2028) rfl) ?_; clear hf; intro a hf
            refine sY hf hs rfl rfl rfl (Y_assign rfl rfl) ?_; clear hf; intro a hf
            refine wpO_nil ?_
            refine wpL_nil (then_normal ?_)
            exact ⟨false, Option.some.inj hj2027, (FrD.pick (FrD.pick (FrD.pick (FrD.pick (FrD.pick (FrD.pick hf.none hf rfl) hf rfl) hf rfl) hf rfl) hf rfl) hf rfl), hs⟩
          ·rintro a w ⟨b2025, hr_, hf, hs⟩
           subst hr_
           try dsimp only at hm2011
           refine wpL_nil (Qb_normal ?_)
           refine wpL_region ?_
           refine sY hf hs rfl rfl rfl (Y_move rfl rfl) ?_; clear hf; intro a hf
           refine sY hf hs rfl rfl rfl (Y_add rfl rfl rfl) ?_; clear hf; intro a hf
           refine sY hf hs rfl rfl rfl (Y_assign rfl rfl) ?_; clear hf; intro a hf
           refine wpO_nil ?_
           refine wpL_nil (Ql_normal ?_)
           exact ⟨b2025, (IntKind.i64.wrap (x1981 + 1)), hm2011, (FrD.pick (FrD.pick (FrD.pick (FrD.pick (FrD.pick (FrD.pick hf.none hf rfl) hf rfl) hf rfl) hf rfl) hf rfl) hf rfl), hs⟩
         ·have hm2011 := bif_f hm2011 hb2013
          refine wpL_exit (Ql_exit (Qb_exit ?_))
          exact ⟨b1980, Option.some.inj hm2011, (FrD.pick (FrD.pick (FrD.pick (FrD.pick (FrD.pick hf.none hf rfl) hf rfl) hf rfl) hf rfl) hf rfl), hs⟩
       ·rintro a w ⟨b2008, hr_, hf, hs⟩
        subst hr_
        try dsimp only at hm1921
        refine wpL_seq <| wpL_region ?_
        refine sY hf hs rfl rfl rfl (Y_move rfl rfl) ?_; clear hf; intro a hf
        refine wpO_nil ?_
        refine wpL_cond hf rfl (fun hb2039 => ?_) (fun hb2039 => ?_)
        ·have hm1921 := bif_t hm1921 hb2039
         refine wpL_seq <| wpL_region ?_
         refine sY hf hs rfl rfl rfl (Y_move rfl rfl) ?_; clear hf; intro a hf
         refine sY hf hs rfl rfl rfl (Y_move rfl rfl) ?_; clear hf; intro a hf
         refine sBuildSlice (parts := [(0, .tmp 50)]) (vs := [.int .i64 x1790]) (cells := [.int .i64 x1790]) hf hs rfl rfl rfl rfl rfl el23 ti2 rfl rfl rfl rfl ?_; clear hf hs; intro a w A2040 hs hA2041 hf
         have hs : St [] W w [.blk b1 52 [.int .i64 ae.Events, .slice ad ae.Places.length af], .mat A4 n5 c6 23 2 vs8 r2, .row A1025 n1026 c1027 2 1 (ints xs1024), .row A2040 1 1 2 1 (ints ([x1790]))] := hs
         obtain ⟨xs2044, ha2045, hm1921⟩ := bind_some hm1921
         refine sAppendL (i := 2) (xs := xs1024) (ys := [x1790]) (enc := ints) hf hs rfl rfl rfl rfl rfl rfl hn1028 rfl rfl ha2045 el23 ti2 rfl rfl rfl (hs.rd (i := 3) rfl) (Nat.succ_pos _) ints_len1 ints_append ints_one ?_; clear hf hs; intro a w A2042 c2043 hs hf
         have hs : St [] W w [.blk b1 52 [.int .i64 ae.Events, .slice ad ae.Places.length af], .mat A4 n5 c6 23 2 vs8 r2, .row A2042 xs2044.length c2043 2 1 (ints xs2044), .row A2040 1 1 2 1 (ints ([x1790]))] := hs
         refine sY hf hs rfl rfl rfl (Y_assign rfl rfl) ?_; clear hf; intro a hf
         refine wpO_nil ?_
         refine wpL_exit (Qb_exit_ne rfl (Ql_exit (Qb_exit ?_)))
         exact ⟨xs2044, A2042, xs2044.length, c2043, Option.some.inj hm1921, rfl, (FrD.pick (FrD.pick (FrD.pick hf.none hf rfl) hf rfl) hf rfl), hs.sel [0, 1, 2] (by decide)⟩
        ·have hm1921 := bif_f hm1921 hb2039
         refine wpL_skip ?_
         refine wpL_nil (Qb_normal ?_)
         refine wpL_region ?_
         refine sY hf hs rfl rfl rfl (Y_move rfl rfl) ?_; clear hf; intro a hf
         refine sY hf hs rfl rfl rfl (Y_add rfl rfl rfl) ?_; clear hf; intro a hf
         refine sY hf hs rfl rfl rfl (Y_assign rfl rfl) ?_; clear hf; intro a hf
         refine wpO_nil ?_
         refine wpL_nil (Ql_normal ?_)
         exact ⟨(IntKind.i64.wrap (x1790 + 1)), hm1921, (FrD.pick (FrD.pick (FrD.pick (FrD.pick hf.none hf rfl) hf rfl) hf rfl) hf rfl), hs⟩
      ·have hm1921 := bif_f hm1921 hb1923
       refine wpL_exit (Ql_exit (Qb_exit ?_))
       exact ⟨xs1024, A1025, n1026, c1027, Option.some.inj hm1921, hn1028, (FrD.pick (FrD.pick (FrD.pick hf.none hf rfl) hf rfl) hf rfl), hs⟩
    ·rintro a w ⟨xs1914, A1915, n1916, c1917, hr_, hn1918, hf, hs⟩
     subst hr_
     try dsimp only at hm1540
     refine wpL_nil (Qb_normal ?_)
     refine wpL_nil (Ql_normal ?_)
     exact ⟨xs1914, A1915, n1916, c1917, hm1540, hn1918, (FrD.pick (FrD.pick (FrD.pick hf.none hf rfl) hf rfl) hf rfl), hs⟩
   ·have hm1540 := bif_f hm1540 hb1542
    refine wpL_exit (Ql_exit (Qb_exit ?_))
    exact ⟨xs1024, A1025, n1026, c1027, Option.some.inj hm1540, hn1028, (FrD.pick hf.none hf rfl), hs.sel [2] (by decide)⟩
 ·rintro a w ⟨xs1533, A1534, n1535, c1536, hr_, hn1537, hf, hs⟩
  subst hr_
  try dsimp only at hm
  refine wpL_seq <| wpL_region ?_
  refine sY hf hs rfl rfl rfl (Y_move rfl rfl) ?_; clear hf; intro a hf
  refine sY hf hs rfl rfl rfl (Y_assign rfl rfl) ?_; clear hf; intro a hf
  refine wpO_nil ?_
  obtain rfl := Option.some.inj hm
  refine wpL_ret (ret_tmp rfl hf rfl ?_)
  exact ⟨_, rfl, A1534, n1535, c1536, rfl, hn1537, hs⟩

set_option maxHeartbeats 2000000 in
set_option maxRecDepth 100000 in
theorem spec_l13Times_ok (F : Nat) (p0 : GEventGraph) (ai : Option Addr) (aL aj : Nat) (bo : aL = p0.Places.length) (p1 : Int) (p2 : List Int) (bh : Option Addr) (cg bk : Nat) (cC : cg = p2.length) (r : List (List Int)) (W : World) (hm : spec_l13Times F p0 p1 p2 = some r) (aJ : Rd W ai ((recs GPlace.cells) p0.Places)) (cH : Rd W bh (ints p2)) :
  Calls Try.prog 106 [.agg #[.int .i64 p0.Events, .slice ai aL aj], .int .i64 p1, .slice bh cg bk].toArray W fun e w' => ∃ v, e = .returned v ∧ ∃ A2559, ∃ n2560, ∃ c2561, ∃ vs2563, v = .slice A2559 n2560 c2561 ∧ n2560 = r.length ∧ St [] W w' [.mat A2559 n2560 c2561 23 2 vs2563 r] := by
 subst bo
 subst cC
 unfold spec_l13Times at hm
 refine Calls.enter (N := 86) Try.func106 rfl rfl rfl (fun a hf => ?_)
 have hs := St.start W
 obtain ⟨w, hw_⟩ : ∃ w, w = W := ⟨W, rfl⟩
 clear hw_ w
 refine wpL_seq <| wpL_region ?_
 refine sBox hf hs rfl rfl rfl rfl rfl (cs := [.int .i64 p0.Events, .slice ai p0.Places.length aj]) rfl ?_; clear hf hs; intro a w b1 hs hf
 have hs : St [] W w [.blk b1 52 [.int .i64 p0.Events, .slice ai p0.Places.length aj]] := hs
 refine sY hf hs rfl rfl rfl (Y_assign rfl rfl) ?_; clear hf; intro a hf
 refine wpO_nil <| wpL_seq <| wpL_region ?_
 refine sY hf hs rfl rfl rfl (Y_load_blkS rfl rfl (i := 0) rfl ag52 ti52 rfl) ?_; clear hf; intro a hf
 obtain ⟨r2, hc3, hm⟩ := bind_some hm
 refine sCall hf rfl rfl rfl rfl (cap := []) rfl rfl en145 (spec_l12Order_ok F p0 ai p0.Places.length aj rfl _ _ hc3 (aJ.at hs)) ?_; clear hf
 rintro _ w ⟨A4, n5, c6, rfl, hn7, hs1⟩ a hf
 have hs : St [] W w [.blk b1 52 [.int .i64 p0.Events, .slice ai p0.Places.length aj], .row A4 n5 c6 2 1 (ints r2)] := hs.join hs1
 clear hs1
 refine sY hf hs rfl rfl rfl (Y_assign rfl rfl) ?_; clear hf; intro a hf
 refine wpO_nil <| wpL_seq <| wpL_region ?_
 refine sEmptyM 2 hf hs rfl rfl rfl rfl el59 ti23 rfl ?_; clear hf hs; intro a w A8 hs hf
 have hs : St [] W w [.blk b1 52 [.int .i64 p0.Events, .slice ai p0.Places.length aj], .row A4 n5 c6 2 1 (ints r2), .mat A8 0 0 23 2 [] []] := hs
 refine sY hf hs rfl rfl rfl (Y_assign rfl rfl) ?_; clear hf; intro a hf
 refine wpO_nil <| wpL_seq <| wpL_seq <| wpL_region ?_
 refine sY hf hs rfl rfl rfl (Y_assign rfl rfl) ?_; clear hf; intro a hf
 refine wpO_nil ?_
 obtain ⟨r1924, hl1925, hm⟩ := bind_some hm
 refine wpL_block (fun a w => ∃ ms1918 : List (List Int), ∃ A1919, ∃ n1920, ∃ c1921, ∃ vs1923, ms1918 = r1924 ∧ n1920 = ms1918.length ∧ Fr a 86 [(8, .slice A1919 n1920 c1921)] ∧ St [] W w [.mat A1919 n1920 c1921 23 2 vs1923 ms1918]) ?_ ?_
 ·refine wpL_loop (fun n a w => ∃ ms1280 : List (List Int), ∃ x1286 : Int, ∃ A1281, ∃ n1282, ∃ c1283, ∃ vs1285, spec_l13Times_L16 F p0 p1 p2 r2 n ms1280 x1286 = some r1924 ∧ n1282 = ms1280.length ∧ Fr a 86 [(1, .int .i64 p1), (2, .slice bh p2.length bk), (3, .pointer (some ⟨b1, 0, none⟩)), (7, .slice A4 n5 c6), (8, .slice A1281 n1282 c1283), (9, .int .i64 x1286)] ∧ St [] W w [.blk b1 52 [.int .i64 p0.Events, .slice ai p0.Places.length aj], .row A4 n5 c6 2 1 (ints r2), .mat A1281 n1282 c1283 23 2 vs1285 ms1280]) F ?_ ?_ ?_
  ·exact ⟨[], 1, A8, 0, 0, [], hl1925, rfl, (FrD.pick (FrD.pick (FrD.pick (FrD.pick (FrD.pick (FrD.pick hf.none hf rfl) hf rfl) hf rfl) hf rfl) hf rfl) hf rfl), hs⟩
  ·rintro a w ⟨ms1280, x1286, A1281, n1282, c1283, vs1285, h0_, -, -, -⟩; simp [spec_l13Times_L16] at h0_
  ·rintro n1927 a w ⟨ms1280, x1286, A1281, n1282, c1283, vs1285, hm1926, hn1284, hf, hs⟩
   rw [spec_l13Times_L16] at hm1926
   refine wpL_seq <| wpL_seq <| wpL_region ?_
   refine sY hf hs rfl rfl rfl (Y_move rfl rfl) ?_; clear hf; intro a hf
   refine sY hf hs rfl rfl rfl (Y_move rfl rfl) ?_; clear hf; intro a hf
   refine sY hf hs rfl rfl rfl (Y_leq rfl rfl rfl) ?_; clear hf; intro a hf
   refine wpO_nil ?_
   refine wpL_cond hf rfl (fun hb1928 => ?_) (fun hb1928 => ?_)
   ·have hm1926 := bif_t hm1926 hb1928
    refine wpL_skip <| wpL_seq <| wpL_block0 <| wpL_seq <| wpL_region ?_
    refine sY hf hs rfl rfl rfl (Y_move rfl rfl) ?_; clear hf; intro a hf
    obtain ⟨r1929, hc1930, hm1926⟩ := bind_some hm1926
    refine sCall hf rfl rfl rfl rfl (cap := []) rfl rfl en146 (spec_l01Own_ok F p2 bh p2.length bk rfl _ _ hc1930 (cH.at hs)) ?_; clear hf
    rintro _ w ⟨A1931, n1932, c1933, rfl, hn1934, hs1⟩ a hf
    have hs : St [] W w [.blk b1 52 [.int .i64 p0.Events, .slice ai p0.Places.length aj], .row A4 n5 c6 2 1 (ints r2), .mat A1281 n1282 c1283 23 2 vs1285 ms1280, .row A1931 n1932 c1933 2 1 (ints r1929)] := hs.join hs1
    clear hs1
    refine sY hf hs rfl rfl rfl (Y_assign rfl rfl) ?_; clear hf; intro a hf
    refine wpO_nil <| wpL_seq <| wpL_region ?_
    refine sY hf hs rfl rfl rfl (Y_move rfl rfl) ?_; clear hf; intro a hf
    refine sY hf hs rfl rfl rfl (Y_move rfl rfl) ?_; clear hf; intro a hf
    refine sOneM (j := 3) hf hs rfl rfl rfl rfl rfl rfl hn1934 el59 ti23 ?_; clear hf hs; intro a w A1935 hs hf
    have hs : St [] W w [.blk b1 52 [.int .i64 p0.Events, .slice ai p0.Places.length aj], .row A4 n5 c6 2 1 (ints r2), .mat A1281 n1282 c1283 23 2 vs1285 ms1280, .mat A1935 1 1 23 2 ([Value.slice A1931 r1929.length c1933]) ([r1929])] := hs
    obtain ⟨ms1939, ha1940, hm1926⟩ := bind_some hm1926
    refine sAppendM (i := 2) (j := 3) hf hs rfl rfl rfl rfl rfl rfl hn1284 rfl (by decide) rfl rfl (by decide) ha1940 el59 ti23 rfl ?_; clear hf hs; intro a w A1937 c1938 hs hf
    have hs : St [] W w [.blk b1 52 [.int .i64 p0.Events, .slice ai p0.Places.length aj], .row A4 n5 c6 2 1 (ints r2), .mat A1937 ms1939.length c1938 23 2 (vs1285 ++ ([Value.slice A1931 r1929.length c1933])) ms1939] := hs
    obtain ⟨hq1941, hv1942⟩ := hs.appended (i := 2) rfl ha1940
    refine sY hf hs rfl rfl rfl (Y_assign rfl rfl) ?_; clear hf; intro a hf
    refine wpO_nil <| wpL_seq <| wpL_region ?_
    refine sY hf hs rfl rfl rfl (Y_assign rfl rfl) ?_; clear hf; intro a hf
    refine wpO_nil ?_
    obtain ⟨r2406, hl2407, hm1926⟩ := bind_some hm1926
    refine wpL_block (fun a w => ∃ ms2404 : List (List Int), ms2404 = r2406 ∧ ms1939.length = ms2404.length ∧ Fr a 86 [(1, .int .i64 p1), (2, .slice bh p2.length bk), (3, .pointer (some ⟨b1, 0, none⟩)), (7, .slice A4 n5 c6), (8, .slice A1937 ms1939.length c1938), (9, .int .i64 x1286)] ∧ St [] W w [.blk b1 52 [.int .i64 p0.Events, .slice ai p0.Places.length aj], .row A4 n5 c6 2 1 (ints r2), .mat A1937 ms1939.length c1938 23 2 (vs1285 ++ ([Value.slice A1931 r1929.length c1933])) ms2404]) ?_ ?_
    ·refine wpL_loop (fun n a w => ∃ ms2248 : List (List Int), ∃ x2250 : Int, ∃ xs2251 : List Int, spec_l13Times_L20 F p0 r2 ms1280 x1286 n ms2248 x2250 xs2251 = some r2406 ∧ ms1939.length = ms2248.length ∧ n1932 = xs2251.length ∧ ms2248[((ms1280.length : Int) : Int).toNat]? = some xs2251 ∧ (vs1285 ++ ([Value.slice A1931 r1929.length c1933]))[((ms1280.length : Int) : Int).toNat]? = some (Value.slice A1931 xs2251.length c1933) ∧ Fr a 86 [(1, .int .i64 p1), (2, .slice bh p2.length bk), (3, .pointer (some ⟨b1, 0, none⟩)), (7, .slice A4 n5 c6), (8, .slice A1937 ms1939.length c1938), (9, .int .i64 x1286), (10, .slice A1931 n1932 c1933), (11, .int .i64 x2250)] ∧ St [] W w [.blk b1 52 [.int .i64 p0.Events, .slice ai p0.Places.length aj], .row A4 n5 c6 2 1 (ints r2), .mat A1937 ms1939.length c1938 23 2 (vs1285 ++ ([Value.slice A1931 r1929.length c1933])) ms2248]) F ?_ ?_ ?_
     ·exact ⟨ms1939, 0, r1929, hl2407, rfl, hn1934, hq1941, hv1942, (FrD.pick (FrD.pick (FrD.pick (FrD.pick (FrD.pick (FrD.pick (FrD.pick (FrD.pick hf.none hf rfl) hf rfl) hf rfl) hf rfl) hf rfl) hf rfl) hf rfl) hf rfl), hs⟩
     ·rintro a w ⟨ms2248, x2250, xs2251, h0_, -, -, -, -, -, -⟩; simp [spec_l13Times_L20] at h0_
     ·rintro n2409 a w ⟨ms2248, x2250, xs2251, hm2408, hn2249, hn2252, hq2253, hv2254, hf, hs⟩
      rw [spec_l13Times_L20] at hm2408
      refine wpL_seq <| wpL_seq <| wpL_region ?_
      refine sY hf hs rfl rfl rfl (Y_move rfl rfl) ?_; clear hf; intro a hf
      refine sY hf hs rfl rfl rfl (Y_move rfl rfl) ?_; clear hf; intro a hf
      refine sY hf hs rfl rfl rfl (Y_lenH rfl rfl el23 hn7) ?_; clear hf; intro a hf
      refine sY hf hs rfl rfl rfl (Y_lss rfl rfl rfl) ?_; clear hf; intro a hf
      refine wpO_nil ?_
      refine wpL_cond hf rfl (fun hb2410 => ?_) (fun hb2410 => ?_)
      ·have hm2408 := bif_t hm2408 hb2410
       refine wpL_skip <| wpL_seq <| wpL_block0 <| wpL_seq <| wpL_region ?_
       refine sY hf hs rfl rfl rfl (Y_assign rfl rfl) ?_; clear hf; intro a hf
       refine wpO_nil ?_
       obtain ⟨r2524, hl2525, hm2408⟩ := bind_some hm2408
       refine wpL_block (fun a w => ∃ ms2518 : List (List Int), ∃ xs2520 : List Int, (ms2518, xs2520) = r2524 ∧ ms1939.length = ms2518.length ∧ n1932 = xs2520.length ∧ ms2518[((ms1280.length : Int) : Int).toNat]? = some xs2520 ∧ (vs1285 ++ ([Value.slice A1931 r1929.length c1933]))[((ms1280.length : Int) : Int).toNat]? = some (Value.slice A1931 xs2520.length c1933) ∧ Fr a 86 [(1, .int .i64 p1), (2, .slice bh p2.length bk), (3, .pointer (some ⟨b1, 0, none⟩)), (7, .slice A4 n5 c6), (8, .slice A1937 ms1939.length c1938), (9, .int .i64 x1286), (10, .slice A1931 n1932 c1933), (11, .int .i64 x2250)] ∧ St [] W w [.blk b1 52 [.int .i64 p0.Events, .slice ai p0.Places.length aj], .row A4 n5 c6 2 1 (ints r2), .mat A1937 ms1939.length c1938 23 2 (vs1285 ++ ([Value.slice A1931 r1929.length c1933])) ms2518]) ?_ ?_
       ·refine wpL_loop (fun n a w => ∃ ms2480 : List (List Int), ∃ x2482 : Int, ∃ xs2483 : List Int, spec_l13Times_L21 F p0 r2 ms1280 x1286 x2250 n ms2480 x2482 xs2483 = some r2524 ∧ ms1939.length = ms2480.length ∧ n1932 = xs2483.length ∧ ms2480[((ms1280.length : Int) : Int).toNat]? = some xs2483 ∧ (vs1285 ++ ([Value.slice A1931 r1929.length c1933]))[((ms1280.length : Int) : Int).toNat]? = some (Value.slice A1931 xs2483.length c1933) ∧ Fr a 86 [(1, .int .i64 p1), (2, .slice bh p2.length bk), (3, .pointer (some ⟨b1, 0, none⟩)), (7, .slice A4 n5 c6), (8, .slice A1937 ms1939.length c1938), (9, .int .i64 x1286), (10, .slice A1931 n1932 c1933), (11, .int .i64 x2250), (12, .int .i64 x2482)] ∧ St [] W w [.blk b1 52 [.int .i64 p0.Events, .slice ai p0.Places.length aj], .row A4 n5 c6 2 1 (ints r2), .mat A1937 ms1939.length c1938 23 2 (vs1285 ++ ([Value.slice A1931 r1929.length c1933])) ms2480]) F ?_ ?_ ?_
        ·exact ⟨ms2248, 0, xs2251, hl2525, hn2249, hn2252, hq2253, hv2254, (FrD.pick (FrD.pick (FrD.pick (FrD.pick (FrD.pick (FrD.pick (FrD.pick (FrD.pick (FrD.pick hf.none hf rfl) hf rfl) hf rfl) hf rfl) hf rfl) hf rfl) hf rfl) hf rfl) hf rfl), hs⟩
        ·rintro a w ⟨ms2480, x2482, xs2483, h0_, -, -, -, -, -, -⟩; simp [spec_l13Times_L21] at h0_
        ·rintro n2527 a w ⟨ms2480, x2482, xs2483, hm2526, hn2481, hn2484, hq2485, hv2486, hf, hs⟩
         rw [spec_l13Times_L21] at hm2526
         refine wpL_seq <| wpL_seq <| wpL_region ?_
         refine sY hf hs rfl rfl rfl (Y_move rfl rfl) ?_; clear hf; intro a hf
         refine sY hf hs rfl rfl rfl (Y_fieldAddr rfl rfl fo52_1) ?_; clear hf; intro a hf
         refine sY hf hs rfl rfl rfl (Y_load_blk rfl rfl (i := 0) rfl rfl ag50) ?_; clear hf; intro a hf
         refine sY hf hs rfl rfl rfl (Y_lenH rfl rfl el50 rfl) ?_; clear hf; intro a hf
         refine sY hf hs rfl rfl rfl (Y_lss rfl rfl rfl) ?_; clear hf; intro a hf
         refine wpO_nil ?_
         refine wpL_cond hf rfl (fun hb2528 => ?_) (fun hb2528 => ?_)
         ·have hm2526 := bif_t hm2526 hb2528
          refine wpL_skip <| wpL_seq <| wpL_block0 <| wpL_seq <| wpL_region ?_
          refine sY hf hs rfl rfl rfl (Y_fieldAddr rfl rfl fo52_1) ?_; clear hf; intro a hf
          refine sY hf hs rfl rfl rfl (Y_load_blk rfl rfl (i := 0) rfl rfl ag50) ?_; clear hf; intro a hf
          refine sY hf hs rfl rfl rfl (Y_move rfl rfl) ?_; clear hf; intro a hf
          obtain ⟨q2529, hi2530, hm2526⟩ := bind_some hm2526
          obtain ⟨hi2530a, hi2530b, hi2530q⟩ := idx_some hi2530
          refine sY hf hs rfl rfl rfl (Y_index rfl rfl rfl el50 ti112 (Rd.isAt (aJ.at hs) (recs_at (s := 4) GPlace.len hi2530q (j := 0) rfl)) hi2530a hi2530b) ?_; clear hf; intro a hf
          refine sY hf hs rfl rfl rfl (Y_load_rdS rfl rfl (us := [.int .i64 q2529.From, .int .i64 q2529.To, .int .i64 q2529.Delay, .int .i64 q2529.Tokens]) (fun w hs => aJ.at hs) (fun j u hj => recs_at (s := 4) GPlace.len hi2530q hj) (Nat.succ_pos _) ag112 ti112 rfl) ?_; clear hf; intro a hf
          refine sAlloc hf hs rfl rfl rfl rfl ti112 ?_; clear hf hs; intro a w b2531 hs hf
          have hs : St [] W w [.blk b1 52 [.int .i64 p0.Events, .slice ai p0.Places.length aj], .row A4 n5 c6 2 1 (ints r2), .mat A1937 ms1939.length c1938 23 2 (vs1285 ++ ([Value.slice A1931 r1929.length c1933])) ms2480, .blk b2531 112 [.int .i64 0, .int .i64 0, .int .i64 0, .int .i64 0]] := hs
          refine sStore (i := 3) (us := [.int .i64 q2529.From, .int .i64 q2529.To, .int .i64 q2529.Delay, .int .i64 q2529.Tokens]) hf hs rfl rfl rfl rfl rfl rfl ti112 rfl rfl rfl (Nat.le_of_ble_eq_true rfl) rfl ?_; clear hs; intro w hs
          have hs : St [] W w [.blk b1 52 [.int .i64 p0.Events, .slice ai p0.Places.length aj], .row A4 n5 c6 2 1 (ints r2), .mat A1937 ms1939.length c1938 23 2 (vs1285 ++ ([Value.slice A1931 r1929.length c1933])) ms2480, .blk b2531 112 [.int .i64 q2529.From, .int .i64 q2529.To, .int .i64 q2529.Delay, .int .i64 q2529.Tokens]] := hs
          refine wpO_nil <| wpL_seq ?_
          obtain ⟨r2536, hj2537, hm2526⟩ := bind_some hm2526
          refine wpL_cut (fun a w => ∃ b2535 : Bool, b2535 = r2536 ∧ Fr a 86 [(1, .int .i64 p1), (2, .slice bh p2.length bk), (3, .pointer (some ⟨b1, 0, none⟩)), (7, .slice A4 n5 c6), (8, .slice A1937 ms1939.length c1938), (9, .int .i64 x1286), (10, .slice A1931 n1932 c1933), (11, .int .i64 x2250), (12, .int .i64 x2482), (13, .pointer (some ⟨b2531, 0, none⟩)), (59, .bool b2535)] ∧ St [] W w [.blk b1 52 [.int .i64 p0.Events, .slice ai p0.Places.length aj], .row A4 n5 c6 2 1 (ints r2), .mat A1937 ms1939.length c1938 23 2 (vs1285 ++ ([Value.slice A1931 r1929.length c1933])) ms2480, .blk b2531 112 [.int .i64 q2529.From, .int .i64 q2529.To, .int .i64 q2529.Delay, .int .i64 q2529.Tokens]]) ?_ ?_
          ·refine wpL_draw (by kernel_rfl) (by kernel_rfl) hs ?_
           refine qY hf rfl rfl rfl (Y_fieldAddr rfl rfl fo112_1) ?_; clear hf; intro a hf
           refine qY hf rfl rfl rfl (Y_load_blk rfl rfl (i := 3) rfl rfl ag2) ?_; clear hf; intro a hf
           refine qY hf rfl rfl rfl (Y_move rfl rfl) ?_; clear hf; intro a hf
           refine qY hf rfl rfl rfl (Y_move rfl rfl) ?_; clear hf; intro a hf
           obtain ⟨q2538, hi2539, hj2537⟩ := bind_some hj2537
           obtain ⟨hi2539a, hi2539b, hi2539q⟩ := idx_some hi2539
           refine qY hf rfl rfl rfl (Y_index rfl rfl rfl el23 ti2 (Rd.isAt (hs.rd (i := 1) rfl) (at1 (ints_at hi2539q))) hi2539a (ltn hn7 hi2539b)) ?_; clear hf; intro a hf
           refine qY hf rfl rfl rfl (Y_load_rd rfl rfl (fun w hs => hs.rd (i := 1) rfl) (at1 (ints_at hi2539q)) ag2) ?_; clear hf; intro a hf
           refine qY hf rfl rfl rfl (Y_eql rfl rfl rfl) ?_; clear hf; intro a hf
           refine qY hf rfl rfl rfl (Y_move rfl rfl) ?_; clear hf; intro a hf
           refine bsplit (q2529.To == q2538) (fun hb2540 => ?_) (fun hb2540 => ?_)
           ·have hj2537 := bif_t hj2537 hb2540
            refine qYg hf rfl rfl rfl (congrArg (fun b => some (Value.bool b)) hb2540) rfl rfl rfl (Y_move rfl rfl) ?_; clear hf; intro a hf
            refine qYg hf rfl rfl rfl (congrArg (fun b => some (Value.bool b)) hb2540) rfl rfl rfl (Y_fieldAddr rfl rfl fo112_3) ?_; clear hf; intro a hf
            refine qYg hf rfl rfl rfl (congrArg (fun b => some (Value.bool b)) hb2540) rfl rfl rfl (Y_load_blk rfl rfl (i := 3) rfl rfl ag2) ?_; clear hf; intro a hf
            refine qYg hf rfl rfl rfl (congrArg (fun b => some (Value.bool b)) hb2540) rfl rfl rfl (Y_sub rfl rfl rfl) ?_; clear hf; intro a hf
            refine qYg hf rfl rfl rfl (congrArg (fun b => some (Value.bool b)) hb2540) rfl rfl rfl (Y_geq rfl rfl rfl) ?_; clear hf; intro a hf
            refine qY hf rfl rfl rfl (Y_pickT rfl (congrArg (fun b => some (Value.bool b)) hb2540) rfl) ?_; clear hf; intro a hf
            refine qNil ?_; clear hs; intro w hs
            refine wpL_nil (then_normal ?_)
            exact ⟨(decide (1 ≤ (IntKind.i64.wrap (x1286 - q2529.Tokens)))), Option.some.inj hj2537, (FrD.pick (FrD.pick (FrD.pick (FrD.pick (FrD.pick (FrD.pick (FrD.pick (FrD.pick (FrD.pick (FrD.pick (FrD.pick hf.none hf rfl) hf rfl) hf rfl) hf rfl) hf rfl) hf rfl) hf rfl) hf rfl) hf rfl) hf rfl) hf rfl), hs⟩
           ·have hj2537 := bif_f hj2537 hb2540
            refine qNo hf rfl rfl rfl (congrArg (fun b => some (Value.bool b)) hb2540) rfl rfl rfl ?_; clear hf; intro a hf
            refine qNo hf rfl rfl rfl (congrArg (fun b => some (Value.bool b)) hb2540) rfl rfl rfl ?_; clear hf; intro a hf
            refine qNo hf rfl rfl rfl (congrArg (fun b => some (Value.bool b)) hb2540) rfl rfl rfl ?_; clear hf; intro a hf
            refine qNo hf rfl rfl rfl (congrArg (fun b => some (Value.bool b)) hb2540) rfl rfl rfl ?_; clear hf; intro a hf
            refine qNo hf rfl rfl rfl (congrArg (fun b => some (Value.bool b)) hb2540) rfl rfl rfl ?_; clear hf; intro a hf
            refine qY hf rfl rfl rfl (Y_pickF rfl (congrArg (fun b => some (Value.bool b)) hb2540) rfl) ?_; clear hf; intro a hf
            refine qNil ?_; clear hs; intro w hs
            refine wpL_nil (then_normal ?_)
            exact ⟨false, Option.some.inj hj2537, (FrD.pick (FrD.pick (FrD.pick (FrD.pick (FrD.pick (FrD.pick (FrD.pick (FrD.pick (FrD.pick (FrD.pick (FrD.pick hf.none hf rfl) hf rfl) hf rfl) hf rfl) hf rfl) hf rfl) hf rfl) hf rfl) hf rfl) hf rfl) hf rfl), hs⟩
          ·rintro a w ⟨b2535, hr_, hf, hs⟩
           subst hr_
           try dsimp only at hm2526
           refine wpL_cond hf rfl (fun hb2541 => ?_) (fun hb2541 => ?_)
           ·have hm2526 := bif_t hm2526 hb2541
            refine wpL_drawM [.blk b1 52 [.int .i64 p0.Events, .slice ai p0.Places.length aj], .row A4 n5 c6 2 1 (ints r2), .mat A1937 ms1939.length c1938 23 2 (vs1285 ++ ([Value.slice A1931 r1929.length c1933])) ms2480, .blk b2531 112 [.int .i64 q2529.From, .int .i64 q2529.To, .int .i64 q2529.Delay, .int .i64 q2529.Tokens]] [25] (by kernel_rfl) hs ?_; clear hs; intro w hs
            have hs0 : St [] W w [.blk b1 52 [.int .i64 p0.Events, .slice ai p0.Places.length aj], .row A4 n5 c6 2 1 (ints r2), .mat A1937 ms1939.length c1938 23 2 (vs1285 ++ ([Value.slice A1931 r1929.length c1933])) ms2480, .blk b2531 112 [.int .i64 q2529.From, .int .i64 q2529.To, .int .i64 q2529.Delay, .int .i64 q2529.Tokens]] := hs
            refine mYp (i := 0) rfl (by kernel_rfl) (by kernel_rfl) hf rfl rfl rfl (fun _ => Y_move rfl rfl) ?_; clear hf; intro a hf
            refine mYp (i := 1) rfl (by kernel_rfl) (by kernel_rfl) hf rfl rfl rfl (fun _ => Y_fieldAddr rfl rfl fo112_1) ?_; clear hf; intro a hf
            refine mY (i := 2) [[]] rfl (by kernel_rfl) (by kernel_rfl) hf hs0 rfl rfl rfl (Y_load_blk rfl rfl (i := 3) rfl rfl ag2) ?_; clear hf; intro a hf
            refine mYp (i := 3) rfl (by kernel_rfl) (by kernel_rfl) hf rfl rfl rfl (fun _ => Y_move rfl rfl) ?_; clear hf; intro a hf
            refine mYp (i := 4) rfl (by kernel_rfl) (by kernel_rfl) hf rfl rfl rfl (fun _ => Y_fieldAddr rfl rfl fo112_1) ?_; clear hf; intro a hf
            refine mY (i := 5) [[]] rfl (by kernel_rfl) (by kernel_rfl) hf hs0 rfl rfl rfl (Y_load_blk rfl rfl (i := 3) rfl rfl ag2) ?_; clear hf; intro a hf
            obtain ⟨q2542, hi2543, hm2526⟩ := bind_some hm2526
            obtain ⟨hi2543a, hi2543b, hi2543q⟩ := idx_some hi2543
            refine mYp (i := 6) rfl (by kernel_rfl) (by kernel_rfl) hf rfl rfl rfl (fun _ => Y_index rfl rfl rfl el23 ti2 (Rd.isAt (hs.rdRow (i := 2) rfl ⟨hq2485, hv2486⟩) (at1 (ints_at hi2543q))) hi2543a (ltn hn2484 hi2543b)) ?_; clear hf; intro a hf
            refine mY (i := 7) [[]] rfl (by kernel_rfl) (by kernel_rfl) hf hs0 rfl rfl rfl (Y_load_rd rfl rfl (fun w hs => hs.rdRow (i := 2) rfl ⟨hq2485, hv2486⟩) (at1 (ints_at hi2543q)) ag2) ?_; clear hf; intro a hf
            refine mYp (i := 8) rfl (by kernel_rfl) (by kernel_rfl) hf rfl rfl rfl (fun _ => Y_move rfl rfl) ?_; clear hf; intro a hf
            refine mYp (i := 9) rfl (by kernel_rfl) (by kernel_rfl) hf rfl rfl rfl (fun _ => Y_move rfl rfl) ?_; clear hf; intro a hf
            refine mYp (i := 10) rfl (by kernel_rfl) (by kernel_rfl) hf rfl rfl rfl (fun _ => Y_fieldAddr rfl rfl fo112_3) ?_; clear hf; intro a hf
            refine mY (i := 11) [[]] rfl (by kernel_rfl) (by kernel_rfl) hf hs0 rfl rfl rfl (Y_load_blk rfl rfl (i := 3) rfl rfl ag2) ?_; clear hf; intro a hf
            refine mYp (i := 12) rfl (by kernel_rfl) (by kernel_rfl) hf rfl rfl rfl (fun _ => Y_sub rfl rfl rfl) ?_; clear hf; intro a hf
            refine mYp (i := 13) rfl (by kernel_rfl) (by kernel_rfl) hf rfl rfl rfl (fun _ => Y_sub rfl rfl rfl) ?_; clear hf; intro a hf
            obtain ⟨q2544, hi2545, hm2526⟩ := bind_some hm2526
            obtain ⟨hi2545a, hi2545b, hi2545q⟩ := idx_some hi2545
            obtain ⟨A2546, c2547, hv2548⟩ := hs.matRow (i := 2) rfl hi2545q
            refine mYp (i := 14) rfl (by kernel_rfl) (by kernel_rfl) hf rfl rfl rfl (fun _ => Y_index rfl rfl rfl el59 ti23 (Rd.isAt (hs.rdV (i := 2) rfl) hv2548) hi2545a (ltn hn2481 hi2545b)) ?_; clear hf; intro a hf
            refine mY (i := 15) [[]] rfl (by kernel_rfl) (by kernel_rfl) hf hs0 rfl rfl rfl (Y_load_rd rfl rfl (fun w hs => hs.rdV (i := 2) rfl) (at1 hv2548) ag23) ?_; clear hf; intro a hf
            refine mYp (i := 16) rfl (by kernel_rfl) (by kernel_rfl) hf rfl rfl rfl (fun _ => Y_fieldAddr rfl rfl fo112_0) ?_; clear hf; intro a hf
            refine mY (i := 17) [[]] rfl (by kernel_rfl) (by kernel_rfl) hf hs0 rfl rfl rfl (Y_load_blk rfl rfl (i := 3) rfl rfl ag2) ?_; clear hf; intro a hf
            obtain ⟨q2549, hi2550, hm2526⟩ := bind_some hm2526
            obtain ⟨hi2550a, hi2550b, hi2550q⟩ := idx_some hi2550
            refine mYp (i := 18) rfl (by kernel_rfl) (by kernel_rfl) hf rfl rfl rfl (fun _ => Y_index rfl rfl rfl el23 ti2 (Rd.isAt (hs.rdRow (i := 2) rfl ⟨hi2545q, hv2548⟩) (at1 (ints_at hi2550q))) hi2550a hi2550b) ?_; clear hf; intro a hf
            refine mY (i := 19) [[]] rfl (by kernel_rfl) (by kernel_rfl) hf hs0 rfl rfl rfl (Y_load_rd rfl rfl (fun w hs => hs.rdRow (i := 2) rfl ⟨hi2545q, hv2548⟩) (at1 (ints_at hi2550q)) ag2) ?_; clear hf; intro a hf
            refine mYp (i := 20) rfl (by kernel_rfl) (by kernel_rfl) hf rfl rfl rfl (fun _ => Y_fieldAddr rfl rfl fo112_2) ?_; clear hf; intro a hf
            refine mY (i := 21) [[]] rfl (by kernel_rfl) (by kernel_rfl) hf hs0 rfl rfl rfl (Y_load_blk rfl rfl (i := 3) rfl rfl ag2) ?_; clear hf; intro a hf
            refine mYp (i := 22) rfl (by kernel_rfl) (by kernel_rfl) hf rfl rfl rfl (fun _ => Y_add rfl rfl rfl) ?_; clear hf; intro a hf
            refine mYp (i := 23) rfl (by kernel_rfl) (by kernel_rfl) hf rfl rfl rfl (fun _ => Y_max rfl rfl rfl) ?_; clear hf; intro a hf
            obtain ⟨q2551, hi2552, hm2526⟩ := bind_some hm2526
            obtain ⟨hi2552a, hi2552b, hi2552q⟩ := idx_some hi2552
            refine mYp (i := 24) rfl (by kernel_rfl) (by kernel_rfl) hf rfl rfl rfl (fun _ => Y_index rfl rfl rfl el23 ti2 (Rd.isAt (hs.rdRow (i := 2) rfl ⟨hq2485, hv2486⟩) (at1 (ints_at hi2552q))) hi2552a (ltn hn2484 hi2552b)) ?_; clear hf; intro a hf
            refine mRun (i := 25) rfl (by kernel_rfl) ?_
            obtain ⟨xs2553, hu2555, hm2526⟩ := bind_some hm2526
            obtain ⟨ms2554, hu2556, hm2526⟩ := bind_some hm2526
            refine sStoreM (i := 2) (k := (ms1280.length : Int)) hf hs rfl rfl rfl rfl rfl rfl hq2485 hv2486 rfl hu2555 hu2556 ti2 ?_; clear hs; intro w hs
            obtain ⟨hq2557, hv2558⟩ := rowUpd hu2555 hu2556 hv2486
            have hs : St [] W w [.blk b1 52 [.int .i64 p0.Events, .slice ai p0.Places.length aj], .row A4 n5 c6 2 1 (ints r2), .mat A1937 ms1939.length c1938 23 2 (vs1285 ++ ([Value.slice A1931 r1929.length c1933])) ms2554, .blk b2531 112 [.int .i64 q2529.From, .int .i64 q2529.To, .int .i64 q2529.Delay, .int .i64 q2529.Tokens]] := hs
            refine wpO_nil ⟨Or.inl (by decide), ?_⟩
            refine mDone (by kernel_rfl) ?_
            clear hs0
            refine wpL_nil (Qb_normal ?_)
            refine wpL_region ?_
            refine sY hf hs rfl rfl rfl (Y_move rfl rfl) ?_; clear hf; intro a hf
            refine sY hf hs rfl rfl rfl (Y_add rfl rfl rfl) ?_; clear hf; intro a hf
            refine sY hf hs rfl rfl rfl (Y_assign rfl rfl) ?_; clear hf; intro a hf
            refine wpO_nil ?_
            refine wpL_nil (Ql_normal ?_)
            exact ⟨ms2554, (IntKind.i64.wrap (x2482 + 1)), xs2553, hm2526, ((hn2481).trans (upd_len hu2556).symm), ((hn2484).trans (upd_len hu2555).symm), hq2557, hv2558, (FrD.pick (FrD.pick (FrD.pick (FrD.pick (FrD.pick (FrD.pick (FrD.pick (FrD.pick (FrD.pick hf.none hf rfl) hf rfl) hf rfl) hf rfl) hf rfl) hf rfl) hf rfl) hf rfl) hf rfl), hs.sel [0, 1, 2] (by decide)⟩
           ·have hm2526 := bif_f hm2526 hb2541
            refine wpL_skip ?_
            refine wpL_nil (Qb_normal ?_)
            refine wpL_region ?_
            refine sY hf hs rfl rfl rfl (Y_move rfl rfl) ?_; clear hf; intro a hf
            refine sY hf hs rfl rfl rfl (Y_add rfl rfl rfl) ?_; clear hf; intro a hf
            refine sY hf hs rfl rfl rfl (Y_assign rfl rfl) ?_; clear hf; intro a hf
            refine wpO_nil ?_
            refine wpL_nil (Ql_normal ?_)
            exact ⟨ms2480, (IntKind.i64.wrap (x2482 + 1)), xs2483, hm2526, hn2481, hn2484, hq2485, hv2486, (FrD.pick (FrD.pick (FrD.pick (FrD.pick (FrD.pick (FrD.pick (FrD.pick (FrD.pick (FrD.pick hf.none hf rfl) hf rfl) hf rfl) hf rfl) hf rfl) hf rfl) hf rfl) hf rfl) hf rfl), hs.sel [0, 1, 2] (by decide)⟩
         ·have hm2526 := bif_f hm2526 hb2528
          refine wpL_exit (Ql_exit (Qb_exit ?_))
          exact ⟨ms2480, xs2483, Option.some.inj hm2526, hn2481, hn2484, hq2485, hv2486, (FrD.pick (FrD.pick (FrD.pick (FrD.pick (FrD.pick (FrD.pick (FrD.pick (FrD.pick hf.none hf rfl) hf rfl) hf rfl) hf rfl) hf rfl) hf rfl) hf rfl) hf rfl), hs⟩
       ·rintro a w ⟨ms2518, xs2520, hr_, hn2519, hn2521, hq2522, hv2523, hf, hs⟩
        subst hr_
        try dsimp only at hm2408
        refine wpL_nil (Qb_normal ?_)
        refine wpL_region ?_
        refine sY hf hs rfl rfl rfl (Y_move rfl rfl) ?_; clear hf; intro a hf
        refine sY hf hs rfl rfl rfl (Y_add rfl rfl rfl) ?_; clear hf; intro a hf
        refine sY hf hs rfl rfl rfl (Y_assign rfl rfl) ?_; clear hf; intro a hf
        refine wpO_nil ?_
        refine wpL_nil (Ql_normal ?_)
        exact ⟨ms2518, (IntKind.i64.wrap (x2250 + 1)), xs2520, hm2408, hn2519, hn2521, hq2522, hv2523, (FrD.pick (FrD.pick (FrD.pick (FrD.pick (FrD.pick (FrD.pick (FrD.pick (FrD.pick hf.none hf rfl) hf rfl) hf rfl) hf rfl) hf rfl) hf rfl) hf rfl) hf rfl), hs⟩
      ·have hm2408 := bif_f hm2408 hb2410
       refine wpL_exit (Ql_exit (Qb_exit ?_))
       exact ⟨ms2248, Option.some.inj hm2408, hn2249, (FrD.pick (FrD.pick (FrD.pick (FrD.pick (FrD.pick (FrD.pick hf.none hf rfl) hf rfl) hf rfl) hf rfl) hf rfl) hf rfl), hs⟩
    ·rintro a w ⟨ms2404, hr_, hn2405, hf, hs⟩
     subst hr_
     try dsimp only at hm1926
     refine wpL_nil (Qb_normal ?_)
     refine wpL_region ?_
     refine sY hf hs rfl rfl rfl (Y_move rfl rfl) ?_; clear hf; intro a hf
     refine sY hf hs rfl rfl rfl (Y_add rfl rfl rfl) ?_; clear hf; intro a hf
     refine sY hf hs rfl rfl rfl (Y_assign rfl rfl) ?_; clear hf; intro a hf
     refine wpO_nil ?_
     refine wpL_nil (Ql_normal ?_)
     exact ⟨ms2404, (IntKind.i64.wrap (x1286 + 1)), A1937, ms1939.length, c1938, (vs1285 ++ ([Value.slice A1931 r1929.length c1933])), hm1926, hn2405, (FrD.pick (FrD.pick (FrD.pick (FrD.pick (FrD.pick (FrD.pick hf.none hf rfl) hf rfl) hf rfl) hf rfl) hf rfl) hf rfl), hs⟩
   ·have hm1926 := bif_f hm1926 hb1928
    refine wpL_exit (Ql_exit (Qb_exit ?_))
    exact ⟨ms1280, A1281, n1282, c1283, vs1285, Option.some.inj hm1926, hn1284, (FrD.pick hf.none hf rfl), hs.sel [2] (by decide)⟩
 ·rintro a w ⟨ms1918, A1919, n1920, c1921, vs1923, hr_, hn1922, hf, hs⟩
  subst hr_
  try dsimp only at hm
  refine wpL_seq <| wpL_region ?_
  refine sY hf hs rfl rfl rfl (Y_move rfl rfl) ?_; clear hf; intro a hf
  refine sY hf hs rfl rfl rfl (Y_assign rfl rfl) ?_; clear hf; intro a hf
  refine wpO_nil ?_
  obtain rfl := Option.some.inj hm
  refine wpL_ret (ret_tmp rfl hf rfl ?_)
  exact ⟨_, rfl, A1919, n1920, c1921, vs1923, rfl, hn1922, hs⟩

set_option maxRecDepth 100000 in
theorem spec_FiringTimes_ok (F : Nat) (ae : GEventGraph) (ad : Option Addr) (ao af : Nat) (au : ao = ae.Places.length) (bL : Int) (r : List (List Int) × Int) (W : World) (hm : spec_FiringTimes F ae bL = some r) (ap : Rd W ad ((recs GPlace.cells) ae.Places)) :
  Calls Try.prog 149 [.agg #[.int .i64 ae.Events, .slice ad ao af], .int .i64 bL].toArray W fun e w' => ∃ v, e = .returned v ∧ ∃ A28, ∃ n29, ∃ c30, ∃ vs32, v = .tuple #[.slice A28 n29 c30, .int .i64 r.2] ∧ n29 = r.1.length ∧ St [] W w' [.mat A28 n29 c30 23 2 vs32 r.1] := by
 subst au
 unfold spec_FiringTimes at hm
 refine Calls.enter (N := 20) Try.func149 rfl rfl rfl (fun a hf => ?_)
 have hs := St.start W
 obtain ⟨w, hw_⟩ : ∃ w, w = W := ⟨W, rfl⟩
 clear hw_ w
 refine wpL_seq <| wpL_region ?_
 refine sBox hf hs rfl rfl rfl rfl rfl (cs := [.int .i64 ae.Events, .slice ad ae.Places.length af]) rfl ?_; clear hf hs; intro a w b1 hs hf
 have hs : St [] W w [.blk b1 52 [.int .i64 ae.Events, .slice ad ae.Places.length af]] := hs
 refine sY hf hs rfl rfl rfl (Y_assign rfl rfl) ?_; clear hf; intro a hf
 refine sY hf hs rfl rfl rfl (Y_assign rfl rfl) ?_; clear hf; intro a hf
 refine wpO_nil <| wpL_seq ?_
 refine wpL_draw (by kernel_rfl) (by kernel_rfl) hs ?_
 refine qY hf rfl rfl rfl (Y_load_blkS rfl rfl (i := 0) rfl ag52 ti52 rfl) ?_; clear hf; intro a hf
 refine qY hf rfl rfl rfl (Y_move rfl rfl) ?_; clear hf; intro a hf
 obtain ⟨r2, hc3, hm⟩ := bind_some hm
 refine qCall hf rfl rfl rfl rfl (cap := []) rfl rfl en89 (v := .bool r2) (fun w hs => Calls.scal (spec_l01In_ok F bL 0 50 _ _ hc3)) ?_; clear hf; intro a hf
 obtain ⟨r4, hc5, hm⟩ := bind_some hm
 refine qCall hf rfl rfl rfl rfl (cap := []) rfl rfl en104 (v := .int .i64 r4) (fun w hs => Calls.scal (spec_l13Code_ok F ae ad ae.Places.length af rfl r2 _ _ hc5 (ap.at hs))) ?_; clear hf; intro a hf
 refine qY hf rfl rfl rfl (Y_assign rfl rfl) ?_; clear hf; intro a hf
 refine qNil ?_; clear hs; intro w hs
 refine wpL_seq <| wpL_seq <| wpL_region ?_
 refine sY hf hs rfl rfl rfl (Y_move rfl rfl) ?_; clear hf; intro a hf
 refine sY hf hs rfl rfl rfl (Y_neq rfl rfl rfl) ?_; clear hf; intro a hf
 refine wpO_nil ?_
 refine wpL_cond hf rfl (fun hb6 => ?_) (fun hb6 => ?_)
 ·have hm := bif_t hm hb6
  refine wpL_seq <| wpL_region ?_
  refine sY hf hs rfl rfl rfl (Y_move rfl rfl) ?_; clear hf; intro a hf
  refine sY hf hs rfl rfl rfl (Y_assign rfl rfl) ?_; clear hf; intro a hf
  refine sY hf hs rfl rfl rfl (Y_assign rfl rfl) ?_; clear hf; intro a hf
  refine wpO_nil ?_
  have hs : St [] W _ [.blk b1 52 [.int .i64 ae.Events, .slice ad ae.Places.length af], .mat none 0 0 23 2 [] ([] : List (List Int))] := hs.addNilM 23 2
  obtain rfl := Option.some.inj hm
  refine wpL_ret (ret_tmp2 rfl hf rfl rfl ?_)
  exact ⟨_, rfl, none, 0, 0, [], rfl, rfl, hs.sel [1] (by decide)⟩
 ·have hm := bif_f hm hb6
  refine wpL_skip <| wpL_seq ?_
  refine wpL_drawM [.blk b1 52 [.int .i64 ae.Events, .slice ad ae.Places.length af]] [5] (by kernel_rfl) hs ?_; clear hs; intro w hs
  have hs0 : St [] W w [.blk b1 52 [.int .i64 ae.Events, .slice ad ae.Places.length af]] := hs
  refine mY (i := 0) [[]] rfl (by kernel_rfl) (by kernel_rfl) hf hs0 rfl rfl rfl (Y_load_blkS rfl rfl (i := 0) rfl ag52 ti52 rfl) ?_; clear hf; intro a hf
  refine mYp (i := 1) rfl (by kernel_rfl) (by kernel_rfl) hf rfl rfl rfl (fun _ => Y_move rfl rfl) ?_; clear hf; intro a hf
  refine mYp (i := 2) rfl (by kernel_rfl) (by kernel_rfl) hf rfl rfl rfl (fun _ => Y_fieldAddr rfl rfl fo52_0) ?_; clear hf; intro a hf
  refine mY (i := 3) [[4]] rfl (by kernel_rfl) (by kernel_rfl) hf hs0 rfl rfl rfl (Y_load_blk rfl rfl (i := 0) rfl rfl ag2) ?_; clear hf; intro a hf
  refine mRun (i := 4) rfl (by kernel_rfl) ?_
  obtain ⟨xs20, hk19, hm⟩ := bind_some hm
  refine sMakeL (enc := ints) hf hs rfl rfl rfl rfl rfl hk19 el23 ti2 rfl ints_made ?_; clear hf hs; intro a w A18 hs hf
  have hs : St [] W w [.blk b1 52 [.int .i64 ae.Events, .slice ad ae.Places.length af], .row A18 xs20.length xs20.length 2 1 (ints xs20)] := hs
  have hs0 : St [] W w [.blk b1 52 [.int .i64 ae.Events, .slice ad ae.Places.length af]] := hs.sel [0] (by decide)
  refine wpO_nil ⟨Or.inr (fun _ => hs0), ?_⟩
  refine mRun (i := 5) rfl (by kernel_rfl) ?_
  obtain ⟨r21, hc22, hm⟩ := bind_some hm
  refine sCall hf rfl rfl rfl rfl (cap := []) rfl rfl en106 (spec_l13Times_ok F ae ad ae.Places.length af rfl bL xs20 A18 xs20.length xs20.length rfl _ _ hc22 (ap.at hs) (hs.rd (i := 1) rfl)) ?_; clear hf
  rintro _ w ⟨A23, n24, c25, vs27, rfl, hn26, hs1⟩ a hf
  have hs : St [] W w [.blk b1 52 [.int .i64 ae.Events, .slice ad ae.Places.length af], .row A18 xs20.length xs20.length 2 1 (ints xs20), .mat A23 n24 c25 23 2 vs27 r21] := hs.join hs1
  clear hs1
  refine wpO_nil ⟨Or.inl (by decide), ?_⟩
  refine mYp (i := 6) rfl (by kernel_rfl) (by kernel_rfl) hf rfl rfl rfl (fun _ => Y_assign rfl rfl) ?_; clear hf; intro a hf
  refine mYp (i := 7) rfl (by kernel_rfl) (by kernel_rfl) hf rfl rfl rfl (fun _ => Y_assign rfl rfl) ?_; clear hf; intro a hf
  refine mDone (by kernel_rfl) ?_
  clear hs0
  obtain rfl := Option.some.inj hm
  refine wpL_ret (ret_tmp2 rfl hf rfl rfl ?_)
  exact ⟨_, rfl, A23, n24, c25, vs27, rfl, hn26, hs.sel [2] (by decide)⟩

set_option maxHeartbeats 2000000 in
set_option maxRecDepth 100000 in
theorem spec_l22Draw_ok (F : Nat) (b_p0 : Nat) (ac : List Int) (aa : Option Addr) (aK ab : Nat) (bD : aK = ac.length) (ah : Int) (ag : Int) (r : (GEventGraph × List (List Int)) × Int × Int) (W : World) (hm : spec_l22Draw F ac ah ag = some r) (av : KR (muL [.blk b_p0 146 [.slice aa aK ab, .int .i64 ah, .int .i64 ag]]) W aa (bytes ac)) (hst : St (muL [.blk b_p0 146 [.slice aa aK ab, .int .i64 ah, .int .i64 ag]]) W W [.blk b_p0 146 [.slice aa aK ab, .int .i64 ah, .int .i64 ag]]) :
  Calls Try.prog 96 [.pointer (some ⟨b_p0, 0, none⟩)].toArray W fun e w' => ∃ v, e = .returned v ∧ ∃ A1197, ∃ n1198, ∃ c1199, ∃ A1201, ∃ n1202, ∃ c1203, ∃ vs1205, v = .tuple #[.agg #[.int .i64 r.1.1.Events, .slice A1197 n1198 c1199], .slice A1201 n1202 c1203] ∧ n1198 = r.1.1.Places.length ∧ n1202 = r.1.2.length ∧ St (muL [.blk b_p0 146 [.slice aa aK ab, .int .i64 ah, .int .i64 ag]]) W w' [.row A1197 n1198 c1199 112 4 ((recs GPlace.cells) r.1.1.Places), .mat A1201 n1202 c1203 23 2 vs1205 r.1.2, .blk b_p0 146 [.slice aa aK ab, .int .i64 r.2.1, .int .i64 r.2.2]] := by
 subst bD
 unfold spec_l22Draw at hm
 refine Calls.enter (N := 101) Try.func96 rfl rfl rfl (fun a hf => ?_)
 have hs := hst
 obtain ⟨w, hw_⟩ : ∃ w, w = W := ⟨W, rfl⟩
 clear hw_ w
 refine wpL_seq <| wpL_region ?_
 refine sAlloc hf hs rfl rfl rfl rfl ti52 ?_; clear hf hs; intro a w b1 hs hf
 have hs : St (muL [.blk b_p0 146 [.slice aa ac.length ab, .int .i64 ah, .int .i64 ag]]) W w [.blk b_p0 146 [.slice aa ac.length ab, .int .i64 ah, .int .i64 ag], .blk b1 52 [.int .i64 0, .slice none 0 0]] := hs
 refine sY hf hs rfl rfl rfl (Y_assign rfl rfl) ?_; clear hf; intro a hf
 refine wpO_nil <| wpL_seq <| wpL_region ?_
 refine sY hf hs rfl rfl rfl (Y_move rfl rfl) ?_; clear hf; intro a hf
 obtain ⟨r2, hc3, hm⟩ := bind_some hm
 refine sCall hf rfl rfl rfl rfl (cap := []) rfl rfl en147 (spec_l11Draw_ok F b_p0 ac aa ac.length ab rfl ah ag _ _ hc3 (av.pass hs [0]) (hs.sel [0] (by decide)).rebase) ?_; clear hf
 rintro _ w ⟨A4, n5, c6, rfl, hn7, hs1⟩ a hf
 have hs : St (muL [.blk b_p0 146 [.slice aa ac.length ab, .int .i64 ah, .int .i64 ag]]) W w [.blk b1 52 [.int .i64 0, .slice none 0 0], .row A4 n5 c6 112 4 ((recs GPlace.cells) r2.1.Places), .blk b_p0 146 [.slice aa ac.length ab, .int .i64 r2.2.1, .int .i64 r2.2.2]] := St.mutTail (La := [.blk b1 52 [.int .i64 0, .slice none 0 0]]) (Lb := [.blk b_p0 146 [.slice aa ac.length ab, .int .i64 ah, .int .i64 ag]]) (hs.sel [1, 0] (by decide)) hs1
 clear hs1
 refine sAlloc hf hs rfl rfl rfl rfl ti52 ?_; clear hf hs; intro a w b8 hs hf
 have hs : St (muL [.blk b_p0 146 [.slice aa ac.length ab, .int .i64 ah, .int .i64 ag]]) W w [.blk b1 52 [.int .i64 0, .slice none 0 0], .row A4 n5 c6 112 4 ((recs GPlace.cells) r2.1.Places), .blk b_p0 146 [.slice aa ac.length ab, .int .i64 r2.2.1, .int .i64 r2.2.2], .blk b8 52 [.int .i64 0, .slice none 0 0]] := hs
 refine sStore (i := 3) (us := [.int .i64 r2.1.Events, .slice A4 n5 c6]) hf hs rfl rfl rfl rfl rfl rfl ti52 rfl rfl rfl (Nat.le_of_ble_eq_true rfl) rfl ?_; clear hs; intro w hs
 have hs : St (muL [.blk b_p0 146 [.slice aa ac.length ab, .int .i64 ah, .int .i64 ag]]) W w [.blk b1 52 [.int .i64 0, .slice none 0 0], .row A4 n5 c6 112 4 ((recs GPlace.cells) r2.1.Places), .blk b_p0 146 [.slice aa ac.length ab, .int .i64 r2.2.1, .int .i64 r2.2.2], .blk b8 52 [.int .i64 r2.1.Events, .slice A4 n5 c6]] := hs
 refine wpO_nil <| wpL_seq <| wpL_seq <| wpL_region ?_
 refine sY hf hs rfl rfl rfl (Y_move rfl rfl) ?_; clear hf; intro a hf
 obtain ⟨r9, hc10, hm⟩ := bind_some hm
 refine sCall hf rfl rfl rfl rfl (cap := []) rfl rfl en92 (spec_l01Next_ok F b_p0 ac aa ac.length ab rfl r2.2.1 r2.2.2 20 _ _ hc10 (av.pass hs [2]) (hs.sel [2] (by decide)).rebase) ?_; clear hf
 rintro _ w ⟨rfl, hs1⟩ a hf
 have hs : St (muL [.blk b_p0 146 [.slice aa ac.length ab, .int .i64 ah, .int .i64 ag]]) W w [.blk b1 52 [.int .i64 0, .slice none 0 0], .row A4 n5 c6 112 4 ((recs GPlace.cells) r2.1.Places), .blk b8 52 [.int .i64 r2.1.Events, .slice A4 n5 c6], .blk b_p0 146 [.slice aa ac.length ab, .int .i64 r9.2.1, .int .i64 r9.2.2]] := St.mutTail (La := [.blk b1 52 [.int .i64 0, .slice none 0 0], .row A4 n5 c6 112 4 ((recs GPlace.cells) r2.1.Places), .blk b8 52 [.int .i64 r2.1.Events, .slice A4 n5 c6]]) (Lb := [.blk b_p0 146 [.slice aa ac.length ab, .int .i64 r2.2.1, .int .i64 r2.2.2]]) (hs.sel [0, 1, 3, 2] (by decide)) hs1
 clear hs1
 refine sY hf hs rfl rfl rfl (Y_eql rfl rfl rfl) ?_; clear hf; intro a hf
 refine wpO_nil ?_
 obtain ⟨r26, hj27, hm⟩ := bind_some hm
 refine wpL_cut (fun a w => ∃ x18 : Int, ∃ x19 : Int, ∃ x20 : Int, ∃ xs21 : List GPlace, ∃ A22, ∃ n23, ∃ c24, (x18, x19, x20, xs21) = r26 ∧ n23 = xs21.length ∧ Fr a 101 [(0, .pointer (some ⟨b_p0, 0, none⟩)), (2, .pointer (some ⟨b1, 0, none⟩)), (4, .pointer (some ⟨b8, 0, none⟩))] ∧ St (muL [.blk b_p0 146 [.slice aa ac.length ab, .int .i64 ah, .int .i64 ag]]) W w [.blk b_p0 146 [.slice aa ac.length ab, .int .i64 x18, .int .i64 x19], .blk b1 52 [.int .i64 0, .slice none 0 0], .blk b8 52 [.int .i64 x20, .slice A22 n23 c24], .row A22 n23 c24 112 4 ((recs GPlace.cells) xs21)]) ?_ ?_
 ·refine wpL_cond hf rfl (fun hb28 => ?_) (fun hb28 => ?_)
  ·have hj27 := bif_t hj27 hb28
   refine wpL_region ?_
   refine sY hf hs rfl rfl rfl (Y_move rfl rfl) ?_; clear hf; intro a hf
   obtain ⟨r29, hc30, hj27⟩ := bind_some hj27
   refine sCall hf rfl rfl rfl rfl (cap := []) rfl rfl en148 (spec_l12Draw_ok F b_p0 ac aa ac.length ab rfl r9.2.1 r9.2.2 _ _ hc30 (av.pass hs [3]) (hs.sel [3] (by decide)).rebase) ?_; clear hf
   rintro _ w ⟨A31, n32, c33, rfl, hn34, hs1⟩ a hf
   have hs : St (muL [.blk b_p0 146 [.slice aa ac.length ab, .int .i64 ah, .int .i64 ag]]) W w [.blk b1 52 [.int .i64 0, .slice none 0 0], .row A4 n5 c6 112 4 ((recs GPlace.cells) r2.1.Places), .blk b8 52 [.int .i64 r2.1.Events, .slice A4 n5 c6], .row A31 n32 c33 112 4 ((recs GPlace.cells) r29.1.Places), .blk b_p0 146 [.slice aa ac.length ab, .int .i64 r29.2.1, .int .i64 r29.2.2]] := St.mutTail (La := [.blk b1 52 [.int .i64 0, .slice none 0 0], .row A4 n5 c6 112 4 ((recs GPlace.cells) r2.1.Places), .blk b8 52 [.int .i64 r2.1.Events, .slice A4 n5 c6]]) (Lb := [.blk b_p0 146 [.slice aa ac.length ab, .int .i64 r9.2.1, .int .i64 r9.2.2]]) (hs.sel [0, 1, 2, 3] (by decide)) hs1
   clear hs1
   refine sStore (i := 2) (us := [.int .i64 r29.1.Events, .slice A31 n32 c33]) hf hs rfl rfl rfl rfl rfl rfl ti52 rfl rfl rfl (Nat.le_of_ble_eq_true rfl) rfl ?_; clear hs; intro w hs
   have hs : St (muL [.blk b_p0 146 [.slice aa ac.length ab, .int .i64 ah, .int .i64 ag]]) W w [.blk b1 52 [.int .i64 0, .slice none 0 0], .row A4 n5 c6 112 4 ((recs GPlace.cells) r2.1.Places), .blk b8 52 [.int .i64 r29.1.Events, .slice A31 n32 c33], .row A31 n32 c33 112 4 ((recs GPlace.cells) r29.1.Places), .blk b_p0 146 [.slice aa ac.length ab, .int .i64 r29.2.1, .int .i64 r29.2.2]] := hs
   refine wpO_nil ?_
   refine wpL_nil (then_normal ?_)
   exact ⟨r29.2.1, r29.2.2, r29.1.Events, r29.1.Places, A31, n32, c33, Option.some.inj hj27, hn34, (FrD.pick (FrD.pick (FrD.pick hf.none hf rfl) hf rfl) hf rfl), hs.sel [4, 0, 2, 3] (by decide)⟩
  ·have hj27 := bif_f hj27 hb28
   refine wpL_skip ?_
   refine wpL_nil (then_normal ?_)
   exact ⟨r9.2.1, r9.2.2, r2.1.Events, r2.1.Places, A4, n5, c6, Option.some.inj hj27, hn7, (FrD.pick (FrD.pick (FrD.pick hf.none hf rfl) hf rfl) hf rfl), hs.sel [3, 0, 2, 1] (by decide)⟩
 ·rintro a w ⟨x18, x19, x20, xs21, A22, n23, c24, hr_, hn25, hf, hs⟩
  subst hr_
  try dsimp only at hm
  refine wpL_seq <| wpL_region ?_
  refine sEmptyM 2 hf hs rfl rfl rfl rfl el59 ti23 rfl ?_; clear hf hs; intro a w A35 hs hf
  have hs : St (muL [.blk b_p0 146 [.slice aa ac.length ab, .int .i64 ah, .int .i64 ag]]) W w [.blk b_p0 146 [.slice aa ac.length ab, .int .i64 x18, .int .i64 x19], .blk b1 52 [.int .i64 0, .slice none 0 0], .blk b8 52 [.int .i64 x20, .slice A22 n23 c24], .row A22 n23 c24 112 4 ((recs GPlace.cells) xs21), .mat A35 0 0 23 2 [] []] := hs
  refine sY hf hs rfl rfl rfl (Y_assign rfl rfl) ?_; clear hf; intro a hf
  refine wpO_nil <| wpL_seq <| wpL_region ?_
  refine sY hf hs rfl rfl rfl (Y_move rfl rfl) ?_; clear hf; intro a hf
  obtain ⟨r38, hc39, hm⟩ := bind_some hm
  refine sCall hf rfl rfl rfl rfl (cap := []) rfl rfl en92 (spec_l01Next_ok F b_p0 ac aa ac.length ab rfl x18 x19 6 _ _ hc39 (av.pass hs [0]) (hs.sel [0] (by decide)).rebase) ?_; clear hf
  rintro _ w ⟨rfl, hs1⟩ a hf
  have hs : St (muL [.blk b_p0 146 [.slice aa ac.length ab, .int .i64 ah, .int .i64 ag]]) W w [.blk b1 52 [.int .i64 0, .slice none 0 0], .blk b8 52 [.int .i64 x20, .slice A22 n23 c24], .row A22 n23 c24 112 4 ((recs GPlace.cells) xs21), .mat A35 0 0 23 2 [] [], .blk b_p0 146 [.slice aa ac.length ab, .int .i64 r38.2.1, .int .i64 r38.2.2]] := St.mutTail (La := [.blk b1 52 [.int .i64 0, .slice none 0 0], .blk b8 52 [.int .i64 x20, .slice A22 n23 c24], .row A22 n23 c24 112 4 ((recs GPlace.cells) xs21), .mat A35 0 0 23 2 [] []]) (Lb := [.blk b_p0 146 [.slice aa ac.length ab, .int .i64 x18, .int .i64 x19]]) (hs.sel [1, 2, 3, 4, 0] (by decide)) hs1
  clear hs1
  refine sY hf hs rfl rfl rfl (Y_assign rfl rfl) ?_; clear hf; intro a hf
  refine wpO_nil <| wpL_seq <| wpL_region ?_
  refine sY hf hs rfl rfl rfl (Y_load_blkS rfl rfl (i := 1) rfl ag52 ti52 rfl) ?_; clear hf; intro a hf
  refine sY hf hs rfl rfl rfl (Y_move rfl rfl) ?_; clear hf; intro a hf
  obtain ⟨r40, hc41, hm⟩ := bind_some hm
  refine sCall hf rfl rfl rfl rfl (cap := []) rfl rfl en149 (spec_FiringTimes_ok F (GEventGraph.mk x20 xs21) A22 n23 c24 hn25 r38.1 _ _ hc41 (hs.rd (i := 2) rfl)) ?_; clear hf
  rintro _ w ⟨A42, n43, c44, vs46, rfl, hn45, hs1⟩ a hf
  have hs : St (muL [.blk b_p0 146 [.slice aa ac.length ab, .int .i64 ah, .int .i64 ag]]) W w [.blk b1 52 [.int .i64 0, .slice none 0 0], .blk b8 52 [.int .i64 x20, .slice A22 n23 c24], .row A22 n23 c24 112 4 ((recs GPlace.cells) xs21), .mat A35 0 0 23 2 [] [], .blk b_p0 146 [.slice aa ac.length ab, .int .i64 r38.2.1, .int .i64 r38.2.2], .mat A42 n43 c44 23 2 vs46 r40.1] := hs.join hs1
  clear hs1
  refine sY hf hs rfl rfl rfl (Y_move rfl rfl) ?_; clear hf; intro a hf
  refine sY hf hs rfl rfl rfl (Y_extract rfl rfl rfl) ?_; clear hf; intro a hf
  refine sY hf hs rfl rfl rfl (Y_extract rfl rfl rfl) ?_; clear hf; intro a hf
  refine sY hf hs rfl rfl rfl (Y_assign rfl rfl) ?_; clear hf; intro a hf
  refine sY hf hs rfl rfl rfl (Y_assign rfl rfl) ?_; clear hf; intro a hf
  refine wpO_nil <| wpL_seq <| wpL_seq <| wpL_region ?_
  refine sY hf hs rfl rfl rfl (Y_assign rfl rfl) ?_; clear hf; intro a hf
  refine wpO_nil ?_
  obtain ⟨r811, hl812, hm⟩ := bind_some hm
  refine wpL_block (fun a w => ∃ x803 : Int, ∃ x804 : Int, ∃ ms805 : List (List Int), ∃ A806, ∃ n807, ∃ c808, ∃ vs810, (x803, x804, ms805) = r811 ∧ n807 = ms805.length ∧ Fr a 101 [(0, .pointer (some ⟨b_p0, 0, none⟩)), (2, .pointer (some ⟨b1, 0, none⟩)), (4, .pointer (some ⟨b8, 0, none⟩)), (5, .slice A806 n807 c808)] ∧ St (muL [.blk b_p0 146 [.slice aa ac.length ab, .int .i64 ah, .int .i64 ag]]) W w [.blk b_p0 146 [.slice aa ac.length ab, .int .i64 x803, .int .i64 x804], .blk b1 52 [.int .i64 0, .slice none 0 0], .blk b8 52 [.int .i64 x20, .slice A22 n23 c24], .row A22 n23 c24 112 4 ((recs GPlace.cells) xs21), .mat A806 n807 c808 23 2 vs810 ms805]) ?_ ?_
  ·refine wpL_loop (fun n a w => ∃ x548 : Int, ∃ x549 : Int, ∃ ms550 : List (List Int), ∃ x556 : Int, ∃ A551, ∃ n552, ∃ c553, ∃ vs555, spec_l22Draw_L4 F ac x20 r38 r40 n x548 x549 ms550 x556 = some r811 ∧ n552 = ms550.length ∧ Fr a 101 [(0, .pointer (some ⟨b_p0, 0, none⟩)), (2, .pointer (some ⟨b1, 0, none⟩)), (4, .pointer (some ⟨b8, 0, none⟩)), (5, .slice A551 n552 c553), (6, .int .i64 r38.1), (7, .slice A42 n43 c44), (8, .int .i64 r40.2), (9, .int .i64 x556)] ∧ St (muL [.blk b_p0 146 [.slice aa ac.length ab, .int .i64 ah, .int .i64 ag]]) W w [.blk b_p0 146 [.slice aa ac.length ab, .int .i64 x548, .int .i64 x549], .blk b1 52 [.int .i64 0, .slice none 0 0], .blk b8 52 [.int .i64 x20, .slice A22 n23 c24], .row A22 n23 c24 112 4 ((recs GPlace.cells) xs21), .mat A551 n552 c553 23 2 vs555 ms550, .mat A42 n43 c44 23 2 vs46 r40.1]) F ?_ ?_ ?_
   ·exact ⟨r38.2.1, r38.2.2, [], 0, A35, 0, 0, [], hl812, rfl, (FrD.pick (FrD.pick (FrD.pick (FrD.pick (FrD.pick (FrD.pick (FrD.pick (FrD.pick hf.none hf rfl) hf rfl) hf rfl) hf rfl) hf rfl) hf rfl) hf rfl) hf rfl), hs.sel [4, 0, 1, 2, 3, 5] (by decide)⟩
   ·rintro a w ⟨x548, x549, ms550, x556, A551, n552, c553, vs555, h0_, -, -, -⟩; simp [spec_l22Draw_L4] at h0_
   ·rintro n814 a w ⟨x548, x549, ms550, x556, A551, n552, c553, vs555, hm813, hn554, hf, hs⟩
    rw [spec_l22Draw_L4] at hm813
    refine wpL_seq <| wpL_seq <| wpL_region ?_
    refine sY hf hs rfl rfl rfl (Y_move rfl rfl) ?_; clear hf; intro a hf
    refine sY hf hs rfl rfl rfl (Y_move rfl rfl) ?_; clear hf; intro a hf
    refine sY hf hs rfl rfl rfl (Y_lss rfl rfl rfl) ?_; clear hf; intro a hf
    refine wpO_nil ?_
    refine wpL_cond hf rfl (fun hb815 => ?_) (fun hb815 => ?_)
    ·have hm813 := bif_t hm813 hb815
     refine wpL_skip <| wpL_seq <| wpL_block0 <| wpL_seq <| wpL_region ?_
     refine sEmpty hf hs rfl rfl rfl rfl el23 ti2 ?_; clear hf hs; intro a w A816 hs hf
     have hs : St (muL [.blk b_p0 146 [.slice aa ac.length ab, .int .i64 ah, .int .i64 ag]]) W w [.blk b_p0 146 [.slice aa ac.length ab, .int .i64 x548, .int .i64 x549], .blk b1 52 [.int .i64 0, .slice none 0 0], .blk b8 52 [.int .i64 x20, .slice A22 n23 c24], .row A22 n23 c24 112 4 ((recs GPlace.cells) xs21), .mat A551 n552 c553 23 2 vs555 ms550, .mat A42 n43 c44 23 2 vs46 r40.1, .row A816 0 0 2 1 (ints ([] : List Int))] := hs
     refine sY hf hs rfl rfl rfl (Y_assign rfl rfl) ?_; clear hf; intro a hf
     refine wpO_nil <| wpL_seq <| wpL_seq <| wpL_region ?_
     refine sY hf hs rfl rfl rfl (Y_assign rfl rfl) ?_; clear hf; intro a hf
     refine wpO_nil ?_
     obtain ⟨r997, hl998, hm813⟩ := bind_some hm813
     refine wpL_block (fun a w => ∃ x990 : Int, ∃ x991 : Int, ∃ xs992 : List Int, ∃ A993, ∃ n994, ∃ c995, (x990, x991, xs992) = r997 ∧ n994 = xs992.length ∧ Fr a 101 [(0, .pointer (some ⟨b_p0, 0, none⟩)), (2, .pointer (some ⟨b1, 0, none⟩)), (4, .pointer (some ⟨b8, 0, none⟩)), (5, .slice A551 n552 c553), (6, .int .i64 r38.1), (7, .slice A42 n43 c44), (8, .int .i64 r40.2), (9, .int .i64 x556), (10, .slice A993 n994 c995)] ∧ St (muL [.blk b_p0 146 [.slice aa ac.length ab, .int .i64 ah, .int .i64 ag]]) W w [.blk b_p0 146 [.slice aa ac.length ab, .int .i64 x990, .int .i64 x991], .blk b1 52 [.int .i64 0, .slice none 0 0], .blk b8 52 [.int .i64 x20, .slice A22 n23 c24], .row A22 n23 c24 112 4 ((recs GPlace.cells) xs21), .mat A551 n552 c553 23 2 vs555 ms550, .mat A42 n43 c44 23 2 vs46 r40.1, .row A993 n994 c995 2 1 (ints xs992)]) ?_ ?_
     ·refine wpL_loop (fun n a w => ∃ x930 : Int, ∃ x931 : Int, ∃ xs932 : List Int, ∃ x937 : Int, ∃ A933, ∃ n934, ∃ c935, spec_l22Draw_L5 F ac x20 r40 x556 n x930 x931 xs932 x937 = some r997 ∧ n934 = xs932.length ∧ Fr a 101 [(0, .pointer (some ⟨b_p0, 0, none⟩)), (2, .pointer (some ⟨b1, 0, none⟩)), (4, .pointer (some ⟨b8, 0, none⟩)), (5, .slice A551 n552 c553), (6, .int .i64 r38.1), (7, .slice A42 n43 c44), (8, .int .i64 r40.2), (9, .int .i64 x556), (10, .slice A933 n934 c935), (11, .int .i64 x937)] ∧ St (muL [.blk b_p0 146 [.slice aa ac.length ab, .int .i64 ah, .int .i64 ag]]) W w [.blk b_p0 146 [.slice aa ac.length ab, .int .i64 x930, .int .i64 x931], .blk b1 52 [.int .i64 0, .slice none 0 0], .blk b8 52 [.int .i64 x20, .slice A22 n23 c24], .row A22 n23 c24 112 4 ((recs GPlace.cells) xs21), .mat A551 n552 c553 23 2 vs555 ms550, .mat A42 n43 c44 23 2 vs46 r40.1, .row A933 n934 c935 2 1 (ints xs932)]) F ?_ ?_ ?_
      ·exact ⟨x548, x549, ([] : List Int), 0, A816, 0, 0, hl998, rfl, (FrD.pick (FrD.pick (FrD.pick (FrD.pick (FrD.pick (FrD.pick (FrD.pick (FrD.pick (FrD.pick (FrD.pick hf.none hf rfl) hf rfl) hf rfl) hf rfl) hf rfl) hf rfl) hf rfl) hf rfl) hf rfl) hf rfl), hs⟩
      ·rintro a w ⟨x930, x931, xs932, x937, A933, n934, c935, h0_, -, -, -⟩; simp [spec_l22Draw_L5] at h0_
      ·rintro n1000 a w ⟨x930, x931, xs932, x937, A933, n934, c935, hm999, hn936, hf, hs⟩
       rw [spec_l22Draw_L5] at hm999
       refine wpL_seq <| wpL_seq <| wpL_region ?_
       refine sY hf hs rfl rfl rfl (Y_move rfl rfl) ?_; clear hf; intro a hf
       refine sY hf hs rfl rfl rfl (Y_fieldAddr rfl rfl fo52_0) ?_; clear hf; intro a hf
       refine sY hf hs rfl rfl rfl (Y_load_blk rfl rfl (i := 2) rfl rfl ag2) ?_; clear hf; intro a hf
       refine sY hf hs rfl rfl rfl (Y_lss rfl rfl rfl) ?_; clear hf; intro a hf
       refine wpO_nil ?_
       refine wpL_cond hf rfl (fun hb1001 => ?_) (fun hb1001 => ?_)
       ·have hm999 := bif_t hm999 hb1001
        refine wpL_skip <| wpL_seq <| wpL_block0 <| wpL_seq <| wpL_region ?_
        refine sY hf hs rfl rfl rfl (Y_move rfl rfl) ?_; clear hf; intro a hf
        refine sY hf hs rfl rfl rfl (Y_eql rfl rfl rfl) ?_; clear hf; intro a hf
        refine wpO_nil ?_
        refine wpL_cond hf rfl (fun hb1002 => ?_) (fun hb1002 => ?_)
        ·have hm999 := bif_t hm999 hb1002
         refine wpL_drawM [.blk b1 52 [.int .i64 0, .slice none 0 0], .blk b8 52 [.int .i64 x20, .slice A22 n23 c24], .row A22 n23 c24 112 4 ((recs GPlace.cells) xs21), .mat A551 n552 c553 23 2 vs555 ms550, .mat A42 n43 c44 23 2 vs46 r40.1, .row A933 n934 c935 2 1 (ints xs932)] [18, 19] (by kernel_rfl) hs ?_; clear hs; intro w hs
         have hs0 : St (muL [.blk b_p0 146 [.slice aa ac.length ab, .int .i64 ah, .int .i64 ag]]) W w [.blk b1 52 [.int .i64 0, .slice none 0 0], .blk b8 52 [.int .i64 x20, .slice A22 n23 c24], .row A22 n23 c24 112 4 ((recs GPlace.cells) xs21), .mat A551 n552 c553 23 2 vs555 ms550, .mat A42 n43 c44 23 2 vs46 r40.1, .row A933 n934 c935 2 1 (ints xs932)] := hs.sel [1, 2, 3, 4, 5, 6] (by decide)
         refine mYp (i := 0) rfl (by kernel_rfl) (by kernel_rfl) hf rfl rfl rfl (fun _ => Y_move rfl rfl) ?_; clear hf; intro a hf
         refine mYp (i := 1) rfl (by kernel_rfl) (by kernel_rfl) hf rfl rfl rfl (fun _ => Y_move rfl rfl) ?_; clear hf; intro a hf
         refine mYp (i := 2) rfl (by kernel_rfl) (by kernel_rfl) hf rfl rfl rfl (fun _ => Y_move rfl rfl) ?_; clear hf; intro a hf
         obtain ⟨q1024, hi1025, hm999⟩ := bind_some hm999
         obtain ⟨hi1025a, hi1025b, hi1025q⟩ := idx_some hi1025
         obtain ⟨A1026, c1027, hv1028⟩ := hs.matRow (i := 5) rfl hi1025q
         refine mYp (i := 3) rfl (by kernel_rfl) (by kernel_rfl) hf rfl rfl rfl (fun _ => Y_index rfl rfl rfl el59 ti23 (Rd.isAt (hs.rdV (i := 5) rfl) hv1028) hi1025a (ltn hn45 hi1025b)) ?_; clear hf; intro a hf
         refine mY (i := 4) [[6, 7, 16, 17], [6, 7, 16, 17, 18]] rfl (by kernel_rfl) (by kernel_rfl) hf hs0 rfl rfl rfl (Y_load_rd rfl rfl (fun w hs => hs.rdV (i := 4) rfl) (at1 hv1028) ag23) ?_; clear hf; intro a hf
         refine mYp (i := 5) rfl (by kernel_rfl) (by kernel_rfl) hf rfl rfl rfl (fun _ => Y_move rfl rfl) ?_; clear hf; intro a hf
         obtain ⟨q1029, hi1030, hm999⟩ := bind_some hm999
         obtain ⟨hi1030a, hi1030b, hi1030q⟩ := idx_some hi1030
         refine mYp (i := 6) rfl (by kernel_rfl) (by kernel_rfl) hf rfl rfl rfl (fun _ => Y_index rfl rfl rfl el23 ti2 (Rd.isAt (hs.rdRow (i := 5) rfl ⟨hi1025q, hv1028⟩) (at1 (ints_at hi1030q))) hi1030a hi1030b) ?_; clear hf; intro a hf
         refine mY (i := 7) [[16, 17], [16, 17, 18]] rfl (by kernel_rfl) (by kernel_rfl) hf hs0 rfl rfl rfl (Y_load_rd rfl rfl (fun w hs => hs.rdRow (i := 4) rfl ⟨hi1025q, hv1028⟩) (at1 (ints_at hi1030q)) ag2) ?_; clear hf; intro a hf
         refine mYp (i := 8) rfl (by kernel_rfl) (by kernel_rfl) hf rfl rfl rfl (fun _ => Y_move rfl rfl) ?_; clear hf; intro a hf
         refine mYp (i := 9) rfl (by kernel_rfl) (by kernel_rfl) hf rfl rfl rfl (fun _ => Y_move rfl rfl) ?_; clear hf; intro a hf
         refine mYp (i := 11) rfl (by kernel_rfl) (by kernel_rfl) hf rfl rfl rfl (fun _ => Y_move rfl rfl) ?_; clear hf; intro a hf
         refine mRun (i := 10) rfl (by kernel_rfl) ?_
         obtain ⟨r1031, hc1032, hm999⟩ := bind_some hm999
         refine sCall hf rfl rfl rfl rfl (cap := []) rfl rfl en92 (spec_l01Next_ok F b_p0 ac aa ac.length ab rfl x930 x931 12 _ _ hc1032 (av.pass hs [0]) (hs.sel [0] (by decide)).rebase) ?_; clear hf
         rintro _ w ⟨rfl, hs1⟩ a hf
         have hs : St (muL [.blk b_p0 146 [.slice aa ac.length ab, .int .i64 ah, .int .i64 ag]]) W w [.blk b1 52 [.int .i64 0, .slice none 0 0], .blk b8 52 [.int .i64 x20, .slice A22 n23 c24], .row A22 n23 c24 112 4 ((recs GPlace.cells) xs21), .mat A551 n552 c553 23 2 vs555 ms550, .mat A42 n43 c44 23 2 vs46 r40.1, .row A933 n934 c935 2 1 (ints xs932), .blk b_p0 146 [.slice aa ac.length ab, .int .i64 r1031.2.1, .int .i64 r1031.2.2]] := St.mutTail (La := [.blk b1 52 [.int .i64 0, .slice none 0 0], .blk b8 52 [.int .i64 x20, .slice A22 n23 c24], .row A22 n23 c24 112 4 ((recs GPlace.cells) xs21), .mat A551 n552 c553 23 2 vs555 ms550, .mat A42 n43 c44 23 2 vs46 r40.1, .row A933 n934 c935 2 1 (ints xs932)]) (Lb := [.blk b_p0 146 [.slice aa ac.length ab, .int .i64 x930, .int .i64 x931]]) (hs.sel [1, 2, 3, 4, 5, 6, 0] (by decide)) hs1
         clear hs1
         have hs0 : St (muL [.blk b_p0 146 [.slice aa ac.length ab, .int .i64 ah, .int .i64 ag]]) W w [.blk b1 52 [.int .i64 0, .slice none 0 0], .blk b8 52 [.int .i64 x20, .slice A22 n23 c24], .row A22 n23 c24 112 4 ((recs GPlace.cells) xs21), .mat A551 n552 c553 23 2 vs555 ms550, .mat A42 n43 c44 23 2 vs46 r40.1, .row A933 n934 c935 2 1 (ints xs932)] := hs.sel [0, 1, 2, 3, 4, 5] (by decide)
         refine wpO_nil ⟨Or.inr (fun _ => hs0), ?_⟩
         refine mRun (i := 12) rfl (by kernel_rfl) ?_
         obtain ⟨r1033, hc1034, hm999⟩ := bind_some hm999
         refine sCall hf rfl rfl rfl rfl (cap := []) rfl rfl en92 (spec_l01Next_ok F b_p0 ac aa ac.length ab rfl r1031.2.1 r1031.2.2 4 _ _ hc1034 (av.pass hs [6]) (hs.sel [6] (by decide)).rebase) ?_; clear hf
         rintro _ w ⟨rfl, hs1⟩ a hf
         have hs : St (muL [.blk b_p0 146 [.slice aa ac.length ab, .int .i64 ah, .int .i64 ag]]) W w [.blk b1 52 [.int .i64 0, .slice none 0 0], .blk b8 52 [.int .i64 x20, .slice A22 n23 c24], .row A22 n23 c24 112 4 ((recs GPlace.cells) xs21), .mat A551 n552 c553 23 2 vs555 ms550, .mat A42 n43 c44 23 2 vs46 r40.1, .row A933 n934 c935 2 1 (ints xs932), .blk b_p0 146 [.slice aa ac.length ab, .int .i64 r1033.2.1, .int .i64 r1033.2.2]] := St.mutTail (La := [.blk b1 52 [.int .i64 0, .slice none 0 0], .blk b8 52 [.int .i64 x20, .slice A22 n23 c24], .row A22 n23 c24 112 4 ((recs GPlace.cells) xs21), .mat A551 n552 c553 23 2 vs555 ms550, .mat A42 n43 c44 23 2 vs46 r40.1, .row A933 n934 c935 2 1 (ints xs932)]) (Lb := [.blk b_p0 146 [.slice aa ac.length ab, .int .i64 r1031.2.1, .int .i64 r1031.2.2]]) (hs.sel [0, 1, 2, 3, 4, 5, 6] (by decide)) hs1
         clear hs1
         have hs0 : St (muL [.blk b_p0 146 [.slice aa ac.length ab, .int .i64 ah, .int .i64 ag]]) W w [.blk b1 52 [.int .i64 0, .slice none 0 0], .blk b8 52 [.int .i64 x20, .slice A22 n23 c24], .row A22 n23 c24 112 4 ((recs GPlace.cells) xs21), .mat A551 n552 c553 23 2 vs555 ms550, .mat A42 n43 c44 23 2 vs46 r40.1, .row A933 n934 c935 2 1 (ints xs932)] := hs.sel [0, 1, 2, 3, 4, 5] (by decide)
         refine wpO_nil ⟨Or.inr (fun _ => hs0), ?_⟩
         refine mYp (i := 13) rfl (by kernel_rfl) (by kernel_rfl) hf rfl rfl rfl (fun _ => Y_sub rfl rfl rfl) ?_; clear hf; intro a hf
         refine mRun (i := 14) rfl (by kernel_rfl) ?_
         refine sBuildSlice (parts := [(0, .tmp 52), (1, .const (.int .i64 3)), (2, .const (.int .i64 500)), (3, .tmp 55)]) (vs := [.int .i64 r1031.1, .int .i64 3, .int .i64 500, .int .i64 (IntKind.i64.wrap (r1033.1 - 1))]) (cells := [.int .i64 r1031.1, .int .i64 3, .int .i64 500, .int .i64 (IntKind.i64.wrap (r1033.1 - 1))]) hf hs rfl rfl rfl rfl rfl el23 ti2 rfl rfl rfl rfl ?_; clear hf hs; intro a w A1035 hs hA1036 hf
         have hs : St (muL [.blk b_p0 146 [.slice aa ac.length ab, .int .i64 ah, .int .i64 ag]]) W w [.blk b1 52 [.int .i64 0, .slice none 0 0], .blk b8 52 [.int .i64 x20, .slice A22 n23 c24], .row A22 n23 c24 112 4 ((recs GPlace.cells) xs21), .mat A551 n552 c553 23 2 vs555 ms550, .mat A42 n43 c44 23 2 vs46 r40.1, .row A933 n934 c935 2 1 (ints xs932), .blk b_p0 146 [.slice aa ac.length ab, .int .i64 r1033.2.1, .int .i64 r1033.2.2], .row A1035 4 4 2 1 (ints ([r1031.1, 3, 500, (IntKind.i64.wrap (r1033.1 - 1))]))] := hs
         have hs0 : St (muL [.blk b_p0 146 [.slice aa ac.length ab, .int .i64 ah, .int .i64 ag]]) W w [.blk b1 52 [.int .i64 0, .slice none 0 0], .blk b8 52 [.int .i64 x20, .slice A22 n23 c24], .row A22 n23 c24 112 4 ((recs GPlace.cells) xs21), .mat A551 n552 c553 23 2 vs555 ms550, .mat A42 n43 c44 23 2 vs46 r40.1, .row A933 n934 c935 2 1 (ints xs932)] := hs.sel [0, 1, 2, 3, 4, 5] (by decide)
         refine wpO_nil ⟨Or.inr (fun _ => hs0), ?_⟩
         refine mRun (i := 15) rfl (by kernel_rfl) ?_
         obtain ⟨r1037, hc1038, hm999⟩ := bind_some hm999
         refine sCall hf rfl rfl rfl rfl (cap := []) rfl rfl en93 (spec_l01Pick_ok F b_p0 ac aa ac.length ab rfl r1033.2.1 r1033.2.2 ([r1031.1, 3, 500, (IntKind.i64.wrap (r1033.1 - 1))]) A1035 4 4 rfl _ _ hc1038 (av.pass hs [6]) (hs.keepR (i := 7) rfl [6] (by decide)) (hs.sel [6] (by decide)).rebase) ?_; clear hf
         rintro _ w ⟨rfl, hs1⟩ a hf
         have hs : St (muL [.blk b_p0 146 [.slice aa ac.length ab, .int .i64 ah, .int .i64 ag]]) W w [.blk b1 52 [.int .i64 0, .slice none 0 0], .blk b8 52 [.int .i64 x20, .slice A22 n23 c24], .row A22 n23 c24 112 4 ((recs GPlace.cells) xs21), .mat A551 n552 c553 23 2 vs555 ms550, .mat A42 n43 c44 23 2 vs46 r40.1, .row A933 n934 c935 2 1 (ints xs932), .row A1035 4 4 2 1 (ints ([r1031.1, 3, 500, (IntKind.i64.wrap (r1033.1 - 1))])), .blk b_p0 146 [.slice aa ac.length ab, .int .i64 r1037.2.1, .int .i64 r1037.2.2]] := St.mutTail (La := [.blk b1 52 [.int .i64 0, .slice none 0 0], .blk b8 52 [.int .i64 x20, .slice A22 n23 c24], .row A22 n23 c24 112 4 ((recs GPlace.cells) xs21), .mat A551 n552 c553 23 2 vs555 ms550, .mat A42 n43 c44 23 2 vs46 r40.1, .row A933 n934 c935 2 1 (ints xs932), .row A1035 4 4 2 1 (ints ([r1031.1, 3, 500, (IntKind.i64.wrap (r1033.1 - 1))]))]) (Lb := [.blk b_p0 146 [.slice aa ac.length ab, .int .i64 r1033.2.1, .int .i64 r1033.2.2]]) (hs.sel [0, 1, 2, 3, 4, 5, 7, 6] (by decide)) hs1
         clear hs1
         have hs0 : St (muL [.blk b_p0 146 [.slice aa ac.length ab, .int .i64 ah, .int .i64 ag]]) W w [.blk b1 52 [.int .i64 0, .slice none 0 0], .blk b8 52 [.int .i64 x20, .slice A22 n23 c24], .row A22 n23 c24 112 4 ((recs GPlace.cells) xs21), .mat A551 n552 c553 23 2 vs555 ms550, .mat A42 n43 c44 23 2 vs46 r40.1, .row A933 n934 c935 2 1 (ints xs932)] := hs.sel [0, 1, 2, 3, 4, 5] (by decide)
         refine wpO_nil ⟨Or.inr (fun _ => hs0), ?_⟩
         refine mYp (i := 16) rfl (by kernel_rfl) (by kernel_rfl) hf rfl rfl rfl (fun _ => Y_add rfl rfl rfl) ?_; clear hf; intro a hf
         refine mYp (i := 17) rfl (by kernel_rfl) (by kernel_rfl) hf rfl rfl rfl (fun _ => Y_max rfl rfl rfl) ?_; clear hf; intro a hf
         refine mRun (i := 18) rfl (by kernel_rfl) ?_
         refine sBuildSlice (parts := [(0, .tmp 59)]) (vs := [.int .i64 (max 0 (IntKind.i64.wrap (q1029 + r1037.1)))]) (cells := [.int .i64 (max 0 (IntKind.i64.wrap (q1029 + r1037.1)))]) hf hs rfl rfl rfl rfl rfl el23 ti2 rfl rfl rfl rfl ?_; clear hf hs; intro a w A1039 hs hA1040 hf
         have hs : St (muL [.blk b_p0 146 [.slice aa ac.length ab, .int .i64 ah, .int .i64 ag]]) W w [.blk b1 52 [.int .i64 0, .slice none 0 0], .blk b8 52 [.int .i64 x20, .slice A22 n23 c24], .row A22 n23 c24 112 4 ((recs GPlace.cells) xs21), .mat A551 n552 c553 23 2 vs555 ms550, .mat A42 n43 c44 23 2 vs46 r40.1, .row A933 n934 c935 2 1 (ints xs932), .row A1035 4 4 2 1 (ints ([r1031.1, 3, 500, (IntKind.i64.wrap (r1033.1 - 1))])), .blk b_p0 146 [.slice aa ac.length ab, .int .i64 r1037.2.1, .int .i64 r1037.2.2], .row A1039 1 1 2 1 (ints ([(max 0 (IntKind.i64.wrap (q1029 + r1037.1)))]))] := hs
         refine wpO_nil ⟨Or.inl (by decide), ?_⟩
         refine mRun (i := 19) rfl (by kernel_rfl) ?_
         obtain ⟨xs1043, ha1044, hm999⟩ := bind_some hm999
         refine sAppendL (i := 5) (xs := xs932) (ys := [(max 0 (IntKind.i64.wrap (q1029 + r1037.1)))]) (enc := ints) hf hs rfl rfl rfl rfl rfl rfl hn936 rfl rfl ha1044 el23 ti2 rfl rfl rfl (hs.rd (i := 8) rfl) (Nat.succ_pos _) ints_len1 ints_append ints_one ?_; clear hf hs; intro a w A1041 c1042 hs hf
         have hs : St (muL [.blk b_p0 146 [.slice aa ac.length ab, .int .i64 ah, .int .i64 ag]]) W w [.blk b1 52 [.int .i64 0, .slice none 0 0], .blk b8 52 [.int .i64 x20, .slice A22 n23 c24], .row A22 n23 c24 112 4 ((recs GPlace.cells) xs21), .mat A551 n552 c553 23 2 vs555 ms550, .mat A42 n43 c44 23 2 vs46 r40.1, .row A1041 xs1043.length c1042 2 1 (ints xs1043), .row A1035 4 4 2 1 (ints ([r1031.1, 3, 500, (IntKind.i64.wrap (r1033.1 - 1))])), .blk b_p0 146 [.slice aa ac.length ab, .int .i64 r1037.2.1, .int .i64 r1037.2.2], .row A1039 1 1 2 1 (ints ([(max 0 (IntKind.i64.wrap (q1029 + r1037.1)))]))] := hs
         refine wpO_nil ⟨Or.inl (by decide), ?_⟩
         refine mYp (i := 20) rfl (by kernel_rfl) (by kernel_rfl) hf rfl rfl rfl (fun _ => Y_assign rfl rfl) ?_; clear hf; intro a hf
         refine mDone (by kernel_rfl) ?_
         clear hs0
         refine wpL_nil (Qb_normal ?_)
         refine wpL_region ?_
         refine sY hf hs rfl rfl rfl (Y_move rfl rfl) ?_; clear hf; intro a hf
         refine sY hf hs rfl rfl rfl (Y_add rfl rfl rfl) ?_; clear hf; intro a hf
         refine sY hf hs rfl rfl rfl (Y_assign rfl rfl) ?_; clear hf; intro a hf
         refine wpO_nil ?_
         refine wpL_nil (Ql_normal ?_)
         exact ⟨r1037.2.1, r1037.2.2, xs1043, (IntKind.i64.wrap (x937 + 1)), A1041, xs1043.length, c1042, hm999, rfl, (FrD.pick (FrD.pick (FrD.pick (FrD.pick (FrD.pick (FrD.pick (FrD.pick (FrD.pick (FrD.pick (FrD.pick hf.none hf rfl) hf rfl) hf rfl) hf rfl) hf rfl) hf rfl) hf rfl) hf rfl) hf rfl) hf rfl), hs.sel [7, 0, 1, 2, 3, 4, 5] (by decide)⟩
        ·have hm999 := bif_f hm999 hb1002
         refine wpL_region ?_
         refine sY hf hs rfl rfl rfl (Y_move rfl rfl) ?_; clear hf; intro a hf
         refine sY hf hs rfl rfl rfl (Y_move rfl rfl) ?_; clear hf; intro a hf
         obtain ⟨r1045, hc1046, hm999⟩ := bind_some hm999
         refine sCall hf rfl rfl rfl rfl (cap := []) rfl rfl en92 (spec_l01Next_ok F b_p0 ac aa ac.length ab rfl x930 x931 50 _ _ hc1046 (av.pass hs [0]) (hs.sel [0] (by decide)).rebase) ?_; clear hf
         rintro _ w ⟨rfl, hs1⟩ a hf
         have hs : St (muL [.blk b_p0 146 [.slice aa ac.length ab, .int .i64 ah, .int .i64 ag]]) W w [.blk b1 52 [.int .i64 0, .slice none 0 0], .blk b8 52 [.int .i64 x20, .slice A22 n23 c24], .row A22 n23 c24 112 4 ((recs GPlace.cells) xs21), .mat A551 n552 c553 23 2 vs555 ms550, .mat A42 n43 c44 23 2 vs46 r40.1, .row A933 n934 c935 2 1 (ints xs932), .blk b_p0 146 [.slice aa ac.length ab, .int .i64 r1045.2.1, .int .i64 r1045.2.2]] := St.mutTail (La := [.blk b1 52 [.int .i64 0, .slice none 0 0], .blk b8 52 [.int .i64 x20, .slice A22 n23 c24], .row A22 n23 c24 112 4 ((recs GPlace.cells) xs21), .mat A551 n552 c553 23 2 vs555 ms550, .mat A42 n43 c44 23 2 vs46 r40.1, .row A933 n934 c935 2 1 (ints xs932)]) (Lb := [.blk b_p0 146 [.slice aa ac.length ab, .int .i64 x930, .int .i64 x931]]) (hs.sel [1, 2, 3, 4, 5, 6, 0] (by decide)) hs1
         clear hs1
         refine sBuildSlice (parts := [(0, .tmp 64)]) (vs := [.int .i64 r1045.1]) (cells := [.int .i64 r1045.1]) hf hs rfl rfl rfl rfl rfl el23 ti2 rfl rfl rfl rfl ?_; clear hf hs; intro a w A1047 hs hA1048 hf
         have hs : St (muL [.blk b_p0 146 [.slice aa ac.length ab, .int .i64 ah, .int .i64 ag]]) W w [.blk b1 52 [.int .i64 0, .slice none 0 0], .blk b8 52 [.int .i64 x20, .slice A22 n23 c24], .row A22 n23 c24 112 4 ((recs GPlace.cells) xs21), .mat A551 n552 c553 23 2 vs555 ms550, .mat A42 n43 c44 23 2 vs46 r40.1, .row A933 n934 c935 2 1 (ints xs932), .blk b_p0 146 [.slice aa ac.length ab, .int .i64 r1045.2.1, .int .i64 r1045.2.2], .row A1047 1 1 2 1 (ints ([r1045.1]))] := hs
         obtain ⟨xs1051, ha1052, hm999⟩ := bind_some hm999
         refine sAppendL (i := 5) (xs := xs932) (ys := [r1045.1]) (enc := ints) hf hs rfl rfl rfl rfl rfl rfl hn936 rfl rfl ha1052 el23 ti2 rfl rfl rfl (hs.rd (i := 7) rfl) (Nat.succ_pos _) ints_len1 ints_append ints_one ?_; clear hf hs; intro a w A1049 c1050 hs hf
         have hs : St (muL [.blk b_p0 146 [.slice aa ac.length ab, .int .i64 ah, .int .i64 ag]]) W w [.blk b1 52 [.int .i64 0, .slice none 0 0], .blk b8 52 [.int .i64 x20, .slice A22 n23 c24], .row A22 n23 c24 112 4 ((recs GPlace.cells) xs21), .mat A551 n552 c553 23 2 vs555 ms550, .mat A42 n43 c44 23 2 vs46 r40.1, .row A1049 xs1051.length c1050 2 1 (ints xs1051), .blk b_p0 146 [.slice aa ac.length ab, .int .i64 r1045.2.1, .int .i64 r1045.2.2], .row A1047 1 1 2 1 (ints ([r1045.1]))] := hs
         refine sY hf hs rfl rfl rfl (Y_assign rfl rfl) ?_; clear hf; intro a hf
         refine wpO_nil ?_
         refine wpL_nil (Qb_normal ?_)
         refine wpL_region ?_
         refine sY hf hs rfl rfl rfl (Y_move rfl rfl) ?_; clear hf; intro a hf
         refine sY hf hs rfl rfl rfl (Y_add rfl rfl rfl) ?_; clear hf; intro a hf
         refine sY hf hs rfl rfl rfl (Y_assign rfl rfl) ?_; clear hf; intro a hf
         refine wpO_nil ?_
         refine wpL_nil (Ql_normal ?_)
         exact ⟨r1045.2.1, r1045.2.2, xs1051, (IntKind.i64.wrap (x937 + 1)), A1049, xs1051.length, c1050, hm999, rfl, (FrD.pick (FrD.pick (FrD.pick (FrD.pick (FrD.pick (FrD.pick (FrD.pick (FrD.pick (FrD.pick (FrD.pick hf.none hf rfl) hf rfl) hf rfl) hf rfl) hf rfl) hf rfl) hf rfl) hf rfl) hf rfl) hf rfl), hs.sel [6, 0, 1, 2, 3, 4, 5] (by decide)⟩
       ·have hm999 := bif_f hm999 hb1001
        refine wpL_exit (Ql_exit (Qb_exit ?_))
        exact ⟨x930, x931, xs932, A933, n934, c935, Option.some.inj hm999, hn936, (FrD.pick (FrD.pick (FrD.pick (FrD.pick (FrD.pick (FrD.pick (FrD.pick (FrD.pick (FrD.pick hf.none hf rfl) hf rfl) hf rfl) hf rfl) hf rfl) hf rfl) hf rfl) hf rfl) hf rfl), hs⟩
     ·rintro a w ⟨x990, x991, xs992, A993, n994, c995, hr_, hn996, hf, hs⟩
      subst hr_
      try dsimp only at hm813
      refine wpL_region ?_
      refine sY hf hs rfl rfl rfl (Y_move rfl rfl) ?_; clear hf; intro a hf
      refine sY hf hs rfl rfl rfl (Y_move rfl rfl) ?_; clear hf; intro a hf
      refine sOneM (j := 6) hf hs rfl rfl rfl rfl rfl rfl hn996 el59 ti23 ?_; clear hf hs; intro a w A1053 hs hf
      have hs : St (muL [.blk b_p0 146 [.slice aa ac.length ab, .int .i64 ah, .int .i64 ag]]) W w [.blk b_p0 146 [.slice aa ac.length ab, .int .i64 x990, .int .i64 x991], .blk b1 52 [.int .i64 0, .slice none 0 0], .blk b8 52 [.int .i64 x20, .slice A22 n23 c24], .row A22 n23 c24 112 4 ((recs GPlace.cells) xs21), .mat A551 n552 c553 23 2 vs555 ms550, .mat A42 n43 c44 23 2 vs46 r40.1, .mat A1053 1 1 23 2 ([Value.slice A993 xs992.length c995]) ([xs992])] := hs
      obtain ⟨ms1057, ha1058, hm813⟩ := bind_some hm813
      refine sAppendM (i := 4) (j := 6) hf hs rfl rfl rfl rfl rfl rfl hn554 rfl (by decide) rfl rfl (by decide) ha1058 el59 ti23 rfl ?_; clear hf hs; intro a w A1055 c1056 hs hf
      have hs : St (muL [.blk b_p0 146 [.slice aa ac.length ab, .int .i64 ah, .int .i64 ag]]) W w [.blk b_p0 146 [.slice aa ac.length ab, .int .i64 x990, .int .i64 x991], .blk b1 52 [.int .i64 0, .slice none 0 0], .blk b8 52 [.int .i64 x20, .slice A22 n23 c24], .row A22 n23 c24 112 4 ((recs GPlace.cells) xs21), .mat A1055 ms1057.length c1056 23 2 (vs555 ++ ([Value.slice A993 xs992.length c995])) ms1057, .mat A42 n43 c44 23 2 vs46 r40.1] := hs
      obtain ⟨hq1059, hv1060⟩ := hs.appended (i := 4) rfl ha1058
      refine sY hf hs rfl rfl rfl (Y_assign rfl rfl) ?_; clear hf; intro a hf
      refine wpO_nil ?_
      refine wpL_nil (Qb_normal ?_)
      refine wpL_region ?_
      refine sY hf hs rfl rfl rfl (Y_move rfl rfl) ?_; clear hf; intro a hf
      refine sY hf hs rfl rfl rfl (Y_add rfl rfl rfl) ?_; clear hf; intro a hf
      refine sY hf hs rfl rfl rfl (Y_assign rfl rfl) ?_; clear hf; intro a hf
      refine wpO_nil ?_
      refine wpL_nil (Ql_normal ?_)
      exact ⟨x990, x991, ms1057, (IntKind.i64.wrap (x556 + 1)), A1055, ms1057.length, c1056, (vs555 ++ ([Value.slice A993 xs992.length c995])), hm813, rfl, (FrD.pick (FrD.pick (FrD.pick (FrD.pick (FrD.pick (FrD.pick (FrD.pick (FrD.pick hf.none hf rfl) hf rfl) hf rfl) hf rfl) hf rfl) hf rfl) hf rfl) hf rfl), hs⟩
    ·have hm813 := bif_f hm813 hb815
     refine wpL_exit (Ql_exit (Qb_exit ?_))
     exact ⟨x548, x549, ms550, A551, n552, c553, vs555, Option.some.inj hm813, hn554, (FrD.pick (FrD.pick (FrD.pick (FrD.pick hf.none hf rfl) hf rfl) hf rfl) hf rfl), hs.sel [0, 1, 2, 3, 4] (by decide)⟩
  ·rintro a w ⟨x803, x804, ms805, A806, n807, c808, vs810, hr_, hn809, hf, hs⟩
   subst hr_
   try dsimp only at hm
   refine wpL_seq <| wpL_seq <| wpL_region ?_
   refine sY hf hs rfl rfl rfl (Y_move rfl rfl) ?_; clear hf; intro a hf
   refine sY hf hs rfl rfl rfl (Y_lenH rfl rfl el59 hn809) ?_; clear hf; intro a hf
   refine sY hf hs rfl rfl rfl (Y_gtr rfl rfl rfl) ?_; clear hf; intro a hf
   refine wpO_nil ?_
   obtain ⟨r1132, hj1133, hm⟩ := bind_some hm
   refine wpL_cut (fun a w => ∃ x1124 : Int, ∃ x1125 : Int, ∃ ms1126 : List (List Int), ∃ A1127, ∃ n1128, ∃ c1129, ∃ vs1131, (x1124, x1125, ms1126) = r1132 ∧ n1128 = ms1126.length ∧ Fr a 101 [(2, .pointer (some ⟨b1, 0, none⟩)), (4, .pointer (some ⟨b8, 0, none⟩)), (5, .slice A1127 n1128 c1129)] ∧ St (muL [.blk b_p0 146 [.slice aa ac.length ab, .int .i64 ah, .int .i64 ag]]) W w [.blk b_p0 146 [.slice aa ac.length ab, .int .i64 x1124, .int .i64 x1125], .blk b1 52 [.int .i64 0, .slice none 0 0], .blk b8 52 [.int .i64 x20, .slice A22 n23 c24], .row A22 n23 c24 112 4 ((recs GPlace.cells) xs21), .mat A1127 n1128 c1129 23 2 vs1131 ms1126]) ?_ ?_
   ·refine wpL_cond hf rfl (fun hb1134 => ?_) (fun hb1134 => ?_)
    ·have hj1133 := bif_t hj1133 hb1134
     refine wpL_seq <| wpL_region ?_
     refine sY hf hs rfl rfl rfl (Y_move rfl rfl) ?_; clear hf; intro a hf
     obtain ⟨r1135, hc1136, hj1133⟩ := bind_some hj1133
     refine sCall hf rfl rfl rfl rfl (cap := []) rfl rfl en92 (spec_l01Next_ok F b_p0 ac aa ac.length ab rfl x803 x804 30 _ _ hc1136 (av.pass hs [0]) (hs.sel [0] (by decide)).rebase) ?_; clear hf
     rintro _ w ⟨rfl, hs1⟩ a hf
     have hs : St (muL [.blk b_p0 146 [.slice aa ac.length ab, .int .i64 ah, .int .i64 ag]]) W w [.blk b1 52 [.int .i64 0, .slice none 0 0], .blk b8 52 [.int .i64 x20, .slice A22 n23 c24], .row A22 n23 c24 112 4 ((recs GPlace.cells) xs21), .mat A806 n807 c808 23 2 vs810 ms805, .blk b_p0 146 [.slice aa ac.length ab, .int .i64 r1135.2.1, .int .i64 r1135.2.2]] := St.mutTail (La := [.blk b1 52 [.int .i64 0, .slice none 0 0], .blk b8 52 [.int .i64 x20, .slice A22 n23 c24], .row A22 n23 c24 112 4 ((recs GPlace.cells) xs21), .mat A806 n807 c808 23 2 vs810 ms805]) (Lb := [.blk b_p0 146 [.slice aa ac.length ab, .int .i64 x803, .int .i64 x804]]) (hs.sel [1, 2, 3, 4, 0] (by decide)) hs1
     clear hs1
     refine wpO_nil <| wpL_block0 <| wpL_seq <| wpL_region ?_
     refine sY hf hs rfl rfl rfl (Y_eql rfl rfl rfl) ?_; clear hf; intro a hf
     refine sY hf hs rfl rfl rfl (Y_assign rfl rfl) ?_; clear hf; intro a hf
     refine wpO_nil ?_
     refine wpL_cond hf rfl (fun hb1137 => ?_) (fun hb1137 => ?_)
     ·have hj1133 := bif_t hj1133 hb1137
      refine wpL_region ?_
      refine sY hf hs rfl rfl rfl (Y_move rfl rfl) ?_; clear hf; intro a hf
      refine sY hf hs rfl rfl rfl (Y_move rfl rfl) ?_; clear hf; intro a hf
      obtain ⟨q1138, hi1139, hj1133⟩ := bind_some hj1133
      obtain ⟨hi1139a, hi1139b, hi1139q⟩ := idx_some hi1139
      obtain ⟨A1140, c1141, hv1142⟩ := hs.matRow (i := 3) rfl hi1139q
      refine sY hf hs rfl rfl rfl (Y_index rfl rfl rfl el59 ti23 (Rd.isAt (hs.rdV (i := 3) rfl) hv1142) hi1139a (ltn hn809 hi1139b)) ?_; clear hf; intro a hf
      refine sY hf hs rfl rfl rfl (Y_load_rd rfl rfl (fun w hs => hs.rdV (i := 3) rfl) (at1 hv1142) ag23) ?_; clear hf; intro a hf
      refine sBuildSlice (parts := [(0, .const (.int .i64 0))]) (vs := [.int .i64 0]) (cells := [.int .i64 0]) hf hs rfl rfl rfl rfl rfl el23 ti2 rfl rfl rfl rfl ?_; clear hf hs; intro a w A1143 hs hA1144 hf
      have hs : St (muL [.blk b_p0 146 [.slice aa ac.length ab, .int .i64 ah, .int .i64 ag]]) W w [.blk b1 52 [.int .i64 0, .slice none 0 0], .blk b8 52 [.int .i64 x20, .slice A22 n23 c24], .row A22 n23 c24 112 4 ((recs GPlace.cells) xs21), .mat A806 n807 c808 23 2 vs810 ms805, .blk b_p0 146 [.slice aa ac.length ab, .int .i64 r1135.2.1, .int .i64 r1135.2.2], .row A1143 1 1 2 1 (ints ([0]))] := hs
      obtain ⟨xs1149, ha1150, hj1133⟩ := bind_some hj1133
      obtain ⟨ms1151, hu1152, hj1133⟩ := bind_some hj1133
      refine sAppRowM (i := 3) (k := 0) (row := q1138) (ys := [0]) hf hs rfl rfl rfl rfl rfl rfl rfl rfl rfl rfl (fun _ _ => rfl) (fun _ _ => rfl) rfl rfl rfl (fun _ _ _ => rfl) (fun _ _ _ => rfl) rfl hn809 hi1139q hv1142 rfl (Nat.succ_pos _) ha1150 hu1152 el23 ti2 rfl el59 ti23 ti23 (hs.rd (i := 5) rfl) ?_; clear hf hs; intro a w A1154 c1155 vs1153 hs hf
      have hs : St (muL [.blk b_p0 146 [.slice aa ac.length ab, .int .i64 ah, .int .i64 ag]]) W w [.blk b1 52 [.int .i64 0, .slice none 0 0], .blk b8 52 [.int .i64 x20, .slice A22 n23 c24], .row A22 n23 c24 112 4 ((recs GPlace.cells) xs21), .mat A806 n807 c808 23 2 vs1153 ms1151, .blk b_p0 146 [.slice aa ac.length ab, .int .i64 r1135.2.1, .int .i64 r1135.2.2], .row A1143 1 1 2 1 (ints ([0]))] := hs
      refine wpO_nil ?_
      refine wpL_nil (Qb_normal ?_)
      refine wpL_nil (then_normal ?_)
      exact ⟨r1135.2.1, r1135.2.2, ms1151, A806, n807, c808, vs1153, Option.some.inj hj1133, ((hn809).trans (upd_len hu1152).symm), (FrD.pick (FrD.pick (FrD.pick hf.none hf rfl) hf rfl) hf rfl), hs.sel [4, 0, 1, 2, 3] (by decide)⟩
     ·have hj1133 := bif_f hj1133 hb1137
      refine wpL_seq <| wpL_region ?_
      refine sY hf hs rfl rfl rfl (Y_eql rfl rfl rfl) ?_; clear hf; intro a hf
      refine sY hf hs rfl rfl rfl (Y_assign rfl rfl) ?_; clear hf; intro a hf
      refine wpO_nil ?_
      refine wpL_cond hf rfl (fun hb1156 => ?_) (fun hb1156 => ?_)
      ·have hj1133 := bif_t hj1133 hb1156
       refine wpL_seq <| wpL_region ?_
       refine sY hf hs rfl rfl rfl (Y_move rfl rfl) ?_; clear hf; intro a hf
       obtain ⟨q1157, hi1158, hj1133⟩ := bind_some hj1133
       obtain ⟨hi1158a, hi1158b, hi1158q⟩ := idx_some hi1158
       obtain ⟨A1159, c1160, hv1161⟩ := hs.matRow (i := 3) rfl hi1158q
       refine sY hf hs rfl rfl rfl (Y_index rfl rfl rfl el59 ti23 (Rd.isAt (hs.rdV (i := 3) rfl) hv1161) hi1158a (ltn hn809 hi1158b)) ?_; clear hf; intro a hf
       refine sY hf hs rfl rfl rfl (Y_load_rd rfl rfl (fun w hs => hs.rdV (i := 3) rfl) (at1 hv1161) ag23) ?_; clear hf; intro a hf
       refine sY hf hs rfl rfl rfl (Y_lenH rfl rfl el23 rfl) ?_; clear hf; intro a hf
       refine sY hf hs rfl rfl rfl (Y_gtr rfl rfl rfl) ?_; clear hf; intro a hf
       refine wpO_nil ?_
       refine wpL_cond hf rfl (fun hb1162 => ?_) (fun hb1162 => ?_)
       ·have hj1133 := bif_t hj1133 hb1162
        refine wpL_drawM [.blk b1 52 [.int .i64 0, .slice none 0 0], .blk b8 52 [.int .i64 x20, .slice A22 n23 c24], .row A22 n23 c24 112 4 ((recs GPlace.cells) xs21), .mat A806 n807 c808 23 2 vs810 ms805] [7] (by kernel_rfl) hs ?_; clear hs; intro w hs
        have hs0 : St (muL [.blk b_p0 146 [.slice aa ac.length ab, .int .i64 ah, .int .i64 ag]]) W w [.blk b1 52 [.int .i64 0, .slice none 0 0], .blk b8 52 [.int .i64 x20, .slice A22 n23 c24], .row A22 n23 c24 112 4 ((recs GPlace.cells) xs21), .mat A806 n807 c808 23 2 vs810 ms805] := hs.sel [0, 1, 2, 3] (by decide)
        refine mYp (i := 0) rfl (by kernel_rfl) (by kernel_rfl) hf rfl rfl rfl (fun _ => Y_move rfl rfl) ?_; clear hf; intro a hf
        obtain ⟨q1180, hi1181, hj1133⟩ := bind_some hj1133
        obtain ⟨hi1181a, hi1181b, hi1181q⟩ := idx_some hi1181
        obtain ⟨A1182, c1183, hv1184⟩ := hs.matRow (i := 3) rfl hi1181q
        refine mYp (i := 1) rfl (by kernel_rfl) (by kernel_rfl) hf rfl rfl rfl (fun _ => Y_index rfl rfl rfl el59 ti23 (Rd.isAt (hs.rdV (i := 3) rfl) hv1184) hi1181a (ltn hn809 hi1181b)) ?_; clear hf; intro a hf
        refine mY (i := 2) [[]] rfl (by kernel_rfl) (by kernel_rfl) hf hs0 rfl rfl rfl (Y_load_rd rfl rfl (fun w hs => hs.rdV (i := 3) rfl) (at1 hv1184) ag23) ?_; clear hf; intro a hf
        refine mYp (i := 3) rfl (by kernel_rfl) (by kernel_rfl) hf rfl rfl rfl (fun _ => Y_move rfl rfl) ?_; clear hf; intro a hf
        refine mRun (i := 4) rfl (by kernel_rfl) ?_
        refine sBuildSlice (parts := [(0, .const (.int .i64 (-1))), (1, .const (.int .i64 1000000)), (2, .const (.int .i64 1000001))]) (vs := [.int .i64 (-1), .int .i64 1000000, .int .i64 1000001]) (cells := [.int .i64 (-1), .int .i64 1000000, .int .i64 1000001]) hf hs rfl rfl rfl rfl rfl el23 ti2 rfl rfl rfl rfl ?_; clear hf hs; intro a w A1185 hs hA1186 hf
        have hs : St (muL [.blk b_p0 146 [.slice aa ac.length ab, .int .i64 ah, .int .i64 ag]]) W w [.blk b1 52 [.int .i64 0, .slice none 0 0], .blk b8 52 [.int .i64 x20, .slice A22 n23 c24], .row A22 n23 c24 112 4 ((recs GPlace.cells) xs21), .mat A806 n807 c808 23 2 vs810 ms805, .blk b_p0 146 [.slice aa ac.length ab, .int .i64 r1135.2.1, .int .i64 r1135.2.2], .row A1185 3 3 2 1 (ints ([(-1), 1000000, 1000001]))] := hs
        have hs0 : St (muL [.blk b_p0 146 [.slice aa ac.length ab, .int .i64 ah, .int .i64 ag]]) W w [.blk b1 52 [.int .i64 0, .slice none 0 0], .blk b8 52 [.int .i64 x20, .slice A22 n23 c24], .row A22 n23 c24 112 4 ((recs GPlace.cells) xs21), .mat A806 n807 c808 23 2 vs810 ms805] := hs.sel [0, 1, 2, 3] (by decide)
        refine wpO_nil ⟨Or.inr (fun _ => hs0), ?_⟩
        refine mRun (i := 5) rfl (by kernel_rfl) ?_
        obtain ⟨r1187, hc1188, hj1133⟩ := bind_some hj1133
        refine sCall hf rfl rfl rfl rfl (cap := []) rfl rfl en93 (spec_l01Pick_ok F b_p0 ac aa ac.length ab rfl r1135.2.1 r1135.2.2 ([(-1), 1000000, 1000001]) A1185 3 3 rfl _ _ hc1188 (av.pass hs [4]) (hs.keepR (i := 5) rfl [4] (by decide)) (hs.sel [4] (by decide)).rebase) ?_; clear hf
        rintro _ w ⟨rfl, hs1⟩ a hf
        have hs : St (muL [.blk b_p0 146 [.slice aa ac.length ab, .int .i64 ah, .int .i64 ag]]) W w [.blk b1 52 [.int .i64 0, .slice none 0 0], .blk b8 52 [.int .i64 x20, .slice A22 n23 c24], .row A22 n23 c24 112 4 ((recs GPlace.cells) xs21), .mat A806 n807 c808 23 2 vs810 ms805, .row A1185 3 3 2 1 (ints ([(-1), 1000000, 1000001])), .blk b_p0 146 [.slice aa ac.length ab, .int .i64 r1187.2.1, .int .i64 r1187.2.2]] := St.mutTail (La := [.blk b1 52 [.int .i64 0, .slice none 0 0], .blk b8 52 [.int .i64 x20, .slice A22 n23 c24], .row A22 n23 c24 112 4 ((recs GPlace.cells) xs21), .mat A806 n807 c808 23 2 vs810 ms805, .row A1185 3 3 2 1 (ints ([(-1), 1000000, 1000001]))]) (Lb := [.blk b_p0 146 [.slice aa ac.length ab, .int .i64 r1135.2.1, .int .i64 r1135.2.2]]) (hs.sel [0, 1, 2, 3, 5, 4] (by decide)) hs1
        clear hs1
        have hs0 : St (muL [.blk b_p0 146 [.slice aa ac.length ab, .int .i64 ah, .int .i64 ag]]) W w [.blk b1 52 [.int .i64 0, .slice none 0 0], .blk b8 52 [.int .i64 x20, .slice A22 n23 c24], .row A22 n23 c24 112 4 ((recs GPlace.cells) xs21), .mat A806 n807 c808 23 2 vs810 ms805] := hs.sel [0, 1, 2, 3] (by decide)
        refine wpO_nil ⟨Or.inr (fun _ => hs0), ?_⟩
        obtain ⟨q1189, hi1190, hj1133⟩ := bind_some hj1133
        obtain ⟨hi1190a, hi1190b, hi1190q⟩ := idx_some hi1190
        refine mYp (i := 6) rfl (by kernel_rfl) (by kernel_rfl) hf rfl rfl rfl (fun _ => Y_index rfl rfl rfl el23 ti2 (Rd.isAt (hs.rdRow (i := 3) rfl ⟨hi1181q, hv1184⟩) (at1 (ints_at hi1190q))) hi1190a hi1190b) ?_; clear hf; intro a hf
        refine mRun (i := 7) rfl (by kernel_rfl) ?_
        obtain ⟨xs1191, hu1193, hj1133⟩ := bind_some hj1133
        obtain ⟨ms1192, hu1194, hj1133⟩ := bind_some hj1133
        refine sStoreM (i := 3) (k := 0) hf hs rfl rfl rfl rfl rfl rfl hi1181q hv1184 rfl hu1193 hu1194 ti2 ?_; clear hs; intro w hs
        obtain ⟨hq1195, hv1196⟩ := rowUpd hu1193 hu1194 hv1184
        have hs : St (muL [.blk b_p0 146 [.slice aa ac.length ab, .int .i64 ah, .int .i64 ag]]) W w [.blk b1 52 [.int .i64 0, .slice none 0 0], .blk b8 52 [.int .i64 x20, .slice A22 n23 c24], .row A22 n23 c24 112 4 ((recs GPlace.cells) xs21), .mat A806 n807 c808 23 2 vs810 ms1192, .row A1185 3 3 2 1 (ints ([(-1), 1000000, 1000001])), .blk b_p0 146 [.slice aa ac.length ab, .int .i64 r1187.2.1, .int .i64 r1187.2.2]] := hs
        refine wpO_nil ⟨Or.inl (by decide), ?_⟩
        refine mDone (by kernel_rfl) ?_
        clear hs0
        refine wpL_nil (Qb_normal ?_)
        refine wpL_nil (then_normal ?_)
        exact ⟨r1187.2.1, r1187.2.2, ms1192, A806, n807, c808, vs810, Option.some.inj hj1133, ((hn809).trans (upd_len hu1194).symm), (FrD.pick (FrD.pick (FrD.pick hf.none hf rfl) hf rfl) hf rfl), hs.sel [5, 0, 1, 2, 3] (by decide)⟩
       ·have hj1133 := bif_f hj1133 hb1162
        refine wpL_skip ?_
        refine wpL_nil (Qb_normal ?_)
        refine wpL_nil (then_normal ?_)
        exact ⟨r1135.2.1, r1135.2.2, ms805, A806, n807, c808, vs810, Option.some.inj hj1133, hn809, (FrD.pick (FrD.pick (FrD.pick hf.none hf rfl) hf rfl) hf rfl), hs.sel [4, 0, 1, 2, 3] (by decide)⟩
      ·have hj1133 := bif_f hj1133 hb1156
       refine wpL_skip ?_
       refine wpL_nil (Qb_normal ?_)
       refine wpL_nil (then_normal ?_)
       exact ⟨r1135.2.1, r1135.2.2, ms805, A806, n807, c808, vs810, Option.some.inj hj1133, hn809, (FrD.pick (FrD.pick (FrD.pick hf.none hf rfl) hf rfl) hf rfl), hs.sel [4, 0, 1, 2, 3] (by decide)⟩
    ·have hj1133 := bif_f hj1133 hb1134
     refine wpL_skip ?_
     refine wpL_nil (then_normal ?_)
     exact ⟨x803, x804, ms805, A806, n807, c808, vs810, Option.some.inj hj1133, hn809, (FrD.pick (FrD.pick (FrD.pick hf.none hf rfl) hf rfl) hf rfl), hs⟩
   ·rintro a w ⟨x1124, x1125, ms1126, A1127, n1128, c1129, vs1131, hr_, hn1130, hf, hs⟩
    subst hr_
    try dsimp only at hm
    refine wpL_seq <| wpL_region ?_
    refine sY hf hs rfl rfl rfl (Y_load_blkS rfl rfl (i := 2) rfl ag52 ti52 rfl) ?_; clear hf; intro a hf
    refine sY hf hs rfl rfl rfl (Y_move rfl rfl) ?_; clear hf; intro a hf
    refine sStore (i := 1) (us := [.int .i64 x20, .slice A22 n23 c24]) hf hs rfl rfl rfl rfl rfl rfl ti52 rfl rfl rfl (Nat.le_of_ble_eq_true rfl) rfl ?_; clear hs; intro w hs
    have hs : St (muL [.blk b_p0 146 [.slice aa ac.length ab, .int .i64 ah, .int .i64 ag]]) W w [.blk b_p0 146 [.slice aa ac.length ab, .int .i64 x1124, .int .i64 x1125], .blk b1 52 [.int .i64 x20, .slice A22 n23 c24], .blk b8 52 [.int .i64 x20, .slice A22 n23 c24], .row A22 n23 c24 112 4 ((recs GPlace.cells) xs21), .mat A1127 n1128 c1129 23 2 vs1131 ms1126] := hs
    refine sY hf hs rfl rfl rfl (Y_assign rfl rfl) ?_; clear hf; intro a hf
    refine wpO_nil ?_
    obtain rfl := Option.some.inj hm
    refine wpL_ret (ret_cell_tmp rfl hf rfl rfl hs (i := 1) rfl ag52 ti52 rfl ?_)
    exact ⟨_, rfl, A22, n23, c24, A1127, n1128, c1129, vs1131, rfl, hn25, hn1130, hs.sel [3, 4, 0] (by decide)⟩

set_option maxRecDepth 100000 in
theorem spec_DrawCanMeet_ok (F : Nat) (ac : List Int) (ay : Option Addr) (bj aA : Nat) (bz : bj = ac.length) (r : GEventGraph × List (List Int)) (W : World) (hm : spec_DrawCanMeet F ac = some r) (bB : Rd W ay (bytes ac)) :
  Calls Try.prog 47 [.slice ay bj aA].toArray W fun e w' => ∃ v, e = .returned v ∧ ∃ A16, ∃ n17, ∃ c18, ∃ A20, ∃ n21, ∃ c22, ∃ vs24, v = .tuple #[.agg #[.int .i64 r.1.Events, .slice A16 n17 c18], .slice A20 n21 c22] ∧ n17 = r.1.Places.length ∧ n21 = r.2.length ∧ St [] W w' [.row A16 n17 c18 112 4 ((recs GPlace.cells) r.1.Places), .mat A20 n21 c22 23 2 vs24 r.2] := by
 subst bz
 unfold spec_DrawCanMeet at hm
 refine Calls.enter (N := 9) Try.func47 rfl rfl rfl (fun a hf => ?_)
 have hs := St.start W
 obtain ⟨w, hw_⟩ : ∃ w, w = W := ⟨W, rfl⟩
 clear hw_ w
 refine wpL_seq <| wpL_region ?_
 refine sAlloc hf hs rfl rfl rfl rfl ti52 ?_; clear hf hs; intro a w b1 hs hf
 have hs : St [] W w [.blk b1 52 [.int .i64 0, .slice none 0 0]] := hs
 refine sY hf hs rfl rfl rfl (Y_assign rfl rfl) ?_; clear hf; intro a hf
 refine wpO_nil <| wpL_seq <| wpL_region ?_
 refine sY hf hs rfl rfl rfl (Y_move rfl rfl) ?_; clear hf; intro a hf
 obtain ⟨r2, hc3, hm⟩ := bind_some hm
 refine sCall hf rfl rfl rfl rfl (cap := []) rfl rfl en76 (spec_l01From_ok F ac ay ac.length aA rfl _ _ hc3 (bB.at hs)) ?_; clear hf
 rintro _ w ⟨b4, rfl, hs1⟩ a hf
 have hs : St [] W w [.blk b1 52 [.int .i64 0, .slice none 0 0], .blk b4 146 [.slice ay ac.length aA, .int .i64 r2.1, .int .i64 r2.2]] := hs.join hs1
 clear hs1
 obtain ⟨r5, hc6, hm⟩ := bind_some hm
 refine sCall hf rfl rfl rfl rfl (cap := []) rfl rfl en96 (spec_l22Draw_ok F b4 ac ay ac.length aA rfl r2.1 r2.2 _ _ hc6 (bB.pass hs [1]) (hs.sel [1] (by decide)).rebase) ?_; clear hf
 rintro _ w ⟨A7, n8, c9, A11, n12, c13, vs15, rfl, hn10, hn14, hs1⟩ a hf
 have hs : St [] W w [.blk b1 52 [.int .i64 0, .slice none 0 0], .row A7 n8 c9 112 4 ((recs GPlace.cells) r5.1.1.Places), .mat A11 n12 c13 23 2 vs15 r5.1.2, .blk b4 146 [.slice ay ac.length aA, .int .i64 r5.2.1, .int .i64 r5.2.2]] := St.mutTail (La := [.blk b1 52 [.int .i64 0, .slice none 0 0]]) (Lb := [.blk b4 146 [.slice ay ac.length aA, .int .i64 r2.1, .int .i64 r2.2]]) (hs.sel [0, 1] (by decide)) hs1
 clear hs1
 refine sY hf hs rfl rfl rfl (Y_extract rfl rfl rfl) ?_; clear hf; intro a hf
 refine sY hf hs rfl rfl rfl (Y_extract rfl rfl rfl) ?_; clear hf; intro a hf
 refine sStore (i := 0) (us := [.int .i64 r5.1.1.Events, .slice A7 n8 c9]) hf hs rfl rfl rfl rfl rfl rfl ti52 rfl rfl rfl (Nat.le_of_ble_eq_true rfl) rfl ?_; clear hs; intro w hs
 have hs : St [] W w [.blk b1 52 [.int .i64 r5.1.1.Events, .slice A7 n8 c9], .row A7 n8 c9 112 4 ((recs GPlace.cells) r5.1.1.Places), .mat A11 n12 c13 23 2 vs15 r5.1.2, .blk b4 146 [.slice ay ac.length aA, .int .i64 r5.2.1, .int .i64 r5.2.2]] := hs
 refine sY hf hs rfl rfl rfl (Y_assign rfl rfl) ?_; clear hf; intro a hf
 refine wpO_nil ?_
 obtain rfl := Option.some.inj hm
 refine wpL_ret (ret_cell_tmp rfl hf rfl rfl hs (i := 0) rfl ag52 ti52 rfl ?_)
 exact ⟨_, rfl, A7, n8, c9, A11, n12, c13, vs15, rfl, hn10, hn14, hs.sel [1, 2] (by decide)⟩

set_option maxRecDepth 100000 in
theorem impl_within_ok (F : Nat) (bY : Int) (bw : Int) (bn : Int) (r : Bool) (W : World) (hm : impl_within F bY bw bn = some r) :
  Calls Try.prog 85 [.int .i64 bY, .int .i64 bw, .int .i64 bn].toArray W fun e w' => ∃ v, e = .returned v ∧ v = .bool r ∧ St [] W w' [] := by
 unfold impl_within at hm
 refine Calls.enter (N := 15) Try.func85 rfl rfl rfl (fun a hf => ?_)
 have hs := St.start W
 obtain ⟨w, hw_⟩ : ∃ w, w = W := ⟨W, rfl⟩
 clear hw_ w
 refine wpL_seq <| wpL_region ?_
 refine sY hf hs rfl rfl rfl (Y_assign rfl rfl) ?_; clear hf; intro a hf
 refine wpO_nil <| wpL_seq ?_
 obtain ⟨r3, hj4, hm⟩ := bind_some hm
 refine wpL_cut (fun a w => ∃ b2 : Bool, b2 = r3 ∧ Fr a 15 [(6, .bool b2)] ∧ St [] W w []) ?_ ?_
 ·refine wpL_region ?_
  refine sY hf hs rfl rfl rfl (Y_move rfl rfl) ?_; clear hf; intro a hf
  refine sY hf hs rfl rfl rfl (Y_move rfl rfl) ?_; clear hf; intro a hf
  refine sY hf hs rfl rfl rfl (Y_geq rfl rfl rfl) ?_; clear hf; intro a hf
  refine sY hf hs rfl rfl rfl (Y_move rfl rfl) ?_; clear hf; intro a hf
  refine bsplit (decide (bw ≤ bY)) (fun hb5 => ?_) (fun hb5 => ?_)
  ·have hj4 := bif_t hj4 hb5
   refine sYg hf hs rfl rfl rfl (congrArg (fun b => some (Value.bool b)) hb5) rfl rfl rfl (Y_move rfl rfl) ?_; clear hf; intro a hf
   refine sYg hf hs rfl rfl rfl (congrArg (fun b => some (Value.bool b)) hb5) rfl rfl rfl (Y_move rfl rfl) ?_; clear hf; intro a hf
   refine sYg hf hs rfl rfl rfl (congrArg (fun b => some (Value.bool b)) hb5) rfl rfl rfl (Y_leq rfl rfl rfl) ?_; clear hf; intro a hf
   refine sY hf hs rfl rfl rfl (Y_pickT rfl (congrArg (fun b => some (Value.bool b)) hb5) rfl) ?_; clear hf; intro a hf
   refine sY hf hs rfl rfl rfl (Y_assign rfl rfl) ?_; clear hf; intro a hf
   refine wpO_nil ?_
   refine wpL_nil (then_normal ?_)
   exact ⟨(decide (bY ≤ bn)), Option.some.inj hj4, (FrD.pick hf.none hf rfl), hs⟩
  ·have hj4 := bif_f hj4 hb5
   refine sNo hf rfl rfl rfl (congrArg (fun b => some (Value.bool b)) hb5) rfl rfl rfl ?_; clear hf; intro a hf
   refine sNo hf rfl rfl rfl (congrArg (fun b => some (Value.bool b)) hb5) rfl rfl rfl ?_; clear hf; intro a hf
   refine sNo hf rfl rfl rfl (congrArg (fun b => some (Value.bool b)) hb5) rfl rfl rfl ?_; clear hf; intro a hf
   refine sY hf hs rfl rfl rfl (Y_pickF rfl (congrArg (fun b => some (Value.bool b)) hb5) rfl) ?_; clear hf; intro a hf
   refine sY hf hs rfl rfl rfl (Y_assign rfl rfl) ?_; clear hf; intro a hf
   refine wpO_nil ?_
   refine wpL_nil (then_normal ?_)
   exact ⟨false, Option.some.inj hj4, (FrD.pick hf.none hf rfl), hs⟩
 ·rintro a w ⟨b2, hr_, hf, hs⟩
  subst hr_
  try dsimp only at hm
  obtain rfl := Option.some.inj hm
  refine wpL_ret (ret_tmp rfl hf rfl ?_)
  exact ⟨_, rfl, rfl, hs⟩

set_option maxRecDepth 100000 in
theorem impl_isEvent_ok (F : Nat) (ae : GEventGraph) (ad : Option Addr) (ao af : Nat) (au : ao = ae.Places.length) (bx : Int) (r : Bool) (W : World) (hm : impl_isEvent F ae bx = some r) (_h_p0_g_1 : Rd W ad ((recs GPlace.cells) ae.Places)) :
  Calls Try.prog 201 [.agg #[.int .i64 ae.Events, .slice ad ao af], .int .i64 bx].toArray W fun e w' => ∃ v, e = .returned v ∧ v = .bool r ∧ St [] W w' [] := by
 subst au
 unfold impl_isEvent at hm
 refine Calls.enter (N := 10) Try.func201 rfl rfl rfl (fun a hf => ?_)
 have hs := St.start W
 obtain ⟨w, hw_⟩ : ∃ w, w = W := ⟨W, rfl⟩
 clear hw_ w
 refine wpL_seq <| wpL_region ?_
 refine sBox hf hs rfl rfl rfl rfl rfl (cs := [.int .i64 ae.Events, .slice ad ae.Places.length af]) rfl ?_; clear hf hs; intro a w b1 hs hf
 have hs : St [] W w [.blk b1 52 [.int .i64 ae.Events, .slice ad ae.Places.length af]] := hs
 refine sY hf hs rfl rfl rfl (Y_assign rfl rfl) ?_; clear hf; intro a hf
 refine wpO_nil <| wpL_seq <| wpL_region ?_
 refine sY hf hs rfl rfl rfl (Y_move rfl rfl) ?_; clear hf; intro a hf
 refine sY hf hs rfl rfl rfl (Y_fieldAddr rfl rfl fo52_0) ?_; clear hf; intro a hf
 refine sY hf hs rfl rfl rfl (Y_load_blk rfl rfl (i := 0) rfl rfl ag2) ?_; clear hf; intro a hf
 refine sY hf hs rfl rfl rfl (Y_sub rfl rfl rfl) ?_; clear hf; intro a hf
 obtain ⟨r2, hc3, hm⟩ := bind_some hm
 refine sCall hf rfl rfl rfl rfl (cap := []) rfl rfl en85 (impl_within_ok F bx 0 (IntKind.i64.wrap (ae.Events - 1)) _ _ hc3) ?_; clear hf
 rintro _ w ⟨rfl, hs1⟩ a hf
 have hs : St [] W w [.blk b1 52 [.int .i64 ae.Events, .slice ad ae.Places.length af]] := hs.ext hs1.below
 clear hs1
 refine sY hf hs rfl rfl rfl (Y_assign rfl rfl) ?_; clear hf; intro a hf
 refine wpO_nil ?_
 obtain rfl := Option.some.inj hm
 refine wpL_ret (ret_tmp rfl hf rfl ?_)
 exact ⟨_, rfl, rfl, hs.sel [] (by decide)⟩

set_option maxRecDepth 100000 in
theorem impl_isPlace_ok (F : Nat) (ae : GEventGraph) (ad : Option Addr) (ao af : Nat) (au : ao = ae.Places.length) (aU : GPlace) (r : Bool) (W : World) (hm : impl_isPlace F ae aU = some r) (ap : Rd W ad ((recs GPlace.cells) ae.Places)) :
  Calls Try.prog 175 [.agg #[.int .i64 ae.Events, .slice ad ao af], .agg #[.int .i64 aU.From, .int .i64 aU.To, .int .i64 aU.Delay, .int .i64 aU.Tokens]].toArray W fun e w' => ∃ v, e = .returned v ∧ v = .bool r ∧ St [] W w' [] := by
 subst au
 unfold impl_isPlace at hm
 refine Calls.enter (N := 25) Try.func175 rfl rfl rfl (fun a hf => ?_)
 have hs := St.start W
 obtain ⟨w, hw_⟩ : ∃ w, w = W := ⟨W, rfl⟩
 clear hw_ w
 refine wpL_seq <| wpL_region ?_
 refine sBox hf hs rfl rfl rfl rfl rfl (cs := [.int .i64 ae.Events, .slice ad ae.Places.length af]) rfl ?_; clear hf hs; intro a w b1 hs hf
 have hs : St [] W w [.blk b1 52 [.int .i64 ae.Events, .slice ad ae.Places.length af]] := hs
 refine sBox hf hs rfl rfl rfl rfl rfl (cs := [.int .i64 aU.From, .int .i64 aU.To, .int .i64 aU.Delay, .int .i64 aU.Tokens]) rfl ?_; clear hf hs; intro a w b2 hs hf
 have hs : St [] W w [.blk b1 52 [.int .i64 ae.Events, .slice ad ae.Places.length af], .blk b2 112 [.int .i64 aU.From, .int .i64 aU.To, .int .i64 aU.Delay, .int .i64 aU.Tokens]] := hs
 refine sY hf hs rfl rfl rfl (Y_assign rfl rfl) ?_; clear hf; intro a hf
 refine wpO_nil <| wpL_seq ?_
 obtain ⟨r15, hj16, hm⟩ := bind_some hm
 refine wpL_cut (fun a w => ∃ b14 : Bool, b14 = r15 ∧ Fr a 25 [(4, .bool b14)] ∧ St [] W w []) ?_ ?_
 ·refine wpL_region ?_
  refine sY hf hs rfl rfl rfl (Y_load_blkS rfl rfl (i := 0) rfl ag52 ti52 rfl) ?_; clear hf; intro a hf
  refine sY hf hs rfl rfl rfl (Y_fieldAddr rfl rfl fo112_0) ?_; clear hf; intro a hf
  refine sY hf hs rfl rfl rfl (Y_load_blk rfl rfl (i := 1) rfl rfl ag2) ?_; clear hf; intro a hf
  obtain ⟨r17, hc18, hj16⟩ := bind_some hj16
  refine sCall hf rfl rfl rfl rfl (cap := []) rfl rfl en201 (impl_isEvent_ok F ae ad ae.Places.length af rfl aU.From _ _ hc18 (ap.at hs)) ?_; clear hf
  rintro _ w ⟨rfl, hs1⟩ a hf
  have hs : St [] W w [.blk b1 52 [.int .i64 ae.Events, .slice ad ae.Places.length af], .blk b2 112 [.int .i64 aU.From, .int .i64 aU.To, .int .i64 aU.Delay, .int .i64 aU.Tokens]] := hs.ext hs1.below
  clear hs1
  refine sY hf hs rfl rfl rfl (Y_move rfl rfl) ?_; clear hf; intro a hf
  refine bsplit r17 (fun hb19 => ?_) (fun hb19 => ?_)
  ·have hj16 := bif_t hj16 hb19
   refine sYg hf hs rfl rfl rfl (congrArg (fun b => some (Value.bool b)) hb19) rfl rfl rfl (Y_load_blkS rfl rfl (i := 0) rfl ag52 ti52 rfl) ?_; clear hf; intro a hf
   refine sYg hf hs rfl rfl rfl (congrArg (fun b => some (Value.bool b)) hb19) rfl rfl rfl (Y_fieldAddr rfl rfl fo112_1) ?_; clear hf; intro a hf
   refine sYg hf hs rfl rfl rfl (congrArg (fun b => some (Value.bool b)) hb19) rfl rfl rfl (Y_load_blk rfl rfl (i := 1) rfl rfl ag2) ?_; clear hf; intro a hf
   obtain ⟨r20, hc21, hj16⟩ := bind_some hj16
   refine sCallg hf rfl rfl rfl (congrArg (fun b => some (Value.bool b)) hb19) rfl rfl rfl rfl (cap := []) rfl rfl en201 (impl_isEvent_ok F ae ad ae.Places.length af rfl aU.To _ _ hc21 (ap.at hs)) ?_; clear hf
   rintro _ w ⟨rfl, hs1⟩ a hf
   have hs : St [] W w [.blk b1 52 [.int .i64 ae.Events, .slice ad ae.Places.length af], .blk b2 112 [.int .i64 aU.From, .int .i64 aU.To, .int .i64 aU.Delay, .int .i64 aU.Tokens]] := hs.ext hs1.below
   clear hs1
   refine sY hf hs rfl rfl rfl (Y_pickT rfl (congrArg (fun b => some (Value.bool b)) hb19) rfl) ?_; clear hf; intro a hf
   refine sY hf hs rfl rfl rfl (Y_move rfl rfl) ?_; clear hf; intro a hf
   refine bsplit r20 (fun hb22 => ?_) (fun hb22 => ?_)
   ·have hj16 := bif_t hj16 hb22
    refine sYg hf hs rfl rfl rfl (congrArg (fun b => some (Value.bool b)) hb22) rfl rfl rfl (Y_fieldAddr rfl rfl fo112_2) ?_; clear hf; intro a hf
    refine sYg hf hs rfl rfl rfl (congrArg (fun b => some (Value.bool b)) hb22) rfl rfl rfl (Y_load_blk rfl rfl (i := 1) rfl rfl ag2) ?_; clear hf; intro a hf
    obtain ⟨r23, hc24, hj16⟩ := bind_some hj16
    refine sCallg hf rfl rfl rfl (congrArg (fun b => some (Value.bool b)) hb22) rfl rfl rfl rfl (cap := []) rfl rfl en85 (impl_within_ok F aU.Delay 0 1000 _ _ hc24) ?_; clear hf
    rintro _ w ⟨rfl, hs1⟩ a hf
    have hs : St [] W w [.blk b1 52 [.int .i64 ae.Events, .slice ad ae.Places.length af], .blk b2 112 [.int .i64 aU.From, .int .i64 aU.To, .int .i64 aU.Delay, .int .i64 aU.Tokens]] := hs.ext hs1.below
    clear hs1
    refine sY hf hs rfl rfl rfl (Y_pickT rfl (congrArg (fun b => some (Value.bool b)) hb22) rfl) ?_; clear hf; intro a hf
    refine sY hf hs rfl rfl rfl (Y_move rfl rfl) ?_; clear hf; intro a hf
    refine bsplit r23 (fun hb25 => ?_) (fun hb25 => ?_)
    ·have hj16 := bif_t hj16 hb25
     refine sYg hf hs rfl rfl rfl (congrArg (fun b => some (Value.bool b)) hb25) rfl rfl rfl (Y_fieldAddr rfl rfl fo112_3) ?_; clear hf; intro a hf
     refine sYg hf hs rfl rfl rfl (congrArg (fun b => some (Value.bool b)) hb25) rfl rfl rfl (Y_load_blk rfl rfl (i := 1) rfl rfl ag2) ?_; clear hf; intro a hf
     obtain ⟨r26, hc27, hj16⟩ := bind_some hj16
     refine sCallg hf rfl rfl rfl (congrArg (fun b => some (Value.bool b)) hb25) rfl rfl rfl rfl (cap := []) rfl rfl en85 (impl_within_ok F aU.Tokens 0 5 _ _ hc27) ?_; clear hf
     rintro _ w ⟨rfl, hs1⟩ a hf
     have hs : St [] W w [.blk b1 52 [.int .i64 ae.Events, .slice ad ae.Places.length af], .blk b2 112 [.int .i64 aU.From, .int .i64 aU.To, .int .i64 aU.Delay, .int .i64 aU.Tokens]] := hs.ext hs1.below
     clear hs1
     refine sY hf hs rfl rfl rfl (Y_pickT rfl (congrArg (fun b => some (Value.bool b)) hb25) rfl) ?_; clear hf; intro a hf
     refine sY hf hs rfl rfl rfl (Y_assign rfl rfl) ?_; clear hf; intro a hf
     refine wpO_nil ?_
     refine wpL_nil (then_normal ?_)
     exact ⟨r26, Option.some.inj hj16, (FrD.pick hf.none hf rfl), hs.sel [] (by decide)⟩
    ·have hj16 := bif_f hj16 hb25
     refine sNo hf rfl rfl rfl (congrArg (fun b => some (Value.bool b)) hb25) rfl rfl rfl ?_; clear hf; intro a hf
     refine sNo hf rfl rfl rfl (congrArg (fun b => some (Value.bool b)) hb25) rfl rfl rfl ?_; clear hf; intro a hf
     refine sNo hf rfl rfl rfl (congrArg (fun b => some (Value.bool b)) hb25) rfl rfl rfl ?_; clear hf; intro a hf
     refine sY hf hs rfl rfl rfl (Y_pickF rfl (congrArg (fun b => some (Value.bool b)) hb25) rfl) ?_; clear hf; intro a hf
     refine sY hf hs rfl rfl rfl (Y_assign rfl rfl) ?_; clear hf; intro a hf
     refine wpO_nil ?_
     refine wpL_nil (then_normal ?_)
     exact ⟨false, Option.some.inj hj16, (FrD.pick hf.none hf rfl), hs.sel [] (by decide)⟩
   ·have hj16 := bif_f hj16 hb22
    refine sNo hf rfl rfl rfl (congrArg (fun b => some (Value.bool b)) hb22) rfl rfl rfl ?_; clear hf; intro a hf
    refine sNo hf rfl rfl rfl (congrArg (fun b => some (Value.bool b)) hb22) rfl rfl rfl ?_; clear hf; intro a hf
    refine sNo hf rfl rfl rfl (congrArg (fun b => some (Value.bool b)) hb22) rfl rfl rfl ?_; clear hf; intro a hf
    refine sY hf hs rfl rfl rfl (Y_pickF rfl (congrArg (fun b => some (Value.bool b)) hb22) rfl) ?_; clear hf; intro a hf
    refine sY hf hs rfl rfl rfl (Y_move rfl rfl) ?_; clear hf; intro a hf
    refine sNo hf rfl rfl rfl rfl rfl rfl rfl ?_; clear hf; intro a hf
    refine sNo hf rfl rfl rfl rfl rfl rfl rfl ?_; clear hf; intro a hf
    refine sNo hf rfl rfl rfl rfl rfl rfl rfl ?_; clear hf; intro a hf
    refine sY hf hs rfl rfl rfl (Y_pickF rfl rfl rfl) ?_; clear hf; intro a hf
    refine sY hf hs rfl rfl rfl (Y_assign rfl rfl) ?_; clear hf; intro a hf
    refine wpO_nil ?_
    refine wpL_nil (then_normal ?_)
    exact ⟨false, Option.some.inj hj16, (FrD.pick hf.none hf rfl), hs.sel [] (by decide)⟩
  ·have hj16 := bif_f hj16 hb19
   refine sNo hf rfl rfl rfl (congrArg (fun b => some (Value.bool b)) hb19) rfl rfl rfl ?_; clear hf; intro a hf
   refine sNo hf rfl rfl rfl (congrArg (fun b => some (Value.bool b)) hb19) rfl rfl rfl ?_; clear hf; intro a hf
   refine sNo hf rfl rfl rfl (congrArg (fun b => some (Value.bool b)) hb19) rfl rfl rfl ?_; clear hf; intro a hf
   refine sNo hf rfl rfl rfl (congrArg (fun b => some (Value.bool b)) hb19) rfl rfl rfl ?_; clear hf; intro a hf
   refine sY hf hs rfl rfl rfl (Y_pickF rfl (congrArg (fun b => some (Value.bool b)) hb19) rfl) ?_; clear hf; intro a hf
   refine sY hf hs rfl rfl rfl (Y_move rfl rfl) ?_; clear hf; intro a hf
   refine sNo hf rfl rfl rfl rfl rfl rfl rfl ?_; clear hf; intro a hf
   refine sNo hf rfl rfl rfl rfl rfl rfl rfl ?_; clear hf; intro a hf
   refine sNo hf rfl rfl rfl rfl rfl rfl rfl ?_; clear hf; intro a hf
   refine sY hf hs rfl rfl rfl (Y_pickF rfl rfl rfl) ?_; clear hf; intro a hf
   refine sY hf hs rfl rfl rfl (Y_move rfl rfl) ?_; clear hf; intro a hf
   refine sNo hf rfl rfl rfl rfl rfl rfl rfl ?_; clear hf; intro a hf
   refine sNo hf rfl rfl rfl rfl rfl rfl rfl ?_; clear hf; intro a hf
   refine sNo hf rfl rfl rfl rfl rfl rfl rfl ?_; clear hf; intro a hf
   refine sY hf hs rfl rfl rfl (Y_pickF rfl rfl rfl) ?_; clear hf; intro a hf
   refine sY hf hs rfl rfl rfl (Y_assign rfl rfl) ?_; clear hf; intro a hf
   refine wpO_nil ?_
   refine wpL_nil (then_normal ?_)
   exact ⟨false, Option.some.inj hj16, (FrD.pick hf.none hf rfl), hs.sel [] (by decide)⟩
 ·rintro a w ⟨b14, hr_, hf, hs⟩
  subst hr_
  try dsimp only at hm
  obtain rfl := Option.some.inj hm
  refine wpL_ret (ret_tmp rfl hf rfl ?_)
  exact ⟨_, rfl, rfl, hs⟩

set_option maxRecDepth 100000 in
theorem impl_IsEventGraph_c1_ok (F : Nat) (az : GPlace) (b_z0 : Nat) (z0 : GEventGraph) (A_z0_1 : Option Addr) (n_z0_1 c_z0_1 : Nat) (hn_z0_1 : n_z0_1 = z0.Places.length) (r : Bool) (W : World) (hm : impl_IsEventGraph_c1 F az z0 = some r) (h_z0_1 : Rd W A_z0_1 ((recs GPlace.cells) z0.Places)) (h_z0 : PB W b_z0 52 [.int .i64 z0.Events, .slice A_z0_1 n_z0_1 c_z0_1]) :
  Calls Try.prog 174 [.agg #[.int .i64 az.From, .int .i64 az.To, .int .i64 az.Delay, .int .i64 az.Tokens], .pointer (some ⟨b_z0, 0, none⟩)].toArray W fun e w' => ∃ v, e = .returned v ∧ v = .bool r ∧ St [] W w' [] := by
 subst hn_z0_1
 unfold impl_IsEventGraph_c1 at hm
 refine Calls.enter (N := 8) Try.func174 rfl rfl rfl (fun a hf => ?_)
 have hs := St.start W
 obtain ⟨w, hw_⟩ : ∃ w, w = W := ⟨W, rfl⟩
 clear hw_ w
 refine wpL_seq <| wpL_region ?_
 refine sBox hf hs rfl rfl rfl rfl rfl (cs := [.int .i64 az.From, .int .i64 az.To, .int .i64 az.Delay, .int .i64 az.Tokens]) rfl ?_; clear hf hs; intro a w b1 hs hf
 have hs : St [] W w [.blk b1 112 [.int .i64 az.From, .int .i64 az.To, .int .i64 az.Delay, .int .i64 az.Tokens]] := hs
 refine sY hf hs rfl rfl rfl (Y_assign rfl rfl) ?_; clear hf; intro a hf
 refine wpO_nil <| wpL_seq <| wpL_region ?_
 refine sY hf hs rfl rfl rfl (Y_load_pbS rfl rfl h_z0 ag52 ti52 rfl) ?_; clear hf; intro a hf
 refine sY hf hs rfl rfl rfl (Y_load_blkS rfl rfl (i := 0) rfl ag112 ti112 rfl) ?_; clear hf; intro a hf
 obtain ⟨r2, hc3, hm⟩ := bind_some hm
 refine sCall hf rfl rfl rfl rfl (cap := []) rfl rfl en175 (impl_isPlace_ok F z0 A_z0_1 z0.Places.length c_z0_1 rfl az _ _ hc3 (h_z0_1.at hs)) ?_; clear hf
 rintro _ w ⟨rfl, hs1⟩ a hf
 have hs : St [] W w [.blk b1 112 [.int .i64 az.From, .int .i64 az.To, .int .i64 az.Delay, .int .i64 az.Tokens]] := hs.ext hs1.below
 clear hs1
 refine sY hf hs rfl rfl rfl (Y_not rfl rfl) ?_; clear hf; intro a hf
 refine sY hf hs rfl rfl rfl (Y_assign rfl rfl) ?_; clear hf; intro a hf
 refine wpO_nil ?_
 obtain rfl := Option.some.inj hm
 refine wpL_ret (ret_tmp rfl hf rfl ?_)
 exact ⟨_, rfl, rfl, hs.sel [] (by decide)⟩

set_option maxRecDepth 100000 in
theorem slices_IndexFunc_Place_ok (F : Nat) (aM : List GPlace) (aG : Option Addr) (aQ aS : Nat) (bb : aQ = aM.length) (bq : GPlace → Option Bool) (bi : FuncId) (bl : List Value) (r : Int) (W : World) (hm : slices_IndexFunc_Place F aM bq = some r) (aV : Rd W aG ((recs GPlace.cells) aM)) (bN : ∀ (x0 : GPlace) (r : Bool) (w : World), bq x0 = some r → Below W.heap.size W w → Calls Try.prog bi (([.agg #[.int .i64 x0.From, .int .i64 x0.To, .int .i64 x0.Delay, .int .i64 x0.Tokens]] : List Value) ++ bl).toArray w fun e w' => ∃ v, e = .returned v ∧ v = .bool r ∧ St [] w w' []) (bO : En Try.prog bi) :
  Calls Try.prog 200 [.slice aG aQ aS, .func (.func bi) #[] bl.toArray].toArray W fun e w' => ∃ v, e = .returned v ∧ v = .int .i64 r ∧ St [] W w' [] := by
 subst bb
 unfold slices_IndexFunc_Place at hm
 refine Calls.enter (N := 19) Try.func200 rfl rfl rfl (fun a hf => ?_)
 have hs := St.start W
 obtain ⟨w, hw_⟩ : ∃ w, w = W := ⟨W, rfl⟩
 clear hw_ w
 refine wpL_seq <| wpL_region ?_
 refine sY hf hs rfl rfl rfl (Y_assign rfl rfl) ?_; clear hf; intro a hf
 refine wpO_nil <| wpL_seq <| wpL_seq <| wpL_region ?_
 refine sY hf hs rfl rfl rfl (Y_move rfl rfl) ?_; clear hf; intro a hf
 refine sY hf hs rfl rfl rfl (Y_lenH rfl rfl el50 rfl) ?_; clear hf; intro a hf
 refine sY hf hs rfl rfl rfl (Y_move rfl rfl) ?_; clear hf; intro a hf
 refine wpO_nil ?_
 obtain ⟨r21, hl22, hm⟩ := bind_some hm
 refine wpL_block (fun a w => Sum.inr () = r21 ∧ Fr a 19 [] ∧ St [] W w []) ?_ ?_
 ·refine wpL_loop (fun n a w => ∃ x14 : Int, slices_IndexFunc_Place_L1 F aM bq n x14 = some r21 ∧ Fr a 19 [(0, .slice aG aM.length aS), (1, .func (.func bi) #[] bl.toArray), (7, .int .i64 (aM.length : Int)), (8, .int .i64 x14)] ∧ St [] W w []) F ?_ ?_ ?_
  ·exact ⟨0, hl22, (FrD.pick (FrD.pick (FrD.pick (FrD.pick hf.none hf rfl) hf rfl) hf rfl) hf rfl), hs⟩
  ·rintro a w ⟨x14, h0_, -, -⟩; simp [slices_IndexFunc_Place_L1] at h0_
  ·rintro n24 a w ⟨x14, hm23, hf, hs⟩
   rw [slices_IndexFunc_Place_L1] at hm23
   refine wpL_seq <| wpL_region ?_
   refine sY hf hs rfl rfl rfl (Y_lss rfl rfl rfl) ?_; clear hf; intro a hf
   refine wpO_nil <| wpL_seq ?_
   refine wpL_cond hf rfl (fun hb25 => ?_) (fun hb25 => ?_)
   ·have hm23 := bif_t hm23 hb25
    refine wpL_skip <| wpL_seq <| wpL_block0 <| wpL_seq <| wpL_region ?_
    refine sY hf hs rfl rfl rfl (Y_move rfl rfl) ?_; clear hf; intro a hf
    refine sY hf hs rfl rfl rfl (Y_assign rfl rfl) ?_; clear hf; intro a hf
    refine wpO_nil <| wpL_seq <| wpL_region ?_
    refine sY hf hs rfl rfl rfl (Y_move rfl rfl) ?_; clear hf; intro a hf
    refine sY hf hs rfl rfl rfl (Y_move rfl rfl) ?_; clear hf; intro a hf
    refine sY hf hs rfl rfl rfl (Y_move rfl rfl) ?_; clear hf; intro a hf
    obtain ⟨q26, hi27, hm23⟩ := bind_some hm23
    obtain ⟨hi27a, hi27b, hi27q⟩ := idx_some hi27
    refine sY hf hs rfl rfl rfl (Y_index rfl rfl rfl el50 ti112 (Rd.isAt (aV.at hs) (recs_at (s := 4) GPlace.len hi27q (j := 0) rfl)) hi27a hi27b) ?_; clear hf; intro a hf
    refine sY hf hs rfl rfl rfl (Y_load_rdS rfl rfl (us := [.int .i64 q26.From, .int .i64 q26.To, .int .i64 q26.Delay, .int .i64 q26.Tokens]) (fun w hs => aV.at hs) (fun j u hj => recs_at (s := 4) GPlace.len hi27q hj) (Nat.succ_pos _) ag112 ti112 rfl) ?_; clear hf; intro a hf
    obtain ⟨r28, hc29, hm23⟩ := bind_some hm23
    refine sCall hf rfl rfl rfl rfl (cap := bl) rfl rfl bO (bN q26 _ _ hc29 hs.below) ?_; clear hf; rintro _ w ⟨rfl, hs1⟩ a hf; have hs := hs.ext hs1.below; clear hs1
    refine wpO_nil ?_
    refine wpL_cond hf rfl (fun hb30 => ?_) (fun hb30 => ?_)
    ·have hm23 := bif_t hm23 hb30
     refine wpL_seq <| wpL_region ?_
     refine sY hf hs rfl rfl rfl (Y_move rfl rfl) ?_; clear hf; intro a hf
     refine sY hf hs rfl rfl rfl (Y_assign rfl rfl) ?_; clear hf; intro a hf
     refine wpO_nil ?_
     obtain rfl := Option.some.inj hm23
     try dsimp only at hm
     obtain rfl := Option.some.inj hm
     refine wpL_ret (Qb_ret (Ql_ret (Qb_ret (ret_tmp rfl hf rfl ?_))))
     exact ⟨_, rfl, rfl, hs⟩
    ·have hm23 := bif_f hm23 hb30
     refine wpL_skip ?_
     refine wpL_nil (Qb_normal ?_)
     refine wpL_region ?_
     refine sY hf hs rfl rfl rfl (Y_add rfl rfl rfl) ?_; clear hf; intro a hf
     refine sY hf hs rfl rfl rfl (Y_move rfl rfl) ?_; clear hf; intro a hf
     refine wpO_nil ?_
     refine wpL_nil (Ql_normal ?_)
     exact ⟨(IntKind.i64.wrap (x14 + 1)), hm23, (FrD.pick (FrD.pick (FrD.pick (FrD.pick hf.none hf rfl) hf rfl) hf rfl) hf rfl), hs⟩
   ·have hm23 := bif_f hm23 hb25
    refine wpL_exit (Ql_exit (Qb_exit ?_))
    exact ⟨Option.some.inj hm23, hf.none, hs⟩
 ·rintro a w ⟨hr_, hf, hs⟩
  subst hr_
  try dsimp only at hm
  refine wpL_seq <| wpL_region ?_
  refine sY hf hs rfl rfl rfl (Y_assign rfl rfl) ?_; clear hf; intro a hf
  refine wpO_nil ?_
  obtain rfl := Option.some.inj hm
  refine wpL_ret (ret_tmp rfl hf rfl ?_)
  exact ⟨_, rfl, rfl, hs⟩

end Go.Proofs.Ytebmlphobgaboaa
