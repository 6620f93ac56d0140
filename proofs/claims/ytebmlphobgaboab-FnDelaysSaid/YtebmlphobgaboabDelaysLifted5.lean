/- The functions do what their models say. -/
import Derived.Test.YtebmlphobgaboabDelaysLifted4
import Derived.Test.YtebmlphobgaboabRows
namespace Go.Proofs.Ytebmlphobgaboab
open Go.RowKit

set_option maxHeartbeats 2000000 in
set_option maxRecDepth 100000 in
theorem spec_l03Grow_step (F k_ : Nat) (ih_ : ∀ (p0 : List (List Int)) (au : Option Addr) (aX aw : Nat) (_hn_p0_1 : aX = p0.length) (p1 : List Int) (aA : Option Addr) (aS aC : Nat) (_hn_p1_1 : aS = p1.length) (p2 : Int) (p3 : Int) (r : List Int) (W : World) (_hm : spec_l03Grow_rec F k_ p0 p1 p2 p3 = some r) (_h_p0_1 : RdM W au p0) (_h_p1_1 : Rd W aA (ints p1)), Calls Try.prog 157 [.slice au aX aw, .slice aA aS aC, .int .i64 p2, .int .i64 p3].toArray W fun e w' => ∃ v, e = .returned v ∧ ∃ A1851, ∃ n1852, ∃ c1853, ∃ A1854, ∃ n1855, ∃ c1856, ∃ ys1857, v = .slice A1851 n1852 c1853 ∧ n1852 = r.length ∧ Ei aA aS aC p1 A1854 n1855 c1856 ys1857 A1851 n1852 c1853 r ∧ St [] W w' [.row A1854 n1855 c1856 2 1 (ints ys1857)]) (p0 : List (List Int)) (au : Option Addr) (aX aw : Nat) (bY : aX = p0.length) (p1 : List Int) (aA : Option Addr) (aS aC : Nat) (cg : aS = p1.length) (p2 : Int) (p3 : Int) (r : List Int) (W : World) (hm : spec_l03Grow_rec F (k_ + 1) p0 p1 p2 p3 = some r) (aZ : RdM W au p0) (bk : Rd W aA (ints p1)) :
  Calls Try.prog 157 [.slice au aX aw, .slice aA aS aC, .int .i64 p2, .int .i64 p3].toArray W fun e w' => ∃ v, e = .returned v ∧ ∃ A1851, ∃ n1852, ∃ c1853, ∃ A1854, ∃ n1855, ∃ c1856, ∃ ys1857, v = .slice A1851 n1852 c1853 ∧ n1852 = r.length ∧ Ei aA aS aC p1 A1854 n1855 c1856 ys1857 A1851 n1852 c1853 r ∧ St [] W w' [.row A1854 n1855 c1856 2 1 (ints ys1857)] := by
 subst bY
 subst cg
 unfold spec_l03Grow_rec at hm
 refine Calls.enter (N := 86) Try.func157 rfl rfl rfl (fun a hf => ?_)
 have hs := St.start W
 obtain ⟨w, hw_⟩ : ∃ w, w = W := ⟨W, rfl⟩
 clear hw_ w
 refine wpL_seq <| wpL_region ?_
 refine sY hf hs rfl rfl rfl (Y_assign rfl rfl) ?_; clear hf; intro a hf
 refine wpO_nil <| wpL_seq ?_
 refine wpL_draw (by kernel_rfl) (by kernel_rfl) hs ?_
 refine qY hf rfl rfl rfl (Y_move rfl rfl) ?_; clear hf; intro a hf
 obtain ⟨q1, hi2, hm⟩ := bind_some hm
 obtain ⟨hi2a, hi2b, hi2q⟩ := idx_some hi2
 refine qY hf rfl rfl rfl (Y_index rfl rfl rfl el28 ti2 (Rd.isAt (bk.at hs) (at1 (ints_at hi2q))) hi2a hi2b) ?_; clear hf; intro a hf
 refine qY hf rfl rfl rfl (Y_load_rd rfl rfl (fun w hs => bk.at hs) (at1 (ints_at hi2q)) ag2) ?_; clear hf; intro a hf
 refine qY hf rfl rfl rfl (Y_move rfl rfl) ?_; clear hf; intro a hf
 refine qY hf rfl rfl rfl (Y_move rfl rfl) ?_; clear hf; intro a hf
 refine qY hf rfl rfl rfl (Y_lenH rfl rfl el28 rfl) ?_; clear hf; intro a hf
 refine qY hf rfl rfl rfl (Y_sub rfl rfl rfl) ?_; clear hf; intro a hf
 obtain ⟨q3, hi4, hm⟩ := bind_some hm
 obtain ⟨hi4a, hi4b, hi4q⟩ := idx_some hi4
 refine qY hf rfl rfl rfl (Y_index rfl rfl rfl el28 ti2 (Rd.isAt (bk.at hs) (at1 (ints_at hi4q))) hi4a hi4b) ?_; clear hf; intro a hf
 refine qY hf rfl rfl rfl (Y_load_rd rfl rfl (fun w hs => bk.at hs) (at1 (ints_at hi4q)) ag2) ?_; clear hf; intro a hf
 refine qY hf rfl rfl rfl (Y_assign rfl rfl) ?_; clear hf; intro a hf
 refine qY hf rfl rfl rfl (Y_assign rfl rfl) ?_; clear hf; intro a hf
 refine qNil ?_; clear hs; intro w hs
 refine wpL_seq <| wpL_seq ?_
 obtain ⟨r29, hj30, hm⟩ := bind_some hm
 refine wpL_cut (fun a w => ∃ b28 : Bool, b28 = r29 ∧ Fr a 86 [(0, .slice au p0.length aw), (1, .slice aA p1.length aC), (2, .int .i64 p2), (3, .int .i64 p3), (9, .int .i64 q1), (10, .int .i64 q3), (42, .bool b28)] ∧ St [] W w []) ?_ ?_
 ·refine wpL_region ?_
  refine sY hf hs rfl rfl rfl (Y_move rfl rfl) ?_; clear hf; intro a hf
  refine sY hf hs rfl rfl rfl (Y_move rfl rfl) ?_; clear hf; intro a hf
  obtain ⟨q31, hi32, hj30⟩ := bind_some hj30
  obtain ⟨hi32a, hi32b, hi32q⟩ := idx_some hi32
  obtain ⟨vs33, hv34, hr35⟩ := id aZ
  obtain ⟨A36, c37, hv38, hR39⟩ := hr35 _ _ hi32q
  refine sY hf hs rfl rfl rfl (Y_index rfl rfl rfl el40 ti28 (Rd.isAt hv34 hv38) hi32a hi32b) ?_; clear hf; intro a hf
  refine sY hf hs rfl rfl rfl (Y_load_rd rfl rfl (fun w hs => hv34.at hs) (at1 hv38) ag28) ?_; clear hf; intro a hf
  refine sY hf hs rfl rfl rfl (Y_move rfl rfl) ?_; clear hf; intro a hf
  obtain ⟨q40, hi41, hj30⟩ := bind_some hj30
  obtain ⟨hi41a, hi41b, hi41q⟩ := idx_some hi41
  refine sY hf hs rfl rfl rfl (Y_index rfl rfl rfl el28 ti2 (Rd.isAt (hR39.at hs) (at1 (ints_at hi41q))) hi41a hi41b) ?_; clear hf; intro a hf
  refine sY hf hs rfl rfl rfl (Y_load_rd rfl rfl (fun w hs => hR39.at hs) (at1 (ints_at hi41q)) ag2) ?_; clear hf; intro a hf
  refine sY hf hs rfl rfl rfl (Y_neq rfl rfl rfl) ?_; clear hf; intro a hf
  refine sY hf hs rfl rfl rfl (Y_move rfl rfl) ?_; clear hf; intro a hf
  refine bsplit (q40 != (-1000000000000000)) (fun hb42 => ?_) (fun hb42 => ?_)
  ·have hj30 := bif_t hj30 hb42
   refine sYg hf hs rfl rfl rfl (congrArg (fun b => some (Value.bool b)) hb42) rfl rfl rfl (Y_move rfl rfl) ?_; clear hf; intro a hf
   refine sYg hf hs rfl rfl rfl (congrArg (fun b => some (Value.bool b)) hb42) rfl rfl rfl (Y_move rfl rfl) ?_; clear hf; intro a hf
   refine sYg hf hs rfl rfl rfl (congrArg (fun b => some (Value.bool b)) hb42) rfl rfl rfl (Y_move rfl rfl) ?_; clear hf; intro a hf
   obtain ⟨q43, hi44, hj30⟩ := bind_some hj30
   obtain ⟨hi44a, hi44b, hi44q⟩ := idx_some hi44
   obtain ⟨vs45, hv46, hr47⟩ := id aZ
   obtain ⟨A48, c49, hv50, hR51⟩ := hr47 _ _ hi44q
   refine sYg hf hs rfl rfl rfl (congrArg (fun b => some (Value.bool b)) hb42) rfl rfl rfl (Y_index rfl rfl rfl el40 ti28 (Rd.isAt hv46 hv50) hi44a hi44b) ?_; clear hf; intro a hf
   refine sYg hf hs rfl rfl rfl (congrArg (fun b => some (Value.bool b)) hb42) rfl rfl rfl (Y_load_rd rfl rfl (fun w hs => hv46.at hs) (at1 hv50) ag28) ?_; clear hf; intro a hf
   refine sYg hf hs rfl rfl rfl (congrArg (fun b => some (Value.bool b)) hb42) rfl rfl rfl (Y_move rfl rfl) ?_; clear hf; intro a hf
   obtain ⟨q52, hi53, hj30⟩ := bind_some hj30
   obtain ⟨hi53a, hi53b, hi53q⟩ := idx_some hi53
   refine sYg hf hs rfl rfl rfl (congrArg (fun b => some (Value.bool b)) hb42) rfl rfl rfl (Y_index rfl rfl rfl el28 ti2 (Rd.isAt (hR51.at hs) (at1 (ints_at hi53q))) hi53a hi53b) ?_; clear hf; intro a hf
   refine sYg hf hs rfl rfl rfl (congrArg (fun b => some (Value.bool b)) hb42) rfl rfl rfl (Y_load_rd rfl rfl (fun w hs => hR51.at hs) (at1 (ints_at hi53q)) ag2) ?_; clear hf; intro a hf
   refine sYg hf hs rfl rfl rfl (congrArg (fun b => some (Value.bool b)) hb42) rfl rfl rfl (Y_add rfl rfl rfl) ?_; clear hf; intro a hf
   refine sYg hf hs rfl rfl rfl (congrArg (fun b => some (Value.bool b)) hb42) rfl rfl rfl (Y_move rfl rfl) ?_; clear hf; intro a hf
   refine sYg hf hs rfl rfl rfl (congrArg (fun b => some (Value.bool b)) hb42) rfl rfl rfl (Y_gtr rfl rfl rfl) ?_; clear hf; intro a hf
   refine sY hf hs rfl rfl rfl (Y_pickT rfl (congrArg (fun b => some (Value.bool b)) hb42) rfl) ?_; clear hf; intro a hf
   refine wpO_nil ?_
   refine wpL_nil (then_normal ?_)
   exact ⟨(decide (p3 < (IntKind.i64.wrap (p2 + q52)))), Option.some.inj hj30, (FrD.pick (FrD.pick (FrD.pick (FrD.pick (FrD.pick (FrD.pick (FrD.pick hf.none hf rfl) hf rfl) hf rfl) hf rfl) hf rfl) hf rfl) hf rfl), hs⟩
  ·have hj30 := bif_f hj30 hb42
   refine sNo hf rfl rfl rfl (congrArg (fun b => some (Value.bool b)) hb42) rfl rfl rfl ?_; clear hf; intro a hf
   refine sNo hf rfl rfl rfl (congrArg (fun b => some (Value.bool b)) hb42) rfl rfl rfl ?_; clear hf; intro a hf
   refine sNo hf rfl rfl rfl (congrArg (fun b => some (Value.bool b)) hb42) rfl rfl rfl ?_; clear hf; intro a hf
   refine sNo hf rfl rfl rfl (congrArg (fun b => some (Value.bool b)) hb42) rfl rfl rfl ?_; clear hf; intro a hf
   refine sNo hf rfl rfl rfl (congrArg (fun b => some (Value.bool b)) hb42) rfl rfl rfl ?_; clear hf; intro a hf
   refine sNo hf rfl rfl rfl (congrArg (fun b => some (Value.bool b)) hb42) rfl rfl rfl ?_; clear hf; intro a hf
   refine sNo hf rfl rfl rfl (congrArg (fun b => some (Value.bool b)) hb42) rfl rfl rfl ?_; clear hf; intro a hf
   refine sNo hf rfl rfl rfl (congrArg (fun b => some (Value.bool b)) hb42) rfl rfl rfl ?_; clear hf; intro a hf
   refine sNo hf rfl rfl rfl (congrArg (fun b => some (Value.bool b)) hb42) rfl rfl rfl ?_; clear hf; intro a hf
   refine sNo hf rfl rfl rfl (congrArg (fun b => some (Value.bool b)) hb42) rfl rfl rfl ?_; clear hf; intro a hf
   refine sNo hf rfl rfl rfl (congrArg (fun b => some (Value.bool b)) hb42) rfl rfl rfl ?_; clear hf; intro a hf
   refine sY hf hs rfl rfl rfl (Y_pickF rfl (congrArg (fun b => some (Value.bool b)) hb42) rfl) ?_; clear hf; intro a hf
   refine wpO_nil ?_
   refine wpL_nil (then_normal ?_)
   exact ⟨false, Option.some.inj hj30, (FrD.pick (FrD.pick (FrD.pick (FrD.pick (FrD.pick (FrD.pick (FrD.pick hf.none hf rfl) hf rfl) hf rfl) hf rfl) hf rfl) hf rfl) hf rfl), hs⟩
 ·rintro a w ⟨b28, hr_, hf, hs⟩
  subst hr_
  try dsimp only at hm
  refine wpL_cond hf rfl (fun hb54 => ?_) (fun hb54 => ?_)
  ·have hm := bif_t hm hb54
   refine wpL_seq <| wpL_region ?_
   refine sY hf hs rfl rfl rfl (Y_move rfl rfl) ?_; clear hf; intro a hf
   refine sY hf hs rfl rfl rfl (Y_assign rfl rfl) ?_; clear hf; intro a hf
   refine wpO_nil ?_
   have hs : St [] W _ [.row none 0 0 2 1 (ints ([] : List Int))] := hs.addNil 2 1
   obtain rfl := Option.some.inj hm
   refine wpL_ret (ret_tmp rfl hf rfl ?_)
   exact ⟨_, rfl, aA, p1.length, aC, none, 0, 0, ([] : List Int), rfl, rfl, .inl ⟨rfl, rfl, rfl, rfl⟩, hs⟩
  ·have hm := bif_f hm hb54
   refine wpL_skip <| wpL_seq <| wpL_seq <| wpL_region ?_
   refine sY hf hs rfl rfl rfl (Y_move rfl rfl) ?_; clear hf; intro a hf
   refine sY hf hs rfl rfl rfl (Y_add rfl rfl rfl) ?_; clear hf; intro a hf
   refine sY hf hs rfl rfl rfl (Y_assign rfl rfl) ?_; clear hf; intro a hf
   refine wpO_nil ?_
   obtain ⟨r1399, hl1400, hm⟩ := bind_some hm
   refine wpL_block (fun a w => Sum.inr () = r1399 ∧ Fr a 86 [] ∧ St [] W w []) ?_ ?_
   ·refine wpL_loop (fun n a w => ∃ x951 : Int, spec_l03Grow_L1 F p0 p1 p2 p3 q3 (spec_l03Grow_rec F k_) n x951 = some r1399 ∧ Fr a 86 [(0, .slice au p0.length aw), (1, .slice aA p1.length aC), (2, .int .i64 p2), (3, .int .i64 p3), (10, .int .i64 q3), (11, .int .i64 x951)] ∧ St [] W w []) F ?_ ?_ ?_
    ·exact ⟨(IntKind.i64.wrap (q1 + 1)), hl1400, (FrD.pick (FrD.pick (FrD.pick (FrD.pick (FrD.pick (FrD.pick hf.none hf rfl) hf rfl) hf rfl) hf rfl) hf rfl) hf rfl), hs⟩
    ·rintro a w ⟨x951, h0_, -, -⟩; simp [spec_l03Grow_L1] at h0_
    ·rintro n1402 a w ⟨x951, hm1401, hf, hs⟩
     rw [spec_l03Grow_L1] at hm1401
     refine wpL_seq <| wpL_seq <| wpL_region ?_
     refine sY hf hs rfl rfl rfl (Y_move rfl rfl) ?_; clear hf; intro a hf
     refine sY hf hs rfl rfl rfl (Y_move rfl rfl) ?_; clear hf; intro a hf
     refine sY hf hs rfl rfl rfl (Y_lenH rfl rfl el40 rfl) ?_; clear hf; intro a hf
     refine sY hf hs rfl rfl rfl (Y_lss rfl rfl rfl) ?_; clear hf; intro a hf
     refine wpO_nil ?_
     refine wpL_cond hf rfl (fun hb1403 => ?_) (fun hb1403 => ?_)
     ·have hm1401 := bif_t hm1401 hb1403
      refine wpL_skip <| wpL_seq ?_
      obtain ⟨r1626, hj1627, hm1401⟩ := bind_some hm1401
      refine wpL_block (fun a w => Sum.inr () = r1626 ∧ Fr a 86 [(0, .slice au p0.length aw), (1, .slice aA p1.length aC), (2, .int .i64 p2), (3, .int .i64 p3), (10, .int .i64 q3), (11, .int .i64 x951)] ∧ St [] W w []) ?_ ?_
      ·refine wpL_seq <| wpL_seq ?_
       obtain ⟨r1643, hj1644, hj1627⟩ := bind_some hj1627
       refine wpL_cut (fun a w => ∃ b1642 : Bool, b1642 = r1643 ∧ Fr a 86 [(0, .slice au p0.length aw), (1, .slice aA p1.length aC), (2, .int .i64 p2), (3, .int .i64 p3), (10, .int .i64 q3), (11, .int .i64 x951), (64, .bool b1642)] ∧ St [] W w []) ?_ ?_
       ·refine wpL_region ?_
        refine sY hf hs rfl rfl rfl (Y_move rfl rfl) ?_; clear hf; intro a hf
        refine sY hf hs rfl rfl rfl (Y_move rfl rfl) ?_; clear hf; intro a hf
        obtain ⟨q1645, hi1646, hj1644⟩ := bind_some hj1644
        obtain ⟨hi1646a, hi1646b, hi1646q⟩ := idx_some hi1646
        obtain ⟨vs1647, hv1648, hr1649⟩ := id aZ
        obtain ⟨A1650, c1651, hv1652, hR1653⟩ := hr1649 _ _ hi1646q
        refine sY hf hs rfl rfl rfl (Y_index rfl rfl rfl el40 ti28 (Rd.isAt hv1648 hv1652) hi1646a hi1646b) ?_; clear hf; intro a hf
        refine sY hf hs rfl rfl rfl (Y_load_rd rfl rfl (fun w hs => hv1648.at hs) (at1 hv1652) ag28) ?_; clear hf; intro a hf
        refine sY hf hs rfl rfl rfl (Y_move rfl rfl) ?_; clear hf; intro a hf
        obtain ⟨q1654, hi1655, hj1644⟩ := bind_some hj1644
        obtain ⟨hi1655a, hi1655b, hi1655q⟩ := idx_some hi1655
        refine sY hf hs rfl rfl rfl (Y_index rfl rfl rfl el28 ti2 (Rd.isAt (hR1653.at hs) (at1 (ints_at hi1655q))) hi1655a hi1655b) ?_; clear hf; intro a hf
        refine sY hf hs rfl rfl rfl (Y_load_rd rfl rfl (fun w hs => hR1653.at hs) (at1 (ints_at hi1655q)) ag2) ?_; clear hf; intro a hf
        refine sY hf hs rfl rfl rfl (Y_eql rfl rfl rfl) ?_; clear hf; intro a hf
        refine sY hf hs rfl rfl rfl (Y_move rfl rfl) ?_; clear hf; intro a hf
        refine bsplit (q1654 == (-1000000000000000)) (fun hb1656 => ?_) (fun hb1656 => ?_)
        ·have hj1644 := bif_t hj1644 hb1656
         refine sNo hf rfl rfl rfl (congrArg (fun b => some (Value.bool b)) hb1656) rfl rfl rfl ?_; clear hf; intro a hf
         refine sNo hf rfl rfl rfl (congrArg (fun b => some (Value.bool b)) hb1656) rfl rfl rfl ?_; clear hf; intro a hf
         refine sNo hf rfl rfl rfl (congrArg (fun b => some (Value.bool b)) hb1656) rfl rfl rfl ?_; clear hf; intro a hf
         refine sY hf hs rfl rfl rfl (Y_pickT rfl (congrArg (fun b => some (Value.bool b)) hb1656) rfl) ?_; clear hf; intro a hf
         refine wpO_nil ?_
         refine wpL_nil (then_normal ?_)
         exact ⟨true, Option.some.inj hj1644, (FrD.pick (FrD.pick (FrD.pick (FrD.pick (FrD.pick (FrD.pick (FrD.pick hf.none hf rfl) hf rfl) hf rfl) hf rfl) hf rfl) hf rfl) hf rfl), hs⟩
        ·have hj1644 := bif_f hj1644 hb1656
         refine sYg hf hs rfl rfl rfl (congrArg (fun b => some (Value.bool b)) hb1656) rfl rfl rfl (Y_move rfl rfl) ?_; clear hf; intro a hf
         refine sYg hf hs rfl rfl rfl (congrArg (fun b => some (Value.bool b)) hb1656) rfl rfl rfl (Y_move rfl rfl) ?_; clear hf; intro a hf
         obtain ⟨r1657, hc1658, hj1644⟩ := bind_some hj1644
         refine sCallg hf rfl rfl rfl (congrArg (fun b => some (Value.bool b)) hb1656) rfl rfl rfl rfl (cap := []) rfl rfl en166 (spec_l01Has_ok F p1 aA p1.length aC rfl x951 _ _ hc1658 (bk.at hs)) ?_; clear hf
         rintro _ w ⟨rfl, hs1⟩ a hf
         have hs : St _ W w [] := hs.ext hs1.below
         clear hs1
         refine sY hf hs rfl rfl rfl (Y_pickF rfl (congrArg (fun b => some (Value.bool b)) hb1656) rfl) ?_; clear hf; intro a hf
         refine wpO_nil ?_
         refine wpL_nil (then_normal ?_)
         exact ⟨r1657, Option.some.inj hj1644, (FrD.pick (FrD.pick (FrD.pick (FrD.pick (FrD.pick (FrD.pick (FrD.pick hf.none hf rfl) hf rfl) hf rfl) hf rfl) hf rfl) hf rfl) hf rfl), hs⟩
       ·rintro a w ⟨b1642, hr_, hf, hs⟩
        subst hr_
        try dsimp only at hj1627
        refine wpL_cond hf rfl (fun hb1659 => ?_) (fun hb1659 => ?_)
        ·have hj1627 := bif_t hj1627 hb1659
         refine wpL_exit (Qb_exit ?_)
         exact ⟨Option.some.inj hj1627, (FrD.pick (FrD.pick (FrD.pick (FrD.pick (FrD.pick (FrD.pick hf.none hf rfl) hf rfl) hf rfl) hf rfl) hf rfl) hf rfl), hs⟩
        ·have hj1627 := bif_f hj1627 hb1659
         refine wpL_skip <| wpL_seq ?_
         obtain ⟨r1756, hj1757, hj1627⟩ := bind_some hj1627
         refine wpL_cut (fun a w => ∃ xs1751 : List Int, ∃ A1752, ∃ n1753, ∃ c1754, xs1751 = r1756 ∧ n1753 = xs1751.length ∧ Fr a 86 [(0, .slice au p0.length aw), (1, .slice aA p1.length aC), (2, .int .i64 p2), (3, .int .i64 p3), (10, .int .i64 q3), (11, .int .i64 x951), (12, .slice A1752 n1753 c1754)] ∧ St [] W w [.row A1752 n1753 c1754 2 1 (ints xs1751)]) ?_ ?_
         ·refine wpL_drawM [] [16] (by kernel_rfl) hs ?_; clear hs; intro w hs
          have hs0 : St _ W w [] := hs
          refine mYp (i := 0) rfl (by kernel_rfl) (by kernel_rfl) hf rfl rfl rfl (fun _ => Y_move rfl rfl) ?_; clear hf; intro a hf
          refine mYp (i := 1) rfl (by kernel_rfl) (by kernel_rfl) hf rfl rfl rfl (fun _ => Y_move rfl rfl) ?_; clear hf; intro a hf
          refine mYp (i := 3) rfl (by kernel_rfl) (by kernel_rfl) hf rfl rfl rfl (fun _ => Y_move rfl rfl) ?_; clear hf; intro a hf
          refine mYp (i := 6) rfl (by kernel_rfl) (by kernel_rfl) hf rfl rfl rfl (fun _ => Y_move rfl rfl) ?_; clear hf; intro a hf
          refine mYp (i := 7) rfl (by kernel_rfl) (by kernel_rfl) hf rfl rfl rfl (fun _ => Y_move rfl rfl) ?_; clear hf; intro a hf
          refine mYp (i := 8) rfl (by kernel_rfl) (by kernel_rfl) hf rfl rfl rfl (fun _ => Y_move rfl rfl) ?_; clear hf; intro a hf
          obtain ⟨q1792, hi1793, hj1757⟩ := bind_some hj1757
          obtain ⟨hi1793a, hi1793b, hi1793q⟩ := idx_some hi1793
          obtain ⟨vs1794, hv1795, hr1796⟩ := id aZ
          obtain ⟨A1797, c1798, hv1799, hR1800⟩ := hr1796 _ _ hi1793q
          refine mYp (i := 9) rfl (by kernel_rfl) (by kernel_rfl) hf rfl rfl rfl (fun _ => Y_index rfl rfl rfl el40 ti28 (Rd.isAt hv1795 hv1799) hi1793a hi1793b) ?_; clear hf; intro a hf
          refine mY (i := 10) [[12, 13, 14]] rfl (by kernel_rfl) (by kernel_rfl) hf hs0 rfl rfl rfl (Y_load_rd rfl rfl (fun w hs => hv1795.at hs) (at1 hv1799) ag28) ?_; clear hf; intro a hf
          refine mYp (i := 11) rfl (by kernel_rfl) (by kernel_rfl) hf rfl rfl rfl (fun _ => Y_move rfl rfl) ?_; clear hf; intro a hf
          obtain ⟨q1801, hi1802, hj1757⟩ := bind_some hj1757
          obtain ⟨hi1802a, hi1802b, hi1802q⟩ := idx_some hi1802
          refine mYp (i := 12) rfl (by kernel_rfl) (by kernel_rfl) hf rfl rfl rfl (fun _ => Y_index rfl rfl rfl el28 ti2 (Rd.isAt (hR1800.at hs) (at1 (ints_at hi1802q))) hi1802a hi1802b) ?_; clear hf; intro a hf
          refine mY (i := 13) [[14]] rfl (by kernel_rfl) (by kernel_rfl) hf hs0 rfl rfl rfl (Y_load_rd rfl rfl (fun w hs => hR1800.at hs) (at1 (ints_at hi1802q)) ag2) ?_; clear hf; intro a hf
          refine mYp (i := 14) rfl (by kernel_rfl) (by kernel_rfl) hf rfl rfl rfl (fun _ => Y_add rfl rfl rfl) ?_; clear hf; intro a hf
          refine mYp (i := 15) rfl (by kernel_rfl) (by kernel_rfl) hf rfl rfl rfl (fun _ => Y_move rfl rfl) ?_; clear hf; intro a hf
          refine mRun2 (i := 2) (j := 4) rfl rfl (by kernel_rfl) ?_ ?_
          ·obtain ⟨r1803, hc1804, hj1757⟩ := bind_some hj1757
           refine sCall hf rfl rfl rfl rfl (cap := []) rfl rfl en114 (spec_l01Own_ok F p1 aA p1.length aC rfl _ _ hc1804 (bk.at hs)) ?_; clear hf
           rintro _ w ⟨A1805, n1806, c1807, rfl, hn1808, hs1⟩ a hf
           have hs : St _ W w [.row A1805 n1806 c1807 2 1 (ints r1803)] := hs.join hs1
           clear hs1
           have hs0 : St _ W w [] := hs.sel [] (by decide)
           refine wpO_nil ⟨Or.inr (fun _ => hs0), ?_⟩
           refine mRun (i := 4) rfl (by kernel_rfl) ?_
           refine sBuildSlice (parts := [(0, .tmp 68)]) (vs := [.int .i64 x951]) (cells := [.int .i64 x951]) hf hs rfl rfl rfl rfl rfl el28 ti2 rfl rfl rfl rfl ?_; clear hf hs; intro a w A1809 hs hA1810 hf
           have hs : St _ W w [_, .row A1809 1 1 2 1 (ints ([x951]))] := hs
           have hs0 : St _ W w [] := hs.sel [] (by decide)
           refine wpO_nil ⟨Or.inr (fun _ => hs0), ?_⟩
           refine mRun (i := 5) rfl (by kernel_rfl) ?_
           obtain ⟨xs1813, ha1814, hj1757⟩ := bind_some hj1757
           refine sAppendL (i := 0) (xs := r1803) (ys := [x951]) (enc := ints) hf hs rfl rfl rfl rfl rfl rfl hn1808 rfl rfl ha1814 el28 ti2 rfl rfl rfl (hs.rd (i := 1) rfl) (Nat.succ_pos _) ints_len1 ints_append ints_one ?_; clear hf hs; intro a w A1811 c1812 hs hf
           have hs : St _ W w [.row A1811 xs1813.length c1812 2 1 (ints xs1813), _] := hs
           have hs0 : St _ W w [] := hs.sel [] (by decide)
           refine wpO_nil ⟨Or.inr (fun _ => hs0), ?_⟩
           refine mRun (i := 16) rfl (by kernel_rfl) ?_
           obtain ⟨r1815, hc1816, hj1757⟩ := bind_some hj1757
           refine sCall hf rfl rfl rfl rfl (cap := []) rfl rfl en157 (ih_ p0 au p0.length aw rfl xs1813 A1811 xs1813.length c1812 rfl (IntKind.i64.wrap (p2 + q1801)) p3 _ _ hc1816 (aZ.at hs) (hs.rd (i := 0) rfl)) ?_; clear hf
           rintro _ w ⟨A1817, n1818, c1819, A1820, n1821, c1822, ys1823, rfl, hn1824, he1825, hs1⟩ a hf
           have hs : St _ W w [_, _, .row A1820 n1821 c1822 2 1 (ints ys1823)] := hs.join hs1
           clear hs1
           have hs := hs.eiOwn (i := 0) (j := 2) (enc := ints) rfl rfl (by decide) he1825
           have hs : St _ W w [.row A1817 n1818 c1819 2 1 (ints r1815), _] := hs
           refine wpO_nil ⟨Or.inl (by decide), ?_⟩
           refine mYp (i := 17) rfl (by kernel_rfl) (by kernel_rfl) hf rfl rfl rfl (fun _ => Y_assign rfl rfl) ?_; clear hf; intro a hf
           refine mDone (by kernel_rfl) ?_
           clear hs0
           refine wpL_nil (then_normal ?_)
           exact ⟨r1815, A1817, n1818, c1819, Option.some.inj hj1757, hn1824, (FrD.pick (FrD.pick (FrD.pick (FrD.pick (FrD.pick (FrD.pick (FrD.pick hf.none hf rfl) hf rfl) hf rfl) hf rfl) hf rfl) hf rfl) hf rfl), hs.sel [0] (by decide)⟩
          ·refine sBuildSlice (parts := [(0, .tmp 68)]) (vs := [.int .i64 x951]) (cells := [.int .i64 x951]) hf hs rfl rfl rfl rfl rfl el28 ti2 rfl rfl rfl rfl ?_; clear hf hs; intro a w A1826 hs hA1827 hf
           have hs : St _ W w [.row A1826 1 1 2 1 (ints ([x951]))] := hs
           have hs0 : St _ W w [] := hs.sel [] (by decide)
           refine wpO_nil ⟨Or.inr (fun _ => hs0), ?_⟩
           refine mRun (i := 2) rfl (by kernel_rfl) ?_
           obtain ⟨r1828, hc1829, hj1757⟩ := bind_some hj1757
           refine sCall hf rfl rfl rfl rfl (cap := []) rfl rfl en114 (spec_l01Own_ok F p1 aA p1.length aC rfl _ _ hc1829 (bk.at hs)) ?_; clear hf
           rintro _ w ⟨A1830, n1831, c1832, rfl, hn1833, hs1⟩ a hf
           have hs : St _ W w [_, .row A1830 n1831 c1832 2 1 (ints r1828)] := hs.join hs1
           clear hs1
           have hs0 : St _ W w [] := hs.sel [] (by decide)
           refine wpO_nil ⟨Or.inr (fun _ => hs0), ?_⟩
           refine mRun (i := 5) rfl (by kernel_rfl) ?_
           obtain ⟨xs1836, ha1837, hj1757⟩ := bind_some hj1757
           refine sAppendL (i := 1) (xs := r1828) (ys := [x951]) (enc := ints) hf hs rfl rfl rfl rfl rfl rfl hn1833 rfl rfl ha1837 el28 ti2 rfl rfl rfl (hs.rd (i := 0) rfl) (Nat.succ_pos _) ints_len1 ints_append ints_one ?_; clear hf hs; intro a w A1834 c1835 hs hf
           have hs : St _ W w [_, .row A1834 xs1836.length c1835 2 1 (ints xs1836)] := hs
           have hs0 : St _ W w [] := hs.sel [] (by decide)
           refine wpO_nil ⟨Or.inr (fun _ => hs0), ?_⟩
           refine mRun (i := 16) rfl (by kernel_rfl) ?_
           obtain ⟨r1838, hc1839, hj1757⟩ := bind_some hj1757
           refine sCall hf rfl rfl rfl rfl (cap := []) rfl rfl en157 (ih_ p0 au p0.length aw rfl xs1836 A1834 xs1836.length c1835 rfl (IntKind.i64.wrap (p2 + q1801)) p3 _ _ hc1839 (aZ.at hs) (hs.rd (i := 1) rfl)) ?_; clear hf
           rintro _ w ⟨A1840, n1841, c1842, A1843, n1844, c1845, ys1846, rfl, hn1847, he1848, hs1⟩ a hf
           have hs : St _ W w [_, _, .row A1843 n1844 c1845 2 1 (ints ys1846)] := hs.join hs1
           clear hs1
           have hs := hs.eiOwn (i := 1) (j := 2) (enc := ints) rfl rfl (by decide) he1848
           have hs : St _ W w [_, .row A1840 n1841 c1842 2 1 (ints r1838)] := hs
           refine wpO_nil ⟨Or.inl (by decide), ?_⟩
           refine mYp (i := 17) rfl (by kernel_rfl) (by kernel_rfl) hf rfl rfl rfl (fun _ => Y_assign rfl rfl) ?_; clear hf; intro a hf
           refine mDone (by kernel_rfl) ?_
           clear hs0
           refine wpL_nil (then_normal ?_)
           exact ⟨r1838, A1840, n1841, c1842, Option.some.inj hj1757, hn1847, (FrD.pick (FrD.pick (FrD.pick (FrD.pick (FrD.pick (FrD.pick (FrD.pick hf.none hf rfl) hf rfl) hf rfl) hf rfl) hf rfl) hf rfl) hf rfl), hs.sel [1] (by decide)⟩
         ·rintro a w ⟨xs1751, A1752, n1753, c1754, hr_, hn1755, hf, hs⟩
          subst hr_
          try dsimp only at hj1627
          refine wpL_seq <| wpL_region ?_
          refine sY hf hs rfl rfl rfl (Y_move rfl rfl) ?_; clear hf; intro a hf
          refine sY hf hs rfl rfl rfl (Y_lenH rfl rfl el28 hn1755) ?_; clear hf; intro a hf
          refine sY hf hs rfl rfl rfl (Y_gtr rfl rfl rfl) ?_; clear hf; intro a hf
          refine wpO_nil ?_
          refine wpL_cond hf rfl (fun hb1849 => ?_) (fun hb1849 => ?_)
          ·have hj1627 := bif_t hj1627 hb1849
           refine wpL_seq <| wpL_region ?_
           refine sY hf hs rfl rfl rfl (Y_move rfl rfl) ?_; clear hf; intro a hf
           refine sY hf hs rfl rfl rfl (Y_assign rfl rfl) ?_; clear hf; intro a hf
           refine wpO_nil ?_
           obtain rfl := Option.some.inj hj1627
           try dsimp only at hm1401
           obtain rfl := Option.some.inj hm1401
           try dsimp only at hm
           obtain rfl := Option.some.inj hm
           refine wpL_ret (Qb_ret (Ql_ret (Qb_ret (ret_tmp rfl hf rfl ?_))))
           exact ⟨_, rfl, A1752, n1753, c1754, A1752, n1753, c1754, xs1751, rfl, hn1755, .inr ⟨rfl, rfl, rfl, rfl⟩, hs⟩
          ·have hj1627 := bif_f hj1627 hb1849
           refine wpL_skip ?_
           refine wpL_nil (Qb_normal ?_)
           exact ⟨Option.some.inj hj1627, (FrD.pick (FrD.pick (FrD.pick (FrD.pick (FrD.pick (FrD.pick hf.none hf rfl) hf rfl) hf rfl) hf rfl) hf rfl) hf rfl), hs.sel [] (by decide)⟩
      ·rintro a w ⟨hr_, hf, hs⟩
       subst hr_
       try dsimp only at hm1401
       refine wpL_region ?_
       refine sY hf hs rfl rfl rfl (Y_move rfl rfl) ?_; clear hf; intro a hf
       refine sY hf hs rfl rfl rfl (Y_add rfl rfl rfl) ?_; clear hf; intro a hf
       refine sY hf hs rfl rfl rfl (Y_assign rfl rfl) ?_; clear hf; intro a hf
       refine wpO_nil ?_
       refine wpL_nil (Ql_normal ?_)
       exact ⟨(IntKind.i64.wrap (x951 + 1)), hm1401, (FrD.pick (FrD.pick (FrD.pick (FrD.pick (FrD.pick (FrD.pick hf.none hf rfl) hf rfl) hf rfl) hf rfl) hf rfl) hf rfl), hs⟩
     ·have hm1401 := bif_f hm1401 hb1403
      refine wpL_exit (Ql_exit (Qb_exit ?_))
      exact ⟨Option.some.inj hm1401, hf.none, hs⟩
   ·rintro a w ⟨hr_, hf, hs⟩
    subst hr_
    try dsimp only at hm
    refine wpL_seq <| wpL_region ?_
    refine sY hf hs rfl rfl rfl (Y_assign rfl rfl) ?_; clear hf; intro a hf
    refine wpO_nil ?_
    have hs : St [] W _ [.row none 0 0 2 1 (ints ([] : List Int))] := hs.addNil 2 1
    obtain rfl := Option.some.inj hm
    refine wpL_ret (ret_tmp rfl hf rfl ?_)
    exact ⟨_, rfl, none, 0, 0, none, 0, 0, ([] : List Int), rfl, rfl, .inr ⟨rfl, rfl, rfl, rfl⟩, hs⟩
theorem spec_l03Grow_rec_ok (F : Nat) : ∀ (k_ : Nat) (p0 : List (List Int)) (au : Option Addr) (aX aw : Nat) (_hn_p0_1 : aX = p0.length) (p1 : List Int) (aA : Option Addr) (aS aC : Nat) (_hn_p1_1 : aS = p1.length) (p2 : Int) (p3 : Int) (r : List Int) (W : World) (_hm : spec_l03Grow_rec F k_ p0 p1 p2 p3 = some r) (_h_p0_1 : RdM W au p0) (_h_p1_1 : Rd W aA (ints p1)), Calls Try.prog 157 [.slice au aX aw, .slice aA aS aC, .int .i64 p2, .int .i64 p3].toArray W fun e w' => ∃ v, e = .returned v ∧ ∃ A1851, ∃ n1852, ∃ c1853, ∃ A1854, ∃ n1855, ∃ c1856, ∃ ys1857, v = .slice A1851 n1852 c1853 ∧ n1852 = r.length ∧ Ei aA aS aC p1 A1854 n1855 c1856 ys1857 A1851 n1852 c1853 r ∧ St [] W w' [.row A1854 n1855 c1856 2 1 (ints ys1857)]
 | 0 => by intros; simp [spec_l03Grow_rec] at *
 | k_ + 1 => spec_l03Grow_step F k_ (spec_l03Grow_rec_ok F k_)
theorem spec_l03Grow_ok (F : Nat) : ∀ (p0 : List (List Int)) (au : Option Addr) (aX aw : Nat) (_hn_p0_1 : aX = p0.length) (p1 : List Int) (aA : Option Addr) (aS aC : Nat) (_hn_p1_1 : aS = p1.length) (p2 : Int) (p3 : Int) (r : List Int) (W : World) (_hm : spec_l03Grow F p0 p1 p2 p3 = some r) (_h_p0_1 : RdM W au p0) (_h_p1_1 : Rd W aA (ints p1)), Calls Try.prog 157 [.slice au aX aw, .slice aA aS aC, .int .i64 p2, .int .i64 p3].toArray W fun e w' => ∃ v, e = .returned v ∧ ∃ A1851, ∃ n1852, ∃ c1853, ∃ A1854, ∃ n1855, ∃ c1856, ∃ ys1857, v = .slice A1851 n1852 c1853 ∧ n1852 = r.length ∧ Ei aA aS aC p1 A1854 n1855 c1856 ys1857 A1851 n1852 c1853 r ∧ St [] W w' [.row A1854 n1855 c1856 2 1 (ints ys1857)] := spec_l03Grow_rec_ok F F

set_option maxRecDepth 100000 in
theorem spec_l03Over_ok (F : Nat) (aK : List (List Int)) (aH : Option Addr) (aT aP : Nat) (bj : aT = aK.length) (cC : Int) (r : List Int) (W : World) (hm : spec_l03Over F aK cC = some r) (bb : RdM W aH aK) :
  Calls Try.prog 89 [.slice aH aT aP, .int .i64 cC].toArray W fun e w' => ∃ v, e = .returned v ∧ ∃ A68, ∃ n69, ∃ c70, v = .slice A68 n69 c70 ∧ n69 = r.length ∧ St [] W w' [.row A68 n69 c70 2 1 (ints r)] := by
 subst bj
 unfold spec_l03Over at hm
 refine Calls.enter (N := 22) Try.func89 rfl rfl rfl (fun a hf => ?_)
 have hs := St.start W
 obtain ⟨w, hw_⟩ : ∃ w, w = W := ⟨W, rfl⟩
 clear hw_ w
 refine wpL_seq <| wpL_region ?_
 refine sY hf hs rfl rfl rfl (Y_assign rfl rfl) ?_; clear hf; intro a hf
 refine wpO_nil <| wpL_seq <| wpL_seq <| wpL_region ?_
 refine sY hf hs rfl rfl rfl (Y_assign rfl rfl) ?_; clear hf; intro a hf
 refine wpO_nil ?_
 obtain ⟨r48, hl49, hm⟩ := bind_some hm
 refine wpL_block (fun a w => Sum.inr () = r48 ∧ Fr a 22 [] ∧ St [] W w []) ?_ ?_
 ·refine wpL_loop (fun n a w => ∃ x32 : Int, spec_l03Over_L1 F aK cC n x32 = some r48 ∧ Fr a 22 [(0, .slice aH aK.length aP), (1, .int .i64 cC), (5, .int .i64 x32)] ∧ St [] W w []) F ?_ ?_ ?_
  ·exact ⟨0, hl49, (FrD.pick (FrD.pick (FrD.pick hf.none hf rfl) hf rfl) hf rfl), hs⟩
  ·rintro a w ⟨x32, h0_, -, -⟩; simp [spec_l03Over_L1] at h0_
  ·rintro n51 a w ⟨x32, hm50, hf, hs⟩
   rw [spec_l03Over_L1] at hm50
   refine wpL_seq <| wpL_seq <| wpL_region ?_
   refine sY hf hs rfl rfl rfl (Y_move rfl rfl) ?_; clear hf; intro a hf
   refine sY hf hs rfl rfl rfl (Y_move rfl rfl) ?_; clear hf; intro a hf
   refine sY hf hs rfl rfl rfl (Y_lenH rfl rfl el40 rfl) ?_; clear hf; intro a hf
   refine sY hf hs rfl rfl rfl (Y_lss rfl rfl rfl) ?_; clear hf; intro a hf
   refine wpO_nil ?_
   refine wpL_cond hf rfl (fun hb52 => ?_) (fun hb52 => ?_)
   ·have hm50 := bif_t hm50 hb52
    refine wpL_skip <| wpL_seq <| wpL_block0 <| wpL_seq <| wpL_region ?_
    refine sY hf hs rfl rfl rfl (Y_move rfl rfl) ?_; clear hf; intro a hf
    refine sY hf hs rfl rfl rfl (Y_move rfl rfl) ?_; clear hf; intro a hf
    refine sBuildSlice (parts := [(0, .tmp 14)]) (vs := [.int .i64 x32]) (cells := [.int .i64 x32]) hf hs rfl rfl rfl rfl rfl el28 ti2 rfl rfl rfl rfl ?_; clear hf hs; intro a w A53 hs hA54 hf
    have hs : St _ W w [.row A53 1 1 2 1 (ints ([x32]))] := hs
    refine sY hf hs rfl rfl rfl (Y_move rfl rfl) ?_; clear hf; intro a hf
    obtain ⟨r55, hc56, hm50⟩ := bind_some hm50
    refine sCall hf rfl rfl rfl rfl (cap := []) rfl rfl en157 (spec_l03Grow_ok F aK aH aK.length aP rfl ([x32]) A53 1 1 rfl 0 cC _ _ hc56 (bb.at hs) (hs.rd (i := 0) rfl)) ?_; clear hf
    rintro _ w ⟨A57, n58, c59, A60, n61, c62, ys63, rfl, hn64, he65, hs1⟩ a hf
    have hs : St _ W w [_, .row A60 n61 c62 2 1 (ints ys63)] := hs.join hs1
    clear hs1
    have hs := hs.eiOwn (i := 0) (j := 1) (enc := ints) rfl rfl (by decide) he65
    have hs : St _ W w [.row A57 n58 c59 2 1 (ints r55)] := hs
    refine sY hf hs rfl rfl rfl (Y_assign rfl rfl) ?_; clear hf; intro a hf
    refine wpO_nil <| wpL_seq <| wpL_region ?_
    refine sY hf hs rfl rfl rfl (Y_move rfl rfl) ?_; clear hf; intro a hf
    refine sY hf hs rfl rfl rfl (Y_lenH rfl rfl el28 hn64) ?_; clear hf; intro a hf
    refine sY hf hs rfl rfl rfl (Y_gtr rfl rfl rfl) ?_; clear hf; intro a hf
    refine wpO_nil ?_
    refine wpL_cond hf rfl (fun hb66 => ?_) (fun hb66 => ?_)
    ·have hm50 := bif_t hm50 hb66
     refine wpL_seq <| wpL_region ?_
     refine sY hf hs rfl rfl rfl (Y_move rfl rfl) ?_; clear hf; intro a hf
     refine sY hf hs rfl rfl rfl (Y_assign rfl rfl) ?_; clear hf; intro a hf
     refine wpO_nil ?_
     obtain rfl := Option.some.inj hm50
     try dsimp only at hm
     obtain rfl := Option.some.inj hm
     refine wpL_ret (Qb_ret (Ql_ret (Qb_ret (ret_tmp rfl hf rfl ?_))))
     exact ⟨_, rfl, A57, n58, c59, rfl, hn64, hs⟩
    ·have hm50 := bif_f hm50 hb66
     refine wpL_skip ?_
     refine wpL_nil (Qb_normal ?_)
     refine wpL_region ?_
     refine sY hf hs rfl rfl rfl (Y_move rfl rfl) ?_; clear hf; intro a hf
     refine sY hf hs rfl rfl rfl (Y_add rfl rfl rfl) ?_; clear hf; intro a hf
     refine sY hf hs rfl rfl rfl (Y_assign rfl rfl) ?_; clear hf; intro a hf
     refine wpO_nil ?_
     refine wpL_nil (Ql_normal ?_)
     exact ⟨(IntKind.i64.wrap (x32 + 1)), hm50, (FrD.pick (FrD.pick (FrD.pick hf.none hf rfl) hf rfl) hf rfl), hs.sel [] (by decide)⟩
   ·have hm50 := bif_f hm50 hb52
    refine wpL_exit (Ql_exit (Qb_exit ?_))
    exact ⟨Option.some.inj hm50, hf.none, hs⟩
 ·rintro a w ⟨hr_, hf, hs⟩
  subst hr_
  try dsimp only at hm
  refine wpL_seq <| wpL_region ?_
  refine sY hf hs rfl rfl rfl (Y_assign rfl rfl) ?_; clear hf; intro a hf
  refine wpO_nil ?_
  have hs : St [] W _ [.row none 0 0 2 1 (ints ([] : List Int))] := hs.addNil 2 1
  obtain rfl := Option.some.inj hm
  refine wpL_ret (ret_tmp rfl hf rfl ?_)
  exact ⟨_, rfl, none, 0, 0, rfl, rfl, hs⟩

set_option maxRecDepth 100000 in
theorem spec_l12Dead_ok (F : Nat) (ah : GEventGraph) (ag : Option Addr) (ax ai : Nat) (aB : ax = ah.Places.length) (r : List Int) (W : World) (hm : spec_l12Dead F ah = some r) (ay : Rd W ag ((recs GPlace.cells) ah.Places)) :
  Calls Try.prog 197 [.agg #[.int .i64 ah.Events, .slice ag ax ai]].toArray W fun e w' => ∃ v, e = .returned v ∧ ∃ A15, ∃ n16, ∃ c17, v = .slice A15 n16 c17 ∧ n16 = r.length ∧ St [] W w' [.row A15 n16 c17 2 1 (ints r)] := by
 subst aB
 unfold spec_l12Dead at hm
 refine Calls.enter (N := 6) Try.func197 rfl rfl rfl (fun a hf => ?_)
 have hs := St.start W
 obtain ⟨w, hw_⟩ : ∃ w, w = W := ⟨W, rfl⟩
 clear hw_ w
 refine wpL_seq <| wpL_region ?_
 refine sBox hf hs rfl rfl rfl rfl rfl (cs := [.int .i64 ah.Events, .slice ag ah.Places.length ai]) rfl ?_; clear hf hs; intro a w b1 hs hf
 have hs : St _ W w [.blk b1 55 [.int .i64 ah.Events, .slice ag ah.Places.length ai]] := hs
 refine sY hf hs rfl rfl rfl (Y_assign rfl rfl) ?_; clear hf; intro a hf
 refine wpO_nil <| wpL_seq <| wpL_region ?_
 refine sY hf hs rfl rfl rfl (Y_load_blkS rfl rfl (i := 0) rfl ag55 ti55 rfl) ?_; clear hf; intro a hf
 obtain ⟨r2, hc3, hm⟩ := bind_some hm
 refine sCall hf rfl rfl rfl rfl (cap := []) rfl rfl en211 (spec_l12Free_ok F ah ag ah.Places.length ai rfl _ _ hc3 (ay.at hs)) ?_; clear hf
 rintro _ w ⟨A4, n5, c6, vs8, rfl, hn7, hs1⟩ a hf
 have hs : St _ W w [_, .mat A4 n5 c6 28 2 vs8 r2] := hs.join hs1
 clear hs1
 obtain ⟨r9, hc10, hm⟩ := bind_some hm
 refine sCall hf rfl rfl rfl rfl (cap := []) rfl rfl en89 (spec_l03Over_ok F r2 A4 n5 c6 hn7 (-1) _ _ hc10 (hs.rdM (i := 1) rfl)) ?_; clear hf
 rintro _ w ⟨A11, n12, c13, rfl, hn14, hs1⟩ a hf
 have hs : St _ W w [_, _, .row A11 n12 c13 2 1 (ints r9)] := hs.join hs1
 clear hs1
 refine sY hf hs rfl rfl rfl (Y_assign rfl rfl) ?_; clear hf; intro a hf
 refine wpO_nil ?_
 obtain rfl := Option.some.inj hm
 refine wpL_ret (ret_tmp rfl hf rfl ?_)
 exact ⟨_, rfl, A11, n12, c13, rfl, hn14, hs.sel [2] (by decide)⟩

set_option maxRecDepth 100000 in
theorem spec_l20Slacks_ok (F : Nat) (ah : GEventGraph) (ag : Option Addr) (ax ai : Nat) (aB : ax = ah.Places.length) (ap : GTimetable) (ao : Option Addr) (aJ aq : Nat) (aQ : aJ = ap.Starts.length) (r : List Int) (W : World) (hm : spec_l20Slacks F ah ap = some r) (ay : Rd W ag ((recs GPlace.cells) ah.Places)) (aM : Rd W ao (ints ap.Starts)) :
  Calls Try.prog 220 [.agg #[.int .i64 ah.Events, .slice ag ax ai], .agg #[.int .i64 ap.Period, .slice ao aJ aq]].toArray W fun e w' => ∃ v, e = .returned v ∧ ∃ A82, ∃ n83, ∃ c84, v = .slice A82 n83 c84 ∧ n83 = r.length ∧ St [] W w' [.row A82 n83 c84 2 1 (ints r)] := by
 subst aB
 subst aQ
 unfold spec_l20Slacks at hm
 refine Calls.enter (N := 47) Try.func220 rfl rfl rfl (fun a hf => ?_)
 have hs := St.start W
 obtain ⟨w, hw_⟩ : ∃ w, w = W := ⟨W, rfl⟩
 clear hw_ w
 refine wpL_seq <| wpL_region ?_
 refine sBox hf hs rfl rfl rfl rfl rfl (cs := [.int .i64 ah.Events, .slice ag ah.Places.length ai]) rfl ?_; clear hf hs; intro a w b1 hs hf
 have hs : St _ W w [_] := hs
 refine sBox hf hs rfl rfl rfl rfl rfl (cs := [.int .i64 ap.Period, .slice ao ap.Starts.length aq]) rfl ?_; clear hf hs; intro a w b2 hs hf
 have hs : St _ W w [_, .blk b2 66 [.int .i64 ap.Period, .slice ao ap.Starts.length aq]] := hs
 refine sY hf hs rfl rfl rfl (Y_assign rfl rfl) ?_; clear hf; intro a hf
 refine wpO_nil <| wpL_seq <| wpL_region ?_
 refine sEmpty hf hs rfl rfl rfl rfl el28 ti2 ?_; clear hf hs; intro a w A3 hs hf
 have hs : St _ W w [_, _, .row A3 0 0 2 1 (ints ([] : List Int))] := hs
 refine sY hf hs rfl rfl rfl (Y_assign rfl rfl) ?_; clear hf; intro a hf
 refine wpO_nil <| wpL_seq <| wpL_seq <| wpL_region ?_
 refine sY hf hs rfl rfl rfl (Y_assign rfl rfl) ?_; clear hf; intro a hf
 refine wpO_nil ?_
 obtain ⟨r64, hl65, hm⟩ := bind_some hm
 refine wpL_block (fun a w => ∃ xs59 : List Int, ∃ A60, ∃ n61, ∃ c62, xs59 = r64 ∧ n61 = xs59.length ∧ Fr a 47 [(5, .slice A60 n61 c62)] ∧ St [] W w [.row A60 n61 c62 2 1 (ints xs59)]) ?_ ?_
 ·refine wpL_loop (fun n a w => ∃ xs39 : List Int, ∃ x44 : Int, ∃ A40, ∃ n41, ∃ c42, spec_l20Slacks_L1 F ah ap n xs39 x44 = some r64 ∧ n41 = xs39.length ∧ Fr a 47 [(2, .pointer (some ⟨b1, 0, none⟩)), (3, .pointer (some ⟨b2, 0, none⟩)), (5, .slice A40 n41 c42), (6, .int .i64 x44)] ∧ St [] W w [.blk b1 55 [.int .i64 ah.Events, .slice ag ah.Places.length ai], .blk b2 66 [.int .i64 ap.Period, .slice ao ap.Starts.length aq], .row A40 n41 c42 2 1 (ints xs39)]) F ?_ ?_ ?_
  ·exact ⟨([] : List Int), 0, A3, 0, 0, hl65, rfl, (FrD.pick (FrD.pick (FrD.pick (FrD.pick hf.none hf rfl) hf rfl) hf rfl) hf rfl), hs⟩
  ·rintro a w ⟨xs39, x44, A40, n41, c42, h0_, -, -, -⟩; simp [spec_l20Slacks_L1] at h0_
  ·rintro n67 a w ⟨xs39, x44, A40, n41, c42, hm66, hn43, hf, hs⟩
   rw [spec_l20Slacks_L1] at hm66
   refine wpL_seq <| wpL_seq <| wpL_region ?_
   refine sY hf hs rfl rfl rfl (Y_move rfl rfl) ?_; clear hf; intro a hf
   refine sY hf hs rfl rfl rfl (Y_fieldAddr rfl rfl fo55_1) ?_; clear hf; intro a hf
   refine sY hf hs rfl rfl rfl (Y_load_blk rfl rfl (i := 0) rfl rfl ag53) ?_; clear hf; intro a hf
   refine sY hf hs rfl rfl rfl (Y_lenH rfl rfl el53 rfl) ?_; clear hf; intro a hf
   refine sY hf hs rfl rfl rfl (Y_lss rfl rfl rfl) ?_; clear hf; intro a hf
   refine wpO_nil ?_
   refine wpL_cond hf rfl (fun hb68 => ?_) (fun hb68 => ?_)
   ·have hm66 := bif_t hm66 hb68
    refine wpL_skip <| wpL_seq <| wpL_block0 <| wpL_seq <| wpL_region ?_
    refine sY hf hs rfl rfl rfl (Y_fieldAddr rfl rfl fo55_1) ?_; clear hf; intro a hf
    refine sY hf hs rfl rfl rfl (Y_load_blk rfl rfl (i := 0) rfl rfl ag53) ?_; clear hf; intro a hf
    refine sY hf hs rfl rfl rfl (Y_move rfl rfl) ?_; clear hf; intro a hf
    obtain ⟨q69, hi70, hm66⟩ := bind_some hm66
    obtain ⟨hi70a, hi70b, hi70q⟩ := idx_some hi70
    refine sY hf hs rfl rfl rfl (Y_index rfl rfl rfl el53 ti64 (Rd.isAt (ay.at hs) (recs_at (s := 4) GPlace.len hi70q (j := 0) rfl)) hi70a hi70b) ?_; clear hf; intro a hf
    refine sY hf hs rfl rfl rfl (Y_load_rdS rfl rfl (us := [.int .i64 q69.From, .int .i64 q69.To, .int .i64 q69.Delay, .int .i64 q69.Tokens]) (fun w hs => ay.at hs) (fun j u hj => recs_at (s := 4) GPlace.len hi70q hj) (Nat.succ_pos _) ag64 ti64 rfl) ?_; clear hf; intro a hf
    refine sAlloc hf hs rfl rfl rfl rfl ti64 ?_; clear hf hs; intro a w b71 hs hf
    have hs : St _ W w [_, _, _, .blk b71 64 [.int .i64 0, .int .i64 0, .int .i64 0, .int .i64 0]] := hs
    refine sStore (i := 3) (us := [.int .i64 q69.From, .int .i64 q69.To, .int .i64 q69.Delay, .int .i64 q69.Tokens]) hf hs rfl rfl rfl rfl rfl rfl ti64 rfl rfl rfl (Nat.le_of_ble_eq_true rfl) rfl ?_; clear hs; intro w hs
    have hs : St _ W w [_, _, _, .blk b71 64 [.int .i64 q69.From, .int .i64 q69.To, .int .i64 q69.Delay, .int .i64 q69.Tokens]] := hs
    refine wpO_nil ?_
    refine wpL_drawM [.blk b1 55 [.int .i64 ah.Events, .slice ag ah.Places.length ai], .blk b2 66 [.int .i64 ap.Period, .slice ao ap.Starts.length aq], .row A40 n41 c42 2 1 (ints xs39), .blk b71 64 [.int .i64 q69.From, .int .i64 q69.To, .int .i64 q69.Delay, .int .i64 q69.Tokens]] [23, 24] (by kernel_rfl) hs ?_; clear hs; intro w hs
    have hs0 : St _ W w [_, _, _, _] := hs
    refine mYp (i := 0) rfl (by kernel_rfl) (by kernel_rfl) hf rfl rfl rfl (fun _ => Y_move rfl rfl) ?_; clear hf; intro a hf
    refine mYp (i := 1) rfl (by kernel_rfl) (by kernel_rfl) hf rfl rfl rfl (fun _ => Y_fieldAddr rfl rfl fo66_1) ?_; clear hf; intro a hf
    refine mY (i := 2) [[5, 6, 12, 19, 22], [5, 6, 12, 19, 22, 23]] rfl (by kernel_rfl) (by kernel_rfl) hf hs0 rfl rfl rfl (Y_load_blk rfl rfl (i := 1) rfl rfl ag28) ?_; clear hf; intro a hf
    refine mYp (i := 3) rfl (by kernel_rfl) (by kernel_rfl) hf rfl rfl rfl (fun _ => Y_fieldAddr rfl rfl fo64_1) ?_; clear hf; intro a hf
    refine mY (i := 4) [[5, 6, 12, 19, 22], [5, 6, 12, 19, 22, 23]] rfl (by kernel_rfl) (by kernel_rfl) hf hs0 rfl rfl rfl (Y_load_blk rfl rfl (i := 3) rfl rfl ag2) ?_; clear hf; intro a hf
    obtain ⟨q72, hi73, hm66⟩ := bind_some hm66
    obtain ⟨hi73a, hi73b, hi73q⟩ := idx_some hi73
    refine mYp (i := 5) rfl (by kernel_rfl) (by kernel_rfl) hf rfl rfl rfl (fun _ => Y_index rfl rfl rfl el28 ti2 (Rd.isAt (aM.at hs) (at1 (ints_at hi73q))) hi73a hi73b) ?_; clear hf; intro a hf
    refine mY (i := 6) [[12, 19, 22], [12, 19, 22, 23]] rfl (by kernel_rfl) (by kernel_rfl) hf hs0 rfl rfl rfl (Y_load_rd rfl rfl (fun w hs => aM.at hs) (at1 (ints_at hi73q)) ag2) ?_; clear hf; intro a hf
    refine mYp (i := 7) rfl (by kernel_rfl) (by kernel_rfl) hf rfl rfl rfl (fun _ => Y_fieldAddr rfl rfl fo64_3) ?_; clear hf; intro a hf
    refine mY (i := 8) [[11, 12, 19, 22], [11, 12, 19, 22, 23]] rfl (by kernel_rfl) (by kernel_rfl) hf hs0 rfl rfl rfl (Y_load_blk rfl rfl (i := 3) rfl rfl ag2) ?_; clear hf; intro a hf
    refine mYp (i := 9) rfl (by kernel_rfl) (by kernel_rfl) hf rfl rfl rfl (fun _ => Y_fieldAddr rfl rfl fo66_0) ?_; clear hf; intro a hf
    refine mY (i := 10) [[11, 12, 19, 22], [11, 12, 19, 22, 23]] rfl (by kernel_rfl) (by kernel_rfl) hf hs0 rfl rfl rfl (Y_load_blk rfl rfl (i := 1) rfl rfl ag2) ?_; clear hf; intro a hf
    refine mYp (i := 11) rfl (by kernel_rfl) (by kernel_rfl) hf rfl rfl rfl (fun _ => Y_mul rfl rfl rfl) ?_; clear hf; intro a hf
    refine mYp (i := 12) rfl (by kernel_rfl) (by kernel_rfl) hf rfl rfl rfl (fun _ => Y_add rfl rfl rfl) ?_; clear hf; intro a hf
    refine mYp (i := 13) rfl (by kernel_rfl) (by kernel_rfl) hf rfl rfl rfl (fun _ => Y_fieldAddr rfl rfl fo66_1) ?_; clear hf; intro a hf
    refine mY (i := 14) [[17, 18, 19, 22], [17, 18, 19, 22, 23]] rfl (by kernel_rfl) (by kernel_rfl) hf hs0 rfl rfl rfl (Y_load_blk rfl rfl (i := 1) rfl rfl ag28) ?_; clear hf; intro a hf
    refine mYp (i := 15) rfl (by kernel_rfl) (by kernel_rfl) hf rfl rfl rfl (fun _ => Y_fieldAddr rfl rfl fo64_0) ?_; clear hf; intro a hf
    refine mY (i := 16) [[17, 18, 19, 22], [17, 18, 19, 22, 23]] rfl (by kernel_rfl) (by kernel_rfl) hf hs0 rfl rfl rfl (Y_load_blk rfl rfl (i := 3) rfl rfl ag2) ?_; clear hf; intro a hf
    obtain ⟨q74, hi75, hm66⟩ := bind_some hm66
    obtain ⟨hi75a, hi75b, hi75q⟩ := idx_some hi75
    refine mYp (i := 17) rfl (by kernel_rfl) (by kernel_rfl) hf rfl rfl rfl (fun _ => Y_index rfl rfl rfl el28 ti2 (Rd.isAt (aM.at hs) (at1 (ints_at hi75q))) hi75a hi75b) ?_; clear hf; intro a hf
    refine mY (i := 18) [[19, 22], [19, 22, 23]] rfl (by kernel_rfl) (by kernel_rfl) hf hs0 rfl rfl rfl (Y_load_rd rfl rfl (fun w hs => aM.at hs) (at1 (ints_at hi75q)) ag2) ?_; clear hf; intro a hf
    refine mYp (i := 19) rfl (by kernel_rfl) (by kernel_rfl) hf rfl rfl rfl (fun _ => Y_sub rfl rfl rfl) ?_; clear hf; intro a hf
    refine mYp (i := 20) rfl (by kernel_rfl) (by kernel_rfl) hf rfl rfl rfl (fun _ => Y_fieldAddr rfl rfl fo64_2) ?_; clear hf; intro a hf
    refine mY (i := 21) [[22], [22, 23]] rfl (by kernel_rfl) (by kernel_rfl) hf hs0 rfl rfl rfl (Y_load_blk rfl rfl (i := 3) rfl rfl ag2) ?_; clear hf; intro a hf
    refine mYp (i := 22) rfl (by kernel_rfl) (by kernel_rfl) hf rfl rfl rfl (fun _ => Y_sub rfl rfl rfl) ?_; clear hf; intro a hf
    refine mRun (i := 23) rfl (by kernel_rfl) ?_
    refine sBuildSlice (parts := [(0, .tmp 43)]) (vs := [.int .i64 (IntKind.i64.wrap ((IntKind.i64.wrap ((IntKind.i64.wrap (q72 + (IntKind.i64.wrap (q69.Tokens * ap.Period)))) - q74)) - q69.Delay))]) (cells := [.int .i64 (IntKind.i64.wrap ((IntKind.i64.wrap ((IntKind.i64.wrap (q72 + (IntKind.i64.wrap (q69.Tokens * ap.Period)))) - q74)) - q69.Delay))]) hf hs rfl rfl rfl rfl rfl el28 ti2 rfl rfl rfl rfl ?_; clear hf hs; intro a w A76 hs hA77 hf
    have hs : St _ W w [_, _, _, _, .row A76 1 1 2 1 (ints ([(IntKind.i64.wrap ((IntKind.i64.wrap ((IntKind.i64.wrap (q72 + (IntKind.i64.wrap (q69.Tokens * ap.Period)))) - q74)) - q69.Delay))]))] := hs
    refine wpO_nil ⟨Or.inl (by decide), ?_⟩
    refine mRun (i := 24) rfl (by kernel_rfl) ?_
    obtain ⟨xs80, ha81, hm66⟩ := bind_some hm66
    refine sAppendL (i := 2) (xs := xs39) (ys := [(IntKind.i64.wrap ((IntKind.i64.wrap ((IntKind.i64.wrap (q72 + (IntKind.i64.wrap (q69.Tokens * ap.Period)))) - q74)) - q69.Delay))]) (enc := ints) hf hs rfl rfl rfl rfl rfl rfl hn43 rfl rfl ha81 el28 ti2 rfl rfl rfl (hs.rd (i := 4) rfl) (Nat.succ_pos _) ints_len1 ints_append ints_one ?_; clear hf hs; intro a w A78 c79 hs hf
    have hs : St _ W w [_, _, .row A78 xs80.length c79 2 1 (ints xs80), _, _] := hs
    refine wpO_nil ⟨Or.inl (by decide), ?_⟩
    refine mYp (i := 25) rfl (by kernel_rfl) (by kernel_rfl) hf rfl rfl rfl (fun _ => Y_assign rfl rfl) ?_; clear hf; intro a hf
    refine mDone (by kernel_rfl) ?_
    clear hs0
    refine wpL_nil (Qb_normal ?_)
    refine wpL_region ?_
    refine sY hf hs rfl rfl rfl (Y_move rfl rfl) ?_; clear hf; intro a hf
    refine sY hf hs rfl rfl rfl (Y_add rfl rfl rfl) ?_; clear hf; intro a hf
    refine sY hf hs rfl rfl rfl (Y_assign rfl rfl) ?_; clear hf; intro a hf
    refine wpO_nil ?_
    refine wpL_nil (Ql_normal ?_)
    exact ⟨xs80, (IntKind.i64.wrap (x44 + 1)), A78, xs80.length, c79, hm66, rfl, (FrD.pick (FrD.pick (FrD.pick (FrD.pick hf.none hf rfl) hf rfl) hf rfl) hf rfl), hs.sel [0, 1, 2] (by decide)⟩
   ·have hm66 := bif_f hm66 hb68
    refine wpL_exit (Ql_exit (Qb_exit ?_))
    exact ⟨xs39, A40, n41, c42, Option.some.inj hm66, hn43, (FrD.pick hf.none hf rfl), hs.sel [2] (by decide)⟩
 ·rintro a w ⟨xs59, A60, n61, c62, hr_, hn63, hf, hs⟩
  subst hr_
  try dsimp only at hm
  refine wpL_seq <| wpL_region ?_
  refine sY hf hs rfl rfl rfl (Y_move rfl rfl) ?_; clear hf; intro a hf
  refine sY hf hs rfl rfl rfl (Y_assign rfl rfl) ?_; clear hf; intro a hf
  refine wpO_nil ?_
  obtain rfl := Option.some.inj hm
  refine wpL_ret (ret_tmp rfl hf rfl ?_)
  exact ⟨_, rfl, A60, n61, c62, rfl, hn63, hs⟩

set_option maxRecDepth 100000 in
theorem spec_l20Kept_ok (F : Nat) (ah : GEventGraph) (ag : Option Addr) (ax ai : Nat) (aB : ax = ah.Places.length) (ap : GTimetable) (ao : Option Addr) (aJ aq : Nat) (aQ : aJ = ap.Starts.length) (r : Bool) (W : World) (hm : spec_l20Kept F ah ap = some r) (ay : Rd W ag ((recs GPlace.cells) ah.Places)) (aM : Rd W ao (ints ap.Starts)) :
  Calls Try.prog 198 [.agg #[.int .i64 ah.Events, .slice ag ax ai], .agg #[.int .i64 ap.Period, .slice ao aJ aq]].toArray W fun e w' => ∃ v, e = .returned v ∧ v = .bool r ∧ St [] W w' [] := by
 subst aB
 subst aQ
 unfold spec_l20Kept at hm
 refine Calls.enter (N := 21) Try.func198 rfl rfl rfl (fun a hf => ?_)
 have hs := St.start W
 obtain ⟨w, hw_⟩ : ∃ w, w = W := ⟨W, rfl⟩
 clear hw_ w
 refine wpL_seq <| wpL_region ?_
 refine sBox hf hs rfl rfl rfl rfl rfl (cs := [.int .i64 ah.Events, .slice ag ah.Places.length ai]) rfl ?_; clear hf hs; intro a w b1 hs hf
 have hs : St _ W w [_] := hs
 refine sBox hf hs rfl rfl rfl rfl rfl (cs := [.int .i64 ap.Period, .slice ao ap.Starts.length aq]) rfl ?_; clear hf hs; intro a w b2 hs hf
 have hs : St _ W w [_, _] := hs
 refine sY hf hs rfl rfl rfl (Y_assign rfl rfl) ?_; clear hf; intro a hf
 refine wpO_nil <| wpL_seq <| wpL_region ?_
 refine sY hf hs rfl rfl rfl (Y_load_blkS rfl rfl (i := 0) rfl ag55 ti55 rfl) ?_; clear hf; intro a hf
 refine sY hf hs rfl rfl rfl (Y_load_blkS rfl rfl (i := 1) rfl ag66 ti66 rfl) ?_; clear hf; intro a hf
 obtain ⟨r3, hc4, hm⟩ := bind_some hm
 refine sCall hf rfl rfl rfl rfl (cap := []) rfl rfl en220 (spec_l20Slacks_ok F ah ag ah.Places.length ai rfl ap ao ap.Starts.length aq rfl _ _ hc4 (ay.at hs) (aM.at hs)) ?_; clear hf
 rintro _ w ⟨A5, n6, c7, rfl, hn8, hs1⟩ a hf
 have hs : St _ W w [_, _, .row A5 n6 c7 2 1 (ints r3)] := hs.join hs1
 clear hs1
 refine sY hf hs rfl rfl rfl (Y_assign rfl rfl) ?_; clear hf; intro a hf
 refine wpO_nil <| wpL_seq <| wpL_seq <| wpL_region ?_
 refine sY hf hs rfl rfl rfl (Y_assign rfl rfl) ?_; clear hf; intro a hf
 refine wpO_nil ?_
 obtain ⟨r23, hl24, hm⟩ := bind_some hm
 refine wpL_block (fun a w => Sum.inr () = r23 ∧ Fr a 21 [] ∧ St [] W w []) ?_ ?_
 ·refine wpL_loop (fun n a w => ∃ x18 : Int, spec_l20Kept_L1 F r3 n x18 = some r23 ∧ Fr a 21 [(5, .slice A5 n6 c7), (6, .int .i64 x18)] ∧ St [] W w [.row A5 n6 c7 2 1 (ints r3)]) F ?_ ?_ ?_
  ·exact ⟨0, hl24, (FrD.pick (FrD.pick hf.none hf rfl) hf rfl), hs.sel [2] (by decide)⟩
  ·rintro a w ⟨x18, h0_, -, -⟩; simp [spec_l20Kept_L1] at h0_
  ·rintro n26 a w ⟨x18, hm25, hf, hs⟩
   rw [spec_l20Kept_L1] at hm25
   refine wpL_seq <| wpL_seq <| wpL_region ?_
   refine sY hf hs rfl rfl rfl (Y_move rfl rfl) ?_; clear hf; intro a hf
   refine sY hf hs rfl rfl rfl (Y_move rfl rfl) ?_; clear hf; intro a hf
   refine sY hf hs rfl rfl rfl (Y_lenH rfl rfl el28 hn8) ?_; clear hf; intro a hf
   refine sY hf hs rfl rfl rfl (Y_lss rfl rfl rfl) ?_; clear hf; intro a hf
   refine wpO_nil ?_
   refine wpL_cond hf rfl (fun hb27 => ?_) (fun hb27 => ?_)
   ·have hm25 := bif_t hm25 hb27
    refine wpL_skip <| wpL_seq <| wpL_block0 <| wpL_seq <| wpL_region ?_
    refine sY hf hs rfl rfl rfl (Y_move rfl rfl) ?_; clear hf; intro a hf
    refine sY hf hs rfl rfl rfl (Y_move rfl rfl) ?_; clear hf; intro a hf
    obtain ⟨q28, hi29, hm25⟩ := bind_some hm25
    obtain ⟨hi29a, hi29b, hi29q⟩ := idx_some hi29
    refine sY hf hs rfl rfl rfl (Y_index rfl rfl rfl el28 ti2 (Rd.isAt (hs.rd (i := 0) rfl) (at1 (ints_at hi29q))) hi29a (ltn hn8 hi29b)) ?_; clear hf; intro a hf
    refine sY hf hs rfl rfl rfl (Y_load_rd rfl rfl (fun w hs => hs.rd (i := 0) rfl) (at1 (ints_at hi29q)) ag2) ?_; clear hf; intro a hf
    refine sY hf hs rfl rfl rfl (Y_lss rfl rfl rfl) ?_; clear hf; intro a hf
    refine wpO_nil ?_
    refine wpL_cond hf rfl (fun hb30 => ?_) (fun hb30 => ?_)
    ·have hm25 := bif_t hm25 hb30
     refine wpL_seq <| wpL_region ?_
     refine sY hf hs rfl rfl rfl (Y_assign rfl rfl) ?_; clear hf; intro a hf
     refine wpO_nil ?_
     obtain rfl := Option.some.inj hm25
     try dsimp only at hm
     obtain rfl := Option.some.inj hm
     refine wpL_ret (Qb_ret (Ql_ret (Qb_ret (ret_tmp rfl hf rfl ?_))))
     exact ⟨_, rfl, rfl, hs.sel [] (by decide)⟩
    ·have hm25 := bif_f hm25 hb30
     refine wpL_skip ?_
     refine wpL_nil (Qb_normal ?_)
     refine wpL_region ?_
     refine sY hf hs rfl rfl rfl (Y_move rfl rfl) ?_; clear hf; intro a hf
     refine sY hf hs rfl rfl rfl (Y_add rfl rfl rfl) ?_; clear hf; intro a hf
     refine sY hf hs rfl rfl rfl (Y_assign rfl rfl) ?_; clear hf; intro a hf
     refine wpO_nil ?_
     refine wpL_nil (Ql_normal ?_)
     exact ⟨(IntKind.i64.wrap (x18 + 1)), hm25, (FrD.pick (FrD.pick hf.none hf rfl) hf rfl), hs⟩
   ·have hm25 := bif_f hm25 hb27
    refine wpL_exit (Ql_exit (Qb_exit ?_))
    exact ⟨Option.some.inj hm25, hf.none, hs.sel [] (by decide)⟩
 ·rintro a w ⟨hr_, hf, hs⟩
  subst hr_
  try dsimp only at hm
  refine wpL_seq <| wpL_region ?_
  refine sY hf hs rfl rfl rfl (Y_assign rfl rfl) ?_; clear hf; intro a hf
  refine wpO_nil ?_
  obtain rfl := Option.some.inj hm
  refine wpL_ret (ret_tmp rfl hf rfl ?_)
  exact ⟨_, rfl, rfl, hs⟩

set_option maxRecDepth 100000 in
theorem spec_l21Code_ok (F : Nat) (ah : GEventGraph) (ag : Option Addr) (ax ai : Nat) (aB : ax = ah.Places.length) (ap : GTimetable) (ao : Option Addr) (aJ aq : Nat) (aQ : aJ = ap.Starts.length) (aD : List Int) (aE : Option Addr) (aN aI : Nat) (aU : aN = aD.length) (cX : Bool) (r : Int) (W : World) (hm : spec_l21Code F ah ap aD cX = some r) (ay : Rd W ag ((recs GPlace.cells) ah.Places)) (aM : Rd W ao (ints ap.Starts)) (aR : Rd W aE (ints aD)) :
  Calls Try.prog 131 [.agg #[.int .i64 ah.Events, .slice ag ax ai], .agg #[.int .i64 ap.Period, .slice ao aJ aq], .slice aE aN aI, .bool cX].toArray W fun e w' => ∃ v, e = .returned v ∧ v = .int .i64 r ∧ St [] W w' [] := by
 subst aB
 subst aQ
 subst aU
 unfold spec_l21Code at hm
 refine Calls.enter (N := 43) Try.func131 rfl rfl rfl (fun a hf => ?_)
 have hs := St.start W
 obtain ⟨w, hw_⟩ : ∃ w, w = W := ⟨W, rfl⟩
 clear hw_ w
 refine wpL_seq <| wpL_region ?_
 refine sBox hf hs rfl rfl rfl rfl rfl (cs := [.int .i64 ah.Events, .slice ag ah.Places.length ai]) rfl ?_; clear hf hs; intro a w b1 hs hf
 have hs : St _ W w [_] := hs
 refine sBox hf hs rfl rfl rfl rfl rfl (cs := [.int .i64 ap.Period, .slice ao ap.Starts.length aq]) rfl ?_; clear hf hs; intro a w b2 hs hf
 have hs : St _ W w [_, _] := hs
 refine sY hf hs rfl rfl rfl (Y_assign rfl rfl) ?_; clear hf; intro a hf
 refine wpO_nil <| wpL_seq <| wpL_region ?_
 refine sY hf hs rfl rfl rfl (Y_load_blkS rfl rfl (i := 0) rfl ag55 ti55 rfl) ?_; clear hf; intro a hf
 refine sY hf hs rfl rfl rfl (Y_load_blkS rfl rfl (i := 1) rfl ag66 ti66 rfl) ?_; clear hf; intro a hf
 obtain ⟨r3, hc4, hm⟩ := bind_some hm
 refine sCall hf rfl rfl rfl rfl (cap := []) rfl rfl en196 (spec_l20Code_ok F ah ag ah.Places.length ai rfl ap ao ap.Starts.length aq rfl _ _ hc4 (ay.at hs) (aM.at hs)) ?_; clear hf
 rintro _ w ⟨rfl, hs1⟩ a hf
 have hs : St _ W w [_, _] := hs.ext hs1.below
 clear hs1
 refine sY hf hs rfl rfl rfl (Y_assign rfl rfl) ?_; clear hf; intro a hf
 refine wpO_nil <| wpL_seq <| wpL_block0 <| wpL_seq <| wpL_region ?_
 refine sY hf hs rfl rfl rfl (Y_move rfl rfl) ?_; clear hf; intro a hf
 refine sY hf hs rfl rfl rfl (Y_neq rfl rfl rfl) ?_; clear hf; intro a hf
 refine sY hf hs rfl rfl rfl (Y_assign rfl rfl) ?_; clear hf; intro a hf
 refine wpO_nil ?_
 refine wpL_cond hf rfl (fun hb5 => ?_) (fun hb5 => ?_)
 ·have hm := bif_t hm hb5
  refine wpL_seq <| wpL_region ?_
  refine sY hf hs rfl rfl rfl (Y_move rfl rfl) ?_; clear hf; intro a hf
  refine sY hf hs rfl rfl rfl (Y_assign rfl rfl) ?_; clear hf; intro a hf
  refine wpO_nil ?_
  obtain rfl := Option.some.inj hm
  refine wpL_ret (Qb_ret (ret_tmp rfl hf rfl ?_))
  exact ⟨_, rfl, rfl, hs.sel [] (by decide)⟩
 ·have hm := bif_f hm hb5
  refine wpL_seq ?_
  obtain ⟨r11, hj12, hm⟩ := bind_some hm
  refine wpL_cut (fun a w => ∃ b10 : Bool, b10 = r11 ∧ Fr a 43 [(4, .pointer (some ⟨b1, 0, none⟩)), (5, .pointer (some ⟨b2, 0, none⟩)), (17, .bool b10)] ∧ St [] W w [.blk b1 55 [.int .i64 ah.Events, .slice ag ah.Places.length ai], .blk b2 66 [.int .i64 ap.Period, .slice ao ap.Starts.length aq]]) ?_ ?_
  ·refine wpL_region ?_
   refine sY hf hs rfl rfl rfl (Y_move rfl rfl) ?_; clear hf; intro a hf
   refine sY hf hs rfl rfl rfl (Y_not rfl rfl) ?_; clear hf; intro a hf
   refine sY hf hs rfl rfl rfl (Y_move rfl rfl) ?_; clear hf; intro a hf
   refine bsplit (!cX) (fun hb13 => ?_) (fun hb13 => ?_)
   ·have hj12 := bif_t hj12 hb13
    refine sNo hf rfl rfl rfl (congrArg (fun b => some (Value.bool b)) hb13) rfl rfl rfl ?_; clear hf; intro a hf
    refine sNo hf rfl rfl rfl (congrArg (fun b => some (Value.bool b)) hb13) rfl rfl rfl ?_; clear hf; intro a hf
    refine sNo hf rfl rfl rfl (congrArg (fun b => some (Value.bool b)) hb13) rfl rfl rfl ?_; clear hf; intro a hf
    refine sNo hf rfl rfl rfl (congrArg (fun b => some (Value.bool b)) hb13) rfl rfl rfl ?_; clear hf; intro a hf
    refine sNo hf rfl rfl rfl (congrArg (fun b => some (Value.bool b)) hb13) rfl rfl rfl ?_; clear hf; intro a hf
    refine sY hf hs rfl rfl rfl (Y_pickT rfl (congrArg (fun b => some (Value.bool b)) hb13) rfl) ?_; clear hf; intro a hf
    refine sY hf hs rfl rfl rfl (Y_move rfl rfl) ?_; clear hf; intro a hf
    refine sNo hf rfl rfl rfl rfl rfl rfl rfl ?_; clear hf; intro a hf
    refine sNo hf rfl rfl rfl rfl rfl rfl rfl ?_; clear hf; intro a hf
    refine sNo hf rfl rfl rfl rfl rfl rfl rfl ?_; clear hf; intro a hf
    refine sY hf hs rfl rfl rfl (Y_pickT rfl rfl rfl) ?_; clear hf; intro a hf
    refine sY hf hs rfl rfl rfl (Y_assign rfl rfl) ?_; clear hf; intro a hf
    refine wpO_nil ?_
    refine wpL_nil (then_normal ?_)
    exact ⟨true, Option.some.inj hj12, (FrD.pick (FrD.pick (FrD.pick hf.none hf rfl) hf rfl) hf rfl), hs⟩
   ·have hj12 := bif_f hj12 hb13
    refine sYg hf hs rfl rfl rfl (congrArg (fun b => some (Value.bool b)) hb13) rfl rfl rfl (Y_move rfl rfl) ?_; clear hf; intro a hf
    refine sYg hf hs rfl rfl rfl (congrArg (fun b => some (Value.bool b)) hb13) rfl rfl rfl (Y_lenH rfl rfl el28 rfl) ?_; clear hf; intro a hf
    refine sYg hf hs rfl rfl rfl (congrArg (fun b => some (Value.bool b)) hb13) rfl rfl rfl (Y_fieldAddr rfl rfl fo55_0) ?_; clear hf; intro a hf
    refine sYg hf hs rfl rfl rfl (congrArg (fun b => some (Value.bool b)) hb13) rfl rfl rfl (Y_load_blk rfl rfl (i := 0) rfl rfl ag2) ?_; clear hf; intro a hf
    refine sYg hf hs rfl rfl rfl (congrArg (fun b => some (Value.bool b)) hb13) rfl rfl rfl (Y_neq rfl rfl rfl) ?_; clear hf; intro a hf
    refine sY hf hs rfl rfl rfl (Y_pickF rfl (congrArg (fun b => some (Value.bool b)) hb13) rfl) ?_; clear hf; intro a hf
    refine sY hf hs rfl rfl rfl (Y_move rfl rfl) ?_; clear hf; intro a hf
    refine bsplit ((aD.length : Int) != ah.Events) (fun hb14 => ?_) (fun hb14 => ?_)
    ·have hj12 := bif_t hj12 hb14
     refine sNo hf rfl rfl rfl (congrArg (fun b => some (Value.bool b)) hb14) rfl rfl rfl ?_; clear hf; intro a hf
     refine sNo hf rfl rfl rfl (congrArg (fun b => some (Value.bool b)) hb14) rfl rfl rfl ?_; clear hf; intro a hf
     refine sNo hf rfl rfl rfl (congrArg (fun b => some (Value.bool b)) hb14) rfl rfl rfl ?_; clear hf; intro a hf
     refine sY hf hs rfl rfl rfl (Y_pickT rfl (congrArg (fun b => some (Value.bool b)) hb14) rfl) ?_; clear hf; intro a hf
     refine sY hf hs rfl rfl rfl (Y_assign rfl rfl) ?_; clear hf; intro a hf
     refine wpO_nil ?_
     refine wpL_nil (then_normal ?_)
     exact ⟨true, Option.some.inj hj12, (FrD.pick (FrD.pick (FrD.pick hf.none hf rfl) hf rfl) hf rfl), hs⟩
    ·have hj12 := bif_f hj12 hb14
     refine sYg hf hs rfl rfl rfl (congrArg (fun b => some (Value.bool b)) hb14) rfl rfl rfl (Y_move rfl rfl) ?_; clear hf; intro a hf
     obtain ⟨r15, hc16, hj12⟩ := bind_some hj12
     refine sCallg hf rfl rfl rfl (congrArg (fun b => some (Value.bool b)) hb14) rfl rfl rfl rfl (cap := []) rfl rfl en76 (spec_l01Within_ok F aD aE aD.length aI rfl 10 0 1000000 _ _ hc16 (aR.at hs)) ?_; clear hf
     rintro _ w ⟨rfl, hs1⟩ a hf
     have hs : St _ W w [_, _] := hs.ext hs1.below
     clear hs1
     refine sYg hf hs rfl rfl rfl (congrArg (fun b => some (Value.bool b)) hb14) rfl rfl rfl (Y_not rfl rfl) ?_; clear hf; intro a hf
     refine sY hf hs rfl rfl rfl (Y_pickF rfl (congrArg (fun b => some (Value.bool b)) hb14) rfl) ?_; clear hf; intro a hf
     refine sY hf hs rfl rfl rfl (Y_assign rfl rfl) ?_; clear hf; intro a hf
     refine wpO_nil ?_
     refine wpL_nil (then_normal ?_)
     exact ⟨(!r15), Option.some.inj hj12, (FrD.pick (FrD.pick (FrD.pick hf.none hf rfl) hf rfl) hf rfl), hs⟩
  ·rintro a w ⟨b10, hr_, hf, hs⟩
   subst hr_
   try dsimp only at hm
   refine wpL_cond hf rfl (fun hb17 => ?_) (fun hb17 => ?_)
   ·have hm := bif_t hm hb17
    refine wpL_seq <| wpL_region ?_
    refine sY hf hs rfl rfl rfl (Y_assign rfl rfl) ?_; clear hf; intro a hf
    refine wpO_nil ?_
    obtain rfl := Option.some.inj hm
    refine wpL_ret (Qb_ret (ret_tmp rfl hf rfl ?_))
    exact ⟨_, rfl, rfl, hs.sel [] (by decide)⟩
   ·have hm := bif_f hm hb17
    refine wpL_seq ?_
    obtain ⟨r28, hj29, hm⟩ := bind_some hm
    refine wpL_cut (fun a w => ∃ b27 : Bool, b27 = r28 ∧ Fr a 43 [(32, .bool b27)] ∧ St [] W w []) ?_ ?_
    ·refine wpL_region ?_
     refine sY hf hs rfl rfl rfl (Y_load_blkS rfl rfl (i := 0) rfl ag55 ti55 rfl) ?_; clear hf; intro a hf
     obtain ⟨r30, hc31, hj29⟩ := bind_some hj29
     refine sCall hf rfl rfl rfl rfl (cap := []) rfl rfl en197 (spec_l12Dead_ok F ah ag ah.Places.length ai rfl _ _ hc31 (ay.at hs)) ?_; clear hf
     rintro _ w ⟨A32, n33, c34, rfl, hn35, hs1⟩ a hf
     have hs : St _ W w [_, _, .row A32 n33 c34 2 1 (ints r30)] := hs.join hs1
     clear hs1
     refine sY hf hs rfl rfl rfl (Y_lenH rfl rfl el28 hn35) ?_; clear hf; intro a hf
     refine sY hf hs rfl rfl rfl (Y_gtr rfl rfl rfl) ?_; clear hf; intro a hf
     refine sY hf hs rfl rfl rfl (Y_move rfl rfl) ?_; clear hf; intro a hf
     refine bsplit (decide (0 < (r30.length : Int))) (fun hb36 => ?_) (fun hb36 => ?_)
     ·have hj29 := bif_t hj29 hb36
      refine sNo hf rfl rfl rfl (congrArg (fun b => some (Value.bool b)) hb36) rfl rfl rfl ?_; clear hf; intro a hf
      refine sNo hf rfl rfl rfl (congrArg (fun b => some (Value.bool b)) hb36) rfl rfl rfl ?_; clear hf; intro a hf
      refine sNo hf rfl rfl rfl (congrArg (fun b => some (Value.bool b)) hb36) rfl rfl rfl ?_; clear hf; intro a hf
      refine sNo hf rfl rfl rfl (congrArg (fun b => some (Value.bool b)) hb36) rfl rfl rfl ?_; clear hf; intro a hf
      refine sY hf hs rfl rfl rfl (Y_pickT rfl (congrArg (fun b => some (Value.bool b)) hb36) rfl) ?_; clear hf; intro a hf
      refine sY hf hs rfl rfl rfl (Y_assign rfl rfl) ?_; clear hf; intro a hf
      refine wpO_nil ?_
      refine wpL_nil (then_normal ?_)
      exact ⟨true, Option.some.inj hj29, (FrD.pick hf.none hf rfl), hs.sel [] (by decide)⟩
     ·have hj29 := bif_f hj29 hb36
      refine sYg hf hs rfl rfl rfl (congrArg (fun b => some (Value.bool b)) hb36) rfl rfl rfl (Y_load_blkS rfl rfl (i := 0) rfl ag55 ti55 rfl) ?_; clear hf; intro a hf
      refine sYg hf hs rfl rfl rfl (congrArg (fun b => some (Value.bool b)) hb36) rfl rfl rfl (Y_load_blkS rfl rfl (i := 1) rfl ag66 ti66 rfl) ?_; clear hf; intro a hf
      obtain ⟨r37, hc38, hj29⟩ := bind_some hj29
      refine sCallg hf rfl rfl rfl (congrArg (fun b => some (Value.bool b)) hb36) rfl rfl rfl rfl (cap := []) rfl rfl en198 (spec_l20Kept_ok F ah ag ah.Places.length ai rfl ap ao ap.Starts.length aq rfl _ _ hc38 (ay.at hs) (aM.at hs)) ?_; clear hf
      rintro _ w ⟨rfl, hs1⟩ a hf
      have hs : St _ W w [_, _, _] := hs.ext hs1.below
      clear hs1
      refine sYg hf hs rfl rfl rfl (congrArg (fun b => some (Value.bool b)) hb36) rfl rfl rfl (Y_not rfl rfl) ?_; clear hf; intro a hf
      refine sY hf hs rfl rfl rfl (Y_pickF rfl (congrArg (fun b => some (Value.bool b)) hb36) rfl) ?_; clear hf; intro a hf
      refine sY hf hs rfl rfl rfl (Y_assign rfl rfl) ?_; clear hf; intro a hf
      refine wpO_nil ?_
      refine wpL_nil (then_normal ?_)
      exact ⟨(!r37), Option.some.inj hj29, (FrD.pick hf.none hf rfl), hs.sel [] (by decide)⟩
    ·rintro a w ⟨b27, hr_, hf, hs⟩
     subst hr_
     try dsimp only at hm
     refine wpL_cond hf rfl (fun hb39 => ?_) (fun hb39 => ?_)
     ·have hm := bif_t hm hb39
      refine wpL_seq <| wpL_region ?_
      refine sY hf hs rfl rfl rfl (Y_assign rfl rfl) ?_; clear hf; intro a hf
      refine wpO_nil ?_
      obtain rfl := Option.some.inj hm
      refine wpL_ret (Qb_ret (ret_tmp rfl hf rfl ?_))
      exact ⟨_, rfl, rfl, hs⟩
     ·have hm := bif_f hm hb39
      refine wpL_skip ?_
      refine wpL_nil (Qb_normal ?_)
      refine wpL_seq <| wpL_region ?_
      refine sY hf hs rfl rfl rfl (Y_assign rfl rfl) ?_; clear hf; intro a hf
      refine wpO_nil ?_
      obtain rfl := Option.some.inj hm
      refine wpL_ret (ret_tmp rfl hf rfl ?_)
      exact ⟨_, rfl, rfl, hs⟩

set_option maxRecDepth 100000 in
theorem spec_l12Order_ok (F : Nat) (ah : GEventGraph) (ag : Option Addr) (ax ai : Nat) (aB : ax = ah.Places.length) (r : List Int) (W : World) (hm : spec_l12Order F ah = some r) (ay : Rd W ag ((recs GPlace.cells) ah.Places)) :
  Calls Try.prog 179 [.agg #[.int .i64 ah.Events, .slice ag ax ai]].toArray W fun e w' => ∃ v, e = .returned v ∧ ∃ A2046, ∃ n2047, ∃ c2048, v = .slice A2046 n2047 c2048 ∧ n2047 = r.length ∧ St [] W w' [.row A2046 n2047 c2048 2 1 (ints r)] := by
 subst aB
 unfold spec_l12Order at hm
 refine Calls.enter (N := 54) Try.func179 rfl rfl rfl (fun a hf => ?_)
 have hs := St.start W
 obtain ⟨w, hw_⟩ : ∃ w, w = W := ⟨W, rfl⟩
 clear hw_ w
 refine wpL_seq <| wpL_region ?_
 refine sBox hf hs rfl rfl rfl rfl rfl (cs := [.int .i64 ah.Events, .slice ag ah.Places.length ai]) rfl ?_; clear hf hs; intro a w b1 hs hf
 have hs : St _ W w [_] := hs
 refine sY hf hs rfl rfl rfl (Y_assign rfl rfl) ?_; clear hf; intro a hf
 refine wpO_nil <| wpL_seq <| wpL_region ?_
 refine sY hf hs rfl rfl rfl (Y_load_blkS rfl rfl (i := 0) rfl ag55 ti55 rfl) ?_; clear hf; intro a hf
 obtain ⟨r2, hc3, hm⟩ := bind_some hm
 refine sCall hf rfl rfl rfl rfl (cap := []) rfl rfl en211 (spec_l12Free_ok F ah ag ah.Places.length ai rfl _ _ hc3 (ay.at hs)) ?_; clear hf
 rintro _ w ⟨A4, n5, c6, vs8, rfl, hn7, hs1⟩ a hf
 have hs : St _ W w [_, .mat A4 n5 c6 28 2 vs8 r2] := hs.join hs1
 clear hs1
 refine sY hf hs rfl rfl rfl (Y_assign rfl rfl) ?_; clear hf; intro a hf
 refine wpO_nil <| wpL_seq <| wpL_region ?_
 refine sEmpty hf hs rfl rfl rfl rfl el28 ti2 ?_; clear hf hs; intro a w A9 hs hf
 have hs : St _ W w [_, _, .row A9 0 0 2 1 (ints ([] : List Int))] := hs
 refine sY hf hs rfl rfl rfl (Y_assign rfl rfl) ?_; clear hf; intro a hf
 refine wpO_nil <| wpL_seq ?_
 obtain ⟨r1538, hl1539, hm⟩ := bind_some hm
 refine wpL_block (fun a w => ∃ xs1533 : List Int, ∃ A1534, ∃ n1535, ∃ c1536, xs1533 = r1538 ∧ n1535 = xs1533.length ∧ Fr a 54 [(4, .slice A1534 n1535 c1536)] ∧ St [] W w [.row A1534 n1535 c1536 2 1 (ints xs1533)]) ?_ ?_
 ·refine wpL_loop (fun n a w => ∃ xs1024 : List Int, ∃ A1025, ∃ n1026, ∃ c1027, spec_l12Order_L16 F ah r2 n xs1024 = some r1538 ∧ n1026 = xs1024.length ∧ Fr a 54 [(1, .pointer (some ⟨b1, 0, none⟩)), (3, .slice A4 n5 c6), (4, .slice A1025 n1026 c1027)] ∧ St [] W w [.blk b1 55 [.int .i64 ah.Events, .slice ag ah.Places.length ai], .mat A4 n5 c6 28 2 vs8 r2, .row A1025 n1026 c1027 2 1 (ints xs1024)]) F ?_ ?_ ?_
  ·exact ⟨([] : List Int), A9, 0, 0, hl1539, rfl, (FrD.pick (FrD.pick (FrD.pick hf.none hf rfl) hf rfl) hf rfl), hs⟩
  ·rintro a w ⟨xs1024, A1025, n1026, c1027, h0_, -, -, -⟩; simp [spec_l12Order_L16] at h0_
  ·rintro n1541 a w ⟨xs1024, A1025, n1026, c1027, hm1540, hn1028, hf, hs⟩
   rw [spec_l12Order_L16] at hm1540
   refine wpL_seq <| wpL_seq <| wpL_region ?_
   refine sY hf hs rfl rfl rfl (Y_move rfl rfl) ?_; clear hf; intro a hf
   refine sY hf hs rfl rfl rfl (Y_lenH rfl rfl el28 hn1028) ?_; clear hf; intro a hf
   refine sY hf hs rfl rfl rfl (Y_fieldAddr rfl rfl fo55_0) ?_; clear hf; intro a hf
   refine sY hf hs rfl rfl rfl (Y_load_blk rfl rfl (i := 0) rfl rfl ag2) ?_; clear hf; intro a hf
   refine sY hf hs rfl rfl rfl (Y_lss rfl rfl rfl) ?_; clear hf; intro a hf
   refine wpO_nil ?_
   refine wpL_cond hf rfl (fun hb1542 => ?_) (fun hb1542 => ?_)
   ·have hm1540 := bif_t hm1540 hb1542
    refine wpL_skip <| wpL_block0 <| wpL_seq <| wpL_region ?_
    refine sY hf hs rfl rfl rfl (Y_assign rfl rfl) ?_; clear hf; intro a hf
    refine wpO_nil ?_
    obtain ⟨r1919, hl1920, hm1540⟩ := bind_some hm1540
    refine wpL_block (fun a w => ∃ xs1914 : List Int, ∃ A1915, ∃ n1916, ∃ c1917, xs1914 = r1919 ∧ n1916 = xs1914.length ∧ Fr a 54 [(1, .pointer (some ⟨b1, 0, none⟩)), (3, .slice A4 n5 c6), (4, .slice A1915 n1916 c1917)] ∧ St [] W w [.blk b1 55 [.int .i64 ah.Events, .slice ag ah.Places.length ai], .mat A4 n5 c6 28 2 vs8 r2, .row A1915 n1916 c1917 2 1 (ints xs1914)]) ?_ ?_
    ·refine wpL_loop (fun n a w => ∃ x1790 : Int, spec_l12Order_L20 F ah r2 xs1024 n x1790 = some r1919 ∧ Fr a 54 [(1, .pointer (some ⟨b1, 0, none⟩)), (3, .slice A4 n5 c6), (4, .slice A1025 n1026 c1027), (5, .int .i64 x1790)] ∧ St [] W w [.blk b1 55 [.int .i64 ah.Events, .slice ag ah.Places.length ai], .mat A4 n5 c6 28 2 vs8 r2, .row A1025 n1026 c1027 2 1 (ints xs1024)]) F ?_ ?_ ?_
     ·exact ⟨0, hl1920, (FrD.pick (FrD.pick (FrD.pick (FrD.pick hf.none hf rfl) hf rfl) hf rfl) hf rfl), hs⟩
     ·rintro a w ⟨x1790, h0_, -, -⟩; simp [spec_l12Order_L20] at h0_
     ·rintro n1922 a w ⟨x1790, hm1921, hf, hs⟩
      rw [spec_l12Order_L20] at hm1921
      refine wpL_seq <| wpL_seq <| wpL_region ?_
      refine sY hf hs rfl rfl rfl (Y_move rfl rfl) ?_; clear hf; intro a hf
      refine sY hf hs rfl rfl rfl (Y_fieldAddr rfl rfl fo55_0) ?_; clear hf; intro a hf
      refine sY hf hs rfl rfl rfl (Y_load_blk rfl rfl (i := 0) rfl rfl ag2) ?_; clear hf; intro a hf
      refine sY hf hs rfl rfl rfl (Y_lss rfl rfl rfl) ?_; clear hf; intro a hf
      refine wpO_nil ?_
      refine wpL_cond hf rfl (fun hb1923 => ?_) (fun hb1923 => ?_)
      ·have hm1921 := bif_t hm1921 hb1923
       refine wpL_skip <| wpL_seq <| wpL_block0 <| wpL_seq <| wpL_region ?_
       refine sY hf hs rfl rfl rfl (Y_move rfl rfl) ?_; clear hf; intro a hf
       refine sY hf hs rfl rfl rfl (Y_move rfl rfl) ?_; clear hf; intro a hf
       obtain ⟨r1924, hc1925, hm1921⟩ := bind_some hm1921
       refine sCall hf rfl rfl rfl rfl (cap := []) rfl rfl en166 (spec_l01Has_ok F xs1024 A1025 n1026 c1027 hn1028 x1790 _ _ hc1925 (hs.rd (i := 2) rfl)) ?_; clear hf
       rintro _ w ⟨rfl, hs1⟩ a hf
       have hs : St _ W w [_, _, _] := hs.ext hs1.below
       clear hs1
       refine sY hf hs rfl rfl rfl (Y_not rfl rfl) ?_; clear hf; intro a hf
       refine sY hf hs rfl rfl rfl (Y_assign rfl rfl) ?_; clear hf; intro a hf
       refine wpO_nil <| wpL_seq <| wpL_seq <| wpL_region ?_
       refine sY hf hs rfl rfl rfl (Y_assign rfl rfl) ?_; clear hf; intro a hf
       refine wpO_nil ?_
       obtain ⟨r2009, hl2010, hm1921⟩ := bind_some hm1921
       refine wpL_block (fun a w => ∃ b2008 : Bool, b2008 = r2009 ∧ Fr a 54 [(1, .pointer (some ⟨b1, 0, none⟩)), (3, .slice A4 n5 c6), (4, .slice A1025 n1026 c1027), (5, .int .i64 x1790), (6, .bool b2008)] ∧ St [] W w [.blk b1 55 [.int .i64 ah.Events, .slice ag ah.Places.length ai], .mat A4 n5 c6 28 2 vs8 r2, .row A1025 n1026 c1027 2 1 (ints xs1024)]) ?_ ?_
       ·refine wpL_loop (fun n a w => ∃ b1980 : Bool, ∃ x1981 : Int, spec_l12Order_L21 F ah r2 xs1024 x1790 n b1980 x1981 = some r2009 ∧ Fr a 54 [(1, .pointer (some ⟨b1, 0, none⟩)), (3, .slice A4 n5 c6), (4, .slice A1025 n1026 c1027), (5, .int .i64 x1790), (6, .bool b1980), (7, .int .i64 x1981)] ∧ St [] W w [.blk b1 55 [.int .i64 ah.Events, .slice ag ah.Places.length ai], .mat A4 n5 c6 28 2 vs8 r2, .row A1025 n1026 c1027 2 1 (ints xs1024)]) F ?_ ?_ ?_
        ·exact ⟨(!r1924), 0, hl2010, (FrD.pick (FrD.pick (FrD.pick (FrD.pick (FrD.pick (FrD.pick hf.none hf rfl) hf rfl) hf rfl) hf rfl) hf rfl) hf rfl), hs⟩
        ·rintro a w ⟨b1980, x1981, h0_, -, -⟩; simp [spec_l12Order_L21] at h0_
        ·rintro n2012 a w ⟨b1980, x1981, hm2011, hf, hs⟩
         rw [spec_l12Order_L21] at hm2011
         refine wpL_seq <| wpL_seq <| wpL_region ?_
         refine sY hf hs rfl rfl rfl (Y_move rfl rfl) ?_; clear hf; intro a hf
         refine sY hf hs rfl rfl rfl (Y_fieldAddr rfl rfl fo55_0) ?_; clear hf; intro a hf
         refine sY hf hs rfl rfl rfl (Y_load_blk rfl rfl (i := 0) rfl rfl ag2) ?_; clear hf; intro a hf
         refine sY hf hs rfl rfl rfl (Y_lss rfl rfl rfl) ?_; clear hf; intro a hf
         refine wpO_nil ?_
         refine wpL_cond hf rfl (fun hb2013 => ?_) (fun hb2013 => ?_)
         ·have hm2011 := bif_t hm2011 hb2013
          refine wpL_skip <| wpL_seq <| wpL_block0 ?_
          obtain ⟨r2026, hj2027, hm2011⟩ := bind_some hm2011
          refine wpL_cut (fun a w => ∃ b2025 : Bool, b2025 = r2026 ∧ Fr a 54 [(1, .pointer (some ⟨b1, 0, none⟩)), (3, .slice A4 n5 c6), (4, .slice A1025 n1026 c1027), (5, .int .i64 x1790), (6, .bool b2025), (7, .int .i64 x1981)] ∧ St [] W w [.blk b1 55 [.int .i64 ah.Events, .slice ag ah.Places.length ai], .mat A4 n5 c6 28 2 vs8 r2, .row A1025 n1026 c1027 2 1 (ints xs1024)]) ?_ ?_
          ·refine wpL_region ?_
           refine sY hf hs rfl rfl rfl (Y_move rfl rfl) ?_; clear hf; intro a hf
           refine sY hf hs rfl rfl rfl (Y_move rfl rfl) ?_; clear hf; intro a hf
           refine bsplit b1980 (fun hb2028 => ?_) (fun hb2028 => ?_)
           ·have hj2027 := bif_t hj2027 hb2028
            refine sYg hf hs rfl rfl rfl (congrArg (fun b => some (Value.bool b)) hb2028) rfl rfl rfl (Y_move rfl rfl) ?_; clear hf; intro a hf
            refine sYg hf hs rfl rfl rfl (congrArg (fun b => some (Value.bool b)) hb2028) rfl rfl rfl (Y_move rfl rfl) ?_; clear hf; intro a hf
            obtain ⟨q2029, hi2030, hj2027⟩ := bind_some hj2027
            obtain ⟨hi2030a, hi2030b, hi2030q⟩ := idx_some hi2030
            obtain ⟨A2031, c2032, hv2033⟩ := hs.matRow (i := 1) rfl hi2030q
            refine sYg hf hs rfl rfl rfl (congrArg (fun b => some (Value.bool b)) hb2028) rfl rfl rfl (Y_index rfl rfl rfl el40 ti28 (Rd.isAt (hs.rdV (i := 1) rfl) hv2033) hi2030a (ltn hn7 hi2030b)) ?_; clear hf; intro a hf
            refine sYg hf hs rfl rfl rfl (congrArg (fun b => some (Value.bool b)) hb2028) rfl rfl rfl (Y_load_rd rfl rfl (fun w hs => hs.rdV (i := 1) rfl) (at1 hv2033) ag28) ?_; clear hf; intro a hf
            refine sYg hf hs rfl rfl rfl (congrArg (fun b => some (Value.bool b)) hb2028) rfl rfl rfl (Y_move rfl rfl) ?_; clear hf; intro a hf
            obtain ⟨q2034, hi2035, hj2027⟩ := bind_some hj2027
            obtain ⟨hi2035a, hi2035b, hi2035q⟩ := idx_some hi2035
            refine sYg hf hs rfl rfl rfl (congrArg (fun b => some (Value.bool b)) hb2028) rfl rfl rfl (Y_index rfl rfl rfl el28 ti2 (Rd.isAt (hs.rdRow (i := 1) rfl ⟨hi2030q, hv2033⟩) (at1 (ints_at hi2035q))) hi2035a hi2035b) ?_; clear hf; intro a hf
            refine sYg hf hs rfl rfl rfl (congrArg (fun b => some (Value.bool b)) hb2028) rfl rfl rfl (Y_load_rd rfl rfl (fun w hs => hs.rdRow (i := 1) rfl ⟨hi2030q, hv2033⟩) (at1 (ints_at hi2035q)) ag2) ?_; clear hf; intro a hf
            refine sYg hf hs rfl rfl rfl (congrArg (fun b => some (Value.bool b)) hb2028) rfl rfl rfl (Y_eql rfl rfl rfl) ?_; clear hf; intro a hf
            refine sYg hf hs rfl rfl rfl (congrArg (fun b => some (Value.bool b)) hb2028) rfl rfl rfl (Y_move rfl rfl) ?_; clear hf; intro a hf
            refine bsplit (q2034 == (-1000000000000000)) (fun hb2036 => ?_) (fun hb2036 => ?_)
            ·have hj2027 := bif_t hj2027 hb2036
             refine sNo hf rfl rfl rfl (congrArg (fun b => some (Value.bool b)) hb2036) rfl rfl rfl ?_; clear hf; intro a hf
             refine sNo hf rfl rfl rfl (congrArg (fun b => some (Value.bool b)) hb2036) rfl rfl rfl ?_; clear hf; intro a hf
             refine sNo hf rfl rfl rfl (congrArg (fun b => some (Value.bool b)) hb2036) rfl rfl rfl ?_; clear hf; intro a hf
             refine sYg hf hs rfl rfl rfl (congrArg (fun b => some (Value.bool b)) hb2028) rfl rfl rfl (Y_pickT rfl (congrArg (fun b => some (Value.bool b)) hb2036) rfl) ?_; clear hf; intro a hf
             refine sY hf hs rfl rfl rfl (Y_pickT rfl (congrArg (fun b => some (Value.bool b)) hb2028) rfl) ?_; clear hf; intro a hf
             refine sY hf hs rfl rfl rfl (Y_assign rfl rfl) ?_; clear hf; intro a hf
             refine wpO_nil ?_
             refine wpL_nil (then_normal ?_)
             exact ⟨true, Option.some.inj hj2027, (FrD.pick (FrD.pick (FrD.pick (FrD.pick (FrD.pick (FrD.pick hf.none hf rfl) hf rfl) hf rfl) hf rfl) hf rfl) hf rfl), hs⟩
            ·have hj2027 := bif_f hj2027 hb2036
             refine sYg hf hs rfl rfl rfl (congrArg (fun b => some (Value.bool b)) hb2036) rfl rfl rfl (Y_move rfl rfl) ?_; clear hf; intro a hf
             refine sYg hf hs rfl rfl rfl (congrArg (fun b => some (Value.bool b)) hb2036) rfl rfl rfl (Y_move rfl rfl) ?_; clear hf; intro a hf
             obtain ⟨r2037, hc2038, hj2027⟩ := bind_some hj2027
             refine sCallg hf rfl rfl rfl (congrArg (fun b => some (Value.bool b)) hb2036) rfl rfl rfl rfl (cap := []) rfl rfl en166 (spec_l01Has_ok F xs1024 A1025 n1026 c1027 hn1028 x1981 _ _ hc2038 (hs.rd (i := 2) rfl)) ?_; clear hf
             rintro _ w ⟨rfl, hs1⟩ a hf
             have hs : St _ W w [_, _, _] := hs.ext hs1.below
             clear hs1
             refine sYg hf hs rfl rfl rfl (congrArg (fun b => some (Value.bool b)) hb2028) rfl rfl rfl (Y_pickF rfl (congrArg (fun b => some (Value.bool b)) hb2036) rfl) ?_; clear hf; intro a hf
             refine sY hf hs rfl rfl rfl (Y_pickT rfl (congrArg (fun b => some (Value.bool b)) hb2028) rfl) ?_; clear hf; intro a hf
             refine sY hf hs rfl rfl rfl (Y_assign rfl rfl) ?_; clear hf; intro a hf
             refine wpO_nil ?_
             refine wpL_nil (then_normal ?_)
             exact ⟨r2037, Option.some.inj hj2027, (FrD.pick (FrD.pick (FrD.pick (FrD.pick (FrD.pick (FrD.pick hf.none hf rfl) hf rfl) hf rfl) hf rfl) hf rfl) hf rfl), hs⟩
           ·have hj2027 := bif_f hj2027 hb2028
            refine sNo hf rfl rfl rfl (congrArg (fun b => some (Value.bool b)) hb2028) rfl rfl rfl ?_; clear hf; intro a hf
            refine sNo hf rfl rfl rfl (congrArg (fun b => some (Value.bool b)) hb2028) rfl rfl rfl ?_; clear hf; intro a hf
            refine sNo hf rfl rfl rfl (congrArg (fun b => some (Value.bool b)) hb2028) rfl rfl rfl ?_; clear hf; intro a hf
            refine sNo hf rfl rfl rfl (congrArg (fun b => some (Value.bool b)) hb2028) rfl rfl rfl ?_; clear hf; intro a hf
            refine sNo hf rfl rfl rfl (congrArg (fun b => some (Value.bool b)) hb2028) rfl rfl rfl ?_; clear hf; intro a hf
            refine sNo hf rfl rfl rfl (congrArg (fun b => some (Value.bool b)) hb2028) rfl rfl rfl ?_; clear hf; intro a hf
            refine sNo hf rfl rfl rfl (congrArg (fun b => some (Value.bool b)) hb2028) rfl rfl rfl ?_; clear hf; intro a hf
            refine sNo hf rfl rfl rfl (congrArg (fun b => some (Value.bool b)) hb2028) rfl rfl rfl ?_; clear hf; intro a hf
            refine sNo hf rfl rfl rfl (congrArg (fun b => some (Value.bool b)) hb2028) rfl rfl rfl ?_; clear hf; intro a hf
            refine sNoU hf rfl rfl rfl rfl rfl rfl rfl ?_; clear hf; intro a hf
            refine sNoU hf rfl rfl rfl rfl rfl rfl rfl ?_; clear hf; intro a hf
            refine sNoU hf rfl rfl rfl rfl rfl rfl rfl ?_; clear hf; intro a hf
            refine sNo hf rfl rfl rfl (congrArg (fun b => some (Value.bool b)) hb2028) rfl rfl rfl ?_; clear hf; intro a hf
            refine sY hf hs rfl rfl rfl (Y_pickF rfl (congrArg (fun b => some (Value.bool b)) hb2028) rfl) ?_; clear hf; intro a hf
            refine sY hf hs rfl rfl rfl (Y_assign rfl rfl) ?_; clear hf; intro a hf
            refine wpO_nil ?_
            refine wpL_nil (then_normal ?_)
            exact ⟨false, Option.some.inj hj2027, (FrD.pick (FrD.pick (FrD.pick (FrD.pick (FrD.pick (FrD.pick hf.none hf rfl) hf rfl) hf rfl) hf rfl) hf rfl) hf rfl), hs⟩
          ·rintro a w ⟨b2025, hr_, hf, hs⟩
           subst hr_
           try dsimp only at hm2011
           refine wpL_nil (Qb_normal ?_)
           refine wpL_region ?_
           refine sY hf hs rfl rfl rfl (Y_move rfl rfl) ?_; clear hf; intro a hf
           refine sY hf hs rfl rfl rfl (Y_add rfl rfl rfl) ?_; clear hf; intro a hf
           refine sY hf hs rfl rfl rfl (Y_assign rfl rfl) ?_; clear hf; intro a hf
           refine wpO_nil ?_
           refine wpL_nil (Ql_normal ?_)
           exact ⟨b2025, (IntKind.i64.wrap (x1981 + 1)), hm2011, (FrD.pick (FrD.pick (FrD.pick (FrD.pick (FrD.pick (FrD.pick hf.none hf rfl) hf rfl) hf rfl) hf rfl) hf rfl) hf rfl), hs⟩
         ·have hm2011 := bif_f hm2011 hb2013
          refine wpL_exit (Ql_exit (Qb_exit ?_))
          exact ⟨b1980, Option.some.inj hm2011, (FrD.pick (FrD.pick (FrD.pick (FrD.pick (FrD.pick hf.none hf rfl) hf rfl) hf rfl) hf rfl) hf rfl), hs⟩
       ·rintro a w ⟨b2008, hr_, hf, hs⟩
        subst hr_
        try dsimp only at hm1921
        refine wpL_seq <| wpL_region ?_
        refine sY hf hs rfl rfl rfl (Y_move rfl rfl) ?_; clear hf; intro a hf
        refine wpO_nil ?_
        refine wpL_cond hf rfl (fun hb2039 => ?_) (fun hb2039 => ?_)
        ·have hm1921 := bif_t hm1921 hb2039
         refine wpL_seq <| wpL_region ?_
         refine sY hf hs rfl rfl rfl (Y_move rfl rfl) ?_; clear hf; intro a hf
         refine sY hf hs rfl rfl rfl (Y_move rfl rfl) ?_; clear hf; intro a hf
         refine sBuildSlice (parts := [(0, .tmp 50)]) (vs := [.int .i64 x1790]) (cells := [.int .i64 x1790]) hf hs rfl rfl rfl rfl rfl el28 ti2 rfl rfl rfl rfl ?_; clear hf hs; intro a w A2040 hs hA2041 hf
         have hs : St _ W w [_, _, _, .row A2040 1 1 2 1 (ints ([x1790]))] := hs
         obtain ⟨xs2044, ha2045, hm1921⟩ := bind_some hm1921
         refine sAppendL (i := 2) (xs := xs1024) (ys := [x1790]) (enc := ints) hf hs rfl rfl rfl rfl rfl rfl hn1028 rfl rfl ha2045 el28 ti2 rfl rfl rfl (hs.rd (i := 3) rfl) (Nat.succ_pos _) ints_len1 ints_append ints_one ?_; clear hf hs; intro a w A2042 c2043 hs hf
         have hs : St _ W w [_, _, .row A2042 xs2044.length c2043 2 1 (ints xs2044), _] := hs
         refine sY hf hs rfl rfl rfl (Y_assign rfl rfl) ?_; clear hf; intro a hf
         refine wpO_nil ?_
         refine wpL_exit (Qb_exit_ne rfl (Ql_exit (Qb_exit ?_)))
         exact ⟨xs2044, A2042, xs2044.length, c2043, Option.some.inj hm1921, rfl, (FrD.pick (FrD.pick (FrD.pick hf.none hf rfl) hf rfl) hf rfl), hs.sel [0, 1, 2] (by decide)⟩
        ·have hm1921 := bif_f hm1921 hb2039
         refine wpL_skip ?_
         refine wpL_nil (Qb_normal ?_)
         refine wpL_region ?_
         refine sY hf hs rfl rfl rfl (Y_move rfl rfl) ?_; clear hf; intro a hf
         refine sY hf hs rfl rfl rfl (Y_add rfl rfl rfl) ?_; clear hf; intro a hf
         refine sY hf hs rfl rfl rfl (Y_assign rfl rfl) ?_; clear hf; intro a hf
         refine wpO_nil ?_
         refine wpL_nil (Ql_normal ?_)
         exact ⟨(IntKind.i64.wrap (x1790 + 1)), hm1921, (FrD.pick (FrD.pick (FrD.pick (FrD.pick hf.none hf rfl) hf rfl) hf rfl) hf rfl), hs⟩
      ·have hm1921 := bif_f hm1921 hb1923
       refine wpL_exit (Ql_exit (Qb_exit ?_))
       exact ⟨xs1024, A1025, n1026, c1027, Option.some.inj hm1921, hn1028, (FrD.pick (FrD.pick (FrD.pick hf.none hf rfl) hf rfl) hf rfl), hs⟩
    ·rintro a w ⟨xs1914, A1915, n1916, c1917, hr_, hn1918, hf, hs⟩
     subst hr_
     try dsimp only at hm1540
     refine wpL_nil (Qb_normal ?_)
     refine wpL_nil (Ql_normal ?_)
     exact ⟨xs1914, A1915, n1916, c1917, hm1540, hn1918, (FrD.pick (FrD.pick (FrD.pick hf.none hf rfl) hf rfl) hf rfl), hs⟩
   ·have hm1540 := bif_f hm1540 hb1542
    refine wpL_exit (Ql_exit (Qb_exit ?_))
    exact ⟨xs1024, A1025, n1026, c1027, Option.some.inj hm1540, hn1028, (FrD.pick hf.none hf rfl), hs.sel [2] (by decide)⟩
 ·rintro a w ⟨xs1533, A1534, n1535, c1536, hr_, hn1537, hf, hs⟩
  subst hr_
  try dsimp only at hm
  refine wpL_seq <| wpL_region ?_
  refine sY hf hs rfl rfl rfl (Y_move rfl rfl) ?_; clear hf; intro a hf
  refine sY hf hs rfl rfl rfl (Y_assign rfl rfl) ?_; clear hf; intro a hf
  refine wpO_nil ?_
  obtain rfl := Option.some.inj hm
  refine wpL_ret (ret_tmp rfl hf rfl ?_)
  exact ⟨_, rfl, A1534, n1535, c1536, rfl, hn1537, hs⟩

set_option maxHeartbeats 2000000 in
set_option maxRecDepth 100000 in
theorem spec_l21Table_ok (F : Nat) (p0 : GEventGraph) (au : Option Addr) (aX aw : Nat) (bY : aX = p0.Places.length) (p1 : GTimetable) (aA : Option Addr) (aS aC : Nat) (cg : aS = p1.Starts.length) (p2 : List Int) (bB : Option Addr) (cH bK : Nat) (cN : cH = p2.length) (p3 : Int) (r : List (List Int)) (W : World) (hm : spec_l21Table F p0 p1 p2 p3 = some r) (aZ : Rd W au ((recs GPlace.cells) p0.Places)) (bk : Rd W aA (ints p1.Starts)) (cS : Rd W bB (ints p2)) :
  Calls Try.prog 132 [.agg #[.int .i64 p0.Events, .slice au aX aw], .agg #[.int .i64 p1.Period, .slice aA aS aC], .slice bB cH bK, .int .i64 p3].toArray W fun e w' => ∃ v, e = .returned v ∧ ∃ A5576, ∃ n5577, ∃ c5578, ∃ vs5580, v = .slice A5576 n5577 c5578 ∧ n5577 = r.length ∧ St [] W w' [.mat A5576 n5577 c5578 28 2 vs5580 r] := by
 subst bY
 subst cg
 subst cN
 unfold spec_l21Table at hm
 refine Calls.enter (N := 115) Try.func132 rfl rfl rfl (fun a hf => ?_)
 have hs := St.start W
 obtain ⟨w, hw_⟩ : ∃ w, w = W := ⟨W, rfl⟩
 clear hw_ w
 refine wpL_seq <| wpL_region ?_
 refine sBox hf hs rfl rfl rfl rfl rfl (cs := [.int .i64 p0.Events, .slice au p0.Places.length aw]) rfl ?_; clear hf hs; intro a w b1 hs hf
 have hs : St _ W w [.blk b1 55 [.int .i64 p0.Events, .slice au p0.Places.length aw]] := hs
 refine sBox hf hs rfl rfl rfl rfl rfl (cs := [.int .i64 p1.Period, .slice aA p1.Starts.length aC]) rfl ?_; clear hf hs; intro a w b2 hs hf
 have hs : St _ W w [_, .blk b2 66 [.int .i64 p1.Period, .slice aA p1.Starts.length aC]] := hs
 refine sY hf hs rfl rfl rfl (Y_assign rfl rfl) ?_; clear hf; intro a hf
 refine wpO_nil <| wpL_seq <| wpL_region ?_
 refine sY hf hs rfl rfl rfl (Y_load_blkS rfl rfl (i := 0) rfl ag55 ti55 rfl) ?_; clear hf; intro a hf
 obtain ⟨r3, hc4, hm⟩ := bind_some hm
 refine sCall hf rfl rfl rfl rfl (cap := []) rfl rfl en179 (spec_l12Order_ok F p0 au p0.Places.length aw rfl _ _ hc4 (aZ.at hs)) ?_; clear hf
 rintro _ w ⟨A5, n6, c7, rfl, hn8, hs1⟩ a hf
 have hs : St _ W w [_, _, .row A5 n6 c7 2 1 (ints r3)] := hs.join hs1
 clear hs1
 refine sY hf hs rfl rfl rfl (Y_assign rfl rfl) ?_; clear hf; intro a hf
 refine wpO_nil <| wpL_seq <| wpL_region ?_
 refine sEmptyM 2 hf hs rfl rfl rfl rfl el40 ti28 rfl ?_; clear hf hs; intro a w A9 hs hf
 have hs : St _ W w [_, _, _, .mat A9 0 0 28 2 [] []] := hs
 refine sY hf hs rfl rfl rfl (Y_assign rfl rfl) ?_; clear hf; intro a hf
 refine wpO_nil <| wpL_seq <| wpL_seq <| wpL_region ?_
 refine sY hf hs rfl rfl rfl (Y_assign rfl rfl) ?_; clear hf; intro a hf
 refine wpO_nil ?_
 obtain ⟨r4187, hl4188, hm⟩ := bind_some hm
 refine wpL_block (fun a w => ∃ ms4181 : List (List Int), ∃ A4182, ∃ n4183, ∃ c4184, ∃ vs4186, ms4181 = r4187 ∧ n4183 = ms4181.length ∧ Fr a 115 [(10, .slice A4182 n4183 c4184)] ∧ St [] W w [.mat A4182 n4183 c4184 28 2 vs4186 ms4181]) ?_ ?_
 ·refine wpL_loop (fun n a w => ∃ ms2789 : List (List Int), ∃ x2795 : Int, ∃ A2790, ∃ n2791, ∃ c2792, ∃ vs2794, spec_l21Table_L16 F p0 p1 p2 p3 r3 n ms2789 x2795 = some r4187 ∧ n2791 = ms2789.length ∧ Fr a 115 [(2, .slice bB p2.length bK), (3, .int .i64 p3), (4, .pointer (some ⟨b1, 0, none⟩)), (5, .pointer (some ⟨b2, 0, none⟩)), (9, .slice A5 n6 c7), (10, .slice A2790 n2791 c2792), (11, .int .i64 x2795)] ∧ St [] W w [.blk b1 55 [.int .i64 p0.Events, .slice au p0.Places.length aw], .blk b2 66 [.int .i64 p1.Period, .slice aA p1.Starts.length aC], .row A5 n6 c7 2 1 (ints r3), .mat A2790 n2791 c2792 28 2 vs2794 ms2789]) F ?_ ?_ ?_
  ·exact ⟨[], 1, A9, 0, 0, [], hl4188, rfl, (FrD.pick (FrD.pick (FrD.pick (FrD.pick (FrD.pick (FrD.pick (FrD.pick hf.none hf rfl) hf rfl) hf rfl) hf rfl) hf rfl) hf rfl) hf rfl), hs⟩
  ·rintro a w ⟨ms2789, x2795, A2790, n2791, c2792, vs2794, h0_, -, -, -⟩; simp [spec_l21Table_L16] at h0_
  ·rintro n4190 a w ⟨ms2789, x2795, A2790, n2791, c2792, vs2794, hm4189, hn2793, hf, hs⟩
   rw [spec_l21Table_L16] at hm4189
   refine wpL_seq <| wpL_seq <| wpL_region ?_
   refine sY hf hs rfl rfl rfl (Y_move rfl rfl) ?_; clear hf; intro a hf
   refine sY hf hs rfl rfl rfl (Y_move rfl rfl) ?_; clear hf; intro a hf
   refine sY hf hs rfl rfl rfl (Y_leq rfl rfl rfl) ?_; clear hf; intro a hf
   refine wpO_nil ?_
   refine wpL_cond hf rfl (fun hb4191 => ?_) (fun hb4191 => ?_)
   ·have hm4189 := bif_t hm4189 hb4191
    refine wpL_skip <| wpL_seq <| wpL_block0 <| wpL_seq <| wpL_region ?_
    refine sY hf hs rfl rfl rfl (Y_fieldAddr rfl rfl fo55_0) ?_; clear hf; intro a hf
    refine sY hf hs rfl rfl rfl (Y_load_blk rfl rfl (i := 0) rfl rfl ag2) ?_; clear hf; intro a hf
    obtain ⟨xs4194, hk4193, hm4189⟩ := bind_some hm4189
    refine sMakeL (enc := ints) hf hs rfl rfl rfl rfl rfl hk4193 el28 ti2 rfl ints_made ?_; clear hf hs; intro a w A4192 hs hf
    have hs : St _ W w [_, _, _, _, .row A4192 xs4194.length xs4194.length 2 1 (ints xs4194)] := hs
    refine sY hf hs rfl rfl rfl (Y_assign rfl rfl) ?_; clear hf; intro a hf
    refine wpO_nil <| wpL_seq <| wpL_seq <| wpL_region ?_
    refine sY hf hs rfl rfl rfl (Y_move rfl rfl) ?_; clear hf; intro a hf
    refine sY hf hs rfl rfl rfl (Y_eql rfl rfl rfl) ?_; clear hf; intro a hf
    refine wpO_nil ?_
    obtain ⟨r4207, hj4208, hm4189⟩ := bind_some hm4189
    refine wpL_cut (fun a w => ∃ xs4202 : List Int, ∃ A4203, ∃ n4204, ∃ c4205, xs4202 = r4207 ∧ n4204 = xs4202.length ∧ Fr a 115 [(2, .slice bB p2.length bK), (3, .int .i64 p3), (4, .pointer (some ⟨b1, 0, none⟩)), (5, .pointer (some ⟨b2, 0, none⟩)), (9, .slice A5 n6 c7), (10, .slice A2790 n2791 c2792), (11, .int .i64 x2795), (12, .slice A4203 n4204 c4205)] ∧ St [] W w [.blk b1 55 [.int .i64 p0.Events, .slice au p0.Places.length aw], .blk b2 66 [.int .i64 p1.Period, .slice aA p1.Starts.length aC], .row A5 n6 c7 2 1 (ints r3), .mat A2790 n2791 c2792 28 2 vs2794 ms2789, .row A4203 n4204 c4205 2 1 (ints xs4202)]) ?_ ?_
    ·refine wpL_cond hf rfl (fun hb4209 => ?_) (fun hb4209 => ?_)
     ·have hj4208 := bif_t hj4208 hb4209
      refine wpL_region ?_
      refine sY hf hs rfl rfl rfl (Y_move rfl rfl) ?_; clear hf; intro a hf
      obtain ⟨r4210, hc4211, hj4208⟩ := bind_some hj4208
      refine sCall hf rfl rfl rfl rfl (cap := []) rfl rfl en114 (spec_l01Own_ok F p2 bB p2.length bK rfl _ _ hc4211 (cS.at hs)) ?_; clear hf
      rintro _ w ⟨A4212, n4213, c4214, rfl, hn4215, hs1⟩ a hf
      have hs : St _ W w [_, _, _, _, _, .row A4212 n4213 c4214 2 1 (ints r4210)] := hs.join hs1
      clear hs1
      refine sY hf hs rfl rfl rfl (Y_assign rfl rfl) ?_; clear hf; intro a hf
      refine wpO_nil ?_
      refine wpL_nil (then_normal ?_)
      exact ⟨r4210, A4212, n4213, c4214, Option.some.inj hj4208, hn4215, (FrD.pick (FrD.pick (FrD.pick (FrD.pick (FrD.pick (FrD.pick (FrD.pick (FrD.pick hf.none hf rfl) hf rfl) hf rfl) hf rfl) hf rfl) hf rfl) hf rfl) hf rfl), hs.sel [0, 1, 2, 3, 5] (by decide)⟩
     ·have hj4208 := bif_f hj4208 hb4209
      refine wpL_skip ?_
      refine wpL_nil (then_normal ?_)
      exact ⟨xs4194, A4192, xs4194.length, xs4194.length, Option.some.inj hj4208, rfl, (FrD.pick (FrD.pick (FrD.pick (FrD.pick (FrD.pick (FrD.pick (FrD.pick (FrD.pick hf.none hf rfl) hf rfl) hf rfl) hf rfl) hf rfl) hf rfl) hf rfl) hf rfl), hs⟩
    ·rintro a w ⟨xs4202, A4203, n4204, c4205, hr_, hn4206, hf, hs⟩
     subst hr_
     try dsimp only at hm4189
     refine wpL_seq <| wpL_region ?_
     refine sY hf hs rfl rfl rfl (Y_move rfl rfl) ?_; clear hf; intro a hf
     refine sY hf hs rfl rfl rfl (Y_move rfl rfl) ?_; clear hf; intro a hf
     refine sOneM (j := 4) hf hs rfl rfl rfl rfl rfl rfl hn4206 el40 ti28 ?_; clear hf hs; intro a w A4216 hs hf
     have hs : St _ W w [_, _, _, _, .mat A4216 1 1 28 2 ([Value.slice A4203 xs4202.length c4205]) ([xs4202])] := hs
     obtain ⟨ms4220, ha4221, hm4189⟩ := bind_some hm4189
     refine sAppendM (i := 3) (j := 4) hf hs rfl rfl rfl rfl rfl rfl hn2793 rfl (by decide) rfl rfl (by decide) ha4221 el40 ti28 rfl ?_; clear hf hs; intro a w A4218 c4219 hs hf
     have hs : St _ W w [_, _, _, .mat A4218 ms4220.length c4219 28 2 (vs2794 ++ ([Value.slice A4203 xs4202.length c4205])) ms4220] := hs
     obtain ⟨hq4222, hv4223⟩ := hs.appended (i := 3) rfl ha4221
     refine sY hf hs rfl rfl rfl (Y_assign rfl rfl) ?_; clear hf; intro a hf
     refine wpO_nil <| wpL_seq <| wpL_region ?_
     refine sY hf hs rfl rfl rfl (Y_assign rfl rfl) ?_; clear hf; intro a hf
     refine wpO_nil ?_
     obtain ⟨r5239, hl5240, hm4189⟩ := bind_some hm4189
     refine wpL_block (fun a w => ∃ ms5237 : List (List Int), ms5237 = r5239 ∧ ms4220.length = ms5237.length ∧ Fr a 115 [(2, .slice bB p2.length bK), (3, .int .i64 p3), (4, .pointer (some ⟨b1, 0, none⟩)), (5, .pointer (some ⟨b2, 0, none⟩)), (9, .slice A5 n6 c7), (10, .slice A4218 ms4220.length c4219), (11, .int .i64 x2795)] ∧ St [] W w [.blk b1 55 [.int .i64 p0.Events, .slice au p0.Places.length aw], .blk b2 66 [.int .i64 p1.Period, .slice aA p1.Starts.length aC], .row A5 n6 c7 2 1 (ints r3), .mat A4218 ms4220.length c4219 28 2 (vs2794 ++ ([Value.slice A4203 xs4202.length c4205])) ms5237]) ?_ ?_
     ·refine wpL_loop (fun n a w => ∃ ms4897 : List (List Int), ∃ x4899 : Int, ∃ xs4900 : List Int, spec_l21Table_L20 F p0 p1 r3 ms2789 x2795 n ms4897 x4899 xs4900 = some r5239 ∧ ms4220.length = ms4897.length ∧ n4204 = xs4900.length ∧ ms4897[((ms2789.length : Int) : Int).toNat]? = some xs4900 ∧ (vs2794 ++ ([Value.slice A4203 xs4202.length c4205]))[((ms2789.length : Int) : Int).toNat]? = some (Value.slice A4203 xs4900.length c4205) ∧ Fr a 115 [(2, .slice bB p2.length bK), (3, .int .i64 p3), (4, .pointer (some ⟨b1, 0, none⟩)), (5, .pointer (some ⟨b2, 0, none⟩)), (9, .slice A5 n6 c7), (10, .slice A4218 ms4220.length c4219), (11, .int .i64 x2795), (12, .slice A4203 n4204 c4205), (13, .int .i64 x4899)] ∧ St [] W w [.blk b1 55 [.int .i64 p0.Events, .slice au p0.Places.length aw], .blk b2 66 [.int .i64 p1.Period, .slice aA p1.Starts.length aC], .row A5 n6 c7 2 1 (ints r3), .mat A4218 ms4220.length c4219 28 2 (vs2794 ++ ([Value.slice A4203 xs4202.length c4205])) ms4897]) F ?_ ?_ ?_
      ·exact ⟨ms4220, 0, xs4202, hl5240, rfl, hn4206, hq4222, hv4223, (FrD.pick (FrD.pick (FrD.pick (FrD.pick (FrD.pick (FrD.pick (FrD.pick (FrD.pick (FrD.pick hf.none hf rfl) hf rfl) hf rfl) hf rfl) hf rfl) hf rfl) hf rfl) hf rfl) hf rfl), hs⟩
      ·rintro a w ⟨ms4897, x4899, xs4900, h0_, -, -, -, -, -, -⟩; simp [spec_l21Table_L20] at h0_
      ·rintro n5242 a w ⟨ms4897, x4899, xs4900, hm5241, hn4898, hn4901, hq4902, hv4903, hf, hs⟩
       rw [spec_l21Table_L20] at hm5241
       refine wpL_seq <| wpL_seq <| wpL_region ?_
       refine sY hf hs rfl rfl rfl (Y_move rfl rfl) ?_; clear hf; intro a hf
       refine sY hf hs rfl rfl rfl (Y_move rfl rfl) ?_; clear hf; intro a hf
       refine sY hf hs rfl rfl rfl (Y_lenH rfl rfl el28 hn8) ?_; clear hf; intro a hf
       refine sY hf hs rfl rfl rfl (Y_lss rfl rfl rfl) ?_; clear hf; intro a hf
       refine wpO_nil ?_
       refine wpL_cond hf rfl (fun hb5243 => ?_) (fun hb5243 => ?_)
       ·have hm5241 := bif_t hm5241 hb5243
        refine wpL_skip <| wpL_seq <| wpL_block0 <| wpL_seq <| wpL_region ?_
        refine sY hf hs rfl rfl rfl (Y_assign rfl rfl) ?_; clear hf; intro a hf
        refine wpO_nil ?_
        obtain ⟨r5495, hl5496, hm5241⟩ := bind_some hm5241
        refine wpL_block (fun a w => ∃ ms5489 : List (List Int), ∃ xs5491 : List Int, (ms5489, xs5491) = r5495 ∧ ms4220.length = ms5489.length ∧ n4204 = xs5491.length ∧ ms5489[((ms2789.length : Int) : Int).toNat]? = some xs5491 ∧ (vs2794 ++ ([Value.slice A4203 xs4202.length c4205]))[((ms2789.length : Int) : Int).toNat]? = some (Value.slice A4203 xs5491.length c4205) ∧ Fr a 115 [(2, .slice bB p2.length bK), (3, .int .i64 p3), (4, .pointer (some ⟨b1, 0, none⟩)), (5, .pointer (some ⟨b2, 0, none⟩)), (9, .slice A5 n6 c7), (10, .slice A4218 ms4220.length c4219), (11, .int .i64 x2795), (12, .slice A4203 n4204 c4205), (13, .int .i64 x4899)] ∧ St [] W w [.blk b1 55 [.int .i64 p0.Events, .slice au p0.Places.length aw], .blk b2 66 [.int .i64 p1.Period, .slice aA p1.Starts.length aC], .row A5 n6 c7 2 1 (ints r3), .mat A4218 ms4220.length c4219 28 2 (vs2794 ++ ([Value.slice A4203 xs4202.length c4205])) ms5489]) ?_ ?_
        ·refine wpL_loop (fun n a w => ∃ ms5405 : List (List Int), ∃ x5407 : Int, ∃ xs5408 : List Int, spec_l21Table_L21 F p0 p1 r3 ms2789 x2795 x4899 n ms5405 x5407 xs5408 = some r5495 ∧ ms4220.length = ms5405.length ∧ n4204 = xs5408.length ∧ ms5405[((ms2789.length : Int) : Int).toNat]? = some xs5408 ∧ (vs2794 ++ ([Value.slice A4203 xs4202.length c4205]))[((ms2789.length : Int) : Int).toNat]? = some (Value.slice A4203 xs5408.length c4205) ∧ Fr a 115 [(2, .slice bB p2.length bK), (3, .int .i64 p3), (4, .pointer (some ⟨b1, 0, none⟩)), (5, .pointer (some ⟨b2, 0, none⟩)), (9, .slice A5 n6 c7), (10, .slice A4218 ms4220.length c4219), (11, .int .i64 x2795), (12, .slice A4203 n4204 c4205), (13, .int .i64 x4899), (14, .int .i64 x5407)] ∧ St [] W w [.blk b1 55 [.int .i64 p0.Events, .slice au p0.Places.length aw], .blk b2 66 [.int .i64 p1.Period, .slice aA p1.Starts.length aC], .row A5 n6 c7 2 1 (ints r3), .mat A4218 ms4220.length c4219 28 2 (vs2794 ++ ([Value.slice A4203 xs4202.length c4205])) ms5405]) F ?_ ?_ ?_
         ·exact ⟨ms4897, 0, xs4900, hl5496, hn4898, hn4901, hq4902, hv4903, (FrD.pick (FrD.pick (FrD.pick (FrD.pick (FrD.pick (FrD.pick (FrD.pick (FrD.pick (FrD.pick (FrD.pick hf.none hf rfl) hf rfl) hf rfl) hf rfl) hf rfl) hf rfl) hf rfl) hf rfl) hf rfl) hf rfl), hs⟩
         ·rintro a w ⟨ms5405, x5407, xs5408, h0_, -, -, -, -, -, -⟩; simp [spec_l21Table_L21] at h0_
         ·rintro n5498 a w ⟨ms5405, x5407, xs5408, hm5497, hn5406, hn5409, hq5410, hv5411, hf, hs⟩
          rw [spec_l21Table_L21] at hm5497
          refine wpL_seq <| wpL_seq <| wpL_region ?_
          refine sY hf hs rfl rfl rfl (Y_move rfl rfl) ?_; clear hf; intro a hf
          refine sY hf hs rfl rfl rfl (Y_fieldAddr rfl rfl fo55_1) ?_; clear hf; intro a hf
          refine sY hf hs rfl rfl rfl (Y_load_blk rfl rfl (i := 0) rfl rfl ag53) ?_; clear hf; intro a hf
          refine sY hf hs rfl rfl rfl (Y_lenH rfl rfl el53 rfl) ?_; clear hf; intro a hf
          refine sY hf hs rfl rfl rfl (Y_lss rfl rfl rfl) ?_; clear hf; intro a hf
          refine wpO_nil ?_
          refine wpL_cond hf rfl (fun hb5499 => ?_) (fun hb5499 => ?_)
          ·have hm5497 := bif_t hm5497 hb5499
           refine wpL_skip <| wpL_seq ?_
           obtain ⟨r5540, hj5541, hm5497⟩ := bind_some hm5497
           refine wpL_block (fun a w => ∃ ms5534 : List (List Int), ∃ xs5536 : List Int, (ms5534, xs5536) = r5540 ∧ ms4220.length = ms5534.length ∧ n4204 = xs5536.length ∧ ms5534[((ms2789.length : Int) : Int).toNat]? = some xs5536 ∧ (vs2794 ++ ([Value.slice A4203 xs4202.length c4205]))[((ms2789.length : Int) : Int).toNat]? = some (Value.slice A4203 xs5536.length c4205) ∧ Fr a 115 [(2, .slice bB p2.length bK), (3, .int .i64 p3), (4, .pointer (some ⟨b1, 0, none⟩)), (5, .pointer (some ⟨b2, 0, none⟩)), (9, .slice A5 n6 c7), (10, .slice A4218 ms4220.length c4219), (11, .int .i64 x2795), (12, .slice A4203 n4204 c4205), (13, .int .i64 x4899), (14, .int .i64 x5407)] ∧ St [] W w [.blk b1 55 [.int .i64 p0.Events, .slice au p0.Places.length aw], .blk b2 66 [.int .i64 p1.Period, .slice aA p1.Starts.length aC], .row A5 n6 c7 2 1 (ints r3), .mat A4218 ms4220.length c4219 28 2 (vs2794 ++ ([Value.slice A4203 xs4202.length c4205])) ms5534]) ?_ ?_
           ·refine wpL_seq <| wpL_region ?_
            refine sY hf hs rfl rfl rfl (Y_fieldAddr rfl rfl fo55_1) ?_; clear hf; intro a hf
            refine sY hf hs rfl rfl rfl (Y_load_blk rfl rfl (i := 0) rfl rfl ag53) ?_; clear hf; intro a hf
            refine sY hf hs rfl rfl rfl (Y_move rfl rfl) ?_; clear hf; intro a hf
            obtain ⟨q5542, hi5543, hj5541⟩ := bind_some hj5541
            obtain ⟨hi5543a, hi5543b, hi5543q⟩ := idx_some hi5543
            refine sY hf hs rfl rfl rfl (Y_index rfl rfl rfl el53 ti64 (Rd.isAt (aZ.at hs) (recs_at (s := 4) GPlace.len hi5543q (j := 0) rfl)) hi5543a hi5543b) ?_; clear hf; intro a hf
            refine sY hf hs rfl rfl rfl (Y_load_rdS rfl rfl (us := [.int .i64 q5542.From, .int .i64 q5542.To, .int .i64 q5542.Delay, .int .i64 q5542.Tokens]) (fun w hs => aZ.at hs) (fun j u hj => recs_at (s := 4) GPlace.len hi5543q hj) (Nat.succ_pos _) ag64 ti64 rfl) ?_; clear hf; intro a hf
            refine sAlloc hf hs rfl rfl rfl rfl ti64 ?_; clear hf hs; intro a w b5544 hs hf
            have hs : St _ W w [_, _, _, _, .blk b5544 64 [.int .i64 0, .int .i64 0, .int .i64 0, .int .i64 0]] := hs
            refine sStore (i := 4) (us := [.int .i64 q5542.From, .int .i64 q5542.To, .int .i64 q5542.Delay, .int .i64 q5542.Tokens]) hf hs rfl rfl rfl rfl rfl rfl ti64 rfl rfl rfl (Nat.le_of_ble_eq_true rfl) rfl ?_; clear hs; intro w hs
            have hs : St _ W w [_, _, _, _, .blk b5544 64 [.int .i64 q5542.From, .int .i64 q5542.To, .int .i64 q5542.Delay, .int .i64 q5542.Tokens]] := hs
            refine wpO_nil <| wpL_seq <| wpL_seq ?_
            obtain ⟨r5549, hj5550, hj5541⟩ := bind_some hj5541
            refine wpL_cut (fun a w => ∃ b5548 : Bool, b5548 = r5549 ∧ Fr a 115 [(2, .slice bB p2.length bK), (3, .int .i64 p3), (4, .pointer (some ⟨b1, 0, none⟩)), (5, .pointer (some ⟨b2, 0, none⟩)), (9, .slice A5 n6 c7), (10, .slice A4218 ms4220.length c4219), (11, .int .i64 x2795), (12, .slice A4203 n4204 c4205), (13, .int .i64 x4899), (14, .int .i64 x5407), (15, .pointer (some ⟨b5544, 0, none⟩)), (67, .bool b5548)] ∧ St [] W w [.blk b1 55 [.int .i64 p0.Events, .slice au p0.Places.length aw], .blk b2 66 [.int .i64 p1.Period, .slice aA p1.Starts.length aC], .row A5 n6 c7 2 1 (ints r3), .mat A4218 ms4220.length c4219 28 2 (vs2794 ++ ([Value.slice A4203 xs4202.length c4205])) ms5405, .blk b5544 64 [.int .i64 q5542.From, .int .i64 q5542.To, .int .i64 q5542.Delay, .int .i64 q5542.Tokens]]) ?_ ?_
            ·refine wpL_draw (by kernel_rfl) (by kernel_rfl) hs ?_
             refine qY hf rfl rfl rfl (Y_fieldAddr rfl rfl fo64_1) ?_; clear hf; intro a hf
             refine qY hf rfl rfl rfl (Y_load_blk rfl rfl (i := 4) rfl rfl ag2) ?_; clear hf; intro a hf
             refine qY hf rfl rfl rfl (Y_move rfl rfl) ?_; clear hf; intro a hf
             refine qY hf rfl rfl rfl (Y_move rfl rfl) ?_; clear hf; intro a hf
             obtain ⟨q5551, hi5552, hj5550⟩ := bind_some hj5550
             obtain ⟨hi5552a, hi5552b, hi5552q⟩ := idx_some hi5552
             refine qY hf rfl rfl rfl (Y_index rfl rfl rfl el28 ti2 (Rd.isAt (hs.rd (i := 2) rfl) (at1 (ints_at hi5552q))) hi5552a (ltn hn8 hi5552b)) ?_; clear hf; intro a hf
             refine qY hf rfl rfl rfl (Y_load_rd rfl rfl (fun w hs => hs.rd (i := 2) rfl) (at1 (ints_at hi5552q)) ag2) ?_; clear hf; intro a hf
             refine qY hf rfl rfl rfl (Y_neq rfl rfl rfl) ?_; clear hf; intro a hf
             refine qY hf rfl rfl rfl (Y_move rfl rfl) ?_; clear hf; intro a hf
             refine bsplit (q5542.To != q5551) (fun hb5553 => ?_) (fun hb5553 => ?_)
             ·have hj5550 := bif_t hj5550 hb5553
              refine qNo hf rfl rfl rfl (congrArg (fun b => some (Value.bool b)) hb5553) rfl rfl rfl ?_; clear hf; intro a hf
              refine qNo hf rfl rfl rfl (congrArg (fun b => some (Value.bool b)) hb5553) rfl rfl rfl ?_; clear hf; intro a hf
              refine qNo hf rfl rfl rfl (congrArg (fun b => some (Value.bool b)) hb5553) rfl rfl rfl ?_; clear hf; intro a hf
              refine qNo hf rfl rfl rfl (congrArg (fun b => some (Value.bool b)) hb5553) rfl rfl rfl ?_; clear hf; intro a hf
              refine qNo hf rfl rfl rfl (congrArg (fun b => some (Value.bool b)) hb5553) rfl rfl rfl ?_; clear hf; intro a hf
              refine qY hf rfl rfl rfl (Y_pickT rfl (congrArg (fun b => some (Value.bool b)) hb5553) rfl) ?_; clear hf; intro a hf
              refine qNil ?_; clear hs; intro w hs
              refine wpL_nil (then_normal ?_)
              exact ⟨true, Option.some.inj hj5550, (FrD.pick (FrD.pick (FrD.pick (FrD.pick (FrD.pick (FrD.pick (FrD.pick (FrD.pick (FrD.pick (FrD.pick (FrD.pick (FrD.pick hf.none hf rfl) hf rfl) hf rfl) hf rfl) hf rfl) hf rfl) hf rfl) hf rfl) hf rfl) hf rfl) hf rfl) hf rfl), hs⟩
             ·have hj5550 := bif_f hj5550 hb5553
              refine qYg hf rfl rfl rfl (congrArg (fun b => some (Value.bool b)) hb5553) rfl rfl rfl (Y_move rfl rfl) ?_; clear hf; intro a hf
              refine qYg hf rfl rfl rfl (congrArg (fun b => some (Value.bool b)) hb5553) rfl rfl rfl (Y_fieldAddr rfl rfl fo64_3) ?_; clear hf; intro a hf
              refine qYg hf rfl rfl rfl (congrArg (fun b => some (Value.bool b)) hb5553) rfl rfl rfl (Y_load_blk rfl rfl (i := 4) rfl rfl ag2) ?_; clear hf; intro a hf
              refine qYg hf rfl rfl rfl (congrArg (fun b => some (Value.bool b)) hb5553) rfl rfl rfl (Y_sub rfl rfl rfl) ?_; clear hf; intro a hf
              refine qYg hf rfl rfl rfl (congrArg (fun b => some (Value.bool b)) hb5553) rfl rfl rfl (Y_lss rfl rfl rfl) ?_; clear hf; intro a hf
              refine qY hf rfl rfl rfl (Y_pickF rfl (congrArg (fun b => some (Value.bool b)) hb5553) rfl) ?_; clear hf; intro a hf
              refine qNil ?_; clear hs; intro w hs
              refine wpL_nil (then_normal ?_)
              exact ⟨(decide ((IntKind.i64.wrap (x2795 - q5542.Tokens)) < 1)), Option.some.inj hj5550, (FrD.pick (FrD.pick (FrD.pick (FrD.pick (FrD.pick (FrD.pick (FrD.pick (FrD.pick (FrD.pick (FrD.pick (FrD.pick (FrD.pick hf.none hf rfl) hf rfl) hf rfl) hf rfl) hf rfl) hf rfl) hf rfl) hf rfl) hf rfl) hf rfl) hf rfl) hf rfl), hs⟩
            ·rintro a w ⟨b5548, hr_, hf, hs⟩
             subst hr_
             try dsimp only at hj5541
             refine wpL_cond hf rfl (fun hb5554 => ?_) (fun hb5554 => ?_)
             ·have hj5541 := bif_t hj5541 hb5554
              refine wpL_exit (Qb_exit ?_)
              exact ⟨ms5405, xs5408, Option.some.inj hj5541, hn5406, hn5409, hq5410, hv5411, (FrD.pick (FrD.pick (FrD.pick (FrD.pick (FrD.pick (FrD.pick (FrD.pick (FrD.pick (FrD.pick (FrD.pick hf.none hf rfl) hf rfl) hf rfl) hf rfl) hf rfl) hf rfl) hf rfl) hf rfl) hf rfl) hf rfl), hs.sel [0, 1, 2, 3] (by decide)⟩
             ·have hj5541 := bif_f hj5541 hb5554
              refine wpL_skip <| wpL_seq ?_
              refine wpL_draw (by kernel_rfl) (by kernel_rfl) hs ?_
              refine qY hf rfl rfl rfl (Y_fieldAddr rfl rfl fo66_1) ?_; clear hf; intro a hf
              refine qY hf rfl rfl rfl (Y_load_blk rfl rfl (i := 1) rfl rfl ag28) ?_; clear hf; intro a hf
              refine qY hf rfl rfl rfl (Y_fieldAddr rfl rfl fo64_1) ?_; clear hf; intro a hf
              refine qY hf rfl rfl rfl (Y_load_blk rfl rfl (i := 4) rfl rfl ag2) ?_; clear hf; intro a hf
              obtain ⟨q5555, hi5556, hj5541⟩ := bind_some hj5541
              obtain ⟨hi5556a, hi5556b, hi5556q⟩ := idx_some hi5556
              refine qY hf rfl rfl rfl (Y_index rfl rfl rfl el28 ti2 (Rd.isAt (bk.at hs) (at1 (ints_at hi5556q))) hi5556a hi5556b) ?_; clear hf; intro a hf
              refine qY hf rfl rfl rfl (Y_load_rd rfl rfl (fun w hs => bk.at hs) (at1 (ints_at hi5556q)) ag2) ?_; clear hf; intro a hf
              refine qY hf rfl rfl rfl (Y_fieldAddr rfl rfl fo64_3) ?_; clear hf; intro a hf
              refine qY hf rfl rfl rfl (Y_load_blk rfl rfl (i := 4) rfl rfl ag2) ?_; clear hf; intro a hf
              refine qY hf rfl rfl rfl (Y_fieldAddr rfl rfl fo66_0) ?_; clear hf; intro a hf
              refine qY hf rfl rfl rfl (Y_load_blk rfl rfl (i := 1) rfl rfl ag2) ?_; clear hf; intro a hf
              refine qY hf rfl rfl rfl (Y_mul rfl rfl rfl) ?_; clear hf; intro a hf
              refine qY hf rfl rfl rfl (Y_add rfl rfl rfl) ?_; clear hf; intro a hf
              refine qY hf rfl rfl rfl (Y_fieldAddr rfl rfl fo66_1) ?_; clear hf; intro a hf
              refine qY hf rfl rfl rfl (Y_load_blk rfl rfl (i := 1) rfl rfl ag28) ?_; clear hf; intro a hf
              refine qY hf rfl rfl rfl (Y_fieldAddr rfl rfl fo64_0) ?_; clear hf; intro a hf
              refine qY hf rfl rfl rfl (Y_load_blk rfl rfl (i := 4) rfl rfl ag2) ?_; clear hf; intro a hf
              obtain ⟨q5557, hi5558, hj5541⟩ := bind_some hj5541
              obtain ⟨hi5558a, hi5558b, hi5558q⟩ := idx_some hi5558
              refine qY hf rfl rfl rfl (Y_index rfl rfl rfl el28 ti2 (Rd.isAt (bk.at hs) (at1 (ints_at hi5558q))) hi5558a hi5558b) ?_; clear hf; intro a hf
              refine qY hf rfl rfl rfl (Y_load_rd rfl rfl (fun w hs => bk.at hs) (at1 (ints_at hi5558q)) ag2) ?_; clear hf; intro a hf
              refine qY hf rfl rfl rfl (Y_sub rfl rfl rfl) ?_; clear hf; intro a hf
              refine qY hf rfl rfl rfl (Y_fieldAddr rfl rfl fo64_2) ?_; clear hf; intro a hf
              refine qY hf rfl rfl rfl (Y_load_blk rfl rfl (i := 4) rfl rfl ag2) ?_; clear hf; intro a hf
              refine qY hf rfl rfl rfl (Y_sub rfl rfl rfl) ?_; clear hf; intro a hf
              refine qY hf rfl rfl rfl (Y_assign rfl rfl) ?_; clear hf; intro a hf
              refine qNil ?_; clear hs; intro w hs
              refine wpL_drawM [.blk b1 55 [.int .i64 p0.Events, .slice au p0.Places.length aw], .blk b2 66 [.int .i64 p1.Period, .slice aA p1.Starts.length aC], .row A5 n6 c7 2 1 (ints r3), .mat A4218 ms4220.length c4219 28 2 (vs2794 ++ ([Value.slice A4203 xs4202.length c4205])) ms5405, .blk b5544 64 [.int .i64 q5542.From, .int .i64 q5542.To, .int .i64 q5542.Delay, .int .i64 q5542.Tokens]] [24] (by kernel_rfl) hs ?_; clear hs; intro w hs
              have hs0 : St _ W w [_, _, _, _, _] := hs
              refine mYp (i := 0) rfl (by kernel_rfl) (by kernel_rfl) hf rfl rfl rfl (fun _ => Y_move rfl rfl) ?_; clear hf; intro a hf
              refine mYp (i := 1) rfl (by kernel_rfl) (by kernel_rfl) hf rfl rfl rfl (fun _ => Y_fieldAddr rfl rfl fo64_1) ?_; clear hf; intro a hf
              refine mY (i := 2) [[]] rfl (by kernel_rfl) (by kernel_rfl) hf hs0 rfl rfl rfl (Y_load_blk rfl rfl (i := 4) rfl rfl ag2) ?_; clear hf; intro a hf
              refine mYp (i := 3) rfl (by kernel_rfl) (by kernel_rfl) hf rfl rfl rfl (fun _ => Y_move rfl rfl) ?_; clear hf; intro a hf
              refine mYp (i := 4) rfl (by kernel_rfl) (by kernel_rfl) hf rfl rfl rfl (fun _ => Y_fieldAddr rfl rfl fo64_1) ?_; clear hf; intro a hf
              refine mY (i := 5) [[]] rfl (by kernel_rfl) (by kernel_rfl) hf hs0 rfl rfl rfl (Y_load_blk rfl rfl (i := 4) rfl rfl ag2) ?_; clear hf; intro a hf
              obtain ⟨q5559, hi5560, hj5541⟩ := bind_some hj5541
              obtain ⟨hi5560a, hi5560b, hi5560q⟩ := idx_some hi5560
              refine mYp (i := 6) rfl (by kernel_rfl) (by kernel_rfl) hf rfl rfl rfl (fun _ => Y_index rfl rfl rfl el28 ti2 (Rd.isAt (hs.rdRow (i := 3) rfl ⟨hq5410, hv5411⟩) (at1 (ints_at hi5560q))) hi5560a (ltn hn5409 hi5560b)) ?_; clear hf; intro a hf
              refine mY (i := 7) [[]] rfl (by kernel_rfl) (by kernel_rfl) hf hs0 rfl rfl rfl (Y_load_rd rfl rfl (fun w hs => hs.rdRow (i := 3) rfl ⟨hq5410, hv5411⟩) (at1 (ints_at hi5560q)) ag2) ?_; clear hf; intro a hf
              refine mYp (i := 8) rfl (by kernel_rfl) (by kernel_rfl) hf rfl rfl rfl (fun _ => Y_move rfl rfl) ?_; clear hf; intro a hf
              refine mYp (i := 9) rfl (by kernel_rfl) (by kernel_rfl) hf rfl rfl rfl (fun _ => Y_move rfl rfl) ?_; clear hf; intro a hf
              refine mYp (i := 10) rfl (by kernel_rfl) (by kernel_rfl) hf rfl rfl rfl (fun _ => Y_fieldAddr rfl rfl fo64_3) ?_; clear hf; intro a hf
              refine mY (i := 11) [[]] rfl (by kernel_rfl) (by kernel_rfl) hf hs0 rfl rfl rfl (Y_load_blk rfl rfl (i := 4) rfl rfl ag2) ?_; clear hf; intro a hf
              refine mYp (i := 12) rfl (by kernel_rfl) (by kernel_rfl) hf rfl rfl rfl (fun _ => Y_sub rfl rfl rfl) ?_; clear hf; intro a hf
              refine mYp (i := 13) rfl (by kernel_rfl) (by kernel_rfl) hf rfl rfl rfl (fun _ => Y_sub rfl rfl rfl) ?_; clear hf; intro a hf
              obtain ⟨q5561, hi5562, hj5541⟩ := bind_some hj5541
              obtain ⟨hi5562a, hi5562b, hi5562q⟩ := idx_some hi5562
              obtain ⟨A5563, c5564, hv5565⟩ := hs.matRow (i := 3) rfl hi5562q
              refine mYp (i := 14) rfl (by kernel_rfl) (by kernel_rfl) hf rfl rfl rfl (fun _ => Y_index rfl rfl rfl el40 ti28 (Rd.isAt (hs.rdV (i := 3) rfl) hv5565) hi5562a (ltn hn5406 hi5562b)) ?_; clear hf; intro a hf
              refine mY (i := 15) [[]] rfl (by kernel_rfl) (by kernel_rfl) hf hs0 rfl rfl rfl (Y_load_rd rfl rfl (fun w hs => hs.rdV (i := 3) rfl) (at1 hv5565) ag28) ?_; clear hf; intro a hf
              refine mYp (i := 16) rfl (by kernel_rfl) (by kernel_rfl) hf rfl rfl rfl (fun _ => Y_fieldAddr rfl rfl fo64_0) ?_; clear hf; intro a hf
              refine mY (i := 17) [[]] rfl (by kernel_rfl) (by kernel_rfl) hf hs0 rfl rfl rfl (Y_load_blk rfl rfl (i := 4) rfl rfl ag2) ?_; clear hf; intro a hf
              obtain ⟨q5566, hi5567, hj5541⟩ := bind_some hj5541
              obtain ⟨hi5567a, hi5567b, hi5567q⟩ := idx_some hi5567
              refine mYp (i := 18) rfl (by kernel_rfl) (by kernel_rfl) hf rfl rfl rfl (fun _ => Y_index rfl rfl rfl el28 ti2 (Rd.isAt (hs.rdRow (i := 3) rfl ⟨hi5562q, hv5565⟩) (at1 (ints_at hi5567q))) hi5567a hi5567b) ?_; clear hf; intro a hf
              refine mY (i := 19) [[]] rfl (by kernel_rfl) (by kernel_rfl) hf hs0 rfl rfl rfl (Y_load_rd rfl rfl (fun w hs => hs.rdRow (i := 3) rfl ⟨hi5562q, hv5565⟩) (at1 (ints_at hi5567q)) ag2) ?_; clear hf; intro a hf
              refine mYp (i := 20) rfl (by kernel_rfl) (by kernel_rfl) hf rfl rfl rfl (fun _ => Y_move rfl rfl) ?_; clear hf; intro a hf
              refine mYp (i := 21) rfl (by kernel_rfl) (by kernel_rfl) hf rfl rfl rfl (fun _ => Y_sub rfl rfl rfl) ?_; clear hf; intro a hf
              refine mYp (i := 22) rfl (by kernel_rfl) (by kernel_rfl) hf rfl rfl rfl (fun _ => Y_max rfl rfl rfl) ?_; clear hf; intro a hf
              obtain ⟨q5568, hi5569, hj5541⟩ := bind_some hj5541
              obtain ⟨hi5569a, hi5569b, hi5569q⟩ := idx_some hi5569
              refine mYp (i := 23) rfl (by kernel_rfl) (by kernel_rfl) hf rfl rfl rfl (fun _ => Y_index rfl rfl rfl el28 ti2 (Rd.isAt (hs.rdRow (i := 3) rfl ⟨hq5410, hv5411⟩) (at1 (ints_at hi5569q))) hi5569a (ltn hn5409 hi5569b)) ?_; clear hf; intro a hf
              refine mRun (i := 24) rfl (by kernel_rfl) ?_
              obtain ⟨xs5570, hu5572, hj5541⟩ := bind_some hj5541
              obtain ⟨ms5571, hu5573, hj5541⟩ := bind_some hj5541
              refine sStoreM (i := 3) (k := (ms2789.length : Int)) hf hs rfl rfl rfl rfl rfl rfl hq5410 hv5411 rfl hu5572 hu5573 ti2 ?_; clear hs; intro w hs
              obtain ⟨hq5574, hv5575⟩ := rowUpd hu5572 hu5573 hv5411
              have hs : St _ W w [_, _, _, .mat A4218 ms4220.length c4219 28 2 (vs2794 ++ ([Value.slice A4203 xs4202.length c4205])) ms5571, _] := hs
              refine wpO_nil ⟨Or.inl (by decide), ?_⟩
              refine mDone (by kernel_rfl) ?_
              clear hs0
              refine wpL_nil (Qb_normal ?_)
              exact ⟨ms5571, xs5570, Option.some.inj hj5541, ((hn5406).trans (upd_len hu5573).symm), ((hn5409).trans (upd_len hu5572).symm), hq5574, hv5575, (FrD.pick (FrD.pick (FrD.pick (FrD.pick (FrD.pick (FrD.pick (FrD.pick (FrD.pick (FrD.pick (FrD.pick hf.none hf rfl) hf rfl) hf rfl) hf rfl) hf rfl) hf rfl) hf rfl) hf rfl) hf rfl) hf rfl), hs.sel [0, 1, 2, 3] (by decide)⟩
           ·rintro a w ⟨ms5534, xs5536, hr_, hn5535, hn5537, hq5538, hv5539, hf, hs⟩
            subst hr_
            try dsimp only at hm5497
            refine wpL_region ?_
            refine sY hf hs rfl rfl rfl (Y_move rfl rfl) ?_; clear hf; intro a hf
            refine sY hf hs rfl rfl rfl (Y_add rfl rfl rfl) ?_; clear hf; intro a hf
            refine sY hf hs rfl rfl rfl (Y_assign rfl rfl) ?_; clear hf; intro a hf
            refine wpO_nil ?_
            refine wpL_nil (Ql_normal ?_)
            exact ⟨ms5534, (IntKind.i64.wrap (x5407 + 1)), xs5536, hm5497, hn5535, hn5537, hq5538, hv5539, (FrD.pick (FrD.pick (FrD.pick (FrD.pick (FrD.pick (FrD.pick (FrD.pick (FrD.pick (FrD.pick (FrD.pick hf.none hf rfl) hf rfl) hf rfl) hf rfl) hf rfl) hf rfl) hf rfl) hf rfl) hf rfl) hf rfl), hs⟩
          ·have hm5497 := bif_f hm5497 hb5499
           refine wpL_exit (Ql_exit (Qb_exit ?_))
           exact ⟨ms5405, xs5408, Option.some.inj hm5497, hn5406, hn5409, hq5410, hv5411, (FrD.pick (FrD.pick (FrD.pick (FrD.pick (FrD.pick (FrD.pick (FrD.pick (FrD.pick (FrD.pick hf.none hf rfl) hf rfl) hf rfl) hf rfl) hf rfl) hf rfl) hf rfl) hf rfl) hf rfl), hs⟩
        ·rintro a w ⟨ms5489, xs5491, hr_, hn5490, hn5492, hq5493, hv5494, hf, hs⟩
         subst hr_
         try dsimp only at hm5241
         refine wpL_nil (Qb_normal ?_)
         refine wpL_region ?_
         refine sY hf hs rfl rfl rfl (Y_move rfl rfl) ?_; clear hf; intro a hf
         refine sY hf hs rfl rfl rfl (Y_add rfl rfl rfl) ?_; clear hf; intro a hf
         refine sY hf hs rfl rfl rfl (Y_assign rfl rfl) ?_; clear hf; intro a hf
         refine wpO_nil ?_
         refine wpL_nil (Ql_normal ?_)
         exact ⟨ms5489, (IntKind.i64.wrap (x4899 + 1)), xs5491, hm5241, hn5490, hn5492, hq5493, hv5494, (FrD.pick (FrD.pick (FrD.pick (FrD.pick (FrD.pick (FrD.pick (FrD.pick (FrD.pick (FrD.pick hf.none hf rfl) hf rfl) hf rfl) hf rfl) hf rfl) hf rfl) hf rfl) hf rfl) hf rfl), hs⟩
       ·have hm5241 := bif_f hm5241 hb5243
        refine wpL_exit (Ql_exit (Qb_exit ?_))
        exact ⟨ms4897, Option.some.inj hm5241, hn4898, (FrD.pick (FrD.pick (FrD.pick (FrD.pick (FrD.pick (FrD.pick (FrD.pick hf.none hf rfl) hf rfl) hf rfl) hf rfl) hf rfl) hf rfl) hf rfl), hs⟩
     ·rintro a w ⟨ms5237, hr_, hn5238, hf, hs⟩
      subst hr_
      try dsimp only at hm4189
      refine wpL_nil (Qb_normal ?_)
      refine wpL_region ?_
      refine sY hf hs rfl rfl rfl (Y_move rfl rfl) ?_; clear hf; intro a hf
      refine sY hf hs rfl rfl rfl (Y_add rfl rfl rfl) ?_; clear hf; intro a hf
      refine sY hf hs rfl rfl rfl (Y_assign rfl rfl) ?_; clear hf; intro a hf
      refine wpO_nil ?_
      refine wpL_nil (Ql_normal ?_)
      exact ⟨ms5237, (IntKind.i64.wrap (x2795 + 1)), A4218, ms4220.length, c4219, (vs2794 ++ ([Value.slice A4203 xs4202.length c4205])), hm4189, hn5238, (FrD.pick (FrD.pick (FrD.pick (FrD.pick (FrD.pick (FrD.pick (FrD.pick hf.none hf rfl) hf rfl) hf rfl) hf rfl) hf rfl) hf rfl) hf rfl), hs⟩
   ·have hm4189 := bif_f hm4189 hb4191
    refine wpL_exit (Ql_exit (Qb_exit ?_))
    exact ⟨ms2789, A2790, n2791, c2792, vs2794, Option.some.inj hm4189, hn2793, (FrD.pick hf.none hf rfl), hs.sel [3] (by decide)⟩
 ·rintro a w ⟨ms4181, A4182, n4183, c4184, vs4186, hr_, hn4185, hf, hs⟩
  subst hr_
  try dsimp only at hm
  refine wpL_seq <| wpL_region ?_
  refine sY hf hs rfl rfl rfl (Y_move rfl rfl) ?_; clear hf; intro a hf
  refine sY hf hs rfl rfl rfl (Y_assign rfl rfl) ?_; clear hf; intro a hf
  refine wpO_nil ?_
  obtain rfl := Option.some.inj hm
  refine wpL_ret (ret_tmp rfl hf rfl ?_)
  exact ⟨_, rfl, A4182, n4183, c4184, vs4186, rfl, hn4185, hs⟩

set_option maxRecDepth 100000 in
theorem spec_DelayTable_ok (F : Nat) (ah : GEventGraph) (ag : Option Addr) (ax ai : Nat) (aB : ax = ah.Places.length) (ap : GTimetable) (ao : Option Addr) (aJ aq : Nat) (aQ : aJ = ap.Starts.length) (aD : List Int) (aE : Option Addr) (aN aI : Nat) (aU : aN = aD.length) (cE : Int) (r : List (List Int) × Int) (W : World) (hm : spec_DelayTable F ah ap aD cE = some r) (ay : Rd W ag ((recs GPlace.cells) ah.Places)) (aM : Rd W ao (ints ap.Starts)) (aR : Rd W aE (ints aD)) :
  Calls Try.prog 58 [.agg #[.int .i64 ah.Events, .slice ag ax ai], .agg #[.int .i64 ap.Period, .slice ao aJ aq], .slice aE aN aI, .int .i64 cE].toArray W fun e w' => ∃ v, e = .returned v ∧ ∃ A16, ∃ n17, ∃ c18, ∃ vs20, v = .tuple #[.slice A16 n17 c18, .int .i64 r.2] ∧ n17 = r.1.length ∧ St [] W w' [.mat A16 n17 c18 28 2 vs20 r.1] := by
 subst aB
 subst aQ
 subst aU
 unfold spec_DelayTable at hm
 refine Calls.enter (N := 25) Try.func58 rfl rfl rfl (fun a hf => ?_)
 have hs := St.start W
 obtain ⟨w, hw_⟩ : ∃ w, w = W := ⟨W, rfl⟩
 clear hw_ w
 refine wpL_seq <| wpL_region ?_
 refine sBox hf hs rfl rfl rfl rfl rfl (cs := [.int .i64 ah.Events, .slice ag ah.Places.length ai]) rfl ?_; clear hf hs; intro a w b1 hs hf
 have hs : St _ W w [.blk b1 55 [.int .i64 ah.Events, .slice ag ah.Places.length ai]] := hs
 refine sBox hf hs rfl rfl rfl rfl rfl (cs := [.int .i64 ap.Period, .slice ao ap.Starts.length aq]) rfl ?_; clear hf hs; intro a w b2 hs hf
 have hs : St _ W w [_, .blk b2 66 [.int .i64 ap.Period, .slice ao ap.Starts.length aq]] := hs
 refine sY hf hs rfl rfl rfl (Y_assign rfl rfl) ?_; clear hf; intro a hf
 refine sY hf hs rfl rfl rfl (Y_assign rfl rfl) ?_; clear hf; intro a hf
 refine wpO_nil <| wpL_seq ?_
 refine wpL_draw (by kernel_rfl) (by kernel_rfl) hs ?_
 refine qY hf rfl rfl rfl (Y_load_blkS rfl rfl (i := 0) rfl ag55 ti55 rfl) ?_; clear hf; intro a hf
 refine qY hf rfl rfl rfl (Y_load_blkS rfl rfl (i := 1) rfl ag66 ti66 rfl) ?_; clear hf; intro a hf
 refine qY hf rfl rfl rfl (Y_move rfl rfl) ?_; clear hf; intro a hf
 refine qY hf rfl rfl rfl (Y_move rfl rfl) ?_; clear hf; intro a hf
 obtain ⟨r3, hc4, hm⟩ := bind_some hm
 refine qCall hf rfl rfl rfl rfl (cap := []) rfl rfl en77 (v := .bool r3) (fun w hs => Calls.scal (spec_l01In_ok F cE 0 50 _ _ hc4)) ?_; clear hf; intro a hf
 obtain ⟨r5, hc6, hm⟩ := bind_some hm
 refine qCall hf rfl rfl rfl rfl (cap := []) rfl rfl en131 (v := .int .i64 r5) (fun w hs => Calls.scal (spec_l21Code_ok F ah ag ah.Places.length ai rfl ap ao ap.Starts.length aq rfl aD aE aD.length aI rfl r3 _ _ hc6 (ay.at hs) (aM.at hs) (aR.at hs))) ?_; clear hf; intro a hf
 refine qY hf rfl rfl rfl (Y_assign rfl rfl) ?_; clear hf; intro a hf
 refine qNil ?_; clear hs; intro w hs
 refine wpL_seq <| wpL_seq <| wpL_region ?_
 refine sY hf hs rfl rfl rfl (Y_move rfl rfl) ?_; clear hf; intro a hf
 refine sY hf hs rfl rfl rfl (Y_neq rfl rfl rfl) ?_; clear hf; intro a hf
 refine wpO_nil ?_
 refine wpL_cond hf rfl (fun hb7 => ?_) (fun hb7 => ?_)
 ·have hm := bif_t hm hb7
  refine wpL_seq <| wpL_region ?_
  refine sY hf hs rfl rfl rfl (Y_move rfl rfl) ?_; clear hf; intro a hf
  refine sY hf hs rfl rfl rfl (Y_assign rfl rfl) ?_; clear hf; intro a hf
  refine sY hf hs rfl rfl rfl (Y_assign rfl rfl) ?_; clear hf; intro a hf
  refine wpO_nil ?_
  have hs : St [] W _ [.blk b1 55 [.int .i64 ah.Events, .slice ag ah.Places.length ai], .blk b2 66 [.int .i64 ap.Period, .slice ao ap.Starts.length aq], .mat none 0 0 28 2 [] ([] : List (List Int))] := hs.addNilM 28 2
  obtain rfl := Option.some.inj hm
  refine wpL_ret (ret_tmp2 rfl hf rfl rfl ?_)
  exact ⟨_, rfl, none, 0, 0, [], rfl, rfl, hs.sel [2] (by decide)⟩
 ·have hm := bif_f hm hb7
  refine wpL_skip <| wpL_seq <| wpL_region ?_
  refine sY hf hs rfl rfl rfl (Y_load_blkS rfl rfl (i := 0) rfl ag55 ti55 rfl) ?_; clear hf; intro a hf
  refine sY hf hs rfl rfl rfl (Y_load_blkS rfl rfl (i := 1) rfl ag66 ti66 rfl) ?_; clear hf; intro a hf
  refine sY hf hs rfl rfl rfl (Y_move rfl rfl) ?_; clear hf; intro a hf
  refine sY hf hs rfl rfl rfl (Y_move rfl rfl) ?_; clear hf; intro a hf
  obtain ⟨r9, hc10, hm⟩ := bind_some hm
  refine sCall hf rfl rfl rfl rfl (cap := []) rfl rfl en132 (spec_l21Table_ok F ah ag ah.Places.length ai rfl ap ao ap.Starts.length aq rfl aD aE aD.length aI rfl cE _ _ hc10 (ay.at hs) (aM.at hs) (aR.at hs)) ?_; clear hf
  rintro _ w ⟨A11, n12, c13, vs15, rfl, hn14, hs1⟩ a hf
  have hs : St _ W w [_, _, .mat A11 n12 c13 28 2 vs15 r9] := hs.join hs1
  clear hs1
  refine sY hf hs rfl rfl rfl (Y_assign rfl rfl) ?_; clear hf; intro a hf
  refine sY hf hs rfl rfl rfl (Y_assign rfl rfl) ?_; clear hf; intro a hf
  refine wpO_nil ?_
  obtain rfl := Option.some.inj hm
  refine wpL_ret (ret_tmp2 rfl hf rfl rfl ?_)
  exact ⟨_, rfl, A11, n12, c13, vs15, rfl, hn14, hs.sel [2] (by decide)⟩

set_option maxRecDepth 100000 in
theorem spec_DrawWorstDelays_ok (F : Nat) (ad : List Int) (av : Option Addr) (bi az : Nat) (bD : bi = ad.length) (r : GEventGraph × GTimetable × List Int) (W : World) (hm : spec_DrawWorstDelays F ad = some r) (bl : Rd W av (bytes ad)) :
  Calls Try.prog 59 [.slice av bi az].toArray W fun e w' => ∃ v, e = .returned v ∧ ∃ A20, ∃ n21, ∃ c22, ∃ A24, ∃ n25, ∃ c26, ∃ A28, ∃ n29, ∃ c30, v = .tuple #[.agg #[.int .i64 r.1.Events, .slice A20 n21 c22], .agg #[.int .i64 r.2.1.Period, .slice A24 n25 c26], .slice A28 n29 c30] ∧ n21 = r.1.Places.length ∧ n25 = r.2.1.Starts.length ∧ n29 = r.2.2.length ∧ St [] W w' [.row A20 n21 c22 64 4 ((recs GPlace.cells) r.1.Places), .row A24 n25 c26 2 1 (ints r.2.1.Starts), .row A28 n29 c30 2 1 (ints r.2.2)] := by
 subst bD
 unfold spec_DrawWorstDelays at hm
 refine Calls.enter (N := 11) Try.func59 rfl rfl rfl (fun a hf => ?_)
 have hs := St.start W
 obtain ⟨w, hw_⟩ : ∃ w, w = W := ⟨W, rfl⟩
 clear hw_ w
 refine wpL_seq <| wpL_region ?_
 refine sAlloc hf hs rfl rfl rfl rfl ti55 ?_; clear hf hs; intro a w b1 hs hf
 have hs : St _ W w [.blk b1 55 [.int .i64 0, .slice none 0 0]] := hs
 refine sAlloc hf hs rfl rfl rfl rfl ti66 ?_; clear hf hs; intro a w b2 hs hf
 have hs : St _ W w [_, .blk b2 66 [.int .i64 0, .slice none 0 0]] := hs
 refine sY hf hs rfl rfl rfl (Y_assign rfl rfl) ?_; clear hf; intro a hf
 refine wpO_nil <| wpL_seq <| wpL_region ?_
 refine sY hf hs rfl rfl rfl (Y_move rfl rfl) ?_; clear hf; intro a hf
 obtain ⟨r3, hc4, hm⟩ := bind_some hm
 refine sCall hf rfl rfl rfl rfl (cap := []) rfl rfl en65 (spec_l01From_ok F ad av ad.length az rfl _ _ hc4 (bl.at hs)) ?_; clear hf
 rintro _ w ⟨b5, rfl, hs1⟩ a hf
 have hs : St _ W w [_, _, .blk b5 149 [.slice av ad.length az, .int .i64 r3.1, .int .i64 r3.2]] := hs.join hs1
 clear hs1
 obtain ⟨r6, hc7, hm⟩ := bind_some hm
 refine sCall hf rfl rfl rfl rfl (cap := []) rfl rfl en128 (spec_l21Draw_ok F b5 ad av ad.length az rfl r3.1 r3.2 _ _ hc7 (bl.pass hs [2]) (hs.sel [2] (by decide)).rebase) ?_; clear hf
 rintro _ w ⟨A8, n9, c10, A12, n13, c14, A16, n17, c18, rfl, hn11, hn15, hn19, hs1⟩ a hf
 have hs : St _ W w [_, _, .row A8 n9 c10 64 4 ((recs GPlace.cells) r6.1.1.Places), .row A12 n13 c14 2 1 (ints r6.1.2.1.Starts), .row A16 n17 c18 2 1 (ints r6.1.2.2), .blk b5 149 [.slice av ad.length az, .int .i64 r6.2.1, .int .i64 r6.2.2]] := St.mutTail (La := [_, _]) (Lb := [_]) (hs.sel [0, 1, 2] (by decide)) hs1
 clear hs1
 refine sY hf hs rfl rfl rfl (Y_extract rfl rfl rfl) ?_; clear hf; intro a hf
 refine sY hf hs rfl rfl rfl (Y_extract rfl rfl rfl) ?_; clear hf; intro a hf
 refine sY hf hs rfl rfl rfl (Y_extract rfl rfl rfl) ?_; clear hf; intro a hf
 refine sStore (i := 0) (us := [.int .i64 r6.1.1.Events, .slice A8 n9 c10]) hf hs rfl rfl rfl rfl rfl rfl ti55 rfl rfl rfl (Nat.le_of_ble_eq_true rfl) rfl ?_; clear hs; intro w hs
 have hs : St _ W w [.blk b1 55 [.int .i64 r6.1.1.Events, .slice A8 n9 c10], _, _, _, _, _] := hs
 refine sStore (i := 1) (us := [.int .i64 r6.1.2.1.Period, .slice A12 n13 c14]) hf hs rfl rfl rfl rfl rfl rfl ti66 rfl rfl rfl (Nat.le_of_ble_eq_true rfl) rfl ?_; clear hs; intro w hs
 have hs : St _ W w [_, .blk b2 66 [.int .i64 r6.1.2.1.Period, .slice A12 n13 c14], _, _, _, _] := hs
 refine sY hf hs rfl rfl rfl (Y_assign rfl rfl) ?_; clear hf; intro a hf
 refine wpO_nil ?_
 obtain rfl := Option.some.inj hm
 refine wpL_ret (ret_cell2t rfl hf rfl rfl rfl hs (i := 0) (j := 1) rfl rfl ag55 ti55 ag66 ti66 rfl rfl ?_)
 exact ⟨_, rfl, A8, n9, c10, A12, n13, c14, A16, n17, c18, rfl, hn11, hn15, hn19, hs.sel [2, 3, 4] (by decide)⟩

set_option maxRecDepth 100000 in
theorem impl_settledTable_ok (F : Nat) (ah : GEventGraph) (ag : Option Addr) (ax ai : Nat) (aB : ax = ah.Places.length) (ap : GTimetable) (ao : Option Addr) (aJ aq : Nat) (aQ : aJ = ap.Starts.length) (aD : List Int) (aE : Option Addr) (aN aI : Nat) (aU : aN = aD.length) (r : List (List Int) × Int × Int) (W : World) (hm : impl_settledTable F ah ap aD = some r) (ay : Rd W ag ((recs GPlace.cells) ah.Places)) (aM : Rd W ao (ints ap.Starts)) (aR : Rd W aE (ints aD)) :
  Calls Try.prog 133 [.agg #[.int .i64 ah.Events, .slice ag ax ai], .agg #[.int .i64 ap.Period, .slice ao aJ aq], .slice aE aN aI].toArray W fun e w' => ∃ v, e = .returned v ∧ ∃ A99, ∃ n100, ∃ c101, ∃ vs103, v = .tuple #[.slice A99 n100 c101, .int .i64 r.2.1, .int .i64 r.2.2] ∧ n100 = r.1.length ∧ St [] W w' [.mat A99 n100 c101 28 2 vs103 r.1] := by
 subst aB
 subst aQ
 subst aU
 unfold impl_settledTable at hm
 refine Calls.enter (N := 33) Try.func133 rfl rfl rfl (fun a hf => ?_)
 have hs := St.start W
 obtain ⟨w, hw_⟩ : ∃ w, w = W := ⟨W, rfl⟩
 clear hw_ w
 refine wpL_seq <| wpL_region ?_
 refine sBox hf hs rfl rfl rfl rfl rfl (cs := [.int .i64 ah.Events, .slice ag ah.Places.length ai]) rfl ?_; clear hf hs; intro a w b1 hs hf
 have hs : St _ W w [.blk b1 55 [.int .i64 ah.Events, .slice ag ah.Places.length ai]] := hs
 refine sBox hf hs rfl rfl rfl rfl rfl (cs := [.int .i64 ap.Period, .slice ao ap.Starts.length aq]) rfl ?_; clear hf hs; intro a w b2 hs hf
 have hs : St _ W w [_, .blk b2 66 [.int .i64 ap.Period, .slice ao ap.Starts.length aq]] := hs
 refine sY hf hs rfl rfl rfl (Y_assign rfl rfl) ?_; clear hf; intro a hf
 refine sY hf hs rfl rfl rfl (Y_assign rfl rfl) ?_; clear hf; intro a hf
 refine sY hf hs rfl rfl rfl (Y_assign rfl rfl) ?_; clear hf; intro a hf
 refine wpO_nil <| wpL_seq <| wpL_region ?_
 refine sY hf hs rfl rfl rfl (Y_load_blkS rfl rfl (i := 0) rfl ag55 ti55 rfl) ?_; clear hf; intro a hf
 refine sY hf hs rfl rfl rfl (Y_load_blkS rfl rfl (i := 1) rfl ag66 ti66 rfl) ?_; clear hf; intro a hf
 refine sY hf hs rfl rfl rfl (Y_move rfl rfl) ?_; clear hf; intro a hf
 obtain ⟨r3, hc4, hm⟩ := bind_some hm
 refine sCall hf rfl rfl rfl rfl (cap := []) rfl rfl en130 (impl_delayTable_ok F ah ag ah.Places.length ai rfl ap ao ap.Starts.length aq rfl aD aE aD.length aI rfl 50 _ _ hc4 (ay.at hs) (aM.at hs) (aR.at hs)) ?_; clear hf
 rintro _ w ⟨A5, n6, c7, vs9, rfl, hn8, hs1⟩ a hf
 have hs : St _ W w [_, _, .mat A5 n6 c7 28 2 vs9 r3] := hs.join hs1
 clear hs1
 refine sY hf hs rfl rfl rfl (Y_assign rfl rfl) ?_; clear hf; intro a hf
 refine wpO_nil <| wpL_seq <| wpL_region ?_
 refine sY hf hs rfl rfl rfl (Y_move rfl rfl) ?_; clear hf; intro a hf
 refine sY hf hs rfl rfl rfl (Y_lenH rfl rfl el40 hn8) ?_; clear hf; intro a hf
 refine sY hf hs rfl rfl rfl (Y_assign rfl rfl) ?_; clear hf; intro a hf
 refine wpO_nil <| wpL_seq ?_
 obtain ⟨r73, hl74, hm⟩ := bind_some hm
 refine wpL_block (fun a w => ∃ x72 : Int, x72 = r73 ∧ Fr a 33 [(9, .slice A5 n6 c7), (10, .int .i64 x72)] ∧ St [] W w [.mat A5 n6 c7 28 2 vs9 r3]) ?_ ?_
 ·refine wpL_loop (fun n a w => ∃ x51 : Int, impl_settledTable_L1 F r3 n x51 = some r73 ∧ Fr a 33 [(9, .slice A5 n6 c7), (10, .int .i64 x51)] ∧ St [] W w [.mat A5 n6 c7 28 2 vs9 r3]) F ?_ ?_ ?_
  ·exact ⟨(r3.length : Int), hl74, (FrD.pick (FrD.pick hf.none hf rfl) hf rfl), hs.sel [2] (by decide)⟩
  ·rintro a w ⟨x51, h0_, -, -⟩; simp [impl_settledTable_L1] at h0_
  ·rintro n76 a w ⟨x51, hm75, hf, hs⟩
   rw [impl_settledTable_L1] at hm75
   refine wpL_seq <| wpL_seq ?_
   obtain ⟨r86, hj87, hm75⟩ := bind_some hm75
   refine wpL_cut (fun a w => ∃ b85 : Bool, b85 = r86 ∧ Fr a 33 [(9, .slice A5 n6 c7), (10, .int .i64 x51), (26, .bool b85)] ∧ St [] W w [.mat A5 n6 c7 28 2 vs9 r3]) ?_ ?_
   ·refine wpL_region ?_
    refine sY hf hs rfl rfl rfl (Y_move rfl rfl) ?_; clear hf; intro a hf
    refine sY hf hs rfl rfl rfl (Y_gtr rfl rfl rfl) ?_; clear hf; intro a hf
    refine sY hf hs rfl rfl rfl (Y_move rfl rfl) ?_; clear hf; intro a hf
    refine bsplit (decide (0 < x51)) (fun hb88 => ?_) (fun hb88 => ?_)
    ·have hj87 := bif_t hj87 hb88
     refine sYg hf hs rfl rfl rfl (congrArg (fun b => some (Value.bool b)) hb88) rfl rfl rfl (Y_move rfl rfl) ?_; clear hf; intro a hf
     refine sYg hf hs rfl rfl rfl (congrArg (fun b => some (Value.bool b)) hb88) rfl rfl rfl (Y_move rfl rfl) ?_; clear hf; intro a hf
     refine sYg hf hs rfl rfl rfl (congrArg (fun b => some (Value.bool b)) hb88) rfl rfl rfl (Y_sub rfl rfl rfl) ?_; clear hf; intro a hf
     obtain ⟨q89, hi90, hj87⟩ := bind_some hj87
     obtain ⟨hi90a, hi90b, hi90q⟩ := idx_some hi90
     obtain ⟨A91, c92, hv93⟩ := hs.matRow (i := 0) rfl hi90q
     refine sYg hf hs rfl rfl rfl (congrArg (fun b => some (Value.bool b)) hb88) rfl rfl rfl (Y_index rfl rfl rfl el40 ti28 (Rd.isAt (hs.rdV (i := 0) rfl) hv93) hi90a (ltn hn8 hi90b)) ?_; clear hf; intro a hf
     refine sYg hf hs rfl rfl rfl (congrArg (fun b => some (Value.bool b)) hb88) rfl rfl rfl (Y_load_rd rfl rfl (fun w hs => hs.rdV (i := 0) rfl) (at1 hv93) ag28) ?_; clear hf; intro a hf
     obtain ⟨r94, hc95, hj87⟩ := bind_some hj87
     refine sCallg hf rfl rfl rfl (congrArg (fun b => some (Value.bool b)) hb88) rfl rfl rfl rfl (cap := []) rfl rfl en74 (impl_allWithin_ok F q89 A91 q89.length c92 rfl 0 0 _ _ hc95 (hs.rdRow (i := 0) rfl ⟨hi90q, hv93⟩)) ?_; clear hf
     rintro _ w ⟨rfl, hs1⟩ a hf
     have hs : St _ W w [_] := hs.ext hs1.below
     clear hs1
     refine sY hf hs rfl rfl rfl (Y_pickT rfl (congrArg (fun b => some (Value.bool b)) hb88) rfl) ?_; clear hf; intro a hf
     refine wpO_nil ?_
     refine wpL_nil (then_normal ?_)
     exact ⟨r94, Option.some.inj hj87, (FrD.pick (FrD.pick (FrD.pick hf.none hf rfl) hf rfl) hf rfl), hs⟩
    ·have hj87 := bif_f hj87 hb88
     refine sNo hf rfl rfl rfl (congrArg (fun b => some (Value.bool b)) hb88) rfl rfl rfl ?_; clear hf; intro a hf
     refine sNo hf rfl rfl rfl (congrArg (fun b => some (Value.bool b)) hb88) rfl rfl rfl ?_; clear hf; intro a hf
     refine sNo hf rfl rfl rfl (congrArg (fun b => some (Value.bool b)) hb88) rfl rfl rfl ?_; clear hf; intro a hf
     refine sNo hf rfl rfl rfl (congrArg (fun b => some (Value.bool b)) hb88) rfl rfl rfl ?_; clear hf; intro a hf
     refine sNo hf rfl rfl rfl (congrArg (fun b => some (Value.bool b)) hb88) rfl rfl rfl ?_; clear hf; intro a hf
     refine sNo hf rfl rfl rfl (congrArg (fun b => some (Value.bool b)) hb88) rfl rfl rfl ?_; clear hf; intro a hf
     refine sY hf hs rfl rfl rfl (Y_pickF rfl (congrArg (fun b => some (Value.bool b)) hb88) rfl) ?_; clear hf; intro a hf
     refine wpO_nil ?_
     refine wpL_nil (then_normal ?_)
     exact ⟨false, Option.some.inj hj87, (FrD.pick (FrD.pick (FrD.pick hf.none hf rfl) hf rfl) hf rfl), hs⟩
   ·rintro a w ⟨b85, hr_, hf, hs⟩
    subst hr_
    try dsimp only at hm75
    refine wpL_cond hf rfl (fun hb96 => ?_) (fun hb96 => ?_)
    ·have hm75 := bif_t hm75 hb96
     refine wpL_skip <| wpL_block0 <| wpL_region ?_
     refine sY hf hs rfl rfl rfl (Y_move rfl rfl) ?_; clear hf; intro a hf
     refine sY hf hs rfl rfl rfl (Y_sub rfl rfl rfl) ?_; clear hf; intro a hf
     refine sY hf hs rfl rfl rfl (Y_assign rfl rfl) ?_; clear hf; intro a hf
     refine wpO_nil ?_
     refine wpL_nil (Qb_normal ?_)
     refine wpL_nil (Ql_normal ?_)
     exact ⟨(IntKind.i64.wrap (x51 - 1)), hm75, (FrD.pick (FrD.pick hf.none hf rfl) hf rfl), hs⟩
    ·have hm75 := bif_f hm75 hb96
     refine wpL_exit (Ql_exit (Qb_exit ?_))
     exact ⟨x51, Option.some.inj hm75, (FrD.pick (FrD.pick hf.none hf rfl) hf rfl), hs⟩
 ·rintro a w ⟨x72, hr_, hf, hs⟩
  subst hr_
  try dsimp only at hm
  refine wpL_seq <| wpL_seq <| wpL_region ?_
  refine sY hf hs rfl rfl rfl (Y_move rfl rfl) ?_; clear hf; intro a hf
  refine sY hf hs rfl rfl rfl (Y_gtr rfl rfl rfl) ?_; clear hf; intro a hf
  refine wpO_nil ?_
  refine wpL_cond hf rfl (fun hb97 => ?_) (fun hb97 => ?_)
  ·have hm := bif_t hm hb97
   refine wpL_seq <| wpL_region ?_
   refine sY hf hs rfl rfl rfl (Y_assign rfl rfl) ?_; clear hf; intro a hf
   refine sY hf hs rfl rfl rfl (Y_assign rfl rfl) ?_; clear hf; intro a hf
   refine sY hf hs rfl rfl rfl (Y_assign rfl rfl) ?_; clear hf; intro a hf
   refine wpO_nil ?_
   have hs : St [] W _ [.mat A5 n6 c7 28 2 vs9 r3, .mat none 0 0 28 2 [] ([] : List (List Int))] := hs.addNilM 28 2
   obtain rfl := Option.some.inj hm
   refine wpL_ret (ret_tmp3 rfl hf rfl rfl rfl ?_)
   exact ⟨_, rfl, none, 0, 0, [], rfl, rfl, hs.sel [1] (by decide)⟩
  ·have hm := bif_f hm hb97
   refine wpL_skip <| wpL_seq <| wpL_region ?_
   refine sY hf hs rfl rfl rfl (Y_move rfl rfl) ?_; clear hf; intro a hf
   refine sY hf hs rfl rfl rfl (Y_move rfl rfl) ?_; clear hf; intro a hf
   refine sY hf hs rfl rfl rfl (Y_assign rfl rfl) ?_; clear hf; intro a hf
   refine sY hf hs rfl rfl rfl (Y_assign rfl rfl) ?_; clear hf; intro a hf
   refine sY hf hs rfl rfl rfl (Y_assign rfl rfl) ?_; clear hf; intro a hf
   refine wpO_nil ?_
   obtain rfl := Option.some.inj hm
   refine wpL_ret (ret_tmp3 rfl hf rfl rfl rfl ?_)
   exact ⟨_, rfl, A5, n6, c7, vs9, rfl, hn8, hs⟩

set_option maxRecDepth 100000 in
theorem impl_worstOf_ok (F : Nat) (ah : GEventGraph) (ag : Option Addr) (ax ai : Nat) (aB : ax = ah.Places.length) (bW : List (List Int)) (cf : Option Addr) (cJ co : Nat) (cO : cJ = bW.length) (r : List Int) (W : World) (hm : impl_worstOf F ah bW = some r) (_h_p0_g_1 : Rd W ag ((recs GPlace.cells) ah.Places)) (cU : RdM W cf bW) :
  Calls Try.prog 134 [.agg #[.int .i64 ah.Events, .slice ag ax ai], .slice cf cJ co].toArray W fun e w' => ∃ v, e = .returned v ∧ ∃ A249, ∃ n250, ∃ c251, v = .slice A249 n250 c251 ∧ n250 = r.length ∧ St [] W w' [.row A249 n250 c251 2 1 (ints r)] := by
 subst aB
 subst cO
 unfold impl_worstOf at hm
 refine Calls.enter (N := 38) Try.func134 rfl rfl rfl (fun a hf => ?_)
 have hs := St.start W
 obtain ⟨w, hw_⟩ : ∃ w, w = W := ⟨W, rfl⟩
 clear hw_ w
 refine wpL_seq <| wpL_region ?_
 refine sBox hf hs rfl rfl rfl rfl rfl (cs := [.int .i64 ah.Events, .slice ag ah.Places.length ai]) rfl ?_; clear hf hs; intro a w b1 hs hf
 have hs : St _ W w [_] := hs
 refine sY hf hs rfl rfl rfl (Y_assign rfl rfl) ?_; clear hf; intro a hf
 refine wpO_nil <| wpL_seq <| wpL_region ?_
 refine sY hf hs rfl rfl rfl (Y_fieldAddr rfl rfl fo55_0) ?_; clear hf; intro a hf
 refine sY hf hs rfl rfl rfl (Y_load_blk rfl rfl (i := 0) rfl rfl ag2) ?_; clear hf; intro a hf
 obtain ⟨xs4, hk3, hm⟩ := bind_some hm
 refine sMakeL (enc := ints) hf hs rfl rfl rfl rfl rfl hk3 el28 ti2 rfl ints_made ?_; clear hf hs; intro a w A2 hs hf
 have hs : St _ W w [_, .row A2 xs4.length xs4.length 2 1 (ints xs4)] := hs
 refine sY hf hs rfl rfl rfl (Y_assign rfl rfl) ?_; clear hf; intro a hf
 refine wpO_nil <| wpL_seq <| wpL_seq <| wpL_region ?_
 refine sY hf hs rfl rfl rfl (Y_move rfl rfl) ?_; clear hf; intro a hf
 refine sY hf hs rfl rfl rfl (Y_lenH rfl rfl el40 rfl) ?_; clear hf; intro a hf
 refine sY hf hs rfl rfl rfl (Y_move rfl rfl) ?_; clear hf; intro a hf
 refine wpO_nil ?_
 obtain ⟨r187, hl188, hm⟩ := bind_some hm
 refine wpL_block (fun a w => ∃ xs185 : List Int, xs185 = r187 ∧ xs4.length = xs185.length ∧ Fr a 38 [(5, .slice A2 xs4.length xs4.length)] ∧ St [] W w [.row A2 xs4.length xs4.length 2 1 (ints xs185)]) ?_ ?_
 ·refine wpL_loop (fun n a w => ∃ xs124 : List Int, ∃ x126 : Int, impl_worstOf_L4 F bW n xs124 x126 = some r187 ∧ xs4.length = xs124.length ∧ Fr a 38 [(5, .slice A2 xs4.length xs4.length), (13, .slice cf bW.length co), (14, .int .i64 (bW.length : Int)), (15, .int .i64 x126)] ∧ St [] W w [.row A2 xs4.length xs4.length 2 1 (ints xs124)]) F ?_ ?_ ?_
  ·exact ⟨xs4, 0, hl188, rfl, (FrD.pick (FrD.pick (FrD.pick (FrD.pick hf.none hf rfl) hf rfl) hf rfl) hf rfl), hs.sel [1] (by decide)⟩
  ·rintro a w ⟨xs124, x126, h0_, -, -, -⟩; simp [impl_worstOf_L4] at h0_
  ·rintro n190 a w ⟨xs124, x126, hm189, hn125, hf, hs⟩
   rw [impl_worstOf_L4] at hm189
   refine wpL_seq <| wpL_region ?_
   refine sY hf hs rfl rfl rfl (Y_lss rfl rfl rfl) ?_; clear hf; intro a hf
   refine wpO_nil <| wpL_seq ?_
   refine wpL_cond hf rfl (fun hb191 => ?_) (fun hb191 => ?_)
   ·have hm189 := bif_t hm189 hb191
    refine wpL_skip <| wpL_seq <| wpL_block0 <| wpL_seq <| wpL_region ?_
    obtain ⟨q192, hi193, hm189⟩ := bind_some hm189
    obtain ⟨hi193a, hi193b, hi193q⟩ := idx_some hi193
    obtain ⟨vs194, hv195, hr196⟩ := id cU
    obtain ⟨A197, c198, hv199, hR200⟩ := hr196 _ _ hi193q
    refine sY hf hs rfl rfl rfl (Y_index rfl rfl rfl el40 ti28 (Rd.isAt hv195 hv199) hi193a hi193b) ?_; clear hf; intro a hf
    refine sY hf hs rfl rfl rfl (Y_load_rd rfl rfl (fun w hs => hv195.at hs) (at1 hv199) ag28) ?_; clear hf; intro a hf
    refine sY hf hs rfl rfl rfl (Y_assign rfl rfl) ?_; clear hf; intro a hf
    refine wpO_nil <| wpL_seq <| wpL_region ?_
    refine sY hf hs rfl rfl rfl (Y_move rfl rfl) ?_; clear hf; intro a hf
    refine sY hf hs rfl rfl rfl (Y_lenH rfl rfl el28 rfl) ?_; clear hf; intro a hf
    refine sY hf hs rfl rfl rfl (Y_move rfl rfl) ?_; clear hf; intro a hf
    refine wpO_nil ?_
    obtain ⟨r236, hl237, hm189⟩ := bind_some hm189
    refine wpL_block (fun a w => ∃ xs234 : List Int, xs234 = r236 ∧ xs4.length = xs234.length ∧ Fr a 38 [(5, .slice A2 xs4.length xs4.length), (13, .slice cf bW.length co), (14, .int .i64 (bW.length : Int)), (15, .int .i64 x126)] ∧ St [] W w [.row A2 xs4.length xs4.length 2 1 (ints xs234)]) ?_ ?_
    ·refine wpL_loop (fun n a w => ∃ xs222 : List Int, ∃ x224 : Int, impl_worstOf_L5 F q192 n xs222 x224 = some r236 ∧ xs4.length = xs222.length ∧ Fr a 38 [(5, .slice A2 xs4.length xs4.length), (13, .slice cf bW.length co), (14, .int .i64 (bW.length : Int)), (15, .int .i64 x126), (19, .slice A197 q192.length c198), (20, .int .i64 (q192.length : Int)), (21, .int .i64 x224)] ∧ St [] W w [.row A2 xs4.length xs4.length 2 1 (ints xs222)]) F ?_ ?_ ?_
     ·exact ⟨xs124, 0, hl237, hn125, (FrD.pick (FrD.pick (FrD.pick (FrD.pick (FrD.pick (FrD.pick (FrD.pick hf.none hf rfl) hf rfl) hf rfl) hf rfl) hf rfl) hf rfl) hf rfl), hs⟩
     ·rintro a w ⟨xs222, x224, h0_, -, -, -⟩; simp [impl_worstOf_L5] at h0_
     ·rintro n239 a w ⟨xs222, x224, hm238, hn223, hf, hs⟩
      rw [impl_worstOf_L5] at hm238
      refine wpL_seq <| wpL_region ?_
      refine sY hf hs rfl rfl rfl (Y_lss rfl rfl rfl) ?_; clear hf; intro a hf
      refine wpO_nil <| wpL_seq ?_
      refine wpL_cond hf rfl (fun hb240 => ?_) (fun hb240 => ?_)
      ·have hm238 := bif_t hm238 hb240
       refine wpL_skip <| wpL_seq <| wpL_block0 <| wpL_seq <| wpL_region ?_
       refine sY hf hs rfl rfl rfl (Y_move rfl rfl) ?_; clear hf; intro a hf
       obtain ⟨q241, hi242, hm238⟩ := bind_some hm238
       obtain ⟨hi242a, hi242b, hi242q⟩ := idx_some hi242
       refine sY hf hs rfl rfl rfl (Y_index rfl rfl rfl el28 ti2 (Rd.isAt (hR200.at hs) (at1 (ints_at hi242q))) hi242a hi242b) ?_; clear hf; intro a hf
       refine sY hf hs rfl rfl rfl (Y_load_rd rfl rfl (fun w hs => hR200.at hs) (at1 (ints_at hi242q)) ag2) ?_; clear hf; intro a hf
       refine sY hf hs rfl rfl rfl (Y_assign rfl rfl) ?_; clear hf; intro a hf
       refine sY hf hs rfl rfl rfl (Y_assign rfl rfl) ?_; clear hf; intro a hf
       refine wpO_nil <| wpL_region ?_
       refine sY hf hs rfl rfl rfl (Y_move rfl rfl) ?_; clear hf; intro a hf
       refine sY hf hs rfl rfl rfl (Y_move rfl rfl) ?_; clear hf; intro a hf
       refine sY hf hs rfl rfl rfl (Y_move rfl rfl) ?_; clear hf; intro a hf
       refine sY hf hs rfl rfl rfl (Y_move rfl rfl) ?_; clear hf; intro a hf
       obtain ⟨q243, hi244, hm238⟩ := bind_some hm238
       obtain ⟨hi244a, hi244b, hi244q⟩ := idx_some hi244
       refine sY hf hs rfl rfl rfl (Y_index rfl rfl rfl el28 ti2 (Rd.isAt (hs.rd (i := 0) rfl) (at1 (ints_at hi244q))) hi244a (ltn hn223 hi244b)) ?_; clear hf; intro a hf
       refine sY hf hs rfl rfl rfl (Y_load_rd rfl rfl (fun w hs => hs.rd (i := 0) rfl) (at1 (ints_at hi244q)) ag2) ?_; clear hf; intro a hf
       refine sY hf hs rfl rfl rfl (Y_move rfl rfl) ?_; clear hf; intro a hf
       refine sY hf hs rfl rfl rfl (Y_max rfl rfl rfl) ?_; clear hf; intro a hf
       obtain ⟨q245, hi246, hm238⟩ := bind_some hm238
       obtain ⟨hi246a, hi246b, hi246q⟩ := idx_some hi246
       refine sY hf hs rfl rfl rfl (Y_index rfl rfl rfl el28 ti2 (Rd.isAt (hs.rd (i := 0) rfl) (at1 (ints_at hi246q))) hi246a (ltn hn223 hi246b)) ?_; clear hf; intro a hf
       obtain ⟨xs247, hu248, hm238⟩ := bind_some hm238
       refine sStoreL (i := 0) (us := [.int .i64 (max q243 q241)]) (enc := ints) hf hs rfl rfl rfl rfl rfl rfl hn223 hu248 ti2 rfl rfl rfl rfl rfl ints_len1 (ints_set (max q243 q241)) ?_; clear hs; intro w hs
       have hs : St _ W w [.row A2 xs4.length xs4.length 2 1 (ints xs247)] := hs
       refine wpO_nil ?_
       refine wpL_nil (Qb_normal ?_)
       refine wpL_region ?_
       refine sY hf hs rfl rfl rfl (Y_add rfl rfl rfl) ?_; clear hf; intro a hf
       refine sY hf hs rfl rfl rfl (Y_move rfl rfl) ?_; clear hf; intro a hf
       refine wpO_nil ?_
       refine wpL_nil (Ql_normal ?_)
       exact ⟨xs247, (IntKind.i64.wrap (x224 + 1)), hm238, ((hn223).trans (upd_len hu248).symm), (FrD.pick (FrD.pick (FrD.pick (FrD.pick (FrD.pick (FrD.pick (FrD.pick hf.none hf rfl) hf rfl) hf rfl) hf rfl) hf rfl) hf rfl) hf rfl), hs⟩
      ·have hm238 := bif_f hm238 hb240
       refine wpL_exit (Ql_exit (Qb_exit ?_))
       exact ⟨xs222, Option.some.inj hm238, hn223, (FrD.pick (FrD.pick (FrD.pick (FrD.pick hf.none hf rfl) hf rfl) hf rfl) hf rfl), hs⟩
    ·rintro a w ⟨xs234, hr_, hn235, hf, hs⟩
     subst hr_
     try dsimp only at hm189
     refine wpL_nil (Qb_normal ?_)
     refine wpL_region ?_
     refine sY hf hs rfl rfl rfl (Y_add rfl rfl rfl) ?_; clear hf; intro a hf
     refine sY hf hs rfl rfl rfl (Y_move rfl rfl) ?_; clear hf; intro a hf
     refine wpO_nil ?_
     refine wpL_nil (Ql_normal ?_)
     exact ⟨xs234, (IntKind.i64.wrap (x126 + 1)), hm189, hn235, (FrD.pick (FrD.pick (FrD.pick (FrD.pick hf.none hf rfl) hf rfl) hf rfl) hf rfl), hs⟩
   ·have hm189 := bif_f hm189 hb191
    refine wpL_exit (Ql_exit (Qb_exit ?_))
    exact ⟨xs124, Option.some.inj hm189, hn125, (FrD.pick hf.none hf rfl), hs⟩
 ·rintro a w ⟨xs185, hr_, hn186, hf, hs⟩
  subst hr_
  try dsimp only at hm
  refine wpL_seq <| wpL_region ?_
  refine sY hf hs rfl rfl rfl (Y_move rfl rfl) ?_; clear hf; intro a hf
  refine sY hf hs rfl rfl rfl (Y_assign rfl rfl) ?_; clear hf; intro a hf
  refine wpO_nil ?_
  obtain rfl := Option.some.inj hm
  refine wpL_ret (ret_tmp rfl hf rfl ?_)
  exact ⟨_, rfl, A2, xs4.length, xs4.length, rfl, hn186, hs⟩

set_option maxRecDepth 100000 in
theorem impl_WorstDelays_ok (F : Nat) (ah : GEventGraph) (ag : Option Addr) (ax ai : Nat) (aB : ax = ah.Places.length) (ap : GTimetable) (ao : Option Addr) (aJ aq : Nat) (aQ : aJ = ap.Starts.length) (aD : List Int) (aE : Option Addr) (aN aI : Nat) (aU : aN = aD.length) (r : List Int × Int) (W : World) (hm : impl_WorstDelays F ah ap aD = some r) (ay : Rd W ag ((recs GPlace.cells) ah.Places)) (aM : Rd W ao (ints ap.Starts)) (aR : Rd W aE (ints aD)) :
  Calls Try.prog 60 [.agg #[.int .i64 ah.Events, .slice ag ax ai], .agg #[.int .i64 ap.Period, .slice ao aJ aq], .slice aE aN aI].toArray W fun e w' => ∃ v, e = .returned v ∧ ∃ A22, ∃ n23, ∃ c24, v = .tuple #[.slice A22 n23 c24, .int .i64 r.2] ∧ n23 = r.1.length ∧ St [] W w' [.row A22 n23 c24 2 1 (ints r.1)] := by
 subst aB
 subst aQ
 subst aU
 unfold impl_WorstDelays at hm
 refine Calls.enter (N := 33) Try.func60 rfl rfl rfl (fun a hf => ?_)
 have hs := St.start W
 obtain ⟨w, hw_⟩ : ∃ w, w = W := ⟨W, rfl⟩
 clear hw_ w
 refine wpL_seq <| wpL_region ?_
 refine sBox hf hs rfl rfl rfl rfl rfl (cs := [.int .i64 ah.Events, .slice ag ah.Places.length ai]) rfl ?_; clear hf hs; intro a w b1 hs hf
 have hs : St _ W w [_] := hs
 refine sBox hf hs rfl rfl rfl rfl rfl (cs := [.int .i64 ap.Period, .slice ao ap.Starts.length aq]) rfl ?_; clear hf hs; intro a w b2 hs hf
 have hs : St _ W w [_, .blk b2 66 [.int .i64 ap.Period, .slice ao ap.Starts.length aq]] := hs
 refine sY hf hs rfl rfl rfl (Y_assign rfl rfl) ?_; clear hf; intro a hf
 refine sY hf hs rfl rfl rfl (Y_assign rfl rfl) ?_; clear hf; intro a hf
 refine wpO_nil <| wpL_seq <| wpL_seq <| wpL_region ?_
 refine sY hf hs rfl rfl rfl (Y_load_blkS rfl rfl (i := 0) rfl ag55 ti55 rfl) ?_; clear hf; intro a hf
 refine sY hf hs rfl rfl rfl (Y_load_blkS rfl rfl (i := 1) rfl ag66 ti66 rfl) ?_; clear hf; intro a hf
 refine sY hf hs rfl rfl rfl (Y_move rfl rfl) ?_; clear hf; intro a hf
 obtain ⟨r3, hc4, hm⟩ := bind_some hm
 refine sCall hf rfl rfl rfl rfl (cap := []) rfl rfl en129 (impl_checkDelays_ok F ah ag ah.Places.length ai rfl ap ao ap.Starts.length aq rfl aD aE aD.length aI rfl true _ _ hc4 (ay.at hs) (aM.at hs) (aR.at hs)) ?_; clear hf
 rintro _ w ⟨rfl, hs1⟩ a hf
 have hs : St _ W w [_, _] := hs.ext hs1.below
 clear hs1
 refine sY hf hs rfl rfl rfl (Y_assign rfl rfl) ?_; clear hf; intro a hf
 refine wpO_nil <| wpL_seq <| wpL_region ?_
 refine sY hf hs rfl rfl rfl (Y_move rfl rfl) ?_; clear hf; intro a hf
 refine sY hf hs rfl rfl rfl (Y_neq rfl rfl rfl) ?_; clear hf; intro a hf
 refine wpO_nil ?_
 refine wpL_cond hf rfl (fun hb5 => ?_) (fun hb5 => ?_)
 ·have hm := bif_t hm hb5
  refine wpL_seq <| wpL_region ?_
  refine sY hf hs rfl rfl rfl (Y_move rfl rfl) ?_; clear hf; intro a hf
  refine sY hf hs rfl rfl rfl (Y_assign rfl rfl) ?_; clear hf; intro a hf
  refine sY hf hs rfl rfl rfl (Y_assign rfl rfl) ?_; clear hf; intro a hf
  refine wpO_nil ?_
  have hs : St [] W _ [.blk b1 55 [.int .i64 ah.Events, .slice ag ah.Places.length ai], .blk b2 66 [.int .i64 ap.Period, .slice ao ap.Starts.length aq], .row none 0 0 2 1 (ints ([] : List Int))] := hs.addNil 2 1
  obtain rfl := Option.some.inj hm
  refine wpL_ret (ret_tmp2 rfl hf rfl rfl ?_)
  exact ⟨_, rfl, none, 0, 0, rfl, rfl, hs.sel [2] (by decide)⟩
 ·have hm := bif_f hm hb5
  refine wpL_skip <| wpL_seq <| wpL_region ?_
  refine sY hf hs rfl rfl rfl (Y_load_blkS rfl rfl (i := 0) rfl ag55 ti55 rfl) ?_; clear hf; intro a hf
  refine sY hf hs rfl rfl rfl (Y_load_blkS rfl rfl (i := 1) rfl ag66 ti66 rfl) ?_; clear hf; intro a hf
  refine sY hf hs rfl rfl rfl (Y_move rfl rfl) ?_; clear hf; intro a hf
  obtain ⟨r7, hc8, hm⟩ := bind_some hm
  refine sCall hf rfl rfl rfl rfl (cap := []) rfl rfl en133 (impl_settledTable_ok F ah ag ah.Places.length ai rfl ap ao ap.Starts.length aq rfl aD aE aD.length aI rfl _ _ hc8 (ay.at hs) (aM.at hs) (aR.at hs)) ?_; clear hf
  rintro _ w ⟨A9, n10, c11, vs13, rfl, hn12, hs1⟩ a hf
  have hs : St _ W w [_, _, .mat A9 n10 c11 28 2 vs13 r7.1] := hs.join hs1
  clear hs1
  refine sY hf hs rfl rfl rfl (Y_move rfl rfl) ?_; clear hf; intro a hf
  refine sY hf hs rfl rfl rfl (Y_extract rfl rfl rfl) ?_; clear hf; intro a hf
  refine sY hf hs rfl rfl rfl (Y_extract rfl rfl rfl) ?_; clear hf; intro a hf
  refine sY hf hs rfl rfl rfl (Y_extract rfl rfl rfl) ?_; clear hf; intro a hf
  refine sY hf hs rfl rfl rfl (Y_assign rfl rfl) ?_; clear hf; intro a hf
  refine sY hf hs rfl rfl rfl (Y_assign rfl rfl) ?_; clear hf; intro a hf
  refine sY hf hs rfl rfl rfl (Y_assign rfl rfl) ?_; clear hf; intro a hf
  refine wpO_nil <| wpL_seq <| wpL_seq <| wpL_region ?_
  refine sY hf hs rfl rfl rfl (Y_move rfl rfl) ?_; clear hf; intro a hf
  refine sY hf hs rfl rfl rfl (Y_neq rfl rfl rfl) ?_; clear hf; intro a hf
  refine wpO_nil ?_
  refine wpL_cond hf rfl (fun hb14 => ?_) (fun hb14 => ?_)
  ·have hm := bif_t hm hb14
   refine wpL_seq <| wpL_region ?_
   refine sY hf hs rfl rfl rfl (Y_move rfl rfl) ?_; clear hf; intro a hf
   refine sY hf hs rfl rfl rfl (Y_assign rfl rfl) ?_; clear hf; intro a hf
   refine sY hf hs rfl rfl rfl (Y_assign rfl rfl) ?_; clear hf; intro a hf
   refine wpO_nil ?_
   have hs : St [] W _ [.blk b1 55 [.int .i64 ah.Events, .slice ag ah.Places.length ai], .blk b2 66 [.int .i64 ap.Period, .slice ao ap.Starts.length aq], .mat A9 n10 c11 28 2 vs13 r7.1, .row none 0 0 2 1 (ints ([] : List Int))] := hs.addNil 2 1
   obtain rfl := Option.some.inj hm
   refine wpL_ret (ret_tmp2 rfl hf rfl rfl ?_)
   exact ⟨_, rfl, none, 0, 0, rfl, rfl, hs.sel [3] (by decide)⟩
  ·have hm := bif_f hm hb14
   refine wpL_skip <| wpL_seq <| wpL_region ?_
   refine sY hf hs rfl rfl rfl (Y_load_blkS rfl rfl (i := 0) rfl ag55 ti55 rfl) ?_; clear hf; intro a hf
   refine sY hf hs rfl rfl rfl (Y_move rfl rfl) ?_; clear hf; intro a hf
   obtain ⟨r16, hc17, hm⟩ := bind_some hm
   refine sCall hf rfl rfl rfl rfl (cap := []) rfl rfl en134 (impl_worstOf_ok F ah ag ah.Places.length ai rfl r7.1 A9 n10 c11 hn12 _ _ hc17 (ay.at hs) (hs.rdM (i := 2) rfl)) ?_; clear hf
   rintro _ w ⟨A18, n19, c20, rfl, hn21, hs1⟩ a hf
   have hs : St _ W w [_, _, _, .row A18 n19 c20 2 1 (ints r16)] := hs.join hs1
   clear hs1
   refine sY hf hs rfl rfl rfl (Y_assign rfl rfl) ?_; clear hf; intro a hf
   refine sY hf hs rfl rfl rfl (Y_assign rfl rfl) ?_; clear hf; intro a hf
   refine wpO_nil ?_
   obtain rfl := Option.some.inj hm
   refine wpL_ret (ret_tmp2 rfl hf rfl rfl ?_)
   exact ⟨_, rfl, A18, n19, c20, rfl, hn21, hs.sel [3] (by decide)⟩

set_option maxRecDepth 100000 in
theorem spec_l16Sum_ok (F : Nat) (aW : List Int) (aV : Option Addr) (bn bo : Nat) (bG : bn = aW.length) (r : Int) (W : World) (hm : spec_l16Sum F aW = some r) (br : Rd W aV (ints aW)) :
  Calls Try.prog 199 [.slice aV bn bo].toArray W fun e w' => ∃ v, e = .returned v ∧ v = .int .i64 r ∧ St [] W w' [] := by
 subst bG
 unfold spec_l16Sum at hm
 refine Calls.enter (N := 18) Try.func199 rfl rfl rfl (fun a hf => ?_)
 have hs := St.start W
 obtain ⟨w, hw_⟩ : ∃ w, w = W := ⟨W, rfl⟩
 clear hw_ w
 refine wpL_seq <| wpL_region ?_
 refine sY hf hs rfl rfl rfl (Y_assign rfl rfl) ?_; clear hf; intro a hf
 refine wpO_nil <| wpL_seq <| wpL_region ?_
 refine sY hf hs rfl rfl rfl (Y_assign rfl rfl) ?_; clear hf; intro a hf
 refine wpO_nil <| wpL_seq <| wpL_seq <| wpL_region ?_
 refine sY hf hs rfl rfl rfl (Y_assign rfl rfl) ?_; clear hf; intro a hf
 refine wpO_nil ?_
 obtain ⟨r15, hl16, hm⟩ := bind_some hm
 refine wpL_block (fun a w => ∃ x14 : Int, x14 = r15 ∧ Fr a 18 [(3, .int .i64 x14)] ∧ St [] W w []) ?_ ?_
 ·refine wpL_loop (fun n a w => ∃ x9 : Int, ∃ x10 : Int, spec_l16Sum_L1 F aW n x9 x10 = some r15 ∧ Fr a 18 [(0, .slice aV aW.length bo), (3, .int .i64 x9), (4, .int .i64 x10)] ∧ St [] W w []) F ?_ ?_ ?_
  ·exact ⟨0, 0, hl16, (FrD.pick (FrD.pick (FrD.pick hf.none hf rfl) hf rfl) hf rfl), hs⟩
  ·rintro a w ⟨x9, x10, h0_, -, -⟩; simp [spec_l16Sum_L1] at h0_
  ·rintro n18 a w ⟨x9, x10, hm17, hf, hs⟩
   rw [spec_l16Sum_L1] at hm17
   refine wpL_seq <| wpL_seq <| wpL_region ?_
   refine sY hf hs rfl rfl rfl (Y_move rfl rfl) ?_; clear hf; intro a hf
   refine sY hf hs rfl rfl rfl (Y_move rfl rfl) ?_; clear hf; intro a hf
   refine sY hf hs rfl rfl rfl (Y_lenH rfl rfl el28 rfl) ?_; clear hf; intro a hf
   refine sY hf hs rfl rfl rfl (Y_lss rfl rfl rfl) ?_; clear hf; intro a hf
   refine wpO_nil ?_
   refine wpL_cond hf rfl (fun hb19 => ?_) (fun hb19 => ?_)
   ·have hm17 := bif_t hm17 hb19
    refine wpL_skip <| wpL_seq <| wpL_block0 <| wpL_region ?_
    refine sY hf hs rfl rfl rfl (Y_move rfl rfl) ?_; clear hf; intro a hf
    refine sY hf hs rfl rfl rfl (Y_move rfl rfl) ?_; clear hf; intro a hf
    refine sY hf hs rfl rfl rfl (Y_move rfl rfl) ?_; clear hf; intro a hf
    obtain ⟨q20, hi21, hm17⟩ := bind_some hm17
    obtain ⟨hi21a, hi21b, hi21q⟩ := idx_some hi21
    refine sY hf hs rfl rfl rfl (Y_index rfl rfl rfl el28 ti2 (Rd.isAt (br.at hs) (at1 (ints_at hi21q))) hi21a hi21b) ?_; clear hf; intro a hf
    refine sY hf hs rfl rfl rfl (Y_load_rd rfl rfl (fun w hs => br.at hs) (at1 (ints_at hi21q)) ag2) ?_; clear hf; intro a hf
    refine sY hf hs rfl rfl rfl (Y_add rfl rfl rfl) ?_; clear hf; intro a hf
    refine sY hf hs rfl rfl rfl (Y_assign rfl rfl) ?_; clear hf; intro a hf
    refine wpO_nil ?_
    refine wpL_nil (Qb_normal ?_)
    refine wpL_region ?_
    refine sY hf hs rfl rfl rfl (Y_move rfl rfl) ?_; clear hf; intro a hf
    refine sY hf hs rfl rfl rfl (Y_add rfl rfl rfl) ?_; clear hf; intro a hf
    refine sY hf hs rfl rfl rfl (Y_assign rfl rfl) ?_; clear hf; intro a hf
    refine wpO_nil ?_
    refine wpL_nil (Ql_normal ?_)
    exact ⟨(IntKind.i64.wrap (x9 + q20)), (IntKind.i64.wrap (x10 + 1)), hm17, (FrD.pick (FrD.pick (FrD.pick hf.none hf rfl) hf rfl) hf rfl), hs⟩
   ·have hm17 := bif_f hm17 hb19
    refine wpL_exit (Ql_exit (Qb_exit ?_))
    exact ⟨x9, Option.some.inj hm17, (FrD.pick hf.none hf rfl), hs⟩
 ·rintro a w ⟨x14, hr_, hf, hs⟩
  subst hr_
  try dsimp only at hm
  refine wpL_seq <| wpL_region ?_
  refine sY hf hs rfl rfl rfl (Y_move rfl rfl) ?_; clear hf; intro a hf
  refine sY hf hs rfl rfl rfl (Y_assign rfl rfl) ?_; clear hf; intro a hf
  refine wpO_nil ?_
  obtain rfl := Option.some.inj hm
  refine wpL_ret (ret_tmp rfl hf rfl ?_)
  exact ⟨_, rfl, rfl, hs⟩

set_option maxRecDepth 100000 in
theorem spec_l21Settled_ok (F : Nat) (ah : GEventGraph) (ag : Option Addr) (ax ai : Nat) (aB : ax = ah.Places.length) (ap : GTimetable) (ao : Option Addr) (aJ aq : Nat) (aQ : aJ = ap.Starts.length) (aD : List Int) (aE : Option Addr) (aN aI : Nat) (aU : aN = aD.length) (r : List (List Int) × Int × Bool) (W : World) (hm : spec_l21Settled F ah ap aD = some r) (ay : Rd W ag ((recs GPlace.cells) ah.Places)) (aM : Rd W ao (ints ap.Starts)) (aR : Rd W aE (ints aD)) :
  Calls Try.prog 135 [.agg #[.int .i64 ah.Events, .slice ag ax ai], .agg #[.int .i64 ap.Period, .slice ao aJ aq], .slice aE aN aI].toArray W fun e w' => ∃ v, e = .returned v ∧ ∃ A55, ∃ n56, ∃ c57, ∃ vs59, v = .tuple #[.slice A55 n56 c57, .int .i64 r.2.1, .bool r.2.2] ∧ n56 = r.1.length ∧ St [] W w' [.mat A55 n56 c57 28 2 vs59 r.1] := by
 subst aB
 subst aQ
 subst aU
 unfold spec_l21Settled at hm
 refine Calls.enter (N := 32) Try.func135 rfl rfl rfl (fun a hf => ?_)
 have hs := St.start W
 obtain ⟨w, hw_⟩ : ∃ w, w = W := ⟨W, rfl⟩
 clear hw_ w
 refine wpL_seq <| wpL_region ?_
 refine sBox hf hs rfl rfl rfl rfl rfl (cs := [.int .i64 ah.Events, .slice ag ah.Places.length ai]) rfl ?_; clear hf hs; intro a w b1 hs hf
 have hs : St _ W w [_] := hs
 refine sBox hf hs rfl rfl rfl rfl rfl (cs := [.int .i64 ap.Period, .slice ao ap.Starts.length aq]) rfl ?_; clear hf hs; intro a w b2 hs hf
 have hs : St _ W w [_, _] := hs
 refine sY hf hs rfl rfl rfl (Y_assign rfl rfl) ?_; clear hf; intro a hf
 refine sY hf hs rfl rfl rfl (Y_assign rfl rfl) ?_; clear hf; intro a hf
 refine sY hf hs rfl rfl rfl (Y_assign rfl rfl) ?_; clear hf; intro a hf
 refine wpO_nil <| wpL_seq <| wpL_region ?_
 refine sY hf hs rfl rfl rfl (Y_load_blkS rfl rfl (i := 0) rfl ag55 ti55 rfl) ?_; clear hf; intro a hf
 refine sY hf hs rfl rfl rfl (Y_load_blkS rfl rfl (i := 1) rfl ag66 ti66 rfl) ?_; clear hf; intro a hf
 refine sY hf hs rfl rfl rfl (Y_move rfl rfl) ?_; clear hf; intro a hf
 obtain ⟨r3, hc4, hm⟩ := bind_some hm
 refine sCall hf rfl rfl rfl rfl (cap := []) rfl rfl en132 (spec_l21Table_ok F ah ag ah.Places.length ai rfl ap ao ap.Starts.length aq rfl aD aE aD.length aI rfl 50 _ _ hc4 (ay.at hs) (aM.at hs) (aR.at hs)) ?_; clear hf
 rintro _ w ⟨A5, n6, c7, vs9, rfl, hn8, hs1⟩ a hf
 have hs : St _ W w [_, _, .mat A5 n6 c7 28 2 vs9 r3] := hs.join hs1
 clear hs1
 refine sY hf hs rfl rfl rfl (Y_assign rfl rfl) ?_; clear hf; intro a hf
 refine wpO_nil <| wpL_seq <| wpL_region ?_
 refine sY hf hs rfl rfl rfl (Y_assign rfl rfl) ?_; clear hf; intro a hf
 refine wpO_nil <| wpL_seq <| wpL_seq <| wpL_region ?_
 refine sY hf hs rfl rfl rfl (Y_assign rfl rfl) ?_; clear hf; intro a hf
 refine wpO_nil ?_
 obtain ⟨r42, hl43, hm⟩ := bind_some hm
 refine wpL_block (fun a w => ∃ x41 : Int, x41 = r42 ∧ Fr a 32 [(9, .slice A5 n6 c7), (10, .int .i64 x41)] ∧ St [] W w [.mat A5 n6 c7 28 2 vs9 r3]) ?_ ?_
 ·refine wpL_loop (fun n a w => ∃ x30 : Int, ∃ x31 : Int, spec_l21Settled_L1 F r3 n x30 x31 = some r42 ∧ Fr a 32 [(9, .slice A5 n6 c7), (10, .int .i64 x30), (11, .int .i64 x31)] ∧ St [] W w [.mat A5 n6 c7 28 2 vs9 r3]) F ?_ ?_ ?_
  ·exact ⟨0, 0, hl43, (FrD.pick (FrD.pick (FrD.pick hf.none hf rfl) hf rfl) hf rfl), hs.sel [2] (by decide)⟩
  ·rintro a w ⟨x30, x31, h0_, -, -⟩; simp [spec_l21Settled_L1] at h0_
  ·rintro n45 a w ⟨x30, x31, hm44, hf, hs⟩
   rw [spec_l21Settled_L1] at hm44
   refine wpL_seq <| wpL_seq <| wpL_region ?_
   refine sY hf hs rfl rfl rfl (Y_move rfl rfl) ?_; clear hf; intro a hf
   refine sY hf hs rfl rfl rfl (Y_lss rfl rfl rfl) ?_; clear hf; intro a hf
   refine wpO_nil ?_
   refine wpL_cond hf rfl (fun hb46 => ?_) (fun hb46 => ?_)
   ·have hm44 := bif_t hm44 hb46
    refine wpL_skip <| wpL_seq <| wpL_block0 <| wpL_seq <| wpL_region ?_
    refine sY hf hs rfl rfl rfl (Y_move rfl rfl) ?_; clear hf; intro a hf
    refine sY hf hs rfl rfl rfl (Y_move rfl rfl) ?_; clear hf; intro a hf
    obtain ⟨q47, hi48, hm44⟩ := bind_some hm44
    obtain ⟨hi48a, hi48b, hi48q⟩ := idx_some hi48
    obtain ⟨A49, c50, hv51⟩ := hs.matRow (i := 0) rfl hi48q
    refine sY hf hs rfl rfl rfl (Y_index rfl rfl rfl el40 ti28 (Rd.isAt (hs.rdV (i := 0) rfl) hv51) hi48a (ltn hn8 hi48b)) ?_; clear hf; intro a hf
    refine sY hf hs rfl rfl rfl (Y_load_rd rfl rfl (fun w hs => hs.rdV (i := 0) rfl) (at1 hv51) ag28) ?_; clear hf; intro a hf
    obtain ⟨r52, hc53, hm44⟩ := bind_some hm44
    refine sCall hf rfl rfl rfl rfl (cap := []) rfl rfl en199 (spec_l16Sum_ok F q47 A49 q47.length c50 rfl _ _ hc53 (hs.rdRow (i := 0) rfl ⟨hi48q, hv51⟩)) ?_; clear hf
    rintro _ w ⟨rfl, hs1⟩ a hf
    have hs : St _ W w [_] := hs.ext hs1.below
    clear hs1
    refine sY hf hs rfl rfl rfl (Y_gtr rfl rfl rfl) ?_; clear hf; intro a hf
    refine wpO_nil ?_
    refine wpL_cond hf rfl (fun hb54 => ?_) (fun hb54 => ?_)
    ·have hm44 := bif_t hm44 hb54
     refine wpL_region ?_
     refine sY hf hs rfl rfl rfl (Y_move rfl rfl) ?_; clear hf; intro a hf
     refine sY hf hs rfl rfl rfl (Y_add rfl rfl rfl) ?_; clear hf; intro a hf
     refine sY hf hs rfl rfl rfl (Y_assign rfl rfl) ?_; clear hf; intro a hf
     refine wpO_nil ?_
     refine wpL_nil (Qb_normal ?_)
     refine wpL_region ?_
     refine sY hf hs rfl rfl rfl (Y_move rfl rfl) ?_; clear hf; intro a hf
     refine sY hf hs rfl rfl rfl (Y_add rfl rfl rfl) ?_; clear hf; intro a hf
     refine sY hf hs rfl rfl rfl (Y_assign rfl rfl) ?_; clear hf; intro a hf
     refine wpO_nil ?_
     refine wpL_nil (Ql_normal ?_)
     exact ⟨(IntKind.i64.wrap (x31 + 1)), (IntKind.i64.wrap (x31 + 1)), hm44, (FrD.pick (FrD.pick (FrD.pick hf.none hf rfl) hf rfl) hf rfl), hs⟩
    ·have hm44 := bif_f hm44 hb54
     refine wpL_skip ?_
     refine wpL_nil (Qb_normal ?_)
     refine wpL_region ?_
     refine sY hf hs rfl rfl rfl (Y_move rfl rfl) ?_; clear hf; intro a hf
     refine sY hf hs rfl rfl rfl (Y_add rfl rfl rfl) ?_; clear hf; intro a hf
     refine sY hf hs rfl rfl rfl (Y_assign rfl rfl) ?_; clear hf; intro a hf
     refine wpO_nil ?_
     refine wpL_nil (Ql_normal ?_)
     exact ⟨x30, (IntKind.i64.wrap (x31 + 1)), hm44, (FrD.pick (FrD.pick (FrD.pick hf.none hf rfl) hf rfl) hf rfl), hs⟩
   ·have hm44 := bif_f hm44 hb46
    refine wpL_exit (Ql_exit (Qb_exit ?_))
    exact ⟨x30, Option.some.inj hm44, (FrD.pick (FrD.pick hf.none hf rfl) hf rfl), hs⟩
 ·rintro a w ⟨x41, hr_, hf, hs⟩
  subst hr_
  try dsimp only at hm
  refine wpL_seq <| wpL_region ?_
  refine sY hf hs rfl rfl rfl (Y_move rfl rfl) ?_; clear hf; intro a hf
  refine sY hf hs rfl rfl rfl (Y_move rfl rfl) ?_; clear hf; intro a hf
  refine sY hf hs rfl rfl rfl (Y_move rfl rfl) ?_; clear hf; intro a hf
  refine sY hf hs rfl rfl rfl (Y_leq rfl rfl rfl) ?_; clear hf; intro a hf
  refine sY hf hs rfl rfl rfl (Y_assign rfl rfl) ?_; clear hf; intro a hf
  refine sY hf hs rfl rfl rfl (Y_assign rfl rfl) ?_; clear hf; intro a hf
  refine sY hf hs rfl rfl rfl (Y_assign rfl rfl) ?_; clear hf; intro a hf
  refine wpO_nil ?_
  obtain rfl := Option.some.inj hm
  refine wpL_ret (ret_tmp3 rfl hf rfl rfl rfl ?_)
  exact ⟨_, rfl, A5, n6, c7, vs9, rfl, hn8, hs⟩

end Go.Proofs.Ytebmlphobgaboab
