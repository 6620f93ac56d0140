/- The functions do what their models say. -/
import Derived.Test.YtebmlphobgaboaaSettledLifted4
import Derived.Test.YtebmlphobgaboaaRows
namespace Go.Proofs.Ytebmlphobgaboaa
open Go.RowKit

set_option maxHeartbeats 2000000 in
set_option maxRecDepth 100000 in
theorem spec_l03Grow_step (F k_ : Nat) (ih_ : ∀ (p0 : List (List Int)) (au : Option Addr) (aZ ax : Nat) (_hn_p0_1 : aZ = p0.length) (p1 : List Int) (ay : Option Addr) (aU aB : Nat) (_hn_p1_1 : aU = p1.length) (p2 : Int) (p3 : Int) (r : List Int) (W : World) (_hm : spec_l03Grow_rec F k_ p0 p1 p2 p3 = some r) (_h_p0_1 : RdM W au p0) (_h_p1_1 : Rd W ay (ints p1)), Calls Try.prog 204 [.slice au aZ ax, .slice ay aU aB, .int .i64 p2, .int .i64 p3].toArray W fun e w' => ∃ v, e = .returned v ∧ ∃ A1851, ∃ n1852, ∃ c1853, ∃ A1854, ∃ n1855, ∃ c1856, ∃ ys1857, v = .slice A1851 n1852 c1853 ∧ n1852 = r.length ∧ Ei ay aU aB p1 A1854 n1855 c1856 ys1857 A1851 n1852 c1853 r ∧ St [] W w' [.row A1854 n1855 c1856 2 1 (ints ys1857)]) (p0 : List (List Int)) (au : Option Addr) (aZ ax : Nat) (bQ : aZ = p0.length) (p1 : List Int) (ay : Option Addr) (aU aB : Nat) (bW : aU = p1.length) (p2 : Int) (p3 : Int) (r : List Int) (W : World) (hm : spec_l03Grow_rec F (k_ + 1) p0 p1 p2 p3 = some r) (ba : RdM W au p0) (bj : Rd W ay (ints p1)) :
  Calls Try.prog 204 [.slice au aZ ax, .slice ay aU aB, .int .i64 p2, .int .i64 p3].toArray W fun e w' => ∃ v, e = .returned v ∧ ∃ A1851, ∃ n1852, ∃ c1853, ∃ A1854, ∃ n1855, ∃ c1856, ∃ ys1857, v = .slice A1851 n1852 c1853 ∧ n1852 = r.length ∧ Ei ay aU aB p1 A1854 n1855 c1856 ys1857 A1851 n1852 c1853 r ∧ St [] W w' [.row A1854 n1855 c1856 2 1 (ints ys1857)] := by
 subst bQ
 subst bW
 unfold spec_l03Grow_rec at hm
 refine Calls.enter (N := 86) Try.func204 rfl rfl rfl (fun a hf => ?_)
 have hs := St.start W
 obtain ⟨w, hw_⟩ : ∃ w, w = W := ⟨W, rfl⟩
 clear hw_ w
 refine wpL_seq <| wpL_region ?_
 refine sY hf hs rfl rfl rfl (Y_assign rfl rfl) ?_; clear hf; intro a hf
 refine wpO_nil <| wpL_seq ?_
 refine wpL_draw (by kernel_rfl) (by kernel_rfl) hs ?_
 refine qY hf rfl rfl rfl (Y_move rfl rfl) ?_; clear hf; intro a hf
 obtain ⟨q1, hi2, hm⟩ := bind_some hm
 obtain ⟨hi2a, hi2b, hi2q⟩ := idx_some hi2
 refine qY hf rfl rfl rfl (Y_index rfl rfl rfl el23 ti2 (Rd.isAt (bj.at hs) (at1 (ints_at hi2q))) hi2a hi2b) ?_; clear hf; intro a hf
 refine qY hf rfl rfl rfl (Y_load_rd rfl rfl (fun w hs => bj.at hs) (at1 (ints_at hi2q)) ag2) ?_; clear hf; intro a hf
 refine qY hf rfl rfl rfl (Y_move rfl rfl) ?_; clear hf; intro a hf
 refine qY hf rfl rfl rfl (Y_move rfl rfl) ?_; clear hf; intro a hf
 refine qY hf rfl rfl rfl (Y_lenH rfl rfl el23 rfl) ?_; clear hf; intro a hf
 refine qY hf rfl rfl rfl (Y_sub rfl rfl rfl) ?_; clear hf; intro a hf
 obtain ⟨q3, hi4, hm⟩ := bind_some hm
 obtain ⟨hi4a, hi4b, hi4q⟩ := idx_some hi4
 refine qY hf rfl rfl rfl (Y_index rfl rfl rfl el23 ti2 (Rd.isAt (bj.at hs) (at1 (ints_at hi4q))) hi4a hi4b) ?_; clear hf; intro a hf
 refine qY hf rfl rfl rfl (Y_load_rd rfl rfl (fun w hs => bj.at hs) (at1 (ints_at hi4q)) ag2) ?_; clear hf; intro a hf
 refine qY hf rfl rfl rfl (Y_assign rfl rfl) ?_; clear hf; intro a hf
 refine qY hf rfl rfl rfl (Y_assign rfl rfl) ?_; clear hf; intro a hf
 refine qNil ?_; clear hs; intro w hs
 refine wpL_seq <| wpL_seq ?_
 obtain ⟨r29, hj30, hm⟩ := bind_some hm
 refine wpL_cut (fun a w => ∃ b28 : Bool, b28 = r29 ∧ Fr a 86 [(0, .slice au p0.length ax), (1, .slice ay p1.length aB), (2, .int .i64 p2), (3, .int .i64 p3), (9, .int .i64 q1), (10, .int .i64 q3), (42, .bool b28)] ∧ St [] W w []) ?_ ?_
 ·refine wpL_region ?_
  refine sY hf hs rfl rfl rfl (Y_move rfl rfl) ?_; clear hf; intro a hf
  refine sY hf hs rfl rfl rfl (Y_move rfl rfl) ?_; clear hf; intro a hf
  obtain ⟨q31, hi32, hj30⟩ := bind_some hj30
  obtain ⟨hi32a, hi32b, hi32q⟩ := idx_some hi32
  obtain ⟨vs33, hv34, hr35⟩ := id ba
  obtain ⟨A36, c37, hv38, hR39⟩ := hr35 _ _ hi32q
  refine sY hf hs rfl rfl rfl (Y_index rfl rfl rfl el59 ti23 (Rd.isAt hv34 hv38) hi32a hi32b) ?_; clear hf; intro a hf
  refine sY hf hs rfl rfl rfl (Y_load_rd rfl rfl (fun w hs => hv34.at hs) (at1 hv38) ag23) ?_; clear hf; intro a hf
  refine sY hf hs rfl rfl rfl (Y_move rfl rfl) ?_; clear hf; intro a hf
  obtain ⟨q40, hi41, hj30⟩ := bind_some hj30
  obtain ⟨hi41a, hi41b, hi41q⟩ := idx_some hi41
  refine sY hf hs rfl rfl rfl (Y_index rfl rfl rfl el23 ti2 (Rd.isAt (hR39.at hs) (at1 (ints_at hi41q))) hi41a hi41b) ?_; clear hf; intro a hf
  refine sY hf hs rfl rfl rfl (Y_load_rd rfl rfl (fun w hs => hR39.at hs) (at1 (ints_at hi41q)) ag2) ?_; clear hf; intro a hf
  refine sY hf hs rfl rfl rfl (Y_neq rfl rfl rfl) ?_; clear hf; intro a hf
  refine sY hf hs rfl rfl rfl (Y_move rfl rfl) ?_; clear hf; intro a hf
  refine bsplit (q40 != (-1000000000000000)) (fun hb42 => ?_) (fun hb42 => ?_)
  ·have hj30 := bif_t hj30 hb42
   refine sYg hf hs rfl rfl rfl (congrArg (fun b => some (Value.bool b)) hb42) rfl rfl rfl (Y_move rfl rfl) ?_; clear hf; intro a hf
   refine sYg hf hs rfl rfl rfl (congrArg (fun b => some (Value.bool b)) hb42) rfl rfl rfl (Y_move rfl rfl) ?_; clear hf; intro a hf
   refine sYg hf hs rfl rfl rfl (congrArg (fun b => some (Value.bool b)) hb42) rfl rfl rfl (Y_move rfl rfl) ?_; clear hf; intro a hf
   obtain ⟨q43, hi44, hj30⟩ := bind_some hj30
   obtain ⟨hi44a, hi44b, hi44q⟩ := idx_some hi44
   obtain ⟨vs45, hv46, hr47⟩ := id ba
   obtain ⟨A48, c49, hv50, hR51⟩ := hr47 _ _ hi44q
   refine sYg hf hs rfl rfl rfl (congrArg (fun b => some (Value.bool b)) hb42) rfl rfl rfl (Y_index rfl rfl rfl el59 ti23 (Rd.isAt hv46 hv50) hi44a hi44b) ?_; clear hf; intro a hf
   refine sYg hf hs rfl rfl rfl (congrArg (fun b => some (Value.bool b)) hb42) rfl rfl rfl (Y_load_rd rfl rfl (fun w hs => hv46.at hs) (at1 hv50) ag23) ?_; clear hf; intro a hf
   refine sYg hf hs rfl rfl rfl (congrArg (fun b => some (Value.bool b)) hb42) rfl rfl rfl (Y_move rfl rfl) ?_; clear hf; intro a hf
   obtain ⟨q52, hi53, hj30⟩ := bind_some hj30
   obtain ⟨hi53a, hi53b, hi53q⟩ := idx_some hi53
   refine sYg hf hs rfl rfl rfl (congrArg (fun b => some (Value.bool b)) hb42) rfl rfl rfl (Y_index rfl rfl rfl el23 ti2 (Rd.isAt (hR51.at hs) (at1 (ints_at hi53q))) hi53a hi53b) ?_; clear hf; intro a hf
   refine sYg hf hs rfl rfl rfl (congrArg (fun b => some (Value.bool b)) hb42) rfl rfl rfl (Y_load_rd rfl rfl (fun w hs => hR51.at hs) (at1 (ints_at hi53q)) ag2) ?_; clear hf; intro a hf
   refine sYg hf hs rfl rfl rfl (congrArg (fun b => some (Value.bool b)) hb42) rfl rfl rfl (Y_add rfl rfl rfl) ?_; clear hf; intro a hf
   refine sYg hf hs rfl rfl rfl (congrArg (fun b => some (Value.bool b)) hb42) rfl rfl rfl (Y_move rfl rfl) ?_; clear hf; intro a hf
   refine sYg hf hs rfl rfl rfl (congrArg (fun b => some (Value.bool b)) hb42) rfl rfl rfl (Y_gtr rfl rfl rfl) ?_; clear hf; intro a hf
   refine sY hf hs rfl rfl rfl (Y_pickT rfl (congrArg (fun b => some (Value.bool b)) hb42) rfl) ?_; clear hf; intro a hf
   refine wpO_nil ?_
   refine wpL_nil (then_normal ?_)
   exact ⟨(decide (p3 < (IntKind.i64.wrap (p2 + q52)))), Option.some.inj hj30, (FrD.pick (FrD.pick (FrD.pick (FrD.pick (FrD.pick (FrD.pick (FrD.pick hf.none hf rfl) hf rfl) hf rfl) hf rfl) hf rfl) hf rfl) hf rfl), hs⟩
  ·have hj30 := bif_f hj30 hb42
   refine sNo hf rfl rfl rfl (congrArg (fun b => some (Value.bool b)) hb42) rfl rfl rfl ?_; clear hf; intro a hf
   refine sNo hf rfl rfl rfl (congrArg (fun b => some (Value.bool b)) hb42) rfl rfl rfl ?_; clear hf; intro a hf
   refine sNo hf rfl rfl rfl (congrArg (fun b => some (Value.bool b)) hb42) rfl rfl rfl ?_; clear hf; intro a hf
   refine sNo hf rfl rfl rfl (congrArg (fun b => some (Value.bool b)) hb42) rfl rfl rfl ?_; clear hf; intro a hf
   refine sNo hf rfl rfl rfl (congrArg (fun b => some (Value.bool b)) hb42) rfl rfl rfl ?_; clear hf; intro a hf
   refine sNo hf rfl rfl rfl (congrArg (fun b => some (Value.bool b)) hb42) rfl rfl rfl ?_; clear hf; intro a hf
   refine sNo hf rfl rfl rfl (congrArg (fun b => some (Value.bool b)) hb42) rfl rfl rfl ?_; clear hf; intro a hf
   refine sNo hf rfl rfl rfl (congrArg (fun b => some (Value.bool b)) hb42) rfl rfl rfl ?_; clear hf; intro a hf
   refine sNo hf rfl rfl rfl (congrArg (fun b => some (Value.bool b)) hb42) rfl rfl rfl ?_; clear hf; intro a hf
   refine sNo hf rfl rfl rfl (congrArg (fun b => some (Value.bool b)) hb42) rfl rfl rfl ?_; clear hf; intro a hf
   refine sNo hf rfl rfl rfl (congrArg (fun b => some (Value.bool b)) hb42) rfl rfl rfl ?_; clear hf; intro a hf
   refine sY hf hs rfl rfl rfl (Y_pickF rfl (congrArg (fun b => some (Value.bool b)) hb42) rfl) ?_; clear hf; intro a hf
   refine wpO_nil ?_
   refine wpL_nil (then_normal ?_)
   exact ⟨false, Option.some.inj hj30, (FrD.pick (FrD.pick (FrD.pick (FrD.pick (FrD.pick (FrD.pick (FrD.pick hf.none hf rfl) hf rfl) hf rfl) hf rfl) hf rfl) hf rfl) hf rfl), hs⟩
 ·rintro a w ⟨b28, hr_, hf, hs⟩
  subst hr_
  try dsimp only at hm
  refine wpL_cond hf rfl (fun hb54 => ?_) (fun hb54 => ?_)
  ·have hm := bif_t hm hb54
   refine wpL_seq <| wpL_region ?_
   refine sY hf hs rfl rfl rfl (Y_move rfl rfl) ?_; clear hf; intro a hf
   refine sY hf hs rfl rfl rfl (Y_assign rfl rfl) ?_; clear hf; intro a hf
   refine wpO_nil ?_
   have hs : St [] W _ [.row none 0 0 2 1 (ints ([] : List Int))] := hs.addNil 2 1
   obtain rfl := Option.some.inj hm
   refine wpL_ret (ret_tmp rfl hf rfl ?_)
   exact ⟨_, rfl, ay, p1.length, aB, none, 0, 0, ([] : List Int), rfl, rfl, .inl ⟨rfl, rfl, rfl, rfl⟩, hs⟩
  ·have hm := bif_f hm hb54
   refine wpL_skip <| wpL_seq <| wpL_seq <| wpL_region ?_
   refine sY hf hs rfl rfl rfl (Y_move rfl rfl) ?_; clear hf; intro a hf
   refine sY hf hs rfl rfl rfl (Y_add rfl rfl rfl) ?_; clear hf; intro a hf
   refine sY hf hs rfl rfl rfl (Y_assign rfl rfl) ?_; clear hf; intro a hf
   refine wpO_nil ?_
   obtain ⟨r1399, hl1400, hm⟩ := bind_some hm
   refine wpL_block (fun a w => Sum.inr () = r1399 ∧ Fr a 86 [] ∧ St [] W w []) ?_ ?_
   ·refine wpL_loop (fun n a w => ∃ x951 : Int, spec_l03Grow_L1 F p0 p1 p2 p3 q3 (spec_l03Grow_rec F k_) n x951 = some r1399 ∧ Fr a 86 [(0, .slice au p0.length ax), (1, .slice ay p1.length aB), (2, .int .i64 p2), (3, .int .i64 p3), (10, .int .i64 q3), (11, .int .i64 x951)] ∧ St [] W w []) F ?_ ?_ ?_
    ·exact ⟨(IntKind.i64.wrap (q1 + 1)), hl1400, (FrD.pick (FrD.pick (FrD.pick (FrD.pick (FrD.pick (FrD.pick hf.none hf rfl) hf rfl) hf rfl) hf rfl) hf rfl) hf rfl), hs⟩
    ·rintro a w ⟨x951, h0_, -, -⟩; simp [spec_l03Grow_L1] at h0_
    ·rintro n1402 a w ⟨x951, hm1401, hf, hs⟩
     rw [spec_l03Grow_L1] at hm1401
     refine wpL_seq <| wpL_seq <| wpL_region ?_
     refine sY hf hs rfl rfl rfl (Y_move rfl rfl) ?_; clear hf; intro a hf
     refine sY hf hs rfl rfl rfl (Y_move rfl rfl) ?_; clear hf; intro a hf
     refine sY hf hs rfl rfl rfl (Y_lenH rfl rfl el59 rfl) ?_; clear hf; intro a hf
     refine sY hf hs rfl rfl rfl (Y_lss rfl rfl rfl) ?_; clear hf; intro a hf
     refine wpO_nil ?_
     refine wpL_cond hf rfl (fun hb1403 => ?_) (fun hb1403 => ?_)
     ·have hm1401 := bif_t hm1401 hb1403
      refine wpL_skip <| wpL_seq ?_
      obtain ⟨r1626, hj1627, hm1401⟩ := bind_some hm1401
      refine wpL_block (fun a w => Sum.inr () = r1626 ∧ Fr a 86 [(0, .slice au p0.length ax), (1, .slice ay p1.length aB), (2, .int .i64 p2), (3, .int .i64 p3), (10, .int .i64 q3), (11, .int .i64 x951)] ∧ St [] W w []) ?_ ?_
      ·refine wpL_seq <| wpL_seq ?_
       obtain ⟨r1643, hj1644, hj1627⟩ := bind_some hj1627
       refine wpL_cut (fun a w => ∃ b1642 : Bool, b1642 = r1643 ∧ Fr a 86 [(0, .slice au p0.length ax), (1, .slice ay p1.length aB), (2, .int .i64 p2), (3, .int .i64 p3), (10, .int .i64 q3), (11, .int .i64 x951), (64, .bool b1642)] ∧ St [] W w []) ?_ ?_
       ·refine wpL_region ?_
        refine sY hf hs rfl rfl rfl (Y_move rfl rfl) ?_; clear hf; intro a hf
        refine sY hf hs rfl rfl rfl (Y_move rfl rfl) ?_; clear hf; intro a hf
        obtain ⟨q1645, hi1646, hj1644⟩ := bind_some hj1644
        obtain ⟨hi1646a, hi1646b, hi1646q⟩ := idx_some hi1646
        obtain ⟨vs1647, hv1648, hr1649⟩ := id ba
        obtain ⟨A1650, c1651, hv1652, hR1653⟩ := hr1649 _ _ hi1646q
        refine sY hf hs rfl rfl rfl (Y_index rfl rfl rfl el59 ti23 (Rd.isAt hv1648 hv1652) hi1646a hi1646b) ?_; clear hf; intro a hf
        refine sY hf hs rfl rfl rfl (Y_load_rd rfl rfl (fun w hs => hv1648.at hs) (at1 hv1652) ag23) ?_; clear hf; intro a hf
        refine sY hf hs rfl rfl rfl (Y_move rfl rfl) ?_; clear hf; intro a hf
        obtain ⟨q1654, hi1655, hj1644⟩ := bind_some hj1644
        obtain ⟨hi1655a, hi1655b, hi1655q⟩ := idx_some hi1655
        refine sY hf hs rfl rfl rfl (Y_index rfl rfl rfl el23 ti2 (Rd.isAt (hR1653.at hs) (at1 (ints_at hi1655q))) hi1655a hi1655b) ?_; clear hf; intro a hf
        refine sY hf hs rfl rfl rfl (Y_load_rd rfl rfl (fun w hs => hR1653.at hs) (at1 (ints_at hi1655q)) ag2) ?_; clear hf; intro a hf
        refine sY hf hs rfl rfl rfl (Y_eql rfl rfl rfl) ?_; clear hf; intro a hf
        refine sY hf hs rfl rfl rfl (Y_move rfl rfl) ?_; clear hf; intro a hf
        refine bsplit (q1654 == (-1000000000000000)) (fun hb1656 => ?_) (fun hb1656 => ?_)
        ·have hj1644 := bif_t hj1644 hb1656
         refine sNo hf rfl rfl rfl (congrArg (fun b => some (Value.bool b)) hb1656) rfl rfl rfl ?_; clear hf; intro a hf
         refine sNo hf rfl rfl rfl (congrArg (fun b => some (Value.bool b)) hb1656) rfl rfl rfl ?_; clear hf; intro a hf
         refine sNo hf rfl rfl rfl (congrArg (fun b => some (Value.bool b)) hb1656) rfl rfl rfl ?_; clear hf; intro a hf
         refine sY hf hs rfl rfl rfl (Y_pickT rfl (congrArg (fun b => some (Value.bool b)) hb1656) rfl) ?_; clear hf; intro a hf
         refine wpO_nil ?_
         refine wpL_nil (then_normal ?_)
         exact ⟨true, Option.some.inj hj1644, (FrD.pick (FrD.pick (FrD.pick (FrD.pick (FrD.pick (FrD.pick (FrD.pick hf.none hf rfl) hf rfl) hf rfl) hf rfl) hf rfl) hf rfl) hf rfl), hs⟩
        ·have hj1644 := bif_f hj1644 hb1656
         refine sYg hf hs rfl rfl rfl (congrArg (fun b => some (Value.bool b)) hb1656) rfl rfl rfl (Y_move rfl rfl) ?_; clear hf; intro a hf
         refine sYg hf hs rfl rfl rfl (congrArg (fun b => some (Value.bool b)) hb1656) rfl rfl rfl (Y_move rfl rfl) ?_; clear hf; intro a hf
         obtain ⟨r1657, hc1658, hj1644⟩ := bind_some hj1644
         refine sCallg hf rfl rfl rfl (congrArg (fun b => some (Value.bool b)) hb1656) rfl rfl rfl rfl (cap := []) rfl rfl en188 (spec_l01Has_ok F p1 ay p1.length aB rfl x951 _ _ hc1658 (bj.at hs)) ?_; clear hf
         rintro _ w ⟨rfl, hs1⟩ a hf
         have hs : St [] W w [] := hs.ext hs1.below
         clear hs1
         refine sY hf hs rfl rfl rfl (Y_pickF rfl (congrArg (fun b => some (Value.bool b)) hb1656) rfl) ?_; clear hf; intro a hf
         refine wpO_nil ?_
         refine wpL_nil (then_normal ?_)
         exact ⟨r1657, Option.some.inj hj1644, (FrD.pick (FrD.pick (FrD.pick (FrD.pick (FrD.pick (FrD.pick (FrD.pick hf.none hf rfl) hf rfl) hf rfl) hf rfl) hf rfl) hf rfl) hf rfl), hs⟩
       ·rintro a w ⟨b1642, hr_, hf, hs⟩
        subst hr_
        try dsimp only at hj1627
        refine wpL_cond hf rfl (fun hb1659 => ?_) (fun hb1659 => ?_)
        ·have hj1627 := bif_t hj1627 hb1659
         refine wpL_exit (Qb_exit ?_)
         exact ⟨Option.some.inj hj1627, (FrD.pick (FrD.pick (FrD.pick (FrD.pick (FrD.pick (FrD.pick hf.none hf rfl) hf rfl) hf rfl) hf rfl) hf rfl) hf rfl), hs⟩
        ·have hj1627 := bif_f hj1627 hb1659
         refine wpL_skip <| wpL_seq ?_
         obtain ⟨r1756, hj1757, hj1627⟩ := bind_some hj1627
         refine wpL_cut (fun a w => ∃ xs1751 : List Int, ∃ A1752, ∃ n1753, ∃ c1754, xs1751 = r1756 ∧ n1753 = xs1751.length ∧ Fr a 86 [(0, .slice au p0.length ax), (1, .slice ay p1.length aB), (2, .int .i64 p2), (3, .int .i64 p3), (10, .int .i64 q3), (11, .int .i64 x951), (12, .slice A1752 n1753 c1754)] ∧ St [] W w [.row A1752 n1753 c1754 2 1 (ints xs1751)]) ?_ ?_
         ·refine wpL_drawM [] [16] (by kernel_rfl) hs ?_; clear hs; intro w hs
          have hs0 : St [] W w [] := hs
          refine mYp (i := 0) rfl (by kernel_rfl) (by kernel_rfl) hf rfl rfl rfl (fun _ => Y_move rfl rfl) ?_; clear hf; intro a hf
          refine mYp (i := 1) rfl (by kernel_rfl) (by kernel_rfl) hf rfl rfl rfl (fun _ => Y_move rfl rfl) ?_; clear hf; intro a hf
          refine mYp (i := 3) rfl (by kernel_rfl) (by kernel_rfl) hf rfl rfl rfl (fun _ => Y_move rfl rfl) ?_; clear hf; intro a hf
          refine mYp (i := 6) rfl (by kernel_rfl) (by kernel_rfl) hf rfl rfl rfl (fun _ => Y_move rfl rfl) ?_; clear hf; intro a hf
          refine mYp (i := 7) rfl (by kernel_rfl) (by kernel_rfl) hf rfl rfl rfl (fun _ => Y_move rfl rfl) ?_; clear hf; intro a hf
          refine mYp (i := 8) rfl (by kernel_rfl) (by kernel_rfl) hf rfl rfl rfl (fun _ => Y_move rfl rfl) ?_; clear hf; intro a hf
          obtain ⟨q1792, hi1793, hj1757⟩ := bind_some hj1757
          obtain ⟨hi1793a, hi1793b, hi1793q⟩ := idx_some hi1793
          obtain ⟨vs1794, hv1795, hr1796⟩ := id ba
          obtain ⟨A1797, c1798, hv1799, hR1800⟩ := hr1796 _ _ hi1793q
          refine mYp (i := 9) rfl (by kernel_rfl) (by kernel_rfl) hf rfl rfl rfl (fun _ => Y_index rfl rfl rfl el59 ti23 (Rd.isAt hv1795 hv1799) hi1793a hi1793b) ?_; clear hf; intro a hf
          refine mY (i := 10) [[12, 13, 14]] rfl (by kernel_rfl) (by kernel_rfl) hf hs0 rfl rfl rfl (Y_load_rd rfl rfl (fun w hs => hv1795.at hs) (at1 hv1799) ag23) ?_; clear hf; intro a hf
          refine mYp (i := 11) rfl (by kernel_rfl) (by kernel_rfl) hf rfl rfl rfl (fun _ => Y_move rfl rfl) ?_; clear hf; intro a hf
          obtain ⟨q1801, hi1802, hj1757⟩ := bind_some hj1757
          obtain ⟨hi1802a, hi1802b, hi1802q⟩ := idx_some hi1802
          refine mYp (i := 12) rfl (by kernel_rfl) (by kernel_rfl) hf rfl rfl rfl (fun _ => Y_index rfl rfl rfl el23 ti2 (Rd.isAt (hR1800.at hs) (at1 (ints_at hi1802q))) hi1802a hi1802b) ?_; clear hf; intro a hf
          refine mY (i := 13) [[14]] rfl (by kernel_rfl) (by kernel_rfl) hf hs0 rfl rfl rfl (Y_load_rd rfl rfl (fun w hs => hR1800.at hs) (at1 (ints_at hi1802q)) ag2) ?_; clear hf; intro a hf
          refine mYp (i := 14) rfl (by kernel_rfl) (by kernel_rfl) hf rfl rfl rfl (fun _ => Y_add rfl rfl rfl) ?_; clear hf; intro a hf
          refine mYp (i := 15) rfl (by kernel_rfl) (by kernel_rfl) hf rfl rfl rfl (fun _ => Y_move rfl rfl) ?_; clear hf; intro a hf
          refine mRun2 (i := 2) (j := 4) rfl rfl (by kernel_rfl) ?_ ?_
          ·obtain ⟨r1803, hc1804, hj1757⟩ := bind_some hj1757
           refine sCall hf rfl rfl rfl rfl (cap := []) rfl rfl en146 (spec_l01Own_ok F p1 ay p1.length aB rfl _ _ hc1804 (bj.at hs)) ?_; clear hf
           rintro _ w ⟨A1805, n1806, c1807, rfl, hn1808, hs1⟩ a hf
           have hs : St [] W w [.row A1805 n1806 c1807 2 1 (ints r1803)] := hs.join hs1
           clear hs1
           have hs0 : St [] W w [] := hs.sel [] (by decide)
           refine wpO_nil ⟨Or.inr (fun _ => hs0), ?_⟩
           refine mRun (i := 4) rfl (by kernel_rfl) ?_
           refine sBuildSlice (parts := [(0, .tmp 68)]) (vs := [.int .i64 x951]) (cells := [.int .i64 x951]) hf hs rfl rfl rfl rfl rfl el23 ti2 rfl rfl rfl rfl ?_; clear hf hs; intro a w A1809 hs hA1810 hf
           have hs : St [] W w [.row A1805 n1806 c1807 2 1 (ints r1803), .row A1809 1 1 2 1 (ints ([x951]))] := hs
           have hs0 : St [] W w [] := hs.sel [] (by decide)
           refine wpO_nil ⟨Or.inr (fun _ => hs0), ?_⟩
           refine mRun (i := 5) rfl (by kernel_rfl) ?_
           obtain ⟨xs1813, ha1814, hj1757⟩ := bind_some hj1757
           refine sAppendL (i := 0) (xs := r1803) (ys := [x951]) (enc := ints) hf hs rfl rfl rfl rfl rfl rfl hn1808 rfl rfl ha1814 el23 ti2 rfl rfl rfl (hs.rd (i := 1) rfl) (Nat.succ_pos _) ints_len1 ints_append ints_one ?_; clear hf hs; intro a w A1811 c1812 hs hf
           have hs : St [] W w [.row A1811 xs1813.length c1812 2 1 (ints xs1813), .row A1809 1 1 2 1 (ints ([x951]))] := hs
           have hs0 : St [] W w [] := hs.sel [] (by decide)
           refine wpO_nil ⟨Or.inr (fun _ => hs0), ?_⟩
           refine mRun (i := 16) rfl (by kernel_rfl) ?_
           obtain ⟨r1815, hc1816, hj1757⟩ := bind_some hj1757
           refine sCall hf rfl rfl rfl rfl (cap := []) rfl rfl en204 (ih_ p0 au p0.length ax rfl xs1813 A1811 xs1813.length c1812 rfl (IntKind.i64.wrap (p2 + q1801)) p3 _ _ hc1816 (ba.at hs) (hs.rd (i := 0) rfl)) ?_; clear hf
           rintro _ w ⟨A1817, n1818, c1819, A1820, n1821, c1822, ys1823, rfl, hn1824, he1825, hs1⟩ a hf
           have hs : St [] W w [.row A1811 xs1813.length c1812 2 1 (ints xs1813), .row A1809 1 1 2 1 (ints ([x951])), .row A1820 n1821 c1822 2 1 (ints ys1823)] := hs.join hs1
           clear hs1
           have hs := hs.eiOwn (i := 0) (j := 2) (enc := ints) rfl rfl (by decide) he1825
           have hs : St [] W w [.row A1817 n1818 c1819 2 1 (ints r1815), .row A1809 1 1 2 1 (ints ([x951]))] := hs
           refine wpO_nil ⟨Or.inl (by decide), ?_⟩
           refine mYp (i := 17) rfl (by kernel_rfl) (by kernel_rfl) hf rfl rfl rfl (fun _ => Y_assign rfl rfl) ?_; clear hf; intro a hf
           refine mDone (by kernel_rfl) ?_
           clear hs0
           refine wpL_nil (then_normal ?_)
           exact ⟨r1815, A1817, n1818, c1819, Option.some.inj hj1757, hn1824, (FrD.pick (FrD.pick (FrD.pick (FrD.pick (FrD.pick (FrD.pick (FrD.pick hf.none hf rfl) hf rfl) hf rfl) hf rfl) hf rfl) hf rfl) hf rfl), hs.sel [0] (by decide)⟩
          ·refine sBuildSlice (parts := [(0, .tmp 68)]) (vs := [.int .i64 x951]) (cells := [.int .i64 x951]) hf hs rfl rfl rfl rfl rfl el23 ti2 rfl rfl rfl rfl ?_; clear hf hs; intro a w A1826 hs hA1827 hf
           have hs : St [] W w [.row A1826 1 1 2 1 (ints ([x951]))] := hs
           have hs0 : St [] W w [] := hs.sel [] (by decide)
           refine wpO_nil ⟨Or.inr (fun _ => hs0), ?_⟩
           refine mRun (i := 2) rfl (by kernel_rfl) ?_
           obtain ⟨r1828, hc1829, hj1757⟩ := bind_some hj1757
           refine sCall hf rfl rfl rfl rfl (cap := []) rfl rfl en146 (spec_l01Own_ok F p1 ay p1.length aB rfl _ _ hc1829 (bj.at hs)) ?_; clear hf
           rintro _ w ⟨A1830, n1831, c1832, rfl, hn1833, hs1⟩ a hf
           have hs : St [] W w [.row A1826 1 1 2 1 (ints ([x951])), .row A1830 n1831 c1832 2 1 (ints r1828)] := hs.join hs1
           clear hs1
           have hs0 : St [] W w [] := hs.sel [] (by decide)
           refine wpO_nil ⟨Or.inr (fun _ => hs0), ?_⟩
           refine mRun (i := 5) rfl (by kernel_rfl) ?_
           obtain ⟨xs1836, ha1837, hj1757⟩ := bind_some hj1757
           refine sAppendL (i := 1) (xs := r1828) (ys := [x951]) (enc := ints) hf hs rfl rfl rfl rfl rfl rfl hn1833 rfl rfl ha1837 el23 ti2 rfl rfl rfl (hs.rd (i := 0) rfl) (Nat.succ_pos _) ints_len1 ints_append ints_one ?_; clear hf hs; intro a w A1834 c1835 hs hf
           have hs : St [] W w [.row A1826 1 1 2 1 (ints ([x951])), .row A1834 xs1836.length c1835 2 1 (ints xs1836)] := hs
           have hs0 : St [] W w [] := hs.sel [] (by decide)
           refine wpO_nil ⟨Or.inr (fun _ => hs0), ?_⟩
           refine mRun (i := 16) rfl (by kernel_rfl) ?_
           obtain ⟨r1838, hc1839, hj1757⟩ := bind_some hj1757
           refine sCall hf rfl rfl rfl rfl (cap := []) rfl rfl en204 (ih_ p0 au p0.length ax rfl xs1836 A1834 xs1836.length c1835 rfl (IntKind.i64.wrap (p2 + q1801)) p3 _ _ hc1839 (ba.at hs) (hs.rd (i := 1) rfl)) ?_; clear hf
           rintro _ w ⟨A1840, n1841, c1842, A1843, n1844, c1845, ys1846, rfl, hn1847, he1848, hs1⟩ a hf
           have hs : St [] W w [.row A1826 1 1 2 1 (ints ([x951])), .row A1834 xs1836.length c1835 2 1 (ints xs1836), .row A1843 n1844 c1845 2 1 (ints ys1846)] := hs.join hs1
           clear hs1
           have hs := hs.eiOwn (i := 1) (j := 2) (enc := ints) rfl rfl (by decide) he1848
           have hs : St [] W w [.row A1826 1 1 2 1 (ints ([x951])), .row A1840 n1841 c1842 2 1 (ints r1838)] := hs
           refine wpO_nil ⟨Or.inl (by decide), ?_⟩
           refine mYp (i := 17) rfl (by kernel_rfl) (by kernel_rfl) hf rfl rfl rfl (fun _ => Y_assign rfl rfl) ?_; clear hf; intro a hf
           refine mDone (by kernel_rfl) ?_
           clear hs0
           refine wpL_nil (then_normal ?_)
           exact ⟨r1838, A1840, n1841, c1842, Option.some.inj hj1757, hn1847, (FrD.pick (FrD.pick (FrD.pick (FrD.pick (FrD.pick (FrD.pick (FrD.pick hf.none hf rfl) hf rfl) hf rfl) hf rfl) hf rfl) hf rfl) hf rfl), hs.sel [1] (by decide)⟩
         ·rintro a w ⟨xs1751, A1752, n1753, c1754, hr_, hn1755, hf, hs⟩
          subst hr_
          try dsimp only at hj1627
          refine wpL_seq <| wpL_region ?_
          refine sY hf hs rfl rfl rfl (Y_move rfl rfl) ?_; clear hf; intro a hf
          refine sY hf hs rfl rfl rfl (Y_lenH rfl rfl el23 hn1755) ?_; clear hf; intro a hf
          refine sY hf hs rfl rfl rfl (Y_gtr rfl rfl rfl) ?_; clear hf; intro a hf
          refine wpO_nil ?_
          refine wpL_cond hf rfl (fun hb1849 => ?_) (fun hb1849 => ?_)
          ·have hj1627 := bif_t hj1627 hb1849
           refine wpL_seq <| wpL_region ?_
           refine sY hf hs rfl rfl rfl (Y_move rfl rfl) ?_; clear hf; intro a hf
           refine sY hf hs rfl rfl rfl (Y_assign rfl rfl) ?_; clear hf; intro a hf
           refine wpO_nil ?_
           obtain rfl := Option.some.inj hj1627
           try dsimp only at hm1401
           obtain rfl := Option.some.inj hm1401
           try dsimp only at hm
           obtain rfl := Option.some.inj hm
           refine wpL_ret (Qb_ret (Ql_ret (Qb_ret (ret_tmp rfl hf rfl ?_))))
           exact ⟨_, rfl, A1752, n1753, c1754, A1752, n1753, c1754, xs1751, rfl, hn1755, .inr ⟨rfl, rfl, rfl, rfl⟩, hs⟩
          ·have hj1627 := bif_f hj1627 hb1849
           refine wpL_skip ?_
           refine wpL_nil (Qb_normal ?_)
           exact ⟨Option.some.inj hj1627, (FrD.pick (FrD.pick (FrD.pick (FrD.pick (FrD.pick (FrD.pick hf.none hf rfl) hf rfl) hf rfl) hf rfl) hf rfl) hf rfl), hs.sel [] (by decide)⟩
      ·rintro a w ⟨hr_, hf, hs⟩
       subst hr_
       try dsimp only at hm1401
       refine wpL_region ?_
       refine sY hf hs rfl rfl rfl (Y_move rfl rfl) ?_; clear hf; intro a hf
       refine sY hf hs rfl rfl rfl (Y_add rfl rfl rfl) ?_; clear hf; intro a hf
       refine sY hf hs rfl rfl rfl (Y_assign rfl rfl) ?_; clear hf; intro a hf
       refine wpO_nil ?_
       refine wpL_nil (Ql_normal ?_)
       exact ⟨(IntKind.i64.wrap (x951 + 1)), hm1401, (FrD.pick (FrD.pick (FrD.pick (FrD.pick (FrD.pick (FrD.pick hf.none hf rfl) hf rfl) hf rfl) hf rfl) hf rfl) hf rfl), hs⟩
     ·have hm1401 := bif_f hm1401 hb1403
      refine wpL_exit (Ql_exit (Qb_exit ?_))
      exact ⟨Option.some.inj hm1401, hf.none, hs⟩
   ·rintro a w ⟨hr_, hf, hs⟩
    subst hr_
    try dsimp only at hm
    refine wpL_seq <| wpL_region ?_
    refine sY hf hs rfl rfl rfl (Y_assign rfl rfl) ?_; clear hf; intro a hf
    refine wpO_nil ?_
    have hs : St [] W _ [.row none 0 0 2 1 (ints ([] : List Int))] := hs.addNil 2 1
    obtain rfl := Option.some.inj hm
    refine wpL_ret (ret_tmp rfl hf rfl ?_)
    exact ⟨_, rfl, none, 0, 0, none, 0, 0, ([] : List Int), rfl, rfl, .inr ⟨rfl, rfl, rfl, rfl⟩, hs⟩
theorem spec_l03Grow_rec_ok (F : Nat) : ∀ (k_ : Nat) (p0 : List (List Int)) (au : Option Addr) (aZ ax : Nat) (_hn_p0_1 : aZ = p0.length) (p1 : List Int) (ay : Option Addr) (aU aB : Nat) (_hn_p1_1 : aU = p1.length) (p2 : Int) (p3 : Int) (r : List Int) (W : World) (_hm : spec_l03Grow_rec F k_ p0 p1 p2 p3 = some r) (_h_p0_1 : RdM W au p0) (_h_p1_1 : Rd W ay (ints p1)), Calls Try.prog 204 [.slice au aZ ax, .slice ay aU aB, .int .i64 p2, .int .i64 p3].toArray W fun e w' => ∃ v, e = .returned v ∧ ∃ A1851, ∃ n1852, ∃ c1853, ∃ A1854, ∃ n1855, ∃ c1856, ∃ ys1857, v = .slice A1851 n1852 c1853 ∧ n1852 = r.length ∧ Ei ay aU aB p1 A1854 n1855 c1856 ys1857 A1851 n1852 c1853 r ∧ St [] W w' [.row A1854 n1855 c1856 2 1 (ints ys1857)]
 | 0 => by intros; simp [spec_l03Grow_rec] at *
 | k_ + 1 => spec_l03Grow_step F k_ (spec_l03Grow_rec_ok F k_)
theorem spec_l03Grow_ok (F : Nat) : ∀ (p0 : List (List Int)) (au : Option Addr) (aZ ax : Nat) (_hn_p0_1 : aZ = p0.length) (p1 : List Int) (ay : Option Addr) (aU aB : Nat) (_hn_p1_1 : aU = p1.length) (p2 : Int) (p3 : Int) (r : List Int) (W : World) (_hm : spec_l03Grow F p0 p1 p2 p3 = some r) (_h_p0_1 : RdM W au p0) (_h_p1_1 : Rd W ay (ints p1)), Calls Try.prog 204 [.slice au aZ ax, .slice ay aU aB, .int .i64 p2, .int .i64 p3].toArray W fun e w' => ∃ v, e = .returned v ∧ ∃ A1851, ∃ n1852, ∃ c1853, ∃ A1854, ∃ n1855, ∃ c1856, ∃ ys1857, v = .slice A1851 n1852 c1853 ∧ n1852 = r.length ∧ Ei ay aU aB p1 A1854 n1855 c1856 ys1857 A1851 n1852 c1853 r ∧ St [] W w' [.row A1854 n1855 c1856 2 1 (ints ys1857)] := spec_l03Grow_rec_ok F F

set_option maxRecDepth 100000 in
theorem spec_l03Over_ok (F : Nat) (aN : List (List Int)) (aO : Option Addr) (bb aV : Nat) (bn : bb = aN.length) (cr : Int) (r : List Int) (W : World) (hm : spec_l03Over F aN cr = some r) (bo : RdM W aO aN) :
  Calls Try.prog 180 [.slice aO bb aV, .int .i64 cr].toArray W fun e w' => ∃ v, e = .returned v ∧ ∃ A68, ∃ n69, ∃ c70, v = .slice A68 n69 c70 ∧ n69 = r.length ∧ St [] W w' [.row A68 n69 c70 2 1 (ints r)] := by
 subst bn
 unfold spec_l03Over at hm
 refine Calls.enter (N := 22) Try.func180 rfl rfl rfl (fun a hf => ?_)
 have hs := St.start W
 obtain ⟨w, hw_⟩ : ∃ w, w = W := ⟨W, rfl⟩
 clear hw_ w
 refine wpL_seq <| wpL_region ?_
 refine sY hf hs rfl rfl rfl (Y_assign rfl rfl) ?_; clear hf; intro a hf
 refine wpO_nil <| wpL_seq <| wpL_seq <| wpL_region ?_
 refine sY hf hs rfl rfl rfl (Y_assign rfl rfl) ?_; clear hf; intro a hf
 refine wpO_nil ?_
 obtain ⟨r48, hl49, hm⟩ := bind_some hm
 refine wpL_block (fun a w => Sum.inr () = r48 ∧ Fr a 22 [] ∧ St [] W w []) ?_ ?_
 ·refine wpL_loop (fun n a w => ∃ x32 : Int, spec_l03Over_L1 F aN cr n x32 = some r48 ∧ Fr a 22 [(0, .slice aO aN.length aV), (1, .int .i64 cr), (5, .int .i64 x32)] ∧ St [] W w []) F ?_ ?_ ?_
  ·exact ⟨0, hl49, (FrD.pick (FrD.pick (FrD.pick hf.none hf rfl) hf rfl) hf rfl), hs⟩
  ·rintro a w ⟨x32, h0_, -, -⟩; simp [spec_l03Over_L1] at h0_
  ·rintro n51 a w ⟨x32, hm50, hf, hs⟩
   rw [spec_l03Over_L1] at hm50
   refine wpL_seq <| wpL_seq <| wpL_region ?_
   refine sY hf hs rfl rfl rfl (Y_move rfl rfl) ?_; clear hf; intro a hf
   refine sY hf hs rfl rfl rfl (Y_move rfl rfl) ?_; clear hf; intro a hf
   refine sY hf hs rfl rfl rfl (Y_lenH rfl rfl el59 rfl) ?_; clear hf; intro a hf
   refine sY hf hs rfl rfl rfl (Y_lss rfl rfl rfl) ?_; clear hf; intro a hf
   refine wpO_nil ?_
   refine wpL_cond hf rfl (fun hb52 => ?_) (fun hb52 => ?_)
   ·have hm50 := bif_t hm50 hb52
    refine wpL_skip <| wpL_seq <| wpL_block0 <| wpL_seq <| wpL_region ?_
    refine sY hf hs rfl rfl rfl (Y_move rfl rfl) ?_; clear hf; intro a hf
    refine sY hf hs rfl rfl rfl (Y_move rfl rfl) ?_; clear hf; intro a hf
    refine sBuildSlice (parts := [(0, .tmp 14)]) (vs := [.int .i64 x32]) (cells := [.int .i64 x32]) hf hs rfl rfl rfl rfl rfl el23 ti2 rfl rfl rfl rfl ?_; clear hf hs; intro a w A53 hs hA54 hf
    have hs : St [] W w [.row A53 1 1 2 1 (ints ([x32]))] := hs
    refine sY hf hs rfl rfl rfl (Y_move rfl rfl) ?_; clear hf; intro a hf
    obtain ⟨r55, hc56, hm50⟩ := bind_some hm50
    refine sCall hf rfl rfl rfl rfl (cap := []) rfl rfl en204 (spec_l03Grow_ok F aN aO aN.length aV rfl ([x32]) A53 1 1 rfl 0 cr _ _ hc56 (bo.at hs) (hs.rd (i := 0) rfl)) ?_; clear hf
    rintro _ w ⟨A57, n58, c59, A60, n61, c62, ys63, rfl, hn64, he65, hs1⟩ a hf
    have hs : St [] W w [.row A53 1 1 2 1 (ints ([x32])), .row A60 n61 c62 2 1 (ints ys63)] := hs.join hs1
    clear hs1
    have hs := hs.eiOwn (i := 0) (j := 1) (enc := ints) rfl rfl (by decide) he65
    have hs : St [] W w [.row A57 n58 c59 2 1 (ints r55)] := hs
    refine sY hf hs rfl rfl rfl (Y_assign rfl rfl) ?_; clear hf; intro a hf
    refine wpO_nil <| wpL_seq <| wpL_region ?_
    refine sY hf hs rfl rfl rfl (Y_move rfl rfl) ?_; clear hf; intro a hf
    refine sY hf hs rfl rfl rfl (Y_lenH rfl rfl el23 hn64) ?_; clear hf; intro a hf
    refine sY hf hs rfl rfl rfl (Y_gtr rfl rfl rfl) ?_; clear hf; intro a hf
    refine wpO_nil ?_
    refine wpL_cond hf rfl (fun hb66 => ?_) (fun hb66 => ?_)
    ·have hm50 := bif_t hm50 hb66
     refine wpL_seq <| wpL_region ?_
     refine sY hf hs rfl rfl rfl (Y_move rfl rfl) ?_; clear hf; intro a hf
     refine sY hf hs rfl rfl rfl (Y_assign rfl rfl) ?_; clear hf; intro a hf
     refine wpO_nil ?_
     obtain rfl := Option.some.inj hm50
     try dsimp only at hm
     obtain rfl := Option.some.inj hm
     refine wpL_ret (Qb_ret (Ql_ret (Qb_ret (ret_tmp rfl hf rfl ?_))))
     exact ⟨_, rfl, A57, n58, c59, rfl, hn64, hs⟩
    ·have hm50 := bif_f hm50 hb66
     refine wpL_skip ?_
     refine wpL_nil (Qb_normal ?_)
     refine wpL_region ?_
     refine sY hf hs rfl rfl rfl (Y_move rfl rfl) ?_; clear hf; intro a hf
     refine sY hf hs rfl rfl rfl (Y_add rfl rfl rfl) ?_; clear hf; intro a hf
     refine sY hf hs rfl rfl rfl (Y_assign rfl rfl) ?_; clear hf; intro a hf
     refine wpO_nil ?_
     refine wpL_nil (Ql_normal ?_)
     exact ⟨(IntKind.i64.wrap (x32 + 1)), hm50, (FrD.pick (FrD.pick (FrD.pick hf.none hf rfl) hf rfl) hf rfl), hs.sel [] (by decide)⟩
   ·have hm50 := bif_f hm50 hb52
    refine wpL_exit (Ql_exit (Qb_exit ?_))
    exact ⟨Option.some.inj hm50, hf.none, hs⟩
 ·rintro a w ⟨hr_, hf, hs⟩
  subst hr_
  try dsimp only at hm
  refine wpL_seq <| wpL_region ?_
  refine sY hf hs rfl rfl rfl (Y_assign rfl rfl) ?_; clear hf; intro a hf
  refine wpO_nil ?_
  have hs : St [] W _ [.row none 0 0 2 1 (ints ([] : List Int))] := hs.addNil 2 1
  obtain rfl := Option.some.inj hm
  refine wpL_ret (ret_tmp rfl hf rfl ?_)
  exact ⟨_, rfl, none, 0, 0, rfl, rfl, hs⟩

set_option maxRecDepth 100000 in
theorem spec_l12Dead_ok (F : Nat) (ag : GEventGraph) (af : Option Addr) (av ai : Nat) (aA : av = ag.Places.length) (r : List Int) (W : World) (hm : spec_l12Dead F ag = some r) (aw : Rd W af ((recs GPlace.cells) ag.Places)) :
  Calls Try.prog 139 [.agg #[.int .i64 ag.Events, .slice af av ai]].toArray W fun e w' => ∃ v, e = .returned v ∧ ∃ A15, ∃ n16, ∃ c17, v = .slice A15 n16 c17 ∧ n16 = r.length ∧ St [] W w' [.row A15 n16 c17 2 1 (ints r)] := by
 subst aA
 unfold spec_l12Dead at hm
 refine Calls.enter (N := 6) Try.func139 rfl rfl rfl (fun a hf => ?_)
 have hs := St.start W
 obtain ⟨w, hw_⟩ : ∃ w, w = W := ⟨W, rfl⟩
 clear hw_ w
 refine wpL_seq <| wpL_region ?_
 refine sBox hf hs rfl rfl rfl rfl rfl (cs := [.int .i64 ag.Events, .slice af ag.Places.length ai]) rfl ?_; clear hf hs; intro a w b1 hs hf
 have hs : St [] W w [.blk b1 52 [.int .i64 ag.Events, .slice af ag.Places.length ai]] := hs
 refine sY hf hs rfl rfl rfl (Y_assign rfl rfl) ?_; clear hf; intro a hf
 refine wpO_nil <| wpL_seq <| wpL_region ?_
 refine sY hf hs rfl rfl rfl (Y_load_blkS rfl rfl (i := 0) rfl ag52 ti52 rfl) ?_; clear hf; intro a hf
 obtain ⟨r2, hc3, hm⟩ := bind_some hm
 refine sCall hf rfl rfl rfl rfl (cap := []) rfl rfl en181 (spec_l12Free_ok F ag af ag.Places.length ai rfl _ _ hc3 (aw.at hs)) ?_; clear hf
 rintro _ w ⟨A4, n5, c6, vs8, rfl, hn7, hs1⟩ a hf
 have hs : St [] W w [.blk b1 52 [.int .i64 ag.Events, .slice af ag.Places.length ai], .mat A4 n5 c6 23 2 vs8 r2] := hs.join hs1
 clear hs1
 obtain ⟨r9, hc10, hm⟩ := bind_some hm
 refine sCall hf rfl rfl rfl rfl (cap := []) rfl rfl en180 (spec_l03Over_ok F r2 A4 n5 c6 hn7 (-1) _ _ hc10 (hs.rdM (i := 1) rfl)) ?_; clear hf
 rintro _ w ⟨A11, n12, c13, rfl, hn14, hs1⟩ a hf
 have hs : St [] W w [.blk b1 52 [.int .i64 ag.Events, .slice af ag.Places.length ai], .mat A4 n5 c6 23 2 vs8 r2, .row A11 n12 c13 2 1 (ints r9)] := hs.join hs1
 clear hs1
 refine sY hf hs rfl rfl rfl (Y_assign rfl rfl) ?_; clear hf; intro a hf
 refine wpO_nil ?_
 obtain rfl := Option.some.inj hm
 refine wpL_ret (ret_tmp rfl hf rfl ?_)
 exact ⟨_, rfl, A11, n12, c13, rfl, hn14, hs.sel [2] (by decide)⟩

set_option maxRecDepth 100000 in
theorem spec_l20Slacks_ok (F : Nat) (ag : GEventGraph) (af : Option Addr) (av ai : Nat) (aA : av = ag.Places.length) (ao : GTimetable) (am : Option Addr) (aG aq : Nat) (aS : aG = ao.Starts.length) (r : List Int) (W : World) (hm : spec_l20Slacks F ag ao = some r) (aw : Rd W af ((recs GPlace.cells) ag.Places)) (aH : Rd W am (ints ao.Starts)) :
  Calls Try.prog 90 [.agg #[.int .i64 ag.Events, .slice af av ai], .agg #[.int .i64 ao.Period, .slice am aG aq]].toArray W fun e w' => ∃ v, e = .returned v ∧ ∃ A82, ∃ n83, ∃ c84, v = .slice A82 n83 c84 ∧ n83 = r.length ∧ St [] W w' [.row A82 n83 c84 2 1 (ints r)] := by
 subst aA
 subst aS
 unfold spec_l20Slacks at hm
 refine Calls.enter (N := 47) Try.func90 rfl rfl rfl (fun a hf => ?_)
 have hs := St.start W
 obtain ⟨w, hw_⟩ : ∃ w, w = W := ⟨W, rfl⟩
 clear hw_ w
 refine wpL_seq <| wpL_region ?_
 refine sBox hf hs rfl rfl rfl rfl rfl (cs := [.int .i64 ag.Events, .slice af ag.Places.length ai]) rfl ?_; clear hf hs; intro a w b1 hs hf
 have hs : St [] W w [.blk b1 52 [.int .i64 ag.Events, .slice af ag.Places.length ai]] := hs
 refine sBox hf hs rfl rfl rfl rfl rfl (cs := [.int .i64 ao.Period, .slice am ao.Starts.length aq]) rfl ?_; clear hf hs; intro a w b2 hs hf
 have hs : St [] W w [.blk b1 52 [.int .i64 ag.Events, .slice af ag.Places.length ai], .blk b2 54 [.int .i64 ao.Period, .slice am ao.Starts.length aq]] := hs
 refine sY hf hs rfl rfl rfl (Y_assign rfl rfl) ?_; clear hf; intro a hf
 refine wpO_nil <| wpL_seq <| wpL_region ?_
 refine sEmpty hf hs rfl rfl rfl rfl el23 ti2 ?_; clear hf hs; intro a w A3 hs hf
 have hs : St [] W w [.blk b1 52 [.int .i64 ag.Events, .slice af ag.Places.length ai], .blk b2 54 [.int .i64 ao.Period, .slice am ao.Starts.length aq], .row A3 0 0 2 1 (ints ([] : List Int))] := hs
 refine sY hf hs rfl rfl rfl (Y_assign rfl rfl) ?_; clear hf; intro a hf
 refine wpO_nil <| wpL_seq <| wpL_seq <| wpL_region ?_
 refine sY hf hs rfl rfl rfl (Y_assign rfl rfl) ?_; clear hf; intro a hf
 refine wpO_nil ?_
 obtain ⟨r64, hl65, hm⟩ := bind_some hm
 refine wpL_block (fun a w => ∃ xs59 : List Int, ∃ A60, ∃ n61, ∃ c62, xs59 = r64 ∧ n61 = xs59.length ∧ Fr a 47 [(5, .slice A60 n61 c62)] ∧ St [] W w [.row A60 n61 c62 2 1 (ints xs59)]) ?_ ?_
 ·refine wpL_loop (fun n a w => ∃ xs39 : List Int, ∃ x44 : Int, ∃ A40, ∃ n41, ∃ c42, spec_l20Slacks_L1 F ag ao n xs39 x44 = some r64 ∧ n41 = xs39.length ∧ Fr a 47 [(2, .pointer (some ⟨b1, 0, none⟩)), (3, .pointer (some ⟨b2, 0, none⟩)), (5, .slice A40 n41 c42), (6, .int .i64 x44)] ∧ St [] W w [.blk b1 52 [.int .i64 ag.Events, .slice af ag.Places.length ai], .blk b2 54 [.int .i64 ao.Period, .slice am ao.Starts.length aq], .row A40 n41 c42 2 1 (ints xs39)]) F ?_ ?_ ?_
  ·exact ⟨([] : List Int), 0, A3, 0, 0, hl65, rfl, (FrD.pick (FrD.pick (FrD.pick (FrD.pick hf.none hf rfl) hf rfl) hf rfl) hf rfl), hs⟩
  ·rintro a w ⟨xs39, x44, A40, n41, c42, h0_, -, -, -⟩; simp [spec_l20Slacks_L1] at h0_
  ·rintro n67 a w ⟨xs39, x44, A40, n41, c42, hm66, hn43, hf, hs⟩
   rw [spec_l20Slacks_L1] at hm66
   refine wpL_seq <| wpL_seq <| wpL_region ?_
   refine sY hf hs rfl rfl rfl (Y_move rfl rfl) ?_; clear hf; intro a hf
   refine sY hf hs rfl rfl rfl (Y_fieldAddr rfl rfl fo52_1) ?_; clear hf; intro a hf
   refine sY hf hs rfl rfl rfl (Y_load_blk rfl rfl (i := 0) rfl rfl ag50) ?_; clear hf; intro a hf
   refine sY hf hs rfl rfl rfl (Y_lenH rfl rfl el50 rfl) ?_; clear hf; intro a hf
   refine sY hf hs rfl rfl rfl (Y_lss rfl rfl rfl) ?_; clear hf; intro a hf
   refine wpO_nil ?_
   refine wpL_cond hf rfl (fun hb68 => ?_) (fun hb68 => ?_)
   ·have hm66 := bif_t hm66 hb68
    refine wpL_skip <| wpL_seq <| wpL_block0 <| wpL_seq <| wpL_region ?_
    refine sY hf hs rfl rfl rfl (Y_fieldAddr rfl rfl fo52_1) ?_; clear hf; intro a hf
    refine sY hf hs rfl rfl rfl (Y_load_blk rfl rfl (i := 0) rfl rfl ag50) ?_; clear hf; intro a hf
    refine sY hf hs rfl rfl rfl (Y_move rfl rfl) ?_; clear hf; intro a hf
    obtain ⟨q69, hi70, hm66⟩ := bind_some hm66
    obtain ⟨hi70a, hi70b, hi70q⟩ := idx_some hi70
    refine sY hf hs rfl rfl rfl (Y_index rfl rfl rfl el50 ti112 (Rd.isAt (aw.at hs) (recs_at (s := 4) GPlace.len hi70q (j := 0) rfl)) hi70a hi70b) ?_; clear hf; intro a hf
    refine sY hf hs rfl rfl rfl (Y_load_rdS rfl rfl (us := [.int .i64 q69.From, .int .i64 q69.To, .int .i64 q69.Delay, .int .i64 q69.Tokens]) (fun w hs => aw.at hs) (fun j u hj => recs_at (s := 4) GPlace.len hi70q hj) (Nat.succ_pos _) ag112 ti112 rfl) ?_; clear hf; intro a hf
    refine sAlloc hf hs rfl rfl rfl rfl ti112 ?_; clear hf hs; intro a w b71 hs hf
    have hs : St [] W w [.blk b1 52 [.int .i64 ag.Events, .slice af ag.Places.length ai], .blk b2 54 [.int .i64 ao.Period, .slice am ao.Starts.length aq], .row A40 n41 c42 2 1 (ints xs39), .blk b71 112 [.int .i64 0, .int .i64 0, .int .i64 0, .int .i64 0]] := hs
    refine sStore (i := 3) (us := [.int .i64 q69.From, .int .i64 q69.To, .int .i64 q69.Delay, .int .i64 q69.Tokens]) hf hs rfl rfl rfl rfl rfl rfl ti112 rfl rfl rfl (Nat.le_of_ble_eq_true rfl) rfl ?_; clear hs; intro w hs
    have hs : St [] W w [.blk b1 52 [.int .i64 ag.Events, .slice af ag.Places.length ai], .blk b2 54 [.int .i64 ao.Period, .slice am ao.Starts.length aq], .row A40 n41 c42 2 1 (ints xs39), .blk b71 112 [.int .i64 q69.From, .int .i64 q69.To, .int .i64 q69.Delay, .int .i64 q69.Tokens]] := hs
    refine wpO_nil ?_
    refine wpL_drawM [.blk b1 52 [.int .i64 ag.Events, .slice af ag.Places.length ai], .blk b2 54 [.int .i64 ao.Period, .slice am ao.Starts.length aq], .row A40 n41 c42 2 1 (ints xs39), .blk b71 112 [.int .i64 q69.From, .int .i64 q69.To, .int .i64 q69.Delay, .int .i64 q69.Tokens]] [23, 24] (by kernel_rfl) hs ?_; clear hs; intro w hs
    have hs0 : St [] W w [.blk b1 52 [.int .i64 ag.Events, .slice af ag.Places.length ai], .blk b2 54 [.int .i64 ao.Period, .slice am ao.Starts.length aq], .row A40 n41 c42 2 1 (ints xs39), .blk b71 112 [.int .i64 q69.From, .int .i64 q69.To, .int .i64 q69.Delay, .int .i64 q69.Tokens]] := hs
    refine mYp (i := 0) rfl (by kernel_rfl) (by kernel_rfl) hf rfl rfl rfl (fun _ => Y_move rfl rfl) ?_; clear hf; intro a hf
    refine mYp (i := 1) rfl (by kernel_rfl) (by kernel_rfl) hf rfl rfl rfl (fun _ => Y_fieldAddr rfl rfl fo54_1) ?_; clear hf; intro a hf
    refine mY (i := 2) [[5, 6, 12, 19, 22], [5, 6, 12, 19, 22, 23]] rfl (by kernel_rfl) (by kernel_rfl) hf hs0 rfl rfl rfl (Y_load_blk rfl rfl (i := 1) rfl rfl ag23) ?_; clear hf; intro a hf
    refine mYp (i := 3) rfl (by kernel_rfl) (by kernel_rfl) hf rfl rfl rfl (fun _ => Y_fieldAddr rfl rfl fo112_1) ?_; clear hf; intro a hf
    refine mY (i := 4) [[5, 6, 12, 19, 22], [5, 6, 12, 19, 22, 23]] rfl (by kernel_rfl) (by kernel_rfl) hf hs0 rfl rfl rfl (Y_load_blk rfl rfl (i := 3) rfl rfl ag2) ?_; clear hf; intro a hf
    obtain ⟨q72, hi73, hm66⟩ := bind_some hm66
    obtain ⟨hi73a, hi73b, hi73q⟩ := idx_some hi73
    refine mYp (i := 5) rfl (by kernel_rfl) (by kernel_rfl) hf rfl rfl rfl (fun _ => Y_index rfl rfl rfl el23 ti2 (Rd.isAt (aH.at hs) (at1 (ints_at hi73q))) hi73a hi73b) ?_; clear hf; intro a hf
    refine mY (i := 6) [[12, 19, 22], [12, 19, 22, 23]] rfl (by kernel_rfl) (by kernel_rfl) hf hs0 rfl rfl rfl (Y_load_rd rfl rfl (fun w hs => aH.at hs) (at1 (ints_at hi73q)) ag2) ?_; clear hf; intro a hf
    refine mYp (i := 7) rfl (by kernel_rfl) (by kernel_rfl) hf rfl rfl rfl (fun _ => Y_fieldAddr rfl rfl fo112_3) ?_; clear hf; intro a hf
    refine mY (i := 8) [[11, 12, 19, 22], [11, 12, 19, 22, 23]] rfl (by kernel_rfl) (by kernel_rfl) hf hs0 rfl rfl rfl (Y_load_blk rfl rfl (i := 3) rfl rfl ag2) ?_; clear hf; intro a hf
    refine mYp (i := 9) rfl (by kernel_rfl) (by kernel_rfl) hf rfl rfl rfl (fun _ => Y_fieldAddr rfl rfl fo54_0) ?_; clear hf; intro a hf
    refine mY (i := 10) [[11, 12, 19, 22], [11, 12, 19, 22, 23]] rfl (by kernel_rfl) (by kernel_rfl) hf hs0 rfl rfl rfl (Y_load_blk rfl rfl (i := 1) rfl rfl ag2) ?_; clear hf; intro a hf
    refine mYp (i := 11) rfl (by kernel_rfl) (by kernel_rfl) hf rfl rfl rfl (fun _ => Y_mul rfl rfl rfl) ?_; clear hf; intro a hf
    refine mYp (i := 12) rfl (by kernel_rfl) (by kernel_rfl) hf rfl rfl rfl (fun _ => Y_add rfl rfl rfl) ?_; clear hf; intro a hf
    refine mYp (i := 13) rfl (by kernel_rfl) (by kernel_rfl) hf rfl rfl rfl (fun _ => Y_fieldAddr rfl rfl fo54_1) ?_; clear hf; intro a hf
    refine mY (i := 14) [[17, 18, 19, 22], [17, 18, 19, 22, 23]] rfl (by kernel_rfl) (by kernel_rfl) hf hs0 rfl rfl rfl (Y_load_blk rfl rfl (i := 1) rfl rfl ag23) ?_; clear hf; intro a hf
    refine mYp (i := 15) rfl (by kernel_rfl) (by kernel_rfl) hf rfl rfl rfl (fun _ => Y_fieldAddr rfl rfl fo112_0) ?_; clear hf; intro a hf
    refine mY (i := 16) [[17, 18, 19, 22], [17, 18, 19, 22, 23]] rfl (by kernel_rfl) (by kernel_rfl) hf hs0 rfl rfl rfl (Y_load_blk rfl rfl (i := 3) rfl rfl ag2) ?_; clear hf; intro a hf
    obtain ⟨q74, hi75, hm66⟩ := bind_some hm66
    obtain ⟨hi75a, hi75b, hi75q⟩ := idx_some hi75
    refine mYp (i := 17) rfl (by kernel_rfl) (by kernel_rfl) hf rfl rfl rfl (fun _ => Y_index rfl rfl rfl el23 ti2 (Rd.isAt (aH.at hs) (at1 (ints_at hi75q))) hi75a hi75b) ?_; clear hf; intro a hf
    refine mY (i := 18) [[19, 22], [19, 22, 23]] rfl (by kernel_rfl) (by kernel_rfl) hf hs0 rfl rfl rfl (Y_load_rd rfl rfl (fun w hs => aH.at hs) (at1 (ints_at hi75q)) ag2) ?_; clear hf; intro a hf
    refine mYp (i := 19) rfl (by kernel_rfl) (by kernel_rfl) hf rfl rfl rfl (fun _ => Y_sub rfl rfl rfl) ?_; clear hf; intro a hf
    refine mYp (i := 20) rfl (by kernel_rfl) (by kernel_rfl) hf rfl rfl rfl (fun _ => Y_fieldAddr rfl rfl fo112_2) ?_; clear hf; intro a hf
    refine mY (i := 21) [[22], [22, 23]] rfl (by kernel_rfl) (by kernel_rfl) hf hs0 rfl rfl rfl (Y_load_blk rfl rfl (i := 3) rfl rfl ag2) ?_; clear hf; intro a hf
    refine mYp (i := 22) rfl (by kernel_rfl) (by kernel_rfl) hf rfl rfl rfl (fun _ => Y_sub rfl rfl rfl) ?_; clear hf; intro a hf
    refine mRun (i := 23) rfl (by kernel_rfl) ?_
    refine sBuildSlice (parts := [(0, .tmp 43)]) (vs := [.int .i64 (IntKind.i64.wrap ((IntKind.i64.wrap ((IntKind.i64.wrap (q72 + (IntKind.i64.wrap (q69.Tokens * ao.Period)))) - q74)) - q69.Delay))]) (cells := [.int .i64 (IntKind.i64.wrap ((IntKind.i64.wrap ((IntKind.i64.wrap (q72 + (IntKind.i64.wrap (q69.Tokens * ao.Period)))) - q74)) - q69.Delay))]) hf hs rfl rfl rfl rfl rfl el23 ti2 rfl rfl rfl rfl ?_; clear hf hs; intro a w A76 hs hA77 hf
    have hs : St [] W w [.blk b1 52 [.int .i64 ag.Events, .slice af ag.Places.length ai], .blk b2 54 [.int .i64 ao.Period, .slice am ao.Starts.length aq], .row A40 n41 c42 2 1 (ints xs39), .blk b71 112 [.int .i64 q69.From, .int .i64 q69.To, .int .i64 q69.Delay, .int .i64 q69.Tokens], .row A76 1 1 2 1 (ints ([(IntKind.i64.wrap ((IntKind.i64.wrap ((IntKind.i64.wrap (q72 + (IntKind.i64.wrap (q69.Tokens * ao.Period)))) - q74)) - q69.Delay))]))] := hs
    refine wpO_nil ⟨Or.inl (by decide), ?_⟩
    refine mRun (i := 24) rfl (by kernel_rfl) ?_
    obtain ⟨xs80, ha81, hm66⟩ := bind_some hm66
    refine sAppendL (i := 2) (xs := xs39) (ys := [(IntKind.i64.wrap ((IntKind.i64.wrap ((IntKind.i64.wrap (q72 + (IntKind.i64.wrap (q69.Tokens * ao.Period)))) - q74)) - q69.Delay))]) (enc := ints) hf hs rfl rfl rfl rfl rfl rfl hn43 rfl rfl ha81 el23 ti2 rfl rfl rfl (hs.rd (i := 4) rfl) (Nat.succ_pos _) ints_len1 ints_append ints_one ?_; clear hf hs; intro a w A78 c79 hs hf
    have hs : St [] W w [.blk b1 52 [.int .i64 ag.Events, .slice af ag.Places.length ai], .blk b2 54 [.int .i64 ao.Period, .slice am ao.Starts.length aq], .row A78 xs80.length c79 2 1 (ints xs80), .blk b71 112 [.int .i64 q69.From, .int .i64 q69.To, .int .i64 q69.Delay, .int .i64 q69.Tokens], .row A76 1 1 2 1 (ints ([(IntKind.i64.wrap ((IntKind.i64.wrap ((IntKind.i64.wrap (q72 + (IntKind.i64.wrap (q69.Tokens * ao.Period)))) - q74)) - q69.Delay))]))] := hs
    refine wpO_nil ⟨Or.inl (by decide), ?_⟩
    refine mYp (i := 25) rfl (by kernel_rfl) (by kernel_rfl) hf rfl rfl rfl (fun _ => Y_assign rfl rfl) ?_; clear hf; intro a hf
    refine mDone (by kernel_rfl) ?_
    clear hs0
    refine wpL_nil (Qb_normal ?_)
    refine wpL_region ?_
    refine sY hf hs rfl rfl rfl (Y_move rfl rfl) ?_; clear hf; intro a hf
    refine sY hf hs rfl rfl rfl (Y_add rfl rfl rfl) ?_; clear hf; intro a hf
    refine sY hf hs rfl rfl rfl (Y_assign rfl rfl) ?_; clear hf; intro a hf
    refine wpO_nil ?_
    refine wpL_nil (Ql_normal ?_)
    exact ⟨xs80, (IntKind.i64.wrap (x44 + 1)), A78, xs80.length, c79, hm66, rfl, (FrD.pick (FrD.pick (FrD.pick (FrD.pick hf.none hf rfl) hf rfl) hf rfl) hf rfl), hs.sel [0, 1, 2] (by decide)⟩
   ·have hm66 := bif_f hm66 hb68
    refine wpL_exit (Ql_exit (Qb_exit ?_))
    exact ⟨xs39, A40, n41, c42, Option.some.inj hm66, hn43, (FrD.pick hf.none hf rfl), hs.sel [2] (by decide)⟩
 ·rintro a w ⟨xs59, A60, n61, c62, hr_, hn63, hf, hs⟩
  subst hr_
  try dsimp only at hm
  refine wpL_seq <| wpL_region ?_
  refine sY hf hs rfl rfl rfl (Y_move rfl rfl) ?_; clear hf; intro a hf
  refine sY hf hs rfl rfl rfl (Y_assign rfl rfl) ?_; clear hf; intro a hf
  refine wpO_nil ?_
  obtain rfl := Option.some.inj hm
  refine wpL_ret (ret_tmp rfl hf rfl ?_)
  exact ⟨_, rfl, A60, n61, c62, rfl, hn63, hs⟩

set_option maxRecDepth 100000 in
theorem spec_l20Kept_ok (F : Nat) (ag : GEventGraph) (af : Option Addr) (av ai : Nat) (aA : av = ag.Places.length) (ao : GTimetable) (am : Option Addr) (aG aq : Nat) (aS : aG = ao.Starts.length) (r : Bool) (W : World) (hm : spec_l20Kept F ag ao = some r) (aw : Rd W af ((recs GPlace.cells) ag.Places)) (aH : Rd W am (ints ao.Starts)) :
  Calls Try.prog 140 [.agg #[.int .i64 ag.Events, .slice af av ai], .agg #[.int .i64 ao.Period, .slice am aG aq]].toArray W fun e w' => ∃ v, e = .returned v ∧ v = .bool r ∧ St [] W w' [] := by
 subst aA
 subst aS
 unfold spec_l20Kept at hm
 refine Calls.enter (N := 21) Try.func140 rfl rfl rfl (fun a hf => ?_)
 have hs := St.start W
 obtain ⟨w, hw_⟩ : ∃ w, w = W := ⟨W, rfl⟩
 clear hw_ w
 refine wpL_seq <| wpL_region ?_
 refine sBox hf hs rfl rfl rfl rfl rfl (cs := [.int .i64 ag.Events, .slice af ag.Places.length ai]) rfl ?_; clear hf hs; intro a w b1 hs hf
 have hs : St [] W w [.blk b1 52 [.int .i64 ag.Events, .slice af ag.Places.length ai]] := hs
 refine sBox hf hs rfl rfl rfl rfl rfl (cs := [.int .i64 ao.Period, .slice am ao.Starts.length aq]) rfl ?_; clear hf hs; intro a w b2 hs hf
 have hs : St [] W w [.blk b1 52 [.int .i64 ag.Events, .slice af ag.Places.length ai], .blk b2 54 [.int .i64 ao.Period, .slice am ao.Starts.length aq]] := hs
 refine sY hf hs rfl rfl rfl (Y_assign rfl rfl) ?_; clear hf; intro a hf
 refine wpO_nil <| wpL_seq <| wpL_region ?_
 refine sY hf hs rfl rfl rfl (Y_load_blkS rfl rfl (i := 0) rfl ag52 ti52 rfl) ?_; clear hf; intro a hf
 refine sY hf hs rfl rfl rfl (Y_load_blkS rfl rfl (i := 1) rfl ag54 ti54 rfl) ?_; clear hf; intro a hf
 obtain ⟨r3, hc4, hm⟩ := bind_some hm
 refine sCall hf rfl rfl rfl rfl (cap := []) rfl rfl en90 (spec_l20Slacks_ok F ag af ag.Places.length ai rfl ao am ao.Starts.length aq rfl _ _ hc4 (aw.at hs) (aH.at hs)) ?_; clear hf
 rintro _ w ⟨A5, n6, c7, rfl, hn8, hs1⟩ a hf
 have hs : St [] W w [.blk b1 52 [.int .i64 ag.Events, .slice af ag.Places.length ai], .blk b2 54 [.int .i64 ao.Period, .slice am ao.Starts.length aq], .row A5 n6 c7 2 1 (ints r3)] := hs.join hs1
 clear hs1
 refine sY hf hs rfl rfl rfl (Y_assign rfl rfl) ?_; clear hf; intro a hf
 refine wpO_nil <| wpL_seq <| wpL_seq <| wpL_region ?_
 refine sY hf hs rfl rfl rfl (Y_assign rfl rfl) ?_; clear hf; intro a hf
 refine wpO_nil ?_
 obtain ⟨r23, hl24, hm⟩ := bind_some hm
 refine wpL_block (fun a w => Sum.inr () = r23 ∧ Fr a 21 [] ∧ St [] W w []) ?_ ?_
 ·refine wpL_loop (fun n a w => ∃ x18 : Int, spec_l20Kept_L1 F r3 n x18 = some r23 ∧ Fr a 21 [(5, .slice A5 n6 c7), (6, .int .i64 x18)] ∧ St [] W w [.row A5 n6 c7 2 1 (ints r3)]) F ?_ ?_ ?_
  ·exact ⟨0, hl24, (FrD.pick (FrD.pick hf.none hf rfl) hf rfl), hs.sel [2] (by decide)⟩
  ·rintro a w ⟨x18, h0_, -, -⟩; simp [spec_l20Kept_L1] at h0_
  ·rintro n26 a w ⟨x18, hm25, hf, hs⟩
   rw [spec_l20Kept_L1] at hm25
   refine wpL_seq <| wpL_seq <| wpL_region ?_
   refine sY hf hs rfl rfl rfl (Y_move rfl rfl) ?_; clear hf; intro a hf
   refine sY hf hs rfl rfl rfl (Y_move rfl rfl) ?_; clear hf; intro a hf
   refine sY hf hs rfl rfl rfl (Y_lenH rfl rfl el23 hn8) ?_; clear hf; intro a hf
   refine sY hf hs rfl rfl rfl (Y_lss rfl rfl rfl) ?_; clear hf; intro a hf
   refine wpO_nil ?_
   refine wpL_cond hf rfl (fun hb27 => ?_) (fun hb27 => ?_)
   ·have hm25 := bif_t hm25 hb27
    refine wpL_skip <| wpL_seq <| wpL_block0 <| wpL_seq <| wpL_region ?_
    refine sY hf hs rfl rfl rfl (Y_move rfl rfl) ?_; clear hf; intro a hf
    refine sY hf hs rfl rfl rfl (Y_move rfl rfl) ?_; clear hf; intro a hf
    obtain ⟨q28, hi29, hm25⟩ := bind_some hm25
    obtain ⟨hi29a, hi29b, hi29q⟩ := idx_some hi29
    refine sY hf hs rfl rfl rfl (Y_index rfl rfl rfl el23 ti2 (Rd.isAt (hs.rd (i := 0) rfl) (at1 (ints_at hi29q))) hi29a (ltn hn8 hi29b)) ?_; clear hf; intro a hf
    refine sY hf hs rfl rfl rfl (Y_load_rd rfl rfl (fun w hs => hs.rd (i := 0) rfl) (at1 (ints_at hi29q)) ag2) ?_; clear hf; intro a hf
    refine sY hf hs rfl rfl rfl (Y_lss rfl rfl rfl) ?_; clear hf; intro a hf
    refine wpO_nil ?_
    refine wpL_cond hf rfl (fun hb30 => ?_) (fun hb30 => ?_)
    ·have hm25 := bif_t hm25 hb30
     refine wpL_seq <| wpL_region ?_
     refine sY hf hs rfl rfl rfl (Y_assign rfl rfl) ?_; clear hf; intro a hf
     refine wpO_nil ?_
     obtain rfl := Option.some.inj hm25
     try dsimp only at hm
     obtain rfl := Option.some.inj hm
     refine wpL_ret (Qb_ret (Ql_ret (Qb_ret (ret_tmp rfl hf rfl ?_))))
     exact ⟨_, rfl, rfl, hs.sel [] (by decide)⟩
    ·have hm25 := bif_f hm25 hb30
     refine wpL_skip ?_
     refine wpL_nil (Qb_normal ?_)
     refine wpL_region ?_
     refine sY hf hs rfl rfl rfl (Y_move rfl rfl) ?_; clear hf; intro a hf
     refine sY hf hs rfl rfl rfl (Y_add rfl rfl rfl) ?_; clear hf; intro a hf
     refine sY hf hs rfl rfl rfl (Y_assign rfl rfl) ?_; clear hf; intro a hf
     refine wpO_nil ?_
     refine wpL_nil (Ql_normal ?_)
     exact ⟨(IntKind.i64.wrap (x18 + 1)), hm25, (FrD.pick (FrD.pick hf.none hf rfl) hf rfl), hs⟩
   ·have hm25 := bif_f hm25 hb27
    refine wpL_exit (Ql_exit (Qb_exit ?_))
    exact ⟨Option.some.inj hm25, hf.none, hs.sel [] (by decide)⟩
 ·rintro a w ⟨hr_, hf, hs⟩
  subst hr_
  try dsimp only at hm
  refine wpL_seq <| wpL_region ?_
  refine sY hf hs rfl rfl rfl (Y_assign rfl rfl) ?_; clear hf; intro a hf
  refine wpO_nil ?_
  obtain rfl := Option.some.inj hm
  refine wpL_ret (ret_tmp rfl hf rfl ?_)
  exact ⟨_, rfl, rfl, hs⟩

set_option maxRecDepth 100000 in
theorem spec_l21Code_ok (F : Nat) (ag : GEventGraph) (af : Option Addr) (av ai : Nat) (aA : av = ag.Places.length) (ao : GTimetable) (am : Option Addr) (aG aq : Nat) (aS : aG = ao.Starts.length) (az : List Int) (aC : Option Addr) (aI aD : Nat) (aT : aI = az.length) (cM : Bool) (r : Int) (W : World) (hm : spec_l21Code F ag ao az cM = some r) (aw : Rd W af ((recs GPlace.cells) ag.Places)) (aH : Rd W am (ints ao.Starts)) (aP : Rd W aC (ints az)) :
  Calls Try.prog 79 [.agg #[.int .i64 ag.Events, .slice af av ai], .agg #[.int .i64 ao.Period, .slice am aG aq], .slice aC aI aD, .bool cM].toArray W fun e w' => ∃ v, e = .returned v ∧ v = .int .i64 r ∧ St [] W w' [] := by
 subst aA
 subst aS
 subst aT
 unfold spec_l21Code at hm
 refine Calls.enter (N := 43) Try.func79 rfl rfl rfl (fun a hf => ?_)
 have hs := St.start W
 obtain ⟨w, hw_⟩ : ∃ w, w = W := ⟨W, rfl⟩
 clear hw_ w
 refine wpL_seq <| wpL_region ?_
 refine sBox hf hs rfl rfl rfl rfl rfl (cs := [.int .i64 ag.Events, .slice af ag.Places.length ai]) rfl ?_; clear hf hs; intro a w b1 hs hf
 have hs : St [] W w [.blk b1 52 [.int .i64 ag.Events, .slice af ag.Places.length ai]] := hs
 refine sBox hf hs rfl rfl rfl rfl rfl (cs := [.int .i64 ao.Period, .slice am ao.Starts.length aq]) rfl ?_; clear hf hs; intro a w b2 hs hf
 have hs : St [] W w [.blk b1 52 [.int .i64 ag.Events, .slice af ag.Places.length ai], .blk b2 54 [.int .i64 ao.Period, .slice am ao.Starts.length aq]] := hs
 refine sY hf hs rfl rfl rfl (Y_assign rfl rfl) ?_; clear hf; intro a hf
 refine wpO_nil <| wpL_seq <| wpL_region ?_
 refine sY hf hs rfl rfl rfl (Y_load_blkS rfl rfl (i := 0) rfl ag52 ti52 rfl) ?_; clear hf; intro a hf
 refine sY hf hs rfl rfl rfl (Y_load_blkS rfl rfl (i := 1) rfl ag54 ti54 rfl) ?_; clear hf; intro a hf
 obtain ⟨r3, hc4, hm⟩ := bind_some hm
 refine sCall hf rfl rfl rfl rfl (cap := []) rfl rfl en137 (spec_l20Code_ok F ag af ag.Places.length ai rfl ao am ao.Starts.length aq rfl _ _ hc4 (aw.at hs) (aH.at hs)) ?_; clear hf
 rintro _ w ⟨rfl, hs1⟩ a hf
 have hs : St [] W w [.blk b1 52 [.int .i64 ag.Events, .slice af ag.Places.length ai], .blk b2 54 [.int .i64 ao.Period, .slice am ao.Starts.length aq]] := hs.ext hs1.below
 clear hs1
 refine sY hf hs rfl rfl rfl (Y_assign rfl rfl) ?_; clear hf; intro a hf
 refine wpO_nil <| wpL_seq <| wpL_block0 <| wpL_seq <| wpL_region ?_
 refine sY hf hs rfl rfl rfl (Y_move rfl rfl) ?_; clear hf; intro a hf
 refine sY hf hs rfl rfl rfl (Y_neq rfl rfl rfl) ?_; clear hf; intro a hf
 refine sY hf hs rfl rfl rfl (Y_assign rfl rfl) ?_; clear hf; intro a hf
 refine wpO_nil ?_
 refine wpL_cond hf rfl (fun hb5 => ?_) (fun hb5 => ?_)
 ·have hm := bif_t hm hb5
  refine wpL_seq <| wpL_region ?_
  refine sY hf hs rfl rfl rfl (Y_move rfl rfl) ?_; clear hf; intro a hf
  refine sY hf hs rfl rfl rfl (Y_assign rfl rfl) ?_; clear hf; intro a hf
  refine wpO_nil ?_
  obtain rfl := Option.some.inj hm
  refine wpL_ret (Qb_ret (ret_tmp rfl hf rfl ?_))
  exact ⟨_, rfl, rfl, hs.sel [] (by decide)⟩
 ·have hm := bif_f hm hb5
  refine wpL_seq ?_
  obtain ⟨r11, hj12, hm⟩ := bind_some hm
  refine wpL_cut (fun a w => ∃ b10 : Bool, b10 = r11 ∧ Fr a 43 [(4, .pointer (some ⟨b1, 0, none⟩)), (5, .pointer (some ⟨b2, 0, none⟩)), (17, .bool b10)] ∧ St [] W w [.blk b1 52 [.int .i64 ag.Events, .slice af ag.Places.length ai], .blk b2 54 [.int .i64 ao.Period, .slice am ao.Starts.length aq]]) ?_ ?_
  ·refine wpL_region ?_
   refine sY hf hs rfl rfl rfl (Y_move rfl rfl) ?_; clear hf; intro a hf
   refine sY hf hs rfl rfl rfl (Y_not rfl rfl) ?_; clear hf; intro a hf
   refine sY hf hs rfl rfl rfl (Y_move rfl rfl) ?_; clear hf; intro a hf
   refine bsplit (!cM) (fun hb13 => ?_) (fun hb13 => ?_)
   ·have hj12 := bif_t hj12 hb13
    refine sNo hf rfl rfl rfl (congrArg (fun b => some (Value.bool b)) hb13) rfl rfl rfl ?_; clear hf; intro a hf
    refine sNo hf rfl rfl rfl (congrArg (fun b => some (Value.bool b)) hb13) rfl rfl rfl ?_; clear hf; intro a hf
    refine sNo hf rfl rfl rfl (congrArg (fun b => some (Value.bool b)) hb13) rfl rfl rfl ?_; clear hf; intro a hf
    refine sNo hf rfl rfl rfl (congrArg (fun b => some (Value.bool b)) hb13) rfl rfl rfl ?_; clear hf; intro a hf
    refine sNo hf rfl rfl rfl (congrArg (fun b => some (Value.bool b)) hb13) rfl rfl rfl ?_; clear hf; intro a hf
    refine sY hf hs rfl rfl rfl (Y_pickT rfl (congrArg (fun b => some (Value.bool b)) hb13) rfl) ?_; clear hf; intro a hf
    refine sY hf hs rfl rfl rfl (Y_move rfl rfl) ?_; clear hf; intro a hf
    refine sNo hf rfl rfl rfl rfl rfl rfl rfl ?_; clear hf; intro a hf
    refine sNo hf rfl rfl rfl rfl rfl rfl rfl ?_; clear hf; intro a hf
    refine sNo hf rfl rfl rfl rfl rfl rfl rfl ?_; clear hf; intro a hf
    refine sY hf hs rfl rfl rfl (Y_pickT rfl rfl rfl) ?_; clear hf; intro a hf
    refine sY hf hs rfl rfl rfl (Y_assign rfl rfl) ?_; clear hf; intro a hf
    refine wpO_nil ?_
    refine wpL_nil (then_normal ?_)
    exact ⟨true, Option.some.inj hj12, (FrD.pick (FrD.pick (FrD.pick hf.none hf rfl) hf rfl) hf rfl), hs⟩
   ·have hj12 := bif_f hj12 hb13
    refine sYg hf hs rfl rfl rfl (congrArg (fun b => some (Value.bool b)) hb13) rfl rfl rfl (Y_move rfl rfl) ?_; clear hf; intro a hf
    refine sYg hf hs rfl rfl rfl (congrArg (fun b => some (Value.bool b)) hb13) rfl rfl rfl (Y_lenH rfl rfl el23 rfl) ?_; clear hf; intro a hf
    refine sYg hf hs rfl rfl rfl (congrArg (fun b => some (Value.bool b)) hb13) rfl rfl rfl (Y_fieldAddr rfl rfl fo52_0) ?_; clear hf; intro a hf
    refine sYg hf hs rfl rfl rfl (congrArg (fun b => some (Value.bool b)) hb13) rfl rfl rfl (Y_load_blk rfl rfl (i := 0) rfl rfl ag2) ?_; clear hf; intro a hf
    refine sYg hf hs rfl rfl rfl (congrArg (fun b => some (Value.bool b)) hb13) rfl rfl rfl (Y_neq rfl rfl rfl) ?_; clear hf; intro a hf
    refine sY hf hs rfl rfl rfl (Y_pickF rfl (congrArg (fun b => some (Value.bool b)) hb13) rfl) ?_; clear hf; intro a hf
    refine sY hf hs rfl rfl rfl (Y_move rfl rfl) ?_; clear hf; intro a hf
    refine bsplit ((az.length : Int) != ag.Events) (fun hb14 => ?_) (fun hb14 => ?_)
    ·have hj12 := bif_t hj12 hb14
     refine sNo hf rfl rfl rfl (congrArg (fun b => some (Value.bool b)) hb14) rfl rfl rfl ?_; clear hf; intro a hf
     refine sNo hf rfl rfl rfl (congrArg (fun b => some (Value.bool b)) hb14) rfl rfl rfl ?_; clear hf; intro a hf
     refine sNo hf rfl rfl rfl (congrArg (fun b => some (Value.bool b)) hb14) rfl rfl rfl ?_; clear hf; intro a hf
     refine sY hf hs rfl rfl rfl (Y_pickT rfl (congrArg (fun b => some (Value.bool b)) hb14) rfl) ?_; clear hf; intro a hf
     refine sY hf hs rfl rfl rfl (Y_assign rfl rfl) ?_; clear hf; intro a hf
     refine wpO_nil ?_
     refine wpL_nil (then_normal ?_)
     exact ⟨true, Option.some.inj hj12, (FrD.pick (FrD.pick (FrD.pick hf.none hf rfl) hf rfl) hf rfl), hs⟩
    ·have hj12 := bif_f hj12 hb14
     refine sYg hf hs rfl rfl rfl (congrArg (fun b => some (Value.bool b)) hb14) rfl rfl rfl (Y_move rfl rfl) ?_; clear hf; intro a hf
     obtain ⟨r15, hc16, hj12⟩ := bind_some hj12
     refine sCallg hf rfl rfl rfl (congrArg (fun b => some (Value.bool b)) hb14) rfl rfl rfl rfl (cap := []) rfl rfl en138 (spec_l01Within_ok F az aC az.length aD rfl 10 0 1000000 _ _ hc16 (aP.at hs)) ?_; clear hf
     rintro _ w ⟨rfl, hs1⟩ a hf
     have hs : St [] W w [.blk b1 52 [.int .i64 ag.Events, .slice af ag.Places.length ai], .blk b2 54 [.int .i64 ao.Period, .slice am ao.Starts.length aq]] := hs.ext hs1.below
     clear hs1
     refine sYg hf hs rfl rfl rfl (congrArg (fun b => some (Value.bool b)) hb14) rfl rfl rfl (Y_not rfl rfl) ?_; clear hf; intro a hf
     refine sY hf hs rfl rfl rfl (Y_pickF rfl (congrArg (fun b => some (Value.bool b)) hb14) rfl) ?_; clear hf; intro a hf
     refine sY hf hs rfl rfl rfl (Y_assign rfl rfl) ?_; clear hf; intro a hf
     refine wpO_nil ?_
     refine wpL_nil (then_normal ?_)
     exact ⟨(!r15), Option.some.inj hj12, (FrD.pick (FrD.pick (FrD.pick hf.none hf rfl) hf rfl) hf rfl), hs⟩
  ·rintro a w ⟨b10, hr_, hf, hs⟩
   subst hr_
   try dsimp only at hm
   refine wpL_cond hf rfl (fun hb17 => ?_) (fun hb17 => ?_)
   ·have hm := bif_t hm hb17
    refine wpL_seq <| wpL_region ?_
    refine sY hf hs rfl rfl rfl (Y_assign rfl rfl) ?_; clear hf; intro a hf
    refine wpO_nil ?_
    obtain rfl := Option.some.inj hm
    refine wpL_ret (Qb_ret (ret_tmp rfl hf rfl ?_))
    exact ⟨_, rfl, rfl, hs.sel [] (by decide)⟩
   ·have hm := bif_f hm hb17
    refine wpL_seq ?_
    obtain ⟨r28, hj29, hm⟩ := bind_some hm
    refine wpL_cut (fun a w => ∃ b27 : Bool, b27 = r28 ∧ Fr a 43 [(32, .bool b27)] ∧ St [] W w []) ?_ ?_
    ·refine wpL_region ?_
     refine sY hf hs rfl rfl rfl (Y_load_blkS rfl rfl (i := 0) rfl ag52 ti52 rfl) ?_; clear hf; intro a hf
     obtain ⟨r30, hc31, hj29⟩ := bind_some hj29
     refine sCall hf rfl rfl rfl rfl (cap := []) rfl rfl en139 (spec_l12Dead_ok F ag af ag.Places.length ai rfl _ _ hc31 (aw.at hs)) ?_; clear hf
     rintro _ w ⟨A32, n33, c34, rfl, hn35, hs1⟩ a hf
     have hs : St [] W w [.blk b1 52 [.int .i64 ag.Events, .slice af ag.Places.length ai], .blk b2 54 [.int .i64 ao.Period, .slice am ao.Starts.length aq], .row A32 n33 c34 2 1 (ints r30)] := hs.join hs1
     clear hs1
     refine sY hf hs rfl rfl rfl (Y_lenH rfl rfl el23 hn35) ?_; clear hf; intro a hf
     refine sY hf hs rfl rfl rfl (Y_gtr rfl rfl rfl) ?_; clear hf; intro a hf
     refine sY hf hs rfl rfl rfl (Y_move rfl rfl) ?_; clear hf; intro a hf
     refine bsplit (decide (0 < (r30.length : Int))) (fun hb36 => ?_) (fun hb36 => ?_)
     ·have hj29 := bif_t hj29 hb36
      refine sNo hf rfl rfl rfl (congrArg (fun b => some (Value.bool b)) hb36) rfl rfl rfl ?_; clear hf; intro a hf
      refine sNo hf rfl rfl rfl (congrArg (fun b => some (Value.bool b)) hb36) rfl rfl rfl ?_; clear hf; intro a hf
      refine sNo hf rfl rfl rfl (congrArg (fun b => some (Value.bool b)) hb36) rfl rfl rfl ?_; clear hf; intro a hf
      refine sNo hf rfl rfl rfl (congrArg (fun b => some (Value.bool b)) hb36) rfl rfl rfl ?_; clear hf; intro a hf
      refine sY hf hs rfl rfl rfl (Y_pickT rfl (congrArg (fun b => some (Value.bool b)) hb36) rfl) ?_; clear hf; intro a hf
      refine sY hf hs rfl rfl rfl (Y_assign rfl rfl) ?_; clear hf; intro a hf
      refine wpO_nil ?_
      refine wpL_nil (then_normal ?_)
      exact ⟨true, Option.some.inj hj29, (FrD.pick hf.none hf rfl), hs.sel [] (by decide)⟩
     ·have hj29 := bif_f hj29 hb36
      refine sYg hf hs rfl rfl rfl (congrArg (fun b => some (Value.bool b)) hb36) rfl rfl rfl (Y_load_blkS rfl rfl (i := 0) rfl ag52 ti52 rfl) ?_; clear hf; intro a hf
      refine sYg hf hs rfl rfl rfl (congrArg (fun b => some (Value.bool b)) hb36) rfl rfl rfl (Y_load_blkS rfl rfl (i := 1) rfl ag54 ti54 rfl) ?_; clear hf; intro a hf
      obtain ⟨r37, hc38, hj29⟩ := bind_some hj29
      refine sCallg hf rfl rfl rfl (congrArg (fun b => some (Value.bool b)) hb36) rfl rfl rfl rfl (cap := []) rfl rfl en140 (spec_l20Kept_ok F ag af ag.Places.length ai rfl ao am ao.Starts.length aq rfl _ _ hc38 (aw.at hs) (aH.at hs)) ?_; clear hf
      rintro _ w ⟨rfl, hs1⟩ a hf
      have hs : St [] W w [.blk b1 52 [.int .i64 ag.Events, .slice af ag.Places.length ai], .blk b2 54 [.int .i64 ao.Period, .slice am ao.Starts.length aq], .row A32 n33 c34 2 1 (ints r30)] := hs.ext hs1.below
      clear hs1
      refine sYg hf hs rfl rfl rfl (congrArg (fun b => some (Value.bool b)) hb36) rfl rfl rfl (Y_not rfl rfl) ?_; clear hf; intro a hf
      refine sY hf hs rfl rfl rfl (Y_pickF rfl (congrArg (fun b => some (Value.bool b)) hb36) rfl) ?_; clear hf; intro a hf
      refine sY hf hs rfl rfl rfl (Y_assign rfl rfl) ?_; clear hf; intro a hf
      refine wpO_nil ?_
      refine wpL_nil (then_normal ?_)
      exact ⟨(!r37), Option.some.inj hj29, (FrD.pick hf.none hf rfl), hs.sel [] (by decide)⟩
    ·rintro a w ⟨b27, hr_, hf, hs⟩
     subst hr_
     try dsimp only at hm
     refine wpL_cond hf rfl (fun hb39 => ?_) (fun hb39 => ?_)
     ·have hm := bif_t hm hb39
      refine wpL_seq <| wpL_region ?_
      refine sY hf hs rfl rfl rfl (Y_assign rfl rfl) ?_; clear hf; intro a hf
      refine wpO_nil ?_
      obtain rfl := Option.some.inj hm
      refine wpL_ret (Qb_ret (ret_tmp rfl hf rfl ?_))
      exact ⟨_, rfl, rfl, hs⟩
     ·have hm := bif_f hm hb39
      refine wpL_skip ?_
      refine wpL_nil (Qb_normal ?_)
      refine wpL_seq <| wpL_region ?_
      refine sY hf hs rfl rfl rfl (Y_assign rfl rfl) ?_; clear hf; intro a hf
      refine wpO_nil ?_
      obtain rfl := Option.some.inj hm
      refine wpL_ret (ret_tmp rfl hf rfl ?_)
      exact ⟨_, rfl, rfl, hs⟩

set_option maxRecDepth 100000 in
theorem spec_l12Order_ok (F : Nat) (ag : GEventGraph) (af : Option Addr) (av ai : Nat) (aA : av = ag.Places.length) (r : List Int) (W : World) (hm : spec_l12Order F ag = some r) (aw : Rd W af ((recs GPlace.cells) ag.Places)) :
  Calls Try.prog 145 [.agg #[.int .i64 ag.Events, .slice af av ai]].toArray W fun e w' => ∃ v, e = .returned v ∧ ∃ A2046, ∃ n2047, ∃ c2048, v = .slice A2046 n2047 c2048 ∧ n2047 = r.length ∧ St [] W w' [.row A2046 n2047 c2048 2 1 (ints r)] := by
 subst aA
 unfold spec_l12Order at hm
 refine Calls.enter (N := 54) Try.func145 rfl rfl rfl (fun a hf => ?_)
 have hs := St.start W
 obtain ⟨w, hw_⟩ : ∃ w, w = W := ⟨W, rfl⟩
 clear hw_ w
 refine wpL_seq <| wpL_region ?_
 refine sBox hf hs rfl rfl rfl rfl rfl (cs := [.int .i64 ag.Events, .slice af ag.Places.length ai]) rfl ?_; clear hf hs; intro a w b1 hs hf
 have hs : St [] W w [.blk b1 52 [.int .i64 ag.Events, .slice af ag.Places.length ai]] := hs
 refine sY hf hs rfl rfl rfl (Y_assign rfl rfl) ?_; clear hf; intro a hf
 refine wpO_nil <| wpL_seq <| wpL_region ?_
 refine sY hf hs rfl rfl rfl (Y_load_blkS rfl rfl (i := 0) rfl ag52 ti52 rfl) ?_; clear hf; intro a hf
 obtain ⟨r2, hc3, hm⟩ := bind_some hm
 refine sCall hf rfl rfl rfl rfl (cap := []) rfl rfl en181 (spec_l12Free_ok F ag af ag.Places.length ai rfl _ _ hc3 (aw.at hs)) ?_; clear hf
 rintro _ w ⟨A4, n5, c6, vs8, rfl, hn7, hs1⟩ a hf
 have hs : St [] W w [.blk b1 52 [.int .i64 ag.Events, .slice af ag.Places.length ai], .mat A4 n5 c6 23 2 vs8 r2] := hs.join hs1
 clear hs1
 refine sY hf hs rfl rfl rfl (Y_assign rfl rfl) ?_; clear hf; intro a hf
 refine wpO_nil <| wpL_seq <| wpL_region ?_
 refine sEmpty hf hs rfl rfl rfl rfl el23 ti2 ?_; clear hf hs; intro a w A9 hs hf
 have hs : St [] W w [.blk b1 52 [.int .i64 ag.Events, .slice af ag.Places.length ai], .mat A4 n5 c6 23 2 vs8 r2, .row A9 0 0 2 1 (ints ([] : List Int))] := hs
 refine sY hf hs rfl rfl rfl (Y_assign rfl rfl) ?_; clear hf; intro a hf
 refine wpO_nil <| wpL_seq ?_
 obtain ⟨r1538, hl1539, hm⟩ := bind_some hm
 refine wpL_block (fun a w => ∃ xs1533 : List Int, ∃ A1534, ∃ n1535, ∃ c1536, xs1533 = r1538 ∧ n1535 = xs1533.length ∧ Fr a 54 [(4, .slice A1534 n1535 c1536)] ∧ St [] W w [.row A1534 n1535 c1536 2 1 (ints xs1533)]) ?_ ?_
 ·refine wpL_loop (fun n a w => ∃ xs1024 : List Int, ∃ A1025, ∃ n1026, ∃ c1027, spec_l12Order_L16 F ag r2 n xs1024 = some r1538 ∧ n1026 = xs1024.length ∧ Fr a 54 [(1, .pointer (some ⟨b1, 0, none⟩)), (3, .slice A4 n5 c6), (4, .slice A1025 n1026 c1027)] ∧ St [] W w [.blk b1 52 [.int .i64 ag.Events, .slice af ag.Places.length ai], .mat A4 n5 c6 23 2 vs8 r2, .row A1025 n1026 c1027 2 1 (ints xs1024)]) F ?_ ?_ ?_
  ·exact ⟨([] : List Int), A9, 0, 0, hl1539, rfl, (FrD.pick (FrD.pick (FrD.pick hf.none hf rfl) hf rfl) hf rfl), hs⟩
  ·rintro a w ⟨xs1024, A1025, n1026, c1027, h0_, -, -, -⟩; simp [spec_l12Order_L16] at h0_
  ·rintro n1541 a w ⟨xs1024, A1025, n1026, c1027, hm1540, hn1028, hf, hs⟩
   rw [spec_l12Order_L16] at hm1540
   refine wpL_seq <| wpL_seq <| wpL_region ?_
   refine sY hf hs rfl rfl rfl (Y_move rfl rfl) ?_; clear hf; intro a hf
   refine sY hf hs rfl rfl rfl (Y_lenH rfl rfl el23 hn1028) ?_; clear hf; intro a hf
   refine sY hf hs rfl rfl rfl (Y_fieldAddr rfl rfl fo52_0) ?_; clear hf; intro a hf
   refine sY hf hs rfl rfl rfl (Y_load_blk rfl rfl (i := 0) rfl rfl ag2) ?_; clear hf; intro a hf
   refine sY hf hs rfl rfl rfl (Y_lss rfl rfl rfl) ?_; clear hf; intro a hf
   refine wpO_nil ?_
   refine wpL_cond hf rfl (fun hb1542 => ?_) (fun hb1542 => ?_)
   ·have hm1540 := bif_t hm1540 hb1542
    refine wpL_skip <| wpL_block0 <| wpL_seq <| wpL_region ?_
    refine sY hf hs rfl rfl rfl (Y_assign rfl rfl) ?_; clear hf; intro a hf
    refine wpO_nil ?_
    obtain ⟨r1919, hl1920, hm1540⟩ := bind_some hm1540
    refine wpL_block (fun a w => ∃ xs1914 : List Int, ∃ A1915, ∃ n1916, ∃ c1917, xs1914 = r1919 ∧ n1916 = xs1914.length ∧ Fr a 54 [(1, .pointer (some ⟨b1, 0, none⟩)), (3, .slice A4 n5 c6), (4, .slice A1915 n1916 c1917)] ∧ St [] W w [.blk b1 52 [.int .i64 ag.Events, .slice af ag.Places.length ai], .mat A4 n5 c6 23 2 vs8 r2, .row A1915 n1916 c1917 2 1 (ints xs1914)]) ?_ ?_
    ·refine wpL_loop (fun n a w => ∃ x1790 : Int, spec_l12Order_L20 F ag r2 xs1024 n x1790 = some r1919 ∧ Fr a 54 [(1, .pointer (some ⟨b1, 0, none⟩)), (3, .slice A4 n5 c6), (4, .slice A1025 n1026 c1027), (5, .int .i64 x1790)] ∧ St [] W w [.blk b1 52 [.int .i64 ag.Events, .slice af ag.Places.length ai], .mat A4 n5 c6 23 2 vs8 r2, .row A1025 n1026 c1027 2 1 (ints xs1024)]) F ?_ ?_ ?_
     ·exact ⟨0, hl1920, (FrD.pick (FrD.pick (FrD.pick (FrD.pick hf.none hf rfl) hf rfl) hf rfl) hf rfl), hs⟩
     ·rintro a w ⟨x1790, h0_, -, -⟩; simp [spec_l12Order_L20] at h0_
     ·rintro n1922 a w ⟨x1790, hm1921, hf, hs⟩
      rw [spec_l12Order_L20] at hm1921
      refine wpL_seq <| wpL_seq <| wpL_region ?_
      refine sY hf hs rfl rfl rfl (Y_move rfl rfl) ?_; clear hf; intro a hf
      refine sY hf hs rfl rfl rfl (Y_fieldAddr rfl rfl fo52_0) ?_; clear hf; intro a hf
      refine sY hf hs rfl rfl rfl (Y_load_blk rfl rfl (i := 0) rfl rfl ag2) ?_; clear hf; intro a hf
      refine sY hf hs rfl rfl rfl (Y_lss rfl rfl rfl) ?_; clear hf; intro a hf
      refine wpO_nil ?_
      refine wpL_cond hf rfl (fun hb1923 => ?_) (fun hb1923 => ?_)
      ·have hm1921 := bif_t hm1921 hb1923
       refine wpL_skip <| wpL_seq <| wpL_block0 <| wpL_seq <| wpL_region ?_
       refine sY hf hs rfl rfl rfl (Y_move rfl rfl) ?_; clear hf; intro a hf
       refine sY hf hs rfl rfl rfl (Y_move rfl rfl) ?_; clear hf; intro a hf
       obtain ⟨r1924, hc1925, hm1921⟩ := bind_some hm1921
       refine sCall hf rfl rfl rfl rfl (cap := []) rfl rfl en188 (spec_l01Has_ok F xs1024 A1025 n1026 c1027 hn1028 x1790 _ _ hc1925 (hs.rd (i := 2) rfl)) ?_; clear hf
       rintro _ w ⟨rfl, hs1⟩ a hf
       have hs : St [] W w [.blk b1 52 [.int .i64 ag.Events, .slice af ag.Places.length ai], .mat A4 n5 c6 23 2 vs8 r2, .row A1025 n1026 c1027 2 1 (ints xs1024)] := hs.ext hs1.below
       clear hs1
       refine sY hf hs rfl rfl rfl (Y_not rfl rfl) ?_; clear hf; intro a hf
       refine sY hf hs rfl rfl rfl (Y_assign rfl rfl) ?_; clear hf; intro a hf
       refine wpO_nil <| wpL_seq <| wpL_seq <| wpL_region ?_
       refine sY hf hs rfl rfl rfl (Y_assign rfl rfl) ?_; clear hf; intro a hf
       refine wpO_nil ?_
       obtain ⟨r2009, hl2010, hm1921⟩ := bind_some hm1921
       refine wpL_block (fun a w => ∃ b2008 : Bool, b2008 = r2009 ∧ Fr a 54 [(1, .pointer (some ⟨b1, 0, none⟩)), (3, .slice A4 n5 c6), (4, .slice A1025 n1026 c1027), (5, .int .i64 x1790), (6, .bool b2008)] ∧ St [] W w [.blk b1 52 [.int .i64 ag.Events, .slice af ag.Places.length ai], .mat A4 n5 c6 23 2 vs8 r2, .row A1025 n1026 c1027 2 1 (ints xs1024)]) ?_ ?_
       ·refine wpL_loop (fun n a w => ∃ b1980 : Bool, ∃ x1981 : Int, spec_l12Order_L21 F ag r2 xs1024 x1790 n b1980 x1981 = some r2009 ∧ Fr a 54 [(1, .pointer (some ⟨b1, 0, none⟩)), (3, .slice A4 n5 c6), (4, .slice A1025 n1026 c1027), (5, .int .i64 x1790), (6, .bool b1980), (7, .int .i64 x1981)] ∧ St [] W w [.blk b1 52 [.int .i64 ag.Events, .slice af ag.Places.length ai], .mat A4 n5 c6 23 2 vs8 r2, .row A1025 n1026 c1027 2 1 (ints xs1024)]) F ?_ ?_ ?_
        ·exact ⟨(!r1924), 0, hl2010, (FrD.pick (FrD.pick (FrD.pick (FrD.pick (FrD.pick (FrD.pick hf.none hf rfl) hf rfl) hf rfl) hf rfl) hf rfl) hf rfl), hs⟩
        ·rintro a w ⟨b1980, x1981, h0_, -, -⟩; simp [spec_l12Order_L21] at h0_
        ·rintro n2012 a w ⟨b1980, x1981, hm2011, hf, hs⟩
         rw [spec_l12Order_L21] at hm2011
         refine wpL_seq <| wpL_seq <| wpL_region ?_
         refine sY hf hs rfl rfl rfl (Y_move rfl rfl) ?_; clear hf; intro a hf
         refine sY hf hs rfl rfl rfl (Y_fieldAddr rfl rfl fo52_0) ?_; clear hf; intro a hf
         refine sY hf hs rfl rfl rfl (Y_load_blk rfl rfl (i := 0) rfl rfl ag2) ?_; clear hf; intro a hf
         refine sY hf hs rfl rfl rfl (Y_lss rfl rfl rfl) ?_; clear hf; intro a hf
         refine wpO_nil ?_
         refine wpL_cond hf rfl (fun hb2013 => ?_) (fun hb2013 => ?_)
         ·have hm2011 := bif_t hm2011 hb2013
          refine wpL_skip <| wpL_seq <| wpL_block0 ?_
          obtain ⟨r2026, hj2027, hm2011⟩ := bind_some hm2011
          refine wpL_cut (fun a w => ∃ b2025 : Bool, b2025 = r2026 ∧ Fr a 54 [(1, .pointer (some ⟨b1, 0, none⟩)), (3, .slice A4 n5 c6), (4, .slice A1025 n1026 c1027), (5, .int .i64 x1790), (6, .bool b2025), (7, .int .i64 x1981)] ∧ St [] W w [.blk b1 52 [.int .i64 ag.Events, .slice af ag.Places.length ai], .mat A4 n5 c6 23 2 vs8 r2, .row A1025 n1026 c1027 2 1 (ints xs1024)]) ?_ ?_
          ·refine wpL_region ?_
           refine sY hf hs rfl rfl rfl (Y_move rfl rfl) ?_; clear hf; intro a hf
           refine sY hf hs rfl rfl rfl (Y_move rfl rfl) ?_; clear hf; intro a hf
           refine bsplit b1980 (fun hb2028 => ?_) (fun hb2028 => ?_)
           ·have hj2027 := bif_t hj2027 hb2028
            refine sYg hf hs rfl rfl rfl (congrArg (fun b => some (Value.bool b)) hb2028) rfl rfl rfl (Y_move rfl rfl) ?_; clear hf; intro a hf
            refine sYg hf hs rfl rfl rfl (congrArg (fun b => some (Value.bool b)) hb2028) rfl rfl rfl (Y_move rfl rfl) ?_; clear hf; intro a hf
            obtain ⟨q2029, hi2030, hj2027⟩ := bind_some hj2027
            obtain ⟨hi2030a, hi2030b, hi2030q⟩ := idx_some hi2030
            obtain ⟨A2031, c2032, hv2033⟩ := hs.matRow (i := 1) rfl hi2030q
            refine sYg hf hs rfl rfl rfl (congrArg (fun b => some (Value.bool b)) hb2028) rfl rfl rfl (Y_index rfl rfl rfl el59 ti23 (Rd.isAt (hs.rdV (i := 1) rfl) hv2033) hi2030a (ltn hn7 hi2030b)) ?_; clear hf; intro a hf
            refine sYg hf hs rfl rfl rfl (congrArg (fun b => some (Value.bool b)) hb2028) rfl rfl rfl (Y_load_rd rfl rfl (fun w hs => hs.rdV (i := 1) rfl) (at1 hv2033) ag23) ?_; clear hf; intro a hf
            refine sYg hf hs rfl rfl rfl (congrArg (fun b => some (Value.bool b)) hb2028) rfl rfl rfl (Y_move rfl rfl) ?_; clear hf; intro a hf
            obtain ⟨q2034, hi2035, hj2027⟩ := bind_some hj2027
            obtain ⟨hi2035a, hi2035b, hi2035q⟩ := idx_some hi2035
            refine sYg hf hs rfl rfl rfl (congrArg (fun b => some (Value.bool b)) hb2028) rfl rfl rfl (Y_index rfl rfl rfl el23 ti2 (Rd.isAt (hs.rdRow (i := 1) rfl ⟨hi2030q, hv2033⟩) (at1 (ints_at hi2035q))) hi2035a hi2035b) ?_; clear hf; intro a hf
            refine sYg hf hs rfl rfl rfl (congrArg (fun b => some (Value.bool b)) hb2028) rfl rfl rfl (Y_load_rd rfl rfl (fun w hs => hs.rdRow (i := 1) rfl ⟨hi2030q, hv2033⟩) (at1 (ints_at hi2035q)) ag2) ?_; clear hf; intro a hf
            refine sYg hf hs rfl rfl rfl (congrArg (fun b => some (Value.bool b)) hb2028) rfl rfl rfl (Y_eql rfl rfl rfl) ?_; clear hf; intro a hf
            refine sYg hf hs rfl rfl rfl (congrArg (fun b => some (Value.bool b)) hb2028) rfl rfl rfl (Y_move rfl rfl) ?_; clear hf; intro a hf
            refine bsplit (q2034 == (-1000000000000000)) (fun hb2036 => ?_) (fun hb2036 => ?_)
            ·have hj2027 := bif_t hj2027 hb2036
             refine sNo hf rfl rfl rfl (congrArg (fun b => some (Value.bool b)) hb2036) rfl rfl rfl ?_; clear hf; intro a hf
             refine sNo hf rfl rfl rfl (congrArg (fun b => some (Value.bool b)) hb2036) rfl rfl rfl ?_; clear hf; intro a hf
             refine sNo hf rfl rfl rfl (congrArg (fun b => some (Value.bool b)) hb2036) rfl rfl rfl ?_; clear hf; intro a hf
             refine sYg hf hs rfl rfl rfl (congrArg (fun b => some (Value.bool b)) hb2028) rfl rfl rfl (Y_pickT rfl (congrArg (fun b => some (Value.bool b)) hb2036) rfl) ?_; clear hf; intro a hf
             refine sY hf hs rfl rfl rfl (Y_pickT rfl (congrArg (fun b => some (Value.bool b)) hb2028) rfl) ?_; clear hf; intro a hf
             refine sY hf hs rfl rfl rfl (Y_assign rfl rfl) ?_; clear hf; intro a hf
             refine wpO_nil ?_
             refine wpL_nil (then_normal ?_)
             exact ⟨true, Option.some.inj hj2027, (FrD.pick (FrD.pick (FrD.pick (FrD.pick (FrD.pick (FrD.pick hf.none hf rfl) hf rfl) hf rfl) hf rfl) hf rfl) hf rfl), hs⟩
            ·have hj2027 := bif_f hj2027 hb2036
             refine sYg hf hs rfl rfl rfl (congrArg (fun b => some (Value.bool b)) hb2036) rfl rfl rfl (Y_move rfl rfl) ?_; clear hf; intro a hf
             refine sYg hf hs rfl rfl rfl (congrArg (fun b => some (Value.bool b)) hb2036) rfl rfl rfl (Y_move rfl rfl) ?_; clear hf; intro a hf
             obtain ⟨r2037, hc2038, hj2027⟩ := bind_some hj2027
             refine sCallg hf rfl rfl rfl (congrArg (fun b => some (Value.bool b)) hb2036) rfl rfl rfl rfl (cap := []) rfl rfl en188 (spec_l01Has_ok F xs1024 A1025 n1026 c1027 hn1028 x1981 _ _ hc2038 (hs.rd (i := 2) rfl)) ?_; clear hf
             rintro _ w ⟨rfl, hs1⟩ a hf
             have hs : St [] W w [.blk b1 52 [.int .i64 ag.Events, .slice af ag.Places.length ai], .mat A4 n5 c6 23 2 vs8 r2, .row A1025 n1026 c1027 2 1 (ints xs1024)] := hs.ext hs1.below
             clear hs1
             refine sYg hf hs rfl rfl rfl (congrArg (fun b => some (Value.bool b)) hb2028) rfl rfl rfl (Y_pickF rfl (congrArg (fun b => some (Value.bool b)) hb2036) rfl) ?_; clear hf; intro a hf
             refine sY hf hs rfl rfl rfl (Y_pickT rfl (congrArg (fun b => some (Value.bool b)) hb2028) rfl) ?_; clear hf; intro a hf
             refine sY hf hs rfl rfl rfl (Y_assign rfl rfl) ?_; clear hf; intro a hf
             refine wpO_nil ?_
             refine wpL_nil (then_normal ?_)
             exact ⟨r2037, Option.some.inj hj2027, (FrD.pick (FrD.pick (FrD.pick (FrD.pick (FrD.pick (FrD.pick hf.none hf rfl) hf rfl) hf rfl) hf rfl) hf rfl) hf rfl), hs⟩
           ·have hj2027 := bif_f hj2027 hb2028
            refine sNo hf rfl rfl rfl (congrArg (fun b => some (Value.bool b)) hb2028) rfl rfl rfl ?_; clear hf; intro a hf
            refine sNo hf rfl rfl rfl (congrArg (fun b => some (Value.bool b)) hb2028) rfl rfl rfl ?_; clear hf; intro a hf
            refine sNo hf rfl rfl rfl (congrArg (fun b => some (Value.bool b)) hb2028) rfl rfl rfl ?_; clear hf; intro a hf
            refine sNo hf rfl rfl rfl (congrArg (fun b => some (Value.bool b)) hb2028) rfl rfl rfl ?_; clear hf; intro a hf
            refine sNo hf rfl rfl rfl (congrArg (fun b => some (Value.bool b)) hb2028) rfl rfl rfl ?_; clear hf; intro a hf
            refine sNo hf rfl rfl rfl (congrArg (fun b => some (Value.bool b)) hb2028) rfl rfl rfl ?_; clear hf; intro a hf
            refine sNo hf rfl rfl rfl (congrArg (fun b => some (Value.bool b)) hb2028) rfl rfl rfl ?_; clear hf; intro a hf
            refine sNo hf rfl rfl rfl (congrArg (fun b => some (Value.bool b)) hb2028) rfl rfl rfl ?_; clear hf; intro a hf
            refine sNo hf rfl rfl rfl (congrArg (fun b => some (Value.bool b)) hb2028) rfl rfl rfl ?_; clear hf; intro a hf
            refine sNoU hf rfl rfl rfl rfl rfl rfl rfl ?_; clear hf; intro a hf
            refine sNoU hf rfl rfl rfl rfl rfl rfl rfl ?_; clear hf; intro a hf
            refine sNoU hf rfl rfl rfl rfl rfl rfl rfl ?_; clear hf; intro a hf
            refine sNo hf rfl rfl rfl (congrArg (fun b => some (Value.bool b)) hb2028) rfl rfl rfl ?_; clear hf; intro a hf
            refine sY hf hs rfl rfl rfl (Y_pickF rfl (congrArg (fun b => some (Value.bool b)) hb2028) rfl) ?_; clear hf; intro a hf
            refine sY hf hs rfl rfl rfl (Y_assign rfl rfl) ?_; clear hf; intro a hf
            refine wpO_nil ?_
            refine wpL_nil (then_normal ?_)
            exact ⟨false, Option.some.inj hj2027, (FrD.pick (FrD.pick (FrD.pick (FrD.pick (FrD.pick (FrD.pick hf.none hf rfl) hf rfl) hf rfl) hf rfl) hf rfl) hf rfl), hs⟩
          ·rintro a w ⟨b2025, hr_, hf, hs⟩
           subst hr_
           try dsimp only at hm2011
           refine wpL_nil (Qb_normal ?_)
           refine wpL_region ?_
           refine sY hf hs rfl rfl rfl (Y_move rfl rfl) ?_; clear hf; intro a hf
           refine sY hf hs rfl rfl rfl (Y_add rfl rfl rfl) ?_; clear hf; intro a hf
           refine sY hf hs rfl rfl rfl (Y_assign rfl rfl) ?_; clear hf; intro a hf
           refine wpO_nil ?_
           refine wpL_nil (Ql_normal ?_)
           exact ⟨b2025, (IntKind.i64.wrap (x1981 + 1)), hm2011, (FrD.pick (FrD.pick (FrD.pick (FrD.pick (FrD.pick (FrD.pick hf.none hf rfl) hf rfl) hf rfl) hf rfl) hf rfl) hf rfl), hs⟩
         ·have hm2011 := bif_f hm2011 hb2013
          refine wpL_exit (Ql_exit (Qb_exit ?_))
          exact ⟨b1980, Option.some.inj hm2011, (FrD.pick (FrD.pick (FrD.pick (FrD.pick (FrD.pick hf.none hf rfl) hf rfl) hf rfl) hf rfl) hf rfl), hs⟩
       ·rintro a w ⟨b2008, hr_, hf, hs⟩
        subst hr_
        try dsimp only at hm1921
        refine wpL_seq <| wpL_region ?_
        refine sY hf hs rfl rfl rfl (Y_move rfl rfl) ?_; clear hf; intro a hf
        refine wpO_nil ?_
        refine wpL_cond hf rfl (fun hb2039 => ?_) (fun hb2039 => ?_)
        ·have hm1921 := bif_t hm1921 hb2039
         refine wpL_seq <| wpL_region ?_
         refine sY hf hs rfl rfl rfl (Y_move rfl rfl) ?_; clear hf; intro a hf
         refine sY hf hs rfl rfl rfl (Y_move rfl rfl) ?_; clear hf; intro a hf
         refine sBuildSlice (parts := [(0, .tmp 50)]) (vs := [.int .i64 x1790]) (cells := [.int .i64 x1790]) hf hs rfl rfl rfl rfl rfl el23 ti2 rfl rfl rfl rfl ?_; clear hf hs; intro a w A2040 hs hA2041 hf
         have hs : St [] W w [.blk b1 52 [.int .i64 ag.Events, .slice af ag.Places.length ai], .mat A4 n5 c6 23 2 vs8 r2, .row A1025 n1026 c1027 2 1 (ints xs1024), .row A2040 1 1 2 1 (ints ([x1790]))] := hs
         obtain ⟨xs2044, ha2045, hm1921⟩ := bind_some hm1921
         refine sAppendL (i := 2) (xs := xs1024) (ys := [x1790]) (enc := ints) hf hs rfl rfl rfl rfl rfl rfl hn1028 rfl rfl ha2045 el23 ti2 rfl rfl rfl (hs.rd (i := 3) rfl) (Nat.succ_pos _) ints_len1 ints_append ints_one ?_; clear hf hs; intro a w A2042 c2043 hs hf
         have hs : St [] W w [.blk b1 52 [.int .i64 ag.Events, .slice af ag.Places.length ai], .mat A4 n5 c6 23 2 vs8 r2, .row A2042 xs2044.length c2043 2 1 (ints xs2044), .row A2040 1 1 2 1 (ints ([x1790]))] := hs
         refine sY hf hs rfl rfl rfl (Y_assign rfl rfl) ?_; clear hf; intro a hf
         refine wpO_nil ?_
         refine wpL_exit (Qb_exit_ne rfl (Ql_exit (Qb_exit ?_)))
         exact ⟨xs2044, A2042, xs2044.length, c2043, Option.some.inj hm1921, rfl, (FrD.pick (FrD.pick (FrD.pick hf.none hf rfl) hf rfl) hf rfl), hs.sel [0, 1, 2] (by decide)⟩
        ·have hm1921 := bif_f hm1921 hb2039
         refine wpL_skip ?_
         refine wpL_nil (Qb_normal ?_)
         refine wpL_region ?_
         refine sY hf hs rfl rfl rfl (Y_move rfl rfl) ?_; clear hf; intro a hf
         refine sY hf hs rfl rfl rfl (Y_add rfl rfl rfl) ?_; clear hf; intro a hf
         refine sY hf hs rfl rfl rfl (Y_assign rfl rfl) ?_; clear hf; intro a hf
         refine wpO_nil ?_
         refine wpL_nil (Ql_normal ?_)
         exact ⟨(IntKind.i64.wrap (x1790 + 1)), hm1921, (FrD.pick (FrD.pick (FrD.pick (FrD.pick hf.none hf rfl) hf rfl) hf rfl) hf rfl), hs⟩
      ·have hm1921 := bif_f hm1921 hb1923
       refine wpL_exit (Ql_exit (Qb_exit ?_))
       exact ⟨xs1024, A1025, n1026, c1027, Option.some.inj hm1921, hn1028, (FrD.pick (FrD.pick (FrD.pick hf.none hf rfl) hf rfl) hf rfl), hs⟩
    ·rintro a w ⟨xs1914, A1915, n1916, c1917, hr_, hn1918, hf, hs⟩
     subst hr_
     try dsimp only at hm1540
     refine wpL_nil (Qb_normal ?_)
     refine wpL_nil (Ql_normal ?_)
     exact ⟨xs1914, A1915, n1916, c1917, hm1540, hn1918, (FrD.pick (FrD.pick (FrD.pick hf.none hf rfl) hf rfl) hf rfl), hs⟩
   ·have hm1540 := bif_f hm1540 hb1542
    refine wpL_exit (Ql_exit (Qb_exit ?_))
    exact ⟨xs1024, A1025, n1026, c1027, Option.some.inj hm1540, hn1028, (FrD.pick hf.none hf rfl), hs.sel [2] (by decide)⟩
 ·rintro a w ⟨xs1533, A1534, n1535, c1536, hr_, hn1537, hf, hs⟩
  subst hr_
  try dsimp only at hm
  refine wpL_seq <| wpL_region ?_
  refine sY hf hs rfl rfl rfl (Y_move rfl rfl) ?_; clear hf; intro a hf
  refine sY hf hs rfl rfl rfl (Y_assign rfl rfl) ?_; clear hf; intro a hf
  refine wpO_nil ?_
  obtain rfl := Option.some.inj hm
  refine wpL_ret (ret_tmp rfl hf rfl ?_)
  exact ⟨_, rfl, A1534, n1535, c1536, rfl, hn1537, hs⟩

set_option maxHeartbeats 2000000 in
set_option maxRecDepth 100000 in
theorem spec_l21Table_ok (F : Nat) (p0 : GEventGraph) (au : Option Addr) (aZ ax : Nat) (bQ : aZ = p0.Places.length) (p1 : GTimetable) (ay : Option Addr) (aU aB : Nat) (bW : aU = p1.Starts.length) (p2 : List Int) (bw : Option Addr) (cz bC : Nat) (cE : cz = p2.length) (p3 : Int) (r : List (List Int)) (W : World) (hm : spec_l21Table F p0 p1 p2 p3 = some r) (ba : Rd W au ((recs GPlace.cells) p0.Places)) (bj : Rd W ay (ints p1.Starts)) (cK : Rd W bw (ints p2)) :
  Calls Try.prog 95 [.agg #[.int .i64 p0.Events, .slice au aZ ax], .agg #[.int .i64 p1.Period, .slice ay aU aB], .slice bw cz bC, .int .i64 p3].toArray W fun e w' => ∃ v, e = .returned v ∧ ∃ A5576, ∃ n5577, ∃ c5578, ∃ vs5580, v = .slice A5576 n5577 c5578 ∧ n5577 = r.length ∧ St [] W w' [.mat A5576 n5577 c5578 23 2 vs5580 r] := by
 subst bQ
 subst bW
 subst cE
 unfold spec_l21Table at hm
 refine Calls.enter (N := 115) Try.func95 rfl rfl rfl (fun a hf => ?_)
 have hs := St.start W
 obtain ⟨w, hw_⟩ : ∃ w, w = W := ⟨W, rfl⟩
 clear hw_ w
 refine wpL_seq <| wpL_region ?_
 refine sBox hf hs rfl rfl rfl rfl rfl (cs := [.int .i64 p0.Events, .slice au p0.Places.length ax]) rfl ?_; clear hf hs; intro a w b1 hs hf
 have hs : St [] W w [.blk b1 52 [.int .i64 p0.Events, .slice au p0.Places.length ax]] := hs
 refine sBox hf hs rfl rfl rfl rfl rfl (cs := [.int .i64 p1.Period, .slice ay p1.Starts.length aB]) rfl ?_; clear hf hs; intro a w b2 hs hf
 have hs : St [] W w [.blk b1 52 [.int .i64 p0.Events, .slice au p0.Places.length ax], .blk b2 54 [.int .i64 p1.Period, .slice ay p1.Starts.length aB]] := hs
 refine sY hf hs rfl rfl rfl (Y_assign rfl rfl) ?_; clear hf; intro a hf
 refine wpO_nil <| wpL_seq <| wpL_region ?_
 refine sY hf hs rfl rfl rfl (Y_load_blkS rfl rfl (i := 0) rfl ag52 ti52 rfl) ?_; clear hf; intro a hf
 obtain ⟨r3, hc4, hm⟩ := bind_some hm
 refine sCall hf rfl rfl rfl rfl (cap := []) rfl rfl en145 (spec_l12Order_ok F p0 au p0.Places.length ax rfl _ _ hc4 (ba.at hs)) ?_; clear hf
 rintro _ w ⟨A5, n6, c7, rfl, hn8, hs1⟩ a hf
 have hs : St [] W w [.blk b1 52 [.int .i64 p0.Events, .slice au p0.Places.length ax], .blk b2 54 [.int .i64 p1.Period, .slice ay p1.Starts.length aB], .row A5 n6 c7 2 1 (ints r3)] := hs.join hs1
 clear hs1
 refine sY hf hs rfl rfl rfl (Y_assign rfl rfl) ?_; clear hf; intro a hf
 refine wpO_nil <| wpL_seq <| wpL_region ?_
 refine sEmptyM 2 hf hs rfl rfl rfl rfl el59 ti23 rfl ?_; clear hf hs; intro a w A9 hs hf
 have hs : St [] W w [.blk b1 52 [.int .i64 p0.Events, .slice au p0.Places.length ax], .blk b2 54 [.int .i64 p1.Period, .slice ay p1.Starts.length aB], .row A5 n6 c7 2 1 (ints r3), .mat A9 0 0 23 2 [] []] := hs
 refine sY hf hs rfl rfl rfl (Y_assign rfl rfl) ?_; clear hf; intro a hf
 refine wpO_nil <| wpL_seq <| wpL_seq <| wpL_region ?_
 refine sY hf hs rfl rfl rfl (Y_assign rfl rfl) ?_; clear hf; intro a hf
 refine wpO_nil ?_
 obtain ⟨r4187, hl4188, hm⟩ := bind_some hm
 refine wpL_block (fun a w => ∃ ms4181 : List (List Int), ∃ A4182, ∃ n4183, ∃ c4184, ∃ vs4186, ms4181 = r4187 ∧ n4183 = ms4181.length ∧ Fr a 115 [(10, .slice A4182 n4183 c4184)] ∧ St [] W w [.mat A4182 n4183 c4184 23 2 vs4186 ms4181]) ?_ ?_
 ·refine wpL_loop (fun n a w => ∃ ms2789 : List (List Int), ∃ x2795 : Int, ∃ A2790, ∃ n2791, ∃ c2792, ∃ vs2794, spec_l21Table_L16 F p0 p1 p2 p3 r3 n ms2789 x2795 = some r4187 ∧ n2791 = ms2789.length ∧ Fr a 115 [(2, .slice bw p2.length bC), (3, .int .i64 p3), (4, .pointer (some ⟨b1, 0, none⟩)), (5, .pointer (some ⟨b2, 0, none⟩)), (9, .slice A5 n6 c7), (10, .slice A2790 n2791 c2792), (11, .int .i64 x2795)] ∧ St [] W w [.blk b1 52 [.int .i64 p0.Events, .slice au p0.Places.length ax], .blk b2 54 [.int .i64 p1.Period, .slice ay p1.Starts.length aB], .row A5 n6 c7 2 1 (ints r3), .mat A2790 n2791 c2792 23 2 vs2794 ms2789]) F ?_ ?_ ?_
  ·exact ⟨[], 1, A9, 0, 0, [], hl4188, rfl, (FrD.pick (FrD.pick (FrD.pick (FrD.pick (FrD.pick (FrD.pick (FrD.pick hf.none hf rfl) hf rfl) hf rfl) hf rfl) hf rfl) hf rfl) hf rfl), hs⟩
  ·rintro a w ⟨ms2789, x2795, A2790, n2791, c2792, vs2794, h0_, -, -, -⟩; simp [spec_l21Table_L16] at h0_
  ·rintro n4190 a w ⟨ms2789, x2795, A2790, n2791, c2792, vs2794, hm4189, hn2793, hf, hs⟩
   rw [spec_l21Table_L16] at hm4189
   refine wpL_seq <| wpL_seq <| wpL_region ?_
   refine sY hf hs rfl rfl rfl (Y_move rfl rfl) ?_; clear hf; intro a hf
   refine sY hf hs rfl rfl rfl (Y_move rfl rfl) ?_; clear hf; intro a hf
   refine sY hf hs rfl rfl rfl (Y_leq rfl rfl rfl) ?_; clear hf; intro a hf
   refine wpO_nil ?_
   refine wpL_cond hf rfl (fun hb4191 => ?_) (fun hb4191 => ?_)
   ·have hm4189 := bif_t hm4189 hb4191
    refine wpL_skip <| wpL_seq <| wpL_block0 <| wpL_seq <| wpL_region ?_
    refine sY hf hs rfl rfl rfl (Y_fieldAddr rfl rfl fo52_0) ?_; clear hf; intro a hf
    refine sY hf hs rfl rfl rfl (Y_load_blk rfl rfl (i := 0) rfl rfl ag2) ?_; clear hf; intro a hf
    obtain ⟨xs4194, hk4193, hm4189⟩ := bind_some hm4189
    refine sMakeL (enc := ints) hf hs rfl rfl rfl rfl rfl hk4193 el23 ti2 rfl ints_made ?_; clear hf hs; intro a w A4192 hs hf
    have hs : St [] W w [.blk b1 52 [.int .i64 p0.Events, .slice au p0.Places.length ax], .blk b2 54 [.int .i64 p1.Period, .slice ay p1.Starts.length aB], .row A5 n6 c7 2 1 (ints r3), .mat A2790 n2791 c2792 23 2 vs2794 ms2789, .row A4192 xs4194.length xs4194.length 2 1 (ints xs4194)] := hs
    refine sY hf hs rfl rfl rfl (Y_assign rfl rfl) ?_; clear hf; intro a hf
    refine wpO_nil <| wpL_seq <| wpL_seq <| wpL_region ?_
    refine sY hf hs rfl rfl rfl (Y_move rfl rfl) ?_; clear hf; intro a hf
    refine sY hf hs rfl rfl rfl (Y_eql rfl rfl rfl) ?_; clear hf; intro a hf
    refine wpO_nil ?_
    obtain ⟨r4207, hj4208, hm4189⟩ := bind_some hm4189
    refine wpL_cut (fun a w => ∃ xs4202 : List Int, ∃ A4203, ∃ n4204, ∃ c4205, xs4202 = r4207 ∧ n4204 = xs4202.length ∧ Fr a 115 [(2, .slice bw p2.length bC), (3, .int .i64 p3), (4, .pointer (some ⟨b1, 0, none⟩)), (5, .pointer (some ⟨b2, 0, none⟩)), (9, .slice A5 n6 c7), (10, .slice A2790 n2791 c2792), (11, .int .i64 x2795), (12, .slice A4203 n4204 c4205)] ∧ St [] W w [.blk b1 52 [.int .i64 p0.Events, .slice au p0.Places.length ax], .blk b2 54 [.int .i64 p1.Period, .slice ay p1.Starts.length aB], .row A5 n6 c7 2 1 (ints r3), .mat A2790 n2791 c2792 23 2 vs2794 ms2789, .row A4203 n4204 c4205 2 1 (ints xs4202)]) ?_ ?_
    ·refine wpL_cond hf rfl (fun hb4209 => ?_) (fun hb4209 => ?_)
     ·have hj4208 := bif_t hj4208 hb4209
      refine wpL_region ?_
      refine sY hf hs rfl rfl rfl (Y_move rfl rfl) ?_; clear hf; intro a hf
      obtain ⟨r4210, hc4211, hj4208⟩ := bind_some hj4208
      refine sCall hf rfl rfl rfl rfl (cap := []) rfl rfl en146 (spec_l01Own_ok F p2 bw p2.length bC rfl _ _ hc4211 (cK.at hs)) ?_; clear hf
      rintro _ w ⟨A4212, n4213, c4214, rfl, hn4215, hs1⟩ a hf
      have hs : St [] W w [.blk b1 52 [.int .i64 p0.Events, .slice au p0.Places.length ax], .blk b2 54 [.int .i64 p1.Period, .slice ay p1.Starts.length aB], .row A5 n6 c7 2 1 (ints r3), .mat A2790 n2791 c2792 23 2 vs2794 ms2789, .row A4192 xs4194.length xs4194.length 2 1 (ints xs4194), .row A4212 n4213 c4214 2 1 (ints r4210)] := hs.join hs1
      clear hs1
      refine sY hf hs rfl rfl rfl (Y_assign rfl rfl) ?_; clear hf; intro a hf
      refine wpO_nil ?_
      refine wpL_nil (then_normal ?_)
      exact ⟨r4210, A4212, n4213, c4214, Option.some.inj hj4208, hn4215, (FrD.pick (FrD.pick (FrD.pick (FrD.pick (FrD.pick (FrD.pick (FrD.pick (FrD.pick hf.none hf rfl) hf rfl) hf rfl) hf rfl) hf rfl) hf rfl) hf rfl) hf rfl), hs.sel [0, 1, 2, 3, 5] (by decide)⟩
     ·have hj4208 := bif_f hj4208 hb4209
      refine wpL_skip ?_
      refine wpL_nil (then_normal ?_)
      exact ⟨xs4194, A4192, xs4194.length, xs4194.length, Option.some.inj hj4208, rfl, (FrD.pick (FrD.pick (FrD.pick (FrD.pick (FrD.pick (FrD.pick (FrD.pick (FrD.pick hf.none hf rfl) hf rfl) hf rfl) hf rfl) hf rfl) hf rfl) hf rfl) hf rfl), hs⟩
    ·rintro a w ⟨xs4202, A4203, n4204, c4205, hr_, hn4206, hf, hs⟩
     subst hr_
     try dsimp only at hm4189
     refine wpL_seq <| wpL_region ?_
     refine sY hf hs rfl rfl rfl (Y_move rfl rfl) ?_; clear hf; intro a hf
     refine sY hf hs rfl rfl rfl (Y_move rfl rfl) ?_; clear hf; intro a hf
     refine sOneM (j := 4) hf hs rfl rfl rfl rfl rfl rfl hn4206 el59 ti23 ?_; clear hf hs; intro a w A4216 hs hf
     have hs : St [] W w [.blk b1 52 [.int .i64 p0.Events, .slice au p0.Places.length ax], .blk b2 54 [.int .i64 p1.Period, .slice ay p1.Starts.length aB], .row A5 n6 c7 2 1 (ints r3), .mat A2790 n2791 c2792 23 2 vs2794 ms2789, .mat A4216 1 1 23 2 ([Value.slice A4203 xs4202.length c4205]) ([xs4202])] := hs
     obtain ⟨ms4220, ha4221, hm4189⟩ := bind_some hm4189
     refine sAppendM (i := 3) (j := 4) hf hs rfl rfl rfl rfl rfl rfl hn2793 rfl (by decide) rfl rfl (by decide) ha4221 el59 ti23 rfl ?_; clear hf hs; intro a w A4218 c4219 hs hf
     have hs : St [] W w [.blk b1 52 [.int .i64 p0.Events, .slice au p0.Places.length ax], .blk b2 54 [.int .i64 p1.Period, .slice ay p1.Starts.length aB], .row A5 n6 c7 2 1 (ints r3), .mat A4218 ms4220.length c4219 23 2 (vs2794 ++ ([Value.slice A4203 xs4202.length c4205])) ms4220] := hs
     obtain ⟨hq4222, hv4223⟩ := hs.appended (i := 3) rfl ha4221
     refine sY hf hs rfl rfl rfl (Y_assign rfl rfl) ?_; clear hf; intro a hf
     refine wpO_nil <| wpL_seq <| wpL_region ?_
     refine sY hf hs rfl rfl rfl (Y_assign rfl rfl) ?_; clear hf; intro a hf
     refine wpO_nil ?_
     obtain ⟨r5239, hl5240, hm4189⟩ := bind_some hm4189
     refine wpL_block (fun a w => ∃ ms5237 : List (List Int), ms5237 = r5239 ∧ ms4220.length = ms5237.length ∧ Fr a 115 [(2, .slice bw p2.length bC), (3, .int .i64 p3), (4, .pointer (some ⟨b1, 0, none⟩)), (5, .pointer (some ⟨b2, 0, none⟩)), (9, .slice A5 n6 c7), (10, .slice A4218 ms4220.length c4219), (11, .int .i64 x2795)] ∧ St [] W w [.blk b1 52 [.int .i64 p0.Events, .slice au p0.Places.length ax], .blk b2 54 [.int .i64 p1.Period, .slice ay p1.Starts.length aB], .row A5 n6 c7 2 1 (ints r3), .mat A4218 ms4220.length c4219 23 2 (vs2794 ++ ([Value.slice A4203 xs4202.length c4205])) ms5237]) ?_ ?_
     ·refine wpL_loop (fun n a w => ∃ ms4897 : List (List Int), ∃ x4899 : Int, ∃ xs4900 : List Int, spec_l21Table_L20 F p0 p1 r3 ms2789 x2795 n ms4897 x4899 xs4900 = some r5239 ∧ ms4220.length = ms4897.length ∧ n4204 = xs4900.length ∧ ms4897[((ms2789.length : Int) : Int).toNat]? = some xs4900 ∧ (vs2794 ++ ([Value.slice A4203 xs4202.length c4205]))[((ms2789.length : Int) : Int).toNat]? = some (Value.slice A4203 xs4900.length c4205) ∧ Fr a 115 [(2, .slice bw p2.length bC), (3, .int .i64 p3), (4, .pointer (some ⟨b1, 0, none⟩)), (5, .pointer (some ⟨b2, 0, none⟩)), (9, .slice A5 n6 c7), (10, .slice A4218 ms4220.length c4219), (11, .int .i64 x2795), (12, .slice A4203 n4204 c4205), (13, .int .i64 x4899)] ∧ St [] W w [.blk b1 52 [.int .i64 p0.Events, .slice au p0.Places.length ax], .blk b2 54 [.int .i64 p1.Period, .slice ay p1.Starts.length aB], .row A5 n6 c7 2 1 (ints r3), .mat A4218 ms4220.length c4219 23 2 (vs2794 ++ ([Value.slice A4203 xs4202.length c4205])) ms4897]) F ?_ ?_ ?_
      ·exact ⟨ms4220, 0, xs4202, hl5240, rfl, hn4206, hq4222, hv4223, (FrD.pick (FrD.pick (FrD.pick (FrD.pick (FrD.pick (FrD.pick (FrD.pick (FrD.pick (FrD.pick hf.none hf rfl) hf rfl) hf rfl) hf rfl) hf rfl) hf rfl) hf rfl) hf rfl) hf rfl), hs⟩
      ·rintro a w ⟨ms4897, x4899, xs4900, h0_, -, -, -, -, -, -⟩; simp [spec_l21Table_L20] at h0_
      ·rintro n5242 a w ⟨ms4897, x4899, xs4900, hm5241, hn4898, hn4901, hq4902, hv4903, hf, hs⟩
       rw [spec_l21Table_L20] at hm5241
       refine wpL_seq <| wpL_seq <| wpL_region ?_
       refine sY hf hs rfl rfl rfl (Y_move rfl rfl) ?_; clear hf; intro a hf
       refine sY hf hs rfl rfl rfl (Y_move rfl rfl) ?_; clear hf; intro a hf
       refine sY hf hs rfl rfl rfl (Y_lenH rfl rfl el23 hn8) ?_; clear hf; intro a hf
       refine sY hf hs rfl rfl rfl (Y_lss rfl rfl rfl) ?_; clear hf; intro a hf
       refine wpO_nil ?_
       refine wpL_cond hf rfl (fun hb5243 => ?_) (fun hb5243 => ?_)
       ·have hm5241 := bif_t hm5241 hb5243
        refine wpL_skip <| wpL_seq <| wpL_block0 <| wpL_seq <| wpL_region ?_
        refine sY hf hs rfl rfl rfl (Y_assign rfl rfl) ?_; clear hf; intro a hf
        refine wpO_nil ?_
        obtain ⟨r5495, hl5496, hm5241⟩ := bind_some hm5241
        refine wpL_block (fun a w => ∃ ms5489 : List (List Int), ∃ xs5491 : List Int, (ms5489, xs5491) = r5495 ∧ ms4220.length = ms5489.length ∧ n4204 = xs5491.length ∧ ms5489[((ms2789.length : Int) : Int).toNat]? = some xs5491 ∧ (vs2794 ++ ([Value.slice A4203 xs4202.length c4205]))[((ms2789.length : Int) : Int).toNat]? = some (Value.slice A4203 xs5491.length c4205) ∧ Fr a 115 [(2, .slice bw p2.length bC), (3, .int .i64 p3), (4, .pointer (some ⟨b1, 0, none⟩)), (5, .pointer (some ⟨b2, 0, none⟩)), (9, .slice A5 n6 c7), (10, .slice A4218 ms4220.length c4219), (11, .int .i64 x2795), (12, .slice A4203 n4204 c4205), (13, .int .i64 x4899)] ∧ St [] W w [.blk b1 52 [.int .i64 p0.Events, .slice au p0.Places.length ax], .blk b2 54 [.int .i64 p1.Period, .slice ay p1.Starts.length aB], .row A5 n6 c7 2 1 (ints r3), .mat A4218 ms4220.length c4219 23 2 (vs2794 ++ ([Value.slice A4203 xs4202.length c4205])) ms5489]) ?_ ?_
        ·refine wpL_loop (fun n a w => ∃ ms5405 : List (List Int), ∃ x5407 : Int, ∃ xs5408 : List Int, spec_l21Table_L21 F p0 p1 r3 ms2789 x2795 x4899 n ms5405 x5407 xs5408 = some r5495 ∧ ms4220.length = ms5405.length ∧ n4204 = xs5408.length ∧ ms5405[((ms2789.length : Int) : Int).toNat]? = some xs5408 ∧ (vs2794 ++ ([Value.slice A4203 xs4202.length c4205]))[((ms2789.length : Int) : Int).toNat]? = some (Value.slice A4203 xs5408.length c4205) ∧ Fr a 115 [(2, .slice bw p2.length bC), (3, .int .i64 p3), (4, .pointer (some ⟨b1, 0, none⟩)), (5, .pointer (some ⟨b2, 0, none⟩)), (9, .slice A5 n6 c7), (10, .slice A4218 ms4220.length c4219), (11, .int .i64 x2795), (12, .slice A4203 n4204 c4205), (13, .int .i64 x4899), (14, .int .i64 x5407)] ∧ St [] W w [.blk b1 52 [.int .i64 p0.Events, .slice au p0.Places.length ax], .blk b2 54 [.int .i64 p1.Period, .slice ay p1.Starts.length aB], .row A5 n6 c7 2 1 (ints r3), .mat A4218 ms4220.length c4219 23 2 (vs2794 ++ ([Value.slice A4203 xs4202.length c4205])) ms5405]) F ?_ ?_ ?_
         ·exact ⟨ms4897, 0, xs4900, hl5496, hn4898, hn4901, hq4902, hv4903, (FrD.pick (FrD.pick (FrD.pick (FrD.pick (FrD.pick (FrD.pick (FrD.pick (FrD.pick (FrD.pick (FrD.pick hf.none hf rfl) hf rfl) hf rfl) hf rfl) hf rfl) hf rfl) hf rfl) hf rfl) hf rfl) hf rfl), hs⟩
         ·rintro a w ⟨ms5405, x5407, xs5408, h0_, -, -, -, -, -, -⟩; simp [spec_l21Table_L21] at h0_
         ·rintro n5498 a w ⟨ms5405, x5407, xs5408, hm5497, hn5406, hn5409, hq5410, hv5411, hf, hs⟩
          rw [spec_l21Table_L21] at hm5497
          refine wpL_seq <| wpL_seq <| wpL_region ?_
          refine sY hf hs rfl rfl rfl (Y_move rfl rfl) ?_; clear hf; intro a hf
          refine sY hf hs rfl rfl rfl (Y_fieldAddr rfl rfl fo52_1) ?_; clear hf; intro a hf
          refine sY hf hs rfl rfl rfl (Y_load_blk rfl rfl (i := 0) rfl rfl ag50) ?_; clear hf; intro a hf
          refine sY hf hs rfl rfl rfl (Y_lenH rfl rfl el50 rfl) ?_; clear hf; intro a hf
          refine sY hf hs rfl rfl rfl (Y_lss rfl rfl rfl) ?_; clear hf; intro a hf
          refine wpO_nil ?_
          refine wpL_cond hf rfl (fun hb5499 => ?_) (fun hb5499 => ?_)
          ·have hm5497 := bif_t hm5497 hb5499
           refine wpL_skip <| wpL_seq ?_
           obtain ⟨r5540, hj5541, hm5497⟩ := bind_some hm5497
           refine wpL_block (fun a w => ∃ ms5534 : List (List Int), ∃ xs5536 : List Int, (ms5534, xs5536) = r5540 ∧ ms4220.length = ms5534.length ∧ n4204 = xs5536.length ∧ ms5534[((ms2789.length : Int) : Int).toNat]? = some xs5536 ∧ (vs2794 ++ ([Value.slice A4203 xs4202.length c4205]))[((ms2789.length : Int) : Int).toNat]? = some (Value.slice A4203 xs5536.length c4205) ∧ Fr a 115 [(2, .slice bw p2.length bC), (3, .int .i64 p3), (4, .pointer (some ⟨b1, 0, none⟩)), (5, .pointer (some ⟨b2, 0, none⟩)), (9, .slice A5 n6 c7), (10, .slice A4218 ms4220.length c4219), (11, .int .i64 x2795), (12, .slice A4203 n4204 c4205), (13, .int .i64 x4899), (14, .int .i64 x5407)] ∧ St [] W w [.blk b1 52 [.int .i64 p0.Events, .slice au p0.Places.length ax], .blk b2 54 [.int .i64 p1.Period, .slice ay p1.Starts.length aB], .row A5 n6 c7 2 1 (ints r3), .mat A4218 ms4220.length c4219 23 2 (vs2794 ++ ([Value.slice A4203 xs4202.length c4205])) ms5534]) ?_ ?_
           ·refine wpL_seq <| wpL_region ?_
            refine sY hf hs rfl rfl rfl (Y_fieldAddr rfl rfl fo52_1) ?_; clear hf; intro a hf
            refine sY hf hs rfl rfl rfl (Y_load_blk rfl rfl (i := 0) rfl rfl ag50) ?_; clear hf; intro a hf
            refine sY hf hs rfl rfl rfl (Y_move rfl rfl) ?_; clear hf; intro a hf
            obtain ⟨q5542, hi5543, hj5541⟩ := bind_some hj5541
            obtain ⟨hi5543a, hi5543b, hi5543q⟩ := idx_some hi5543
            refine sY hf hs rfl rfl rfl (Y_index rfl rfl rfl el50 ti112 (Rd.isAt (ba.at hs) (recs_at (s := 4) GPlace.len hi5543q (j := 0) rfl)) hi5543a hi5543b) ?_; clear hf; intro a hf
            refine sY hf hs rfl rfl rfl (Y_load_rdS rfl rfl (us := [.int .i64 q5542.From, .int .i64 q5542.To, .int .i64 q5542.Delay, .int .i64 q5542.Tokens]) (fun w hs => ba.at hs) (fun j u hj => recs_at (s := 4) GPlace.len hi5543q hj) (Nat.succ_pos _) ag112 ti112 rfl) ?_; clear hf; intro a hf
            refine sAlloc hf hs rfl rfl rfl rfl ti112 ?_; clear hf hs; intro a w b5544 hs hf
            have hs : St [] W w [.blk b1 52 [.int .i64 p0.Events, .slice au p0.Places.length ax], .blk b2 54 [.int .i64 p1.Period, .slice ay p1.Starts.length aB], .row A5 n6 c7 2 1 (ints r3), .mat A4218 ms4220.length c4219 23 2 (vs2794 ++ ([Value.slice A4203 xs4202.length c4205])) ms5405, .blk b5544 112 [.int .i64 0, .int .i64 0, .int .i64 0, .int .i64 0]] := hs
            refine sStore (i := 4) (us := [.int .i64 q5542.From, .int .i64 q5542.To, .int .i64 q5542.Delay, .int .i64 q5542.Tokens]) hf hs rfl rfl rfl rfl rfl rfl ti112 rfl rfl rfl (Nat.le_of_ble_eq_true rfl) rfl ?_; clear hs; intro w hs
            have hs : St [] W w [.blk b1 52 [.int .i64 p0.Events, .slice au p0.Places.length ax], .blk b2 54 [.int .i64 p1.Period, .slice ay p1.Starts.length aB], .row A5 n6 c7 2 1 (ints r3), .mat A4218 ms4220.length c4219 23 2 (vs2794 ++ ([Value.slice A4203 xs4202.length c4205])) ms5405, .blk b5544 112 [.int .i64 q5542.From, .int .i64 q5542.To, .int .i64 q5542.Delay, .int .i64 q5542.Tokens]] := hs
            refine wpO_nil <| wpL_seq <| wpL_seq ?_
            obtain ⟨r5549, hj5550, hj5541⟩ := bind_some hj5541
            refine wpL_cut (fun a w => ∃ b5548 : Bool, b5548 = r5549 ∧ Fr a 115 [(2, .slice bw p2.length bC), (3, .int .i64 p3), (4, .pointer (some ⟨b1, 0, none⟩)), (5, .pointer (some ⟨b2, 0, none⟩)), (9, .slice A5 n6 c7), (10, .slice A4218 ms4220.length c4219), (11, .int .i64 x2795), (12, .slice A4203 n4204 c4205), (13, .int .i64 x4899), (14, .int .i64 x5407), (15, .pointer (some ⟨b5544, 0, none⟩)), (67, .bool b5548)] ∧ St [] W w [.blk b1 52 [.int .i64 p0.Events, .slice au p0.Places.length ax], .blk b2 54 [.int .i64 p1.Period, .slice ay p1.Starts.length aB], .row A5 n6 c7 2 1 (ints r3), .mat A4218 ms4220.length c4219 23 2 (vs2794 ++ ([Value.slice A4203 xs4202.length c4205])) ms5405, .blk b5544 112 [.int .i64 q5542.From, .int .i64 q5542.To, .int .i64 q5542.Delay, .int .i64 q5542.Tokens]]) ?_ ?_
            ·refine wpL_draw (by kernel_rfl) (by kernel_rfl) hs ?_
             refine qY hf rfl rfl rfl (Y_fieldAddr rfl rfl fo112_1) ?_; clear hf; intro a hf
             refine qY hf rfl rfl rfl (Y_load_blk rfl rfl (i := 4) rfl rfl ag2) ?_; clear hf; intro a hf
             refine qY hf rfl rfl rfl (Y_move rfl rfl) ?_; clear hf; intro a hf
             refine qY hf rfl rfl rfl (Y_move rfl rfl) ?_; clear hf; intro a hf
             obtain ⟨q5551, hi5552, hj5550⟩ := bind_some hj5550
             obtain ⟨hi5552a, hi5552b, hi5552q⟩ := idx_some hi5552
             refine qY hf rfl rfl rfl (Y_index rfl rfl rfl el23 ti2 (Rd.isAt (hs.rd (i := 2) rfl) (at1 (ints_at hi5552q))) hi5552a (ltn hn8 hi5552b)) ?_; clear hf; intro a hf
             refine qY hf rfl rfl rfl (Y_load_rd rfl rfl (fun w hs => hs.rd (i := 2) rfl) (at1 (ints_at hi5552q)) ag2) ?_; clear hf; intro a hf
             refine qY hf rfl rfl rfl (Y_neq rfl rfl rfl) ?_; clear hf; intro a hf
             refine qY hf rfl rfl rfl (Y_move rfl rfl) ?_; clear hf; intro a hf
             refine bsplit (q5542.To != q5551) (fun hb5553 => ?_) (fun hb5553 => ?_)
             ·have hj5550 := bif_t hj5550 hb5553
              refine qNo hf rfl rfl rfl (congrArg (fun b => some (Value.bool b)) hb5553) rfl rfl rfl ?_; clear hf; intro a hf
              refine qNo hf rfl rfl rfl (congrArg (fun b => some (Value.bool b)) hb5553) rfl rfl rfl ?_; clear hf; intro a hf
              refine qNo hf rfl rfl rfl (congrArg (fun b => some (Value.bool b)) hb5553) rfl rfl rfl ?_; clear hf; intro a hf
              refine qNo hf rfl rfl rfl (congrArg (fun b => some (Value.bool b)) hb5553) rfl rfl rfl ?_; clear hf; intro a hf
              refine qNo hf rfl rfl rfl (congrArg (fun b => some (Value.bool b)) hb5553) rfl rfl rfl ?_; clear hf; intro a hf
              refine qY hf rfl rfl rfl (Y_pickT rfl (congrArg (fun b => some (Value.bool b)) hb5553) rfl) ?_; clear hf; intro a hf
              refine qNil ?_; clear hs; intro w hs
              refine wpL_nil (then_normal ?_)
              exact ⟨true, Option.some.inj hj5550, (FrD.pick (FrD.pick (FrD.pick (FrD.pick (FrD.pick (FrD.pick (FrD.pick (FrD.pick (FrD.pick (FrD.pick (FrD.pick (FrD.pick hf.none hf rfl) hf rfl) hf rfl) hf rfl) hf rfl) hf rfl) hf rfl) hf rfl) hf rfl) hf rfl) hf rfl) hf rfl), hs⟩
             ·have hj5550 := bif_f hj5550 hb5553
              refine qYg hf rfl rfl rfl (congrArg (fun b => some (Value.bool b)) hb5553) rfl rfl rfl (Y_move rfl rfl) ?_; clear hf; intro a hf
              refine qYg hf rfl rfl rfl (congrArg (fun b => some (Value.bool b)) hb5553) rfl rfl rfl (Y_fieldAddr rfl rfl fo112_3) ?_; clear hf; intro a hf
              refine qYg hf rfl rfl rfl (congrArg (fun b => some (Value.bool b)) hb5553) rfl rfl rfl (Y_load_blk rfl rfl (i := 4) rfl rfl ag2) ?_; clear hf; intro a hf
              refine qYg hf rfl rfl rfl (congrArg (fun b => some (Value.bool b)) hb5553) rfl rfl rfl (Y_sub rfl rfl rfl) ?_; clear hf; intro a hf
              refine qYg hf rfl rfl rfl (congrArg (fun b => some (Value.bool b)) hb5553) rfl rfl rfl (Y_lss rfl rfl rfl) ?_; clear hf; intro a hf
              refine qY hf rfl rfl rfl (Y_pickF rfl (congrArg (fun b => some (Value.bool b)) hb5553) rfl) ?_; clear hf; intro a hf
              refine qNil ?_; clear hs; intro w hs
              refine wpL_nil (then_normal ?_)
              exact ⟨(decide ((IntKind.i64.wrap (x2795 - q5542.Tokens)) < 1)), Option.some.inj hj5550, (FrD.pick (FrD.pick (FrD.pick (FrD.pick (FrD.pick (FrD.pick (FrD.pick (FrD.pick (FrD.pick (FrD.pick (FrD.pick (FrD.pick hf.none hf rfl) hf rfl) hf rfl) hf rfl) hf rfl) hf rfl) hf rfl) hf rfl) hf rfl) hf rfl) hf rfl) hf rfl), hs⟩
            ·rintro a w ⟨b5548, hr_, hf, hs⟩
             subst hr_
             try dsimp only at hj5541
             refine wpL_cond hf rfl (fun hb5554 => ?_) (fun hb5554 => ?_)
             ·have hj5541 := bif_t hj5541 hb5554
              refine wpL_exit (Qb_exit ?_)
              exact ⟨ms5405, xs5408, Option.some.inj hj5541, hn5406, hn5409, hq5410, hv5411, (FrD.pick (FrD.pick (FrD.pick (FrD.pick (FrD.pick (FrD.pick (FrD.pick (FrD.pick (FrD.pick (FrD.pick hf.none hf rfl) hf rfl) hf rfl) hf rfl) hf rfl) hf rfl) hf rfl) hf rfl) hf rfl) hf rfl), hs.sel [0, 1, 2, 3] (by decide)⟩
             ·have hj5541 := bif_f hj5541 hb5554
              refine wpL_skip <| wpL_seq ?_
              refine wpL_draw (by kernel_rfl) (by kernel_rfl) hs ?_
              refine qY hf rfl rfl rfl (Y_fieldAddr rfl rfl fo54_1) ?_; clear hf; intro a hf
              refine qY hf rfl rfl rfl (Y_load_blk rfl rfl (i := 1) rfl rfl ag23) ?_; clear hf; intro a hf
              refine qY hf rfl rfl rfl (Y_fieldAddr rfl rfl fo112_1) ?_; clear hf; intro a hf
              refine qY hf rfl rfl rfl (Y_load_blk rfl rfl (i := 4) rfl rfl ag2) ?_; clear hf; intro a hf
              obtain ⟨q5555, hi5556, hj5541⟩ := bind_some hj5541
              obtain ⟨hi5556a, hi5556b, hi5556q⟩ := idx_some hi5556
              refine qY hf rfl rfl rfl (Y_index rfl rfl rfl el23 ti2 (Rd.isAt (bj.at hs) (at1 (ints_at hi5556q))) hi5556a hi5556b) ?_; clear hf; intro a hf
              refine qY hf rfl rfl rfl (Y_load_rd rfl rfl (fun w hs => bj.at hs) (at1 (ints_at hi5556q)) ag2) ?_; clear hf; intro a hf
              refine qY hf rfl rfl rfl (Y_fieldAddr rfl rfl fo112_3) ?_; clear hf; intro a hf
              refine qY hf rfl rfl rfl (Y_load_blk rfl rfl (i := 4) rfl rfl ag2) ?_; clear hf; intro a hf
              refine qY hf rfl rfl rfl (Y_fieldAddr rfl rfl fo54_0) ?_; clear hf; intro a hf
              refine qY hf rfl rfl rfl (Y_load_blk rfl rfl (i := 1) rfl rfl ag2) ?_; clear hf; intro a hf
              refine qY hf rfl rfl rfl (Y_mul rfl rfl rfl) ?_; clear hf; intro a hf
              refine qY hf rfl rfl rfl (Y_add rfl rfl rfl) ?_; clear hf; intro a hf
              refine qY hf rfl rfl rfl (Y_fieldAddr rfl rfl fo54_1) ?_; clear hf; intro a hf
              refine qY hf rfl rfl rfl (Y_load_blk rfl rfl (i := 1) rfl rfl ag23) ?_; clear hf; intro a hf
              refine qY hf rfl rfl rfl (Y_fieldAddr rfl rfl fo112_0) ?_; clear hf; intro a hf
              refine qY hf rfl rfl rfl (Y_load_blk rfl rfl (i := 4) rfl rfl ag2) ?_; clear hf; intro a hf
              obtain ⟨q5557, hi5558, hj5541⟩ := bind_some hj5541
              obtain ⟨hi5558a, hi5558b, hi5558q⟩ := idx_some hi5558
              refine qY hf rfl rfl rfl (Y_index rfl rfl rfl el23 ti2 (Rd.isAt (bj.at hs) (at1 (ints_at hi5558q))) hi5558a hi5558b) ?_; clear hf; intro a hf
              refine qY hf rfl rfl rfl (Y_load_rd rfl rfl (fun w hs => bj.at hs) (at1 (ints_at hi5558q)) ag2) ?_; clear hf; intro a hf
              refine qY hf rfl rfl rfl (Y_sub rfl rfl rfl) ?_; clear hf; intro a hf
              refine qY hf rfl rfl rfl (Y_fieldAddr rfl rfl fo112_2) ?_; clear hf; intro a hf
              refine qY hf rfl rfl rfl (Y_load_blk rfl rfl (i := 4) rfl rfl ag2) ?_; clear hf; intro a hf
              refine qY hf rfl rfl rfl (Y_sub rfl rfl rfl) ?_; clear hf; intro a hf
              refine qY hf rfl rfl rfl (Y_assign rfl rfl) ?_; clear hf; intro a hf
              refine qNil ?_; clear hs; intro w hs
              refine wpL_drawM [.blk b1 52 [.int .i64 p0.Events, .slice au p0.Places.length ax], .blk b2 54 [.int .i64 p1.Period, .slice ay p1.Starts.length aB], .row A5 n6 c7 2 1 (ints r3), .mat A4218 ms4220.length c4219 23 2 (vs2794 ++ ([Value.slice A4203 xs4202.length c4205])) ms5405, .blk b5544 112 [.int .i64 q5542.From, .int .i64 q5542.To, .int .i64 q5542.Delay, .int .i64 q5542.Tokens]] [24] (by kernel_rfl) hs ?_; clear hs; intro w hs
              have hs0 : St [] W w [.blk b1 52 [.int .i64 p0.Events, .slice au p0.Places.length ax], .blk b2 54 [.int .i64 p1.Period, .slice ay p1.Starts.length aB], .row A5 n6 c7 2 1 (ints r3), .mat A4218 ms4220.length c4219 23 2 (vs2794 ++ ([Value.slice A4203 xs4202.length c4205])) ms5405, .blk b5544 112 [.int .i64 q5542.From, .int .i64 q5542.To, .int .i64 q5542.Delay, .int .i64 q5542.Tokens]] := hs
              refine mYp (i := 0) rfl (by kernel_rfl) (by kernel_rfl) hf rfl rfl rfl (fun _ => Y_move rfl rfl) ?_; clear hf; intro a hf
              refine mYp (i := 1) rfl (by kernel_rfl) (by kernel_rfl) hf rfl rfl rfl (fun _ => Y_fieldAddr rfl rfl fo112_1) ?_; clear hf; intro a hf
              refine mY (i := 2) [[]] rfl (by kernel_rfl) (by kernel_rfl) hf hs0 rfl rfl rfl (Y_load_blk rfl rfl (i := 4) rfl rfl ag2) ?_; clear hf; intro a hf
              refine mYp (i := 3) rfl (by kernel_rfl) (by kernel_rfl) hf rfl rfl rfl (fun _ => Y_move rfl rfl) ?_; clear hf; intro a hf
              refine mYp (i := 4) rfl (by kernel_rfl) (by kernel_rfl) hf rfl rfl rfl (fun _ => Y_fieldAddr rfl rfl fo112_1) ?_; clear hf; intro a hf
              refine mY (i := 5) [[]] rfl (by kernel_rfl) (by kernel_rfl) hf hs0 rfl rfl rfl (Y_load_blk rfl rfl (i := 4) rfl rfl ag2) ?_; clear hf; intro a hf
              obtain ⟨q5559, hi5560, hj5541⟩ := bind_some hj5541
              obtain ⟨hi5560a, hi5560b, hi5560q⟩ := idx_some hi5560
              refine mYp (i := 6) rfl (by kernel_rfl) (by kernel_rfl) hf rfl rfl rfl (fun _ => Y_index rfl rfl rfl el23 ti2 (Rd.isAt (hs.rdRow (i := 3) rfl ⟨hq5410, hv5411⟩) (at1 (ints_at hi5560q))) hi5560a (ltn hn5409 hi5560b)) ?_; clear hf; intro a hf
              refine mY (i := 7) [[]] rfl (by kernel_rfl) (by kernel_rfl) hf hs0 rfl rfl rfl (Y_load_rd rfl rfl (fun w hs => hs.rdRow (i := 3) rfl ⟨hq5410, hv5411⟩) (at1 (ints_at hi5560q)) ag2) ?_; clear hf; intro a hf
              refine mYp (i := 8) rfl (by kernel_rfl) (by kernel_rfl) hf rfl rfl rfl (fun _ => Y_move rfl rfl) ?_; clear hf; intro a hf
              refine mYp (i := 9) rfl (by kernel_rfl) (by kernel_rfl) hf rfl rfl rfl (fun _ => Y_move rfl rfl) ?_; clear hf; intro a hf
              refine mYp (i := 10) rfl (by kernel_rfl) (by kernel_rfl) hf rfl rfl rfl (fun _ => Y_fieldAddr rfl rfl fo112_3) ?_; clear hf; intro a hf
              refine mY (i := 11) [[]] rfl (by kernel_rfl) (by kernel_rfl) hf hs0 rfl rfl rfl (Y_load_blk rfl rfl (i := 4) rfl rfl ag2) ?_; clear hf; intro a hf
              refine mYp (i := 12) rfl (by kernel_rfl) (by kernel_rfl) hf rfl rfl rfl (fun _ => Y_sub rfl rfl rfl) ?_; clear hf; intro a hf
              refine mYp (i := 13) rfl (by kernel_rfl) (by kernel_rfl) hf rfl rfl rfl (fun _ => Y_sub rfl rfl rfl) ?_; clear hf; intro a hf
              obtain ⟨q5561, hi5562, hj5541⟩ := bind_some hj5541
              obtain ⟨hi5562a, hi5562b, hi5562q⟩ := idx_some hi5562
              obtain ⟨A5563, c5564, hv5565⟩ := hs.matRow (i := 3) rfl hi5562q
              refine mYp (i := 14) rfl (by kernel_rfl) (by kernel_rfl) hf rfl rfl rfl (fun _ => Y_index rfl rfl rfl el59 ti23 (Rd.isAt (hs.rdV (i := 3) rfl) hv5565) hi5562a (ltn hn5406 hi5562b)) ?_; clear hf; intro a hf
              refine mY (i := 15) [[]] rfl (by kernel_rfl) (by kernel_rfl) hf hs0 rfl rfl rfl (Y_load_rd rfl rfl (fun w hs => hs.rdV (i := 3) rfl) (at1 hv5565) ag23) ?_; clear hf; intro a hf
              refine mYp (i := 16) rfl (by kernel_rfl) (by kernel_rfl) hf rfl rfl rfl (fun _ => Y_fieldAddr rfl rfl fo112_0) ?_; clear hf; intro a hf
              refine mY (i := 17) [[]] rfl (by kernel_rfl) (by kernel_rfl) hf hs0 rfl rfl rfl (Y_load_blk rfl rfl (i := 4) rfl rfl ag2) ?_; clear hf; intro a hf
              obtain ⟨q5566, hi5567, hj5541⟩ := bind_some hj5541
              obtain ⟨hi5567a, hi5567b, hi5567q⟩ := idx_some hi5567
              refine mYp (i := 18) rfl (by kernel_rfl) (by kernel_rfl) hf rfl rfl rfl (fun _ => Y_index rfl rfl rfl el23 ti2 (Rd.isAt (hs.rdRow (i := 3) rfl ⟨hi5562q, hv5565⟩) (at1 (ints_at hi5567q))) hi5567a hi5567b) ?_; clear hf; intro a hf
              refine mY (i := 19) [[]] rfl (by kernel_rfl) (by kernel_rfl) hf hs0 rfl rfl rfl (Y_load_rd rfl rfl (fun w hs => hs.rdRow (i := 3) rfl ⟨hi5562q, hv5565⟩) (at1 (ints_at hi5567q)) ag2) ?_; clear hf; intro a hf
              refine mYp (i := 20) rfl (by kernel_rfl) (by kernel_rfl) hf rfl rfl rfl (fun _ => Y_move rfl rfl) ?_; clear hf; intro a hf
              refine mYp (i := 21) rfl (by kernel_rfl) (by kernel_rfl) hf rfl rfl rfl (fun _ => Y_sub rfl rfl rfl) ?_; clear hf; intro a hf
              refine mYp (i := 22) rfl (by kernel_rfl) (by kernel_rfl) hf rfl rfl rfl (fun _ => Y_max rfl rfl rfl) ?_; clear hf; intro a hf
              obtain ⟨q5568, hi5569, hj5541⟩ := bind_some hj5541
              obtain ⟨hi5569a, hi5569b, hi5569q⟩ := idx_some hi5569
              refine mYp (i := 23) rfl (by kernel_rfl) (by kernel_rfl) hf rfl rfl rfl (fun _ => Y_index rfl rfl rfl el23 ti2 (Rd.isAt (hs.rdRow (i := 3) rfl ⟨hq5410, hv5411⟩) (at1 (ints_at hi5569q))) hi5569a (ltn hn5409 hi5569b)) ?_; clear hf; intro a hf
              refine mRun (i := 24) rfl (by kernel_rfl) ?_
              obtain ⟨xs5570, hu5572, hj5541⟩ := bind_some hj5541
              obtain ⟨ms5571, hu5573, hj5541⟩ := bind_some hj5541
              refine sStoreM (i := 3) (k := (ms2789.length : Int)) hf hs rfl rfl rfl rfl rfl rfl hq5410 hv5411 rfl hu5572 hu5573 ti2 ?_; clear hs; intro w hs
              obtain ⟨hq5574, hv5575⟩ := rowUpd hu5572 hu5573 hv5411
              have hs : St [] W w [.blk b1 52 [.int .i64 p0.Events, .slice au p0.Places.length ax], .blk b2 54 [.int .i64 p1.Period, .slice ay p1.Starts.length aB], .row A5 n6 c7 2 1 (ints r3), .mat A4218 ms4220.length c4219 23 2 (vs2794 ++ ([Value.slice A4203 xs4202.length c4205])) ms5571, .blk b5544 112 [.int .i64 q5542.From, .int .i64 q5542.To, .int .i64 q5542.Delay, .int .i64 q5542.Tokens]] := hs
              refine wpO_nil ⟨Or.inl (by decide), ?_⟩
              refine mDone (by kernel_rfl) ?_
              clear hs0
              refine wpL_nil (Qb_normal ?_)
              exact ⟨ms5571, xs5570, Option.some.inj hj5541, ((hn5406).trans (upd_len hu5573).symm), ((hn5409).trans (upd_len hu5572).symm), hq5574, hv5575, (FrD.pick (FrD.pick (FrD.pick (FrD.pick (FrD.pick (FrD.pick (FrD.pick (FrD.pick (FrD.pick (FrD.pick hf.none hf rfl) hf rfl) hf rfl) hf rfl) hf rfl) hf rfl) hf rfl) hf rfl) hf rfl) hf rfl), hs.sel [0, 1, 2, 3] (by decide)⟩
           ·rintro a w ⟨ms5534, xs5536, hr_, hn5535, hn5537, hq5538, hv5539, hf, hs⟩
            subst hr_
            try dsimp only at hm5497
            refine wpL_region ?_
            refine sY hf hs rfl rfl rfl (Y_move rfl rfl) ?_; clear hf; intro a hf
            refine sY hf hs rfl rfl rfl (Y_add rfl rfl rfl) ?_; clear hf; intro a hf
            refine sY hf hs rfl rfl rfl (Y_assign rfl rfl) ?_; clear hf; intro a hf
            refine wpO_nil ?_
            refine wpL_nil (Ql_normal ?_)
            exact ⟨ms5534, (IntKind.i64.wrap (x5407 + 1)), xs5536, hm5497, hn5535, hn5537, hq5538, hv5539, (FrD.pick (FrD.pick (FrD.pick (FrD.pick (FrD.pick (FrD.pick (FrD.pick (FrD.pick (FrD.pick (FrD.pick hf.none hf rfl) hf rfl) hf rfl) hf rfl) hf rfl) hf rfl) hf rfl) hf rfl) hf rfl) hf rfl), hs⟩
          ·have hm5497 := bif_f hm5497 hb5499
           refine wpL_exit (Ql_exit (Qb_exit ?_))
           exact ⟨ms5405, xs5408, Option.some.inj hm5497, hn5406, hn5409, hq5410, hv5411, (FrD.pick (FrD.pick (FrD.pick (FrD.pick (FrD.pick (FrD.pick (FrD.pick (FrD.pick (FrD.pick hf.none hf rfl) hf rfl) hf rfl) hf rfl) hf rfl) hf rfl) hf rfl) hf rfl) hf rfl), hs⟩
        ·rintro a w ⟨ms5489, xs5491, hr_, hn5490, hn5492, hq5493, hv5494, hf, hs⟩
         subst hr_
         try dsimp only at hm5241
         refine wpL_nil (Qb_normal ?_)
         refine wpL_region ?_
         refine sY hf hs rfl rfl rfl (Y_move rfl rfl) ?_; clear hf; intro a hf
         refine sY hf hs rfl rfl rfl (Y_add rfl rfl rfl) ?_; clear hf; intro a hf
         refine sY hf hs rfl rfl rfl (Y_assign rfl rfl) ?_; clear hf; intro a hf
         refine wpO_nil ?_
         refine wpL_nil (Ql_normal ?_)
         exact ⟨ms5489, (IntKind.i64.wrap (x4899 + 1)), xs5491, hm5241, hn5490, hn5492, hq5493, hv5494, (FrD.pick (FrD.pick (FrD.pick (FrD.pick (FrD.pick (FrD.pick (FrD.pick (FrD.pick (FrD.pick hf.none hf rfl) hf rfl) hf rfl) hf rfl) hf rfl) hf rfl) hf rfl) hf rfl) hf rfl), hs⟩
       ·have hm5241 := bif_f hm5241 hb5243
        refine wpL_exit (Ql_exit (Qb_exit ?_))
        exact ⟨ms4897, Option.some.inj hm5241, hn4898, (FrD.pick (FrD.pick (FrD.pick (FrD.pick (FrD.pick (FrD.pick (FrD.pick hf.none hf rfl) hf rfl) hf rfl) hf rfl) hf rfl) hf rfl) hf rfl), hs⟩
     ·rintro a w ⟨ms5237, hr_, hn5238, hf, hs⟩
      subst hr_
      try dsimp only at hm4189
      refine wpL_nil (Qb_normal ?_)
      refine wpL_region ?_
      refine sY hf hs rfl rfl rfl (Y_move rfl rfl) ?_; clear hf; intro a hf
      refine sY hf hs rfl rfl rfl (Y_add rfl rfl rfl) ?_; clear hf; intro a hf
      refine sY hf hs rfl rfl rfl (Y_assign rfl rfl) ?_; clear hf; intro a hf
      refine wpO_nil ?_
      refine wpL_nil (Ql_normal ?_)
      exact ⟨ms5237, (IntKind.i64.wrap (x2795 + 1)), A4218, ms4220.length, c4219, (vs2794 ++ ([Value.slice A4203 xs4202.length c4205])), hm4189, hn5238, (FrD.pick (FrD.pick (FrD.pick (FrD.pick (FrD.pick (FrD.pick (FrD.pick hf.none hf rfl) hf rfl) hf rfl) hf rfl) hf rfl) hf rfl) hf rfl), hs⟩
   ·have hm4189 := bif_f hm4189 hb4191
    refine wpL_exit (Ql_exit (Qb_exit ?_))
    exact ⟨ms2789, A2790, n2791, c2792, vs2794, Option.some.inj hm4189, hn2793, (FrD.pick hf.none hf rfl), hs.sel [3] (by decide)⟩
 ·rintro a w ⟨ms4181, A4182, n4183, c4184, vs4186, hr_, hn4185, hf, hs⟩
  subst hr_
  try dsimp only at hm
  refine wpL_seq <| wpL_region ?_
  refine sY hf hs rfl rfl rfl (Y_move rfl rfl) ?_; clear hf; intro a hf
  refine sY hf hs rfl rfl rfl (Y_assign rfl rfl) ?_; clear hf; intro a hf
  refine wpO_nil ?_
  obtain rfl := Option.some.inj hm
  refine wpL_ret (ret_tmp rfl hf rfl ?_)
  exact ⟨_, rfl, A4182, n4183, c4184, vs4186, rfl, hn4185, hs⟩

set_option maxRecDepth 100000 in
theorem spec_l16Sum_ok (F : Nat) (aL : List Int) (aM : Option Addr) (aW aX : Nat) (bi : aW = aL.length) (r : Int) (W : World) (hm : spec_l16Sum F aL = some r) (aY : Rd W aM (ints aL)) :
  Calls Try.prog 83 [.slice aM aW aX].toArray W fun e w' => ∃ v, e = .returned v ∧ v = .int .i64 r ∧ St [] W w' [] := by
 subst bi
 unfold spec_l16Sum at hm
 refine Calls.enter (N := 18) Try.func83 rfl rfl rfl (fun a hf => ?_)
 have hs := St.start W
 obtain ⟨w, hw_⟩ : ∃ w, w = W := ⟨W, rfl⟩
 clear hw_ w
 refine wpL_seq <| wpL_region ?_
 refine sY hf hs rfl rfl rfl (Y_assign rfl rfl) ?_; clear hf; intro a hf
 refine wpO_nil <| wpL_seq <| wpL_region ?_
 refine sY hf hs rfl rfl rfl (Y_assign rfl rfl) ?_; clear hf; intro a hf
 refine wpO_nil <| wpL_seq <| wpL_seq <| wpL_region ?_
 refine sY hf hs rfl rfl rfl (Y_assign rfl rfl) ?_; clear hf; intro a hf
 refine wpO_nil ?_
 obtain ⟨r15, hl16, hm⟩ := bind_some hm
 refine wpL_block (fun a w => ∃ x14 : Int, x14 = r15 ∧ Fr a 18 [(3, .int .i64 x14)] ∧ St [] W w []) ?_ ?_
 ·refine wpL_loop (fun n a w => ∃ x9 : Int, ∃ x10 : Int, spec_l16Sum_L1 F aL n x9 x10 = some r15 ∧ Fr a 18 [(0, .slice aM aL.length aX), (3, .int .i64 x9), (4, .int .i64 x10)] ∧ St [] W w []) F ?_ ?_ ?_
  ·exact ⟨0, 0, hl16, (FrD.pick (FrD.pick (FrD.pick hf.none hf rfl) hf rfl) hf rfl), hs⟩
  ·rintro a w ⟨x9, x10, h0_, -, -⟩; simp [spec_l16Sum_L1] at h0_
  ·rintro n18 a w ⟨x9, x10, hm17, hf, hs⟩
   rw [spec_l16Sum_L1] at hm17
   refine wpL_seq <| wpL_seq <| wpL_region ?_
   refine sY hf hs rfl rfl rfl (Y_move rfl rfl) ?_; clear hf; intro a hf
   refine sY hf hs rfl rfl rfl (Y_move rfl rfl) ?_; clear hf; intro a hf
   refine sY hf hs rfl rfl rfl (Y_lenH rfl rfl el23 rfl) ?_; clear hf; intro a hf
   refine sY hf hs rfl rfl rfl (Y_lss rfl rfl rfl) ?_; clear hf; intro a hf
   refine wpO_nil ?_
   refine wpL_cond hf rfl (fun hb19 => ?_) (fun hb19 => ?_)
   ·have hm17 := bif_t hm17 hb19
    refine wpL_skip <| wpL_seq <| wpL_block0 <| wpL_region ?_
    refine sY hf hs rfl rfl rfl (Y_move rfl rfl) ?_; clear hf; intro a hf
    refine sY hf hs rfl rfl rfl (Y_move rfl rfl) ?_; clear hf; intro a hf
    refine sY hf hs rfl rfl rfl (Y_move rfl rfl) ?_; clear hf; intro a hf
    obtain ⟨q20, hi21, hm17⟩ := bind_some hm17
    obtain ⟨hi21a, hi21b, hi21q⟩ := idx_some hi21
    refine sY hf hs rfl rfl rfl (Y_index rfl rfl rfl el23 ti2 (Rd.isAt (aY.at hs) (at1 (ints_at hi21q))) hi21a hi21b) ?_; clear hf; intro a hf
    refine sY hf hs rfl rfl rfl (Y_load_rd rfl rfl (fun w hs => aY.at hs) (at1 (ints_at hi21q)) ag2) ?_; clear hf; intro a hf
    refine sY hf hs rfl rfl rfl (Y_add rfl rfl rfl) ?_; clear hf; intro a hf
    refine sY hf hs rfl rfl rfl (Y_assign rfl rfl) ?_; clear hf; intro a hf
    refine wpO_nil ?_
    refine wpL_nil (Qb_normal ?_)
    refine wpL_region ?_
    refine sY hf hs rfl rfl rfl (Y_move rfl rfl) ?_; clear hf; intro a hf
    refine sY hf hs rfl rfl rfl (Y_add rfl rfl rfl) ?_; clear hf; intro a hf
    refine sY hf hs rfl rfl rfl (Y_assign rfl rfl) ?_; clear hf; intro a hf
    refine wpO_nil ?_
    refine wpL_nil (Ql_normal ?_)
    exact ⟨(IntKind.i64.wrap (x9 + q20)), (IntKind.i64.wrap (x10 + 1)), hm17, (FrD.pick (FrD.pick (FrD.pick hf.none hf rfl) hf rfl) hf rfl), hs⟩
   ·have hm17 := bif_f hm17 hb19
    refine wpL_exit (Ql_exit (Qb_exit ?_))
    exact ⟨x9, Option.some.inj hm17, (FrD.pick hf.none hf rfl), hs⟩
 ·rintro a w ⟨x14, hr_, hf, hs⟩
  subst hr_
  try dsimp only at hm
  refine wpL_seq <| wpL_region ?_
  refine sY hf hs rfl rfl rfl (Y_move rfl rfl) ?_; clear hf; intro a hf
  refine sY hf hs rfl rfl rfl (Y_assign rfl rfl) ?_; clear hf; intro a hf
  refine wpO_nil ?_
  obtain rfl := Option.some.inj hm
  refine wpL_ret (ret_tmp rfl hf rfl ?_)
  exact ⟨_, rfl, rfl, hs⟩

set_option maxRecDepth 100000 in
theorem spec_l21Settled_ok (F : Nat) (ag : GEventGraph) (af : Option Addr) (av ai : Nat) (aA : av = ag.Places.length) (ao : GTimetable) (am : Option Addr) (aG aq : Nat) (aS : aG = ao.Starts.length) (az : List Int) (aC : Option Addr) (aI aD : Nat) (aT : aI = az.length) (r : List (List Int) × Int × Bool) (W : World) (hm : spec_l21Settled F ag ao az = some r) (aw : Rd W af ((recs GPlace.cells) ag.Places)) (aH : Rd W am (ints ao.Starts)) (aP : Rd W aC (ints az)) :
  Calls Try.prog 80 [.agg #[.int .i64 ag.Events, .slice af av ai], .agg #[.int .i64 ao.Period, .slice am aG aq], .slice aC aI aD].toArray W fun e w' => ∃ v, e = .returned v ∧ ∃ A55, ∃ n56, ∃ c57, ∃ vs59, v = .tuple #[.slice A55 n56 c57, .int .i64 r.2.1, .bool r.2.2] ∧ n56 = r.1.length ∧ St [] W w' [.mat A55 n56 c57 23 2 vs59 r.1] := by
 subst aA
 subst aS
 subst aT
 unfold spec_l21Settled at hm
 refine Calls.enter (N := 32) Try.func80 rfl rfl rfl (fun a hf => ?_)
 have hs := St.start W
 obtain ⟨w, hw_⟩ : ∃ w, w = W := ⟨W, rfl⟩
 clear hw_ w
 refine wpL_seq <| wpL_region ?_
 refine sBox hf hs rfl rfl rfl rfl rfl (cs := [.int .i64 ag.Events, .slice af ag.Places.length ai]) rfl ?_; clear hf hs; intro a w b1 hs hf
 have hs : St [] W w [.blk b1 52 [.int .i64 ag.Events, .slice af ag.Places.length ai]] := hs
 refine sBox hf hs rfl rfl rfl rfl rfl (cs := [.int .i64 ao.Period, .slice am ao.Starts.length aq]) rfl ?_; clear hf hs; intro a w b2 hs hf
 have hs : St [] W w [.blk b1 52 [.int .i64 ag.Events, .slice af ag.Places.length ai], .blk b2 54 [.int .i64 ao.Period, .slice am ao.Starts.length aq]] := hs
 refine sY hf hs rfl rfl rfl (Y_assign rfl rfl) ?_; clear hf; intro a hf
 refine sY hf hs rfl rfl rfl (Y_assign rfl rfl) ?_; clear hf; intro a hf
 refine sY hf hs rfl rfl rfl (Y_assign rfl rfl) ?_; clear hf; intro a hf
 refine wpO_nil <| wpL_seq <| wpL_region ?_
 refine sY hf hs rfl rfl rfl (Y_load_blkS rfl rfl (i := 0) rfl ag52 ti52 rfl) ?_; clear hf; intro a hf
 refine sY hf hs rfl rfl rfl (Y_load_blkS rfl rfl (i := 1) rfl ag54 ti54 rfl) ?_; clear hf; intro a hf
 refine sY hf hs rfl rfl rfl (Y_move rfl rfl) ?_; clear hf; intro a hf
 obtain ⟨r3, hc4, hm⟩ := bind_some hm
 refine sCall hf rfl rfl rfl rfl (cap := []) rfl rfl en95 (spec_l21Table_ok F ag af ag.Places.length ai rfl ao am ao.Starts.length aq rfl az aC az.length aD rfl 50 _ _ hc4 (aw.at hs) (aH.at hs) (aP.at hs)) ?_; clear hf
 rintro _ w ⟨A5, n6, c7, vs9, rfl, hn8, hs1⟩ a hf
 have hs : St [] W w [.blk b1 52 [.int .i64 ag.Events, .slice af ag.Places.length ai], .blk b2 54 [.int .i64 ao.Period, .slice am ao.Starts.length aq], .mat A5 n6 c7 23 2 vs9 r3] := hs.join hs1
 clear hs1
 refine sY hf hs rfl rfl rfl (Y_assign rfl rfl) ?_; clear hf; intro a hf
 refine wpO_nil <| wpL_seq <| wpL_region ?_
 refine sY hf hs rfl rfl rfl (Y_assign rfl rfl) ?_; clear hf; intro a hf
 refine wpO_nil <| wpL_seq <| wpL_seq <| wpL_region ?_
 refine sY hf hs rfl rfl rfl (Y_assign rfl rfl) ?_; clear hf; intro a hf
 refine wpO_nil ?_
 obtain ⟨r42, hl43, hm⟩ := bind_some hm
 refine wpL_block (fun a w => ∃ x41 : Int, x41 = r42 ∧ Fr a 32 [(9, .slice A5 n6 c7), (10, .int .i64 x41)] ∧ St [] W w [.mat A5 n6 c7 23 2 vs9 r3]) ?_ ?_
 ·refine wpL_loop (fun n a w => ∃ x30 : Int, ∃ x31 : Int, spec_l21Settled_L1 F r3 n x30 x31 = some r42 ∧ Fr a 32 [(9, .slice A5 n6 c7), (10, .int .i64 x30), (11, .int .i64 x31)] ∧ St [] W w [.mat A5 n6 c7 23 2 vs9 r3]) F ?_ ?_ ?_
  ·exact ⟨0, 0, hl43, (FrD.pick (FrD.pick (FrD.pick hf.none hf rfl) hf rfl) hf rfl), hs.sel [2] (by decide)⟩
  ·rintro a w ⟨x30, x31, h0_, -, -⟩; simp [spec_l21Settled_L1] at h0_
  ·rintro n45 a w ⟨x30, x31, hm44, hf, hs⟩
   rw [spec_l21Settled_L1] at hm44
   refine wpL_seq <| wpL_seq <| wpL_region ?_
   refine sY hf hs rfl rfl rfl (Y_move rfl rfl) ?_; clear hf; intro a hf
   refine sY hf hs rfl rfl rfl (Y_lss rfl rfl rfl) ?_; clear hf; intro a hf
   refine wpO_nil ?_
   refine wpL_cond hf rfl (fun hb46 => ?_) (fun hb46 => ?_)
   ·have hm44 := bif_t hm44 hb46
    refine wpL_skip <| wpL_seq <| wpL_block0 <| wpL_seq <| wpL_region ?_
    refine sY hf hs rfl rfl rfl (Y_move rfl rfl) ?_; clear hf; intro a hf
    refine sY hf hs rfl rfl rfl (Y_move rfl rfl) ?_; clear hf; intro a hf
    obtain ⟨q47, hi48, hm44⟩ := bind_some hm44
    obtain ⟨hi48a, hi48b, hi48q⟩ := idx_some hi48
    obtain ⟨A49, c50, hv51⟩ := hs.matRow (i := 0) rfl hi48q
    refine sY hf hs rfl rfl rfl (Y_index rfl rfl rfl el59 ti23 (Rd.isAt (hs.rdV (i := 0) rfl) hv51) hi48a (ltn hn8 hi48b)) ?_; clear hf; intro a hf
    refine sY hf hs rfl rfl rfl (Y_load_rd rfl rfl (fun w hs => hs.rdV (i := 0) rfl) (at1 hv51) ag23) ?_; clear hf; intro a hf
    obtain ⟨r52, hc53, hm44⟩ := bind_some hm44
    refine sCall hf rfl rfl rfl rfl (cap := []) rfl rfl en83 (spec_l16Sum_ok F q47 A49 q47.length c50 rfl _ _ hc53 (hs.rdRow (i := 0) rfl ⟨hi48q, hv51⟩)) ?_; clear hf
    rintro _ w ⟨rfl, hs1⟩ a hf
    have hs : St [] W w [.mat A5 n6 c7 23 2 vs9 r3] := hs.ext hs1.below
    clear hs1
    refine sY hf hs rfl rfl rfl (Y_gtr rfl rfl rfl) ?_; clear hf; intro a hf
    refine wpO_nil ?_
    refine wpL_cond hf rfl (fun hb54 => ?_) (fun hb54 => ?_)
    ·have hm44 := bif_t hm44 hb54
     refine wpL_region ?_
     refine sY hf hs rfl rfl rfl (Y_move rfl rfl) ?_; clear hf; intro a hf
     refine sY hf hs rfl rfl rfl (Y_add rfl rfl rfl) ?_; clear hf; intro a hf
     refine sY hf hs rfl rfl rfl (Y_assign rfl rfl) ?_; clear hf; intro a hf
     refine wpO_nil ?_
     refine wpL_nil (Qb_normal ?_)
     refine wpL_region ?_
     refine sY hf hs rfl rfl rfl (Y_move rfl rfl) ?_; clear hf; intro a hf
     refine sY hf hs rfl rfl rfl (Y_add rfl rfl rfl) ?_; clear hf; intro a hf
     refine sY hf hs rfl rfl rfl (Y_assign rfl rfl) ?_; clear hf; intro a hf
     refine wpO_nil ?_
     refine wpL_nil (Ql_normal ?_)
     exact ⟨(IntKind.i64.wrap (x31 + 1)), (IntKind.i64.wrap (x31 + 1)), hm44, (FrD.pick (FrD.pick (FrD.pick hf.none hf rfl) hf rfl) hf rfl), hs⟩
    ·have hm44 := bif_f hm44 hb54
     refine wpL_skip ?_
     refine wpL_nil (Qb_normal ?_)
     refine wpL_region ?_
     refine sY hf hs rfl rfl rfl (Y_move rfl rfl) ?_; clear hf; intro a hf
     refine sY hf hs rfl rfl rfl (Y_add rfl rfl rfl) ?_; clear hf; intro a hf
     refine sY hf hs rfl rfl rfl (Y_assign rfl rfl) ?_; clear hf; intro a hf
     refine wpO_nil ?_
     refine wpL_nil (Ql_normal ?_)
     exact ⟨x30, (IntKind.i64.wrap (x31 + 1)), hm44, (FrD.pick (FrD.pick (FrD.pick hf.none hf rfl) hf rfl) hf rfl), hs⟩
   ·have hm44 := bif_f hm44 hb46
    refine wpL_exit (Ql_exit (Qb_exit ?_))
    exact ⟨x30, Option.some.inj hm44, (FrD.pick (FrD.pick hf.none hf rfl) hf rfl), hs⟩
 ·rintro a w ⟨x41, hr_, hf, hs⟩
  subst hr_
  try dsimp only at hm
  refine wpL_seq <| wpL_region ?_
  refine sY hf hs rfl rfl rfl (Y_move rfl rfl) ?_; clear hf; intro a hf
  refine sY hf hs rfl rfl rfl (Y_move rfl rfl) ?_; clear hf; intro a hf
  refine sY hf hs rfl rfl rfl (Y_move rfl rfl) ?_; clear hf; intro a hf
  refine sY hf hs rfl rfl rfl (Y_leq rfl rfl rfl) ?_; clear hf; intro a hf
  refine sY hf hs rfl rfl rfl (Y_assign rfl rfl) ?_; clear hf; intro a hf
  refine sY hf hs rfl rfl rfl (Y_assign rfl rfl) ?_; clear hf; intro a hf
  refine sY hf hs rfl rfl rfl (Y_assign rfl rfl) ?_; clear hf; intro a hf
  refine wpO_nil ?_
  obtain rfl := Option.some.inj hm
  refine wpL_ret (ret_tmp3 rfl hf rfl rfl rfl ?_)
  exact ⟨_, rfl, A5, n6, c7, vs9, rfl, hn8, hs⟩

set_option maxRecDepth 100000 in
theorem spec_SettledAfter_ok (F : Nat) (ag : GEventGraph) (af : Option Addr) (av ai : Nat) (aA : av = ag.Places.length) (ao : GTimetable) (am : Option Addr) (aG aq : Nat) (aS : aG = ao.Starts.length) (az : List Int) (aC : Option Addr) (aI aD : Nat) (aT : aI = az.length) (r : Int × Int) (W : World) (hm : spec_SettledAfter F ag ao az = some r) (aw : Rd W af ((recs GPlace.cells) ag.Places)) (aH : Rd W am (ints ao.Starts)) (aP : Rd W aC (ints az)) :
  Calls Try.prog 34 [.agg #[.int .i64 ag.Events, .slice af av ai], .agg #[.int .i64 ao.Period, .slice am aG aq], .slice aC aI aD].toArray W fun e w' => ∃ v, e = .returned v ∧ v = .tuple #[.int .i64 r.1, .int .i64 r.2] ∧ St [] W w' [] := by
 subst aA
 subst aS
 subst aT
 unfold spec_SettledAfter at hm
 refine Calls.enter (N := 30) Try.func34 rfl rfl rfl (fun a hf => ?_)
 have hs := St.start W
 obtain ⟨w, hw_⟩ : ∃ w, w = W := ⟨W, rfl⟩
 clear hw_ w
 refine wpL_seq <| wpL_region ?_
 refine sBox hf hs rfl rfl rfl rfl rfl (cs := [.int .i64 ag.Events, .slice af ag.Places.length ai]) rfl ?_; clear hf hs; intro a w b1 hs hf
 have hs : St [] W w [.blk b1 52 [.int .i64 ag.Events, .slice af ag.Places.length ai]] := hs
 refine sBox hf hs rfl rfl rfl rfl rfl (cs := [.int .i64 ao.Period, .slice am ao.Starts.length aq]) rfl ?_; clear hf hs; intro a w b2 hs hf
 have hs : St [] W w [.blk b1 52 [.int .i64 ag.Events, .slice af ag.Places.length ai], .blk b2 54 [.int .i64 ao.Period, .slice am ao.Starts.length aq]] := hs
 refine sY hf hs rfl rfl rfl (Y_assign rfl rfl) ?_; clear hf; intro a hf
 refine sY hf hs rfl rfl rfl (Y_assign rfl rfl) ?_; clear hf; intro a hf
 refine wpO_nil <| wpL_seq <| wpL_region ?_
 refine sY hf hs rfl rfl rfl (Y_load_blkS rfl rfl (i := 0) rfl ag52 ti52 rfl) ?_; clear hf; intro a hf
 refine sY hf hs rfl rfl rfl (Y_load_blkS rfl rfl (i := 1) rfl ag54 ti54 rfl) ?_; clear hf; intro a hf
 refine sY hf hs rfl rfl rfl (Y_move rfl rfl) ?_; clear hf; intro a hf
 obtain ⟨r3, hc4, hm⟩ := bind_some hm
 refine sCall hf rfl rfl rfl rfl (cap := []) rfl rfl en79 (spec_l21Code_ok F ag af ag.Places.length ai rfl ao am ao.Starts.length aq rfl az aC az.length aD rfl true _ _ hc4 (aw.at hs) (aH.at hs) (aP.at hs)) ?_; clear hf
 rintro _ w ⟨rfl, hs1⟩ a hf
 have hs : St [] W w [.blk b1 52 [.int .i64 ag.Events, .slice af ag.Places.length ai], .blk b2 54 [.int .i64 ao.Period, .slice am ao.Starts.length aq]] := hs.ext hs1.below
 clear hs1
 refine sY hf hs rfl rfl rfl (Y_assign rfl rfl) ?_; clear hf; intro a hf
 refine wpO_nil <| wpL_seq <| wpL_seq <| wpL_region ?_
 refine sY hf hs rfl rfl rfl (Y_move rfl rfl) ?_; clear hf; intro a hf
 refine sY hf hs rfl rfl rfl (Y_neq rfl rfl rfl) ?_; clear hf; intro a hf
 refine wpO_nil ?_
 refine wpL_cond hf rfl (fun hb5 => ?_) (fun hb5 => ?_)
 ·have hm := bif_t hm hb5
  refine wpL_seq <| wpL_region ?_
  refine sY hf hs rfl rfl rfl (Y_move rfl rfl) ?_; clear hf; intro a hf
  refine sY hf hs rfl rfl rfl (Y_assign rfl rfl) ?_; clear hf; intro a hf
  refine sY hf hs rfl rfl rfl (Y_assign rfl rfl) ?_; clear hf; intro a hf
  refine wpO_nil ?_
  obtain rfl := Option.some.inj hm
  refine wpL_ret (ret_tmp2 rfl hf rfl rfl ?_)
  exact ⟨_, rfl, rfl, hs.sel [] (by decide)⟩
 ·have hm := bif_f hm hb5
  refine wpL_skip <| wpL_seq <| wpL_region ?_
  refine sY hf hs rfl rfl rfl (Y_load_blkS rfl rfl (i := 0) rfl ag52 ti52 rfl) ?_; clear hf; intro a hf
  refine sY hf hs rfl rfl rfl (Y_load_blkS rfl rfl (i := 1) rfl ag54 ti54 rfl) ?_; clear hf; intro a hf
  refine sY hf hs rfl rfl rfl (Y_move rfl rfl) ?_; clear hf; intro a hf
  obtain ⟨r6, hc7, hm⟩ := bind_some hm
  refine sCall hf rfl rfl rfl rfl (cap := []) rfl rfl en80 (spec_l21Settled_ok F ag af ag.Places.length ai rfl ao am ao.Starts.length aq rfl az aC az.length aD rfl _ _ hc7 (aw.at hs) (aH.at hs) (aP.at hs)) ?_; clear hf
  rintro _ w ⟨A8, n9, c10, vs12, rfl, hn11, hs1⟩ a hf
  have hs : St [] W w [.blk b1 52 [.int .i64 ag.Events, .slice af ag.Places.length ai], .blk b2 54 [.int .i64 ao.Period, .slice am ao.Starts.length aq], .mat A8 n9 c10 23 2 vs12 r6.1] := hs.join hs1
  clear hs1
  refine sY hf hs rfl rfl rfl (Y_move rfl rfl) ?_; clear hf; intro a hf
  refine sY hf hs rfl rfl rfl (Y_extract rfl rfl rfl) ?_; clear hf; intro a hf
  refine sY hf hs rfl rfl rfl (Y_extract rfl rfl rfl) ?_; clear hf; intro a hf
  refine sY hf hs rfl rfl rfl (Y_extract rfl rfl rfl) ?_; clear hf; intro a hf
  refine sY hf hs rfl rfl rfl (Y_assign rfl rfl) ?_; clear hf; intro a hf
  refine sY hf hs rfl rfl rfl (Y_assign rfl rfl) ?_; clear hf; intro a hf
  refine sY hf hs rfl rfl rfl (Y_assign rfl rfl) ?_; clear hf; intro a hf
  refine wpO_nil <| wpL_seq <| wpL_seq <| wpL_region ?_
  refine sY hf hs rfl rfl rfl (Y_move rfl rfl) ?_; clear hf; intro a hf
  refine sY hf hs rfl rfl rfl (Y_not rfl rfl) ?_; clear hf; intro a hf
  refine wpO_nil ?_
  refine wpL_cond hf rfl (fun hb13 => ?_) (fun hb13 => ?_)
  ·have hm := bif_t hm hb13
   refine wpL_seq <| wpL_region ?_
   refine sY hf hs rfl rfl rfl (Y_assign rfl rfl) ?_; clear hf; intro a hf
   refine sY hf hs rfl rfl rfl (Y_assign rfl rfl) ?_; clear hf; intro a hf
   refine wpO_nil ?_
   obtain rfl := Option.some.inj hm
   refine wpL_ret (ret_tmp2 rfl hf rfl rfl ?_)
   exact ⟨_, rfl, rfl, hs.sel [] (by decide)⟩
  ·have hm := bif_f hm hb13
   refine wpL_skip <| wpL_seq <| wpL_region ?_
   refine sY hf hs rfl rfl rfl (Y_move rfl rfl) ?_; clear hf; intro a hf
   refine sY hf hs rfl rfl rfl (Y_assign rfl rfl) ?_; clear hf; intro a hf
   refine sY hf hs rfl rfl rfl (Y_assign rfl rfl) ?_; clear hf; intro a hf
   refine wpO_nil ?_
   obtain rfl := Option.some.inj hm
   refine wpL_ret (ret_tmp2 rfl hf rfl rfl ?_)
   exact ⟨_, rfl, rfl, hs.sel [] (by decide)⟩

set_option maxRecDepth 100000 in
theorem slices_Grow_int64_ok (F : Nat) (cp : Int) (r : List Int) (W : World) (hm : slices_Grow_int64 F cp = some r) :
  Calls Try.prog 141 [.slice none 0 0, .int .i64 cp].toArray W fun e w' => ∃ v, e = .returned v ∧ ∃ A24, ∃ n25, ∃ c26, v = .slice A24 n25 c26 ∧ n25 = r.length ∧ St [] W w' [.row A24 n25 c26 2 1 (ints r)] := by
 unfold slices_Grow_int64 at hm
 refine Calls.enter (N := 27) Try.func141 rfl rfl rfl (fun a hf => ?_)
 have hs := St.start W
 obtain ⟨w, hw_⟩ : ∃ w, w = W := ⟨W, rfl⟩
 clear hw_ w
 refine wpL_seq <| wpL_region ?_
 refine sY hf hs rfl rfl rfl (Y_assign rfl rfl) ?_; clear hf; intro a hf
 refine wpO_nil <| wpL_seq <| wpL_seq <| wpL_region ?_
 refine sY hf hs rfl rfl rfl (Y_move rfl rfl) ?_; clear hf; intro a hf
 refine sY hf hs rfl rfl rfl (Y_lss rfl rfl rfl) ?_; clear hf; intro a hf
 refine wpO_nil ?_
 refine wpL_cond hf rfl (fun hb1 => ?_) (fun hb1 => ?_)
 ·have hm := bif_t hm hb1
  cases hm
 ·have hm := bif_f hm hb1
  refine wpL_skip <| wpL_seq <| wpL_seq <| wpL_region ?_
  refine sY hf hs rfl rfl rfl (Y_move rfl rfl) ?_; clear hf; intro a hf
  refine sY hf hs rfl rfl rfl (Y_move rfl rfl) ?_; clear hf; intro a hf
  refine sY hf hs rfl rfl rfl (Y_cap0 rfl rfl el23) ?_; clear hf; intro a hf
  refine sY hf hs rfl rfl rfl (Y_move rfl rfl) ?_; clear hf; intro a hf
  refine sY hf hs rfl rfl rfl (Y_lenH rfl rfl el23 rfl) ?_; clear hf; intro a hf
  refine sY hf hs rfl rfl rfl (Y_sub rfl rfl rfl) ?_; clear hf; intro a hf
  refine sY hf hs rfl rfl rfl (Y_sub rfl rfl rfl) ?_; clear hf; intro a hf
  refine sY hf hs rfl rfl rfl (Y_assign rfl rfl) ?_; clear hf; intro a hf
  refine wpO_nil <| wpL_seq <| wpL_region ?_
  refine sY hf hs rfl rfl rfl (Y_move rfl rfl) ?_; clear hf; intro a hf
  refine sY hf hs rfl rfl rfl (Y_gtr rfl rfl rfl) ?_; clear hf; intro a hf
  refine wpO_nil ?_
  obtain ⟨r14, hj15, hm⟩ := bind_some hm
  refine wpL_cut (fun a w => ∃ xs9 : List Int, ∃ A10, ∃ n11, ∃ c12, xs9 = r14 ∧ n11 = xs9.length ∧ Fr a 27 [(0, .slice A10 n11 c12)] ∧ St [] W w [.row A10 n11 c12 2 1 (ints xs9)]) ?_ ?_
  ·refine wpL_cond hf rfl (fun hb16 => ?_) (fun hb16 => ?_)
   ·have hj15 := bif_t hj15 hb16
    refine wpL_region ?_
    refine sY hf hs rfl rfl rfl (Y_move rfl rfl) ?_; clear hf; intro a hf
    refine sY hf hs rfl rfl rfl (Y_move rfl rfl) ?_; clear hf; intro a hf
    refine sY hf hs rfl rfl rfl (Y_cap0 rfl rfl el23) ?_; clear hf; intro a hf
    refine sY hf hs rfl rfl rfl (Y_sliceH (l := 0) rfl rfl rfl (by decide) (by decide) el23 ti2) ?_; clear hf; intro a hf
    refine sY hf hs rfl rfl rfl (Y_move rfl rfl) ?_; clear hf; intro a hf
    obtain ⟨xs19, hk20, hj15⟩ := bind_some hj15
    refine sZeros hf hs rfl rfl rfl rfl rfl rfl hk20 el23 un3 ti2 ?_; clear hf hs; intro a w A17 c18 hs hf
    have hs : St [] W w [.row A17 xs19.length c18 2 1 (ints xs19)] := hs
    refine sY hf hs rfl rfl rfl (Y_move rfl rfl) ?_; clear hf; intro a hf
    refine sY hf hs rfl rfl rfl (Y_lenH rfl rfl el23 rfl) ?_; clear hf; intro a hf
    obtain ⟨xs22, hk21, hj15⟩ := bind_some hj15
    refine sY hf hs rfl rfl rfl (Y_sliceH rfl rfl rfl (cutTo_some hk21).1 (leC rfl (hs.capR (i := 0) rfl) hk21) el23 ti2) ?_; clear hf; intro a hf
    have hs := hs.cutInts (i := 0) rfl rfl hk21
    have hs : St [] W _ [.row A17 ((([] : List Int).length : Int) : Int).toNat c18 2 1 (ints xs22)] := hs
    refine sY hf hs rfl rfl rfl (Y_assign rfl rfl) ?_; clear hf; intro a hf
    refine wpO_nil ?_
    refine wpL_nil (then_normal ?_)
    exact ⟨xs22, A17, ((([] : List Int).length : Int) : Int).toNat, c18, Option.some.inj hj15, (pre_len hk21), (FrD.pick hf.none hf rfl), hs⟩
   ·have hj15 := bif_f hj15 hb16
    refine wpL_skip ?_
    have hs : St [] W _ [.row none 0 0 2 1 (ints ([] : List Int))] := hs.addNil 2 1
    refine wpL_nil (then_normal ?_)
    exact ⟨([] : List Int), none, 0, 0, Option.some.inj hj15, rfl, (FrD.pick hf.none hf rfl), hs⟩
  ·rintro a w ⟨xs9, A10, n11, c12, hr_, hn13, hf, hs⟩
   subst hr_
   try dsimp only at hm
   refine wpL_seq <| wpL_region ?_
   refine sY hf hs rfl rfl rfl (Y_move rfl rfl) ?_; clear hf; intro a hf
   refine sY hf hs rfl rfl rfl (Y_assign rfl rfl) ?_; clear hf; intro a hf
   refine wpO_nil ?_
   obtain rfl := Option.some.inj hm
   refine wpL_ret (ret_tmp rfl hf rfl ?_)
   exact ⟨_, rfl, A10, n11, c12, rfl, hn13, hs⟩

set_option maxRecDepth 100000 in
theorem slices_Concat_int64_ok (F : Nat) (bI : List (List Int)) (bN : Option Addr) (cu bR : Nat) (cG : cu = bI.length) (r : List Int) (W : World) (hm : slices_Concat_int64 F bI = some r) (cv : RdM W bN bI) :
  Calls Try.prog 82 [.slice bN cu bR].toArray W fun e w' => ∃ v, e = .returned v ∧ ∃ A137, ∃ n138, ∃ c139, v = .slice A137 n138 c139 ∧ n138 = r.length ∧ St [] W w' [.row A137 n138 c139 2 1 (ints r)] := by
 subst cG
 unfold slices_Concat_int64 at hm
 refine Calls.enter (N := 36) Try.func82 rfl rfl rfl (fun a hf => ?_)
 have hs := St.start W
 obtain ⟨w, hw_⟩ : ∃ w, w = W := ⟨W, rfl⟩
 clear hw_ w
 refine wpL_seq <| wpL_region ?_
 refine sY hf hs rfl rfl rfl (Y_assign rfl rfl) ?_; clear hf; intro a hf
 refine wpO_nil <| wpL_seq <| wpL_region ?_
 refine sY hf hs rfl rfl rfl (Y_assign rfl rfl) ?_; clear hf; intro a hf
 refine wpO_nil <| wpL_seq <| wpL_seq <| wpL_region ?_
 refine sY hf hs rfl rfl rfl (Y_move rfl rfl) ?_; clear hf; intro a hf
 refine sY hf hs rfl rfl rfl (Y_lenH rfl rfl el59 rfl) ?_; clear hf; intro a hf
 refine sY hf hs rfl rfl rfl (Y_move rfl rfl) ?_; clear hf; intro a hf
 refine wpO_nil ?_
 obtain ⟨r39, hl40, hm⟩ := bind_some hm
 refine wpL_block (fun a w => ∃ x38 : Int, x38 = r39 ∧ Fr a 36 [(0, .slice bN bI.length bR), (3, .int .i64 x38)] ∧ St [] W w []) ?_ ?_
 ·refine wpL_loop (fun n a w => ∃ x25 : Int, ∃ x26 : Int, slices_Concat_int64_L1 F bI n x25 x26 = some r39 ∧ Fr a 36 [(0, .slice bN bI.length bR), (3, .int .i64 x25), (9, .slice bN bI.length bR), (10, .int .i64 (bI.length : Int)), (11, .int .i64 x26)] ∧ St [] W w []) F ?_ ?_ ?_
  ·exact ⟨0, 0, hl40, (FrD.pick (FrD.pick (FrD.pick (FrD.pick (FrD.pick hf.none hf rfl) hf rfl) hf rfl) hf rfl) hf rfl), hs⟩
  ·rintro a w ⟨x25, x26, h0_, -, -⟩; simp [slices_Concat_int64_L1] at h0_
  ·rintro n42 a w ⟨x25, x26, hm41, hf, hs⟩
   rw [slices_Concat_int64_L1] at hm41
   refine wpL_seq <| wpL_region ?_
   refine sY hf hs rfl rfl rfl (Y_lss rfl rfl rfl) ?_; clear hf; intro a hf
   refine wpO_nil <| wpL_seq ?_
   refine wpL_cond hf rfl (fun hb43 => ?_) (fun hb43 => ?_)
   ·have hm41 := bif_t hm41 hb43
    refine wpL_skip <| wpL_seq <| wpL_block0 <| wpL_seq <| wpL_region ?_
    obtain ⟨q44, hi45, hm41⟩ := bind_some hm41
    obtain ⟨hi45a, hi45b, hi45q⟩ := idx_some hi45
    obtain ⟨vs46, hv47, hr48⟩ := id cv
    obtain ⟨A49, c50, hv51, hR52⟩ := hr48 _ _ hi45q
    refine sY hf hs rfl rfl rfl (Y_index rfl rfl rfl el59 ti23 (Rd.isAt hv47 hv51) hi45a hi45b) ?_; clear hf; intro a hf
    refine sY hf hs rfl rfl rfl (Y_load_rd rfl rfl (fun w hs => hv47.at hs) (at1 hv51) ag23) ?_; clear hf; intro a hf
    refine sY hf hs rfl rfl rfl (Y_assign rfl rfl) ?_; clear hf; intro a hf
    refine wpO_nil <| wpL_seq <| wpL_region ?_
    refine sY hf hs rfl rfl rfl (Y_move rfl rfl) ?_; clear hf; intro a hf
    refine sY hf hs rfl rfl rfl (Y_move rfl rfl) ?_; clear hf; intro a hf
    refine sY hf hs rfl rfl rfl (Y_lenH rfl rfl el23 rfl) ?_; clear hf; intro a hf
    refine sY hf hs rfl rfl rfl (Y_add rfl rfl rfl) ?_; clear hf; intro a hf
    refine sY hf hs rfl rfl rfl (Y_assign rfl rfl) ?_; clear hf; intro a hf
    refine wpO_nil <| wpL_seq <| wpL_region ?_
    refine sY hf hs rfl rfl rfl (Y_move rfl rfl) ?_; clear hf; intro a hf
    refine sY hf hs rfl rfl rfl (Y_lss rfl rfl rfl) ?_; clear hf; intro a hf
    refine wpO_nil ?_
    refine wpL_cond hf rfl (fun hb53 => ?_) (fun hb53 => ?_)
    ·have hm41 := bif_t hm41 hb53
     cases hm41
    ·have hm41 := bif_f hm41 hb53
     refine wpL_skip ?_
     refine wpL_nil (Qb_normal ?_)
     refine wpL_region ?_
     refine sY hf hs rfl rfl rfl (Y_add rfl rfl rfl) ?_; clear hf; intro a hf
     refine sY hf hs rfl rfl rfl (Y_move rfl rfl) ?_; clear hf; intro a hf
     refine wpO_nil ?_
     refine wpL_nil (Ql_normal ?_)
     exact ⟨(IntKind.i64.wrap (x25 + (q44.length : Int))), (IntKind.i64.wrap (x26 + 1)), hm41, (FrD.pick (FrD.pick (FrD.pick (FrD.pick (FrD.pick hf.none hf rfl) hf rfl) hf rfl) hf rfl) hf rfl), hs⟩
   ·have hm41 := bif_f hm41 hb43
    refine wpL_exit (Ql_exit (Qb_exit ?_))
    exact ⟨x25, Option.some.inj hm41, (FrD.pick (FrD.pick hf.none hf rfl) hf rfl), hs⟩
 ·rintro a w ⟨x38, hr_, hf, hs⟩
  subst hr_
  try dsimp only at hm
  refine wpL_seq <| wpL_region ?_
  refine sY hf hs rfl rfl rfl (Y_move rfl rfl) ?_; clear hf; intro a hf
  obtain ⟨r54, hc55, hm⟩ := bind_some hm
  refine sCall hf rfl rfl rfl rfl (cap := []) rfl rfl en141 (slices_Grow_int64_ok F x38 _ _ hc55) ?_; clear hf
  rintro _ w ⟨A56, n57, c58, rfl, hn59, hs1⟩ a hf
  have hs : St [] W w [.row A56 n57 c58 2 1 (ints r54)] := hs.join hs1
  clear hs1
  refine sY hf hs rfl rfl rfl (Y_assign rfl rfl) ?_; clear hf; intro a hf
  refine wpO_nil <| wpL_seq <| wpL_seq <| wpL_region ?_
  refine sY hf hs rfl rfl rfl (Y_move rfl rfl) ?_; clear hf; intro a hf
  refine sY hf hs rfl rfl rfl (Y_lenH rfl rfl el59 rfl) ?_; clear hf; intro a hf
  refine sY hf hs rfl rfl rfl (Y_move rfl rfl) ?_; clear hf; intro a hf
  refine wpO_nil ?_
  obtain ⟨r119, hl120, hm⟩ := bind_some hm
  refine wpL_block (fun a w => ∃ xs114 : List Int, ∃ A115, ∃ n116, ∃ c117, xs114 = r119 ∧ n116 = xs114.length ∧ Fr a 36 [(6, .slice A115 n116 c117)] ∧ St [] W w [.row A115 n116 c117 2 1 (ints xs114)]) ?_ ?_
  ·refine wpL_loop (fun n a w => ∃ xs94 : List Int, ∃ x99 : Int, ∃ A95, ∃ n96, ∃ c97, slices_Concat_int64_L2 F bI n xs94 x99 = some r119 ∧ n96 = xs94.length ∧ Fr a 36 [(6, .slice A95 n96 c97), (25, .slice bN bI.length bR), (26, .int .i64 (bI.length : Int)), (27, .int .i64 x99)] ∧ St [] W w [.row A95 n96 c97 2 1 (ints xs94)]) F ?_ ?_ ?_
   ·exact ⟨r54, 0, A56, n57, c58, hl120, hn59, (FrD.pick (FrD.pick (FrD.pick (FrD.pick hf.none hf rfl) hf rfl) hf rfl) hf rfl), hs⟩
   ·rintro a w ⟨xs94, x99, A95, n96, c97, h0_, -, -, -⟩; simp [slices_Concat_int64_L2] at h0_
   ·rintro n122 a w ⟨xs94, x99, A95, n96, c97, hm121, hn98, hf, hs⟩
    rw [slices_Concat_int64_L2] at hm121
    refine wpL_seq <| wpL_region ?_
    refine sY hf hs rfl rfl rfl (Y_lss rfl rfl rfl) ?_; clear hf; intro a hf
    refine wpO_nil <| wpL_seq ?_
    refine wpL_cond hf rfl (fun hb123 => ?_) (fun hb123 => ?_)
    ·have hm121 := bif_t hm121 hb123
     refine wpL_skip <| wpL_seq <| wpL_block0 <| wpL_seq <| wpL_region ?_
     obtain ⟨q124, hi125, hm121⟩ := bind_some hm121
     obtain ⟨hi125a, hi125b, hi125q⟩ := idx_some hi125
     obtain ⟨vs126, hv127, hr128⟩ := id cv
     obtain ⟨A129, c130, hv131, hR132⟩ := hr128 _ _ hi125q
     refine sY hf hs rfl rfl rfl (Y_index rfl rfl rfl el59 ti23 (Rd.isAt hv127 hv131) hi125a hi125b) ?_; clear hf; intro a hf
     refine sY hf hs rfl rfl rfl (Y_load_rd rfl rfl (fun w hs => hv127.at hs) (at1 hv131) ag23) ?_; clear hf; intro a hf
     refine sY hf hs rfl rfl rfl (Y_assign rfl rfl) ?_; clear hf; intro a hf
     refine wpO_nil <| wpL_region ?_
     refine sY hf hs rfl rfl rfl (Y_move rfl rfl) ?_; clear hf; intro a hf
     refine sY hf hs rfl rfl rfl (Y_move rfl rfl) ?_; clear hf; intro a hf
     obtain ⟨xs135, ha136, hm121⟩ := bind_some hm121
     refine sAppendG (i := 0) (xs := xs94) (ys := q124) (enc := ints) hf hs rfl rfl rfl rfl rfl rfl hn98 rfl rfl ha136 el23 ti2 rfl rfl rfl (hR132.at hs) ints_len1 ints_append ints_one ?_; clear hf hs; intro a w A133 c134 hs hf
     have hs : St [] W w [.row A133 xs135.length c134 2 1 (ints xs135)] := hs
     refine sY hf hs rfl rfl rfl (Y_assign rfl rfl) ?_; clear hf; intro a hf
     refine wpO_nil ?_
     refine wpL_nil (Qb_normal ?_)
     refine wpL_region ?_
     refine sY hf hs rfl rfl rfl (Y_add rfl rfl rfl) ?_; clear hf; intro a hf
     refine sY hf hs rfl rfl rfl (Y_move rfl rfl) ?_; clear hf; intro a hf
     refine wpO_nil ?_
     refine wpL_nil (Ql_normal ?_)
     exact ⟨xs135, (IntKind.i64.wrap (x99 + 1)), A133, xs135.length, c134, hm121, rfl, (FrD.pick (FrD.pick (FrD.pick (FrD.pick hf.none hf rfl) hf rfl) hf rfl) hf rfl), hs⟩
    ·have hm121 := bif_f hm121 hb123
     refine wpL_exit (Ql_exit (Qb_exit ?_))
     exact ⟨xs94, A95, n96, c97, Option.some.inj hm121, hn98, (FrD.pick hf.none hf rfl), hs⟩
  ·rintro a w ⟨xs114, A115, n116, c117, hr_, hn118, hf, hs⟩
   subst hr_
   try dsimp only at hm
   refine wpL_seq <| wpL_region ?_
   refine sY hf hs rfl rfl rfl (Y_move rfl rfl) ?_; clear hf; intro a hf
   refine sY hf hs rfl rfl rfl (Y_assign rfl rfl) ?_; clear hf; intro a hf
   refine wpO_nil ?_
   obtain rfl := Option.some.inj hm
   refine wpL_ret (ret_tmp rfl hf rfl ?_)
   exact ⟨_, rfl, A115, n116, c117, rfl, hn118, hs⟩

set_option maxRecDepth 100000 in
theorem impl_total_ok (F : Nat) (aL : List Int) (aM : Option Addr) (aW aX : Nat) (bi : aW = aL.length) (r : Int) (W : World) (hm : impl_total F aL = some r) (aY : Rd W aM (ints aL)) :
  Calls Try.prog 81 [.slice aM aW aX].toArray W fun e w' => ∃ v, e = .returned v ∧ v = .int .i64 r ∧ St [] W w' [] := by
 subst bi
 unfold impl_total at hm
 refine Calls.enter (N := 17) Try.func81 rfl rfl rfl (fun a hf => ?_)
 have hs := St.start W
 obtain ⟨w, hw_⟩ : ∃ w, w = W := ⟨W, rfl⟩
 clear hw_ w
 refine wpL_seq <| wpL_region ?_
 refine sY hf hs rfl rfl rfl (Y_assign rfl rfl) ?_; clear hf; intro a hf
 refine wpO_nil <| wpL_seq <| wpL_region ?_
 refine sY hf hs rfl rfl rfl (Y_assign rfl rfl) ?_; clear hf; intro a hf
 refine wpO_nil <| wpL_seq <| wpL_seq <| wpL_region ?_
 refine sY hf hs rfl rfl rfl (Y_move rfl rfl) ?_; clear hf; intro a hf
 refine sY hf hs rfl rfl rfl (Y_lenH rfl rfl el23 rfl) ?_; clear hf; intro a hf
 refine sY hf hs rfl rfl rfl (Y_move rfl rfl) ?_; clear hf; intro a hf
 refine wpO_nil ?_
 obtain ⟨r15, hl16, hm⟩ := bind_some hm
 refine wpL_block (fun a w => ∃ x14 : Int, x14 = r15 ∧ Fr a 17 [(3, .int .i64 x14)] ∧ St [] W w []) ?_ ?_
 ·refine wpL_loop (fun n a w => ∃ x9 : Int, ∃ x10 : Int, impl_total_L1 F aL n x9 x10 = some r15 ∧ Fr a 17 [(3, .int .i64 x9), (6, .slice aM aL.length aX), (7, .int .i64 (aL.length : Int)), (8, .int .i64 x10)] ∧ St [] W w []) F ?_ ?_ ?_
  ·exact ⟨0, 0, hl16, (FrD.pick (FrD.pick (FrD.pick (FrD.pick hf.none hf rfl) hf rfl) hf rfl) hf rfl), hs⟩
  ·rintro a w ⟨x9, x10, h0_, -, -⟩; simp [impl_total_L1] at h0_
  ·rintro n18 a w ⟨x9, x10, hm17, hf, hs⟩
   rw [impl_total_L1] at hm17
   refine wpL_seq <| wpL_region ?_
   refine sY hf hs rfl rfl rfl (Y_lss rfl rfl rfl) ?_; clear hf; intro a hf
   refine wpO_nil <| wpL_seq ?_
   refine wpL_cond hf rfl (fun hb19 => ?_) (fun hb19 => ?_)
   ·have hm17 := bif_t hm17 hb19
    refine wpL_skip <| wpL_seq <| wpL_block0 <| wpL_seq <| wpL_region ?_
    obtain ⟨q20, hi21, hm17⟩ := bind_some hm17
    obtain ⟨hi21a, hi21b, hi21q⟩ := idx_some hi21
    refine sY hf hs rfl rfl rfl (Y_index rfl rfl rfl el23 ti2 (Rd.isAt (aY.at hs) (at1 (ints_at hi21q))) hi21a hi21b) ?_; clear hf; intro a hf
    refine sY hf hs rfl rfl rfl (Y_load_rd rfl rfl (fun w hs => aY.at hs) (at1 (ints_at hi21q)) ag2) ?_; clear hf; intro a hf
    refine sY hf hs rfl rfl rfl (Y_assign rfl rfl) ?_; clear hf; intro a hf
    refine wpO_nil <| wpL_region ?_
    refine sY hf hs rfl rfl rfl (Y_move rfl rfl) ?_; clear hf; intro a hf
    refine sY hf hs rfl rfl rfl (Y_move rfl rfl) ?_; clear hf; intro a hf
    refine sY hf hs rfl rfl rfl (Y_add rfl rfl rfl) ?_; clear hf; intro a hf
    refine sY hf hs rfl rfl rfl (Y_assign rfl rfl) ?_; clear hf; intro a hf
    refine wpO_nil ?_
    refine wpL_nil (Qb_normal ?_)
    refine wpL_region ?_
    refine sY hf hs rfl rfl rfl (Y_add rfl rfl rfl) ?_; clear hf; intro a hf
    refine sY hf hs rfl rfl rfl (Y_move rfl rfl) ?_; clear hf; intro a hf
    refine wpO_nil ?_
    refine wpL_nil (Ql_normal ?_)
    exact ⟨(IntKind.i64.wrap (x9 + q20)), (IntKind.i64.wrap (x10 + 1)), hm17, (FrD.pick (FrD.pick (FrD.pick (FrD.pick hf.none hf rfl) hf rfl) hf rfl) hf rfl), hs⟩
   ·have hm17 := bif_f hm17 hb19
    refine wpL_exit (Ql_exit (Qb_exit ?_))
    exact ⟨x9, Option.some.inj hm17, (FrD.pick hf.none hf rfl), hs⟩
 ·rintro a w ⟨x14, hr_, hf, hs⟩
  subst hr_
  try dsimp only at hm
  refine wpL_seq <| wpL_region ?_
  refine sY hf hs rfl rfl rfl (Y_move rfl rfl) ?_; clear hf; intro a hf
  refine sY hf hs rfl rfl rfl (Y_assign rfl rfl) ?_; clear hf; intro a hf
  refine wpO_nil ?_
  obtain rfl := Option.some.inj hm
  refine wpL_ret (ret_tmp rfl hf rfl ?_)
  exact ⟨_, rfl, rfl, hs⟩

set_option maxRecDepth 100000 in
theorem impl_TotalDelay_ok (F : Nat) (ag : GEventGraph) (af : Option Addr) (av ai : Nat) (aA : av = ag.Places.length) (ao : GTimetable) (am : Option Addr) (aG aq : Nat) (aS : aG = ao.Starts.length) (az : List Int) (aC : Option Addr) (aI aD : Nat) (aT : aI = az.length) (r : Int × Int) (W : World) (hm : impl_TotalDelay F ag ao az = some r) (aw : Rd W af ((recs GPlace.cells) ag.Places)) (aH : Rd W am (ints ao.Starts)) (aP : Rd W aC (ints az)) :
  Calls Try.prog 35 [.agg #[.int .i64 ag.Events, .slice af av ai], .agg #[.int .i64 ao.Period, .slice am aG aq], .slice aC aI aD].toArray W fun e w' => ∃ v, e = .returned v ∧ v = .tuple #[.int .i64 r.1, .int .i64 r.2] ∧ St [] W w' [] := by
 subst aA
 subst aS
 subst aT
 unfold impl_TotalDelay at hm
 refine Calls.enter (N := 33) Try.func35 rfl rfl rfl (fun a hf => ?_)
 have hs := St.start W
 obtain ⟨w, hw_⟩ : ∃ w, w = W := ⟨W, rfl⟩
 clear hw_ w
 refine wpL_seq <| wpL_region ?_
 refine sBox hf hs rfl rfl rfl rfl rfl (cs := [.int .i64 ag.Events, .slice af ag.Places.length ai]) rfl ?_; clear hf hs; intro a w b1 hs hf
 have hs : St [] W w [.blk b1 52 [.int .i64 ag.Events, .slice af ag.Places.length ai]] := hs
 refine sBox hf hs rfl rfl rfl rfl rfl (cs := [.int .i64 ao.Period, .slice am ao.Starts.length aq]) rfl ?_; clear hf hs; intro a w b2 hs hf
 have hs : St [] W w [.blk b1 52 [.int .i64 ag.Events, .slice af ag.Places.length ai], .blk b2 54 [.int .i64 ao.Period, .slice am ao.Starts.length aq]] := hs
 refine sY hf hs rfl rfl rfl (Y_assign rfl rfl) ?_; clear hf; intro a hf
 refine sY hf hs rfl rfl rfl (Y_assign rfl rfl) ?_; clear hf; intro a hf
 refine wpO_nil <| wpL_seq <| wpL_seq <| wpL_region ?_
 refine sY hf hs rfl rfl rfl (Y_load_blkS rfl rfl (i := 0) rfl ag52 ti52 rfl) ?_; clear hf; intro a hf
 refine sY hf hs rfl rfl rfl (Y_load_blkS rfl rfl (i := 1) rfl ag54 ti54 rfl) ?_; clear hf; intro a hf
 refine sY hf hs rfl rfl rfl (Y_move rfl rfl) ?_; clear hf; intro a hf
 obtain ⟨r3, hc4, hm⟩ := bind_some hm
 refine sCall hf rfl rfl rfl rfl (cap := []) rfl rfl en77 (impl_checkDelays_ok F ag af ag.Places.length ai rfl ao am ao.Starts.length aq rfl az aC az.length aD rfl true _ _ hc4 (aw.at hs) (aH.at hs) (aP.at hs)) ?_; clear hf
 rintro _ w ⟨rfl, hs1⟩ a hf
 have hs : St [] W w [.blk b1 52 [.int .i64 ag.Events, .slice af ag.Places.length ai], .blk b2 54 [.int .i64 ao.Period, .slice am ao.Starts.length aq]] := hs.ext hs1.below
 clear hs1
 refine sY hf hs rfl rfl rfl (Y_assign rfl rfl) ?_; clear hf; intro a hf
 refine wpO_nil <| wpL_seq <| wpL_region ?_
 refine sY hf hs rfl rfl rfl (Y_move rfl rfl) ?_; clear hf; intro a hf
 refine sY hf hs rfl rfl rfl (Y_neq rfl rfl rfl) ?_; clear hf; intro a hf
 refine wpO_nil ?_
 refine wpL_cond hf rfl (fun hb5 => ?_) (fun hb5 => ?_)
 ·have hm := bif_t hm hb5
  refine wpL_seq <| wpL_region ?_
  refine sY hf hs rfl rfl rfl (Y_move rfl rfl) ?_; clear hf; intro a hf
  refine sY hf hs rfl rfl rfl (Y_assign rfl rfl) ?_; clear hf; intro a hf
  refine sY hf hs rfl rfl rfl (Y_assign rfl rfl) ?_; clear hf; intro a hf
  refine wpO_nil ?_
  obtain rfl := Option.some.inj hm
  refine wpL_ret (ret_tmp2 rfl hf rfl rfl ?_)
  exact ⟨_, rfl, rfl, hs.sel [] (by decide)⟩
 ·have hm := bif_f hm hb5
  refine wpL_skip <| wpL_seq <| wpL_region ?_
  refine sY hf hs rfl rfl rfl (Y_load_blkS rfl rfl (i := 0) rfl ag52 ti52 rfl) ?_; clear hf; intro a hf
  refine sY hf hs rfl rfl rfl (Y_load_blkS rfl rfl (i := 1) rfl ag54 ti54 rfl) ?_; clear hf; intro a hf
  refine sY hf hs rfl rfl rfl (Y_move rfl rfl) ?_; clear hf; intro a hf
  obtain ⟨r6, hc7, hm⟩ := bind_some hm
  refine sCall hf rfl rfl rfl rfl (cap := []) rfl rfl en78 (impl_settledTable_ok F ag af ag.Places.length ai rfl ao am ao.Starts.length aq rfl az aC az.length aD rfl _ _ hc7 (aw.at hs) (aH.at hs) (aP.at hs)) ?_; clear hf
  rintro _ w ⟨A8, n9, c10, vs12, rfl, hn11, hs1⟩ a hf
  have hs : St [] W w [.blk b1 52 [.int .i64 ag.Events, .slice af ag.Places.length ai], .blk b2 54 [.int .i64 ao.Period, .slice am ao.Starts.length aq], .mat A8 n9 c10 23 2 vs12 r6.1] := hs.join hs1
  clear hs1
  refine sY hf hs rfl rfl rfl (Y_move rfl rfl) ?_; clear hf; intro a hf
  refine sY hf hs rfl rfl rfl (Y_extract rfl rfl rfl) ?_; clear hf; intro a hf
  refine sY hf hs rfl rfl rfl (Y_extract rfl rfl rfl) ?_; clear hf; intro a hf
  refine sY hf hs rfl rfl rfl (Y_extract rfl rfl rfl) ?_; clear hf; intro a hf
  refine sY hf hs rfl rfl rfl (Y_assign rfl rfl) ?_; clear hf; intro a hf
  refine sY hf hs rfl rfl rfl (Y_assign rfl rfl) ?_; clear hf; intro a hf
  refine sY hf hs rfl rfl rfl (Y_assign rfl rfl) ?_; clear hf; intro a hf
  refine wpO_nil <| wpL_seq <| wpL_seq <| wpL_region ?_
  refine sY hf hs rfl rfl rfl (Y_move rfl rfl) ?_; clear hf; intro a hf
  refine sY hf hs rfl rfl rfl (Y_neq rfl rfl rfl) ?_; clear hf; intro a hf
  refine wpO_nil ?_
  refine wpL_cond hf rfl (fun hb13 => ?_) (fun hb13 => ?_)
  ·have hm := bif_t hm hb13
   refine wpL_seq <| wpL_region ?_
   refine sY hf hs rfl rfl rfl (Y_move rfl rfl) ?_; clear hf; intro a hf
   refine sY hf hs rfl rfl rfl (Y_assign rfl rfl) ?_; clear hf; intro a hf
   refine sY hf hs rfl rfl rfl (Y_assign rfl rfl) ?_; clear hf; intro a hf
   refine wpO_nil ?_
   obtain rfl := Option.some.inj hm
   refine wpL_ret (ret_tmp2 rfl hf rfl rfl ?_)
   exact ⟨_, rfl, rfl, hs.sel [] (by decide)⟩
  ·have hm := bif_f hm hb13
   refine wpL_skip <| wpL_seq <| wpL_region ?_
   refine sY hf hs rfl rfl rfl (Y_move rfl rfl) ?_; clear hf; intro a hf
   obtain ⟨r14, hc15, hm⟩ := bind_some hm
   refine sCall hf rfl rfl rfl rfl (cap := []) rfl rfl en82 (slices_Concat_int64_ok F r6.1 A8 n9 c10 hn11 _ _ hc15 (hs.rdM (i := 2) rfl)) ?_; clear hf
   rintro _ w ⟨A16, n17, c18, rfl, hn19, hs1⟩ a hf
   have hs : St [] W w [.blk b1 52 [.int .i64 ag.Events, .slice af ag.Places.length ai], .blk b2 54 [.int .i64 ao.Period, .slice am ao.Starts.length aq], .mat A8 n9 c10 23 2 vs12 r6.1, .row A16 n17 c18 2 1 (ints r14)] := hs.join hs1
   clear hs1
   obtain ⟨r20, hc21, hm⟩ := bind_some hm
   refine sCall hf rfl rfl rfl rfl (cap := []) rfl rfl en81 (impl_total_ok F r14 A16 n17 c18 hn19 _ _ hc21 (hs.rd (i := 3) rfl)) ?_; clear hf
   rintro _ w ⟨rfl, hs1⟩ a hf
   have hs : St [] W w [.blk b1 52 [.int .i64 ag.Events, .slice af ag.Places.length ai], .blk b2 54 [.int .i64 ao.Period, .slice am ao.Starts.length aq], .mat A8 n9 c10 23 2 vs12 r6.1, .row A16 n17 c18 2 1 (ints r14)] := hs.ext hs1.below
   clear hs1
   refine sY hf hs rfl rfl rfl (Y_assign rfl rfl) ?_; clear hf; intro a hf
   refine sY hf hs rfl rfl rfl (Y_assign rfl rfl) ?_; clear hf; intro a hf
   refine wpO_nil ?_
   obtain rfl := Option.some.inj hm
   refine wpL_ret (ret_tmp2 rfl hf rfl rfl ?_)
   exact ⟨_, rfl, rfl, hs.sel [] (by decide)⟩

set_option maxRecDepth 100000 in
theorem spec_l07Flat_ok (F : Nat) (aN : List (List Int)) (aO : Option Addr) (bb aV : Nat) (bn : bb = aN.length) (r : List Int) (W : World) (hm : spec_l07Flat F aN = some r) (bo : RdM W aO aN) :
  Calls Try.prog 84 [.slice aO bb aV].toArray W fun e w' => ∃ v, e = .returned v ∧ ∃ A80, ∃ n81, ∃ c82, v = .slice A80 n81 c82 ∧ n81 = r.length ∧ St [] W w' [.row A80 n81 c82 2 1 (ints r)] := by
 subst bn
 unfold spec_l07Flat at hm
 refine Calls.enter (N := 19) Try.func84 rfl rfl rfl (fun a hf => ?_)
 have hs := St.start W
 obtain ⟨w, hw_⟩ : ∃ w, w = W := ⟨W, rfl⟩
 clear hw_ w
 refine wpL_seq <| wpL_region ?_
 refine sY hf hs rfl rfl rfl (Y_assign rfl rfl) ?_; clear hf; intro a hf
 refine wpO_nil <| wpL_seq <| wpL_region ?_
 refine sEmpty hf hs rfl rfl rfl rfl el23 ti2 ?_; clear hf hs; intro a w A1 hs hf
 have hs : St [] W w [.row A1 0 0 2 1 (ints ([] : List Int))] := hs
 refine sY hf hs rfl rfl rfl (Y_assign rfl rfl) ?_; clear hf; intro a hf
 refine wpO_nil <| wpL_seq <| wpL_seq <| wpL_region ?_
 refine sY hf hs rfl rfl rfl (Y_assign rfl rfl) ?_; clear hf; intro a hf
 refine wpO_nil ?_
 obtain ⟨r62, hl63, hm⟩ := bind_some hm
 refine wpL_block (fun a w => ∃ xs57 : List Int, ∃ A58, ∃ n59, ∃ c60, xs57 = r62 ∧ n59 = xs57.length ∧ Fr a 19 [(3, .slice A58 n59 c60)] ∧ St [] W w [.row A58 n59 c60 2 1 (ints xs57)]) ?_ ?_
 ·refine wpL_loop (fun n a w => ∃ xs37 : List Int, ∃ x42 : Int, ∃ A38, ∃ n39, ∃ c40, spec_l07Flat_L1 F aN n xs37 x42 = some r62 ∧ n39 = xs37.length ∧ Fr a 19 [(0, .slice aO aN.length aV), (3, .slice A38 n39 c40), (4, .int .i64 x42)] ∧ St [] W w [.row A38 n39 c40 2 1 (ints xs37)]) F ?_ ?_ ?_
  ·exact ⟨([] : List Int), 0, A1, 0, 0, hl63, rfl, (FrD.pick (FrD.pick (FrD.pick hf.none hf rfl) hf rfl) hf rfl), hs⟩
  ·rintro a w ⟨xs37, x42, A38, n39, c40, h0_, -, -, -⟩; simp [spec_l07Flat_L1] at h0_
  ·rintro n65 a w ⟨xs37, x42, A38, n39, c40, hm64, hn41, hf, hs⟩
   rw [spec_l07Flat_L1] at hm64
   refine wpL_seq <| wpL_seq <| wpL_region ?_
   refine sY hf hs rfl rfl rfl (Y_move rfl rfl) ?_; clear hf; intro a hf
   refine sY hf hs rfl rfl rfl (Y_move rfl rfl) ?_; clear hf; intro a hf
   refine sY hf hs rfl rfl rfl (Y_lenH rfl rfl el59 rfl) ?_; clear hf; intro a hf
   refine sY hf hs rfl rfl rfl (Y_lss rfl rfl rfl) ?_; clear hf; intro a hf
   refine wpO_nil ?_
   refine wpL_cond hf rfl (fun hb66 => ?_) (fun hb66 => ?_)
   ·have hm64 := bif_t hm64 hb66
    refine wpL_skip <| wpL_seq <| wpL_block0 <| wpL_region ?_
    refine sY hf hs rfl rfl rfl (Y_move rfl rfl) ?_; clear hf; intro a hf
    refine sY hf hs rfl rfl rfl (Y_move rfl rfl) ?_; clear hf; intro a hf
    refine sY hf hs rfl rfl rfl (Y_move rfl rfl) ?_; clear hf; intro a hf
    obtain ⟨q67, hi68, hm64⟩ := bind_some hm64
    obtain ⟨hi68a, hi68b, hi68q⟩ := idx_some hi68
    obtain ⟨vs69, hv70, hr71⟩ := id bo
    obtain ⟨A72, c73, hv74, hR75⟩ := hr71 _ _ hi68q
    refine sY hf hs rfl rfl rfl (Y_index rfl rfl rfl el59 ti23 (Rd.isAt hv70 hv74) hi68a hi68b) ?_; clear hf; intro a hf
    refine sY hf hs rfl rfl rfl (Y_load_rd rfl rfl (fun w hs => hv70.at hs) (at1 hv74) ag23) ?_; clear hf; intro a hf
    obtain ⟨xs78, ha79, hm64⟩ := bind_some hm64
    refine sAppendG (i := 0) (xs := xs37) (ys := q67) (enc := ints) hf hs rfl rfl rfl rfl rfl rfl hn41 rfl rfl ha79 el23 ti2 rfl rfl rfl (hR75.at hs) ints_len1 ints_append ints_one ?_; clear hf hs; intro a w A76 c77 hs hf
    have hs : St [] W w [.row A76 xs78.length c77 2 1 (ints xs78)] := hs
    refine sY hf hs rfl rfl rfl (Y_assign rfl rfl) ?_; clear hf; intro a hf
    refine wpO_nil ?_
    refine wpL_nil (Qb_normal ?_)
    refine wpL_region ?_
    refine sY hf hs rfl rfl rfl (Y_move rfl rfl) ?_; clear hf; intro a hf
    refine sY hf hs rfl rfl rfl (Y_add rfl rfl rfl) ?_; clear hf; intro a hf
    refine sY hf hs rfl rfl rfl (Y_assign rfl rfl) ?_; clear hf; intro a hf
    refine wpO_nil ?_
    refine wpL_nil (Ql_normal ?_)
    exact ⟨xs78, (IntKind.i64.wrap (x42 + 1)), A76, xs78.length, c77, hm64, rfl, (FrD.pick (FrD.pick (FrD.pick hf.none hf rfl) hf rfl) hf rfl), hs⟩
   ·have hm64 := bif_f hm64 hb66
    refine wpL_exit (Ql_exit (Qb_exit ?_))
    exact ⟨xs37, A38, n39, c40, Option.some.inj hm64, hn41, (FrD.pick hf.none hf rfl), hs⟩
 ·rintro a w ⟨xs57, A58, n59, c60, hr_, hn61, hf, hs⟩
  subst hr_
  try dsimp only at hm
  refine wpL_seq <| wpL_region ?_
  refine sY hf hs rfl rfl rfl (Y_move rfl rfl) ?_; clear hf; intro a hf
  refine sY hf hs rfl rfl rfl (Y_assign rfl rfl) ?_; clear hf; intro a hf
  refine wpO_nil ?_
  obtain rfl := Option.some.inj hm
  refine wpL_ret (ret_tmp rfl hf rfl ?_)
  exact ⟨_, rfl, A58, n59, c60, rfl, hn61, hs⟩

set_option maxRecDepth 100000 in
theorem spec_TotalDelay_ok (F : Nat) (ag : GEventGraph) (af : Option Addr) (av ai : Nat) (aA : av = ag.Places.length) (ao : GTimetable) (am : Option Addr) (aG aq : Nat) (aS : aG = ao.Starts.length) (az : List Int) (aC : Option Addr) (aI aD : Nat) (aT : aI = az.length) (r : Int × Int) (W : World) (hm : spec_TotalDelay F ag ao az = some r) (aw : Rd W af ((recs GPlace.cells) ag.Places)) (aH : Rd W am (ints ao.Starts)) (aP : Rd W aC (ints az)) :
  Calls Try.prog 36 [.agg #[.int .i64 ag.Events, .slice af av ai], .agg #[.int .i64 ao.Period, .slice am aG aq], .slice aC aI aD].toArray W fun e w' => ∃ v, e = .returned v ∧ v = .tuple #[.int .i64 r.1, .int .i64 r.2] ∧ St [] W w' [] := by
 subst aA
 subst aS
 subst aT
 unfold spec_TotalDelay at hm
 refine Calls.enter (N := 32) Try.func36 rfl rfl rfl (fun a hf => ?_)
 have hs := St.start W
 obtain ⟨w, hw_⟩ : ∃ w, w = W := ⟨W, rfl⟩
 clear hw_ w
 refine wpL_seq <| wpL_region ?_
 refine sBox hf hs rfl rfl rfl rfl rfl (cs := [.int .i64 ag.Events, .slice af ag.Places.length ai]) rfl ?_; clear hf hs; intro a w b1 hs hf
 have hs : St [] W w [.blk b1 52 [.int .i64 ag.Events, .slice af ag.Places.length ai]] := hs
 refine sBox hf hs rfl rfl rfl rfl rfl (cs := [.int .i64 ao.Period, .slice am ao.Starts.length aq]) rfl ?_; clear hf hs; intro a w b2 hs hf
 have hs : St [] W w [.blk b1 52 [.int .i64 ag.Events, .slice af ag.Places.length ai], .blk b2 54 [.int .i64 ao.Period, .slice am ao.Starts.length aq]] := hs
 refine sY hf hs rfl rfl rfl (Y_assign rfl rfl) ?_; clear hf; intro a hf
 refine sY hf hs rfl rfl rfl (Y_assign rfl rfl) ?_; clear hf; intro a hf
 refine wpO_nil <| wpL_seq <| wpL_region ?_
 refine sY hf hs rfl rfl rfl (Y_load_blkS rfl rfl (i := 0) rfl ag52 ti52 rfl) ?_; clear hf; intro a hf
 refine sY hf hs rfl rfl rfl (Y_load_blkS rfl rfl (i := 1) rfl ag54 ti54 rfl) ?_; clear hf; intro a hf
 refine sY hf hs rfl rfl rfl (Y_move rfl rfl) ?_; clear hf; intro a hf
 obtain ⟨r3, hc4, hm⟩ := bind_some hm
 refine sCall hf rfl rfl rfl rfl (cap := []) rfl rfl en79 (spec_l21Code_ok F ag af ag.Places.length ai rfl ao am ao.Starts.length aq rfl az aC az.length aD rfl true _ _ hc4 (aw.at hs) (aH.at hs) (aP.at hs)) ?_; clear hf
 rintro _ w ⟨rfl, hs1⟩ a hf
 have hs : St [] W w [.blk b1 52 [.int .i64 ag.Events, .slice af ag.Places.length ai], .blk b2 54 [.int .i64 ao.Period, .slice am ao.Starts.length aq]] := hs.ext hs1.below
 clear hs1
 refine sY hf hs rfl rfl rfl (Y_assign rfl rfl) ?_; clear hf; intro a hf
 refine wpO_nil <| wpL_seq <| wpL_seq <| wpL_region ?_
 refine sY hf hs rfl rfl rfl (Y_move rfl rfl) ?_; clear hf; intro a hf
 refine sY hf hs rfl rfl rfl (Y_neq rfl rfl rfl) ?_; clear hf; intro a hf
 refine wpO_nil ?_
 refine wpL_cond hf rfl (fun hb5 => ?_) (fun hb5 => ?_)
 ·have hm := bif_t hm hb5
  refine wpL_seq <| wpL_region ?_
  refine sY hf hs rfl rfl rfl (Y_move rfl rfl) ?_; clear hf; intro a hf
  refine sY hf hs rfl rfl rfl (Y_assign rfl rfl) ?_; clear hf; intro a hf
  refine sY hf hs rfl rfl rfl (Y_assign rfl rfl) ?_; clear hf; intro a hf
  refine wpO_nil ?_
  obtain rfl := Option.some.inj hm
  refine wpL_ret (ret_tmp2 rfl hf rfl rfl ?_)
  exact ⟨_, rfl, rfl, hs.sel [] (by decide)⟩
 ·have hm := bif_f hm hb5
  refine wpL_skip <| wpL_seq <| wpL_region ?_
  refine sY hf hs rfl rfl rfl (Y_load_blkS rfl rfl (i := 0) rfl ag52 ti52 rfl) ?_; clear hf; intro a hf
  refine sY hf hs rfl rfl rfl (Y_load_blkS rfl rfl (i := 1) rfl ag54 ti54 rfl) ?_; clear hf; intro a hf
  refine sY hf hs rfl rfl rfl (Y_move rfl rfl) ?_; clear hf; intro a hf
  obtain ⟨r6, hc7, hm⟩ := bind_some hm
  refine sCall hf rfl rfl rfl rfl (cap := []) rfl rfl en80 (spec_l21Settled_ok F ag af ag.Places.length ai rfl ao am ao.Starts.length aq rfl az aC az.length aD rfl _ _ hc7 (aw.at hs) (aH.at hs) (aP.at hs)) ?_; clear hf
  rintro _ w ⟨A8, n9, c10, vs12, rfl, hn11, hs1⟩ a hf
  have hs : St [] W w [.blk b1 52 [.int .i64 ag.Events, .slice af ag.Places.length ai], .blk b2 54 [.int .i64 ao.Period, .slice am ao.Starts.length aq], .mat A8 n9 c10 23 2 vs12 r6.1] := hs.join hs1
  clear hs1
  refine sY hf hs rfl rfl rfl (Y_move rfl rfl) ?_; clear hf; intro a hf
  refine sY hf hs rfl rfl rfl (Y_extract rfl rfl rfl) ?_; clear hf; intro a hf
  refine sY hf hs rfl rfl rfl (Y_extract rfl rfl rfl) ?_; clear hf; intro a hf
  refine sY hf hs rfl rfl rfl (Y_extract rfl rfl rfl) ?_; clear hf; intro a hf
  refine sY hf hs rfl rfl rfl (Y_assign rfl rfl) ?_; clear hf; intro a hf
  refine sY hf hs rfl rfl rfl (Y_assign rfl rfl) ?_; clear hf; intro a hf
  refine sY hf hs rfl rfl rfl (Y_assign rfl rfl) ?_; clear hf; intro a hf
  refine wpO_nil <| wpL_seq <| wpL_seq <| wpL_region ?_
  refine sY hf hs rfl rfl rfl (Y_move rfl rfl) ?_; clear hf; intro a hf
  refine sY hf hs rfl rfl rfl (Y_not rfl rfl) ?_; clear hf; intro a hf
  refine wpO_nil ?_
  refine wpL_cond hf rfl (fun hb13 => ?_) (fun hb13 => ?_)
  ·have hm := bif_t hm hb13
   refine wpL_seq <| wpL_region ?_
   refine sY hf hs rfl rfl rfl (Y_assign rfl rfl) ?_; clear hf; intro a hf
   refine sY hf hs rfl rfl rfl (Y_assign rfl rfl) ?_; clear hf; intro a hf
   refine wpO_nil ?_
   obtain rfl := Option.some.inj hm
   refine wpL_ret (ret_tmp2 rfl hf rfl rfl ?_)
   exact ⟨_, rfl, rfl, hs.sel [] (by decide)⟩
  ·have hm := bif_f hm hb13
   refine wpL_skip <| wpL_seq <| wpL_region ?_
   refine sY hf hs rfl rfl rfl (Y_move rfl rfl) ?_; clear hf; intro a hf
   obtain ⟨r14, hc15, hm⟩ := bind_some hm
   refine sCall hf rfl rfl rfl rfl (cap := []) rfl rfl en84 (spec_l07Flat_ok F r6.1 A8 n9 c10 hn11 _ _ hc15 (hs.rdM (i := 2) rfl)) ?_; clear hf
   rintro _ w ⟨A16, n17, c18, rfl, hn19, hs1⟩ a hf
   have hs : St [] W w [.blk b1 52 [.int .i64 ag.Events, .slice af ag.Places.length ai], .blk b2 54 [.int .i64 ao.Period, .slice am ao.Starts.length aq], .mat A8 n9 c10 23 2 vs12 r6.1, .row A16 n17 c18 2 1 (ints r14)] := hs.join hs1
   clear hs1
   obtain ⟨r20, hc21, hm⟩ := bind_some hm
   refine sCall hf rfl rfl rfl rfl (cap := []) rfl rfl en83 (spec_l16Sum_ok F r14 A16 n17 c18 hn19 _ _ hc21 (hs.rd (i := 3) rfl)) ?_; clear hf
   rintro _ w ⟨rfl, hs1⟩ a hf
   have hs : St [] W w [.blk b1 52 [.int .i64 ag.Events, .slice af ag.Places.length ai], .blk b2 54 [.int .i64 ao.Period, .slice am ao.Starts.length aq], .mat A8 n9 c10 23 2 vs12 r6.1, .row A16 n17 c18 2 1 (ints r14)] := hs.ext hs1.below
   clear hs1
   refine sY hf hs rfl rfl rfl (Y_assign rfl rfl) ?_; clear hf; intro a hf
   refine sY hf hs rfl rfl rfl (Y_assign rfl rfl) ?_; clear hf; intro a hf
   refine wpO_nil ?_
   obtain rfl := Option.some.inj hm
   refine wpL_ret (ret_tmp2 rfl hf rfl rfl ?_)
   exact ⟨_, rfl, rfl, hs.sel [] (by decide)⟩

end Go.Proofs.Ytebmlphobgaboaa
