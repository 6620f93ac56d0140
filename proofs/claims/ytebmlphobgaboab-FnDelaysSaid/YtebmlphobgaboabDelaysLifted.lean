/- The functions do what their models say. -/
import Derived.Test.YtebmlphobgaboabDelaysLifted5
import Derived.Test.YtebmlphobgaboabRows
namespace Go.Proofs.Ytebmlphobgaboab
open Go.RowKit

set_option maxRecDepth 100000 in
theorem spec_WorstDelays_ok (F : Nat) (ah : GEventGraph) (ag : Option Addr) (ax ai : Nat) (aB : ax = ah.Places.length) (ap : GTimetable) (ao : Option Addr) (aJ aq : Nat) (aQ : aJ = ap.Starts.length) (aD : List Int) (aE : Option Addr) (aN aI : Nat) (aU : aN = aD.length) (r : List Int × Int) (W : World) (hm : spec_WorstDelays F ah ap aD = some r) (ay : Rd W ag ((recs GPlace.cells) ah.Places)) (aM : Rd W ao (ints ap.Starts)) (aR : Rd W aE (ints aD)) :
  Calls Try.prog 61 [.agg #[.int .i64 ah.Events, .slice ag ax ai], .agg #[.int .i64 ap.Period, .slice ao aJ aq], .slice aE aN aI].toArray W fun e w' => ∃ v, e = .returned v ∧ ∃ A307, ∃ n308, ∃ c309, v = .tuple #[.slice A307 n308 c309, .int .i64 r.2] ∧ n308 = r.1.length ∧ St [] W w' [.row A307 n308 c309 2 1 (ints r.1)] := by
 subst aB
 subst aQ
 subst aU
 unfold spec_WorstDelays at hm
 refine Calls.enter (N := 63) Try.func61 rfl rfl rfl (fun a hf => ?_)
 have hs := St.start W
 obtain ⟨w, hw_⟩ : ∃ w, w = W := ⟨W, rfl⟩
 clear hw_ w
 refine wpL_seq <| wpL_region ?_
 refine sBox hf hs rfl rfl rfl rfl rfl (cs := [.int .i64 ah.Events, .slice ag ah.Places.length ai]) rfl ?_; clear hf hs; intro a w b1 hs hf
 have hs : St _ W w [.blk b1 55 [.int .i64 ah.Events, .slice ag ah.Places.length ai]] := hs
 refine sBox hf hs rfl rfl rfl rfl rfl (cs := [.int .i64 ap.Period, .slice ao ap.Starts.length aq]) rfl ?_; clear hf hs; intro a w b2 hs hf
 have hs : St _ W w [_, .blk b2 66 [.int .i64 ap.Period, .slice ao ap.Starts.length aq]] := hs
 refine sY hf hs rfl rfl rfl (Y_assign rfl rfl) ?_; clear hf; intro a hf
 refine sY hf hs rfl rfl rfl (Y_assign rfl rfl) ?_; clear hf; intro a hf
 refine wpO_nil <| wpL_seq <| wpL_region ?_
 refine sY hf hs rfl rfl rfl (Y_load_blkS rfl rfl (i := 0) rfl ag55 ti55 rfl) ?_; clear hf; intro a hf
 refine sY hf hs rfl rfl rfl (Y_load_blkS rfl rfl (i := 1) rfl ag66 ti66 rfl) ?_; clear hf; intro a hf
 refine sY hf hs rfl rfl rfl (Y_move rfl rfl) ?_; clear hf; intro a hf
 obtain ⟨r3, hc4, hm⟩ := bind_some hm
 refine sCall hf rfl rfl rfl rfl (cap := []) rfl rfl en131 (spec_l21Code_ok F ah ag ah.Places.length ai rfl ap ao ap.Starts.length aq rfl aD aE aD.length aI rfl true _ _ hc4 (ay.at hs) (aM.at hs) (aR.at hs)) ?_; clear hf
 rintro _ w ⟨rfl, hs1⟩ a hf
 have hs : St _ W w [_, _] := hs.ext hs1.below
 clear hs1
 refine sY hf hs rfl rfl rfl (Y_assign rfl rfl) ?_; clear hf; intro a hf
 refine wpO_nil <| wpL_seq <| wpL_seq <| wpL_region ?_
 refine sY hf hs rfl rfl rfl (Y_move rfl rfl) ?_; clear hf; intro a hf
 refine sY hf hs rfl rfl rfl (Y_neq rfl rfl rfl) ?_; clear hf; intro a hf
 refine wpO_nil ?_
 refine wpL_cond hf rfl (fun hb5 => ?_) (fun hb5 => ?_)
 ·have hm := bif_t hm hb5
  refine wpL_seq <| wpL_region ?_
  refine sY hf hs rfl rfl rfl (Y_move rfl rfl) ?_; clear hf; intro a hf
  refine sY hf hs rfl rfl rfl (Y_assign rfl rfl) ?_; clear hf; intro a hf
  refine sY hf hs rfl rfl rfl (Y_assign rfl rfl) ?_; clear hf; intro a hf
  refine wpO_nil ?_
  have hs : St [] W _ [.blk b1 55 [.int .i64 ah.Events, .slice ag ah.Places.length ai], .blk b2 66 [.int .i64 ap.Period, .slice ao ap.Starts.length aq], .row none 0 0 2 1 (ints ([] : List Int))] := hs.addNil 2 1
  obtain rfl := Option.some.inj hm
  refine wpL_ret (ret_tmp2 rfl hf rfl rfl ?_)
  exact ⟨_, rfl, none, 0, 0, rfl, rfl, hs.sel [2] (by decide)⟩
 ·have hm := bif_f hm hb5
  refine wpL_skip <| wpL_seq <| wpL_region ?_
  refine sY hf hs rfl rfl rfl (Y_load_blkS rfl rfl (i := 0) rfl ag55 ti55 rfl) ?_; clear hf; intro a hf
  refine sY hf hs rfl rfl rfl (Y_load_blkS rfl rfl (i := 1) rfl ag66 ti66 rfl) ?_; clear hf; intro a hf
  refine sY hf hs rfl rfl rfl (Y_move rfl rfl) ?_; clear hf; intro a hf
  obtain ⟨r7, hc8, hm⟩ := bind_some hm
  refine sCall hf rfl rfl rfl rfl (cap := []) rfl rfl en135 (spec_l21Settled_ok F ah ag ah.Places.length ai rfl ap ao ap.Starts.length aq rfl aD aE aD.length aI rfl _ _ hc8 (ay.at hs) (aM.at hs) (aR.at hs)) ?_; clear hf
  rintro _ w ⟨A9, n10, c11, vs13, rfl, hn12, hs1⟩ a hf
  have hs : St _ W w [_, _, .mat A9 n10 c11 28 2 vs13 r7.1] := hs.join hs1
  clear hs1
  refine sY hf hs rfl rfl rfl (Y_move rfl rfl) ?_; clear hf; intro a hf
  refine sY hf hs rfl rfl rfl (Y_extract rfl rfl rfl) ?_; clear hf; intro a hf
  refine sY hf hs rfl rfl rfl (Y_extract rfl rfl rfl) ?_; clear hf; intro a hf
  refine sY hf hs rfl rfl rfl (Y_extract rfl rfl rfl) ?_; clear hf; intro a hf
  refine sY hf hs rfl rfl rfl (Y_assign rfl rfl) ?_; clear hf; intro a hf
  refine sY hf hs rfl rfl rfl (Y_assign rfl rfl) ?_; clear hf; intro a hf
  refine sY hf hs rfl rfl rfl (Y_assign rfl rfl) ?_; clear hf; intro a hf
  refine wpO_nil <| wpL_seq <| wpL_seq <| wpL_region ?_
  refine sY hf hs rfl rfl rfl (Y_move rfl rfl) ?_; clear hf; intro a hf
  refine sY hf hs rfl rfl rfl (Y_not rfl rfl) ?_; clear hf; intro a hf
  refine wpO_nil ?_
  refine wpL_cond hf rfl (fun hb14 => ?_) (fun hb14 => ?_)
  ·have hm := bif_t hm hb14
   refine wpL_seq <| wpL_region ?_
   refine sY hf hs rfl rfl rfl (Y_assign rfl rfl) ?_; clear hf; intro a hf
   refine sY hf hs rfl rfl rfl (Y_assign rfl rfl) ?_; clear hf; intro a hf
   refine wpO_nil ?_
   have hs : St [] W _ [.blk b1 55 [.int .i64 ah.Events, .slice ag ah.Places.length ai], .blk b2 66 [.int .i64 ap.Period, .slice ao ap.Starts.length aq], .mat A9 n10 c11 28 2 vs13 r7.1, .row none 0 0 2 1 (ints ([] : List Int))] := hs.addNil 2 1
   obtain rfl := Option.some.inj hm
   refine wpL_ret (ret_tmp2 rfl hf rfl rfl ?_)
   exact ⟨_, rfl, none, 0, 0, rfl, rfl, hs.sel [3] (by decide)⟩
  ·have hm := bif_f hm hb14
   refine wpL_skip <| wpL_seq <| wpL_region ?_
   refine sY hf hs rfl rfl rfl (Y_fieldAddr rfl rfl fo55_0) ?_; clear hf; intro a hf
   refine sY hf hs rfl rfl rfl (Y_load_blk rfl rfl (i := 0) rfl rfl ag2) ?_; clear hf; intro a hf
   obtain ⟨xs18, hk17, hm⟩ := bind_some hm
   refine sMakeL (enc := ints) hf hs rfl rfl rfl rfl rfl hk17 el28 ti2 rfl ints_made ?_; clear hf hs; intro a w A16 hs hf
   have hs : St _ W w [_, _, _, .row A16 xs18.length xs18.length 2 1 (ints xs18)] := hs
   refine sY hf hs rfl rfl rfl (Y_assign rfl rfl) ?_; clear hf; intro a hf
   refine wpO_nil <| wpL_seq <| wpL_seq <| wpL_region ?_
   refine sY hf hs rfl rfl rfl (Y_assign rfl rfl) ?_; clear hf; intro a hf
   refine wpO_nil ?_
   obtain ⟨r234, hl235, hm⟩ := bind_some hm
   refine wpL_block (fun a w => ∃ xs232 : List Int, xs232 = r234 ∧ xs18.length = xs232.length ∧ Fr a 63 [(12, .slice A16 xs18.length xs18.length)] ∧ St [] W w [.row A16 xs18.length xs18.length 2 1 (ints xs232)]) ?_ ?_
   ·refine wpL_loop (fun n a w => ∃ xs160 : List Int, ∃ x162 : Int, spec_WorstDelays_L4 F r7 n xs160 x162 = some r234 ∧ xs18.length = xs160.length ∧ Fr a 63 [(9, .slice A9 n10 c11), (12, .slice A16 xs18.length xs18.length), (13, .int .i64 x162)] ∧ St [] W w [.mat A9 n10 c11 28 2 vs13 r7.1, .row A16 xs18.length xs18.length 2 1 (ints xs160)]) F ?_ ?_ ?_
    ·exact ⟨xs18, 0, hl235, rfl, (FrD.pick (FrD.pick (FrD.pick hf.none hf rfl) hf rfl) hf rfl), hs.sel [2, 3] (by decide)⟩
    ·rintro a w ⟨xs160, x162, h0_, -, -, -⟩; simp [spec_WorstDelays_L4] at h0_
    ·rintro n237 a w ⟨xs160, x162, hm236, hn161, hf, hs⟩
     rw [spec_WorstDelays_L4] at hm236
     refine wpL_seq <| wpL_seq <| wpL_region ?_
     refine sY hf hs rfl rfl rfl (Y_move rfl rfl) ?_; clear hf; intro a hf
     refine sY hf hs rfl rfl rfl (Y_move rfl rfl) ?_; clear hf; intro a hf
     refine sY hf hs rfl rfl rfl (Y_lenH rfl rfl el40 hn12) ?_; clear hf; intro a hf
     refine sY hf hs rfl rfl rfl (Y_lss rfl rfl rfl) ?_; clear hf; intro a hf
     refine wpO_nil ?_
     refine wpL_cond hf rfl (fun hb238 => ?_) (fun hb238 => ?_)
     ·have hm236 := bif_t hm236 hb238
      refine wpL_skip <| wpL_seq <| wpL_block0 <| wpL_seq <| wpL_region ?_
      refine sY hf hs rfl rfl rfl (Y_assign rfl rfl) ?_; clear hf; intro a hf
      refine wpO_nil ?_
      obtain ⟨r289, hl290, hm236⟩ := bind_some hm236
      refine wpL_block (fun a w => ∃ xs287 : List Int, xs287 = r289 ∧ xs18.length = xs287.length ∧ Fr a 63 [(9, .slice A9 n10 c11), (12, .slice A16 xs18.length xs18.length), (13, .int .i64 x162)] ∧ St [] W w [.mat A9 n10 c11 28 2 vs13 r7.1, .row A16 xs18.length xs18.length 2 1 (ints xs287)]) ?_ ?_
      ·refine wpL_loop (fun n a w => ∃ xs270 : List Int, ∃ x272 : Int, spec_WorstDelays_L5 F r7 x162 n xs270 x272 = some r289 ∧ xs18.length = xs270.length ∧ Fr a 63 [(9, .slice A9 n10 c11), (12, .slice A16 xs18.length xs18.length), (13, .int .i64 x162), (14, .int .i64 x272)] ∧ St [] W w [.mat A9 n10 c11 28 2 vs13 r7.1, .row A16 xs18.length xs18.length 2 1 (ints xs270)]) F ?_ ?_ ?_
       ·exact ⟨xs160, 0, hl290, hn161, (FrD.pick (FrD.pick (FrD.pick (FrD.pick hf.none hf rfl) hf rfl) hf rfl) hf rfl), hs⟩
       ·rintro a w ⟨xs270, x272, h0_, -, -, -⟩; simp [spec_WorstDelays_L5] at h0_
       ·rintro n292 a w ⟨xs270, x272, hm291, hn271, hf, hs⟩
        rw [spec_WorstDelays_L5] at hm291
        refine wpL_seq <| wpL_seq <| wpL_region ?_
        refine sY hf hs rfl rfl rfl (Y_move rfl rfl) ?_; clear hf; intro a hf
        refine sY hf hs rfl rfl rfl (Y_move rfl rfl) ?_; clear hf; intro a hf
        refine sY hf hs rfl rfl rfl (Y_lenH rfl rfl el28 hn271) ?_; clear hf; intro a hf
        refine sY hf hs rfl rfl rfl (Y_lss rfl rfl rfl) ?_; clear hf; intro a hf
        refine wpO_nil ?_
        refine wpL_cond hf rfl (fun hb293 => ?_) (fun hb293 => ?_)
        ·have hm291 := bif_t hm291 hb293
         refine wpL_skip <| wpL_seq <| wpL_block0 ?_
         refine wpL_drawM [.mat A9 n10 c11 28 2 vs13 r7.1, .row A16 xs18.length xs18.length 2 1 (ints xs270)] [15] (by kernel_rfl) hs ?_; clear hs; intro w hs
         have hs0 : St _ W w [_, _] := hs
         refine mYp (i := 0) rfl (by kernel_rfl) (by kernel_rfl) hf rfl rfl rfl (fun _ => Y_move rfl rfl) ?_; clear hf; intro a hf
         refine mYp (i := 1) rfl (by kernel_rfl) (by kernel_rfl) hf rfl rfl rfl (fun _ => Y_move rfl rfl) ?_; clear hf; intro a hf
         refine mYp (i := 2) rfl (by kernel_rfl) (by kernel_rfl) hf rfl rfl rfl (fun _ => Y_move rfl rfl) ?_; clear hf; intro a hf
         refine mYp (i := 3) rfl (by kernel_rfl) (by kernel_rfl) hf rfl rfl rfl (fun _ => Y_move rfl rfl) ?_; clear hf; intro a hf
         obtain ⟨q294, hi295, hm291⟩ := bind_some hm291
         obtain ⟨hi295a, hi295b, hi295q⟩ := idx_some hi295
         refine mYp (i := 4) rfl (by kernel_rfl) (by kernel_rfl) hf rfl rfl rfl (fun _ => Y_index rfl rfl rfl el28 ti2 (Rd.isAt (hs.rd (i := 1) rfl) (at1 (ints_at hi295q))) hi295a (ltn hn271 hi295b)) ?_; clear hf; intro a hf
         refine mY (i := 5) [[]] rfl (by kernel_rfl) (by kernel_rfl) hf hs0 rfl rfl rfl (Y_load_rd rfl rfl (fun w hs => hs.rd (i := 1) rfl) (at1 (ints_at hi295q)) ag2) ?_; clear hf; intro a hf
         refine mYp (i := 6) rfl (by kernel_rfl) (by kernel_rfl) hf rfl rfl rfl (fun _ => Y_move rfl rfl) ?_; clear hf; intro a hf
         refine mYp (i := 7) rfl (by kernel_rfl) (by kernel_rfl) hf rfl rfl rfl (fun _ => Y_move rfl rfl) ?_; clear hf; intro a hf
         obtain ⟨q296, hi297, hm291⟩ := bind_some hm291
         obtain ⟨hi297a, hi297b, hi297q⟩ := idx_some hi297
         obtain ⟨A298, c299, hv300⟩ := hs.matRow (i := 0) rfl hi297q
         refine mYp (i := 8) rfl (by kernel_rfl) (by kernel_rfl) hf rfl rfl rfl (fun _ => Y_index rfl rfl rfl el40 ti28 (Rd.isAt (hs.rdV (i := 0) rfl) hv300) hi297a (ltn hn12 hi297b)) ?_; clear hf; intro a hf
         refine mY (i := 9) [[]] rfl (by kernel_rfl) (by kernel_rfl) hf hs0 rfl rfl rfl (Y_load_rd rfl rfl (fun w hs => hs.rdV (i := 0) rfl) (at1 hv300) ag28) ?_; clear hf; intro a hf
         refine mYp (i := 10) rfl (by kernel_rfl) (by kernel_rfl) hf rfl rfl rfl (fun _ => Y_move rfl rfl) ?_; clear hf; intro a hf
         obtain ⟨q301, hi302, hm291⟩ := bind_some hm291
         obtain ⟨hi302a, hi302b, hi302q⟩ := idx_some hi302
         refine mYp (i := 11) rfl (by kernel_rfl) (by kernel_rfl) hf rfl rfl rfl (fun _ => Y_index rfl rfl rfl el28 ti2 (Rd.isAt (hs.rdRow (i := 0) rfl ⟨hi297q, hv300⟩) (at1 (ints_at hi302q))) hi302a hi302b) ?_; clear hf; intro a hf
         refine mY (i := 12) [[]] rfl (by kernel_rfl) (by kernel_rfl) hf hs0 rfl rfl rfl (Y_load_rd rfl rfl (fun w hs => hs.rdRow (i := 0) rfl ⟨hi297q, hv300⟩) (at1 (ints_at hi302q)) ag2) ?_; clear hf; intro a hf
         refine mYp (i := 13) rfl (by kernel_rfl) (by kernel_rfl) hf rfl rfl rfl (fun _ => Y_max rfl rfl rfl) ?_; clear hf; intro a hf
         obtain ⟨q303, hi304, hm291⟩ := bind_some hm291
         obtain ⟨hi304a, hi304b, hi304q⟩ := idx_some hi304
         refine mYp (i := 14) rfl (by kernel_rfl) (by kernel_rfl) hf rfl rfl rfl (fun _ => Y_index rfl rfl rfl el28 ti2 (Rd.isAt (hs.rd (i := 1) rfl) (at1 (ints_at hi304q))) hi304a (ltn hn271 hi304b)) ?_; clear hf; intro a hf
         refine mRun (i := 15) rfl (by kernel_rfl) ?_
         obtain ⟨xs305, hu306, hm291⟩ := bind_some hm291
         refine sStoreL (i := 1) (us := [.int .i64 (max q294 q301)]) (enc := ints) hf hs rfl rfl rfl rfl rfl rfl hn271 hu306 ti2 rfl rfl rfl rfl rfl ints_len1 (ints_set (max q294 q301)) ?_; clear hs; intro w hs
         have hs : St _ W w [_, .row A16 xs18.length xs18.length 2 1 (ints xs305)] := hs
         refine wpO_nil ⟨Or.inl (by decide), ?_⟩
         refine mDone (by kernel_rfl) ?_
         clear hs0
         refine wpL_nil (Qb_normal ?_)
         refine wpL_region ?_
         refine sY hf hs rfl rfl rfl (Y_move rfl rfl) ?_; clear hf; intro a hf
         refine sY hf hs rfl rfl rfl (Y_add rfl rfl rfl) ?_; clear hf; intro a hf
         refine sY hf hs rfl rfl rfl (Y_assign rfl rfl) ?_; clear hf; intro a hf
         refine wpO_nil ?_
         refine wpL_nil (Ql_normal ?_)
         exact ⟨xs305, (IntKind.i64.wrap (x272 + 1)), hm291, ((hn271).trans (upd_len hu306).symm), (FrD.pick (FrD.pick (FrD.pick (FrD.pick hf.none hf rfl) hf rfl) hf rfl) hf rfl), hs⟩
        ·have hm291 := bif_f hm291 hb293
         refine wpL_exit (Ql_exit (Qb_exit ?_))
         exact ⟨xs270, Option.some.inj hm291, hn271, (FrD.pick (FrD.pick (FrD.pick hf.none hf rfl) hf rfl) hf rfl), hs⟩
      ·rintro a w ⟨xs287, hr_, hn288, hf, hs⟩
       subst hr_
       try dsimp only at hm236
       refine wpL_nil (Qb_normal ?_)
       refine wpL_region ?_
       refine sY hf hs rfl rfl rfl (Y_move rfl rfl) ?_; clear hf; intro a hf
       refine sY hf hs rfl rfl rfl (Y_add rfl rfl rfl) ?_; clear hf; intro a hf
       refine sY hf hs rfl rfl rfl (Y_assign rfl rfl) ?_; clear hf; intro a hf
       refine wpO_nil ?_
       refine wpL_nil (Ql_normal ?_)
       exact ⟨xs287, (IntKind.i64.wrap (x162 + 1)), hm236, hn288, (FrD.pick (FrD.pick (FrD.pick hf.none hf rfl) hf rfl) hf rfl), hs⟩
     ·have hm236 := bif_f hm236 hb238
      refine wpL_exit (Ql_exit (Qb_exit ?_))
      exact ⟨xs160, Option.some.inj hm236, hn161, (FrD.pick hf.none hf rfl), hs.sel [1] (by decide)⟩
   ·rintro a w ⟨xs232, hr_, hn233, hf, hs⟩
    subst hr_
    try dsimp only at hm
    refine wpL_seq <| wpL_region ?_
    refine sY hf hs rfl rfl rfl (Y_move rfl rfl) ?_; clear hf; intro a hf
    refine sY hf hs rfl rfl rfl (Y_assign rfl rfl) ?_; clear hf; intro a hf
    refine sY hf hs rfl rfl rfl (Y_assign rfl rfl) ?_; clear hf; intro a hf
    refine wpO_nil ?_
    obtain rfl := Option.some.inj hm
    refine wpL_ret (ret_tmp2 rfl hf rfl rfl ?_)
    exact ⟨_, rfl, A16, xs18.length, xs18.length, rfl, hn233, hs⟩

set_option maxRecDepth 100000 in
theorem laws_likeInts_ok (F : Nat) (aK : List Int) (aH : Option Addr) (aT aP : Nat) (bj : aT = aK.length) (aY : List Int) (ba : Option Addr) (bu bp : Nat) (bL : bu = aY.length) (r : Bool) (W : World) (hm : laws_likeInts F aK aY = some r) (bb : Rd W aH (ints aK)) (bH : Rd W ba (ints aY)) :
  Calls Try.prog 21 [.slice aH aT aP, .slice ba bu bp].toArray W fun e w' => ∃ v, e = .returned v ∧ v = .bool r ∧ St [] W w' [] := by
 subst bj
 subst bL
 unfold laws_likeInts at hm
 refine Calls.enter (N := 26) Try.func21 rfl rfl rfl (fun a hf => ?_)
 have hs := St.start W
 obtain ⟨w, hw_⟩ : ∃ w, w = W := ⟨W, rfl⟩
 clear hw_ w
 refine wpL_seq <| wpL_region ?_
 refine sY hf hs rfl rfl rfl (Y_assign rfl rfl) ?_; clear hf; intro a hf
 refine wpO_nil <| wpL_seq <| wpL_seq <| wpL_region ?_
 refine sY hf hs rfl rfl rfl (Y_move rfl rfl) ?_; clear hf; intro a hf
 refine sY hf hs rfl rfl rfl (Y_lenH rfl rfl el28 rfl) ?_; clear hf; intro a hf
 refine sY hf hs rfl rfl rfl (Y_move rfl rfl) ?_; clear hf; intro a hf
 refine sY hf hs rfl rfl rfl (Y_lenH rfl rfl el28 rfl) ?_; clear hf; intro a hf
 refine sY hf hs rfl rfl rfl (Y_neq rfl rfl rfl) ?_; clear hf; intro a hf
 refine wpO_nil ?_
 refine wpL_cond hf rfl (fun hb1 => ?_) (fun hb1 => ?_)
 ·have hm := bif_t hm hb1
  refine wpL_seq <| wpL_region ?_
  refine sY hf hs rfl rfl rfl (Y_assign rfl rfl) ?_; clear hf; intro a hf
  refine wpO_nil ?_
  obtain rfl := Option.some.inj hm
  refine wpL_ret (ret_tmp rfl hf rfl ?_)
  exact ⟨_, rfl, rfl, hs⟩
 ·have hm := bif_f hm hb1
  refine wpL_skip <| wpL_seq <| wpL_seq <| wpL_region ?_
  refine sY hf hs rfl rfl rfl (Y_assign rfl rfl) ?_; clear hf; intro a hf
  refine wpO_nil ?_
  obtain ⟨r22, hl23, hm⟩ := bind_some hm
  refine wpL_block (fun a w => Sum.inr () = r22 ∧ Fr a 26 [] ∧ St [] W w []) ?_ ?_
  ·refine wpL_loop (fun n a w => ∃ x15 : Int, laws_likeInts_L1 F aK aY n x15 = some r22 ∧ Fr a 26 [(0, .slice aH aK.length aP), (1, .slice ba aY.length bp), (5, .int .i64 x15)] ∧ St [] W w []) F ?_ ?_ ?_
   ·exact ⟨0, hl23, (FrD.pick (FrD.pick (FrD.pick hf.none hf rfl) hf rfl) hf rfl), hs⟩
   ·rintro a w ⟨x15, h0_, -, -⟩; simp [laws_likeInts_L1] at h0_
   ·rintro n25 a w ⟨x15, hm24, hf, hs⟩
    rw [laws_likeInts_L1] at hm24
    refine wpL_seq <| wpL_seq <| wpL_region ?_
    refine sY hf hs rfl rfl rfl (Y_move rfl rfl) ?_; clear hf; intro a hf
    refine sY hf hs rfl rfl rfl (Y_move rfl rfl) ?_; clear hf; intro a hf
    refine sY hf hs rfl rfl rfl (Y_lenH rfl rfl el28 rfl) ?_; clear hf; intro a hf
    refine sY hf hs rfl rfl rfl (Y_lss rfl rfl rfl) ?_; clear hf; intro a hf
    refine wpO_nil ?_
    refine wpL_cond hf rfl (fun hb26 => ?_) (fun hb26 => ?_)
    ·have hm24 := bif_t hm24 hb26
     refine wpL_skip <| wpL_seq <| wpL_block0 <| wpL_seq ?_
     refine wpL_draw (by kernel_rfl) (by kernel_rfl) hs ?_
     refine qY hf rfl rfl rfl (Y_move rfl rfl) ?_; clear hf; intro a hf
     refine qY hf rfl rfl rfl (Y_move rfl rfl) ?_; clear hf; intro a hf
     obtain ⟨q27, hi28, hm24⟩ := bind_some hm24
     obtain ⟨hi28a, hi28b, hi28q⟩ := idx_some hi28
     refine qY hf rfl rfl rfl (Y_index rfl rfl rfl el28 ti2 (Rd.isAt (bb.at hs) (at1 (ints_at hi28q))) hi28a hi28b) ?_; clear hf; intro a hf
     refine qY hf rfl rfl rfl (Y_load_rd rfl rfl (fun w hs => bb.at hs) (at1 (ints_at hi28q)) ag2) ?_; clear hf; intro a hf
     refine qY hf rfl rfl rfl (Y_move rfl rfl) ?_; clear hf; intro a hf
     refine qY hf rfl rfl rfl (Y_move rfl rfl) ?_; clear hf; intro a hf
     obtain ⟨q29, hi30, hm24⟩ := bind_some hm24
     obtain ⟨hi30a, hi30b, hi30q⟩ := idx_some hi30
     refine qY hf rfl rfl rfl (Y_index rfl rfl rfl el28 ti2 (Rd.isAt (bH.at hs) (at1 (ints_at hi30q))) hi30a hi30b) ?_; clear hf; intro a hf
     refine qY hf rfl rfl rfl (Y_load_rd rfl rfl (fun w hs => bH.at hs) (at1 (ints_at hi30q)) ag2) ?_; clear hf; intro a hf
     refine qY hf rfl rfl rfl (Y_neq rfl rfl rfl) ?_; clear hf; intro a hf
     refine qNil ?_; clear hs; intro w hs
     refine wpL_cond hf rfl (fun hb31 => ?_) (fun hb31 => ?_)
     ·have hm24 := bif_t hm24 hb31
      refine wpL_seq <| wpL_region ?_
      refine sY hf hs rfl rfl rfl (Y_assign rfl rfl) ?_; clear hf; intro a hf
      refine wpO_nil ?_
      obtain rfl := Option.some.inj hm24
      try dsimp only at hm
      obtain rfl := Option.some.inj hm
      refine wpL_ret (Qb_ret (Ql_ret (Qb_ret (ret_tmp rfl hf rfl ?_))))
      exact ⟨_, rfl, rfl, hs⟩
     ·have hm24 := bif_f hm24 hb31
      refine wpL_skip ?_
      refine wpL_nil (Qb_normal ?_)
      refine wpL_region ?_
      refine sY hf hs rfl rfl rfl (Y_move rfl rfl) ?_; clear hf; intro a hf
      refine sY hf hs rfl rfl rfl (Y_add rfl rfl rfl) ?_; clear hf; intro a hf
      refine sY hf hs rfl rfl rfl (Y_assign rfl rfl) ?_; clear hf; intro a hf
      refine wpO_nil ?_
      refine wpL_nil (Ql_normal ?_)
      exact ⟨(IntKind.i64.wrap (x15 + 1)), hm24, (FrD.pick (FrD.pick (FrD.pick hf.none hf rfl) hf rfl) hf rfl), hs⟩
    ·have hm24 := bif_f hm24 hb26
     refine wpL_exit (Ql_exit (Qb_exit ?_))
     exact ⟨Option.some.inj hm24, hf.none, hs⟩
  ·rintro a w ⟨hr_, hf, hs⟩
   subst hr_
   try dsimp only at hm
   refine wpL_seq <| wpL_region ?_
   refine sY hf hs rfl rfl rfl (Y_assign rfl rfl) ?_; clear hf; intro a hf
   refine wpO_nil ?_
   obtain rfl := Option.some.inj hm
   refine wpL_ret (ret_tmp rfl hf rfl ?_)
   exact ⟨_, rfl, rfl, hs⟩

set_option maxRecDepth 100000 in
theorem laws_likeTables9_ok (F : Nat) (aK : List (List Int)) (aH : Option Addr) (aT aP : Nat) (bj : aT = aK.length) (aY : List (List Int)) (ba : Option Addr) (bu bp : Nat) (bL : bu = aY.length) (r : Bool) (W : World) (hm : laws_likeTables9 F aK aY = some r) (bb : RdM W aH aK) (bH : RdM W ba aY) :
  Calls Try.prog 31 [.slice aH aT aP, .slice ba bu bp].toArray W fun e w' => ∃ v, e = .returned v ∧ v = .bool r ∧ St [] W w' [] := by
 subst bj
 subst bL
 unfold laws_likeTables9 at hm
 refine Calls.enter (N := 27) Try.func31 rfl rfl rfl (fun a hf => ?_)
 have hs := St.start W
 obtain ⟨w, hw_⟩ : ∃ w, w = W := ⟨W, rfl⟩
 clear hw_ w
 refine wpL_seq <| wpL_region ?_
 refine sY hf hs rfl rfl rfl (Y_assign rfl rfl) ?_; clear hf; intro a hf
 refine wpO_nil <| wpL_seq <| wpL_seq <| wpL_region ?_
 refine sY hf hs rfl rfl rfl (Y_move rfl rfl) ?_; clear hf; intro a hf
 refine sY hf hs rfl rfl rfl (Y_lenH rfl rfl el40 rfl) ?_; clear hf; intro a hf
 refine sY hf hs rfl rfl rfl (Y_move rfl rfl) ?_; clear hf; intro a hf
 refine sY hf hs rfl rfl rfl (Y_lenH rfl rfl el40 rfl) ?_; clear hf; intro a hf
 refine sY hf hs rfl rfl rfl (Y_neq rfl rfl rfl) ?_; clear hf; intro a hf
 refine wpO_nil ?_
 refine wpL_cond hf rfl (fun hb1 => ?_) (fun hb1 => ?_)
 ·have hm := bif_t hm hb1
  refine wpL_seq <| wpL_region ?_
  refine sY hf hs rfl rfl rfl (Y_assign rfl rfl) ?_; clear hf; intro a hf
  refine wpO_nil ?_
  obtain rfl := Option.some.inj hm
  refine wpL_ret (ret_tmp rfl hf rfl ?_)
  exact ⟨_, rfl, rfl, hs⟩
 ·have hm := bif_f hm hb1
  refine wpL_skip <| wpL_seq <| wpL_seq <| wpL_region ?_
  refine sY hf hs rfl rfl rfl (Y_assign rfl rfl) ?_; clear hf; intro a hf
  refine wpO_nil ?_
  obtain ⟨r70, hl71, hm⟩ := bind_some hm
  refine wpL_block (fun a w => Sum.inr () = r70 ∧ Fr a 27 [] ∧ St [] W w []) ?_ ?_
  ·refine wpL_loop (fun n a w => ∃ x47 : Int, laws_likeTables9_L1 F aK aY n x47 = some r70 ∧ Fr a 27 [(0, .slice aH aK.length aP), (1, .slice ba aY.length bp), (5, .int .i64 x47)] ∧ St [] W w []) F ?_ ?_ ?_
   ·exact ⟨0, hl71, (FrD.pick (FrD.pick (FrD.pick hf.none hf rfl) hf rfl) hf rfl), hs⟩
   ·rintro a w ⟨x47, h0_, -, -⟩; simp [laws_likeTables9_L1] at h0_
   ·rintro n73 a w ⟨x47, hm72, hf, hs⟩
    rw [laws_likeTables9_L1] at hm72
    refine wpL_seq <| wpL_seq <| wpL_region ?_
    refine sY hf hs rfl rfl rfl (Y_move rfl rfl) ?_; clear hf; intro a hf
    refine sY hf hs rfl rfl rfl (Y_move rfl rfl) ?_; clear hf; intro a hf
    refine sY hf hs rfl rfl rfl (Y_lenH rfl rfl el40 rfl) ?_; clear hf; intro a hf
    refine sY hf hs rfl rfl rfl (Y_lss rfl rfl rfl) ?_; clear hf; intro a hf
    refine wpO_nil ?_
    refine wpL_cond hf rfl (fun hb74 => ?_) (fun hb74 => ?_)
    ·have hm72 := bif_t hm72 hb74
     refine wpL_skip <| wpL_seq <| wpL_block0 <| wpL_seq ?_
     refine wpL_draw (by kernel_rfl) (by kernel_rfl) hs ?_
     refine qY hf rfl rfl rfl (Y_move rfl rfl) ?_; clear hf; intro a hf
     refine qY hf rfl rfl rfl (Y_move rfl rfl) ?_; clear hf; intro a hf
     obtain ⟨q75, hi76, hm72⟩ := bind_some hm72
     obtain ⟨hi76a, hi76b, hi76q⟩ := idx_some hi76
     obtain ⟨vs77, hv78, hr79⟩ := id bb
     obtain ⟨A80, c81, hv82, hR83⟩ := hr79 _ _ hi76q
     refine qY hf rfl rfl rfl (Y_index rfl rfl rfl el40 ti28 (Rd.isAt hv78 hv82) hi76a hi76b) ?_; clear hf; intro a hf
     refine qY hf rfl rfl rfl (Y_load_rd rfl rfl (fun w hs => hv78.at hs) (at1 hv82) ag28) ?_; clear hf; intro a hf
     refine qY hf rfl rfl rfl (Y_move rfl rfl) ?_; clear hf; intro a hf
     refine qY hf rfl rfl rfl (Y_move rfl rfl) ?_; clear hf; intro a hf
     obtain ⟨q84, hi85, hm72⟩ := bind_some hm72
     obtain ⟨hi85a, hi85b, hi85q⟩ := idx_some hi85
     obtain ⟨vs86, hv87, hr88⟩ := id bH
     obtain ⟨A89, c90, hv91, hR92⟩ := hr88 _ _ hi85q
     refine qY hf rfl rfl rfl (Y_index rfl rfl rfl el40 ti28 (Rd.isAt hv87 hv91) hi85a hi85b) ?_; clear hf; intro a hf
     refine qY hf rfl rfl rfl (Y_load_rd rfl rfl (fun w hs => hv87.at hs) (at1 hv91) ag28) ?_; clear hf; intro a hf
     obtain ⟨r93, hc94, hm72⟩ := bind_some hm72
     refine qCall hf rfl rfl rfl rfl (cap := []) rfl rfl en21 (v := .bool r93) (fun w hs => Calls.scal (laws_likeInts_ok F q75 A80 q75.length c81 rfl q84 A89 q84.length c90 rfl _ _ hc94 (hR83.at hs) (hR92.at hs))) ?_; clear hf; intro a hf
     refine qY hf rfl rfl rfl (Y_not rfl rfl) ?_; clear hf; intro a hf
     refine qNil ?_; clear hs; intro w hs
     refine wpL_cond hf rfl (fun hb95 => ?_) (fun hb95 => ?_)
     ·have hm72 := bif_t hm72 hb95
      refine wpL_seq <| wpL_region ?_
      refine sY hf hs rfl rfl rfl (Y_assign rfl rfl) ?_; clear hf; intro a hf
      refine wpO_nil ?_
      obtain rfl := Option.some.inj hm72
      try dsimp only at hm
      obtain rfl := Option.some.inj hm
      refine wpL_ret (Qb_ret (Ql_ret (Qb_ret (ret_tmp rfl hf rfl ?_))))
      exact ⟨_, rfl, rfl, hs⟩
     ·have hm72 := bif_f hm72 hb95
      refine wpL_skip ?_
      refine wpL_nil (Qb_normal ?_)
      refine wpL_region ?_
      refine sY hf hs rfl rfl rfl (Y_move rfl rfl) ?_; clear hf; intro a hf
      refine sY hf hs rfl rfl rfl (Y_add rfl rfl rfl) ?_; clear hf; intro a hf
      refine sY hf hs rfl rfl rfl (Y_assign rfl rfl) ?_; clear hf; intro a hf
      refine wpO_nil ?_
      refine wpL_nil (Ql_normal ?_)
      exact ⟨(IntKind.i64.wrap (x47 + 1)), hm72, (FrD.pick (FrD.pick (FrD.pick hf.none hf rfl) hf rfl) hf rfl), hs⟩
    ·have hm72 := bif_f hm72 hb74
     refine wpL_exit (Ql_exit (Qb_exit ?_))
     exact ⟨Option.some.inj hm72, hf.none, hs⟩
  ·rintro a w ⟨hr_, hf, hs⟩
   subst hr_
   try dsimp only at hm
   refine wpL_seq <| wpL_region ?_
   refine sY hf hs rfl rfl rfl (Y_assign rfl rfl) ?_; clear hf; intro a hf
   refine wpO_nil ?_
   obtain rfl := Option.some.inj hm
   refine wpL_ret (ret_tmp rfl hf rfl ?_)
   exact ⟨_, rfl, rfl, hs⟩

set_option maxRecDepth 100000 in
theorem laws_roll_ok (F : Nat) (ad : List Int) (av : Option Addr) (bi az : Nat) (bD : bi = ad.length) (cm : Int) (r : (Int × Int)) (W : World) (hm : laws_roll F ad cm = some r) (bl : Rd W av (bytes ad)) :
  Calls Try.prog 62 [.slice av bi az, .int .u64 cm].toArray W fun e w' => ∃ v, e = .returned v ∧ ∃ b23, v = .pointer (some ⟨b23, 0, none⟩) ∧ St [] W w' [.blk b23 146 [.slice av bi az, .int .i64 r.1, .int .u64 r.2]] := by
 subst bD
 unfold laws_roll at hm
 refine Calls.enter (N := 38) Try.func62 rfl rfl rfl (fun a hf => ?_)
 have hs := St.start W
 obtain ⟨w, hw_⟩ : ∃ w, w = W := ⟨W, rfl⟩
 clear hw_ w
 refine wpL_seq <| wpL_region ?_
 refine sY hf hs rfl rfl rfl (Y_assign rfl rfl) ?_; clear hf; intro a hf
 refine wpO_nil <| wpL_seq <| wpL_region ?_
 refine sY hf hs rfl rfl rfl (Y_move rfl rfl) ?_; clear hf; intro a hf
 refine sY hf hs rfl rfl rfl (Y_move rfl rfl) ?_; clear hf; intro a hf
 refine sY hf hs rfl rfl rfl (Y_mul rfl rfl rfl) ?_; clear hf; intro a hf
 refine sY hf hs rfl rfl rfl (Y_move rfl rfl) ?_; clear hf; intro a hf
 refine sY hf hs rfl rfl rfl (Y_lenH rfl rfl el22 rfl) ?_; clear hf; intro a hf
 refine sY hf hs rfl rfl rfl (Y_convert rfl rfl un3 un81) ?_; clear hf; intro a hf
 refine sY hf hs rfl rfl rfl (Y_add rfl rfl rfl) ?_; clear hf; intro a hf
 refine sY hf hs rfl rfl rfl (Y_build (parts := [(0, .tmp 7), (2, .tmp 13)]) (vs := [.slice av ad.length az, .int .u64 (IntKind.u64.wrap ((IntKind.u64.wrap (cm * 9103)) + (IntKind.u64.wrap (ad.length : Int))))]) rfl rfl (run_build (parts := [(0, .slice av ad.length az), (2, .int .u64 (IntKind.u64.wrap ((IntKind.u64.wrap (cm * 9103)) + (IntKind.u64.wrap (ad.length : Int)))))]) (cells := [.slice av ad.length az, .int .i64 0, .int .u64 (IntKind.u64.wrap ((IntKind.u64.wrap (cm * 9103)) + (IntKind.u64.wrap (ad.length : Int))))]) (places := #[(0, 1), (1, 1), (2, 1)]) ti146 Try.underlying146 (fun w => by simp [go_sem]) rfl)) ?_; clear hf; intro a hf
 refine sBox hf hs rfl rfl rfl rfl rfl (cs := [.slice av ad.length az, .int .i64 0, .int .u64 (IntKind.u64.wrap ((IntKind.u64.wrap (cm * 9103)) + (IntKind.u64.wrap (ad.length : Int))))]) rfl ?_; clear hf hs; intro a w b1 hs hf
 have hs : St _ W w [.blk b1 146 [.slice av ad.length az, .int .i64 0, .int .u64 (IntKind.u64.wrap ((IntKind.u64.wrap (cm * 9103)) + (IntKind.u64.wrap (ad.length : Int))))]] := hs
 refine sY hf hs rfl rfl rfl (Y_assign rfl rfl) ?_; clear hf; intro a hf
 refine wpO_nil <| wpL_seq <| wpL_seq <| wpL_region ?_
 refine sY hf hs rfl rfl rfl (Y_assign rfl rfl) ?_; clear hf; intro a hf
 refine wpO_nil ?_
 obtain ⟨r16, hl17, hm⟩ := bind_some hm
 refine wpL_block (fun a w => ∃ x15 : Int, x15 = r16 ∧ Fr a 38 [(5, .pointer (some ⟨b1, 0, none⟩))] ∧ St [] W w [.blk b1 146 [.slice av ad.length az, .int .i64 0, .int .u64 x15]]) ?_ ?_
 ·refine wpL_loop (fun n a w => ∃ x10 : Int, ∃ x11 : Int, laws_roll_L1 F ad n x10 x11 = some r16 ∧ Fr a 38 [(0, .slice av ad.length az), (5, .pointer (some ⟨b1, 0, none⟩)), (6, .int .i64 x11)] ∧ St [] W w [.blk b1 146 [.slice av ad.length az, .int .i64 0, .int .u64 x10]]) F ?_ ?_ ?_
  ·exact ⟨(IntKind.u64.wrap ((IntKind.u64.wrap (cm * 9103)) + (IntKind.u64.wrap (ad.length : Int)))), 0, hl17, (FrD.pick (FrD.pick (FrD.pick hf.none hf rfl) hf rfl) hf rfl), hs⟩
  ·rintro a w ⟨x10, x11, h0_, -, -⟩; simp [laws_roll_L1] at h0_
  ·rintro n19 a w ⟨x10, x11, hm18, hf, hs⟩
   rw [laws_roll_L1] at hm18
   refine wpL_seq <| wpL_seq <| wpL_region ?_
   refine sY hf hs rfl rfl rfl (Y_move rfl rfl) ?_; clear hf; intro a hf
   refine sY hf hs rfl rfl rfl (Y_move rfl rfl) ?_; clear hf; intro a hf
   refine sY hf hs rfl rfl rfl (Y_lenH rfl rfl el22 rfl) ?_; clear hf; intro a hf
   refine sY hf hs rfl rfl rfl (Y_lss rfl rfl rfl) ?_; clear hf; intro a hf
   refine wpO_nil ?_
   refine wpL_cond hf rfl (fun hb20 => ?_) (fun hb20 => ?_)
   ·have hm18 := bif_t hm18 hb20
    refine wpL_skip <| wpL_seq <| wpL_block0 ?_
    refine wpL_drawM [.blk b1 146 [.slice av ad.length az, .int .i64 0, .int .u64 x10]] [15] (by kernel_rfl) hs ?_; clear hs; intro w hs
    have hs0 : St _ W w [_] := hs
    refine mYp (i := 0) rfl (by kernel_rfl) (by kernel_rfl) hf rfl rfl rfl (fun _ => Y_move rfl rfl) ?_; clear hf; intro a hf
    refine mYp (i := 1) rfl (by kernel_rfl) (by kernel_rfl) hf rfl rfl rfl (fun _ => Y_move rfl rfl) ?_; clear hf; intro a hf
    refine mYp (i := 2) rfl (by kernel_rfl) (by kernel_rfl) hf rfl rfl rfl (fun _ => Y_nilCheck rfl rfl) ?_; clear hf; intro a hf
    refine mYp (i := 3) rfl (by kernel_rfl) (by kernel_rfl) hf rfl rfl rfl (fun _ => Y_fieldAddr rfl rfl fo146_2) ?_; clear hf; intro a hf
    refine mY (i := 4) [[]] rfl (by kernel_rfl) (by kernel_rfl) hf hs0 rfl rfl rfl (Y_load_blk rfl rfl (i := 0) rfl rfl ag81) ?_; clear hf; intro a hf
    refine mYp (i := 5) rfl (by kernel_rfl) (by kernel_rfl) hf rfl rfl rfl (fun _ => Y_mul rfl rfl rfl) ?_; clear hf; intro a hf
    refine mYp (i := 6) rfl (by kernel_rfl) (by kernel_rfl) hf rfl rfl rfl (fun _ => Y_move rfl rfl) ?_; clear hf; intro a hf
    refine mYp (i := 7) rfl (by kernel_rfl) (by kernel_rfl) hf rfl rfl rfl (fun _ => Y_move rfl rfl) ?_; clear hf; intro a hf
    obtain ⟨q21, hi22, hm18⟩ := bind_some hm18
    obtain ⟨hi22a, hi22b, hi22q⟩ := idx_some hi22
    refine mYp (i := 8) rfl (by kernel_rfl) (by kernel_rfl) hf rfl rfl rfl (fun _ => Y_index rfl rfl rfl el22 ti5 (Rd.isAt (bl.at hs) (at1 (bytes_at hi22q))) hi22a hi22b) ?_; clear hf; intro a hf
    refine mY (i := 9) [[]] rfl (by kernel_rfl) (by kernel_rfl) hf hs0 rfl rfl rfl (Y_load_rd rfl rfl (fun w hs => bl.at hs) (at1 (bytes_at hi22q)) ag5) ?_; clear hf; intro a hf
    refine mY (i := 10) [[]] rfl (by kernel_rfl) (by kernel_rfl) hf hs0 rfl rfl rfl (Y_convert rfl rfl un5 un81) ?_; clear hf; intro a hf
    refine mYp (i := 11) rfl (by kernel_rfl) (by kernel_rfl) hf rfl rfl rfl (fun _ => Y_add rfl rfl rfl) ?_; clear hf; intro a hf
    refine mYp (i := 12) rfl (by kernel_rfl) (by kernel_rfl) hf rfl rfl rfl (fun _ => Y_add rfl rfl rfl) ?_; clear hf; intro a hf
    refine mYp (i := 13) rfl (by kernel_rfl) (by kernel_rfl) hf rfl rfl rfl (fun _ => Y_nilCheck rfl rfl) ?_; clear hf; intro a hf
    refine mYp (i := 14) rfl (by kernel_rfl) (by kernel_rfl) hf rfl rfl rfl (fun _ => Y_fieldAddr rfl rfl fo146_2) ?_; clear hf; intro a hf
    refine mRun (i := 15) rfl (by kernel_rfl) ?_
    refine sStore (i := 0) (us := [.int .u64 (IntKind.u64.wrap ((IntKind.u64.wrap ((IntKind.u64.wrap (x10 * 1099511628211)) + (IntKind.u64.wrap q21))) + 5))]) hf hs rfl rfl rfl rfl rfl rfl ti81 rfl rfl rfl (Nat.le_of_ble_eq_true rfl) rfl ?_; clear hs; intro w hs
    have hs : St _ W w [.blk b1 146 [.slice av ad.length az, .int .i64 0, .int .u64 (IntKind.u64.wrap ((IntKind.u64.wrap ((IntKind.u64.wrap (x10 * 1099511628211)) + (IntKind.u64.wrap q21))) + 5))]] := hs
    refine wpO_nil ⟨Or.inl (by decide), ?_⟩
    refine mDone (by kernel_rfl) ?_
    clear hs0
    refine wpL_nil (Qb_normal ?_)
    refine wpL_region ?_
    refine sY hf hs rfl rfl rfl (Y_move rfl rfl) ?_; clear hf; intro a hf
    refine sY hf hs rfl rfl rfl (Y_add rfl rfl rfl) ?_; clear hf; intro a hf
    refine sY hf hs rfl rfl rfl (Y_assign rfl rfl) ?_; clear hf; intro a hf
    refine wpO_nil ?_
    refine wpL_nil (Ql_normal ?_)
    exact ⟨(IntKind.u64.wrap ((IntKind.u64.wrap ((IntKind.u64.wrap (x10 * 1099511628211)) + (IntKind.u64.wrap q21))) + 5)), (IntKind.i64.wrap (x11 + 1)), hm18, (FrD.pick (FrD.pick (FrD.pick hf.none hf rfl) hf rfl) hf rfl), hs⟩
   ·have hm18 := bif_f hm18 hb20
    refine wpL_exit (Ql_exit (Qb_exit ?_))
    exact ⟨x10, Option.some.inj hm18, (FrD.pick hf.none hf rfl), hs⟩
 ·rintro a w ⟨x15, hr_, hf, hs⟩
  subst hr_
  try dsimp only at hm
  refine wpL_seq <| wpL_region ?_
  refine sY hf hs rfl rfl rfl (Y_move rfl rfl) ?_; clear hf; intro a hf
  refine sY hf hs rfl rfl rfl (Y_assign rfl rfl) ?_; clear hf; intro a hf
  refine wpO_nil ?_
  obtain rfl := Option.some.inj hm
  refine wpL_ret (ret_tmp rfl hf rfl ?_)
  exact ⟨_, rfl, b1, rfl, hs⟩

set_option maxRecDepth 100000 in
theorem laws_dice_below_ok (F : Nat) (cd : Nat) (cp : List Int) (bO : Option Addr) (cr bU : Nat) (cZ : cr = cp.length) (bZ : Int) (bV : Int) (cu : Int) (r : (Int) × Int × Int) (W : World) (hm : laws_dice_below F cp bZ bV cu = some r) (cV : KR (muL [.blk cd 146 [.slice bO cr bU, .int .i64 bZ, .int .u64 bV]]) W bO (bytes cp)) (hst : St (muL [.blk cd 146 [.slice bO cr bU, .int .i64 bZ, .int .u64 bV]]) W W [.blk cd 146 [.slice bO cr bU, .int .i64 bZ, .int .u64 bV]]) :
  Calls Try.prog 63 [.pointer (some ⟨cd, 0, none⟩), .int .i64 cu].toArray W fun e w' => ∃ v, e = .returned v ∧ v = .int .i64 r.1 ∧ St (muL [.blk cd 146 [.slice bO cr bU, .int .i64 bZ, .int .u64 bV]]) W w' [.blk cd 146 [.slice bO cr bU, .int .i64 r.2.1, .int .u64 r.2.2]] := by
 subst cZ
 unfold laws_dice_below at hm
 refine Calls.enter (N := 56) Try.func63 rfl rfl rfl (fun a hf => ?_)
 have hs := hst
 obtain ⟨w, hw_⟩ : ∃ w, w = W := ⟨W, rfl⟩
 clear hw_ w
 refine wpL_seq <| wpL_region ?_
 refine sY hf hs rfl rfl rfl (Y_assign rfl rfl) ?_; clear hf; intro a hf
 refine wpO_nil <| wpL_seq <| wpL_region ?_
 refine sY hf hs rfl rfl rfl (Y_move rfl rfl) ?_; clear hf; intro a hf
 refine sY hf hs rfl rfl rfl (Y_move rfl rfl) ?_; clear hf; intro a hf
 refine sY hf hs rfl rfl rfl (Y_nilCheck rfl rfl) ?_; clear hf; intro a hf
 refine sY hf hs rfl rfl rfl (Y_fieldAddr rfl rfl fo146_2) ?_; clear hf; intro a hf
 refine sY hf hs rfl rfl rfl (Y_load_blk rfl rfl (i := 0) rfl rfl ag81) ?_; clear hf; intro a hf
 refine sY hf hs rfl rfl rfl (Y_mul rfl rfl rfl) ?_; clear hf; intro a hf
 refine sY hf hs rfl rfl rfl (Y_add rfl rfl rfl) ?_; clear hf; intro a hf
 refine sY hf hs rfl rfl rfl (Y_nilCheck rfl rfl) ?_; clear hf; intro a hf
 refine sY hf hs rfl rfl rfl (Y_fieldAddr rfl rfl fo146_2) ?_; clear hf; intro a hf
 refine sStore (i := 0) (us := [.int .u64 (IntKind.u64.wrap ((IntKind.u64.wrap (bV * 6364136223846793005)) + 1442695040888963407))]) hf hs rfl rfl rfl rfl rfl rfl ti81 rfl rfl rfl (Nat.le_of_ble_eq_true rfl) rfl ?_; clear hs; intro w hs
 have hs : St _ W w [.blk cd 146 [.slice bO cp.length bU, .int .i64 bZ, .int .u64 (IntKind.u64.wrap ((IntKind.u64.wrap (bV * 6364136223846793005)) + 1442695040888963407))]] := hs
 refine wpO_nil <| wpL_seq <| wpL_region ?_
 refine sY hf hs rfl rfl rfl (Y_move rfl rfl) ?_; clear hf; intro a hf
 refine sY hf hs rfl rfl rfl (Y_nilCheck rfl rfl) ?_; clear hf; intro a hf
 refine sY hf hs rfl rfl rfl (Y_fieldAddr rfl rfl fo146_2) ?_; clear hf; intro a hf
 refine sY hf hs rfl rfl rfl (Y_load_blk rfl rfl (i := 0) rfl rfl ag81) ?_; clear hf; intro a hf
 refine sY hf hs rfl rfl rfl (Y_shr rfl rfl rfl (by decide) (by decide)) ?_; clear hf; intro a hf
 refine sY hf hs rfl rfl rfl (Y_and rfl rfl rfl) ?_; clear hf; intro a hf
 refine sY hf hs rfl rfl rfl (Y_convert rfl rfl un81 un2) ?_; clear hf; intro a hf
 refine sY hf hs rfl rfl rfl (Y_assign rfl rfl) ?_; clear hf; intro a hf
 refine wpO_nil <| wpL_seq <| wpL_seq ?_
 refine wpL_draw (by kernel_rfl) (by kernel_rfl) hs ?_
 refine qY hf rfl rfl rfl (Y_move rfl rfl) ?_; clear hf; intro a hf
 refine qY hf rfl rfl rfl (Y_nilCheck rfl rfl) ?_; clear hf; intro a hf
 refine qY hf rfl rfl rfl (Y_fieldAddr rfl rfl fo146_1) ?_; clear hf; intro a hf
 refine qY hf rfl rfl rfl (Y_load_blk rfl rfl (i := 0) rfl rfl ag3) ?_; clear hf; intro a hf
 refine qY hf rfl rfl rfl (Y_move rfl rfl) ?_; clear hf; intro a hf
 refine qY hf rfl rfl rfl (Y_nilCheck rfl rfl) ?_; clear hf; intro a hf
 refine qY hf rfl rfl rfl (Y_fieldAddr rfl rfl fo146_0) ?_; clear hf; intro a hf
 refine qY hf rfl rfl rfl (Y_load_blk rfl rfl (i := 0) rfl rfl ag22) ?_; clear hf; intro a hf
 refine qY hf rfl rfl rfl (Y_lenH rfl rfl el22 rfl) ?_; clear hf; intro a hf
 refine qY hf rfl rfl rfl (Y_lss rfl rfl rfl) ?_; clear hf; intro a hf
 refine qNil ?_; clear hs; intro w hs
 obtain ⟨r6, hj7, hm⟩ := bind_some hm
 refine wpL_cut (fun a w => ∃ x4 : Int, ∃ x5 : Int, (x4, x5) = r6 ∧ Fr a 56 [(1, .int .i64 cu), (5, .int .i64 x5)] ∧ St (muL [.blk cd 146 [.slice bO cp.length bU, .int .i64 bZ, .int .u64 bV]]) W w [.blk cd 146 [.slice bO cp.length bU, .int .i64 x4, .int .u64 (IntKind.u64.wrap ((IntKind.u64.wrap (bV * 6364136223846793005)) + 1442695040888963407))]]) ?_ ?_
 ·refine wpL_cond hf rfl (fun hb8 => ?_) (fun hb8 => ?_)
  ·have hj7 := bif_t hj7 hb8
   refine wpL_seq ?_
   refine wpL_draw (by kernel_rfl) (by kernel_rfl) hs ?_
   refine qY hf rfl rfl rfl (Y_move rfl rfl) ?_; clear hf; intro a hf
   refine qY hf rfl rfl rfl (Y_move rfl rfl) ?_; clear hf; intro a hf
   refine qY hf rfl rfl rfl (Y_nilCheck rfl rfl) ?_; clear hf; intro a hf
   refine qY hf rfl rfl rfl (Y_fieldAddr rfl rfl fo146_0) ?_; clear hf; intro a hf
   refine qY hf rfl rfl rfl (Y_load_blk rfl rfl (i := 0) rfl rfl ag22) ?_; clear hf; intro a hf
   refine qY hf rfl rfl rfl (Y_move rfl rfl) ?_; clear hf; intro a hf
   refine qY hf rfl rfl rfl (Y_nilCheck rfl rfl) ?_; clear hf; intro a hf
   refine qY hf rfl rfl rfl (Y_fieldAddr rfl rfl fo146_1) ?_; clear hf; intro a hf
   refine qY hf rfl rfl rfl (Y_load_blk rfl rfl (i := 0) rfl rfl ag3) ?_; clear hf; intro a hf
   obtain ⟨q9, hi10, hj7⟩ := bind_some hj7
   obtain ⟨hi10a, hi10b, hi10q⟩ := idx_some hi10
   refine qY hf rfl rfl rfl (Y_index rfl rfl rfl el22 ti5 (Rd.isAt (cV.at hs) (at1 (bytes_at hi10q))) hi10a hi10b) ?_; clear hf; intro a hf
   refine qY hf rfl rfl rfl (Y_load_rd rfl rfl (fun w hs => cV.at hs) (at1 (bytes_at hi10q)) ag5) ?_; clear hf; intro a hf
   refine qY hf rfl rfl rfl (Y_convert rfl rfl un5 un2) ?_; clear hf; intro a hf
   refine qY hf rfl rfl rfl (Y_add rfl rfl rfl) ?_; clear hf; intro a hf
   refine qY hf rfl rfl rfl (Y_assign rfl rfl) ?_; clear hf; intro a hf
   refine qNil ?_; clear hs; intro w hs
   refine wpL_region ?_
   refine sY hf hs rfl rfl rfl (Y_move rfl rfl) ?_; clear hf; intro a hf
   refine sY hf hs rfl rfl rfl (Y_move rfl rfl) ?_; clear hf; intro a hf
   refine sY hf hs rfl rfl rfl (Y_nilCheck rfl rfl) ?_; clear hf; intro a hf
   refine sY hf hs rfl rfl rfl (Y_fieldAddr rfl rfl fo146_1) ?_; clear hf; intro a hf
   refine sY hf hs rfl rfl rfl (Y_load_blk rfl rfl (i := 0) rfl rfl ag3) ?_; clear hf; intro a hf
   refine sY hf hs rfl rfl rfl (Y_add rfl rfl rfl) ?_; clear hf; intro a hf
   refine sY hf hs rfl rfl rfl (Y_nilCheck rfl rfl) ?_; clear hf; intro a hf
   refine sY hf hs rfl rfl rfl (Y_fieldAddr rfl rfl fo146_1) ?_; clear hf; intro a hf
   refine sStore (i := 0) (us := [.int .i64 (IntKind.i64.wrap (bZ + 1))]) hf hs rfl rfl rfl rfl rfl rfl ti3 rfl rfl rfl (Nat.le_of_ble_eq_true rfl) rfl ?_; clear hs; intro w hs
   have hs : St _ W w [.blk cd 146 [.slice bO cp.length bU, .int .i64 (IntKind.i64.wrap (bZ + 1)), .int .u64 (IntKind.u64.wrap ((IntKind.u64.wrap (bV * 6364136223846793005)) + 1442695040888963407))]] := hs
   refine wpO_nil ?_
   refine wpL_nil (then_normal ?_)
   exact ⟨(IntKind.i64.wrap (bZ + 1)), (IntKind.i64.wrap ((IntKind.i64.wrap (andI .u64 (shrI (IntKind.u64.wrap ((IntKind.u64.wrap (bV * 6364136223846793005)) + 1442695040888963407)) 33) 16777215)) + (IntKind.i64.wrap q9))), Option.some.inj hj7, (FrD.pick (FrD.pick hf.none hf rfl) hf rfl), hs⟩
  ·have hj7 := bif_f hj7 hb8
   refine wpL_skip ?_
   refine wpL_nil (then_normal ?_)
   exact ⟨bZ, (IntKind.i64.wrap (andI .u64 (shrI (IntKind.u64.wrap ((IntKind.u64.wrap (bV * 6364136223846793005)) + 1442695040888963407)) 33) 16777215)), Option.some.inj hj7, (FrD.pick (FrD.pick hf.none hf rfl) hf rfl), hs⟩
 ·rintro a w ⟨x4, x5, hr_, hf, hs⟩
  subst hr_
  try dsimp only at hm
  refine wpL_seq <| wpL_region ?_
  refine sY hf hs rfl rfl rfl (Y_move rfl rfl) ?_; clear hf; intro a hf
  refine sY hf hs rfl rfl rfl (Y_move rfl rfl) ?_; clear hf; intro a hf
  obtain ⟨_, hz11, hm⟩ := bind_some hm
  refine sY hf hs rfl rfl rfl (Y_rem rfl rfl rfl (nz_some hz11)) ?_; clear hf; intro a hf
  refine sY hf hs rfl rfl rfl (Y_assign rfl rfl) ?_; clear hf; intro a hf
  refine wpO_nil ?_
  obtain rfl := Option.some.inj hm
  refine wpL_ret (ret_tmp rfl hf rfl ?_)
  exact ⟨_, rfl, rfl, hs⟩

set_option maxRecDepth 100000 in
theorem laws_below9_ok (F : Nat) (aK : List Int) (aH : Option Addr) (aT aP : Nat) (bj : aT = aK.length) (aY : List Int) (ba : Option Addr) (bu bp : Nat) (bL : bu = aY.length) (r : Bool) (W : World) (hm : laws_below9 F aK aY = some r) (bb : Rd W aH (ints aK)) (bH : Rd W ba (ints aY)) :
  Calls Try.prog 23 [.slice aH aT aP, .slice ba bu bp].toArray W fun e w' => ∃ v, e = .returned v ∧ v = .bool r ∧ St [] W w' [] := by
 subst bj
 subst bL
 unfold laws_below9 at hm
 refine Calls.enter (N := 26) Try.func23 rfl rfl rfl (fun a hf => ?_)
 have hs := St.start W
 obtain ⟨w, hw_⟩ : ∃ w, w = W := ⟨W, rfl⟩
 clear hw_ w
 refine wpL_seq <| wpL_region ?_
 refine sY hf hs rfl rfl rfl (Y_assign rfl rfl) ?_; clear hf; intro a hf
 refine wpO_nil <| wpL_seq <| wpL_seq <| wpL_region ?_
 refine sY hf hs rfl rfl rfl (Y_move rfl rfl) ?_; clear hf; intro a hf
 refine sY hf hs rfl rfl rfl (Y_lenH rfl rfl el28 rfl) ?_; clear hf; intro a hf
 refine sY hf hs rfl rfl rfl (Y_move rfl rfl) ?_; clear hf; intro a hf
 refine sY hf hs rfl rfl rfl (Y_lenH rfl rfl el28 rfl) ?_; clear hf; intro a hf
 refine sY hf hs rfl rfl rfl (Y_neq rfl rfl rfl) ?_; clear hf; intro a hf
 refine wpO_nil ?_
 refine wpL_cond hf rfl (fun hb1 => ?_) (fun hb1 => ?_)
 ·have hm := bif_t hm hb1
  refine wpL_seq <| wpL_region ?_
  refine sY hf hs rfl rfl rfl (Y_assign rfl rfl) ?_; clear hf; intro a hf
  refine wpO_nil ?_
  obtain rfl := Option.some.inj hm
  refine wpL_ret (ret_tmp rfl hf rfl ?_)
  exact ⟨_, rfl, rfl, hs⟩
 ·have hm := bif_f hm hb1
  refine wpL_skip <| wpL_seq <| wpL_seq <| wpL_region ?_
  refine sY hf hs rfl rfl rfl (Y_assign rfl rfl) ?_; clear hf; intro a hf
  refine wpO_nil ?_
  obtain ⟨r22, hl23, hm⟩ := bind_some hm
  refine wpL_block (fun a w => Sum.inr () = r22 ∧ Fr a 26 [] ∧ St [] W w []) ?_ ?_
  ·refine wpL_loop (fun n a w => ∃ x15 : Int, laws_below9_L1 F aK aY n x15 = some r22 ∧ Fr a 26 [(0, .slice aH aK.length aP), (1, .slice ba aY.length bp), (5, .int .i64 x15)] ∧ St [] W w []) F ?_ ?_ ?_
   ·exact ⟨0, hl23, (FrD.pick (FrD.pick (FrD.pick hf.none hf rfl) hf rfl) hf rfl), hs⟩
   ·rintro a w ⟨x15, h0_, -, -⟩; simp [laws_below9_L1] at h0_
   ·rintro n25 a w ⟨x15, hm24, hf, hs⟩
    rw [laws_below9_L1] at hm24
    refine wpL_seq <| wpL_seq <| wpL_region ?_
    refine sY hf hs rfl rfl rfl (Y_move rfl rfl) ?_; clear hf; intro a hf
    refine sY hf hs rfl rfl rfl (Y_move rfl rfl) ?_; clear hf; intro a hf
    refine sY hf hs rfl rfl rfl (Y_lenH rfl rfl el28 rfl) ?_; clear hf; intro a hf
    refine sY hf hs rfl rfl rfl (Y_lss rfl rfl rfl) ?_; clear hf; intro a hf
    refine wpO_nil ?_
    refine wpL_cond hf rfl (fun hb26 => ?_) (fun hb26 => ?_)
    ·have hm24 := bif_t hm24 hb26
     refine wpL_skip <| wpL_seq <| wpL_block0 <| wpL_seq ?_
     refine wpL_draw (by kernel_rfl) (by kernel_rfl) hs ?_
     refine qY hf rfl rfl rfl (Y_move rfl rfl) ?_; clear hf; intro a hf
     refine qY hf rfl rfl rfl (Y_move rfl rfl) ?_; clear hf; intro a hf
     obtain ⟨q27, hi28, hm24⟩ := bind_some hm24
     obtain ⟨hi28a, hi28b, hi28q⟩ := idx_some hi28
     refine qY hf rfl rfl rfl (Y_index rfl rfl rfl el28 ti2 (Rd.isAt (bb.at hs) (at1 (ints_at hi28q))) hi28a hi28b) ?_; clear hf; intro a hf
     refine qY hf rfl rfl rfl (Y_load_rd rfl rfl (fun w hs => bb.at hs) (at1 (ints_at hi28q)) ag2) ?_; clear hf; intro a hf
     refine qY hf rfl rfl rfl (Y_move rfl rfl) ?_; clear hf; intro a hf
     refine qY hf rfl rfl rfl (Y_move rfl rfl) ?_; clear hf; intro a hf
     obtain ⟨q29, hi30, hm24⟩ := bind_some hm24
     obtain ⟨hi30a, hi30b, hi30q⟩ := idx_some hi30
     refine qY hf rfl rfl rfl (Y_index rfl rfl rfl el28 ti2 (Rd.isAt (bH.at hs) (at1 (ints_at hi30q))) hi30a hi30b) ?_; clear hf; intro a hf
     refine qY hf rfl rfl rfl (Y_load_rd rfl rfl (fun w hs => bH.at hs) (at1 (ints_at hi30q)) ag2) ?_; clear hf; intro a hf
     refine qY hf rfl rfl rfl (Y_gtr rfl rfl rfl) ?_; clear hf; intro a hf
     refine qNil ?_; clear hs; intro w hs
     refine wpL_cond hf rfl (fun hb31 => ?_) (fun hb31 => ?_)
     ·have hm24 := bif_t hm24 hb31
      refine wpL_seq <| wpL_region ?_
      refine sY hf hs rfl rfl rfl (Y_assign rfl rfl) ?_; clear hf; intro a hf
      refine wpO_nil ?_
      obtain rfl := Option.some.inj hm24
      try dsimp only at hm
      obtain rfl := Option.some.inj hm
      refine wpL_ret (Qb_ret (Ql_ret (Qb_ret (ret_tmp rfl hf rfl ?_))))
      exact ⟨_, rfl, rfl, hs⟩
     ·have hm24 := bif_f hm24 hb31
      refine wpL_skip ?_
      refine wpL_nil (Qb_normal ?_)
      refine wpL_region ?_
      refine sY hf hs rfl rfl rfl (Y_move rfl rfl) ?_; clear hf; intro a hf
      refine sY hf hs rfl rfl rfl (Y_add rfl rfl rfl) ?_; clear hf; intro a hf
      refine sY hf hs rfl rfl rfl (Y_assign rfl rfl) ?_; clear hf; intro a hf
      refine wpO_nil ?_
      refine wpL_nil (Ql_normal ?_)
      exact ⟨(IntKind.i64.wrap (x15 + 1)), hm24, (FrD.pick (FrD.pick (FrD.pick hf.none hf rfl) hf rfl) hf rfl), hs⟩
    ·have hm24 := bif_f hm24 hb26
     refine wpL_exit (Ql_exit (Qb_exit ?_))
     exact ⟨Option.some.inj hm24, hf.none, hs⟩
  ·rintro a w ⟨hr_, hf, hs⟩
   subst hr_
   try dsimp only at hm
   refine wpL_seq <| wpL_region ?_
   refine sY hf hs rfl rfl rfl (Y_assign rfl rfl) ?_; clear hf; intro a hf
   refine wpO_nil ?_
   obtain rfl := Option.some.inj hm
   refine wpL_ret (ret_tmp rfl hf rfl ?_)
   exact ⟨_, rfl, rfl, hs⟩

set_option maxHeartbeats 2000000 in
set_option maxRecDepth 100000 in
theorem laws_FnDelays_ok (F : Nat) (p0 : List Int) (au : Option Addr) (aX aw : Nat) (bY : aX = p0.length) (r : Bool) (W : World) (hm : laws_FnDelays F p0 = some r) (aZ : Rd W au (bytes p0)) :
  Calls Try.prog 8 [.slice au aX aw].toArray W fun e w' => ∃ v, e = .returned v ∧ v = .bool r ∧ St [] W w' [] := by
 subst bY
 unfold laws_FnDelays at hm
 refine Calls.enter (N := 198) Try.func8 rfl rfl rfl (fun a hf => ?_)
 have hs := St.start W
 obtain ⟨w, hw_⟩ : ∃ w, w = W := ⟨W, rfl⟩
 clear hw_ w
 refine wpL_seq <| wpL_region ?_
 refine sY hf hs rfl rfl rfl (Y_assign rfl rfl) ?_; clear hf; intro a hf
 refine wpO_nil <| wpL_seq <| wpL_seq <| wpL_region ?_
 refine sY hf hs rfl rfl rfl (Y_move rfl rfl) ?_; clear hf; intro a hf
 obtain ⟨r1, hc2, hm⟩ := bind_some hm
 refine sCall hf rfl rfl rfl rfl (cap := []) rfl rfl en9 (laws_big_ok F p0 au p0.length aw rfl _ _ hc2 (aZ.at hs)) ?_; clear hf
 rintro _ w ⟨rfl, hs1⟩ a hf
 have hs : St _ W w [] := hs.ext hs1.below
 clear hs1
 refine wpO_nil ?_
 refine wpL_cond hf rfl (fun hb3 => ?_) (fun hb3 => ?_)
 ·have hm := bif_t hm hb3
  refine wpL_seq <| wpL_region ?_
  refine sY hf hs rfl rfl rfl (Y_assign rfl rfl) ?_; clear hf; intro a hf
  refine wpO_nil ?_
  obtain rfl := Option.some.inj hm
  refine wpL_ret (ret_tmp rfl hf rfl ?_)
  exact ⟨_, rfl, rfl, hs⟩
 ·have hm := bif_f hm hb3
  refine wpL_skip <| wpL_seq <| wpL_region ?_
  refine sY hf hs rfl rfl rfl (Y_move rfl rfl) ?_; clear hf; intro a hf
  obtain ⟨r4, hc5, hm⟩ := bind_some hm
  refine sCall hf rfl rfl rfl rfl (cap := []) rfl rfl en56 (spec_DrawDelayTable_ok F p0 au p0.length aw rfl _ _ hc5 (aZ.at hs)) ?_; clear hf
  rintro _ w ⟨A6, n7, c8, A10, n11, c12, A14, n15, c16, rfl, hn9, hn13, hn17, hs1⟩ a hf
  have hs : St _ W w [.row A6 n7 c8 64 4 ((recs GPlace.cells) r4.1.Places), .row A10 n11 c12 2 1 (ints r4.2.1.Starts), .row A14 n15 c16 2 1 (ints r4.2.2.1)] := hs.join hs1
  clear hs1
  refine sY hf hs rfl rfl rfl (Y_move rfl rfl) ?_; clear hf; intro a hf
  refine sY hf hs rfl rfl rfl (Y_extract rfl rfl rfl) ?_; clear hf; intro a hf
  refine sY hf hs rfl rfl rfl (Y_extract rfl rfl rfl) ?_; clear hf; intro a hf
  refine sY hf hs rfl rfl rfl (Y_extract rfl rfl rfl) ?_; clear hf; intro a hf
  refine sY hf hs rfl rfl rfl (Y_extract rfl rfl rfl) ?_; clear hf; intro a hf
  refine sAlloc hf hs rfl rfl rfl rfl ti55 ?_; clear hf hs; intro a w b18 hs hf
  have hs : St _ W w [_, _, _, .blk b18 55 [.int .i64 0, .slice none 0 0]] := hs
  refine sAlloc hf hs rfl rfl rfl rfl ti66 ?_; clear hf hs; intro a w b19 hs hf
  have hs : St _ W w [_, _, _, _, .blk b19 66 [.int .i64 0, .slice none 0 0]] := hs
  refine sStore (i := 3) (us := [.int .i64 r4.1.Events, .slice A6 n7 c8]) hf hs rfl rfl rfl rfl rfl rfl ti55 rfl rfl rfl (Nat.le_of_ble_eq_true rfl) rfl ?_; clear hs; intro w hs
  have hs : St _ W w [_, _, _, .blk b18 55 [.int .i64 r4.1.Events, .slice A6 n7 c8], _] := hs
  refine sStore (i := 4) (us := [.int .i64 r4.2.1.Period, .slice A10 n11 c12]) hf hs rfl rfl rfl rfl rfl rfl ti66 rfl rfl rfl (Nat.le_of_ble_eq_true rfl) rfl ?_; clear hs; intro w hs
  have hs : St _ W w [_, _, _, _, .blk b19 66 [.int .i64 r4.2.1.Period, .slice A10 n11 c12]] := hs
  refine sY hf hs rfl rfl rfl (Y_assign rfl rfl) ?_; clear hf; intro a hf
  refine sY hf hs rfl rfl rfl (Y_assign rfl rfl) ?_; clear hf; intro a hf
  refine wpO_nil <| wpL_seq <| wpL_region ?_
  refine sY hf hs rfl rfl rfl (Y_load_blkS rfl rfl (i := 3) rfl ag55 ti55 rfl) ?_; clear hf; intro a hf
  refine sY hf hs rfl rfl rfl (Y_load_blkS rfl rfl (i := 4) rfl ag66 ti66 rfl) ?_; clear hf; intro a hf
  refine sY hf hs rfl rfl rfl (Y_move rfl rfl) ?_; clear hf; intro a hf
  refine sY hf hs rfl rfl rfl (Y_move rfl rfl) ?_; clear hf; intro a hf
  obtain ⟨r20, hc21, hm⟩ := bind_some hm
  refine sCall hf rfl rfl rfl rfl (cap := []) rfl rfl en57 (impl_DelayTable_ok F (GEventGraph.mk r4.1.Events r4.1.Places) A6 n7 c8 hn9 (GTimetable.mk r4.2.1.Period r4.2.1.Starts) A10 n11 c12 hn13 r4.2.2.1 A14 n15 c16 hn17 r4.2.2.2 _ _ hc21 (hs.rd (i := 0) rfl) (hs.rd (i := 1) rfl) (hs.rd (i := 2) rfl)) ?_; clear hf
  rintro _ w ⟨A22, n23, c24, vs26, rfl, hn25, hs1⟩ a hf
  have hs : St _ W w [_, _, _, _, _, .mat A22 n23 c24 28 2 vs26 r20.1] := hs.join hs1
  clear hs1
  refine sY hf hs rfl rfl rfl (Y_move rfl rfl) ?_; clear hf; intro a hf
  refine sY hf hs rfl rfl rfl (Y_extract rfl rfl rfl) ?_; clear hf; intro a hf
  refine sY hf hs rfl rfl rfl (Y_extract rfl rfl rfl) ?_; clear hf; intro a hf
  refine sY hf hs rfl rfl rfl (Y_assign rfl rfl) ?_; clear hf; intro a hf
  refine sY hf hs rfl rfl rfl (Y_assign rfl rfl) ?_; clear hf; intro a hf
  refine wpO_nil <| wpL_seq <| wpL_region ?_
  refine sY hf hs rfl rfl rfl (Y_load_blkS rfl rfl (i := 3) rfl ag55 ti55 rfl) ?_; clear hf; intro a hf
  refine sY hf hs rfl rfl rfl (Y_load_blkS rfl rfl (i := 4) rfl ag66 ti66 rfl) ?_; clear hf; intro a hf
  refine sY hf hs rfl rfl rfl (Y_move rfl rfl) ?_; clear hf; intro a hf
  refine sY hf hs rfl rfl rfl (Y_move rfl rfl) ?_; clear hf; intro a hf
  obtain ⟨r27, hc28, hm⟩ := bind_some hm
  refine sCall hf rfl rfl rfl rfl (cap := []) rfl rfl en58 (spec_DelayTable_ok F (GEventGraph.mk r4.1.Events r4.1.Places) A6 n7 c8 hn9 (GTimetable.mk r4.2.1.Period r4.2.1.Starts) A10 n11 c12 hn13 r4.2.2.1 A14 n15 c16 hn17 r4.2.2.2 _ _ hc28 (hs.rd (i := 0) rfl) (hs.rd (i := 1) rfl) (hs.rd (i := 2) rfl)) ?_; clear hf
  rintro _ w ⟨A29, n30, c31, vs33, rfl, hn32, hs1⟩ a hf
  have hs : St _ W w [_, _, _, _, _, _, .mat A29 n30 c31 28 2 vs33 r27.1] := hs.join hs1
  clear hs1
  refine sY hf hs rfl rfl rfl (Y_move rfl rfl) ?_; clear hf; intro a hf
  refine sY hf hs rfl rfl rfl (Y_extract rfl rfl rfl) ?_; clear hf; intro a hf
  refine sY hf hs rfl rfl rfl (Y_extract rfl rfl rfl) ?_; clear hf; intro a hf
  refine sY hf hs rfl rfl rfl (Y_assign rfl rfl) ?_; clear hf; intro a hf
  refine sY hf hs rfl rfl rfl (Y_assign rfl rfl) ?_; clear hf; intro a hf
  refine wpO_nil <| wpL_seq <| wpL_region ?_
  refine sY hf hs rfl rfl rfl (Y_move rfl rfl) ?_; clear hf; intro a hf
  obtain ⟨r34, hc35, hm⟩ := bind_some hm
  refine sCall hf rfl rfl rfl rfl (cap := []) rfl rfl en59 (spec_DrawWorstDelays_ok F p0 au p0.length aw rfl _ _ hc35 (aZ.at hs)) ?_; clear hf
  rintro _ w ⟨A36, n37, c38, A40, n41, c42, A44, n45, c46, rfl, hn39, hn43, hn47, hs1⟩ a hf
  have hs : St _ W w [_, _, _, _, _, _, _, .row A36 n37 c38 64 4 ((recs GPlace.cells) r34.1.Places), .row A40 n41 c42 2 1 (ints r34.2.1.Starts), .row A44 n45 c46 2 1 (ints r34.2.2)] := hs.join hs1
  clear hs1
  refine sY hf hs rfl rfl rfl (Y_move rfl rfl) ?_; clear hf; intro a hf
  refine sY hf hs rfl rfl rfl (Y_extract rfl rfl rfl) ?_; clear hf; intro a hf
  refine sY hf hs rfl rfl rfl (Y_extract rfl rfl rfl) ?_; clear hf; intro a hf
  refine sY hf hs rfl rfl rfl (Y_extract rfl rfl rfl) ?_; clear hf; intro a hf
  refine sAlloc hf hs rfl rfl rfl rfl ti55 ?_; clear hf hs; intro a w b48 hs hf
  have hs : St _ W w [_, _, _, _, _, _, _, _, _, _, .blk b48 55 [.int .i64 0, .slice none 0 0]] := hs
  refine sAlloc hf hs rfl rfl rfl rfl ti66 ?_; clear hf hs; intro a w b49 hs hf
  have hs : St _ W w [_, _, _, _, _, _, _, _, _, _, _, .blk b49 66 [.int .i64 0, .slice none 0 0]] := hs
  refine sStore (i := 10) (us := [.int .i64 r34.1.Events, .slice A36 n37 c38]) hf hs rfl rfl rfl rfl rfl rfl ti55 rfl rfl rfl (Nat.le_of_ble_eq_true rfl) rfl ?_; clear hs; intro w hs
  have hs : St _ W w [_, _, _, _, _, _, _, _, _, _, .blk b48 55 [.int .i64 r34.1.Events, .slice A36 n37 c38], _] := hs
  refine sStore (i := 11) (us := [.int .i64 r34.2.1.Period, .slice A40 n41 c42]) hf hs rfl rfl rfl rfl rfl rfl ti66 rfl rfl rfl (Nat.le_of_ble_eq_true rfl) rfl ?_; clear hs; intro w hs
  have hs : St _ W w [_, _, _, _, _, _, _, _, _, _, _, .blk b49 66 [.int .i64 r34.2.1.Period, .slice A40 n41 c42]] := hs
  refine sY hf hs rfl rfl rfl (Y_assign rfl rfl) ?_; clear hf; intro a hf
  refine wpO_nil <| wpL_seq <| wpL_region ?_
  refine sY hf hs rfl rfl rfl (Y_load_blkS rfl rfl (i := 10) rfl ag55 ti55 rfl) ?_; clear hf; intro a hf
  refine sY hf hs rfl rfl rfl (Y_load_blkS rfl rfl (i := 11) rfl ag66 ti66 rfl) ?_; clear hf; intro a hf
  refine sY hf hs rfl rfl rfl (Y_move rfl rfl) ?_; clear hf; intro a hf
  obtain ⟨r50, hc51, hm⟩ := bind_some hm
  refine sCall hf rfl rfl rfl rfl (cap := []) rfl rfl en60 (impl_WorstDelays_ok F (GEventGraph.mk r34.1.Events r34.1.Places) A36 n37 c38 hn39 (GTimetable.mk r34.2.1.Period r34.2.1.Starts) A40 n41 c42 hn43 r34.2.2 A44 n45 c46 hn47 _ _ hc51 (hs.rd (i := 7) rfl) (hs.rd (i := 8) rfl) (hs.rd (i := 9) rfl)) ?_; clear hf
  rintro _ w ⟨A52, n53, c54, rfl, hn55, hs1⟩ a hf
  have hs : St _ W w [_, _, _, _, _, _, _, _, _, _, _, _, .row A52 n53 c54 2 1 (ints r50.1)] := hs.join hs1
  clear hs1
  refine sY hf hs rfl rfl rfl (Y_move rfl rfl) ?_; clear hf; intro a hf
  refine sY hf hs rfl rfl rfl (Y_extract rfl rfl rfl) ?_; clear hf; intro a hf
  refine sY hf hs rfl rfl rfl (Y_extract rfl rfl rfl) ?_; clear hf; intro a hf
  refine sY hf hs rfl rfl rfl (Y_assign rfl rfl) ?_; clear hf; intro a hf
  refine sY hf hs rfl rfl rfl (Y_assign rfl rfl) ?_; clear hf; intro a hf
  refine wpO_nil <| wpL_seq <| wpL_region ?_
  refine sY hf hs rfl rfl rfl (Y_load_blkS rfl rfl (i := 10) rfl ag55 ti55 rfl) ?_; clear hf; intro a hf
  refine sY hf hs rfl rfl rfl (Y_load_blkS rfl rfl (i := 11) rfl ag66 ti66 rfl) ?_; clear hf; intro a hf
  refine sY hf hs rfl rfl rfl (Y_move rfl rfl) ?_; clear hf; intro a hf
  obtain ⟨r56, hc57, hm⟩ := bind_some hm
  refine sCall hf rfl rfl rfl rfl (cap := []) rfl rfl en61 (spec_WorstDelays_ok F (GEventGraph.mk r34.1.Events r34.1.Places) A36 n37 c38 hn39 (GTimetable.mk r34.2.1.Period r34.2.1.Starts) A40 n41 c42 hn43 r34.2.2 A44 n45 c46 hn47 _ _ hc57 (hs.rd (i := 7) rfl) (hs.rd (i := 8) rfl) (hs.rd (i := 9) rfl)) ?_; clear hf
  rintro _ w ⟨A58, n59, c60, rfl, hn61, hs1⟩ a hf
  have hs : St _ W w [_, _, _, _, _, _, _, _, _, _, _, _, _, .row A58 n59 c60 2 1 (ints r56.1)] := hs.join hs1
  clear hs1
  refine sY hf hs rfl rfl rfl (Y_move rfl rfl) ?_; clear hf; intro a hf
  refine sY hf hs rfl rfl rfl (Y_extract rfl rfl rfl) ?_; clear hf; intro a hf
  refine sY hf hs rfl rfl rfl (Y_extract rfl rfl rfl) ?_; clear hf; intro a hf
  refine sY hf hs rfl rfl rfl (Y_assign rfl rfl) ?_; clear hf; intro a hf
  refine sY hf hs rfl rfl rfl (Y_assign rfl rfl) ?_; clear hf; intro a hf
  refine wpO_nil <| wpL_seq <| wpL_seq ?_
  obtain ⟨r70, hj71, hm⟩ := bind_some hm
  refine wpL_cut (fun a w => ∃ b69 : Bool, b69 = r70 ∧ Fr a 198 [(0, .slice au p0.length aw), (3, .pointer (some ⟨b18, 0, none⟩)), (4, .pointer (some ⟨b19, 0, none⟩)), (5, .slice A14 n15 c16), (6, .int .i64 r4.2.2.2), (7, .slice A22 n23 c24), (8, .int .i64 r20.2), (90, .bool b69)] ∧ St [] W w [.blk b18 55 [.int .i64 r4.1.Events, .slice A6 n7 c8], .row A6 n7 c8 64 4 ((recs GPlace.cells) r4.1.Places), .blk b19 66 [.int .i64 r4.2.1.Period, .slice A10 n11 c12], .row A10 n11 c12 2 1 (ints r4.2.1.Starts), .row A14 n15 c16 2 1 (ints r4.2.2.1), .mat A22 n23 c24 28 2 vs26 r20.1]) ?_ ?_
  ·refine wpL_region ?_
   refine sY hf hs rfl rfl rfl (Y_move rfl rfl) ?_; clear hf; intro a hf
   refine sY hf hs rfl rfl rfl (Y_move rfl rfl) ?_; clear hf; intro a hf
   refine sY hf hs rfl rfl rfl (Y_neq rfl rfl rfl) ?_; clear hf; intro a hf
   refine sY hf hs rfl rfl rfl (Y_move rfl rfl) ?_; clear hf; intro a hf
   refine bsplit (r20.2 != r27.2) (fun hb72 => ?_) (fun hb72 => ?_)
   ·have hj71 := bif_t hj71 hb72
    refine sNo hf rfl rfl rfl (congrArg (fun b => some (Value.bool b)) hb72) rfl rfl rfl ?_; clear hf; intro a hf
    refine sNo hf rfl rfl rfl (congrArg (fun b => some (Value.bool b)) hb72) rfl rfl rfl ?_; clear hf; intro a hf
    refine sNo hf rfl rfl rfl (congrArg (fun b => some (Value.bool b)) hb72) rfl rfl rfl ?_; clear hf; intro a hf
    refine sNo hf rfl rfl rfl (congrArg (fun b => some (Value.bool b)) hb72) rfl rfl rfl ?_; clear hf; intro a hf
    refine sY hf hs rfl rfl rfl (Y_pickT rfl (congrArg (fun b => some (Value.bool b)) hb72) rfl) ?_; clear hf; intro a hf
    refine sY hf hs rfl rfl rfl (Y_move rfl rfl) ?_; clear hf; intro a hf
    refine sNo hf rfl rfl rfl rfl rfl rfl rfl ?_; clear hf; intro a hf
    refine sNo hf rfl rfl rfl rfl rfl rfl rfl ?_; clear hf; intro a hf
    refine sNo hf rfl rfl rfl rfl rfl rfl rfl ?_; clear hf; intro a hf
    refine sY hf hs rfl rfl rfl (Y_pickT rfl rfl rfl) ?_; clear hf; intro a hf
    refine sY hf hs rfl rfl rfl (Y_move rfl rfl) ?_; clear hf; intro a hf
    refine sNo hf rfl rfl rfl rfl rfl rfl rfl ?_; clear hf; intro a hf
    refine sNo hf rfl rfl rfl rfl rfl rfl rfl ?_; clear hf; intro a hf
    refine sNo hf rfl rfl rfl rfl rfl rfl rfl ?_; clear hf; intro a hf
    refine sNo hf rfl rfl rfl rfl rfl rfl rfl ?_; clear hf; intro a hf
    refine sY hf hs rfl rfl rfl (Y_pickT rfl rfl rfl) ?_; clear hf; intro a hf
    refine wpO_nil ?_
    refine wpL_nil (then_normal ?_)
    exact ⟨true, Option.some.inj hj71, (FrD.pick (FrD.pick (FrD.pick (FrD.pick (FrD.pick (FrD.pick (FrD.pick (FrD.pick hf.none hf rfl) hf rfl) hf rfl) hf rfl) hf rfl) hf rfl) hf rfl) hf rfl), hs.sel [3, 0, 4, 1, 2, 5] (by decide)⟩
   ·have hj71 := bif_f hj71 hb72
    refine sYg hf hs rfl rfl rfl (congrArg (fun b => some (Value.bool b)) hb72) rfl rfl rfl (Y_move rfl rfl) ?_; clear hf; intro a hf
    refine sYg hf hs rfl rfl rfl (congrArg (fun b => some (Value.bool b)) hb72) rfl rfl rfl (Y_move rfl rfl) ?_; clear hf; intro a hf
    obtain ⟨r73, hc74, hj71⟩ := bind_some hj71
    refine sCallg hf rfl rfl rfl (congrArg (fun b => some (Value.bool b)) hb72) rfl rfl rfl rfl (cap := []) rfl rfl en31 (laws_likeTables9_ok F r20.1 A22 n23 c24 hn25 r27.1 A29 n30 c31 hn32 _ _ hc74 (hs.rdM (i := 5) rfl) (hs.rdM (i := 6) rfl)) ?_; clear hf
    rintro _ w ⟨rfl, hs1⟩ a hf
    have hs : St _ W w [_, _, _, _, _, _, _, _, _, _, _, _, _, _] := hs.ext hs1.below
    clear hs1
    refine sYg hf hs rfl rfl rfl (congrArg (fun b => some (Value.bool b)) hb72) rfl rfl rfl (Y_not rfl rfl) ?_; clear hf; intro a hf
    refine sY hf hs rfl rfl rfl (Y_pickF rfl (congrArg (fun b => some (Value.bool b)) hb72) rfl) ?_; clear hf; intro a hf
    refine sY hf hs rfl rfl rfl (Y_move rfl rfl) ?_; clear hf; intro a hf
    refine bsplit (!r73) (fun hb75 => ?_) (fun hb75 => ?_)
    ·have hj71 := bif_t hj71 hb75
     refine sNo hf rfl rfl rfl (congrArg (fun b => some (Value.bool b)) hb75) rfl rfl rfl ?_; clear hf; intro a hf
     refine sNo hf rfl rfl rfl (congrArg (fun b => some (Value.bool b)) hb75) rfl rfl rfl ?_; clear hf; intro a hf
     refine sNo hf rfl rfl rfl (congrArg (fun b => some (Value.bool b)) hb75) rfl rfl rfl ?_; clear hf; intro a hf
     refine sY hf hs rfl rfl rfl (Y_pickT rfl (congrArg (fun b => some (Value.bool b)) hb75) rfl) ?_; clear hf; intro a hf
     refine sY hf hs rfl rfl rfl (Y_move rfl rfl) ?_; clear hf; intro a hf
     refine sNo hf rfl rfl rfl rfl rfl rfl rfl ?_; clear hf; intro a hf
     refine sNo hf rfl rfl rfl rfl rfl rfl rfl ?_; clear hf; intro a hf
     refine sNo hf rfl rfl rfl rfl rfl rfl rfl ?_; clear hf; intro a hf
     refine sNo hf rfl rfl rfl rfl rfl rfl rfl ?_; clear hf; intro a hf
     refine sY hf hs rfl rfl rfl (Y_pickT rfl rfl rfl) ?_; clear hf; intro a hf
     refine wpO_nil ?_
     refine wpL_nil (then_normal ?_)
     exact ⟨true, Option.some.inj hj71, (FrD.pick (FrD.pick (FrD.pick (FrD.pick (FrD.pick (FrD.pick (FrD.pick (FrD.pick hf.none hf rfl) hf rfl) hf rfl) hf rfl) hf rfl) hf rfl) hf rfl) hf rfl), hs.sel [3, 0, 4, 1, 2, 5] (by decide)⟩
    ·have hj71 := bif_f hj71 hb75
     refine sYg hf hs rfl rfl rfl (congrArg (fun b => some (Value.bool b)) hb75) rfl rfl rfl (Y_move rfl rfl) ?_; clear hf; intro a hf
     refine sYg hf hs rfl rfl rfl (congrArg (fun b => some (Value.bool b)) hb75) rfl rfl rfl (Y_move rfl rfl) ?_; clear hf; intro a hf
     refine sYg hf hs rfl rfl rfl (congrArg (fun b => some (Value.bool b)) hb75) rfl rfl rfl (Y_neq rfl rfl rfl) ?_; clear hf; intro a hf
     refine sY hf hs rfl rfl rfl (Y_pickF rfl (congrArg (fun b => some (Value.bool b)) hb75) rfl) ?_; clear hf; intro a hf
     refine sY hf hs rfl rfl rfl (Y_move rfl rfl) ?_; clear hf; intro a hf
     refine bsplit (r50.2 != r56.2) (fun hb76 => ?_) (fun hb76 => ?_)
     ·have hj71 := bif_t hj71 hb76
      refine sNo hf rfl rfl rfl (congrArg (fun b => some (Value.bool b)) hb76) rfl rfl rfl ?_; clear hf; intro a hf
      refine sNo hf rfl rfl rfl (congrArg (fun b => some (Value.bool b)) hb76) rfl rfl rfl ?_; clear hf; intro a hf
      refine sNo hf rfl rfl rfl (congrArg (fun b => some (Value.bool b)) hb76) rfl rfl rfl ?_; clear hf; intro a hf
      refine sNo hf rfl rfl rfl (congrArg (fun b => some (Value.bool b)) hb76) rfl rfl rfl ?_; clear hf; intro a hf
      refine sY hf hs rfl rfl rfl (Y_pickT rfl (congrArg (fun b => some (Value.bool b)) hb76) rfl) ?_; clear hf; intro a hf
      refine wpO_nil ?_
      refine wpL_nil (then_normal ?_)
      exact ⟨true, Option.some.inj hj71, (FrD.pick (FrD.pick (FrD.pick (FrD.pick (FrD.pick (FrD.pick (FrD.pick (FrD.pick hf.none hf rfl) hf rfl) hf rfl) hf rfl) hf rfl) hf rfl) hf rfl) hf rfl), hs.sel [3, 0, 4, 1, 2, 5] (by decide)⟩
     ·have hj71 := bif_f hj71 hb76
      refine sYg hf hs rfl rfl rfl (congrArg (fun b => some (Value.bool b)) hb76) rfl rfl rfl (Y_move rfl rfl) ?_; clear hf; intro a hf
      refine sYg hf hs rfl rfl rfl (congrArg (fun b => some (Value.bool b)) hb76) rfl rfl rfl (Y_move rfl rfl) ?_; clear hf; intro a hf
      obtain ⟨r77, hc78, hj71⟩ := bind_some hj71
      refine sCallg hf rfl rfl rfl (congrArg (fun b => some (Value.bool b)) hb76) rfl rfl rfl rfl (cap := []) rfl rfl en21 (laws_likeInts_ok F r50.1 A52 n53 c54 hn55 r56.1 A58 n59 c60 hn61 _ _ hc78 (hs.rd (i := 12) rfl) (hs.rd (i := 13) rfl)) ?_; clear hf
      rintro _ w ⟨rfl, hs1⟩ a hf
      have hs : St _ W w [_, _, _, _, _, _, _, _, _, _, _, _, _, _] := hs.ext hs1.below
      clear hs1
      refine sYg hf hs rfl rfl rfl (congrArg (fun b => some (Value.bool b)) hb76) rfl rfl rfl (Y_not rfl rfl) ?_; clear hf; intro a hf
      refine sY hf hs rfl rfl rfl (Y_pickF rfl (congrArg (fun b => some (Value.bool b)) hb76) rfl) ?_; clear hf; intro a hf
      refine wpO_nil ?_
      refine wpL_nil (then_normal ?_)
      exact ⟨(!r77), Option.some.inj hj71, (FrD.pick (FrD.pick (FrD.pick (FrD.pick (FrD.pick (FrD.pick (FrD.pick (FrD.pick hf.none hf rfl) hf rfl) hf rfl) hf rfl) hf rfl) hf rfl) hf rfl) hf rfl), hs.sel [3, 0, 4, 1, 2, 5] (by decide)⟩
  ·rintro a w ⟨b69, hr_, hf, hs⟩
   subst hr_
   try dsimp only at hm
   refine wpL_cond hf rfl (fun hb79 => ?_) (fun hb79 => ?_)
   ·have hm := bif_t hm hb79
    refine wpL_seq <| wpL_region ?_
    refine sY hf hs rfl rfl rfl (Y_assign rfl rfl) ?_; clear hf; intro a hf
    refine wpO_nil ?_
    obtain rfl := Option.some.inj hm
    refine wpL_ret (ret_tmp rfl hf rfl ?_)
    exact ⟨_, rfl, rfl, hs.sel [] (by decide)⟩
   ·have hm := bif_f hm hb79
    refine wpL_skip <| wpL_seq <| wpL_seq <| wpL_region ?_
    refine sY hf hs rfl rfl rfl (Y_move rfl rfl) ?_; clear hf; intro a hf
    refine sY hf hs rfl rfl rfl (Y_neq rfl rfl rfl) ?_; clear hf; intro a hf
    refine wpO_nil ?_
    refine wpL_cond hf rfl (fun hb80 => ?_) (fun hb80 => ?_)
    ·have hm := bif_t hm hb80
     refine wpL_seq <| wpL_region ?_
     refine sY hf hs rfl rfl rfl (Y_assign rfl rfl) ?_; clear hf; intro a hf
     refine wpO_nil ?_
     obtain rfl := Option.some.inj hm
     refine wpL_ret (ret_tmp rfl hf rfl ?_)
     exact ⟨_, rfl, rfl, hs.sel [] (by decide)⟩
    ·have hm := bif_f hm hb80
     refine wpL_skip <| wpL_seq <| wpL_region ?_
     refine sY hf hs rfl rfl rfl (Y_assign rfl rfl) ?_; clear hf; intro a hf
     refine wpO_nil <| wpL_seq <| wpL_region ?_
     refine sEmpty hf hs rfl rfl rfl rfl el28 ti2 ?_; clear hf hs; intro a w A81 hs hf
     have hs : St _ W w [_, _, _, _, _, _, .row A81 0 0 2 1 (ints ([] : List Int))] := hs
     refine sY hf hs rfl rfl rfl (Y_assign rfl rfl) ?_; clear hf; intro a hf
     refine wpO_nil <| wpL_seq <| wpL_region ?_
     refine sY hf hs rfl rfl rfl (Y_move rfl rfl) ?_; clear hf; intro a hf
     obtain ⟨r83, hc84, hm⟩ := bind_some hm
     refine sCall hf rfl rfl rfl rfl (cap := []) rfl rfl en62 (laws_roll_ok F p0 au p0.length aw rfl 2101 _ _ hc84 (aZ.at hs)) ?_; clear hf
     rintro _ w ⟨b85, rfl, hs1⟩ a hf
     have hs : St _ W w [_, _, _, _, _, _, _, .blk b85 146 [.slice au p0.length aw, .int .i64 r83.1, .int .u64 r83.2]] := hs.join hs1
     clear hs1
     refine sY hf hs rfl rfl rfl (Y_assign rfl rfl) ?_; clear hf; intro a hf
     refine wpO_nil <| wpL_seq <| wpL_seq <| wpL_region ?_
     refine sY hf hs rfl rfl rfl (Y_assign rfl rfl) ?_; clear hf; intro a hf
     refine wpO_nil ?_
     obtain ⟨r179, hl180, hm⟩ := bind_some hm
     refine wpL_block (fun a w => ∃ x173 : Int, ∃ xs174 : List Int, ∃ A175, ∃ n176, ∃ c177, (x173, xs174) = r179 ∧ n176 = xs174.length ∧ Fr a 198 [(3, .pointer (some ⟨b18, 0, none⟩)), (4, .pointer (some ⟨b19, 0, none⟩)), (5, .slice A14 n15 c16), (6, .int .i64 r4.2.2.2), (7, .slice A22 n23 c24), (18, .int .i64 x173), (19, .slice A175 n176 c177)] ∧ St [] W w [.blk b18 55 [.int .i64 r4.1.Events, .slice A6 n7 c8], .row A6 n7 c8 64 4 ((recs GPlace.cells) r4.1.Places), .blk b19 66 [.int .i64 r4.2.1.Period, .slice A10 n11 c12], .row A10 n11 c12 2 1 (ints r4.2.1.Starts), .row A14 n15 c16 2 1 (ints r4.2.2.1), .mat A22 n23 c24 28 2 vs26 r20.1, .row A175 n176 c177 2 1 (ints xs174)]) ?_ ?_
     ·refine wpL_loop (fun n a w => ∃ x141 : Int, ∃ xs142 : List Int, ∃ x147 : Int, ∃ x148 : Int, ∃ x149 : Int, ∃ A143, ∃ n144, ∃ c145, laws_FnDelays_L1 F p0 r4 n x141 xs142 x147 x148 x149 = some r179 ∧ n144 = xs142.length ∧ Fr a 198 [(3, .pointer (some ⟨b18, 0, none⟩)), (4, .pointer (some ⟨b19, 0, none⟩)), (5, .slice A14 n15 c16), (6, .int .i64 r4.2.2.2), (7, .slice A22 n23 c24), (18, .int .i64 x141), (19, .slice A143 n144 c145), (20, .pointer (some ⟨b85, 0, none⟩)), (21, .int .i64 x149)] ∧ St [] W w [.blk b18 55 [.int .i64 r4.1.Events, .slice A6 n7 c8], .row A6 n7 c8 64 4 ((recs GPlace.cells) r4.1.Places), .blk b19 66 [.int .i64 r4.2.1.Period, .slice A10 n11 c12], .row A10 n11 c12 2 1 (ints r4.2.1.Starts), .row A14 n15 c16 2 1 (ints r4.2.2.1), .mat A22 n23 c24 28 2 vs26 r20.1, .row A143 n144 c145 2 1 (ints xs142), .blk b85 146 [.slice au p0.length aw, .int .i64 x147, .int .u64 x148]]) F ?_ ?_ ?_
      ·exact ⟨0, ([] : List Int), r83.1, r83.2, 0, A81, 0, 0, hl180, rfl, (FrD.pick (FrD.pick (FrD.pick (FrD.pick (FrD.pick (FrD.pick (FrD.pick (FrD.pick (FrD.pick hf.none hf rfl) hf rfl) hf rfl) hf rfl) hf rfl) hf rfl) hf rfl) hf rfl) hf rfl), hs⟩
      ·rintro a w ⟨x141, xs142, x147, x148, x149, A143, n144, c145, h0_, -, -, -⟩; simp [laws_FnDelays_L1] at h0_
      ·rintro n182 a w ⟨x141, xs142, x147, x148, x149, A143, n144, c145, hm181, hn146, hf, hs⟩
       rw [laws_FnDelays_L1] at hm181
       refine wpL_seq <| wpL_seq <| wpL_region ?_
       refine sY hf hs rfl rfl rfl (Y_move rfl rfl) ?_; clear hf; intro a hf
       refine sY hf hs rfl rfl rfl (Y_move rfl rfl) ?_; clear hf; intro a hf
       refine sY hf hs rfl rfl rfl (Y_lenH rfl rfl el28 hn17) ?_; clear hf; intro a hf
       refine sY hf hs rfl rfl rfl (Y_lss rfl rfl rfl) ?_; clear hf; intro a hf
       refine wpO_nil ?_
       refine wpL_cond hf rfl (fun hb183 => ?_) (fun hb183 => ?_)
       ·have hm181 := bif_t hm181 hb183
        refine wpL_skip <| wpL_seq <| wpL_block0 <| wpL_seq <| wpL_region ?_
        refine sY hf hs rfl rfl rfl (Y_move rfl rfl) ?_; clear hf; intro a hf
        refine sY hf hs rfl rfl rfl (Y_move rfl rfl) ?_; clear hf; intro a hf
        refine sY hf hs rfl rfl rfl (Y_move rfl rfl) ?_; clear hf; intro a hf
        obtain ⟨q184, hi185, hm181⟩ := bind_some hm181
        obtain ⟨hi185a, hi185b, hi185q⟩ := idx_some hi185
        refine sY hf hs rfl rfl rfl (Y_index rfl rfl rfl el28 ti2 (Rd.isAt (hs.rd (i := 4) rfl) (at1 (ints_at hi185q))) hi185a (ltn hn17 hi185b)) ?_; clear hf; intro a hf
        refine sY hf hs rfl rfl rfl (Y_load_rd rfl rfl (fun w hs => hs.rd (i := 4) rfl) (at1 (ints_at hi185q)) ag2) ?_; clear hf; intro a hf
        refine sY hf hs rfl rfl rfl (Y_max rfl rfl rfl) ?_; clear hf; intro a hf
        refine sY hf hs rfl rfl rfl (Y_assign rfl rfl) ?_; clear hf; intro a hf
        refine wpO_nil ?_
        refine wpL_drawM [.blk b18 55 [.int .i64 r4.1.Events, .slice A6 n7 c8], .row A6 n7 c8 64 4 ((recs GPlace.cells) r4.1.Places), .blk b19 66 [.int .i64 r4.2.1.Period, .slice A10 n11 c12], .row A10 n11 c12 2 1 (ints r4.2.1.Starts), .row A14 n15 c16 2 1 (ints r4.2.2.1), .mat A22 n23 c24 28 2 vs26 r20.1, .row A143 n144 c145 2 1 (ints xs142)] [9, 10] (by kernel_rfl) hs ?_; clear hs; intro w hs
        have hs0 : St _ W w [_, _, _, _, _, _, _] := hs.sel [0, 1, 2, 3, 4, 5, 6] (by decide)
        refine mYp (i := 0) rfl (by kernel_rfl) (by kernel_rfl) hf rfl rfl rfl (fun _ => Y_move rfl rfl) ?_; clear hf; intro a hf
        refine mYp (i := 1) rfl (by kernel_rfl) (by kernel_rfl) hf rfl rfl rfl (fun _ => Y_move rfl rfl) ?_; clear hf; intro a hf
        refine mYp (i := 2) rfl (by kernel_rfl) (by kernel_rfl) hf rfl rfl rfl (fun _ => Y_move rfl rfl) ?_; clear hf; intro a hf
        obtain ⟨q196, hi197, hm181⟩ := bind_some hm181
        obtain ⟨hi197a, hi197b, hi197q⟩ := idx_some hi197
        refine mYp (i := 3) rfl (by kernel_rfl) (by kernel_rfl) hf rfl rfl rfl (fun _ => Y_index rfl rfl rfl el28 ti2 (Rd.isAt (hs.rd (i := 4) rfl) (at1 (ints_at hi197q))) hi197a (ltn hn17 hi197b)) ?_; clear hf; intro a hf
        refine mY (i := 4) [[7, 8], [7, 8, 9]] rfl (by kernel_rfl) (by kernel_rfl) hf hs0 rfl rfl rfl (Y_load_rd rfl rfl (fun w hs => hs.rd (i := 4) rfl) (at1 (ints_at hi197q)) ag2) ?_; clear hf; intro a hf
        refine mYp (i := 5) rfl (by kernel_rfl) (by kernel_rfl) hf rfl rfl rfl (fun _ => Y_move rfl rfl) ?_; clear hf; intro a hf
        refine mRun (i := 6) rfl (by kernel_rfl) ?_
        obtain ⟨r198, hc199, hm181⟩ := bind_some hm181
        refine sCall hf rfl rfl rfl rfl (cap := []) rfl rfl en63 (laws_dice_below_ok F b85 p0 au p0.length aw rfl x147 x148 4 _ _ hc199 (aZ.pass hs [7]) (hs.sel [7] (by decide)).rebase) ?_; clear hf
        rintro _ w ⟨rfl, hs1⟩ a hf
        have hs : St _ W w [_, _, _, _, _, _, _, .blk b85 146 [.slice au p0.length aw, .int .i64 r198.2.1, .int .u64 r198.2.2]] := St.mutTail (La := [_, _, _, _, _, _, _]) (Lb := [_]) (hs.sel [0, 1, 2, 3, 4, 5, 6, 7] (by decide)) hs1
        clear hs1
        have hs0 : St _ W w [_, _, _, _, _, _, _] := hs.sel [0, 1, 2, 3, 4, 5, 6] (by decide)
        refine wpO_nil ⟨Or.inr (fun _ => hs0), ?_⟩
        refine mYp (i := 7) rfl (by kernel_rfl) (by kernel_rfl) hf rfl rfl rfl (fun _ => Y_add rfl rfl rfl) ?_; clear hf; intro a hf
        refine mYp (i := 8) rfl (by kernel_rfl) (by kernel_rfl) hf rfl rfl rfl (fun _ => Y_min rfl rfl rfl) ?_; clear hf; intro a hf
        refine mRun (i := 9) rfl (by kernel_rfl) ?_
        refine sBuildSlice (parts := [(0, .tmp 116)]) (vs := [.int .i64 (min 1000000 (IntKind.i64.wrap (q196 + r198.1)))]) (cells := [.int .i64 (min 1000000 (IntKind.i64.wrap (q196 + r198.1)))]) hf hs rfl rfl rfl rfl rfl el28 ti2 rfl rfl rfl rfl ?_; clear hf hs; intro a w A200 hs hA201 hf
        have hs : St _ W w [_, _, _, _, _, _, _, _, .row A200 1 1 2 1 (ints ([(min 1000000 (IntKind.i64.wrap (q196 + r198.1)))]))] := hs
        refine wpO_nil ⟨Or.inl (by decide), ?_⟩
        refine mRun (i := 10) rfl (by kernel_rfl) ?_
        obtain ⟨xs204, ha205, hm181⟩ := bind_some hm181
        refine sAppendL (i := 6) (xs := xs142) (ys := [(min 1000000 (IntKind.i64.wrap (q196 + r198.1)))]) (enc := ints) hf hs rfl rfl rfl rfl rfl rfl hn146 rfl rfl ha205 el28 ti2 rfl rfl rfl (hs.rd (i := 8) rfl) (Nat.succ_pos _) ints_len1 ints_append ints_one ?_; clear hf hs; intro a w A202 c203 hs hf
        have hs : St _ W w [_, _, _, _, _, _, .row A202 xs204.length c203 2 1 (ints xs204), _, _] := hs
        refine wpO_nil ⟨Or.inl (by decide), ?_⟩
        refine mYp (i := 11) rfl (by kernel_rfl) (by kernel_rfl) hf rfl rfl rfl (fun _ => Y_assign rfl rfl) ?_; clear hf; intro a hf
        refine mDone (by kernel_rfl) ?_
        clear hs0
        refine wpL_nil (Qb_normal ?_)
        refine wpL_region ?_
        refine sY hf hs rfl rfl rfl (Y_move rfl rfl) ?_; clear hf; intro a hf
        refine sY hf hs rfl rfl rfl (Y_add rfl rfl rfl) ?_; clear hf; intro a hf
        refine sY hf hs rfl rfl rfl (Y_assign rfl rfl) ?_; clear hf; intro a hf
        refine wpO_nil ?_
        refine wpL_nil (Ql_normal ?_)
        exact ⟨(max x141 q184), xs204, r198.2.1, r198.2.2, (IntKind.i64.wrap (x149 + 1)), A202, xs204.length, c203, hm181, rfl, (FrD.pick (FrD.pick (FrD.pick (FrD.pick (FrD.pick (FrD.pick (FrD.pick (FrD.pick (FrD.pick hf.none hf rfl) hf rfl) hf rfl) hf rfl) hf rfl) hf rfl) hf rfl) hf rfl) hf rfl), hs.sel [0, 1, 2, 3, 4, 5, 6, 7] (by decide)⟩
       ·have hm181 := bif_f hm181 hb183
        refine wpL_exit (Ql_exit (Qb_exit ?_))
        exact ⟨x141, xs142, A143, n144, c145, Option.some.inj hm181, hn146, (FrD.pick (FrD.pick (FrD.pick (FrD.pick (FrD.pick (FrD.pick (FrD.pick hf.none hf rfl) hf rfl) hf rfl) hf rfl) hf rfl) hf rfl) hf rfl), hs.sel [0, 1, 2, 3, 4, 5, 6] (by decide)⟩
     ·rintro a w ⟨x173, xs174, A175, n176, c177, hr_, hn178, hf, hs⟩
      subst hr_
      try dsimp only at hm
      refine wpL_seq <| wpL_region ?_
      refine sY hf hs rfl rfl rfl (Y_load_blkS rfl rfl (i := 0) rfl ag55 ti55 rfl) ?_; clear hf; intro a hf
      refine sY hf hs rfl rfl rfl (Y_load_blkS rfl rfl (i := 2) rfl ag66 ti66 rfl) ?_; clear hf; intro a hf
      refine sY hf hs rfl rfl rfl (Y_move rfl rfl) ?_; clear hf; intro a hf
      refine sY hf hs rfl rfl rfl (Y_move rfl rfl) ?_; clear hf; intro a hf
      obtain ⟨r206, hc207, hm⟩ := bind_some hm
      refine sCall hf rfl rfl rfl rfl (cap := []) rfl rfl en57 (impl_DelayTable_ok F (GEventGraph.mk r4.1.Events r4.1.Places) A6 n7 c8 hn9 (GTimetable.mk r4.2.1.Period r4.2.1.Starts) A10 n11 c12 hn13 xs174 A175 n176 c177 hn178 r4.2.2.2 _ _ hc207 (hs.rd (i := 1) rfl) (hs.rd (i := 3) rfl) (hs.rd (i := 6) rfl)) ?_; clear hf
      rintro _ w ⟨A208, n209, c210, vs212, rfl, hn211, hs1⟩ a hf
      have hs : St _ W w [_, _, _, _, _, _, _, .mat A208 n209 c210 28 2 vs212 r206.1] := hs.join hs1
      clear hs1
      refine sY hf hs rfl rfl rfl (Y_move rfl rfl) ?_; clear hf; intro a hf
      refine sY hf hs rfl rfl rfl (Y_extract rfl rfl rfl) ?_; clear hf; intro a hf
      refine sY hf hs rfl rfl rfl (Y_extract rfl rfl rfl) ?_; clear hf; intro a hf
      refine sY hf hs rfl rfl rfl (Y_assign rfl rfl) ?_; clear hf; intro a hf
      refine sY hf hs rfl rfl rfl (Y_assign rfl rfl) ?_; clear hf; intro a hf
      refine wpO_nil <| wpL_seq <| wpL_seq ?_
      obtain ⟨r215, hj216, hm⟩ := bind_some hm
      refine wpL_cut (fun a w => ∃ b214 : Bool, b214 = r215 ∧ Fr a 198 [(5, .slice A14 n15 c16), (7, .slice A22 n23 c24), (18, .int .i64 x173), (22, .slice A208 n209 c210), (135, .bool b214)] ∧ St [] W w [.row A14 n15 c16 2 1 (ints r4.2.2.1), .mat A22 n23 c24 28 2 vs26 r20.1, .mat A208 n209 c210 28 2 vs212 r206.1]) ?_ ?_
      ·refine wpL_region ?_
       refine sY hf hs rfl rfl rfl (Y_move rfl rfl) ?_; clear hf; intro a hf
       refine sY hf hs rfl rfl rfl (Y_neq rfl rfl rfl) ?_; clear hf; intro a hf
       refine sY hf hs rfl rfl rfl (Y_move rfl rfl) ?_; clear hf; intro a hf
       refine bsplit (r206.2 != 0) (fun hb217 => ?_) (fun hb217 => ?_)
       ·have hj216 := bif_t hj216 hb217
        refine sNo hf rfl rfl rfl (congrArg (fun b => some (Value.bool b)) hb217) rfl rfl rfl ?_; clear hf; intro a hf
        refine sNo hf rfl rfl rfl (congrArg (fun b => some (Value.bool b)) hb217) rfl rfl rfl ?_; clear hf; intro a hf
        refine sNo hf rfl rfl rfl (congrArg (fun b => some (Value.bool b)) hb217) rfl rfl rfl ?_; clear hf; intro a hf
        refine sNo hf rfl rfl rfl (congrArg (fun b => some (Value.bool b)) hb217) rfl rfl rfl ?_; clear hf; intro a hf
        refine sNo hf rfl rfl rfl (congrArg (fun b => some (Value.bool b)) hb217) rfl rfl rfl ?_; clear hf; intro a hf
        refine sY hf hs rfl rfl rfl (Y_pickT rfl (congrArg (fun b => some (Value.bool b)) hb217) rfl) ?_; clear hf; intro a hf
        refine wpO_nil ?_
        refine wpL_nil (then_normal ?_)
        exact ⟨true, Option.some.inj hj216, (FrD.pick (FrD.pick (FrD.pick (FrD.pick (FrD.pick hf.none hf rfl) hf rfl) hf rfl) hf rfl) hf rfl), hs.sel [4, 5, 7] (by decide)⟩
       ·have hj216 := bif_f hj216 hb217
        refine sYg hf hs rfl rfl rfl (congrArg (fun b => some (Value.bool b)) hb217) rfl rfl rfl (Y_move rfl rfl) ?_; clear hf; intro a hf
        refine sYg hf hs rfl rfl rfl (congrArg (fun b => some (Value.bool b)) hb217) rfl rfl rfl (Y_lenH rfl rfl el40 hn211) ?_; clear hf; intro a hf
        refine sYg hf hs rfl rfl rfl (congrArg (fun b => some (Value.bool b)) hb217) rfl rfl rfl (Y_move rfl rfl) ?_; clear hf; intro a hf
        refine sYg hf hs rfl rfl rfl (congrArg (fun b => some (Value.bool b)) hb217) rfl rfl rfl (Y_lenH rfl rfl el40 hn25) ?_; clear hf; intro a hf
        refine sYg hf hs rfl rfl rfl (congrArg (fun b => some (Value.bool b)) hb217) rfl rfl rfl (Y_neq rfl rfl rfl) ?_; clear hf; intro a hf
        refine sY hf hs rfl rfl rfl (Y_pickF rfl (congrArg (fun b => some (Value.bool b)) hb217) rfl) ?_; clear hf; intro a hf
        refine wpO_nil ?_
        refine wpL_nil (then_normal ?_)
        exact ⟨((r206.1.length : Int) != (r20.1.length : Int)), Option.some.inj hj216, (FrD.pick (FrD.pick (FrD.pick (FrD.pick (FrD.pick hf.none hf rfl) hf rfl) hf rfl) hf rfl) hf rfl), hs.sel [4, 5, 7] (by decide)⟩
      ·rintro a w ⟨b214, hr_, hf, hs⟩
       subst hr_
       try dsimp only at hm
       refine wpL_cond hf rfl (fun hb218 => ?_) (fun hb218 => ?_)
       ·have hm := bif_t hm hb218
        refine wpL_seq <| wpL_region ?_
        refine sY hf hs rfl rfl rfl (Y_assign rfl rfl) ?_; clear hf; intro a hf
        refine wpO_nil ?_
        obtain rfl := Option.some.inj hm
        refine wpL_ret (ret_tmp rfl hf rfl ?_)
        exact ⟨_, rfl, rfl, hs.sel [] (by decide)⟩
       ·have hm := bif_f hm hb218
        refine wpL_skip <| wpL_seq <| wpL_seq <| wpL_region ?_
        refine sY hf hs rfl rfl rfl (Y_assign rfl rfl) ?_; clear hf; intro a hf
        refine wpO_nil ?_
        obtain ⟨r1025, hl1026, hm⟩ := bind_some hm
        refine wpL_block (fun a w => Sum.inr () = r1025 ∧ Fr a 198 [] ∧ St [] W w []) ?_ ?_
        ·refine wpL_loop (fun n a w => ∃ x756 : Int, laws_FnDelays_L5 F r4 r20 x173 r206 n x756 = some r1025 ∧ Fr a 198 [(5, .slice A14 n15 c16), (7, .slice A22 n23 c24), (18, .int .i64 x173), (22, .slice A208 n209 c210), (24, .int .i64 x756)] ∧ St [] W w [.row A14 n15 c16 2 1 (ints r4.2.2.1), .mat A22 n23 c24 28 2 vs26 r20.1, .mat A208 n209 c210 28 2 vs212 r206.1]) F ?_ ?_ ?_
         ·exact ⟨0, hl1026, (FrD.pick (FrD.pick (FrD.pick (FrD.pick (FrD.pick hf.none hf rfl) hf rfl) hf rfl) hf rfl) hf rfl), hs⟩
         ·rintro a w ⟨x756, h0_, -, -⟩; simp [laws_FnDelays_L5] at h0_
         ·rintro n1028 a w ⟨x756, hm1027, hf, hs⟩
          rw [laws_FnDelays_L5] at hm1027
          refine wpL_seq <| wpL_seq <| wpL_region ?_
          refine sY hf hs rfl rfl rfl (Y_move rfl rfl) ?_; clear hf; intro a hf
          refine sY hf hs rfl rfl rfl (Y_move rfl rfl) ?_; clear hf; intro a hf
          refine sY hf hs rfl rfl rfl (Y_lenH rfl rfl el40 hn25) ?_; clear hf; intro a hf
          refine sY hf hs rfl rfl rfl (Y_lss rfl rfl rfl) ?_; clear hf; intro a hf
          refine wpO_nil ?_
          refine wpL_cond hf rfl (fun hb1029 => ?_) (fun hb1029 => ?_)
          ·have hm1027 := bif_t hm1027 hb1029
           refine wpL_skip <| wpL_seq <| wpL_block0 <| wpL_seq <| wpL_seq ?_
           refine wpL_draw (by kernel_rfl) (by kernel_rfl) hs ?_
           refine qY hf rfl rfl rfl (Y_move rfl rfl) ?_; clear hf; intro a hf
           refine qY hf rfl rfl rfl (Y_move rfl rfl) ?_; clear hf; intro a hf
           obtain ⟨q1030, hi1031, hm1027⟩ := bind_some hm1027
           obtain ⟨hi1031a, hi1031b, hi1031q⟩ := idx_some hi1031
           obtain ⟨A1032, c1033, hv1034⟩ := hs.matRow (i := 1) rfl hi1031q
           refine qY hf rfl rfl rfl (Y_index rfl rfl rfl el40 ti28 (Rd.isAt (hs.rdV (i := 1) rfl) hv1034) hi1031a (ltn hn25 hi1031b)) ?_; clear hf; intro a hf
           refine qY hf rfl rfl rfl (Y_load_rd rfl rfl (fun w hs => hs.rdV (i := 1) rfl) (at1 hv1034) ag28) ?_; clear hf; intro a hf
           refine qY hf rfl rfl rfl (Y_move rfl rfl) ?_; clear hf; intro a hf
           refine qY hf rfl rfl rfl (Y_move rfl rfl) ?_; clear hf; intro a hf
           obtain ⟨q1035, hi1036, hm1027⟩ := bind_some hm1027
           obtain ⟨hi1036a, hi1036b, hi1036q⟩ := idx_some hi1036
           obtain ⟨A1037, c1038, hv1039⟩ := hs.matRow (i := 2) rfl hi1036q
           refine qY hf rfl rfl rfl (Y_index rfl rfl rfl el40 ti28 (Rd.isAt (hs.rdV (i := 2) rfl) hv1039) hi1036a (ltn hn211 hi1036b)) ?_; clear hf; intro a hf
           refine qY hf rfl rfl rfl (Y_load_rd rfl rfl (fun w hs => hs.rdV (i := 2) rfl) (at1 hv1039) ag28) ?_; clear hf; intro a hf
           obtain ⟨r1040, hc1041, hm1027⟩ := bind_some hm1027
           refine qCall hf rfl rfl rfl rfl (cap := []) rfl rfl en23 (v := .bool r1040) (fun w hs => Calls.scal (laws_below9_ok F q1030 A1032 q1030.length c1033 rfl q1035 A1037 q1035.length c1038 rfl _ _ hc1041 (hs.rdRow (i := 1) rfl ⟨hi1031q, hv1034⟩) (hs.rdRow (i := 2) rfl ⟨hi1036q, hv1039⟩))) ?_; clear hf; intro a hf
           refine qY hf rfl rfl rfl (Y_not rfl rfl) ?_; clear hf; intro a hf
           refine qNil ?_; clear hs; intro w hs
           refine wpL_cond hf rfl (fun hb1042 => ?_) (fun hb1042 => ?_)
           ·have hm1027 := bif_t hm1027 hb1042
            refine wpL_seq <| wpL_region ?_
            refine sY hf hs rfl rfl rfl (Y_assign rfl rfl) ?_; clear hf; intro a hf
            refine wpO_nil ?_
            obtain rfl := Option.some.inj hm1027
            try dsimp only at hm
            obtain rfl := Option.some.inj hm
            refine wpL_ret (Qb_ret (Ql_ret (Qb_ret (ret_tmp rfl hf rfl ?_))))
            exact ⟨_, rfl, rfl, hs.sel [] (by decide)⟩
           ·have hm1027 := bif_f hm1027 hb1042
            refine wpL_skip <| wpL_seq <| wpL_region ?_
            refine sY hf hs rfl rfl rfl (Y_assign rfl rfl) ?_; clear hf; intro a hf
            refine wpO_nil ?_
            obtain ⟨r1231, hl1232, hm1027⟩ := bind_some hm1027
            refine wpL_block (fun a w => Sum.inr () = r1231 ∧ Fr a 198 [(5, .slice A14 n15 c16), (7, .slice A22 n23 c24), (18, .int .i64 x173), (22, .slice A208 n209 c210), (24, .int .i64 x756)] ∧ St [] W w [.row A14 n15 c16 2 1 (ints r4.2.2.1), .mat A22 n23 c24 28 2 vs26 r20.1, .mat A208 n209 c210 28 2 vs212 r206.1]) ?_ ?_
            ·refine wpL_loop (fun n a w => ∃ x1168 : Int, laws_FnDelays_L6 F r4 r20 x173 x756 n x1168 = some r1231 ∧ Fr a 198 [(5, .slice A14 n15 c16), (7, .slice A22 n23 c24), (18, .int .i64 x173), (22, .slice A208 n209 c210), (24, .int .i64 x756), (25, .int .i64 x1168)] ∧ St [] W w [.row A14 n15 c16 2 1 (ints r4.2.2.1), .mat A22 n23 c24 28 2 vs26 r20.1, .mat A208 n209 c210 28 2 vs212 r206.1]) F ?_ ?_ ?_
             ·exact ⟨0, hl1232, (FrD.pick (FrD.pick (FrD.pick (FrD.pick (FrD.pick (FrD.pick hf.none hf rfl) hf rfl) hf rfl) hf rfl) hf rfl) hf rfl), hs⟩
             ·rintro a w ⟨x1168, h0_, -, -⟩; simp [laws_FnDelays_L6] at h0_
             ·rintro n1234 a w ⟨x1168, hm1233, hf, hs⟩
              rw [laws_FnDelays_L6] at hm1233
              refine wpL_seq <| wpL_seq <| wpL_region ?_
              refine sY hf hs rfl rfl rfl (Y_move rfl rfl) ?_; clear hf; intro a hf
              refine sY hf hs rfl rfl rfl (Y_move rfl rfl) ?_; clear hf; intro a hf
              refine sY hf hs rfl rfl rfl (Y_move rfl rfl) ?_; clear hf; intro a hf
              obtain ⟨q1235, hi1236, hm1233⟩ := bind_some hm1233
              obtain ⟨hi1236a, hi1236b, hi1236q⟩ := idx_some hi1236
              obtain ⟨A1237, c1238, hv1239⟩ := hs.matRow (i := 1) rfl hi1236q
              refine sY hf hs rfl rfl rfl (Y_index rfl rfl rfl el40 ti28 (Rd.isAt (hs.rdV (i := 1) rfl) hv1239) hi1236a (ltn hn25 hi1236b)) ?_; clear hf; intro a hf
              refine sY hf hs rfl rfl rfl (Y_load_rd rfl rfl (fun w hs => hs.rdV (i := 1) rfl) (at1 hv1239) ag28) ?_; clear hf; intro a hf
              refine sY hf hs rfl rfl rfl (Y_lenH rfl rfl el28 rfl) ?_; clear hf; intro a hf
              refine sY hf hs rfl rfl rfl (Y_lss rfl rfl rfl) ?_; clear hf; intro a hf
              refine wpO_nil ?_
              refine wpL_cond hf rfl (fun hb1240 => ?_) (fun hb1240 => ?_)
              ·have hm1233 := bif_t hm1233 hb1240
               refine wpL_skip <| wpL_seq <| wpL_block0 <| wpL_seq ?_
               obtain ⟨r1268, hj1269, hm1233⟩ := bind_some hm1233
               refine wpL_cut (fun a w => ∃ b1267 : Bool, b1267 = r1268 ∧ Fr a 198 [(5, .slice A14 n15 c16), (7, .slice A22 n23 c24), (18, .int .i64 x173), (22, .slice A208 n209 c210), (24, .int .i64 x756), (25, .int .i64 x1168), (197, .bool b1267)] ∧ St [] W w [.row A14 n15 c16 2 1 (ints r4.2.2.1), .mat A22 n23 c24 28 2 vs26 r20.1, .mat A208 n209 c210 28 2 vs212 r206.1]) ?_ ?_
               ·refine wpL_draw (by kernel_rfl) (by kernel_rfl) hs ?_
                refine qY hf rfl rfl rfl (Y_move rfl rfl) ?_; clear hf; intro a hf
                refine qY hf rfl rfl rfl (Y_move rfl rfl) ?_; clear hf; intro a hf
                obtain ⟨q1270, hi1271, hj1269⟩ := bind_some hj1269
                obtain ⟨hi1271a, hi1271b, hi1271q⟩ := idx_some hi1271
                obtain ⟨A1272, c1273, hv1274⟩ := hs.matRow (i := 1) rfl hi1271q
                refine qY hf rfl rfl rfl (Y_index rfl rfl rfl el40 ti28 (Rd.isAt (hs.rdV (i := 1) rfl) hv1274) hi1271a (ltn hn25 hi1271b)) ?_; clear hf; intro a hf
                refine qY hf rfl rfl rfl (Y_load_rd rfl rfl (fun w hs => hs.rdV (i := 1) rfl) (at1 hv1274) ag28) ?_; clear hf; intro a hf
                refine qY hf rfl rfl rfl (Y_move rfl rfl) ?_; clear hf; intro a hf
                obtain ⟨q1275, hi1276, hj1269⟩ := bind_some hj1269
                obtain ⟨hi1276a, hi1276b, hi1276q⟩ := idx_some hi1276
                refine qY hf rfl rfl rfl (Y_index rfl rfl rfl el28 ti2 (Rd.isAt (hs.rdRow (i := 1) rfl ⟨hi1271q, hv1274⟩) (at1 (ints_at hi1276q))) hi1276a hi1276b) ?_; clear hf; intro a hf
                refine qY hf rfl rfl rfl (Y_load_rd rfl rfl (fun w hs => hs.rdRow (i := 1) rfl ⟨hi1271q, hv1274⟩) (at1 (ints_at hi1276q)) ag2) ?_; clear hf; intro a hf
                refine qY hf rfl rfl rfl (Y_lss rfl rfl rfl) ?_; clear hf; intro a hf
                refine qY hf rfl rfl rfl (Y_move rfl rfl) ?_; clear hf; intro a hf
                refine bsplit (decide (q1275 < 0)) (fun hb1277 => ?_) (fun hb1277 => ?_)
                ·have hj1269 := bif_t hj1269 hb1277
                 refine qNo hf rfl rfl rfl (congrArg (fun b => some (Value.bool b)) hb1277) rfl rfl rfl ?_; clear hf; intro a hf
                 refine qNo hf rfl rfl rfl (congrArg (fun b => some (Value.bool b)) hb1277) rfl rfl rfl ?_; clear hf; intro a hf
                 refine qNo hf rfl rfl rfl (congrArg (fun b => some (Value.bool b)) hb1277) rfl rfl rfl ?_; clear hf; intro a hf
                 refine qNo hf rfl rfl rfl (congrArg (fun b => some (Value.bool b)) hb1277) rfl rfl rfl ?_; clear hf; intro a hf
                 refine qNo hf rfl rfl rfl (congrArg (fun b => some (Value.bool b)) hb1277) rfl rfl rfl ?_; clear hf; intro a hf
                 refine qNo hf rfl rfl rfl (congrArg (fun b => some (Value.bool b)) hb1277) rfl rfl rfl ?_; clear hf; intro a hf
                 refine qNo hf rfl rfl rfl (congrArg (fun b => some (Value.bool b)) hb1277) rfl rfl rfl ?_; clear hf; intro a hf
                 refine qNo hf rfl rfl rfl (congrArg (fun b => some (Value.bool b)) hb1277) rfl rfl rfl ?_; clear hf; intro a hf
                 refine qNo hf rfl rfl rfl (congrArg (fun b => some (Value.bool b)) hb1277) rfl rfl rfl ?_; clear hf; intro a hf
                 refine qY hf rfl rfl rfl (Y_pickT rfl (congrArg (fun b => some (Value.bool b)) hb1277) rfl) ?_; clear hf; intro a hf
                 refine qY hf rfl rfl rfl (Y_move rfl rfl) ?_; clear hf; intro a hf
                 refine qNo hf rfl rfl rfl rfl rfl rfl rfl ?_; clear hf; intro a hf
                 refine qNo hf rfl rfl rfl rfl rfl rfl rfl ?_; clear hf; intro a hf
                 refine qNo hf rfl rfl rfl rfl rfl rfl rfl ?_; clear hf; intro a hf
                 refine qNoU hf rfl rfl rfl rfl rfl rfl rfl ?_; clear hf; intro a hf
                 refine qNoU hf rfl rfl rfl rfl rfl rfl rfl ?_; clear hf; intro a hf
                 refine qNoU hf rfl rfl rfl rfl rfl rfl rfl ?_; clear hf; intro a hf
                 refine qNoU hf rfl rfl rfl rfl rfl rfl rfl ?_; clear hf; intro a hf
                 refine qNoU hf rfl rfl rfl rfl rfl rfl rfl ?_; clear hf; intro a hf
                 refine qNoU hf rfl rfl rfl rfl rfl rfl rfl ?_; clear hf; intro a hf
                 refine qNoU hf rfl rfl rfl rfl rfl rfl rfl ?_; clear hf; intro a hf
                 refine qNoU hf rfl rfl rfl rfl rfl rfl rfl ?_; clear hf; intro a hf
                 refine qNoU hf rfl rfl rfl rfl rfl rfl rfl ?_; clear hf; intro a hf
                 refine qNoU hf rfl rfl rfl rfl rfl rfl rfl ?_; clear hf; intro a hf
                 refine qNoU hf rfl rfl rfl rfl rfl rfl rfl ?_; clear hf; intro a hf
                 refine qNoU hf rfl rfl rfl rfl rfl rfl rfl ?_; clear hf; intro a hf
                 refine qNo hf rfl rfl rfl rfl rfl rfl rfl ?_; clear hf; intro a hf
                 refine qY hf rfl rfl rfl (Y_pickT rfl rfl rfl) ?_; clear hf; intro a hf
                 refine qNil ?_; clear hs; intro w hs
                 refine wpL_nil (then_normal ?_)
                 exact ⟨true, Option.some.inj hj1269, (FrD.pick (FrD.pick (FrD.pick (FrD.pick (FrD.pick (FrD.pick (FrD.pick hf.none hf rfl) hf rfl) hf rfl) hf rfl) hf rfl) hf rfl) hf rfl), hs⟩
                ·have hj1269 := bif_f hj1269 hb1277
                 refine qYg hf rfl rfl rfl (congrArg (fun b => some (Value.bool b)) hb1277) rfl rfl rfl (Y_move rfl rfl) ?_; clear hf; intro a hf
                 refine qYg hf rfl rfl rfl (congrArg (fun b => some (Value.bool b)) hb1277) rfl rfl rfl (Y_move rfl rfl) ?_; clear hf; intro a hf
                 obtain ⟨q1278, hi1279, hj1269⟩ := bind_some hj1269
                 obtain ⟨hi1279a, hi1279b, hi1279q⟩ := idx_some hi1279
                 obtain ⟨A1280, c1281, hv1282⟩ := hs.matRow (i := 1) rfl hi1279q
                 refine qYg hf rfl rfl rfl (congrArg (fun b => some (Value.bool b)) hb1277) rfl rfl rfl (Y_index rfl rfl rfl el40 ti28 (Rd.isAt (hs.rdV (i := 1) rfl) hv1282) hi1279a (ltn hn25 hi1279b)) ?_; clear hf; intro a hf
                 refine qYg hf rfl rfl rfl (congrArg (fun b => some (Value.bool b)) hb1277) rfl rfl rfl (Y_load_rd rfl rfl (fun w hs => hs.rdV (i := 1) rfl) (at1 hv1282) ag28) ?_; clear hf; intro a hf
                 refine qYg hf rfl rfl rfl (congrArg (fun b => some (Value.bool b)) hb1277) rfl rfl rfl (Y_move rfl rfl) ?_; clear hf; intro a hf
                 obtain ⟨q1283, hi1284, hj1269⟩ := bind_some hj1269
                 obtain ⟨hi1284a, hi1284b, hi1284q⟩ := idx_some hi1284
                 refine qYg hf rfl rfl rfl (congrArg (fun b => some (Value.bool b)) hb1277) rfl rfl rfl (Y_index rfl rfl rfl el28 ti2 (Rd.isAt (hs.rdRow (i := 1) rfl ⟨hi1279q, hv1282⟩) (at1 (ints_at hi1284q))) hi1284a hi1284b) ?_; clear hf; intro a hf
                 refine qYg hf rfl rfl rfl (congrArg (fun b => some (Value.bool b)) hb1277) rfl rfl rfl (Y_load_rd rfl rfl (fun w hs => hs.rdRow (i := 1) rfl ⟨hi1279q, hv1282⟩) (at1 (ints_at hi1284q)) ag2) ?_; clear hf; intro a hf
                 refine qYg hf rfl rfl rfl (congrArg (fun b => some (Value.bool b)) hb1277) rfl rfl rfl (Y_move rfl rfl) ?_; clear hf; intro a hf
                 refine qYg hf rfl rfl rfl (congrArg (fun b => some (Value.bool b)) hb1277) rfl rfl rfl (Y_gtr rfl rfl rfl) ?_; clear hf; intro a hf
                 refine qY hf rfl rfl rfl (Y_pickF rfl (congrArg (fun b => some (Value.bool b)) hb1277) rfl) ?_; clear hf; intro a hf
                 refine qY hf rfl rfl rfl (Y_move rfl rfl) ?_; clear hf; intro a hf
                 refine bsplit (decide (x173 < q1283)) (fun hb1285 => ?_) (fun hb1285 => ?_)
                 ·have hj1269 := bif_t hj1269 hb1285
                  refine qNo hf rfl rfl rfl (congrArg (fun b => some (Value.bool b)) hb1285) rfl rfl rfl ?_; clear hf; intro a hf
                  refine qNo hf rfl rfl rfl (congrArg (fun b => some (Value.bool b)) hb1285) rfl rfl rfl ?_; clear hf; intro a hf
                  refine qNo hf rfl rfl rfl (congrArg (fun b => some (Value.bool b)) hb1285) rfl rfl rfl ?_; clear hf; intro a hf
                  refine qNoU hf rfl rfl rfl rfl rfl rfl rfl ?_; clear hf; intro a hf
                  refine qNoU hf rfl rfl rfl rfl rfl rfl rfl ?_; clear hf; intro a hf
                  refine qNoU hf rfl rfl rfl rfl rfl rfl rfl ?_; clear hf; intro a hf
                  refine qNoU hf rfl rfl rfl rfl rfl rfl rfl ?_; clear hf; intro a hf
                  refine qNoU hf rfl rfl rfl rfl rfl rfl rfl ?_; clear hf; intro a hf
                  refine qNoU hf rfl rfl rfl rfl rfl rfl rfl ?_; clear hf; intro a hf
                  refine qNoU hf rfl rfl rfl rfl rfl rfl rfl ?_; clear hf; intro a hf
                  refine qNoU hf rfl rfl rfl rfl rfl rfl rfl ?_; clear hf; intro a hf
                  refine qNoU hf rfl rfl rfl rfl rfl rfl rfl ?_; clear hf; intro a hf
                  refine qNoU hf rfl rfl rfl rfl rfl rfl rfl ?_; clear hf; intro a hf
                  refine qNoU hf rfl rfl rfl rfl rfl rfl rfl ?_; clear hf; intro a hf
                  refine qNoU hf rfl rfl rfl rfl rfl rfl rfl ?_; clear hf; intro a hf
                  refine qNo hf rfl rfl rfl (congrArg (fun b => some (Value.bool b)) hb1285) rfl rfl rfl ?_; clear hf; intro a hf
                  refine qY hf rfl rfl rfl (Y_pickT rfl (congrArg (fun b => some (Value.bool b)) hb1285) rfl) ?_; clear hf; intro a hf
                  refine qNil ?_; clear hs; intro w hs
                  refine wpL_nil (then_normal ?_)
                  exact ⟨true, Option.some.inj hj1269, (FrD.pick (FrD.pick (FrD.pick (FrD.pick (FrD.pick (FrD.pick (FrD.pick hf.none hf rfl) hf rfl) hf rfl) hf rfl) hf rfl) hf rfl) hf rfl), hs⟩
                 ·have hj1269 := bif_f hj1269 hb1285
                  refine qYg hf rfl rfl rfl (congrArg (fun b => some (Value.bool b)) hb1285) rfl rfl rfl (Y_move rfl rfl) ?_; clear hf; intro a hf
                  refine qYg hf rfl rfl rfl (congrArg (fun b => some (Value.bool b)) hb1285) rfl rfl rfl (Y_eql rfl rfl rfl) ?_; clear hf; intro a hf
                  refine qYg hf rfl rfl rfl (congrArg (fun b => some (Value.bool b)) hb1285) rfl rfl rfl (Y_move rfl rfl) ?_; clear hf; intro a hf
                  refine bsplit (x756 == 0) (fun hb1286 => ?_) (fun hb1286 => ?_)
                  ·have hj1269 := bif_t hj1269 hb1286
                   refine qYg hf rfl rfl rfl (congrArg (fun b => some (Value.bool b)) hb1286) rfl rfl rfl (Y_move rfl rfl) ?_; clear hf; intro a hf
                   refine qYg hf rfl rfl rfl (congrArg (fun b => some (Value.bool b)) hb1286) rfl rfl rfl (Y_move rfl rfl) ?_; clear hf; intro a hf
                   obtain ⟨q1287, hi1288, hj1269⟩ := bind_some hj1269
                   obtain ⟨hi1288a, hi1288b, hi1288q⟩ := idx_some hi1288
                   obtain ⟨A1289, c1290, hv1291⟩ := hs.matRow (i := 1) rfl hi1288q
                   refine qYg hf rfl rfl rfl (congrArg (fun b => some (Value.bool b)) hb1286) rfl rfl rfl (Y_index rfl rfl rfl el40 ti28 (Rd.isAt (hs.rdV (i := 1) rfl) hv1291) hi1288a (ltn hn25 hi1288b)) ?_; clear hf; intro a hf
                   refine qYg hf rfl rfl rfl (congrArg (fun b => some (Value.bool b)) hb1286) rfl rfl rfl (Y_load_rd rfl rfl (fun w hs => hs.rdV (i := 1) rfl) (at1 hv1291) ag28) ?_; clear hf; intro a hf
                   refine qYg hf rfl rfl rfl (congrArg (fun b => some (Value.bool b)) hb1286) rfl rfl rfl (Y_move rfl rfl) ?_; clear hf; intro a hf
                   obtain ⟨q1292, hi1293, hj1269⟩ := bind_some hj1269
                   obtain ⟨hi1293a, hi1293b, hi1293q⟩ := idx_some hi1293
                   refine qYg hf rfl rfl rfl (congrArg (fun b => some (Value.bool b)) hb1286) rfl rfl rfl (Y_index rfl rfl rfl el28 ti2 (Rd.isAt (hs.rdRow (i := 1) rfl ⟨hi1288q, hv1291⟩) (at1 (ints_at hi1293q))) hi1293a hi1293b) ?_; clear hf; intro a hf
                   refine qYg hf rfl rfl rfl (congrArg (fun b => some (Value.bool b)) hb1286) rfl rfl rfl (Y_load_rd rfl rfl (fun w hs => hs.rdRow (i := 1) rfl ⟨hi1288q, hv1291⟩) (at1 (ints_at hi1293q)) ag2) ?_; clear hf; intro a hf
                   refine qYg hf rfl rfl rfl (congrArg (fun b => some (Value.bool b)) hb1286) rfl rfl rfl (Y_move rfl rfl) ?_; clear hf; intro a hf
                   refine qYg hf rfl rfl rfl (congrArg (fun b => some (Value.bool b)) hb1286) rfl rfl rfl (Y_move rfl rfl) ?_; clear hf; intro a hf
                   obtain ⟨q1294, hi1295, hj1269⟩ := bind_some hj1269
                   obtain ⟨hi1295a, hi1295b, hi1295q⟩ := idx_some hi1295
                   refine qYg hf rfl rfl rfl (congrArg (fun b => some (Value.bool b)) hb1286) rfl rfl rfl (Y_index rfl rfl rfl el28 ti2 (Rd.isAt (hs.rd (i := 0) rfl) (at1 (ints_at hi1295q))) hi1295a (ltn hn17 hi1295b)) ?_; clear hf; intro a hf
                   refine qYg hf rfl rfl rfl (congrArg (fun b => some (Value.bool b)) hb1286) rfl rfl rfl (Y_load_rd rfl rfl (fun w hs => hs.rd (i := 0) rfl) (at1 (ints_at hi1295q)) ag2) ?_; clear hf; intro a hf
                   refine qYg hf rfl rfl rfl (congrArg (fun b => some (Value.bool b)) hb1286) rfl rfl rfl (Y_lss rfl rfl rfl) ?_; clear hf; intro a hf
                   refine qYg hf rfl rfl rfl (congrArg (fun b => some (Value.bool b)) hb1285) rfl rfl rfl (Y_pickT rfl (congrArg (fun b => some (Value.bool b)) hb1286) rfl) ?_; clear hf; intro a hf
                   refine qY hf rfl rfl rfl (Y_pickF rfl (congrArg (fun b => some (Value.bool b)) hb1285) rfl) ?_; clear hf; intro a hf
                   refine qNil ?_; clear hs; intro w hs
                   refine wpL_nil (then_normal ?_)
                   exact ⟨(decide (q1292 < q1294)), Option.some.inj hj1269, (FrD.pick (FrD.pick (FrD.pick (FrD.pick (FrD.pick (FrD.pick (FrD.pick hf.none hf rfl) hf rfl) hf rfl) hf rfl) hf rfl) hf rfl) hf rfl), hs⟩
                  ·have hj1269 := bif_f hj1269 hb1286
                   refine qNo hf rfl rfl rfl (congrArg (fun b => some (Value.bool b)) hb1286) rfl rfl rfl ?_; clear hf; intro a hf
                   refine qNo hf rfl rfl rfl (congrArg (fun b => some (Value.bool b)) hb1286) rfl rfl rfl ?_; clear hf; intro a hf
                   refine qNo hf rfl rfl rfl (congrArg (fun b => some (Value.bool b)) hb1286) rfl rfl rfl ?_; clear hf; intro a hf
                   refine qNo hf rfl rfl rfl (congrArg (fun b => some (Value.bool b)) hb1286) rfl rfl rfl ?_; clear hf; intro a hf
                   refine qNo hf rfl rfl rfl (congrArg (fun b => some (Value.bool b)) hb1286) rfl rfl rfl ?_; clear hf; intro a hf
                   refine qNo hf rfl rfl rfl (congrArg (fun b => some (Value.bool b)) hb1286) rfl rfl rfl ?_; clear hf; intro a hf
                   refine qNo hf rfl rfl rfl (congrArg (fun b => some (Value.bool b)) hb1286) rfl rfl rfl ?_; clear hf; intro a hf
                   refine qNo hf rfl rfl rfl (congrArg (fun b => some (Value.bool b)) hb1286) rfl rfl rfl ?_; clear hf; intro a hf
                   refine qNo hf rfl rfl rfl (congrArg (fun b => some (Value.bool b)) hb1286) rfl rfl rfl ?_; clear hf; intro a hf
                   refine qNo hf rfl rfl rfl (congrArg (fun b => some (Value.bool b)) hb1286) rfl rfl rfl ?_; clear hf; intro a hf
                   refine qNo hf rfl rfl rfl (congrArg (fun b => some (Value.bool b)) hb1286) rfl rfl rfl ?_; clear hf; intro a hf
                   refine qNo hf rfl rfl rfl (congrArg (fun b => some (Value.bool b)) hb1286) rfl rfl rfl ?_; clear hf; intro a hf
                   refine qYg hf rfl rfl rfl (congrArg (fun b => some (Value.bool b)) hb1285) rfl rfl rfl (Y_pickF rfl (congrArg (fun b => some (Value.bool b)) hb1286) rfl) ?_; clear hf; intro a hf
                   refine qY hf rfl rfl rfl (Y_pickF rfl (congrArg (fun b => some (Value.bool b)) hb1285) rfl) ?_; clear hf; intro a hf
                   refine qNil ?_; clear hs; intro w hs
                   refine wpL_nil (then_normal ?_)
                   exact ⟨false, Option.some.inj hj1269, (FrD.pick (FrD.pick (FrD.pick (FrD.pick (FrD.pick (FrD.pick (FrD.pick hf.none hf rfl) hf rfl) hf rfl) hf rfl) hf rfl) hf rfl) hf rfl), hs⟩
               ·rintro a w ⟨b1267, hr_, hf, hs⟩
                subst hr_
                try dsimp only at hm1233
                refine wpL_cond hf rfl (fun hb1296 => ?_) (fun hb1296 => ?_)
                ·have hm1233 := bif_t hm1233 hb1296
                 refine wpL_seq <| wpL_region ?_
                 refine sY hf hs rfl rfl rfl (Y_assign rfl rfl) ?_; clear hf; intro a hf
                 refine wpO_nil ?_
                 obtain rfl := Option.some.inj hm1233
                 try dsimp only at hm1027
                 obtain rfl := Option.some.inj hm1027
                 try dsimp only at hm
                 obtain rfl := Option.some.inj hm
                 refine wpL_ret (Qb_ret (Ql_ret (Qb_ret (Qb_ret (Ql_ret (Qb_ret (ret_tmp rfl hf rfl ?_)))))))
                 exact ⟨_, rfl, rfl, hs.sel [] (by decide)⟩
                ·have hm1233 := bif_f hm1233 hb1296
                 refine wpL_skip ?_
                 refine wpL_nil (Qb_normal ?_)
                 refine wpL_region ?_
                 refine sY hf hs rfl rfl rfl (Y_move rfl rfl) ?_; clear hf; intro a hf
                 refine sY hf hs rfl rfl rfl (Y_add rfl rfl rfl) ?_; clear hf; intro a hf
                 refine sY hf hs rfl rfl rfl (Y_assign rfl rfl) ?_; clear hf; intro a hf
                 refine wpO_nil ?_
                 refine wpL_nil (Ql_normal ?_)
                 exact ⟨(IntKind.i64.wrap (x1168 + 1)), hm1233, (FrD.pick (FrD.pick (FrD.pick (FrD.pick (FrD.pick (FrD.pick hf.none hf rfl) hf rfl) hf rfl) hf rfl) hf rfl) hf rfl), hs⟩
              ·have hm1233 := bif_f hm1233 hb1240
               refine wpL_exit (Ql_exit (Qb_exit ?_))
               exact ⟨Option.some.inj hm1233, (FrD.pick (FrD.pick (FrD.pick (FrD.pick (FrD.pick hf.none hf rfl) hf rfl) hf rfl) hf rfl) hf rfl), hs⟩
            ·rintro a w ⟨hr_, hf, hs⟩
             subst hr_
             try dsimp only at hm1027
             refine wpL_nil (Qb_normal ?_)
             refine wpL_region ?_
             refine sY hf hs rfl rfl rfl (Y_move rfl rfl) ?_; clear hf; intro a hf
             refine sY hf hs rfl rfl rfl (Y_add rfl rfl rfl) ?_; clear hf; intro a hf
             refine sY hf hs rfl rfl rfl (Y_assign rfl rfl) ?_; clear hf; intro a hf
             refine wpO_nil ?_
             refine wpL_nil (Ql_normal ?_)
             exact ⟨(IntKind.i64.wrap (x756 + 1)), hm1027, (FrD.pick (FrD.pick (FrD.pick (FrD.pick (FrD.pick hf.none hf rfl) hf rfl) hf rfl) hf rfl) hf rfl), hs⟩
          ·have hm1027 := bif_f hm1027 hb1029
           refine wpL_exit (Ql_exit (Qb_exit ?_))
           exact ⟨Option.some.inj hm1027, hf.none, hs.sel [] (by decide)⟩
        ·rintro a w ⟨hr_, hf, hs⟩
         subst hr_
         try dsimp only at hm
         refine wpL_seq <| wpL_region ?_
         refine sY hf hs rfl rfl rfl (Y_assign rfl rfl) ?_; clear hf; intro a hf
         refine wpO_nil ?_
         obtain rfl := Option.some.inj hm
         refine wpL_ret (ret_tmp rfl hf rfl ?_)
         exact ⟨_, rfl, rfl, hs⟩

end Go.Proofs.Ytebmlphobgaboab
