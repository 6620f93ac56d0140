/- The functions do what their models say. -/
import Derived.Test.YtebmlphobgaboaaFreeSlacksLifted4
import Derived.Test.YtebmlphobgaboaaRows
namespace Go.Proofs.Ytebmlphobgaboaa
open Go.RowKit

set_option maxRecDepth 100000 in
theorem spec_l20Slacks_ok (F : Nat) (ad : GEventGraph) (ae : Option Addr) (az ah : Nat) (aC : az = ad.Places.length) (am : GTimetable) (ao : Option Addr) (aG ap : Nat) (aQ : aG = am.Starts.length) (r : List Int) (W : World) (hm : spec_l20Slacks F ad am = some r) (aA : Rd W ae ((recs GPlace.cells) ad.Places)) (aJ : Rd W ao (ints am.Starts)) :
  Calls Try.prog 90 [.agg #[.int .i64 ad.Events, .slice ae az ah], .agg #[.int .i64 am.Period, .slice ao aG ap]].toArray W fun e w' => ∃ v, e = .returned v ∧ ∃ A82, ∃ n83, ∃ c84, v = .slice A82 n83 c84 ∧ n83 = r.length ∧ St [] W w' [.row A82 n83 c84 2 1 (ints r)] := by
 subst aC
 subst aQ
 unfold spec_l20Slacks at hm
 refine Calls.enter (N := 47) Try.func90 rfl rfl rfl (fun a hf => ?_)
 have hs := St.start W
 obtain ⟨w, hw_⟩ : ∃ w, w = W := ⟨W, rfl⟩
 clear hw_ w
 refine wpL_seq <| wpL_region ?_
 refine sBox hf hs rfl rfl rfl rfl rfl (cs := [.int .i64 ad.Events, .slice ae ad.Places.length ah]) rfl ?_; clear hf hs; intro a w b1 hs hf
 have hs : St _ W w [.blk b1 52 [.int .i64 ad.Events, .slice ae ad.Places.length ah]] := hs
 refine sBox hf hs rfl rfl rfl rfl rfl (cs := [.int .i64 am.Period, .slice ao am.Starts.length ap]) rfl ?_; clear hf hs; intro a w b2 hs hf
 have hs : St _ W w [_, .blk b2 54 [.int .i64 am.Period, .slice ao am.Starts.length ap]] := hs
 refine sY hf hs rfl rfl rfl (Y_assign rfl rfl) ?_; clear hf; intro a hf
 refine wpO_nil <| wpL_seq <| wpL_region ?_
 refine sEmpty hf hs rfl rfl rfl rfl el23 ti2 ?_; clear hf hs; intro a w A3 hs hf
 have hs : St _ W w [_, _, .row A3 0 0 2 1 (ints ([] : List Int))] := hs
 refine sY hf hs rfl rfl rfl (Y_assign rfl rfl) ?_; clear hf; intro a hf
 refine wpO_nil <| wpL_seq <| wpL_seq <| wpL_region ?_
 refine sY hf hs rfl rfl rfl (Y_assign rfl rfl) ?_; clear hf; intro a hf
 refine wpO_nil ?_
 obtain ⟨r64, hl65, hm⟩ := bind_some hm
 refine wpL_block (fun a w => ∃ xs59 : List Int, ∃ A60, ∃ n61, ∃ c62, xs59 = r64 ∧ n61 = xs59.length ∧ Fr a 47 [(5, .slice A60 n61 c62)] ∧ St [] W w [.row A60 n61 c62 2 1 (ints xs59)]) ?_ ?_
 ·refine wpL_loop (fun n a w => ∃ xs39 : List Int, ∃ x44 : Int, ∃ A40, ∃ n41, ∃ c42, spec_l20Slacks_L1 F ad am n xs39 x44 = some r64 ∧ n41 = xs39.length ∧ Fr a 47 [(2, .pointer (some ⟨b1, 0, none⟩)), (3, .pointer (some ⟨b2, 0, none⟩)), (5, .slice A40 n41 c42), (6, .int .i64 x44)] ∧ St [] W w [.blk b1 52 [.int .i64 ad.Events, .slice ae ad.Places.length ah], .blk b2 54 [.int .i64 am.Period, .slice ao am.Starts.length ap], .row A40 n41 c42 2 1 (ints xs39)]) F ?_ ?_ ?_
  ·exact ⟨([] : List Int), 0, A3, 0, 0, hl65, rfl, (FrD.pick (FrD.pick (FrD.pick (FrD.pick hf.none hf rfl) hf rfl) hf rfl) hf rfl), hs⟩
  ·rintro a w ⟨xs39, x44, A40, n41, c42, h0_, -, -, -⟩; simp [spec_l20Slacks_L1] at h0_
  ·rintro n67 a w ⟨xs39, x44, A40, n41, c42, hm66, hn43, hf, hs⟩
   rw [spec_l20Slacks_L1] at hm66
   refine wpL_seq <| wpL_seq <| wpL_region ?_
   refine sY hf hs rfl rfl rfl (Y_move rfl rfl) ?_; clear hf; intro a hf
   refine sY hf hs rfl rfl rfl (Y_fieldAddr rfl rfl fo52_1) ?_; clear hf; intro a hf
   refine sY hf hs rfl rfl rfl (Y_load_blk rfl rfl (i := 0) rfl rfl ag50) ?_; clear hf; intro a hf
   refine sY hf hs rfl rfl rfl (Y_lenH rfl rfl el50 rfl) ?_; clear hf; intro a hf
   refine sY hf hs rfl rfl rfl (Y_lss rfl rfl rfl) ?_; clear hf; intro a hf
   refine wpO_nil ?_
   refine wpL_cond hf rfl (fun hb68 => ?_) (fun hb68 => ?_)
   ·have hm66 := bif_t hm66 hb68
    refine wpL_skip <| wpL_seq <| wpL_block0 <| wpL_seq <| wpL_region ?_
    refine sY hf hs rfl rfl rfl (Y_fieldAddr rfl rfl fo52_1) ?_; clear hf; intro a hf
    refine sY hf hs rfl rfl rfl (Y_load_blk rfl rfl (i := 0) rfl rfl ag50) ?_; clear hf; intro a hf
    refine sY hf hs rfl rfl rfl (Y_move rfl rfl) ?_; clear hf; intro a hf
    obtain ⟨q69, hi70, hm66⟩ := bind_some hm66
    obtain ⟨hi70a, hi70b, hi70q⟩ := idx_some hi70
    refine sY hf hs rfl rfl rfl (Y_index rfl rfl rfl el50 ti112 (Rd.isAt (aA.at hs) (recs_at (s := 4) GPlace.len hi70q (j := 0) rfl)) hi70a hi70b) ?_; clear hf; intro a hf
    refine sY hf hs rfl rfl rfl (Y_load_rdS rfl rfl (us := [.int .i64 q69.From, .int .i64 q69.To, .int .i64 q69.Delay, .int .i64 q69.Tokens]) (fun w hs => aA.at hs) (fun j u hj => recs_at (s := 4) GPlace.len hi70q hj) (Nat.succ_pos _) ag112 ti112 rfl) ?_; clear hf; intro a hf
    refine sAlloc hf hs rfl rfl rfl rfl ti112 ?_; clear hf hs; intro a w b71 hs hf
    have hs : St _ W w [_, _, _, .blk b71 112 [.int .i64 0, .int .i64 0, .int .i64 0, .int .i64 0]] := hs
    refine sStore (i := 3) (us := [.int .i64 q69.From, .int .i64 q69.To, .int .i64 q69.Delay, .int .i64 q69.Tokens]) hf hs rfl rfl rfl rfl rfl rfl ti112 rfl rfl rfl (Nat.le_of_ble_eq_true rfl) rfl ?_; clear hs; intro w hs
    have hs : St _ W w [_, _, _, .blk b71 112 [.int .i64 q69.From, .int .i64 q69.To, .int .i64 q69.Delay, .int .i64 q69.Tokens]] := hs
    refine wpO_nil ?_
    refine wpL_drawM [.blk b1 52 [.int .i64 ad.Events, .slice ae ad.Places.length ah], .blk b2 54 [.int .i64 am.Period, .slice ao am.Starts.length ap], .row A40 n41 c42 2 1 (ints xs39), .blk b71 112 [.int .i64 q69.From, .int .i64 q69.To, .int .i64 q69.Delay, .int .i64 q69.Tokens]] [23, 24] (by kernel_rfl) hs ?_; clear hs; intro w hs
    have hs0 : St _ W w [_, _, _, _] := hs
    refine mYp (i := 0) rfl (by kernel_rfl) (by kernel_rfl) hf rfl rfl rfl (fun _ => Y_move rfl rfl) ?_; clear hf; intro a hf
    refine mYp (i := 1) rfl (by kernel_rfl) (by kernel_rfl) hf rfl rfl rfl (fun _ => Y_fieldAddr rfl rfl fo54_1) ?_; clear hf; intro a hf
    refine mY (i := 2) [[5, 6, 12, 19, 22], [5, 6, 12, 19, 22, 23]] rfl (by kernel_rfl) (by kernel_rfl) hf hs0 rfl rfl rfl (Y_load_blk rfl rfl (i := 1) rfl rfl ag23) ?_; clear hf; intro a hf
    refine mYp (i := 3) rfl (by kernel_rfl) (by kernel_rfl) hf rfl rfl rfl (fun _ => Y_fieldAddr rfl rfl fo112_1) ?_; clear hf; intro a hf
    refine mY (i := 4) [[5, 6, 12, 19, 22], [5, 6, 12, 19, 22, 23]] rfl (by kernel_rfl) (by kernel_rfl) hf hs0 rfl rfl rfl (Y_load_blk rfl rfl (i := 3) rfl rfl ag2) ?_; clear hf; intro a hf
    obtain ⟨q72, hi73, hm66⟩ := bind_some hm66
    obtain ⟨hi73a, hi73b, hi73q⟩ := idx_some hi73
    refine mYp (i := 5) rfl (by kernel_rfl) (by kernel_rfl) hf rfl rfl rfl (fun _ => Y_index rfl rfl rfl el23 ti2 (Rd.isAt (aJ.at hs) (at1 (ints_at hi73q))) hi73a hi73b) ?_; clear hf; intro a hf
    refine mY (i := 6) [[12, 19, 22], [12, 19, 22, 23]] rfl (by kernel_rfl) (by kernel_rfl) hf hs0 rfl rfl rfl (Y_load_rd rfl rfl (fun w hs => aJ.at hs) (at1 (ints_at hi73q)) ag2) ?_; clear hf; intro a hf
    refine mYp (i := 7) rfl (by kernel_rfl) (by kernel_rfl) hf rfl rfl rfl (fun _ => Y_fieldAddr rfl rfl fo112_3) ?_; clear hf; intro a hf
    refine mY (i := 8) [[11, 12, 19, 22], [11, 12, 19, 22, 23]] rfl (by kernel_rfl) (by kernel_rfl) hf hs0 rfl rfl rfl (Y_load_blk rfl rfl (i := 3) rfl rfl ag2) ?_; clear hf; intro a hf
    refine mYp (i := 9) rfl (by kernel_rfl) (by kernel_rfl) hf rfl rfl rfl (fun _ => Y_fieldAddr rfl rfl fo54_0) ?_; clear hf; intro a hf
    refine mY (i := 10) [[11, 12, 19, 22], [11, 12, 19, 22, 23]] rfl (by kernel_rfl) (by kernel_rfl) hf hs0 rfl rfl rfl (Y_load_blk rfl rfl (i := 1) rfl rfl ag2) ?_; clear hf; intro a hf
    refine mYp (i := 11) rfl (by kernel_rfl) (by kernel_rfl) hf rfl rfl rfl (fun _ => Y_mul rfl rfl rfl) ?_; clear hf; intro a hf
    refine mYp (i := 12) rfl (by kernel_rfl) (by kernel_rfl) hf rfl rfl rfl (fun _ => Y_add rfl rfl rfl) ?_; clear hf; intro a hf
    refine mYp (i := 13) rfl (by kernel_rfl) (by kernel_rfl) hf rfl rfl rfl (fun _ => Y_fieldAddr rfl rfl fo54_1) ?_; clear hf; intro a hf
    refine mY (i := 14) [[17, 18, 19, 22], [17, 18, 19, 22, 23]] rfl (by kernel_rfl) (by kernel_rfl) hf hs0 rfl rfl rfl (Y_load_blk rfl rfl (i := 1) rfl rfl ag23) ?_; clear hf; intro a hf
    refine mYp (i := 15) rfl (by kernel_rfl) (by kernel_rfl) hf rfl rfl rfl (fun _ => Y_fieldAddr rfl rfl fo112_0) ?_; clear hf; intro a hf
    refine mY (i := 16) [[17, 18, 19, 22], [17, 18, 19, 22, 23]] rfl (by kernel_rfl) (by kernel_rfl) hf hs0 rfl rfl rfl (Y_load_blk rfl rfl (i := 3) rfl rfl ag2) ?_; clear hf; intro a hf
    obtain ⟨q74, hi75, hm66⟩ := bind_some hm66
    obtain ⟨hi75a, hi75b, hi75q⟩ := idx_some hi75
    refine mYp (i := 17) rfl (by kernel_rfl) (by kernel_rfl) hf rfl rfl rfl (fun _ => Y_index rfl rfl rfl el23 ti2 (Rd.isAt (aJ.at hs) (at1 (ints_at hi75q))) hi75a hi75b) ?_; clear hf; intro a hf
    refine mY (i := 18) [[19, 22], [19, 22, 23]] rfl (by kernel_rfl) (by kernel_rfl) hf hs0 rfl rfl rfl (Y_load_rd rfl rfl (fun w hs => aJ.at hs) (at1 (ints_at hi75q)) ag2) ?_; clear hf; intro a hf
    refine mYp (i := 19) rfl (by kernel_rfl) (by kernel_rfl) hf rfl rfl rfl (fun _ => Y_sub rfl rfl rfl) ?_; clear hf; intro a hf
    refine mYp (i := 20) rfl (by kernel_rfl) (by kernel_rfl) hf rfl rfl rfl (fun _ => Y_fieldAddr rfl rfl fo112_2) ?_; clear hf; intro a hf
    refine mY (i := 21) [[22], [22, 23]] rfl (by kernel_rfl) (by kernel_rfl) hf hs0 rfl rfl rfl (Y_load_blk rfl rfl (i := 3) rfl rfl ag2) ?_; clear hf; intro a hf
    refine mYp (i := 22) rfl (by kernel_rfl) (by kernel_rfl) hf rfl rfl rfl (fun _ => Y_sub rfl rfl rfl) ?_; clear hf; intro a hf
    refine mRun (i := 23) rfl (by kernel_rfl) ?_
    refine sBuildSlice (parts := [(0, .tmp 43)]) (vs := [.int .i64 (IntKind.i64.wrap ((IntKind.i64.wrap ((IntKind.i64.wrap (q72 + (IntKind.i64.wrap (q69.Tokens * am.Period)))) - q74)) - q69.Delay))]) (cells := [.int .i64 (IntKind.i64.wrap ((IntKind.i64.wrap ((IntKind.i64.wrap (q72 + (IntKind.i64.wrap (q69.Tokens * am.Period)))) - q74)) - q69.Delay))]) hf hs rfl rfl rfl rfl rfl el23 ti2 rfl rfl rfl rfl ?_; clear hf hs; intro a w A76 hs hA77 hf
    have hs : St _ W w [_, _, _, _, .row A76 1 1 2 1 (ints ([(IntKind.i64.wrap ((IntKind.i64.wrap ((IntKind.i64.wrap (q72 + (IntKind.i64.wrap (q69.Tokens * am.Period)))) - q74)) - q69.Delay))]))] := hs
    refine wpO_nil ⟨Or.inl (by decide), ?_⟩
    refine mRun (i := 24) rfl (by kernel_rfl) ?_
    obtain ⟨xs80, ha81, hm66⟩ := bind_some hm66
    refine sAppendL (i := 2) (xs := xs39) (ys := [(IntKind.i64.wrap ((IntKind.i64.wrap ((IntKind.i64.wrap (q72 + (IntKind.i64.wrap (q69.Tokens * am.Period)))) - q74)) - q69.Delay))]) (enc := ints) hf hs rfl rfl rfl rfl rfl rfl hn43 rfl rfl ha81 el23 ti2 rfl rfl rfl (hs.rd (i := 4) rfl) (Nat.succ_pos _) ints_len1 ints_append ints_one ?_; clear hf hs; intro a w A78 c79 hs hf
    have hs : St _ W w [_, _, .row A78 xs80.length c79 2 1 (ints xs80), _, _] := hs
    refine wpO_nil ⟨Or.inl (by decide), ?_⟩
    refine mYp (i := 25) rfl (by kernel_rfl) (by kernel_rfl) hf rfl rfl rfl (fun _ => Y_assign rfl rfl) ?_; clear hf; intro a hf
    refine mDone (by kernel_rfl) ?_
    clear hs0
    refine wpL_nil (Qb_normal ?_)
    refine wpL_region ?_
    refine sY hf hs rfl rfl rfl (Y_move rfl rfl) ?_; clear hf; intro a hf
    refine sY hf hs rfl rfl rfl (Y_add rfl rfl rfl) ?_; clear hf; intro a hf
    refine sY hf hs rfl rfl rfl (Y_assign rfl rfl) ?_; clear hf; intro a hf
    refine wpO_nil ?_
    refine wpL_nil (Ql_normal ?_)
    exact ⟨xs80, (IntKind.i64.wrap (x44 + 1)), A78, xs80.length, c79, hm66, rfl, (FrD.pick (FrD.pick (FrD.pick (FrD.pick hf.none hf rfl) hf rfl) hf rfl) hf rfl), hs.sel [0, 1, 2] (by decide)⟩
   ·have hm66 := bif_f hm66 hb68
    refine wpL_exit (Ql_exit (Qb_exit ?_))
    exact ⟨xs39, A40, n41, c42, Option.some.inj hm66, hn43, (FrD.pick hf.none hf rfl), hs.sel [2] (by decide)⟩
 ·rintro a w ⟨xs59, A60, n61, c62, hr_, hn63, hf, hs⟩
  subst hr_
  try dsimp only at hm
  refine wpL_seq <| wpL_region ?_
  refine sY hf hs rfl rfl rfl (Y_move rfl rfl) ?_; clear hf; intro a hf
  refine sY hf hs rfl rfl rfl (Y_assign rfl rfl) ?_; clear hf; intro a hf
  refine wpO_nil ?_
  obtain rfl := Option.some.inj hm
  refine wpL_ret (ret_tmp rfl hf rfl ?_)
  exact ⟨_, rfl, A60, n61, c62, rfl, hn63, hs⟩

set_option maxRecDepth 100000 in
theorem spec_l20Kept_ok (F : Nat) (ad : GEventGraph) (ae : Option Addr) (az ah : Nat) (aC : az = ad.Places.length) (am : GTimetable) (ao : Option Addr) (aG ap : Nat) (aQ : aG = am.Starts.length) (r : Bool) (W : World) (hm : spec_l20Kept F ad am = some r) (aA : Rd W ae ((recs GPlace.cells) ad.Places)) (aJ : Rd W ao (ints am.Starts)) :
  Calls Try.prog 140 [.agg #[.int .i64 ad.Events, .slice ae az ah], .agg #[.int .i64 am.Period, .slice ao aG ap]].toArray W fun e w' => ∃ v, e = .returned v ∧ v = .bool r ∧ St [] W w' [] := by
 subst aC
 subst aQ
 unfold spec_l20Kept at hm
 refine Calls.enter (N := 21) Try.func140 rfl rfl rfl (fun a hf => ?_)
 have hs := St.start W
 obtain ⟨w, hw_⟩ : ∃ w, w = W := ⟨W, rfl⟩
 clear hw_ w
 refine wpL_seq <| wpL_region ?_
 refine sBox hf hs rfl rfl rfl rfl rfl (cs := [.int .i64 ad.Events, .slice ae ad.Places.length ah]) rfl ?_; clear hf hs; intro a w b1 hs hf
 have hs : St _ W w [_] := hs
 refine sBox hf hs rfl rfl rfl rfl rfl (cs := [.int .i64 am.Period, .slice ao am.Starts.length ap]) rfl ?_; clear hf hs; intro a w b2 hs hf
 have hs : St _ W w [_, _] := hs
 refine sY hf hs rfl rfl rfl (Y_assign rfl rfl) ?_; clear hf; intro a hf
 refine wpO_nil <| wpL_seq <| wpL_region ?_
 refine sY hf hs rfl rfl rfl (Y_load_blkS rfl rfl (i := 0) rfl ag52 ti52 rfl) ?_; clear hf; intro a hf
 refine sY hf hs rfl rfl rfl (Y_load_blkS rfl rfl (i := 1) rfl ag54 ti54 rfl) ?_; clear hf; intro a hf
 obtain ⟨r3, hc4, hm⟩ := bind_some hm
 refine sCall hf rfl rfl rfl rfl (cap := []) rfl rfl en90 (spec_l20Slacks_ok F ad ae ad.Places.length ah rfl am ao am.Starts.length ap rfl _ _ hc4 (aA.at hs) (aJ.at hs)) ?_; clear hf
 rintro _ w ⟨A5, n6, c7, rfl, hn8, hs1⟩ a hf
 have hs : St _ W w [_, _, .row A5 n6 c7 2 1 (ints r3)] := hs.join hs1
 clear hs1
 refine sY hf hs rfl rfl rfl (Y_assign rfl rfl) ?_; clear hf; intro a hf
 refine wpO_nil <| wpL_seq <| wpL_seq <| wpL_region ?_
 refine sY hf hs rfl rfl rfl (Y_assign rfl rfl) ?_; clear hf; intro a hf
 refine wpO_nil ?_
 obtain ⟨r23, hl24, hm⟩ := bind_some hm
 refine wpL_block (fun a w => Sum.inr () = r23 ∧ Fr a 21 [] ∧ St [] W w []) ?_ ?_
 ·refine wpL_loop (fun n a w => ∃ x18 : Int, spec_l20Kept_L1 F r3 n x18 = some r23 ∧ Fr a 21 [(5, .slice A5 n6 c7), (6, .int .i64 x18)] ∧ St [] W w [.row A5 n6 c7 2 1 (ints r3)]) F ?_ ?_ ?_
  ·exact ⟨0, hl24, (FrD.pick (FrD.pick hf.none hf rfl) hf rfl), hs.sel [2] (by decide)⟩
  ·rintro a w ⟨x18, h0_, -, -⟩; simp [spec_l20Kept_L1] at h0_
  ·rintro n26 a w ⟨x18, hm25, hf, hs⟩
   rw [spec_l20Kept_L1] at hm25
   refine wpL_seq <| wpL_seq <| wpL_region ?_
   refine sY hf hs rfl rfl rfl (Y_move rfl rfl) ?_; clear hf; intro a hf
   refine sY hf hs rfl rfl rfl (Y_move rfl rfl) ?_; clear hf; intro a hf
   refine sY hf hs rfl rfl rfl (Y_lenH rfl rfl el23 hn8) ?_; clear hf; intro a hf
   refine sY hf hs rfl rfl rfl (Y_lss rfl rfl rfl) ?_; clear hf; intro a hf
   refine wpO_nil ?_
   refine wpL_cond hf rfl (fun hb27 => ?_) (fun hb27 => ?_)
   ·have hm25 := bif_t hm25 hb27
    refine wpL_skip <| wpL_seq <| wpL_block0 <| wpL_seq <| wpL_region ?_
    refine sY hf hs rfl rfl rfl (Y_move rfl rfl) ?_; clear hf; intro a hf
    refine sY hf hs rfl rfl rfl (Y_move rfl rfl) ?_; clear hf; intro a hf
    obtain ⟨q28, hi29, hm25⟩ := bind_some hm25
    obtain ⟨hi29a, hi29b, hi29q⟩ := idx_some hi29
    refine sY hf hs rfl rfl rfl (Y_index rfl rfl rfl el23 ti2 (Rd.isAt (hs.rd (i := 0) rfl) (at1 (ints_at hi29q))) hi29a (ltn hn8 hi29b)) ?_; clear hf; intro a hf
    refine sY hf hs rfl rfl rfl (Y_load_rd rfl rfl (fun w hs => hs.rd (i := 0) rfl) (at1 (ints_at hi29q)) ag2) ?_; clear hf; intro a hf
    refine sY hf hs rfl rfl rfl (Y_lss rfl rfl rfl) ?_; clear hf; intro a hf
    refine wpO_nil ?_
    refine wpL_cond hf rfl (fun hb30 => ?_) (fun hb30 => ?_)
    ·have hm25 := bif_t hm25 hb30
     refine wpL_seq <| wpL_region ?_
     refine sY hf hs rfl rfl rfl (Y_assign rfl rfl) ?_; clear hf; intro a hf
     refine wpO_nil ?_
     obtain rfl := Option.some.inj hm25
     try dsimp only at hm
     obtain rfl := Option.some.inj hm
     refine wpL_ret (Qb_ret (Ql_ret (Qb_ret (ret_tmp rfl hf rfl ?_))))
     exact ⟨_, rfl, rfl, hs.sel [] (by decide)⟩
    ·have hm25 := bif_f hm25 hb30
     refine wpL_skip ?_
     refine wpL_nil (Qb_normal ?_)
     refine wpL_region ?_
     refine sY hf hs rfl rfl rfl (Y_move rfl rfl) ?_; clear hf; intro a hf
     refine sY hf hs rfl rfl rfl (Y_add rfl rfl rfl) ?_; clear hf; intro a hf
     refine sY hf hs rfl rfl rfl (Y_assign rfl rfl) ?_; clear hf; intro a hf
     refine wpO_nil ?_
     refine wpL_nil (Ql_normal ?_)
     exact ⟨(IntKind.i64.wrap (x18 + 1)), hm25, (FrD.pick (FrD.pick hf.none hf rfl) hf rfl), hs⟩
   ·have hm25 := bif_f hm25 hb27
    refine wpL_exit (Ql_exit (Qb_exit ?_))
    exact ⟨Option.some.inj hm25, hf.none, hs.sel [] (by decide)⟩
 ·rintro a w ⟨hr_, hf, hs⟩
  subst hr_
  try dsimp only at hm
  refine wpL_seq <| wpL_region ?_
  refine sY hf hs rfl rfl rfl (Y_assign rfl rfl) ?_; clear hf; intro a hf
  refine wpO_nil ?_
  obtain rfl := Option.some.inj hm
  refine wpL_ret (ret_tmp rfl hf rfl ?_)
  exact ⟨_, rfl, rfl, hs⟩

set_option maxRecDepth 100000 in
theorem spec_l21Code_ok (F : Nat) (ad : GEventGraph) (ae : Option Addr) (az ah : Nat) (aC : az = ad.Places.length) (am : GTimetable) (ao : Option Addr) (aG ap : Nat) (aQ : aG = am.Starts.length) (aV : List Int) (bg : Option Addr) (bD bx : Nat) (bV : bD = aV.length) (cO : Bool) (r : Int) (W : World) (hm : spec_l21Code F ad am aV cO = some r) (aA : Rd W ae ((recs GPlace.cells) ad.Places)) (aJ : Rd W ao (ints am.Starts)) (bQ : Rd W bg (ints aV)) :
  Calls Try.prog 79 [.agg #[.int .i64 ad.Events, .slice ae az ah], .agg #[.int .i64 am.Period, .slice ao aG ap], .slice bg bD bx, .bool cO].toArray W fun e w' => ∃ v, e = .returned v ∧ v = .int .i64 r ∧ St [] W w' [] := by
 subst aC
 subst aQ
 subst bV
 unfold spec_l21Code at hm
 refine Calls.enter (N := 43) Try.func79 rfl rfl rfl (fun a hf => ?_)
 have hs := St.start W
 obtain ⟨w, hw_⟩ : ∃ w, w = W := ⟨W, rfl⟩
 clear hw_ w
 refine wpL_seq <| wpL_region ?_
 refine sBox hf hs rfl rfl rfl rfl rfl (cs := [.int .i64 ad.Events, .slice ae ad.Places.length ah]) rfl ?_; clear hf hs; intro a w b1 hs hf
 have hs : St _ W w [_] := hs
 refine sBox hf hs rfl rfl rfl rfl rfl (cs := [.int .i64 am.Period, .slice ao am.Starts.length ap]) rfl ?_; clear hf hs; intro a w b2 hs hf
 have hs : St _ W w [_, _] := hs
 refine sY hf hs rfl rfl rfl (Y_assign rfl rfl) ?_; clear hf; intro a hf
 refine wpO_nil <| wpL_seq <| wpL_region ?_
 refine sY hf hs rfl rfl rfl (Y_load_blkS rfl rfl (i := 0) rfl ag52 ti52 rfl) ?_; clear hf; intro a hf
 refine sY hf hs rfl rfl rfl (Y_load_blkS rfl rfl (i := 1) rfl ag54 ti54 rfl) ?_; clear hf; intro a hf
 obtain ⟨r3, hc4, hm⟩ := bind_some hm
 refine sCall hf rfl rfl rfl rfl (cap := []) rfl rfl en137 (spec_l20Code_ok F ad ae ad.Places.length ah rfl am ao am.Starts.length ap rfl _ _ hc4 (aA.at hs) (aJ.at hs)) ?_; clear hf
 rintro _ w ⟨rfl, hs1⟩ a hf
 have hs : St _ W w [_, _] := hs.ext hs1.below
 clear hs1
 refine sY hf hs rfl rfl rfl (Y_assign rfl rfl) ?_; clear hf; intro a hf
 refine wpO_nil <| wpL_seq <| wpL_block0 <| wpL_seq <| wpL_region ?_
 refine sY hf hs rfl rfl rfl (Y_move rfl rfl) ?_; clear hf; intro a hf
 refine sY hf hs rfl rfl rfl (Y_neq rfl rfl rfl) ?_; clear hf; intro a hf
 refine sY hf hs rfl rfl rfl (Y_assign rfl rfl) ?_; clear hf; intro a hf
 refine wpO_nil ?_
 refine wpL_cond hf rfl (fun hb5 => ?_) (fun hb5 => ?_)
 ·have hm := bif_t hm hb5
  refine wpL_seq <| wpL_region ?_
  refine sY hf hs rfl rfl rfl (Y_move rfl rfl) ?_; clear hf; intro a hf
  refine sY hf hs rfl rfl rfl (Y_assign rfl rfl) ?_; clear hf; intro a hf
  refine wpO_nil ?_
  obtain rfl := Option.some.inj hm
  refine wpL_ret (Qb_ret (ret_tmp rfl hf rfl ?_))
  exact ⟨_, rfl, rfl, hs.sel [] (by decide)⟩
 ·have hm := bif_f hm hb5
  refine wpL_seq ?_
  obtain ⟨r11, hj12, hm⟩ := bind_some hm
  refine wpL_cut (fun a w => ∃ b10 : Bool, b10 = r11 ∧ Fr a 43 [(4, .pointer (some ⟨b1, 0, none⟩)), (5, .pointer (some ⟨b2, 0, none⟩)), (17, .bool b10)] ∧ St [] W w [.blk b1 52 [.int .i64 ad.Events, .slice ae ad.Places.length ah], .blk b2 54 [.int .i64 am.Period, .slice ao am.Starts.length ap]]) ?_ ?_
  ·refine wpL_region ?_
   refine sY hf hs rfl rfl rfl (Y_move rfl rfl) ?_; clear hf; intro a hf
   refine sY hf hs rfl rfl rfl (Y_not rfl rfl) ?_; clear hf; intro a hf
   refine sY hf hs rfl rfl rfl (Y_move rfl rfl) ?_; clear hf; intro a hf
   refine bsplit (!cO) (fun hb13 => ?_) (fun hb13 => ?_)
   ·have hj12 := bif_t hj12 hb13
    refine sNo hf rfl rfl rfl (congrArg (fun b => some (Value.bool b)) hb13) rfl rfl rfl ?_; clear hf; intro a hf
    refine sNo hf rfl rfl rfl (congrArg (fun b => some (Value.bool b)) hb13) rfl rfl rfl ?_; clear hf; intro a hf
    refine sNo hf rfl rfl rfl (congrArg (fun b => some (Value.bool b)) hb13) rfl rfl rfl ?_; clear hf; intro a hf
    refine sNo hf rfl rfl rfl (congrArg (fun b => some (Value.bool b)) hb13) rfl rfl rfl ?_; clear hf; intro a hf
    refine sNo hf rfl rfl rfl (congrArg (fun b => some (Value.bool b)) hb13) rfl rfl rfl ?_; clear hf; intro a hf
    refine sY hf hs rfl rfl rfl (Y_pickT rfl (congrArg (fun b => some (Value.bool b)) hb13) rfl) ?_; clear hf; intro a hf
    refine sY hf hs rfl rfl rfl (Y_move rfl rfl) ?_; clear hf; intro a hf
    refine sNo hf rfl rfl rfl rfl rfl rfl rfl ?_; clear hf; intro a hf
    refine sNo hf rfl rfl rfl rfl rfl rfl rfl ?_; clear hf; intro a hf
    refine sNo hf rfl rfl rfl rfl rfl rfl rfl ?_; clear hf; intro a hf
    refine sY hf hs rfl rfl rfl (Y_pickT rfl rfl rfl) ?_; clear hf; intro a hf
    refine sY hf hs rfl rfl rfl (Y_assign rfl rfl) ?_; clear hf; intro a hf
    refine wpO_nil ?_
    refine wpL_nil (then_normal ?_)
    exact ⟨true, Option.some.inj hj12, (FrD.pick (FrD.pick (FrD.pick hf.none hf rfl) hf rfl) hf rfl), hs⟩
   ·have hj12 := bif_f hj12 hb13
    refine sYg hf hs rfl rfl rfl (congrArg (fun b => some (Value.bool b)) hb13) rfl rfl rfl (Y_move rfl rfl) ?_; clear hf; intro a hf
    refine sYg hf hs rfl rfl rfl (congrArg (fun b => some (Value.bool b)) hb13) rfl rfl rfl (Y_lenH rfl rfl el23 rfl) ?_; clear hf; intro a hf
    refine sYg hf hs rfl rfl rfl (congrArg (fun b => some (Value.bool b)) hb13) rfl rfl rfl (Y_fieldAddr rfl rfl fo52_0) ?_; clear hf; intro a hf
    refine sYg hf hs rfl rfl rfl (congrArg (fun b => some (Value.bool b)) hb13) rfl rfl rfl (Y_load_blk rfl rfl (i := 0) rfl rfl ag2) ?_; clear hf; intro a hf
    refine sYg hf hs rfl rfl rfl (congrArg (fun b => some (Value.bool b)) hb13) rfl rfl rfl (Y_neq rfl rfl rfl) ?_; clear hf; intro a hf
    refine sY hf hs rfl rfl rfl (Y_pickF rfl (congrArg (fun b => some (Value.bool b)) hb13) rfl) ?_; clear hf; intro a hf
    refine sY hf hs rfl rfl rfl (Y_move rfl rfl) ?_; clear hf; intro a hf
    refine bsplit ((aV.length : Int) != ad.Events) (fun hb14 => ?_) (fun hb14 => ?_)
    ·have hj12 := bif_t hj12 hb14
     refine sNo hf rfl rfl rfl (congrArg (fun b => some (Value.bool b)) hb14) rfl rfl rfl ?_; clear hf; intro a hf
     refine sNo hf rfl rfl rfl (congrArg (fun b => some (Value.bool b)) hb14) rfl rfl rfl ?_; clear hf; intro a hf
     refine sNo hf rfl rfl rfl (congrArg (fun b => some (Value.bool b)) hb14) rfl rfl rfl ?_; clear hf; intro a hf
     refine sY hf hs rfl rfl rfl (Y_pickT rfl (congrArg (fun b => some (Value.bool b)) hb14) rfl) ?_; clear hf; intro a hf
     refine sY hf hs rfl rfl rfl (Y_assign rfl rfl) ?_; clear hf; intro a hf
     refine wpO_nil ?_
     refine wpL_nil (then_normal ?_)
     exact ⟨true, Option.some.inj hj12, (FrD.pick (FrD.pick (FrD.pick hf.none hf rfl) hf rfl) hf rfl), hs⟩
    ·have hj12 := bif_f hj12 hb14
     refine sYg hf hs rfl rfl rfl (congrArg (fun b => some (Value.bool b)) hb14) rfl rfl rfl (Y_move rfl rfl) ?_; clear hf; intro a hf
     obtain ⟨r15, hc16, hj12⟩ := bind_some hj12
     refine sCallg hf rfl rfl rfl (congrArg (fun b => some (Value.bool b)) hb14) rfl rfl rfl rfl (cap := []) rfl rfl en138 (spec_l01Within_ok F aV bg aV.length bx rfl 10 0 1000000 _ _ hc16 (bQ.at hs)) ?_; clear hf
     rintro _ w ⟨rfl, hs1⟩ a hf
     have hs : St _ W w [_, _] := hs.ext hs1.below
     clear hs1
     refine sYg hf hs rfl rfl rfl (congrArg (fun b => some (Value.bool b)) hb14) rfl rfl rfl (Y_not rfl rfl) ?_; clear hf; intro a hf
     refine sY hf hs rfl rfl rfl (Y_pickF rfl (congrArg (fun b => some (Value.bool b)) hb14) rfl) ?_; clear hf; intro a hf
     refine sY hf hs rfl rfl rfl (Y_assign rfl rfl) ?_; clear hf; intro a hf
     refine wpO_nil ?_
     refine wpL_nil (then_normal ?_)
     exact ⟨(!r15), Option.some.inj hj12, (FrD.pick (FrD.pick (FrD.pick hf.none hf rfl) hf rfl) hf rfl), hs⟩
  ·rintro a w ⟨b10, hr_, hf, hs⟩
   subst hr_
   try dsimp only at hm
   refine wpL_cond hf rfl (fun hb17 => ?_) (fun hb17 => ?_)
   ·have hm := bif_t hm hb17
    refine wpL_seq <| wpL_region ?_
    refine sY hf hs rfl rfl rfl (Y_assign rfl rfl) ?_; clear hf; intro a hf
    refine wpO_nil ?_
    obtain rfl := Option.some.inj hm
    refine wpL_ret (Qb_ret (ret_tmp rfl hf rfl ?_))
    exact ⟨_, rfl, rfl, hs.sel [] (by decide)⟩
   ·have hm := bif_f hm hb17
    refine wpL_seq ?_
    obtain ⟨r28, hj29, hm⟩ := bind_some hm
    refine wpL_cut (fun a w => ∃ b27 : Bool, b27 = r28 ∧ Fr a 43 [(32, .bool b27)] ∧ St [] W w []) ?_ ?_
    ·refine wpL_region ?_
     refine sY hf hs rfl rfl rfl (Y_load_blkS rfl rfl (i := 0) rfl ag52 ti52 rfl) ?_; clear hf; intro a hf
     obtain ⟨r30, hc31, hj29⟩ := bind_some hj29
     refine sCall hf rfl rfl rfl rfl (cap := []) rfl rfl en139 (spec_l12Dead_ok F ad ae ad.Places.length ah rfl _ _ hc31 (aA.at hs)) ?_; clear hf
     rintro _ w ⟨A32, n33, c34, rfl, hn35, hs1⟩ a hf
     have hs : St _ W w [_, _, .row A32 n33 c34 2 1 (ints r30)] := hs.join hs1
     clear hs1
     refine sY hf hs rfl rfl rfl (Y_lenH rfl rfl el23 hn35) ?_; clear hf; intro a hf
     refine sY hf hs rfl rfl rfl (Y_gtr rfl rfl rfl) ?_; clear hf; intro a hf
     refine sY hf hs rfl rfl rfl (Y_move rfl rfl) ?_; clear hf; intro a hf
     refine bsplit (decide (0 < (r30.length : Int))) (fun hb36 => ?_) (fun hb36 => ?_)
     ·have hj29 := bif_t hj29 hb36
      refine sNo hf rfl rfl rfl (congrArg (fun b => some (Value.bool b)) hb36) rfl rfl rfl ?_; clear hf; intro a hf
      refine sNo hf rfl rfl rfl (congrArg (fun b => some (Value.bool b)) hb36) rfl rfl rfl ?_; clear hf; intro a hf
      refine sNo hf rfl rfl rfl (congrArg (fun b => some (Value.bool b)) hb36) rfl rfl rfl ?_; clear hf; intro a hf
      refine sNo hf rfl rfl rfl (congrArg (fun b => some (Value.bool b)) hb36) rfl rfl rfl ?_; clear hf; intro a hf
      refine sY hf hs rfl rfl rfl (Y_pickT rfl (congrArg (fun b => some (Value.bool b)) hb36) rfl) ?_; clear hf; intro a hf
      refine sY hf hs rfl rfl rfl (Y_assign rfl rfl) ?_; clear hf; intro a hf
      refine wpO_nil ?_
      refine wpL_nil (then_normal ?_)
      exact ⟨true, Option.some.inj hj29, (FrD.pick hf.none hf rfl), hs.sel [] (by decide)⟩
     ·have hj29 := bif_f hj29 hb36
      refine sYg hf hs rfl rfl rfl (congrArg (fun b => some (Value.bool b)) hb36) rfl rfl rfl (Y_load_blkS rfl rfl (i := 0) rfl ag52 ti52 rfl) ?_; clear hf; intro a hf
      refine sYg hf hs rfl rfl rfl (congrArg (fun b => some (Value.bool b)) hb36) rfl rfl rfl (Y_load_blkS rfl rfl (i := 1) rfl ag54 ti54 rfl) ?_; clear hf; intro a hf
      obtain ⟨r37, hc38, hj29⟩ := bind_some hj29
      refine sCallg hf rfl rfl rfl (congrArg (fun b => some (Value.bool b)) hb36) rfl rfl rfl rfl (cap := []) rfl rfl en140 (spec_l20Kept_ok F ad ae ad.Places.length ah rfl am ao am.Starts.length ap rfl _ _ hc38 (aA.at hs) (aJ.at hs)) ?_; clear hf
      rintro _ w ⟨rfl, hs1⟩ a hf
      have hs : St _ W w [_, _, _] := hs.ext hs1.below
      clear hs1
      refine sYg hf hs rfl rfl rfl (congrArg (fun b => some (Value.bool b)) hb36) rfl rfl rfl (Y_not rfl rfl) ?_; clear hf; intro a hf
      refine sY hf hs rfl rfl rfl (Y_pickF rfl (congrArg (fun b => some (Value.bool b)) hb36) rfl) ?_; clear hf; intro a hf
      refine sY hf hs rfl rfl rfl (Y_assign rfl rfl) ?_; clear hf; intro a hf
      refine wpO_nil ?_
      refine wpL_nil (then_normal ?_)
      exact ⟨(!r37), Option.some.inj hj29, (FrD.pick hf.none hf rfl), hs.sel [] (by decide)⟩
    ·rintro a w ⟨b27, hr_, hf, hs⟩
     subst hr_
     try dsimp only at hm
     refine wpL_cond hf rfl (fun hb39 => ?_) (fun hb39 => ?_)
     ·have hm := bif_t hm hb39
      refine wpL_seq <| wpL_region ?_
      refine sY hf hs rfl rfl rfl (Y_assign rfl rfl) ?_; clear hf; intro a hf
      refine wpO_nil ?_
      obtain rfl := Option.some.inj hm
      refine wpL_ret (Qb_ret (ret_tmp rfl hf rfl ?_))
      exact ⟨_, rfl, rfl, hs⟩
     ·have hm := bif_f hm hb39
      refine wpL_skip ?_
      refine wpL_nil (Qb_normal ?_)
      refine wpL_seq <| wpL_region ?_
      refine sY hf hs rfl rfl rfl (Y_assign rfl rfl) ?_; clear hf; intro a hf
      refine wpO_nil ?_
      obtain rfl := Option.some.inj hm
      refine wpL_ret (ret_tmp rfl hf rfl ?_)
      exact ⟨_, rfl, rfl, hs⟩

set_option maxRecDepth 100000 in
theorem spec_FreeSlack_ok (F : Nat) (ad : GEventGraph) (ae : Option Addr) (az ah : Nat) (aC : az = ad.Places.length) (am : GTimetable) (ao : Option Addr) (aG ap : Nat) (aQ : aG = am.Starts.length) (aS : Int) (r : Int × Int) (W : World) (hm : spec_FreeSlack F ad am aS = some r) (aA : Rd W ae ((recs GPlace.cells) ad.Places)) (aJ : Rd W ao (ints am.Starts)) :
  Calls Try.prog 41 [.agg #[.int .i64 ad.Events, .slice ae az ah], .agg #[.int .i64 am.Period, .slice ao aG ap], .int .i64 aS].toArray W fun e w' => ∃ v, e = .returned v ∧ v = .tuple #[.int .i64 r.1, .int .i64 r.2] ∧ St [] W w' [] := by
 subst aC
 subst aQ
 unfold spec_FreeSlack at hm
 refine Calls.enter (N := 50) Try.func41 rfl rfl rfl (fun a hf => ?_)
 have hs := St.start W
 obtain ⟨w, hw_⟩ : ∃ w, w = W := ⟨W, rfl⟩
 clear hw_ w
 refine wpL_seq <| wpL_region ?_
 refine sBox hf hs rfl rfl rfl rfl rfl (cs := [.int .i64 ad.Events, .slice ae ad.Places.length ah]) rfl ?_; clear hf hs; intro a w b1 hs hf
 have hs : St _ W w [_] := hs
 refine sBox hf hs rfl rfl rfl rfl rfl (cs := [.int .i64 am.Period, .slice ao am.Starts.length ap]) rfl ?_; clear hf hs; intro a w b2 hs hf
 have hs : St _ W w [_, _] := hs
 refine sY hf hs rfl rfl rfl (Y_assign rfl rfl) ?_; clear hf; intro a hf
 refine sY hf hs rfl rfl rfl (Y_assign rfl rfl) ?_; clear hf; intro a hf
 refine wpO_nil <| wpL_seq ?_
 refine wpL_drawM [.blk b1 52 [.int .i64 ad.Events, .slice ae ad.Places.length ah], .blk b2 54 [.int .i64 am.Period, .slice ao am.Starts.length ap]] [10] (by kernel_rfl) hs ?_; clear hs; intro w hs
 have hs0 : St _ W w [_, _] := hs
 refine mY (i := 0) [[]] rfl (by kernel_rfl) (by kernel_rfl) hf hs0 rfl rfl rfl (Y_load_blkS rfl rfl (i := 0) rfl ag52 ti52 rfl) ?_; clear hf; intro a hf
 refine mY (i := 1) [[]] rfl (by kernel_rfl) (by kernel_rfl) hf hs0 rfl rfl rfl (Y_load_blkS rfl rfl (i := 1) rfl ag54 ti54 rfl) ?_; clear hf; intro a hf
 refine mY (i := 2) [[4]] rfl (by kernel_rfl) (by kernel_rfl) hf hs0 rfl rfl rfl (Y_load_blkS rfl rfl (i := 0) rfl ag52 ti52 rfl) ?_; clear hf; intro a hf
 refine mYp (i := 3) rfl (by kernel_rfl) (by kernel_rfl) hf rfl rfl rfl (fun _ => Y_move rfl rfl) ?_; clear hf; intro a hf
 refine mYp (i := 5) rfl (by kernel_rfl) (by kernel_rfl) hf rfl rfl rfl (fun _ => Y_move rfl rfl) ?_; clear hf; intro a hf
 refine mYp (i := 6) rfl (by kernel_rfl) (by kernel_rfl) hf rfl rfl rfl (fun _ => Y_fieldAddr rfl rfl fo52_0) ?_; clear hf; intro a hf
 refine mY (i := 7) [[8, 9]] rfl (by kernel_rfl) (by kernel_rfl) hf hs0 rfl rfl rfl (Y_load_blk rfl rfl (i := 0) rfl rfl ag2) ?_; clear hf; intro a hf
 refine mYp (i := 8) rfl (by kernel_rfl) (by kernel_rfl) hf rfl rfl rfl (fun _ => Y_sub rfl rfl rfl) ?_; clear hf; intro a hf
 refine mRun (i := 4) rfl (by kernel_rfl) ?_
 obtain ⟨r13, hc14, hm⟩ := bind_some hm
 refine sCall hf rfl rfl rfl rfl (cap := []) rfl rfl en88 (spec_l21One_ok F ad ae ad.Places.length ah rfl aS 0 _ _ hc14 (aA.at hs)) ?_; clear hf
 rintro _ w ⟨A15, n16, c17, rfl, hn18, hs1⟩ a hf
 have hs : St _ W w [_, _, .row A15 n16 c17 2 1 (ints r13)] := hs.join hs1
 clear hs1
 have hs0 : St _ W w [_, _] := hs.sel [0, 1] (by decide)
 refine wpO_nil ⟨Or.inr (fun _ => hs0), ?_⟩
 refine mRun (i := 9) rfl (by kernel_rfl) ?_
 obtain ⟨r19, hc20, hm⟩ := bind_some hm
 refine sCall hf rfl rfl rfl rfl (cap := []) rfl rfl en89 (spec_l01In_ok F aS 0 (IntKind.i64.wrap (ad.Events - 1)) _ _ hc20) ?_; clear hf
 rintro _ w ⟨rfl, hs1⟩ a hf
 have hs : St _ W w [_, _, _] := hs.ext hs1.below
 clear hs1
 have hs0 : St _ W w [_, _] := hs.sel [0, 1] (by decide)
 refine wpO_nil ⟨Or.inr (fun _ => hs0), ?_⟩
 refine mRun (i := 10) rfl (by kernel_rfl) ?_
 obtain ⟨r21, hc22, hm⟩ := bind_some hm
 refine sCall hf rfl rfl rfl rfl (cap := []) rfl rfl en79 (spec_l21Code_ok F ad ae ad.Places.length ah rfl am ao am.Starts.length ap rfl r13 A15 n16 c17 hn18 r19 _ _ hc22 (aA.at hs) (aJ.at hs) (hs.rd (i := 2) rfl)) ?_; clear hf
 rintro _ w ⟨rfl, hs1⟩ a hf
 have hs : St _ W w [_, _, _] := hs.ext hs1.below
 clear hs1
 refine wpO_nil ⟨Or.inl (by decide), ?_⟩
 refine mYp (i := 11) rfl (by kernel_rfl) (by kernel_rfl) hf rfl rfl rfl (fun _ => Y_assign rfl rfl) ?_; clear hf; intro a hf
 refine mDone (by kernel_rfl) ?_
 clear hs0
 refine wpL_seq <| wpL_seq <| wpL_region ?_
 refine sY hf hs rfl rfl rfl (Y_move rfl rfl) ?_; clear hf; intro a hf
 refine sY hf hs rfl rfl rfl (Y_neq rfl rfl rfl) ?_; clear hf; intro a hf
 refine wpO_nil ?_
 refine wpL_cond hf rfl (fun hb23 => ?_) (fun hb23 => ?_)
 ·have hm := bif_t hm hb23
  refine wpL_seq <| wpL_region ?_
  refine sY hf hs rfl rfl rfl (Y_move rfl rfl) ?_; clear hf; intro a hf
  refine sY hf hs rfl rfl rfl (Y_assign rfl rfl) ?_; clear hf; intro a hf
  refine sY hf hs rfl rfl rfl (Y_assign rfl rfl) ?_; clear hf; intro a hf
  refine wpO_nil ?_
  obtain rfl := Option.some.inj hm
  refine wpL_ret (ret_tmp2 rfl hf rfl rfl ?_)
  exact ⟨_, rfl, rfl, hs.sel [] (by decide)⟩
 ·have hm := bif_f hm hb23
  refine wpL_skip <| wpL_seq <| wpL_region ?_
  refine sY hf hs rfl rfl rfl (Y_load_blkS rfl rfl (i := 0) rfl ag52 ti52 rfl) ?_; clear hf; intro a hf
  refine sY hf hs rfl rfl rfl (Y_load_blkS rfl rfl (i := 1) rfl ag54 ti54 rfl) ?_; clear hf; intro a hf
  obtain ⟨r24, hc25, hm⟩ := bind_some hm
  refine sCall hf rfl rfl rfl rfl (cap := []) rfl rfl en90 (spec_l20Slacks_ok F ad ae ad.Places.length ah rfl am ao am.Starts.length ap rfl _ _ hc25 (aA.at hs) (aJ.at hs)) ?_; clear hf
  rintro _ w ⟨A26, n27, c28, rfl, hn29, hs1⟩ a hf
  have hs : St _ W w [_, _, _, .row A26 n27 c28 2 1 (ints r24)] := hs.join hs1
  clear hs1
  refine sY hf hs rfl rfl rfl (Y_assign rfl rfl) ?_; clear hf; intro a hf
  refine wpO_nil <| wpL_seq <| wpL_region ?_
  refine sY hf hs rfl rfl rfl (Y_assign rfl rfl) ?_; clear hf; intro a hf
  refine wpO_nil <| wpL_seq <| wpL_seq <| wpL_region ?_
  refine sY hf hs rfl rfl rfl (Y_assign rfl rfl) ?_; clear hf; intro a hf
  refine wpO_nil ?_
  obtain ⟨r53, hl54, hm⟩ := bind_some hm
  refine wpL_block (fun a w => ∃ x52 : Int, x52 = r53 ∧ Fr a 50 [(10, .int .i64 x52)] ∧ St [] W w []) ?_ ?_
  ·refine wpL_loop (fun n a w => ∃ x44 : Int, ∃ x45 : Int, spec_FreeSlack_L1 F ad aS r24 n x44 x45 = some r53 ∧ Fr a 50 [(2, .int .i64 aS), (3, .pointer (some ⟨b1, 0, none⟩)), (9, .slice A26 n27 c28), (10, .int .i64 x44), (11, .int .i64 x45)] ∧ St [] W w [.blk b1 52 [.int .i64 ad.Events, .slice ae ad.Places.length ah], .row A26 n27 c28 2 1 (ints r24)]) F ?_ ?_ ?_
   ·exact ⟨1000000, 0, hl54, (FrD.pick (FrD.pick (FrD.pick (FrD.pick (FrD.pick hf.none hf rfl) hf rfl) hf rfl) hf rfl) hf rfl), hs.sel [0, 3] (by decide)⟩
   ·rintro a w ⟨x44, x45, h0_, -, -⟩; simp [spec_FreeSlack_L1] at h0_
   ·rintro n56 a w ⟨x44, x45, hm55, hf, hs⟩
    rw [spec_FreeSlack_L1] at hm55
    refine wpL_seq <| wpL_seq <| wpL_region ?_
    refine sY hf hs rfl rfl rfl (Y_move rfl rfl) ?_; clear hf; intro a hf
    refine sY hf hs rfl rfl rfl (Y_move rfl rfl) ?_; clear hf; intro a hf
    refine sY hf hs rfl rfl rfl (Y_lenH rfl rfl el23 hn29) ?_; clear hf; intro a hf
    refine sY hf hs rfl rfl rfl (Y_lss rfl rfl rfl) ?_; clear hf; intro a hf
    refine wpO_nil ?_
    refine wpL_cond hf rfl (fun hb57 => ?_) (fun hb57 => ?_)
    ·have hm55 := bif_t hm55 hb57
     refine wpL_skip <| wpL_seq <| wpL_block0 <| wpL_seq <| wpL_region ?_
     refine sY hf hs rfl rfl rfl (Y_fieldAddr rfl rfl fo52_1) ?_; clear hf; intro a hf
     refine sY hf hs rfl rfl rfl (Y_load_blk rfl rfl (i := 0) rfl rfl ag50) ?_; clear hf; intro a hf
     refine sY hf hs rfl rfl rfl (Y_move rfl rfl) ?_; clear hf; intro a hf
     obtain ⟨q58, hi59, hm55⟩ := bind_some hm55
     obtain ⟨hi59a, hi59b, hi59q⟩ := idx_some hi59
     refine sY hf hs rfl rfl rfl (Y_index rfl rfl rfl el50 ti112 (Rd.isAt (aA.at hs) (recs_at (s := 4) GPlace.len hi59q (j := 0) rfl)) hi59a hi59b) ?_; clear hf; intro a hf
     refine sY hf hs rfl rfl rfl (Y_fieldAddrE rfl rfl fo112_0) ?_; clear hf; intro a hf
     refine sY hf hs rfl rfl rfl (Y_load_rd rfl rfl (fun w hs => aA.at hs) (recs_at (s := 4) GPlace.len hi59q (j := 0) rfl) ag2) ?_; clear hf; intro a hf
     refine sY hf hs rfl rfl rfl (Y_move rfl rfl) ?_; clear hf; intro a hf
     refine sY hf hs rfl rfl rfl (Y_eql rfl rfl rfl) ?_; clear hf; intro a hf
     refine wpO_nil ?_
     refine wpL_cond hf rfl (fun hb60 => ?_) (fun hb60 => ?_)
     ·have hm55 := bif_t hm55 hb60
      refine wpL_region ?_
      refine sY hf hs rfl rfl rfl (Y_move rfl rfl) ?_; clear hf; intro a hf
      refine sY hf hs rfl rfl rfl (Y_move rfl rfl) ?_; clear hf; intro a hf
      refine sY hf hs rfl rfl rfl (Y_move rfl rfl) ?_; clear hf; intro a hf
      obtain ⟨q61, hi62, hm55⟩ := bind_some hm55
      obtain ⟨hi62a, hi62b, hi62q⟩ := idx_some hi62
      refine sY hf hs rfl rfl rfl (Y_index rfl rfl rfl el23 ti2 (Rd.isAt (hs.rd (i := 1) rfl) (at1 (ints_at hi62q))) hi62a (ltn hn29 hi62b)) ?_; clear hf; intro a hf
      refine sY hf hs rfl rfl rfl (Y_load_rd rfl rfl (fun w hs => hs.rd (i := 1) rfl) (at1 (ints_at hi62q)) ag2) ?_; clear hf; intro a hf
      refine sY hf hs rfl rfl rfl (Y_min rfl rfl rfl) ?_; clear hf; intro a hf
      refine sY hf hs rfl rfl rfl (Y_assign rfl rfl) ?_; clear hf; intro a hf
      refine wpO_nil ?_
      refine wpL_nil (Qb_normal ?_)
      refine wpL_region ?_
      refine sY hf hs rfl rfl rfl (Y_move rfl rfl) ?_; clear hf; intro a hf
      refine sY hf hs rfl rfl rfl (Y_add rfl rfl rfl) ?_; clear hf; intro a hf
      refine sY hf hs rfl rfl rfl (Y_assign rfl rfl) ?_; clear hf; intro a hf
      refine wpO_nil ?_
      refine wpL_nil (Ql_normal ?_)
      exact ⟨(min x44 q61), (IntKind.i64.wrap (x45 + 1)), hm55, (FrD.pick (FrD.pick (FrD.pick (FrD.pick (FrD.pick hf.none hf rfl) hf rfl) hf rfl) hf rfl) hf rfl), hs⟩
     ·have hm55 := bif_f hm55 hb60
      refine wpL_skip ?_
      refine wpL_nil (Qb_normal ?_)
      refine wpL_region ?_
      refine sY hf hs rfl rfl rfl (Y_move rfl rfl) ?_; clear hf; intro a hf
      refine sY hf hs rfl rfl rfl (Y_add rfl rfl rfl) ?_; clear hf; intro a hf
      refine sY hf hs rfl rfl rfl (Y_assign rfl rfl) ?_; clear hf; intro a hf
      refine wpO_nil ?_
      refine wpL_nil (Ql_normal ?_)
      exact ⟨x44, (IntKind.i64.wrap (x45 + 1)), hm55, (FrD.pick (FrD.pick (FrD.pick (FrD.pick (FrD.pick hf.none hf rfl) hf rfl) hf rfl) hf rfl) hf rfl), hs⟩
    ·have hm55 := bif_f hm55 hb57
     refine wpL_exit (Ql_exit (Qb_exit ?_))
     exact ⟨x44, Option.some.inj hm55, (FrD.pick hf.none hf rfl), hs.sel [] (by decide)⟩
  ·rintro a w ⟨x52, hr_, hf, hs⟩
   subst hr_
   try dsimp only at hm
   refine wpL_seq <| wpL_region ?_
   refine sY hf hs rfl rfl rfl (Y_move rfl rfl) ?_; clear hf; intro a hf
   refine sY hf hs rfl rfl rfl (Y_assign rfl rfl) ?_; clear hf; intro a hf
   refine sY hf hs rfl rfl rfl (Y_assign rfl rfl) ?_; clear hf; intro a hf
   refine wpO_nil ?_
   obtain rfl := Option.some.inj hm
   refine wpL_ret (ret_tmp2 rfl hf rfl rfl ?_)
   exact ⟨_, rfl, rfl, hs⟩

set_option maxHeartbeats 2000000 in
set_option maxRecDepth 100000 in
theorem impl_delayTable_ok (F : Nat) (p0 : GEventGraph) (aq : Option Addr) (aP au : Nat) (bL : aP = p0.Places.length) (p1 : GTimetable) (ay : Option Addr) (aM aB : Nat) (bU : aM = p1.Starts.length) (p2 : List Int) (bw : Option Addr) (cx bC : Nat) (cE : cx = p2.length) (p3 : Int) (r : List (List Int)) (W : World) (hm : impl_delayTable F p0 p1 p2 p3 = some r) (aR : Rd W aq ((recs GPlace.cells) p0.Places)) (bc : Rd W ay (ints p1.Starts)) (cL : Rd W bw (ints p2)) :
  Calls Try.prog 86 [.agg #[.int .i64 p0.Events, .slice aq aP au], .agg #[.int .i64 p1.Period, .slice ay aM aB], .slice bw cx bC, .int .i64 p3].toArray W fun e w' => ∃ v, e = .returned v ∧ ∃ A2573, ∃ n2574, ∃ c2575, ∃ vs2577, v = .slice A2573 n2574 c2575 ∧ n2574 = r.length ∧ St [] W w' [.mat A2573 n2574 c2575 23 2 vs2577 r] := by
 subst bL
 subst bU
 subst cE
 unfold impl_delayTable at hm
 refine Calls.enter (N := 95) Try.func86 rfl rfl rfl (fun a hf => ?_)
 have hs := St.start W
 obtain ⟨w, hw_⟩ : ∃ w, w = W := ⟨W, rfl⟩
 clear hw_ w
 refine wpL_seq <| wpL_region ?_
 refine sBox hf hs rfl rfl rfl rfl rfl (cs := [.int .i64 p0.Events, .slice aq p0.Places.length au]) rfl ?_; clear hf hs; intro a w b1 hs hf
 have hs : St _ W w [.blk b1 52 [.int .i64 p0.Events, .slice aq p0.Places.length au]] := hs
 refine sBox hf hs rfl rfl rfl rfl rfl (cs := [.int .i64 p1.Period, .slice ay p1.Starts.length aB]) rfl ?_; clear hf hs; intro a w b2 hs hf
 have hs : St _ W w [_, .blk b2 54 [.int .i64 p1.Period, .slice ay p1.Starts.length aB]] := hs
 refine sY hf hs rfl rfl rfl (Y_assign rfl rfl) ?_; clear hf; intro a hf
 refine wpO_nil <| wpL_seq <| wpL_region ?_
 refine sY hf hs rfl rfl rfl (Y_load_blkS rfl rfl (i := 0) rfl ag52 ti52 rfl) ?_; clear hf; intro a hf
 obtain ⟨r3, hc4, hm⟩ := bind_some hm
 refine sCall hf rfl rfl rfl rfl (cap := []) rfl rfl en142 (impl_firingOrder_ok F p0 aq p0.Places.length au rfl _ _ hc4 (aR.at hs)) ?_; clear hf
 rintro _ w ⟨A5, n6, c7, rfl, hn8, hs1⟩ a hf
 have hs : St _ W w [_, _, .row A5 n6 c7 2 1 (ints r3.1)] := hs.join hs1
 clear hs1
 refine sY hf hs rfl rfl rfl (Y_move rfl rfl) ?_; clear hf; intro a hf
 refine sY hf hs rfl rfl rfl (Y_extract rfl rfl rfl) ?_; clear hf; intro a hf
 refine sY hf hs rfl rfl rfl (Y_extract rfl rfl rfl) ?_; clear hf; intro a hf
 refine sY hf hs rfl rfl rfl (Y_assign rfl rfl) ?_; clear hf; intro a hf
 refine sY hf hs rfl rfl rfl (Y_assign rfl rfl) ?_; clear hf; intro a hf
 refine wpO_nil <| wpL_seq <| wpL_region ?_
 refine sY hf hs rfl rfl rfl (Y_assign rfl rfl) ?_; clear hf; intro a hf
 refine wpO_nil <| wpL_seq <| wpL_seq <| wpL_region ?_
 refine sY hf hs rfl rfl rfl (Y_move rfl rfl) ?_; clear hf; intro a hf
 refine sY hf hs rfl rfl rfl (Y_move rfl rfl) ?_; clear hf; intro a hf
 refine wpO_nil ?_
 obtain ⟨r1934, hl1935, hm⟩ := bind_some hm
 have hs : St [] W _ [.blk b1 52 [.int .i64 p0.Events, .slice aq p0.Places.length au], .blk b2 54 [.int .i64 p1.Period, .slice ay p1.Starts.length aB], .row A5 n6 c7 2 1 (ints r3.1), .mat none 0 0 23 2 [] ([] : List (List Int))] := hs.addNilM 23 2
 refine wpL_block (fun a w => ∃ ms1928 : List (List Int), ∃ A1929, ∃ n1930, ∃ c1931, ∃ vs1933, ms1928 = r1934 ∧ n1930 = ms1928.length ∧ Fr a 95 [(11, .slice A1929 n1930 c1931)] ∧ St [] W w [.mat A1929 n1930 c1931 23 2 vs1933 ms1928]) ?_ ?_
 ·refine wpL_loop (fun n a w => ∃ ms1287 : List (List Int), ∃ x1293 : Int, ∃ A1288, ∃ n1289, ∃ c1290, ∃ vs1292, impl_delayTable_L16 F p0 p1 p2 p3 r3 n ms1287 x1293 = some r1934 ∧ n1289 = ms1287.length ∧ Fr a 95 [(2, .slice bw p2.length bC), (4, .pointer (some ⟨b1, 0, none⟩)), (5, .pointer (some ⟨b2, 0, none⟩)), (9, .slice A5 n6 c7), (11, .slice A1288 n1289 c1290), (24, .int .i64 p3), (25, .int .i64 x1293)] ∧ St [] W w [.blk b1 52 [.int .i64 p0.Events, .slice aq p0.Places.length au], .blk b2 54 [.int .i64 p1.Period, .slice ay p1.Starts.length aB], .row A5 n6 c7 2 1 (ints r3.1), .mat A1288 n1289 c1290 23 2 vs1292 ms1287]) F ?_ ?_ ?_
  ·exact ⟨([] : List (List Int)), 0, none, 0, 0, [], hl1935, rfl, (FrD.pick (FrD.pick (FrD.pick (FrD.pick (FrD.pick (FrD.pick (FrD.pick hf.none hf rfl) hf rfl) hf rfl) hf rfl) hf rfl) hf rfl) hf rfl), hs⟩
  ·rintro a w ⟨ms1287, x1293, A1288, n1289, c1290, vs1292, h0_, -, -, -⟩; simp [impl_delayTable_L16] at h0_
  ·rintro n1937 a w ⟨ms1287, x1293, A1288, n1289, c1290, vs1292, hm1936, hn1291, hf, hs⟩
   rw [impl_delayTable_L16] at hm1936
   refine wpL_seq <| wpL_region ?_
   refine sY hf hs rfl rfl rfl (Y_lss rfl rfl rfl) ?_; clear hf; intro a hf
   refine wpO_nil <| wpL_seq ?_
   refine wpL_cond hf rfl (fun hb1938 => ?_) (fun hb1938 => ?_)
   ·have hm1936 := bif_t hm1936 hb1938
    refine wpL_skip <| wpL_seq <| wpL_block0 <| wpL_seq <| wpL_region ?_
    refine sY hf hs rfl rfl rfl (Y_move rfl rfl) ?_; clear hf; intro a hf
    refine sY hf hs rfl rfl rfl (Y_assign rfl rfl) ?_; clear hf; intro a hf
    refine wpO_nil <| wpL_seq <| wpL_region ?_
    refine sY hf hs rfl rfl rfl (Y_fieldAddr rfl rfl fo52_0) ?_; clear hf; intro a hf
    refine sY hf hs rfl rfl rfl (Y_load_blk rfl rfl (i := 0) rfl rfl ag2) ?_; clear hf; intro a hf
    obtain ⟨xs1941, hk1940, hm1936⟩ := bind_some hm1936
    refine sMakeL (enc := ints) hf hs rfl rfl rfl rfl rfl hk1940 el23 ti2 rfl ints_made ?_; clear hf hs; intro a w A1939 hs hf
    have hs : St _ W w [_, _, _, _, .row A1939 xs1941.length xs1941.length 2 1 (ints xs1941)] := hs
    refine sY hf hs rfl rfl rfl (Y_assign rfl rfl) ?_; clear hf; intro a hf
    refine wpO_nil <| wpL_seq <| wpL_seq <| wpL_region ?_
    refine sY hf hs rfl rfl rfl (Y_move rfl rfl) ?_; clear hf; intro a hf
    refine sY hf hs rfl rfl rfl (Y_eql rfl rfl rfl) ?_; clear hf; intro a hf
    refine wpO_nil ?_
    obtain ⟨r1945, hj1946, hm1936⟩ := bind_some hm1936
    refine wpL_cut (fun a w => ∃ xs1943 : List Int, xs1943 = r1945 ∧ xs1941.length = xs1943.length ∧ Fr a 95 [(2, .slice bw p2.length bC), (4, .pointer (some ⟨b1, 0, none⟩)), (5, .pointer (some ⟨b2, 0, none⟩)), (9, .slice A5 n6 c7), (11, .slice A1288 n1289 c1290), (12, .int .i64 x1293), (13, .slice A1939 xs1941.length xs1941.length), (24, .int .i64 p3), (25, .int .i64 x1293)] ∧ St [] W w [.blk b1 52 [.int .i64 p0.Events, .slice aq p0.Places.length au], .blk b2 54 [.int .i64 p1.Period, .slice ay p1.Starts.length aB], .row A5 n6 c7 2 1 (ints r3.1), .mat A1288 n1289 c1290 23 2 vs1292 ms1287, .row A1939 xs1941.length xs1941.length 2 1 (ints xs1943)]) ?_ ?_
    ·refine wpL_cond hf rfl (fun hb1947 => ?_) (fun hb1947 => ?_)
     ·have hj1946 := bif_t hj1946 hb1947
      refine wpL_region ?_
      refine sY hf hs rfl rfl rfl (Y_move rfl rfl) ?_; clear hf; intro a hf
      refine sY hf hs rfl rfl rfl (Y_move rfl rfl) ?_; clear hf; intro a hf
      refine sCopy (i := 4) (xs := xs1941) (ys := p2) hf hs rfl rfl rfl rfl rfl rfl rfl rfl rfl el23 ti2 (cL.at hs) ?_; clear hf hs; intro a w hs hf
      have hs : St _ W w [_, _, _, _, .row A1939 xs1941.length xs1941.length 2 1 (ints (cpy xs1941 p2))] := hs
      refine wpO_nil ?_
      refine wpL_nil (then_normal ?_)
      exact ⟨(cpy xs1941 p2), Option.some.inj hj1946, (cpy_len xs1941 p2).symm, (FrD.pick (FrD.pick (FrD.pick (FrD.pick (FrD.pick (FrD.pick (FrD.pick (FrD.pick (FrD.pick hf.none hf rfl) hf rfl) hf rfl) hf rfl) hf rfl) hf rfl) hf rfl) hf rfl) hf rfl), hs⟩
     ·have hj1946 := bif_f hj1946 hb1947
      refine wpL_skip ?_
      refine wpL_nil (then_normal ?_)
      exact ⟨xs1941, Option.some.inj hj1946, rfl, (FrD.pick (FrD.pick (FrD.pick (FrD.pick (FrD.pick (FrD.pick (FrD.pick (FrD.pick (FrD.pick hf.none hf rfl) hf rfl) hf rfl) hf rfl) hf rfl) hf rfl) hf rfl) hf rfl) hf rfl), hs⟩
    ·rintro a w ⟨xs1943, hr_, hn1944, hf, hs⟩
     subst hr_
     try dsimp only at hm1936
     refine wpL_seq <| wpL_region ?_
     refine sY hf hs rfl rfl rfl (Y_move rfl rfl) ?_; clear hf; intro a hf
     refine sY hf hs rfl rfl rfl (Y_move rfl rfl) ?_; clear hf; intro a hf
     refine sOneM (j := 4) hf hs rfl rfl rfl rfl rfl rfl hn1944 el59 ti23 ?_; clear hf hs; intro a w A1948 hs hf
     have hs : St _ W w [_, _, _, _, .mat A1948 1 1 23 2 ([Value.slice A1939 xs1943.length xs1941.length]) ([xs1943])] := hs
     obtain ⟨ms1952, ha1953, hm1936⟩ := bind_some hm1936
     refine sAppendM (i := 3) (j := 4) hf hs rfl rfl rfl rfl rfl rfl hn1291 rfl (by decide) rfl rfl (by decide) ha1953 el59 ti23 rfl ?_; clear hf hs; intro a w A1950 c1951 hs hf
     have hs : St _ W w [_, _, _, .mat A1950 ms1952.length c1951 23 2 (vs1292 ++ ([Value.slice A1939 xs1943.length xs1941.length])) ms1952] := hs
     obtain ⟨hq1954, hv1955⟩ := hs.appended (i := 3) rfl ha1953
     refine sY hf hs rfl rfl rfl (Y_assign rfl rfl) ?_; clear hf; intro a hf
     refine wpO_nil <| wpL_seq <| wpL_region ?_
     refine sY hf hs rfl rfl rfl (Y_move rfl rfl) ?_; clear hf; intro a hf
     refine sY hf hs rfl rfl rfl (Y_lenH rfl rfl el23 hn8) ?_; clear hf; intro a hf
     refine sY hf hs rfl rfl rfl (Y_move rfl rfl) ?_; clear hf; intro a hf
     refine wpO_nil ?_
     obtain ⟨r2419, hl2420, hm1936⟩ := bind_some hm1936
     refine wpL_block (fun a w => ∃ ms2417 : List (List Int), ms2417 = r2419 ∧ ms1952.length = ms2417.length ∧ Fr a 95 [(2, .slice bw p2.length bC), (4, .pointer (some ⟨b1, 0, none⟩)), (5, .pointer (some ⟨b2, 0, none⟩)), (9, .slice A5 n6 c7), (11, .slice A1950 ms1952.length c1951), (24, .int .i64 p3), (25, .int .i64 x1293)] ∧ St [] W w [.blk b1 52 [.int .i64 p0.Events, .slice aq p0.Places.length au], .blk b2 54 [.int .i64 p1.Period, .slice ay p1.Starts.length aB], .row A5 n6 c7 2 1 (ints r3.1), .mat A1950 ms1952.length c1951 23 2 (vs1292 ++ ([Value.slice A1939 xs1943.length xs1941.length])) ms2417]) ?_ ?_
     ·refine wpL_loop (fun n a w => ∃ ms2261 : List (List Int), ∃ x2263 : Int, ∃ xs2264 : List Int, impl_delayTable_L20 F p0 p1 r3 ms1287 x1293 n ms2261 x2263 xs2264 = some r2419 ∧ ms1952.length = ms2261.length ∧ xs1941.length = xs2264.length ∧ ms2261[((ms1287.length : Int) : Int).toNat]? = some xs2264 ∧ (vs1292 ++ ([Value.slice A1939 xs1943.length xs1941.length]))[((ms1287.length : Int) : Int).toNat]? = some (Value.slice A1939 xs2264.length xs1941.length) ∧ Fr a 95 [(2, .slice bw p2.length bC), (4, .pointer (some ⟨b1, 0, none⟩)), (5, .pointer (some ⟨b2, 0, none⟩)), (9, .slice A5 n6 c7), (11, .slice A1950 ms1952.length c1951), (12, .int .i64 x1293), (13, .slice A1939 xs1941.length xs1941.length), (24, .int .i64 p3), (25, .int .i64 x1293), (40, .slice A5 n6 c7), (41, .int .i64 (r3.1.length : Int)), (42, .int .i64 x2263)] ∧ St [] W w [.blk b1 52 [.int .i64 p0.Events, .slice aq p0.Places.length au], .blk b2 54 [.int .i64 p1.Period, .slice ay p1.Starts.length aB], .row A5 n6 c7 2 1 (ints r3.1), .mat A1950 ms1952.length c1951 23 2 (vs1292 ++ ([Value.slice A1939 xs1943.length xs1941.length])) ms2261]) F ?_ ?_ ?_
      ·exact ⟨ms1952, 0, xs1943, hl2420, rfl, hn1944, hq1954, hv1955, (FrD.pick (FrD.pick (FrD.pick (FrD.pick (FrD.pick (FrD.pick (FrD.pick (FrD.pick (FrD.pick (FrD.pick (FrD.pick (FrD.pick hf.none hf rfl) hf rfl) hf rfl) hf rfl) hf rfl) hf rfl) hf rfl) hf rfl) hf rfl) hf rfl) hf rfl) hf rfl), hs⟩
      ·rintro a w ⟨ms2261, x2263, xs2264, h0_, -, -, -, -, -, -⟩; simp [impl_delayTable_L20] at h0_
      ·rintro n2422 a w ⟨ms2261, x2263, xs2264, hm2421, hn2262, hn2265, hq2266, hv2267, hf, hs⟩
       rw [impl_delayTable_L20] at hm2421
       refine wpL_seq <| wpL_region ?_
       refine sY hf hs rfl rfl rfl (Y_lss rfl rfl rfl) ?_; clear hf; intro a hf
       refine wpO_nil <| wpL_seq ?_
       refine wpL_cond hf rfl (fun hb2423 => ?_) (fun hb2423 => ?_)
       ·have hm2421 := bif_t hm2421 hb2423
        refine wpL_skip <| wpL_seq <| wpL_block0 <| wpL_seq <| wpL_region ?_
        obtain ⟨q2424, hi2425, hm2421⟩ := bind_some hm2421
        obtain ⟨hi2425a, hi2425b, hi2425q⟩ := idx_some hi2425
        refine sY hf hs rfl rfl rfl (Y_index rfl rfl rfl el23 ti2 (Rd.isAt (hs.rd (i := 2) rfl) (at1 (ints_at hi2425q))) hi2425a (ltn hn8 hi2425b)) ?_; clear hf; intro a hf
        refine sY hf hs rfl rfl rfl (Y_load_rd rfl rfl (fun w hs => hs.rd (i := 2) rfl) (at1 (ints_at hi2425q)) ag2) ?_; clear hf; intro a hf
        refine sY hf hs rfl rfl rfl (Y_assign rfl rfl) ?_; clear hf; intro a hf
        refine wpO_nil <| wpL_seq <| wpL_region ?_
        refine sY hf hs rfl rfl rfl (Y_load_blkS rfl rfl (i := 0) rfl ag52 ti52 rfl) ?_; clear hf; intro a hf
        refine sY hf hs rfl rfl rfl (Y_load_blkS rfl rfl (i := 1) rfl ag54 ti54 rfl) ?_; clear hf; intro a hf
        obtain ⟨r2426, hc2427, hm2421⟩ := bind_some hm2421
        refine sCall hf rfl rfl rfl rfl (cap := []) rfl rfl en87 (impl_slacksOf_ok F p0 aq p0.Places.length au rfl p1 ay p1.Starts.length aB rfl _ _ hc2427 (aR.at hs) (bc.at hs)) ?_; clear hf
        rintro _ w ⟨A2428, n2429, c2430, rfl, hn2431, hs1⟩ a hf
        have hs : St _ W w [_, _, _, _, .row A2428 n2429 c2430 2 1 (ints r2426)] := hs.join hs1
        clear hs1
        refine sY hf hs rfl rfl rfl (Y_lenH rfl rfl el23 hn2431) ?_; clear hf; intro a hf
        refine sY hf hs rfl rfl rfl (Y_move rfl rfl) ?_; clear hf; intro a hf
        refine wpO_nil ?_
        obtain ⟨r2539, hl2540, hm2421⟩ := bind_some hm2421
        refine wpL_block (fun a w => ∃ ms2533 : List (List Int), ∃ xs2535 : List Int, (ms2533, xs2535) = r2539 ∧ ms1952.length = ms2533.length ∧ xs1941.length = xs2535.length ∧ ms2533[((ms1287.length : Int) : Int).toNat]? = some xs2535 ∧ (vs1292 ++ ([Value.slice A1939 xs1943.length xs1941.length]))[((ms1287.length : Int) : Int).toNat]? = some (Value.slice A1939 xs2535.length xs1941.length) ∧ Fr a 95 [(2, .slice bw p2.length bC), (4, .pointer (some ⟨b1, 0, none⟩)), (5, .pointer (some ⟨b2, 0, none⟩)), (9, .slice A5 n6 c7), (11, .slice A1950 ms1952.length c1951), (12, .int .i64 x1293), (13, .slice A1939 xs1941.length xs1941.length), (24, .int .i64 p3), (25, .int .i64 x1293), (40, .slice A5 n6 c7), (41, .int .i64 (r3.1.length : Int)), (42, .int .i64 x2263)] ∧ St [] W w [.blk b1 52 [.int .i64 p0.Events, .slice aq p0.Places.length au], .blk b2 54 [.int .i64 p1.Period, .slice ay p1.Starts.length aB], .row A5 n6 c7 2 1 (ints r3.1), .mat A1950 ms1952.length c1951 23 2 (vs1292 ++ ([Value.slice A1939 xs1943.length xs1941.length])) ms2533]) ?_ ?_
        ·refine wpL_loop (fun n a w => ∃ ms2497 : List (List Int), ∃ x2499 : Int, ∃ xs2500 : List Int, impl_delayTable_L21 F p0 ms1287 x1293 q2424 r2426 n ms2497 x2499 xs2500 = some r2539 ∧ ms1952.length = ms2497.length ∧ xs1941.length = xs2500.length ∧ ms2497[((ms1287.length : Int) : Int).toNat]? = some xs2500 ∧ (vs1292 ++ ([Value.slice A1939 xs1943.length xs1941.length]))[((ms1287.length : Int) : Int).toNat]? = some (Value.slice A1939 xs2500.length xs1941.length) ∧ Fr a 95 [(2, .slice bw p2.length bC), (4, .pointer (some ⟨b1, 0, none⟩)), (5, .pointer (some ⟨b2, 0, none⟩)), (9, .slice A5 n6 c7), (11, .slice A1950 ms1952.length c1951), (12, .int .i64 x1293), (13, .slice A1939 xs1941.length xs1941.length), (15, .int .i64 q2424), (24, .int .i64 p3), (25, .int .i64 x1293), (40, .slice A5 n6 c7), (41, .int .i64 (r3.1.length : Int)), (42, .int .i64 x2263), (48, .slice A2428 n2429 c2430), (49, .int .i64 (r2426.length : Int)), (50, .int .i64 x2499)] ∧ St [] W w [.blk b1 52 [.int .i64 p0.Events, .slice aq p0.Places.length au], .blk b2 54 [.int .i64 p1.Period, .slice ay p1.Starts.length aB], .row A5 n6 c7 2 1 (ints r3.1), .mat A1950 ms1952.length c1951 23 2 (vs1292 ++ ([Value.slice A1939 xs1943.length xs1941.length])) ms2497, .row A2428 n2429 c2430 2 1 (ints r2426)]) F ?_ ?_ ?_
         ·exact ⟨ms2261, 0, xs2264, hl2540, hn2262, hn2265, hq2266, hv2267, (FrD.pick (FrD.pick (FrD.pick (FrD.pick (FrD.pick (FrD.pick (FrD.pick (FrD.pick (FrD.pick (FrD.pick (FrD.pick (FrD.pick (FrD.pick (FrD.pick (FrD.pick (FrD.pick hf.none hf rfl) hf rfl) hf rfl) hf rfl) hf rfl) hf rfl) hf rfl) hf rfl) hf rfl) hf rfl) hf rfl) hf rfl) hf rfl) hf rfl) hf rfl) hf rfl), hs⟩
         ·rintro a w ⟨ms2497, x2499, xs2500, h0_, -, -, -, -, -, -⟩; simp [impl_delayTable_L21] at h0_
         ·rintro n2542 a w ⟨ms2497, x2499, xs2500, hm2541, hn2498, hn2501, hq2502, hv2503, hf, hs⟩
          rw [impl_delayTable_L21] at hm2541
          refine wpL_seq <| wpL_region ?_
          refine sY hf hs rfl rfl rfl (Y_lss rfl rfl rfl) ?_; clear hf; intro a hf
          refine wpO_nil <| wpL_seq ?_
          refine wpL_cond hf rfl (fun hb2543 => ?_) (fun hb2543 => ?_)
          ·have hm2541 := bif_t hm2541 hb2543
           refine wpL_skip <| wpL_seq <| wpL_block0 <| wpL_seq <| wpL_region ?_
           refine sY hf hs rfl rfl rfl (Y_move rfl rfl) ?_; clear hf; intro a hf
           obtain ⟨q2544, hi2545, hm2541⟩ := bind_some hm2541
           obtain ⟨hi2545a, hi2545b, hi2545q⟩ := idx_some hi2545
           refine sY hf hs rfl rfl rfl (Y_index rfl rfl rfl el23 ti2 (Rd.isAt (hs.rd (i := 4) rfl) (at1 (ints_at hi2545q))) hi2545a (ltn hn2431 hi2545b)) ?_; clear hf; intro a hf
           refine sY hf hs rfl rfl rfl (Y_load_rd rfl rfl (fun w hs => hs.rd (i := 4) rfl) (at1 (ints_at hi2545q)) ag2) ?_; clear hf; intro a hf
           refine sY hf hs rfl rfl rfl (Y_assign rfl rfl) ?_; clear hf; intro a hf
           refine sY hf hs rfl rfl rfl (Y_assign rfl rfl) ?_; clear hf; intro a hf
           refine wpO_nil <| wpL_seq <| wpL_region ?_
           refine sY hf hs rfl rfl rfl (Y_fieldAddr rfl rfl fo52_1) ?_; clear hf; intro a hf
           refine sY hf hs rfl rfl rfl (Y_load_blk rfl rfl (i := 0) rfl rfl ag50) ?_; clear hf; intro a hf
           refine sY hf hs rfl rfl rfl (Y_move rfl rfl) ?_; clear hf; intro a hf
           obtain ⟨q2546, hi2547, hm2541⟩ := bind_some hm2541
           obtain ⟨hi2547a, hi2547b, hi2547q⟩ := idx_some hi2547
           refine sY hf hs rfl rfl rfl (Y_index rfl rfl rfl el50 ti112 (Rd.isAt (aR.at hs) (recs_at (s := 4) GPlace.len hi2547q (j := 0) rfl)) hi2547a hi2547b) ?_; clear hf; intro a hf
           refine sY hf hs rfl rfl rfl (Y_load_rdS rfl rfl (us := [.int .i64 q2546.From, .int .i64 q2546.To, .int .i64 q2546.Delay, .int .i64 q2546.Tokens]) (fun w hs => aR.at hs) (fun j u hj => recs_at (s := 4) GPlace.len hi2547q hj) (Nat.succ_pos _) ag112 ti112 rfl) ?_; clear hf; intro a hf
           refine sAlloc hf hs rfl rfl rfl rfl ti112 ?_; clear hf hs; intro a w b2548 hs hf
           have hs : St _ W w [_, _, _, _, _, .blk b2548 112 [.int .i64 0, .int .i64 0, .int .i64 0, .int .i64 0]] := hs
           refine sStore (i := 5) (us := [.int .i64 q2546.From, .int .i64 q2546.To, .int .i64 q2546.Delay, .int .i64 q2546.Tokens]) hf hs rfl rfl rfl rfl rfl rfl ti112 rfl rfl rfl (Nat.le_of_ble_eq_true rfl) rfl ?_; clear hs; intro w hs
           have hs : St _ W w [_, _, _, _, _, .blk b2548 112 [.int .i64 q2546.From, .int .i64 q2546.To, .int .i64 q2546.Delay, .int .i64 q2546.Tokens]] := hs
           refine wpO_nil <| wpL_seq ?_
           obtain ⟨r2551, hj2552, hm2541⟩ := bind_some hm2541
           refine wpL_cut (fun a w => ∃ b2550 : Bool, b2550 = r2551 ∧ Fr a 95 [(2, .slice bw p2.length bC), (4, .pointer (some ⟨b1, 0, none⟩)), (5, .pointer (some ⟨b2, 0, none⟩)), (9, .slice A5 n6 c7), (11, .slice A1950 ms1952.length c1951), (12, .int .i64 x1293), (13, .slice A1939 xs1941.length xs1941.length), (15, .int .i64 q2424), (17, .int .i64 q2544), (18, .pointer (some ⟨b2548, 0, none⟩)), (24, .int .i64 p3), (25, .int .i64 x1293), (40, .slice A5 n6 c7), (41, .int .i64 (r3.1.length : Int)), (42, .int .i64 x2263), (48, .slice A2428 n2429 c2430), (49, .int .i64 (r2426.length : Int)), (50, .int .i64 x2499), (69, .bool b2550)] ∧ St [] W w [.blk b1 52 [.int .i64 p0.Events, .slice aq p0.Places.length au], .blk b2 54 [.int .i64 p1.Period, .slice ay p1.Starts.length aB], .row A5 n6 c7 2 1 (ints r3.1), .mat A1950 ms1952.length c1951 23 2 (vs1292 ++ ([Value.slice A1939 xs1943.length xs1941.length])) ms2497, .blk b2548 112 [.int .i64 q2546.From, .int .i64 q2546.To, .int .i64 q2546.Delay, .int .i64 q2546.Tokens], .row A2428 n2429 c2430 2 1 (ints r2426)]) ?_ ?_
           ·refine wpL_region ?_
            refine sY hf hs rfl rfl rfl (Y_fieldAddr rfl rfl fo112_1) ?_; clear hf; intro a hf
            refine sY hf hs rfl rfl rfl (Y_load_blk rfl rfl (i := 5) rfl rfl ag2) ?_; clear hf; intro a hf
            refine sY hf hs rfl rfl rfl (Y_move rfl rfl) ?_; clear hf; intro a hf
            refine sY hf hs rfl rfl rfl (Y_eql rfl rfl rfl) ?_; clear hf; intro a hf
            refine sY hf hs rfl rfl rfl (Y_move rfl rfl) ?_; clear hf; intro a hf
            refine bsplit (q2546.To == q2424) (fun hb2553 => ?_) (fun hb2553 => ?_)
            ·have hj2552 := bif_t hj2552 hb2553
             refine sYg hf hs rfl rfl rfl (congrArg (fun b => some (Value.bool b)) hb2553) rfl rfl rfl (Y_move rfl rfl) ?_; clear hf; intro a hf
             refine sYg hf hs rfl rfl rfl (congrArg (fun b => some (Value.bool b)) hb2553) rfl rfl rfl (Y_fieldAddr rfl rfl fo112_3) ?_; clear hf; intro a hf
             refine sYg hf hs rfl rfl rfl (congrArg (fun b => some (Value.bool b)) hb2553) rfl rfl rfl (Y_load_blk rfl rfl (i := 5) rfl rfl ag2) ?_; clear hf; intro a hf
             refine sYg hf hs rfl rfl rfl (congrArg (fun b => some (Value.bool b)) hb2553) rfl rfl rfl (Y_geq rfl rfl rfl) ?_; clear hf; intro a hf
             refine sY hf hs rfl rfl rfl (Y_pickT rfl (congrArg (fun b => some (Value.bool b)) hb2553) rfl) ?_; clear hf; intro a hf
             refine wpO_nil ?_
             refine wpL_nil (then_normal ?_)
             exact ⟨(decide (q2546.Tokens ≤ x1293)), Option.some.inj hj2552, (FrD.pick (FrD.pick (FrD.pick (FrD.pick (FrD.pick (FrD.pick (FrD.pick (FrD.pick (FrD.pick (FrD.pick (FrD.pick (FrD.pick (FrD.pick (FrD.pick (FrD.pick (FrD.pick (FrD.pick (FrD.pick (FrD.pick hf.none hf rfl) hf rfl) hf rfl) hf rfl) hf rfl) hf rfl) hf rfl) hf rfl) hf rfl) hf rfl) hf rfl) hf rfl) hf rfl) hf rfl) hf rfl) hf rfl) hf rfl) hf rfl) hf rfl), hs.sel [0, 1, 2, 3, 5, 4] (by decide)⟩
            ·have hj2552 := bif_f hj2552 hb2553
             refine sNo hf rfl rfl rfl (congrArg (fun b => some (Value.bool b)) hb2553) rfl rfl rfl ?_; clear hf; intro a hf
             refine sNo hf rfl rfl rfl (congrArg (fun b => some (Value.bool b)) hb2553) rfl rfl rfl ?_; clear hf; intro a hf
             refine sNo hf rfl rfl rfl (congrArg (fun b => some (Value.bool b)) hb2553) rfl rfl rfl ?_; clear hf; intro a hf
             refine sNo hf rfl rfl rfl (congrArg (fun b => some (Value.bool b)) hb2553) rfl rfl rfl ?_; clear hf; intro a hf
             refine sY hf hs rfl rfl rfl (Y_pickF rfl (congrArg (fun b => some (Value.bool b)) hb2553) rfl) ?_; clear hf; intro a hf
             refine wpO_nil ?_
             refine wpL_nil (then_normal ?_)
             exact ⟨false, Option.some.inj hj2552, (FrD.pick (FrD.pick (FrD.pick (FrD.pick (FrD.pick (FrD.pick (FrD.pick (FrD.pick (FrD.pick (FrD.pick (FrD.pick (FrD.pick (FrD.pick (FrD.pick (FrD.pick (FrD.pick (FrD.pick (FrD.pick (FrD.pick hf.none hf rfl) hf rfl) hf rfl) hf rfl) hf rfl) hf rfl) hf rfl) hf rfl) hf rfl) hf rfl) hf rfl) hf rfl) hf rfl) hf rfl) hf rfl) hf rfl) hf rfl) hf rfl) hf rfl), hs.sel [0, 1, 2, 3, 5, 4] (by decide)⟩
           ·rintro a w ⟨b2550, hr_, hf, hs⟩
            subst hr_
            try dsimp only at hm2541
            refine wpL_cond hf rfl (fun hb2554 => ?_) (fun hb2554 => ?_)
            ·have hm2541 := bif_t hm2541 hb2554
             refine wpL_drawM [.blk b1 52 [.int .i64 p0.Events, .slice aq p0.Places.length au], .blk b2 54 [.int .i64 p1.Period, .slice ay p1.Starts.length aB], .row A5 n6 c7 2 1 (ints r3.1), .mat A1950 ms1952.length c1951 23 2 (vs1292 ++ ([Value.slice A1939 xs1943.length xs1941.length])) ms2497, .blk b2548 112 [.int .i64 q2546.From, .int .i64 q2546.To, .int .i64 q2546.Delay, .int .i64 q2546.Tokens], .row A2428 n2429 c2430 2 1 (ints r2426)] [21] (by kernel_rfl) hs ?_; clear hs; intro w hs
             have hs0 : St _ W w [_, _, _, _, _, _] := hs
             refine mYp (i := 0) rfl (by kernel_rfl) (by kernel_rfl) hf rfl rfl rfl (fun _ => Y_move rfl rfl) ?_; clear hf; intro a hf
             refine mYp (i := 1) rfl (by kernel_rfl) (by kernel_rfl) hf rfl rfl rfl (fun _ => Y_move rfl rfl) ?_; clear hf; intro a hf
             refine mYp (i := 2) rfl (by kernel_rfl) (by kernel_rfl) hf rfl rfl rfl (fun _ => Y_move rfl rfl) ?_; clear hf; intro a hf
             refine mYp (i := 3) rfl (by kernel_rfl) (by kernel_rfl) hf rfl rfl rfl (fun _ => Y_move rfl rfl) ?_; clear hf; intro a hf
             obtain ⟨q2555, hi2556, hm2541⟩ := bind_some hm2541
             obtain ⟨hi2556a, hi2556b, hi2556q⟩ := idx_some hi2556
             refine mYp (i := 4) rfl (by kernel_rfl) (by kernel_rfl) hf rfl rfl rfl (fun _ => Y_index rfl rfl rfl el23 ti2 (Rd.isAt (hs.rdRow (i := 3) rfl ⟨hq2502, hv2503⟩) (at1 (ints_at hi2556q))) hi2556a (ltn hn2501 hi2556b)) ?_; clear hf; intro a hf
             refine mY (i := 5) [[]] rfl (by kernel_rfl) (by kernel_rfl) hf hs0 rfl rfl rfl (Y_load_rd rfl rfl (fun w hs => hs.rdRow (i := 3) rfl ⟨hq2502, hv2503⟩) (at1 (ints_at hi2556q)) ag2) ?_; clear hf; intro a hf
             refine mYp (i := 6) rfl (by kernel_rfl) (by kernel_rfl) hf rfl rfl rfl (fun _ => Y_move rfl rfl) ?_; clear hf; intro a hf
             refine mYp (i := 7) rfl (by kernel_rfl) (by kernel_rfl) hf rfl rfl rfl (fun _ => Y_move rfl rfl) ?_; clear hf; intro a hf
             refine mYp (i := 8) rfl (by kernel_rfl) (by kernel_rfl) hf rfl rfl rfl (fun _ => Y_fieldAddr rfl rfl fo112_3) ?_; clear hf; intro a hf
             refine mY (i := 9) [[]] rfl (by kernel_rfl) (by kernel_rfl) hf hs0 rfl rfl rfl (Y_load_blk rfl rfl (i := 4) rfl rfl ag2) ?_; clear hf; intro a hf
             refine mYp (i := 10) rfl (by kernel_rfl) (by kernel_rfl) hf rfl rfl rfl (fun _ => Y_sub rfl rfl rfl) ?_; clear hf; intro a hf
             obtain ⟨q2557, hi2558, hm2541⟩ := bind_some hm2541
             obtain ⟨hi2558a, hi2558b, hi2558q⟩ := idx_some hi2558
             obtain ⟨A2559, c2560, hv2561⟩ := hs.matRow (i := 3) rfl hi2558q
             refine mYp (i := 11) rfl (by kernel_rfl) (by kernel_rfl) hf rfl rfl rfl (fun _ => Y_index rfl rfl rfl el59 ti23 (Rd.isAt (hs.rdV (i := 3) rfl) hv2561) hi2558a (ltn hn2498 hi2558b)) ?_; clear hf; intro a hf
             refine mY (i := 12) [[]] rfl (by kernel_rfl) (by kernel_rfl) hf hs0 rfl rfl rfl (Y_load_rd rfl rfl (fun w hs => hs.rdV (i := 3) rfl) (at1 hv2561) ag23) ?_; clear hf; intro a hf
             refine mYp (i := 13) rfl (by kernel_rfl) (by kernel_rfl) hf rfl rfl rfl (fun _ => Y_fieldAddr rfl rfl fo112_0) ?_; clear hf; intro a hf
             refine mY (i := 14) [[]] rfl (by kernel_rfl) (by kernel_rfl) hf hs0 rfl rfl rfl (Y_load_blk rfl rfl (i := 4) rfl rfl ag2) ?_; clear hf; intro a hf
             obtain ⟨q2562, hi2563, hm2541⟩ := bind_some hm2541
             obtain ⟨hi2563a, hi2563b, hi2563q⟩ := idx_some hi2563
             refine mYp (i := 15) rfl (by kernel_rfl) (by kernel_rfl) hf rfl rfl rfl (fun _ => Y_index rfl rfl rfl el23 ti2 (Rd.isAt (hs.rdRow (i := 3) rfl ⟨hi2558q, hv2561⟩) (at1 (ints_at hi2563q))) hi2563a hi2563b) ?_; clear hf; intro a hf
             refine mY (i := 16) [[]] rfl (by kernel_rfl) (by kernel_rfl) hf hs0 rfl rfl rfl (Y_load_rd rfl rfl (fun w hs => hs.rdRow (i := 3) rfl ⟨hi2558q, hv2561⟩) (at1 (ints_at hi2563q)) ag2) ?_; clear hf; intro a hf
             refine mYp (i := 17) rfl (by kernel_rfl) (by kernel_rfl) hf rfl rfl rfl (fun _ => Y_move rfl rfl) ?_; clear hf; intro a hf
             refine mYp (i := 18) rfl (by kernel_rfl) (by kernel_rfl) hf rfl rfl rfl (fun _ => Y_sub rfl rfl rfl) ?_; clear hf; intro a hf
             refine mYp (i := 19) rfl (by kernel_rfl) (by kernel_rfl) hf rfl rfl rfl (fun _ => Y_max rfl rfl rfl) ?_; clear hf; intro a hf
             obtain ⟨q2564, hi2565, hm2541⟩ := bind_some hm2541
             obtain ⟨hi2565a, hi2565b, hi2565q⟩ := idx_some hi2565
             refine mYp (i := 20) rfl (by kernel_rfl) (by kernel_rfl) hf rfl rfl rfl (fun _ => Y_index rfl rfl rfl el23 ti2 (Rd.isAt (hs.rdRow (i := 3) rfl ⟨hq2502, hv2503⟩) (at1 (ints_at hi2565q))) hi2565a (ltn hn2501 hi2565b)) ?_; clear hf; intro a hf
             refine mRun (i := 21) rfl (by kernel_rfl) ?_
             obtain ⟨xs2566, hu2568, hm2541⟩ := bind_some hm2541
             obtain ⟨ms2567, hu2569, hm2541⟩ := bind_some hm2541
             refine sStoreM (i := 3) (k := (ms1287.length : Int)) hf hs rfl rfl rfl rfl rfl rfl hq2502 hv2503 rfl hu2568 hu2569 ti2 ?_; clear hs; intro w hs
             obtain ⟨hq2570, hv2571⟩ := rowUpd hu2568 hu2569 hv2503
             have hs : St _ W w [_, _, _, .mat A1950 ms1952.length c1951 23 2 (vs1292 ++ ([Value.slice A1939 xs1943.length xs1941.length])) ms2567, _, _] := hs
             refine wpO_nil ⟨Or.inl (by decide), ?_⟩
             refine mDone (by kernel_rfl) ?_
             clear hs0
             refine wpL_nil (Qb_normal ?_)
             refine wpL_region ?_
             refine sY hf hs rfl rfl rfl (Y_add rfl rfl rfl) ?_; clear hf; intro a hf
             refine sY hf hs rfl rfl rfl (Y_move rfl rfl) ?_; clear hf; intro a hf
             refine wpO_nil ?_
             refine wpL_nil (Ql_normal ?_)
             exact ⟨ms2567, (IntKind.i64.wrap (x2499 + 1)), xs2566, hm2541, ((hn2498).trans (upd_len hu2569).symm), ((hn2501).trans (upd_len hu2568).symm), hq2570, hv2571, (FrD.pick (FrD.pick (FrD.pick (FrD.pick (FrD.pick (FrD.pick (FrD.pick (FrD.pick (FrD.pick (FrD.pick (FrD.pick (FrD.pick (FrD.pick (FrD.pick (FrD.pick (FrD.pick hf.none hf rfl) hf rfl) hf rfl) hf rfl) hf rfl) hf rfl) hf rfl) hf rfl) hf rfl) hf rfl) hf rfl) hf rfl) hf rfl) hf rfl) hf rfl) hf rfl), hs.sel [0, 1, 2, 3, 5] (by decide)⟩
            ·have hm2541 := bif_f hm2541 hb2554
             refine wpL_skip ?_
             refine wpL_nil (Qb_normal ?_)
             refine wpL_region ?_
             refine sY hf hs rfl rfl rfl (Y_add rfl rfl rfl) ?_; clear hf; intro a hf
             refine sY hf hs rfl rfl rfl (Y_move rfl rfl) ?_; clear hf; intro a hf
             refine wpO_nil ?_
             refine wpL_nil (Ql_normal ?_)
             exact ⟨ms2497, (IntKind.i64.wrap (x2499 + 1)), xs2500, hm2541, hn2498, hn2501, hq2502, hv2503, (FrD.pick (FrD.pick (FrD.pick (FrD.pick (FrD.pick (FrD.pick (FrD.pick (FrD.pick (FrD.pick (FrD.pick (FrD.pick (FrD.pick (FrD.pick (FrD.pick (FrD.pick (FrD.pick hf.none hf rfl) hf rfl) hf rfl) hf rfl) hf rfl) hf rfl) hf rfl) hf rfl) hf rfl) hf rfl) hf rfl) hf rfl) hf rfl) hf rfl) hf rfl) hf rfl), hs.sel [0, 1, 2, 3, 5] (by decide)⟩
          ·have hm2541 := bif_f hm2541 hb2543
           refine wpL_exit (Ql_exit (Qb_exit ?_))
           exact ⟨ms2497, xs2500, Option.some.inj hm2541, hn2498, hn2501, hq2502, hv2503, (FrD.pick (FrD.pick (FrD.pick (FrD.pick (FrD.pick (FrD.pick (FrD.pick (FrD.pick (FrD.pick (FrD.pick (FrD.pick (FrD.pick hf.none hf rfl) hf rfl) hf rfl) hf rfl) hf rfl) hf rfl) hf rfl) hf rfl) hf rfl) hf rfl) hf rfl) hf rfl), hs.sel [0, 1, 2, 3] (by decide)⟩
        ·rintro a w ⟨ms2533, xs2535, hr_, hn2534, hn2536, hq2537, hv2538, hf, hs⟩
         subst hr_
         try dsimp only at hm2421
         refine wpL_nil (Qb_normal ?_)
         refine wpL_region ?_
         refine sY hf hs rfl rfl rfl (Y_add rfl rfl rfl) ?_; clear hf; intro a hf
         refine sY hf hs rfl rfl rfl (Y_move rfl rfl) ?_; clear hf; intro a hf
         refine wpO_nil ?_
         refine wpL_nil (Ql_normal ?_)
         exact ⟨ms2533, (IntKind.i64.wrap (x2263 + 1)), xs2535, hm2421, hn2534, hn2536, hq2537, hv2538, (FrD.pick (FrD.pick (FrD.pick (FrD.pick (FrD.pick (FrD.pick (FrD.pick (FrD.pick (FrD.pick (FrD.pick (FrD.pick (FrD.pick hf.none hf rfl) hf rfl) hf rfl) hf rfl) hf rfl) hf rfl) hf rfl) hf rfl) hf rfl) hf rfl) hf rfl) hf rfl), hs⟩
       ·have hm2421 := bif_f hm2421 hb2423
        refine wpL_exit (Ql_exit (Qb_exit ?_))
        exact ⟨ms2261, Option.some.inj hm2421, hn2262, (FrD.pick (FrD.pick (FrD.pick (FrD.pick (FrD.pick (FrD.pick (FrD.pick hf.none hf rfl) hf rfl) hf rfl) hf rfl) hf rfl) hf rfl) hf rfl), hs⟩
     ·rintro a w ⟨ms2417, hr_, hn2418, hf, hs⟩
      subst hr_
      try dsimp only at hm1936
      refine wpL_nil (Qb_normal ?_)
      refine wpL_region ?_
      refine sY hf hs rfl rfl rfl (Y_add rfl rfl rfl) ?_; clear hf; intro a hf
      refine sY hf hs rfl rfl rfl (Y_move rfl rfl) ?_; clear hf; intro a hf
      refine wpO_nil ?_
      refine wpL_nil (Ql_normal ?_)
      exact ⟨ms2417, (IntKind.i64.wrap (x1293 + 1)), A1950, ms1952.length, c1951, (vs1292 ++ ([Value.slice A1939 xs1943.length xs1941.length])), hm1936, hn2418, (FrD.pick (FrD.pick (FrD.pick (FrD.pick (FrD.pick (FrD.pick (FrD.pick hf.none hf rfl) hf rfl) hf rfl) hf rfl) hf rfl) hf rfl) hf rfl), hs⟩
   ·have hm1936 := bif_f hm1936 hb1938
    refine wpL_exit (Ql_exit (Qb_exit ?_))
    exact ⟨ms1287, A1288, n1289, c1290, vs1292, Option.some.inj hm1936, hn1291, (FrD.pick hf.none hf rfl), hs.sel [3] (by decide)⟩
 ·rintro a w ⟨ms1928, A1929, n1930, c1931, vs1933, hr_, hn1932, hf, hs⟩
  subst hr_
  try dsimp only at hm
  refine wpL_seq <| wpL_region ?_
  refine sY hf hs rfl rfl rfl (Y_move rfl rfl) ?_; clear hf; intro a hf
  refine sY hf hs rfl rfl rfl (Y_assign rfl rfl) ?_; clear hf; intro a hf
  refine wpO_nil ?_
  obtain rfl := Option.some.inj hm
  refine wpL_ret (ret_tmp rfl hf rfl ?_)
  exact ⟨_, rfl, A1929, n1930, c1931, vs1933, rfl, hn1932, hs⟩

set_option maxRecDepth 100000 in
theorem impl_worstOf_ok (F : Nat) (ad : GEventGraph) (ae : Option Addr) (az ah : Nat) (aC : az = ad.Places.length) (bR : List (List Int)) (cd : Option Addr) (cz ci : Nat) (cG : cz = bR.length) (r : List Int) (W : World) (hm : impl_worstOf F ad bR = some r) (_h_p0_g_1 : Rd W ae ((recs GPlace.cells) ad.Places)) (cM : RdM W cd bR) :
  Calls Try.prog 94 [.agg #[.int .i64 ad.Events, .slice ae az ah], .slice cd cz ci].toArray W fun e w' => ∃ v, e = .returned v ∧ ∃ A249, ∃ n250, ∃ c251, v = .slice A249 n250 c251 ∧ n250 = r.length ∧ St [] W w' [.row A249 n250 c251 2 1 (ints r)] := by
 subst aC
 subst cG
 unfold impl_worstOf at hm
 refine Calls.enter (N := 38) Try.func94 rfl rfl rfl (fun a hf => ?_)
 have hs := St.start W
 obtain ⟨w, hw_⟩ : ∃ w, w = W := ⟨W, rfl⟩
 clear hw_ w
 refine wpL_seq <| wpL_region ?_
 refine sBox hf hs rfl rfl rfl rfl rfl (cs := [.int .i64 ad.Events, .slice ae ad.Places.length ah]) rfl ?_; clear hf hs; intro a w b1 hs hf
 have hs : St _ W w [.blk b1 52 [.int .i64 ad.Events, .slice ae ad.Places.length ah]] := hs
 refine sY hf hs rfl rfl rfl (Y_assign rfl rfl) ?_; clear hf; intro a hf
 refine wpO_nil <| wpL_seq <| wpL_region ?_
 refine sY hf hs rfl rfl rfl (Y_fieldAddr rfl rfl fo52_0) ?_; clear hf; intro a hf
 refine sY hf hs rfl rfl rfl (Y_load_blk rfl rfl (i := 0) rfl rfl ag2) ?_; clear hf; intro a hf
 obtain ⟨xs4, hk3, hm⟩ := bind_some hm
 refine sMakeL (enc := ints) hf hs rfl rfl rfl rfl rfl hk3 el23 ti2 rfl ints_made ?_; clear hf hs; intro a w A2 hs hf
 have hs : St _ W w [_, .row A2 xs4.length xs4.length 2 1 (ints xs4)] := hs
 refine sY hf hs rfl rfl rfl (Y_assign rfl rfl) ?_; clear hf; intro a hf
 refine wpO_nil <| wpL_seq <| wpL_seq <| wpL_region ?_
 refine sY hf hs rfl rfl rfl (Y_move rfl rfl) ?_; clear hf; intro a hf
 refine sY hf hs rfl rfl rfl (Y_lenH rfl rfl el59 rfl) ?_; clear hf; intro a hf
 refine sY hf hs rfl rfl rfl (Y_move rfl rfl) ?_; clear hf; intro a hf
 refine wpO_nil ?_
 obtain ⟨r187, hl188, hm⟩ := bind_some hm
 refine wpL_block (fun a w => ∃ xs185 : List Int, xs185 = r187 ∧ xs4.length = xs185.length ∧ Fr a 38 [(5, .slice A2 xs4.length xs4.length)] ∧ St [] W w [.row A2 xs4.length xs4.length 2 1 (ints xs185)]) ?_ ?_
 ·refine wpL_loop (fun n a w => ∃ xs124 : List Int, ∃ x126 : Int, impl_worstOf_L4 F bR n xs124 x126 = some r187 ∧ xs4.length = xs124.length ∧ Fr a 38 [(5, .slice A2 xs4.length xs4.length), (13, .slice cd bR.length ci), (14, .int .i64 (bR.length : Int)), (15, .int .i64 x126)] ∧ St [] W w [.row A2 xs4.length xs4.length 2 1 (ints xs124)]) F ?_ ?_ ?_
  ·exact ⟨xs4, 0, hl188, rfl, (FrD.pick (FrD.pick (FrD.pick (FrD.pick hf.none hf rfl) hf rfl) hf rfl) hf rfl), hs.sel [1] (by decide)⟩
  ·rintro a w ⟨xs124, x126, h0_, -, -, -⟩; simp [impl_worstOf_L4] at h0_
  ·rintro n190 a w ⟨xs124, x126, hm189, hn125, hf, hs⟩
   rw [impl_worstOf_L4] at hm189
   refine wpL_seq <| wpL_region ?_
   refine sY hf hs rfl rfl rfl (Y_lss rfl rfl rfl) ?_; clear hf; intro a hf
   refine wpO_nil <| wpL_seq ?_
   refine wpL_cond hf rfl (fun hb191 => ?_) (fun hb191 => ?_)
   ·have hm189 := bif_t hm189 hb191
    refine wpL_skip <| wpL_seq <| wpL_block0 <| wpL_seq <| wpL_region ?_
    obtain ⟨q192, hi193, hm189⟩ := bind_some hm189
    obtain ⟨hi193a, hi193b, hi193q⟩ := idx_some hi193
    obtain ⟨vs194, hv195, hr196⟩ := id cM
    obtain ⟨A197, c198, hv199, hR200⟩ := hr196 _ _ hi193q
    refine sY hf hs rfl rfl rfl (Y_index rfl rfl rfl el59 ti23 (Rd.isAt hv195 hv199) hi193a hi193b) ?_; clear hf; intro a hf
    refine sY hf hs rfl rfl rfl (Y_load_rd rfl rfl (fun w hs => hv195.at hs) (at1 hv199) ag23) ?_; clear hf; intro a hf
    refine sY hf hs rfl rfl rfl (Y_assign rfl rfl) ?_; clear hf; intro a hf
    refine wpO_nil <| wpL_seq <| wpL_region ?_
    refine sY hf hs rfl rfl rfl (Y_move rfl rfl) ?_; clear hf; intro a hf
    refine sY hf hs rfl rfl rfl (Y_lenH rfl rfl el23 rfl) ?_; clear hf; intro a hf
    refine sY hf hs rfl rfl rfl (Y_move rfl rfl) ?_; clear hf; intro a hf
    refine wpO_nil ?_
    obtain ⟨r236, hl237, hm189⟩ := bind_some hm189
    refine wpL_block (fun a w => ∃ xs234 : List Int, xs234 = r236 ∧ xs4.length = xs234.length ∧ Fr a 38 [(5, .slice A2 xs4.length xs4.length), (13, .slice cd bR.length ci), (14, .int .i64 (bR.length : Int)), (15, .int .i64 x126)] ∧ St [] W w [.row A2 xs4.length xs4.length 2 1 (ints xs234)]) ?_ ?_
    ·refine wpL_loop (fun n a w => ∃ xs222 : List Int, ∃ x224 : Int, impl_worstOf_L5 F q192 n xs222 x224 = some r236 ∧ xs4.length = xs222.length ∧ Fr a 38 [(5, .slice A2 xs4.length xs4.length), (13, .slice cd bR.length ci), (14, .int .i64 (bR.length : Int)), (15, .int .i64 x126), (19, .slice A197 q192.length c198), (20, .int .i64 (q192.length : Int)), (21, .int .i64 x224)] ∧ St [] W w [.row A2 xs4.length xs4.length 2 1 (ints xs222)]) F ?_ ?_ ?_
     ·exact ⟨xs124, 0, hl237, hn125, (FrD.pick (FrD.pick (FrD.pick (FrD.pick (FrD.pick (FrD.pick (FrD.pick hf.none hf rfl) hf rfl) hf rfl) hf rfl) hf rfl) hf rfl) hf rfl), hs⟩
     ·rintro a w ⟨xs222, x224, h0_, -, -, -⟩; simp [impl_worstOf_L5] at h0_
     ·rintro n239 a w ⟨xs222, x224, hm238, hn223, hf, hs⟩
      rw [impl_worstOf_L5] at hm238
      refine wpL_seq <| wpL_region ?_
      refine sY hf hs rfl rfl rfl (Y_lss rfl rfl rfl) ?_; clear hf; intro a hf
      refine wpO_nil <| wpL_seq ?_
      refine wpL_cond hf rfl (fun hb240 => ?_) (fun hb240 => ?_)
      ·have hm238 := bif_t hm238 hb240
       refine wpL_skip <| wpL_seq <| wpL_block0 <| wpL_seq <| wpL_region ?_
       refine sY hf hs rfl rfl rfl (Y_move rfl rfl) ?_; clear hf; intro a hf
       obtain ⟨q241, hi242, hm238⟩ := bind_some hm238
       obtain ⟨hi242a, hi242b, hi242q⟩ := idx_some hi242
       refine sY hf hs rfl rfl rfl (Y_index rfl rfl rfl el23 ti2 (Rd.isAt (hR200.at hs) (at1 (ints_at hi242q))) hi242a hi242b) ?_; clear hf; intro a hf
       refine sY hf hs rfl rfl rfl (Y_load_rd rfl rfl (fun w hs => hR200.at hs) (at1 (ints_at hi242q)) ag2) ?_; clear hf; intro a hf
       refine sY hf hs rfl rfl rfl (Y_assign rfl rfl) ?_; clear hf; intro a hf
       refine sY hf hs rfl rfl rfl (Y_assign rfl rfl) ?_; clear hf; intro a hf
       refine wpO_nil <| wpL_region ?_
       refine sY hf hs rfl rfl rfl (Y_move rfl rfl) ?_; clear hf; intro a hf
       refine sY hf hs rfl rfl rfl (Y_move rfl rfl) ?_; clear hf; intro a hf
       refine sY hf hs rfl rfl rfl (Y_move rfl rfl) ?_; clear hf; intro a hf
       refine sY hf hs rfl rfl rfl (Y_move rfl rfl) ?_; clear hf; intro a hf
       obtain ⟨q243, hi244, hm238⟩ := bind_some hm238
       obtain ⟨hi244a, hi244b, hi244q⟩ := idx_some hi244
       refine sY hf hs rfl rfl rfl (Y_index rfl rfl rfl el23 ti2 (Rd.isAt (hs.rd (i := 0) rfl) (at1 (ints_at hi244q))) hi244a (ltn hn223 hi244b)) ?_; clear hf; intro a hf
       refine sY hf hs rfl rfl rfl (Y_load_rd rfl rfl (fun w hs => hs.rd (i := 0) rfl) (at1 (ints_at hi244q)) ag2) ?_; clear hf; intro a hf
       refine sY hf hs rfl rfl rfl (Y_move rfl rfl) ?_; clear hf; intro a hf
       refine sY hf hs rfl rfl rfl (Y_max rfl rfl rfl) ?_; clear hf; intro a hf
       obtain ⟨q245, hi246, hm238⟩ := bind_some hm238
       obtain ⟨hi246a, hi246b, hi246q⟩ := idx_some hi246
       refine sY hf hs rfl rfl rfl (Y_index rfl rfl rfl el23 ti2 (Rd.isAt (hs.rd (i := 0) rfl) (at1 (ints_at hi246q))) hi246a (ltn hn223 hi246b)) ?_; clear hf; intro a hf
       obtain ⟨xs247, hu248, hm238⟩ := bind_some hm238
       refine sStoreL (i := 0) (us := [.int .i64 (max q243 q241)]) (enc := ints) hf hs rfl rfl rfl rfl rfl rfl hn223 hu248 ti2 rfl rfl rfl rfl rfl ints_len1 (ints_set (max q243 q241)) ?_; clear hs; intro w hs
       have hs : St _ W w [.row A2 xs4.length xs4.length 2 1 (ints xs247)] := hs
       refine wpO_nil ?_
       refine wpL_nil (Qb_normal ?_)
       refine wpL_region ?_
       refine sY hf hs rfl rfl rfl (Y_add rfl rfl rfl) ?_; clear hf; intro a hf
       refine sY hf hs rfl rfl rfl (Y_move rfl rfl) ?_; clear hf; intro a hf
       refine wpO_nil ?_
       refine wpL_nil (Ql_normal ?_)
       exact ⟨xs247, (IntKind.i64.wrap (x224 + 1)), hm238, ((hn223).trans (upd_len hu248).symm), (FrD.pick (FrD.pick (FrD.pick (FrD.pick (FrD.pick (FrD.pick (FrD.pick hf.none hf rfl) hf rfl) hf rfl) hf rfl) hf rfl) hf rfl) hf rfl), hs⟩
      ·have hm238 := bif_f hm238 hb240
       refine wpL_exit (Ql_exit (Qb_exit ?_))
       exact ⟨xs222, Option.some.inj hm238, hn223, (FrD.pick (FrD.pick (FrD.pick (FrD.pick hf.none hf rfl) hf rfl) hf rfl) hf rfl), hs⟩
    ·rintro a w ⟨xs234, hr_, hn235, hf, hs⟩
     subst hr_
     try dsimp only at hm189
     refine wpL_nil (Qb_normal ?_)
     refine wpL_region ?_
     refine sY hf hs rfl rfl rfl (Y_add rfl rfl rfl) ?_; clear hf; intro a hf
     refine sY hf hs rfl rfl rfl (Y_move rfl rfl) ?_; clear hf; intro a hf
     refine wpO_nil ?_
     refine wpL_nil (Ql_normal ?_)
     exact ⟨xs234, (IntKind.i64.wrap (x126 + 1)), hm189, hn235, (FrD.pick (FrD.pick (FrD.pick (FrD.pick hf.none hf rfl) hf rfl) hf rfl) hf rfl), hs⟩
   ·have hm189 := bif_f hm189 hb191
    refine wpL_exit (Ql_exit (Qb_exit ?_))
    exact ⟨xs124, Option.some.inj hm189, hn125, (FrD.pick hf.none hf rfl), hs⟩
 ·rintro a w ⟨xs185, hr_, hn186, hf, hs⟩
  subst hr_
  try dsimp only at hm
  refine wpL_seq <| wpL_region ?_
  refine sY hf hs rfl rfl rfl (Y_move rfl rfl) ?_; clear hf; intro a hf
  refine sY hf hs rfl rfl rfl (Y_assign rfl rfl) ?_; clear hf; intro a hf
  refine wpO_nil ?_
  obtain rfl := Option.some.inj hm
  refine wpL_ret (ret_tmp rfl hf rfl ?_)
  exact ⟨_, rfl, A2, xs4.length, xs4.length, rfl, hn186, hs⟩

set_option maxRecDepth 100000 in
theorem impl_DelayedEvents_ok (F : Nat) (ad : GEventGraph) (ae : Option Addr) (az ah : Nat) (aC : az = ad.Places.length) (am : GTimetable) (ao : Option Addr) (aG ap : Nat) (aQ : aG = am.Starts.length) (aS : Int) (cB : Int) (r : List Int × Int) (W : World) (hm : impl_DelayedEvents F ad am aS cB = some r) (aA : Rd W ae ((recs GPlace.cells) ad.Places)) (aJ : Rd W ao (ints am.Starts)) :
  Calls Try.prog 43 [.agg #[.int .i64 ad.Events, .slice ae az ah], .agg #[.int .i64 am.Period, .slice ao aG ap], .int .i64 aS, .int .i64 cB].toArray W fun e w' => ∃ v, e = .returned v ∧ ∃ A128, ∃ n129, ∃ c130, v = .tuple #[.slice A128 n129 c130, .int .i64 r.2] ∧ n129 = r.1.length ∧ St [] W w' [.row A128 n129 c130 2 1 (ints r.1)] := by
 subst aC
 subst aQ
 unfold impl_DelayedEvents at hm
 refine Calls.enter (N := 63) Try.func43 rfl rfl rfl (fun a hf => ?_)
 have hs := St.start W
 obtain ⟨w, hw_⟩ : ∃ w, w = W := ⟨W, rfl⟩
 clear hw_ w
 refine wpL_seq <| wpL_region ?_
 refine sBox hf hs rfl rfl rfl rfl rfl (cs := [.int .i64 ad.Events, .slice ae ad.Places.length ah]) rfl ?_; clear hf hs; intro a w b1 hs hf
 have hs : St _ W w [_] := hs
 refine sBox hf hs rfl rfl rfl rfl rfl (cs := [.int .i64 am.Period, .slice ao am.Starts.length ap]) rfl ?_; clear hf hs; intro a w b2 hs hf
 have hs : St _ W w [_, .blk b2 54 [.int .i64 am.Period, .slice ao am.Starts.length ap]] := hs
 refine sY hf hs rfl rfl rfl (Y_assign rfl rfl) ?_; clear hf; intro a hf
 refine sY hf hs rfl rfl rfl (Y_assign rfl rfl) ?_; clear hf; intro a hf
 refine wpO_nil <| wpL_seq <| wpL_region ?_
 refine sY hf hs rfl rfl rfl (Y_fieldAddr rfl rfl fo52_0) ?_; clear hf; intro a hf
 refine sY hf hs rfl rfl rfl (Y_load_blk rfl rfl (i := 0) rfl rfl ag2) ?_; clear hf; intro a hf
 refine sY hf hs rfl rfl rfl (Y_min rfl rfl rfl) ?_; clear hf; intro a hf
 refine sY hf hs rfl rfl rfl (Y_max rfl rfl rfl) ?_; clear hf; intro a hf
 obtain ⟨xs5, hk4, hm⟩ := bind_some hm
 refine sMakeL (enc := ints) hf hs rfl rfl rfl rfl rfl hk4 el23 ti2 rfl ints_made ?_; clear hf hs; intro a w A3 hs hf
 have hs : St _ W w [_, _, .row A3 xs5.length xs5.length 2 1 (ints xs5)] := hs
 refine sY hf hs rfl rfl rfl (Y_assign rfl rfl) ?_; clear hf; intro a hf
 refine wpO_nil <| wpL_seq ?_
 obtain ⟨r12, hj13, hm⟩ := bind_some hm
 refine wpL_cut (fun a w => ∃ b11 : Bool, b11 = r12 ∧ Fr a 63 [(2, .int .i64 aS), (3, .int .i64 cB), (4, .pointer (some ⟨b1, 0, none⟩)), (5, .pointer (some ⟨b2, 0, none⟩)), (10, .slice A3 xs5.length xs5.length), (11, .bool b11)] ∧ St [] W w [.blk b1 52 [.int .i64 ad.Events, .slice ae ad.Places.length ah], .blk b2 54 [.int .i64 am.Period, .slice ao am.Starts.length ap], .row A3 xs5.length xs5.length 2 1 (ints xs5)]) ?_ ?_
 ·refine wpL_region ?_
  refine sY hf hs rfl rfl rfl (Y_move rfl rfl) ?_; clear hf; intro a hf
  refine sY hf hs rfl rfl rfl (Y_move rfl rfl) ?_; clear hf; intro a hf
  refine sY hf hs rfl rfl rfl (Y_lenH rfl rfl el23 rfl) ?_; clear hf; intro a hf
  refine sY hf hs rfl rfl rfl (Y_sub rfl rfl rfl) ?_; clear hf; intro a hf
  obtain ⟨r14, hc15, hj13⟩ := bind_some hj13
  refine sCall hf rfl rfl rfl rfl (cap := []) rfl rfl en85 (impl_within_ok F aS 0 (IntKind.i64.wrap ((xs5.length : Int) - 1)) _ _ hc15) ?_; clear hf
  rintro _ w ⟨rfl, hs1⟩ a hf
  have hs : St _ W w [_, _, _] := hs.ext hs1.below
  clear hs1
  refine sY hf hs rfl rfl rfl (Y_move rfl rfl) ?_; clear hf; intro a hf
  refine bsplit r14 (fun hb16 => ?_) (fun hb16 => ?_)
  ·have hj13 := bif_t hj13 hb16
   refine sYg hf hs rfl rfl rfl (congrArg (fun b => some (Value.bool b)) hb16) rfl rfl rfl (Y_move rfl rfl) ?_; clear hf; intro a hf
   obtain ⟨r17, hc18, hj13⟩ := bind_some hj13
   refine sCallg hf rfl rfl rfl (congrArg (fun b => some (Value.bool b)) hb16) rfl rfl rfl rfl (cap := []) rfl rfl en85 (impl_within_ok F cB 0 1000000 _ _ hc18) ?_; clear hf
   rintro _ w ⟨rfl, hs1⟩ a hf
   have hs : St _ W w [_, _, _] := hs.ext hs1.below
   clear hs1
   refine sY hf hs rfl rfl rfl (Y_pickT rfl (congrArg (fun b => some (Value.bool b)) hb16) rfl) ?_; clear hf; intro a hf
   refine sY hf hs rfl rfl rfl (Y_assign rfl rfl) ?_; clear hf; intro a hf
   refine wpO_nil ?_
   refine wpL_nil (then_normal ?_)
   exact ⟨r17, Option.some.inj hj13, (FrD.pick (FrD.pick (FrD.pick (FrD.pick (FrD.pick (FrD.pick hf.none hf rfl) hf rfl) hf rfl) hf rfl) hf rfl) hf rfl), hs⟩
  ·have hj13 := bif_f hj13 hb16
   refine sNo hf rfl rfl rfl (congrArg (fun b => some (Value.bool b)) hb16) rfl rfl rfl ?_; clear hf; intro a hf
   refine sNo hf rfl rfl rfl (congrArg (fun b => some (Value.bool b)) hb16) rfl rfl rfl ?_; clear hf; intro a hf
   refine sY hf hs rfl rfl rfl (Y_pickF rfl (congrArg (fun b => some (Value.bool b)) hb16) rfl) ?_; clear hf; intro a hf
   refine sY hf hs rfl rfl rfl (Y_assign rfl rfl) ?_; clear hf; intro a hf
   refine wpO_nil ?_
   refine wpL_nil (then_normal ?_)
   exact ⟨false, Option.some.inj hj13, (FrD.pick (FrD.pick (FrD.pick (FrD.pick (FrD.pick (FrD.pick hf.none hf rfl) hf rfl) hf rfl) hf rfl) hf rfl) hf rfl), hs⟩
 ·rintro a w ⟨b11, hr_, hf, hs⟩
  subst hr_
  try dsimp only at hm
  refine wpL_seq <| wpL_seq <| wpL_region ?_
  refine sY hf hs rfl rfl rfl (Y_move rfl rfl) ?_; clear hf; intro a hf
  refine wpO_nil ?_
  obtain ⟨r26, hj27, hm⟩ := bind_some hm
  refine wpL_cut (fun a w => ∃ xs24 : List Int, xs24 = r26 ∧ xs5.length = xs24.length ∧ Fr a 63 [(4, .pointer (some ⟨b1, 0, none⟩)), (5, .pointer (some ⟨b2, 0, none⟩)), (10, .slice A3 xs5.length xs5.length), (11, .bool b11)] ∧ St [] W w [.blk b1 52 [.int .i64 ad.Events, .slice ae ad.Places.length ah], .blk b2 54 [.int .i64 am.Period, .slice ao am.Starts.length ap], .row A3 xs5.length xs5.length 2 1 (ints xs24)]) ?_ ?_
  ·refine wpL_cond hf rfl (fun hb28 => ?_) (fun hb28 => ?_)
   ·have hj27 := bif_t hj27 hb28
    refine wpL_region ?_
    refine sY hf hs rfl rfl rfl (Y_move rfl rfl) ?_; clear hf; intro a hf
    refine sY hf hs rfl rfl rfl (Y_move rfl rfl) ?_; clear hf; intro a hf
    refine sY hf hs rfl rfl rfl (Y_move rfl rfl) ?_; clear hf; intro a hf
    obtain ⟨q29, hi30, hj27⟩ := bind_some hj27
    obtain ⟨hi30a, hi30b, hi30q⟩ := idx_some hi30
    refine sY hf hs rfl rfl rfl (Y_index rfl rfl rfl el23 ti2 (Rd.isAt (hs.rd (i := 2) rfl) (at1 (ints_at hi30q))) hi30a hi30b) ?_; clear hf; intro a hf
    obtain ⟨xs31, hu32, hj27⟩ := bind_some hj27
    refine sStoreL (i := 2) (us := [.int .i64 cB]) (enc := ints) hf hs rfl rfl rfl rfl rfl rfl rfl hu32 ti2 rfl rfl rfl rfl rfl ints_len1 (ints_set cB) ?_; clear hs; intro w hs
    have hs : St _ W w [_, _, .row A3 xs5.length xs5.length 2 1 (ints xs31)] := hs
    refine wpO_nil ?_
    refine wpL_nil (then_normal ?_)
    exact ⟨xs31, Option.some.inj hj27, (upd_len hu32).symm, (FrD.pick (FrD.pick (FrD.pick (FrD.pick hf.none hf rfl) hf rfl) hf rfl) hf rfl), hs⟩
   ·have hj27 := bif_f hj27 hb28
    refine wpL_skip ?_
    refine wpL_nil (then_normal ?_)
    exact ⟨xs5, Option.some.inj hj27, rfl, (FrD.pick (FrD.pick (FrD.pick (FrD.pick hf.none hf rfl) hf rfl) hf rfl) hf rfl), hs⟩
  ·rintro a w ⟨xs24, hr_, hn25, hf, hs⟩
   subst hr_
   try dsimp only at hm
   refine wpL_seq <| wpL_seq <| wpL_region ?_
   refine sY hf hs rfl rfl rfl (Y_load_blkS rfl rfl (i := 0) rfl ag52 ti52 rfl) ?_; clear hf; intro a hf
   refine sY hf hs rfl rfl rfl (Y_load_blkS rfl rfl (i := 1) rfl ag54 ti54 rfl) ?_; clear hf; intro a hf
   refine sY hf hs rfl rfl rfl (Y_move rfl rfl) ?_; clear hf; intro a hf
   refine sY hf hs rfl rfl rfl (Y_move rfl rfl) ?_; clear hf; intro a hf
   obtain ⟨r33, hc34, hm⟩ := bind_some hm
   refine sCall hf rfl rfl rfl rfl (cap := []) rfl rfl en77 (impl_checkDelays_ok F ad ae ad.Places.length ah rfl am ao am.Starts.length ap rfl xs24 A3 xs5.length xs5.length hn25 b11 _ _ hc34 (aA.at hs) (aJ.at hs) (hs.rd (i := 2) rfl)) ?_; clear hf
   rintro _ w ⟨rfl, hs1⟩ a hf
   have hs : St _ W w [_, _, _] := hs.ext hs1.below
   clear hs1
   refine sY hf hs rfl rfl rfl (Y_assign rfl rfl) ?_; clear hf; intro a hf
   refine wpO_nil <| wpL_seq <| wpL_region ?_
   refine sY hf hs rfl rfl rfl (Y_move rfl rfl) ?_; clear hf; intro a hf
   refine sY hf hs rfl rfl rfl (Y_neq rfl rfl rfl) ?_; clear hf; intro a hf
   refine wpO_nil ?_
   refine wpL_cond hf rfl (fun hb35 => ?_) (fun hb35 => ?_)
   ·have hm := bif_t hm hb35
    refine wpL_seq <| wpL_region ?_
    refine sY hf hs rfl rfl rfl (Y_move rfl rfl) ?_; clear hf; intro a hf
    refine sY hf hs rfl rfl rfl (Y_assign rfl rfl) ?_; clear hf; intro a hf
    refine sY hf hs rfl rfl rfl (Y_assign rfl rfl) ?_; clear hf; intro a hf
    refine wpO_nil ?_
    have hs : St [] W _ [.blk b1 52 [.int .i64 ad.Events, .slice ae ad.Places.length ah], .blk b2 54 [.int .i64 am.Period, .slice ao am.Starts.length ap], .row A3 xs5.length xs5.length 2 1 (ints xs24), .row none 0 0 2 1 (ints ([] : List Int))] := hs.addNil 2 1
    obtain rfl := Option.some.inj hm
    refine wpL_ret (ret_tmp2 rfl hf rfl rfl ?_)
    exact ⟨_, rfl, none, 0, 0, rfl, rfl, hs.sel [3] (by decide)⟩
   ·have hm := bif_f hm hb35
    refine wpL_skip <| wpL_seq <| wpL_region ?_
    refine sY hf hs rfl rfl rfl (Y_assign rfl rfl) ?_; clear hf; intro a hf
    refine wpO_nil <| wpL_seq <| wpL_seq ?_
    refine wpL_drawM [.blk b1 52 [.int .i64 ad.Events, .slice ae ad.Places.length ah], .blk b2 54 [.int .i64 am.Period, .slice ao am.Starts.length ap], .row A3 xs5.length xs5.length 2 1 (ints xs24)] [5] (by kernel_rfl) hs ?_; clear hs; intro w hs
    have hs0 : St _ W w [_, _, _] := hs
    refine mY (i := 0) [[]] rfl (by kernel_rfl) (by kernel_rfl) hf hs0 rfl rfl rfl (Y_load_blkS rfl rfl (i := 0) rfl ag52 ti52 rfl) ?_; clear hf; intro a hf
    refine mY (i := 1) [[4]] rfl (by kernel_rfl) (by kernel_rfl) hf hs0 rfl rfl rfl (Y_load_blkS rfl rfl (i := 0) rfl ag52 ti52 rfl) ?_; clear hf; intro a hf
    refine mY (i := 2) [[4]] rfl (by kernel_rfl) (by kernel_rfl) hf hs0 rfl rfl rfl (Y_load_blkS rfl rfl (i := 1) rfl ag54 ti54 rfl) ?_; clear hf; intro a hf
    refine mYp (i := 3) rfl (by kernel_rfl) (by kernel_rfl) hf rfl rfl rfl (fun _ => Y_move rfl rfl) ?_; clear hf; intro a hf
    refine mYp (i := 7) rfl (by kernel_rfl) (by kernel_rfl) hf rfl rfl rfl (fun _ => Y_move rfl rfl) ?_; clear hf; intro a hf
    refine mRun (i := 4) rfl (by kernel_rfl) ?_
    obtain ⟨r50, hc51, hm⟩ := bind_some hm
    refine sCall hf rfl rfl rfl rfl (cap := []) rfl rfl en86 (impl_delayTable_ok F ad ae ad.Places.length ah rfl am ao am.Starts.length ap rfl xs24 A3 xs5.length xs5.length hn25 50 _ _ hc51 (aA.at hs) (aJ.at hs) (hs.rd (i := 2) rfl)) ?_; clear hf
    rintro _ w ⟨A52, n53, c54, vs56, rfl, hn55, hs1⟩ a hf
    have hs : St _ W w [_, _, _, .mat A52 n53 c54 23 2 vs56 r50] := hs.join hs1
    clear hs1
    have hs0 : St _ W w [_, _, _] := hs.sel [0, 1, 2] (by decide)
    refine wpO_nil ⟨Or.inr (fun _ => hs0), ?_⟩
    refine mRun (i := 5) rfl (by kernel_rfl) ?_
    obtain ⟨r57, hc58, hm⟩ := bind_some hm
    refine sCall hf rfl rfl rfl rfl (cap := []) rfl rfl en94 (impl_worstOf_ok F ad ae ad.Places.length ah rfl r50 A52 n53 c54 hn55 _ _ hc58 (aA.at hs) (hs.rdM (i := 3) rfl)) ?_; clear hf
    rintro _ w ⟨A59, n60, c61, rfl, hn62, hs1⟩ a hf
    have hs : St _ W w [_, _, _, _, .row A59 n60 c61 2 1 (ints r57)] := hs.join hs1
    clear hs1
    refine wpO_nil ⟨Or.inl (by decide), ?_⟩
    refine mYp (i := 6) rfl (by kernel_rfl) (by kernel_rfl) hf rfl rfl rfl (fun _ => Y_lenH rfl rfl el23 hn62) ?_; clear hf; intro a hf
    refine mDone (by kernel_rfl) ?_
    clear hs0
    obtain ⟨r113, hl114, hm⟩ := bind_some hm
    have hs : St [] W _ [.blk b1 52 [.int .i64 ad.Events, .slice ae ad.Places.length ah], .blk b2 54 [.int .i64 am.Period, .slice ao am.Starts.length ap], .row A3 xs5.length xs5.length 2 1 (ints xs24), .mat A52 n53 c54 23 2 vs56 r50, .row A59 n60 c61 2 1 (ints r57), .row none 0 0 2 1 (ints ([] : List Int))] := hs.addNil 2 1
    refine wpL_block (fun a w => ∃ xs108 : List Int, ∃ A109, ∃ n110, ∃ c111, xs108 = r113 ∧ n110 = xs108.length ∧ Fr a 63 [(13, .slice A109 n110 c111)] ∧ St [] W w [.row A109 n110 c111 2 1 (ints xs108)]) ?_ ?_
    ·refine wpL_loop (fun n a w => ∃ xs92 : List Int, ∃ x97 : Int, ∃ A93, ∃ n94, ∃ c95, impl_DelayedEvents_L1 F r57 n xs92 x97 = some r113 ∧ n94 = xs92.length ∧ Fr a 63 [(13, .slice A93 n94 c95), (48, .slice A59 n60 c61), (49, .int .i64 (r57.length : Int)), (50, .int .i64 x97)] ∧ St [] W w [.row A59 n60 c61 2 1 (ints r57), .row A93 n94 c95 2 1 (ints xs92)]) F ?_ ?_ ?_
     ·exact ⟨([] : List Int), 0, none, 0, 0, hl114, rfl, (FrD.pick (FrD.pick (FrD.pick (FrD.pick hf.none hf rfl) hf rfl) hf rfl) hf rfl), hs.sel [4, 5] (by decide)⟩
     ·rintro a w ⟨xs92, x97, A93, n94, c95, h0_, -, -, -⟩; simp [impl_DelayedEvents_L1] at h0_
     ·rintro n116 a w ⟨xs92, x97, A93, n94, c95, hm115, hn96, hf, hs⟩
      rw [impl_DelayedEvents_L1] at hm115
      refine wpL_seq <| wpL_region ?_
      refine sY hf hs rfl rfl rfl (Y_lss rfl rfl rfl) ?_; clear hf; intro a hf
      refine wpO_nil <| wpL_seq ?_
      refine wpL_cond hf rfl (fun hb117 => ?_) (fun hb117 => ?_)
      ·have hm115 := bif_t hm115 hb117
       refine wpL_skip <| wpL_seq <| wpL_block0 <| wpL_seq <| wpL_region ?_
       refine sY hf hs rfl rfl rfl (Y_move rfl rfl) ?_; clear hf; intro a hf
       obtain ⟨q118, hi119, hm115⟩ := bind_some hm115
       obtain ⟨hi119a, hi119b, hi119q⟩ := idx_some hi119
       refine sY hf hs rfl rfl rfl (Y_index rfl rfl rfl el23 ti2 (Rd.isAt (hs.rd (i := 0) rfl) (at1 (ints_at hi119q))) hi119a (ltn hn62 hi119b)) ?_; clear hf; intro a hf
       refine sY hf hs rfl rfl rfl (Y_load_rd rfl rfl (fun w hs => hs.rd (i := 0) rfl) (at1 (ints_at hi119q)) ag2) ?_; clear hf; intro a hf
       refine sY hf hs rfl rfl rfl (Y_assign rfl rfl) ?_; clear hf; intro a hf
       refine sY hf hs rfl rfl rfl (Y_assign rfl rfl) ?_; clear hf; intro a hf
       refine wpO_nil <| wpL_seq <| wpL_region ?_
       refine sY hf hs rfl rfl rfl (Y_move rfl rfl) ?_; clear hf; intro a hf
       refine sY hf hs rfl rfl rfl (Y_neq rfl rfl rfl) ?_; clear hf; intro a hf
       refine wpO_nil ?_
       refine wpL_cond hf rfl (fun hb120 => ?_) (fun hb120 => ?_)
       ·have hm115 := bif_t hm115 hb120
        refine wpL_region ?_
        refine sY hf hs rfl rfl rfl (Y_move rfl rfl) ?_; clear hf; intro a hf
        refine sY hf hs rfl rfl rfl (Y_move rfl rfl) ?_; clear hf; intro a hf
        refine sBuildSlice (parts := [(0, .tmp 58)]) (vs := [.int .i64 x97]) (cells := [.int .i64 x97]) hf hs rfl rfl rfl rfl rfl el23 ti2 rfl rfl rfl rfl ?_; clear hf hs; intro a w A121 hs hA122 hf
        have hs : St _ W w [_, _, .row A121 1 1 2 1 (ints ([x97]))] := hs
        obtain ⟨xs125, ha126, hm115⟩ := bind_some hm115
        refine sAppendL (i := 1) (xs := xs92) (ys := [x97]) (enc := ints) hf hs rfl rfl rfl rfl rfl rfl hn96 rfl rfl ha126 el23 ti2 rfl rfl rfl (hs.rd (i := 2) rfl) (Nat.succ_pos _) ints_len1 ints_append ints_one ?_; clear hf hs; intro a w A123 c124 hs hf
        have hs : St _ W w [_, .row A123 xs125.length c124 2 1 (ints xs125), _] := hs
        refine sY hf hs rfl rfl rfl (Y_assign rfl rfl) ?_; clear hf; intro a hf
        refine wpO_nil ?_
        refine wpL_nil (Qb_normal ?_)
        refine wpL_region ?_
        refine sY hf hs rfl rfl rfl (Y_add rfl rfl rfl) ?_; clear hf; intro a hf
        refine sY hf hs rfl rfl rfl (Y_move rfl rfl) ?_; clear hf; intro a hf
        refine wpO_nil ?_
        refine wpL_nil (Ql_normal ?_)
        exact ⟨xs125, (IntKind.i64.wrap (x97 + 1)), A123, xs125.length, c124, hm115, rfl, (FrD.pick (FrD.pick (FrD.pick (FrD.pick hf.none hf rfl) hf rfl) hf rfl) hf rfl), hs.sel [0, 1] (by decide)⟩
       ·have hm115 := bif_f hm115 hb120
        refine wpL_skip ?_
        refine wpL_nil (Qb_normal ?_)
        refine wpL_region ?_
        refine sY hf hs rfl rfl rfl (Y_add rfl rfl rfl) ?_; clear hf; intro a hf
        refine sY hf hs rfl rfl rfl (Y_move rfl rfl) ?_; clear hf; intro a hf
        refine wpO_nil ?_
        refine wpL_nil (Ql_normal ?_)
        exact ⟨xs92, (IntKind.i64.wrap (x97 + 1)), A93, n94, c95, hm115, hn96, (FrD.pick (FrD.pick (FrD.pick (FrD.pick hf.none hf rfl) hf rfl) hf rfl) hf rfl), hs⟩
      ·have hm115 := bif_f hm115 hb117
       refine wpL_exit (Ql_exit (Qb_exit ?_))
       exact ⟨xs92, A93, n94, c95, Option.some.inj hm115, hn96, (FrD.pick hf.none hf rfl), hs.sel [1] (by decide)⟩
    ·rintro a w ⟨xs108, A109, n110, c111, hr_, hn112, hf, hs⟩
     subst hr_
     try dsimp only at hm
     refine wpL_seq <| wpL_region ?_
     refine sY hf hs rfl rfl rfl (Y_move rfl rfl) ?_; clear hf; intro a hf
     refine sY hf hs rfl rfl rfl (Y_assign rfl rfl) ?_; clear hf; intro a hf
     refine sY hf hs rfl rfl rfl (Y_assign rfl rfl) ?_; clear hf; intro a hf
     refine wpO_nil ?_
     obtain rfl := Option.some.inj hm
     refine wpL_ret (ret_tmp2 rfl hf rfl rfl ?_)
     exact ⟨_, rfl, A109, n110, c111, rfl, hn112, hs⟩

set_option maxRecDepth 100000 in
theorem spec_l12Order_ok (F : Nat) (ad : GEventGraph) (ae : Option Addr) (az ah : Nat) (aC : az = ad.Places.length) (r : List Int) (W : World) (hm : spec_l12Order F ad = some r) (aA : Rd W ae ((recs GPlace.cells) ad.Places)) :
  Calls Try.prog 145 [.agg #[.int .i64 ad.Events, .slice ae az ah]].toArray W fun e w' => ∃ v, e = .returned v ∧ ∃ A2046, ∃ n2047, ∃ c2048, v = .slice A2046 n2047 c2048 ∧ n2047 = r.length ∧ St [] W w' [.row A2046 n2047 c2048 2 1 (ints r)] := by
 subst aC
 unfold spec_l12Order at hm
 refine Calls.enter (N := 54) Try.func145 rfl rfl rfl (fun a hf => ?_)
 have hs := St.start W
 obtain ⟨w, hw_⟩ : ∃ w, w = W := ⟨W, rfl⟩
 clear hw_ w
 refine wpL_seq <| wpL_region ?_
 refine sBox hf hs rfl rfl rfl rfl rfl (cs := [.int .i64 ad.Events, .slice ae ad.Places.length ah]) rfl ?_; clear hf hs; intro a w b1 hs hf
 have hs : St _ W w [_] := hs
 refine sY hf hs rfl rfl rfl (Y_assign rfl rfl) ?_; clear hf; intro a hf
 refine wpO_nil <| wpL_seq <| wpL_region ?_
 refine sY hf hs rfl rfl rfl (Y_load_blkS rfl rfl (i := 0) rfl ag52 ti52 rfl) ?_; clear hf; intro a hf
 obtain ⟨r2, hc3, hm⟩ := bind_some hm
 refine sCall hf rfl rfl rfl rfl (cap := []) rfl rfl en181 (spec_l12Free_ok F ad ae ad.Places.length ah rfl _ _ hc3 (aA.at hs)) ?_; clear hf
 rintro _ w ⟨A4, n5, c6, vs8, rfl, hn7, hs1⟩ a hf
 have hs : St _ W w [_, .mat A4 n5 c6 23 2 vs8 r2] := hs.join hs1
 clear hs1
 refine sY hf hs rfl rfl rfl (Y_assign rfl rfl) ?_; clear hf; intro a hf
 refine wpO_nil <| wpL_seq <| wpL_region ?_
 refine sEmpty hf hs rfl rfl rfl rfl el23 ti2 ?_; clear hf hs; intro a w A9 hs hf
 have hs : St _ W w [_, _, .row A9 0 0 2 1 (ints ([] : List Int))] := hs
 refine sY hf hs rfl rfl rfl (Y_assign rfl rfl) ?_; clear hf; intro a hf
 refine wpO_nil <| wpL_seq ?_
 obtain ⟨r1538, hl1539, hm⟩ := bind_some hm
 refine wpL_block (fun a w => ∃ xs1533 : List Int, ∃ A1534, ∃ n1535, ∃ c1536, xs1533 = r1538 ∧ n1535 = xs1533.length ∧ Fr a 54 [(4, .slice A1534 n1535 c1536)] ∧ St [] W w [.row A1534 n1535 c1536 2 1 (ints xs1533)]) ?_ ?_
 ·refine wpL_loop (fun n a w => ∃ xs1024 : List Int, ∃ A1025, ∃ n1026, ∃ c1027, spec_l12Order_L16 F ad r2 n xs1024 = some r1538 ∧ n1026 = xs1024.length ∧ Fr a 54 [(1, .pointer (some ⟨b1, 0, none⟩)), (3, .slice A4 n5 c6), (4, .slice A1025 n1026 c1027)] ∧ St [] W w [.blk b1 52 [.int .i64 ad.Events, .slice ae ad.Places.length ah], .mat A4 n5 c6 23 2 vs8 r2, .row A1025 n1026 c1027 2 1 (ints xs1024)]) F ?_ ?_ ?_
  ·exact ⟨([] : List Int), A9, 0, 0, hl1539, rfl, (FrD.pick (FrD.pick (FrD.pick hf.none hf rfl) hf rfl) hf rfl), hs⟩
  ·rintro a w ⟨xs1024, A1025, n1026, c1027, h0_, -, -, -⟩; simp [spec_l12Order_L16] at h0_
  ·rintro n1541 a w ⟨xs1024, A1025, n1026, c1027, hm1540, hn1028, hf, hs⟩
   rw [spec_l12Order_L16] at hm1540
   refine wpL_seq <| wpL_seq <| wpL_region ?_
   refine sY hf hs rfl rfl rfl (Y_move rfl rfl) ?_; clear hf; intro a hf
   refine sY hf hs rfl rfl rfl (Y_lenH rfl rfl el23 hn1028) ?_; clear hf; intro a hf
   refine sY hf hs rfl rfl rfl (Y_fieldAddr rfl rfl fo52_0) ?_; clear hf; intro a hf
   refine sY hf hs rfl rfl rfl (Y_load_blk rfl rfl (i := 0) rfl rfl ag2) ?_; clear hf; intro a hf
   refine sY hf hs rfl rfl rfl (Y_lss rfl rfl rfl) ?_; clear hf; intro a hf
   refine wpO_nil ?_
   refine wpL_cond hf rfl (fun hb1542 => ?_) (fun hb1542 => ?_)
   ·have hm1540 := bif_t hm1540 hb1542
    refine wpL_skip <| wpL_block0 <| wpL_seq <| wpL_region ?_
    refine sY hf hs rfl rfl rfl (Y_assign rfl rfl) ?_; clear hf; intro a hf
    refine wpO_nil ?_
    obtain ⟨r1919, hl1920, hm1540⟩ := bind_some hm1540
    refine wpL_block (fun a w => ∃ xs1914 : List Int, ∃ A1915, ∃ n1916, ∃ c1917, xs1914 = r1919 ∧ n1916 = xs1914.length ∧ Fr a 54 [(1, .pointer (some ⟨b1, 0, none⟩)), (3, .slice A4 n5 c6), (4, .slice A1915 n1916 c1917)] ∧ St [] W w [.blk b1 52 [.int .i64 ad.Events, .slice ae ad.Places.length ah], .mat A4 n5 c6 23 2 vs8 r2, .row A1915 n1916 c1917 2 1 (ints xs1914)]) ?_ ?_
    ·refine wpL_loop (fun n a w => ∃ x1790 : Int, spec_l12Order_L20 F ad r2 xs1024 n x1790 = some r1919 ∧ Fr a 54 [(1, .pointer (some ⟨b1, 0, none⟩)), (3, .slice A4 n5 c6), (4, .slice A1025 n1026 c1027), (5, .int .i64 x1790)] ∧ St [] W w [.blk b1 52 [.int .i64 ad.Events, .slice ae ad.Places.length ah], .mat A4 n5 c6 23 2 vs8 r2, .row A1025 n1026 c1027 2 1 (ints xs1024)]) F ?_ ?_ ?_
     ·exact ⟨0, hl1920, (FrD.pick (FrD.pick (FrD.pick (FrD.pick hf.none hf rfl) hf rfl) hf rfl) hf rfl), hs⟩
     ·rintro a w ⟨x1790, h0_, -, -⟩; simp [spec_l12Order_L20] at h0_
     ·rintro n1922 a w ⟨x1790, hm1921, hf, hs⟩
      rw [spec_l12Order_L20] at hm1921
      refine wpL_seq <| wpL_seq <| wpL_region ?_
      refine sY hf hs rfl rfl rfl (Y_move rfl rfl) ?_; clear hf; intro a hf
      refine sY hf hs rfl rfl rfl (Y_fieldAddr rfl rfl fo52_0) ?_; clear hf; intro a hf
      refine sY hf hs rfl rfl rfl (Y_load_blk rfl rfl (i := 0) rfl rfl ag2) ?_; clear hf; intro a hf
      refine sY hf hs rfl rfl rfl (Y_lss rfl rfl rfl) ?_; clear hf; intro a hf
      refine wpO_nil ?_
      refine wpL_cond hf rfl (fun hb1923 => ?_) (fun hb1923 => ?_)
      ·have hm1921 := bif_t hm1921 hb1923
       refine wpL_skip <| wpL_seq <| wpL_block0 <| wpL_seq <| wpL_region ?_
       refine sY hf hs rfl rfl rfl (Y_move rfl rfl) ?_; clear hf; intro a hf
       refine sY hf hs rfl rfl rfl (Y_move rfl rfl) ?_; clear hf; intro a hf
       obtain ⟨r1924, hc1925, hm1921⟩ := bind_some hm1921
       refine sCall hf rfl rfl rfl rfl (cap := []) rfl rfl en188 (spec_l01Has_ok F xs1024 A1025 n1026 c1027 hn1028 x1790 _ _ hc1925 (hs.rd (i := 2) rfl)) ?_; clear hf
       rintro _ w ⟨rfl, hs1⟩ a hf
       have hs : St _ W w [_, _, _] := hs.ext hs1.below
       clear hs1
       refine sY hf hs rfl rfl rfl (Y_not rfl rfl) ?_; clear hf; intro a hf
       refine sY hf hs rfl rfl rfl (Y_assign rfl rfl) ?_; clear hf; intro a hf
       refine wpO_nil <| wpL_seq <| wpL_seq <| wpL_region ?_
       refine sY hf hs rfl rfl rfl (Y_assign rfl rfl) ?_; clear hf; intro a hf
       refine wpO_nil ?_
       obtain ⟨r2009, hl2010, hm1921⟩ := bind_some hm1921
       refine wpL_block (fun a w => ∃ b2008 : Bool, b2008 = r2009 ∧ Fr a 54 [(1, .pointer (some ⟨b1, 0, none⟩)), (3, .slice A4 n5 c6), (4, .slice A1025 n1026 c1027), (5, .int .i64 x1790), (6, .bool b2008)] ∧ St [] W w [.blk b1 52 [.int .i64 ad.Events, .slice ae ad.Places.length ah], .mat A4 n5 c6 23 2 vs8 r2, .row A1025 n1026 c1027 2 1 (ints xs1024)]) ?_ ?_
       ·refine wpL_loop (fun n a w => ∃ b1980 : Bool, ∃ x1981 : Int, spec_l12Order_L21 F ad r2 xs1024 x1790 n b1980 x1981 = some r2009 ∧ Fr a 54 [(1, .pointer (some ⟨b1, 0, none⟩)), (3, .slice A4 n5 c6), (4, .slice A1025 n1026 c1027), (5, .int .i64 x1790), (6, .bool b1980), (7, .int .i64 x1981)] ∧ St [] W w [.blk b1 52 [.int .i64 ad.Events, .slice ae ad.Places.length ah], .mat A4 n5 c6 23 2 vs8 r2, .row A1025 n1026 c1027 2 1 (ints xs1024)]) F ?_ ?_ ?_
        ·exact ⟨(!r1924), 0, hl2010, (FrD.pick (FrD.pick (FrD.pick (FrD.pick (FrD.pick (FrD.pick hf.none hf rfl) hf rfl) hf rfl) hf rfl) hf rfl) hf rfl), hs⟩
        ·rintro a w ⟨b1980, x1981, h0_, -, -⟩; simp [spec_l12Order_L21] at h0_
        ·rintro n2012 a w ⟨b1980, x1981, hm2011, hf, hs⟩
         rw [spec_l12Order_L21] at hm2011
         refine wpL_seq <| wpL_seq <| wpL_region ?_
         refine sY hf hs rfl rfl rfl (Y_move rfl rfl) ?_; clear hf; intro a hf
         refine sY hf hs rfl rfl rfl (Y_fieldAddr rfl rfl fo52_0) ?_; clear hf; intro a hf
         refine sY hf hs rfl rfl rfl (Y_load_blk rfl rfl (i := 0) rfl rfl ag2) ?_; clear hf; intro a hf
         refine sY hf hs rfl rfl rfl (Y_lss rfl rfl rfl) ?_; clear hf; intro a hf
         refine wpO_nil ?_
         refine wpL_cond hf rfl (fun hb2013 => ?_) (fun hb2013 => ?_)
         ·have hm2011 := bif_t hm2011 hb2013
          refine wpL_skip <| wpL_seq <| wpL_block0 ?_
          obtain ⟨r2026, hj2027, hm2011⟩ := bind_some hm2011
          refine wpL_cut (fun a w => ∃ b2025 : Bool, b2025 = r2026 ∧ Fr a 54 [(1, .pointer (some ⟨b1, 0, none⟩)), (3, .slice A4 n5 c6), (4, .slice A1025 n1026 c1027), (5, .int .i64 x1790), (6, .bool b2025), (7, .int .i64 x1981)] ∧ St [] W w [.blk b1 52 [.int .i64 ad.Events, .slice ae ad.Places.length ah], .mat A4 n5 c6 23 2 vs8 r2, .row A1025 n1026 c1027 2 1 (ints xs1024)]) ?_ ?_
          ·refine wpL_region ?_
           refine sY hf hs rfl rfl rfl (Y_move rfl rfl) ?_; clear hf; intro a hf
           refine sY hf hs rfl rfl rfl (Y_move rfl rfl) ?_; clear hf; intro a hf
           refine bsplit b1980 (fun hb2028 => ?_) (fun hb2028 => ?_)
           ·have hj2027 := bif_t hj2027 hb2028
            refine sYg hf hs rfl rfl rfl (congrArg (fun b => some (Value.bool b)) hb2028) rfl rfl rfl (Y_move rfl rfl) ?_; clear hf; intro a hf
            refine sYg hf hs rfl rfl rfl (congrArg (fun b => some (Value.bool b)) hb2028) rfl rfl rfl (Y_move rfl rfl) ?_; clear hf; intro a hf
            obtain ⟨q2029, hi2030, hj2027⟩ := bind_some hj2027
            obtain ⟨hi2030a, hi2030b, hi2030q⟩ := idx_some hi2030
            obtain ⟨A2031, c2032, hv2033⟩ := hs.matRow (i := 1) rfl hi2030q
            refine sYg hf hs rfl rfl rfl (congrArg (fun b => some (Value.bool b)) hb2028) rfl rfl rfl (Y_index rfl rfl rfl el59 ti23 (Rd.isAt (hs.rdV (i := 1) rfl) hv2033) hi2030a (ltn hn7 hi2030b)) ?_; clear hf; intro a hf
            refine sYg hf hs rfl rfl rfl (congrArg (fun b => some (Value.bool b)) hb2028) rfl rfl rfl (Y_load_rd rfl rfl (fun w hs => hs.rdV (i := 1) rfl) (at1 hv2033) ag23) ?_; clear hf; intro a hf
            refine sYg hf hs rfl rfl rfl (congrArg (fun b => some (Value.bool b)) hb2028) rfl rfl rfl (Y_move rfl rfl) ?_; clear hf; intro a hf
            obtain ⟨q2034, hi2035, hj2027⟩ := bind_some hj2027
            obtain ⟨hi2035a, hi2035b, hi2035q⟩ := idx_some hi2035
            refine sYg hf hs rfl rfl rfl (congrArg (fun b => some (Value.bool b)) hb2028) rfl rfl rfl (Y_index rfl rfl rfl el23 ti2 (Rd.isAt (hs.rdRow (i := 1) rfl ⟨hi2030q, hv2033⟩) (at1 (ints_at hi2035q))) hi2035a hi2035b) ?_; clear hf; intro a hf
            refine sYg hf hs rfl rfl rfl (congrArg (fun b => some (Value.bool b)) hb2028) rfl rfl rfl (Y_load_rd rfl rfl (fun w hs => hs.rdRow (i := 1) rfl ⟨hi2030q, hv2033⟩) (at1 (ints_at hi2035q)) ag2) ?_; clear hf; intro a hf
            refine sYg hf hs rfl rfl rfl (congrArg (fun b => some (Value.bool b)) hb2028) rfl rfl rfl (Y_eql rfl rfl rfl) ?_; clear hf; intro a hf
            refine sYg hf hs rfl rfl rfl (congrArg (fun b => some (Value.bool b)) hb2028) rfl rfl rfl (Y_move rfl rfl) ?_; clear hf; intro a hf
            refine bsplit (q2034 == (-1000000000000000)) (fun hb2036 => ?_) (fun hb2036 => ?_)
            ·have hj2027 := bif_t hj2027 hb2036
             refine sNo hf rfl rfl rfl (congrArg (fun b => some (Value.bool b)) hb2036) rfl rfl rfl ?_; clear hf; intro a hf
             refine sNo hf rfl rfl rfl (congrArg (fun b => some (Value.bool b)) hb2036) rfl rfl rfl ?_; clear hf; intro a hf
             refine sNo hf rfl rfl rfl (congrArg (fun b => some (Value.bool b)) hb2036) rfl rfl rfl ?_; clear hf; intro a hf
             refine sYg hf hs rfl rfl rfl (congrArg (fun b => some (Value.bool b)) hb2028) rfl rfl rfl (Y_pickT rfl (congrArg (fun b => some (Value.bool b)) hb2036) rfl) ?_; clear hf; intro a hf
             refine sY hf hs rfl rfl rfl (Y_pickT rfl (congrArg (fun b => some (Value.bool b)) hb2028) rfl) ?_; clear hf; intro a hf
             refine sY hf hs rfl rfl rfl (Y_assign rfl rfl) ?_; clear hf; intro a hf
             refine wpO_nil ?_
             refine wpL_nil (then_normal ?_)
             exact ⟨true, Option.some.inj hj2027, (FrD.pick (FrD.pick (FrD.pick (FrD.pick (FrD.pick (FrD.pick hf.none hf rfl) hf rfl) hf rfl) hf rfl) hf rfl) hf rfl), hs⟩
            ·have hj2027 := bif_f hj2027 hb2036
             refine sYg hf hs rfl rfl rfl (congrArg (fun b => some (Value.bool b)) hb2036) rfl rfl rfl (Y_move rfl rfl) ?_; clear hf; intro a hf
             refine sYg hf hs rfl rfl rfl (congrArg (fun b => some (Value.bool b)) hb2036) rfl rfl rfl (Y_move rfl rfl) ?_; clear hf; intro a hf
             obtain ⟨r2037, hc2038, hj2027⟩ := bind_some hj2027
             refine sCallg hf rfl rfl rfl (congrArg (fun b => some (Value.bool b)) hb2036) rfl rfl rfl rfl (cap := []) rfl rfl en188 (spec_l01Has_ok F xs1024 A1025 n1026 c1027 hn1028 x1981 _ _ hc2038 (hs.rd (i := 2) rfl)) ?_; clear hf
             rintro _ w ⟨rfl, hs1⟩ a hf
             have hs : St _ W w [_, _, _] := hs.ext hs1.below
             clear hs1
             refine sYg hf hs rfl rfl rfl (congrArg (fun b => some (Value.bool b)) hb2028) rfl rfl rfl (Y_pickF rfl (congrArg (fun b => some (Value.bool b)) hb2036) rfl) ?_; clear hf; intro a hf
             refine sY hf hs rfl rfl rfl (Y_pickT rfl (congrArg (fun b => some (Value.bool b)) hb2028) rfl) ?_; clear hf; intro a hf
             refine sY hf hs rfl rfl rfl (Y_assign rfl rfl) ?_; clear hf; intro a hf
             refine wpO_nil ?_
             refine wpL_nil (then_normal ?_)
             exact ⟨r2037, Option.some.inj hj2027, (FrD.pick (FrD.pick (FrD.pick (FrD.pick (FrD.pick (FrD.pick hf.none hf rfl) hf rfl) hf rfl) hf rfl) hf rfl) hf rfl), hs⟩
           ·have hj2027 := bif_f hj2027 hb2028
            refine sNo hf rfl rfl rfl (congrArg (fun b => some (Value.bool b)) hb2028) rfl rfl rfl ?_; clear hf; intro a hf
            refine sNo hf rfl rfl rfl (congrArg (fun b => some (Value.bool b)) hb2028) rfl rfl rfl ?_; clear hf; intro a hf
            refine sNo hf rfl rfl rfl (congrArg (fun b => some (Value.bool b)) hb2028) rfl rfl rfl ?_; clear hf; intro a hf
            refine sNo hf rfl rfl rfl (congrArg (fun b => some (Value.bool b)) hb2028) rfl rfl rfl ?_; clear hf; intro a hf
            refine sNo hf rfl rfl rfl (congrArg (fun b => some (Value.bool b)) hb2028) rfl rfl rfl ?_; clear hf; intro a hf
            refine sNo hf rfl rfl rfl (congrArg (fun b => some (Value.bool b)) hb2028) rfl rfl rfl ?_; clear hf; intro a hf
            refine sNo hf rfl rfl rfl (congrArg (fun b => some (Value.bool b)) hb2028) rfl rfl rfl ?_; clear hf; intro a hf
            refine sNo hf rfl rfl rfl (congrArg (fun b => some (Value.bool b)) hb2028) rfl rfl rfl ?_; clear hf; intro a hf
            refine sNo hf rfl rfl rfl (congrArg (fun b => some (Value.bool b)) hb2028) rfl rfl rfl ?_; clear hf; intro a hf
            refine sNoU hf rfl rfl rfl rfl rfl rfl rfl ?_; clear hf; intro a hf
            refine sNoU hf rfl rfl rfl rfl rfl rfl rfl ?_; clear hf; intro a hf
            refine sNoU hf rfl rfl rfl rfl rfl rfl rfl ?_; clear hf; intro a hf
            refine sNo hf rfl rfl rfl (congrArg (fun b => some (Value.bool b)) hb2028) rfl rfl rfl ?_; clear hf; intro a hf
            refine sY hf hs rfl rfl rfl (Y_pickF rfl (congrArg (fun b => some (Value.bool b)) hb2028) rfl) ?_; clear hf; intro a hf
            refine sY hf hs rfl rfl rfl (Y_assign rfl rfl) ?_; clear hf; intro a hf
            refine wpO_nil ?_
            refine wpL_nil (then_normal ?_)
            exact ⟨false, Option.some.inj hj2027, (FrD.pick (FrD.pick (FrD.pick (FrD.pick (FrD.pick (FrD.pick hf.none hf rfl) hf rfl) hf rfl) hf rfl) hf rfl) hf rfl), hs⟩
          ·rintro a w ⟨b2025, hr_, hf, hs⟩
           subst hr_
           try dsimp only at hm2011
           refine wpL_nil (Qb_normal ?_)
           refine wpL_region ?_
           refine sY hf hs rfl rfl rfl (Y_move rfl rfl) ?_; clear hf; intro a hf
           refine sY hf hs rfl rfl rfl (Y_add rfl rfl rfl) ?_; clear hf; intro a hf
           refine sY hf hs rfl rfl rfl (Y_assign rfl rfl) ?_; clear hf; intro a hf
           refine wpO_nil ?_
           refine wpL_nil (Ql_normal ?_)
           exact ⟨b2025, (IntKind.i64.wrap (x1981 + 1)), hm2011, (FrD.pick (FrD.pick (FrD.pick (FrD.pick (FrD.pick (FrD.pick hf.none hf rfl) hf rfl) hf rfl) hf rfl) hf rfl) hf rfl), hs⟩
         ·have hm2011 := bif_f hm2011 hb2013
          refine wpL_exit (Ql_exit (Qb_exit ?_))
          exact ⟨b1980, Option.some.inj hm2011, (FrD.pick (FrD.pick (FrD.pick (FrD.pick (FrD.pick hf.none hf rfl) hf rfl) hf rfl) hf rfl) hf rfl), hs⟩
       ·rintro a w ⟨b2008, hr_, hf, hs⟩
        subst hr_
        try dsimp only at hm1921
        refine wpL_seq <| wpL_region ?_
        refine sY hf hs rfl rfl rfl (Y_move rfl rfl) ?_; clear hf; intro a hf
        refine wpO_nil ?_
        refine wpL_cond hf rfl (fun hb2039 => ?_) (fun hb2039 => ?_)
        ·have hm1921 := bif_t hm1921 hb2039
         refine wpL_seq <| wpL_region ?_
         refine sY hf hs rfl rfl rfl (Y_move rfl rfl) ?_; clear hf; intro a hf
         refine sY hf hs rfl rfl rfl (Y_move rfl rfl) ?_; clear hf; intro a hf
         refine sBuildSlice (parts := [(0, .tmp 50)]) (vs := [.int .i64 x1790]) (cells := [.int .i64 x1790]) hf hs rfl rfl rfl rfl rfl el23 ti2 rfl rfl rfl rfl ?_; clear hf hs; intro a w A2040 hs hA2041 hf
         have hs : St _ W w [_, _, _, .row A2040 1 1 2 1 (ints ([x1790]))] := hs
         obtain ⟨xs2044, ha2045, hm1921⟩ := bind_some hm1921
         refine sAppendL (i := 2) (xs := xs1024) (ys := [x1790]) (enc := ints) hf hs rfl rfl rfl rfl rfl rfl hn1028 rfl rfl ha2045 el23 ti2 rfl rfl rfl (hs.rd (i := 3) rfl) (Nat.succ_pos _) ints_len1 ints_append ints_one ?_; clear hf hs; intro a w A2042 c2043 hs hf
         have hs : St _ W w [_, _, .row A2042 xs2044.length c2043 2 1 (ints xs2044), _] := hs
         refine sY hf hs rfl rfl rfl (Y_assign rfl rfl) ?_; clear hf; intro a hf
         refine wpO_nil ?_
         refine wpL_exit (Qb_exit_ne rfl (Ql_exit (Qb_exit ?_)))
         exact ⟨xs2044, A2042, xs2044.length, c2043, Option.some.inj hm1921, rfl, (FrD.pick (FrD.pick (FrD.pick hf.none hf rfl) hf rfl) hf rfl), hs.sel [0, 1, 2] (by decide)⟩
        ·have hm1921 := bif_f hm1921 hb2039
         refine wpL_skip ?_
         refine wpL_nil (Qb_normal ?_)
         refine wpL_region ?_
         refine sY hf hs rfl rfl rfl (Y_move rfl rfl) ?_; clear hf; intro a hf
         refine sY hf hs rfl rfl rfl (Y_add rfl rfl rfl) ?_; clear hf; intro a hf
         refine sY hf hs rfl rfl rfl (Y_assign rfl rfl) ?_; clear hf; intro a hf
         refine wpO_nil ?_
         refine wpL_nil (Ql_normal ?_)
         exact ⟨(IntKind.i64.wrap (x1790 + 1)), hm1921, (FrD.pick (FrD.pick (FrD.pick (FrD.pick hf.none hf rfl) hf rfl) hf rfl) hf rfl), hs⟩
      ·have hm1921 := bif_f hm1921 hb1923
       refine wpL_exit (Ql_exit (Qb_exit ?_))
       exact ⟨xs1024, A1025, n1026, c1027, Option.some.inj hm1921, hn1028, (FrD.pick (FrD.pick (FrD.pick hf.none hf rfl) hf rfl) hf rfl), hs⟩
    ·rintro a w ⟨xs1914, A1915, n1916, c1917, hr_, hn1918, hf, hs⟩
     subst hr_
     try dsimp only at hm1540
     refine wpL_nil (Qb_normal ?_)
     refine wpL_nil (Ql_normal ?_)
     exact ⟨xs1914, A1915, n1916, c1917, hm1540, hn1918, (FrD.pick (FrD.pick (FrD.pick hf.none hf rfl) hf rfl) hf rfl), hs⟩
   ·have hm1540 := bif_f hm1540 hb1542
    refine wpL_exit (Ql_exit (Qb_exit ?_))
    exact ⟨xs1024, A1025, n1026, c1027, Option.some.inj hm1540, hn1028, (FrD.pick hf.none hf rfl), hs.sel [2] (by decide)⟩
 ·rintro a w ⟨xs1533, A1534, n1535, c1536, hr_, hn1537, hf, hs⟩
  subst hr_
  try dsimp only at hm
  refine wpL_seq <| wpL_region ?_
  refine sY hf hs rfl rfl rfl (Y_move rfl rfl) ?_; clear hf; intro a hf
  refine sY hf hs rfl rfl rfl (Y_assign rfl rfl) ?_; clear hf; intro a hf
  refine wpO_nil ?_
  obtain rfl := Option.some.inj hm
  refine wpL_ret (ret_tmp rfl hf rfl ?_)
  exact ⟨_, rfl, A1534, n1535, c1536, rfl, hn1537, hs⟩

set_option maxHeartbeats 2000000 in
set_option maxRecDepth 100000 in
theorem spec_l21Table_ok (F : Nat) (p0 : GEventGraph) (aq : Option Addr) (aP au : Nat) (bL : aP = p0.Places.length) (p1 : GTimetable) (ay : Option Addr) (aM aB : Nat) (bU : aM = p1.Starts.length) (p2 : List Int) (bw : Option Addr) (cx bC : Nat) (cE : cx = p2.length) (p3 : Int) (r : List (List Int)) (W : World) (hm : spec_l21Table F p0 p1 p2 p3 = some r) (aR : Rd W aq ((recs GPlace.cells) p0.Places)) (bc : Rd W ay (ints p1.Starts)) (cL : Rd W bw (ints p2)) :
  Calls Try.prog 95 [.agg #[.int .i64 p0.Events, .slice aq aP au], .agg #[.int .i64 p1.Period, .slice ay aM aB], .slice bw cx bC, .int .i64 p3].toArray W fun e w' => ∃ v, e = .returned v ∧ ∃ A5576, ∃ n5577, ∃ c5578, ∃ vs5580, v = .slice A5576 n5577 c5578 ∧ n5577 = r.length ∧ St [] W w' [.mat A5576 n5577 c5578 23 2 vs5580 r] := by
 subst bL
 subst bU
 subst cE
 unfold spec_l21Table at hm
 refine Calls.enter (N := 115) Try.func95 rfl rfl rfl (fun a hf => ?_)
 have hs := St.start W
 obtain ⟨w, hw_⟩ : ∃ w, w = W := ⟨W, rfl⟩
 clear hw_ w
 refine wpL_seq <| wpL_region ?_
 refine sBox hf hs rfl rfl rfl rfl rfl (cs := [.int .i64 p0.Events, .slice aq p0.Places.length au]) rfl ?_; clear hf hs; intro a w b1 hs hf
 have hs : St _ W w [.blk b1 52 [.int .i64 p0.Events, .slice aq p0.Places.length au]] := hs
 refine sBox hf hs rfl rfl rfl rfl rfl (cs := [.int .i64 p1.Period, .slice ay p1.Starts.length aB]) rfl ?_; clear hf hs; intro a w b2 hs hf
 have hs : St _ W w [_, .blk b2 54 [.int .i64 p1.Period, .slice ay p1.Starts.length aB]] := hs
 refine sY hf hs rfl rfl rfl (Y_assign rfl rfl) ?_; clear hf; intro a hf
 refine wpO_nil <| wpL_seq <| wpL_region ?_
 refine sY hf hs rfl rfl rfl (Y_load_blkS rfl rfl (i := 0) rfl ag52 ti52 rfl) ?_; clear hf; intro a hf
 obtain ⟨r3, hc4, hm⟩ := bind_some hm
 refine sCall hf rfl rfl rfl rfl (cap := []) rfl rfl en145 (spec_l12Order_ok F p0 aq p0.Places.length au rfl _ _ hc4 (aR.at hs)) ?_; clear hf
 rintro _ w ⟨A5, n6, c7, rfl, hn8, hs1⟩ a hf
 have hs : St _ W w [_, _, .row A5 n6 c7 2 1 (ints r3)] := hs.join hs1
 clear hs1
 refine sY hf hs rfl rfl rfl (Y_assign rfl rfl) ?_; clear hf; intro a hf
 refine wpO_nil <| wpL_seq <| wpL_region ?_
 refine sEmptyM 2 hf hs rfl rfl rfl rfl el59 ti23 rfl ?_; clear hf hs; intro a w A9 hs hf
 have hs : St _ W w [_, _, _, .mat A9 0 0 23 2 [] []] := hs
 refine sY hf hs rfl rfl rfl (Y_assign rfl rfl) ?_; clear hf; intro a hf
 refine wpO_nil <| wpL_seq <| wpL_seq <| wpL_region ?_
 refine sY hf hs rfl rfl rfl (Y_assign rfl rfl) ?_; clear hf; intro a hf
 refine wpO_nil ?_
 obtain ⟨r4187, hl4188, hm⟩ := bind_some hm
 refine wpL_block (fun a w => ∃ ms4181 : List (List Int), ∃ A4182, ∃ n4183, ∃ c4184, ∃ vs4186, ms4181 = r4187 ∧ n4183 = ms4181.length ∧ Fr a 115 [(10, .slice A4182 n4183 c4184)] ∧ St [] W w [.mat A4182 n4183 c4184 23 2 vs4186 ms4181]) ?_ ?_
 ·refine wpL_loop (fun n a w => ∃ ms2789 : List (List Int), ∃ x2795 : Int, ∃ A2790, ∃ n2791, ∃ c2792, ∃ vs2794, spec_l21Table_L16 F p0 p1 p2 p3 r3 n ms2789 x2795 = some r4187 ∧ n2791 = ms2789.length ∧ Fr a 115 [(2, .slice bw p2.length bC), (3, .int .i64 p3), (4, .pointer (some ⟨b1, 0, none⟩)), (5, .pointer (some ⟨b2, 0, none⟩)), (9, .slice A5 n6 c7), (10, .slice A2790 n2791 c2792), (11, .int .i64 x2795)] ∧ St [] W w [.blk b1 52 [.int .i64 p0.Events, .slice aq p0.Places.length au], .blk b2 54 [.int .i64 p1.Period, .slice ay p1.Starts.length aB], .row A5 n6 c7 2 1 (ints r3), .mat A2790 n2791 c2792 23 2 vs2794 ms2789]) F ?_ ?_ ?_
  ·exact ⟨[], 1, A9, 0, 0, [], hl4188, rfl, (FrD.pick (FrD.pick (FrD.pick (FrD.pick (FrD.pick (FrD.pick (FrD.pick hf.none hf rfl) hf rfl) hf rfl) hf rfl) hf rfl) hf rfl) hf rfl), hs⟩
  ·rintro a w ⟨ms2789, x2795, A2790, n2791, c2792, vs2794, h0_, -, -, -⟩; simp [spec_l21Table_L16] at h0_
  ·rintro n4190 a w ⟨ms2789, x2795, A2790, n2791, c2792, vs2794, hm4189, hn2793, hf, hs⟩
   rw [spec_l21Table_L16] at hm4189
   refine wpL_seq <| wpL_seq <| wpL_region ?_
   refine sY hf hs rfl rfl rfl (Y_move rfl rfl) ?_; clear hf; intro a hf
   refine sY hf hs rfl rfl rfl (Y_move rfl rfl) ?_; clear hf; intro a hf
   refine sY hf hs rfl rfl rfl (Y_leq rfl rfl rfl) ?_; clear hf; intro a hf
   refine wpO_nil ?_
   refine wpL_cond hf rfl (fun hb4191 => ?_) (fun hb4191 => ?_)
   ·have hm4189 := bif_t hm4189 hb4191
    refine wpL_skip <| wpL_seq <| wpL_block0 <| wpL_seq <| wpL_region ?_
    refine sY hf hs rfl rfl rfl (Y_fieldAddr rfl rfl fo52_0) ?_; clear hf; intro a hf
    refine sY hf hs rfl rfl rfl (Y_load_blk rfl rfl (i := 0) rfl rfl ag2) ?_; clear hf; intro a hf
    obtain ⟨xs4194, hk4193, hm4189⟩ := bind_some hm4189
    refine sMakeL (enc := ints) hf hs rfl rfl rfl rfl rfl hk4193 el23 ti2 rfl ints_made ?_; clear hf hs; intro a w A4192 hs hf
    have hs : St _ W w [_, _, _, _, .row A4192 xs4194.length xs4194.length 2 1 (ints xs4194)] := hs
    refine sY hf hs rfl rfl rfl (Y_assign rfl rfl) ?_; clear hf; intro a hf
    refine wpO_nil <| wpL_seq <| wpL_seq <| wpL_region ?_
    refine sY hf hs rfl rfl rfl (Y_move rfl rfl) ?_; clear hf; intro a hf
    refine sY hf hs rfl rfl rfl (Y_eql rfl rfl rfl) ?_; clear hf; intro a hf
    refine wpO_nil ?_
    obtain ⟨r4207, hj4208, hm4189⟩ := bind_some hm4189
    refine wpL_cut (fun a w => ∃ xs4202 : List Int, ∃ A4203, ∃ n4204, ∃ c4205, xs4202 = r4207 ∧ n4204 = xs4202.length ∧ Fr a 115 [(2, .slice bw p2.length bC), (3, .int .i64 p3), (4, .pointer (some ⟨b1, 0, none⟩)), (5, .pointer (some ⟨b2, 0, none⟩)), (9, .slice A5 n6 c7), (10, .slice A2790 n2791 c2792), (11, .int .i64 x2795), (12, .slice A4203 n4204 c4205)] ∧ St [] W w [.blk b1 52 [.int .i64 p0.Events, .slice aq p0.Places.length au], .blk b2 54 [.int .i64 p1.Period, .slice ay p1.Starts.length aB], .row A5 n6 c7 2 1 (ints r3), .mat A2790 n2791 c2792 23 2 vs2794 ms2789, .row A4203 n4204 c4205 2 1 (ints xs4202)]) ?_ ?_
    ·refine wpL_cond hf rfl (fun hb4209 => ?_) (fun hb4209 => ?_)
     ·have hj4208 := bif_t hj4208 hb4209
      refine wpL_region ?_
      refine sY hf hs rfl rfl rfl (Y_move rfl rfl) ?_; clear hf; intro a hf
      obtain ⟨r4210, hc4211, hj4208⟩ := bind_some hj4208
      refine sCall hf rfl rfl rfl rfl (cap := []) rfl rfl en146 (spec_l01Own_ok F p2 bw p2.length bC rfl _ _ hc4211 (cL.at hs)) ?_; clear hf
      rintro _ w ⟨A4212, n4213, c4214, rfl, hn4215, hs1⟩ a hf
      have hs : St _ W w [_, _, _, _, _, .row A4212 n4213 c4214 2 1 (ints r4210)] := hs.join hs1
      clear hs1
      refine sY hf hs rfl rfl rfl (Y_assign rfl rfl) ?_; clear hf; intro a hf
      refine wpO_nil ?_
      refine wpL_nil (then_normal ?_)
      exact ⟨r4210, A4212, n4213, c4214, Option.some.inj hj4208, hn4215, (FrD.pick (FrD.pick (FrD.pick (FrD.pick (FrD.pick (FrD.pick (FrD.pick (FrD.pick hf.none hf rfl) hf rfl) hf rfl) hf rfl) hf rfl) hf rfl) hf rfl) hf rfl), hs.sel [0, 1, 2, 3, 5] (by decide)⟩
     ·have hj4208 := bif_f hj4208 hb4209
      refine wpL_skip ?_
      refine wpL_nil (then_normal ?_)
      exact ⟨xs4194, A4192, xs4194.length, xs4194.length, Option.some.inj hj4208, rfl, (FrD.pick (FrD.pick (FrD.pick (FrD.pick (FrD.pick (FrD.pick (FrD.pick (FrD.pick hf.none hf rfl) hf rfl) hf rfl) hf rfl) hf rfl) hf rfl) hf rfl) hf rfl), hs⟩
    ·rintro a w ⟨xs4202, A4203, n4204, c4205, hr_, hn4206, hf, hs⟩
     subst hr_
     try dsimp only at hm4189
     refine wpL_seq <| wpL_region ?_
     refine sY hf hs rfl rfl rfl (Y_move rfl rfl) ?_; clear hf; intro a hf
     refine sY hf hs rfl rfl rfl (Y_move rfl rfl) ?_; clear hf; intro a hf
     refine sOneM (j := 4) hf hs rfl rfl rfl rfl rfl rfl hn4206 el59 ti23 ?_; clear hf hs; intro a w A4216 hs hf
     have hs : St _ W w [_, _, _, _, .mat A4216 1 1 23 2 ([Value.slice A4203 xs4202.length c4205]) ([xs4202])] := hs
     obtain ⟨ms4220, ha4221, hm4189⟩ := bind_some hm4189
     refine sAppendM (i := 3) (j := 4) hf hs rfl rfl rfl rfl rfl rfl hn2793 rfl (by decide) rfl rfl (by decide) ha4221 el59 ti23 rfl ?_; clear hf hs; intro a w A4218 c4219 hs hf
     have hs : St _ W w [_, _, _, .mat A4218 ms4220.length c4219 23 2 (vs2794 ++ ([Value.slice A4203 xs4202.length c4205])) ms4220] := hs
     obtain ⟨hq4222, hv4223⟩ := hs.appended (i := 3) rfl ha4221
     refine sY hf hs rfl rfl rfl (Y_assign rfl rfl) ?_; clear hf; intro a hf
     refine wpO_nil <| wpL_seq <| wpL_region ?_
     refine sY hf hs rfl rfl rfl (Y_assign rfl rfl) ?_; clear hf; intro a hf
     refine wpO_nil ?_
     obtain ⟨r5239, hl5240, hm4189⟩ := bind_some hm4189
     refine wpL_block (fun a w => ∃ ms5237 : List (List Int), ms5237 = r5239 ∧ ms4220.length = ms5237.length ∧ Fr a 115 [(2, .slice bw p2.length bC), (3, .int .i64 p3), (4, .pointer (some ⟨b1, 0, none⟩)), (5, .pointer (some ⟨b2, 0, none⟩)), (9, .slice A5 n6 c7), (10, .slice A4218 ms4220.length c4219), (11, .int .i64 x2795)] ∧ St [] W w [.blk b1 52 [.int .i64 p0.Events, .slice aq p0.Places.length au], .blk b2 54 [.int .i64 p1.Period, .slice ay p1.Starts.length aB], .row A5 n6 c7 2 1 (ints r3), .mat A4218 ms4220.length c4219 23 2 (vs2794 ++ ([Value.slice A4203 xs4202.length c4205])) ms5237]) ?_ ?_
     ·refine wpL_loop (fun n a w => ∃ ms4897 : List (List Int), ∃ x4899 : Int, ∃ xs4900 : List Int, spec_l21Table_L20 F p0 p1 r3 ms2789 x2795 n ms4897 x4899 xs4900 = some r5239 ∧ ms4220.length = ms4897.length ∧ n4204 = xs4900.length ∧ ms4897[((ms2789.length : Int) : Int).toNat]? = some xs4900 ∧ (vs2794 ++ ([Value.slice A4203 xs4202.length c4205]))[((ms2789.length : Int) : Int).toNat]? = some (Value.slice A4203 xs4900.length c4205) ∧ Fr a 115 [(2, .slice bw p2.length bC), (3, .int .i64 p3), (4, .pointer (some ⟨b1, 0, none⟩)), (5, .pointer (some ⟨b2, 0, none⟩)), (9, .slice A5 n6 c7), (10, .slice A4218 ms4220.length c4219), (11, .int .i64 x2795), (12, .slice A4203 n4204 c4205), (13, .int .i64 x4899)] ∧ St [] W w [.blk b1 52 [.int .i64 p0.Events, .slice aq p0.Places.length au], .blk b2 54 [.int .i64 p1.Period, .slice ay p1.Starts.length aB], .row A5 n6 c7 2 1 (ints r3), .mat A4218 ms4220.length c4219 23 2 (vs2794 ++ ([Value.slice A4203 xs4202.length c4205])) ms4897]) F ?_ ?_ ?_
      ·exact ⟨ms4220, 0, xs4202, hl5240, rfl, hn4206, hq4222, hv4223, (FrD.pick (FrD.pick (FrD.pick (FrD.pick (FrD.pick (FrD.pick (FrD.pick (FrD.pick (FrD.pick hf.none hf rfl) hf rfl) hf rfl) hf rfl) hf rfl) hf rfl) hf rfl) hf rfl) hf rfl), hs⟩
      ·rintro a w ⟨ms4897, x4899, xs4900, h0_, -, -, -, -, -, -⟩; simp [spec_l21Table_L20] at h0_
      ·rintro n5242 a w ⟨ms4897, x4899, xs4900, hm5241, hn4898, hn4901, hq4902, hv4903, hf, hs⟩
       rw [spec_l21Table_L20] at hm5241
       refine wpL_seq <| wpL_seq <| wpL_region ?_
       refine sY hf hs rfl rfl rfl (Y_move rfl rfl) ?_; clear hf; intro a hf
       refine sY hf hs rfl rfl rfl (Y_move rfl rfl) ?_; clear hf; intro a hf
       refine sY hf hs rfl rfl rfl (Y_lenH rfl rfl el23 hn8) ?_; clear hf; intro a hf
       refine sY hf hs rfl rfl rfl (Y_lss rfl rfl rfl) ?_; clear hf; intro a hf
       refine wpO_nil ?_
       refine wpL_cond hf rfl (fun hb5243 => ?_) (fun hb5243 => ?_)
       ·have hm5241 := bif_t hm5241 hb5243
        refine wpL_skip <| wpL_seq <| wpL_block0 <| wpL_seq <| wpL_region ?_
        refine sY hf hs rfl rfl rfl (Y_assign rfl rfl) ?_; clear hf; intro a hf
        refine wpO_nil ?_
        obtain ⟨r5495, hl5496, hm5241⟩ := bind_some hm5241
        refine wpL_block (fun a w => ∃ ms5489 : List (List Int), ∃ xs5491 : List Int, (ms5489, xs5491) = r5495 ∧ ms4220.length = ms5489.length ∧ n4204 = xs5491.length ∧ ms5489[((ms2789.length : Int) : Int).toNat]? = some xs5491 ∧ (vs2794 ++ ([Value.slice A4203 xs4202.length c4205]))[((ms2789.length : Int) : Int).toNat]? = some (Value.slice A4203 xs5491.length c4205) ∧ Fr a 115 [(2, .slice bw p2.length bC), (3, .int .i64 p3), (4, .pointer (some ⟨b1, 0, none⟩)), (5, .pointer (some ⟨b2, 0, none⟩)), (9, .slice A5 n6 c7), (10, .slice A4218 ms4220.length c4219), (11, .int .i64 x2795), (12, .slice A4203 n4204 c4205), (13, .int .i64 x4899)] ∧ St [] W w [.blk b1 52 [.int .i64 p0.Events, .slice aq p0.Places.length au], .blk b2 54 [.int .i64 p1.Period, .slice ay p1.Starts.length aB], .row A5 n6 c7 2 1 (ints r3), .mat A4218 ms4220.length c4219 23 2 (vs2794 ++ ([Value.slice A4203 xs4202.length c4205])) ms5489]) ?_ ?_
        ·refine wpL_loop (fun n a w => ∃ ms5405 : List (List Int), ∃ x5407 : Int, ∃ xs5408 : List Int, spec_l21Table_L21 F p0 p1 r3 ms2789 x2795 x4899 n ms5405 x5407 xs5408 = some r5495 ∧ ms4220.length = ms5405.length ∧ n4204 = xs5408.length ∧ ms5405[((ms2789.length : Int) : Int).toNat]? = some xs5408 ∧ (vs2794 ++ ([Value.slice A4203 xs4202.length c4205]))[((ms2789.length : Int) : Int).toNat]? = some (Value.slice A4203 xs5408.length c4205) ∧ Fr a 115 [(2, .slice bw p2.length bC), (3, .int .i64 p3), (4, .pointer (some ⟨b1, 0, none⟩)), (5, .pointer (some ⟨b2, 0, none⟩)), (9, .slice A5 n6 c7), (10, .slice A4218 ms4220.length c4219), (11, .int .i64 x2795), (12, .slice A4203 n4204 c4205), (13, .int .i64 x4899), (14, .int .i64 x5407)] ∧ St [] W w [.blk b1 52 [.int .i64 p0.Events, .slice aq p0.Places.length au], .blk b2 54 [.int .i64 p1.Period, .slice ay p1.Starts.length aB], .row A5 n6 c7 2 1 (ints r3), .mat A4218 ms4220.length c4219 23 2 (vs2794 ++ ([Value.slice A4203 xs4202.length c4205])) ms5405]) F ?_ ?_ ?_
         ·exact ⟨ms4897, 0, xs4900, hl5496, hn4898, hn4901, hq4902, hv4903, (FrD.pick (FrD.pick (FrD.pick (FrD.pick (FrD.pick (FrD.pick (FrD.pick (FrD.pick (FrD.pick (FrD.pick hf.none hf rfl) hf rfl) hf rfl) hf rfl) hf rfl) hf rfl) hf rfl) hf rfl) hf rfl) hf rfl), hs⟩
         ·rintro a w ⟨ms5405, x5407, xs5408, h0_, -, -, -, -, -, -⟩; simp [spec_l21Table_L21] at h0_
         ·rintro n5498 a w ⟨ms5405, x5407, xs5408, hm5497, hn5406, hn5409, hq5410, hv5411, hf, hs⟩
          rw [spec_l21Table_L21] at hm5497
          refine wpL_seq <| wpL_seq <| wpL_region ?_
          refine sY hf hs rfl rfl rfl (Y_move rfl rfl) ?_; clear hf; intro a hf
          refine sY hf hs rfl rfl rfl (Y_fieldAddr rfl rfl fo52_1) ?_; clear hf; intro a hf
          refine sY hf hs rfl rfl rfl (Y_load_blk rfl rfl (i := 0) rfl rfl ag50) ?_; clear hf; intro a hf
          refine sY hf hs rfl rfl rfl (Y_lenH rfl rfl el50 rfl) ?_; clear hf; intro a hf
          refine sY hf hs rfl rfl rfl (Y_lss rfl rfl rfl) ?_; clear hf; intro a hf
          refine wpO_nil ?_
          refine wpL_cond hf rfl (fun hb5499 => ?_) (fun hb5499 => ?_)
          ·have hm5497 := bif_t hm5497 hb5499
           refine wpL_skip <| wpL_seq ?_
           obtain ⟨r5540, hj5541, hm5497⟩ := bind_some hm5497
           refine wpL_block (fun a w => ∃ ms5534 : List (List Int), ∃ xs5536 : List Int, (ms5534, xs5536) = r5540 ∧ ms4220.length = ms5534.length ∧ n4204 = xs5536.length ∧ ms5534[((ms2789.length : Int) : Int).toNat]? = some xs5536 ∧ (vs2794 ++ ([Value.slice A4203 xs4202.length c4205]))[((ms2789.length : Int) : Int).toNat]? = some (Value.slice A4203 xs5536.length c4205) ∧ Fr a 115 [(2, .slice bw p2.length bC), (3, .int .i64 p3), (4, .pointer (some ⟨b1, 0, none⟩)), (5, .pointer (some ⟨b2, 0, none⟩)), (9, .slice A5 n6 c7), (10, .slice A4218 ms4220.length c4219), (11, .int .i64 x2795), (12, .slice A4203 n4204 c4205), (13, .int .i64 x4899), (14, .int .i64 x5407)] ∧ St [] W w [.blk b1 52 [.int .i64 p0.Events, .slice aq p0.Places.length au], .blk b2 54 [.int .i64 p1.Period, .slice ay p1.Starts.length aB], .row A5 n6 c7 2 1 (ints r3), .mat A4218 ms4220.length c4219 23 2 (vs2794 ++ ([Value.slice A4203 xs4202.length c4205])) ms5534]) ?_ ?_
           ·refine wpL_seq <| wpL_region ?_
            refine sY hf hs rfl rfl rfl (Y_fieldAddr rfl rfl fo52_1) ?_; clear hf; intro a hf
            refine sY hf hs rfl rfl rfl (Y_load_blk rfl rfl (i := 0) rfl rfl ag50) ?_; clear hf; intro a hf
            refine sY hf hs rfl rfl rfl (Y_move rfl rfl) ?_; clear hf; intro a hf
            obtain ⟨q5542, hi5543, hj5541⟩ := bind_some hj5541
            obtain ⟨hi5543a, hi5543b, hi5543q⟩ := idx_some hi5543
            refine sY hf hs rfl rfl rfl (Y_index rfl rfl rfl el50 ti112 (Rd.isAt (aR.at hs) (recs_at (s := 4) GPlace.len hi5543q (j := 0) rfl)) hi5543a hi5543b) ?_; clear hf; intro a hf
            refine sY hf hs rfl rfl rfl (Y_load_rdS rfl rfl (us := [.int .i64 q5542.From, .int .i64 q5542.To, .int .i64 q5542.Delay, .int .i64 q5542.Tokens]) (fun w hs => aR.at hs) (fun j u hj => recs_at (s := 4) GPlace.len hi5543q hj) (Nat.succ_pos _) ag112 ti112 rfl) ?_; clear hf; intro a hf
            refine sAlloc hf hs rfl rfl rfl rfl ti112 ?_; clear hf hs; intro a w b5544 hs hf
            have hs : St _ W w [_, _, _, _, .blk b5544 112 [.int .i64 0, .int .i64 0, .int .i64 0, .int .i64 0]] := hs
            refine sStore (i := 4) (us := [.int .i64 q5542.From, .int .i64 q5542.To, .int .i64 q5542.Delay, .int .i64 q5542.Tokens]) hf hs rfl rfl rfl rfl rfl rfl ti112 rfl rfl rfl (Nat.le_of_ble_eq_true rfl) rfl ?_; clear hs; intro w hs
            have hs : St _ W w [_, _, _, _, .blk b5544 112 [.int .i64 q5542.From, .int .i64 q5542.To, .int .i64 q5542.Delay, .int .i64 q5542.Tokens]] := hs
            refine wpO_nil <| wpL_seq <| wpL_seq ?_
            obtain ⟨r5549, hj5550, hj5541⟩ := bind_some hj5541
            refine wpL_cut (fun a w => ∃ b5548 : Bool, b5548 = r5549 ∧ Fr a 115 [(2, .slice bw p2.length bC), (3, .int .i64 p3), (4, .pointer (some ⟨b1, 0, none⟩)), (5, .pointer (some ⟨b2, 0, none⟩)), (9, .slice A5 n6 c7), (10, .slice A4218 ms4220.length c4219), (11, .int .i64 x2795), (12, .slice A4203 n4204 c4205), (13, .int .i64 x4899), (14, .int .i64 x5407), (15, .pointer (some ⟨b5544, 0, none⟩)), (67, .bool b5548)] ∧ St [] W w [.blk b1 52 [.int .i64 p0.Events, .slice aq p0.Places.length au], .blk b2 54 [.int .i64 p1.Period, .slice ay p1.Starts.length aB], .row A5 n6 c7 2 1 (ints r3), .mat A4218 ms4220.length c4219 23 2 (vs2794 ++ ([Value.slice A4203 xs4202.length c4205])) ms5405, .blk b5544 112 [.int .i64 q5542.From, .int .i64 q5542.To, .int .i64 q5542.Delay, .int .i64 q5542.Tokens]]) ?_ ?_
            ·refine wpL_draw (by kernel_rfl) (by kernel_rfl) hs ?_
             refine qY hf rfl rfl rfl (Y_fieldAddr rfl rfl fo112_1) ?_; clear hf; intro a hf
             refine qY hf rfl rfl rfl (Y_load_blk rfl rfl (i := 4) rfl rfl ag2) ?_; clear hf; intro a hf
             refine qY hf rfl rfl rfl (Y_move rfl rfl) ?_; clear hf; intro a hf
             refine qY hf rfl rfl rfl (Y_move rfl rfl) ?_; clear hf; intro a hf
             obtain ⟨q5551, hi5552, hj5550⟩ := bind_some hj5550
             obtain ⟨hi5552a, hi5552b, hi5552q⟩ := idx_some hi5552
             refine qY hf rfl rfl rfl (Y_index rfl rfl rfl el23 ti2 (Rd.isAt (hs.rd (i := 2) rfl) (at1 (ints_at hi5552q))) hi5552a (ltn hn8 hi5552b)) ?_; clear hf; intro a hf
             refine qY hf rfl rfl rfl (Y_load_rd rfl rfl (fun w hs => hs.rd (i := 2) rfl) (at1 (ints_at hi5552q)) ag2) ?_; clear hf; intro a hf
             refine qY hf rfl rfl rfl (Y_neq rfl rfl rfl) ?_; clear hf; intro a hf
             refine qY hf rfl rfl rfl (Y_move rfl rfl) ?_; clear hf; intro a hf
             refine bsplit (q5542.To != q5551) (fun hb5553 => ?_) (fun hb5553 => ?_)
             ·have hj5550 := bif_t hj5550 hb5553
              refine qNo hf rfl rfl rfl (congrArg (fun b => some (Value.bool b)) hb5553) rfl rfl rfl ?_; clear hf; intro a hf
              refine qNo hf rfl rfl rfl (congrArg (fun b => some (Value.bool b)) hb5553) rfl rfl rfl ?_; clear hf; intro a hf
              refine qNo hf rfl rfl rfl (congrArg (fun b => some (Value.bool b)) hb5553) rfl rfl rfl ?_; clear hf; intro a hf
              refine qNo hf rfl rfl rfl (congrArg (fun b => some (Value.bool b)) hb5553) rfl rfl rfl ?_; clear hf; intro a hf
              refine qNo hf rfl rfl rfl (congrArg (fun b => some (Value.bool b)) hb5553) rfl rfl rfl ?_; clear hf; intro a hf
              refine qY hf rfl rfl rfl (Y_pickT rfl (congrArg (fun b => some (Value.bool b)) hb5553) rfl) ?_; clear hf; intro a hf
              refine qNil ?_; clear hs; intro w hs
              refine wpL_nil (then_normal ?_)
              exact ⟨true, Option.some.inj hj5550, (FrD.pick (FrD.pick (FrD.pick (FrD.pick (FrD.pick (FrD.pick (FrD.pick (FrD.pick (FrD.pick (FrD.pick (FrD.pick (FrD.pick hf.none hf rfl) hf rfl) hf rfl) hf rfl) hf rfl) hf rfl) hf rfl) hf rfl) hf rfl) hf rfl) hf rfl) hf rfl), hs⟩
             ·have hj5550 := bif_f hj5550 hb5553
              refine qYg hf rfl rfl rfl (congrArg (fun b => some (Value.bool b)) hb5553) rfl rfl rfl (Y_move rfl rfl) ?_; clear hf; intro a hf
              refine qYg hf rfl rfl rfl (congrArg (fun b => some (Value.bool b)) hb5553) rfl rfl rfl (Y_fieldAddr rfl rfl fo112_3) ?_; clear hf; intro a hf
              refine qYg hf rfl rfl rfl (congrArg (fun b => some (Value.bool b)) hb5553) rfl rfl rfl (Y_load_blk rfl rfl (i := 4) rfl rfl ag2) ?_; clear hf; intro a hf
              refine qYg hf rfl rfl rfl (congrArg (fun b => some (Value.bool b)) hb5553) rfl rfl rfl (Y_sub rfl rfl rfl) ?_; clear hf; intro a hf
              refine qYg hf rfl rfl rfl (congrArg (fun b => some (Value.bool b)) hb5553) rfl rfl rfl (Y_lss rfl rfl rfl) ?_; clear hf; intro a hf
              refine qY hf rfl rfl rfl (Y_pickF rfl (congrArg (fun b => some (Value.bool b)) hb5553) rfl) ?_; clear hf; intro a hf
              refine qNil ?_; clear hs; intro w hs
              refine wpL_nil (then_normal ?_)
              exact ⟨(decide ((IntKind.i64.wrap (x2795 - q5542.Tokens)) < 1)), Option.some.inj hj5550, (FrD.pick (FrD.pick (FrD.pick (FrD.pick (FrD.pick (FrD.pick (FrD.pick (FrD.pick (FrD.pick (FrD.pick (FrD.pick (FrD.pick hf.none hf rfl) hf rfl) hf rfl) hf rfl) hf rfl) hf rfl) hf rfl) hf rfl) hf rfl) hf rfl) hf rfl) hf rfl), hs⟩
            ·rintro a w ⟨b5548, hr_, hf, hs⟩
             subst hr_
             try dsimp only at hj5541
             refine wpL_cond hf rfl (fun hb5554 => ?_) (fun hb5554 => ?_)
             ·have hj5541 := bif_t hj5541 hb5554
              refine wpL_exit (Qb_exit ?_)
              exact ⟨ms5405, xs5408, Option.some.inj hj5541, hn5406, hn5409, hq5410, hv5411, (FrD.pick (FrD.pick (FrD.pick (FrD.pick (FrD.pick (FrD.pick (FrD.pick (FrD.pick (FrD.pick (FrD.pick hf.none hf rfl) hf rfl) hf rfl) hf rfl) hf rfl) hf rfl) hf rfl) hf rfl) hf rfl) hf rfl), hs.sel [0, 1, 2, 3] (by decide)⟩
             ·have hj5541 := bif_f hj5541 hb5554
              refine wpL_skip <| wpL_seq ?_
              refine wpL_draw (by kernel_rfl) (by kernel_rfl) hs ?_
              refine qY hf rfl rfl rfl (Y_fieldAddr rfl rfl fo54_1) ?_; clear hf; intro a hf
              refine qY hf rfl rfl rfl (Y_load_blk rfl rfl (i := 1) rfl rfl ag23) ?_; clear hf; intro a hf
              refine qY hf rfl rfl rfl (Y_fieldAddr rfl rfl fo112_1) ?_; clear hf; intro a hf
              refine qY hf rfl rfl rfl (Y_load_blk rfl rfl (i := 4) rfl rfl ag2) ?_; clear hf; intro a hf
              obtain ⟨q5555, hi5556, hj5541⟩ := bind_some hj5541
              obtain ⟨hi5556a, hi5556b, hi5556q⟩ := idx_some hi5556
              refine qY hf rfl rfl rfl (Y_index rfl rfl rfl el23 ti2 (Rd.isAt (bc.at hs) (at1 (ints_at hi5556q))) hi5556a hi5556b) ?_; clear hf; intro a hf
              refine qY hf rfl rfl rfl (Y_load_rd rfl rfl (fun w hs => bc.at hs) (at1 (ints_at hi5556q)) ag2) ?_; clear hf; intro a hf
              refine qY hf rfl rfl rfl (Y_fieldAddr rfl rfl fo112_3) ?_; clear hf; intro a hf
              refine qY hf rfl rfl rfl (Y_load_blk rfl rfl (i := 4) rfl rfl ag2) ?_; clear hf; intro a hf
              refine qY hf rfl rfl rfl (Y_fieldAddr rfl rfl fo54_0) ?_; clear hf; intro a hf
              refine qY hf rfl rfl rfl (Y_load_blk rfl rfl (i := 1) rfl rfl ag2) ?_; clear hf; intro a hf
              refine qY hf rfl rfl rfl (Y_mul rfl rfl rfl) ?_; clear hf; intro a hf
              refine qY hf rfl rfl rfl (Y_add rfl rfl rfl) ?_; clear hf; intro a hf
              refine qY hf rfl rfl rfl (Y_fieldAddr rfl rfl fo54_1) ?_; clear hf; intro a hf
              refine qY hf rfl rfl rfl (Y_load_blk rfl rfl (i := 1) rfl rfl ag23) ?_; clear hf; intro a hf
              refine qY hf rfl rfl rfl (Y_fieldAddr rfl rfl fo112_0) ?_; clear hf; intro a hf
              refine qY hf rfl rfl rfl (Y_load_blk rfl rfl (i := 4) rfl rfl ag2) ?_; clear hf; intro a hf
              obtain ⟨q5557, hi5558, hj5541⟩ := bind_some hj5541
              obtain ⟨hi5558a, hi5558b, hi5558q⟩ := idx_some hi5558
              refine qY hf rfl rfl rfl (Y_index rfl rfl rfl el23 ti2 (Rd.isAt (bc.at hs) (at1 (ints_at hi5558q))) hi5558a hi5558b) ?_; clear hf; intro a hf
              refine qY hf rfl rfl rfl (Y_load_rd rfl rfl (fun w hs => bc.at hs) (at1 (ints_at hi5558q)) ag2) ?_; clear hf; intro a hf
              refine qY hf rfl rfl rfl (Y_sub rfl rfl rfl) ?_; clear hf; intro a hf
              refine qY hf rfl rfl rfl (Y_fieldAddr rfl rfl fo112_2) ?_; clear hf; intro a hf
              refine qY hf rfl rfl rfl (Y_load_blk rfl rfl (i := 4) rfl rfl ag2) ?_; clear hf; intro a hf
              refine qY hf rfl rfl rfl (Y_sub rfl rfl rfl) ?_; clear hf; intro a hf
              refine qY hf rfl rfl rfl (Y_assign rfl rfl) ?_; clear hf; intro a hf
              refine qNil ?_; clear hs; intro w hs
              refine wpL_drawM [.blk b1 52 [.int .i64 p0.Events, .slice aq p0.Places.length au], .blk b2 54 [.int .i64 p1.Period, .slice ay p1.Starts.length aB], .row A5 n6 c7 2 1 (ints r3), .mat A4218 ms4220.length c4219 23 2 (vs2794 ++ ([Value.slice A4203 xs4202.length c4205])) ms5405, .blk b5544 112 [.int .i64 q5542.From, .int .i64 q5542.To, .int .i64 q5542.Delay, .int .i64 q5542.Tokens]] [24] (by kernel_rfl) hs ?_; clear hs; intro w hs
              have hs0 : St _ W w [_, _, _, _, _] := hs
              refine mYp (i := 0) rfl (by kernel_rfl) (by kernel_rfl) hf rfl rfl rfl (fun _ => Y_move rfl rfl) ?_; clear hf; intro a hf
              refine mYp (i := 1) rfl (by kernel_rfl) (by kernel_rfl) hf rfl rfl rfl (fun _ => Y_fieldAddr rfl rfl fo112_1) ?_; clear hf; intro a hf
              refine mY (i := 2) [[]] rfl (by kernel_rfl) (by kernel_rfl) hf hs0 rfl rfl rfl (Y_load_blk rfl rfl (i := 4) rfl rfl ag2) ?_; clear hf; intro a hf
              refine mYp (i := 3) rfl (by kernel_rfl) (by kernel_rfl) hf rfl rfl rfl (fun _ => Y_move rfl rfl) ?_; clear hf; intro a hf
              refine mYp (i := 4) rfl (by kernel_rfl) (by kernel_rfl) hf rfl rfl rfl (fun _ => Y_fieldAddr rfl rfl fo112_1) ?_; clear hf; intro a hf
              refine mY (i := 5) [[]] rfl (by kernel_rfl) (by kernel_rfl) hf hs0 rfl rfl rfl (Y_load_blk rfl rfl (i := 4) rfl rfl ag2) ?_; clear hf; intro a hf
              obtain ⟨q5559, hi5560, hj5541⟩ := bind_some hj5541
              obtain ⟨hi5560a, hi5560b, hi5560q⟩ := idx_some hi5560
              refine mYp (i := 6) rfl (by kernel_rfl) (by kernel_rfl) hf rfl rfl rfl (fun _ => Y_index rfl rfl rfl el23 ti2 (Rd.isAt (hs.rdRow (i := 3) rfl ⟨hq5410, hv5411⟩) (at1 (ints_at hi5560q))) hi5560a (ltn hn5409 hi5560b)) ?_; clear hf; intro a hf
              refine mY (i := 7) [[]] rfl (by kernel_rfl) (by kernel_rfl) hf hs0 rfl rfl rfl (Y_load_rd rfl rfl (fun w hs => hs.rdRow (i := 3) rfl ⟨hq5410, hv5411⟩) (at1 (ints_at hi5560q)) ag2) ?_; clear hf; intro a hf
              refine mYp (i := 8) rfl (by kernel_rfl) (by kernel_rfl) hf rfl rfl rfl (fun _ => Y_move rfl rfl) ?_; clear hf; intro a hf
              refine mYp (i := 9) rfl (by kernel_rfl) (by kernel_rfl) hf rfl rfl rfl (fun _ => Y_move rfl rfl) ?_; clear hf; intro a hf
              refine mYp (i := 10) rfl (by kernel_rfl) (by kernel_rfl) hf rfl rfl rfl (fun _ => Y_fieldAddr rfl rfl fo112_3) ?_; clear hf; intro a hf
              refine mY (i := 11) [[]] rfl (by kernel_rfl) (by kernel_rfl) hf hs0 rfl rfl rfl (Y_load_blk rfl rfl (i := 4) rfl rfl ag2) ?_; clear hf; intro a hf
              refine mYp (i := 12) rfl (by kernel_rfl) (by kernel_rfl) hf rfl rfl rfl (fun _ => Y_sub rfl rfl rfl) ?_; clear hf; intro a hf
              refine mYp (i := 13) rfl (by kernel_rfl) (by kernel_rfl) hf rfl rfl rfl (fun _ => Y_sub rfl rfl rfl) ?_; clear hf; intro a hf
              obtain ⟨q5561, hi5562, hj5541⟩ := bind_some hj5541
              obtain ⟨hi5562a, hi5562b, hi5562q⟩ := idx_some hi5562
              obtain ⟨A5563, c5564, hv5565⟩ := hs.matRow (i := 3) rfl hi5562q
              refine mYp (i := 14) rfl (by kernel_rfl) (by kernel_rfl) hf rfl rfl rfl (fun _ => Y_index rfl rfl rfl el59 ti23 (Rd.isAt (hs.rdV (i := 3) rfl) hv5565) hi5562a (ltn hn5406 hi5562b)) ?_; clear hf; intro a hf
              refine mY (i := 15) [[]] rfl (by kernel_rfl) (by kernel_rfl) hf hs0 rfl rfl rfl (Y_load_rd rfl rfl (fun w hs => hs.rdV (i := 3) rfl) (at1 hv5565) ag23) ?_; clear hf; intro a hf
              refine mYp (i := 16) rfl (by kernel_rfl) (by kernel_rfl) hf rfl rfl rfl (fun _ => Y_fieldAddr rfl rfl fo112_0) ?_; clear hf; intro a hf
              refine mY (i := 17) [[]] rfl (by kernel_rfl) (by kernel_rfl) hf hs0 rfl rfl rfl (Y_load_blk rfl rfl (i := 4) rfl rfl ag2) ?_; clear hf; intro a hf
              obtain ⟨q5566, hi5567, hj5541⟩ := bind_some hj5541
              obtain ⟨hi5567a, hi5567b, hi5567q⟩ := idx_some hi5567
              refine mYp (i := 18) rfl (by kernel_rfl) (by kernel_rfl) hf rfl rfl rfl (fun _ => Y_index rfl rfl rfl el23 ti2 (Rd.isAt (hs.rdRow (i := 3) rfl ⟨hi5562q, hv5565⟩) (at1 (ints_at hi5567q))) hi5567a hi5567b) ?_; clear hf; intro a hf
              refine mY (i := 19) [[]] rfl (by kernel_rfl) (by kernel_rfl) hf hs0 rfl rfl rfl (Y_load_rd rfl rfl (fun w hs => hs.rdRow (i := 3) rfl ⟨hi5562q, hv5565⟩) (at1 (ints_at hi5567q)) ag2) ?_; clear hf; intro a hf
              refine mYp (i := 20) rfl (by kernel_rfl) (by kernel_rfl) hf rfl rfl rfl (fun _ => Y_move rfl rfl) ?_; clear hf; intro a hf
              refine mYp (i := 21) rfl (by kernel_rfl) (by kernel_rfl) hf rfl rfl rfl (fun _ => Y_sub rfl rfl rfl) ?_; clear hf; intro a hf
              refine mYp (i := 22) rfl (by kernel_rfl) (by kernel_rfl) hf rfl rfl rfl (fun _ => Y_max rfl rfl rfl) ?_; clear hf; intro a hf
              obtain ⟨q5568, hi5569, hj5541⟩ := bind_some hj5541
              obtain ⟨hi5569a, hi5569b, hi5569q⟩ := idx_some hi5569
              refine mYp (i := 23) rfl (by kernel_rfl) (by kernel_rfl) hf rfl rfl rfl (fun _ => Y_index rfl rfl rfl el23 ti2 (Rd.isAt (hs.rdRow (i := 3) rfl ⟨hq5410, hv5411⟩) (at1 (ints_at hi5569q))) hi5569a (ltn hn5409 hi5569b)) ?_; clear hf; intro a hf
              refine mRun (i := 24) rfl (by kernel_rfl) ?_
              obtain ⟨xs5570, hu5572, hj5541⟩ := bind_some hj5541
              obtain ⟨ms5571, hu5573, hj5541⟩ := bind_some hj5541
              refine sStoreM (i := 3) (k := (ms2789.length : Int)) hf hs rfl rfl rfl rfl rfl rfl hq5410 hv5411 rfl hu5572 hu5573 ti2 ?_; clear hs; intro w hs
              obtain ⟨hq5574, hv5575⟩ := rowUpd hu5572 hu5573 hv5411
              have hs : St _ W w [_, _, _, .mat A4218 ms4220.length c4219 23 2 (vs2794 ++ ([Value.slice A4203 xs4202.length c4205])) ms5571, _] := hs
              refine wpO_nil ⟨Or.inl (by decide), ?_⟩
              refine mDone (by kernel_rfl) ?_
              clear hs0
              refine wpL_nil (Qb_normal ?_)
              exact ⟨ms5571, xs5570, Option.some.inj hj5541, ((hn5406).trans (upd_len hu5573).symm), ((hn5409).trans (upd_len hu5572).symm), hq5574, hv5575, (FrD.pick (FrD.pick (FrD.pick (FrD.pick (FrD.pick (FrD.pick (FrD.pick (FrD.pick (FrD.pick (FrD.pick hf.none hf rfl) hf rfl) hf rfl) hf rfl) hf rfl) hf rfl) hf rfl) hf rfl) hf rfl) hf rfl), hs.sel [0, 1, 2, 3] (by decide)⟩
           ·rintro a w ⟨ms5534, xs5536, hr_, hn5535, hn5537, hq5538, hv5539, hf, hs⟩
            subst hr_
            try dsimp only at hm5497
            refine wpL_region ?_
            refine sY hf hs rfl rfl rfl (Y_move rfl rfl) ?_; clear hf; intro a hf
            refine sY hf hs rfl rfl rfl (Y_add rfl rfl rfl) ?_; clear hf; intro a hf
            refine sY hf hs rfl rfl rfl (Y_assign rfl rfl) ?_; clear hf; intro a hf
            refine wpO_nil ?_
            refine wpL_nil (Ql_normal ?_)
            exact ⟨ms5534, (IntKind.i64.wrap (x5407 + 1)), xs5536, hm5497, hn5535, hn5537, hq5538, hv5539, (FrD.pick (FrD.pick (FrD.pick (FrD.pick (FrD.pick (FrD.pick (FrD.pick (FrD.pick (FrD.pick (FrD.pick hf.none hf rfl) hf rfl) hf rfl) hf rfl) hf rfl) hf rfl) hf rfl) hf rfl) hf rfl) hf rfl), hs⟩
          ·have hm5497 := bif_f hm5497 hb5499
           refine wpL_exit (Ql_exit (Qb_exit ?_))
           exact ⟨ms5405, xs5408, Option.some.inj hm5497, hn5406, hn5409, hq5410, hv5411, (FrD.pick (FrD.pick (FrD.pick (FrD.pick (FrD.pick (FrD.pick (FrD.pick (FrD.pick (FrD.pick hf.none hf rfl) hf rfl) hf rfl) hf rfl) hf rfl) hf rfl) hf rfl) hf rfl) hf rfl), hs⟩
        ·rintro a w ⟨ms5489, xs5491, hr_, hn5490, hn5492, hq5493, hv5494, hf, hs⟩
         subst hr_
         try dsimp only at hm5241
         refine wpL_nil (Qb_normal ?_)
         refine wpL_region ?_
         refine sY hf hs rfl rfl rfl (Y_move rfl rfl) ?_; clear hf; intro a hf
         refine sY hf hs rfl rfl rfl (Y_add rfl rfl rfl) ?_; clear hf; intro a hf
         refine sY hf hs rfl rfl rfl (Y_assign rfl rfl) ?_; clear hf; intro a hf
         refine wpO_nil ?_
         refine wpL_nil (Ql_normal ?_)
         exact ⟨ms5489, (IntKind.i64.wrap (x4899 + 1)), xs5491, hm5241, hn5490, hn5492, hq5493, hv5494, (FrD.pick (FrD.pick (FrD.pick (FrD.pick (FrD.pick (FrD.pick (FrD.pick (FrD.pick (FrD.pick hf.none hf rfl) hf rfl) hf rfl) hf rfl) hf rfl) hf rfl) hf rfl) hf rfl) hf rfl), hs⟩
       ·have hm5241 := bif_f hm5241 hb5243
        refine wpL_exit (Ql_exit (Qb_exit ?_))
        exact ⟨ms4897, Option.some.inj hm5241, hn4898, (FrD.pick (FrD.pick (FrD.pick (FrD.pick (FrD.pick (FrD.pick (FrD.pick hf.none hf rfl) hf rfl) hf rfl) hf rfl) hf rfl) hf rfl) hf rfl), hs⟩
     ·rintro a w ⟨ms5237, hr_, hn5238, hf, hs⟩
      subst hr_
      try dsimp only at hm4189
      refine wpL_nil (Qb_normal ?_)
      refine wpL_region ?_
      refine sY hf hs rfl rfl rfl (Y_move rfl rfl) ?_; clear hf; intro a hf
      refine sY hf hs rfl rfl rfl (Y_add rfl rfl rfl) ?_; clear hf; intro a hf
      refine sY hf hs rfl rfl rfl (Y_assign rfl rfl) ?_; clear hf; intro a hf
      refine wpO_nil ?_
      refine wpL_nil (Ql_normal ?_)
      exact ⟨ms5237, (IntKind.i64.wrap (x2795 + 1)), A4218, ms4220.length, c4219, (vs2794 ++ ([Value.slice A4203 xs4202.length c4205])), hm4189, hn5238, (FrD.pick (FrD.pick (FrD.pick (FrD.pick (FrD.pick (FrD.pick (FrD.pick hf.none hf rfl) hf rfl) hf rfl) hf rfl) hf rfl) hf rfl) hf rfl), hs⟩
   ·have hm4189 := bif_f hm4189 hb4191
    refine wpL_exit (Ql_exit (Qb_exit ?_))
    exact ⟨ms2789, A2790, n2791, c2792, vs2794, Option.some.inj hm4189, hn2793, (FrD.pick hf.none hf rfl), hs.sel [3] (by decide)⟩
 ·rintro a w ⟨ms4181, A4182, n4183, c4184, vs4186, hr_, hn4185, hf, hs⟩
  subst hr_
  try dsimp only at hm
  refine wpL_seq <| wpL_region ?_
  refine sY hf hs rfl rfl rfl (Y_move rfl rfl) ?_; clear hf; intro a hf
  refine sY hf hs rfl rfl rfl (Y_assign rfl rfl) ?_; clear hf; intro a hf
  refine wpO_nil ?_
  obtain rfl := Option.some.inj hm
  refine wpL_ret (ret_tmp rfl hf rfl ?_)
  exact ⟨_, rfl, A4182, n4183, c4184, vs4186, rfl, hn4185, hs⟩

end Go.Proofs.Ytebmlphobgaboaa
