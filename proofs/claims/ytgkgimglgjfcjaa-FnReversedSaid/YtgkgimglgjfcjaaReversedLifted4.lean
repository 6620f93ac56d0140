/- The functions do what their models say. -/
import Derived.Test.YtgkgimglgjfcjaaReversedLifted3
import Derived.Test.YtgkgimglgjfcjaaRows
namespace Go.Proofs.Ytgkgimglgjfcjaa
open Go.RowKit

set_option maxRecDepth 100000 in
theorem impl_hasCircuit_c1_ok (F : Nat) (ao : GPlace) (b_z0 : Nat) (z0 : GEventGraph) (A_z0_1 : Option Addr) (n_z0_1 c_z0_1 : Nat) (hn_z0_1 : n_z0_1 = z0.Places.length) (r : Bool) (W : World) (hm : impl_hasCircuit_c1 F ao z0 = some r) (h_z0_1 : Rd W A_z0_1 ((recs GPlace.cells) z0.Places)) (h_z0 : PB W b_z0 59 [.int .i64 z0.Events, .slice A_z0_1 n_z0_1 c_z0_1]) :
  Calls Try.prog 188 [.agg #[.int .i64 ao.From, .int .i64 ao.To, .int .i64 ao.Delay, .int .i64 ao.Tokens], .pointer (some ⟨b_z0, 0, none⟩)].toArray W fun e w' => ∃ v, e = .returned v ∧ v = .bool r ∧ St [] W w' [] := by
 subst hn_z0_1
 unfold impl_hasCircuit_c1 at hm
 refine Calls.enter (N := 13) Try.func188 rfl rfl rfl (fun a hf => ?_)
 have hs := St.start W
 obtain ⟨w, hw_⟩ : ∃ w, w = W := ⟨W, rfl⟩
 clear hw_ w
 refine wpL_seq <| wpL_region ?_
 refine sBox hf hs rfl rfl rfl rfl rfl (cs := [.int .i64 ao.From, .int .i64 ao.To, .int .i64 ao.Delay, .int .i64 ao.Tokens]) rfl ?_; clear hf hs; intro a w b1 hs hf
 have hs : St [] W w [.blk b1 127 [.int .i64 ao.From, .int .i64 ao.To, .int .i64 ao.Delay, .int .i64 ao.Tokens]] := hs
 refine sY hf hs rfl rfl rfl (Y_assign rfl rfl) ?_; clear hf; intro a hf
 refine wpO_nil <| wpL_seq ?_
 refine wpL_drawM [.blk b1 127 [.int .i64 ao.From, .int .i64 ao.To, .int .i64 ao.Delay, .int .i64 ao.Tokens]] [7] (by kernel_rfl) hs ?_; clear hs; intro w hs
 have hs0 : St [] W w [.blk b1 127 [.int .i64 ao.From, .int .i64 ao.To, .int .i64 ao.Delay, .int .i64 ao.Tokens]] := hs
 refine mY (i := 0) [[3, 6]] rfl (by kernel_rfl) (by kernel_rfl) hf hs0 rfl rfl rfl (Y_load_pbS rfl rfl h_z0 ag59 ti59 rfl) ?_; clear hf; intro a hf
 refine mYp (i := 1) rfl (by kernel_rfl) (by kernel_rfl) hf rfl rfl rfl (fun _ => Y_fieldAddr rfl rfl fo127_1) ?_; clear hf; intro a hf
 refine mY (i := 2) [[3, 6]] rfl (by kernel_rfl) (by kernel_rfl) hf hs0 rfl rfl rfl (Y_load_blk rfl rfl (i := 0) rfl rfl ag2) ?_; clear hf; intro a hf
 refine mYp (i := 4) rfl (by kernel_rfl) (by kernel_rfl) hf rfl rfl rfl (fun _ => Y_fieldAddr rfl rfl fo127_0) ?_; clear hf; intro a hf
 refine mY (i := 5) [[6]] rfl (by kernel_rfl) (by kernel_rfl) hf hs0 rfl rfl rfl (Y_load_blk rfl rfl (i := 0) rfl rfl ag2) ?_; clear hf; intro a hf
 refine mRun (i := 3) rfl (by kernel_rfl) ?_
 obtain ⟨r10, hc11, hm⟩ := bind_some hm
 refine sCall hf rfl rfl rfl rfl (cap := []) rfl rfl en189 (impl_tokenDistances_ok F z0 A_z0_1 z0.Places.length c_z0_1 rfl ao.To _ _ hc11 (h_z0_1.at hs)) ?_; clear hf
 rintro _ w ⟨A12, n13, c14, rfl, hn15, hs1⟩ a hf
 have hs : St [] W w [.blk b1 127 [.int .i64 ao.From, .int .i64 ao.To, .int .i64 ao.Delay, .int .i64 ao.Tokens], .row A12 n13 c14 2 1 (ints r10)] := hs.join hs1
 clear hs1
 have hs0 : St [] W w [.blk b1 127 [.int .i64 ao.From, .int .i64 ao.To, .int .i64 ao.Delay, .int .i64 ao.Tokens]] := hs.sel [0] (by decide)
 refine wpO_nil ⟨Or.inr (fun _ => hs0), ?_⟩
 obtain ⟨q16, hi17, hm⟩ := bind_some hm
 obtain ⟨hi17a, hi17b, hi17q⟩ := idx_some hi17
 refine mYp (i := 6) rfl (by kernel_rfl) (by kernel_rfl) hf rfl rfl rfl (fun _ => Y_index rfl rfl rfl el23 ti2 (Rd.isAt (hs.rd (i := 1) rfl) (at1 (ints_at hi17q))) hi17a (ltn hn15 hi17b)) ?_; clear hf; intro a hf
 refine mRun (i := 7) rfl (by kernel_rfl) ?_
 refine sY hf hs rfl rfl rfl (Y_load_rd rfl rfl (fun w hs => hs.rd (i := 1) rfl) (at1 (ints_at hi17q)) ag2) ?_; clear hf; intro a hf
 refine wpO_nil ⟨Or.inl (by decide), ?_⟩
 refine mYp (i := 8) rfl (by kernel_rfl) (by kernel_rfl) hf rfl rfl rfl (fun _ => Y_geq rfl rfl rfl) ?_; clear hf; intro a hf
 refine mYp (i := 9) rfl (by kernel_rfl) (by kernel_rfl) hf rfl rfl rfl (fun _ => Y_assign rfl rfl) ?_; clear hf; intro a hf
 refine mDone (by kernel_rfl) ?_
 clear hs0
 obtain rfl := Option.some.inj hm
 refine wpL_ret (ret_tmp rfl hf rfl ?_)
 exact ⟨_, rfl, rfl, hs.sel [] (by decide)⟩

set_option maxRecDepth 100000 in
theorem impl_hasCircuit_ok (F : Nat) (ab : GEventGraph) (ac : Option Addr) (ap ad : Nat) (ax : ap = ab.Places.length) (r : Bool) (W : World) (hm : impl_hasCircuit F ab = some r) (aq : Rd W ac ((recs GPlace.cells) ab.Places)) :
  Calls Try.prog 176 [.agg #[.int .i64 ab.Events, .slice ac ap ad]].toArray W fun e w' => ∃ v, e = .returned v ∧ v = .bool r ∧ St [] W w' [] := by
 subst ax
 unfold impl_hasCircuit at hm
 refine Calls.enter (N := 7) Try.func176 rfl rfl rfl (fun a hf => ?_)
 have hs := St.start W
 obtain ⟨w, hw_⟩ : ∃ w, w = W := ⟨W, rfl⟩
 clear hw_ w
 refine wpL_seq <| wpL_region ?_
 refine sBox hf hs rfl rfl rfl rfl rfl (cs := [.int .i64 ab.Events, .slice ac ab.Places.length ad]) rfl ?_; clear hf hs; intro a w b1 hs hf
 have hs : St [] W w [.blk b1 59 [.int .i64 ab.Events, .slice ac ab.Places.length ad]] := hs
 refine sY hf hs rfl rfl rfl (Y_assign rfl rfl) ?_; clear hf; intro a hf
 refine wpO_nil <| wpL_seq <| wpL_region ?_
 refine sY hf hs rfl rfl rfl (Y_fieldAddr rfl rfl fo59_1) ?_; clear hf; intro a hf
 refine sY hf hs rfl rfl rfl (Y_load_blk rfl rfl (i := 0) rfl rfl ag57) ?_; clear hf; intro a hf
 refine sY hf hs rfl rfl rfl (Y_makeFunc (us := []) (vs := [.pointer (some ⟨b1, 0, none⟩)]) rfl rfl rfl) ?_; clear hf; intro a hf
 obtain ⟨r2, hc3, hm⟩ := bind_some hm
 refine sCall hf rfl rfl rfl rfl (cap := []) rfl rfl en138 (slices_ContainsFunc_Place_ok F ab.Places ac ab.Places.length ad rfl (fun x0 => impl_hasCircuit_c1 F x0 ab) 188 ([.pointer (some ⟨b1, 0, none⟩)]) _ _ hc3 (aq.at hs) (fun x0 r w' hm_ hb => impl_hasCircuit_c1_ok F x0 b1 ab ac ab.Places.length ad rfl r w' hm_ ((aq.at hs).below hb (Nat.le_refl _)) ((hs.pb (i := 0) rfl).below hb (Nat.le_refl _))) en188) ?_; clear hf
 rintro _ w ⟨rfl, hs1⟩ a hf
 have hs : St [] W w [.blk b1 59 [.int .i64 ab.Events, .slice ac ab.Places.length ad]] := hs.ext hs1.below
 clear hs1
 refine sY hf hs rfl rfl rfl (Y_assign rfl rfl) ?_; clear hf; intro a hf
 refine wpO_nil ?_
 obtain rfl := Option.some.inj hm
 refine wpL_ret (ret_tmp rfl hf rfl ?_)
 exact ⟨_, rfl, rfl, hs.sel [] (by decide)⟩

set_option maxRecDepth 100000 in
theorem impl_placeWeight_ok (F : Nat) (ao : GPlace) (cm : GRatio) (r : Int) (W : World) (hm : impl_placeWeight F ao cm = some r) :
  Calls Try.prog 190 [.agg #[.int .i64 ao.From, .int .i64 ao.To, .int .i64 ao.Delay, .int .i64 ao.Tokens], .agg #[.int .i64 cm.Num, .int .i64 cm.Den]].toArray W fun e w' => ∃ v, e = .returned v ∧ v = .int .i64 r ∧ St [] W w' [] := by
 unfold impl_placeWeight at hm
 refine Calls.enter (N := 16) Try.func190 rfl rfl rfl (fun a hf => ?_)
 have hs := St.start W
 obtain ⟨w, hw_⟩ : ∃ w, w = W := ⟨W, rfl⟩
 clear hw_ w
 refine wpL_seq <| wpL_region ?_
 refine sBox hf hs rfl rfl rfl rfl rfl (cs := [.int .i64 ao.From, .int .i64 ao.To, .int .i64 ao.Delay, .int .i64 ao.Tokens]) rfl ?_; clear hf hs; intro a w b1 hs hf
 have hs : St [] W w [.blk b1 127 [.int .i64 ao.From, .int .i64 ao.To, .int .i64 ao.Delay, .int .i64 ao.Tokens]] := hs
 refine sBox hf hs rfl rfl rfl rfl rfl (cs := [.int .i64 cm.Num, .int .i64 cm.Den]) rfl ?_; clear hf hs; intro a w b2 hs hf
 have hs : St [] W w [.blk b1 127 [.int .i64 ao.From, .int .i64 ao.To, .int .i64 ao.Delay, .int .i64 ao.Tokens], .blk b2 75 [.int .i64 cm.Num, .int .i64 cm.Den]] := hs
 refine sY hf hs rfl rfl rfl (Y_assign rfl rfl) ?_; clear hf; intro a hf
 refine wpO_nil <| wpL_seq <| wpL_region ?_
 refine sY hf hs rfl rfl rfl (Y_fieldAddr rfl rfl fo75_1) ?_; clear hf; intro a hf
 refine sY hf hs rfl rfl rfl (Y_load_blk rfl rfl (i := 1) rfl rfl ag2) ?_; clear hf; intro a hf
 refine sY hf hs rfl rfl rfl (Y_fieldAddr rfl rfl fo127_2) ?_; clear hf; intro a hf
 refine sY hf hs rfl rfl rfl (Y_load_blk rfl rfl (i := 0) rfl rfl ag2) ?_; clear hf; intro a hf
 refine sY hf hs rfl rfl rfl (Y_mul rfl rfl rfl) ?_; clear hf; intro a hf
 refine sY hf hs rfl rfl rfl (Y_fieldAddr rfl rfl fo75_0) ?_; clear hf; intro a hf
 refine sY hf hs rfl rfl rfl (Y_load_blk rfl rfl (i := 1) rfl rfl ag2) ?_; clear hf; intro a hf
 refine sY hf hs rfl rfl rfl (Y_fieldAddr rfl rfl fo127_3) ?_; clear hf; intro a hf
 refine sY hf hs rfl rfl rfl (Y_load_blk rfl rfl (i := 0) rfl rfl ag2) ?_; clear hf; intro a hf
 refine sY hf hs rfl rfl rfl (Y_mul rfl rfl rfl) ?_; clear hf; intro a hf
 refine sY hf hs rfl rfl rfl (Y_sub rfl rfl rfl) ?_; clear hf; intro a hf
 refine sY hf hs rfl rfl rfl (Y_assign rfl rfl) ?_; clear hf; intro a hf
 refine wpO_nil ?_
 obtain rfl := Option.some.inj hm
 refine wpL_ret (ret_tmp rfl hf rfl ?_)
 exact ⟨_, rfl, rfl, hs.sel [] (by decide)⟩

set_option maxRecDepth 100000 in
theorem slices_Reverse_int64_ok (F : Nat) (aE : List Int) (au : Option Addr) (aK aA : Nat) (aV : aK = aE.length) (r : (Unit) × List Int) (W : World) (hm : slices_Reverse_int64 F aE = some r) (aS : (Res.row au aK aA 2 1 (ints aE) : Res).holds 0 W) :
  Calls Try.prog 191 [.slice au aK aA].toArray W fun e w' => ∃ v, e = .returned v ∧ v = .tuple #[] ∧ aK = r.2.length ∧ St (muA au) W w' [.row au aK aA 2 1 (ints r.2)] := by
 subst aV
 unfold slices_Reverse_int64 at hm
 refine Calls.enter (N := 28) Try.func191 rfl rfl rfl (fun a hf => ?_)
 have hs : St (muA au) W W [.row au aE.length aA 2 1 (ints aE)] := St.startMut aS (fun b hb => mem_muA hb)
 obtain ⟨w, hw_⟩ : ∃ w, w = W := ⟨W, rfl⟩
 clear hw_ w
 refine wpL_seq <| wpL_region ?_
 refine sY hf hs rfl rfl rfl (Y_move rfl rfl) ?_; clear hf; intro a hf
 refine sY hf hs rfl rfl rfl (Y_lenH rfl rfl el23 rfl) ?_; clear hf; intro a hf
 refine sY hf hs rfl rfl rfl (Y_sub rfl rfl rfl) ?_; clear hf; intro a hf
 refine sY hf hs rfl rfl rfl (Y_assign rfl rfl) ?_; clear hf; intro a hf
 refine sY hf hs rfl rfl rfl (Y_assign rfl rfl) ?_; clear hf; intro a hf
 refine wpO_nil ?_
 obtain ⟨r50, hl51, hm⟩ := bind_some hm
 refine wpL_block (fun a w => ∃ xs48 : List Int, xs48 = r50 ∧ aE.length = xs48.length ∧ Fr a 28 [] ∧ St (muA au) W w [.row au aE.length aA 2 1 (ints xs48)]) ?_ ?_
 ·refine wpL_loop (fun n a w => ∃ xs31 : List Int, ∃ x33 : Int, ∃ x34 : Int, slices_Reverse_int64_L1 F n xs31 x33 x34 = some r50 ∧ aE.length = xs31.length ∧ Fr a 28 [(0, .slice au aE.length aA), (2, .int .i64 x33), (3, .int .i64 x34)] ∧ St (muA au) W w [.row au aE.length aA 2 1 (ints xs31)]) F ?_ ?_ ?_
  ·exact ⟨aE, 0, (IntKind.i64.wrap ((aE.length : Int) - 1)), hl51, rfl, (FrD.pick (FrD.pick (FrD.pick hf.none hf rfl) hf rfl) hf rfl), hs⟩
  ·rintro a w ⟨xs31, x33, x34, h0_, -, -, -⟩; simp [slices_Reverse_int64_L1] at h0_
  ·rintro n53 a w ⟨xs31, x33, x34, hm52, hn32, hf, hs⟩
   rw [slices_Reverse_int64_L1] at hm52
   refine wpL_seq <| wpL_seq <| wpL_region ?_
   refine sY hf hs rfl rfl rfl (Y_move rfl rfl) ?_; clear hf; intro a hf
   refine sY hf hs rfl rfl rfl (Y_move rfl rfl) ?_; clear hf; intro a hf
   refine sY hf hs rfl rfl rfl (Y_lss rfl rfl rfl) ?_; clear hf; intro a hf
   refine wpO_nil ?_
   refine wpL_cond hf rfl (fun hb54 => ?_) (fun hb54 => ?_)
   ·have hm52 := bif_t hm52 hb54
    refine wpL_skip <| wpL_seq <| wpL_block0 ?_
    refine wpL_drawM [.row au aE.length aA 2 1 (ints xs31)] [13, 15] (by kernel_rfl) hs ?_; clear hs; intro w hs
    have hs0 : St (muA au) W w [.row au aE.length aA 2 1 (ints xs31)] := hs
    refine mYp (i := 0) rfl (by kernel_rfl) (by kernel_rfl) hf rfl rfl rfl (fun _ => Y_move rfl rfl) ?_; clear hf; intro a hf
    refine mYp (i := 1) rfl (by kernel_rfl) (by kernel_rfl) hf rfl rfl rfl (fun _ => Y_move rfl rfl) ?_; clear hf; intro a hf
    refine mYp (i := 2) rfl (by kernel_rfl) (by kernel_rfl) hf rfl rfl rfl (fun _ => Y_move rfl rfl) ?_; clear hf; intro a hf
    refine mYp (i := 3) rfl (by kernel_rfl) (by kernel_rfl) hf rfl rfl rfl (fun _ => Y_move rfl rfl) ?_; clear hf; intro a hf
    refine mYp (i := 4) rfl (by kernel_rfl) (by kernel_rfl) hf rfl rfl rfl (fun _ => Y_move rfl rfl) ?_; clear hf; intro a hf
    refine mYp (i := 5) rfl (by kernel_rfl) (by kernel_rfl) hf rfl rfl rfl (fun _ => Y_move rfl rfl) ?_; clear hf; intro a hf
    obtain ⟨q55, hi56, hm52⟩ := bind_some hm52
    obtain ⟨hi56a, hi56b, hi56q⟩ := idx_some hi56
    refine mYp (i := 6) rfl (by kernel_rfl) (by kernel_rfl) hf rfl rfl rfl (fun _ => Y_index rfl rfl rfl el23 ti2 (Rd.isAt (hs.rd (i := 0) rfl) (at1 (ints_at hi56q))) hi56a (ltn hn32 hi56b)) ?_; clear hf; intro a hf
    refine mY (i := 7) [[], []] rfl (by kernel_rfl) (by kernel_rfl) hf hs0 rfl rfl rfl (Y_load_rd rfl rfl (fun w hs => hs.rd (i := 0) rfl) (at1 (ints_at hi56q)) ag2) ?_; clear hf; intro a hf
    refine mYp (i := 8) rfl (by kernel_rfl) (by kernel_rfl) hf rfl rfl rfl (fun _ => Y_move rfl rfl) ?_; clear hf; intro a hf
    refine mYp (i := 9) rfl (by kernel_rfl) (by kernel_rfl) hf rfl rfl rfl (fun _ => Y_move rfl rfl) ?_; clear hf; intro a hf
    obtain ⟨q57, hi58, hm52⟩ := bind_some hm52
    obtain ⟨hi58a, hi58b, hi58q⟩ := idx_some hi58
    refine mYp (i := 10) rfl (by kernel_rfl) (by kernel_rfl) hf rfl rfl rfl (fun _ => Y_index rfl rfl rfl el23 ti2 (Rd.isAt (hs.rd (i := 0) rfl) (at1 (ints_at hi58q))) hi58a (ltn hn32 hi58b)) ?_; clear hf; intro a hf
    refine mY (i := 11) [[], []] rfl (by kernel_rfl) (by kernel_rfl) hf hs0 rfl rfl rfl (Y_load_rd rfl rfl (fun w hs => hs.rd (i := 0) rfl) (at1 (ints_at hi58q)) ag2) ?_; clear hf; intro a hf
    obtain ⟨q59, hi60, hm52⟩ := bind_some hm52
    obtain ⟨hi60a, hi60b, hi60q⟩ := idx_some hi60
    refine mYp (i := 12) rfl (by kernel_rfl) (by kernel_rfl) hf rfl rfl rfl (fun _ => Y_index rfl rfl rfl el23 ti2 (Rd.isAt (hs.rd (i := 0) rfl) (at1 (ints_at hi60q))) hi60a (ltn hn32 hi60b)) ?_; clear hf; intro a hf
    refine mRun (i := 13) rfl (by kernel_rfl) ?_
    obtain ⟨xs61, hu62, hm52⟩ := bind_some hm52
    refine sStoreL (i := 0) (us := [.int .i64 q55]) (enc := ints) hf hs rfl rfl rfl rfl rfl rfl hn32 hu62 ti2 rfl rfl rfl rfl rfl ints_len1 (ints_set q55) ?_; clear hs; intro w hs
    have hs : St (muA au) W w [.row au aE.length aA 2 1 (ints xs61)] := hs
    refine wpO_nil ⟨Or.inl (by decide), ?_⟩
    obtain ⟨q63, hi64, hm52⟩ := bind_some hm52
    obtain ⟨hi64a, hi64b, hi64q⟩ := idx_some hi64
    refine mYp (i := 14) rfl (by kernel_rfl) (by kernel_rfl) hf rfl rfl rfl (fun _ => Y_index rfl rfl rfl el23 ti2 (Rd.isAt (hs.rd (i := 0) rfl) (at1 (ints_at hi64q))) hi64a (ltn ((hn32).trans (upd_len hu62).symm) hi64b)) ?_; clear hf; intro a hf
    refine mRun (i := 15) rfl (by kernel_rfl) ?_
    obtain ⟨xs65, hu66, hm52⟩ := bind_some hm52
    refine sStoreL (i := 0) (us := [.int .i64 q57]) (enc := ints) hf hs rfl rfl rfl rfl rfl rfl ((hn32).trans (upd_len hu62).symm) hu66 ti2 rfl rfl rfl rfl rfl ints_len1 (ints_set q57) ?_; clear hs; intro w hs
    have hs : St (muA au) W w [.row au aE.length aA 2 1 (ints xs65)] := hs
    refine wpO_nil ⟨Or.inl (by decide), ?_⟩
    refine mDone (by kernel_rfl) ?_
    clear hs0
    refine wpL_nil (Qb_normal ?_)
    refine wpL_region ?_
    refine sY hf hs rfl rfl rfl (Y_move rfl rfl) ?_; clear hf; intro a hf
    refine sY hf hs rfl rfl rfl (Y_add rfl rfl rfl) ?_; clear hf; intro a hf
    refine sY hf hs rfl rfl rfl (Y_move rfl rfl) ?_; clear hf; intro a hf
    refine sY hf hs rfl rfl rfl (Y_sub rfl rfl rfl) ?_; clear hf; intro a hf
    refine sY hf hs rfl rfl rfl (Y_assign rfl rfl) ?_; clear hf; intro a hf
    refine sY hf hs rfl rfl rfl (Y_assign rfl rfl) ?_; clear hf; intro a hf
    refine wpO_nil ?_
    refine wpL_nil (Ql_normal ?_)
    exact ⟨xs65, (IntKind.i64.wrap (x33 + 1)), (IntKind.i64.wrap (x34 - 1)), hm52, ((((hn32).trans (upd_len hu62).symm)).trans (upd_len hu66).symm), (FrD.pick (FrD.pick (FrD.pick hf.none hf rfl) hf rfl) hf rfl), hs⟩
   ·have hm52 := bif_f hm52 hb54
    refine wpL_exit (Ql_exit (Qb_exit ?_))
    exact ⟨xs31, Option.some.inj hm52, hn32, hf.none, hs⟩
 ·rintro a w ⟨xs48, hr_, hn49, hf, hs⟩
  subst hr_
  try dsimp only at hm
  obtain rfl := Option.some.inj hm
  refine wpL_nil (ret_end (ret_none rfl hf ?_))
  exact ⟨_, rfl, rfl, hn49, hs⟩

set_option maxHeartbeats 2000000 in
set_option maxRecDepth 100000 in
theorem impl_betterCircuit_ok (F : Nat) (p0 : GEventGraph) (av : Option Addr) (bi aw : Nat) (bt : bi = p0.Places.length) (p1 : GRatio) (r : List Int) (W : World) (hm : impl_betterCircuit F p0 p1 = some r) (aX : Rd W av ((recs GPlace.cells) p0.Places)) :
  Calls Try.prog 177 [.agg #[.int .i64 p0.Events, .slice av bi aw], .agg #[.int .i64 p1.Num, .int .i64 p1.Den]].toArray W fun e w' => ∃ v, e = .returned v ∧ ∃ A663, ∃ n664, ∃ c665, v = .slice A663 n664 c665 ∧ n664 = r.length ∧ (r = [] → A663 = none) ∧ St [] W w' [.row A663 n664 c665 2 1 (ints r)] := by
 subst bt
 unfold impl_betterCircuit at hm
 refine Calls.enter (N := 101) Try.func177 rfl rfl rfl (fun a hf => ?_)
 have hs := St.start W
 obtain ⟨w, hw_⟩ : ∃ w, w = W := ⟨W, rfl⟩
 clear hw_ w
 refine wpL_seq <| wpL_region ?_
 refine sBox hf hs rfl rfl rfl rfl rfl (cs := [.int .i64 p0.Events, .slice av p0.Places.length aw]) rfl ?_; clear hf hs; intro a w b1 hs hf
 have hs : St [] W w [.blk b1 59 [.int .i64 p0.Events, .slice av p0.Places.length aw]] := hs
 refine sBox hf hs rfl rfl rfl rfl rfl (cs := [.int .i64 p1.Num, .int .i64 p1.Den]) rfl ?_; clear hf hs; intro a w b2 hs hf
 have hs : St [] W w [.blk b1 59 [.int .i64 p0.Events, .slice av p0.Places.length aw], .blk b2 75 [.int .i64 p1.Num, .int .i64 p1.Den]] := hs
 refine sY hf hs rfl rfl rfl (Y_assign rfl rfl) ?_; clear hf; intro a hf
 refine wpO_nil <| wpL_seq <| wpL_region ?_
 refine sY hf hs rfl rfl rfl (Y_fieldAddr rfl rfl fo59_0) ?_; clear hf; intro a hf
 refine sY hf hs rfl rfl rfl (Y_load_blk rfl rfl (i := 0) rfl rfl ag2) ?_; clear hf; intro a hf
 obtain ⟨xs5, hk4, hm⟩ := bind_some hm
 refine sMakeL (enc := ints) hf hs rfl rfl rfl rfl rfl hk4 el23 ti2 rfl ints_made ?_; clear hf hs; intro a w A3 hs hf
 have hs : St [] W w [.blk b1 59 [.int .i64 p0.Events, .slice av p0.Places.length aw], .blk b2 75 [.int .i64 p1.Num, .int .i64 p1.Den], .row A3 xs5.length xs5.length 2 1 (ints xs5)] := hs
 refine sY hf hs rfl rfl rfl (Y_assign rfl rfl) ?_; clear hf; intro a hf
 refine wpO_nil <| wpL_seq <| wpL_region ?_
 refine sY hf hs rfl rfl rfl (Y_fieldAddr rfl rfl fo59_0) ?_; clear hf; intro a hf
 refine sY hf hs rfl rfl rfl (Y_load_blk rfl rfl (i := 0) rfl rfl ag2) ?_; clear hf; intro a hf
 obtain ⟨xs8, hk7, hm⟩ := bind_some hm
 refine sMakeL (enc := ints) hf hs rfl rfl rfl rfl rfl hk7 el23 ti2 rfl ints_made ?_; clear hf hs; intro a w A6 hs hf
 have hs : St [] W w [.blk b1 59 [.int .i64 p0.Events, .slice av p0.Places.length aw], .blk b2 75 [.int .i64 p1.Num, .int .i64 p1.Den], .row A3 xs5.length xs5.length 2 1 (ints xs5), .row A6 xs8.length xs8.length 2 1 (ints xs8)] := hs
 refine sY hf hs rfl rfl rfl (Y_assign rfl rfl) ?_; clear hf; intro a hf
 refine wpO_nil <| wpL_seq <| wpL_region ?_
 refine sY hf hs rfl rfl rfl (Y_assign rfl rfl) ?_; clear hf; intro a hf
 refine wpO_nil <| wpL_seq <| wpL_seq <| wpL_region ?_
 refine sY hf hs rfl rfl rfl (Y_fieldAddr rfl rfl fo59_0) ?_; clear hf; intro a hf
 refine sY hf hs rfl rfl rfl (Y_load_blk rfl rfl (i := 0) rfl rfl ag2) ?_; clear hf; intro a hf
 refine sY hf hs rfl rfl rfl (Y_add rfl rfl rfl) ?_; clear hf; intro a hf
 refine sY hf hs rfl rfl rfl (Y_move rfl rfl) ?_; clear hf; intro a hf
 refine wpO_nil ?_
 obtain ⟨r417, hl418, hm⟩ := bind_some hm
 refine wpL_block (fun a w => ∃ xs414 : List Int, ∃ x416 : Int, Sum.inr (xs414, x416) = r417 ∧ xs8.length = xs414.length ∧ Fr a 101 [(2, .pointer (some ⟨b1, 0, none⟩)), (6, .slice A6 xs8.length xs8.length), (7, .int .i64 x416)] ∧ St [] W w [.blk b1 59 [.int .i64 p0.Events, .slice av p0.Places.length aw], .row A6 xs8.length xs8.length 2 1 (ints xs414)]) ?_ ?_
 ·refine wpL_loop (fun n a w => ∃ xs277 : List Int, ∃ xs279 : List Int, ∃ x281 : Int, ∃ x282 : Int, impl_betterCircuit_L4 F p0 p1 n xs277 xs279 x281 x282 = some r417 ∧ xs5.length = xs277.length ∧ xs8.length = xs279.length ∧ Fr a 101 [(2, .pointer (some ⟨b1, 0, none⟩)), (3, .pointer (some ⟨b2, 0, none⟩)), (5, .slice A3 xs5.length xs5.length), (6, .slice A6 xs8.length xs8.length), (7, .int .i64 x281), (21, .int .i64 (IntKind.i64.wrap (p0.Events + 1))), (22, .int .i64 x282)] ∧ St [] W w [.blk b1 59 [.int .i64 p0.Events, .slice av p0.Places.length aw], .blk b2 75 [.int .i64 p1.Num, .int .i64 p1.Den], .row A3 xs5.length xs5.length 2 1 (ints xs277), .row A6 xs8.length xs8.length 2 1 (ints xs279)]) F ?_ ?_ ?_
  ·exact ⟨xs5, xs8, (-1), 0, hl418, rfl, rfl, (FrD.pick (FrD.pick (FrD.pick (FrD.pick (FrD.pick (FrD.pick (FrD.pick hf.none hf rfl) hf rfl) hf rfl) hf rfl) hf rfl) hf rfl) hf rfl), hs⟩
  ·rintro a w ⟨xs277, xs279, x281, x282, h0_, -, -, -, -⟩; simp [impl_betterCircuit_L4] at h0_
  ·rintro n420 a w ⟨xs277, xs279, x281, x282, hm419, hn278, hn280, hf, hs⟩
   rw [impl_betterCircuit_L4] at hm419
   refine wpL_seq <| wpL_region ?_
   refine sY hf hs rfl rfl rfl (Y_lss rfl rfl rfl) ?_; clear hf; intro a hf
   refine wpO_nil <| wpL_seq ?_
   refine wpL_cond hf rfl (fun hb421 => ?_) (fun hb421 => ?_)
   ·have hm419 := bif_t hm419 hb421
    refine wpL_skip <| wpL_seq <| wpL_block0 <| wpL_seq <| wpL_region ?_
    refine sY hf hs rfl rfl rfl (Y_assign rfl rfl) ?_; clear hf; intro a hf
    refine wpO_nil <| wpL_seq <| wpL_seq <| wpL_region ?_
    refine sY hf hs rfl rfl rfl (Y_fieldAddr rfl rfl fo59_1) ?_; clear hf; intro a hf
    refine sY hf hs rfl rfl rfl (Y_load_blk rfl rfl (i := 0) rfl rfl ag57) ?_; clear hf; intro a hf
    refine sY hf hs rfl rfl rfl (Y_lenH rfl rfl el57 rfl) ?_; clear hf; intro a hf
    refine sY hf hs rfl rfl rfl (Y_move rfl rfl) ?_; clear hf; intro a hf
    refine wpO_nil ?_
    obtain ⟨r520, hl521, hm419⟩ := bind_some hm419
    refine wpL_block (fun a w => ∃ xs515 : List Int, ∃ xs517 : List Int, ∃ x519 : Int, (xs515, xs517, x519) = r520 ∧ xs5.length = xs515.length ∧ xs8.length = xs517.length ∧ Fr a 101 [(2, .pointer (some ⟨b1, 0, none⟩)), (3, .pointer (some ⟨b2, 0, none⟩)), (5, .slice A3 xs5.length xs5.length), (6, .slice A6 xs8.length xs8.length), (7, .int .i64 x519), (21, .int .i64 (IntKind.i64.wrap (p0.Events + 1))), (22, .int .i64 x282)] ∧ St [] W w [.blk b1 59 [.int .i64 p0.Events, .slice av p0.Places.length aw], .blk b2 75 [.int .i64 p1.Num, .int .i64 p1.Den], .row A3 xs5.length xs5.length 2 1 (ints xs515), .row A6 xs8.length xs8.length 2 1 (ints xs517)]) ?_ ?_
    ·refine wpL_loop (fun n a w => ∃ xs482 : List Int, ∃ xs484 : List Int, ∃ x486 : Int, ∃ x487 : Int, impl_betterCircuit_L5 F p0 p1 n xs482 xs484 x486 x487 = some r520 ∧ xs5.length = xs482.length ∧ xs8.length = xs484.length ∧ Fr a 101 [(2, .pointer (some ⟨b1, 0, none⟩)), (3, .pointer (some ⟨b2, 0, none⟩)), (5, .slice A3 xs5.length xs5.length), (6, .slice A6 xs8.length xs8.length), (7, .int .i64 x486), (21, .int .i64 (IntKind.i64.wrap (p0.Events + 1))), (22, .int .i64 x282), (25, .slice av p0.Places.length aw), (26, .int .i64 (p0.Places.length : Int)), (27, .int .i64 x487)] ∧ St [] W w [.blk b1 59 [.int .i64 p0.Events, .slice av p0.Places.length aw], .blk b2 75 [.int .i64 p1.Num, .int .i64 p1.Den], .row A3 xs5.length xs5.length 2 1 (ints xs482), .row A6 xs8.length xs8.length 2 1 (ints xs484)]) F ?_ ?_ ?_
     ·exact ⟨xs277, xs279, (-1), 0, hl521, hn278, hn280, (FrD.pick (FrD.pick (FrD.pick (FrD.pick (FrD.pick (FrD.pick (FrD.pick (FrD.pick (FrD.pick (FrD.pick hf.none hf rfl) hf rfl) hf rfl) hf rfl) hf rfl) hf rfl) hf rfl) hf rfl) hf rfl) hf rfl), hs⟩
     ·rintro a w ⟨xs482, xs484, x486, x487, h0_, -, -, -, -⟩; simp [impl_betterCircuit_L5] at h0_
     ·rintro n523 a w ⟨xs482, xs484, x486, x487, hm522, hn483, hn485, hf, hs⟩
      rw [impl_betterCircuit_L5] at hm522
      refine wpL_seq <| wpL_region ?_
      refine sY hf hs rfl rfl rfl (Y_lss rfl rfl rfl) ?_; clear hf; intro a hf
      refine wpO_nil <| wpL_seq ?_
      refine wpL_cond hf rfl (fun hb524 => ?_) (fun hb524 => ?_)
      ·have hm522 := bif_t hm522 hb524
       refine wpL_skip <| wpL_seq <| wpL_block0 <| wpL_seq <| wpL_region ?_
       refine sY hf hs rfl rfl rfl (Y_move rfl rfl) ?_; clear hf; intro a hf
       obtain ⟨q525, hi526, hm522⟩ := bind_some hm522
       obtain ⟨hi526a, hi526b, hi526q⟩ := idx_some hi526
       refine sY hf hs rfl rfl rfl (Y_index rfl rfl rfl el57 ti127 (Rd.isAt (aX.at hs) (recs_at (s := 4) GPlace.len hi526q (j := 0) rfl)) hi526a hi526b) ?_; clear hf; intro a hf
       refine sY hf hs rfl rfl rfl (Y_load_rdS rfl rfl (us := [.int .i64 q525.From, .int .i64 q525.To, .int .i64 q525.Delay, .int .i64 q525.Tokens]) (fun w hs => aX.at hs) (fun j u hj => recs_at (s := 4) GPlace.len hi526q hj) (Nat.succ_pos _) ag127 ti127 rfl) ?_; clear hf; intro a hf
       refine sAlloc hf hs rfl rfl rfl rfl ti127 ?_; clear hf hs; intro a w b527 hs hf
       have hs : St [] W w [.blk b1 59 [.int .i64 p0.Events, .slice av p0.Places.length aw], .blk b2 75 [.int .i64 p1.Num, .int .i64 p1.Den], .row A3 xs5.length xs5.length 2 1 (ints xs482), .row A6 xs8.length xs8.length 2 1 (ints xs484), .blk b527 127 [.int .i64 0, .int .i64 0, .int .i64 0, .int .i64 0]] := hs
       refine sY hf hs rfl rfl rfl (Y_assign rfl rfl) ?_; clear hf; intro a hf
       refine sStore (i := 4) (us := [.int .i64 q525.From, .int .i64 q525.To, .int .i64 q525.Delay, .int .i64 q525.Tokens]) hf hs rfl rfl rfl rfl rfl rfl ti127 rfl rfl rfl (Nat.le_of_ble_eq_true rfl) rfl ?_; clear hs; intro w hs
       have hs : St [] W w [.blk b1 59 [.int .i64 p0.Events, .slice av p0.Places.length aw], .blk b2 75 [.int .i64 p1.Num, .int .i64 p1.Den], .row A3 xs5.length xs5.length 2 1 (ints xs482), .row A6 xs8.length xs8.length 2 1 (ints xs484), .blk b527 127 [.int .i64 q525.From, .int .i64 q525.To, .int .i64 q525.Delay, .int .i64 q525.Tokens]] := hs
       refine wpO_nil <| wpL_seq ?_
       refine wpL_draw (by kernel_rfl) (by kernel_rfl) hs ?_
       refine qY hf rfl rfl rfl (Y_move rfl rfl) ?_; clear hf; intro a hf
       refine qY hf rfl rfl rfl (Y_fieldAddr rfl rfl fo127_0) ?_; clear hf; intro a hf
       refine qY hf rfl rfl rfl (Y_load_blk rfl rfl (i := 4) rfl rfl ag2) ?_; clear hf; intro a hf
       obtain ⟨q528, hi529, hm522⟩ := bind_some hm522
       obtain ⟨hi529a, hi529b, hi529q⟩ := idx_some hi529
       refine qY hf rfl rfl rfl (Y_index rfl rfl rfl el23 ti2 (Rd.isAt (hs.rd (i := 2) rfl) (at1 (ints_at hi529q))) hi529a (ltn hn483 hi529b)) ?_; clear hf; intro a hf
       refine qY hf rfl rfl rfl (Y_load_rd rfl rfl (fun w hs => hs.rd (i := 2) rfl) (at1 (ints_at hi529q)) ag2) ?_; clear hf; intro a hf
       refine qY hf rfl rfl rfl (Y_load_blkS rfl rfl (i := 4) rfl ag127 ti127 rfl) ?_; clear hf; intro a hf
       refine qY hf rfl rfl rfl (Y_load_blkS rfl rfl (i := 1) rfl ag75 ti75 rfl) ?_; clear hf; intro a hf
       obtain ⟨r530, hc531, hm522⟩ := bind_some hm522
       refine qCall hf rfl rfl rfl rfl (cap := []) rfl rfl en190 (v := .int .i64 r530) (fun w hs => Calls.scal (impl_placeWeight_ok F q525 p1 _ _ hc531)) ?_; clear hf; intro a hf
       refine qY hf rfl rfl rfl (Y_add rfl rfl rfl) ?_; clear hf; intro a hf
       refine qY hf rfl rfl rfl (Y_assign rfl rfl) ?_; clear hf; intro a hf
       refine qNil ?_; clear hs; intro w hs
       refine wpL_seq <| wpL_region ?_
       refine sY hf hs rfl rfl rfl (Y_move rfl rfl) ?_; clear hf; intro a hf
       refine sY hf hs rfl rfl rfl (Y_move rfl rfl) ?_; clear hf; intro a hf
       refine sY hf hs rfl rfl rfl (Y_fieldAddr rfl rfl fo127_1) ?_; clear hf; intro a hf
       refine sY hf hs rfl rfl rfl (Y_load_blk rfl rfl (i := 4) rfl rfl ag2) ?_; clear hf; intro a hf
       obtain ⟨q532, hi533, hm522⟩ := bind_some hm522
       obtain ⟨hi533a, hi533b, hi533q⟩ := idx_some hi533
       refine sY hf hs rfl rfl rfl (Y_index rfl rfl rfl el23 ti2 (Rd.isAt (hs.rd (i := 2) rfl) (at1 (ints_at hi533q))) hi533a (ltn hn483 hi533b)) ?_; clear hf; intro a hf
       refine sY hf hs rfl rfl rfl (Y_load_rd rfl rfl (fun w hs => hs.rd (i := 2) rfl) (at1 (ints_at hi533q)) ag2) ?_; clear hf; intro a hf
       refine sY hf hs rfl rfl rfl (Y_gtr rfl rfl rfl) ?_; clear hf; intro a hf
       refine wpO_nil ?_
       refine wpL_cond hf rfl (fun hb534 => ?_) (fun hb534 => ?_)
       ·have hm522 := bif_t hm522 hb534
        refine wpL_drawM [.blk b1 59 [.int .i64 p0.Events, .slice av p0.Places.length aw], .blk b2 75 [.int .i64 p1.Num, .int .i64 p1.Den], .blk b527 127 [.int .i64 q525.From, .int .i64 q525.To, .int .i64 q525.Delay, .int .i64 q525.Tokens]] [] (by kernel_rfl) hs ?_; clear hs; intro w hs
        have hs0 : St [] W w [.blk b1 59 [.int .i64 p0.Events, .slice av p0.Places.length aw], .blk b2 75 [.int .i64 p1.Num, .int .i64 p1.Den], .blk b527 127 [.int .i64 q525.From, .int .i64 q525.To, .int .i64 q525.Delay, .int .i64 q525.Tokens]] := hs.sel [0, 1, 4] (by decide)
        refine mYp (i := 0) rfl (by kernel_rfl) (by kernel_rfl) hf rfl rfl rfl (fun _ => Y_move rfl rfl) ?_; clear hf; intro a hf
        refine mYp (i := 1) rfl (by kernel_rfl) (by kernel_rfl) hf rfl rfl rfl (fun _ => Y_fieldAddr rfl rfl fo127_1) ?_; clear hf; intro a hf
        refine mY (i := 2) [] rfl (by kernel_rfl) (by kernel_rfl) hf hs0 rfl rfl rfl (Y_load_blk rfl rfl (i := 2) rfl rfl ag2) ?_; clear hf; intro a hf
        refine mYp (i := 3) rfl (by kernel_rfl) (by kernel_rfl) hf rfl rfl rfl (fun _ => Y_move rfl rfl) ?_; clear hf; intro a hf
        refine mYp (i := 4) rfl (by kernel_rfl) (by kernel_rfl) hf rfl rfl rfl (fun _ => Y_fieldAddr rfl rfl fo127_1) ?_; clear hf; intro a hf
        refine mY (i := 5) [] rfl (by kernel_rfl) (by kernel_rfl) hf hs0 rfl rfl rfl (Y_load_blk rfl rfl (i := 2) rfl rfl ag2) ?_; clear hf; intro a hf
        refine mYp (i := 6) rfl (by kernel_rfl) (by kernel_rfl) hf rfl rfl rfl (fun _ => Y_move rfl rfl) ?_; clear hf; intro a hf
        refine mYp (i := 7) rfl (by kernel_rfl) (by kernel_rfl) hf rfl rfl rfl (fun _ => Y_move rfl rfl) ?_; clear hf; intro a hf
        refine mYp (i := 8) rfl (by kernel_rfl) (by kernel_rfl) hf rfl rfl rfl (fun _ => Y_fieldAddr rfl rfl fo127_1) ?_; clear hf; intro a hf
        refine mY (i := 9) [] rfl (by kernel_rfl) (by kernel_rfl) hf hs0 rfl rfl rfl (Y_load_blk rfl rfl (i := 2) rfl rfl ag2) ?_; clear hf; intro a hf
        obtain ⟨q543, hi544, hm522⟩ := bind_some hm522
        obtain ⟨hi544a, hi544b, hi544q⟩ := idx_some hi544
        refine mYp (i := 10) rfl (by kernel_rfl) (by kernel_rfl) hf rfl rfl rfl (fun _ => Y_index rfl rfl rfl el23 ti2 (Rd.isAt (hs.rd (i := 2) rfl) (at1 (ints_at hi544q))) hi544a (ltn hn483 hi544b)) ?_; clear hf; intro a hf
        refine mRun (i := 11) rfl (by kernel_rfl) ?_
        obtain ⟨xs545, hu546, hm522⟩ := bind_some hm522
        refine sStoreL (i := 2) (us := [.int .i64 (IntKind.i64.wrap (q528 + r530))]) (enc := ints) hf hs rfl rfl rfl rfl rfl rfl hn483 hu546 ti2 rfl rfl rfl rfl rfl ints_len1 (ints_set (IntKind.i64.wrap (q528 + r530))) ?_; clear hs; intro w hs
        have hs : St [] W w [.blk b1 59 [.int .i64 p0.Events, .slice av p0.Places.length aw], .blk b2 75 [.int .i64 p1.Num, .int .i64 p1.Den], .row A3 xs5.length xs5.length 2 1 (ints xs545), .row A6 xs8.length xs8.length 2 1 (ints xs484), .blk b527 127 [.int .i64 q525.From, .int .i64 q525.To, .int .i64 q525.Delay, .int .i64 q525.Tokens]] := hs
        have hs0 : St [] W w [.blk b1 59 [.int .i64 p0.Events, .slice av p0.Places.length aw], .blk b2 75 [.int .i64 p1.Num, .int .i64 p1.Den], .blk b527 127 [.int .i64 q525.From, .int .i64 q525.To, .int .i64 q525.Delay, .int .i64 q525.Tokens]] := hs.sel [0, 1, 4] (by decide)
        refine wpO_nil ⟨Or.inr (fun _ => hs0), ?_⟩
        obtain ⟨q547, hi548, hm522⟩ := bind_some hm522
        obtain ⟨hi548a, hi548b, hi548q⟩ := idx_some hi548
        refine mYp (i := 12) rfl (by kernel_rfl) (by kernel_rfl) hf rfl rfl rfl (fun _ => Y_index rfl rfl rfl el23 ti2 (Rd.isAt (hs.rd (i := 3) rfl) (at1 (ints_at hi548q))) hi548a (ltn hn485 hi548b)) ?_; clear hf; intro a hf
        refine mRun (i := 13) rfl (by kernel_rfl) ?_
        obtain ⟨xs549, hu550, hm522⟩ := bind_some hm522
        refine sStoreL (i := 3) (us := [.int .i64 x487]) (enc := ints) hf hs rfl rfl rfl rfl rfl rfl hn485 hu550 ti2 rfl rfl rfl rfl rfl ints_len1 (ints_set x487) ?_; clear hs; intro w hs
        have hs : St [] W w [.blk b1 59 [.int .i64 p0.Events, .slice av p0.Places.length aw], .blk b2 75 [.int .i64 p1.Num, .int .i64 p1.Den], .row A3 xs5.length xs5.length 2 1 (ints xs545), .row A6 xs8.length xs8.length 2 1 (ints xs549), .blk b527 127 [.int .i64 q525.From, .int .i64 q525.To, .int .i64 q525.Delay, .int .i64 q525.Tokens]] := hs
        have hs0 : St [] W w [.blk b1 59 [.int .i64 p0.Events, .slice av p0.Places.length aw], .blk b2 75 [.int .i64 p1.Num, .int .i64 p1.Den], .blk b527 127 [.int .i64 q525.From, .int .i64 q525.To, .int .i64 q525.Delay, .int .i64 q525.Tokens]] := hs.sel [0, 1, 4] (by decide)
        refine wpO_nil ⟨Or.inr (fun _ => hs0), ?_⟩
        refine mYp (i := 14) rfl (by kernel_rfl) (by kernel_rfl) hf rfl rfl rfl (fun _ => Y_assign rfl rfl) ?_; clear hf; intro a hf
        refine mDone (by kernel_rfl) ?_
        clear hs0
        refine wpL_nil (Qb_normal ?_)
        refine wpL_region ?_
        refine sY hf hs rfl rfl rfl (Y_add rfl rfl rfl) ?_; clear hf; intro a hf
        refine sY hf hs rfl rfl rfl (Y_move rfl rfl) ?_; clear hf; intro a hf
        refine wpO_nil ?_
        refine wpL_nil (Ql_normal ?_)
        exact ⟨xs545, xs549, q525.To, (IntKind.i64.wrap (x487 + 1)), hm522, ((hn483).trans (upd_len hu546).symm), ((hn485).trans (upd_len hu550).symm), (FrD.pick (FrD.pick (FrD.pick (FrD.pick (FrD.pick (FrD.pick (FrD.pick (FrD.pick (FrD.pick (FrD.pick hf.none hf rfl) hf rfl) hf rfl) hf rfl) hf rfl) hf rfl) hf rfl) hf rfl) hf rfl) hf rfl), hs.sel [0, 1, 2, 3] (by decide)⟩
       ·have hm522 := bif_f hm522 hb534
        refine wpL_skip ?_
        refine wpL_nil (Qb_normal ?_)
        refine wpL_region ?_
        refine sY hf hs rfl rfl rfl (Y_add rfl rfl rfl) ?_; clear hf; intro a hf
        refine sY hf hs rfl rfl rfl (Y_move rfl rfl) ?_; clear hf; intro a hf
        refine wpO_nil ?_
        refine wpL_nil (Ql_normal ?_)
        exact ⟨xs482, xs484, x486, (IntKind.i64.wrap (x487 + 1)), hm522, hn483, hn485, (FrD.pick (FrD.pick (FrD.pick (FrD.pick (FrD.pick (FrD.pick (FrD.pick (FrD.pick (FrD.pick (FrD.pick hf.none hf rfl) hf rfl) hf rfl) hf rfl) hf rfl) hf rfl) hf rfl) hf rfl) hf rfl) hf rfl), hs.sel [0, 1, 2, 3] (by decide)⟩
      ·have hm522 := bif_f hm522 hb524
       refine wpL_exit (Ql_exit (Qb_exit ?_))
       exact ⟨xs482, xs484, x486, Option.some.inj hm522, hn483, hn485, (FrD.pick (FrD.pick (FrD.pick (FrD.pick (FrD.pick (FrD.pick (FrD.pick hf.none hf rfl) hf rfl) hf rfl) hf rfl) hf rfl) hf rfl) hf rfl), hs⟩
    ·rintro a w ⟨xs515, xs517, x519, hr_, hn516, hn518, hf, hs⟩
     subst hr_
     try dsimp only at hm419
     refine wpL_seq <| wpL_region ?_
     refine sY hf hs rfl rfl rfl (Y_move rfl rfl) ?_; clear hf; intro a hf
     refine sY hf hs rfl rfl rfl (Y_lss rfl rfl rfl) ?_; clear hf; intro a hf
     refine wpO_nil ?_
     refine wpL_cond hf rfl (fun hb551 => ?_) (fun hb551 => ?_)
     ·have hm419 := bif_t hm419 hb551
      refine wpL_seq <| wpL_region ?_
      refine sY hf hs rfl rfl rfl (Y_assign rfl rfl) ?_; clear hf; intro a hf
      refine wpO_nil ?_
      have hs : St [] W _ [.blk b1 59 [.int .i64 p0.Events, .slice av p0.Places.length aw], .blk b2 75 [.int .i64 p1.Num, .int .i64 p1.Den], .row A3 xs5.length xs5.length 2 1 (ints xs515), .row A6 xs8.length xs8.length 2 1 (ints xs517), .row none 0 0 2 1 (ints ([] : List Int))] := hs.addNil 2 1
      obtain rfl := Option.some.inj hm419
      try dsimp only at hm
      obtain rfl := Option.some.inj hm
      refine wpL_ret (Qb_ret (Ql_ret (Qb_ret (ret_tmp rfl hf rfl ?_))))
      exact ⟨_, rfl, none, 0, 0, rfl, rfl, (fun _ => rfl), hs.sel [4] (by decide)⟩
     ·have hm419 := bif_f hm419 hb551
      refine wpL_skip ?_
      refine wpL_nil (Qb_normal ?_)
      refine wpL_region ?_
      refine sY hf hs rfl rfl rfl (Y_add rfl rfl rfl) ?_; clear hf; intro a hf
      refine sY hf hs rfl rfl rfl (Y_move rfl rfl) ?_; clear hf; intro a hf
      refine wpO_nil ?_
      refine wpL_nil (Ql_normal ?_)
      exact ⟨xs515, xs517, x519, (IntKind.i64.wrap (x282 + 1)), hm419, hn516, hn518, (FrD.pick (FrD.pick (FrD.pick (FrD.pick (FrD.pick (FrD.pick (FrD.pick hf.none hf rfl) hf rfl) hf rfl) hf rfl) hf rfl) hf rfl) hf rfl), hs⟩
   ·have hm419 := bif_f hm419 hb421
    refine wpL_exit (Ql_exit (Qb_exit ?_))
    exact ⟨xs279, x281, Option.some.inj hm419, hn280, (FrD.pick (FrD.pick (FrD.pick hf.none hf rfl) hf rfl) hf rfl), hs.sel [0, 3] (by decide)⟩
 ·rintro a w ⟨xs414, x416, hr_, hn415, hf, hs⟩
  subst hr_
  try dsimp only at hm
  refine wpL_seq <| wpL_seq <| wpL_region ?_
  refine sY hf hs rfl rfl rfl (Y_fieldAddr rfl rfl fo59_0) ?_; clear hf; intro a hf
  refine sY hf hs rfl rfl rfl (Y_load_blk rfl rfl (i := 0) rfl rfl ag2) ?_; clear hf; intro a hf
  refine sY hf hs rfl rfl rfl (Y_move rfl rfl) ?_; clear hf; intro a hf
  refine wpO_nil ?_
  obtain ⟨r573, hl574, hm⟩ := bind_some hm
  refine wpL_block (fun a w => ∃ x572 : Int, x572 = r573 ∧ Fr a 101 [(2, .pointer (some ⟨b1, 0, none⟩)), (6, .slice A6 xs8.length xs8.length), (7, .int .i64 x572)] ∧ St [] W w [.blk b1 59 [.int .i64 p0.Events, .slice av p0.Places.length aw], .row A6 xs8.length xs8.length 2 1 (ints xs414)]) ?_ ?_
  ·refine wpL_loop (fun n a w => ∃ x565 : Int, ∃ x566 : Int, impl_betterCircuit_L6 F p0 xs414 n x565 x566 = some r573 ∧ Fr a 101 [(2, .pointer (some ⟨b1, 0, none⟩)), (6, .slice A6 xs8.length xs8.length), (7, .int .i64 x565), (65, .int .i64 p0.Events), (66, .int .i64 x566)] ∧ St [] W w [.blk b1 59 [.int .i64 p0.Events, .slice av p0.Places.length aw], .row A6 xs8.length xs8.length 2 1 (ints xs414)]) F ?_ ?_ ?_
   ·exact ⟨x416, 0, hl574, (FrD.pick (FrD.pick (FrD.pick (FrD.pick (FrD.pick hf.none hf rfl) hf rfl) hf rfl) hf rfl) hf rfl), hs⟩
   ·rintro a w ⟨x565, x566, h0_, -, -⟩; simp [impl_betterCircuit_L6] at h0_
   ·rintro n576 a w ⟨x565, x566, hm575, hf, hs⟩
    rw [impl_betterCircuit_L6] at hm575
    refine wpL_seq <| wpL_region ?_
    refine sY hf hs rfl rfl rfl (Y_lss rfl rfl rfl) ?_; clear hf; intro a hf
    refine wpO_nil <| wpL_seq ?_
    refine wpL_cond hf rfl (fun hb577 => ?_) (fun hb577 => ?_)
    ·have hm575 := bif_t hm575 hb577
     refine wpL_skip <| wpL_seq <| wpL_block0 ?_
     refine wpL_draw (by kernel_rfl) (by kernel_rfl) hs ?_
     refine qY hf rfl rfl rfl (Y_fieldAddr rfl rfl fo59_1) ?_; clear hf; intro a hf
     refine qY hf rfl rfl rfl (Y_load_blk rfl rfl (i := 0) rfl rfl ag57) ?_; clear hf; intro a hf
     refine qY hf rfl rfl rfl (Y_move rfl rfl) ?_; clear hf; intro a hf
     refine qY hf rfl rfl rfl (Y_move rfl rfl) ?_; clear hf; intro a hf
     obtain ⟨q578, hi579, hm575⟩ := bind_some hm575
     obtain ⟨hi579a, hi579b, hi579q⟩ := idx_some hi579
     refine qY hf rfl rfl rfl (Y_index rfl rfl rfl el23 ti2 (Rd.isAt (hs.rd (i := 1) rfl) (at1 (ints_at hi579q))) hi579a (ltn hn415 hi579b)) ?_; clear hf; intro a hf
     refine qY hf rfl rfl rfl (Y_load_rd rfl rfl (fun w hs => hs.rd (i := 1) rfl) (at1 (ints_at hi579q)) ag2) ?_; clear hf; intro a hf
     obtain ⟨q580, hi581, hm575⟩ := bind_some hm575
     obtain ⟨hi581a, hi581b, hi581q⟩ := idx_some hi581
     refine qY hf rfl rfl rfl (Y_index rfl rfl rfl el57 ti127 (Rd.isAt (aX.at hs) (recs_at (s := 4) GPlace.len hi581q (j := 0) rfl)) hi581a hi581b) ?_; clear hf; intro a hf
     refine qY hf rfl rfl rfl (Y_fieldAddrE rfl rfl fo127_0) ?_; clear hf; intro a hf
     refine qY hf rfl rfl rfl (Y_load_rd rfl rfl (fun w hs => aX.at hs) (recs_at (s := 4) GPlace.len hi581q (j := 0) rfl) ag2) ?_; clear hf; intro a hf
     refine qY hf rfl rfl rfl (Y_assign rfl rfl) ?_; clear hf; intro a hf
     refine qNil ?_; clear hs; intro w hs
     refine wpL_nil (Qb_normal ?_)
     refine wpL_region ?_
     refine sY hf hs rfl rfl rfl (Y_add rfl rfl rfl) ?_; clear hf; intro a hf
     refine sY hf hs rfl rfl rfl (Y_move rfl rfl) ?_; clear hf; intro a hf
     refine wpO_nil ?_
     refine wpL_nil (Ql_normal ?_)
     exact ⟨q580.From, (IntKind.i64.wrap (x566 + 1)), hm575, (FrD.pick (FrD.pick (FrD.pick (FrD.pick (FrD.pick hf.none hf rfl) hf rfl) hf rfl) hf rfl) hf rfl), hs⟩
    ·have hm575 := bif_f hm575 hb577
     refine wpL_exit (Ql_exit (Qb_exit ?_))
     exact ⟨x565, Option.some.inj hm575, (FrD.pick (FrD.pick (FrD.pick hf.none hf rfl) hf rfl) hf rfl), hs⟩
  ·rintro a w ⟨x572, hr_, hf, hs⟩
   subst hr_
   try dsimp only at hm
   refine wpL_seq <| wpL_region ?_
   refine sY hf hs rfl rfl rfl (Y_assign rfl rfl) ?_; clear hf; intro a hf
   refine wpO_nil <| wpL_seq <| wpL_seq <| wpL_region ?_
   refine sY hf hs rfl rfl rfl (Y_move rfl rfl) ?_; clear hf; intro a hf
   refine sY hf hs rfl rfl rfl (Y_assign rfl rfl) ?_; clear hf; intro a hf
   refine wpO_nil ?_
   obtain ⟨r641, hl642, hm⟩ := bind_some hm
   have hs : St [] W _ [.blk b1 59 [.int .i64 p0.Events, .slice av p0.Places.length aw], .row A6 xs8.length xs8.length 2 1 (ints xs414), .row none 0 0 2 1 (ints ([] : List Int))] := hs.addNil 2 1
   refine wpL_block (fun a w => ∃ xs636 : List Int, ∃ A637, ∃ n638, ∃ c639, xs636 = r641 ∧ n638 = xs636.length ∧ Fr a 101 [(11, .slice A637 n638 c639)] ∧ St [] W w [.row A637 n638 c639 2 1 (ints xs636)]) ?_ ?_
   ·refine wpL_loop (fun n a w => ∃ xs617 : List Int, ∃ x622 : Int, ∃ A618, ∃ n619, ∃ c620, impl_betterCircuit_L7 F p0 xs414 x572 n xs617 x622 = some r641 ∧ n619 = xs617.length ∧ Fr a 101 [(2, .pointer (some ⟨b1, 0, none⟩)), (6, .slice A6 xs8.length xs8.length), (7, .int .i64 x572), (11, .slice A618 n619 c620), (12, .int .i64 x622)] ∧ St [] W w [.blk b1 59 [.int .i64 p0.Events, .slice av p0.Places.length aw], .row A6 xs8.length xs8.length 2 1 (ints xs414), .row A618 n619 c620 2 1 (ints xs617)]) F ?_ ?_ ?_
    ·exact ⟨([] : List Int), x572, none, 0, 0, hl642, rfl, (FrD.pick (FrD.pick (FrD.pick (FrD.pick (FrD.pick hf.none hf rfl) hf rfl) hf rfl) hf rfl) hf rfl), hs⟩
    ·rintro a w ⟨xs617, x622, A618, n619, c620, h0_, -, -, -⟩; simp [impl_betterCircuit_L7] at h0_
    ·rintro n644 a w ⟨xs617, x622, A618, n619, c620, hm643, hn621, hf, hs⟩
     rw [impl_betterCircuit_L7] at hm643
     refine wpL_block0 <| wpL_seq <| wpL_region ?_
     refine sY hf hs rfl rfl rfl (Y_move rfl rfl) ?_; clear hf; intro a hf
     refine sY hf hs rfl rfl rfl (Y_move rfl rfl) ?_; clear hf; intro a hf
     refine sY hf hs rfl rfl rfl (Y_move rfl rfl) ?_; clear hf; intro a hf
     obtain ⟨q645, hi646, hm643⟩ := bind_some hm643
     obtain ⟨hi646a, hi646b, hi646q⟩ := idx_some hi646
     refine sY hf hs rfl rfl rfl (Y_index rfl rfl rfl el23 ti2 (Rd.isAt (hs.rd (i := 1) rfl) (at1 (ints_at hi646q))) hi646a (ltn hn415 hi646b)) ?_; clear hf; intro a hf
     refine sY hf hs rfl rfl rfl (Y_load_rd rfl rfl (fun w hs => hs.rd (i := 1) rfl) (at1 (ints_at hi646q)) ag2) ?_; clear hf; intro a hf
     refine sBuildSlice (parts := [(0, .tmp 83)]) (vs := [.int .i64 q645]) (cells := [.int .i64 q645]) hf hs rfl rfl rfl rfl rfl el23 ti2 rfl rfl rfl rfl ?_; clear hf hs; intro a w A647 hs hA648 hf
     have hs : St [] W w [.blk b1 59 [.int .i64 p0.Events, .slice av p0.Places.length aw], .row A6 xs8.length xs8.length 2 1 (ints xs414), .row A618 n619 c620 2 1 (ints xs617), .row A647 1 1 2 1 (ints ([q645]))] := hs
     obtain ⟨xs651, ha652, hm643⟩ := bind_some hm643
     refine sAppendL (i := 2) (xs := xs617) (ys := [q645]) (enc := ints) hf hs rfl rfl rfl rfl rfl rfl hn621 rfl rfl ha652 el23 ti2 rfl rfl rfl (hs.rd (i := 3) rfl) (Nat.succ_pos _) ints_len1 ints_append ints_one ?_; clear hf hs; intro a w A649 c650 hs hf
     have hs : St [] W w [.blk b1 59 [.int .i64 p0.Events, .slice av p0.Places.length aw], .row A6 xs8.length xs8.length 2 1 (ints xs414), .row A649 xs651.length c650 2 1 (ints xs651), .row A647 1 1 2 1 (ints ([q645]))] := hs
     refine sY hf hs rfl rfl rfl (Y_assign rfl rfl) ?_; clear hf; intro a hf
     refine wpO_nil <| wpL_seq ?_
     refine wpL_draw (by kernel_rfl) (by kernel_rfl) hs ?_
     refine qY hf rfl rfl rfl (Y_fieldAddr rfl rfl fo59_1) ?_; clear hf; intro a hf
     refine qY hf rfl rfl rfl (Y_load_blk rfl rfl (i := 0) rfl rfl ag57) ?_; clear hf; intro a hf
     refine qY hf rfl rfl rfl (Y_move rfl rfl) ?_; clear hf; intro a hf
     refine qY hf rfl rfl rfl (Y_move rfl rfl) ?_; clear hf; intro a hf
     obtain ⟨q653, hi654, hm643⟩ := bind_some hm643
     obtain ⟨hi654a, hi654b, hi654q⟩ := idx_some hi654
     refine qY hf rfl rfl rfl (Y_index rfl rfl rfl el23 ti2 (Rd.isAt (hs.rd (i := 1) rfl) (at1 (ints_at hi654q))) hi654a (ltn hn415 hi654b)) ?_; clear hf; intro a hf
     refine qY hf rfl rfl rfl (Y_load_rd rfl rfl (fun w hs => hs.rd (i := 1) rfl) (at1 (ints_at hi654q)) ag2) ?_; clear hf; intro a hf
     obtain ⟨q655, hi656, hm643⟩ := bind_some hm643
     obtain ⟨hi656a, hi656b, hi656q⟩ := idx_some hi656
     refine qY hf rfl rfl rfl (Y_index rfl rfl rfl el57 ti127 (Rd.isAt (aX.at hs) (recs_at (s := 4) GPlace.len hi656q (j := 0) rfl)) hi656a hi656b) ?_; clear hf; intro a hf
     refine qY hf rfl rfl rfl (Y_fieldAddrE rfl rfl fo127_0) ?_; clear hf; intro a hf
     refine qY hf rfl rfl rfl (Y_load_rd rfl rfl (fun w hs => aX.at hs) (recs_at (s := 4) GPlace.len hi656q (j := 0) rfl) ag2) ?_; clear hf; intro a hf
     refine qY hf rfl rfl rfl (Y_assign rfl rfl) ?_; clear hf; intro a hf
     refine qNil ?_; clear hs; intro w hs
     refine wpL_seq <| wpL_region ?_
     refine sY hf hs rfl rfl rfl (Y_move rfl rfl) ?_; clear hf; intro a hf
     refine sY hf hs rfl rfl rfl (Y_move rfl rfl) ?_; clear hf; intro a hf
     refine sY hf hs rfl rfl rfl (Y_eql rfl rfl rfl) ?_; clear hf; intro a hf
     refine wpO_nil ?_
     refine wpL_cond hf rfl (fun hb657 => ?_) (fun hb657 => ?_)
     ·have hm643 := bif_t hm643 hb657
      refine wpL_exit (Qb_exit_ne rfl (Ql_exit (Qb_exit ?_)))
      exact ⟨xs651, A649, xs651.length, c650, Option.some.inj hm643, rfl, (FrD.pick hf.none hf rfl), hs.sel [2] (by decide)⟩
     ·have hm643 := bif_f hm643 hb657
      refine wpL_skip ?_
      refine wpL_nil (Qb_normal ?_)
      refine wpL_nil (Ql_normal ?_)
      exact ⟨xs651, q655.From, A649, xs651.length, c650, hm643, rfl, (FrD.pick (FrD.pick (FrD.pick (FrD.pick (FrD.pick hf.none hf rfl) hf rfl) hf rfl) hf rfl) hf rfl), hs.sel [0, 1, 2] (by decide)⟩
   ·rintro a w ⟨xs636, A637, n638, c639, hr_, hn640, hf, hs⟩
    subst hr_
    try dsimp only at hm
    refine wpL_seq <| wpL_region ?_
    refine sY hf hs rfl rfl rfl (Y_move rfl rfl) ?_; clear hf; intro a hf
    obtain ⟨r658, hc659, hm⟩ := bind_some hm
    refine sCall hf rfl rfl rfl rfl (cap := []) rfl rfl en191 (slices_Reverse_int64_ok F xs636 A637 n638 c639 hn640 _ _ hc659 (hs.res _ _ (show _[0]? = some _ from rfl))) ?_; clear hf
    rintro _ w ⟨rfl, hn660, hs1⟩ a hf
    have hs : St [] W w [.row A637 n638 c639 2 1 (ints r658.2)] := hs.mut (i := 0) rfl (fun b hb => muA_mem hb) hs1
    clear hs1
    refine wpO_nil <| wpL_seq <| wpL_region ?_
    refine sY hf hs rfl rfl rfl (Y_move rfl rfl) ?_; clear hf; intro a hf
    refine sY hf hs rfl rfl rfl (Y_assign rfl rfl) ?_; clear hf; intro a hf
    refine wpO_nil ?_
    obtain ⟨_, hne661, hm⟩ := bind_some hm
    obtain rfl := Option.some.inj hm
    refine wpL_ret (ret_tmp rfl hf rfl ?_)
    exact ⟨_, rfl, A637, n638, c639, rfl, hn660, (fun h_ => absurd h_ (nonE_some hne661)), hs⟩

set_option maxRecDepth 100000 in
theorem impl_circuitSums_ok (F : Nat) (ab : GEventGraph) (ac : Option Addr) (ap ad : Nat) (ax : ap = ab.Places.length) (bj : List Int) (bw : Option Addr) (bM bN : Nat) (co : bM = bj.length) (r : Int × Int) (W : World) (hm : impl_circuitSums F ab bj = some r) (aq : Rd W ac ((recs GPlace.cells) ab.Places)) (bO : Rd W bw (ints bj)) :
  Calls Try.prog 179 [.agg #[.int .i64 ab.Events, .slice ac ap ad], .slice bw bM bN].toArray W fun e w' => ∃ v, e = .returned v ∧ v = .tuple #[.int .i64 r.1, .int .i64 r.2] ∧ St [] W w' [] := by
 subst ax
 subst co
 unfold impl_circuitSums at hm
 refine Calls.enter (N := 35) Try.func179 rfl rfl rfl (fun a hf => ?_)
 have hs := St.start W
 obtain ⟨w, hw_⟩ : ∃ w, w = W := ⟨W, rfl⟩
 clear hw_ w
 refine wpL_seq <| wpL_region ?_
 refine sBox hf hs rfl rfl rfl rfl rfl (cs := [.int .i64 ab.Events, .slice ac ab.Places.length ad]) rfl ?_; clear hf hs; intro a w b1 hs hf
 have hs : St [] W w [.blk b1 59 [.int .i64 ab.Events, .slice ac ab.Places.length ad]] := hs
 refine sY hf hs rfl rfl rfl (Y_assign rfl rfl) ?_; clear hf; intro a hf
 refine sY hf hs rfl rfl rfl (Y_assign rfl rfl) ?_; clear hf; intro a hf
 refine wpO_nil <| wpL_seq <| wpL_region ?_
 refine sY hf hs rfl rfl rfl (Y_assign rfl rfl) ?_; clear hf; intro a hf
 refine sY hf hs rfl rfl rfl (Y_assign rfl rfl) ?_; clear hf; intro a hf
 refine wpO_nil <| wpL_seq <| wpL_seq <| wpL_region ?_
 refine sY hf hs rfl rfl rfl (Y_move rfl rfl) ?_; clear hf; intro a hf
 refine sY hf hs rfl rfl rfl (Y_lenH rfl rfl el23 rfl) ?_; clear hf; intro a hf
 refine sY hf hs rfl rfl rfl (Y_move rfl rfl) ?_; clear hf; intro a hf
 refine wpO_nil ?_
 obtain ⟨r31, hl32, hm⟩ := bind_some hm
 refine wpL_block (fun a w => ∃ x29 : Int, ∃ x30 : Int, (x29, x30) = r31 ∧ Fr a 35 [(6, .int .i64 x29), (7, .int .i64 x30)] ∧ St [] W w []) ?_ ?_
 ·refine wpL_loop (fun n a w => ∃ x19 : Int, ∃ x20 : Int, ∃ x21 : Int, impl_circuitSums_L1 F ab bj n x19 x20 x21 = some r31 ∧ Fr a 35 [(2, .pointer (some ⟨b1, 0, none⟩)), (6, .int .i64 x19), (7, .int .i64 x20), (10, .slice bw bj.length bN), (11, .int .i64 (bj.length : Int)), (12, .int .i64 x21)] ∧ St [] W w [.blk b1 59 [.int .i64 ab.Events, .slice ac ab.Places.length ad]]) F ?_ ?_ ?_
  ·exact ⟨0, 0, 0, hl32, (FrD.pick (FrD.pick (FrD.pick (FrD.pick (FrD.pick (FrD.pick hf.none hf rfl) hf rfl) hf rfl) hf rfl) hf rfl) hf rfl), hs⟩
  ·rintro a w ⟨x19, x20, x21, h0_, -, -⟩; simp [impl_circuitSums_L1] at h0_
  ·rintro n34 a w ⟨x19, x20, x21, hm33, hf, hs⟩
   rw [impl_circuitSums_L1] at hm33
   refine wpL_seq <| wpL_region ?_
   refine sY hf hs rfl rfl rfl (Y_lss rfl rfl rfl) ?_; clear hf; intro a hf
   refine wpO_nil <| wpL_seq ?_
   refine wpL_cond hf rfl (fun hb35 => ?_) (fun hb35 => ?_)
   ·have hm33 := bif_t hm33 hb35
    refine wpL_skip <| wpL_seq <| wpL_block0 <| wpL_seq <| wpL_region ?_
    obtain ⟨q36, hi37, hm33⟩ := bind_some hm33
    obtain ⟨hi37a, hi37b, hi37q⟩ := idx_some hi37
    refine sY hf hs rfl rfl rfl (Y_index rfl rfl rfl el23 ti2 (Rd.isAt (bO.at hs) (at1 (ints_at hi37q))) hi37a hi37b) ?_; clear hf; intro a hf
    refine sY hf hs rfl rfl rfl (Y_load_rd rfl rfl (fun w hs => bO.at hs) (at1 (ints_at hi37q)) ag2) ?_; clear hf; intro a hf
    refine sY hf hs rfl rfl rfl (Y_assign rfl rfl) ?_; clear hf; intro a hf
    refine wpO_nil <| wpL_seq <| wpL_region ?_
    refine sY hf hs rfl rfl rfl (Y_move rfl rfl) ?_; clear hf; intro a hf
    refine sY hf hs rfl rfl rfl (Y_fieldAddr rfl rfl fo59_1) ?_; clear hf; intro a hf
    refine sY hf hs rfl rfl rfl (Y_load_blk rfl rfl (i := 0) rfl rfl ag57) ?_; clear hf; intro a hf
    refine sY hf hs rfl rfl rfl (Y_move rfl rfl) ?_; clear hf; intro a hf
    obtain ⟨q38, hi39, hm33⟩ := bind_some hm33
    obtain ⟨hi39a, hi39b, hi39q⟩ := idx_some hi39
    refine sY hf hs rfl rfl rfl (Y_index rfl rfl rfl el57 ti127 (Rd.isAt (aq.at hs) (recs_at (s := 4) GPlace.len hi39q (j := 0) rfl)) hi39a hi39b) ?_; clear hf; intro a hf
    refine sY hf hs rfl rfl rfl (Y_fieldAddrE rfl rfl fo127_2) ?_; clear hf; intro a hf
    refine sY hf hs rfl rfl rfl (Y_load_rd rfl rfl (fun w hs => aq.at hs) (recs_at (s := 4) GPlace.len hi39q (j := 2) rfl) ag2) ?_; clear hf; intro a hf
    refine sY hf hs rfl rfl rfl (Y_add rfl rfl rfl) ?_; clear hf; intro a hf
    refine sY hf hs rfl rfl rfl (Y_assign rfl rfl) ?_; clear hf; intro a hf
    refine wpO_nil <| wpL_region ?_
    refine sY hf hs rfl rfl rfl (Y_move rfl rfl) ?_; clear hf; intro a hf
    refine sY hf hs rfl rfl rfl (Y_fieldAddr rfl rfl fo59_1) ?_; clear hf; intro a hf
    refine sY hf hs rfl rfl rfl (Y_load_blk rfl rfl (i := 0) rfl rfl ag57) ?_; clear hf; intro a hf
    refine sY hf hs rfl rfl rfl (Y_move rfl rfl) ?_; clear hf; intro a hf
    obtain ⟨q40, hi41, hm33⟩ := bind_some hm33
    obtain ⟨hi41a, hi41b, hi41q⟩ := idx_some hi41
    refine sY hf hs rfl rfl rfl (Y_index rfl rfl rfl el57 ti127 (Rd.isAt (aq.at hs) (recs_at (s := 4) GPlace.len hi41q (j := 0) rfl)) hi41a hi41b) ?_; clear hf; intro a hf
    refine sY hf hs rfl rfl rfl (Y_fieldAddrE rfl rfl fo127_3) ?_; clear hf; intro a hf
    refine sY hf hs rfl rfl rfl (Y_load_rd rfl rfl (fun w hs => aq.at hs) (recs_at (s := 4) GPlace.len hi41q (j := 3) rfl) ag2) ?_; clear hf; intro a hf
    refine sY hf hs rfl rfl rfl (Y_add rfl rfl rfl) ?_; clear hf; intro a hf
    refine sY hf hs rfl rfl rfl (Y_assign rfl rfl) ?_; clear hf; intro a hf
    refine wpO_nil ?_
    refine wpL_nil (Qb_normal ?_)
    refine wpL_region ?_
    refine sY hf hs rfl rfl rfl (Y_add rfl rfl rfl) ?_; clear hf; intro a hf
    refine sY hf hs rfl rfl rfl (Y_move rfl rfl) ?_; clear hf; intro a hf
    refine wpO_nil ?_
    refine wpL_nil (Ql_normal ?_)
    exact ⟨(IntKind.i64.wrap (x19 + q38.Delay)), (IntKind.i64.wrap (x20 + q40.Tokens)), (IntKind.i64.wrap (x21 + 1)), hm33, (FrD.pick (FrD.pick (FrD.pick (FrD.pick (FrD.pick (FrD.pick hf.none hf rfl) hf rfl) hf rfl) hf rfl) hf rfl) hf rfl), hs⟩
   ·have hm33 := bif_f hm33 hb35
    refine wpL_exit (Ql_exit (Qb_exit ?_))
    exact ⟨x19, x20, Option.some.inj hm33, (FrD.pick (FrD.pick hf.none hf rfl) hf rfl), hs.sel [] (by decide)⟩
 ·rintro a w ⟨x29, x30, hr_, hf, hs⟩
  subst hr_
  try dsimp only at hm
  refine wpL_seq <| wpL_region ?_
  refine sY hf hs rfl rfl rfl (Y_move rfl rfl) ?_; clear hf; intro a hf
  refine sY hf hs rfl rfl rfl (Y_move rfl rfl) ?_; clear hf; intro a hf
  refine sY hf hs rfl rfl rfl (Y_assign rfl rfl) ?_; clear hf; intro a hf
  refine sY hf hs rfl rfl rfl (Y_assign rfl rfl) ?_; clear hf; intro a hf
  refine wpO_nil ?_
  obtain rfl := Option.some.inj hm
  refine wpL_ret (ret_tmp2 rfl hf rfl rfl ?_)
  exact ⟨_, rfl, rfl, hs⟩

set_option maxRecDepth 100000 in
theorem impl_absOf_ok (F : Nat) (bB : Int) (r : Int) (W : World) (hm : impl_absOf F bB = some r) :
  Calls Try.prog 193 [.int .i64 bB].toArray W fun e w' => ∃ v, e = .returned v ∧ v = .int .i64 r ∧ St [] W w' [] := by
 unfold impl_absOf at hm
 refine Calls.enter (N := 8) Try.func193 rfl rfl rfl (fun a hf => ?_)
 have hs := St.start W
 obtain ⟨w, hw_⟩ : ∃ w, w = W := ⟨W, rfl⟩
 clear hw_ w
 refine wpL_seq <| wpL_region ?_
 refine sY hf hs rfl rfl rfl (Y_assign rfl rfl) ?_; clear hf; intro a hf
 refine wpO_nil <| wpL_seq <| wpL_seq <| wpL_region ?_
 refine sY hf hs rfl rfl rfl (Y_move rfl rfl) ?_; clear hf; intro a hf
 refine sY hf hs rfl rfl rfl (Y_lss rfl rfl rfl) ?_; clear hf; intro a hf
 refine wpO_nil ?_
 refine wpL_cond hf rfl (fun hb1 => ?_) (fun hb1 => ?_)
 ·have hm := bif_t hm hb1
  refine wpL_seq <| wpL_region ?_
  refine sY hf hs rfl rfl rfl (Y_move rfl rfl) ?_; clear hf; intro a hf
  refine sY hf hs rfl rfl rfl (Y_neg rfl rfl) ?_; clear hf; intro a hf
  refine sY hf hs rfl rfl rfl (Y_assign rfl rfl) ?_; clear hf; intro a hf
  refine wpO_nil ?_
  obtain rfl := Option.some.inj hm
  refine wpL_ret (ret_tmp rfl hf rfl ?_)
  exact ⟨_, rfl, rfl, hs⟩
 ·have hm := bif_f hm hb1
  refine wpL_skip <| wpL_seq <| wpL_region ?_
  refine sY hf hs rfl rfl rfl (Y_move rfl rfl) ?_; clear hf; intro a hf
  refine sY hf hs rfl rfl rfl (Y_assign rfl rfl) ?_; clear hf; intro a hf
  refine wpO_nil ?_
  obtain rfl := Option.some.inj hm
  refine wpL_ret (ret_tmp rfl hf rfl ?_)
  exact ⟨_, rfl, rfl, hs⟩

set_option maxRecDepth 100000 in
theorem impl_divisorOf_ok (F : Nat) (ba : Int) (bc : Int) (r : Int) (W : World) (hm : impl_divisorOf F ba bc = some r) :
  Calls Try.prog 192 [.int .i64 ba, .int .i64 bc].toArray W fun e w' => ∃ v, e = .returned v ∧ v = .int .i64 r ∧ St [] W w' [] := by
 unfold impl_divisorOf at hm
 refine Calls.enter (N := 12) Try.func192 rfl rfl rfl (fun a hf => ?_)
 have hs := St.start W
 obtain ⟨w, hw_⟩ : ∃ w, w = W := ⟨W, rfl⟩
 clear hw_ w
 refine wpL_seq <| wpL_region ?_
 refine sY hf hs rfl rfl rfl (Y_assign rfl rfl) ?_; clear hf; intro a hf
 refine wpO_nil <| wpL_seq ?_
 obtain ⟨r15, hl16, hm⟩ := bind_some hm
 refine wpL_block (fun a w => ∃ x14 : Int, x14 = r15 ∧ Fr a 12 [(0, .int .i64 x14)] ∧ St [] W w []) ?_ ?_
 ·refine wpL_loop (fun n a w => ∃ x9 : Int, ∃ x10 : Int, impl_divisorOf_L1 F n x9 x10 = some r15 ∧ Fr a 12 [(0, .int .i64 x9), (1, .int .i64 x10)] ∧ St [] W w []) F ?_ ?_ ?_
  ·exact ⟨ba, bc, hl16, (FrD.pick (FrD.pick hf.none hf rfl) hf rfl), hs⟩
  ·rintro a w ⟨x9, x10, h0_, -, -⟩; simp [impl_divisorOf_L1] at h0_
  ·rintro n18 a w ⟨x9, x10, hm17, hf, hs⟩
   rw [impl_divisorOf_L1] at hm17
   refine wpL_seq <| wpL_seq <| wpL_region ?_
   refine sY hf hs rfl rfl rfl (Y_move rfl rfl) ?_; clear hf; intro a hf
   refine sY hf hs rfl rfl rfl (Y_gtr rfl rfl rfl) ?_; clear hf; intro a hf
   refine wpO_nil ?_
   refine wpL_cond hf rfl (fun hb19 => ?_) (fun hb19 => ?_)
   ·have hm17 := bif_t hm17 hb19
    refine wpL_skip <| wpL_block0 ?_
    refine wpL_draw (by kernel_rfl) (by kernel_rfl) hs ?_
    refine qY hf rfl rfl rfl (Y_move rfl rfl) ?_; clear hf; intro a hf
    refine qY hf rfl rfl rfl (Y_move rfl rfl) ?_; clear hf; intro a hf
    refine qY hf rfl rfl rfl (Y_move rfl rfl) ?_; clear hf; intro a hf
    obtain ⟨_, hz20, hm17⟩ := bind_some hm17
    refine qY hf rfl rfl rfl (Y_rem rfl rfl rfl (nz_some hz20)) ?_; clear hf; intro a hf
    refine qY hf rfl rfl rfl (Y_assign rfl rfl) ?_; clear hf; intro a hf
    refine qY hf rfl rfl rfl (Y_assign rfl rfl) ?_; clear hf; intro a hf
    refine qNil ?_; clear hs; intro w hs
    refine wpL_nil (Qb_normal ?_)
    refine wpL_nil (Ql_normal ?_)
    exact ⟨x10, (x9.tmod x10), hm17, (FrD.pick (FrD.pick hf.none hf rfl) hf rfl), hs⟩
   ·have hm17 := bif_f hm17 hb19
    refine wpL_exit (Ql_exit (Qb_exit ?_))
    exact ⟨x9, Option.some.inj hm17, (FrD.pick hf.none hf rfl), hs⟩
 ·rintro a w ⟨x14, hr_, hf, hs⟩
  subst hr_
  try dsimp only at hm
  refine wpL_seq <| wpL_region ?_
  refine sY hf hs rfl rfl rfl (Y_move rfl rfl) ?_; clear hf; intro a hf
  refine sY hf hs rfl rfl rfl (Y_assign rfl rfl) ?_; clear hf; intro a hf
  refine wpO_nil ?_
  obtain rfl := Option.some.inj hm
  refine wpL_ret (ret_tmp rfl hf rfl ?_)
  exact ⟨_, rfl, rfl, hs⟩

set_option maxRecDepth 100000 in
theorem impl_ratioOf_ok (F : Nat) (cp : Int) (cq : Int) (r : GRatio) (W : World) (hm : impl_ratioOf F cp cq = some r) :
  Calls Try.prog 178 [.int .i64 cp, .int .i64 cq].toArray W fun e w' => ∃ v, e = .returned v ∧ v = .agg #[.int .i64 r.Num, .int .i64 r.Den] ∧ St [] W w' [] := by
 unfold impl_ratioOf at hm
 refine Calls.enter (N := 23) Try.func178 rfl rfl rfl (fun a hf => ?_)
 have hs := St.start W
 obtain ⟨w, hw_⟩ : ∃ w, w = W := ⟨W, rfl⟩
 clear hw_ w
 refine wpL_seq <| wpL_region ?_
 refine sAlloc hf hs rfl rfl rfl rfl ti75 ?_; clear hf hs; intro a w b1 hs hf
 have hs : St [] W w [.blk b1 75 [.int .i64 0, .int .i64 0]] := hs
 refine wpO_nil <| wpL_seq <| wpL_seq <| wpL_region ?_
 refine sY hf hs rfl rfl rfl (Y_move rfl rfl) ?_; clear hf; intro a hf
 refine sY hf hs rfl rfl rfl (Y_lss rfl rfl rfl) ?_; clear hf; intro a hf
 refine wpO_nil ?_
 obtain ⟨r5, hj6, hm⟩ := bind_some hm
 refine wpL_cut (fun a w => ∃ x3 : Int, ∃ x4 : Int, (x3, x4) = r5 ∧ Fr a 23 [(0, .int .i64 x3), (1, .int .i64 x4), (4, .pointer (some ⟨b1, 0, none⟩))] ∧ St [] W w [.blk b1 75 [.int .i64 0, .int .i64 0]]) ?_ ?_
 ·refine wpL_cond hf rfl (fun hb7 => ?_) (fun hb7 => ?_)
  ·have hj6 := bif_t hj6 hb7
   refine wpL_region ?_
   refine sY hf hs rfl rfl rfl (Y_move rfl rfl) ?_; clear hf; intro a hf
   refine sY hf hs rfl rfl rfl (Y_neg rfl rfl) ?_; clear hf; intro a hf
   refine sY hf hs rfl rfl rfl (Y_move rfl rfl) ?_; clear hf; intro a hf
   refine sY hf hs rfl rfl rfl (Y_neg rfl rfl) ?_; clear hf; intro a hf
   refine sY hf hs rfl rfl rfl (Y_assign rfl rfl) ?_; clear hf; intro a hf
   refine sY hf hs rfl rfl rfl (Y_assign rfl rfl) ?_; clear hf; intro a hf
   refine wpO_nil ?_
   refine wpL_nil (then_normal ?_)
   exact ⟨(IntKind.i64.wrap (0 - cp)), (IntKind.i64.wrap (0 - cq)), Option.some.inj hj6, (FrD.pick (FrD.pick (FrD.pick hf.none hf rfl) hf rfl) hf rfl), hs⟩
  ·have hj6 := bif_f hj6 hb7
   refine wpL_skip ?_
   refine wpL_nil (then_normal ?_)
   exact ⟨cp, cq, Option.some.inj hj6, (FrD.pick (FrD.pick (FrD.pick hf.none hf rfl) hf rfl) hf rfl), hs⟩
 ·rintro a w ⟨x3, x4, hr_, hf, hs⟩
  subst hr_
  try dsimp only at hm
  refine wpL_seq <| wpL_region ?_
  refine sY hf hs rfl rfl rfl (Y_move rfl rfl) ?_; clear hf; intro a hf
  obtain ⟨r8, hc9, hm⟩ := bind_some hm
  refine sCall hf rfl rfl rfl rfl (cap := []) rfl rfl en193 (impl_absOf_ok F x3 _ _ hc9) ?_; clear hf
  rintro _ w ⟨rfl, hs1⟩ a hf
  have hs : St [] W w [.blk b1 75 [.int .i64 0, .int .i64 0]] := hs.ext hs1.below
  clear hs1
  refine sY hf hs rfl rfl rfl (Y_move rfl rfl) ?_; clear hf; intro a hf
  obtain ⟨r10, hc11, hm⟩ := bind_some hm
  refine sCall hf rfl rfl rfl rfl (cap := []) rfl rfl en192 (impl_divisorOf_ok F r8 x4 _ _ hc11) ?_; clear hf
  rintro _ w ⟨rfl, hs1⟩ a hf
  have hs : St [] W w [.blk b1 75 [.int .i64 0, .int .i64 0]] := hs.ext hs1.below
  clear hs1
  refine sY hf hs rfl rfl rfl (Y_assign rfl rfl) ?_; clear hf; intro a hf
  refine wpO_nil <| wpL_seq ?_
  refine wpL_drawM [.blk b1 75 [.int .i64 0, .int .i64 0]] [7] (by kernel_rfl) hs ?_; clear hs; intro w hs
  have hs0 : St [] W w [.blk b1 75 [.int .i64 0, .int .i64 0]] := hs
  refine mYp (i := 0) rfl (by kernel_rfl) (by kernel_rfl) hf rfl rfl rfl (fun _ => Y_move rfl rfl) ?_; clear hf; intro a hf
  refine mYp (i := 1) rfl (by kernel_rfl) (by kernel_rfl) hf rfl rfl rfl (fun _ => Y_move rfl rfl) ?_; clear hf; intro a hf
  obtain ⟨_, hz12, hm⟩ := bind_some hm
  refine mYp (i := 2) rfl (by kernel_rfl) (by kernel_rfl) hf rfl rfl rfl (fun _ => Y_quo rfl rfl rfl (nz_some hz12)) ?_; clear hf; intro a hf
  refine mYp (i := 3) rfl (by kernel_rfl) (by kernel_rfl) hf rfl rfl rfl (fun _ => Y_move rfl rfl) ?_; clear hf; intro a hf
  refine mYp (i := 4) rfl (by kernel_rfl) (by kernel_rfl) hf rfl rfl rfl (fun _ => Y_move rfl rfl) ?_; clear hf; intro a hf
  obtain ⟨_, hz14, hm⟩ := bind_some hm
  refine mYp (i := 5) rfl (by kernel_rfl) (by kernel_rfl) hf rfl rfl rfl (fun _ => Y_quo rfl rfl rfl (nz_some hz14)) ?_; clear hf; intro a hf
  refine mYp (i := 6) rfl (by kernel_rfl) (by kernel_rfl) hf rfl rfl rfl (fun _ => Y_build (parts := [(0, .tmp 18), (1, .tmp 21)]) (vs := [.int .i64 (IntKind.i64.wrap (x3.tdiv r10)), .int .i64 (IntKind.i64.wrap (x4.tdiv r10))]) rfl rfl (run_build (parts := [(0, .int .i64 (IntKind.i64.wrap (x3.tdiv r10))), (1, .int .i64 (IntKind.i64.wrap (x4.tdiv r10)))]) (cells := [.int .i64 (IntKind.i64.wrap (x3.tdiv r10)), .int .i64 (IntKind.i64.wrap (x4.tdiv r10))]) (places := #[(0, 1), (1, 1)]) ti75 Try.underlying75 (fun w => by simp [go_sem]) rfl)) ?_; clear hf; intro a hf
  refine mRun (i := 7) rfl (by kernel_rfl) ?_
  refine sStore (i := 0) (us := [.int .i64 (IntKind.i64.wrap (x3.tdiv r10)), .int .i64 (IntKind.i64.wrap (x4.tdiv r10))]) hf hs rfl rfl rfl rfl rfl rfl ti75 rfl rfl rfl (Nat.le_of_ble_eq_true rfl) rfl ?_; clear hs; intro w hs
  have hs : St [] W w [.blk b1 75 [.int .i64 (IntKind.i64.wrap (x3.tdiv r10)), .int .i64 (IntKind.i64.wrap (x4.tdiv r10))]] := hs
  refine wpO_nil ⟨Or.inl (by decide), ?_⟩
  refine mDone (by kernel_rfl) ?_
  clear hs0
  obtain rfl := Option.some.inj hm
  refine wpL_ret (ret_cell rfl hf rfl hs (i := 0) rfl ag75 ti75 rfl ?_)
  exact ⟨_, rfl, rfl, hs.sel [] (by decide)⟩

set_option maxRecDepth 100000 in
theorem impl_cycleTime_ok (F : Nat) (ab : GEventGraph) (ac : Option Addr) (ap ad : Nat) (ax : ap = ab.Places.length) (r : GRatio × Int) (W : World) (hm : impl_cycleTime F ab = some r) (aq : Rd W ac ((recs GPlace.cells) ab.Places)) :
  Calls Try.prog 149 [.agg #[.int .i64 ab.Events, .slice ac ap ad]].toArray W fun e w' => ∃ v, e = .returned v ∧ v = .tuple #[.agg #[.int .i64 r.1.Num, .int .i64 r.1.Den], .int .i64 r.2] ∧ St [] W w' [] := by
 subst ax
 unfold impl_cycleTime at hm
 refine Calls.enter (N := 30) Try.func149 rfl rfl rfl (fun a hf => ?_)
 have hs := St.start W
 obtain ⟨w, hw_⟩ : ∃ w, w = W := ⟨W, rfl⟩
 clear hw_ w
 refine wpL_seq <| wpL_region ?_
 refine sBox hf hs rfl rfl rfl rfl rfl (cs := [.int .i64 ab.Events, .slice ac ab.Places.length ad]) rfl ?_; clear hf hs; intro a w b1 hs hf
 have hs : St [] W w [.blk b1 59 [.int .i64 ab.Events, .slice ac ab.Places.length ad]] := hs
 refine sAlloc hf hs rfl rfl rfl rfl ti75 ?_; clear hf hs; intro a w b2 hs hf
 have hs : St [] W w [.blk b1 59 [.int .i64 ab.Events, .slice ac ab.Places.length ad], .blk b2 75 [.int .i64 0, .int .i64 0]] := hs
 refine sY hf hs rfl rfl rfl (Y_assign rfl rfl) ?_; clear hf; intro a hf
 refine wpO_nil <| wpL_seq <| wpL_seq <| wpL_region ?_
 refine sY hf hs rfl rfl rfl (Y_load_blkS rfl rfl (i := 0) rfl ag59 ti59 rfl) ?_; clear hf; intro a hf
 obtain ⟨r3, hc4, hm⟩ := bind_some hm
 refine sCall hf rfl rfl rfl rfl (cap := []) rfl rfl en174 (impl_isLive_ok F ab ac ab.Places.length ad rfl _ _ hc4 (aq.at hs)) ?_; clear hf
 rintro _ w ⟨rfl, hs1⟩ a hf
 have hs : St [] W w [.blk b1 59 [.int .i64 ab.Events, .slice ac ab.Places.length ad], .blk b2 75 [.int .i64 0, .int .i64 0]] := hs.ext hs1.below
 clear hs1
 refine sY hf hs rfl rfl rfl (Y_not rfl rfl) ?_; clear hf; intro a hf
 refine wpO_nil ?_
 refine wpL_cond hf rfl (fun hb5 => ?_) (fun hb5 => ?_)
 ·have hm := bif_t hm hb5
  refine wpL_seq <| wpL_region ?_
  refine sY hf hs rfl rfl rfl (Y_build (parts := []) (vs := []) rfl rfl (run_build (parts := []) (cells := [.int .i64 0, .int .i64 0]) (places := #[(0, 1), (1, 1)]) ti75 Try.underlying75 (fun w => by simp [go_sem]) rfl)) ?_; clear hf; intro a hf
  refine sStore (i := 1) (us := [.int .i64 0, .int .i64 0]) hf hs rfl rfl rfl rfl rfl rfl ti75 rfl rfl rfl (Nat.le_of_ble_eq_true rfl) rfl ?_; clear hs; intro w hs
  have hs : St [] W w [.blk b1 59 [.int .i64 ab.Events, .slice ac ab.Places.length ad], .blk b2 75 [.int .i64 0, .int .i64 0]] := hs
  refine sY hf hs rfl rfl rfl (Y_assign rfl rfl) ?_; clear hf; intro a hf
  refine wpO_nil ?_
  obtain rfl := Option.some.inj hm
  refine wpL_ret (ret_cell_tmp rfl hf rfl rfl hs (i := 1) rfl ag75 ti75 rfl ?_)
  exact ⟨_, rfl, rfl, hs.sel [] (by decide)⟩
 ·have hm := bif_f hm hb5
  refine wpL_skip <| wpL_seq <| wpL_seq <| wpL_region ?_
  refine sY hf hs rfl rfl rfl (Y_load_blkS rfl rfl (i := 0) rfl ag59 ti59 rfl) ?_; clear hf; intro a hf
  obtain ⟨r6, hc7, hm⟩ := bind_some hm
  refine sCall hf rfl rfl rfl rfl (cap := []) rfl rfl en176 (impl_hasCircuit_ok F ab ac ab.Places.length ad rfl _ _ hc7 (aq.at hs)) ?_; clear hf
  rintro _ w ⟨rfl, hs1⟩ a hf
  have hs : St [] W w [.blk b1 59 [.int .i64 ab.Events, .slice ac ab.Places.length ad], .blk b2 75 [.int .i64 0, .int .i64 0]] := hs.ext hs1.below
  clear hs1
  refine sY hf hs rfl rfl rfl (Y_not rfl rfl) ?_; clear hf; intro a hf
  refine wpO_nil ?_
  refine wpL_cond hf rfl (fun hb8 => ?_) (fun hb8 => ?_)
  ·have hm := bif_t hm hb8
   refine wpL_seq <| wpL_region ?_
   refine sY hf hs rfl rfl rfl (Y_build (parts := []) (vs := []) rfl rfl (run_build (parts := []) (cells := [.int .i64 0, .int .i64 0]) (places := #[(0, 1), (1, 1)]) ti75 Try.underlying75 (fun w => by simp [go_sem]) rfl)) ?_; clear hf; intro a hf
   refine sStore (i := 1) (us := [.int .i64 0, .int .i64 0]) hf hs rfl rfl rfl rfl rfl rfl ti75 rfl rfl rfl (Nat.le_of_ble_eq_true rfl) rfl ?_; clear hs; intro w hs
   have hs : St [] W w [.blk b1 59 [.int .i64 ab.Events, .slice ac ab.Places.length ad], .blk b2 75 [.int .i64 0, .int .i64 0]] := hs
   refine sY hf hs rfl rfl rfl (Y_assign rfl rfl) ?_; clear hf; intro a hf
   refine wpO_nil ?_
   obtain rfl := Option.some.inj hm
   refine wpL_ret (ret_cell_tmp rfl hf rfl rfl hs (i := 1) rfl ag75 ti75 rfl ?_)
   exact ⟨_, rfl, rfl, hs.sel [] (by decide)⟩
  ·have hm := bif_f hm hb8
   refine wpL_skip <| wpL_seq <| wpL_region ?_
   refine sY hf hs rfl rfl rfl (Y_build (parts := [(0, .const (.int .i64 0)), (1, .const (.int .i64 1))]) (vs := [.int .i64 0, .int .i64 1]) rfl rfl (run_build (parts := [(0, .int .i64 0), (1, .int .i64 1)]) (cells := [.int .i64 0, .int .i64 1]) (places := #[(0, 1), (1, 1)]) ti75 Try.underlying75 (fun w => by simp [go_sem]) rfl)) ?_; clear hf; intro a hf
   refine sAlloc hf hs rfl rfl rfl rfl ti75 ?_; clear hf hs; intro a w b9 hs hf
   have hs : St [] W w [.blk b1 59 [.int .i64 ab.Events, .slice ac ab.Places.length ad], .blk b2 75 [.int .i64 0, .int .i64 0], .blk b9 75 [.int .i64 0, .int .i64 0]] := hs
   refine sStore (i := 2) (us := [.int .i64 0, .int .i64 1]) hf hs rfl rfl rfl rfl rfl rfl ti75 rfl rfl rfl (Nat.le_of_ble_eq_true rfl) rfl ?_; clear hs; intro w hs
   have hs : St [] W w [.blk b1 59 [.int .i64 ab.Events, .slice ac ab.Places.length ad], .blk b2 75 [.int .i64 0, .int .i64 0], .blk b9 75 [.int .i64 0, .int .i64 1]] := hs
   refine wpO_nil <| wpL_seq <| wpL_seq <| wpL_region ?_
   refine sY hf hs rfl rfl rfl (Y_load_blkS rfl rfl (i := 0) rfl ag59 ti59 rfl) ?_; clear hf; intro a hf
   refine sY hf hs rfl rfl rfl (Y_load_blkS rfl rfl (i := 2) rfl ag75 ti75 rfl) ?_; clear hf; intro a hf
   obtain ⟨r10, hc11, hm⟩ := bind_some hm
   refine sCall hf rfl rfl rfl rfl (cap := []) rfl rfl en177 (impl_betterCircuit_ok F ab ac ab.Places.length ad rfl (GRatio.mk 0 1) _ _ hc11 (aq.at hs)) ?_; clear hf
   rintro _ w ⟨A12, n13, c14, rfl, hn15, hz16, hs1⟩ a hf
   have hs : St [] W w [.blk b1 59 [.int .i64 ab.Events, .slice ac ab.Places.length ad], .blk b2 75 [.int .i64 0, .int .i64 0], .blk b9 75 [.int .i64 0, .int .i64 1], .row A12 n13 c14 2 1 (ints r10)] := hs.join hs1
   clear hs1
   refine sY hf hs rfl rfl rfl (Y_assign rfl rfl) ?_; clear hf; intro a hf
   refine wpO_nil ?_
   obtain ⟨r71, hl72, hm⟩ := bind_some hm
   refine wpL_block (fun a w => ∃ x69 : Int, ∃ x70 : Int, (x69, x70) = r71 ∧ Fr a 30 [(2, .pointer (some ⟨b2, 0, none⟩)), (4, .pointer (some ⟨b9, 0, none⟩))] ∧ St [] W w [.blk b2 75 [.int .i64 0, .int .i64 0], .blk b9 75 [.int .i64 x69, .int .i64 x70]]) ?_ ?_
   ·refine wpL_loop (fun n a w => ∃ x49 : Int, ∃ x50 : Int, ∃ xs51 : List Int, ∃ A52, ∃ n53, ∃ c54, impl_cycleTime_L1 F ab n x49 x50 xs51 = some r71 ∧ n53 = xs51.length ∧ (xs51 = [] → A52 = none) ∧ Fr a 30 [(1, .pointer (some ⟨b1, 0, none⟩)), (2, .pointer (some ⟨b2, 0, none⟩)), (4, .pointer (some ⟨b9, 0, none⟩)), (5, .slice A52 n53 c54)] ∧ St [] W w [.blk b1 59 [.int .i64 ab.Events, .slice ac ab.Places.length ad], .blk b2 75 [.int .i64 0, .int .i64 0], .blk b9 75 [.int .i64 x49, .int .i64 x50], .row A52 n53 c54 2 1 (ints xs51)]) F ?_ ?_ ?_
    ·exact ⟨0, 1, r10, A12, n13, c14, hl72, hn15, hz16, (FrD.pick (FrD.pick (FrD.pick (FrD.pick hf.none hf rfl) hf rfl) hf rfl) hf rfl), hs⟩
    ·rintro a w ⟨x49, x50, xs51, A52, n53, c54, h0_, -, -, -, -⟩; simp [impl_cycleTime_L1] at h0_
    ·rintro n74 a w ⟨x49, x50, xs51, A52, n53, c54, hm73, hn55, hz56, hf, hs⟩
     rw [impl_cycleTime_L1] at hm73
     refine wpL_seq <| wpL_seq <| wpL_region ?_
     refine sY hf hs rfl rfl rfl (Y_move rfl rfl) ?_; clear hf; intro a hf
     refine sY hf hs rfl rfl rfl (Y_neqnilO rfl rfl rfl un23 (hs.nilInts (i := 3) rfl hn55 hz56)) ?_; clear hf; intro a hf
     refine wpO_nil ?_
     refine wpL_cond hf rfl (fun hb75 => ?_) (fun hb75 => ?_)
     ·have hm73 := bif_t hm73 hb75
      refine wpL_skip <| wpL_seq <| wpL_block0 <| wpL_region ?_
      refine sY hf hs rfl rfl rfl (Y_load_blkS rfl rfl (i := 0) rfl ag59 ti59 rfl) ?_; clear hf; intro a hf
      refine sY hf hs rfl rfl rfl (Y_move rfl rfl) ?_; clear hf; intro a hf
      obtain ⟨r76, hc77, hm73⟩ := bind_some hm73
      refine sCall hf rfl rfl rfl rfl (cap := []) rfl rfl en179 (impl_circuitSums_ok F ab ac ab.Places.length ad rfl xs51 A52 n53 c54 hn55 _ _ hc77 (aq.at hs) (hs.rd (i := 3) rfl)) ?_; clear hf
      rintro _ w ⟨rfl, hs1⟩ a hf
      have hs : St [] W w [.blk b1 59 [.int .i64 ab.Events, .slice ac ab.Places.length ad], .blk b2 75 [.int .i64 0, .int .i64 0], .blk b9 75 [.int .i64 x49, .int .i64 x50], .row A52 n53 c54 2 1 (ints xs51)] := hs.ext hs1.below
      clear hs1
      refine sY hf hs rfl rfl rfl (Y_extract rfl rfl rfl) ?_; clear hf; intro a hf
      refine sY hf hs rfl rfl rfl (Y_extract rfl rfl rfl) ?_; clear hf; intro a hf
      obtain ⟨r78, hc79, hm73⟩ := bind_some hm73
      refine sCall hf rfl rfl rfl rfl (cap := []) rfl rfl en178 (impl_ratioOf_ok F r76.1 r76.2 _ _ hc79) ?_; clear hf
      rintro _ w ⟨rfl, hs1⟩ a hf
      have hs : St [] W w [.blk b1 59 [.int .i64 ab.Events, .slice ac ab.Places.length ad], .blk b2 75 [.int .i64 0, .int .i64 0], .blk b9 75 [.int .i64 x49, .int .i64 x50], .row A52 n53 c54 2 1 (ints xs51)] := hs.ext hs1.below
      clear hs1
      refine sStore (i := 2) (us := [.int .i64 r78.Num, .int .i64 r78.Den]) hf hs rfl rfl rfl rfl rfl rfl ti75 rfl rfl rfl (Nat.le_of_ble_eq_true rfl) rfl ?_; clear hs; intro w hs
      have hs : St [] W w [.blk b1 59 [.int .i64 ab.Events, .slice ac ab.Places.length ad], .blk b2 75 [.int .i64 0, .int .i64 0], .blk b9 75 [.int .i64 r78.Num, .int .i64 r78.Den], .row A52 n53 c54 2 1 (ints xs51)] := hs
      refine wpO_nil ?_
      refine wpL_nil (Qb_normal ?_)
      refine wpL_region ?_
      refine sY hf hs rfl rfl rfl (Y_load_blkS rfl rfl (i := 0) rfl ag59 ti59 rfl) ?_; clear hf; intro a hf
      refine sY hf hs rfl rfl rfl (Y_load_blkS rfl rfl (i := 2) rfl ag75 ti75 rfl) ?_; clear hf; intro a hf
      obtain ⟨r80, hc81, hm73⟩ := bind_some hm73
      refine sCall hf rfl rfl rfl rfl (cap := []) rfl rfl en177 (impl_betterCircuit_ok F ab ac ab.Places.length ad rfl r78 _ _ hc81 (aq.at hs)) ?_; clear hf
      rintro _ w ⟨A82, n83, c84, rfl, hn85, hz86, hs1⟩ a hf
      have hs : St [] W w [.blk b1 59 [.int .i64 ab.Events, .slice ac ab.Places.length ad], .blk b2 75 [.int .i64 0, .int .i64 0], .blk b9 75 [.int .i64 r78.Num, .int .i64 r78.Den], .row A52 n53 c54 2 1 (ints xs51), .row A82 n83 c84 2 1 (ints r80)] := hs.join hs1
      clear hs1
      refine sY hf hs rfl rfl rfl (Y_assign rfl rfl) ?_; clear hf; intro a hf
      refine wpO_nil ?_
      refine wpL_nil (Ql_normal ?_)
      exact ⟨r78.Num, r78.Den, r80, A82, n83, c84, hm73, hn85, hz86, (FrD.pick (FrD.pick (FrD.pick (FrD.pick hf.none hf rfl) hf rfl) hf rfl) hf rfl), hs.sel [0, 1, 2, 4] (by decide)⟩
     ·have hm73 := bif_f hm73 hb75
      refine wpL_exit (Ql_exit (Qb_exit ?_))
      exact ⟨x49, x50, Option.some.inj hm73, (FrD.pick (FrD.pick hf.none hf rfl) hf rfl), hs.sel [1, 2] (by decide)⟩
   ·rintro a w ⟨x69, x70, hr_, hf, hs⟩
    subst hr_
    try dsimp only at hm
    refine wpL_seq <| wpL_region ?_
    refine sY hf hs rfl rfl rfl (Y_load_blkS rfl rfl (i := 1) rfl ag75 ti75 rfl) ?_; clear hf; intro a hf
    refine sStore (i := 0) (us := [.int .i64 x69, .int .i64 x70]) hf hs rfl rfl rfl rfl rfl rfl ti75 rfl rfl rfl (Nat.le_of_ble_eq_true rfl) rfl ?_; clear hs; intro w hs
    have hs : St [] W w [.blk b2 75 [.int .i64 x69, .int .i64 x70], .blk b9 75 [.int .i64 x69, .int .i64 x70]] := hs
    refine sY hf hs rfl rfl rfl (Y_assign rfl rfl) ?_; clear hf; intro a hf
    refine wpO_nil ?_
    obtain rfl := Option.some.inj hm
    refine wpL_ret (ret_cell_tmp rfl hf rfl rfl hs (i := 0) rfl ag75 ti75 rfl ?_)
    exact ⟨_, rfl, rfl, hs.sel [] (by decide)⟩

set_option maxRecDepth 100000 in
theorem impl_CycleTime_ok (F : Nat) (ab : GEventGraph) (ac : Option Addr) (ap ad : Nat) (ax : ap = ab.Places.length) (r : GRatio × Int) (W : World) (hm : impl_CycleTime F ab = some r) (aq : Rd W ac ((recs GPlace.cells) ab.Places)) :
  Calls Try.prog 57 [.agg #[.int .i64 ab.Events, .slice ac ap ad]].toArray W fun e w' => ∃ v, e = .returned v ∧ v = .tuple #[.agg #[.int .i64 r.1.Num, .int .i64 r.1.Den], .int .i64 r.2] ∧ St [] W w' [] := by
 subst ax
 unfold impl_CycleTime at hm
 refine Calls.enter (N := 12) Try.func57 rfl rfl rfl (fun a hf => ?_)
 have hs := St.start W
 obtain ⟨w, hw_⟩ : ∃ w, w = W := ⟨W, rfl⟩
 clear hw_ w
 refine wpL_seq <| wpL_region ?_
 refine sBox hf hs rfl rfl rfl rfl rfl (cs := [.int .i64 ab.Events, .slice ac ab.Places.length ad]) rfl ?_; clear hf hs; intro a w b1 hs hf
 have hs : St [] W w [.blk b1 59 [.int .i64 ab.Events, .slice ac ab.Places.length ad]] := hs
 refine sAlloc hf hs rfl rfl rfl rfl ti75 ?_; clear hf hs; intro a w b2 hs hf
 have hs : St [] W w [.blk b1 59 [.int .i64 ab.Events, .slice ac ab.Places.length ad], .blk b2 75 [.int .i64 0, .int .i64 0]] := hs
 refine sY hf hs rfl rfl rfl (Y_assign rfl rfl) ?_; clear hf; intro a hf
 refine wpO_nil <| wpL_seq <| wpL_seq <| wpL_region ?_
 refine sY hf hs rfl rfl rfl (Y_load_blkS rfl rfl (i := 0) rfl ag59 ti59 rfl) ?_; clear hf; intro a hf
 obtain ⟨r3, hc4, hm⟩ := bind_some hm
 refine sCall hf rfl rfl rfl rfl (cap := []) rfl rfl en51 (impl_IsEventGraph_ok F ab ac ab.Places.length ad rfl _ _ hc4 (aq.at hs)) ?_; clear hf
 rintro _ w ⟨rfl, hs1⟩ a hf
 have hs : St [] W w [.blk b1 59 [.int .i64 ab.Events, .slice ac ab.Places.length ad], .blk b2 75 [.int .i64 0, .int .i64 0]] := hs.ext hs1.below
 clear hs1
 refine sY hf hs rfl rfl rfl (Y_not rfl rfl) ?_; clear hf; intro a hf
 refine wpO_nil ?_
 refine wpL_cond hf rfl (fun hb5 => ?_) (fun hb5 => ?_)
 ·have hm := bif_t hm hb5
  refine wpL_seq <| wpL_region ?_
  refine sY hf hs rfl rfl rfl (Y_build (parts := []) (vs := []) rfl rfl (run_build (parts := []) (cells := [.int .i64 0, .int .i64 0]) (places := #[(0, 1), (1, 1)]) ti75 Try.underlying75 (fun w => by simp [go_sem]) rfl)) ?_; clear hf; intro a hf
  refine sStore (i := 1) (us := [.int .i64 0, .int .i64 0]) hf hs rfl rfl rfl rfl rfl rfl ti75 rfl rfl rfl (Nat.le_of_ble_eq_true rfl) rfl ?_; clear hs; intro w hs
  have hs : St [] W w [.blk b1 59 [.int .i64 ab.Events, .slice ac ab.Places.length ad], .blk b2 75 [.int .i64 0, .int .i64 0]] := hs
  refine sY hf hs rfl rfl rfl (Y_assign rfl rfl) ?_; clear hf; intro a hf
  refine wpO_nil ?_
  obtain rfl := Option.some.inj hm
  refine wpL_ret (ret_cell_tmp rfl hf rfl rfl hs (i := 1) rfl ag75 ti75 rfl ?_)
  exact ⟨_, rfl, rfl, hs.sel [] (by decide)⟩
 ·have hm := bif_f hm hb5
  refine wpL_skip <| wpL_seq <| wpL_region ?_
  refine sY hf hs rfl rfl rfl (Y_load_blkS rfl rfl (i := 0) rfl ag59 ti59 rfl) ?_; clear hf; intro a hf
  obtain ⟨r6, hc7, hm⟩ := bind_some hm
  refine sCall hf rfl rfl rfl rfl (cap := []) rfl rfl en149 (impl_cycleTime_ok F ab ac ab.Places.length ad rfl _ _ hc7 (aq.at hs)) ?_; clear hf
  rintro _ w ⟨rfl, hs1⟩ a hf
  have hs : St [] W w [.blk b1 59 [.int .i64 ab.Events, .slice ac ab.Places.length ad], .blk b2 75 [.int .i64 0, .int .i64 0]] := hs.ext hs1.below
  clear hs1
  refine sY hf hs rfl rfl rfl (Y_extract rfl rfl rfl) ?_; clear hf; intro a hf
  refine sY hf hs rfl rfl rfl (Y_extract rfl rfl rfl) ?_; clear hf; intro a hf
  refine sStore (i := 1) (us := [.int .i64 r6.1.Num, .int .i64 r6.1.Den]) hf hs rfl rfl rfl rfl rfl rfl ti75 rfl rfl rfl (Nat.le_of_ble_eq_true rfl) rfl ?_; clear hs; intro w hs
  have hs : St [] W w [.blk b1 59 [.int .i64 ab.Events, .slice ac ab.Places.length ad], .blk b2 75 [.int .i64 r6.1.Num, .int .i64 r6.1.Den]] := hs
  refine sY hf hs rfl rfl rfl (Y_assign rfl rfl) ?_; clear hf; intro a hf
  refine wpO_nil ?_
  obtain rfl := Option.some.inj hm
  refine wpL_ret (ret_cell_tmp rfl hf rfl rfl hs (i := 1) rfl ag75 ti75 rfl ?_)
  exact ⟨_, rfl, rfl, hs.sel [] (by decide)⟩

end Go.Proofs.Ytgkgimglgjfcjaa
