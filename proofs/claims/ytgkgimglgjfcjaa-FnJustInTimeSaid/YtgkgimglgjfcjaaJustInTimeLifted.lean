/- The functions do what their models say. -/
import Derived.Test.YtgkgimglgjfcjaaJustInTimeLifted3
import Derived.Test.YtgkgimglgjfcjaaRows
namespace Go.Proofs.Ytgkgimglgjfcjaa
open Go.RowKit

set_option maxRecDepth 100000 in
theorem laws_dice_below_ok (F : Nat) (b_p0_d : Nat) (p0_d_b : List Int) (A_p0_d_b : Option Addr) (n_p0_d_b c_p0_d_b : Nat) (hn_p0_d_b : n_p0_d_b = p0_d_b.length) (p0_d_i : Int) (p0_d_h : Int) (p1_n : Int) (r : (Int) × Int × Int) (W : World) (hm : laws_dice_below F p0_d_b p0_d_i p0_d_h p1_n = some r) (h_p0_d_b : KR (muL [.blk b_p0_d 119 [.slice A_p0_d_b n_p0_d_b c_p0_d_b, .int .i64 p0_d_i, .int .u64 p0_d_h]]) W A_p0_d_b (bytes p0_d_b)) (hst : St (muL [.blk b_p0_d 119 [.slice A_p0_d_b n_p0_d_b c_p0_d_b, .int .i64 p0_d_i, .int .u64 p0_d_h]]) W W [.blk b_p0_d 119 [.slice A_p0_d_b n_p0_d_b c_p0_d_b, .int .i64 p0_d_i, .int .u64 p0_d_h]]) :
    Calls Try.prog 34 [.pointer (some ⟨b_p0_d, 0, none⟩), .int .i64 p1_n].toArray W fun e w' => ∃ v, e = .returned v ∧ v = .int .i64 r.1 ∧ St (muL [.blk b_p0_d 119 [.slice A_p0_d_b n_p0_d_b c_p0_d_b, .int .i64 p0_d_i, .int .u64 p0_d_h]]) W w' [.blk b_p0_d 119 [.slice A_p0_d_b n_p0_d_b c_p0_d_b, .int .i64 r.2.1, .int .u64 r.2.2]] := by
  subst hn_p0_d_b
  unfold laws_dice_below at hm
  refine Calls.enter (N := 56) Try.func34 rfl rfl rfl (fun a hf => ?_)
  have hs := hst
  obtain ⟨w, hw_⟩ : ∃ w, w = W := ⟨W, rfl⟩
  clear hw_ w
  refine wpL_seq ?_
  refine wpL_region ?_
  refine sY hf hs rfl rfl rfl (Y_assign rfl rfl) ?_; clear hf; intro a hf
  refine wpO_nil ?_
  refine wpL_seq ?_
  refine wpL_region ?_
  refine sY hf hs rfl rfl rfl (Y_move rfl rfl) ?_; clear hf; intro a hf
  refine sY hf hs rfl rfl rfl (Y_move rfl rfl) ?_; clear hf; intro a hf
  refine sY hf hs rfl rfl rfl (Y_nilCheck rfl rfl) ?_; clear hf; intro a hf
  refine sY hf hs rfl rfl rfl (Y_fieldAddr rfl rfl fo119_2) ?_; clear hf; intro a hf
  refine sY hf hs rfl rfl rfl (Y_load_blk rfl rfl (i := 0) rfl rfl ag48) ?_; clear hf; intro a hf
  refine sY hf hs rfl rfl rfl (Y_mul rfl rfl rfl) ?_; clear hf; intro a hf
  refine sY hf hs rfl rfl rfl (Y_add rfl rfl rfl) ?_; clear hf; intro a hf
  refine sY hf hs rfl rfl rfl (Y_nilCheck rfl rfl) ?_; clear hf; intro a hf
  refine sY hf hs rfl rfl rfl (Y_fieldAddr rfl rfl fo119_2) ?_; clear hf; intro a hf
  refine sStore (i := 0) (us := [.int .u64 (IntKind.u64.wrap ((IntKind.u64.wrap (p0_d_h * 6364136223846793005)) + 1442695040888963407))]) hf hs rfl rfl rfl rfl rfl rfl ti48 rfl rfl rfl (Nat.le_of_ble_eq_true rfl) rfl ?_; clear hs; intro w hs
  have hs : St (muL [.blk b_p0_d 119 [.slice A_p0_d_b p0_d_b.length c_p0_d_b, .int .i64 p0_d_i, .int .u64 p0_d_h]]) W w [.blk b_p0_d 119 [.slice A_p0_d_b p0_d_b.length c_p0_d_b, .int .i64 p0_d_i, .int .u64 (IntKind.u64.wrap ((IntKind.u64.wrap (p0_d_h * 6364136223846793005)) + 1442695040888963407))]] := hs
  refine wpO_nil ?_
  refine wpL_seq ?_
  refine wpL_region ?_
  refine sY hf hs rfl rfl rfl (Y_move rfl rfl) ?_; clear hf; intro a hf
  refine sY hf hs rfl rfl rfl (Y_nilCheck rfl rfl) ?_; clear hf; intro a hf
  refine sY hf hs rfl rfl rfl (Y_fieldAddr rfl rfl fo119_2) ?_; clear hf; intro a hf
  refine sY hf hs rfl rfl rfl (Y_load_blk rfl rfl (i := 0) rfl rfl ag48) ?_; clear hf; intro a hf
  refine sY hf hs rfl rfl rfl (Y_shr rfl rfl rfl (by decide) (by decide)) ?_; clear hf; intro a hf
  refine sY hf hs rfl rfl rfl (Y_and rfl rfl rfl) ?_; clear hf; intro a hf
  refine sY hf hs rfl rfl rfl (Y_convert rfl rfl un48 un2) ?_; clear hf; intro a hf
  refine sY hf hs rfl rfl rfl (Y_assign rfl rfl) ?_; clear hf; intro a hf
  refine wpO_nil ?_
  refine wpL_seq ?_
  refine wpL_seq ?_
  refine wpL_draw (by kernel_rfl) (by kernel_rfl) hs ?_
  refine qY hf rfl rfl rfl (Y_move rfl rfl) ?_; clear hf; intro a hf
  refine qY hf rfl rfl rfl (Y_nilCheck rfl rfl) ?_; clear hf; intro a hf
  refine qY hf rfl rfl rfl (Y_fieldAddr rfl rfl fo119_1) ?_; clear hf; intro a hf
  refine qY hf rfl rfl rfl (Y_load_blk rfl rfl (i := 0) rfl rfl ag3) ?_; clear hf; intro a hf
  refine qY hf rfl rfl rfl (Y_move rfl rfl) ?_; clear hf; intro a hf
  refine qY hf rfl rfl rfl (Y_nilCheck rfl rfl) ?_; clear hf; intro a hf
  refine qY hf rfl rfl rfl (Y_fieldAddr rfl rfl fo119_0) ?_; clear hf; intro a hf
  refine qY hf rfl rfl rfl (Y_load_blk rfl rfl (i := 0) rfl rfl ag34) ?_; clear hf; intro a hf
  refine qY hf rfl rfl rfl (Y_lenH rfl rfl el34 rfl) ?_; clear hf; intro a hf
  refine qY hf rfl rfl rfl (Y_lss rfl rfl rfl) ?_; clear hf; intro a hf
  refine qNil ?_; clear hs; intro w hs
  obtain ⟨r6, hj7, hm⟩ := bind_some hm
  refine wpL_cut (fun a w => ∃ x4 : Int, ∃ x5 : Int, (x4, x5) = r6 ∧ Fr a 56 [(1, .int .i64 p1_n), (5, .int .i64 x5)] ∧ St (muL [.blk b_p0_d 119 [.slice A_p0_d_b p0_d_b.length c_p0_d_b, .int .i64 p0_d_i, .int .u64 p0_d_h]]) W w [.blk b_p0_d 119 [.slice A_p0_d_b p0_d_b.length c_p0_d_b, .int .i64 x4, .int .u64 (IntKind.u64.wrap ((IntKind.u64.wrap (p0_d_h * 6364136223846793005)) + 1442695040888963407))]]) ?_ ?_
  · refine wpL_cond hf rfl (fun hb8 => ?_) (fun hb8 => ?_)
    · have hj7 := bif_t hj7 hb8
      refine wpL_seq ?_
      refine wpL_draw (by kernel_rfl) (by kernel_rfl) hs ?_
      refine qY hf rfl rfl rfl (Y_move rfl rfl) ?_; clear hf; intro a hf
      refine qY hf rfl rfl rfl (Y_move rfl rfl) ?_; clear hf; intro a hf
      refine qY hf rfl rfl rfl (Y_nilCheck rfl rfl) ?_; clear hf; intro a hf
      refine qY hf rfl rfl rfl (Y_fieldAddr rfl rfl fo119_0) ?_; clear hf; intro a hf
      refine qY hf rfl rfl rfl (Y_load_blk rfl rfl (i := 0) rfl rfl ag34) ?_; clear hf; intro a hf
      refine qY hf rfl rfl rfl (Y_move rfl rfl) ?_; clear hf; intro a hf
      refine qY hf rfl rfl rfl (Y_nilCheck rfl rfl) ?_; clear hf; intro a hf
      refine qY hf rfl rfl rfl (Y_fieldAddr rfl rfl fo119_1) ?_; clear hf; intro a hf
      refine qY hf rfl rfl rfl (Y_load_blk rfl rfl (i := 0) rfl rfl ag3) ?_; clear hf; intro a hf
      obtain ⟨q9, hi10, hj7⟩ := bind_some hj7
      obtain ⟨hi10a, hi10b, hi10q⟩ := idx_some hi10
      refine qY hf rfl rfl rfl (Y_index rfl rfl rfl el34 ti5 (Rd.isAt (h_p0_d_b.at hs) (at1 (bytes_at hi10q))) hi10a hi10b) ?_; clear hf; intro a hf
      refine qY hf rfl rfl rfl (Y_load_rd rfl rfl (fun w hs => h_p0_d_b.at hs) (at1 (bytes_at hi10q)) ag5) ?_; clear hf; intro a hf
      refine qY hf rfl rfl rfl (Y_convert rfl rfl un5 un2) ?_; clear hf; intro a hf
      refine qY hf rfl rfl rfl (Y_add rfl rfl rfl) ?_; clear hf; intro a hf
      refine qY hf rfl rfl rfl (Y_assign rfl rfl) ?_; clear hf; intro a hf
      refine qNil ?_; clear hs; intro w hs
      refine wpL_region ?_
      refine sY hf hs rfl rfl rfl (Y_move rfl rfl) ?_; clear hf; intro a hf
      refine sY hf hs rfl rfl rfl (Y_move rfl rfl) ?_; clear hf; intro a hf
      refine sY hf hs rfl rfl rfl (Y_nilCheck rfl rfl) ?_; clear hf; intro a hf
      refine sY hf hs rfl rfl rfl (Y_fieldAddr rfl rfl fo119_1) ?_; clear hf; intro a hf
      refine sY hf hs rfl rfl rfl (Y_load_blk rfl rfl (i := 0) rfl rfl ag3) ?_; clear hf; intro a hf
      refine sY hf hs rfl rfl rfl (Y_add rfl rfl rfl) ?_; clear hf; intro a hf
      refine sY hf hs rfl rfl rfl (Y_nilCheck rfl rfl) ?_; clear hf; intro a hf
      refine sY hf hs rfl rfl rfl (Y_fieldAddr rfl rfl fo119_1) ?_; clear hf; intro a hf
      refine sStore (i := 0) (us := [.int .i64 (IntKind.i64.wrap (p0_d_i + 1))]) hf hs rfl rfl rfl rfl rfl rfl ti3 rfl rfl rfl (Nat.le_of_ble_eq_true rfl) rfl ?_; clear hs; intro w hs
      have hs : St (muL [.blk b_p0_d 119 [.slice A_p0_d_b p0_d_b.length c_p0_d_b, .int .i64 p0_d_i, .int .u64 p0_d_h]]) W w [.blk b_p0_d 119 [.slice A_p0_d_b p0_d_b.length c_p0_d_b, .int .i64 (IntKind.i64.wrap (p0_d_i + 1)), .int .u64 (IntKind.u64.wrap ((IntKind.u64.wrap (p0_d_h * 6364136223846793005)) + 1442695040888963407))]] := hs
      refine wpO_nil ?_
      refine wpL_nil (then_normal ?_)
      exact ⟨(IntKind.i64.wrap (p0_d_i + 1)), (IntKind.i64.wrap ((IntKind.i64.wrap (andI .u64 (shrI (IntKind.u64.wrap ((IntKind.u64.wrap (p0_d_h * 6364136223846793005)) + 1442695040888963407)) 33) 16777215)) + (IntKind.i64.wrap q9))), Option.some.inj hj7, (FrD.pick (FrD.pick hf.none hf rfl) hf rfl), hs⟩
    · have hj7 := bif_f hj7 hb8
      refine wpL_skip ?_
      refine wpL_nil (then_normal ?_)
      exact ⟨p0_d_i, (IntKind.i64.wrap (andI .u64 (shrI (IntKind.u64.wrap ((IntKind.u64.wrap (p0_d_h * 6364136223846793005)) + 1442695040888963407)) 33) 16777215)), Option.some.inj hj7, (FrD.pick (FrD.pick hf.none hf rfl) hf rfl), hs⟩
  · rintro a w ⟨x4, x5, hr_, hf, hs⟩
    subst hr_
    try dsimp only at hm
    refine wpL_seq ?_
    refine wpL_region ?_
    refine sY hf hs rfl rfl rfl (Y_move rfl rfl) ?_; clear hf; intro a hf
    refine sY hf hs rfl rfl rfl (Y_move rfl rfl) ?_; clear hf; intro a hf
    obtain ⟨_, hz11, hm⟩ := bind_some hm
    refine sY hf hs rfl rfl rfl (Y_rem rfl rfl rfl (nz_some hz11)) ?_; clear hf; intro a hf
    refine sY hf hs rfl rfl rfl (Y_assign rfl rfl) ?_; clear hf; intro a hf
    refine wpO_nil ?_
    obtain rfl := Option.some.inj hm
    refine wpL_ret (ret_tmp rfl hf rfl ?_)
    exact ⟨_, rfl, rfl, hs⟩

set_option maxHeartbeats 2000000 in
set_option maxRecDepth 100000 in
theorem laws_FnJustInTime_ok (F : Nat) (p0 : List Int) (A_p0_1 : Option Addr) (n_p0_1 c_p0_1 : Nat) (hn_p0_1 : n_p0_1 = p0.length) (r : Bool) (W : World) (hm : laws_FnJustInTime F p0 = some r) (h_p0_1 : Rd W A_p0_1 (bytes p0)) :
    Calls Try.prog 6 [.slice A_p0_1 n_p0_1 c_p0_1].toArray W fun e w' => ∃ v, e = .returned v ∧ v = .bool r ∧ St [] W w' [] := by
  subst hn_p0_1
  unfold laws_FnJustInTime at hm
  refine Calls.enter (N := 165) Try.func6 rfl rfl rfl (fun a hf => ?_)
  have hs := St.start W
  obtain ⟨w, hw_⟩ : ∃ w, w = W := ⟨W, rfl⟩
  clear hw_ w
  refine wpL_seq ?_
  refine wpL_region ?_
  refine sY hf hs rfl rfl rfl (Y_assign rfl rfl) ?_; clear hf; intro a hf
  refine wpO_nil ?_
  refine wpL_seq ?_
  refine wpL_seq ?_
  refine wpL_region ?_
  refine sY hf hs rfl rfl rfl (Y_move rfl rfl) ?_; clear hf; intro a hf
  obtain ⟨r1, hc2, hm⟩ := bind_some hm
  refine sCall hf rfl rfl rfl rfl (cap := []) rfl rfl en17 (laws_big_ok F p0 A_p0_1 p0.length c_p0_1 rfl _ _ hc2 (h_p0_1.at hs)) ?_; clear hf
  rintro _ w ⟨rfl, hs1⟩ a hf
  have hs : St [] W w [] := hs.ext hs1.below
  clear hs1
  refine wpO_nil ?_
  refine wpL_cond hf rfl (fun hb3 => ?_) (fun hb3 => ?_)
  · have hm := bif_t hm hb3
    refine wpL_seq ?_
    refine wpL_region ?_
    refine sY hf hs rfl rfl rfl (Y_assign rfl rfl) ?_; clear hf; intro a hf
    refine wpO_nil ?_
    obtain rfl := Option.some.inj hm
    refine wpL_ret (ret_tmp rfl hf rfl ?_)
    exact ⟨_, rfl, rfl, hs⟩
  · have hm := bif_f hm hb3
    refine wpL_skip ?_
    refine wpL_seq ?_
    refine wpL_region ?_
    refine sY hf hs rfl rfl rfl (Y_move rfl rfl) ?_; clear hf; intro a hf
    obtain ⟨r4, hc5, hm⟩ := bind_some hm
    refine sCall hf rfl rfl rfl rfl (cap := []) rfl rfl en35 (spec_DrawLatestInputs_ok F p0 A_p0_1 p0.length c_p0_1 rfl _ _ hc5 (h_p0_1.at hs)) ?_; clear hf
    rintro _ w ⟨A6, n7, c8, vs10, A11, n12, c13, A15, n16, c17, A19, n20, c21, rfl, hn9, hn14, hn18, hn22, hs1⟩ a hf
    have hs : St [] W w [.mat A6 n7 c8 23 2 vs10 r4.1.A, .row A11 n12 c13 2 1 (ints r4.1.B), .row A15 n16 c17 2 1 (ints r4.1.C), .row A19 n20 c21 2 1 (ints r4.2)] := hs.join hs1
    clear hs1
    refine sY hf hs rfl rfl rfl (Y_move rfl rfl) ?_; clear hf; intro a hf
    refine sY hf hs rfl rfl rfl (Y_extract rfl rfl rfl) ?_; clear hf; intro a hf
    refine sY hf hs rfl rfl rfl (Y_extract rfl rfl rfl) ?_; clear hf; intro a hf
    refine sAlloc hf hs rfl rfl rfl rfl ti27 ?_; clear hf hs; intro a w b23 hs hf
    have hs : St [] W w [.mat A6 n7 c8 23 2 vs10 r4.1.A, .row A11 n12 c13 2 1 (ints r4.1.B), .row A15 n16 c17 2 1 (ints r4.1.C), .row A19 n20 c21 2 1 (ints r4.2), .blk b23 27 [.slice none 0 0, .slice none 0 0, .slice none 0 0]] := hs
    refine sStore (i := 4) (us := [.slice A6 n7 c8, .slice A11 n12 c13, .slice A15 n16 c17]) hf hs rfl rfl rfl rfl rfl rfl ti27 rfl rfl rfl (Nat.le_of_ble_eq_true rfl) rfl ?_; clear hs; intro w hs
    have hs : St [] W w [.mat A6 n7 c8 23 2 vs10 r4.1.A, .row A11 n12 c13 2 1 (ints r4.1.B), .row A15 n16 c17 2 1 (ints r4.1.C), .row A19 n20 c21 2 1 (ints r4.2), .blk b23 27 [.slice A6 n7 c8, .slice A11 n12 c13, .slice A15 n16 c17]] := hs
    refine sY hf hs rfl rfl rfl (Y_assign rfl rfl) ?_; clear hf; intro a hf
    refine wpO_nil ?_
    refine wpL_seq ?_
    refine wpL_region ?_
    refine sY hf hs rfl rfl rfl (Y_load_blkS rfl rfl (i := 4) rfl ag27 ti27 rfl) ?_; clear hf; intro a hf
    refine sY hf hs rfl rfl rfl (Y_move rfl rfl) ?_; clear hf; intro a hf
    obtain ⟨r24, hc25, hm⟩ := bind_some hm
    refine sCall hf rfl rfl rfl rfl (cap := []) rfl rfl en36 (impl_LatestInputs_ok F (GSystem.mk r4.1.A r4.1.B r4.1.C) A6 n7 c8 hn9 A11 n12 c13 hn14 A15 n16 c17 hn18 r4.2 A19 n20 c21 hn22 _ _ hc25 (hs.rdM (i := 0) rfl) (hs.rd (i := 1) rfl) (hs.rd (i := 2) rfl) (hs.rd (i := 3) rfl)) ?_; clear hf
    rintro _ w ⟨A26, n27, c28, rfl, hn29, hs1⟩ a hf
    have hs : St [] W w [.mat A6 n7 c8 23 2 vs10 r4.1.A, .row A11 n12 c13 2 1 (ints r4.1.B), .row A15 n16 c17 2 1 (ints r4.1.C), .row A19 n20 c21 2 1 (ints r4.2), .blk b23 27 [.slice A6 n7 c8, .slice A11 n12 c13, .slice A15 n16 c17], .row A26 n27 c28 2 1 (ints r24.1)] := hs.join hs1
    clear hs1
    refine sY hf hs rfl rfl rfl (Y_move rfl rfl) ?_; clear hf; intro a hf
    refine sY hf hs rfl rfl rfl (Y_extract rfl rfl rfl) ?_; clear hf; intro a hf
    refine sY hf hs rfl rfl rfl (Y_extract rfl rfl rfl) ?_; clear hf; intro a hf
    refine sY hf hs rfl rfl rfl (Y_assign rfl rfl) ?_; clear hf; intro a hf
    refine sY hf hs rfl rfl rfl (Y_assign rfl rfl) ?_; clear hf; intro a hf
    refine wpO_nil ?_
    refine wpL_seq ?_
    refine wpL_region ?_
    refine sY hf hs rfl rfl rfl (Y_load_blkS rfl rfl (i := 4) rfl ag27 ti27 rfl) ?_; clear hf; intro a hf
    refine sY hf hs rfl rfl rfl (Y_move rfl rfl) ?_; clear hf; intro a hf
    obtain ⟨r30, hc31, hm⟩ := bind_some hm
    refine sCall hf rfl rfl rfl rfl (cap := []) rfl rfl en37 (spec_LatestInputs_ok F (GSystem.mk r4.1.A r4.1.B r4.1.C) A6 n7 c8 hn9 A11 n12 c13 hn14 A15 n16 c17 hn18 r4.2 A19 n20 c21 hn22 _ _ hc31 (hs.rdM (i := 0) rfl) (hs.rd (i := 1) rfl) (hs.rd (i := 2) rfl) (hs.rd (i := 3) rfl)) ?_; clear hf
    rintro _ w ⟨A32, n33, c34, rfl, hn35, hs1⟩ a hf
    have hs : St [] W w [.mat A6 n7 c8 23 2 vs10 r4.1.A, .row A11 n12 c13 2 1 (ints r4.1.B), .row A15 n16 c17 2 1 (ints r4.1.C), .row A19 n20 c21 2 1 (ints r4.2), .blk b23 27 [.slice A6 n7 c8, .slice A11 n12 c13, .slice A15 n16 c17], .row A26 n27 c28 2 1 (ints r24.1), .row A32 n33 c34 2 1 (ints r30.1)] := hs.join hs1
    clear hs1
    refine sY hf hs rfl rfl rfl (Y_move rfl rfl) ?_; clear hf; intro a hf
    refine sY hf hs rfl rfl rfl (Y_extract rfl rfl rfl) ?_; clear hf; intro a hf
    refine sY hf hs rfl rfl rfl (Y_extract rfl rfl rfl) ?_; clear hf; intro a hf
    refine sY hf hs rfl rfl rfl (Y_assign rfl rfl) ?_; clear hf; intro a hf
    refine sY hf hs rfl rfl rfl (Y_assign rfl rfl) ?_; clear hf; intro a hf
    refine wpO_nil ?_
    refine wpL_seq ?_
    refine wpL_region ?_
    refine sY hf hs rfl rfl rfl (Y_move rfl rfl) ?_; clear hf; intro a hf
    obtain ⟨r36, hc37, hm⟩ := bind_some hm
    refine sCall hf rfl rfl rfl rfl (cap := []) rfl rfl en38 (spec_DrawMeetsDue_ok F p0 A_p0_1 p0.length c_p0_1 rfl _ _ hc37 (h_p0_1.at hs)) ?_; clear hf
    rintro _ w ⟨A38, n39, c40, vs42, A43, n44, c45, A47, n48, c49, A51, n52, c53, A55, n56, c57, A59, n60, c61, rfl, hn41, hn46, hn50, hn54, hn58, hn62, hs1⟩ a hf
    have hs : St [] W w [.mat A6 n7 c8 23 2 vs10 r4.1.A, .row A11 n12 c13 2 1 (ints r4.1.B), .row A15 n16 c17 2 1 (ints r4.1.C), .row A19 n20 c21 2 1 (ints r4.2), .blk b23 27 [.slice A6 n7 c8, .slice A11 n12 c13, .slice A15 n16 c17], .row A26 n27 c28 2 1 (ints r24.1), .row A32 n33 c34 2 1 (ints r30.1), .mat A38 n39 c40 23 2 vs42 r36.1.A, .row A43 n44 c45 2 1 (ints r36.1.B), .row A47 n48 c49 2 1 (ints r36.1.C), .row A51 n52 c53 2 1 (ints r36.2.1), .row A55 n56 c57 2 1 (ints r36.2.2.1), .row A59 n60 c61 2 1 (ints r36.2.2.2)] := hs.join hs1
    clear hs1
    refine sY hf hs rfl rfl rfl (Y_move rfl rfl) ?_; clear hf; intro a hf
    refine sY hf hs rfl rfl rfl (Y_extract rfl rfl rfl) ?_; clear hf; intro a hf
    refine sY hf hs rfl rfl rfl (Y_extract rfl rfl rfl) ?_; clear hf; intro a hf
    refine sY hf hs rfl rfl rfl (Y_extract rfl rfl rfl) ?_; clear hf; intro a hf
    refine sY hf hs rfl rfl rfl (Y_extract rfl rfl rfl) ?_; clear hf; intro a hf
    refine sAlloc hf hs rfl rfl rfl rfl ti27 ?_; clear hf hs; intro a w b63 hs hf
    have hs : St [] W w [.mat A6 n7 c8 23 2 vs10 r4.1.A, .row A11 n12 c13 2 1 (ints r4.1.B), .row A15 n16 c17 2 1 (ints r4.1.C), .row A19 n20 c21 2 1 (ints r4.2), .blk b23 27 [.slice A6 n7 c8, .slice A11 n12 c13, .slice A15 n16 c17], .row A26 n27 c28 2 1 (ints r24.1), .row A32 n33 c34 2 1 (ints r30.1), .mat A38 n39 c40 23 2 vs42 r36.1.A, .row A43 n44 c45 2 1 (ints r36.1.B), .row A47 n48 c49 2 1 (ints r36.1.C), .row A51 n52 c53 2 1 (ints r36.2.1), .row A55 n56 c57 2 1 (ints r36.2.2.1), .row A59 n60 c61 2 1 (ints r36.2.2.2), .blk b63 27 [.slice none 0 0, .slice none 0 0, .slice none 0 0]] := hs
    refine sStore (i := 13) (us := [.slice A38 n39 c40, .slice A43 n44 c45, .slice A47 n48 c49]) hf hs rfl rfl rfl rfl rfl rfl ti27 rfl rfl rfl (Nat.le_of_ble_eq_true rfl) rfl ?_; clear hs; intro w hs
    have hs : St [] W w [.mat A6 n7 c8 23 2 vs10 r4.1.A, .row A11 n12 c13 2 1 (ints r4.1.B), .row A15 n16 c17 2 1 (ints r4.1.C), .row A19 n20 c21 2 1 (ints r4.2), .blk b23 27 [.slice A6 n7 c8, .slice A11 n12 c13, .slice A15 n16 c17], .row A26 n27 c28 2 1 (ints r24.1), .row A32 n33 c34 2 1 (ints r30.1), .mat A38 n39 c40 23 2 vs42 r36.1.A, .row A43 n44 c45 2 1 (ints r36.1.B), .row A47 n48 c49 2 1 (ints r36.1.C), .row A51 n52 c53 2 1 (ints r36.2.1), .row A55 n56 c57 2 1 (ints r36.2.2.1), .row A59 n60 c61 2 1 (ints r36.2.2.2), .blk b63 27 [.slice A38 n39 c40, .slice A43 n44 c45, .slice A47 n48 c49]] := hs
    refine sY hf hs rfl rfl rfl (Y_assign rfl rfl) ?_; clear hf; intro a hf
    refine sY hf hs rfl rfl rfl (Y_assign rfl rfl) ?_; clear hf; intro a hf
    refine sY hf hs rfl rfl rfl (Y_assign rfl rfl) ?_; clear hf; intro a hf
    refine wpO_nil ?_
    refine wpL_seq ?_
    refine wpL_region ?_
    refine sY hf hs rfl rfl rfl (Y_load_blkS rfl rfl (i := 13) rfl ag27 ti27 rfl) ?_; clear hf; intro a hf
    refine sY hf hs rfl rfl rfl (Y_move rfl rfl) ?_; clear hf; intro a hf
    refine sY hf hs rfl rfl rfl (Y_move rfl rfl) ?_; clear hf; intro a hf
    refine sY hf hs rfl rfl rfl (Y_move rfl rfl) ?_; clear hf; intro a hf
    obtain ⟨r64, hc65, hm⟩ := bind_some hm
    refine sCall hf rfl rfl rfl rfl (cap := []) rfl rfl en39 (impl_MeetsDue_ok F (GSystem.mk r36.1.A r36.1.B r36.1.C) A38 n39 c40 hn41 A43 n44 c45 hn46 A47 n48 c49 hn50 r36.2.1 A51 n52 c53 hn54 r36.2.2.1 A55 n56 c57 hn58 r36.2.2.2 A59 n60 c61 hn62 _ _ hc65 (hs.rdM (i := 7) rfl) (hs.rd (i := 8) rfl) (hs.rd (i := 9) rfl) (hs.rd (i := 10) rfl) (hs.rd (i := 11) rfl) (hs.rd (i := 12) rfl)) ?_; clear hf
    rintro _ w ⟨rfl, hs1⟩ a hf
    have hs : St [] W w [.mat A6 n7 c8 23 2 vs10 r4.1.A, .row A11 n12 c13 2 1 (ints r4.1.B), .row A15 n16 c17 2 1 (ints r4.1.C), .row A19 n20 c21 2 1 (ints r4.2), .blk b23 27 [.slice A6 n7 c8, .slice A11 n12 c13, .slice A15 n16 c17], .row A26 n27 c28 2 1 (ints r24.1), .row A32 n33 c34 2 1 (ints r30.1), .mat A38 n39 c40 23 2 vs42 r36.1.A, .row A43 n44 c45 2 1 (ints r36.1.B), .row A47 n48 c49 2 1 (ints r36.1.C), .row A51 n52 c53 2 1 (ints r36.2.1), .row A55 n56 c57 2 1 (ints r36.2.2.1), .row A59 n60 c61 2 1 (ints r36.2.2.2), .blk b63 27 [.slice A38 n39 c40, .slice A43 n44 c45, .slice A47 n48 c49]] := hs.ext hs1.below
    clear hs1
    refine sY hf hs rfl rfl rfl (Y_move rfl rfl) ?_; clear hf; intro a hf
    refine sY hf hs rfl rfl rfl (Y_extract rfl rfl rfl) ?_; clear hf; intro a hf
    refine sY hf hs rfl rfl rfl (Y_extract rfl rfl rfl) ?_; clear hf; intro a hf
    refine sY hf hs rfl rfl rfl (Y_assign rfl rfl) ?_; clear hf; intro a hf
    refine sY hf hs rfl rfl rfl (Y_assign rfl rfl) ?_; clear hf; intro a hf
    refine wpO_nil ?_
    refine wpL_seq ?_
    refine wpL_region ?_
    refine sY hf hs rfl rfl rfl (Y_load_blkS rfl rfl (i := 13) rfl ag27 ti27 rfl) ?_; clear hf; intro a hf
    refine sY hf hs rfl rfl rfl (Y_move rfl rfl) ?_; clear hf; intro a hf
    refine sY hf hs rfl rfl rfl (Y_move rfl rfl) ?_; clear hf; intro a hf
    refine sY hf hs rfl rfl rfl (Y_move rfl rfl) ?_; clear hf; intro a hf
    obtain ⟨r66, hc67, hm⟩ := bind_some hm
    refine sCall hf rfl rfl rfl rfl (cap := []) rfl rfl en40 (spec_MeetsDue_ok F (GSystem.mk r36.1.A r36.1.B r36.1.C) A38 n39 c40 hn41 A43 n44 c45 hn46 A47 n48 c49 hn50 r36.2.1 A51 n52 c53 hn54 r36.2.2.1 A55 n56 c57 hn58 r36.2.2.2 A59 n60 c61 hn62 _ _ hc67 (hs.rdM (i := 7) rfl) (hs.rd (i := 8) rfl) (hs.rd (i := 9) rfl) (hs.rd (i := 10) rfl) (hs.rd (i := 11) rfl) (hs.rd (i := 12) rfl)) ?_; clear hf
    rintro _ w ⟨rfl, hs1⟩ a hf
    have hs : St [] W w [.mat A6 n7 c8 23 2 vs10 r4.1.A, .row A11 n12 c13 2 1 (ints r4.1.B), .row A15 n16 c17 2 1 (ints r4.1.C), .row A19 n20 c21 2 1 (ints r4.2), .blk b23 27 [.slice A6 n7 c8, .slice A11 n12 c13, .slice A15 n16 c17], .row A26 n27 c28 2 1 (ints r24.1), .row A32 n33 c34 2 1 (ints r30.1), .mat A38 n39 c40 23 2 vs42 r36.1.A, .row A43 n44 c45 2 1 (ints r36.1.B), .row A47 n48 c49 2 1 (ints r36.1.C), .row A51 n52 c53 2 1 (ints r36.2.1), .row A55 n56 c57 2 1 (ints r36.2.2.1), .row A59 n60 c61 2 1 (ints r36.2.2.2), .blk b63 27 [.slice A38 n39 c40, .slice A43 n44 c45, .slice A47 n48 c49]] := hs.ext hs1.below
    clear hs1
    refine sY hf hs rfl rfl rfl (Y_move rfl rfl) ?_; clear hf; intro a hf
    refine sY hf hs rfl rfl rfl (Y_extract rfl rfl rfl) ?_; clear hf; intro a hf
    refine sY hf hs rfl rfl rfl (Y_extract rfl rfl rfl) ?_; clear hf; intro a hf
    refine sY hf hs rfl rfl rfl (Y_assign rfl rfl) ?_; clear hf; intro a hf
    refine sY hf hs rfl rfl rfl (Y_assign rfl rfl) ?_; clear hf; intro a hf
    refine wpO_nil ?_
    refine wpL_seq ?_
    refine wpL_seq ?_
    obtain ⟨r74, hj75, hm⟩ := bind_some hm
    refine wpL_cut (fun a w => ∃ b73 : Bool, b73 = r74 ∧ Fr a 165 [(0, .slice A_p0_1 p0.length c_p0_1), (3, .pointer (some ⟨b23, 0, none⟩)), (4, .slice A19 n20 c21), (5, .slice A26 n27 c28), (6, .int .i64 r24.2), (85, .bool b73)] ∧ St [] W w [.blk b23 27 [.slice A6 n7 c8, .slice A11 n12 c13, .slice A15 n16 c17], .mat A6 n7 c8 23 2 vs10 r4.1.A, .row A11 n12 c13 2 1 (ints r4.1.B), .row A15 n16 c17 2 1 (ints r4.1.C), .row A19 n20 c21 2 1 (ints r4.2), .row A26 n27 c28 2 1 (ints r24.1)]) ?_ ?_
    · refine wpL_region ?_
      refine sY hf hs rfl rfl rfl (Y_move rfl rfl) ?_; clear hf; intro a hf
      refine sY hf hs rfl rfl rfl (Y_move rfl rfl) ?_; clear hf; intro a hf
      refine sY hf hs rfl rfl rfl (Y_neq rfl rfl rfl) ?_; clear hf; intro a hf
      refine sY hf hs rfl rfl rfl (Y_move rfl rfl) ?_; clear hf; intro a hf
      refine bsplit (r24.2 != r30.2) (fun hb76 => ?_) (fun hb76 => ?_)
      · have hj75 := bif_t hj75 hb76
        refine sNo hf rfl rfl rfl (congrArg (fun b => some (Value.bool b)) hb76) rfl rfl rfl ?_; clear hf; intro a hf
        refine sNo hf rfl rfl rfl (congrArg (fun b => some (Value.bool b)) hb76) rfl rfl rfl ?_; clear hf; intro a hf
        refine sNo hf rfl rfl rfl (congrArg (fun b => some (Value.bool b)) hb76) rfl rfl rfl ?_; clear hf; intro a hf
        refine sNo hf rfl rfl rfl (congrArg (fun b => some (Value.bool b)) hb76) rfl rfl rfl ?_; clear hf; intro a hf
        refine sY hf hs rfl rfl rfl (Y_pickT rfl (congrArg (fun b => some (Value.bool b)) hb76) rfl) ?_; clear hf; intro a hf
        refine sY hf hs rfl rfl rfl (Y_move rfl rfl) ?_; clear hf; intro a hf
        refine sNo hf rfl rfl rfl rfl rfl rfl rfl ?_; clear hf; intro a hf
        refine sNo hf rfl rfl rfl rfl rfl rfl rfl ?_; clear hf; intro a hf
        refine sNo hf rfl rfl rfl rfl rfl rfl rfl ?_; clear hf; intro a hf
        refine sY hf hs rfl rfl rfl (Y_pickT rfl rfl rfl) ?_; clear hf; intro a hf
        refine sY hf hs rfl rfl rfl (Y_move rfl rfl) ?_; clear hf; intro a hf
        refine sNo hf rfl rfl rfl rfl rfl rfl rfl ?_; clear hf; intro a hf
        refine sNo hf rfl rfl rfl rfl rfl rfl rfl ?_; clear hf; intro a hf
        refine sNo hf rfl rfl rfl rfl rfl rfl rfl ?_; clear hf; intro a hf
        refine sY hf hs rfl rfl rfl (Y_pickT rfl rfl rfl) ?_; clear hf; intro a hf
        refine wpO_nil ?_
        refine wpL_nil (then_normal ?_)
        exact ⟨true, Option.some.inj hj75, (FrD.pick (FrD.pick (FrD.pick (FrD.pick (FrD.pick (FrD.pick hf.none hf rfl) hf rfl) hf rfl) hf rfl) hf rfl) hf rfl), hs.sel [4, 0, 1, 2, 3, 5] (by decide)⟩
      · have hj75 := bif_f hj75 hb76
        refine sYg hf hs rfl rfl rfl (congrArg (fun b => some (Value.bool b)) hb76) rfl rfl rfl (Y_move rfl rfl) ?_; clear hf; intro a hf
        refine sYg hf hs rfl rfl rfl (congrArg (fun b => some (Value.bool b)) hb76) rfl rfl rfl (Y_move rfl rfl) ?_; clear hf; intro a hf
        obtain ⟨r77, hc78, hj75⟩ := bind_some hj75
        refine sCallg hf rfl rfl rfl (congrArg (fun b => some (Value.bool b)) hb76) rfl rfl rfl rfl (cap := []) rfl rfl en30 (laws_likeInts_ok F r24.1 A26 n27 c28 hn29 r30.1 A32 n33 c34 hn35 _ _ hc78 (hs.rd (i := 5) rfl) (hs.rd (i := 6) rfl)) ?_; clear hf
        rintro _ w ⟨rfl, hs1⟩ a hf
        have hs : St [] W w [.mat A6 n7 c8 23 2 vs10 r4.1.A, .row A11 n12 c13 2 1 (ints r4.1.B), .row A15 n16 c17 2 1 (ints r4.1.C), .row A19 n20 c21 2 1 (ints r4.2), .blk b23 27 [.slice A6 n7 c8, .slice A11 n12 c13, .slice A15 n16 c17], .row A26 n27 c28 2 1 (ints r24.1), .row A32 n33 c34 2 1 (ints r30.1), .mat A38 n39 c40 23 2 vs42 r36.1.A, .row A43 n44 c45 2 1 (ints r36.1.B), .row A47 n48 c49 2 1 (ints r36.1.C), .row A51 n52 c53 2 1 (ints r36.2.1), .row A55 n56 c57 2 1 (ints r36.2.2.1), .row A59 n60 c61 2 1 (ints r36.2.2.2), .blk b63 27 [.slice A38 n39 c40, .slice A43 n44 c45, .slice A47 n48 c49]] := hs.ext hs1.below
        clear hs1
        refine sYg hf hs rfl rfl rfl (congrArg (fun b => some (Value.bool b)) hb76) rfl rfl rfl (Y_not rfl rfl) ?_; clear hf; intro a hf
        refine sY hf hs rfl rfl rfl (Y_pickF rfl (congrArg (fun b => some (Value.bool b)) hb76) rfl) ?_; clear hf; intro a hf
        refine sY hf hs rfl rfl rfl (Y_move rfl rfl) ?_; clear hf; intro a hf
        refine bsplit (!r77) (fun hb79 => ?_) (fun hb79 => ?_)
        · have hj75 := bif_t hj75 hb79
          refine sNo hf rfl rfl rfl (congrArg (fun b => some (Value.bool b)) hb79) rfl rfl rfl ?_; clear hf; intro a hf
          refine sNo hf rfl rfl rfl (congrArg (fun b => some (Value.bool b)) hb79) rfl rfl rfl ?_; clear hf; intro a hf
          refine sNo hf rfl rfl rfl (congrArg (fun b => some (Value.bool b)) hb79) rfl rfl rfl ?_; clear hf; intro a hf
          refine sY hf hs rfl rfl rfl (Y_pickT rfl (congrArg (fun b => some (Value.bool b)) hb79) rfl) ?_; clear hf; intro a hf
          refine sY hf hs rfl rfl rfl (Y_move rfl rfl) ?_; clear hf; intro a hf
          refine sNo hf rfl rfl rfl rfl rfl rfl rfl ?_; clear hf; intro a hf
          refine sNo hf rfl rfl rfl rfl rfl rfl rfl ?_; clear hf; intro a hf
          refine sNo hf rfl rfl rfl rfl rfl rfl rfl ?_; clear hf; intro a hf
          refine sY hf hs rfl rfl rfl (Y_pickT rfl rfl rfl) ?_; clear hf; intro a hf
          refine wpO_nil ?_
          refine wpL_nil (then_normal ?_)
          exact ⟨true, Option.some.inj hj75, (FrD.pick (FrD.pick (FrD.pick (FrD.pick (FrD.pick (FrD.pick hf.none hf rfl) hf rfl) hf rfl) hf rfl) hf rfl) hf rfl), hs.sel [4, 0, 1, 2, 3, 5] (by decide)⟩
        · have hj75 := bif_f hj75 hb79
          refine sYg hf hs rfl rfl rfl (congrArg (fun b => some (Value.bool b)) hb79) rfl rfl rfl (Y_move rfl rfl) ?_; clear hf; intro a hf
          refine sYg hf hs rfl rfl rfl (congrArg (fun b => some (Value.bool b)) hb79) rfl rfl rfl (Y_move rfl rfl) ?_; clear hf; intro a hf
          refine sYg hf hs rfl rfl rfl (congrArg (fun b => some (Value.bool b)) hb79) rfl rfl rfl (Y_neq rfl rfl rfl) ?_; clear hf; intro a hf
          refine sY hf hs rfl rfl rfl (Y_pickF rfl (congrArg (fun b => some (Value.bool b)) hb79) rfl) ?_; clear hf; intro a hf
          refine sY hf hs rfl rfl rfl (Y_move rfl rfl) ?_; clear hf; intro a hf
          refine bsplit (r64.2 != r66.2) (fun hb80 => ?_) (fun hb80 => ?_)
          · have hj75 := bif_t hj75 hb80
            refine sNo hf rfl rfl rfl (congrArg (fun b => some (Value.bool b)) hb80) rfl rfl rfl ?_; clear hf; intro a hf
            refine sNo hf rfl rfl rfl (congrArg (fun b => some (Value.bool b)) hb80) rfl rfl rfl ?_; clear hf; intro a hf
            refine sNo hf rfl rfl rfl (congrArg (fun b => some (Value.bool b)) hb80) rfl rfl rfl ?_; clear hf; intro a hf
            refine sY hf hs rfl rfl rfl (Y_pickT rfl (congrArg (fun b => some (Value.bool b)) hb80) rfl) ?_; clear hf; intro a hf
            refine wpO_nil ?_
            refine wpL_nil (then_normal ?_)
            exact ⟨true, Option.some.inj hj75, (FrD.pick (FrD.pick (FrD.pick (FrD.pick (FrD.pick (FrD.pick hf.none hf rfl) hf rfl) hf rfl) hf rfl) hf rfl) hf rfl), hs.sel [4, 0, 1, 2, 3, 5] (by decide)⟩
          · have hj75 := bif_f hj75 hb80
            refine sYg hf hs rfl rfl rfl (congrArg (fun b => some (Value.bool b)) hb80) rfl rfl rfl (Y_move rfl rfl) ?_; clear hf; intro a hf
            refine sYg hf hs rfl rfl rfl (congrArg (fun b => some (Value.bool b)) hb80) rfl rfl rfl (Y_move rfl rfl) ?_; clear hf; intro a hf
            refine sYg hf hs rfl rfl rfl (congrArg (fun b => some (Value.bool b)) hb80) rfl rfl rfl (Y_neqB rfl rfl rfl Try.underlying4) ?_; clear hf; intro a hf
            refine sY hf hs rfl rfl rfl (Y_pickF rfl (congrArg (fun b => some (Value.bool b)) hb80) rfl) ?_; clear hf; intro a hf
            refine wpO_nil ?_
            refine wpL_nil (then_normal ?_)
            exact ⟨(r64.1 != r66.1), Option.some.inj hj75, (FrD.pick (FrD.pick (FrD.pick (FrD.pick (FrD.pick (FrD.pick hf.none hf rfl) hf rfl) hf rfl) hf rfl) hf rfl) hf rfl), hs.sel [4, 0, 1, 2, 3, 5] (by decide)⟩
    · rintro a w ⟨b73, hr_, hf, hs⟩
      subst hr_
      try dsimp only at hm
      refine wpL_cond hf rfl (fun hb81 => ?_) (fun hb81 => ?_)
      · have hm := bif_t hm hb81
        refine wpL_seq ?_
        refine wpL_region ?_
        refine sY hf hs rfl rfl rfl (Y_assign rfl rfl) ?_; clear hf; intro a hf
        refine wpO_nil ?_
        obtain rfl := Option.some.inj hm
        refine wpL_ret (ret_tmp rfl hf rfl ?_)
        exact ⟨_, rfl, rfl, hs.sel [] (by decide)⟩
      · have hm := bif_f hm hb81
        refine wpL_skip ?_
        refine wpL_seq ?_
        refine wpL_seq ?_
        obtain ⟨r84, hj85, hm⟩ := bind_some hm
        refine wpL_cut (fun a w => ∃ b83 : Bool, b83 = r84 ∧ Fr a 165 [(0, .slice A_p0_1 p0.length c_p0_1), (3, .pointer (some ⟨b23, 0, none⟩)), (4, .slice A19 n20 c21), (5, .slice A26 n27 c28), (92, .bool b83)] ∧ St [] W w [.blk b23 27 [.slice A6 n7 c8, .slice A11 n12 c13, .slice A15 n16 c17], .mat A6 n7 c8 23 2 vs10 r4.1.A, .row A11 n12 c13 2 1 (ints r4.1.B), .row A15 n16 c17 2 1 (ints r4.1.C), .row A19 n20 c21 2 1 (ints r4.2), .row A26 n27 c28 2 1 (ints r24.1)]) ?_ ?_
        · refine wpL_region ?_
          refine sY hf hs rfl rfl rfl (Y_move rfl rfl) ?_; clear hf; intro a hf
          refine sY hf hs rfl rfl rfl (Y_neq rfl rfl rfl) ?_; clear hf; intro a hf
          refine sY hf hs rfl rfl rfl (Y_move rfl rfl) ?_; clear hf; intro a hf
          refine bsplit (r24.2 != 0) (fun hb86 => ?_) (fun hb86 => ?_)
          · have hj85 := bif_t hj85 hb86
            refine sNo hf rfl rfl rfl (congrArg (fun b => some (Value.bool b)) hb86) rfl rfl rfl ?_; clear hf; intro a hf
            refine sNo hf rfl rfl rfl (congrArg (fun b => some (Value.bool b)) hb86) rfl rfl rfl ?_; clear hf; intro a hf
            refine sNo hf rfl rfl rfl (congrArg (fun b => some (Value.bool b)) hb86) rfl rfl rfl ?_; clear hf; intro a hf
            refine sY hf hs rfl rfl rfl (Y_pickT rfl (congrArg (fun b => some (Value.bool b)) hb86) rfl) ?_; clear hf; intro a hf
            refine wpO_nil ?_
            refine wpL_nil (then_normal ?_)
            exact ⟨true, Option.some.inj hj85, (FrD.pick (FrD.pick (FrD.pick (FrD.pick (FrD.pick hf.none hf rfl) hf rfl) hf rfl) hf rfl) hf rfl), hs⟩
          · have hj85 := bif_f hj85 hb86
            refine sYg hf hs rfl rfl rfl (congrArg (fun b => some (Value.bool b)) hb86) rfl rfl rfl (Y_move rfl rfl) ?_; clear hf; intro a hf
            refine sYg hf hs rfl rfl rfl (congrArg (fun b => some (Value.bool b)) hb86) rfl rfl rfl (Y_lenH rfl rfl el23 hn29) ?_; clear hf; intro a hf
            refine sYg hf hs rfl rfl rfl (congrArg (fun b => some (Value.bool b)) hb86) rfl rfl rfl (Y_eql rfl rfl rfl) ?_; clear hf; intro a hf
            refine sY hf hs rfl rfl rfl (Y_pickF rfl (congrArg (fun b => some (Value.bool b)) hb86) rfl) ?_; clear hf; intro a hf
            refine wpO_nil ?_
            refine wpL_nil (then_normal ?_)
            exact ⟨((r24.1.length : Int) == 0), Option.some.inj hj85, (FrD.pick (FrD.pick (FrD.pick (FrD.pick (FrD.pick hf.none hf rfl) hf rfl) hf rfl) hf rfl) hf rfl), hs⟩
        · rintro a w ⟨b83, hr_, hf, hs⟩
          subst hr_
          try dsimp only at hm
          refine wpL_cond hf rfl (fun hb87 => ?_) (fun hb87 => ?_)
          · have hm := bif_t hm hb87
            refine wpL_seq ?_
            refine wpL_region ?_
            refine sY hf hs rfl rfl rfl (Y_assign rfl rfl) ?_; clear hf; intro a hf
            refine wpO_nil ?_
            obtain rfl := Option.some.inj hm
            refine wpL_ret (ret_tmp rfl hf rfl ?_)
            exact ⟨_, rfl, rfl, hs.sel [] (by decide)⟩
          · have hm := bif_f hm hb87
            refine wpL_skip ?_
            refine wpL_seq ?_
            refine wpL_region ?_
            refine sEmpty hf hs rfl rfl rfl rfl el23 ti2 ?_; clear hf hs; intro a w A88 hs hf
            have hs : St [] W w [.blk b23 27 [.slice A6 n7 c8, .slice A11 n12 c13, .slice A15 n16 c17], .mat A6 n7 c8 23 2 vs10 r4.1.A, .row A11 n12 c13 2 1 (ints r4.1.B), .row A15 n16 c17 2 1 (ints r4.1.C), .row A19 n20 c21 2 1 (ints r4.2), .row A26 n27 c28 2 1 (ints r24.1), .row A88 0 0 2 1 (ints ([] : List Int))] := hs
            refine sY hf hs rfl rfl rfl (Y_assign rfl rfl) ?_; clear hf; intro a hf
            refine wpO_nil ?_
            refine wpL_seq ?_
            refine wpL_seq ?_
            refine wpL_region ?_
            refine sY hf hs rfl rfl rfl (Y_assign rfl rfl) ?_; clear hf; intro a hf
            refine wpO_nil ?_
            obtain ⟨r128, hl129, hm⟩ := bind_some hm
            refine wpL_block (fun a w => ∃ xs123 : List Int, ∃ A124, ∃ n125, ∃ c126, xs123 = r128 ∧ n125 = xs123.length ∧ Fr a 165 [(0, .slice A_p0_1 p0.length c_p0_1), (3, .pointer (some ⟨b23, 0, none⟩)), (4, .slice A19 n20 c21), (5, .slice A26 n27 c28), (17, .slice A124 n125 c126)] ∧ St [] W w [.blk b23 27 [.slice A6 n7 c8, .slice A11 n12 c13, .slice A15 n16 c17], .mat A6 n7 c8 23 2 vs10 r4.1.A, .row A11 n12 c13 2 1 (ints r4.1.B), .row A15 n16 c17 2 1 (ints r4.1.C), .row A19 n20 c21 2 1 (ints r4.2), .row A26 n27 c28 2 1 (ints r24.1), .row A124 n125 c126 2 1 (ints xs123)]) ?_ ?_
            · refine wpL_loop (fun n a w => ∃ xs110 : List Int, ∃ x115 : Int, ∃ A111, ∃ n112, ∃ c113, laws_FnJustInTime_L1 F r4 n xs110 x115 = some r128 ∧ n112 = xs110.length ∧ Fr a 165 [(0, .slice A_p0_1 p0.length c_p0_1), (3, .pointer (some ⟨b23, 0, none⟩)), (4, .slice A19 n20 c21), (5, .slice A26 n27 c28), (17, .slice A111 n112 c113), (18, .int .i64 x115)] ∧ St [] W w [.blk b23 27 [.slice A6 n7 c8, .slice A11 n12 c13, .slice A15 n16 c17], .mat A6 n7 c8 23 2 vs10 r4.1.A, .row A11 n12 c13 2 1 (ints r4.1.B), .row A15 n16 c17 2 1 (ints r4.1.C), .row A19 n20 c21 2 1 (ints r4.2), .row A26 n27 c28 2 1 (ints r24.1), .row A111 n112 c113 2 1 (ints xs110)]) F ?_ ?_ ?_
              · exact ⟨([] : List Int), 0, A88, 0, 0, hl129, rfl, (FrD.pick (FrD.pick (FrD.pick (FrD.pick (FrD.pick (FrD.pick hf.none hf rfl) hf rfl) hf rfl) hf rfl) hf rfl) hf rfl), hs⟩
              · rintro a w ⟨xs110, x115, A111, n112, c113, h0_, -, -, -⟩; simp [laws_FnJustInTime_L1] at h0_
              · rintro n131 a w ⟨xs110, x115, A111, n112, c113, hm130, hn114, hf, hs⟩
                rw [laws_FnJustInTime_L1] at hm130
                refine wpL_seq ?_
                refine wpL_seq ?_
                refine wpL_region ?_
                refine sY hf hs rfl rfl rfl (Y_move rfl rfl) ?_; clear hf; intro a hf
                refine sY hf hs rfl rfl rfl (Y_fieldAddr rfl rfl fo27_0) ?_; clear hf; intro a hf
                refine sY hf hs rfl rfl rfl (Y_load_blk rfl rfl (i := 0) rfl rfl ag22) ?_; clear hf; intro a hf
                refine sY hf hs rfl rfl rfl (Y_lenH rfl rfl el22 hn9) ?_; clear hf; intro a hf
                refine sY hf hs rfl rfl rfl (Y_lss rfl rfl rfl) ?_; clear hf; intro a hf
                refine wpO_nil ?_
                refine wpL_cond hf rfl (fun hb132 => ?_) (fun hb132 => ?_)
                · have hm130 := bif_t hm130 hb132
                  refine wpL_skip ?_
                  refine wpL_seq ?_
                  refine wpL_block0 ?_
                  refine wpL_region ?_
                  refine sY hf hs rfl rfl rfl (Y_move rfl rfl) ?_; clear hf; intro a hf
                  refine sBuildSlice (parts := [(0, .const (.int .i64 (-1000000000000000)))]) (vs := [.int .i64 (-1000000000000000)]) (cells := [.int .i64 (-1000000000000000)]) hf hs rfl rfl rfl rfl rfl el23 ti2 rfl rfl rfl rfl ?_; clear hf hs; intro a w A133 hs hA134 hf
                  have hs : St [] W w [.blk b23 27 [.slice A6 n7 c8, .slice A11 n12 c13, .slice A15 n16 c17], .mat A6 n7 c8 23 2 vs10 r4.1.A, .row A11 n12 c13 2 1 (ints r4.1.B), .row A15 n16 c17 2 1 (ints r4.1.C), .row A19 n20 c21 2 1 (ints r4.2), .row A26 n27 c28 2 1 (ints r24.1), .row A111 n112 c113 2 1 (ints xs110), .row A133 1 1 2 1 (ints ([(-1000000000000000)]))] := hs
                  obtain ⟨xs137, ha138, hm130⟩ := bind_some hm130
                  refine sAppendL (i := 6) (xs := xs110) (ys := [(-1000000000000000)]) (enc := ints) hf hs rfl rfl rfl rfl rfl rfl hn114 rfl rfl ha138 el23 ti2 rfl rfl rfl (hs.rd (i := 7) rfl) (Nat.succ_pos _) ints_len1 ints_append ints_one ?_; clear hf hs; intro a w A135 c136 hs hf
                  have hs : St [] W w [.blk b23 27 [.slice A6 n7 c8, .slice A11 n12 c13, .slice A15 n16 c17], .mat A6 n7 c8 23 2 vs10 r4.1.A, .row A11 n12 c13 2 1 (ints r4.1.B), .row A15 n16 c17 2 1 (ints r4.1.C), .row A19 n20 c21 2 1 (ints r4.2), .row A26 n27 c28 2 1 (ints r24.1), .row A135 xs137.length c136 2 1 (ints xs137), .row A133 1 1 2 1 (ints ([(-1000000000000000)]))] := hs
                  refine sY hf hs rfl rfl rfl (Y_assign rfl rfl) ?_; clear hf; intro a hf
                  refine wpO_nil ?_
                  refine wpL_nil (Qb_normal ?_)
                  refine wpL_region ?_
                  refine sY hf hs rfl rfl rfl (Y_move rfl rfl) ?_; clear hf; intro a hf
                  refine sY hf hs rfl rfl rfl (Y_add rfl rfl rfl) ?_; clear hf; intro a hf
                  refine sY hf hs rfl rfl rfl (Y_assign rfl rfl) ?_; clear hf; intro a hf
                  refine wpO_nil ?_
                  refine wpL_nil (Ql_normal ?_)
                  exact ⟨xs137, (IntKind.i64.wrap (x115 + 1)), A135, xs137.length, c136, hm130, rfl, (FrD.pick (FrD.pick (FrD.pick (FrD.pick (FrD.pick (FrD.pick hf.none hf rfl) hf rfl) hf rfl) hf rfl) hf rfl) hf rfl), hs.sel [0, 1, 2, 3, 4, 5, 6] (by decide)⟩
                · have hm130 := bif_f hm130 hb132
                  refine wpL_exit (Ql_exit (Qb_exit ?_))
                  exact ⟨xs110, A111, n112, c113, Option.some.inj hm130, hn114, (FrD.pick (FrD.pick (FrD.pick (FrD.pick (FrD.pick hf.none hf rfl) hf rfl) hf rfl) hf rfl) hf rfl), hs⟩
            · rintro a w ⟨xs123, A124, n125, c126, hr_, hn127, hf, hs⟩
              subst hr_
              try dsimp only at hm
              refine wpL_seq ?_
              refine wpL_region ?_
              refine sY hf hs rfl rfl rfl (Y_load_blkS rfl rfl (i := 0) rfl ag27 ti27 rfl) ?_; clear hf; intro a hf
              refine sY hf hs rfl rfl rfl (Y_move rfl rfl) ?_; clear hf; intro a hf
              refine sY hf hs rfl rfl rfl (Y_move rfl rfl) ?_; clear hf; intro a hf
              refine sY hf hs rfl rfl rfl (Y_move rfl rfl) ?_; clear hf; intro a hf
              obtain ⟨r139, hc140, hm⟩ := bind_some hm
              refine sCall hf rfl rfl rfl rfl (cap := []) rfl rfl en39 (impl_MeetsDue_ok F (GSystem.mk r4.1.A r4.1.B r4.1.C) A6 n7 c8 hn9 A11 n12 c13 hn14 A15 n16 c17 hn18 xs123 A124 n125 c126 hn127 r24.1 A26 n27 c28 hn29 r4.2 A19 n20 c21 hn22 _ _ hc140 (hs.rdM (i := 1) rfl) (hs.rd (i := 2) rfl) (hs.rd (i := 3) rfl) (hs.rd (i := 6) rfl) (hs.rd (i := 5) rfl) (hs.rd (i := 4) rfl)) ?_; clear hf
              rintro _ w ⟨rfl, hs1⟩ a hf
              have hs : St [] W w [.blk b23 27 [.slice A6 n7 c8, .slice A11 n12 c13, .slice A15 n16 c17], .mat A6 n7 c8 23 2 vs10 r4.1.A, .row A11 n12 c13 2 1 (ints r4.1.B), .row A15 n16 c17 2 1 (ints r4.1.C), .row A19 n20 c21 2 1 (ints r4.2), .row A26 n27 c28 2 1 (ints r24.1), .row A124 n125 c126 2 1 (ints xs123)] := hs.ext hs1.below
              clear hs1
              refine sY hf hs rfl rfl rfl (Y_move rfl rfl) ?_; clear hf; intro a hf
              refine sY hf hs rfl rfl rfl (Y_extract rfl rfl rfl) ?_; clear hf; intro a hf
              refine sY hf hs rfl rfl rfl (Y_extract rfl rfl rfl) ?_; clear hf; intro a hf
              refine sY hf hs rfl rfl rfl (Y_assign rfl rfl) ?_; clear hf; intro a hf
              refine sY hf hs rfl rfl rfl (Y_assign rfl rfl) ?_; clear hf; intro a hf
              refine wpO_nil ?_
              refine wpL_seq ?_
              refine wpL_region ?_
              refine sEmpty hf hs rfl rfl rfl rfl el23 ti2 ?_; clear hf hs; intro a w A141 hs hf
              have hs : St [] W w [.blk b23 27 [.slice A6 n7 c8, .slice A11 n12 c13, .slice A15 n16 c17], .mat A6 n7 c8 23 2 vs10 r4.1.A, .row A11 n12 c13 2 1 (ints r4.1.B), .row A15 n16 c17 2 1 (ints r4.1.C), .row A19 n20 c21 2 1 (ints r4.2), .row A26 n27 c28 2 1 (ints r24.1), .row A124 n125 c126 2 1 (ints xs123), .row A141 0 0 2 1 (ints ([] : List Int))] := hs
              refine sY hf hs rfl rfl rfl (Y_move rfl rfl) ?_; clear hf; intro a hf
              obtain ⟨xs145, ha146, hm⟩ := bind_some hm
              refine sAppendG (i := 7) (xs := ([] : List Int)) (ys := r24.1) (enc := ints) hf hs rfl rfl rfl rfl rfl rfl rfl hn29 rfl ha146 el23 ti2 rfl rfl rfl (hs.rd (i := 5) rfl) ints_len1 ints_append ints_one ?_; clear hf hs; intro a w A143 c144 hs hf
              have hs : St [] W w [.blk b23 27 [.slice A6 n7 c8, .slice A11 n12 c13, .slice A15 n16 c17], .mat A6 n7 c8 23 2 vs10 r4.1.A, .row A11 n12 c13 2 1 (ints r4.1.B), .row A15 n16 c17 2 1 (ints r4.1.C), .row A19 n20 c21 2 1 (ints r4.2), .row A26 n27 c28 2 1 (ints r24.1), .row A124 n125 c126 2 1 (ints xs123), .row A143 xs145.length c144 2 1 (ints xs145)] := hs
              refine sY hf hs rfl rfl rfl (Y_assign rfl rfl) ?_; clear hf; intro a hf
              refine wpO_nil ?_
              refine wpL_seq ?_
              refine wpL_region ?_
              refine sY hf hs rfl rfl rfl (Y_move rfl rfl) ?_; clear hf; intro a hf
              obtain ⟨r147, hc148, hm⟩ := bind_some hm
              refine sCall hf rfl rfl rfl rfl (cap := []) rfl rfl en33 (laws_roll_ok F p0 A_p0_1 p0.length c_p0_1 rfl 2402 _ _ hc148 (h_p0_1.at hs)) ?_; clear hf
              rintro _ w ⟨b149, rfl, hs1⟩ a hf
              have hs : St [] W w [.blk b23 27 [.slice A6 n7 c8, .slice A11 n12 c13, .slice A15 n16 c17], .mat A6 n7 c8 23 2 vs10 r4.1.A, .row A11 n12 c13 2 1 (ints r4.1.B), .row A15 n16 c17 2 1 (ints r4.1.C), .row A19 n20 c21 2 1 (ints r4.2), .row A26 n27 c28 2 1 (ints r24.1), .row A124 n125 c126 2 1 (ints xs123), .row A143 xs145.length c144 2 1 (ints xs145), .blk b149 119 [.slice A_p0_1 p0.length c_p0_1, .int .i64 r147.1, .int .u64 r147.2]] := hs.join hs1
              clear hs1
              refine sY hf hs rfl rfl rfl (Y_move rfl rfl) ?_; clear hf; intro a hf
              refine sY hf hs rfl rfl rfl (Y_lenH rfl rfl el23 hn29) ?_; clear hf; intro a hf
              obtain ⟨r150, hc151, hm⟩ := bind_some hm
              refine sCall hf rfl rfl rfl rfl (cap := []) rfl rfl en34 (laws_dice_below_ok F b149 p0 A_p0_1 p0.length c_p0_1 rfl r147.1 r147.2 (r24.1.length : Int) _ _ hc151 (h_p0_1.pass hs [8]) (hs.sel [8] (by decide)).rebase) ?_; clear hf
              rintro _ w ⟨rfl, hs1⟩ a hf
              have hs : St [] W w [.blk b23 27 [.slice A6 n7 c8, .slice A11 n12 c13, .slice A15 n16 c17], .mat A6 n7 c8 23 2 vs10 r4.1.A, .row A11 n12 c13 2 1 (ints r4.1.B), .row A15 n16 c17 2 1 (ints r4.1.C), .row A19 n20 c21 2 1 (ints r4.2), .row A26 n27 c28 2 1 (ints r24.1), .row A124 n125 c126 2 1 (ints xs123), .row A143 xs145.length c144 2 1 (ints xs145), .blk b149 119 [.slice A_p0_1 p0.length c_p0_1, .int .i64 r150.2.1, .int .u64 r150.2.2]] := St.mutTail (La := [.blk b23 27 [.slice A6 n7 c8, .slice A11 n12 c13, .slice A15 n16 c17], .mat A6 n7 c8 23 2 vs10 r4.1.A, .row A11 n12 c13 2 1 (ints r4.1.B), .row A15 n16 c17 2 1 (ints r4.1.C), .row A19 n20 c21 2 1 (ints r4.2), .row A26 n27 c28 2 1 (ints r24.1), .row A124 n125 c126 2 1 (ints xs123), .row A143 xs145.length c144 2 1 (ints xs145)]) (Lb := [.blk b149 119 [.slice A_p0_1 p0.length c_p0_1, .int .i64 r147.1, .int .u64 r147.2]]) (hs.sel [0, 1, 2, 3, 4, 5, 6, 7, 8] (by decide)) hs1
              clear hs1
              refine sY hf hs rfl rfl rfl (Y_assign rfl rfl) ?_; clear hf; intro a hf
              refine wpO_nil ?_
              refine wpL_seq ?_
              refine wpL_region ?_
              refine sY hf hs rfl rfl rfl (Y_move rfl rfl) ?_; clear hf; intro a hf
              refine sY hf hs rfl rfl rfl (Y_move rfl rfl) ?_; clear hf; intro a hf
              refine sY hf hs rfl rfl rfl (Y_move rfl rfl) ?_; clear hf; intro a hf
              refine sY hf hs rfl rfl rfl (Y_move rfl rfl) ?_; clear hf; intro a hf
              obtain ⟨q152, hi153, hm⟩ := bind_some hm
              obtain ⟨hi153a, hi153b, hi153q⟩ := idx_some hi153
              refine sY hf hs rfl rfl rfl (Y_index rfl rfl rfl el23 ti2 (Rd.isAt (hs.rd (i := 7) rfl) (at1 (ints_at hi153q))) hi153a hi153b) ?_; clear hf; intro a hf
              refine sY hf hs rfl rfl rfl (Y_load_rd rfl rfl (fun w hs => hs.rd (i := 7) rfl) (at1 (ints_at hi153q)) ag2) ?_; clear hf; intro a hf
              refine sY hf hs rfl rfl rfl (Y_add rfl rfl rfl) ?_; clear hf; intro a hf
              obtain ⟨q154, hi155, hm⟩ := bind_some hm
              obtain ⟨hi155a, hi155b, hi155q⟩ := idx_some hi155
              refine sY hf hs rfl rfl rfl (Y_index rfl rfl rfl el23 ti2 (Rd.isAt (hs.rd (i := 7) rfl) (at1 (ints_at hi155q))) hi155a hi155b) ?_; clear hf; intro a hf
              obtain ⟨xs156, hu157, hm⟩ := bind_some hm
              refine sStoreL (i := 7) (us := [.int .i64 (IntKind.i64.wrap (q152 + 1))]) (enc := ints) hf hs rfl rfl rfl rfl rfl rfl rfl hu157 ti2 rfl rfl rfl rfl rfl ints_len1 (ints_set (IntKind.i64.wrap (q152 + 1))) ?_; clear hs; intro w hs
              have hs : St [] W w [.blk b23 27 [.slice A6 n7 c8, .slice A11 n12 c13, .slice A15 n16 c17], .mat A6 n7 c8 23 2 vs10 r4.1.A, .row A11 n12 c13 2 1 (ints r4.1.B), .row A15 n16 c17 2 1 (ints r4.1.C), .row A19 n20 c21 2 1 (ints r4.2), .row A26 n27 c28 2 1 (ints r24.1), .row A124 n125 c126 2 1 (ints xs123), .row A143 xs145.length c144 2 1 (ints xs156), .blk b149 119 [.slice A_p0_1 p0.length c_p0_1, .int .i64 r150.2.1, .int .u64 r150.2.2]] := hs
              refine wpO_nil ?_
              refine wpL_seq ?_
              refine wpL_region ?_
              refine sY hf hs rfl rfl rfl (Y_load_blkS rfl rfl (i := 0) rfl ag27 ti27 rfl) ?_; clear hf; intro a hf
              refine sY hf hs rfl rfl rfl (Y_move rfl rfl) ?_; clear hf; intro a hf
              refine sY hf hs rfl rfl rfl (Y_move rfl rfl) ?_; clear hf; intro a hf
              refine sY hf hs rfl rfl rfl (Y_move rfl rfl) ?_; clear hf; intro a hf
              obtain ⟨r158, hc159, hm⟩ := bind_some hm
              refine sCall hf rfl rfl rfl rfl (cap := []) rfl rfl en39 (impl_MeetsDue_ok F (GSystem.mk r4.1.A r4.1.B r4.1.C) A6 n7 c8 hn9 A11 n12 c13 hn14 A15 n16 c17 hn18 xs123 A124 n125 c126 hn127 xs156 A143 xs145.length c144 ((upd_len hu157).symm) r4.2 A19 n20 c21 hn22 _ _ hc159 (hs.rdM (i := 1) rfl) (hs.rd (i := 2) rfl) (hs.rd (i := 3) rfl) (hs.rd (i := 6) rfl) (hs.rd (i := 7) rfl) (hs.rd (i := 4) rfl)) ?_; clear hf
              rintro _ w ⟨rfl, hs1⟩ a hf
              have hs : St [] W w [.blk b23 27 [.slice A6 n7 c8, .slice A11 n12 c13, .slice A15 n16 c17], .mat A6 n7 c8 23 2 vs10 r4.1.A, .row A11 n12 c13 2 1 (ints r4.1.B), .row A15 n16 c17 2 1 (ints r4.1.C), .row A19 n20 c21 2 1 (ints r4.2), .row A26 n27 c28 2 1 (ints r24.1), .row A124 n125 c126 2 1 (ints xs123), .row A143 xs145.length c144 2 1 (ints xs156), .blk b149 119 [.slice A_p0_1 p0.length c_p0_1, .int .i64 r150.2.1, .int .u64 r150.2.2]] := hs.ext hs1.below
              clear hs1
              refine sY hf hs rfl rfl rfl (Y_move rfl rfl) ?_; clear hf; intro a hf
              refine sY hf hs rfl rfl rfl (Y_extract rfl rfl rfl) ?_; clear hf; intro a hf
              refine sY hf hs rfl rfl rfl (Y_extract rfl rfl rfl) ?_; clear hf; intro a hf
              refine sY hf hs rfl rfl rfl (Y_assign rfl rfl) ?_; clear hf; intro a hf
              refine sY hf hs rfl rfl rfl (Y_assign rfl rfl) ?_; clear hf; intro a hf
              refine wpO_nil ?_
              refine wpL_seq ?_
              refine wpL_seq ?_
              obtain ⟨r162, hj163, hm⟩ := bind_some hm
              refine wpL_cut (fun a w => ∃ b161 : Bool, b161 = r162 ∧ Fr a 165 [(19, .bool r139.1), (20, .int .i64 r139.2), (23, .bool r158.1), (24, .int .i64 r158.2), (141, .bool b161)] ∧ St [] W w []) ?_ ?_
              · refine wpL_region ?_
                refine sY hf hs rfl rfl rfl (Y_move rfl rfl) ?_; clear hf; intro a hf
                refine sY hf hs rfl rfl rfl (Y_neq rfl rfl rfl) ?_; clear hf; intro a hf
                refine sY hf hs rfl rfl rfl (Y_move rfl rfl) ?_; clear hf; intro a hf
                refine bsplit (r139.2 != 0) (fun hb164 => ?_) (fun hb164 => ?_)
                · have hj163 := bif_t hj163 hb164
                  refine sNo hf rfl rfl rfl (congrArg (fun b => some (Value.bool b)) hb164) rfl rfl rfl ?_; clear hf; intro a hf
                  refine sNo hf rfl rfl rfl (congrArg (fun b => some (Value.bool b)) hb164) rfl rfl rfl ?_; clear hf; intro a hf
                  refine sY hf hs rfl rfl rfl (Y_pickT rfl (congrArg (fun b => some (Value.bool b)) hb164) rfl) ?_; clear hf; intro a hf
                  refine wpO_nil ?_
                  refine wpL_nil (then_normal ?_)
                  exact ⟨true, Option.some.inj hj163, (FrD.pick (FrD.pick (FrD.pick (FrD.pick (FrD.pick hf.none hf rfl) hf rfl) hf rfl) hf rfl) hf rfl), hs.sel [] (by decide)⟩
                · have hj163 := bif_f hj163 hb164
                  refine sYg hf hs rfl rfl rfl (congrArg (fun b => some (Value.bool b)) hb164) rfl rfl rfl (Y_move rfl rfl) ?_; clear hf; intro a hf
                  refine sYg hf hs rfl rfl rfl (congrArg (fun b => some (Value.bool b)) hb164) rfl rfl rfl (Y_neq rfl rfl rfl) ?_; clear hf; intro a hf
                  refine sY hf hs rfl rfl rfl (Y_pickF rfl (congrArg (fun b => some (Value.bool b)) hb164) rfl) ?_; clear hf; intro a hf
                  refine wpO_nil ?_
                  refine wpL_nil (then_normal ?_)
                  exact ⟨(r158.2 != 0), Option.some.inj hj163, (FrD.pick (FrD.pick (FrD.pick (FrD.pick (FrD.pick hf.none hf rfl) hf rfl) hf rfl) hf rfl) hf rfl), hs.sel [] (by decide)⟩
              · rintro a w ⟨b161, hr_, hf, hs⟩
                subst hr_
                try dsimp only at hm
                refine wpL_cond hf rfl (fun hb165 => ?_) (fun hb165 => ?_)
                · have hm := bif_t hm hb165
                  refine wpL_seq ?_
                  obtain ⟨r173, hj174, hm⟩ := bind_some hm
                  refine wpL_cut (fun a w => ∃ b172 : Bool, b172 = r173 ∧ Fr a 165 [(2, .bool b172)] ∧ St [] W w []) ?_ ?_
                  · refine wpL_region ?_
                    refine sY hf hs rfl rfl rfl (Y_move rfl rfl) ?_; clear hf; intro a hf
                    refine sY hf hs rfl rfl rfl (Y_eql rfl rfl rfl) ?_; clear hf; intro a hf
                    refine sY hf hs rfl rfl rfl (Y_move rfl rfl) ?_; clear hf; intro a hf
                    refine bsplit (r139.2 == 0) (fun hb175 => ?_) (fun hb175 => ?_)
                    · have hj174 := bif_t hj174 hb175
                      refine sNo hf rfl rfl rfl (congrArg (fun b => some (Value.bool b)) hb175) rfl rfl rfl ?_; clear hf; intro a hf
                      refine sNo hf rfl rfl rfl (congrArg (fun b => some (Value.bool b)) hb175) rfl rfl rfl ?_; clear hf; intro a hf
                      refine sY hf hs rfl rfl rfl (Y_pickT rfl (congrArg (fun b => some (Value.bool b)) hb175) rfl) ?_; clear hf; intro a hf
                      refine sY hf hs rfl rfl rfl (Y_move rfl rfl) ?_; clear hf; intro a hf
                      refine sYg hf hs rfl rfl rfl rfl rfl rfl rfl (Y_move rfl rfl) ?_; clear hf; intro a hf
                      refine sYg hf hs rfl rfl rfl rfl rfl rfl rfl (Y_eql rfl rfl rfl) ?_; clear hf; intro a hf
                      refine sYg hf hs rfl rfl rfl rfl rfl rfl rfl (Y_move rfl rfl) ?_; clear hf; intro a hf
                      refine bsplit (r158.2 == 0) (fun hb176 => ?_) (fun hb176 => ?_)
                      · have hj174 := bif_t hj174 hb176
                        refine sNo hf rfl rfl rfl (congrArg (fun b => some (Value.bool b)) hb176) rfl rfl rfl ?_; clear hf; intro a hf
                        refine sNo hf rfl rfl rfl (congrArg (fun b => some (Value.bool b)) hb176) rfl rfl rfl ?_; clear hf; intro a hf
                        refine sYg hf hs rfl rfl rfl rfl rfl rfl rfl (Y_pickT rfl (congrArg (fun b => some (Value.bool b)) hb176) rfl) ?_; clear hf; intro a hf
                        refine sYg hf hs rfl rfl rfl rfl rfl rfl rfl (Y_move rfl rfl) ?_; clear hf; intro a hf
                        refine sNo hf rfl rfl rfl rfl rfl rfl rfl ?_; clear hf; intro a hf
                        refine sNo hf rfl rfl rfl rfl rfl rfl rfl ?_; clear hf; intro a hf
                        refine sYg hf hs rfl rfl rfl rfl rfl rfl rfl (Y_pickT rfl rfl rfl) ?_; clear hf; intro a hf
                        refine sY hf hs rfl rfl rfl (Y_pickT rfl rfl rfl) ?_; clear hf; intro a hf
                        refine sY hf hs rfl rfl rfl (Y_assign rfl rfl) ?_; clear hf; intro a hf
                        refine wpO_nil ?_
                        refine wpL_nil (then_normal ?_)
                        exact ⟨true, Option.some.inj hj174, (FrD.pick hf.none hf rfl), hs⟩
                      · have hj174 := bif_f hj174 hb176
                        refine sYg hf hs rfl rfl rfl (congrArg (fun b => some (Value.bool b)) hb176) rfl rfl rfl (Y_move rfl rfl) ?_; clear hf; intro a hf
                        refine sYg hf hs rfl rfl rfl (congrArg (fun b => some (Value.bool b)) hb176) rfl rfl rfl (Y_eql rfl rfl rfl) ?_; clear hf; intro a hf
                        refine sYg hf hs rfl rfl rfl rfl rfl rfl rfl (Y_pickF rfl (congrArg (fun b => some (Value.bool b)) hb176) rfl) ?_; clear hf; intro a hf
                        refine sYg hf hs rfl rfl rfl rfl rfl rfl rfl (Y_move rfl rfl) ?_; clear hf; intro a hf
                        refine bsplit (r158.2 == 3) (fun hb177 => ?_) (fun hb177 => ?_)
                        · have hj174 := bif_t hj174 hb177
                          refine sNo hf rfl rfl rfl (congrArg (fun b => some (Value.bool b)) hb177) rfl rfl rfl ?_; clear hf; intro a hf
                          refine sNo hf rfl rfl rfl (congrArg (fun b => some (Value.bool b)) hb177) rfl rfl rfl ?_; clear hf; intro a hf
                          refine sYg hf hs rfl rfl rfl rfl rfl rfl rfl (Y_pickT rfl (congrArg (fun b => some (Value.bool b)) hb177) rfl) ?_; clear hf; intro a hf
                          refine sY hf hs rfl rfl rfl (Y_pickT rfl rfl rfl) ?_; clear hf; intro a hf
                          refine sY hf hs rfl rfl rfl (Y_assign rfl rfl) ?_; clear hf; intro a hf
                          refine wpO_nil ?_
                          refine wpL_nil (then_normal ?_)
                          exact ⟨true, Option.some.inj hj174, (FrD.pick hf.none hf rfl), hs⟩
                        · have hj174 := bif_f hj174 hb177
                          refine sYg hf hs rfl rfl rfl (congrArg (fun b => some (Value.bool b)) hb177) rfl rfl rfl (Y_move rfl rfl) ?_; clear hf; intro a hf
                          refine sYg hf hs rfl rfl rfl (congrArg (fun b => some (Value.bool b)) hb177) rfl rfl rfl (Y_eql rfl rfl rfl) ?_; clear hf; intro a hf
                          refine sYg hf hs rfl rfl rfl rfl rfl rfl rfl (Y_pickF rfl (congrArg (fun b => some (Value.bool b)) hb177) rfl) ?_; clear hf; intro a hf
                          refine sY hf hs rfl rfl rfl (Y_pickT rfl rfl rfl) ?_; clear hf; intro a hf
                          refine sY hf hs rfl rfl rfl (Y_assign rfl rfl) ?_; clear hf; intro a hf
                          refine wpO_nil ?_
                          refine wpL_nil (then_normal ?_)
                          exact ⟨(r158.2 == 1), Option.some.inj hj174, (FrD.pick hf.none hf rfl), hs⟩
                    · have hj174 := bif_f hj174 hb175
                      refine sYg hf hs rfl rfl rfl (congrArg (fun b => some (Value.bool b)) hb175) rfl rfl rfl (Y_move rfl rfl) ?_; clear hf; intro a hf
                      refine sYg hf hs rfl rfl rfl (congrArg (fun b => some (Value.bool b)) hb175) rfl rfl rfl (Y_eql rfl rfl rfl) ?_; clear hf; intro a hf
                      refine sY hf hs rfl rfl rfl (Y_pickF rfl (congrArg (fun b => some (Value.bool b)) hb175) rfl) ?_; clear hf; intro a hf
                      refine sY hf hs rfl rfl rfl (Y_move rfl rfl) ?_; clear hf; intro a hf
                      refine bsplit (r139.2 == 3) (fun hb178 => ?_) (fun hb178 => ?_)
                      · have hj174 := bif_t hj174 hb178
                        refine sYg hf hs rfl rfl rfl (congrArg (fun b => some (Value.bool b)) hb178) rfl rfl rfl (Y_move rfl rfl) ?_; clear hf; intro a hf
                        refine sYg hf hs rfl rfl rfl (congrArg (fun b => some (Value.bool b)) hb178) rfl rfl rfl (Y_eql rfl rfl rfl) ?_; clear hf; intro a hf
                        refine sYg hf hs rfl rfl rfl (congrArg (fun b => some (Value.bool b)) hb178) rfl rfl rfl (Y_move rfl rfl) ?_; clear hf; intro a hf
                        refine bsplit (r158.2 == 0) (fun hb179 => ?_) (fun hb179 => ?_)
                        · have hj174 := bif_t hj174 hb179
                          refine sNo hf rfl rfl rfl (congrArg (fun b => some (Value.bool b)) hb179) rfl rfl rfl ?_; clear hf; intro a hf
                          refine sNo hf rfl rfl rfl (congrArg (fun b => some (Value.bool b)) hb179) rfl rfl rfl ?_; clear hf; intro a hf
                          refine sYg hf hs rfl rfl rfl (congrArg (fun b => some (Value.bool b)) hb178) rfl rfl rfl (Y_pickT rfl (congrArg (fun b => some (Value.bool b)) hb179) rfl) ?_; clear hf; intro a hf
                          refine sYg hf hs rfl rfl rfl (congrArg (fun b => some (Value.bool b)) hb178) rfl rfl rfl (Y_move rfl rfl) ?_; clear hf; intro a hf
                          refine sNo hf rfl rfl rfl rfl rfl rfl rfl ?_; clear hf; intro a hf
                          refine sNo hf rfl rfl rfl rfl rfl rfl rfl ?_; clear hf; intro a hf
                          refine sYg hf hs rfl rfl rfl (congrArg (fun b => some (Value.bool b)) hb178) rfl rfl rfl (Y_pickT rfl rfl rfl) ?_; clear hf; intro a hf
                          refine sY hf hs rfl rfl rfl (Y_pickT rfl (congrArg (fun b => some (Value.bool b)) hb178) rfl) ?_; clear hf; intro a hf
                          refine sY hf hs rfl rfl rfl (Y_assign rfl rfl) ?_; clear hf; intro a hf
                          refine wpO_nil ?_
                          refine wpL_nil (then_normal ?_)
                          exact ⟨true, Option.some.inj hj174, (FrD.pick hf.none hf rfl), hs⟩
                        · have hj174 := bif_f hj174 hb179
                          refine sYg hf hs rfl rfl rfl (congrArg (fun b => some (Value.bool b)) hb179) rfl rfl rfl (Y_move rfl rfl) ?_; clear hf; intro a hf
                          refine sYg hf hs rfl rfl rfl (congrArg (fun b => some (Value.bool b)) hb179) rfl rfl rfl (Y_eql rfl rfl rfl) ?_; clear hf; intro a hf
                          refine sYg hf hs rfl rfl rfl (congrArg (fun b => some (Value.bool b)) hb178) rfl rfl rfl (Y_pickF rfl (congrArg (fun b => some (Value.bool b)) hb179) rfl) ?_; clear hf; intro a hf
                          refine sYg hf hs rfl rfl rfl (congrArg (fun b => some (Value.bool b)) hb178) rfl rfl rfl (Y_move rfl rfl) ?_; clear hf; intro a hf
                          refine bsplit (r158.2 == 3) (fun hb180 => ?_) (fun hb180 => ?_)
                          · have hj174 := bif_t hj174 hb180
                            refine sNo hf rfl rfl rfl (congrArg (fun b => some (Value.bool b)) hb180) rfl rfl rfl ?_; clear hf; intro a hf
                            refine sNo hf rfl rfl rfl (congrArg (fun b => some (Value.bool b)) hb180) rfl rfl rfl ?_; clear hf; intro a hf
                            refine sYg hf hs rfl rfl rfl (congrArg (fun b => some (Value.bool b)) hb178) rfl rfl rfl (Y_pickT rfl (congrArg (fun b => some (Value.bool b)) hb180) rfl) ?_; clear hf; intro a hf
                            refine sY hf hs rfl rfl rfl (Y_pickT rfl (congrArg (fun b => some (Value.bool b)) hb178) rfl) ?_; clear hf; intro a hf
                            refine sY hf hs rfl rfl rfl (Y_assign rfl rfl) ?_; clear hf; intro a hf
                            refine wpO_nil ?_
                            refine wpL_nil (then_normal ?_)
                            exact ⟨true, Option.some.inj hj174, (FrD.pick hf.none hf rfl), hs⟩
                          · have hj174 := bif_f hj174 hb180
                            refine sYg hf hs rfl rfl rfl (congrArg (fun b => some (Value.bool b)) hb180) rfl rfl rfl (Y_move rfl rfl) ?_; clear hf; intro a hf
                            refine sYg hf hs rfl rfl rfl (congrArg (fun b => some (Value.bool b)) hb180) rfl rfl rfl (Y_eql rfl rfl rfl) ?_; clear hf; intro a hf
                            refine sYg hf hs rfl rfl rfl (congrArg (fun b => some (Value.bool b)) hb178) rfl rfl rfl (Y_pickF rfl (congrArg (fun b => some (Value.bool b)) hb180) rfl) ?_; clear hf; intro a hf
                            refine sY hf hs rfl rfl rfl (Y_pickT rfl (congrArg (fun b => some (Value.bool b)) hb178) rfl) ?_; clear hf; intro a hf
                            refine sY hf hs rfl rfl rfl (Y_assign rfl rfl) ?_; clear hf; intro a hf
                            refine wpO_nil ?_
                            refine wpL_nil (then_normal ?_)
                            exact ⟨(r158.2 == 1), Option.some.inj hj174, (FrD.pick hf.none hf rfl), hs⟩
                      · have hj174 := bif_f hj174 hb178
                        refine sNo hf rfl rfl rfl (congrArg (fun b => some (Value.bool b)) hb178) rfl rfl rfl ?_; clear hf; intro a hf
                        refine sNo hf rfl rfl rfl (congrArg (fun b => some (Value.bool b)) hb178) rfl rfl rfl ?_; clear hf; intro a hf
                        refine sNo hf rfl rfl rfl (congrArg (fun b => some (Value.bool b)) hb178) rfl rfl rfl ?_; clear hf; intro a hf
                        refine sNoU hf rfl rfl rfl rfl rfl rfl rfl ?_; clear hf; intro a hf
                        refine sNoU hf rfl rfl rfl rfl rfl rfl rfl ?_; clear hf; intro a hf
                        refine sNo hf rfl rfl rfl (congrArg (fun b => some (Value.bool b)) hb178) rfl rfl rfl ?_; clear hf; intro a hf
                        refine sNo hf rfl rfl rfl (congrArg (fun b => some (Value.bool b)) hb178) rfl rfl rfl ?_; clear hf; intro a hf
                        refine sNoU hf rfl rfl rfl rfl rfl rfl rfl ?_; clear hf; intro a hf
                        refine sNoU hf rfl rfl rfl rfl rfl rfl rfl ?_; clear hf; intro a hf
                        refine sNo hf rfl rfl rfl (congrArg (fun b => some (Value.bool b)) hb178) rfl rfl rfl ?_; clear hf; intro a hf
                        refine sY hf hs rfl rfl rfl (Y_pickF rfl (congrArg (fun b => some (Value.bool b)) hb178) rfl) ?_; clear hf; intro a hf
                        refine sY hf hs rfl rfl rfl (Y_assign rfl rfl) ?_; clear hf; intro a hf
                        refine wpO_nil ?_
                        refine wpL_nil (then_normal ?_)
                        exact ⟨false, Option.some.inj hj174, (FrD.pick hf.none hf rfl), hs⟩
                  · rintro a w ⟨b172, hr_, hf, hs⟩
                    subst hr_
                    try dsimp only at hm
                    obtain rfl := Option.some.inj hm
                    refine wpL_ret (ret_tmp rfl hf rfl ?_)
                    exact ⟨_, rfl, rfl, hs⟩
                · have hm := bif_f hm hb165
                  refine wpL_skip ?_
                  refine wpL_seq ?_
                  obtain ⟨r183, hj184, hm⟩ := bind_some hm
                  refine wpL_cut (fun a w => ∃ b182 : Bool, b182 = r183 ∧ Fr a 165 [(2, .bool b182)] ∧ St [] W w []) ?_ ?_
                  · refine wpL_region ?_
                    refine sY hf hs rfl rfl rfl (Y_move rfl rfl) ?_; clear hf; intro a hf
                    refine sY hf hs rfl rfl rfl (Y_move rfl rfl) ?_; clear hf; intro a hf
                    refine bsplit r139.1 (fun hb185 => ?_) (fun hb185 => ?_)
                    · have hj184 := bif_t hj184 hb185
                      refine sYg hf hs rfl rfl rfl (congrArg (fun b => some (Value.bool b)) hb185) rfl rfl rfl (Y_move rfl rfl) ?_; clear hf; intro a hf
                      refine sYg hf hs rfl rfl rfl (congrArg (fun b => some (Value.bool b)) hb185) rfl rfl rfl (Y_not rfl rfl) ?_; clear hf; intro a hf
                      refine sY hf hs rfl rfl rfl (Y_pickT rfl (congrArg (fun b => some (Value.bool b)) hb185) rfl) ?_; clear hf; intro a hf
                      refine sY hf hs rfl rfl rfl (Y_assign rfl rfl) ?_; clear hf; intro a hf
                      refine wpO_nil ?_
                      refine wpL_nil (then_normal ?_)
                      exact ⟨(!r158.1), Option.some.inj hj184, (FrD.pick hf.none hf rfl), hs⟩
                    · have hj184 := bif_f hj184 hb185
                      refine sNo hf rfl rfl rfl (congrArg (fun b => some (Value.bool b)) hb185) rfl rfl rfl ?_; clear hf; intro a hf
                      refine sNo hf rfl rfl rfl (congrArg (fun b => some (Value.bool b)) hb185) rfl rfl rfl ?_; clear hf; intro a hf
                      refine sY hf hs rfl rfl rfl (Y_pickF rfl (congrArg (fun b => some (Value.bool b)) hb185) rfl) ?_; clear hf; intro a hf
                      refine sY hf hs rfl rfl rfl (Y_assign rfl rfl) ?_; clear hf; intro a hf
                      refine wpO_nil ?_
                      refine wpL_nil (then_normal ?_)
                      exact ⟨false, Option.some.inj hj184, (FrD.pick hf.none hf rfl), hs⟩
                  · rintro a w ⟨b182, hr_, hf, hs⟩
                    subst hr_
                    try dsimp only at hm
                    obtain rfl := Option.some.inj hm
                    refine wpL_ret (ret_tmp rfl hf rfl ?_)
                    exact ⟨_, rfl, rfl, hs⟩

end Go.Proofs.Ytgkgimglgjfcjaa
