/- The functions do what their models say. -/
import Derived.Test.YtgkgimglgjfcjaaJustInTimeLifted1
import Derived.Test.YtgkgimglgjfcjaaRows
namespace Go.Proofs.Ytgkgimglgjfcjaa
open Go.RowKit

set_option maxRecDepth 100000 in
theorem impl_allWithin_ok (F : Nat) (p0_list : List Int) (A_p0_list_1 : Option Addr) (n_p0_list_1 c_p0_list_1 : Nat) (hn_p0_list_1 : n_p0_list_1 = p0_list.length) (p1_low : Int) (p2_high : Int) (r : Bool) (W : World) (hm : impl_allWithin F p0_list p1_low p2_high = some r) (h_p0_list_1 : Rd W A_p0_list_1 (ints p0_list)) :
    Calls Try.prog 121 [.slice A_p0_list_1 n_p0_list_1 c_p0_list_1, .int .i64 p1_low, .int .i64 p2_high].toArray W fun e w' => ∃ v, e = .returned v ∧ v = .bool r ∧ St [] W w' [] := by
  subst hn_p0_list_1
  unfold impl_allWithin at hm
  refine Calls.enter (N := 21) Try.func121 rfl rfl rfl (fun a hf => ?_)
  have hs := St.start W
  obtain ⟨w, hw_⟩ : ∃ w, w = W := ⟨W, rfl⟩
  clear hw_ w
  refine wpL_seq ?_
  refine wpL_region ?_
  refine sY hf hs rfl rfl rfl (Y_assign rfl rfl) ?_; clear hf; intro a hf
  refine wpO_nil ?_
  refine wpL_seq ?_
  refine wpL_seq ?_
  refine wpL_region ?_
  refine sY hf hs rfl rfl rfl (Y_move rfl rfl) ?_; clear hf; intro a hf
  refine sY hf hs rfl rfl rfl (Y_lenH rfl rfl el23 rfl) ?_; clear hf; intro a hf
  refine sY hf hs rfl rfl rfl (Y_move rfl rfl) ?_; clear hf; intro a hf
  refine wpO_nil ?_
  obtain ⟨r21, hl22, hm⟩ := bind_some hm
  refine wpL_block (fun a w => Sum.inr () = r21 ∧ Fr a 21 [] ∧ St [] W w []) ?_ ?_
  · refine wpL_loop (fun n a w => ∃ x14 : Int, impl_allWithin_L1 F p0_list p1_low p2_high n x14 = some r21 ∧ Fr a 21 [(1, .int .i64 p1_low), (2, .int .i64 p2_high), (9, .slice A_p0_list_1 p0_list.length c_p0_list_1), (10, .int .i64 (p0_list.length : Int)), (11, .int .i64 x14)] ∧ St [] W w []) F ?_ ?_ ?_
    · exact ⟨0, hl22, (FrD.pick (FrD.pick (FrD.pick (FrD.pick (FrD.pick hf.none hf rfl) hf rfl) hf rfl) hf rfl) hf rfl), hs⟩
    · rintro a w ⟨x14, h0_, -, -⟩; simp [impl_allWithin_L1] at h0_
    · rintro n24 a w ⟨x14, hm23, hf, hs⟩
      rw [impl_allWithin_L1] at hm23
      refine wpL_seq ?_
      refine wpL_region ?_
      refine sY hf hs rfl rfl rfl (Y_lss rfl rfl rfl) ?_; clear hf; intro a hf
      refine wpO_nil ?_
      refine wpL_seq ?_
      refine wpL_cond hf rfl (fun hb25 => ?_) (fun hb25 => ?_)
      · have hm23 := bif_t hm23 hb25
        refine wpL_skip ?_
        refine wpL_seq ?_
        refine wpL_block0 ?_
        refine wpL_seq ?_
        refine wpL_region ?_
        obtain ⟨q26, hi27, hm23⟩ := bind_some hm23
        obtain ⟨hi27a, hi27b, hi27q⟩ := idx_some hi27
        refine sY hf hs rfl rfl rfl (Y_index rfl rfl rfl el23 ti2 (Rd.isAt (h_p0_list_1.at hs) (at1 (ints_at hi27q))) hi27a hi27b) ?_; clear hf; intro a hf
        refine sY hf hs rfl rfl rfl (Y_load_rd rfl rfl (fun w hs => h_p0_list_1.at hs) (at1 (ints_at hi27q)) ag2) ?_; clear hf; intro a hf
        refine sY hf hs rfl rfl rfl (Y_assign rfl rfl) ?_; clear hf; intro a hf
        refine wpO_nil ?_
        refine wpL_seq ?_
        refine wpL_region ?_
        refine sY hf hs rfl rfl rfl (Y_move rfl rfl) ?_; clear hf; intro a hf
        refine sY hf hs rfl rfl rfl (Y_move rfl rfl) ?_; clear hf; intro a hf
        refine sY hf hs rfl rfl rfl (Y_move rfl rfl) ?_; clear hf; intro a hf
        obtain ⟨r28, hc29, hm23⟩ := bind_some hm23
        refine sCall hf rfl rfl rfl rfl (cap := []) rfl rfl en105 (impl_within_ok F q26 p1_low p2_high _ _ hc29) ?_; clear hf
        rintro _ w ⟨rfl, hs1⟩ a hf
        have hs : St [] W w [] := hs.ext hs1.below
        clear hs1
        refine sY hf hs rfl rfl rfl (Y_not rfl rfl) ?_; clear hf; intro a hf
        refine wpO_nil ?_
        refine wpL_cond hf rfl (fun hb30 => ?_) (fun hb30 => ?_)
        · have hm23 := bif_t hm23 hb30
          refine wpL_seq ?_
          refine wpL_region ?_
          refine sY hf hs rfl rfl rfl (Y_assign rfl rfl) ?_; clear hf; intro a hf
          refine wpO_nil ?_
          obtain rfl := Option.some.inj hm23
          try dsimp only at hm
          obtain rfl := Option.some.inj hm
          refine wpL_ret (Qb_ret (Ql_ret (Qb_ret (ret_tmp rfl hf rfl ?_))))
          exact ⟨_, rfl, rfl, hs⟩
        · have hm23 := bif_f hm23 hb30
          refine wpL_skip ?_
          refine wpL_nil (Qb_normal ?_)
          refine wpL_region ?_
          refine sY hf hs rfl rfl rfl (Y_add rfl rfl rfl) ?_; clear hf; intro a hf
          refine sY hf hs rfl rfl rfl (Y_move rfl rfl) ?_; clear hf; intro a hf
          refine wpO_nil ?_
          refine wpL_nil (Ql_normal ?_)
          exact ⟨(IntKind.i64.wrap (x14 + 1)), hm23, (FrD.pick (FrD.pick (FrD.pick (FrD.pick (FrD.pick hf.none hf rfl) hf rfl) hf rfl) hf rfl) hf rfl), hs⟩
      · have hm23 := bif_f hm23 hb25
        refine wpL_exit (Ql_exit (Qb_exit ?_))
        exact ⟨Option.some.inj hm23, hf.none, hs⟩
  · rintro a w ⟨hr_, hf, hs⟩
    subst hr_
    try dsimp only at hm
    refine wpL_seq ?_
    refine wpL_region ?_
    refine sY hf hs rfl rfl rfl (Y_assign rfl rfl) ?_; clear hf; intro a hf
    refine wpO_nil ?_
    obtain rfl := Option.some.inj hm
    refine wpL_ret (ret_tmp rfl hf rfl ?_)
    exact ⟨_, rfl, rfl, hs⟩

set_option maxRecDepth 100000 in
theorem impl_times_ok (F : Nat) (p0_a : Int) (p1_b : Int) (r : Int) (W : World) (hm : impl_times F p0_a p1_b = some r) :
    Calls Try.prog 90 [.int .i64 p0_a, .int .i64 p1_b].toArray W fun e w' => ∃ v, e = .returned v ∧ v = .int .i64 r ∧ St [] W w' [] := by
  unfold impl_times at hm
  refine Calls.enter (N := 14) Try.func90 rfl rfl rfl (fun a hf => ?_)
  have hs := St.start W
  obtain ⟨w, hw_⟩ : ∃ w, w = W := ⟨W, rfl⟩
  clear hw_ w
  refine wpL_seq ?_
  refine wpL_region ?_
  refine sY hf hs rfl rfl rfl (Y_assign rfl rfl) ?_; clear hf; intro a hf
  refine wpO_nil ?_
  refine wpL_seq ?_
  refine wpL_seq ?_
  obtain ⟨r3, hj4, hm⟩ := bind_some hm
  refine wpL_cut (fun a w => ∃ b2 : Bool, b2 = r3 ∧ Fr a 14 [(0, .int .i64 p0_a), (1, .int .i64 p1_b), (10, .bool b2)] ∧ St [] W w []) ?_ ?_
  · refine wpL_region ?_
    refine sY hf hs rfl rfl rfl (Y_move rfl rfl) ?_; clear hf; intro a hf
    refine sY hf hs rfl rfl rfl (Y_eql rfl rfl rfl) ?_; clear hf; intro a hf
    refine sY hf hs rfl rfl rfl (Y_move rfl rfl) ?_; clear hf; intro a hf
    refine bsplit (p0_a == (-1000000000000000)) (fun hb5 => ?_) (fun hb5 => ?_)
    · have hj4 := bif_t hj4 hb5
      refine sNo hf rfl rfl rfl (congrArg (fun b => some (Value.bool b)) hb5) rfl rfl rfl ?_; clear hf; intro a hf
      refine sNo hf rfl rfl rfl (congrArg (fun b => some (Value.bool b)) hb5) rfl rfl rfl ?_; clear hf; intro a hf
      refine sY hf hs rfl rfl rfl (Y_pickT rfl (congrArg (fun b => some (Value.bool b)) hb5) rfl) ?_; clear hf; intro a hf
      refine wpO_nil ?_
      refine wpL_nil (then_normal ?_)
      exact ⟨true, Option.some.inj hj4, (FrD.pick (FrD.pick (FrD.pick hf.none hf rfl) hf rfl) hf rfl), hs⟩
    · have hj4 := bif_f hj4 hb5
      refine sYg hf hs rfl rfl rfl (congrArg (fun b => some (Value.bool b)) hb5) rfl rfl rfl (Y_move rfl rfl) ?_; clear hf; intro a hf
      refine sYg hf hs rfl rfl rfl (congrArg (fun b => some (Value.bool b)) hb5) rfl rfl rfl (Y_eql rfl rfl rfl) ?_; clear hf; intro a hf
      refine sY hf hs rfl rfl rfl (Y_pickF rfl (congrArg (fun b => some (Value.bool b)) hb5) rfl) ?_; clear hf; intro a hf
      refine wpO_nil ?_
      refine wpL_nil (then_normal ?_)
      exact ⟨(p1_b == (-1000000000000000)), Option.some.inj hj4, (FrD.pick (FrD.pick (FrD.pick hf.none hf rfl) hf rfl) hf rfl), hs⟩
  · rintro a w ⟨b2, hr_, hf, hs⟩
    subst hr_
    try dsimp only at hm
    refine wpL_cond hf rfl (fun hb6 => ?_) (fun hb6 => ?_)
    · have hm := bif_t hm hb6
      refine wpL_seq ?_
      refine wpL_region ?_
      refine sY hf hs rfl rfl rfl (Y_assign rfl rfl) ?_; clear hf; intro a hf
      refine wpO_nil ?_
      obtain rfl := Option.some.inj hm
      refine wpL_ret (ret_tmp rfl hf rfl ?_)
      exact ⟨_, rfl, rfl, hs⟩
    · have hm := bif_f hm hb6
      refine wpL_skip ?_
      refine wpL_seq ?_
      refine wpL_region ?_
      refine sY hf hs rfl rfl rfl (Y_move rfl rfl) ?_; clear hf; intro a hf
      refine sY hf hs rfl rfl rfl (Y_move rfl rfl) ?_; clear hf; intro a hf
      refine sY hf hs rfl rfl rfl (Y_add rfl rfl rfl) ?_; clear hf; intro a hf
      refine sY hf hs rfl rfl rfl (Y_assign rfl rfl) ?_; clear hf; intro a hf
      refine wpO_nil ?_
      obtain rfl := Option.some.inj hm
      refine wpL_ret (ret_tmp rfl hf rfl ?_)
      exact ⟨_, rfl, rfl, hs⟩

set_option maxRecDepth 100000 in
theorem impl_innerProduct_ok (F : Nat) (p0_a : List Int) (A_p0_a_1 : Option Addr) (n_p0_a_1 c_p0_a_1 : Nat) (hn_p0_a_1 : n_p0_a_1 = p0_a.length) (p1_b : List Int) (A_p1_b_1 : Option Addr) (n_p1_b_1 c_p1_b_1 : Nat) (hn_p1_b_1 : n_p1_b_1 = p1_b.length) (r : Int) (W : World) (hm : impl_innerProduct F p0_a p1_b = some r) (h_p0_a_1 : Rd W A_p0_a_1 (ints p0_a)) (h_p1_b_1 : Rd W A_p1_b_1 (ints p1_b)) :
    Calls Try.prog 85 [.slice A_p0_a_1 n_p0_a_1 c_p0_a_1, .slice A_p1_b_1 n_p1_b_1 c_p1_b_1].toArray W fun e w' => ∃ v, e = .returned v ∧ v = .int .i64 r ∧ St [] W w' [] := by
  subst hn_p0_a_1
  subst hn_p1_b_1
  unfold impl_innerProduct at hm
  refine Calls.enter (N := 25) Try.func85 rfl rfl rfl (fun a hf => ?_)
  have hs := St.start W
  obtain ⟨w, hw_⟩ : ∃ w, w = W := ⟨W, rfl⟩
  clear hw_ w
  refine wpL_seq ?_
  refine wpL_region ?_
  refine sY hf hs rfl rfl rfl (Y_assign rfl rfl) ?_; clear hf; intro a hf
  refine wpO_nil ?_
  refine wpL_seq ?_
  refine wpL_region ?_
  refine sY hf hs rfl rfl rfl (Y_assign rfl rfl) ?_; clear hf; intro a hf
  refine wpO_nil ?_
  refine wpL_seq ?_
  refine wpL_seq ?_
  refine wpL_region ?_
  refine sY hf hs rfl rfl rfl (Y_move rfl rfl) ?_; clear hf; intro a hf
  refine sY hf hs rfl rfl rfl (Y_lenH rfl rfl el23 rfl) ?_; clear hf; intro a hf
  refine sY hf hs rfl rfl rfl (Y_move rfl rfl) ?_; clear hf; intro a hf
  refine wpO_nil ?_
  obtain ⟨r27, hl28, hm⟩ := bind_some hm
  refine wpL_block (fun a w => ∃ x26 : Int, x26 = r27 ∧ Fr a 25 [(5, .int .i64 x26)] ∧ St [] W w []) ?_ ?_
  · refine wpL_loop (fun n a w => ∃ x17 : Int, ∃ x18 : Int, impl_innerProduct_L1 F p0_a p1_b n x17 x18 = some r27 ∧ Fr a 25 [(1, .slice A_p1_b_1 p1_b.length c_p1_b_1), (5, .int .i64 x17), (8, .slice A_p0_a_1 p0_a.length c_p0_a_1), (9, .int .i64 (p0_a.length : Int)), (10, .int .i64 x18)] ∧ St [] W w []) F ?_ ?_ ?_
    · exact ⟨(-1000000000000000), 0, hl28, (FrD.pick (FrD.pick (FrD.pick (FrD.pick (FrD.pick hf.none hf rfl) hf rfl) hf rfl) hf rfl) hf rfl), hs⟩
    · rintro a w ⟨x17, x18, h0_, -, -⟩; simp [impl_innerProduct_L1] at h0_
    · rintro n30 a w ⟨x17, x18, hm29, hf, hs⟩
      rw [impl_innerProduct_L1] at hm29
      refine wpL_seq ?_
      refine wpL_region ?_
      refine sY hf hs rfl rfl rfl (Y_lss rfl rfl rfl) ?_; clear hf; intro a hf
      refine wpO_nil ?_
      refine wpL_seq ?_
      refine wpL_cond hf rfl (fun hb31 => ?_) (fun hb31 => ?_)
      · have hm29 := bif_t hm29 hb31
        refine wpL_skip ?_
        refine wpL_seq ?_
        refine wpL_block0 ?_
        refine wpL_seq ?_
        refine wpL_region ?_
        refine sY hf hs rfl rfl rfl (Y_move rfl rfl) ?_; clear hf; intro a hf
        obtain ⟨q32, hi33, hm29⟩ := bind_some hm29
        obtain ⟨hi33a, hi33b, hi33q⟩ := idx_some hi33
        refine sY hf hs rfl rfl rfl (Y_index rfl rfl rfl el23 ti2 (Rd.isAt (h_p0_a_1.at hs) (at1 (ints_at hi33q))) hi33a hi33b) ?_; clear hf; intro a hf
        refine sY hf hs rfl rfl rfl (Y_load_rd rfl rfl (fun w hs => h_p0_a_1.at hs) (at1 (ints_at hi33q)) ag2) ?_; clear hf; intro a hf
        refine sY hf hs rfl rfl rfl (Y_assign rfl rfl) ?_; clear hf; intro a hf
        refine sY hf hs rfl rfl rfl (Y_assign rfl rfl) ?_; clear hf; intro a hf
        refine wpO_nil ?_
        refine wpL_region ?_
        refine sY hf hs rfl rfl rfl (Y_move rfl rfl) ?_; clear hf; intro a hf
        refine sY hf hs rfl rfl rfl (Y_move rfl rfl) ?_; clear hf; intro a hf
        refine sY hf hs rfl rfl rfl (Y_move rfl rfl) ?_; clear hf; intro a hf
        refine sY hf hs rfl rfl rfl (Y_move rfl rfl) ?_; clear hf; intro a hf
        obtain ⟨q34, hi35, hm29⟩ := bind_some hm29
        obtain ⟨hi35a, hi35b, hi35q⟩ := idx_some hi35
        refine sY hf hs rfl rfl rfl (Y_index rfl rfl rfl el23 ti2 (Rd.isAt (h_p1_b_1.at hs) (at1 (ints_at hi35q))) hi35a hi35b) ?_; clear hf; intro a hf
        refine sY hf hs rfl rfl rfl (Y_load_rd rfl rfl (fun w hs => h_p1_b_1.at hs) (at1 (ints_at hi35q)) ag2) ?_; clear hf; intro a hf
        obtain ⟨r36, hc37, hm29⟩ := bind_some hm29
        refine sCall hf rfl rfl rfl rfl (cap := []) rfl rfl en90 (impl_times_ok F q32 q34 _ _ hc37) ?_; clear hf
        rintro _ w ⟨rfl, hs1⟩ a hf
        have hs : St [] W w [] := hs.ext hs1.below
        clear hs1
        refine sY hf hs rfl rfl rfl (Y_max rfl rfl rfl) ?_; clear hf; intro a hf
        refine sY hf hs rfl rfl rfl (Y_assign rfl rfl) ?_; clear hf; intro a hf
        refine wpO_nil ?_
        refine wpL_nil (Qb_normal ?_)
        refine wpL_region ?_
        refine sY hf hs rfl rfl rfl (Y_add rfl rfl rfl) ?_; clear hf; intro a hf
        refine sY hf hs rfl rfl rfl (Y_move rfl rfl) ?_; clear hf; intro a hf
        refine wpO_nil ?_
        refine wpL_nil (Ql_normal ?_)
        exact ⟨(max x17 r36), (IntKind.i64.wrap (x18 + 1)), hm29, (FrD.pick (FrD.pick (FrD.pick (FrD.pick (FrD.pick hf.none hf rfl) hf rfl) hf rfl) hf rfl) hf rfl), hs⟩
      · have hm29 := bif_f hm29 hb31
        refine wpL_exit (Ql_exit (Qb_exit ?_))
        exact ⟨x17, Option.some.inj hm29, (FrD.pick hf.none hf rfl), hs⟩
  · rintro a w ⟨x26, hr_, hf, hs⟩
    subst hr_
    try dsimp only at hm
    refine wpL_seq ?_
    refine wpL_region ?_
    refine sY hf hs rfl rfl rfl (Y_move rfl rfl) ?_; clear hf; intro a hf
    refine sY hf hs rfl rfl rfl (Y_assign rfl rfl) ?_; clear hf; intro a hf
    refine wpO_nil ?_
    obtain rfl := Option.some.inj hm
    refine wpL_ret (ret_tmp rfl hf rfl ?_)
    exact ⟨_, rfl, rfl, hs⟩

set_option maxRecDepth 100000 in
theorem slices_Clone_int64_ok (F : Nat) (p0_s : List Int) (A_p0_s_1 : Option Addr) (n_p0_s_1 c_p0_s_1 : Nat) (hn_p0_s_1 : n_p0_s_1 = p0_s.length) (r : List Int) (W : World) (hm : slices_Clone_int64 F p0_s = some r) (h_p0_s_1 : Rd W A_p0_s_1 (ints p0_s)) :
    Calls Try.prog 91 [.slice A_p0_s_1 n_p0_s_1 c_p0_s_1].toArray W fun e w' => ∃ v, e = .returned v ∧ ∃ A7, ∃ n8, ∃ c9, v = .slice A7 n8 c9 ∧ n8 = r.length ∧ St [] W w' [.row A7 n8 c9 2 1 (ints r)] := by
  subst hn_p0_s_1
  cases A_p0_s_1 with
  | none =>
    obtain rfl : p0_s = [] := rd_none_ints h_p0_s_1
    have hm : some ([] : List Int) = some r := hm
    refine Calls.enter (N := 8) Try.func91 rfl rfl rfl (fun a hf => ?_)
    have hs := St.start W
    obtain ⟨w, hw_⟩ : ∃ w, w = W := ⟨W, rfl⟩
    clear hw_ w
    refine wpL_seq ?_
    refine wpL_region ?_
    refine sY hf hs rfl rfl rfl (Y_assign rfl rfl) ?_; clear hf; intro a hf
    refine wpO_nil ?_
    refine wpL_seq ?_
    refine wpL_seq ?_
    refine wpL_region ?_
    refine sY hf hs rfl rfl rfl (Y_move rfl rfl) ?_; clear hf; intro a hf
    refine sY hf hs rfl rfl rfl (Y_eqnil rfl rfl rfl un23) ?_; clear hf; intro a hf
    refine wpO_nil ?_
    refine wpL_cond hf rfl (fun _ => ?_) (fun e => absurd e (by decide))
    refine wpL_seq ?_
    refine wpL_region ?_
    refine sY hf hs rfl rfl rfl (Y_assign rfl rfl) ?_; clear hf; intro a hf
    refine wpO_nil ?_
    have hs : St [] W _ [.row none 0 0 2 1 (ints ([] : List Int))] := hs.addNil 2 1
    obtain rfl := Option.some.inj hm
    refine wpL_ret (ret_tmp rfl hf rfl ?_)
    exact ⟨_, rfl, none, 0, 0, rfl, rfl, hs⟩
  | some a_ =>
    unfold slices_Clone_int64 at hm
    refine Calls.enter (N := 8) Try.func91 rfl rfl rfl (fun a hf => ?_)
    have hs := St.start W
    obtain ⟨w, hw_⟩ : ∃ w, w = W := ⟨W, rfl⟩
    clear hw_ w
    refine wpL_seq ?_
    refine wpL_region ?_
    refine sY hf hs rfl rfl rfl (Y_assign rfl rfl) ?_; clear hf; intro a hf
    refine wpO_nil ?_
    refine wpL_seq ?_
    refine wpL_seq ?_
    refine wpL_region ?_
    refine sY hf hs rfl rfl rfl (Y_move rfl rfl) ?_; clear hf; intro a hf
    refine sY hf hs rfl rfl rfl (Y_eqnil rfl rfl rfl un23) ?_; clear hf; intro a hf
    refine wpO_nil ?_
    refine wpL_cond hf rfl (fun e => absurd e Bool.false_ne_true) (fun _ => ?_)
    refine wpL_skip ?_
    refine wpL_seq ?_
    refine wpL_region ?_
    refine sEmpty hf hs rfl rfl rfl rfl el23 ti2 ?_; clear hf hs; intro a w A1 hs hf
    have hs : St [] W w [.row A1 0 0 2 1 (ints ([] : List Int))] := hs
    refine sY hf hs rfl rfl rfl (Y_move rfl rfl) ?_; clear hf; intro a hf
    obtain ⟨xs5, ha6, hm⟩ := bind_some hm
    refine sAppendG (i := 0) (xs := ([] : List Int)) (ys := p0_s) (enc := ints) hf hs rfl rfl rfl rfl rfl rfl rfl rfl rfl ha6 el23 ti2 rfl rfl rfl (h_p0_s_1.at hs) ints_len1 ints_append ints_one ?_; clear hf hs; intro a w A3 c4 hs hf
    have hs : St [] W w [.row A3 xs5.length c4 2 1 (ints xs5)] := hs
    refine sY hf hs rfl rfl rfl (Y_assign rfl rfl) ?_; clear hf; intro a hf
    refine wpO_nil ?_
    obtain rfl := Option.some.inj hm
    refine wpL_ret (ret_tmp rfl hf rfl ?_)
    exact ⟨_, rfl, A3, xs5.length, c4, rfl, rfl, hs⟩

set_option maxRecDepth 100000 in
theorem impl_timesVector_ok (F : Nat) (p0_a : List (List Int)) (A_p0_a_1 : Option Addr) (n_p0_a_1 c_p0_a_1 : Nat) (hn_p0_a_1 : n_p0_a_1 = p0_a.length) (p1_x : List Int) (A_p1_x_1 : Option Addr) (n_p1_x_1 c_p1_x_1 : Nat) (hn_p1_x_1 : n_p1_x_1 = p1_x.length) (r : List Int) (W : World) (hm : impl_timesVector F p0_a p1_x = some r) (h_p0_a_1 : RdM W A_p0_a_1 p0_a) (h_p1_x_1 : Rd W A_p1_x_1 (ints p1_x)) :
    Calls Try.prog 83 [.slice A_p0_a_1 n_p0_a_1 c_p0_a_1, .slice A_p1_x_1 n_p1_x_1 c_p1_x_1].toArray W fun e w' => ∃ v, e = .returned v ∧ ∃ A488, ∃ n489, ∃ c490, v = .slice A488 n489 c490 ∧ n489 = r.length ∧ St [] W w' [.row A488 n489 c490 2 1 (ints r)] := by
  subst hn_p0_a_1
  subst hn_p1_x_1
  unfold impl_timesVector at hm
  refine Calls.enter (N := 47) Try.func83 rfl rfl rfl (fun a hf => ?_)
  have hs := St.start W
  obtain ⟨w, hw_⟩ : ∃ w, w = W := ⟨W, rfl⟩
  clear hw_ w
  refine wpL_seq ?_
  refine wpL_region ?_
  refine sY hf hs rfl rfl rfl (Y_assign rfl rfl) ?_; clear hf; intro a hf
  refine wpO_nil ?_
  refine wpL_seq ?_
  refine wpL_region ?_
  refine sY hf hs rfl rfl rfl (Y_move rfl rfl) ?_; clear hf; intro a hf
  refine sY hf hs rfl rfl rfl (Y_lenH rfl rfl el22 rfl) ?_; clear hf; intro a hf
  obtain ⟨xs3, hk2, hm⟩ := bind_some hm
  refine sMakeL (enc := ints) hf hs rfl rfl rfl rfl rfl hk2 el23 ti2 rfl ints_made ?_; clear hf hs; intro a w A1 hs hf
  have hs : St [] W w [.row A1 xs3.length xs3.length 2 1 (ints xs3)] := hs
  refine sY hf hs rfl rfl rfl (Y_assign rfl rfl) ?_; clear hf; intro a hf
  refine wpO_nil ?_
  refine wpL_seq ?_
  refine wpL_seq ?_
  refine wpL_region ?_
  refine sY hf hs rfl rfl rfl (Y_move rfl rfl) ?_; clear hf; intro a hf
  refine sY hf hs rfl rfl rfl (Y_lenH rfl rfl el22 rfl) ?_; clear hf; intro a hf
  refine sY hf hs rfl rfl rfl (Y_move rfl rfl) ?_; clear hf; intro a hf
  refine wpO_nil ?_
  obtain ⟨r366, hl367, hm⟩ := bind_some hm
  refine wpL_block (fun a w => ∃ xs364 : List Int, xs364 = r366 ∧ xs3.length = xs364.length ∧ Fr a 47 [(5, .slice A1 xs3.length xs3.length)] ∧ St [] W w [.row A1 xs3.length xs3.length 2 1 (ints xs364)]) ?_ ?_
  · refine wpL_loop (fun n a w => ∃ xs243 : List Int, ∃ x245 : Int, impl_timesVector_L4 F p0_a p1_x n xs243 x245 = some r366 ∧ xs3.length = xs243.length ∧ Fr a 47 [(1, .slice A_p1_x_1 p1_x.length c_p1_x_1), (5, .slice A1 xs3.length xs3.length), (13, .slice A_p0_a_1 p0_a.length c_p0_a_1), (14, .int .i64 (p0_a.length : Int)), (15, .int .i64 x245)] ∧ St [] W w [.row A1 xs3.length xs3.length 2 1 (ints xs243)]) F ?_ ?_ ?_
    · exact ⟨xs3, 0, hl367, rfl, (FrD.pick (FrD.pick (FrD.pick (FrD.pick (FrD.pick hf.none hf rfl) hf rfl) hf rfl) hf rfl) hf rfl), hs⟩
    · rintro a w ⟨xs243, x245, h0_, -, -, -⟩; simp [impl_timesVector_L4] at h0_
    · rintro n369 a w ⟨xs243, x245, hm368, hn244, hf, hs⟩
      rw [impl_timesVector_L4] at hm368
      refine wpL_seq ?_
      refine wpL_region ?_
      refine sY hf hs rfl rfl rfl (Y_lss rfl rfl rfl) ?_; clear hf; intro a hf
      refine wpO_nil ?_
      refine wpL_seq ?_
      refine wpL_cond hf rfl (fun hb370 => ?_) (fun hb370 => ?_)
      · have hm368 := bif_t hm368 hb370
        refine wpL_skip ?_
        refine wpL_seq ?_
        refine wpL_block0 ?_
        refine wpL_seq ?_
        refine wpL_region ?_
        refine sY hf hs rfl rfl rfl (Y_move rfl rfl) ?_; clear hf; intro a hf
        obtain ⟨q371, hi372, hm368⟩ := bind_some hm368
        obtain ⟨hi372a, hi372b, hi372q⟩ := idx_some hi372
        obtain ⟨vs373, hv374, hr375⟩ := id h_p0_a_1
        obtain ⟨A376, c377, hv378, hR379⟩ := hr375 _ _ hi372q
        refine sY hf hs rfl rfl rfl (Y_index rfl rfl rfl el22 ti23 (Rd.isAt hv374 hv378) hi372a hi372b) ?_; clear hf; intro a hf
        refine sY hf hs rfl rfl rfl (Y_load_rd rfl rfl (fun w hs => hv374.at hs) (at1 hv378) ag23) ?_; clear hf; intro a hf
        refine sY hf hs rfl rfl rfl (Y_assign rfl rfl) ?_; clear hf; intro a hf
        refine sY hf hs rfl rfl rfl (Y_assign rfl rfl) ?_; clear hf; intro a hf
        refine wpO_nil ?_
        refine wpL_seq ?_
        refine wpL_region ?_
        refine sY hf hs rfl rfl rfl (Y_move rfl rfl) ?_; clear hf; intro a hf
        refine sY hf hs rfl rfl rfl (Y_move rfl rfl) ?_; clear hf; intro a hf
        obtain ⟨q380, hi381, hm368⟩ := bind_some hm368
        obtain ⟨hi381a, hi381b, hi381q⟩ := idx_some hi381
        refine sY hf hs rfl rfl rfl (Y_index rfl rfl rfl el23 ti2 (Rd.isAt (hs.rd (i := 0) rfl) (at1 (ints_at hi381q))) hi381a (ltn hn244 hi381b)) ?_; clear hf; intro a hf
        obtain ⟨xs382, hu383, hm368⟩ := bind_some hm368
        refine sStoreL (i := 0) (us := [.int .i64 (-1000000000000000)]) (enc := ints) hf hs rfl rfl rfl rfl rfl rfl hn244 hu383 ti2 rfl rfl rfl rfl rfl ints_len1 (ints_set (-1000000000000000)) ?_; clear hs; intro w hs
        have hs : St [] W w [.row A1 xs3.length xs3.length 2 1 (ints xs382)] := hs
        refine wpO_nil ?_
        refine wpL_seq ?_
        refine wpL_region ?_
        refine sY hf hs rfl rfl rfl (Y_move rfl rfl) ?_; clear hf; intro a hf
        refine sY hf hs rfl rfl rfl (Y_lenH rfl rfl el23 rfl) ?_; clear hf; intro a hf
        refine sY hf hs rfl rfl rfl (Y_move rfl rfl) ?_; clear hf; intro a hf
        refine wpO_nil ?_
        obtain ⟨r461, hl462, hm368⟩ := bind_some hm368
        refine wpL_block (fun a w => ∃ xs459 : List Int, xs459 = r461 ∧ xs3.length = xs459.length ∧ Fr a 47 [(1, .slice A_p1_x_1 p1_x.length c_p1_x_1), (5, .slice A1 xs3.length xs3.length), (13, .slice A_p0_a_1 p0_a.length c_p0_a_1), (14, .int .i64 (p0_a.length : Int)), (15, .int .i64 x245)] ∧ St [] W w [.row A1 xs3.length xs3.length 2 1 (ints xs459)]) ?_ ?_
        · refine wpL_loop (fun n a w => ∃ xs433 : List Int, ∃ x435 : Int, impl_timesVector_L5 F p1_x x245 q371 n xs433 x435 = some r461 ∧ xs3.length = xs433.length ∧ Fr a 47 [(1, .slice A_p1_x_1 p1_x.length c_p1_x_1), (5, .slice A1 xs3.length xs3.length), (6, .int .i64 x245), (13, .slice A_p0_a_1 p0_a.length c_p0_a_1), (14, .int .i64 (p0_a.length : Int)), (15, .int .i64 x245), (23, .slice A376 q371.length c377), (24, .int .i64 (q371.length : Int)), (25, .int .i64 x435)] ∧ St [] W w [.row A1 xs3.length xs3.length 2 1 (ints xs433)]) F ?_ ?_ ?_
          · exact ⟨xs382, 0, hl462, ((hn244).trans (upd_len hu383).symm), (FrD.pick (FrD.pick (FrD.pick (FrD.pick (FrD.pick (FrD.pick (FrD.pick (FrD.pick (FrD.pick hf.none hf rfl) hf rfl) hf rfl) hf rfl) hf rfl) hf rfl) hf rfl) hf rfl) hf rfl), hs⟩
          · rintro a w ⟨xs433, x435, h0_, -, -, -⟩; simp [impl_timesVector_L5] at h0_
          · rintro n464 a w ⟨xs433, x435, hm463, hn434, hf, hs⟩
            rw [impl_timesVector_L5] at hm463
            refine wpL_seq ?_
            refine wpL_region ?_
            refine sY hf hs rfl rfl rfl (Y_lss rfl rfl rfl) ?_; clear hf; intro a hf
            refine wpO_nil ?_
            refine wpL_seq ?_
            refine wpL_cond hf rfl (fun hb465 => ?_) (fun hb465 => ?_)
            · have hm463 := bif_t hm463 hb465
              refine wpL_skip ?_
              refine wpL_seq ?_
              refine wpL_block0 ?_
              refine wpL_seq ?_
              refine wpL_region ?_
              refine sY hf hs rfl rfl rfl (Y_move rfl rfl) ?_; clear hf; intro a hf
              obtain ⟨q466, hi467, hm463⟩ := bind_some hm463
              obtain ⟨hi467a, hi467b, hi467q⟩ := idx_some hi467
              refine sY hf hs rfl rfl rfl (Y_index rfl rfl rfl el23 ti2 (Rd.isAt (hR379.at hs) (at1 (ints_at hi467q))) hi467a hi467b) ?_; clear hf; intro a hf
              refine sY hf hs rfl rfl rfl (Y_load_rd rfl rfl (fun w hs => hR379.at hs) (at1 (ints_at hi467q)) ag2) ?_; clear hf; intro a hf
              refine sY hf hs rfl rfl rfl (Y_assign rfl rfl) ?_; clear hf; intro a hf
              refine sY hf hs rfl rfl rfl (Y_assign rfl rfl) ?_; clear hf; intro a hf
              refine wpO_nil ?_
              refine wpL_drawM [.row A1 xs3.length xs3.length 2 1 (ints xs433)] [14] (by kernel_rfl) hs ?_; clear hs; intro w hs
              have hs0 : St [] W w [.row A1 xs3.length xs3.length 2 1 (ints xs433)] := hs
              refine mYp (i := 0) rfl (by kernel_rfl) (by kernel_rfl) hf rfl rfl rfl (fun _ => Y_move rfl rfl) ?_; clear hf; intro a hf
              refine mYp (i := 1) rfl (by kernel_rfl) (by kernel_rfl) hf rfl rfl rfl (fun _ => Y_move rfl rfl) ?_; clear hf; intro a hf
              refine mYp (i := 2) rfl (by kernel_rfl) (by kernel_rfl) hf rfl rfl rfl (fun _ => Y_move rfl rfl) ?_; clear hf; intro a hf
              refine mYp (i := 3) rfl (by kernel_rfl) (by kernel_rfl) hf rfl rfl rfl (fun _ => Y_move rfl rfl) ?_; clear hf; intro a hf
              obtain ⟨q478, hi479, hm463⟩ := bind_some hm463
              obtain ⟨hi479a, hi479b, hi479q⟩ := idx_some hi479
              refine mYp (i := 4) rfl (by kernel_rfl) (by kernel_rfl) hf rfl rfl rfl (fun _ => Y_index rfl rfl rfl el23 ti2 (Rd.isAt (hs.rd (i := 0) rfl) (at1 (ints_at hi479q))) hi479a (ltn hn434 hi479b)) ?_; clear hf; intro a hf
              refine mY (i := 5) [[]] rfl (by kernel_rfl) (by kernel_rfl) hf hs0 rfl rfl rfl (Y_load_rd rfl rfl (fun w hs => hs.rd (i := 0) rfl) (at1 (ints_at hi479q)) ag2) ?_; clear hf; intro a hf
              refine mYp (i := 6) rfl (by kernel_rfl) (by kernel_rfl) hf rfl rfl rfl (fun _ => Y_move rfl rfl) ?_; clear hf; intro a hf
              refine mYp (i := 7) rfl (by kernel_rfl) (by kernel_rfl) hf rfl rfl rfl (fun _ => Y_move rfl rfl) ?_; clear hf; intro a hf
              refine mYp (i := 8) rfl (by kernel_rfl) (by kernel_rfl) hf rfl rfl rfl (fun _ => Y_move rfl rfl) ?_; clear hf; intro a hf
              obtain ⟨q480, hi481, hm463⟩ := bind_some hm463
              obtain ⟨hi481a, hi481b, hi481q⟩ := idx_some hi481
              refine mYp (i := 9) rfl (by kernel_rfl) (by kernel_rfl) hf rfl rfl rfl (fun _ => Y_index rfl rfl rfl el23 ti2 (Rd.isAt (h_p1_x_1.at hs) (at1 (ints_at hi481q))) hi481a hi481b) ?_; clear hf; intro a hf
              refine mY (i := 10) [[]] rfl (by kernel_rfl) (by kernel_rfl) hf hs0 rfl rfl rfl (Y_load_rd rfl rfl (fun w hs => h_p1_x_1.at hs) (at1 (ints_at hi481q)) ag2) ?_; clear hf; intro a hf
              refine mRun (i := 11) rfl (by kernel_rfl) ?_
              obtain ⟨r482, hc483, hm463⟩ := bind_some hm463
              refine sCall hf rfl rfl rfl rfl (cap := []) rfl rfl en90 (impl_times_ok F q466 q480 _ _ hc483) ?_; clear hf
              rintro _ w ⟨rfl, hs1⟩ a hf
              have hs : St [] W w [.row A1 xs3.length xs3.length 2 1 (ints xs433)] := hs.ext hs1.below
              clear hs1
              have hs0 : St [] W w [.row A1 xs3.length xs3.length 2 1 (ints xs433)] := hs
              refine wpO_nil ⟨Or.inr (fun _ => hs0), ?_⟩
              refine mYp (i := 12) rfl (by kernel_rfl) (by kernel_rfl) hf rfl rfl rfl (fun _ => Y_max rfl rfl rfl) ?_; clear hf; intro a hf
              obtain ⟨q484, hi485, hm463⟩ := bind_some hm463
              obtain ⟨hi485a, hi485b, hi485q⟩ := idx_some hi485
              refine mYp (i := 13) rfl (by kernel_rfl) (by kernel_rfl) hf rfl rfl rfl (fun _ => Y_index rfl rfl rfl el23 ti2 (Rd.isAt (hs.rd (i := 0) rfl) (at1 (ints_at hi485q))) hi485a (ltn hn434 hi485b)) ?_; clear hf; intro a hf
              refine mRun (i := 14) rfl (by kernel_rfl) ?_
              obtain ⟨xs486, hu487, hm463⟩ := bind_some hm463
              refine sStoreL (i := 0) (us := [.int .i64 (max q478 r482)]) (enc := ints) hf hs rfl rfl rfl rfl rfl rfl hn434 hu487 ti2 rfl rfl rfl rfl rfl ints_len1 (ints_set (max q478 r482)) ?_; clear hs; intro w hs
              have hs : St [] W w [.row A1 xs3.length xs3.length 2 1 (ints xs486)] := hs
              refine wpO_nil ⟨Or.inl (by decide), ?_⟩
              refine mDone (by kernel_rfl) ?_
              clear hs0
              refine wpL_nil (Qb_normal ?_)
              refine wpL_region ?_
              refine sY hf hs rfl rfl rfl (Y_add rfl rfl rfl) ?_; clear hf; intro a hf
              refine sY hf hs rfl rfl rfl (Y_move rfl rfl) ?_; clear hf; intro a hf
              refine wpO_nil ?_
              refine wpL_nil (Ql_normal ?_)
              exact ⟨xs486, (IntKind.i64.wrap (x435 + 1)), hm463, ((hn434).trans (upd_len hu487).symm), (FrD.pick (FrD.pick (FrD.pick (FrD.pick (FrD.pick (FrD.pick (FrD.pick (FrD.pick (FrD.pick hf.none hf rfl) hf rfl) hf rfl) hf rfl) hf rfl) hf rfl) hf rfl) hf rfl) hf rfl), hs⟩
            · have hm463 := bif_f hm463 hb465
              refine wpL_exit (Ql_exit (Qb_exit ?_))
              exact ⟨xs433, Option.some.inj hm463, hn434, (FrD.pick (FrD.pick (FrD.pick (FrD.pick (FrD.pick hf.none hf rfl) hf rfl) hf rfl) hf rfl) hf rfl), hs⟩
        · rintro a w ⟨xs459, hr_, hn460, hf, hs⟩
          subst hr_
          try dsimp only at hm368
          refine wpL_nil (Qb_normal ?_)
          refine wpL_region ?_
          refine sY hf hs rfl rfl rfl (Y_add rfl rfl rfl) ?_; clear hf; intro a hf
          refine sY hf hs rfl rfl rfl (Y_move rfl rfl) ?_; clear hf; intro a hf
          refine wpO_nil ?_
          refine wpL_nil (Ql_normal ?_)
          exact ⟨xs459, (IntKind.i64.wrap (x245 + 1)), hm368, hn460, (FrD.pick (FrD.pick (FrD.pick (FrD.pick (FrD.pick hf.none hf rfl) hf rfl) hf rfl) hf rfl) hf rfl), hs⟩
      · have hm368 := bif_f hm368 hb370
        refine wpL_exit (Ql_exit (Qb_exit ?_))
        exact ⟨xs243, Option.some.inj hm368, hn244, (FrD.pick hf.none hf rfl), hs⟩
  · rintro a w ⟨xs364, hr_, hn365, hf, hs⟩
    subst hr_
    try dsimp only at hm
    refine wpL_seq ?_
    refine wpL_region ?_
    refine sY hf hs rfl rfl rfl (Y_move rfl rfl) ?_; clear hf; intro a hf
    refine sY hf hs rfl rfl rfl (Y_assign rfl rfl) ?_; clear hf; intro a hf
    refine wpO_nil ?_
    obtain rfl := Option.some.inj hm
    refine wpL_ret (ret_tmp rfl hf rfl ?_)
    exact ⟨_, rfl, A1, xs3.length, xs3.length, rfl, hn365, hs⟩

set_option maxRecDepth 100000 in
theorem impl_responseOf_ok (F : Nat) (p0_s : GSystem) (A_p0_s_1 : Option Addr) (n_p0_s_1 c_p0_s_1 : Nat) (hn_p0_s_1 : n_p0_s_1 = p0_s.A.length) (A_p0_s_2 : Option Addr) (n_p0_s_2 c_p0_s_2 : Nat) (hn_p0_s_2 : n_p0_s_2 = p0_s.B.length) (A_p0_s_3 : Option Addr) (n_p0_s_3 c_p0_s_3 : Nat) (hn_p0_s_3 : n_p0_s_3 = p0_s.C.length) (p1_n : Int) (r : List Int × Int) (W : World) (hm : impl_responseOf F p0_s p1_n = some r) (h_p0_s_1 : RdM W A_p0_s_1 p0_s.A) (h_p0_s_2 : Rd W A_p0_s_2 (ints p0_s.B)) (h_p0_s_3 : Rd W A_p0_s_3 (ints p0_s.C)) :
    Calls Try.prog 106 [.agg #[.slice A_p0_s_1 n_p0_s_1 c_p0_s_1, .slice A_p0_s_2 n_p0_s_2 c_p0_s_2, .slice A_p0_s_3 n_p0_s_3 c_p0_s_3], .int .i64 p1_n].toArray W fun e w' => ∃ v, e = .returned v ∧ ∃ A220, ∃ n221, ∃ c222, v = .tuple #[.slice A220 n221 c222, .int .i64 r.2] ∧ n221 = r.1.length ∧ St [] W w' [.row A220 n221 c222 2 1 (ints r.1)] := by
  subst hn_p0_s_1
  subst hn_p0_s_2
  subst hn_p0_s_3
  unfold impl_responseOf at hm
  refine Calls.enter (N := 41) Try.func106 rfl rfl rfl (fun a hf => ?_)
  have hs := St.start W
  obtain ⟨w, hw_⟩ : ∃ w, w = W := ⟨W, rfl⟩
  clear hw_ w
  refine wpL_seq ?_
  refine wpL_region ?_
  refine sBox hf hs rfl rfl rfl rfl rfl (cs := [.slice A_p0_s_1 p0_s.A.length c_p0_s_1, .slice A_p0_s_2 p0_s.B.length c_p0_s_2, .slice A_p0_s_3 p0_s.C.length c_p0_s_3]) rfl ?_; clear hf hs; intro a w b1 hs hf
  have hs : St [] W w [.blk b1 27 [.slice A_p0_s_1 p0_s.A.length c_p0_s_1, .slice A_p0_s_2 p0_s.B.length c_p0_s_2, .slice A_p0_s_3 p0_s.C.length c_p0_s_3]] := hs
  refine sY hf hs rfl rfl rfl (Y_assign rfl rfl) ?_; clear hf; intro a hf
  refine sY hf hs rfl rfl rfl (Y_assign rfl rfl) ?_; clear hf; intro a hf
  refine wpO_nil ?_
  refine wpL_seq ?_
  refine wpL_region ?_
  refine sY hf hs rfl rfl rfl (Y_fieldAddr rfl rfl fo27_1) ?_; clear hf; intro a hf
  refine sY hf hs rfl rfl rfl (Y_load_blk rfl rfl (i := 0) rfl rfl ag23) ?_; clear hf; intro a hf
  obtain ⟨r2, hc3, hm⟩ := bind_some hm
  refine sCall hf rfl rfl rfl rfl (cap := []) rfl rfl en91 (slices_Clone_int64_ok F p0_s.B A_p0_s_2 p0_s.B.length c_p0_s_2 rfl _ _ hc3 (h_p0_s_2.at hs)) ?_; clear hf
  rintro _ w ⟨A4, n5, c6, rfl, hn7, hs1⟩ a hf
  have hs : St [] W w [.blk b1 27 [.slice A_p0_s_1 p0_s.A.length c_p0_s_1, .slice A_p0_s_2 p0_s.B.length c_p0_s_2, .slice A_p0_s_3 p0_s.C.length c_p0_s_3], .row A4 n5 c6 2 1 (ints r2)] := hs.join hs1
  clear hs1
  refine sY hf hs rfl rfl rfl (Y_assign rfl rfl) ?_; clear hf; intro a hf
  refine wpO_nil ?_
  refine wpL_seq ?_
  refine wpL_region ?_
  refine sY hf hs rfl rfl rfl (Y_assign rfl rfl) ?_; clear hf; intro a hf
  refine wpO_nil ?_
  refine wpL_seq ?_
  refine wpL_seq ?_
  refine wpL_region ?_
  refine sY hf hs rfl rfl rfl (Y_move rfl rfl) ?_; clear hf; intro a hf
  refine sY hf hs rfl rfl rfl (Y_move rfl rfl) ?_; clear hf; intro a hf
  refine wpO_nil ?_
  obtain ⟨r170, hl171, hm⟩ := bind_some hm
  have hs : St [] W _ [.blk b1 27 [.slice A_p0_s_1 p0_s.A.length c_p0_s_1, .slice A_p0_s_2 p0_s.B.length c_p0_s_2, .slice A_p0_s_3 p0_s.C.length c_p0_s_3], .row A4 n5 c6 2 1 (ints r2), .row none 0 0 2 1 (ints ([] : List Int))] := hs.addNil 2 1
  refine wpL_block (fun a w => ∃ xs165 : List Int, ∃ A166, ∃ n167, ∃ c168, Sum.inr xs165 = r170 ∧ n167 = xs165.length ∧ Fr a 41 [(7, .slice A166 n167 c168)] ∧ St [] W w [.row A166 n167 c168 2 1 (ints xs165)]) ?_ ?_
  · refine wpL_loop (fun n a w => ∃ xs109 : List Int, ∃ xs115 : List Int, ∃ x120 : Int, ∃ A110, ∃ n111, ∃ c112, ∃ A116, ∃ n117, ∃ c118, impl_responseOf_L1 F p0_s p1_n n xs109 xs115 x120 = some r170 ∧ n111 = xs109.length ∧ n117 = xs115.length ∧ Fr a 41 [(2, .pointer (some ⟨b1, 0, none⟩)), (6, .slice A110 n111 c112), (7, .slice A116 n117 c118), (13, .int .i64 p1_n), (14, .int .i64 x120)] ∧ St [] W w [.blk b1 27 [.slice A_p0_s_1 p0_s.A.length c_p0_s_1, .slice A_p0_s_2 p0_s.B.length c_p0_s_2, .slice A_p0_s_3 p0_s.C.length c_p0_s_3], .row A110 n111 c112 2 1 (ints xs109), .row A116 n117 c118 2 1 (ints xs115)]) F ?_ ?_ ?_
    · exact ⟨r2, ([] : List Int), 0, A4, n5, c6, none, 0, 0, hl171, hn7, rfl, (FrD.pick (FrD.pick (FrD.pick (FrD.pick (FrD.pick hf.none hf rfl) hf rfl) hf rfl) hf rfl) hf rfl), hs⟩
    · rintro a w ⟨xs109, xs115, x120, A110, n111, c112, A116, n117, c118, h0_, -, -, -, -⟩; simp [impl_responseOf_L1] at h0_
    · rintro n173 a w ⟨xs109, xs115, x120, A110, n111, c112, A116, n117, c118, hm172, hn113, hn119, hf, hs⟩
      rw [impl_responseOf_L1] at hm172
      refine wpL_seq ?_
      refine wpL_region ?_
      refine sY hf hs rfl rfl rfl (Y_lss rfl rfl rfl) ?_; clear hf; intro a hf
      refine wpO_nil ?_
      refine wpL_seq ?_
      refine wpL_cond hf rfl (fun hb174 => ?_) (fun hb174 => ?_)
      · have hm172 := bif_t hm172 hb174
        refine wpL_skip ?_
        refine wpL_seq ?_
        refine wpL_block0 ?_
        refine wpL_seq ?_
        refine wpL_region ?_
        refine sY hf hs rfl rfl rfl (Y_move rfl rfl) ?_; clear hf; intro a hf
        refine sY hf hs rfl rfl rfl (Y_assign rfl rfl) ?_; clear hf; intro a hf
        refine wpO_nil ?_
        refine wpL_seq ?_
        refine wpL_seq ?_
        refine wpL_region ?_
        refine sY hf hs rfl rfl rfl (Y_move rfl rfl) ?_; clear hf; intro a hf
        refine sY hf hs rfl rfl rfl (Y_gtr rfl rfl rfl) ?_; clear hf; intro a hf
        refine wpO_nil ?_
        obtain ⟨r187, hj188, hm172⟩ := bind_some hm172
        refine wpL_cut (fun a w => ∃ xs182 : List Int, ∃ A183, ∃ n184, ∃ c185, xs182 = r187 ∧ n184 = xs182.length ∧ Fr a 41 [(2, .pointer (some ⟨b1, 0, none⟩)), (6, .slice A183 n184 c185), (7, .slice A116 n117 c118), (13, .int .i64 p1_n), (14, .int .i64 x120)] ∧ St [] W w [.blk b1 27 [.slice A_p0_s_1 p0_s.A.length c_p0_s_1, .slice A_p0_s_2 p0_s.B.length c_p0_s_2, .slice A_p0_s_3 p0_s.C.length c_p0_s_3], .row A183 n184 c185 2 1 (ints xs182), .row A116 n117 c118 2 1 (ints xs115)]) ?_ ?_
        · refine wpL_cond hf rfl (fun hb189 => ?_) (fun hb189 => ?_)
          · have hj188 := bif_t hj188 hb189
            refine wpL_region ?_
            refine sY hf hs rfl rfl rfl (Y_fieldAddr rfl rfl fo27_0) ?_; clear hf; intro a hf
            refine sY hf hs rfl rfl rfl (Y_load_blk rfl rfl (i := 0) rfl rfl ag22) ?_; clear hf; intro a hf
            refine sY hf hs rfl rfl rfl (Y_move rfl rfl) ?_; clear hf; intro a hf
            obtain ⟨r190, hc191, hj188⟩ := bind_some hj188
            refine sCall hf rfl rfl rfl rfl (cap := []) rfl rfl en83 (impl_timesVector_ok F p0_s.A A_p0_s_1 p0_s.A.length c_p0_s_1 rfl xs109 A110 n111 c112 hn113 _ _ hc191 (h_p0_s_1.at hs) (hs.rd (i := 1) rfl)) ?_; clear hf
            rintro _ w ⟨A192, n193, c194, rfl, hn195, hs1⟩ a hf
            have hs : St [] W w [.blk b1 27 [.slice A_p0_s_1 p0_s.A.length c_p0_s_1, .slice A_p0_s_2 p0_s.B.length c_p0_s_2, .slice A_p0_s_3 p0_s.C.length c_p0_s_3], .row A110 n111 c112 2 1 (ints xs109), .row A116 n117 c118 2 1 (ints xs115), .row A192 n193 c194 2 1 (ints r190)] := hs.join hs1
            clear hs1
            refine sY hf hs rfl rfl rfl (Y_assign rfl rfl) ?_; clear hf; intro a hf
            refine wpO_nil ?_
            refine wpL_nil (then_normal ?_)
            exact ⟨r190, A192, n193, c194, Option.some.inj hj188, hn195, (FrD.pick (FrD.pick (FrD.pick (FrD.pick (FrD.pick hf.none hf rfl) hf rfl) hf rfl) hf rfl) hf rfl), hs.sel [0, 3, 2] (by decide)⟩
          · have hj188 := bif_f hj188 hb189
            refine wpL_skip ?_
            refine wpL_nil (then_normal ?_)
            exact ⟨xs109, A110, n111, c112, Option.some.inj hj188, hn113, (FrD.pick (FrD.pick (FrD.pick (FrD.pick (FrD.pick hf.none hf rfl) hf rfl) hf rfl) hf rfl) hf rfl), hs⟩
        · rintro a w ⟨xs182, A183, n184, c185, hr_, hn186, hf, hs⟩
          subst hr_
          try dsimp only at hm172
          refine wpL_seq ?_
          refine wpL_region ?_
          refine sY hf hs rfl rfl rfl (Y_fieldAddr rfl rfl fo27_2) ?_; clear hf; intro a hf
          refine sY hf hs rfl rfl rfl (Y_load_blk rfl rfl (i := 0) rfl rfl ag23) ?_; clear hf; intro a hf
          refine sY hf hs rfl rfl rfl (Y_move rfl rfl) ?_; clear hf; intro a hf
          obtain ⟨r196, hc197, hm172⟩ := bind_some hm172
          refine sCall hf rfl rfl rfl rfl (cap := []) rfl rfl en85 (impl_innerProduct_ok F p0_s.C A_p0_s_3 p0_s.C.length c_p0_s_3 rfl xs182 A183 n184 c185 hn186 _ _ hc197 (h_p0_s_3.at hs) (hs.rd (i := 1) rfl)) ?_; clear hf
          rintro _ w ⟨rfl, hs1⟩ a hf
          have hs : St [] W w [.blk b1 27 [.slice A_p0_s_1 p0_s.A.length c_p0_s_1, .slice A_p0_s_2 p0_s.B.length c_p0_s_2, .slice A_p0_s_3 p0_s.C.length c_p0_s_3], .row A183 n184 c185 2 1 (ints xs182), .row A116 n117 c118 2 1 (ints xs115)] := hs.ext hs1.below
          clear hs1
          refine sY hf hs rfl rfl rfl (Y_assign rfl rfl) ?_; clear hf; intro a hf
          refine wpO_nil ?_
          refine wpL_seq ?_
          refine wpL_seq ?_
          obtain ⟨r204, hj205, hm172⟩ := bind_some hm172
          refine wpL_cut (fun a w => ∃ b203 : Bool, b203 = r204 ∧ Fr a 41 [(2, .pointer (some ⟨b1, 0, none⟩)), (6, .slice A183 n184 c185), (7, .slice A116 n117 c118), (9, .int .i64 r196), (13, .int .i64 p1_n), (14, .int .i64 x120), (34, .bool b203)] ∧ St [] W w [.blk b1 27 [.slice A_p0_s_1 p0_s.A.length c_p0_s_1, .slice A_p0_s_2 p0_s.B.length c_p0_s_2, .slice A_p0_s_3 p0_s.C.length c_p0_s_3], .row A183 n184 c185 2 1 (ints xs182), .row A116 n117 c118 2 1 (ints xs115)]) ?_ ?_
          · refine wpL_region ?_
            refine sY hf hs rfl rfl rfl (Y_move rfl rfl) ?_; clear hf; intro a hf
            obtain ⟨r206, hc207, hj205⟩ := bind_some hj205
            refine sCall hf rfl rfl rfl rfl (cap := []) rfl rfl en86 (impl_areValues_ok F xs182 A183 n184 c185 hn186 _ _ hc207 (hs.rd (i := 1) rfl)) ?_; clear hf
            rintro _ w ⟨rfl, hs1⟩ a hf
            have hs : St [] W w [.blk b1 27 [.slice A_p0_s_1 p0_s.A.length c_p0_s_1, .slice A_p0_s_2 p0_s.B.length c_p0_s_2, .slice A_p0_s_3 p0_s.C.length c_p0_s_3], .row A183 n184 c185 2 1 (ints xs182), .row A116 n117 c118 2 1 (ints xs115)] := hs.ext hs1.below
            clear hs1
            refine sY hf hs rfl rfl rfl (Y_not rfl rfl) ?_; clear hf; intro a hf
            refine sY hf hs rfl rfl rfl (Y_move rfl rfl) ?_; clear hf; intro a hf
            refine bsplit (!r206) (fun hb208 => ?_) (fun hb208 => ?_)
            · have hj205 := bif_t hj205 hb208
              refine sNo hf rfl rfl rfl (congrArg (fun b => some (Value.bool b)) hb208) rfl rfl rfl ?_; clear hf; intro a hf
              refine sNo hf rfl rfl rfl (congrArg (fun b => some (Value.bool b)) hb208) rfl rfl rfl ?_; clear hf; intro a hf
              refine sNo hf rfl rfl rfl (congrArg (fun b => some (Value.bool b)) hb208) rfl rfl rfl ?_; clear hf; intro a hf
              refine sY hf hs rfl rfl rfl (Y_pickT rfl (congrArg (fun b => some (Value.bool b)) hb208) rfl) ?_; clear hf; intro a hf
              refine wpO_nil ?_
              refine wpL_nil (then_normal ?_)
              exact ⟨true, Option.some.inj hj205, (FrD.pick (FrD.pick (FrD.pick (FrD.pick (FrD.pick (FrD.pick (FrD.pick hf.none hf rfl) hf rfl) hf rfl) hf rfl) hf rfl) hf rfl) hf rfl), hs⟩
            · have hj205 := bif_f hj205 hb208
              refine sYg hf hs rfl rfl rfl (congrArg (fun b => some (Value.bool b)) hb208) rfl rfl rfl (Y_move rfl rfl) ?_; clear hf; intro a hf
              obtain ⟨r209, hc210, hj205⟩ := bind_some hj205
              refine sCallg hf rfl rfl rfl (congrArg (fun b => some (Value.bool b)) hb208) rfl rfl rfl rfl (cap := []) rfl rfl en87 (impl_IsValue_ok F r196 _ _ hc210) ?_; clear hf
              rintro _ w ⟨rfl, hs1⟩ a hf
              have hs : St [] W w [.blk b1 27 [.slice A_p0_s_1 p0_s.A.length c_p0_s_1, .slice A_p0_s_2 p0_s.B.length c_p0_s_2, .slice A_p0_s_3 p0_s.C.length c_p0_s_3], .row A183 n184 c185 2 1 (ints xs182), .row A116 n117 c118 2 1 (ints xs115)] := hs.ext hs1.below
              clear hs1
              refine sYg hf hs rfl rfl rfl (congrArg (fun b => some (Value.bool b)) hb208) rfl rfl rfl (Y_not rfl rfl) ?_; clear hf; intro a hf
              refine sY hf hs rfl rfl rfl (Y_pickF rfl (congrArg (fun b => some (Value.bool b)) hb208) rfl) ?_; clear hf; intro a hf
              refine wpO_nil ?_
              refine wpL_nil (then_normal ?_)
              exact ⟨(!r209), Option.some.inj hj205, (FrD.pick (FrD.pick (FrD.pick (FrD.pick (FrD.pick (FrD.pick (FrD.pick hf.none hf rfl) hf rfl) hf rfl) hf rfl) hf rfl) hf rfl) hf rfl), hs⟩
          · rintro a w ⟨b203, hr_, hf, hs⟩
            subst hr_
            try dsimp only at hm172
            refine wpL_cond hf rfl (fun hb211 => ?_) (fun hb211 => ?_)
            · have hm172 := bif_t hm172 hb211
              refine wpL_seq ?_
              refine wpL_region ?_
              refine sY hf hs rfl rfl rfl (Y_assign rfl rfl) ?_; clear hf; intro a hf
              refine sY hf hs rfl rfl rfl (Y_assign rfl rfl) ?_; clear hf; intro a hf
              refine wpO_nil ?_
              have hs : St [] W _ [.blk b1 27 [.slice A_p0_s_1 p0_s.A.length c_p0_s_1, .slice A_p0_s_2 p0_s.B.length c_p0_s_2, .slice A_p0_s_3 p0_s.C.length c_p0_s_3], .row A183 n184 c185 2 1 (ints xs182), .row A116 n117 c118 2 1 (ints xs115), .row none 0 0 2 1 (ints ([] : List Int))] := hs.addNil 2 1
              obtain rfl := Option.some.inj hm172
              try dsimp only at hm
              obtain rfl := Option.some.inj hm
              refine wpL_ret (Qb_ret (Ql_ret (Qb_ret (ret_tmp2 rfl hf rfl rfl ?_))))
              exact ⟨_, rfl, none, 0, 0, rfl, rfl, hs.sel [3] (by decide)⟩
            · have hm172 := bif_f hm172 hb211
              refine wpL_skip ?_
              refine wpL_region ?_
              refine sY hf hs rfl rfl rfl (Y_move rfl rfl) ?_; clear hf; intro a hf
              refine sY hf hs rfl rfl rfl (Y_move rfl rfl) ?_; clear hf; intro a hf
              refine sBuildSlice (parts := [(0, .tmp 36)]) (vs := [.int .i64 r196]) (cells := [.int .i64 r196]) hf hs rfl rfl rfl rfl rfl el23 ti2 rfl rfl rfl rfl ?_; clear hf hs; intro a w A213 hs hA214 hf
              have hs : St [] W w [.blk b1 27 [.slice A_p0_s_1 p0_s.A.length c_p0_s_1, .slice A_p0_s_2 p0_s.B.length c_p0_s_2, .slice A_p0_s_3 p0_s.C.length c_p0_s_3], .row A183 n184 c185 2 1 (ints xs182), .row A116 n117 c118 2 1 (ints xs115), .row A213 1 1 2 1 (ints ([r196]))] := hs
              obtain ⟨xs217, ha218, hm172⟩ := bind_some hm172
              refine sAppendL (i := 2) (xs := xs115) (ys := [r196]) (enc := ints) hf hs rfl rfl rfl rfl rfl rfl hn119 rfl rfl ha218 el23 ti2 rfl rfl rfl (hs.rd (i := 3) rfl) (Nat.succ_pos _) ints_len1 ints_append ints_one ?_; clear hf hs; intro a w A215 c216 hs hf
              have hs : St [] W w [.blk b1 27 [.slice A_p0_s_1 p0_s.A.length c_p0_s_1, .slice A_p0_s_2 p0_s.B.length c_p0_s_2, .slice A_p0_s_3 p0_s.C.length c_p0_s_3], .row A183 n184 c185 2 1 (ints xs182), .row A215 xs217.length c216 2 1 (ints xs217), .row A213 1 1 2 1 (ints ([r196]))] := hs
              refine sY hf hs rfl rfl rfl (Y_assign rfl rfl) ?_; clear hf; intro a hf
              refine wpO_nil ?_
              refine wpL_nil (Qb_normal ?_)
              refine wpL_region ?_
              refine sY hf hs rfl rfl rfl (Y_add rfl rfl rfl) ?_; clear hf; intro a hf
              refine sY hf hs rfl rfl rfl (Y_move rfl rfl) ?_; clear hf; intro a hf
              refine wpO_nil ?_
              refine wpL_nil (Ql_normal ?_)
              exact ⟨xs182, xs217, (IntKind.i64.wrap (x120 + 1)), A183, n184, c185, A215, xs217.length, c216, hm172, hn186, rfl, (FrD.pick (FrD.pick (FrD.pick (FrD.pick (FrD.pick hf.none hf rfl) hf rfl) hf rfl) hf rfl) hf rfl), hs.sel [0, 1, 2] (by decide)⟩
      · have hm172 := bif_f hm172 hb174
        refine wpL_exit (Ql_exit (Qb_exit ?_))
        exact ⟨xs115, A116, n117, c118, Option.some.inj hm172, hn119, (FrD.pick hf.none hf rfl), hs.sel [2] (by decide)⟩
  · rintro a w ⟨xs165, A166, n167, c168, hr_, hn169, hf, hs⟩
    subst hr_
    try dsimp only at hm
    refine wpL_seq ?_
    refine wpL_region ?_
    refine sY hf hs rfl rfl rfl (Y_move rfl rfl) ?_; clear hf; intro a hf
    refine sY hf hs rfl rfl rfl (Y_assign rfl rfl) ?_; clear hf; intro a hf
    refine sY hf hs rfl rfl rfl (Y_assign rfl rfl) ?_; clear hf; intro a hf
    refine wpO_nil ?_
    obtain rfl := Option.some.inj hm
    refine wpL_ret (ret_tmp2 rfl hf rfl rfl ?_)
    exact ⟨_, rfl, A166, n167, c168, rfl, hn169, hs⟩

set_option maxRecDepth 100000 in
theorem impl_checkedVector_ok (F : Nat) (p0_x : List Int) (A_p0_x_1 : Option Addr) (n_p0_x_1 c_p0_x_1 : Nat) (hn_p0_x_1 : n_p0_x_1 = p0_x.length) (r : List Int × Int) (W : World) (hm : impl_checkedVector F p0_x = some r) (h_p0_x_1 : Rd W A_p0_x_1 (ints p0_x)) :
    Calls Try.prog 122 [.slice A_p0_x_1 n_p0_x_1 c_p0_x_1].toArray W fun e w' => ∃ v, e = .returned v ∧ ∃ A4, ∃ n5, ∃ c6, v = .tuple #[.slice A4 n5 c6, .int .i64 r.2] ∧ n5 = r.1.length ∧ Al A_p0_x_1 n_p0_x_1 c_p0_x_1 p0_x A4 n5 c6 r.1 ∧ St [] W w' [] := by
  subst hn_p0_x_1
  unfold impl_checkedVector at hm
  refine Calls.enter (N := 8) Try.func122 rfl rfl rfl (fun a hf => ?_)
  have hs := St.start W
  obtain ⟨w, hw_⟩ : ∃ w, w = W := ⟨W, rfl⟩
  clear hw_ w
  refine wpL_seq ?_
  refine wpL_region ?_
  refine sY hf hs rfl rfl rfl (Y_assign rfl rfl) ?_; clear hf; intro a hf
  refine sY hf hs rfl rfl rfl (Y_assign rfl rfl) ?_; clear hf; intro a hf
  refine wpO_nil ?_
  refine wpL_seq ?_
  refine wpL_seq ?_
  refine wpL_region ?_
  refine sY hf hs rfl rfl rfl (Y_move rfl rfl) ?_; clear hf; intro a hf
  obtain ⟨r1, hc2, hm⟩ := bind_some hm
  refine sCall hf rfl rfl rfl rfl (cap := []) rfl rfl en86 (impl_areValues_ok F p0_x A_p0_x_1 p0_x.length c_p0_x_1 rfl _ _ hc2 (h_p0_x_1.at hs)) ?_; clear hf
  rintro _ w ⟨rfl, hs1⟩ a hf
  have hs : St [] W w [] := hs.ext hs1.below
  clear hs1
  refine sY hf hs rfl rfl rfl (Y_not rfl rfl) ?_; clear hf; intro a hf
  refine wpO_nil ?_
  refine wpL_cond hf rfl (fun hb3 => ?_) (fun hb3 => ?_)
  · have hm := bif_t hm hb3
    refine wpL_seq ?_
    refine wpL_region ?_
    refine sY hf hs rfl rfl rfl (Y_assign rfl rfl) ?_; clear hf; intro a hf
    refine sY hf hs rfl rfl rfl (Y_assign rfl rfl) ?_; clear hf; intro a hf
    refine wpO_nil ?_
    obtain rfl := Option.some.inj hm
    refine wpL_ret (ret_tmp2 rfl hf rfl rfl ?_)
    exact ⟨_, rfl, none, 0, 0, rfl, rfl, .inr ⟨rfl, rfl, rfl, rfl⟩, hs⟩
  · have hm := bif_f hm hb3
    refine wpL_skip ?_
    refine wpL_seq ?_
    refine wpL_region ?_
    refine sY hf hs rfl rfl rfl (Y_move rfl rfl) ?_; clear hf; intro a hf
    refine sY hf hs rfl rfl rfl (Y_assign rfl rfl) ?_; clear hf; intro a hf
    refine sY hf hs rfl rfl rfl (Y_assign rfl rfl) ?_; clear hf; intro a hf
    refine wpO_nil ?_
    obtain rfl := Option.some.inj hm
    refine wpL_ret (ret_tmp2 rfl hf rfl rfl ?_)
    exact ⟨_, rfl, A_p0_x_1, p0_x.length, c_p0_x_1, rfl, rfl, .inl ⟨rfl, rfl, rfl, rfl⟩, hs⟩

set_option maxHeartbeats 2000000 in
set_option maxRecDepth 100000 in
theorem impl_LatestInputs_ok (F : Nat) (p0 : GSystem) (A_p0_1 : Option Addr) (n_p0_1 c_p0_1 : Nat) (hn_p0_1 : n_p0_1 = p0.A.length) (A_p0_2 : Option Addr) (n_p0_2 c_p0_2 : Nat) (hn_p0_2 : n_p0_2 = p0.B.length) (A_p0_3 : Option Addr) (n_p0_3 c_p0_3 : Nat) (hn_p0_3 : n_p0_3 = p0.C.length) (p1 : List Int) (A_p1_1 : Option Addr) (n_p1_1 c_p1_1 : Nat) (hn_p1_1 : n_p1_1 = p1.length) (r : List Int × Int) (W : World) (hm : impl_LatestInputs F p0 p1 = some r) (h_p0_1 : RdM W A_p0_1 p0.A) (h_p0_2 : Rd W A_p0_2 (ints p0.B)) (h_p0_3 : Rd W A_p0_3 (ints p0.C)) (h_p1_1 : Rd W A_p1_1 (ints p1)) :
    Calls Try.prog 36 [.agg #[.slice A_p0_1 n_p0_1 c_p0_1, .slice A_p0_2 n_p0_2 c_p0_2, .slice A_p0_3 n_p0_3 c_p0_3], .slice A_p1_1 n_p1_1 c_p1_1].toArray W fun e w' => ∃ v, e = .returned v ∧ ∃ A361, ∃ n362, ∃ c363, v = .tuple #[.slice A361 n362 c363, .int .i64 r.2] ∧ n362 = r.1.length ∧ St [] W w' [.row A361 n362 c363 2 1 (ints r.1)] := by
  subst hn_p0_1
  subst hn_p0_2
  subst hn_p0_3
  subst hn_p1_1
  unfold impl_LatestInputs at hm
  refine Calls.enter (N := 97) Try.func36 rfl rfl rfl (fun a hf => ?_)
  have hs := St.start W
  obtain ⟨w, hw_⟩ : ∃ w, w = W := ⟨W, rfl⟩
  clear hw_ w
  refine wpL_seq ?_
  refine wpL_region ?_
  refine sBox hf hs rfl rfl rfl rfl rfl (cs := [.slice A_p0_1 p0.A.length c_p0_1, .slice A_p0_2 p0.B.length c_p0_2, .slice A_p0_3 p0.C.length c_p0_3]) rfl ?_; clear hf hs; intro a w b1 hs hf
  have hs : St [] W w [.blk b1 27 [.slice A_p0_1 p0.A.length c_p0_1, .slice A_p0_2 p0.B.length c_p0_2, .slice A_p0_3 p0.C.length c_p0_3]] := hs
  refine sY hf hs rfl rfl rfl (Y_assign rfl rfl) ?_; clear hf; intro a hf
  refine sY hf hs rfl rfl rfl (Y_assign rfl rfl) ?_; clear hf; intro a hf
  refine wpO_nil ?_
  refine wpL_seq ?_
  refine wpL_seq ?_
  obtain ⟨r9, hj10, hm⟩ := bind_some hm
  refine wpL_cut (fun a w => ∃ b8 : Bool, b8 = r9 ∧ Fr a 97 [(1, .slice A_p1_1 p1.length c_p1_1), (2, .pointer (some ⟨b1, 0, none⟩)), (23, .bool b8)] ∧ St [] W w [.blk b1 27 [.slice A_p0_1 p0.A.length c_p0_1, .slice A_p0_2 p0.B.length c_p0_2, .slice A_p0_3 p0.C.length c_p0_3]]) ?_ ?_
  · refine wpL_region ?_
    refine sY hf hs rfl rfl rfl (Y_load_blkS rfl rfl (i := 0) rfl ag27 ti27 rfl) ?_; clear hf; intro a hf
    obtain ⟨r11, hc12, hj10⟩ := bind_some hj10
    refine sCall hf rfl rfl rfl rfl (cap := []) rfl rfl en31 (impl_IsSystem_ok F p0 A_p0_1 p0.A.length c_p0_1 rfl A_p0_2 p0.B.length c_p0_2 rfl A_p0_3 p0.C.length c_p0_3 rfl _ _ hc12 (h_p0_1.at hs) (h_p0_2.at hs) (h_p0_3.at hs)) ?_; clear hf
    rintro _ w ⟨rfl, hs1⟩ a hf
    have hs : St [] W w [.blk b1 27 [.slice A_p0_1 p0.A.length c_p0_1, .slice A_p0_2 p0.B.length c_p0_2, .slice A_p0_3 p0.C.length c_p0_3]] := hs.ext hs1.below
    clear hs1
    refine sY hf hs rfl rfl rfl (Y_not rfl rfl) ?_; clear hf; intro a hf
    refine sY hf hs rfl rfl rfl (Y_move rfl rfl) ?_; clear hf; intro a hf
    refine bsplit (!r11) (fun hb13 => ?_) (fun hb13 => ?_)
    · have hj10 := bif_t hj10 hb13
      refine sNo hf rfl rfl rfl (congrArg (fun b => some (Value.bool b)) hb13) rfl rfl rfl ?_; clear hf; intro a hf
      refine sNo hf rfl rfl rfl (congrArg (fun b => some (Value.bool b)) hb13) rfl rfl rfl ?_; clear hf; intro a hf
      refine sNo hf rfl rfl rfl (congrArg (fun b => some (Value.bool b)) hb13) rfl rfl rfl ?_; clear hf; intro a hf
      refine sY hf hs rfl rfl rfl (Y_pickT rfl (congrArg (fun b => some (Value.bool b)) hb13) rfl) ?_; clear hf; intro a hf
      refine sY hf hs rfl rfl rfl (Y_move rfl rfl) ?_; clear hf; intro a hf
      refine sNo hf rfl rfl rfl rfl rfl rfl rfl ?_; clear hf; intro a hf
      refine sNo hf rfl rfl rfl rfl rfl rfl rfl ?_; clear hf; intro a hf
      refine sNo hf rfl rfl rfl rfl rfl rfl rfl ?_; clear hf; intro a hf
      refine sY hf hs rfl rfl rfl (Y_pickT rfl rfl rfl) ?_; clear hf; intro a hf
      refine wpO_nil ?_
      refine wpL_nil (then_normal ?_)
      exact ⟨true, Option.some.inj hj10, (FrD.pick (FrD.pick (FrD.pick hf.none hf rfl) hf rfl) hf rfl), hs⟩
    · have hj10 := bif_f hj10 hb13
      refine sYg hf hs rfl rfl rfl (congrArg (fun b => some (Value.bool b)) hb13) rfl rfl rfl (Y_move rfl rfl) ?_; clear hf; intro a hf
      refine sYg hf hs rfl rfl rfl (congrArg (fun b => some (Value.bool b)) hb13) rfl rfl rfl (Y_lenH rfl rfl el23 rfl) ?_; clear hf; intro a hf
      refine sYg hf hs rfl rfl rfl (congrArg (fun b => some (Value.bool b)) hb13) rfl rfl rfl (Y_gtr rfl rfl rfl) ?_; clear hf; intro a hf
      refine sY hf hs rfl rfl rfl (Y_pickF rfl (congrArg (fun b => some (Value.bool b)) hb13) rfl) ?_; clear hf; intro a hf
      refine sY hf hs rfl rfl rfl (Y_move rfl rfl) ?_; clear hf; intro a hf
      refine bsplit (decide (50 < (p1.length : Int))) (fun hb14 => ?_) (fun hb14 => ?_)
      · have hj10 := bif_t hj10 hb14
        refine sNo hf rfl rfl rfl (congrArg (fun b => some (Value.bool b)) hb14) rfl rfl rfl ?_; clear hf; intro a hf
        refine sNo hf rfl rfl rfl (congrArg (fun b => some (Value.bool b)) hb14) rfl rfl rfl ?_; clear hf; intro a hf
        refine sNo hf rfl rfl rfl (congrArg (fun b => some (Value.bool b)) hb14) rfl rfl rfl ?_; clear hf; intro a hf
        refine sY hf hs rfl rfl rfl (Y_pickT rfl (congrArg (fun b => some (Value.bool b)) hb14) rfl) ?_; clear hf; intro a hf
        refine wpO_nil ?_
        refine wpL_nil (then_normal ?_)
        exact ⟨true, Option.some.inj hj10, (FrD.pick (FrD.pick (FrD.pick hf.none hf rfl) hf rfl) hf rfl), hs⟩
      · have hj10 := bif_f hj10 hb14
        refine sYg hf hs rfl rfl rfl (congrArg (fun b => some (Value.bool b)) hb14) rfl rfl rfl (Y_move rfl rfl) ?_; clear hf; intro a hf
        obtain ⟨r15, hc16, hj10⟩ := bind_some hj10
        refine sCallg hf rfl rfl rfl (congrArg (fun b => some (Value.bool b)) hb14) rfl rfl rfl rfl (cap := []) rfl rfl en121 (impl_allWithin_ok F p1 A_p1_1 p1.length c_p1_1 rfl (-1000000) 1000000 _ _ hc16 (h_p1_1.at hs)) ?_; clear hf
        rintro _ w ⟨rfl, hs1⟩ a hf
        have hs : St [] W w [.blk b1 27 [.slice A_p0_1 p0.A.length c_p0_1, .slice A_p0_2 p0.B.length c_p0_2, .slice A_p0_3 p0.C.length c_p0_3]] := hs.ext hs1.below
        clear hs1
        refine sYg hf hs rfl rfl rfl (congrArg (fun b => some (Value.bool b)) hb14) rfl rfl rfl (Y_not rfl rfl) ?_; clear hf; intro a hf
        refine sY hf hs rfl rfl rfl (Y_pickF rfl (congrArg (fun b => some (Value.bool b)) hb14) rfl) ?_; clear hf; intro a hf
        refine wpO_nil ?_
        refine wpL_nil (then_normal ?_)
        exact ⟨(!r15), Option.some.inj hj10, (FrD.pick (FrD.pick (FrD.pick hf.none hf rfl) hf rfl) hf rfl), hs⟩
  · rintro a w ⟨b8, hr_, hf, hs⟩
    subst hr_
    try dsimp only at hm
    refine wpL_cond hf rfl (fun hb17 => ?_) (fun hb17 => ?_)
    · have hm := bif_t hm hb17
      refine wpL_seq ?_
      refine wpL_region ?_
      refine sY hf hs rfl rfl rfl (Y_assign rfl rfl) ?_; clear hf; intro a hf
      refine sY hf hs rfl rfl rfl (Y_assign rfl rfl) ?_; clear hf; intro a hf
      refine wpO_nil ?_
      have hs : St [] W _ [.blk b1 27 [.slice A_p0_1 p0.A.length c_p0_1, .slice A_p0_2 p0.B.length c_p0_2, .slice A_p0_3 p0.C.length c_p0_3], .row none 0 0 2 1 (ints ([] : List Int))] := hs.addNil 2 1
      obtain rfl := Option.some.inj hm
      refine wpL_ret (ret_tmp2 rfl hf rfl rfl ?_)
      exact ⟨_, rfl, none, 0, 0, rfl, rfl, hs.sel [1] (by decide)⟩
    · have hm := bif_f hm hb17
      refine wpL_skip ?_
      refine wpL_seq ?_
      refine wpL_seq ?_
      refine wpL_region ?_
      refine sY hf hs rfl rfl rfl (Y_fieldAddr rfl rfl fo27_2) ?_; clear hf; intro a hf
      refine sY hf hs rfl rfl rfl (Y_load_blk rfl rfl (i := 0) rfl rfl ag23) ?_; clear hf; intro a hf
      refine sY hf hs rfl rfl rfl (Y_fieldAddr rfl rfl fo27_1) ?_; clear hf; intro a hf
      refine sY hf hs rfl rfl rfl (Y_load_blk rfl rfl (i := 0) rfl rfl ag23) ?_; clear hf; intro a hf
      obtain ⟨r19, hc20, hm⟩ := bind_some hm
      refine sCall hf rfl rfl rfl rfl (cap := []) rfl rfl en85 (impl_innerProduct_ok F p0.C A_p0_3 p0.C.length c_p0_3 rfl p0.B A_p0_2 p0.B.length c_p0_2 rfl _ _ hc20 (h_p0_3.at hs) (h_p0_2.at hs)) ?_; clear hf
      rintro _ w ⟨rfl, hs1⟩ a hf
      have hs : St [] W w [.blk b1 27 [.slice A_p0_1 p0.A.length c_p0_1, .slice A_p0_2 p0.B.length c_p0_2, .slice A_p0_3 p0.C.length c_p0_3]] := hs.ext hs1.below
      clear hs1
      refine sY hf hs rfl rfl rfl (Y_eql rfl rfl rfl) ?_; clear hf; intro a hf
      refine wpO_nil ?_
      refine wpL_cond hf rfl (fun hb21 => ?_) (fun hb21 => ?_)
      · have hm := bif_t hm hb21
        refine wpL_seq ?_
        refine wpL_region ?_
        refine sY hf hs rfl rfl rfl (Y_assign rfl rfl) ?_; clear hf; intro a hf
        refine sY hf hs rfl rfl rfl (Y_assign rfl rfl) ?_; clear hf; intro a hf
        refine wpO_nil ?_
        have hs : St [] W _ [.blk b1 27 [.slice A_p0_1 p0.A.length c_p0_1, .slice A_p0_2 p0.B.length c_p0_2, .slice A_p0_3 p0.C.length c_p0_3], .row none 0 0 2 1 (ints ([] : List Int))] := hs.addNil 2 1
        obtain rfl := Option.some.inj hm
        refine wpL_ret (ret_tmp2 rfl hf rfl rfl ?_)
        exact ⟨_, rfl, none, 0, 0, rfl, rfl, hs.sel [1] (by decide)⟩
      · have hm := bif_f hm hb21
        refine wpL_skip ?_
        refine wpL_seq ?_
        refine wpL_region ?_
        refine sY hf hs rfl rfl rfl (Y_load_blkS rfl rfl (i := 0) rfl ag27 ti27 rfl) ?_; clear hf; intro a hf
        refine sY hf hs rfl rfl rfl (Y_move rfl rfl) ?_; clear hf; intro a hf
        refine sY hf hs rfl rfl rfl (Y_lenH rfl rfl el23 rfl) ?_; clear hf; intro a hf
        obtain ⟨r23, hc24, hm⟩ := bind_some hm
        refine sCall hf rfl rfl rfl rfl (cap := []) rfl rfl en106 (impl_responseOf_ok F p0 A_p0_1 p0.A.length c_p0_1 rfl A_p0_2 p0.B.length c_p0_2 rfl A_p0_3 p0.C.length c_p0_3 rfl (p1.length : Int) _ _ hc24 (h_p0_1.at hs) (h_p0_2.at hs) (h_p0_3.at hs)) ?_; clear hf
        rintro _ w ⟨A25, n26, c27, rfl, hn28, hs1⟩ a hf
        have hs : St [] W w [.blk b1 27 [.slice A_p0_1 p0.A.length c_p0_1, .slice A_p0_2 p0.B.length c_p0_2, .slice A_p0_3 p0.C.length c_p0_3], .row A25 n26 c27 2 1 (ints r23.1)] := hs.join hs1
        clear hs1
        refine sY hf hs rfl rfl rfl (Y_move rfl rfl) ?_; clear hf; intro a hf
        refine sY hf hs rfl rfl rfl (Y_extract rfl rfl rfl) ?_; clear hf; intro a hf
        refine sY hf hs rfl rfl rfl (Y_extract rfl rfl rfl) ?_; clear hf; intro a hf
        refine sY hf hs rfl rfl rfl (Y_assign rfl rfl) ?_; clear hf; intro a hf
        refine sY hf hs rfl rfl rfl (Y_assign rfl rfl) ?_; clear hf; intro a hf
        refine wpO_nil ?_
        refine wpL_seq ?_
        refine wpL_seq ?_
        refine wpL_region ?_
        refine sY hf hs rfl rfl rfl (Y_move rfl rfl) ?_; clear hf; intro a hf
        refine sY hf hs rfl rfl rfl (Y_neq rfl rfl rfl) ?_; clear hf; intro a hf
        refine wpO_nil ?_
        refine wpL_cond hf rfl (fun hb29 => ?_) (fun hb29 => ?_)
        · have hm := bif_t hm hb29
          refine wpL_seq ?_
          refine wpL_region ?_
          refine sY hf hs rfl rfl rfl (Y_move rfl rfl) ?_; clear hf; intro a hf
          refine sY hf hs rfl rfl rfl (Y_assign rfl rfl) ?_; clear hf; intro a hf
          refine sY hf hs rfl rfl rfl (Y_assign rfl rfl) ?_; clear hf; intro a hf
          refine wpO_nil ?_
          have hs : St [] W _ [.blk b1 27 [.slice A_p0_1 p0.A.length c_p0_1, .slice A_p0_2 p0.B.length c_p0_2, .slice A_p0_3 p0.C.length c_p0_3], .row A25 n26 c27 2 1 (ints r23.1), .row none 0 0 2 1 (ints ([] : List Int))] := hs.addNil 2 1
          obtain rfl := Option.some.inj hm
          refine wpL_ret (ret_tmp2 rfl hf rfl rfl ?_)
          exact ⟨_, rfl, none, 0, 0, rfl, rfl, hs.sel [2] (by decide)⟩
        · have hm := bif_f hm hb29
          refine wpL_skip ?_
          refine wpL_seq ?_
          refine wpL_region ?_
          refine sY hf hs rfl rfl rfl (Y_move rfl rfl) ?_; clear hf; intro a hf
          refine sY hf hs rfl rfl rfl (Y_lenH rfl rfl el23 rfl) ?_; clear hf; intro a hf
          obtain ⟨xs33, hk32, hm⟩ := bind_some hm
          refine sMakeL (enc := ints) hf hs rfl rfl rfl rfl rfl hk32 el23 ti2 rfl ints_made ?_; clear hf hs; intro a w A31 hs hf
          have hs : St [] W w [.blk b1 27 [.slice A_p0_1 p0.A.length c_p0_1, .slice A_p0_2 p0.B.length c_p0_2, .slice A_p0_3 p0.C.length c_p0_3], .row A25 n26 c27 2 1 (ints r23.1), .row A31 xs33.length xs33.length 2 1 (ints xs33)] := hs
          refine sY hf hs rfl rfl rfl (Y_assign rfl rfl) ?_; clear hf; intro a hf
          refine wpO_nil ?_
          refine wpL_seq ?_
          refine wpL_seq ?_
          refine wpL_region ?_
          refine sY hf hs rfl rfl rfl (Y_move rfl rfl) ?_; clear hf; intro a hf
          refine sY hf hs rfl rfl rfl (Y_lenH rfl rfl el23 rfl) ?_; clear hf; intro a hf
          refine sY hf hs rfl rfl rfl (Y_move rfl rfl) ?_; clear hf; intro a hf
          refine wpO_nil ?_
          obtain ⟨r273, hl274, hm⟩ := bind_some hm
          refine wpL_block (fun a w => ∃ xs271 : List Int, xs271 = r273 ∧ xs33.length = xs271.length ∧ Fr a 97 [(8, .slice A31 xs33.length xs33.length)] ∧ St [] W w [.row A31 xs33.length xs33.length 2 1 (ints xs271)]) ?_ ?_
          · refine wpL_loop (fun n a w => ∃ xs191 : List Int, ∃ x193 : Int, impl_LatestInputs_L4 F p1 r23 xs33 n xs191 x193 = some r273 ∧ xs33.length = xs191.length ∧ Fr a 97 [(1, .slice A_p1_1 p1.length c_p1_1), (6, .slice A25 n26 c27), (8, .slice A31 xs33.length xs33.length), (44, .int .i64 (xs33.length : Int)), (45, .int .i64 x193)] ∧ St [] W w [.row A25 n26 c27 2 1 (ints r23.1), .row A31 xs33.length xs33.length 2 1 (ints xs191)]) F ?_ ?_ ?_
            · exact ⟨xs33, 0, hl274, rfl, (FrD.pick (FrD.pick (FrD.pick (FrD.pick (FrD.pick hf.none hf rfl) hf rfl) hf rfl) hf rfl) hf rfl), hs.sel [1, 2] (by decide)⟩
            · rintro a w ⟨xs191, x193, h0_, -, -, -⟩; simp [impl_LatestInputs_L4] at h0_
            · rintro n276 a w ⟨xs191, x193, hm275, hn192, hf, hs⟩
              rw [impl_LatestInputs_L4] at hm275
              refine wpL_seq ?_
              refine wpL_region ?_
              refine sY hf hs rfl rfl rfl (Y_lss rfl rfl rfl) ?_; clear hf; intro a hf
              refine wpO_nil ?_
              refine wpL_seq ?_
              refine wpL_cond hf rfl (fun hb277 => ?_) (fun hb277 => ?_)
              · have hm275 := bif_t hm275 hb277
                refine wpL_skip ?_
                refine wpL_seq ?_
                refine wpL_block0 ?_
                refine wpL_seq ?_
                refine wpL_region ?_
                refine sY hf hs rfl rfl rfl (Y_move rfl rfl) ?_; clear hf; intro a hf
                refine sY hf hs rfl rfl rfl (Y_assign rfl rfl) ?_; clear hf; intro a hf
                refine wpO_nil ?_
                refine wpL_seq ?_
                refine wpL_drawM [.row A25 n26 c27 2 1 (ints r23.1), .row A31 xs33.length xs33.length 2 1 (ints xs191)] [11] (by kernel_rfl) hs ?_; clear hs; intro w hs
                have hs0 : St [] W w [.row A25 n26 c27 2 1 (ints r23.1), .row A31 xs33.length xs33.length 2 1 (ints xs191)] := hs
                refine mYp (i := 0) rfl (by kernel_rfl) (by kernel_rfl) hf rfl rfl rfl (fun _ => Y_move rfl rfl) ?_; clear hf; intro a hf
                refine mYp (i := 1) rfl (by kernel_rfl) (by kernel_rfl) hf rfl rfl rfl (fun _ => Y_move rfl rfl) ?_; clear hf; intro a hf
                refine mYp (i := 2) rfl (by kernel_rfl) (by kernel_rfl) hf rfl rfl rfl (fun _ => Y_move rfl rfl) ?_; clear hf; intro a hf
                refine mYp (i := 3) rfl (by kernel_rfl) (by kernel_rfl) hf rfl rfl rfl (fun _ => Y_move rfl rfl) ?_; clear hf; intro a hf
                obtain ⟨q278, hi279, hm275⟩ := bind_some hm275
                obtain ⟨hi279a, hi279b, hi279q⟩ := idx_some hi279
                refine mYp (i := 4) rfl (by kernel_rfl) (by kernel_rfl) hf rfl rfl rfl (fun _ => Y_index rfl rfl rfl el23 ti2 (Rd.isAt (h_p1_1.at hs) (at1 (ints_at hi279q))) hi279a hi279b) ?_; clear hf; intro a hf
                refine mY (i := 5) [[]] rfl (by kernel_rfl) (by kernel_rfl) hf hs0 rfl rfl rfl (Y_load_rd rfl rfl (fun w hs => h_p1_1.at hs) (at1 (ints_at hi279q)) ag2) ?_; clear hf; intro a hf
                refine mYp (i := 6) rfl (by kernel_rfl) (by kernel_rfl) hf rfl rfl rfl (fun _ => Y_move rfl rfl) ?_; clear hf; intro a hf
                obtain ⟨q280, hi281, hm275⟩ := bind_some hm275
                obtain ⟨hi281a, hi281b, hi281q⟩ := idx_some hi281
                refine mYp (i := 7) rfl (by kernel_rfl) (by kernel_rfl) hf rfl rfl rfl (fun _ => Y_index rfl rfl rfl el23 ti2 (Rd.isAt (hs.rd (i := 0) rfl) (at1 (ints_at hi281q))) hi281a (ltn hn28 hi281b)) ?_; clear hf; intro a hf
                refine mY (i := 8) [[]] rfl (by kernel_rfl) (by kernel_rfl) hf hs0 rfl rfl rfl (Y_load_rd rfl rfl (fun w hs => hs.rd (i := 0) rfl) (at1 (ints_at hi281q)) ag2) ?_; clear hf; intro a hf
                refine mYp (i := 9) rfl (by kernel_rfl) (by kernel_rfl) hf rfl rfl rfl (fun _ => Y_sub rfl rfl rfl) ?_; clear hf; intro a hf
                obtain ⟨q282, hi283, hm275⟩ := bind_some hm275
                obtain ⟨hi283a, hi283b, hi283q⟩ := idx_some hi283
                refine mYp (i := 10) rfl (by kernel_rfl) (by kernel_rfl) hf rfl rfl rfl (fun _ => Y_index rfl rfl rfl el23 ti2 (Rd.isAt (hs.rd (i := 1) rfl) (at1 (ints_at hi283q))) hi283a (ltn hn192 hi283b)) ?_; clear hf; intro a hf
                refine mRun (i := 11) rfl (by kernel_rfl) ?_
                obtain ⟨xs284, hu285, hm275⟩ := bind_some hm275
                refine sStoreL (i := 1) (us := [.int .i64 (IntKind.i64.wrap (q278 - q280))]) (enc := ints) hf hs rfl rfl rfl rfl rfl rfl hn192 hu285 ti2 rfl rfl rfl rfl rfl ints_len1 (ints_set (IntKind.i64.wrap (q278 - q280))) ?_; clear hs; intro w hs
                have hs : St [] W w [.row A25 n26 c27 2 1 (ints r23.1), .row A31 xs33.length xs33.length 2 1 (ints xs284)] := hs
                refine wpO_nil ⟨Or.inl (by decide), ?_⟩
                refine mDone (by kernel_rfl) ?_
                clear hs0
                refine wpL_seq ?_
                refine wpL_region ?_
                refine sY hf hs rfl rfl rfl (Y_move rfl rfl) ?_; clear hf; intro a hf
                refine sY hf hs rfl rfl rfl (Y_assign rfl rfl) ?_; clear hf; intro a hf
                refine wpO_nil ?_
                obtain ⟨r336, hl337, hm275⟩ := bind_some hm275
                refine wpL_block (fun a w => ∃ xs334 : List Int, xs334 = r336 ∧ xs33.length = xs334.length ∧ Fr a 97 [(1, .slice A_p1_1 p1.length c_p1_1), (6, .slice A25 n26 c27), (8, .slice A31 xs33.length xs33.length), (44, .int .i64 (xs33.length : Int)), (45, .int .i64 x193)] ∧ St [] W w [.row A25 n26 c27 2 1 (ints r23.1), .row A31 xs33.length xs33.length 2 1 (ints xs334)]) ?_ ?_
                · refine wpL_loop (fun n a w => ∃ xs317 : List Int, ∃ x319 : Int, impl_LatestInputs_L5 F p1 r23 x193 n xs317 x319 = some r336 ∧ xs33.length = xs317.length ∧ Fr a 97 [(1, .slice A_p1_1 p1.length c_p1_1), (6, .slice A25 n26 c27), (8, .slice A31 xs33.length xs33.length), (9, .int .i64 x193), (10, .int .i64 x319), (44, .int .i64 (xs33.length : Int)), (45, .int .i64 x193)] ∧ St [] W w [.row A25 n26 c27 2 1 (ints r23.1), .row A31 xs33.length xs33.length 2 1 (ints xs317)]) F ?_ ?_ ?_
                  · exact ⟨xs284, x193, hl337, ((hn192).trans (upd_len hu285).symm), (FrD.pick (FrD.pick (FrD.pick (FrD.pick (FrD.pick (FrD.pick (FrD.pick hf.none hf rfl) hf rfl) hf rfl) hf rfl) hf rfl) hf rfl) hf rfl), hs⟩
                  · rintro a w ⟨xs317, x319, h0_, -, -, -⟩; simp [impl_LatestInputs_L5] at h0_
                  · rintro n339 a w ⟨xs317, x319, hm338, hn318, hf, hs⟩
                    rw [impl_LatestInputs_L5] at hm338
                    refine wpL_seq ?_
                    refine wpL_seq ?_
                    refine wpL_region ?_
                    refine sY hf hs rfl rfl rfl (Y_move rfl rfl) ?_; clear hf; intro a hf
                    refine sY hf hs rfl rfl rfl (Y_move rfl rfl) ?_; clear hf; intro a hf
                    refine sY hf hs rfl rfl rfl (Y_lenH rfl rfl el23 rfl) ?_; clear hf; intro a hf
                    refine sY hf hs rfl rfl rfl (Y_lss rfl rfl rfl) ?_; clear hf; intro a hf
                    refine wpO_nil ?_
                    refine wpL_cond hf rfl (fun hb340 => ?_) (fun hb340 => ?_)
                    · have hm338 := bif_t hm338 hb340
                      refine wpL_skip ?_
                      refine wpL_seq ?_
                      refine wpL_block0 ?_
                      refine wpL_seq ?_
                      refine wpL_region ?_
                      refine sY hf hs rfl rfl rfl (Y_move rfl rfl) ?_; clear hf; intro a hf
                      refine sY hf hs rfl rfl rfl (Y_move rfl rfl) ?_; clear hf; intro a hf
                      refine sY hf hs rfl rfl rfl (Y_move rfl rfl) ?_; clear hf; intro a hf
                      refine sY hf hs rfl rfl rfl (Y_sub rfl rfl rfl) ?_; clear hf; intro a hf
                      obtain ⟨q341, hi342, hm338⟩ := bind_some hm338
                      obtain ⟨hi342a, hi342b, hi342q⟩ := idx_some hi342
                      refine sY hf hs rfl rfl rfl (Y_index rfl rfl rfl el23 ti2 (Rd.isAt (hs.rd (i := 0) rfl) (at1 (ints_at hi342q))) hi342a (ltn hn28 hi342b)) ?_; clear hf; intro a hf
                      refine sY hf hs rfl rfl rfl (Y_load_rd rfl rfl (fun w hs => hs.rd (i := 0) rfl) (at1 (ints_at hi342q)) ag2) ?_; clear hf; intro a hf
                      refine sY hf hs rfl rfl rfl (Y_neq rfl rfl rfl) ?_; clear hf; intro a hf
                      refine wpO_nil ?_
                      refine wpL_cond hf rfl (fun hb343 => ?_) (fun hb343 => ?_)
                      · have hm338 := bif_t hm338 hb343
                        refine wpL_drawM [.row A25 n26 c27 2 1 (ints r23.1), .row A31 xs33.length xs33.length 2 1 (ints xs317)] [19] (by kernel_rfl) hs ?_; clear hs; intro w hs
                        have hs0 : St [] W w [.row A25 n26 c27 2 1 (ints r23.1), .row A31 xs33.length xs33.length 2 1 (ints xs317)] := hs
                        refine mYp (i := 0) rfl (by kernel_rfl) (by kernel_rfl) hf rfl rfl rfl (fun _ => Y_move rfl rfl) ?_; clear hf; intro a hf
                        refine mYp (i := 1) rfl (by kernel_rfl) (by kernel_rfl) hf rfl rfl rfl (fun _ => Y_move rfl rfl) ?_; clear hf; intro a hf
                        refine mYp (i := 2) rfl (by kernel_rfl) (by kernel_rfl) hf rfl rfl rfl (fun _ => Y_move rfl rfl) ?_; clear hf; intro a hf
                        refine mYp (i := 3) rfl (by kernel_rfl) (by kernel_rfl) hf rfl rfl rfl (fun _ => Y_move rfl rfl) ?_; clear hf; intro a hf
                        obtain ⟨q344, hi345, hm338⟩ := bind_some hm338
                        obtain ⟨hi345a, hi345b, hi345q⟩ := idx_some hi345
                        refine mYp (i := 4) rfl (by kernel_rfl) (by kernel_rfl) hf rfl rfl rfl (fun _ => Y_index rfl rfl rfl el23 ti2 (Rd.isAt (hs.rd (i := 1) rfl) (at1 (ints_at hi345q))) hi345a (ltn hn318 hi345b)) ?_; clear hf; intro a hf
                        refine mY (i := 5) [[]] rfl (by kernel_rfl) (by kernel_rfl) hf hs0 rfl rfl rfl (Y_load_rd rfl rfl (fun w hs => hs.rd (i := 1) rfl) (at1 (ints_at hi345q)) ag2) ?_; clear hf; intro a hf
                        refine mYp (i := 6) rfl (by kernel_rfl) (by kernel_rfl) hf rfl rfl rfl (fun _ => Y_move rfl rfl) ?_; clear hf; intro a hf
                        refine mYp (i := 7) rfl (by kernel_rfl) (by kernel_rfl) hf rfl rfl rfl (fun _ => Y_move rfl rfl) ?_; clear hf; intro a hf
                        obtain ⟨q346, hi347, hm338⟩ := bind_some hm338
                        obtain ⟨hi347a, hi347b, hi347q⟩ := idx_some hi347
                        refine mYp (i := 8) rfl (by kernel_rfl) (by kernel_rfl) hf rfl rfl rfl (fun _ => Y_index rfl rfl rfl el23 ti2 (Rd.isAt (h_p1_1.at hs) (at1 (ints_at hi347q))) hi347a hi347b) ?_; clear hf; intro a hf
                        refine mY (i := 9) [[]] rfl (by kernel_rfl) (by kernel_rfl) hf hs0 rfl rfl rfl (Y_load_rd rfl rfl (fun w hs => h_p1_1.at hs) (at1 (ints_at hi347q)) ag2) ?_; clear hf; intro a hf
                        refine mYp (i := 10) rfl (by kernel_rfl) (by kernel_rfl) hf rfl rfl rfl (fun _ => Y_move rfl rfl) ?_; clear hf; intro a hf
                        refine mYp (i := 11) rfl (by kernel_rfl) (by kernel_rfl) hf rfl rfl rfl (fun _ => Y_move rfl rfl) ?_; clear hf; intro a hf
                        refine mYp (i := 12) rfl (by kernel_rfl) (by kernel_rfl) hf rfl rfl rfl (fun _ => Y_move rfl rfl) ?_; clear hf; intro a hf
                        refine mYp (i := 13) rfl (by kernel_rfl) (by kernel_rfl) hf rfl rfl rfl (fun _ => Y_sub rfl rfl rfl) ?_; clear hf; intro a hf
                        obtain ⟨q348, hi349, hm338⟩ := bind_some hm338
                        obtain ⟨hi349a, hi349b, hi349q⟩ := idx_some hi349
                        refine mYp (i := 14) rfl (by kernel_rfl) (by kernel_rfl) hf rfl rfl rfl (fun _ => Y_index rfl rfl rfl el23 ti2 (Rd.isAt (hs.rd (i := 0) rfl) (at1 (ints_at hi349q))) hi349a (ltn hn28 hi349b)) ?_; clear hf; intro a hf
                        refine mY (i := 15) [[]] rfl (by kernel_rfl) (by kernel_rfl) hf hs0 rfl rfl rfl (Y_load_rd rfl rfl (fun w hs => hs.rd (i := 0) rfl) (at1 (ints_at hi349q)) ag2) ?_; clear hf; intro a hf
                        refine mYp (i := 16) rfl (by kernel_rfl) (by kernel_rfl) hf rfl rfl rfl (fun _ => Y_sub rfl rfl rfl) ?_; clear hf; intro a hf
                        refine mYp (i := 17) rfl (by kernel_rfl) (by kernel_rfl) hf rfl rfl rfl (fun _ => Y_min rfl rfl rfl) ?_; clear hf; intro a hf
                        obtain ⟨q350, hi351, hm338⟩ := bind_some hm338
                        obtain ⟨hi351a, hi351b, hi351q⟩ := idx_some hi351
                        refine mYp (i := 18) rfl (by kernel_rfl) (by kernel_rfl) hf rfl rfl rfl (fun _ => Y_index rfl rfl rfl el23 ti2 (Rd.isAt (hs.rd (i := 1) rfl) (at1 (ints_at hi351q))) hi351a (ltn hn318 hi351b)) ?_; clear hf; intro a hf
                        refine mRun (i := 19) rfl (by kernel_rfl) ?_
                        obtain ⟨xs352, hu353, hm338⟩ := bind_some hm338
                        refine sStoreL (i := 1) (us := [.int .i64 (min q344 (IntKind.i64.wrap (q346 - q348)))]) (enc := ints) hf hs rfl rfl rfl rfl rfl rfl hn318 hu353 ti2 rfl rfl rfl rfl rfl ints_len1 (ints_set (min q344 (IntKind.i64.wrap (q346 - q348)))) ?_; clear hs; intro w hs
                        have hs : St [] W w [.row A25 n26 c27 2 1 (ints r23.1), .row A31 xs33.length xs33.length 2 1 (ints xs352)] := hs
                        refine wpO_nil ⟨Or.inl (by decide), ?_⟩
                        refine mDone (by kernel_rfl) ?_
                        clear hs0
                        refine wpL_nil (Qb_normal ?_)
                        refine wpL_region ?_
                        refine sY hf hs rfl rfl rfl (Y_move rfl rfl) ?_; clear hf; intro a hf
                        refine sY hf hs rfl rfl rfl (Y_add rfl rfl rfl) ?_; clear hf; intro a hf
                        refine sY hf hs rfl rfl rfl (Y_assign rfl rfl) ?_; clear hf; intro a hf
                        refine wpO_nil ?_
                        refine wpL_nil (Ql_normal ?_)
                        exact ⟨xs352, (IntKind.i64.wrap (x319 + 1)), hm338, ((hn318).trans (upd_len hu353).symm), (FrD.pick (FrD.pick (FrD.pick (FrD.pick (FrD.pick (FrD.pick (FrD.pick hf.none hf rfl) hf rfl) hf rfl) hf rfl) hf rfl) hf rfl) hf rfl), hs⟩
                      · have hm338 := bif_f hm338 hb343
                        refine wpL_skip ?_
                        refine wpL_nil (Qb_normal ?_)
                        refine wpL_region ?_
                        refine sY hf hs rfl rfl rfl (Y_move rfl rfl) ?_; clear hf; intro a hf
                        refine sY hf hs rfl rfl rfl (Y_add rfl rfl rfl) ?_; clear hf; intro a hf
                        refine sY hf hs rfl rfl rfl (Y_assign rfl rfl) ?_; clear hf; intro a hf
                        refine wpO_nil ?_
                        refine wpL_nil (Ql_normal ?_)
                        exact ⟨xs317, (IntKind.i64.wrap (x319 + 1)), hm338, hn318, (FrD.pick (FrD.pick (FrD.pick (FrD.pick (FrD.pick (FrD.pick (FrD.pick hf.none hf rfl) hf rfl) hf rfl) hf rfl) hf rfl) hf rfl) hf rfl), hs⟩
                    · have hm338 := bif_f hm338 hb340
                      refine wpL_exit (Ql_exit (Qb_exit ?_))
                      exact ⟨xs317, Option.some.inj hm338, hn318, (FrD.pick (FrD.pick (FrD.pick (FrD.pick (FrD.pick hf.none hf rfl) hf rfl) hf rfl) hf rfl) hf rfl), hs⟩
                · rintro a w ⟨xs334, hr_, hn335, hf, hs⟩
                  subst hr_
                  try dsimp only at hm275
                  refine wpL_nil (Qb_normal ?_)
                  refine wpL_region ?_
                  refine sY hf hs rfl rfl rfl (Y_add rfl rfl rfl) ?_; clear hf; intro a hf
                  refine sY hf hs rfl rfl rfl (Y_move rfl rfl) ?_; clear hf; intro a hf
                  refine wpO_nil ?_
                  refine wpL_nil (Ql_normal ?_)
                  exact ⟨xs334, (IntKind.i64.wrap (x193 + 1)), hm275, hn335, (FrD.pick (FrD.pick (FrD.pick (FrD.pick (FrD.pick hf.none hf rfl) hf rfl) hf rfl) hf rfl) hf rfl), hs⟩
              · have hm275 := bif_f hm275 hb277
                refine wpL_exit (Ql_exit (Qb_exit ?_))
                exact ⟨xs191, Option.some.inj hm275, hn192, (FrD.pick hf.none hf rfl), hs.sel [1] (by decide)⟩
          · rintro a w ⟨xs271, hr_, hn272, hf, hs⟩
            subst hr_
            try dsimp only at hm
            refine wpL_seq ?_
            refine wpL_region ?_
            refine sY hf hs rfl rfl rfl (Y_move rfl rfl) ?_; clear hf; intro a hf
            obtain ⟨r354, hc355, hm⟩ := bind_some hm
            refine sCall hf rfl rfl rfl rfl (cap := []) rfl rfl en122 (impl_checkedVector_ok F xs271 A31 xs33.length xs33.length hn272 _ _ hc355 (hs.rd (i := 0) rfl)) ?_; clear hf
            rintro _ w ⟨A356, n357, c358, rfl, hn359, hal360, hs1⟩ a hf
            have hs : St [] W w [.row A31 xs33.length xs33.length 2 1 (ints xs271)] := hs.ext hs1.below
            clear hs1
            have hs : St [] W w [.row A356 n357 c358 2 1 (ints r354.1)] := hs.alias (i := 0) (enc := ints) rfl rfl hal360
            refine sY hf hs rfl rfl rfl (Y_extract rfl rfl rfl) ?_; clear hf; intro a hf
            refine sY hf hs rfl rfl rfl (Y_extract rfl rfl rfl) ?_; clear hf; intro a hf
            refine sY hf hs rfl rfl rfl (Y_assign rfl rfl) ?_; clear hf; intro a hf
            refine sY hf hs rfl rfl rfl (Y_assign rfl rfl) ?_; clear hf; intro a hf
            refine wpO_nil ?_
            obtain rfl := Option.some.inj hm
            refine wpL_ret (ret_tmp2 rfl hf rfl rfl ?_)
            exact ⟨_, rfl, A356, n357, c358, rfl, hn359, hs⟩

set_option maxRecDepth 100000 in
theorem spec_l01In_ok (F : Nat) (p0_n : Int) (p1_low : Int) (p2_high : Int) (r : Bool) (W : World) (hm : spec_l01In F p0_n p1_low p2_high = some r) :
    Calls Try.prog 115 [.int .i64 p0_n, .int .i64 p1_low, .int .i64 p2_high].toArray W fun e w' => ∃ v, e = .returned v ∧ v = .bool r ∧ St [] W w' [] := by
  unfold spec_l01In at hm
  refine Calls.enter (N := 15) Try.func115 rfl rfl rfl (fun a hf => ?_)
  have hs := St.start W
  obtain ⟨w, hw_⟩ : ∃ w, w = W := ⟨W, rfl⟩
  clear hw_ w
  refine wpL_seq ?_
  refine wpL_region ?_
  refine sY hf hs rfl rfl rfl (Y_assign rfl rfl) ?_; clear hf; intro a hf
  refine wpO_nil ?_
  refine wpL_seq ?_
  obtain ⟨r3, hj4, hm⟩ := bind_some hm
  refine wpL_cut (fun a w => ∃ b2 : Bool, b2 = r3 ∧ Fr a 15 [(6, .bool b2)] ∧ St [] W w []) ?_ ?_
  · refine wpL_region ?_
    refine sY hf hs rfl rfl rfl (Y_move rfl rfl) ?_; clear hf; intro a hf
    refine sY hf hs rfl rfl rfl (Y_move rfl rfl) ?_; clear hf; intro a hf
    refine sY hf hs rfl rfl rfl (Y_geq rfl rfl rfl) ?_; clear hf; intro a hf
    refine sY hf hs rfl rfl rfl (Y_move rfl rfl) ?_; clear hf; intro a hf
    refine bsplit (decide (p1_low ≤ p0_n)) (fun hb5 => ?_) (fun hb5 => ?_)
    · have hj4 := bif_t hj4 hb5
      refine sYg hf hs rfl rfl rfl (congrArg (fun b => some (Value.bool b)) hb5) rfl rfl rfl (Y_move rfl rfl) ?_; clear hf; intro a hf
      refine sYg hf hs rfl rfl rfl (congrArg (fun b => some (Value.bool b)) hb5) rfl rfl rfl (Y_move rfl rfl) ?_; clear hf; intro a hf
      refine sYg hf hs rfl rfl rfl (congrArg (fun b => some (Value.bool b)) hb5) rfl rfl rfl (Y_leq rfl rfl rfl) ?_; clear hf; intro a hf
      refine sY hf hs rfl rfl rfl (Y_pickT rfl (congrArg (fun b => some (Value.bool b)) hb5) rfl) ?_; clear hf; intro a hf
      refine sY hf hs rfl rfl rfl (Y_assign rfl rfl) ?_; clear hf; intro a hf
      refine wpO_nil ?_
      refine wpL_nil (then_normal ?_)
      exact ⟨(decide (p0_n ≤ p2_high)), Option.some.inj hj4, (FrD.pick hf.none hf rfl), hs⟩
    · have hj4 := bif_f hj4 hb5
      refine sNo hf rfl rfl rfl (congrArg (fun b => some (Value.bool b)) hb5) rfl rfl rfl ?_; clear hf; intro a hf
      refine sNo hf rfl rfl rfl (congrArg (fun b => some (Value.bool b)) hb5) rfl rfl rfl ?_; clear hf; intro a hf
      refine sNo hf rfl rfl rfl (congrArg (fun b => some (Value.bool b)) hb5) rfl rfl rfl ?_; clear hf; intro a hf
      refine sY hf hs rfl rfl rfl (Y_pickF rfl (congrArg (fun b => some (Value.bool b)) hb5) rfl) ?_; clear hf; intro a hf
      refine sY hf hs rfl rfl rfl (Y_assign rfl rfl) ?_; clear hf; intro a hf
      refine wpO_nil ?_
      refine wpL_nil (then_normal ?_)
      exact ⟨false, Option.some.inj hj4, (FrD.pick hf.none hf rfl), hs⟩
  · rintro a w ⟨b2, hr_, hf, hs⟩
    subst hr_
    try dsimp only at hm
    obtain rfl := Option.some.inj hm
    refine wpL_ret (ret_tmp rfl hf rfl ?_)
    exact ⟨_, rfl, rfl, hs⟩

set_option maxRecDepth 100000 in
theorem spec_l01Finite_ok (F : Nat) (p0_a : Int) (r : Bool) (W : World) (hm : spec_l01Finite F p0_a = some r) :
    Calls Try.prog 156 [.int .i64 p0_a].toArray W fun e w' => ∃ v, e = .returned v ∧ v = .bool r ∧ St [] W w' [] := by
  unfold spec_l01Finite at hm
  refine Calls.enter (N := 5) Try.func156 rfl rfl rfl (fun a hf => ?_)
  have hs := St.start W
  obtain ⟨w, hw_⟩ : ∃ w, w = W := ⟨W, rfl⟩
  clear hw_ w
  refine wpL_seq ?_
  refine wpL_region ?_
  refine sY hf hs rfl rfl rfl (Y_assign rfl rfl) ?_; clear hf; intro a hf
  refine wpO_nil ?_
  refine wpL_seq ?_
  refine wpL_region ?_
  refine sY hf hs rfl rfl rfl (Y_move rfl rfl) ?_; clear hf; intro a hf
  obtain ⟨r1, hc2, hm⟩ := bind_some hm
  refine sCall hf rfl rfl rfl rfl (cap := []) rfl rfl en115 (spec_l01In_ok F p0_a (-1000000) 1000000 _ _ hc2) ?_; clear hf
  rintro _ w ⟨rfl, hs1⟩ a hf
  have hs : St [] W w [] := hs.ext hs1.below
  clear hs1
  refine sY hf hs rfl rfl rfl (Y_assign rfl rfl) ?_; clear hf; intro a hf
  refine wpO_nil ?_
  obtain rfl := Option.some.inj hm
  refine wpL_ret (ret_tmp rfl hf rfl ?_)
  exact ⟨_, rfl, rfl, hs⟩

set_option maxRecDepth 100000 in
theorem spec_IsValue_ok (F : Nat) (p0_a : Int) (r : Bool) (W : World) (hm : spec_IsValue F p0_a = some r) :
    Calls Try.prog 77 [.int .i64 p0_a].toArray W fun e w' => ∃ v, e = .returned v ∧ v = .bool r ∧ St [] W w' [] := by
  unfold spec_IsValue at hm
  refine Calls.enter (N := 9) Try.func77 rfl rfl rfl (fun a hf => ?_)
  have hs := St.start W
  obtain ⟨w, hw_⟩ : ∃ w, w = W := ⟨W, rfl⟩
  clear hw_ w
  refine wpL_seq ?_
  refine wpL_region ?_
  refine sY hf hs rfl rfl rfl (Y_assign rfl rfl) ?_; clear hf; intro a hf
  refine wpO_nil ?_
  refine wpL_seq ?_
  obtain ⟨r5, hj6, hm⟩ := bind_some hm
  refine wpL_cut (fun a w => ∃ b4 : Bool, b4 = r5 ∧ Fr a 9 [(2, .bool b4)] ∧ St [] W w []) ?_ ?_
  · refine wpL_region ?_
    refine sY hf hs rfl rfl rfl (Y_move rfl rfl) ?_; clear hf; intro a hf
    refine sY hf hs rfl rfl rfl (Y_eql rfl rfl rfl) ?_; clear hf; intro a hf
    refine sY hf hs rfl rfl rfl (Y_move rfl rfl) ?_; clear hf; intro a hf
    refine bsplit (p0_a == (-1000000000000000)) (fun hb7 => ?_) (fun hb7 => ?_)
    · have hj6 := bif_t hj6 hb7
      refine sNo hf rfl rfl rfl (congrArg (fun b => some (Value.bool b)) hb7) rfl rfl rfl ?_; clear hf; intro a hf
      refine sNo hf rfl rfl rfl (congrArg (fun b => some (Value.bool b)) hb7) rfl rfl rfl ?_; clear hf; intro a hf
      refine sY hf hs rfl rfl rfl (Y_pickT rfl (congrArg (fun b => some (Value.bool b)) hb7) rfl) ?_; clear hf; intro a hf
      refine sY hf hs rfl rfl rfl (Y_assign rfl rfl) ?_; clear hf; intro a hf
      refine wpO_nil ?_
      refine wpL_nil (then_normal ?_)
      exact ⟨true, Option.some.inj hj6, (FrD.pick hf.none hf rfl), hs⟩
    · have hj6 := bif_f hj6 hb7
      refine sYg hf hs rfl rfl rfl (congrArg (fun b => some (Value.bool b)) hb7) rfl rfl rfl (Y_move rfl rfl) ?_; clear hf; intro a hf
      obtain ⟨r8, hc9, hj6⟩ := bind_some hj6
      refine sCallg hf rfl rfl rfl (congrArg (fun b => some (Value.bool b)) hb7) rfl rfl rfl rfl (cap := []) rfl rfl en156 (spec_l01Finite_ok F p0_a _ _ hc9) ?_; clear hf
      rintro _ w ⟨rfl, hs1⟩ a hf
      have hs : St [] W w [] := hs.ext hs1.below
      clear hs1
      refine sY hf hs rfl rfl rfl (Y_pickF rfl (congrArg (fun b => some (Value.bool b)) hb7) rfl) ?_; clear hf; intro a hf
      refine sY hf hs rfl rfl rfl (Y_assign rfl rfl) ?_; clear hf; intro a hf
      refine wpO_nil ?_
      refine wpL_nil (then_normal ?_)
      exact ⟨r8, Option.some.inj hj6, (FrD.pick hf.none hf rfl), hs⟩
  · rintro a w ⟨b4, hr_, hf, hs⟩
    subst hr_
    try dsimp only at hm
    obtain rfl := Option.some.inj hm
    refine wpL_ret (ret_tmp rfl hf rfl ?_)
    exact ⟨_, rfl, rfl, hs⟩

set_option maxRecDepth 100000 in
theorem spec_l01All_ok (F : Nat) (p0_list : List Int) (A_p0_list_1 : Option Addr) (n_p0_list_1 c_p0_list_1 : Nat) (hn_p0_list_1 : n_p0_list_1 = p0_list.length) (p1_finite : Bool) (r : Bool) (W : World) (hm : spec_l01All F p0_list p1_finite = some r) (h_p0_list_1 : Rd W A_p0_list_1 (ints p0_list)) :
    Calls Try.prog 124 [.slice A_p0_list_1 n_p0_list_1 c_p0_list_1, .bool p1_finite].toArray W fun e w' => ∃ v, e = .returned v ∧ v = .bool r ∧ St [] W w' [] := by
  subst hn_p0_list_1
  unfold spec_l01All at hm
  refine Calls.enter (N := 28) Try.func124 rfl rfl rfl (fun a hf => ?_)
  have hs := St.start W
  obtain ⟨w, hw_⟩ : ∃ w, w = W := ⟨W, rfl⟩
  clear hw_ w
  refine wpL_seq ?_
  refine wpL_region ?_
  refine sY hf hs rfl rfl rfl (Y_assign rfl rfl) ?_; clear hf; intro a hf
  refine wpO_nil ?_
  refine wpL_seq ?_
  refine wpL_seq ?_
  refine wpL_region ?_
  refine sY hf hs rfl rfl rfl (Y_assign rfl rfl) ?_; clear hf; intro a hf
  refine wpO_nil ?_
  obtain ⟨r66, hl67, hm⟩ := bind_some hm
  refine wpL_block (fun a w => Sum.inr () = r66 ∧ Fr a 28 [] ∧ St [] W w []) ?_ ?_
  · refine wpL_loop (fun n a w => ∃ x44 : Int, spec_l01All_L1 F p0_list p1_finite n x44 = some r66 ∧ Fr a 28 [(0, .slice A_p0_list_1 p0_list.length c_p0_list_1), (1, .bool p1_finite), (5, .int .i64 x44)] ∧ St [] W w []) F ?_ ?_ ?_
    · exact ⟨0, hl67, (FrD.pick (FrD.pick (FrD.pick hf.none hf rfl) hf rfl) hf rfl), hs⟩
    · rintro a w ⟨x44, h0_, -, -⟩; simp [spec_l01All_L1] at h0_
    · rintro n69 a w ⟨x44, hm68, hf, hs⟩
      rw [spec_l01All_L1] at hm68
      refine wpL_seq ?_
      refine wpL_seq ?_
      refine wpL_region ?_
      refine sY hf hs rfl rfl rfl (Y_move rfl rfl) ?_; clear hf; intro a hf
      refine sY hf hs rfl rfl rfl (Y_move rfl rfl) ?_; clear hf; intro a hf
      refine sY hf hs rfl rfl rfl (Y_lenH rfl rfl el23 rfl) ?_; clear hf; intro a hf
      refine sY hf hs rfl rfl rfl (Y_lss rfl rfl rfl) ?_; clear hf; intro a hf
      refine wpO_nil ?_
      refine wpL_cond hf rfl (fun hb70 => ?_) (fun hb70 => ?_)
      · have hm68 := bif_t hm68 hb70
        refine wpL_skip ?_
        refine wpL_seq ?_
        refine wpL_block0 ?_
        refine wpL_seq ?_
        obtain ⟨r80, hj81, hm68⟩ := bind_some hm68
        refine wpL_cut (fun a w => ∃ b79 : Bool, b79 = r80 ∧ Fr a 28 [(0, .slice A_p0_list_1 p0_list.length c_p0_list_1), (1, .bool p1_finite), (5, .int .i64 x44), (27, .bool b79)] ∧ St [] W w []) ?_ ?_
        · refine wpL_region ?_
          refine sY hf hs rfl rfl rfl (Y_move rfl rfl) ?_; clear hf; intro a hf
          refine sY hf hs rfl rfl rfl (Y_move rfl rfl) ?_; clear hf; intro a hf
          obtain ⟨q82, hi83, hj81⟩ := bind_some hj81
          obtain ⟨hi83a, hi83b, hi83q⟩ := idx_some hi83
          refine sY hf hs rfl rfl rfl (Y_index rfl rfl rfl el23 ti2 (Rd.isAt (h_p0_list_1.at hs) (at1 (ints_at hi83q))) hi83a hi83b) ?_; clear hf; intro a hf
          refine sY hf hs rfl rfl rfl (Y_load_rd rfl rfl (fun w hs => h_p0_list_1.at hs) (at1 (ints_at hi83q)) ag2) ?_; clear hf; intro a hf
          obtain ⟨r84, hc85, hj81⟩ := bind_some hj81
          refine sCall hf rfl rfl rfl rfl (cap := []) rfl rfl en77 (spec_IsValue_ok F q82 _ _ hc85) ?_; clear hf
          rintro _ w ⟨rfl, hs1⟩ a hf
          have hs : St [] W w [] := hs.ext hs1.below
          clear hs1
          refine sY hf hs rfl rfl rfl (Y_not rfl rfl) ?_; clear hf; intro a hf
          refine sY hf hs rfl rfl rfl (Y_move rfl rfl) ?_; clear hf; intro a hf
          refine bsplit (!r84) (fun hb86 => ?_) (fun hb86 => ?_)
          · have hj81 := bif_t hj81 hb86
            refine sNo hf rfl rfl rfl (congrArg (fun b => some (Value.bool b)) hb86) rfl rfl rfl ?_; clear hf; intro a hf
            refine sNo hf rfl rfl rfl (congrArg (fun b => some (Value.bool b)) hb86) rfl rfl rfl ?_; clear hf; intro a hf
            refine sNoU hf rfl rfl rfl rfl rfl rfl rfl ?_; clear hf; intro a hf
            refine sNoU hf rfl rfl rfl rfl rfl rfl rfl ?_; clear hf; intro a hf
            refine sNoU hf rfl rfl rfl rfl rfl rfl rfl ?_; clear hf; intro a hf
            refine sNoU hf rfl rfl rfl rfl rfl rfl rfl ?_; clear hf; intro a hf
            refine sNoU hf rfl rfl rfl rfl rfl rfl rfl ?_; clear hf; intro a hf
            refine sNo hf rfl rfl rfl (congrArg (fun b => some (Value.bool b)) hb86) rfl rfl rfl ?_; clear hf; intro a hf
            refine sY hf hs rfl rfl rfl (Y_pickT rfl (congrArg (fun b => some (Value.bool b)) hb86) rfl) ?_; clear hf; intro a hf
            refine wpO_nil ?_
            refine wpL_nil (then_normal ?_)
            exact ⟨true, Option.some.inj hj81, (FrD.pick (FrD.pick (FrD.pick (FrD.pick hf.none hf rfl) hf rfl) hf rfl) hf rfl), hs⟩
          · have hj81 := bif_f hj81 hb86
            refine sYg hf hs rfl rfl rfl (congrArg (fun b => some (Value.bool b)) hb86) rfl rfl rfl (Y_move rfl rfl) ?_; clear hf; intro a hf
            refine sYg hf hs rfl rfl rfl (congrArg (fun b => some (Value.bool b)) hb86) rfl rfl rfl (Y_move rfl rfl) ?_; clear hf; intro a hf
            refine bsplit p1_finite (fun hb87 => ?_) (fun hb87 => ?_)
            · have hj81 := bif_t hj81 hb87
              refine sYg hf hs rfl rfl rfl (congrArg (fun b => some (Value.bool b)) hb87) rfl rfl rfl (Y_move rfl rfl) ?_; clear hf; intro a hf
              refine sYg hf hs rfl rfl rfl (congrArg (fun b => some (Value.bool b)) hb87) rfl rfl rfl (Y_move rfl rfl) ?_; clear hf; intro a hf
              obtain ⟨q88, hi89, hj81⟩ := bind_some hj81
              obtain ⟨hi89a, hi89b, hi89q⟩ := idx_some hi89
              refine sYg hf hs rfl rfl rfl (congrArg (fun b => some (Value.bool b)) hb87) rfl rfl rfl (Y_index rfl rfl rfl el23 ti2 (Rd.isAt (h_p0_list_1.at hs) (at1 (ints_at hi89q))) hi89a hi89b) ?_; clear hf; intro a hf
              refine sYg hf hs rfl rfl rfl (congrArg (fun b => some (Value.bool b)) hb87) rfl rfl rfl (Y_load_rd rfl rfl (fun w hs => h_p0_list_1.at hs) (at1 (ints_at hi89q)) ag2) ?_; clear hf; intro a hf
              refine sYg hf hs rfl rfl rfl (congrArg (fun b => some (Value.bool b)) hb87) rfl rfl rfl (Y_eql rfl rfl rfl) ?_; clear hf; intro a hf
              refine sYg hf hs rfl rfl rfl (congrArg (fun b => some (Value.bool b)) hb86) rfl rfl rfl (Y_pickT rfl (congrArg (fun b => some (Value.bool b)) hb87) rfl) ?_; clear hf; intro a hf
              refine sY hf hs rfl rfl rfl (Y_pickF rfl (congrArg (fun b => some (Value.bool b)) hb86) rfl) ?_; clear hf; intro a hf
              refine wpO_nil ?_
              refine wpL_nil (then_normal ?_)
              exact ⟨(q88 == (-1000000000000000)), Option.some.inj hj81, (FrD.pick (FrD.pick (FrD.pick (FrD.pick hf.none hf rfl) hf rfl) hf rfl) hf rfl), hs⟩
            · have hj81 := bif_f hj81 hb87
              refine sNo hf rfl rfl rfl (congrArg (fun b => some (Value.bool b)) hb87) rfl rfl rfl ?_; clear hf; intro a hf
              refine sNo hf rfl rfl rfl (congrArg (fun b => some (Value.bool b)) hb87) rfl rfl rfl ?_; clear hf; intro a hf
              refine sNo hf rfl rfl rfl (congrArg (fun b => some (Value.bool b)) hb87) rfl rfl rfl ?_; clear hf; intro a hf
              refine sNo hf rfl rfl rfl (congrArg (fun b => some (Value.bool b)) hb87) rfl rfl rfl ?_; clear hf; intro a hf
              refine sNo hf rfl rfl rfl (congrArg (fun b => some (Value.bool b)) hb87) rfl rfl rfl ?_; clear hf; intro a hf
              refine sYg hf hs rfl rfl rfl (congrArg (fun b => some (Value.bool b)) hb86) rfl rfl rfl (Y_pickF rfl (congrArg (fun b => some (Value.bool b)) hb87) rfl) ?_; clear hf; intro a hf
              refine sY hf hs rfl rfl rfl (Y_pickF rfl (congrArg (fun b => some (Value.bool b)) hb86) rfl) ?_; clear hf; intro a hf
              refine wpO_nil ?_
              refine wpL_nil (then_normal ?_)
              exact ⟨false, Option.some.inj hj81, (FrD.pick (FrD.pick (FrD.pick (FrD.pick hf.none hf rfl) hf rfl) hf rfl) hf rfl), hs⟩
        · rintro a w ⟨b79, hr_, hf, hs⟩
          subst hr_
          try dsimp only at hm68
          refine wpL_cond hf rfl (fun hb90 => ?_) (fun hb90 => ?_)
          · have hm68 := bif_t hm68 hb90
            refine wpL_seq ?_
            refine wpL_region ?_
            refine sY hf hs rfl rfl rfl (Y_assign rfl rfl) ?_; clear hf; intro a hf
            refine wpO_nil ?_
            obtain rfl := Option.some.inj hm68
            try dsimp only at hm
            obtain rfl := Option.some.inj hm
            refine wpL_ret (Qb_ret (Ql_ret (Qb_ret (ret_tmp rfl hf rfl ?_))))
            exact ⟨_, rfl, rfl, hs⟩
          · have hm68 := bif_f hm68 hb90
            refine wpL_skip ?_
            refine wpL_nil (Qb_normal ?_)
            refine wpL_region ?_
            refine sY hf hs rfl rfl rfl (Y_move rfl rfl) ?_; clear hf; intro a hf
            refine sY hf hs rfl rfl rfl (Y_add rfl rfl rfl) ?_; clear hf; intro a hf
            refine sY hf hs rfl rfl rfl (Y_assign rfl rfl) ?_; clear hf; intro a hf
            refine wpO_nil ?_
            refine wpL_nil (Ql_normal ?_)
            exact ⟨(IntKind.i64.wrap (x44 + 1)), hm68, (FrD.pick (FrD.pick (FrD.pick hf.none hf rfl) hf rfl) hf rfl), hs⟩
      · have hm68 := bif_f hm68 hb70
        refine wpL_exit (Ql_exit (Qb_exit ?_))
        exact ⟨Option.some.inj hm68, hf.none, hs⟩
  · rintro a w ⟨hr_, hf, hs⟩
    subst hr_
    try dsimp only at hm
    refine wpL_seq ?_
    refine wpL_region ?_
    refine sY hf hs rfl rfl rfl (Y_assign rfl rfl) ?_; clear hf; intro a hf
    refine wpO_nil ?_
    obtain rfl := Option.some.inj hm
    refine wpL_ret (ret_tmp rfl hf rfl ?_)
    exact ⟨_, rfl, rfl, hs⟩

set_option maxRecDepth 100000 in
theorem spec_l02Vector_ok (F : Nat) (p0_x : List Int) (A_p0_x_1 : Option Addr) (n_p0_x_1 c_p0_x_1 : Nat) (hn_p0_x_1 : n_p0_x_1 = p0_x.length) (r : Bool) (W : World) (hm : spec_l02Vector F p0_x = some r) (h_p0_x_1 : Rd W A_p0_x_1 (ints p0_x)) :
    Calls Try.prog 120 [.slice A_p0_x_1 n_p0_x_1 c_p0_x_1].toArray W fun e w' => ∃ v, e = .returned v ∧ v = .bool r ∧ St [] W w' [] := by
  subst hn_p0_x_1
  unfold spec_l02Vector at hm
  refine Calls.enter (N := 10) Try.func120 rfl rfl rfl (fun a hf => ?_)
  have hs := St.start W
  obtain ⟨w, hw_⟩ : ∃ w, w = W := ⟨W, rfl⟩
  clear hw_ w
  refine wpL_seq ?_
  refine wpL_region ?_
  refine sY hf hs rfl rfl rfl (Y_assign rfl rfl) ?_; clear hf; intro a hf
  refine wpO_nil ?_
  refine wpL_seq ?_
  obtain ⟨r7, hj8, hm⟩ := bind_some hm
  refine wpL_cut (fun a w => ∃ b6 : Bool, b6 = r7 ∧ Fr a 10 [(2, .bool b6)] ∧ St [] W w []) ?_ ?_
  · refine wpL_region ?_
    refine sY hf hs rfl rfl rfl (Y_move rfl rfl) ?_; clear hf; intro a hf
    refine sY hf hs rfl rfl rfl (Y_lenH rfl rfl el23 rfl) ?_; clear hf; intro a hf
    obtain ⟨r9, hc10, hj8⟩ := bind_some hj8
    refine sCall hf rfl rfl rfl rfl (cap := []) rfl rfl en115 (spec_l01In_ok F (p0_x.length : Int) 1 10 _ _ hc10) ?_; clear hf
    rintro _ w ⟨rfl, hs1⟩ a hf
    have hs : St [] W w [] := hs.ext hs1.below
    clear hs1
    refine sY hf hs rfl rfl rfl (Y_move rfl rfl) ?_; clear hf; intro a hf
    refine bsplit r9 (fun hb11 => ?_) (fun hb11 => ?_)
    · have hj8 := bif_t hj8 hb11
      refine sYg hf hs rfl rfl rfl (congrArg (fun b => some (Value.bool b)) hb11) rfl rfl rfl (Y_move rfl rfl) ?_; clear hf; intro a hf
      obtain ⟨r12, hc13, hj8⟩ := bind_some hj8
      refine sCallg hf rfl rfl rfl (congrArg (fun b => some (Value.bool b)) hb11) rfl rfl rfl rfl (cap := []) rfl rfl en124 (spec_l01All_ok F p0_x A_p0_x_1 p0_x.length c_p0_x_1 rfl false _ _ hc13 (h_p0_x_1.at hs)) ?_; clear hf
      rintro _ w ⟨rfl, hs1⟩ a hf
      have hs : St [] W w [] := hs.ext hs1.below
      clear hs1
      refine sY hf hs rfl rfl rfl (Y_pickT rfl (congrArg (fun b => some (Value.bool b)) hb11) rfl) ?_; clear hf; intro a hf
      refine sY hf hs rfl rfl rfl (Y_assign rfl rfl) ?_; clear hf; intro a hf
      refine wpO_nil ?_
      refine wpL_nil (then_normal ?_)
      exact ⟨r12, Option.some.inj hj8, (FrD.pick hf.none hf rfl), hs⟩
    · have hj8 := bif_f hj8 hb11
      refine sNo hf rfl rfl rfl (congrArg (fun b => some (Value.bool b)) hb11) rfl rfl rfl ?_; clear hf; intro a hf
      refine sNo hf rfl rfl rfl (congrArg (fun b => some (Value.bool b)) hb11) rfl rfl rfl ?_; clear hf; intro a hf
      refine sY hf hs rfl rfl rfl (Y_pickF rfl (congrArg (fun b => some (Value.bool b)) hb11) rfl) ?_; clear hf; intro a hf
      refine sY hf hs rfl rfl rfl (Y_assign rfl rfl) ?_; clear hf; intro a hf
      refine wpO_nil ?_
      refine wpL_nil (then_normal ?_)
      exact ⟨false, Option.some.inj hj8, (FrD.pick hf.none hf rfl), hs⟩
  · rintro a w ⟨b6, hr_, hf, hs⟩
    subst hr_
    try dsimp only at hm
    obtain rfl := Option.some.inj hm
    refine wpL_ret (ret_tmp rfl hf rfl ?_)
    exact ⟨_, rfl, rfl, hs⟩

set_option maxRecDepth 100000 in
theorem spec_IsMatrix_ok (F : Nat) (p0_a : List (List Int)) (A_p0_a_1 : Option Addr) (n_p0_a_1 c_p0_a_1 : Nat) (hn_p0_a_1 : n_p0_a_1 = p0_a.length) (r : Bool) (W : World) (hm : spec_IsMatrix F p0_a = some r) (h_p0_a_1 : RdM W A_p0_a_1 p0_a) :
    Calls Try.prog 76 [.slice A_p0_a_1 n_p0_a_1 c_p0_a_1].toArray W fun e w' => ∃ v, e = .returned v ∧ v = .bool r ∧ St [] W w' [] := by
  subst hn_p0_a_1
  unfold spec_IsMatrix at hm
  refine Calls.enter (N := 36) Try.func76 rfl rfl rfl (fun a hf => ?_)
  have hs := St.start W
  obtain ⟨w, hw_⟩ : ∃ w, w = W := ⟨W, rfl⟩
  clear hw_ w
  refine wpL_seq ?_
  refine wpL_region ?_
  refine sY hf hs rfl rfl rfl (Y_assign rfl rfl) ?_; clear hf; intro a hf
  refine wpO_nil ?_
  refine wpL_seq ?_
  refine wpL_seq ?_
  obtain ⟨r3, hj4, hm⟩ := bind_some hm
  refine wpL_cut (fun a w => ∃ b2 : Bool, b2 = r3 ∧ Fr a 36 [(0, .slice A_p0_a_1 p0_a.length c_p0_a_1), (11, .bool b2)] ∧ St [] W w []) ?_ ?_
  · refine wpL_region ?_
    refine sY hf hs rfl rfl rfl (Y_move rfl rfl) ?_; clear hf; intro a hf
    refine sY hf hs rfl rfl rfl (Y_lenH rfl rfl el22 rfl) ?_; clear hf; intro a hf
    refine sY hf hs rfl rfl rfl (Y_lss rfl rfl rfl) ?_; clear hf; intro a hf
    refine sY hf hs rfl rfl rfl (Y_move rfl rfl) ?_; clear hf; intro a hf
    refine bsplit (decide ((p0_a.length : Int) < 1)) (fun hb5 => ?_) (fun hb5 => ?_)
    · have hj4 := bif_t hj4 hb5
      refine sNo hf rfl rfl rfl (congrArg (fun b => some (Value.bool b)) hb5) rfl rfl rfl ?_; clear hf; intro a hf
      refine sNo hf rfl rfl rfl (congrArg (fun b => some (Value.bool b)) hb5) rfl rfl rfl ?_; clear hf; intro a hf
      refine sNo hf rfl rfl rfl (congrArg (fun b => some (Value.bool b)) hb5) rfl rfl rfl ?_; clear hf; intro a hf
      refine sY hf hs rfl rfl rfl (Y_pickT rfl (congrArg (fun b => some (Value.bool b)) hb5) rfl) ?_; clear hf; intro a hf
      refine wpO_nil ?_
      refine wpL_nil (then_normal ?_)
      exact ⟨true, Option.some.inj hj4, (FrD.pick (FrD.pick hf.none hf rfl) hf rfl), hs⟩
    · have hj4 := bif_f hj4 hb5
      refine sYg hf hs rfl rfl rfl (congrArg (fun b => some (Value.bool b)) hb5) rfl rfl rfl (Y_move rfl rfl) ?_; clear hf; intro a hf
      refine sYg hf hs rfl rfl rfl (congrArg (fun b => some (Value.bool b)) hb5) rfl rfl rfl (Y_lenH rfl rfl el22 rfl) ?_; clear hf; intro a hf
      refine sYg hf hs rfl rfl rfl (congrArg (fun b => some (Value.bool b)) hb5) rfl rfl rfl (Y_gtr rfl rfl rfl) ?_; clear hf; intro a hf
      refine sY hf hs rfl rfl rfl (Y_pickF rfl (congrArg (fun b => some (Value.bool b)) hb5) rfl) ?_; clear hf; intro a hf
      refine wpO_nil ?_
      refine wpL_nil (then_normal ?_)
      exact ⟨(decide (10 < (p0_a.length : Int))), Option.some.inj hj4, (FrD.pick (FrD.pick hf.none hf rfl) hf rfl), hs⟩
  · rintro a w ⟨b2, hr_, hf, hs⟩
    subst hr_
    try dsimp only at hm
    refine wpL_cond hf rfl (fun hb6 => ?_) (fun hb6 => ?_)
    · have hm := bif_t hm hb6
      refine wpL_seq ?_
      refine wpL_region ?_
      refine sY hf hs rfl rfl rfl (Y_assign rfl rfl) ?_; clear hf; intro a hf
      refine wpO_nil ?_
      obtain rfl := Option.some.inj hm
      refine wpL_ret (ret_tmp rfl hf rfl ?_)
      exact ⟨_, rfl, rfl, hs⟩
    · have hm := bif_f hm hb6
      refine wpL_skip ?_
      refine wpL_seq ?_
      refine wpL_seq ?_
      refine wpL_region ?_
      refine sY hf hs rfl rfl rfl (Y_assign rfl rfl) ?_; clear hf; intro a hf
      refine wpO_nil ?_
      obtain ⟨r204, hl205, hm⟩ := bind_some hm
      refine wpL_block (fun a w => Sum.inr () = r204 ∧ Fr a 36 [] ∧ St [] W w []) ?_ ?_
      · refine wpL_loop (fun n a w => ∃ x138 : Int, spec_IsMatrix_L1 F p0_a n x138 = some r204 ∧ Fr a 36 [(0, .slice A_p0_a_1 p0_a.length c_p0_a_1), (3, .int .i64 x138)] ∧ St [] W w []) F ?_ ?_ ?_
        · exact ⟨0, hl205, (FrD.pick (FrD.pick hf.none hf rfl) hf rfl), hs⟩
        · rintro a w ⟨x138, h0_, -, -⟩; simp [spec_IsMatrix_L1] at h0_
        · rintro n207 a w ⟨x138, hm206, hf, hs⟩
          rw [spec_IsMatrix_L1] at hm206
          refine wpL_seq ?_
          refine wpL_seq ?_
          refine wpL_region ?_
          refine sY hf hs rfl rfl rfl (Y_move rfl rfl) ?_; clear hf; intro a hf
          refine sY hf hs rfl rfl rfl (Y_move rfl rfl) ?_; clear hf; intro a hf
          refine sY hf hs rfl rfl rfl (Y_lenH rfl rfl el22 rfl) ?_; clear hf; intro a hf
          refine sY hf hs rfl rfl rfl (Y_lss rfl rfl rfl) ?_; clear hf; intro a hf
          refine wpO_nil ?_
          refine wpL_cond hf rfl (fun hb208 => ?_) (fun hb208 => ?_)
          · have hm206 := bif_t hm206 hb208
            refine wpL_skip ?_
            refine wpL_seq ?_
            refine wpL_block0 ?_
            refine wpL_seq ?_
            obtain ⟨r240, hj241, hm206⟩ := bind_some hm206
            refine wpL_cut (fun a w => ∃ b239 : Bool, b239 = r240 ∧ Fr a 36 [(0, .slice A_p0_a_1 p0_a.length c_p0_a_1), (3, .int .i64 x138), (35, .bool b239)] ∧ St [] W w []) ?_ ?_
            · refine wpL_draw (by kernel_rfl) (by kernel_rfl) hs ?_
              refine qY hf rfl rfl rfl (Y_move rfl rfl) ?_; clear hf; intro a hf
              refine qY hf rfl rfl rfl (Y_move rfl rfl) ?_; clear hf; intro a hf
              obtain ⟨q242, hi243, hj241⟩ := bind_some hj241
              obtain ⟨hi243a, hi243b, hi243q⟩ := idx_some hi243
              obtain ⟨vs244, hv245, hr246⟩ := id h_p0_a_1
              obtain ⟨A247, c248, hv249, hR250⟩ := hr246 _ _ hi243q
              refine qY hf rfl rfl rfl (Y_index rfl rfl rfl el22 ti23 (Rd.isAt hv245 hv249) hi243a hi243b) ?_; clear hf; intro a hf
              refine qY hf rfl rfl rfl (Y_load_rd rfl rfl (fun w hs => hv245.at hs) (at1 hv249) ag23) ?_; clear hf; intro a hf
              obtain ⟨r251, hc252, hj241⟩ := bind_some hj241
              refine qCall hf rfl rfl rfl rfl (cap := []) rfl rfl en120 (v := .bool r251) (fun w hs => Calls.scal (spec_l02Vector_ok F q242 A247 q242.length c248 rfl _ _ hc252 (hR250.at hs))) ?_; clear hf; intro a hf
              refine qY hf rfl rfl rfl (Y_not rfl rfl) ?_; clear hf; intro a hf
              refine qY hf rfl rfl rfl (Y_move rfl rfl) ?_; clear hf; intro a hf
              refine bsplit (!r251) (fun hb253 => ?_) (fun hb253 => ?_)
              · have hj241 := bif_t hj241 hb253
                refine qNo hf rfl rfl rfl (congrArg (fun b => some (Value.bool b)) hb253) rfl rfl rfl ?_; clear hf; intro a hf
                refine qNo hf rfl rfl rfl (congrArg (fun b => some (Value.bool b)) hb253) rfl rfl rfl ?_; clear hf; intro a hf
                refine qNo hf rfl rfl rfl (congrArg (fun b => some (Value.bool b)) hb253) rfl rfl rfl ?_; clear hf; intro a hf
                refine qNo hf rfl rfl rfl (congrArg (fun b => some (Value.bool b)) hb253) rfl rfl rfl ?_; clear hf; intro a hf
                refine qNo hf rfl rfl rfl (congrArg (fun b => some (Value.bool b)) hb253) rfl rfl rfl ?_; clear hf; intro a hf
                refine qNo hf rfl rfl rfl (congrArg (fun b => some (Value.bool b)) hb253) rfl rfl rfl ?_; clear hf; intro a hf
                refine qNo hf rfl rfl rfl (congrArg (fun b => some (Value.bool b)) hb253) rfl rfl rfl ?_; clear hf; intro a hf
                refine qNo hf rfl rfl rfl (congrArg (fun b => some (Value.bool b)) hb253) rfl rfl rfl ?_; clear hf; intro a hf
                refine qNo hf rfl rfl rfl (congrArg (fun b => some (Value.bool b)) hb253) rfl rfl rfl ?_; clear hf; intro a hf
                refine qNo hf rfl rfl rfl (congrArg (fun b => some (Value.bool b)) hb253) rfl rfl rfl ?_; clear hf; intro a hf
                refine qY hf rfl rfl rfl (Y_pickT rfl (congrArg (fun b => some (Value.bool b)) hb253) rfl) ?_; clear hf; intro a hf
                refine qNil ?_; clear hs; intro w hs
                refine wpL_nil (then_normal ?_)
                exact ⟨true, Option.some.inj hj241, (FrD.pick (FrD.pick (FrD.pick hf.none hf rfl) hf rfl) hf rfl), hs⟩
              · have hj241 := bif_f hj241 hb253
                refine qYg hf rfl rfl rfl (congrArg (fun b => some (Value.bool b)) hb253) rfl rfl rfl (Y_move rfl rfl) ?_; clear hf; intro a hf
                refine qYg hf rfl rfl rfl (congrArg (fun b => some (Value.bool b)) hb253) rfl rfl rfl (Y_move rfl rfl) ?_; clear hf; intro a hf
                obtain ⟨q254, hi255, hj241⟩ := bind_some hj241
                obtain ⟨hi255a, hi255b, hi255q⟩ := idx_some hi255
                obtain ⟨vs256, hv257, hr258⟩ := id h_p0_a_1
                obtain ⟨A259, c260, hv261, hR262⟩ := hr258 _ _ hi255q
                refine qYg hf rfl rfl rfl (congrArg (fun b => some (Value.bool b)) hb253) rfl rfl rfl (Y_index rfl rfl rfl el22 ti23 (Rd.isAt hv257 hv261) hi255a hi255b) ?_; clear hf; intro a hf
                refine qYg hf rfl rfl rfl (congrArg (fun b => some (Value.bool b)) hb253) rfl rfl rfl (Y_load_rd rfl rfl (fun w hs => hv257.at hs) (at1 hv261) ag23) ?_; clear hf; intro a hf
                refine qYg hf rfl rfl rfl (congrArg (fun b => some (Value.bool b)) hb253) rfl rfl rfl (Y_lenH rfl rfl el23 rfl) ?_; clear hf; intro a hf
                refine qYg hf rfl rfl rfl (congrArg (fun b => some (Value.bool b)) hb253) rfl rfl rfl (Y_move rfl rfl) ?_; clear hf; intro a hf
                obtain ⟨q263, hi264, hj241⟩ := bind_some hj241
                obtain ⟨hi264a, hi264b, hi264q⟩ := idx_some hi264
                obtain ⟨vs265, hv266, hr267⟩ := id h_p0_a_1
                obtain ⟨A268, c269, hv270, hR271⟩ := hr267 _ _ hi264q
                refine qYg hf rfl rfl rfl (congrArg (fun b => some (Value.bool b)) hb253) rfl rfl rfl (Y_index rfl rfl rfl el22 ti23 (Rd.isAt hv266 hv270) hi264a hi264b) ?_; clear hf; intro a hf
                refine qYg hf rfl rfl rfl (congrArg (fun b => some (Value.bool b)) hb253) rfl rfl rfl (Y_load_rd rfl rfl (fun w hs => hv266.at hs) (at1 hv270) ag23) ?_; clear hf; intro a hf
                refine qYg hf rfl rfl rfl (congrArg (fun b => some (Value.bool b)) hb253) rfl rfl rfl (Y_lenH rfl rfl el23 rfl) ?_; clear hf; intro a hf
                refine qYg hf rfl rfl rfl (congrArg (fun b => some (Value.bool b)) hb253) rfl rfl rfl (Y_neq rfl rfl rfl) ?_; clear hf; intro a hf
                refine qY hf rfl rfl rfl (Y_pickF rfl (congrArg (fun b => some (Value.bool b)) hb253) rfl) ?_; clear hf; intro a hf
                refine qNil ?_; clear hs; intro w hs
                refine wpL_nil (then_normal ?_)
                exact ⟨((q254.length : Int) != (q263.length : Int)), Option.some.inj hj241, (FrD.pick (FrD.pick (FrD.pick hf.none hf rfl) hf rfl) hf rfl), hs⟩
            · rintro a w ⟨b239, hr_, hf, hs⟩
              subst hr_
              try dsimp only at hm206
              refine wpL_cond hf rfl (fun hb272 => ?_) (fun hb272 => ?_)
              · have hm206 := bif_t hm206 hb272
                refine wpL_seq ?_
                refine wpL_region ?_
                refine sY hf hs rfl rfl rfl (Y_assign rfl rfl) ?_; clear hf; intro a hf
                refine wpO_nil ?_
                obtain rfl := Option.some.inj hm206
                try dsimp only at hm
                obtain rfl := Option.some.inj hm
                refine wpL_ret (Qb_ret (Ql_ret (Qb_ret (ret_tmp rfl hf rfl ?_))))
                exact ⟨_, rfl, rfl, hs⟩
              · have hm206 := bif_f hm206 hb272
                refine wpL_skip ?_
                refine wpL_nil (Qb_normal ?_)
                refine wpL_region ?_
                refine sY hf hs rfl rfl rfl (Y_move rfl rfl) ?_; clear hf; intro a hf
                refine sY hf hs rfl rfl rfl (Y_add rfl rfl rfl) ?_; clear hf; intro a hf
                refine sY hf hs rfl rfl rfl (Y_assign rfl rfl) ?_; clear hf; intro a hf
                refine wpO_nil ?_
                refine wpL_nil (Ql_normal ?_)
                exact ⟨(IntKind.i64.wrap (x138 + 1)), hm206, (FrD.pick (FrD.pick hf.none hf rfl) hf rfl), hs⟩
          · have hm206 := bif_f hm206 hb208
            refine wpL_exit (Ql_exit (Qb_exit ?_))
            exact ⟨Option.some.inj hm206, hf.none, hs⟩
      · rintro a w ⟨hr_, hf, hs⟩
        subst hr_
        try dsimp only at hm
        refine wpL_seq ?_
        refine wpL_region ?_
        refine sY hf hs rfl rfl rfl (Y_assign rfl rfl) ?_; clear hf; intro a hf
        refine wpO_nil ?_
        obtain rfl := Option.some.inj hm
        refine wpL_ret (ret_tmp rfl hf rfl ?_)
        exact ⟨_, rfl, rfl, hs⟩

set_option maxRecDepth 100000 in
theorem spec_l02Square_ok (F : Nat) (p0_a : List (List Int)) (A_p0_a_1 : Option Addr) (n_p0_a_1 c_p0_a_1 : Nat) (hn_p0_a_1 : n_p0_a_1 = p0_a.length) (r : Bool) (W : World) (hm : spec_l02Square F p0_a = some r) (h_p0_a_1 : RdM W A_p0_a_1 p0_a) :
    Calls Try.prog 119 [.slice A_p0_a_1 n_p0_a_1 c_p0_a_1].toArray W fun e w' => ∃ v, e = .returned v ∧ v = .bool r ∧ St [] W w' [] := by
  subst hn_p0_a_1
  unfold spec_l02Square at hm
  refine Calls.enter (N := 14) Try.func119 rfl rfl rfl (fun a hf => ?_)
  have hs := St.start W
  obtain ⟨w, hw_⟩ : ∃ w, w = W := ⟨W, rfl⟩
  clear hw_ w
  refine wpL_seq ?_
  refine wpL_region ?_
  refine sY hf hs rfl rfl rfl (Y_assign rfl rfl) ?_; clear hf; intro a hf
  refine wpO_nil ?_
  refine wpL_seq ?_
  obtain ⟨r14, hj15, hm⟩ := bind_some hm
  refine wpL_cut (fun a w => ∃ b13 : Bool, b13 = r14 ∧ Fr a 14 [(2, .bool b13)] ∧ St [] W w []) ?_ ?_
  · refine wpL_region ?_
    refine sY hf hs rfl rfl rfl (Y_move rfl rfl) ?_; clear hf; intro a hf
    obtain ⟨r16, hc17, hj15⟩ := bind_some hj15
    refine sCall hf rfl rfl rfl rfl (cap := []) rfl rfl en76 (spec_IsMatrix_ok F p0_a A_p0_a_1 p0_a.length c_p0_a_1 rfl _ _ hc17 (h_p0_a_1.at hs)) ?_; clear hf
    rintro _ w ⟨rfl, hs1⟩ a hf
    have hs : St [] W w [] := hs.ext hs1.below
    clear hs1
    refine sY hf hs rfl rfl rfl (Y_move rfl rfl) ?_; clear hf; intro a hf
    refine bsplit r16 (fun hb18 => ?_) (fun hb18 => ?_)
    · have hj15 := bif_t hj15 hb18
      refine sYg hf hs rfl rfl rfl (congrArg (fun b => some (Value.bool b)) hb18) rfl rfl rfl (Y_move rfl rfl) ?_; clear hf; intro a hf
      refine sYg hf hs rfl rfl rfl (congrArg (fun b => some (Value.bool b)) hb18) rfl rfl rfl (Y_lenH rfl rfl el22 rfl) ?_; clear hf; intro a hf
      refine sYg hf hs rfl rfl rfl (congrArg (fun b => some (Value.bool b)) hb18) rfl rfl rfl (Y_move rfl rfl) ?_; clear hf; intro a hf
      obtain ⟨q19, hi20, hj15⟩ := bind_some hj15
      obtain ⟨hi20a, hi20b, hi20q⟩ := idx_some hi20
      obtain ⟨vs21, hv22, hr23⟩ := id h_p0_a_1
      obtain ⟨A24, c25, hv26, hR27⟩ := hr23 _ _ hi20q
      refine sYg hf hs rfl rfl rfl (congrArg (fun b => some (Value.bool b)) hb18) rfl rfl rfl (Y_index rfl rfl rfl el22 ti23 (Rd.isAt hv22 hv26) hi20a hi20b) ?_; clear hf; intro a hf
      refine sYg hf hs rfl rfl rfl (congrArg (fun b => some (Value.bool b)) hb18) rfl rfl rfl (Y_load_rd rfl rfl (fun w hs => hv22.at hs) (at1 hv26) ag23) ?_; clear hf; intro a hf
      refine sYg hf hs rfl rfl rfl (congrArg (fun b => some (Value.bool b)) hb18) rfl rfl rfl (Y_lenH rfl rfl el23 rfl) ?_; clear hf; intro a hf
      refine sYg hf hs rfl rfl rfl (congrArg (fun b => some (Value.bool b)) hb18) rfl rfl rfl (Y_eql rfl rfl rfl) ?_; clear hf; intro a hf
      refine sY hf hs rfl rfl rfl (Y_pickT rfl (congrArg (fun b => some (Value.bool b)) hb18) rfl) ?_; clear hf; intro a hf
      refine sY hf hs rfl rfl rfl (Y_assign rfl rfl) ?_; clear hf; intro a hf
      refine wpO_nil ?_
      refine wpL_nil (then_normal ?_)
      exact ⟨((p0_a.length : Int) == (q19.length : Int)), Option.some.inj hj15, (FrD.pick hf.none hf rfl), hs⟩
    · have hj15 := bif_f hj15 hb18
      refine sNo hf rfl rfl rfl (congrArg (fun b => some (Value.bool b)) hb18) rfl rfl rfl ?_; clear hf; intro a hf
      refine sNo hf rfl rfl rfl (congrArg (fun b => some (Value.bool b)) hb18) rfl rfl rfl ?_; clear hf; intro a hf
      refine sNo hf rfl rfl rfl (congrArg (fun b => some (Value.bool b)) hb18) rfl rfl rfl ?_; clear hf; intro a hf
      refine sNo hf rfl rfl rfl (congrArg (fun b => some (Value.bool b)) hb18) rfl rfl rfl ?_; clear hf; intro a hf
      refine sNo hf rfl rfl rfl (congrArg (fun b => some (Value.bool b)) hb18) rfl rfl rfl ?_; clear hf; intro a hf
      refine sNo hf rfl rfl rfl (congrArg (fun b => some (Value.bool b)) hb18) rfl rfl rfl ?_; clear hf; intro a hf
      refine sNo hf rfl rfl rfl (congrArg (fun b => some (Value.bool b)) hb18) rfl rfl rfl ?_; clear hf; intro a hf
      refine sY hf hs rfl rfl rfl (Y_pickF rfl (congrArg (fun b => some (Value.bool b)) hb18) rfl) ?_; clear hf; intro a hf
      refine sY hf hs rfl rfl rfl (Y_assign rfl rfl) ?_; clear hf; intro a hf
      refine wpO_nil ?_
      refine wpL_nil (then_normal ?_)
      exact ⟨false, Option.some.inj hj15, (FrD.pick hf.none hf rfl), hs⟩
  · rintro a w ⟨b13, hr_, hf, hs⟩
    subst hr_
    try dsimp only at hm
    obtain rfl := Option.some.inj hm
    refine wpL_ret (ret_tmp rfl hf rfl ?_)
    exact ⟨_, rfl, rfl, hs⟩

set_option maxRecDepth 100000 in
theorem spec_IsSystem_ok (F : Nat) (p0_s : GSystem) (A_p0_s_1 : Option Addr) (n_p0_s_1 c_p0_s_1 : Nat) (hn_p0_s_1 : n_p0_s_1 = p0_s.A.length) (A_p0_s_2 : Option Addr) (n_p0_s_2 c_p0_s_2 : Nat) (hn_p0_s_2 : n_p0_s_2 = p0_s.B.length) (A_p0_s_3 : Option Addr) (n_p0_s_3 c_p0_s_3 : Nat) (hn_p0_s_3 : n_p0_s_3 = p0_s.C.length) (r : Bool) (W : World) (hm : spec_IsSystem F p0_s = some r) (h_p0_s_1 : RdM W A_p0_s_1 p0_s.A) (h_p0_s_2 : Rd W A_p0_s_2 (ints p0_s.B)) (h_p0_s_3 : Rd W A_p0_s_3 (ints p0_s.C)) :
    Calls Try.prog 32 [.agg #[.slice A_p0_s_1 n_p0_s_1 c_p0_s_1, .slice A_p0_s_2 n_p0_s_2 c_p0_s_2, .slice A_p0_s_3 n_p0_s_3 c_p0_s_3]].toArray W fun e w' => ∃ v, e = .returned v ∧ v = .bool r ∧ St [] W w' [] := by
  subst hn_p0_s_1
  subst hn_p0_s_2
  subst hn_p0_s_3
  unfold spec_IsSystem at hm
  refine Calls.enter (N := 34) Try.func32 rfl rfl rfl (fun a hf => ?_)
  have hs := St.start W
  obtain ⟨w, hw_⟩ : ∃ w, w = W := ⟨W, rfl⟩
  clear hw_ w
  refine wpL_seq ?_
  refine wpL_region ?_
  refine sBox hf hs rfl rfl rfl rfl rfl (cs := [.slice A_p0_s_1 p0_s.A.length c_p0_s_1, .slice A_p0_s_2 p0_s.B.length c_p0_s_2, .slice A_p0_s_3 p0_s.C.length c_p0_s_3]) rfl ?_; clear hf hs; intro a w b1 hs hf
  have hs : St [] W w [.blk b1 27 [.slice A_p0_s_1 p0_s.A.length c_p0_s_1, .slice A_p0_s_2 p0_s.B.length c_p0_s_2, .slice A_p0_s_3 p0_s.C.length c_p0_s_3]] := hs
  refine sY hf hs rfl rfl rfl (Y_assign rfl rfl) ?_; clear hf; intro a hf
  refine wpO_nil ?_
  refine wpL_seq ?_
  obtain ⟨r13, hj14, hm⟩ := bind_some hm
  refine wpL_cut (fun a w => ∃ b12 : Bool, b12 = r13 ∧ Fr a 34 [(2, .bool b12)] ∧ St [] W w []) ?_ ?_
  · refine wpL_region ?_
    refine sY hf hs rfl rfl rfl (Y_fieldAddr rfl rfl fo27_0) ?_; clear hf; intro a hf
    refine sY hf hs rfl rfl rfl (Y_load_blk rfl rfl (i := 0) rfl rfl ag22) ?_; clear hf; intro a hf
    obtain ⟨r15, hc16, hj14⟩ := bind_some hj14
    refine sCall hf rfl rfl rfl rfl (cap := []) rfl rfl en119 (spec_l02Square_ok F p0_s.A A_p0_s_1 p0_s.A.length c_p0_s_1 rfl _ _ hc16 (h_p0_s_1.at hs)) ?_; clear hf
    rintro _ w ⟨rfl, hs1⟩ a hf
    have hs : St [] W w [.blk b1 27 [.slice A_p0_s_1 p0_s.A.length c_p0_s_1, .slice A_p0_s_2 p0_s.B.length c_p0_s_2, .slice A_p0_s_3 p0_s.C.length c_p0_s_3]] := hs.ext hs1.below
    clear hs1
    refine sY hf hs rfl rfl rfl (Y_move rfl rfl) ?_; clear hf; intro a hf
    refine bsplit r15 (fun hb17 => ?_) (fun hb17 => ?_)
    · have hj14 := bif_t hj14 hb17
      refine sYg hf hs rfl rfl rfl (congrArg (fun b => some (Value.bool b)) hb17) rfl rfl rfl (Y_fieldAddr rfl rfl fo27_1) ?_; clear hf; intro a hf
      refine sYg hf hs rfl rfl rfl (congrArg (fun b => some (Value.bool b)) hb17) rfl rfl rfl (Y_load_blk rfl rfl (i := 0) rfl rfl ag23) ?_; clear hf; intro a hf
      obtain ⟨r18, hc19, hj14⟩ := bind_some hj14
      refine sCallg hf rfl rfl rfl (congrArg (fun b => some (Value.bool b)) hb17) rfl rfl rfl rfl (cap := []) rfl rfl en120 (spec_l02Vector_ok F p0_s.B A_p0_s_2 p0_s.B.length c_p0_s_2 rfl _ _ hc19 (h_p0_s_2.at hs)) ?_; clear hf
      rintro _ w ⟨rfl, hs1⟩ a hf
      have hs : St [] W w [.blk b1 27 [.slice A_p0_s_1 p0_s.A.length c_p0_s_1, .slice A_p0_s_2 p0_s.B.length c_p0_s_2, .slice A_p0_s_3 p0_s.C.length c_p0_s_3]] := hs.ext hs1.below
      clear hs1
      refine sY hf hs rfl rfl rfl (Y_pickT rfl (congrArg (fun b => some (Value.bool b)) hb17) rfl) ?_; clear hf; intro a hf
      refine sY hf hs rfl rfl rfl (Y_move rfl rfl) ?_; clear hf; intro a hf
      refine bsplit r18 (fun hb20 => ?_) (fun hb20 => ?_)
      · have hj14 := bif_t hj14 hb20
        refine sYg hf hs rfl rfl rfl (congrArg (fun b => some (Value.bool b)) hb20) rfl rfl rfl (Y_fieldAddr rfl rfl fo27_2) ?_; clear hf; intro a hf
        refine sYg hf hs rfl rfl rfl (congrArg (fun b => some (Value.bool b)) hb20) rfl rfl rfl (Y_load_blk rfl rfl (i := 0) rfl rfl ag23) ?_; clear hf; intro a hf
        obtain ⟨r21, hc22, hj14⟩ := bind_some hj14
        refine sCallg hf rfl rfl rfl (congrArg (fun b => some (Value.bool b)) hb20) rfl rfl rfl rfl (cap := []) rfl rfl en120 (spec_l02Vector_ok F p0_s.C A_p0_s_3 p0_s.C.length c_p0_s_3 rfl _ _ hc22 (h_p0_s_3.at hs)) ?_; clear hf
        rintro _ w ⟨rfl, hs1⟩ a hf
        have hs : St [] W w [.blk b1 27 [.slice A_p0_s_1 p0_s.A.length c_p0_s_1, .slice A_p0_s_2 p0_s.B.length c_p0_s_2, .slice A_p0_s_3 p0_s.C.length c_p0_s_3]] := hs.ext hs1.below
        clear hs1
        refine sY hf hs rfl rfl rfl (Y_pickT rfl (congrArg (fun b => some (Value.bool b)) hb20) rfl) ?_; clear hf; intro a hf
        refine sY hf hs rfl rfl rfl (Y_move rfl rfl) ?_; clear hf; intro a hf
        refine bsplit r21 (fun hb23 => ?_) (fun hb23 => ?_)
        · have hj14 := bif_t hj14 hb23
          refine sYg hf hs rfl rfl rfl (congrArg (fun b => some (Value.bool b)) hb23) rfl rfl rfl (Y_fieldAddr rfl rfl fo27_1) ?_; clear hf; intro a hf
          refine sYg hf hs rfl rfl rfl (congrArg (fun b => some (Value.bool b)) hb23) rfl rfl rfl (Y_load_blk rfl rfl (i := 0) rfl rfl ag23) ?_; clear hf; intro a hf
          refine sYg hf hs rfl rfl rfl (congrArg (fun b => some (Value.bool b)) hb23) rfl rfl rfl (Y_lenH rfl rfl el23 rfl) ?_; clear hf; intro a hf
          refine sYg hf hs rfl rfl rfl (congrArg (fun b => some (Value.bool b)) hb23) rfl rfl rfl (Y_fieldAddr rfl rfl fo27_0) ?_; clear hf; intro a hf
          refine sYg hf hs rfl rfl rfl (congrArg (fun b => some (Value.bool b)) hb23) rfl rfl rfl (Y_load_blk rfl rfl (i := 0) rfl rfl ag22) ?_; clear hf; intro a hf
          refine sYg hf hs rfl rfl rfl (congrArg (fun b => some (Value.bool b)) hb23) rfl rfl rfl (Y_lenH rfl rfl el22 rfl) ?_; clear hf; intro a hf
          refine sYg hf hs rfl rfl rfl (congrArg (fun b => some (Value.bool b)) hb23) rfl rfl rfl (Y_eql rfl rfl rfl) ?_; clear hf; intro a hf
          refine sY hf hs rfl rfl rfl (Y_pickT rfl (congrArg (fun b => some (Value.bool b)) hb23) rfl) ?_; clear hf; intro a hf
          refine sY hf hs rfl rfl rfl (Y_move rfl rfl) ?_; clear hf; intro a hf
          refine bsplit ((p0_s.B.length : Int) == (p0_s.A.length : Int)) (fun hb24 => ?_) (fun hb24 => ?_)
          · have hj14 := bif_t hj14 hb24
            refine sYg hf hs rfl rfl rfl (congrArg (fun b => some (Value.bool b)) hb24) rfl rfl rfl (Y_fieldAddr rfl rfl fo27_2) ?_; clear hf; intro a hf
            refine sYg hf hs rfl rfl rfl (congrArg (fun b => some (Value.bool b)) hb24) rfl rfl rfl (Y_load_blk rfl rfl (i := 0) rfl rfl ag23) ?_; clear hf; intro a hf
            refine sYg hf hs rfl rfl rfl (congrArg (fun b => some (Value.bool b)) hb24) rfl rfl rfl (Y_lenH rfl rfl el23 rfl) ?_; clear hf; intro a hf
            refine sYg hf hs rfl rfl rfl (congrArg (fun b => some (Value.bool b)) hb24) rfl rfl rfl (Y_fieldAddr rfl rfl fo27_0) ?_; clear hf; intro a hf
            refine sYg hf hs rfl rfl rfl (congrArg (fun b => some (Value.bool b)) hb24) rfl rfl rfl (Y_load_blk rfl rfl (i := 0) rfl rfl ag22) ?_; clear hf; intro a hf
            refine sYg hf hs rfl rfl rfl (congrArg (fun b => some (Value.bool b)) hb24) rfl rfl rfl (Y_lenH rfl rfl el22 rfl) ?_; clear hf; intro a hf
            refine sYg hf hs rfl rfl rfl (congrArg (fun b => some (Value.bool b)) hb24) rfl rfl rfl (Y_eql rfl rfl rfl) ?_; clear hf; intro a hf
            refine sY hf hs rfl rfl rfl (Y_pickT rfl (congrArg (fun b => some (Value.bool b)) hb24) rfl) ?_; clear hf; intro a hf
            refine sY hf hs rfl rfl rfl (Y_assign rfl rfl) ?_; clear hf; intro a hf
            refine wpO_nil ?_
            refine wpL_nil (then_normal ?_)
            exact ⟨((p0_s.C.length : Int) == (p0_s.A.length : Int)), Option.some.inj hj14, (FrD.pick hf.none hf rfl), hs.sel [] (by decide)⟩
          · have hj14 := bif_f hj14 hb24
            refine sNo hf rfl rfl rfl (congrArg (fun b => some (Value.bool b)) hb24) rfl rfl rfl ?_; clear hf; intro a hf
            refine sNo hf rfl rfl rfl (congrArg (fun b => some (Value.bool b)) hb24) rfl rfl rfl ?_; clear hf; intro a hf
            refine sNo hf rfl rfl rfl (congrArg (fun b => some (Value.bool b)) hb24) rfl rfl rfl ?_; clear hf; intro a hf
            refine sNo hf rfl rfl rfl (congrArg (fun b => some (Value.bool b)) hb24) rfl rfl rfl ?_; clear hf; intro a hf
            refine sNo hf rfl rfl rfl (congrArg (fun b => some (Value.bool b)) hb24) rfl rfl rfl ?_; clear hf; intro a hf
            refine sNo hf rfl rfl rfl (congrArg (fun b => some (Value.bool b)) hb24) rfl rfl rfl ?_; clear hf; intro a hf
            refine sNo hf rfl rfl rfl (congrArg (fun b => some (Value.bool b)) hb24) rfl rfl rfl ?_; clear hf; intro a hf
            refine sY hf hs rfl rfl rfl (Y_pickF rfl (congrArg (fun b => some (Value.bool b)) hb24) rfl) ?_; clear hf; intro a hf
            refine sY hf hs rfl rfl rfl (Y_assign rfl rfl) ?_; clear hf; intro a hf
            refine wpO_nil ?_
            refine wpL_nil (then_normal ?_)
            exact ⟨false, Option.some.inj hj14, (FrD.pick hf.none hf rfl), hs.sel [] (by decide)⟩
        · have hj14 := bif_f hj14 hb23
          refine sNo hf rfl rfl rfl (congrArg (fun b => some (Value.bool b)) hb23) rfl rfl rfl ?_; clear hf; intro a hf
          refine sNo hf rfl rfl rfl (congrArg (fun b => some (Value.bool b)) hb23) rfl rfl rfl ?_; clear hf; intro a hf
          refine sNo hf rfl rfl rfl (congrArg (fun b => some (Value.bool b)) hb23) rfl rfl rfl ?_; clear hf; intro a hf
          refine sNo hf rfl rfl rfl (congrArg (fun b => some (Value.bool b)) hb23) rfl rfl rfl ?_; clear hf; intro a hf
          refine sNo hf rfl rfl rfl (congrArg (fun b => some (Value.bool b)) hb23) rfl rfl rfl ?_; clear hf; intro a hf
          refine sNo hf rfl rfl rfl (congrArg (fun b => some (Value.bool b)) hb23) rfl rfl rfl ?_; clear hf; intro a hf
          refine sNo hf rfl rfl rfl (congrArg (fun b => some (Value.bool b)) hb23) rfl rfl rfl ?_; clear hf; intro a hf
          refine sY hf hs rfl rfl rfl (Y_pickF rfl (congrArg (fun b => some (Value.bool b)) hb23) rfl) ?_; clear hf; intro a hf
          refine sY hf hs rfl rfl rfl (Y_move rfl rfl) ?_; clear hf; intro a hf
          refine sNo hf rfl rfl rfl rfl rfl rfl rfl ?_; clear hf; intro a hf
          refine sNo hf rfl rfl rfl rfl rfl rfl rfl ?_; clear hf; intro a hf
          refine sNo hf rfl rfl rfl rfl rfl rfl rfl ?_; clear hf; intro a hf
          refine sNo hf rfl rfl rfl rfl rfl rfl rfl ?_; clear hf; intro a hf
          refine sNo hf rfl rfl rfl rfl rfl rfl rfl ?_; clear hf; intro a hf
          refine sNo hf rfl rfl rfl rfl rfl rfl rfl ?_; clear hf; intro a hf
          refine sNo hf rfl rfl rfl rfl rfl rfl rfl ?_; clear hf; intro a hf
          refine sY hf hs rfl rfl rfl (Y_pickF rfl rfl rfl) ?_; clear hf; intro a hf
          refine sY hf hs rfl rfl rfl (Y_assign rfl rfl) ?_; clear hf; intro a hf
          refine wpO_nil ?_
          refine wpL_nil (then_normal ?_)
          exact ⟨false, Option.some.inj hj14, (FrD.pick hf.none hf rfl), hs.sel [] (by decide)⟩
      · have hj14 := bif_f hj14 hb20
        refine sNo hf rfl rfl rfl (congrArg (fun b => some (Value.bool b)) hb20) rfl rfl rfl ?_; clear hf; intro a hf
        refine sNo hf rfl rfl rfl (congrArg (fun b => some (Value.bool b)) hb20) rfl rfl rfl ?_; clear hf; intro a hf
        refine sNo hf rfl rfl rfl (congrArg (fun b => some (Value.bool b)) hb20) rfl rfl rfl ?_; clear hf; intro a hf
        refine sY hf hs rfl rfl rfl (Y_pickF rfl (congrArg (fun b => some (Value.bool b)) hb20) rfl) ?_; clear hf; intro a hf
        refine sY hf hs rfl rfl rfl (Y_move rfl rfl) ?_; clear hf; intro a hf
        refine sNo hf rfl rfl rfl rfl rfl rfl rfl ?_; clear hf; intro a hf
        refine sNo hf rfl rfl rfl rfl rfl rfl rfl ?_; clear hf; intro a hf
        refine sNo hf rfl rfl rfl rfl rfl rfl rfl ?_; clear hf; intro a hf
        refine sNo hf rfl rfl rfl rfl rfl rfl rfl ?_; clear hf; intro a hf
        refine sNo hf rfl rfl rfl rfl rfl rfl rfl ?_; clear hf; intro a hf
        refine sNo hf rfl rfl rfl rfl rfl rfl rfl ?_; clear hf; intro a hf
        refine sNo hf rfl rfl rfl rfl rfl rfl rfl ?_; clear hf; intro a hf
        refine sY hf hs rfl rfl rfl (Y_pickF rfl rfl rfl) ?_; clear hf; intro a hf
        refine sY hf hs rfl rfl rfl (Y_move rfl rfl) ?_; clear hf; intro a hf
        refine sNo hf rfl rfl rfl rfl rfl rfl rfl ?_; clear hf; intro a hf
        refine sNo hf rfl rfl rfl rfl rfl rfl rfl ?_; clear hf; intro a hf
        refine sNo hf rfl rfl rfl rfl rfl rfl rfl ?_; clear hf; intro a hf
        refine sNo hf rfl rfl rfl rfl rfl rfl rfl ?_; clear hf; intro a hf
        refine sNo hf rfl rfl rfl rfl rfl rfl rfl ?_; clear hf; intro a hf
        refine sNo hf rfl rfl rfl rfl rfl rfl rfl ?_; clear hf; intro a hf
        refine sNo hf rfl rfl rfl rfl rfl rfl rfl ?_; clear hf; intro a hf
        refine sY hf hs rfl rfl rfl (Y_pickF rfl rfl rfl) ?_; clear hf; intro a hf
        refine sY hf hs rfl rfl rfl (Y_assign rfl rfl) ?_; clear hf; intro a hf
        refine wpO_nil ?_
        refine wpL_nil (then_normal ?_)
        exact ⟨false, Option.some.inj hj14, (FrD.pick hf.none hf rfl), hs.sel [] (by decide)⟩
    · have hj14 := bif_f hj14 hb17
      refine sNo hf rfl rfl rfl (congrArg (fun b => some (Value.bool b)) hb17) rfl rfl rfl ?_; clear hf; intro a hf
      refine sNo hf rfl rfl rfl (congrArg (fun b => some (Value.bool b)) hb17) rfl rfl rfl ?_; clear hf; intro a hf
      refine sNo hf rfl rfl rfl (congrArg (fun b => some (Value.bool b)) hb17) rfl rfl rfl ?_; clear hf; intro a hf
      refine sY hf hs rfl rfl rfl (Y_pickF rfl (congrArg (fun b => some (Value.bool b)) hb17) rfl) ?_; clear hf; intro a hf
      refine sY hf hs rfl rfl rfl (Y_move rfl rfl) ?_; clear hf; intro a hf
      refine sNo hf rfl rfl rfl rfl rfl rfl rfl ?_; clear hf; intro a hf
      refine sNo hf rfl rfl rfl rfl rfl rfl rfl ?_; clear hf; intro a hf
      refine sNo hf rfl rfl rfl rfl rfl rfl rfl ?_; clear hf; intro a hf
      refine sY hf hs rfl rfl rfl (Y_pickF rfl rfl rfl) ?_; clear hf; intro a hf
      refine sY hf hs rfl rfl rfl (Y_move rfl rfl) ?_; clear hf; intro a hf
      refine sNo hf rfl rfl rfl rfl rfl rfl rfl ?_; clear hf; intro a hf
      refine sNo hf rfl rfl rfl rfl rfl rfl rfl ?_; clear hf; intro a hf
      refine sNo hf rfl rfl rfl rfl rfl rfl rfl ?_; clear hf; intro a hf
      refine sNo hf rfl rfl rfl rfl rfl rfl rfl ?_; clear hf; intro a hf
      refine sNo hf rfl rfl rfl rfl rfl rfl rfl ?_; clear hf; intro a hf
      refine sNo hf rfl rfl rfl rfl rfl rfl rfl ?_; clear hf; intro a hf
      refine sNo hf rfl rfl rfl rfl rfl rfl rfl ?_; clear hf; intro a hf
      refine sY hf hs rfl rfl rfl (Y_pickF rfl rfl rfl) ?_; clear hf; intro a hf
      refine sY hf hs rfl rfl rfl (Y_move rfl rfl) ?_; clear hf; intro a hf
      refine sNo hf rfl rfl rfl rfl rfl rfl rfl ?_; clear hf; intro a hf
      refine sNo hf rfl rfl rfl rfl rfl rfl rfl ?_; clear hf; intro a hf
      refine sNo hf rfl rfl rfl rfl rfl rfl rfl ?_; clear hf; intro a hf
      refine sNo hf rfl rfl rfl rfl rfl rfl rfl ?_; clear hf; intro a hf
      refine sNo hf rfl rfl rfl rfl rfl rfl rfl ?_; clear hf; intro a hf
      refine sNo hf rfl rfl rfl rfl rfl rfl rfl ?_; clear hf; intro a hf
      refine sNo hf rfl rfl rfl rfl rfl rfl rfl ?_; clear hf; intro a hf
      refine sY hf hs rfl rfl rfl (Y_pickF rfl rfl rfl) ?_; clear hf; intro a hf
      refine sY hf hs rfl rfl rfl (Y_assign rfl rfl) ?_; clear hf; intro a hf
      refine wpO_nil ?_
      refine wpL_nil (then_normal ?_)
      exact ⟨false, Option.some.inj hj14, (FrD.pick hf.none hf rfl), hs.sel [] (by decide)⟩
  · rintro a w ⟨b12, hr_, hf, hs⟩
    subst hr_
    try dsimp only at hm
    obtain rfl := Option.some.inj hm
    refine wpL_ret (ret_tmp rfl hf rfl ?_)
    exact ⟨_, rfl, rfl, hs⟩

set_option maxRecDepth 100000 in
theorem spec_l24Inputs_ok (F : Nat) (p0_list : List Int) (A_p0_list_1 : Option Addr) (n_p0_list_1 c_p0_list_1 : Nat) (hn_p0_list_1 : n_p0_list_1 = p0_list.length) (p1_finite : Bool) (r : Bool) (W : World) (hm : spec_l24Inputs F p0_list p1_finite = some r) (h_p0_list_1 : Rd W A_p0_list_1 (ints p0_list)) :
    Calls Try.prog 123 [.slice A_p0_list_1 n_p0_list_1 c_p0_list_1, .bool p1_finite].toArray W fun e w' => ∃ v, e = .returned v ∧ v = .bool r ∧ St [] W w' [] := by
  subst hn_p0_list_1
  unfold spec_l24Inputs at hm
  refine Calls.enter (N := 13) Try.func123 rfl rfl rfl (fun a hf => ?_)
  have hs := St.start W
  obtain ⟨w, hw_⟩ : ∃ w, w = W := ⟨W, rfl⟩
  clear hw_ w
  refine wpL_seq ?_
  refine wpL_region ?_
  refine sY hf hs rfl rfl rfl (Y_assign rfl rfl) ?_; clear hf; intro a hf
  refine wpO_nil ?_
  refine wpL_seq ?_
  obtain ⟨r5, hj6, hm⟩ := bind_some hm
  refine wpL_cut (fun a w => ∃ b4 : Bool, b4 = r5 ∧ Fr a 13 [(4, .bool b4)] ∧ St [] W w []) ?_ ?_
  · refine wpL_region ?_
    refine sY hf hs rfl rfl rfl (Y_move rfl rfl) ?_; clear hf; intro a hf
    refine sY hf hs rfl rfl rfl (Y_lenH rfl rfl el23 rfl) ?_; clear hf; intro a hf
    refine sY hf hs rfl rfl rfl (Y_leq rfl rfl rfl) ?_; clear hf; intro a hf
    refine sY hf hs rfl rfl rfl (Y_move rfl rfl) ?_; clear hf; intro a hf
    refine bsplit (decide ((p0_list.length : Int) ≤ 50)) (fun hb7 => ?_) (fun hb7 => ?_)
    · have hj6 := bif_t hj6 hb7
      refine sYg hf hs rfl rfl rfl (congrArg (fun b => some (Value.bool b)) hb7) rfl rfl rfl (Y_move rfl rfl) ?_; clear hf; intro a hf
      refine sYg hf hs rfl rfl rfl (congrArg (fun b => some (Value.bool b)) hb7) rfl rfl rfl (Y_move rfl rfl) ?_; clear hf; intro a hf
      obtain ⟨r8, hc9, hj6⟩ := bind_some hj6
      refine sCallg hf rfl rfl rfl (congrArg (fun b => some (Value.bool b)) hb7) rfl rfl rfl rfl (cap := []) rfl rfl en124 (spec_l01All_ok F p0_list A_p0_list_1 p0_list.length c_p0_list_1 rfl p1_finite _ _ hc9 (h_p0_list_1.at hs)) ?_; clear hf
      rintro _ w ⟨rfl, hs1⟩ a hf
      have hs : St [] W w [] := hs.ext hs1.below
      clear hs1
      refine sY hf hs rfl rfl rfl (Y_pickT rfl (congrArg (fun b => some (Value.bool b)) hb7) rfl) ?_; clear hf; intro a hf
      refine sY hf hs rfl rfl rfl (Y_assign rfl rfl) ?_; clear hf; intro a hf
      refine wpO_nil ?_
      refine wpL_nil (then_normal ?_)
      exact ⟨r8, Option.some.inj hj6, (FrD.pick hf.none hf rfl), hs⟩
    · have hj6 := bif_f hj6 hb7
      refine sNo hf rfl rfl rfl (congrArg (fun b => some (Value.bool b)) hb7) rfl rfl rfl ?_; clear hf; intro a hf
      refine sNo hf rfl rfl rfl (congrArg (fun b => some (Value.bool b)) hb7) rfl rfl rfl ?_; clear hf; intro a hf
      refine sNo hf rfl rfl rfl (congrArg (fun b => some (Value.bool b)) hb7) rfl rfl rfl ?_; clear hf; intro a hf
      refine sY hf hs rfl rfl rfl (Y_pickF rfl (congrArg (fun b => some (Value.bool b)) hb7) rfl) ?_; clear hf; intro a hf
      refine sY hf hs rfl rfl rfl (Y_assign rfl rfl) ?_; clear hf; intro a hf
      refine wpO_nil ?_
      refine wpL_nil (then_normal ?_)
      exact ⟨false, Option.some.inj hj6, (FrD.pick hf.none hf rfl), hs⟩
  · rintro a w ⟨b4, hr_, hf, hs⟩
    subst hr_
    try dsimp only at hm
    obtain rfl := Option.some.inj hm
    refine wpL_ret (ret_tmp rfl hf rfl ?_)
    exact ⟨_, rfl, rfl, hs⟩

set_option maxRecDepth 100000 in
theorem spec_l01Times_ok (F : Nat) (p0_a : Int) (p1_b : Int) (r : Int) (W : World) (hm : spec_l01Times F p0_a p1_b = some r) :
    Calls Try.prog 154 [.int .i64 p0_a, .int .i64 p1_b].toArray W fun e w' => ∃ v, e = .returned v ∧ v = .int .i64 r ∧ St [] W w' [] := by
  unfold spec_l01Times at hm
  refine Calls.enter (N := 14) Try.func154 rfl rfl rfl (fun a hf => ?_)
  have hs := St.start W
  obtain ⟨w, hw_⟩ : ∃ w, w = W := ⟨W, rfl⟩
  clear hw_ w
  refine wpL_seq ?_
  refine wpL_region ?_
  refine sY hf hs rfl rfl rfl (Y_assign rfl rfl) ?_; clear hf; intro a hf
  refine wpO_nil ?_
  refine wpL_seq ?_
  refine wpL_seq ?_
  obtain ⟨r3, hj4, hm⟩ := bind_some hm
  refine wpL_cut (fun a w => ∃ b2 : Bool, b2 = r3 ∧ Fr a 14 [(0, .int .i64 p0_a), (1, .int .i64 p1_b), (10, .bool b2)] ∧ St [] W w []) ?_ ?_
  · refine wpL_region ?_
    refine sY hf hs rfl rfl rfl (Y_move rfl rfl) ?_; clear hf; intro a hf
    refine sY hf hs rfl rfl rfl (Y_eql rfl rfl rfl) ?_; clear hf; intro a hf
    refine sY hf hs rfl rfl rfl (Y_move rfl rfl) ?_; clear hf; intro a hf
    refine bsplit (p0_a == (-1000000000000000)) (fun hb5 => ?_) (fun hb5 => ?_)
    · have hj4 := bif_t hj4 hb5
      refine sNo hf rfl rfl rfl (congrArg (fun b => some (Value.bool b)) hb5) rfl rfl rfl ?_; clear hf; intro a hf
      refine sNo hf rfl rfl rfl (congrArg (fun b => some (Value.bool b)) hb5) rfl rfl rfl ?_; clear hf; intro a hf
      refine sY hf hs rfl rfl rfl (Y_pickT rfl (congrArg (fun b => some (Value.bool b)) hb5) rfl) ?_; clear hf; intro a hf
      refine wpO_nil ?_
      refine wpL_nil (then_normal ?_)
      exact ⟨true, Option.some.inj hj4, (FrD.pick (FrD.pick (FrD.pick hf.none hf rfl) hf rfl) hf rfl), hs⟩
    · have hj4 := bif_f hj4 hb5
      refine sYg hf hs rfl rfl rfl (congrArg (fun b => some (Value.bool b)) hb5) rfl rfl rfl (Y_move rfl rfl) ?_; clear hf; intro a hf
      refine sYg hf hs rfl rfl rfl (congrArg (fun b => some (Value.bool b)) hb5) rfl rfl rfl (Y_eql rfl rfl rfl) ?_; clear hf; intro a hf
      refine sY hf hs rfl rfl rfl (Y_pickF rfl (congrArg (fun b => some (Value.bool b)) hb5) rfl) ?_; clear hf; intro a hf
      refine wpO_nil ?_
      refine wpL_nil (then_normal ?_)
      exact ⟨(p1_b == (-1000000000000000)), Option.some.inj hj4, (FrD.pick (FrD.pick (FrD.pick hf.none hf rfl) hf rfl) hf rfl), hs⟩
  · rintro a w ⟨b2, hr_, hf, hs⟩
    subst hr_
    try dsimp only at hm
    refine wpL_cond hf rfl (fun hb6 => ?_) (fun hb6 => ?_)
    · have hm := bif_t hm hb6
      refine wpL_seq ?_
      refine wpL_region ?_
      refine sY hf hs rfl rfl rfl (Y_assign rfl rfl) ?_; clear hf; intro a hf
      refine wpO_nil ?_
      obtain rfl := Option.some.inj hm
      refine wpL_ret (ret_tmp rfl hf rfl ?_)
      exact ⟨_, rfl, rfl, hs⟩
    · have hm := bif_f hm hb6
      refine wpL_skip ?_
      refine wpL_seq ?_
      refine wpL_region ?_
      refine sY hf hs rfl rfl rfl (Y_move rfl rfl) ?_; clear hf; intro a hf
      refine sY hf hs rfl rfl rfl (Y_move rfl rfl) ?_; clear hf; intro a hf
      refine sY hf hs rfl rfl rfl (Y_add rfl rfl rfl) ?_; clear hf; intro a hf
      refine sY hf hs rfl rfl rfl (Y_assign rfl rfl) ?_; clear hf; intro a hf
      refine wpO_nil ?_
      obtain rfl := Option.some.inj hm
      refine wpL_ret (ret_tmp rfl hf rfl ?_)
      exact ⟨_, rfl, rfl, hs⟩

set_option maxRecDepth 100000 in
theorem spec_l24Dot_ok (F : Nat) (p0_c : List Int) (A_p0_c_1 : Option Addr) (n_p0_c_1 c_p0_c_1 : Nat) (hn_p0_c_1 : n_p0_c_1 = p0_c.length) (p1_x : List Int) (A_p1_x_1 : Option Addr) (n_p1_x_1 c_p1_x_1 : Nat) (hn_p1_x_1 : n_p1_x_1 = p1_x.length) (r : Int) (W : World) (hm : spec_l24Dot F p0_c p1_x = some r) (h_p0_c_1 : Rd W A_p0_c_1 (ints p0_c)) (h_p1_x_1 : Rd W A_p1_x_1 (ints p1_x)) :
    Calls Try.prog 73 [.slice A_p0_c_1 n_p0_c_1 c_p0_c_1, .slice A_p1_x_1 n_p1_x_1 c_p1_x_1].toArray W fun e w' => ∃ v, e = .returned v ∧ v = .int .i64 r ∧ St [] W w' [] := by
  subst hn_p0_c_1
  subst hn_p1_x_1
  unfold spec_l24Dot at hm
  refine Calls.enter (N := 25) Try.func73 rfl rfl rfl (fun a hf => ?_)
  have hs := St.start W
  obtain ⟨w, hw_⟩ : ∃ w, w = W := ⟨W, rfl⟩
  clear hw_ w
  refine wpL_seq ?_
  refine wpL_region ?_
  refine sY hf hs rfl rfl rfl (Y_assign rfl rfl) ?_; clear hf; intro a hf
  refine wpO_nil ?_
  refine wpL_seq ?_
  refine wpL_region ?_
  refine sY hf hs rfl rfl rfl (Y_assign rfl rfl) ?_; clear hf; intro a hf
  refine wpO_nil ?_
  refine wpL_seq ?_
  refine wpL_seq ?_
  refine wpL_region ?_
  refine sY hf hs rfl rfl rfl (Y_assign rfl rfl) ?_; clear hf; intro a hf
  refine wpO_nil ?_
  obtain ⟨r27, hl28, hm⟩ := bind_some hm
  refine wpL_block (fun a w => ∃ x26 : Int, x26 = r27 ∧ Fr a 25 [(5, .int .i64 x26)] ∧ St [] W w []) ?_ ?_
  · refine wpL_loop (fun n a w => ∃ x17 : Int, ∃ x18 : Int, spec_l24Dot_L1 F p0_c p1_x n x17 x18 = some r27 ∧ Fr a 25 [(0, .slice A_p0_c_1 p0_c.length c_p0_c_1), (1, .slice A_p1_x_1 p1_x.length c_p1_x_1), (5, .int .i64 x17), (6, .int .i64 x18)] ∧ St [] W w []) F ?_ ?_ ?_
    · exact ⟨(-1000000000000000), 0, hl28, (FrD.pick (FrD.pick (FrD.pick (FrD.pick hf.none hf rfl) hf rfl) hf rfl) hf rfl), hs⟩
    · rintro a w ⟨x17, x18, h0_, -, -⟩; simp [spec_l24Dot_L1] at h0_
    · rintro n30 a w ⟨x17, x18, hm29, hf, hs⟩
      rw [spec_l24Dot_L1] at hm29
      refine wpL_seq ?_
      refine wpL_seq ?_
      refine wpL_region ?_
      refine sY hf hs rfl rfl rfl (Y_move rfl rfl) ?_; clear hf; intro a hf
      refine sY hf hs rfl rfl rfl (Y_move rfl rfl) ?_; clear hf; intro a hf
      refine sY hf hs rfl rfl rfl (Y_lenH rfl rfl el23 rfl) ?_; clear hf; intro a hf
      refine sY hf hs rfl rfl rfl (Y_lss rfl rfl rfl) ?_; clear hf; intro a hf
      refine wpO_nil ?_
      refine wpL_cond hf rfl (fun hb31 => ?_) (fun hb31 => ?_)
      · have hm29 := bif_t hm29 hb31
        refine wpL_skip ?_
        refine wpL_seq ?_
        refine wpL_block0 ?_
        refine wpL_draw (by kernel_rfl) (by kernel_rfl) hs ?_
        refine qY hf rfl rfl rfl (Y_move rfl rfl) ?_; clear hf; intro a hf
        refine qY hf rfl rfl rfl (Y_move rfl rfl) ?_; clear hf; intro a hf
        refine qY hf rfl rfl rfl (Y_move rfl rfl) ?_; clear hf; intro a hf
        obtain ⟨q32, hi33, hm29⟩ := bind_some hm29
        obtain ⟨hi33a, hi33b, hi33q⟩ := idx_some hi33
        refine qY hf rfl rfl rfl (Y_index rfl rfl rfl el23 ti2 (Rd.isAt (h_p0_c_1.at hs) (at1 (ints_at hi33q))) hi33a hi33b) ?_; clear hf; intro a hf
        refine qY hf rfl rfl rfl (Y_load_rd rfl rfl (fun w hs => h_p0_c_1.at hs) (at1 (ints_at hi33q)) ag2) ?_; clear hf; intro a hf
        refine qY hf rfl rfl rfl (Y_move rfl rfl) ?_; clear hf; intro a hf
        refine qY hf rfl rfl rfl (Y_move rfl rfl) ?_; clear hf; intro a hf
        obtain ⟨q34, hi35, hm29⟩ := bind_some hm29
        obtain ⟨hi35a, hi35b, hi35q⟩ := idx_some hi35
        refine qY hf rfl rfl rfl (Y_index rfl rfl rfl el23 ti2 (Rd.isAt (h_p1_x_1.at hs) (at1 (ints_at hi35q))) hi35a hi35b) ?_; clear hf; intro a hf
        refine qY hf rfl rfl rfl (Y_load_rd rfl rfl (fun w hs => h_p1_x_1.at hs) (at1 (ints_at hi35q)) ag2) ?_; clear hf; intro a hf
        obtain ⟨r36, hc37, hm29⟩ := bind_some hm29
        refine qCall hf rfl rfl rfl rfl (cap := []) rfl rfl en154 (v := .int .i64 r36) (fun w hs => Calls.scal (spec_l01Times_ok F q32 q34 _ _ hc37)) ?_; clear hf; intro a hf
        refine qY hf rfl rfl rfl (Y_max rfl rfl rfl) ?_; clear hf; intro a hf
        refine qY hf rfl rfl rfl (Y_assign rfl rfl) ?_; clear hf; intro a hf
        refine qNil ?_; clear hs; intro w hs
        refine wpL_nil (Qb_normal ?_)
        refine wpL_region ?_
        refine sY hf hs rfl rfl rfl (Y_move rfl rfl) ?_; clear hf; intro a hf
        refine sY hf hs rfl rfl rfl (Y_add rfl rfl rfl) ?_; clear hf; intro a hf
        refine sY hf hs rfl rfl rfl (Y_assign rfl rfl) ?_; clear hf; intro a hf
        refine wpO_nil ?_
        refine wpL_nil (Ql_normal ?_)
        exact ⟨(max x17 r36), (IntKind.i64.wrap (x18 + 1)), hm29, (FrD.pick (FrD.pick (FrD.pick (FrD.pick hf.none hf rfl) hf rfl) hf rfl) hf rfl), hs⟩
      · have hm29 := bif_f hm29 hb31
        refine wpL_exit (Ql_exit (Qb_exit ?_))
        exact ⟨x17, Option.some.inj hm29, (FrD.pick hf.none hf rfl), hs⟩
  · rintro a w ⟨x26, hr_, hf, hs⟩
    subst hr_
    try dsimp only at hm
    refine wpL_seq ?_
    refine wpL_region ?_
    refine sY hf hs rfl rfl rfl (Y_move rfl rfl) ?_; clear hf; intro a hf
    refine sY hf hs rfl rfl rfl (Y_assign rfl rfl) ?_; clear hf; intro a hf
    refine wpO_nil ?_
    obtain rfl := Option.some.inj hm
    refine wpL_ret (ret_tmp rfl hf rfl ?_)
    exact ⟨_, rfl, rfl, hs⟩

set_option maxRecDepth 100000 in
theorem spec_l02Apply_ok (F : Nat) (p0_a : List (List Int)) (A_p0_a_1 : Option Addr) (n_p0_a_1 c_p0_a_1 : Nat) (hn_p0_a_1 : n_p0_a_1 = p0_a.length) (p1_x : List Int) (A_p1_x_1 : Option Addr) (n_p1_x_1 c_p1_x_1 : Nat) (hn_p1_x_1 : n_p1_x_1 = p1_x.length) (r : List Int) (W : World) (hm : spec_l02Apply F p0_a p1_x = some r) (h_p0_a_1 : RdM W A_p0_a_1 p0_a) (h_p1_x_1 : Rd W A_p1_x_1 (ints p1_x)) :
    Calls Try.prog 168 [.slice A_p0_a_1 n_p0_a_1 c_p0_a_1, .slice A_p1_x_1 n_p1_x_1 c_p1_x_1].toArray W fun e w' => ∃ v, e = .returned v ∧ ∃ A344, ∃ n345, ∃ c346, v = .slice A344 n345 c346 ∧ n345 = r.length ∧ St [] W w' [.row A344 n345 c346 2 1 (ints r)] := by
  subst hn_p0_a_1
  subst hn_p1_x_1
  unfold spec_l02Apply at hm
  refine Calls.enter (N := 41) Try.func168 rfl rfl rfl (fun a hf => ?_)
  have hs := St.start W
  obtain ⟨w, hw_⟩ : ∃ w, w = W := ⟨W, rfl⟩
  clear hw_ w
  refine wpL_seq ?_
  refine wpL_region ?_
  refine sY hf hs rfl rfl rfl (Y_assign rfl rfl) ?_; clear hf; intro a hf
  refine wpO_nil ?_
  refine wpL_seq ?_
  refine wpL_region ?_
  refine sEmpty hf hs rfl rfl rfl rfl el23 ti2 ?_; clear hf hs; intro a w A1 hs hf
  have hs : St [] W w [.row A1 0 0 2 1 (ints ([] : List Int))] := hs
  refine sY hf hs rfl rfl rfl (Y_assign rfl rfl) ?_; clear hf; intro a hf
  refine wpO_nil ?_
  refine wpL_seq ?_
  refine wpL_seq ?_
  refine wpL_region ?_
  refine sY hf hs rfl rfl rfl (Y_assign rfl rfl) ?_; clear hf; intro a hf
  refine wpO_nil ?_
  obtain ⟨r260, hl261, hm⟩ := bind_some hm
  refine wpL_block (fun a w => ∃ xs255 : List Int, ∃ A256, ∃ n257, ∃ c258, xs255 = r260 ∧ n257 = xs255.length ∧ Fr a 41 [(5, .slice A256 n257 c258)] ∧ St [] W w [.row A256 n257 c258 2 1 (ints xs255)]) ?_ ?_
  · refine wpL_loop (fun n a w => ∃ xs169 : List Int, ∃ x174 : Int, ∃ A170, ∃ n171, ∃ c172, spec_l02Apply_L4 F p0_a p1_x n xs169 x174 = some r260 ∧ n171 = xs169.length ∧ Fr a 41 [(0, .slice A_p0_a_1 p0_a.length c_p0_a_1), (1, .slice A_p1_x_1 p1_x.length c_p1_x_1), (5, .slice A170 n171 c172), (6, .int .i64 x174)] ∧ St [] W w [.row A170 n171 c172 2 1 (ints xs169)]) F ?_ ?_ ?_
    · exact ⟨([] : List Int), 0, A1, 0, 0, hl261, rfl, (FrD.pick (FrD.pick (FrD.pick (FrD.pick hf.none hf rfl) hf rfl) hf rfl) hf rfl), hs⟩
    · rintro a w ⟨xs169, x174, A170, n171, c172, h0_, -, -, -⟩; simp [spec_l02Apply_L4] at h0_
    · rintro n263 a w ⟨xs169, x174, A170, n171, c172, hm262, hn173, hf, hs⟩
      rw [spec_l02Apply_L4] at hm262
      refine wpL_seq ?_
      refine wpL_seq ?_
      refine wpL_region ?_
      refine sY hf hs rfl rfl rfl (Y_move rfl rfl) ?_; clear hf; intro a hf
      refine sY hf hs rfl rfl rfl (Y_move rfl rfl) ?_; clear hf; intro a hf
      refine sY hf hs rfl rfl rfl (Y_lenH rfl rfl el22 rfl) ?_; clear hf; intro a hf
      refine sY hf hs rfl rfl rfl (Y_lss rfl rfl rfl) ?_; clear hf; intro a hf
      refine wpO_nil ?_
      refine wpL_cond hf rfl (fun hb264 => ?_) (fun hb264 => ?_)
      · have hm262 := bif_t hm262 hb264
        refine wpL_skip ?_
        refine wpL_seq ?_
        refine wpL_block0 ?_
        refine wpL_seq ?_
        refine wpL_region ?_
        refine sY hf hs rfl rfl rfl (Y_assign rfl rfl) ?_; clear hf; intro a hf
        refine wpO_nil ?_
        refine wpL_seq ?_
        refine wpL_seq ?_
        refine wpL_region ?_
        refine sY hf hs rfl rfl rfl (Y_assign rfl rfl) ?_; clear hf; intro a hf
        refine wpO_nil ?_
        obtain ⟨r318, hl319, hm262⟩ := bind_some hm262
        refine wpL_block (fun a w => ∃ x317 : Int, x317 = r318 ∧ Fr a 41 [(0, .slice A_p0_a_1 p0_a.length c_p0_a_1), (1, .slice A_p1_x_1 p1_x.length c_p1_x_1), (5, .slice A170 n171 c172), (6, .int .i64 x174), (7, .int .i64 x317)] ∧ St [] W w [.row A170 n171 c172 2 1 (ints xs169)]) ?_ ?_
        · refine wpL_loop (fun n a w => ∃ x299 : Int, ∃ x300 : Int, spec_l02Apply_L5 F p0_a p1_x x174 n x299 x300 = some r318 ∧ Fr a 41 [(0, .slice A_p0_a_1 p0_a.length c_p0_a_1), (1, .slice A_p1_x_1 p1_x.length c_p1_x_1), (5, .slice A170 n171 c172), (6, .int .i64 x174), (7, .int .i64 x299), (8, .int .i64 x300)] ∧ St [] W w [.row A170 n171 c172 2 1 (ints xs169)]) F ?_ ?_ ?_
          · exact ⟨(-1000000000000000), 0, hl319, (FrD.pick (FrD.pick (FrD.pick (FrD.pick (FrD.pick (FrD.pick hf.none hf rfl) hf rfl) hf rfl) hf rfl) hf rfl) hf rfl), hs⟩
          · rintro a w ⟨x299, x300, h0_, -, -⟩; simp [spec_l02Apply_L5] at h0_
          · rintro n321 a w ⟨x299, x300, hm320, hf, hs⟩
            rw [spec_l02Apply_L5] at hm320
            refine wpL_seq ?_
            refine wpL_seq ?_
            refine wpL_region ?_
            refine sY hf hs rfl rfl rfl (Y_move rfl rfl) ?_; clear hf; intro a hf
            refine sY hf hs rfl rfl rfl (Y_move rfl rfl) ?_; clear hf; intro a hf
            refine sY hf hs rfl rfl rfl (Y_lenH rfl rfl el23 rfl) ?_; clear hf; intro a hf
            refine sY hf hs rfl rfl rfl (Y_lss rfl rfl rfl) ?_; clear hf; intro a hf
            refine wpO_nil ?_
            refine wpL_cond hf rfl (fun hb322 => ?_) (fun hb322 => ?_)
            · have hm320 := bif_t hm320 hb322
              refine wpL_skip ?_
              refine wpL_seq ?_
              refine wpL_block0 ?_
              refine wpL_draw (by kernel_rfl) (by kernel_rfl) hs ?_
              refine qY hf rfl rfl rfl (Y_move rfl rfl) ?_; clear hf; intro a hf
              refine qY hf rfl rfl rfl (Y_move rfl rfl) ?_; clear hf; intro a hf
              refine qY hf rfl rfl rfl (Y_move rfl rfl) ?_; clear hf; intro a hf
              obtain ⟨q323, hi324, hm320⟩ := bind_some hm320
              obtain ⟨hi324a, hi324b, hi324q⟩ := idx_some hi324
              obtain ⟨vs325, hv326, hr327⟩ := id h_p0_a_1
              obtain ⟨A328, c329, hv330, hR331⟩ := hr327 _ _ hi324q
              refine qY hf rfl rfl rfl (Y_index rfl rfl rfl el22 ti23 (Rd.isAt hv326 hv330) hi324a hi324b) ?_; clear hf; intro a hf
              refine qY hf rfl rfl rfl (Y_load_rd rfl rfl (fun w hs => hv326.at hs) (at1 hv330) ag23) ?_; clear hf; intro a hf
              refine qY hf rfl rfl rfl (Y_move rfl rfl) ?_; clear hf; intro a hf
              obtain ⟨q332, hi333, hm320⟩ := bind_some hm320
              obtain ⟨hi333a, hi333b, hi333q⟩ := idx_some hi333
              refine qY hf rfl rfl rfl (Y_index rfl rfl rfl el23 ti2 (Rd.isAt (hR331.at hs) (at1 (ints_at hi333q))) hi333a hi333b) ?_; clear hf; intro a hf
              refine qY hf rfl rfl rfl (Y_load_rd rfl rfl (fun w hs => hR331.at hs) (at1 (ints_at hi333q)) ag2) ?_; clear hf; intro a hf
              refine qY hf rfl rfl rfl (Y_move rfl rfl) ?_; clear hf; intro a hf
              refine qY hf rfl rfl rfl (Y_move rfl rfl) ?_; clear hf; intro a hf
              obtain ⟨q334, hi335, hm320⟩ := bind_some hm320
              obtain ⟨hi335a, hi335b, hi335q⟩ := idx_some hi335
              refine qY hf rfl rfl rfl (Y_index rfl rfl rfl el23 ti2 (Rd.isAt (h_p1_x_1.at hs) (at1 (ints_at hi335q))) hi335a hi335b) ?_; clear hf; intro a hf
              refine qY hf rfl rfl rfl (Y_load_rd rfl rfl (fun w hs => h_p1_x_1.at hs) (at1 (ints_at hi335q)) ag2) ?_; clear hf; intro a hf
              obtain ⟨r336, hc337, hm320⟩ := bind_some hm320
              refine qCall hf rfl rfl rfl rfl (cap := []) rfl rfl en154 (v := .int .i64 r336) (fun w hs => Calls.scal (spec_l01Times_ok F q332 q334 _ _ hc337)) ?_; clear hf; intro a hf
              refine qY hf rfl rfl rfl (Y_max rfl rfl rfl) ?_; clear hf; intro a hf
              refine qY hf rfl rfl rfl (Y_assign rfl rfl) ?_; clear hf; intro a hf
              refine qNil ?_; clear hs; intro w hs
              refine wpL_nil (Qb_normal ?_)
              refine wpL_region ?_
              refine sY hf hs rfl rfl rfl (Y_move rfl rfl) ?_; clear hf; intro a hf
              refine sY hf hs rfl rfl rfl (Y_add rfl rfl rfl) ?_; clear hf; intro a hf
              refine sY hf hs rfl rfl rfl (Y_assign rfl rfl) ?_; clear hf; intro a hf
              refine wpO_nil ?_
              refine wpL_nil (Ql_normal ?_)
              exact ⟨(max x299 r336), (IntKind.i64.wrap (x300 + 1)), hm320, (FrD.pick (FrD.pick (FrD.pick (FrD.pick (FrD.pick (FrD.pick hf.none hf rfl) hf rfl) hf rfl) hf rfl) hf rfl) hf rfl), hs⟩
            · have hm320 := bif_f hm320 hb322
              refine wpL_exit (Ql_exit (Qb_exit ?_))
              exact ⟨x299, Option.some.inj hm320, (FrD.pick (FrD.pick (FrD.pick (FrD.pick (FrD.pick hf.none hf rfl) hf rfl) hf rfl) hf rfl) hf rfl), hs⟩
        · rintro a w ⟨x317, hr_, hf, hs⟩
          subst hr_
          try dsimp only at hm262
          refine wpL_region ?_
          refine sY hf hs rfl rfl rfl (Y_move rfl rfl) ?_; clear hf; intro a hf
          refine sY hf hs rfl rfl rfl (Y_move rfl rfl) ?_; clear hf; intro a hf
          refine sBuildSlice (parts := [(0, .tmp 37)]) (vs := [.int .i64 x317]) (cells := [.int .i64 x317]) hf hs rfl rfl rfl rfl rfl el23 ti2 rfl rfl rfl rfl ?_; clear hf hs; intro a w A338 hs hA339 hf
          have hs : St [] W w [.row A170 n171 c172 2 1 (ints xs169), .row A338 1 1 2 1 (ints ([x317]))] := hs
          obtain ⟨xs342, ha343, hm262⟩ := bind_some hm262
          refine sAppendL (i := 0) (xs := xs169) (ys := [x317]) (enc := ints) hf hs rfl rfl rfl rfl rfl rfl hn173 rfl rfl ha343 el23 ti2 rfl rfl rfl (hs.rd (i := 1) rfl) (Nat.succ_pos _) ints_len1 ints_append ints_one ?_; clear hf hs; intro a w A340 c341 hs hf
          have hs : St [] W w [.row A340 xs342.length c341 2 1 (ints xs342), .row A338 1 1 2 1 (ints ([x317]))] := hs
          refine sY hf hs rfl rfl rfl (Y_assign rfl rfl) ?_; clear hf; intro a hf
          refine wpO_nil ?_
          refine wpL_nil (Qb_normal ?_)
          refine wpL_region ?_
          refine sY hf hs rfl rfl rfl (Y_move rfl rfl) ?_; clear hf; intro a hf
          refine sY hf hs rfl rfl rfl (Y_add rfl rfl rfl) ?_; clear hf; intro a hf
          refine sY hf hs rfl rfl rfl (Y_assign rfl rfl) ?_; clear hf; intro a hf
          refine wpO_nil ?_
          refine wpL_nil (Ql_normal ?_)
          exact ⟨xs342, (IntKind.i64.wrap (x174 + 1)), A340, xs342.length, c341, hm262, rfl, (FrD.pick (FrD.pick (FrD.pick (FrD.pick hf.none hf rfl) hf rfl) hf rfl) hf rfl), hs.sel [0] (by decide)⟩
      · have hm262 := bif_f hm262 hb264
        refine wpL_exit (Ql_exit (Qb_exit ?_))
        exact ⟨xs169, A170, n171, c172, Option.some.inj hm262, hn173, (FrD.pick hf.none hf rfl), hs⟩
  · rintro a w ⟨xs255, A256, n257, c258, hr_, hn259, hf, hs⟩
    subst hr_
    try dsimp only at hm
    refine wpL_seq ?_
    refine wpL_region ?_
    refine sY hf hs rfl rfl rfl (Y_move rfl rfl) ?_; clear hf; intro a hf
    refine sY hf hs rfl rfl rfl (Y_assign rfl rfl) ?_; clear hf; intro a hf
    refine wpO_nil ?_
    obtain rfl := Option.some.inj hm
    refine wpL_ret (ret_tmp rfl hf rfl ?_)
    exact ⟨_, rfl, A256, n257, c258, rfl, hn259, hs⟩

set_option maxRecDepth 100000 in
theorem spec_l24Response_ok (F : Nat) (p0_s : GSystem) (A_p0_s_1 : Option Addr) (n_p0_s_1 c_p0_s_1 : Nat) (hn_p0_s_1 : n_p0_s_1 = p0_s.A.length) (A_p0_s_2 : Option Addr) (n_p0_s_2 c_p0_s_2 : Nat) (hn_p0_s_2 : n_p0_s_2 = p0_s.B.length) (A_p0_s_3 : Option Addr) (n_p0_s_3 c_p0_s_3 : Nat) (hn_p0_s_3 : n_p0_s_3 = p0_s.C.length) (p1_n : Int) (r : List Int × Bool) (W : World) (hm : spec_l24Response F p0_s p1_n = some r) (h_p0_s_1 : RdM W A_p0_s_1 p0_s.A) (h_p0_s_2 : Rd W A_p0_s_2 (ints p0_s.B)) (h_p0_s_3 : Rd W A_p0_s_3 (ints p0_s.C)) :
    Calls Try.prog 116 [.agg #[.slice A_p0_s_1 n_p0_s_1 c_p0_s_1, .slice A_p0_s_2 n_p0_s_2 c_p0_s_2, .slice A_p0_s_3 n_p0_s_3 c_p0_s_3], .int .i64 p1_n].toArray W fun e w' => ∃ v, e = .returned v ∧ ∃ A165, ∃ n166, ∃ c167, v = .tuple #[.slice A165 n166 c167, .bool r.2] ∧ n166 = r.1.length ∧ St [] W w' [.row A165 n166 c167 2 1 (ints r.1)] := by
  subst hn_p0_s_1
  subst hn_p0_s_2
  subst hn_p0_s_3
  unfold spec_l24Response at hm
  refine Calls.enter (N := 39) Try.func116 rfl rfl rfl (fun a hf => ?_)
  have hs := St.start W
  obtain ⟨w, hw_⟩ : ∃ w, w = W := ⟨W, rfl⟩
  clear hw_ w
  refine wpL_seq ?_
  refine wpL_region ?_
  refine sBox hf hs rfl rfl rfl rfl rfl (cs := [.slice A_p0_s_1 p0_s.A.length c_p0_s_1, .slice A_p0_s_2 p0_s.B.length c_p0_s_2, .slice A_p0_s_3 p0_s.C.length c_p0_s_3]) rfl ?_; clear hf hs; intro a w b1 hs hf
  have hs : St [] W w [.blk b1 27 [.slice A_p0_s_1 p0_s.A.length c_p0_s_1, .slice A_p0_s_2 p0_s.B.length c_p0_s_2, .slice A_p0_s_3 p0_s.C.length c_p0_s_3]] := hs
  refine sY hf hs rfl rfl rfl (Y_assign rfl rfl) ?_; clear hf; intro a hf
  refine sY hf hs rfl rfl rfl (Y_assign rfl rfl) ?_; clear hf; intro a hf
  refine wpO_nil ?_
  refine wpL_seq ?_
  refine wpL_region ?_
  refine sEmpty hf hs rfl rfl rfl rfl el23 ti2 ?_; clear hf hs; intro a w A2 hs hf
  have hs : St [] W w [.blk b1 27 [.slice A_p0_s_1 p0_s.A.length c_p0_s_1, .slice A_p0_s_2 p0_s.B.length c_p0_s_2, .slice A_p0_s_3 p0_s.C.length c_p0_s_3], .row A2 0 0 2 1 (ints ([] : List Int))] := hs
  refine sY hf hs rfl rfl rfl (Y_assign rfl rfl) ?_; clear hf; intro a hf
  refine wpO_nil ?_
  refine wpL_seq ?_
  refine wpL_region ?_
  refine sY hf hs rfl rfl rfl (Y_fieldAddr rfl rfl fo27_1) ?_; clear hf; intro a hf
  refine sY hf hs rfl rfl rfl (Y_load_blk rfl rfl (i := 0) rfl rfl ag23) ?_; clear hf; intro a hf
  refine sY hf hs rfl rfl rfl (Y_assign rfl rfl) ?_; clear hf; intro a hf
  refine wpO_nil ?_
  refine wpL_seq ?_
  refine wpL_seq ?_
  refine wpL_region ?_
  refine sY hf hs rfl rfl rfl (Y_assign rfl rfl) ?_; clear hf; intro a hf
  refine wpO_nil ?_
  obtain ⟨r130, hl131, hm⟩ := bind_some hm
  have hs : St [] W _ [.blk b1 27 [.slice A_p0_s_1 p0_s.A.length c_p0_s_1, .slice A_p0_s_2 p0_s.B.length c_p0_s_2, .slice A_p0_s_3 p0_s.C.length c_p0_s_3], .row A2 0 0 2 1 (ints ([] : List Int)), .row none 0 0 2 1 (ints ([] : List Int))] := hs.addNil 2 1
  refine wpL_block (fun a w => ∃ xs125 : List Int, ∃ A126, ∃ n127, ∃ c128, Sum.inr xs125 = r130 ∧ n127 = xs125.length ∧ Fr a 39 [(6, .slice A126 n127 c128)] ∧ St [] W w [.row A126 n127 c128 2 1 (ints xs125)]) ?_ ?_
  · refine wpL_loop (fun n a w => ∃ xs79 : List Int, ∃ xs84 : List Int, ∃ x95 : Int, ∃ A80, ∃ n81, ∃ c82, ∃ A85, ∃ n86, ∃ c87, ∃ A88, ∃ n89, ∃ c90, ∃ ys91 : List Int, spec_l24Response_L1 F p0_s p1_n n xs79 xs84 x95 = some r130 ∧ n81 = xs79.length ∧ n86 = xs84.length ∧ Ei A_p0_s_2 p0_s.B.length c_p0_s_2 p0_s.B A88 n89 c90 ys91 A85 n86 c87 xs84 ∧ Fr a 39 [(1, .int .i64 p1_n), (2, .pointer (some ⟨b1, 0, none⟩)), (6, .slice A80 n81 c82), (7, .slice A85 n86 c87), (8, .int .i64 x95)] ∧ St [] W w [.blk b1 27 [.slice A_p0_s_1 p0_s.A.length c_p0_s_1, .slice A_p0_s_2 p0_s.B.length c_p0_s_2, .slice A_p0_s_3 p0_s.C.length c_p0_s_3], .row A80 n81 c82 2 1 (ints xs79), .row A88 n89 c90 2 1 (ints ys91)]) F ?_ ?_ ?_
    · exact ⟨([] : List Int), p0_s.B, 0, A2, 0, 0, A_p0_s_2, p0_s.B.length, c_p0_s_2, none, 0, 0, ([] : List Int), hl131, rfl, rfl, (.inl ⟨rfl, rfl, rfl, rfl⟩), (FrD.pick (FrD.pick (FrD.pick (FrD.pick (FrD.pick hf.none hf rfl) hf rfl) hf rfl) hf rfl) hf rfl), hs⟩
    · rintro a w ⟨xs79, xs84, x95, A80, n81, c82, A85, n86, c87, A88, n89, c90, ys91, h0_, -, -, -, -, -⟩; simp [spec_l24Response_L1] at h0_
    · rintro n133 a w ⟨xs79, xs84, x95, A80, n81, c82, A85, n86, c87, A88, n89, c90, ys91, hm132, hn83, hn93, hg92, hf, hs⟩
      rw [spec_l24Response_L1] at hm132
      refine wpL_seq ?_
      refine wpL_seq ?_
      refine wpL_region ?_
      refine sY hf hs rfl rfl rfl (Y_move rfl rfl) ?_; clear hf; intro a hf
      refine sY hf hs rfl rfl rfl (Y_move rfl rfl) ?_; clear hf; intro a hf
      refine sY hf hs rfl rfl rfl (Y_lss rfl rfl rfl) ?_; clear hf; intro a hf
      refine wpO_nil ?_
      refine wpL_cond hf rfl (fun hb134 => ?_) (fun hb134 => ?_)
      · have hm132 := bif_t hm132 hb134
        refine wpL_skip ?_
        refine wpL_seq ?_
        refine wpL_block0 ?_
        refine wpL_seq ?_
        refine wpL_region ?_
        refine sY hf hs rfl rfl rfl (Y_fieldAddr rfl rfl fo27_2) ?_; clear hf; intro a hf
        refine sY hf hs rfl rfl rfl (Y_load_blk rfl rfl (i := 0) rfl rfl ag23) ?_; clear hf; intro a hf
        refine sY hf hs rfl rfl rfl (Y_move rfl rfl) ?_; clear hf; intro a hf
        obtain ⟨r135, hc136, hm132⟩ := bind_some hm132
        refine sCall hf rfl rfl rfl rfl (cap := []) rfl rfl en73 (spec_l24Dot_ok F p0_s.C A_p0_s_3 p0_s.C.length c_p0_s_3 rfl xs84 A85 n86 c87 hn93 _ _ hc136 (h_p0_s_3.at hs) (rdEither (Ei.rd (enc := ints) h_p0_s_2 hg92) hs (hs.rd (i := 2) rfl))) ?_; clear hf
        rintro _ w ⟨rfl, hs1⟩ a hf
        have hs : St [] W w [.blk b1 27 [.slice A_p0_s_1 p0_s.A.length c_p0_s_1, .slice A_p0_s_2 p0_s.B.length c_p0_s_2, .slice A_p0_s_3 p0_s.C.length c_p0_s_3], .row A80 n81 c82 2 1 (ints xs79), .row A88 n89 c90 2 1 (ints ys91)] := hs.ext hs1.below
        clear hs1
        refine sY hf hs rfl rfl rfl (Y_assign rfl rfl) ?_; clear hf; intro a hf
        refine wpO_nil ?_
        refine wpL_seq ?_
        refine wpL_seq ?_
        obtain ⟨r143, hj144, hm132⟩ := bind_some hm132
        refine wpL_cut (fun a w => ∃ b142 : Bool, b142 = r143 ∧ Fr a 39 [(1, .int .i64 p1_n), (2, .pointer (some ⟨b1, 0, none⟩)), (6, .slice A80 n81 c82), (7, .slice A85 n86 c87), (8, .int .i64 x95), (9, .int .i64 r135), (29, .bool b142)] ∧ St [] W w [.blk b1 27 [.slice A_p0_s_1 p0_s.A.length c_p0_s_1, .slice A_p0_s_2 p0_s.B.length c_p0_s_2, .slice A_p0_s_3 p0_s.C.length c_p0_s_3], .row A80 n81 c82 2 1 (ints xs79), .row A88 n89 c90 2 1 (ints ys91)]) ?_ ?_
        · refine wpL_region ?_
          refine sY hf hs rfl rfl rfl (Y_move rfl rfl) ?_; clear hf; intro a hf
          obtain ⟨r145, hc146, hj144⟩ := bind_some hj144
          refine sCall hf rfl rfl rfl rfl (cap := []) rfl rfl en124 (spec_l01All_ok F xs84 A85 n86 c87 hn93 false _ _ hc146 (rdEither (Ei.rd (enc := ints) h_p0_s_2 hg92) hs (hs.rd (i := 2) rfl))) ?_; clear hf
          rintro _ w ⟨rfl, hs1⟩ a hf
          have hs : St [] W w [.blk b1 27 [.slice A_p0_s_1 p0_s.A.length c_p0_s_1, .slice A_p0_s_2 p0_s.B.length c_p0_s_2, .slice A_p0_s_3 p0_s.C.length c_p0_s_3], .row A80 n81 c82 2 1 (ints xs79), .row A88 n89 c90 2 1 (ints ys91)] := hs.ext hs1.below
          clear hs1
          refine sY hf hs rfl rfl rfl (Y_not rfl rfl) ?_; clear hf; intro a hf
          refine sY hf hs rfl rfl rfl (Y_move rfl rfl) ?_; clear hf; intro a hf
          refine bsplit (!r145) (fun hb147 => ?_) (fun hb147 => ?_)
          · have hj144 := bif_t hj144 hb147
            refine sNo hf rfl rfl rfl (congrArg (fun b => some (Value.bool b)) hb147) rfl rfl rfl ?_; clear hf; intro a hf
            refine sNo hf rfl rfl rfl (congrArg (fun b => some (Value.bool b)) hb147) rfl rfl rfl ?_; clear hf; intro a hf
            refine sNo hf rfl rfl rfl (congrArg (fun b => some (Value.bool b)) hb147) rfl rfl rfl ?_; clear hf; intro a hf
            refine sY hf hs rfl rfl rfl (Y_pickT rfl (congrArg (fun b => some (Value.bool b)) hb147) rfl) ?_; clear hf; intro a hf
            refine wpO_nil ?_
            refine wpL_nil (then_normal ?_)
            exact ⟨true, Option.some.inj hj144, (FrD.pick (FrD.pick (FrD.pick (FrD.pick (FrD.pick (FrD.pick (FrD.pick hf.none hf rfl) hf rfl) hf rfl) hf rfl) hf rfl) hf rfl) hf rfl), hs⟩
          · have hj144 := bif_f hj144 hb147
            refine sYg hf hs rfl rfl rfl (congrArg (fun b => some (Value.bool b)) hb147) rfl rfl rfl (Y_move rfl rfl) ?_; clear hf; intro a hf
            obtain ⟨r148, hc149, hj144⟩ := bind_some hj144
            refine sCallg hf rfl rfl rfl (congrArg (fun b => some (Value.bool b)) hb147) rfl rfl rfl rfl (cap := []) rfl rfl en77 (spec_IsValue_ok F r135 _ _ hc149) ?_; clear hf
            rintro _ w ⟨rfl, hs1⟩ a hf
            have hs : St [] W w [.blk b1 27 [.slice A_p0_s_1 p0_s.A.length c_p0_s_1, .slice A_p0_s_2 p0_s.B.length c_p0_s_2, .slice A_p0_s_3 p0_s.C.length c_p0_s_3], .row A80 n81 c82 2 1 (ints xs79), .row A88 n89 c90 2 1 (ints ys91)] := hs.ext hs1.below
            clear hs1
            refine sYg hf hs rfl rfl rfl (congrArg (fun b => some (Value.bool b)) hb147) rfl rfl rfl (Y_not rfl rfl) ?_; clear hf; intro a hf
            refine sY hf hs rfl rfl rfl (Y_pickF rfl (congrArg (fun b => some (Value.bool b)) hb147) rfl) ?_; clear hf; intro a hf
            refine wpO_nil ?_
            refine wpL_nil (then_normal ?_)
            exact ⟨(!r148), Option.some.inj hj144, (FrD.pick (FrD.pick (FrD.pick (FrD.pick (FrD.pick (FrD.pick (FrD.pick hf.none hf rfl) hf rfl) hf rfl) hf rfl) hf rfl) hf rfl) hf rfl), hs⟩
        · rintro a w ⟨b142, hr_, hf, hs⟩
          subst hr_
          try dsimp only at hm132
          refine wpL_cond hf rfl (fun hb150 => ?_) (fun hb150 => ?_)
          · have hm132 := bif_t hm132 hb150
            refine wpL_seq ?_
            refine wpL_region ?_
            refine sY hf hs rfl rfl rfl (Y_assign rfl rfl) ?_; clear hf; intro a hf
            refine sY hf hs rfl rfl rfl (Y_assign rfl rfl) ?_; clear hf; intro a hf
            refine wpO_nil ?_
            have hs : St [] W _ [.blk b1 27 [.slice A_p0_s_1 p0_s.A.length c_p0_s_1, .slice A_p0_s_2 p0_s.B.length c_p0_s_2, .slice A_p0_s_3 p0_s.C.length c_p0_s_3], .row A80 n81 c82 2 1 (ints xs79), .row A88 n89 c90 2 1 (ints ys91), .row none 0 0 2 1 (ints ([] : List Int))] := hs.addNil 2 1
            obtain rfl := Option.some.inj hm132
            try dsimp only at hm
            obtain rfl := Option.some.inj hm
            refine wpL_ret (Qb_ret (Ql_ret (Qb_ret (ret_tmp2 rfl hf rfl rfl ?_))))
            exact ⟨_, rfl, none, 0, 0, rfl, rfl, hs.sel [3] (by decide)⟩
          · have hm132 := bif_f hm132 hb150
            refine wpL_skip ?_
            refine wpL_seq ?_
            refine wpL_region ?_
            refine sY hf hs rfl rfl rfl (Y_move rfl rfl) ?_; clear hf; intro a hf
            refine sY hf hs rfl rfl rfl (Y_move rfl rfl) ?_; clear hf; intro a hf
            refine sBuildSlice (parts := [(0, .tmp 31)]) (vs := [.int .i64 r135]) (cells := [.int .i64 r135]) hf hs rfl rfl rfl rfl rfl el23 ti2 rfl rfl rfl rfl ?_; clear hf hs; intro a w A152 hs hA153 hf
            have hs : St [] W w [.blk b1 27 [.slice A_p0_s_1 p0_s.A.length c_p0_s_1, .slice A_p0_s_2 p0_s.B.length c_p0_s_2, .slice A_p0_s_3 p0_s.C.length c_p0_s_3], .row A80 n81 c82 2 1 (ints xs79), .row A88 n89 c90 2 1 (ints ys91), .row A152 1 1 2 1 (ints ([r135]))] := hs
            obtain ⟨xs156, ha157, hm132⟩ := bind_some hm132
            refine sAppendL (i := 1) (xs := xs79) (ys := [r135]) (enc := ints) hf hs rfl rfl rfl rfl rfl rfl hn83 rfl rfl ha157 el23 ti2 rfl rfl rfl (hs.rd (i := 3) rfl) (Nat.succ_pos _) ints_len1 ints_append ints_one ?_; clear hf hs; intro a w A154 c155 hs hf
            have hs : St [] W w [.blk b1 27 [.slice A_p0_s_1 p0_s.A.length c_p0_s_1, .slice A_p0_s_2 p0_s.B.length c_p0_s_2, .slice A_p0_s_3 p0_s.C.length c_p0_s_3], .row A154 xs156.length c155 2 1 (ints xs156), .row A88 n89 c90 2 1 (ints ys91), .row A152 1 1 2 1 (ints ([r135]))] := hs
            refine sY hf hs rfl rfl rfl (Y_assign rfl rfl) ?_; clear hf; intro a hf
            refine wpO_nil ?_
            refine wpL_region ?_
            refine sY hf hs rfl rfl rfl (Y_fieldAddr rfl rfl fo27_0) ?_; clear hf; intro a hf
            refine sY hf hs rfl rfl rfl (Y_load_blk rfl rfl (i := 0) rfl rfl ag22) ?_; clear hf; intro a hf
            refine sY hf hs rfl rfl rfl (Y_move rfl rfl) ?_; clear hf; intro a hf
            obtain ⟨r158, hc159, hm132⟩ := bind_some hm132
            refine sCall hf rfl rfl rfl rfl (cap := []) rfl rfl en168 (spec_l02Apply_ok F p0_s.A A_p0_s_1 p0_s.A.length c_p0_s_1 rfl xs84 A85 n86 c87 hn93 _ _ hc159 (h_p0_s_1.at hs) (rdEither (Ei.rd (enc := ints) h_p0_s_2 hg92) hs (hs.rd (i := 2) rfl))) ?_; clear hf
            rintro _ w ⟨A160, n161, c162, rfl, hn163, hs1⟩ a hf
            have hs : St [] W w [.blk b1 27 [.slice A_p0_s_1 p0_s.A.length c_p0_s_1, .slice A_p0_s_2 p0_s.B.length c_p0_s_2, .slice A_p0_s_3 p0_s.C.length c_p0_s_3], .row A154 xs156.length c155 2 1 (ints xs156), .row A88 n89 c90 2 1 (ints ys91), .row A152 1 1 2 1 (ints ([r135])), .row A160 n161 c162 2 1 (ints r158)] := hs.join hs1
            clear hs1
            refine sY hf hs rfl rfl rfl (Y_assign rfl rfl) ?_; clear hf; intro a hf
            refine wpO_nil ?_
            refine wpL_nil (Qb_normal ?_)
            refine wpL_region ?_
            refine sY hf hs rfl rfl rfl (Y_move rfl rfl) ?_; clear hf; intro a hf
            refine sY hf hs rfl rfl rfl (Y_add rfl rfl rfl) ?_; clear hf; intro a hf
            refine sY hf hs rfl rfl rfl (Y_assign rfl rfl) ?_; clear hf; intro a hf
            refine wpO_nil ?_
            refine wpL_nil (Ql_normal ?_)
            exact ⟨xs156, r158, (IntKind.i64.wrap (x95 + 1)), A154, xs156.length, c155, A160, n161, c162, A160, n161, c162, r158, hm132, rfl, hn163, (.inr ⟨rfl, rfl, rfl, rfl⟩), (FrD.pick (FrD.pick (FrD.pick (FrD.pick (FrD.pick hf.none hf rfl) hf rfl) hf rfl) hf rfl) hf rfl), hs.sel [0, 1, 4] (by decide)⟩
      · have hm132 := bif_f hm132 hb134
        refine wpL_exit (Ql_exit (Qb_exit ?_))
        exact ⟨xs79, A80, n81, c82, Option.some.inj hm132, hn83, (FrD.pick hf.none hf rfl), hs.sel [1] (by decide)⟩
  · rintro a w ⟨xs125, A126, n127, c128, hr_, hn129, hf, hs⟩
    subst hr_
    try dsimp only at hm
    refine wpL_seq ?_
    refine wpL_region ?_
    refine sY hf hs rfl rfl rfl (Y_move rfl rfl) ?_; clear hf; intro a hf
    refine sY hf hs rfl rfl rfl (Y_assign rfl rfl) ?_; clear hf; intro a hf
    refine sY hf hs rfl rfl rfl (Y_assign rfl rfl) ?_; clear hf; intro a hf
    refine wpO_nil ?_
    obtain rfl := Option.some.inj hm
    refine wpL_ret (ret_tmp2 rfl hf rfl rfl ?_)
    exact ⟨_, rfl, A126, n127, c128, rfl, hn129, hs⟩

set_option maxHeartbeats 2000000 in
set_option maxRecDepth 100000 in
theorem spec_LatestInputs_ok (F : Nat) (p0 : GSystem) (A_p0_1 : Option Addr) (n_p0_1 c_p0_1 : Nat) (hn_p0_1 : n_p0_1 = p0.A.length) (A_p0_2 : Option Addr) (n_p0_2 c_p0_2 : Nat) (hn_p0_2 : n_p0_2 = p0.B.length) (A_p0_3 : Option Addr) (n_p0_3 c_p0_3 : Nat) (hn_p0_3 : n_p0_3 = p0.C.length) (p1 : List Int) (A_p1_1 : Option Addr) (n_p1_1 c_p1_1 : Nat) (hn_p1_1 : n_p1_1 = p1.length) (r : List Int × Int) (W : World) (hm : spec_LatestInputs F p0 p1 = some r) (h_p0_1 : RdM W A_p0_1 p0.A) (h_p0_2 : Rd W A_p0_2 (ints p0.B)) (h_p0_3 : Rd W A_p0_3 (ints p0.C)) (h_p1_1 : Rd W A_p1_1 (ints p1)) :
    Calls Try.prog 37 [.agg #[.slice A_p0_1 n_p0_1 c_p0_1, .slice A_p0_2 n_p0_2 c_p0_2, .slice A_p0_3 n_p0_3 c_p0_3], .slice A_p1_1 n_p1_1 c_p1_1].toArray W fun e w' => ∃ v, e = .returned v ∧ ∃ A264, ∃ n265, ∃ c266, v = .tuple #[.slice A264 n265 c266, .int .i64 r.2] ∧ n265 = r.1.length ∧ St [] W w' [.row A264 n265 c266 2 1 (ints r.1)] := by
  subst hn_p0_1
  subst hn_p0_2
  subst hn_p0_3
  subst hn_p1_1
  unfold spec_LatestInputs at hm
  refine Calls.enter (N := 87) Try.func37 rfl rfl rfl (fun a hf => ?_)
  have hs := St.start W
  obtain ⟨w, hw_⟩ : ∃ w, w = W := ⟨W, rfl⟩
  clear hw_ w
  refine wpL_seq ?_
  refine wpL_region ?_
  refine sBox hf hs rfl rfl rfl rfl rfl (cs := [.slice A_p0_1 p0.A.length c_p0_1, .slice A_p0_2 p0.B.length c_p0_2, .slice A_p0_3 p0.C.length c_p0_3]) rfl ?_; clear hf hs; intro a w b1 hs hf
  have hs : St [] W w [.blk b1 27 [.slice A_p0_1 p0.A.length c_p0_1, .slice A_p0_2 p0.B.length c_p0_2, .slice A_p0_3 p0.C.length c_p0_3]] := hs
  refine sY hf hs rfl rfl rfl (Y_assign rfl rfl) ?_; clear hf; intro a hf
  refine sY hf hs rfl rfl rfl (Y_assign rfl rfl) ?_; clear hf; intro a hf
  refine wpO_nil ?_
  refine wpL_seq ?_
  refine wpL_block0 ?_
  refine wpL_seq ?_
  obtain ⟨r8, hj9, hm⟩ := bind_some hm
  refine wpL_cut (fun a w => ∃ b7 : Bool, b7 = r8 ∧ Fr a 87 [(1, .slice A_p1_1 p1.length c_p1_1), (2, .pointer (some ⟨b1, 0, none⟩)), (13, .bool b7)] ∧ St [] W w [.blk b1 27 [.slice A_p0_1 p0.A.length c_p0_1, .slice A_p0_2 p0.B.length c_p0_2, .slice A_p0_3 p0.C.length c_p0_3]]) ?_ ?_
  · refine wpL_region ?_
    refine sY hf hs rfl rfl rfl (Y_load_blkS rfl rfl (i := 0) rfl ag27 ti27 rfl) ?_; clear hf; intro a hf
    obtain ⟨r10, hc11, hj9⟩ := bind_some hj9
    refine sCall hf rfl rfl rfl rfl (cap := []) rfl rfl en32 (spec_IsSystem_ok F p0 A_p0_1 p0.A.length c_p0_1 rfl A_p0_2 p0.B.length c_p0_2 rfl A_p0_3 p0.C.length c_p0_3 rfl _ _ hc11 (h_p0_1.at hs) (h_p0_2.at hs) (h_p0_3.at hs)) ?_; clear hf
    rintro _ w ⟨rfl, hs1⟩ a hf
    have hs : St [] W w [.blk b1 27 [.slice A_p0_1 p0.A.length c_p0_1, .slice A_p0_2 p0.B.length c_p0_2, .slice A_p0_3 p0.C.length c_p0_3]] := hs.ext hs1.below
    clear hs1
    refine sY hf hs rfl rfl rfl (Y_not rfl rfl) ?_; clear hf; intro a hf
    refine sY hf hs rfl rfl rfl (Y_move rfl rfl) ?_; clear hf; intro a hf
    refine bsplit (!r10) (fun hb12 => ?_) (fun hb12 => ?_)
    · have hj9 := bif_t hj9 hb12
      refine sNo hf rfl rfl rfl (congrArg (fun b => some (Value.bool b)) hb12) rfl rfl rfl ?_; clear hf; intro a hf
      refine sNo hf rfl rfl rfl (congrArg (fun b => some (Value.bool b)) hb12) rfl rfl rfl ?_; clear hf; intro a hf
      refine sNo hf rfl rfl rfl (congrArg (fun b => some (Value.bool b)) hb12) rfl rfl rfl ?_; clear hf; intro a hf
      refine sY hf hs rfl rfl rfl (Y_pickT rfl (congrArg (fun b => some (Value.bool b)) hb12) rfl) ?_; clear hf; intro a hf
      refine sY hf hs rfl rfl rfl (Y_assign rfl rfl) ?_; clear hf; intro a hf
      refine wpO_nil ?_
      refine wpL_nil (then_normal ?_)
      exact ⟨true, Option.some.inj hj9, (FrD.pick (FrD.pick (FrD.pick hf.none hf rfl) hf rfl) hf rfl), hs⟩
    · have hj9 := bif_f hj9 hb12
      refine sYg hf hs rfl rfl rfl (congrArg (fun b => some (Value.bool b)) hb12) rfl rfl rfl (Y_move rfl rfl) ?_; clear hf; intro a hf
      obtain ⟨r13, hc14, hj9⟩ := bind_some hj9
      refine sCallg hf rfl rfl rfl (congrArg (fun b => some (Value.bool b)) hb12) rfl rfl rfl rfl (cap := []) rfl rfl en123 (spec_l24Inputs_ok F p1 A_p1_1 p1.length c_p1_1 rfl true _ _ hc14 (h_p1_1.at hs)) ?_; clear hf
      rintro _ w ⟨rfl, hs1⟩ a hf
      have hs : St [] W w [.blk b1 27 [.slice A_p0_1 p0.A.length c_p0_1, .slice A_p0_2 p0.B.length c_p0_2, .slice A_p0_3 p0.C.length c_p0_3]] := hs.ext hs1.below
      clear hs1
      refine sYg hf hs rfl rfl rfl (congrArg (fun b => some (Value.bool b)) hb12) rfl rfl rfl (Y_not rfl rfl) ?_; clear hf; intro a hf
      refine sY hf hs rfl rfl rfl (Y_pickF rfl (congrArg (fun b => some (Value.bool b)) hb12) rfl) ?_; clear hf; intro a hf
      refine sY hf hs rfl rfl rfl (Y_assign rfl rfl) ?_; clear hf; intro a hf
      refine wpO_nil ?_
      refine wpL_nil (then_normal ?_)
      exact ⟨(!r13), Option.some.inj hj9, (FrD.pick (FrD.pick (FrD.pick hf.none hf rfl) hf rfl) hf rfl), hs⟩
  · rintro a w ⟨b7, hr_, hf, hs⟩
    subst hr_
    try dsimp only at hm
    refine wpL_cond hf rfl (fun hb15 => ?_) (fun hb15 => ?_)
    · have hm := bif_t hm hb15
      refine wpL_seq ?_
      refine wpL_region ?_
      refine sY hf hs rfl rfl rfl (Y_assign rfl rfl) ?_; clear hf; intro a hf
      refine sY hf hs rfl rfl rfl (Y_assign rfl rfl) ?_; clear hf; intro a hf
      refine wpO_nil ?_
      have hs : St [] W _ [.blk b1 27 [.slice A_p0_1 p0.A.length c_p0_1, .slice A_p0_2 p0.B.length c_p0_2, .slice A_p0_3 p0.C.length c_p0_3], .row none 0 0 2 1 (ints ([] : List Int))] := hs.addNil 2 1
      obtain rfl := Option.some.inj hm
      refine wpL_ret (Qb_ret (ret_tmp2 rfl hf rfl rfl ?_))
      exact ⟨_, rfl, none, 0, 0, rfl, rfl, hs.sel [1] (by decide)⟩
    · have hm := bif_f hm hb15
      refine wpL_seq ?_
      refine wpL_region ?_
      refine sY hf hs rfl rfl rfl (Y_fieldAddr rfl rfl fo27_2) ?_; clear hf; intro a hf
      refine sY hf hs rfl rfl rfl (Y_load_blk rfl rfl (i := 0) rfl rfl ag23) ?_; clear hf; intro a hf
      refine sY hf hs rfl rfl rfl (Y_fieldAddr rfl rfl fo27_1) ?_; clear hf; intro a hf
      refine sY hf hs rfl rfl rfl (Y_load_blk rfl rfl (i := 0) rfl rfl ag23) ?_; clear hf; intro a hf
      obtain ⟨r17, hc18, hm⟩ := bind_some hm
      refine sCall hf rfl rfl rfl rfl (cap := []) rfl rfl en73 (spec_l24Dot_ok F p0.C A_p0_3 p0.C.length c_p0_3 rfl p0.B A_p0_2 p0.B.length c_p0_2 rfl _ _ hc18 (h_p0_3.at hs) (h_p0_2.at hs)) ?_; clear hf
      rintro _ w ⟨rfl, hs1⟩ a hf
      have hs : St [] W w [.blk b1 27 [.slice A_p0_1 p0.A.length c_p0_1, .slice A_p0_2 p0.B.length c_p0_2, .slice A_p0_3 p0.C.length c_p0_3]] := hs.ext hs1.below
      clear hs1
      refine sY hf hs rfl rfl rfl (Y_eql rfl rfl rfl) ?_; clear hf; intro a hf
      refine sY hf hs rfl rfl rfl (Y_assign rfl rfl) ?_; clear hf; intro a hf
      refine wpO_nil ?_
      refine wpL_cond hf rfl (fun hb19 => ?_) (fun hb19 => ?_)
      · have hm := bif_t hm hb19
        refine wpL_seq ?_
        refine wpL_region ?_
        refine sY hf hs rfl rfl rfl (Y_assign rfl rfl) ?_; clear hf; intro a hf
        refine sY hf hs rfl rfl rfl (Y_assign rfl rfl) ?_; clear hf; intro a hf
        refine wpO_nil ?_
        have hs : St [] W _ [.blk b1 27 [.slice A_p0_1 p0.A.length c_p0_1, .slice A_p0_2 p0.B.length c_p0_2, .slice A_p0_3 p0.C.length c_p0_3], .row none 0 0 2 1 (ints ([] : List Int))] := hs.addNil 2 1
        obtain rfl := Option.some.inj hm
        refine wpL_ret (Qb_ret (ret_tmp2 rfl hf rfl rfl ?_))
        exact ⟨_, rfl, none, 0, 0, rfl, rfl, hs.sel [1] (by decide)⟩
      · have hm := bif_f hm hb19
        refine wpL_skip ?_
        refine wpL_nil (Qb_normal ?_)
        refine wpL_seq ?_
        refine wpL_region ?_
        refine sY hf hs rfl rfl rfl (Y_move rfl rfl) ?_; clear hf; intro a hf
        refine sY hf hs rfl rfl rfl (Y_lenH rfl rfl el23 rfl) ?_; clear hf; intro a hf
        refine sY hf hs rfl rfl rfl (Y_assign rfl rfl) ?_; clear hf; intro a hf
        refine wpO_nil ?_
        refine wpL_seq ?_
        refine wpL_region ?_
        refine sY hf hs rfl rfl rfl (Y_load_blkS rfl rfl (i := 0) rfl ag27 ti27 rfl) ?_; clear hf; intro a hf
        refine sY hf hs rfl rfl rfl (Y_move rfl rfl) ?_; clear hf; intro a hf
        obtain ⟨r21, hc22, hm⟩ := bind_some hm
        refine sCall hf rfl rfl rfl rfl (cap := []) rfl rfl en116 (spec_l24Response_ok F p0 A_p0_1 p0.A.length c_p0_1 rfl A_p0_2 p0.B.length c_p0_2 rfl A_p0_3 p0.C.length c_p0_3 rfl (p1.length : Int) _ _ hc22 (h_p0_1.at hs) (h_p0_2.at hs) (h_p0_3.at hs)) ?_; clear hf
        rintro _ w ⟨A23, n24, c25, rfl, hn26, hs1⟩ a hf
        have hs : St [] W w [.blk b1 27 [.slice A_p0_1 p0.A.length c_p0_1, .slice A_p0_2 p0.B.length c_p0_2, .slice A_p0_3 p0.C.length c_p0_3], .row A23 n24 c25 2 1 (ints r21.1)] := hs.join hs1
        clear hs1
        refine sY hf hs rfl rfl rfl (Y_move rfl rfl) ?_; clear hf; intro a hf
        refine sY hf hs rfl rfl rfl (Y_extract rfl rfl rfl) ?_; clear hf; intro a hf
        refine sY hf hs rfl rfl rfl (Y_extract rfl rfl rfl) ?_; clear hf; intro a hf
        refine sY hf hs rfl rfl rfl (Y_assign rfl rfl) ?_; clear hf; intro a hf
        refine sY hf hs rfl rfl rfl (Y_assign rfl rfl) ?_; clear hf; intro a hf
        refine wpO_nil ?_
        refine wpL_seq ?_
        refine wpL_seq ?_
        refine wpL_region ?_
        refine sY hf hs rfl rfl rfl (Y_move rfl rfl) ?_; clear hf; intro a hf
        refine sY hf hs rfl rfl rfl (Y_not rfl rfl) ?_; clear hf; intro a hf
        refine wpO_nil ?_
        refine wpL_cond hf rfl (fun hb27 => ?_) (fun hb27 => ?_)
        · have hm := bif_t hm hb27
          refine wpL_seq ?_
          refine wpL_region ?_
          refine sY hf hs rfl rfl rfl (Y_assign rfl rfl) ?_; clear hf; intro a hf
          refine sY hf hs rfl rfl rfl (Y_assign rfl rfl) ?_; clear hf; intro a hf
          refine wpO_nil ?_
          have hs : St [] W _ [.blk b1 27 [.slice A_p0_1 p0.A.length c_p0_1, .slice A_p0_2 p0.B.length c_p0_2, .slice A_p0_3 p0.C.length c_p0_3], .row A23 n24 c25 2 1 (ints r21.1), .row none 0 0 2 1 (ints ([] : List Int))] := hs.addNil 2 1
          obtain rfl := Option.some.inj hm
          refine wpL_ret (ret_tmp2 rfl hf rfl rfl ?_)
          exact ⟨_, rfl, none, 0, 0, rfl, rfl, hs.sel [2] (by decide)⟩
        · have hm := bif_f hm hb27
          refine wpL_skip ?_
          refine wpL_seq ?_
          refine wpL_region ?_
          refine sEmpty hf hs rfl rfl rfl rfl el23 ti2 ?_; clear hf hs; intro a w A29 hs hf
          have hs : St [] W w [.blk b1 27 [.slice A_p0_1 p0.A.length c_p0_1, .slice A_p0_2 p0.B.length c_p0_2, .slice A_p0_3 p0.C.length c_p0_3], .row A23 n24 c25 2 1 (ints r21.1), .row A29 0 0 2 1 (ints ([] : List Int))] := hs
          refine sY hf hs rfl rfl rfl (Y_assign rfl rfl) ?_; clear hf; intro a hf
          refine wpO_nil ?_
          refine wpL_seq ?_
          refine wpL_seq ?_
          refine wpL_region ?_
          refine sY hf hs rfl rfl rfl (Y_assign rfl rfl) ?_; clear hf; intro a hf
          refine wpO_nil ?_
          obtain ⟨r204, hl205, hm⟩ := bind_some hm
          refine wpL_block (fun a w => ∃ xs199 : List Int, ∃ A200, ∃ n201, ∃ c202, xs199 = r204 ∧ n201 = xs199.length ∧ Fr a 87 [(9, .slice A200 n201 c202)] ∧ St [] W w [.row A200 n201 c202 2 1 (ints xs199)]) ?_ ?_
          · refine wpL_loop (fun n a w => ∃ xs141 : List Int, ∃ x146 : Int, ∃ A142, ∃ n143, ∃ c144, spec_LatestInputs_L4 F p1 r21 n xs141 x146 = some r204 ∧ n143 = xs141.length ∧ Fr a 87 [(1, .slice A_p1_1 p1.length c_p1_1), (6, .int .i64 (p1.length : Int)), (7, .slice A23 n24 c25), (9, .slice A142 n143 c144), (10, .int .i64 x146)] ∧ St [] W w [.row A23 n24 c25 2 1 (ints r21.1), .row A142 n143 c144 2 1 (ints xs141)]) F ?_ ?_ ?_
            · exact ⟨([] : List Int), 0, A29, 0, 0, hl205, rfl, (FrD.pick (FrD.pick (FrD.pick (FrD.pick (FrD.pick hf.none hf rfl) hf rfl) hf rfl) hf rfl) hf rfl), hs.sel [1, 2] (by decide)⟩
            · rintro a w ⟨xs141, x146, A142, n143, c144, h0_, -, -, -⟩; simp [spec_LatestInputs_L4] at h0_
            · rintro n207 a w ⟨xs141, x146, A142, n143, c144, hm206, hn145, hf, hs⟩
              rw [spec_LatestInputs_L4] at hm206
              refine wpL_seq ?_
              refine wpL_seq ?_
              refine wpL_region ?_
              refine sY hf hs rfl rfl rfl (Y_move rfl rfl) ?_; clear hf; intro a hf
              refine sY hf hs rfl rfl rfl (Y_move rfl rfl) ?_; clear hf; intro a hf
              refine sY hf hs rfl rfl rfl (Y_lss rfl rfl rfl) ?_; clear hf; intro a hf
              refine wpO_nil ?_
              refine wpL_cond hf rfl (fun hb208 => ?_) (fun hb208 => ?_)
              · have hm206 := bif_t hm206 hb208
                refine wpL_skip ?_
                refine wpL_seq ?_
                refine wpL_block0 ?_
                refine wpL_seq ?_
                refine wpL_draw (by kernel_rfl) (by kernel_rfl) hs ?_
                refine qY hf rfl rfl rfl (Y_move rfl rfl) ?_; clear hf; intro a hf
                refine qY hf rfl rfl rfl (Y_move rfl rfl) ?_; clear hf; intro a hf
                obtain ⟨q209, hi210, hm206⟩ := bind_some hm206
                obtain ⟨hi210a, hi210b, hi210q⟩ := idx_some hi210
                refine qY hf rfl rfl rfl (Y_index rfl rfl rfl el23 ti2 (Rd.isAt (h_p1_1.at hs) (at1 (ints_at hi210q))) hi210a hi210b) ?_; clear hf; intro a hf
                refine qY hf rfl rfl rfl (Y_load_rd rfl rfl (fun w hs => h_p1_1.at hs) (at1 (ints_at hi210q)) ag2) ?_; clear hf; intro a hf
                refine qY hf rfl rfl rfl (Y_move rfl rfl) ?_; clear hf; intro a hf
                obtain ⟨q211, hi212, hm206⟩ := bind_some hm206
                obtain ⟨hi212a, hi212b, hi212q⟩ := idx_some hi212
                refine qY hf rfl rfl rfl (Y_index rfl rfl rfl el23 ti2 (Rd.isAt (hs.rd (i := 0) rfl) (at1 (ints_at hi212q))) hi212a (ltn hn26 hi212b)) ?_; clear hf; intro a hf
                refine qY hf rfl rfl rfl (Y_load_rd rfl rfl (fun w hs => hs.rd (i := 0) rfl) (at1 (ints_at hi212q)) ag2) ?_; clear hf; intro a hf
                refine qY hf rfl rfl rfl (Y_sub rfl rfl rfl) ?_; clear hf; intro a hf
                refine qY hf rfl rfl rfl (Y_assign rfl rfl) ?_; clear hf; intro a hf
                refine qNil ?_; clear hs; intro w hs
                refine wpL_seq ?_
                refine wpL_seq ?_
                refine wpL_region ?_
                refine sY hf hs rfl rfl rfl (Y_move rfl rfl) ?_; clear hf; intro a hf
                refine sY hf hs rfl rfl rfl (Y_assign rfl rfl) ?_; clear hf; intro a hf
                refine wpO_nil ?_
                obtain ⟨r242, hl243, hm206⟩ := bind_some hm206
                refine wpL_block (fun a w => ∃ x241 : Int, x241 = r242 ∧ Fr a 87 [(1, .slice A_p1_1 p1.length c_p1_1), (6, .int .i64 (p1.length : Int)), (7, .slice A23 n24 c25), (9, .slice A142 n143 c144), (10, .int .i64 x146), (11, .int .i64 x241)] ∧ St [] W w [.row A23 n24 c25 2 1 (ints r21.1), .row A142 n143 c144 2 1 (ints xs141)]) ?_ ?_
                · refine wpL_loop (fun n a w => ∃ x231 : Int, ∃ x232 : Int, spec_LatestInputs_L5 F p1 r21 x146 n x231 x232 = some r242 ∧ Fr a 87 [(1, .slice A_p1_1 p1.length c_p1_1), (6, .int .i64 (p1.length : Int)), (7, .slice A23 n24 c25), (9, .slice A142 n143 c144), (10, .int .i64 x146), (11, .int .i64 x231), (12, .int .i64 x232)] ∧ St [] W w [.row A23 n24 c25 2 1 (ints r21.1), .row A142 n143 c144 2 1 (ints xs141)]) F ?_ ?_ ?_
                  · exact ⟨(IntKind.i64.wrap (q209 - q211)), x146, hl243, (FrD.pick (FrD.pick (FrD.pick (FrD.pick (FrD.pick (FrD.pick (FrD.pick hf.none hf rfl) hf rfl) hf rfl) hf rfl) hf rfl) hf rfl) hf rfl), hs⟩
                  · rintro a w ⟨x231, x232, h0_, -, -⟩; simp [spec_LatestInputs_L5] at h0_
                  · rintro n245 a w ⟨x231, x232, hm244, hf, hs⟩
                    rw [spec_LatestInputs_L5] at hm244
                    refine wpL_seq ?_
                    refine wpL_seq ?_
                    refine wpL_region ?_
                    refine sY hf hs rfl rfl rfl (Y_move rfl rfl) ?_; clear hf; intro a hf
                    refine sY hf hs rfl rfl rfl (Y_move rfl rfl) ?_; clear hf; intro a hf
                    refine sY hf hs rfl rfl rfl (Y_lss rfl rfl rfl) ?_; clear hf; intro a hf
                    refine wpO_nil ?_
                    refine wpL_cond hf rfl (fun hb246 => ?_) (fun hb246 => ?_)
                    · have hm244 := bif_t hm244 hb246
                      refine wpL_skip ?_
                      refine wpL_seq ?_
                      refine wpL_block0 ?_
                      refine wpL_seq ?_
                      refine wpL_region ?_
                      refine sY hf hs rfl rfl rfl (Y_move rfl rfl) ?_; clear hf; intro a hf
                      refine sY hf hs rfl rfl rfl (Y_move rfl rfl) ?_; clear hf; intro a hf
                      refine sY hf hs rfl rfl rfl (Y_move rfl rfl) ?_; clear hf; intro a hf
                      refine sY hf hs rfl rfl rfl (Y_sub rfl rfl rfl) ?_; clear hf; intro a hf
                      obtain ⟨q247, hi248, hm244⟩ := bind_some hm244
                      obtain ⟨hi248a, hi248b, hi248q⟩ := idx_some hi248
                      refine sY hf hs rfl rfl rfl (Y_index rfl rfl rfl el23 ti2 (Rd.isAt (hs.rd (i := 0) rfl) (at1 (ints_at hi248q))) hi248a (ltn hn26 hi248b)) ?_; clear hf; intro a hf
                      refine sY hf hs rfl rfl rfl (Y_load_rd rfl rfl (fun w hs => hs.rd (i := 0) rfl) (at1 (ints_at hi248q)) ag2) ?_; clear hf; intro a hf
                      refine sY hf hs rfl rfl rfl (Y_neq rfl rfl rfl) ?_; clear hf; intro a hf
                      refine wpO_nil ?_
                      refine wpL_cond hf rfl (fun hb249 => ?_) (fun hb249 => ?_)
                      · have hm244 := bif_t hm244 hb249
                        refine wpL_draw (by kernel_rfl) (by kernel_rfl) hs ?_
                        refine qY hf rfl rfl rfl (Y_move rfl rfl) ?_; clear hf; intro a hf
                        refine qY hf rfl rfl rfl (Y_move rfl rfl) ?_; clear hf; intro a hf
                        refine qY hf rfl rfl rfl (Y_move rfl rfl) ?_; clear hf; intro a hf
                        obtain ⟨q250, hi251, hm244⟩ := bind_some hm244
                        obtain ⟨hi251a, hi251b, hi251q⟩ := idx_some hi251
                        refine qY hf rfl rfl rfl (Y_index rfl rfl rfl el23 ti2 (Rd.isAt (h_p1_1.at hs) (at1 (ints_at hi251q))) hi251a hi251b) ?_; clear hf; intro a hf
                        refine qY hf rfl rfl rfl (Y_load_rd rfl rfl (fun w hs => h_p1_1.at hs) (at1 (ints_at hi251q)) ag2) ?_; clear hf; intro a hf
                        refine qY hf rfl rfl rfl (Y_move rfl rfl) ?_; clear hf; intro a hf
                        refine qY hf rfl rfl rfl (Y_move rfl rfl) ?_; clear hf; intro a hf
                        refine qY hf rfl rfl rfl (Y_move rfl rfl) ?_; clear hf; intro a hf
                        refine qY hf rfl rfl rfl (Y_sub rfl rfl rfl) ?_; clear hf; intro a hf
                        obtain ⟨q252, hi253, hm244⟩ := bind_some hm244
                        obtain ⟨hi253a, hi253b, hi253q⟩ := idx_some hi253
                        refine qY hf rfl rfl rfl (Y_index rfl rfl rfl el23 ti2 (Rd.isAt (hs.rd (i := 0) rfl) (at1 (ints_at hi253q))) hi253a (ltn hn26 hi253b)) ?_; clear hf; intro a hf
                        refine qY hf rfl rfl rfl (Y_load_rd rfl rfl (fun w hs => hs.rd (i := 0) rfl) (at1 (ints_at hi253q)) ag2) ?_; clear hf; intro a hf
                        refine qY hf rfl rfl rfl (Y_sub rfl rfl rfl) ?_; clear hf; intro a hf
                        refine qY hf rfl rfl rfl (Y_min rfl rfl rfl) ?_; clear hf; intro a hf
                        refine qY hf rfl rfl rfl (Y_assign rfl rfl) ?_; clear hf; intro a hf
                        refine qNil ?_; clear hs; intro w hs
                        refine wpL_nil (Qb_normal ?_)
                        refine wpL_region ?_
                        refine sY hf hs rfl rfl rfl (Y_move rfl rfl) ?_; clear hf; intro a hf
                        refine sY hf hs rfl rfl rfl (Y_add rfl rfl rfl) ?_; clear hf; intro a hf
                        refine sY hf hs rfl rfl rfl (Y_assign rfl rfl) ?_; clear hf; intro a hf
                        refine wpO_nil ?_
                        refine wpL_nil (Ql_normal ?_)
                        exact ⟨(min x231 (IntKind.i64.wrap (q250 - q252))), (IntKind.i64.wrap (x232 + 1)), hm244, (FrD.pick (FrD.pick (FrD.pick (FrD.pick (FrD.pick (FrD.pick (FrD.pick hf.none hf rfl) hf rfl) hf rfl) hf rfl) hf rfl) hf rfl) hf rfl), hs⟩
                      · have hm244 := bif_f hm244 hb249
                        refine wpL_skip ?_
                        refine wpL_nil (Qb_normal ?_)
                        refine wpL_region ?_
                        refine sY hf hs rfl rfl rfl (Y_move rfl rfl) ?_; clear hf; intro a hf
                        refine sY hf hs rfl rfl rfl (Y_add rfl rfl rfl) ?_; clear hf; intro a hf
                        refine sY hf hs rfl rfl rfl (Y_assign rfl rfl) ?_; clear hf; intro a hf
                        refine wpO_nil ?_
                        refine wpL_nil (Ql_normal ?_)
                        exact ⟨x231, (IntKind.i64.wrap (x232 + 1)), hm244, (FrD.pick (FrD.pick (FrD.pick (FrD.pick (FrD.pick (FrD.pick (FrD.pick hf.none hf rfl) hf rfl) hf rfl) hf rfl) hf rfl) hf rfl) hf rfl), hs⟩
                    · have hm244 := bif_f hm244 hb246
                      refine wpL_exit (Ql_exit (Qb_exit ?_))
                      exact ⟨x231, Option.some.inj hm244, (FrD.pick (FrD.pick (FrD.pick (FrD.pick (FrD.pick (FrD.pick hf.none hf rfl) hf rfl) hf rfl) hf rfl) hf rfl) hf rfl), hs⟩
                · rintro a w ⟨x241, hr_, hf, hs⟩
                  subst hr_
                  try dsimp only at hm206
                  refine wpL_region ?_
                  refine sY hf hs rfl rfl rfl (Y_move rfl rfl) ?_; clear hf; intro a hf
                  refine sY hf hs rfl rfl rfl (Y_move rfl rfl) ?_; clear hf; intro a hf
                  refine sBuildSlice (parts := [(0, .tmp 80)]) (vs := [.int .i64 x241]) (cells := [.int .i64 x241]) hf hs rfl rfl rfl rfl rfl el23 ti2 rfl rfl rfl rfl ?_; clear hf hs; intro a w A254 hs hA255 hf
                  have hs : St [] W w [.row A23 n24 c25 2 1 (ints r21.1), .row A142 n143 c144 2 1 (ints xs141), .row A254 1 1 2 1 (ints ([x241]))] := hs
                  obtain ⟨xs258, ha259, hm206⟩ := bind_some hm206
                  refine sAppendL (i := 1) (xs := xs141) (ys := [x241]) (enc := ints) hf hs rfl rfl rfl rfl rfl rfl hn145 rfl rfl ha259 el23 ti2 rfl rfl rfl (hs.rd (i := 2) rfl) (Nat.succ_pos _) ints_len1 ints_append ints_one ?_; clear hf hs; intro a w A256 c257 hs hf
                  have hs : St [] W w [.row A23 n24 c25 2 1 (ints r21.1), .row A256 xs258.length c257 2 1 (ints xs258), .row A254 1 1 2 1 (ints ([x241]))] := hs
                  refine sY hf hs rfl rfl rfl (Y_assign rfl rfl) ?_; clear hf; intro a hf
                  refine wpO_nil ?_
                  refine wpL_nil (Qb_normal ?_)
                  refine wpL_region ?_
                  refine sY hf hs rfl rfl rfl (Y_move rfl rfl) ?_; clear hf; intro a hf
                  refine sY hf hs rfl rfl rfl (Y_add rfl rfl rfl) ?_; clear hf; intro a hf
                  refine sY hf hs rfl rfl rfl (Y_assign rfl rfl) ?_; clear hf; intro a hf
                  refine wpO_nil ?_
                  refine wpL_nil (Ql_normal ?_)
                  exact ⟨xs258, (IntKind.i64.wrap (x146 + 1)), A256, xs258.length, c257, hm206, rfl, (FrD.pick (FrD.pick (FrD.pick (FrD.pick (FrD.pick hf.none hf rfl) hf rfl) hf rfl) hf rfl) hf rfl), hs.sel [0, 1] (by decide)⟩
              · have hm206 := bif_f hm206 hb208
                refine wpL_exit (Ql_exit (Qb_exit ?_))
                exact ⟨xs141, A142, n143, c144, Option.some.inj hm206, hn145, (FrD.pick hf.none hf rfl), hs.sel [1] (by decide)⟩
          · rintro a w ⟨xs199, A200, n201, c202, hr_, hn203, hf, hs⟩
            subst hr_
            try dsimp only at hm
            refine wpL_seq ?_
            refine wpL_seq ?_
            refine wpL_region ?_
            refine sY hf hs rfl rfl rfl (Y_move rfl rfl) ?_; clear hf; intro a hf
            obtain ⟨r260, hc261, hm⟩ := bind_some hm
            refine sCall hf rfl rfl rfl rfl (cap := []) rfl rfl en124 (spec_l01All_ok F xs199 A200 n201 c202 hn203 true _ _ hc261 (hs.rd (i := 0) rfl)) ?_; clear hf
            rintro _ w ⟨rfl, hs1⟩ a hf
            have hs : St [] W w [.row A200 n201 c202 2 1 (ints xs199)] := hs.ext hs1.below
            clear hs1
            refine sY hf hs rfl rfl rfl (Y_not rfl rfl) ?_; clear hf; intro a hf
            refine wpO_nil ?_
            refine wpL_cond hf rfl (fun hb262 => ?_) (fun hb262 => ?_)
            · have hm := bif_t hm hb262
              refine wpL_seq ?_
              refine wpL_region ?_
              refine sY hf hs rfl rfl rfl (Y_assign rfl rfl) ?_; clear hf; intro a hf
              refine sY hf hs rfl rfl rfl (Y_assign rfl rfl) ?_; clear hf; intro a hf
              refine wpO_nil ?_
              have hs : St [] W _ [.row A200 n201 c202 2 1 (ints xs199), .row none 0 0 2 1 (ints ([] : List Int))] := hs.addNil 2 1
              obtain rfl := Option.some.inj hm
              refine wpL_ret (ret_tmp2 rfl hf rfl rfl ?_)
              exact ⟨_, rfl, none, 0, 0, rfl, rfl, hs.sel [1] (by decide)⟩
            · have hm := bif_f hm hb262
              refine wpL_skip ?_
              refine wpL_seq ?_
              refine wpL_region ?_
              refine sY hf hs rfl rfl rfl (Y_move rfl rfl) ?_; clear hf; intro a hf
              refine sY hf hs rfl rfl rfl (Y_assign rfl rfl) ?_; clear hf; intro a hf
              refine sY hf hs rfl rfl rfl (Y_assign rfl rfl) ?_; clear hf; intro a hf
              refine wpO_nil ?_
              obtain rfl := Option.some.inj hm
              refine wpL_ret (ret_tmp2 rfl hf rfl rfl ?_)
              exact ⟨_, rfl, A200, n201, c202, rfl, hn203, hs⟩

end Go.Proofs.Ytgkgimglgjfcjaa
