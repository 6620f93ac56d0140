/- The functions do what their models say. -/
import Derived.Test.YtpmebacdmilecaaGreatestAfterLifted1
import Derived.Test.YtpmebacdmilecaaRows
namespace Go.Proofs.Ytpmebacdmilecaa
open Go.RowKit

set_option maxRecDepth 100000 in
theorem impl_isVector_ok (F : Nat) (p0_x : List Int) (A_p0_x_1 : Option Addr) (n_p0_x_1 c_p0_x_1 : Nat) (hn_p0_x_1 : n_p0_x_1 = p0_x.length) (r : Bool) (W : World) (hm : impl_isVector F p0_x = some r) (h_p0_x_1 : Rd W A_p0_x_1 (ints p0_x)) :
    Calls Try.prog 139 [.slice A_p0_x_1 n_p0_x_1 c_p0_x_1].toArray W fun e w' => ∃ v, e = .returned v ∧ v = .bool r ∧ St [] W w' [] := by
  subst hn_p0_x_1
  unfold impl_isVector at hm
  refine Calls.enter (N := 10) Try.func139 rfl rfl rfl (fun a hf => ?_)
  have hs := St.start W
  obtain ⟨w, hw_⟩ : ∃ w, w = W := ⟨W, rfl⟩
  clear hw_ w
  refine wpL_seq ?_
  refine wpL_region ?_
  refine sY hf hs rfl rfl rfl (Y_assign rfl rfl) ?_; clear hf; intro a hf
  refine wpO_nil ?_
  refine wpL_seq ?_
  obtain ⟨r7, hj8, hm⟩ := bind_some hm
  refine wpL_cut (fun a w => ∃ b6 : Bool, b6 = r7 ∧ Fr a 10 [(2, .bool b6)] ∧ St [] W w []) ?_ ?_
  · refine wpL_region ?_
    refine sY hf hs rfl rfl rfl (Y_move rfl rfl) ?_; clear hf; intro a hf
    refine sY hf hs rfl rfl rfl (Y_lenH rfl rfl el23 rfl) ?_; clear hf; intro a hf
    obtain ⟨r9, hc10, hj8⟩ := bind_some hj8
    refine sCall hf rfl rfl rfl rfl (cap := []) rfl rfl en69 (impl_within_ok F (p0_x.length : Int) 1 10 _ _ hc10) ?_; clear hf
    rintro _ w ⟨rfl, hs1⟩ a hf
    have hs : St [] W w [] := hs.ext hs1.below
    clear hs1
    refine sY hf hs rfl rfl rfl (Y_move rfl rfl) ?_; clear hf; intro a hf
    refine bsplit r9 (fun hb11 => ?_) (fun hb11 => ?_)
    · have hj8 := bif_t hj8 hb11
      refine sYg hf hs rfl rfl rfl (congrArg (fun b => some (Value.bool b)) hb11) rfl rfl rfl (Y_move rfl rfl) ?_; clear hf; intro a hf
      obtain ⟨r12, hc13, hj8⟩ := bind_some hj8
      refine sCallg hf rfl rfl rfl (congrArg (fun b => some (Value.bool b)) hb11) rfl rfl rfl rfl (cap := []) rfl rfl en73 (impl_areValues_ok F p0_x A_p0_x_1 p0_x.length c_p0_x_1 rfl _ _ hc13 (h_p0_x_1.at hs)) ?_; clear hf
      rintro _ w ⟨rfl, hs1⟩ a hf
      have hs : St [] W w [] := hs.ext hs1.below
      clear hs1
      refine sY hf hs rfl rfl rfl (Y_pickT rfl (congrArg (fun b => some (Value.bool b)) hb11) rfl) ?_; clear hf; intro a hf
      refine sY hf hs rfl rfl rfl (Y_assign rfl rfl) ?_; clear hf; intro a hf
      refine wpO_nil ?_
      refine wpL_nil (then_normal ?_)
      exact ⟨r12, Option.some.inj hj8, (Fr.pick hf.none hf rfl), hs⟩
    · have hj8 := bif_f hj8 hb11
      refine sNo hf rfl rfl rfl (congrArg (fun b => some (Value.bool b)) hb11) rfl rfl rfl ?_; clear hf; intro a hf
      refine sNo hf rfl rfl rfl (congrArg (fun b => some (Value.bool b)) hb11) rfl rfl rfl ?_; clear hf; intro a hf
      refine sY hf hs rfl rfl rfl (Y_pickF rfl (congrArg (fun b => some (Value.bool b)) hb11) rfl) ?_; clear hf; intro a hf
      refine sY hf hs rfl rfl rfl (Y_assign rfl rfl) ?_; clear hf; intro a hf
      refine wpO_nil ?_
      refine wpL_nil (then_normal ?_)
      exact ⟨false, Option.some.inj hj8, (Fr.pick hf.none hf rfl), hs⟩
  · rintro a w ⟨b6, hr_, hf, hs⟩
    subst hr_
    try dsimp only at hm
    obtain rfl := Option.some.inj hm
    refine wpL_ret (ret_tmp rfl hf rfl ?_)
    exact ⟨_, rfl, rfl, hs⟩

set_option maxRecDepth 100000 in
theorem impl_checkModes_ok (F : Nat) (p0_modes : List (List (List Int))) (A_p0_modes_1 : Option Addr) (n_p0_modes_1 c_p0_modes_1 : Nat) (hn_p0_modes_1 : n_p0_modes_1 = p0_modes.length) (p1_x : List Int) (A_p1_x_1 : Option Addr) (n_p1_x_1 c_p1_x_1 : Nat) (hn_p1_x_1 : n_p1_x_1 = p1_x.length) (r : Int) (W : World) (hm : impl_checkModes F p0_modes p1_x = some r) (h_p0_modes_1 : RdC W A_p0_modes_1 p0_modes) (h_p1_x_1 : Rd W A_p1_x_1 (ints p1_x)) :
    Calls Try.prog 68 [.slice A_p0_modes_1 n_p0_modes_1 c_p0_modes_1, .slice A_p1_x_1 n_p1_x_1 c_p1_x_1].toArray W fun e w' => ∃ v, e = .returned v ∧ v = .int .i64 r ∧ St [] W w' [] := by
  subst hn_p0_modes_1
  subst hn_p1_x_1
  unfold impl_checkModes at hm
  refine Calls.enter (N := 22) Try.func68 rfl rfl rfl (fun a hf => ?_)
  have hs := St.start W
  obtain ⟨w, hw_⟩ : ∃ w, w = W := ⟨W, rfl⟩
  clear hw_ w
  refine wpL_seq ?_
  refine wpL_region ?_
  refine sY hf hs rfl rfl rfl (Y_assign rfl rfl) ?_; clear hf; intro a hf
  refine wpO_nil ?_
  refine wpL_seq ?_
  refine wpL_block0 ?_
  refine wpL_seq ?_
  obtain ⟨r7, hj8, hm⟩ := bind_some hm
  refine wpL_cut (fun a w => ∃ b6 : Bool, b6 = r7 ∧ Fr a 22 [(0, .slice A_p0_modes_1 p0_modes.length c_p0_modes_1), (1, .slice A_p1_x_1 p1_x.length c_p1_x_1), (5, .bool b6)] ∧ St [] W w []) ?_ ?_
  · refine wpL_region ?_
    refine sY hf hs rfl rfl rfl (Y_move rfl rfl) ?_; clear hf; intro a hf
    obtain ⟨r9, hc10, hj8⟩ := bind_some hj8
    refine sCall hf rfl rfl rfl rfl (cap := []) rfl rfl en138 (impl_AreModes_ok F p0_modes A_p0_modes_1 p0_modes.length c_p0_modes_1 rfl _ _ hc10 (h_p0_modes_1.at hs)) ?_; clear hf
    rintro _ w ⟨rfl, hs1⟩ a hf
    have hs : St [] W w [] := hs.ext hs1.below
    clear hs1
    refine sY hf hs rfl rfl rfl (Y_not rfl rfl) ?_; clear hf; intro a hf
    refine sY hf hs rfl rfl rfl (Y_move rfl rfl) ?_; clear hf; intro a hf
    refine bsplit (!r9) (fun hb11 => ?_) (fun hb11 => ?_)
    · have hj8 := bif_t hj8 hb11
      refine sNo hf rfl rfl rfl (congrArg (fun b => some (Value.bool b)) hb11) rfl rfl rfl ?_; clear hf; intro a hf
      refine sNo hf rfl rfl rfl (congrArg (fun b => some (Value.bool b)) hb11) rfl rfl rfl ?_; clear hf; intro a hf
      refine sNo hf rfl rfl rfl (congrArg (fun b => some (Value.bool b)) hb11) rfl rfl rfl ?_; clear hf; intro a hf
      refine sY hf hs rfl rfl rfl (Y_pickT rfl (congrArg (fun b => some (Value.bool b)) hb11) rfl) ?_; clear hf; intro a hf
      refine sY hf hs rfl rfl rfl (Y_assign rfl rfl) ?_; clear hf; intro a hf
      refine wpO_nil ?_
      refine wpL_nil (then_normal ?_)
      exact ⟨true, Option.some.inj hj8, (Fr.pick (Fr.pick (Fr.pick hf.none hf rfl) hf rfl) hf rfl), hs⟩
    · have hj8 := bif_f hj8 hb11
      refine sYg hf hs rfl rfl rfl (congrArg (fun b => some (Value.bool b)) hb11) rfl rfl rfl (Y_move rfl rfl) ?_; clear hf; intro a hf
      obtain ⟨r12, hc13, hj8⟩ := bind_some hj8
      refine sCallg hf rfl rfl rfl (congrArg (fun b => some (Value.bool b)) hb11) rfl rfl rfl rfl (cap := []) rfl rfl en139 (impl_isVector_ok F p1_x A_p1_x_1 p1_x.length c_p1_x_1 rfl _ _ hc13 (h_p1_x_1.at hs)) ?_; clear hf
      rintro _ w ⟨rfl, hs1⟩ a hf
      have hs : St [] W w [] := hs.ext hs1.below
      clear hs1
      refine sYg hf hs rfl rfl rfl (congrArg (fun b => some (Value.bool b)) hb11) rfl rfl rfl (Y_not rfl rfl) ?_; clear hf; intro a hf
      refine sY hf hs rfl rfl rfl (Y_pickF rfl (congrArg (fun b => some (Value.bool b)) hb11) rfl) ?_; clear hf; intro a hf
      refine sY hf hs rfl rfl rfl (Y_assign rfl rfl) ?_; clear hf; intro a hf
      refine wpO_nil ?_
      refine wpL_nil (then_normal ?_)
      exact ⟨(!r12), Option.some.inj hj8, (Fr.pick (Fr.pick (Fr.pick hf.none hf rfl) hf rfl) hf rfl), hs⟩
  · rintro a w ⟨b6, hr_, hf, hs⟩
    subst hr_
    try dsimp only at hm
    refine wpL_cond hf rfl (fun hb14 => ?_) (fun hb14 => ?_)
    · have hm := bif_t hm hb14
      refine wpL_seq ?_
      refine wpL_region ?_
      refine sY hf hs rfl rfl rfl (Y_assign rfl rfl) ?_; clear hf; intro a hf
      refine wpO_nil ?_
      obtain rfl := Option.some.inj hm
      refine wpL_ret (Qb_ret (ret_tmp rfl hf rfl ?_))
      exact ⟨_, rfl, rfl, hs⟩
    · have hm := bif_f hm hb14
      refine wpL_seq ?_
      refine wpL_region ?_
      refine sY hf hs rfl rfl rfl (Y_move rfl rfl) ?_; clear hf; intro a hf
      refine sY hf hs rfl rfl rfl (Y_lenH rfl rfl el23 rfl) ?_; clear hf; intro a hf
      refine sY hf hs rfl rfl rfl (Y_move rfl rfl) ?_; clear hf; intro a hf
      obtain ⟨q15, hi16, hm⟩ := bind_some hm
      obtain ⟨hi16a, hi16b, hi16q⟩ := idx_some hi16
      obtain ⟨vs17, hv18, hr19⟩ := id h_p0_modes_1
      obtain ⟨A20, c21, hv22, hR23⟩ := hr19 _ _ hi16q
      refine sY hf hs rfl rfl rfl (Y_index rfl rfl rfl el22 ti46 (Rd.isAt hv18 hv22) hi16a hi16b) ?_; clear hf; intro a hf
      refine sY hf hs rfl rfl rfl (Y_load_rd rfl rfl (fun w hs => hv18.at hs) (at1 hv22) ag46) ?_; clear hf; intro a hf
      refine sY hf hs rfl rfl rfl (Y_lenH rfl rfl el46 rfl) ?_; clear hf; intro a hf
      refine sY hf hs rfl rfl rfl (Y_neq rfl rfl rfl) ?_; clear hf; intro a hf
      refine sY hf hs rfl rfl rfl (Y_assign rfl rfl) ?_; clear hf; intro a hf
      refine wpO_nil ?_
      refine wpL_cond hf rfl (fun hb24 => ?_) (fun hb24 => ?_)
      · have hm := bif_t hm hb24
        refine wpL_seq ?_
        refine wpL_region ?_
        refine sY hf hs rfl rfl rfl (Y_assign rfl rfl) ?_; clear hf; intro a hf
        refine wpO_nil ?_
        obtain rfl := Option.some.inj hm
        refine wpL_ret (Qb_ret (ret_tmp rfl hf rfl ?_))
        exact ⟨_, rfl, rfl, hs⟩
      · have hm := bif_f hm hb24
        refine wpL_skip ?_
        refine wpL_nil (Qb_normal ?_)
        refine wpL_seq ?_
        refine wpL_region ?_
        refine sY hf hs rfl rfl rfl (Y_assign rfl rfl) ?_; clear hf; intro a hf
        refine wpO_nil ?_
        obtain rfl := Option.some.inj hm
        refine wpL_ret (ret_tmp rfl hf rfl ?_)
        exact ⟨_, rfl, rfl, hs⟩

set_option maxRecDepth 100000 in
theorem slices_Clone_int64_ok (F : Nat) (p0_s : List Int) (A_p0_s_1 : Option Addr) (n_p0_s_1 c_p0_s_1 : Nat) (hn_p0_s_1 : n_p0_s_1 = p0_s.length) (r : List Int) (W : World) (hm : slices_Clone_int64 F p0_s = some r) (h_p0_s_1 : Rd W A_p0_s_1 (ints p0_s)) :
    Calls Try.prog 71 [.slice A_p0_s_1 n_p0_s_1 c_p0_s_1].toArray W fun e w' => ∃ v, e = .returned v ∧ ∃ A7, ∃ n8, ∃ c9, v = .slice A7 n8 c9 ∧ n8 = r.length ∧ St [] W w' [.row A7 n8 c9 2 1 (ints r)] := by
  subst hn_p0_s_1
  cases A_p0_s_1 with
  | none =>
    obtain rfl : p0_s = [] := rd_none_ints h_p0_s_1
    have hm : some ([] : List Int) = some r := hm
    refine Calls.enter (N := 8) Try.func71 rfl rfl rfl (fun a hf => ?_)
    have hs := St.start W
    obtain ⟨w, hw_⟩ : ∃ w, w = W := ⟨W, rfl⟩
    clear hw_ w
    refine wpL_seq ?_
    refine wpL_region ?_
    refine sY hf hs rfl rfl rfl (Y_assign rfl rfl) ?_; clear hf; intro a hf
    refine wpO_nil ?_
    refine wpL_seq ?_
    refine wpL_seq ?_
    refine wpL_region ?_
    refine sY hf hs rfl rfl rfl (Y_move rfl rfl) ?_; clear hf; intro a hf
    refine sY hf hs rfl rfl rfl (Y_eqnil rfl rfl rfl un23) ?_; clear hf; intro a hf
    refine wpO_nil ?_
    refine wpL_cond hf rfl (fun _ => ?_) (fun e => absurd e (by decide))
    refine wpL_seq ?_
    refine wpL_region ?_
    refine sY hf hs rfl rfl rfl (Y_assign rfl rfl) ?_; clear hf; intro a hf
    refine wpO_nil ?_
    have hs : St [] W _ [.row none 0 0 2 1 (ints ([] : List Int))] := hs.addNil 2 1
    obtain rfl := Option.some.inj hm
    refine wpL_ret (ret_tmp rfl hf rfl ?_)
    exact ⟨_, rfl, none, 0, 0, rfl, rfl, hs⟩
  | some a_ =>
    unfold slices_Clone_int64 at hm
    refine Calls.enter (N := 8) Try.func71 rfl rfl rfl (fun a hf => ?_)
    have hs := St.start W
    obtain ⟨w, hw_⟩ : ∃ w, w = W := ⟨W, rfl⟩
    clear hw_ w
    refine wpL_seq ?_
    refine wpL_region ?_
    refine sY hf hs rfl rfl rfl (Y_assign rfl rfl) ?_; clear hf; intro a hf
    refine wpO_nil ?_
    refine wpL_seq ?_
    refine wpL_seq ?_
    refine wpL_region ?_
    refine sY hf hs rfl rfl rfl (Y_move rfl rfl) ?_; clear hf; intro a hf
    refine sY hf hs rfl rfl rfl (Y_eqnil rfl rfl rfl un23) ?_; clear hf; intro a hf
    refine wpO_nil ?_
    refine wpL_cond hf rfl (fun e => absurd e Bool.false_ne_true) (fun _ => ?_)
    refine wpL_skip ?_
    refine wpL_seq ?_
    refine wpL_region ?_
    refine sEmpty hf hs rfl rfl rfl rfl el23 ti2 ?_; clear hf hs; intro a w A1 hs hf
    have hs : St [] W w [.row A1 0 0 2 1 (ints ([] : List Int))] := hs
    refine sY hf hs rfl rfl rfl (Y_move rfl rfl) ?_; clear hf; intro a hf
    obtain ⟨xs5, ha6, hm⟩ := bind_some hm
    refine sAppendG (i := 0) (xs := ([] : List Int)) (ys := p0_s) (enc := ints) hf hs rfl rfl rfl rfl rfl rfl rfl rfl rfl ha6 el23 ti2 rfl rfl rfl (h_p0_s_1.at hs) ints_len1 ints_append ints_one ?_; clear hf hs; intro a w A3 c4 hs hf
    have hs : St [] W w [.row A3 xs5.length c4 2 1 (ints xs5)] := hs
    refine sY hf hs rfl rfl rfl (Y_assign rfl rfl) ?_; clear hf; intro a hf
    refine wpO_nil ?_
    obtain rfl := Option.some.inj hm
    refine wpL_ret (ret_tmp rfl hf rfl ?_)
    exact ⟨_, rfl, A3, xs5.length, c4, rfl, rfl, hs⟩

set_option maxRecDepth 100000 in
theorem impl_cloneMatrix_ok (F : Nat) (p0_a : List (List Int)) (A_p0_a_1 : Option Addr) (n_p0_a_1 c_p0_a_1 : Nat) (hn_p0_a_1 : n_p0_a_1 = p0_a.length) (r : List (List Int)) (W : World) (hm : impl_cloneMatrix F p0_a = some r) (h_p0_a_1 : RdM W A_p0_a_1 p0_a) :
    Calls Try.prog 140 [.slice A_p0_a_1 n_p0_a_1 c_p0_a_1].toArray W fun e w' => ∃ v, e = .returned v ∧ ∃ A125, ∃ n126, ∃ c127, ∃ vs129, v = .slice A125 n126 c127 ∧ n126 = r.length ∧ St [] W w' [.mat A125 n126 c127 23 2 vs129 r] := by
  subst hn_p0_a_1
  unfold impl_cloneMatrix at hm
  refine Calls.enter (N := 23) Try.func140 rfl rfl rfl (fun a hf => ?_)
  have hs := St.start W
  obtain ⟨w, hw_⟩ : ∃ w, w = W := ⟨W, rfl⟩
  clear hw_ w
  refine wpL_seq ?_
  refine wpL_region ?_
  refine sY hf hs rfl rfl rfl (Y_assign rfl rfl) ?_; clear hf; intro a hf
  refine wpO_nil ?_
  refine wpL_seq ?_
  refine wpL_region ?_
  refine sY hf hs rfl rfl rfl (Y_move rfl rfl) ?_; clear hf; intro a hf
  refine sY hf hs rfl rfl rfl (Y_lenH rfl rfl el46 rfl) ?_; clear hf; intro a hf
  obtain ⟨ms3, hk2, hm⟩ := bind_some hm
  refine sMakeM 2 hf hs rfl rfl rfl rfl rfl hk2 el46 ti23 rfl ?_; clear hf hs; intro a w A1 vs4 hs hf
  have hs : St [] W w [.mat A1 ms3.length ms3.length 23 2 vs4 ms3] := hs
  refine sY hf hs rfl rfl rfl (Y_assign rfl rfl) ?_; clear hf; intro a hf
  refine wpO_nil ?_
  refine wpL_seq ?_
  refine wpL_seq ?_
  refine wpL_region ?_
  refine sY hf hs rfl rfl rfl (Y_move rfl rfl) ?_; clear hf; intro a hf
  refine sY hf hs rfl rfl rfl (Y_lenH rfl rfl el46 rfl) ?_; clear hf; intro a hf
  refine sY hf hs rfl rfl rfl (Y_move rfl rfl) ?_; clear hf; intro a hf
  refine wpO_nil ?_
  obtain ⟨r97, hl98, hm⟩ := bind_some hm
  refine wpL_block (fun a w => ∃ ms91 : List (List Int), ∃ A92, ∃ n93, ∃ c94, ∃ vs96, ms91 = r97 ∧ n93 = ms91.length ∧ Fr a 23 [(3, .slice A92 n93 c94)] ∧ St [] W w [.mat A92 n93 c94 23 2 vs96 ms91]) ?_ ?_
  · refine wpL_loop (fun n a w => ∃ ms60 : List (List Int), ∃ x66 : Int, ∃ A61, ∃ n62, ∃ c63, ∃ vs65, impl_cloneMatrix_L1 F p0_a n ms60 x66 = some r97 ∧ n62 = ms60.length ∧ Fr a 23 [(3, .slice A61 n62 c63), (9, .slice A_p0_a_1 p0_a.length c_p0_a_1), (10, .int .i64 (p0_a.length : Int)), (11, .int .i64 x66)] ∧ St [] W w [.mat A61 n62 c63 23 2 vs65 ms60]) F ?_ ?_ ?_
    · exact ⟨ms3, 0, A1, ms3.length, ms3.length, vs4, hl98, rfl, (Fr.pick (Fr.pick (Fr.pick (Fr.pick hf.none hf rfl) hf rfl) hf rfl) hf rfl), hs⟩
    · rintro a w ⟨ms60, x66, A61, n62, c63, vs65, h0_, -, -, -⟩; simp [impl_cloneMatrix_L1] at h0_
    · rintro n100 a w ⟨ms60, x66, A61, n62, c63, vs65, hm99, hn64, hf, hs⟩
      rw [impl_cloneMatrix_L1] at hm99
      refine wpL_seq ?_
      refine wpL_region ?_
      refine sY hf hs rfl rfl rfl (Y_lss rfl rfl rfl) ?_; clear hf; intro a hf
      refine wpO_nil ?_
      refine wpL_seq ?_
      refine wpL_cond hf rfl (fun hb101 => ?_) (fun hb101 => ?_)
      · have hm99 := bif_t hm99 hb101
        refine wpL_skip ?_
        refine wpL_seq ?_
        refine wpL_block0 ?_
        refine wpL_seq ?_
        refine wpL_region ?_
        refine sY hf hs rfl rfl rfl (Y_move rfl rfl) ?_; clear hf; intro a hf
        obtain ⟨q102, hi103, hm99⟩ := bind_some hm99
        obtain ⟨hi103a, hi103b, hi103q⟩ := idx_some hi103
        obtain ⟨vs104, hv105, hr106⟩ := id h_p0_a_1
        obtain ⟨A107, c108, hv109, hR110⟩ := hr106 _ _ hi103q
        refine sY hf hs rfl rfl rfl (Y_index rfl rfl rfl el46 ti23 (Rd.isAt hv105 hv109) hi103a hi103b) ?_; clear hf; intro a hf
        refine sY hf hs rfl rfl rfl (Y_load_rd rfl rfl (fun w hs => hv105.at hs) (at1 hv109) ag23) ?_; clear hf; intro a hf
        refine sY hf hs rfl rfl rfl (Y_assign rfl rfl) ?_; clear hf; intro a hf
        refine sY hf hs rfl rfl rfl (Y_assign rfl rfl) ?_; clear hf; intro a hf
        refine wpO_nil ?_
        refine wpL_region ?_
        refine sY hf hs rfl rfl rfl (Y_move rfl rfl) ?_; clear hf; intro a hf
        refine sY hf hs rfl rfl rfl (Y_move rfl rfl) ?_; clear hf; intro a hf
        refine sY hf hs rfl rfl rfl (Y_move rfl rfl) ?_; clear hf; intro a hf
        obtain ⟨r111, hc112, hm99⟩ := bind_some hm99
        refine sCall hf rfl rfl rfl rfl (cap := []) rfl rfl en71 (slices_Clone_int64_ok F q102 A107 q102.length c108 rfl _ _ hc112 (hR110.at hs)) ?_; clear hf
        rintro _ w ⟨A113, n114, c115, rfl, hn116, hs1⟩ a hf
        have hs : St [] W w [.mat A61 n62 c63 23 2 vs65 ms60, .row A113 n114 c115 2 1 (ints r111)] := hs.join hs1
        clear hs1
        obtain ⟨q117, hi118, hm99⟩ := bind_some hm99
        obtain ⟨hi118a, hi118b, hi118q⟩ := idx_some hi118
        obtain ⟨A119, c120, hv121⟩ := hs.matRow (i := 0) rfl hi118q
        refine sY hf hs rfl rfl rfl (Y_index rfl rfl rfl el46 ti23 (Rd.isAt (hs.rdV (i := 0) rfl) hv121) hi118a (ltn hn64 hi118b)) ?_; clear hf; intro a hf
        obtain ⟨ms122, hu123, hm99⟩ := bind_some hm99
        refine sStoreRowM (i := 0) (j := 1) (k := x66) hf hs rfl rfl rfl rfl rfl rfl rfl (by decide) hn116 hu123 ti23 ?_; clear hs; intro w vs124 hs
        have hs : St [] W w [.mat A61 n62 c63 23 2 vs124 ms122] := hs
        refine wpO_nil ?_
        refine wpL_nil (Qb_normal ?_)
        refine wpL_region ?_
        refine sY hf hs rfl rfl rfl (Y_add rfl rfl rfl) ?_; clear hf; intro a hf
        refine sY hf hs rfl rfl rfl (Y_move rfl rfl) ?_; clear hf; intro a hf
        refine wpO_nil ?_
        refine wpL_nil (Ql_normal ?_)
        exact ⟨ms122, (IntKind.i64.wrap (x66 + 1)), A61, n62, c63, vs124, hm99, ((hn64).trans (upd_len hu123).symm), (Fr.pick (Fr.pick (Fr.pick (Fr.pick hf.none hf rfl) hf rfl) hf rfl) hf rfl), hs⟩
      · have hm99 := bif_f hm99 hb101
        refine wpL_exit (Ql_exit (Qb_exit ?_))
        exact ⟨ms60, A61, n62, c63, vs65, Option.some.inj hm99, hn64, (Fr.pick hf.none hf rfl), hs⟩
  · rintro a w ⟨ms91, A92, n93, c94, vs96, hr_, hn95, hf, hs⟩
    subst hr_
    try dsimp only at hm
    refine wpL_seq ?_
    refine wpL_region ?_
    refine sY hf hs rfl rfl rfl (Y_move rfl rfl) ?_; clear hf; intro a hf
    refine sY hf hs rfl rfl rfl (Y_assign rfl rfl) ?_; clear hf; intro a hf
    refine wpO_nil ?_
    obtain rfl := Option.some.inj hm
    refine wpL_ret (ret_tmp rfl hf rfl ?_)
    exact ⟨_, rfl, A92, n93, c94, vs96, rfl, hn95, hs⟩

set_option maxRecDepth 100000 in
theorem impl_addMatrices_c1_ok (F : Nat) (p0_i : Int) (p1_j : Int) (b_z0 : Nat) (z0 : List (List Int)) (A_z0_1 : Option Addr) (n_z0_1 c_z0_1 : Nat) (hn_z0_1 : n_z0_1 = z0.length) (b_z1 : Nat) (z1 : List (List Int)) (A_z1_1 : Option Addr) (n_z1_1 c_z1_1 : Nat) (hn_z1_1 : n_z1_1 = z1.length) (r : Int) (W : World) (hm : impl_addMatrices_c1 F p0_i p1_j z0 z1 = some r) (h_z0_1 : RdM W A_z0_1 z0) (h_z0 : PB W b_z0 46 [.slice A_z0_1 n_z0_1 c_z0_1]) (h_z1_1 : RdM W A_z1_1 z1) (h_z1 : PB W b_z1 46 [.slice A_z1_1 n_z1_1 c_z1_1]) :
    Calls Try.prog 179 [.int .i64 p0_i, .int .i64 p1_j, .pointer (some ⟨b_z0, 0, none⟩), .pointer (some ⟨b_z1, 0, none⟩)].toArray W fun e w' => ∃ v, e = .returned v ∧ v = .int .i64 r ∧ St [] W w' [] := by
  subst hn_z0_1
  subst hn_z1_1
  unfold impl_addMatrices_c1 at hm
  refine Calls.enter (N := 22) Try.func179 rfl rfl rfl (fun a hf => ?_)
  have hs := St.start W
  obtain ⟨w, hw_⟩ : ∃ w, w = W := ⟨W, rfl⟩
  clear hw_ w
  refine wpL_seq ?_
  refine wpL_region ?_
  refine sY hf hs rfl rfl rfl (Y_assign rfl rfl) ?_; clear hf; intro a hf
  refine wpO_nil ?_
  refine wpL_seq ?_
  refine wpL_draw (by kernel_rfl) (by kernel_rfl) hs ?_
  refine qY hf rfl rfl rfl (Y_load_pb rfl rfl h_z0 rfl ag46) ?_; clear hf; intro a hf
  refine qY hf rfl rfl rfl (Y_move rfl rfl) ?_; clear hf; intro a hf
  obtain ⟨q1, hi2, hm⟩ := bind_some hm
  obtain ⟨hi2a, hi2b, hi2q⟩ := idx_some hi2
  obtain ⟨vs3, hv4, hr5⟩ := id h_z0_1
  obtain ⟨A6, c7, hv8, hR9⟩ := hr5 _ _ hi2q
  refine qY hf rfl rfl rfl (Y_index rfl rfl rfl el46 ti23 (Rd.isAt hv4 hv8) hi2a hi2b) ?_; clear hf; intro a hf
  refine qY hf rfl rfl rfl (Y_load_rd rfl rfl (fun w hs => hv4.at hs) (at1 hv8) ag23) ?_; clear hf; intro a hf
  refine qY hf rfl rfl rfl (Y_move rfl rfl) ?_; clear hf; intro a hf
  obtain ⟨q10, hi11, hm⟩ := bind_some hm
  obtain ⟨hi11a, hi11b, hi11q⟩ := idx_some hi11
  refine qY hf rfl rfl rfl (Y_index rfl rfl rfl el23 ti2 (Rd.isAt (hR9.at hs) (at1 (ints_at hi11q))) hi11a hi11b) ?_; clear hf; intro a hf
  refine qY hf rfl rfl rfl (Y_load_rd rfl rfl (fun w hs => hR9.at hs) (at1 (ints_at hi11q)) ag2) ?_; clear hf; intro a hf
  refine qY hf rfl rfl rfl (Y_load_pb rfl rfl h_z1 rfl ag46) ?_; clear hf; intro a hf
  refine qY hf rfl rfl rfl (Y_move rfl rfl) ?_; clear hf; intro a hf
  obtain ⟨q12, hi13, hm⟩ := bind_some hm
  obtain ⟨hi13a, hi13b, hi13q⟩ := idx_some hi13
  obtain ⟨vs14, hv15, hr16⟩ := id h_z1_1
  obtain ⟨A17, c18, hv19, hR20⟩ := hr16 _ _ hi13q
  refine qY hf rfl rfl rfl (Y_index rfl rfl rfl el46 ti23 (Rd.isAt hv15 hv19) hi13a hi13b) ?_; clear hf; intro a hf
  refine qY hf rfl rfl rfl (Y_load_rd rfl rfl (fun w hs => hv15.at hs) (at1 hv19) ag23) ?_; clear hf; intro a hf
  refine qY hf rfl rfl rfl (Y_move rfl rfl) ?_; clear hf; intro a hf
  obtain ⟨q21, hi22, hm⟩ := bind_some hm
  obtain ⟨hi22a, hi22b, hi22q⟩ := idx_some hi22
  refine qY hf rfl rfl rfl (Y_index rfl rfl rfl el23 ti2 (Rd.isAt (hR20.at hs) (at1 (ints_at hi22q))) hi22a hi22b) ?_; clear hf; intro a hf
  refine qY hf rfl rfl rfl (Y_load_rd rfl rfl (fun w hs => hR20.at hs) (at1 (ints_at hi22q)) ag2) ?_; clear hf; intro a hf
  refine qY hf rfl rfl rfl (Y_max rfl rfl rfl) ?_; clear hf; intro a hf
  refine qY hf rfl rfl rfl (Y_assign rfl rfl) ?_; clear hf; intro a hf
  refine qNil ?_; clear hs; intro w hs
  obtain rfl := Option.some.inj hm
  refine wpL_ret (ret_tmp rfl hf rfl ?_)
  exact ⟨_, rfl, rfl, hs⟩

set_option maxRecDepth 100000 in
theorem impl_matrixBy_ok (F : Nat) (p0_m : Int) (p1_n : Int) (m_p2_entry : Int → Int → Option Int) (f_p2_entry : FuncId) (k_p2_entry : List Value) (r : List (List Int)) (W : World) (hm : impl_matrixBy F p0_m p1_n m_p2_entry = some r) (h_p2_entry : ∀ (x0 : Int) (x1 : Int) (r : Int) (w : World), m_p2_entry x0 x1 = some r → Below W.heap.size W w → Calls Try.prog f_p2_entry (([.int .i64 x0, .int .i64 x1] : List Value) ++ k_p2_entry).toArray w fun e w' => ∃ v, e = .returned v ∧ v = .int .i64 r ∧ St [] w w' []) (e_p2_entry : En Try.prog f_p2_entry) :
    Calls Try.prog 94 [.int .i64 p0_m, .int .i64 p1_n, .func (.func f_p2_entry) #[] k_p2_entry.toArray].toArray W fun e w' => ∃ v, e = .returned v ∧ ∃ A641, ∃ n642, ∃ c643, ∃ vs645, v = .slice A641 n642 c643 ∧ n642 = r.length ∧ St [] W w' [.mat A641 n642 c643 23 2 vs645 r] := by
  unfold impl_matrixBy at hm
  refine Calls.enter (N := 43) Try.func94 rfl rfl rfl (fun a hf => ?_)
  have hs := St.start W
  obtain ⟨w, hw_⟩ : ∃ w, w = W := ⟨W, rfl⟩
  clear hw_ w
  refine wpL_seq ?_
  refine wpL_region ?_
  refine sY hf hs rfl rfl rfl (Y_assign rfl rfl) ?_; clear hf; intro a hf
  refine wpO_nil ?_
  refine wpL_seq ?_
  refine wpL_region ?_
  refine sY hf hs rfl rfl rfl (Y_move rfl rfl) ?_; clear hf; intro a hf
  obtain ⟨ms3, hk2, hm⟩ := bind_some hm
  refine sMakeM 2 hf hs rfl rfl rfl rfl rfl hk2 el46 ti23 rfl ?_; clear hf hs; intro a w A1 vs4 hs hf
  have hs : St [] W w [.mat A1 ms3.length ms3.length 23 2 vs4 ms3] := hs
  refine sY hf hs rfl rfl rfl (Y_assign rfl rfl) ?_; clear hf; intro a hf
  refine wpO_nil ?_
  refine wpL_seq ?_
  refine wpL_seq ?_
  refine wpL_region ?_
  refine sY hf hs rfl rfl rfl (Y_move rfl rfl) ?_; clear hf; intro a hf
  refine sY hf hs rfl rfl rfl (Y_lenH rfl rfl el46 rfl) ?_; clear hf; intro a hf
  refine sY hf hs rfl rfl rfl (Y_move rfl rfl) ?_; clear hf; intro a hf
  refine wpO_nil ?_
  obtain ⟨r484, hl485, hm⟩ := bind_some hm
  refine wpL_block (fun a w => ∃ ms478 : List (List Int), ∃ A479, ∃ n480, ∃ c481, ∃ vs483, ms478 = r484 ∧ n480 = ms478.length ∧ Fr a 43 [(7, .slice A479 n480 c481)] ∧ St [] W w [.mat A479 n480 c481 23 2 vs483 ms478]) ?_ ?_
  · refine wpL_loop (fun n a w => ∃ ms318 : List (List Int), ∃ x324 : Int, ∃ A319, ∃ n320, ∃ c321, ∃ vs323, impl_matrixBy_L4 F p1_n m_p2_entry ms3 n ms318 x324 = some r484 ∧ n320 = ms318.length ∧ Fr a 43 [(1, .int .i64 p1_n), (2, .func (.func f_p2_entry) #[] k_p2_entry.toArray), (7, .slice A319 n320 c321), (13, .int .i64 (ms3.length : Int)), (14, .int .i64 x324)] ∧ St [] W w [.mat A319 n320 c321 23 2 vs323 ms318]) F ?_ ?_ ?_
    · exact ⟨ms3, 0, A1, ms3.length, ms3.length, vs4, hl485, rfl, (Fr.pick (Fr.pick (Fr.pick (Fr.pick (Fr.pick hf.none hf rfl) hf rfl) hf rfl) hf rfl) hf rfl), hs⟩
    · rintro a w ⟨ms318, x324, A319, n320, c321, vs323, h0_, -, -, -⟩; simp [impl_matrixBy_L4] at h0_
    · rintro n487 a w ⟨ms318, x324, A319, n320, c321, vs323, hm486, hn322, hf, hs⟩
      rw [impl_matrixBy_L4] at hm486
      refine wpL_seq ?_
      refine wpL_region ?_
      refine sY hf hs rfl rfl rfl (Y_lss rfl rfl rfl) ?_; clear hf; intro a hf
      refine wpO_nil ?_
      refine wpL_seq ?_
      refine wpL_cond hf rfl (fun hb488 => ?_) (fun hb488 => ?_)
      · have hm486 := bif_t hm486 hb488
        refine wpL_skip ?_
        refine wpL_seq ?_
        refine wpL_block0 ?_
        refine wpL_seq ?_
        refine wpL_region ?_
        refine sY hf hs rfl rfl rfl (Y_move rfl rfl) ?_; clear hf; intro a hf
        refine sY hf hs rfl rfl rfl (Y_assign rfl rfl) ?_; clear hf; intro a hf
        refine wpO_nil ?_
        refine wpL_seq ?_
        refine wpL_region ?_
        refine sY hf hs rfl rfl rfl (Y_move rfl rfl) ?_; clear hf; intro a hf
        refine sY hf hs rfl rfl rfl (Y_move rfl rfl) ?_; clear hf; intro a hf
        refine sY hf hs rfl rfl rfl (Y_move rfl rfl) ?_; clear hf; intro a hf
        obtain ⟨xs491, hk490, hm486⟩ := bind_some hm486
        refine sMakeL (enc := ints) hf hs rfl rfl rfl rfl rfl hk490 el23 ti2 rfl ints_made ?_; clear hf hs; intro a w A489 hs hf
        have hs : St [] W w [.mat A319 n320 c321 23 2 vs323 ms318, .row A489 xs491.length xs491.length 2 1 (ints xs491)] := hs
        obtain ⟨q492, hi493, hm486⟩ := bind_some hm486
        obtain ⟨hi493a, hi493b, hi493q⟩ := idx_some hi493
        obtain ⟨A494, c495, hv496⟩ := hs.matRow (i := 0) rfl hi493q
        refine sY hf hs rfl rfl rfl (Y_index rfl rfl rfl el46 ti23 (Rd.isAt (hs.rdV (i := 0) rfl) hv496) hi493a (ltn hn322 hi493b)) ?_; clear hf; intro a hf
        obtain ⟨ms497, hu498, hm486⟩ := bind_some hm486
        refine sStoreRowM (i := 0) (j := 1) (k := x324) hf hs rfl rfl rfl rfl rfl rfl rfl (by decide) rfl hu498 ti23 ?_; clear hs; intro w vs499 hs
        have hs : St [] W w [.mat A319 n320 c321 23 2 vs499 ms497] := hs
        refine wpO_nil ?_
        refine wpL_seq ?_
        refine wpL_region ?_
        refine sY hf hs rfl rfl rfl (Y_move rfl rfl) ?_; clear hf; intro a hf
        refine sY hf hs rfl rfl rfl (Y_move rfl rfl) ?_; clear hf; intro a hf
        obtain ⟨q500, hi501, hm486⟩ := bind_some hm486
        obtain ⟨hi501a, hi501b, hi501q⟩ := idx_some hi501
        obtain ⟨A502, c503, hv504⟩ := hs.matRow (i := 0) rfl hi501q
        refine sY hf hs rfl rfl rfl (Y_index rfl rfl rfl el46 ti23 (Rd.isAt (hs.rdV (i := 0) rfl) hv504) hi501a (ltn ((hn322).trans (upd_len hu498).symm) hi501b)) ?_; clear hf; intro a hf
        refine sY hf hs rfl rfl rfl (Y_load_rd rfl rfl (fun w hs => hs.rdV (i := 0) rfl) (at1 hv504) ag23) ?_; clear hf; intro a hf
        refine sY hf hs rfl rfl rfl (Y_lenH rfl rfl el23 rfl) ?_; clear hf; intro a hf
        refine sY hf hs rfl rfl rfl (Y_move rfl rfl) ?_; clear hf; intro a hf
        refine wpO_nil ?_
        obtain ⟨r606, hl607, hm486⟩ := bind_some hm486
        refine wpL_block (fun a w => ∃ ms604 : List (List Int), ms604 = r606 ∧ n320 = ms604.length ∧ Fr a 43 [(1, .int .i64 p1_n), (2, .func (.func f_p2_entry) #[] k_p2_entry.toArray), (7, .slice A319 n320 c321), (13, .int .i64 (ms3.length : Int)), (14, .int .i64 x324)] ∧ St [] W w [.mat A319 n320 c321 23 2 vs499 ms604]) ?_ ?_
        · refine wpL_loop (fun n a w => ∃ ms570 : List (List Int), ∃ x572 : Int, impl_matrixBy_L5 F m_p2_entry x324 q500 n ms570 x572 = some r606 ∧ n320 = ms570.length ∧ Fr a 43 [(1, .int .i64 p1_n), (2, .func (.func f_p2_entry) #[] k_p2_entry.toArray), (7, .slice A319 n320 c321), (8, .int .i64 x324), (13, .int .i64 (ms3.length : Int)), (14, .int .i64 x324), (26, .int .i64 (q500.length : Int)), (27, .int .i64 x572)] ∧ St [] W w [.mat A319 n320 c321 23 2 vs499 ms570]) F ?_ ?_ ?_
          · exact ⟨ms497, 0, hl607, ((hn322).trans (upd_len hu498).symm), (Fr.pick (Fr.pick (Fr.pick (Fr.pick (Fr.pick (Fr.pick (Fr.pick (Fr.pick hf.none hf rfl) hf rfl) hf rfl) hf rfl) hf rfl) hf rfl) hf rfl) hf rfl), hs⟩
          · rintro a w ⟨ms570, x572, h0_, -, -, -⟩; simp [impl_matrixBy_L5] at h0_
          · rintro n609 a w ⟨ms570, x572, hm608, hn571, hf, hs⟩
            rw [impl_matrixBy_L5] at hm608
            refine wpL_seq ?_
            refine wpL_region ?_
            refine sY hf hs rfl rfl rfl (Y_lss rfl rfl rfl) ?_; clear hf; intro a hf
            refine wpO_nil ?_
            refine wpL_seq ?_
            refine wpL_cond hf rfl (fun hb610 => ?_) (fun hb610 => ?_)
            · have hm608 := bif_t hm608 hb610
              refine wpL_skip ?_
              refine wpL_seq ?_
              refine wpL_block0 ?_
              refine wpL_seq ?_
              refine wpL_region ?_
              refine sY hf hs rfl rfl rfl (Y_move rfl rfl) ?_; clear hf; intro a hf
              refine sY hf hs rfl rfl rfl (Y_assign rfl rfl) ?_; clear hf; intro a hf
              refine wpO_nil ?_
              refine wpL_drawG [.mat A319 n320 c321 23 2 vs499 ms570] 10 (by kernel_rfl) hs ?_; clear hs; intro w hs
              have hs0 : St [] W w [.mat A319 n320 c321 23 2 vs499 ms570] := hs
              refine gY (i := 0) [] rfl (by kernel_rfl) (by kernel_rfl) hf hs0 rfl rfl rfl (Y_move rfl rfl) ?_; clear hf; intro a hf
              refine gY (i := 1) [] rfl (by kernel_rfl) (by kernel_rfl) hf hs0 rfl rfl rfl (Y_move rfl rfl) ?_; clear hf; intro a hf
              obtain ⟨q626, hi627, hm608⟩ := bind_some hm608
              obtain ⟨hi627a, hi627b, hi627q⟩ := idx_some hi627
              obtain ⟨A628, c629, hv630⟩ := hs0.matRow (i := 0) rfl hi627q
              refine gY (i := 2) [] rfl (by kernel_rfl) (by kernel_rfl) hf hs0 rfl rfl rfl (Y_index rfl rfl rfl el46 ti23 (Rd.isAt (hs0.rdV (i := 0) rfl) hv630) hi627a (ltn hn571 hi627b)) ?_; clear hf; intro a hf
              refine gY (i := 3) [] rfl (by kernel_rfl) (by kernel_rfl) hf hs0 rfl rfl rfl (Y_load_rd rfl rfl (fun w hs => hs.rdV (i := 0) rfl) (at1 hv630) ag23) ?_; clear hf; intro a hf
              refine gY (i := 4) [] rfl (by kernel_rfl) (by kernel_rfl) hf hs0 rfl rfl rfl (Y_move rfl rfl) ?_; clear hf; intro a hf
              refine gY (i := 5) [] rfl (by kernel_rfl) (by kernel_rfl) hf hs0 rfl rfl rfl (Y_move rfl rfl) ?_; clear hf; intro a hf
              refine gY (i := 6) [] rfl (by kernel_rfl) (by kernel_rfl) hf hs0 rfl rfl rfl (Y_move rfl rfl) ?_; clear hf; intro a hf
              refine gY (i := 7) [] rfl (by kernel_rfl) (by kernel_rfl) hf hs0 rfl rfl rfl (Y_move rfl rfl) ?_; clear hf; intro a hf
              refine gRun (i := 8) rfl (by kernel_rfl) ?_
              obtain ⟨r631, hc632, hm608⟩ := bind_some hm608
              refine sCall hf rfl rfl rfl rfl (cap := k_p2_entry) rfl rfl e_p2_entry (h_p2_entry x324 x572 _ _ hc632 hs.below) ?_; clear hf; rintro _ w ⟨rfl, hs1⟩ a hf; have hs := hs.ext hs1.below; clear hs1
              have hs0 : St [] W w [.mat A319 n320 c321 23 2 vs499 ms570] := hs
              refine wpO_nil ⟨Or.inr hs0, ?_⟩
              obtain ⟨q633, hi634, hm608⟩ := bind_some hm608
              obtain ⟨hi634a, hi634b, hi634q⟩ := idx_some hi634
              refine gY (i := 9) [] rfl (by kernel_rfl) (by kernel_rfl) hf hs0 rfl rfl rfl (Y_index rfl rfl rfl el23 ti2 (Rd.isAt (hs0.rdRow (i := 0) rfl ⟨hi627q, hv630⟩) (at1 (ints_at hi634q))) hi634a hi634b) ?_; clear hf; intro a hf
              refine gRun (i := 10) rfl (by kernel_rfl) ?_
              obtain ⟨xs635, hu637, hm608⟩ := bind_some hm608
              obtain ⟨ms636, hu638, hm608⟩ := bind_some hm608
              refine sStoreM (i := 0) (k := x324) hf hs rfl rfl rfl rfl rfl rfl hi627q hv630 rfl hu637 hu638 ti2 ?_; clear hs; intro w hs
              obtain ⟨hq639, hv640⟩ := rowUpd hu637 hu638 hv630
              have hs : St [] W w [.mat A319 n320 c321 23 2 vs499 ms636] := hs
              refine wpO_nil ⟨Or.inl rfl, ?_⟩
              refine gDone (by kernel_rfl) ?_
              clear hs0
              refine wpL_nil (Qb_normal ?_)
              refine wpL_region ?_
              refine sY hf hs rfl rfl rfl (Y_add rfl rfl rfl) ?_; clear hf; intro a hf
              refine sY hf hs rfl rfl rfl (Y_move rfl rfl) ?_; clear hf; intro a hf
              refine wpO_nil ?_
              refine wpL_nil (Ql_normal ?_)
              exact ⟨ms636, (IntKind.i64.wrap (x572 + 1)), hm608, ((hn571).trans (upd_len hu638).symm), (Fr.pick (Fr.pick (Fr.pick (Fr.pick (Fr.pick (Fr.pick (Fr.pick (Fr.pick hf.none hf rfl) hf rfl) hf rfl) hf rfl) hf rfl) hf rfl) hf rfl) hf rfl), hs⟩
            · have hm608 := bif_f hm608 hb610
              refine wpL_exit (Ql_exit (Qb_exit ?_))
              exact ⟨ms570, Option.some.inj hm608, hn571, (Fr.pick (Fr.pick (Fr.pick (Fr.pick (Fr.pick hf.none hf rfl) hf rfl) hf rfl) hf rfl) hf rfl), hs⟩
        · rintro a w ⟨ms604, hr_, hn605, hf, hs⟩
          subst hr_
          try dsimp only at hm486
          refine wpL_nil (Qb_normal ?_)
          refine wpL_region ?_
          refine sY hf hs rfl rfl rfl (Y_add rfl rfl rfl) ?_; clear hf; intro a hf
          refine sY hf hs rfl rfl rfl (Y_move rfl rfl) ?_; clear hf; intro a hf
          refine wpO_nil ?_
          refine wpL_nil (Ql_normal ?_)
          exact ⟨ms604, (IntKind.i64.wrap (x324 + 1)), A319, n320, c321, vs499, hm486, hn605, (Fr.pick (Fr.pick (Fr.pick (Fr.pick (Fr.pick hf.none hf rfl) hf rfl) hf rfl) hf rfl) hf rfl), hs⟩
      · have hm486 := bif_f hm486 hb488
        refine wpL_exit (Ql_exit (Qb_exit ?_))
        exact ⟨ms318, A319, n320, c321, vs323, Option.some.inj hm486, hn322, (Fr.pick hf.none hf rfl), hs⟩
  · rintro a w ⟨ms478, A479, n480, c481, vs483, hr_, hn482, hf, hs⟩
    subst hr_
    try dsimp only at hm
    refine wpL_seq ?_
    refine wpL_region ?_
    refine sY hf hs rfl rfl rfl (Y_move rfl rfl) ?_; clear hf; intro a hf
    refine sY hf hs rfl rfl rfl (Y_assign rfl rfl) ?_; clear hf; intro a hf
    refine wpO_nil ?_
    obtain rfl := Option.some.inj hm
    refine wpL_ret (ret_tmp rfl hf rfl ?_)
    exact ⟨_, rfl, A479, n480, c481, vs483, rfl, hn482, hs⟩

set_option maxRecDepth 100000 in
theorem impl_addMatrices_ok (F : Nat) (p0_a : List (List Int)) (A_p0_a_1 : Option Addr) (n_p0_a_1 c_p0_a_1 : Nat) (hn_p0_a_1 : n_p0_a_1 = p0_a.length) (p1_b : List (List Int)) (A_p1_b_1 : Option Addr) (n_p1_b_1 c_p1_b_1 : Nat) (hn_p1_b_1 : n_p1_b_1 = p1_b.length) (r : List (List Int)) (W : World) (hm : impl_addMatrices F p0_a p1_b = some r) (h_p0_a_1 : RdM W A_p0_a_1 p0_a) (h_p1_b_1 : RdM W A_p1_b_1 p1_b) :
    Calls Try.prog 141 [.slice A_p0_a_1 n_p0_a_1 c_p0_a_1, .slice A_p1_b_1 n_p1_b_1 c_p1_b_1].toArray W fun e w' => ∃ v, e = .returned v ∧ ∃ A35, ∃ n36, ∃ c37, ∃ vs39, v = .slice A35 n36 c37 ∧ n36 = r.length ∧ St [] W w' [.mat A35 n36 c37 23 2 vs39 r] := by
  subst hn_p0_a_1
  subst hn_p1_b_1
  unfold impl_addMatrices at hm
  refine Calls.enter (N := 13) Try.func141 rfl rfl rfl (fun a hf => ?_)
  have hs := St.start W
  obtain ⟨w, hw_⟩ : ∃ w, w = W := ⟨W, rfl⟩
  clear hw_ w
  refine wpL_seq ?_
  refine wpL_region ?_
  refine sBox hf hs rfl rfl rfl rfl rfl (cs := [.slice A_p0_a_1 p0_a.length c_p0_a_1]) rfl ?_; clear hf hs; intro a w b1 hs hf
  have hs : St [] W w [.blk b1 46 [.slice A_p0_a_1 p0_a.length c_p0_a_1]] := hs
  refine sBox hf hs rfl rfl rfl rfl rfl (cs := [.slice A_p1_b_1 p1_b.length c_p1_b_1]) rfl ?_; clear hf hs; intro a w b2 hs hf
  have hs : St [] W w [.blk b1 46 [.slice A_p0_a_1 p0_a.length c_p0_a_1], .blk b2 46 [.slice A_p1_b_1 p1_b.length c_p1_b_1]] := hs
  refine sY hf hs rfl rfl rfl (Y_assign rfl rfl) ?_; clear hf; intro a hf
  refine wpO_nil ?_
  refine wpL_seq ?_
  refine wpL_drawG [.blk b1 46 [.slice A_p0_a_1 p0_a.length c_p0_a_1], .blk b2 46 [.slice A_p1_b_1 p1_b.length c_p1_b_1]] 9 (by kernel_rfl) hs ?_; clear hs; intro w hs
  have hs0 : St [] W w [.blk b1 46 [.slice A_p0_a_1 p0_a.length c_p0_a_1], .blk b2 46 [.slice A_p1_b_1 p1_b.length c_p1_b_1]] := hs
  refine gY (i := 0) [] rfl (by kernel_rfl) (by kernel_rfl) hf hs0 rfl rfl rfl (Y_load_blk rfl rfl (i := 0) rfl rfl ag46) ?_; clear hf; intro a hf
  refine gY (i := 1) [] rfl (by kernel_rfl) (by kernel_rfl) hf hs0 rfl rfl rfl (Y_lenH rfl rfl el46 rfl) ?_; clear hf; intro a hf
  refine gY (i := 2) [] rfl (by kernel_rfl) (by kernel_rfl) hf hs0 rfl rfl rfl (Y_load_blk rfl rfl (i := 0) rfl rfl ag46) ?_; clear hf; intro a hf
  obtain ⟨q19, hi20, hm⟩ := bind_some hm
  obtain ⟨hi20a, hi20b, hi20q⟩ := idx_some hi20
  obtain ⟨vs21, hv22, hr23⟩ := id h_p0_a_1
  obtain ⟨A24, c25, hv26, hR27⟩ := hr23 _ _ hi20q
  refine gY (i := 3) [] rfl (by kernel_rfl) (by kernel_rfl) hf hs0 rfl rfl rfl (Y_index rfl rfl rfl el46 ti23 (Rd.isAt hv22 hv26) hi20a hi20b) ?_; clear hf; intro a hf
  refine gY (i := 4) [] rfl (by kernel_rfl) (by kernel_rfl) hf hs0 rfl rfl rfl (Y_load_rd rfl rfl (fun w hs => hv22.at hs) (at1 hv26) ag23) ?_; clear hf; intro a hf
  refine gY (i := 5) [] rfl (by kernel_rfl) (by kernel_rfl) hf hs0 rfl rfl rfl (Y_lenH rfl rfl el23 rfl) ?_; clear hf; intro a hf
  refine gY (i := 6) [] rfl (by kernel_rfl) (by kernel_rfl) hf hs0 rfl rfl rfl (Y_makeFunc (us := []) (vs := [.pointer (some ⟨b1, 0, none⟩), .pointer (some ⟨b2, 0, none⟩)]) rfl rfl rfl) ?_; clear hf; intro a hf
  refine gRun (i := 7) rfl (by kernel_rfl) ?_
  obtain ⟨r28, hc29, hm⟩ := bind_some hm
  refine sCall hf rfl rfl rfl rfl (cap := []) rfl rfl en94 (impl_matrixBy_ok F (p0_a.length : Int) (q19.length : Int) (fun x0 x1 => impl_addMatrices_c1 F x0 x1 p0_a p1_b) 179 ([.pointer (some ⟨b1, 0, none⟩), .pointer (some ⟨b2, 0, none⟩)]) _ _ hc29 (fun x0 x1 r w' hm_ hb => impl_addMatrices_c1_ok F x0 x1 b1 p0_a A_p0_a_1 p0_a.length c_p0_a_1 rfl b2 p1_b A_p1_b_1 p1_b.length c_p1_b_1 rfl r w' hm_ ((h_p0_a_1.at hs).below hb (Nat.le_refl _)) ((hs.pb (i := 0) rfl).below hb (Nat.le_refl _)) ((h_p1_b_1.at hs).below hb (Nat.le_refl _)) ((hs.pb (i := 1) rfl).below hb (Nat.le_refl _))) en179) ?_; clear hf
  rintro _ w ⟨A30, n31, c32, vs34, rfl, hn33, hs1⟩ a hf
  have hs : St [] W w [.blk b1 46 [.slice A_p0_a_1 p0_a.length c_p0_a_1], .blk b2 46 [.slice A_p1_b_1 p1_b.length c_p1_b_1], .mat A30 n31 c32 23 2 vs34 r28] := hs.join hs1
  clear hs1
  have hs0 : St [] W w [.blk b1 46 [.slice A_p0_a_1 p0_a.length c_p0_a_1], .blk b2 46 [.slice A_p1_b_1 p1_b.length c_p1_b_1]] := hs.sel [0, 1] (by decide)
  refine wpO_nil ⟨Or.inr hs0, ?_⟩
  refine gY (i := 8) [] rfl (by kernel_rfl) (by kernel_rfl) hf hs0 rfl rfl rfl (Y_assign rfl rfl) ?_; clear hf; intro a hf
  refine gDone (by kernel_rfl) ?_
  clear hs0
  obtain rfl := Option.some.inj hm
  refine wpL_ret (ret_tmp rfl hf rfl ?_)
  exact ⟨_, rfl, A30, n31, c32, vs34, rfl, hn33, hs.sel [2] (by decide)⟩

set_option maxRecDepth 100000 in
theorem impl_sumOfModes_ok (F : Nat) (p0_modes : List (List (List Int))) (A_p0_modes_1 : Option Addr) (n_p0_modes_1 c_p0_modes_1 : Nat) (hn_p0_modes_1 : n_p0_modes_1 = p0_modes.length) (r : List (List Int)) (W : World) (hm : impl_sumOfModes F p0_modes = some r) (h_p0_modes_1 : RdC W A_p0_modes_1 p0_modes) (hcap_h_p0_modes_1 : n_p0_modes_1 ≤ c_p0_modes_1) :
    Calls Try.prog 70 [.slice A_p0_modes_1 n_p0_modes_1 c_p0_modes_1].toArray W fun e w' => ∃ v, e = .returned v ∧ ∃ A111, ∃ n112, ∃ c113, ∃ vs115, v = .slice A111 n112 c113 ∧ n112 = r.length ∧ St [] W w' [.mat A111 n112 c113 23 2 vs115 r] := by
  subst hn_p0_modes_1
  unfold impl_sumOfModes at hm
  refine Calls.enter (N := 22) Try.func70 rfl rfl rfl (fun a hf => ?_)
  have hs := St.start W
  obtain ⟨w, hw_⟩ : ∃ w, w = W := ⟨W, rfl⟩
  clear hw_ w
  refine wpL_seq ?_
  refine wpL_region ?_
  refine sY hf hs rfl rfl rfl (Y_assign rfl rfl) ?_; clear hf; intro a hf
  refine wpO_nil ?_
  refine wpL_seq ?_
  refine wpL_region ?_
  refine sY hf hs rfl rfl rfl (Y_move rfl rfl) ?_; clear hf; intro a hf
  obtain ⟨q1, hi2, hm⟩ := bind_some hm
  obtain ⟨hi2a, hi2b, hi2q⟩ := idx_some hi2
  obtain ⟨vs3, hv4, hr5⟩ := id h_p0_modes_1
  obtain ⟨A6, c7, hv8, hR9⟩ := hr5 _ _ hi2q
  refine sY hf hs rfl rfl rfl (Y_index rfl rfl rfl el22 ti46 (Rd.isAt hv4 hv8) hi2a hi2b) ?_; clear hf; intro a hf
  refine sY hf hs rfl rfl rfl (Y_load_rd rfl rfl (fun w hs => hv4.at hs) (at1 hv8) ag46) ?_; clear hf; intro a hf
  obtain ⟨r10, hc11, hm⟩ := bind_some hm
  refine sCall hf rfl rfl rfl rfl (cap := []) rfl rfl en140 (impl_cloneMatrix_ok F q1 A6 q1.length c7 rfl _ _ hc11 (hR9.at hs)) ?_; clear hf
  rintro _ w ⟨A12, n13, c14, vs16, rfl, hn15, hs1⟩ a hf
  have hs : St [] W w [.mat A12 n13 c14 23 2 vs16 r10] := hs.join hs1
  clear hs1
  refine sY hf hs rfl rfl rfl (Y_assign rfl rfl) ?_; clear hf; intro a hf
  refine wpO_nil ?_
  refine wpL_seq ?_
  refine wpL_seq ?_
  refine wpL_region ?_
  refine sY hf hs rfl rfl rfl (Y_move rfl rfl) ?_; clear hf; intro a hf
  obtain ⟨ms18, hk17, hm⟩ := bind_some hm
  refine sY hf hs rfl rfl rfl (Y_sliceL rfl rfl rfl (cutFrom_some hk17).1 (leN rfl (cutFrom_some hk17).2.1) el22 ti46) ?_; clear hf; intro a hf
  refine sY hf hs rfl rfl rfl (Y_lenH rfl rfl el22 (cut_len rfl hk17)) ?_; clear hf; intro a hf
  refine sY hf hs rfl rfl rfl (Y_move rfl rfl) ?_; clear hf; intro a hf
  refine wpO_nil ?_
  obtain ⟨r90, hl91, hm⟩ := bind_some hm
  refine wpL_block (fun a w => ∃ ms84 : List (List Int), ∃ A85, ∃ n86, ∃ c87, ∃ vs89, ms84 = r90 ∧ n86 = ms84.length ∧ Fr a 22 [(3, .slice A85 n86 c87)] ∧ St [] W w [.mat A85 n86 c87 23 2 vs89 ms84]) ?_ ?_
  · refine wpL_loop (fun n a w => ∃ ms60 : List (List Int), ∃ x66 : Int, ∃ A61, ∃ n62, ∃ c63, ∃ vs65, impl_sumOfModes_L1 F ms18 n ms60 x66 = some r90 ∧ n62 = ms60.length ∧ Fr a 22 [(3, .slice A61 n62 c63), (11, .slice (cutA A_p0_modes_1 c_p0_modes_1 (1 : Int).toNat 1) (p0_modes.length - (1 : Int).toNat) (c_p0_modes_1 - (1 : Int).toNat)), (12, .int .i64 (ms18.length : Int)), (13, .int .i64 x66)] ∧ St [] W w [.mat A61 n62 c63 23 2 vs65 ms60]) F ?_ ?_ ?_
    · exact ⟨r10, 0, A12, n13, c14, vs16, hl91, hn15, (Fr.pick (Fr.pick (Fr.pick (Fr.pick hf.none hf rfl) hf rfl) hf rfl) hf rfl), hs⟩
    · rintro a w ⟨ms60, x66, A61, n62, c63, vs65, h0_, -, -, -⟩; simp [impl_sumOfModes_L1] at h0_
    · rintro n93 a w ⟨ms60, x66, A61, n62, c63, vs65, hm92, hn64, hf, hs⟩
      rw [impl_sumOfModes_L1] at hm92
      refine wpL_seq ?_
      refine wpL_region ?_
      refine sY hf hs rfl rfl rfl (Y_lss rfl rfl rfl) ?_; clear hf; intro a hf
      refine wpO_nil ?_
      refine wpL_seq ?_
      refine wpL_cond hf rfl (fun hb94 => ?_) (fun hb94 => ?_)
      · have hm92 := bif_t hm92 hb94
        refine wpL_skip ?_
        refine wpL_seq ?_
        refine wpL_block0 ?_
        refine wpL_seq ?_
        refine wpL_region ?_
        obtain ⟨q95, hi96, hm92⟩ := bind_some hm92
        obtain ⟨hi96a, hi96b, hi96q⟩ := idx_some hi96
        obtain ⟨vs97, hv98, hr99⟩ := id (RdC.cut h_p0_modes_1 rfl hcap_h_p0_modes_1 hk17)
        obtain ⟨A100, c101, hv102, hR103⟩ := hr99 _ _ hi96q
        refine sY hf hs rfl rfl rfl (Y_index rfl rfl rfl el22 ti46 (Rd.isAt hv98 hv102) hi96a (ltn (cut_len rfl hk17) hi96b)) ?_; clear hf; intro a hf
        refine sY hf hs rfl rfl rfl (Y_load_rd rfl rfl (fun w hs => hv98.at hs) (at1 hv102) ag46) ?_; clear hf; intro a hf
        refine sY hf hs rfl rfl rfl (Y_assign rfl rfl) ?_; clear hf; intro a hf
        refine wpO_nil ?_
        refine wpL_region ?_
        refine sY hf hs rfl rfl rfl (Y_move rfl rfl) ?_; clear hf; intro a hf
        refine sY hf hs rfl rfl rfl (Y_move rfl rfl) ?_; clear hf; intro a hf
        obtain ⟨r104, hc105, hm92⟩ := bind_some hm92
        refine sCall hf rfl rfl rfl rfl (cap := []) rfl rfl en141 (impl_addMatrices_ok F ms60 A61 n62 c63 hn64 q95 A100 q95.length c101 rfl _ _ hc105 (hs.rdM (i := 0) rfl) (hR103.at hs)) ?_; clear hf
        rintro _ w ⟨A106, n107, c108, vs110, rfl, hn109, hs1⟩ a hf
        have hs : St [] W w [.mat A61 n62 c63 23 2 vs65 ms60, .mat A106 n107 c108 23 2 vs110 r104] := hs.join hs1
        clear hs1
        refine sY hf hs rfl rfl rfl (Y_assign rfl rfl) ?_; clear hf; intro a hf
        refine wpO_nil ?_
        refine wpL_nil (Qb_normal ?_)
        refine wpL_region ?_
        refine sY hf hs rfl rfl rfl (Y_add rfl rfl rfl) ?_; clear hf; intro a hf
        refine sY hf hs rfl rfl rfl (Y_move rfl rfl) ?_; clear hf; intro a hf
        refine wpO_nil ?_
        refine wpL_nil (Ql_normal ?_)
        exact ⟨r104, (IntKind.i64.wrap (x66 + 1)), A106, n107, c108, vs110, hm92, hn109, (Fr.pick (Fr.pick (Fr.pick (Fr.pick hf.none hf rfl) hf rfl) hf rfl) hf rfl), hs.sel [1] (by decide)⟩
      · have hm92 := bif_f hm92 hb94
        refine wpL_exit (Ql_exit (Qb_exit ?_))
        exact ⟨ms60, A61, n62, c63, vs65, Option.some.inj hm92, hn64, (Fr.pick hf.none hf rfl), hs⟩
  · rintro a w ⟨ms84, A85, n86, c87, vs89, hr_, hn88, hf, hs⟩
    subst hr_
    try dsimp only at hm
    refine wpL_seq ?_
    refine wpL_region ?_
    refine sY hf hs rfl rfl rfl (Y_move rfl rfl) ?_; clear hf; intro a hf
    refine sY hf hs rfl rfl rfl (Y_assign rfl rfl) ?_; clear hf; intro a hf
    refine wpO_nil ?_
    obtain rfl := Option.some.inj hm
    refine wpL_ret (ret_tmp rfl hf rfl ?_)
    exact ⟨_, rfl, A85, n86, c87, vs89, rfl, hn88, hs⟩

set_option maxRecDepth 100000 in
theorem impl_times_ok (F : Nat) (p0_a : Int) (p1_b : Int) (r : Int) (W : World) (hm : impl_times F p0_a p1_b = some r) :
    Calls Try.prog 114 [.int .i64 p0_a, .int .i64 p1_b].toArray W fun e w' => ∃ v, e = .returned v ∧ v = .int .i64 r ∧ St [] W w' [] := by
  unfold impl_times at hm
  refine Calls.enter (N := 14) Try.func114 rfl rfl rfl (fun a hf => ?_)
  have hs := St.start W
  obtain ⟨w, hw_⟩ : ∃ w, w = W := ⟨W, rfl⟩
  clear hw_ w
  refine wpL_seq ?_
  refine wpL_region ?_
  refine sY hf hs rfl rfl rfl (Y_assign rfl rfl) ?_; clear hf; intro a hf
  refine wpO_nil ?_
  refine wpL_seq ?_
  refine wpL_seq ?_
  obtain ⟨r3, hj4, hm⟩ := bind_some hm
  refine wpL_cut (fun a w => ∃ b2 : Bool, b2 = r3 ∧ Fr a 14 [(0, .int .i64 p0_a), (1, .int .i64 p1_b), (10, .bool b2)] ∧ St [] W w []) ?_ ?_
  · refine wpL_region ?_
    refine sY hf hs rfl rfl rfl (Y_move rfl rfl) ?_; clear hf; intro a hf
    refine sY hf hs rfl rfl rfl (Y_eql rfl rfl rfl) ?_; clear hf; intro a hf
    refine sY hf hs rfl rfl rfl (Y_move rfl rfl) ?_; clear hf; intro a hf
    refine bsplit (p0_a == (-1000000000000000)) (fun hb5 => ?_) (fun hb5 => ?_)
    · have hj4 := bif_t hj4 hb5
      refine sNo hf rfl rfl rfl (congrArg (fun b => some (Value.bool b)) hb5) rfl rfl rfl ?_; clear hf; intro a hf
      refine sNo hf rfl rfl rfl (congrArg (fun b => some (Value.bool b)) hb5) rfl rfl rfl ?_; clear hf; intro a hf
      refine sY hf hs rfl rfl rfl (Y_pickT rfl (congrArg (fun b => some (Value.bool b)) hb5) rfl) ?_; clear hf; intro a hf
      refine wpO_nil ?_
      refine wpL_nil (then_normal ?_)
      exact ⟨true, Option.some.inj hj4, (Fr.pick (Fr.pick (Fr.pick hf.none hf rfl) hf rfl) hf rfl), hs⟩
    · have hj4 := bif_f hj4 hb5
      refine sYg hf hs rfl rfl rfl (congrArg (fun b => some (Value.bool b)) hb5) rfl rfl rfl (Y_move rfl rfl) ?_; clear hf; intro a hf
      refine sYg hf hs rfl rfl rfl (congrArg (fun b => some (Value.bool b)) hb5) rfl rfl rfl (Y_eql rfl rfl rfl) ?_; clear hf; intro a hf
      refine sY hf hs rfl rfl rfl (Y_pickF rfl (congrArg (fun b => some (Value.bool b)) hb5) rfl) ?_; clear hf; intro a hf
      refine wpO_nil ?_
      refine wpL_nil (then_normal ?_)
      exact ⟨(p1_b == (-1000000000000000)), Option.some.inj hj4, (Fr.pick (Fr.pick (Fr.pick hf.none hf rfl) hf rfl) hf rfl), hs⟩
  · rintro a w ⟨b2, hr_, hf, hs⟩
    subst hr_
    try dsimp only at hm
    refine wpL_cond hf rfl (fun hb6 => ?_) (fun hb6 => ?_)
    · have hm := bif_t hm hb6
      refine wpL_seq ?_
      refine wpL_region ?_
      refine sY hf hs rfl rfl rfl (Y_assign rfl rfl) ?_; clear hf; intro a hf
      refine wpO_nil ?_
      obtain rfl := Option.some.inj hm
      refine wpL_ret (ret_tmp rfl hf rfl ?_)
      exact ⟨_, rfl, rfl, hs⟩
    · have hm := bif_f hm hb6
      refine wpL_skip ?_
      refine wpL_seq ?_
      refine wpL_region ?_
      refine sY hf hs rfl rfl rfl (Y_move rfl rfl) ?_; clear hf; intro a hf
      refine sY hf hs rfl rfl rfl (Y_move rfl rfl) ?_; clear hf; intro a hf
      refine sY hf hs rfl rfl rfl (Y_add rfl rfl rfl) ?_; clear hf; intro a hf
      refine sY hf hs rfl rfl rfl (Y_assign rfl rfl) ?_; clear hf; intro a hf
      refine wpO_nil ?_
      obtain rfl := Option.some.inj hm
      refine wpL_ret (ret_tmp rfl hf rfl ?_)
      exact ⟨_, rfl, rfl, hs⟩

set_option maxRecDepth 100000 in
theorem impl_timesVector_ok (F : Nat) (p0_a : List (List Int)) (A_p0_a_1 : Option Addr) (n_p0_a_1 c_p0_a_1 : Nat) (hn_p0_a_1 : n_p0_a_1 = p0_a.length) (p1_x : List Int) (A_p1_x_1 : Option Addr) (n_p1_x_1 c_p1_x_1 : Nat) (hn_p1_x_1 : n_p1_x_1 = p1_x.length) (r : List Int) (W : World) (hm : impl_timesVector F p0_a p1_x = some r) (h_p0_a_1 : RdM W A_p0_a_1 p0_a) (h_p1_x_1 : Rd W A_p1_x_1 (ints p1_x)) :
    Calls Try.prog 72 [.slice A_p0_a_1 n_p0_a_1 c_p0_a_1, .slice A_p1_x_1 n_p1_x_1 c_p1_x_1].toArray W fun e w' => ∃ v, e = .returned v ∧ ∃ A488, ∃ n489, ∃ c490, v = .slice A488 n489 c490 ∧ n489 = r.length ∧ St [] W w' [.row A488 n489 c490 2 1 (ints r)] := by
  subst hn_p0_a_1
  subst hn_p1_x_1
  unfold impl_timesVector at hm
  refine Calls.enter (N := 47) Try.func72 rfl rfl rfl (fun a hf => ?_)
  have hs := St.start W
  obtain ⟨w, hw_⟩ : ∃ w, w = W := ⟨W, rfl⟩
  clear hw_ w
  refine wpL_seq ?_
  refine wpL_region ?_
  refine sY hf hs rfl rfl rfl (Y_assign rfl rfl) ?_; clear hf; intro a hf
  refine wpO_nil ?_
  refine wpL_seq ?_
  refine wpL_region ?_
  refine sY hf hs rfl rfl rfl (Y_move rfl rfl) ?_; clear hf; intro a hf
  refine sY hf hs rfl rfl rfl (Y_lenH rfl rfl el46 rfl) ?_; clear hf; intro a hf
  obtain ⟨xs3, hk2, hm⟩ := bind_some hm
  refine sMakeL (enc := ints) hf hs rfl rfl rfl rfl rfl hk2 el23 ti2 rfl ints_made ?_; clear hf hs; intro a w A1 hs hf
  have hs : St [] W w [.row A1 xs3.length xs3.length 2 1 (ints xs3)] := hs
  refine sY hf hs rfl rfl rfl (Y_assign rfl rfl) ?_; clear hf; intro a hf
  refine wpO_nil ?_
  refine wpL_seq ?_
  refine wpL_seq ?_
  refine wpL_region ?_
  refine sY hf hs rfl rfl rfl (Y_move rfl rfl) ?_; clear hf; intro a hf
  refine sY hf hs rfl rfl rfl (Y_lenH rfl rfl el46 rfl) ?_; clear hf; intro a hf
  refine sY hf hs rfl rfl rfl (Y_move rfl rfl) ?_; clear hf; intro a hf
  refine wpO_nil ?_
  obtain ⟨r366, hl367, hm⟩ := bind_some hm
  refine wpL_block (fun a w => ∃ xs364 : List Int, xs364 = r366 ∧ xs3.length = xs364.length ∧ Fr a 47 [(5, .slice A1 xs3.length xs3.length)] ∧ St [] W w [.row A1 xs3.length xs3.length 2 1 (ints xs364)]) ?_ ?_
  · refine wpL_loop (fun n a w => ∃ xs243 : List Int, ∃ x245 : Int, impl_timesVector_L4 F p0_a p1_x n xs243 x245 = some r366 ∧ xs3.length = xs243.length ∧ Fr a 47 [(1, .slice A_p1_x_1 p1_x.length c_p1_x_1), (5, .slice A1 xs3.length xs3.length), (13, .slice A_p0_a_1 p0_a.length c_p0_a_1), (14, .int .i64 (p0_a.length : Int)), (15, .int .i64 x245)] ∧ St [] W w [.row A1 xs3.length xs3.length 2 1 (ints xs243)]) F ?_ ?_ ?_
    · exact ⟨xs3, 0, hl367, rfl, (Fr.pick (Fr.pick (Fr.pick (Fr.pick (Fr.pick hf.none hf rfl) hf rfl) hf rfl) hf rfl) hf rfl), hs⟩
    · rintro a w ⟨xs243, x245, h0_, -, -, -⟩; simp [impl_timesVector_L4] at h0_
    · rintro n369 a w ⟨xs243, x245, hm368, hn244, hf, hs⟩
      rw [impl_timesVector_L4] at hm368
      refine wpL_seq ?_
      refine wpL_region ?_
      refine sY hf hs rfl rfl rfl (Y_lss rfl rfl rfl) ?_; clear hf; intro a hf
      refine wpO_nil ?_
      refine wpL_seq ?_
      refine wpL_cond hf rfl (fun hb370 => ?_) (fun hb370 => ?_)
      · have hm368 := bif_t hm368 hb370
        refine wpL_skip ?_
        refine wpL_seq ?_
        refine wpL_block0 ?_
        refine wpL_seq ?_
        refine wpL_region ?_
        refine sY hf hs rfl rfl rfl (Y_move rfl rfl) ?_; clear hf; intro a hf
        obtain ⟨q371, hi372, hm368⟩ := bind_some hm368
        obtain ⟨hi372a, hi372b, hi372q⟩ := idx_some hi372
        obtain ⟨vs373, hv374, hr375⟩ := id h_p0_a_1
        obtain ⟨A376, c377, hv378, hR379⟩ := hr375 _ _ hi372q
        refine sY hf hs rfl rfl rfl (Y_index rfl rfl rfl el46 ti23 (Rd.isAt hv374 hv378) hi372a hi372b) ?_; clear hf; intro a hf
        refine sY hf hs rfl rfl rfl (Y_load_rd rfl rfl (fun w hs => hv374.at hs) (at1 hv378) ag23) ?_; clear hf; intro a hf
        refine sY hf hs rfl rfl rfl (Y_assign rfl rfl) ?_; clear hf; intro a hf
        refine sY hf hs rfl rfl rfl (Y_assign rfl rfl) ?_; clear hf; intro a hf
        refine wpO_nil ?_
        refine wpL_seq ?_
        refine wpL_region ?_
        refine sY hf hs rfl rfl rfl (Y_move rfl rfl) ?_; clear hf; intro a hf
        refine sY hf hs rfl rfl rfl (Y_move rfl rfl) ?_; clear hf; intro a hf
        obtain ⟨q380, hi381, hm368⟩ := bind_some hm368
        obtain ⟨hi381a, hi381b, hi381q⟩ := idx_some hi381
        refine sY hf hs rfl rfl rfl (Y_index rfl rfl rfl el23 ti2 (Rd.isAt (hs.rd (i := 0) rfl) (at1 (ints_at hi381q))) hi381a (ltn hn244 hi381b)) ?_; clear hf; intro a hf
        obtain ⟨xs382, hu383, hm368⟩ := bind_some hm368
        refine sStoreL (i := 0) (us := [.int .i64 (-1000000000000000)]) (enc := ints) hf hs rfl rfl rfl rfl rfl rfl hn244 hu383 ti2 rfl rfl rfl rfl rfl ints_len1 (ints_set (-1000000000000000)) ?_; clear hs; intro w hs
        have hs : St [] W w [.row A1 xs3.length xs3.length 2 1 (ints xs382)] := hs
        refine wpO_nil ?_
        refine wpL_seq ?_
        refine wpL_region ?_
        refine sY hf hs rfl rfl rfl (Y_move rfl rfl) ?_; clear hf; intro a hf
        refine sY hf hs rfl rfl rfl (Y_lenH rfl rfl el23 rfl) ?_; clear hf; intro a hf
        refine sY hf hs rfl rfl rfl (Y_move rfl rfl) ?_; clear hf; intro a hf
        refine wpO_nil ?_
        obtain ⟨r461, hl462, hm368⟩ := bind_some hm368
        refine wpL_block (fun a w => ∃ xs459 : List Int, xs459 = r461 ∧ xs3.length = xs459.length ∧ Fr a 47 [(1, .slice A_p1_x_1 p1_x.length c_p1_x_1), (5, .slice A1 xs3.length xs3.length), (13, .slice A_p0_a_1 p0_a.length c_p0_a_1), (14, .int .i64 (p0_a.length : Int)), (15, .int .i64 x245)] ∧ St [] W w [.row A1 xs3.length xs3.length 2 1 (ints xs459)]) ?_ ?_
        · refine wpL_loop (fun n a w => ∃ xs433 : List Int, ∃ x435 : Int, impl_timesVector_L5 F p1_x x245 q371 n xs433 x435 = some r461 ∧ xs3.length = xs433.length ∧ Fr a 47 [(1, .slice A_p1_x_1 p1_x.length c_p1_x_1), (5, .slice A1 xs3.length xs3.length), (6, .int .i64 x245), (13, .slice A_p0_a_1 p0_a.length c_p0_a_1), (14, .int .i64 (p0_a.length : Int)), (15, .int .i64 x245), (23, .slice A376 q371.length c377), (24, .int .i64 (q371.length : Int)), (25, .int .i64 x435)] ∧ St [] W w [.row A1 xs3.length xs3.length 2 1 (ints xs433)]) F ?_ ?_ ?_
          · exact ⟨xs382, 0, hl462, ((hn244).trans (upd_len hu383).symm), (Fr.pick (Fr.pick (Fr.pick (Fr.pick (Fr.pick (Fr.pick (Fr.pick (Fr.pick (Fr.pick hf.none hf rfl) hf rfl) hf rfl) hf rfl) hf rfl) hf rfl) hf rfl) hf rfl) hf rfl), hs⟩
          · rintro a w ⟨xs433, x435, h0_, -, -, -⟩; simp [impl_timesVector_L5] at h0_
          · rintro n464 a w ⟨xs433, x435, hm463, hn434, hf, hs⟩
            rw [impl_timesVector_L5] at hm463
            refine wpL_seq ?_
            refine wpL_region ?_
            refine sY hf hs rfl rfl rfl (Y_lss rfl rfl rfl) ?_; clear hf; intro a hf
            refine wpO_nil ?_
            refine wpL_seq ?_
            refine wpL_cond hf rfl (fun hb465 => ?_) (fun hb465 => ?_)
            · have hm463 := bif_t hm463 hb465
              refine wpL_skip ?_
              refine wpL_seq ?_
              refine wpL_block0 ?_
              refine wpL_seq ?_
              refine wpL_region ?_
              refine sY hf hs rfl rfl rfl (Y_move rfl rfl) ?_; clear hf; intro a hf
              obtain ⟨q466, hi467, hm463⟩ := bind_some hm463
              obtain ⟨hi467a, hi467b, hi467q⟩ := idx_some hi467
              refine sY hf hs rfl rfl rfl (Y_index rfl rfl rfl el23 ti2 (Rd.isAt (hR379.at hs) (at1 (ints_at hi467q))) hi467a hi467b) ?_; clear hf; intro a hf
              refine sY hf hs rfl rfl rfl (Y_load_rd rfl rfl (fun w hs => hR379.at hs) (at1 (ints_at hi467q)) ag2) ?_; clear hf; intro a hf
              refine sY hf hs rfl rfl rfl (Y_assign rfl rfl) ?_; clear hf; intro a hf
              refine sY hf hs rfl rfl rfl (Y_assign rfl rfl) ?_; clear hf; intro a hf
              refine wpO_nil ?_
              refine wpL_drawG [.row A1 xs3.length xs3.length 2 1 (ints xs433)] 14 (by kernel_rfl) hs ?_; clear hs; intro w hs
              have hs0 : St [] W w [.row A1 xs3.length xs3.length 2 1 (ints xs433)] := hs
              refine gY (i := 0) [] rfl (by kernel_rfl) (by kernel_rfl) hf hs0 rfl rfl rfl (Y_move rfl rfl) ?_; clear hf; intro a hf
              refine gY (i := 1) [] rfl (by kernel_rfl) (by kernel_rfl) hf hs0 rfl rfl rfl (Y_move rfl rfl) ?_; clear hf; intro a hf
              refine gY (i := 2) [] rfl (by kernel_rfl) (by kernel_rfl) hf hs0 rfl rfl rfl (Y_move rfl rfl) ?_; clear hf; intro a hf
              refine gY (i := 3) [] rfl (by kernel_rfl) (by kernel_rfl) hf hs0 rfl rfl rfl (Y_move rfl rfl) ?_; clear hf; intro a hf
              obtain ⟨q478, hi479, hm463⟩ := bind_some hm463
              obtain ⟨hi479a, hi479b, hi479q⟩ := idx_some hi479
              refine gY (i := 4) [] rfl (by kernel_rfl) (by kernel_rfl) hf hs0 rfl rfl rfl (Y_index rfl rfl rfl el23 ti2 (Rd.isAt (hs0.rd (i := 0) rfl) (at1 (ints_at hi479q))) hi479a (ltn hn434 hi479b)) ?_; clear hf; intro a hf
              refine gY (i := 5) [] rfl (by kernel_rfl) (by kernel_rfl) hf hs0 rfl rfl rfl (Y_load_rd rfl rfl (fun w hs => hs.rd (i := 0) rfl) (at1 (ints_at hi479q)) ag2) ?_; clear hf; intro a hf
              refine gY (i := 6) [] rfl (by kernel_rfl) (by kernel_rfl) hf hs0 rfl rfl rfl (Y_move rfl rfl) ?_; clear hf; intro a hf
              refine gY (i := 7) [] rfl (by kernel_rfl) (by kernel_rfl) hf hs0 rfl rfl rfl (Y_move rfl rfl) ?_; clear hf; intro a hf
              refine gY (i := 8) [] rfl (by kernel_rfl) (by kernel_rfl) hf hs0 rfl rfl rfl (Y_move rfl rfl) ?_; clear hf; intro a hf
              obtain ⟨q480, hi481, hm463⟩ := bind_some hm463
              obtain ⟨hi481a, hi481b, hi481q⟩ := idx_some hi481
              refine gY (i := 9) [] rfl (by kernel_rfl) (by kernel_rfl) hf hs0 rfl rfl rfl (Y_index rfl rfl rfl el23 ti2 (Rd.isAt (h_p1_x_1.at hs0) (at1 (ints_at hi481q))) hi481a hi481b) ?_; clear hf; intro a hf
              refine gY (i := 10) [] rfl (by kernel_rfl) (by kernel_rfl) hf hs0 rfl rfl rfl (Y_load_rd rfl rfl (fun w hs => h_p1_x_1.at hs) (at1 (ints_at hi481q)) ag2) ?_; clear hf; intro a hf
              refine gRun (i := 11) rfl (by kernel_rfl) ?_
              obtain ⟨r482, hc483, hm463⟩ := bind_some hm463
              refine sCall hf rfl rfl rfl rfl (cap := []) rfl rfl en114 (impl_times_ok F q466 q480 _ _ hc483) ?_; clear hf
              rintro _ w ⟨rfl, hs1⟩ a hf
              have hs : St [] W w [.row A1 xs3.length xs3.length 2 1 (ints xs433)] := hs.ext hs1.below
              clear hs1
              have hs0 : St [] W w [.row A1 xs3.length xs3.length 2 1 (ints xs433)] := hs
              refine wpO_nil ⟨Or.inr hs0, ?_⟩
              refine gY (i := 12) [] rfl (by kernel_rfl) (by kernel_rfl) hf hs0 rfl rfl rfl (Y_max rfl rfl rfl) ?_; clear hf; intro a hf
              obtain ⟨q484, hi485, hm463⟩ := bind_some hm463
              obtain ⟨hi485a, hi485b, hi485q⟩ := idx_some hi485
              refine gY (i := 13) [] rfl (by kernel_rfl) (by kernel_rfl) hf hs0 rfl rfl rfl (Y_index rfl rfl rfl el23 ti2 (Rd.isAt (hs0.rd (i := 0) rfl) (at1 (ints_at hi485q))) hi485a (ltn hn434 hi485b)) ?_; clear hf; intro a hf
              refine gRun (i := 14) rfl (by kernel_rfl) ?_
              obtain ⟨xs486, hu487, hm463⟩ := bind_some hm463
              refine sStoreL (i := 0) (us := [.int .i64 (max q478 r482)]) (enc := ints) hf hs rfl rfl rfl rfl rfl rfl hn434 hu487 ti2 rfl rfl rfl rfl rfl ints_len1 (ints_set (max q478 r482)) ?_; clear hs; intro w hs
              have hs : St [] W w [.row A1 xs3.length xs3.length 2 1 (ints xs486)] := hs
              refine wpO_nil ⟨Or.inl rfl, ?_⟩
              refine gDone (by kernel_rfl) ?_
              clear hs0
              refine wpL_nil (Qb_normal ?_)
              refine wpL_region ?_
              refine sY hf hs rfl rfl rfl (Y_add rfl rfl rfl) ?_; clear hf; intro a hf
              refine sY hf hs rfl rfl rfl (Y_move rfl rfl) ?_; clear hf; intro a hf
              refine wpO_nil ?_
              refine wpL_nil (Ql_normal ?_)
              exact ⟨xs486, (IntKind.i64.wrap (x435 + 1)), hm463, ((hn434).trans (upd_len hu487).symm), (Fr.pick (Fr.pick (Fr.pick (Fr.pick (Fr.pick (Fr.pick (Fr.pick (Fr.pick (Fr.pick hf.none hf rfl) hf rfl) hf rfl) hf rfl) hf rfl) hf rfl) hf rfl) hf rfl) hf rfl), hs⟩
            · have hm463 := bif_f hm463 hb465
              refine wpL_exit (Ql_exit (Qb_exit ?_))
              exact ⟨xs433, Option.some.inj hm463, hn434, (Fr.pick (Fr.pick (Fr.pick (Fr.pick (Fr.pick hf.none hf rfl) hf rfl) hf rfl) hf rfl) hf rfl), hs⟩
        · rintro a w ⟨xs459, hr_, hn460, hf, hs⟩
          subst hr_
          try dsimp only at hm368
          refine wpL_nil (Qb_normal ?_)
          refine wpL_region ?_
          refine sY hf hs rfl rfl rfl (Y_add rfl rfl rfl) ?_; clear hf; intro a hf
          refine sY hf hs rfl rfl rfl (Y_move rfl rfl) ?_; clear hf; intro a hf
          refine wpO_nil ?_
          refine wpL_nil (Ql_normal ?_)
          exact ⟨xs459, (IntKind.i64.wrap (x245 + 1)), hm368, hn460, (Fr.pick (Fr.pick (Fr.pick (Fr.pick (Fr.pick hf.none hf rfl) hf rfl) hf rfl) hf rfl) hf rfl), hs⟩
      · have hm368 := bif_f hm368 hb370
        refine wpL_exit (Ql_exit (Qb_exit ?_))
        exact ⟨xs243, Option.some.inj hm368, hn244, (Fr.pick hf.none hf rfl), hs⟩
  · rintro a w ⟨xs364, hr_, hn365, hf, hs⟩
    subst hr_
    try dsimp only at hm
    refine wpL_seq ?_
    refine wpL_region ?_
    refine sY hf hs rfl rfl rfl (Y_move rfl rfl) ?_; clear hf; intro a hf
    refine sY hf hs rfl rfl rfl (Y_assign rfl rfl) ?_; clear hf; intro a hf
    refine wpO_nil ?_
    obtain rfl := Option.some.inj hm
    refine wpL_ret (ret_tmp rfl hf rfl ?_)
    exact ⟨_, rfl, A1, xs3.length, xs3.length, rfl, hn365, hs⟩

set_option maxRecDepth 100000 in
theorem impl_GreatestAfter_ok (F : Nat) (p0_modes : List (List (List Int))) (A_p0_modes_1 : Option Addr) (n_p0_modes_1 c_p0_modes_1 : Nat) (hn_p0_modes_1 : n_p0_modes_1 = p0_modes.length) (p1_x : List Int) (A_p1_x_1 : Option Addr) (n_p1_x_1 c_p1_x_1 : Nat) (hn_p1_x_1 : n_p1_x_1 = p1_x.length) (p2_n : Int) (r : List Int × Int) (W : World) (hm : impl_GreatestAfter F p0_modes p1_x p2_n = some r) (h_p0_modes_1 : RdC W A_p0_modes_1 p0_modes) (hcap_h_p0_modes_1 : n_p0_modes_1 ≤ c_p0_modes_1) (h_p1_x_1 : Rd W A_p1_x_1 (ints p1_x)) :
    Calls Try.prog 18 [.slice A_p0_modes_1 n_p0_modes_1 c_p0_modes_1, .slice A_p1_x_1 n_p1_x_1 c_p1_x_1, .int .i64 p2_n].toArray W fun e w' => ∃ v, e = .returned v ∧ ∃ A84, ∃ n85, ∃ c86, v = .tuple #[.slice A84 n85 c86, .int .i64 r.2] ∧ n85 = r.1.length ∧ St [] W w' [.row A84 n85 c86 2 1 (ints r.1)] := by
  subst hn_p0_modes_1
  subst hn_p1_x_1
  unfold impl_GreatestAfter at hm
  refine Calls.enter (N := 34) Try.func18 rfl rfl rfl (fun a hf => ?_)
  have hs := St.start W
  obtain ⟨w, hw_⟩ : ∃ w, w = W := ⟨W, rfl⟩
  clear hw_ w
  refine wpL_seq ?_
  refine wpL_region ?_
  refine sY hf hs rfl rfl rfl (Y_assign rfl rfl) ?_; clear hf; intro a hf
  refine sY hf hs rfl rfl rfl (Y_assign rfl rfl) ?_; clear hf; intro a hf
  refine wpO_nil ?_
  refine wpL_seq ?_
  refine wpL_seq ?_
  refine wpL_region ?_
  refine sY hf hs rfl rfl rfl (Y_move rfl rfl) ?_; clear hf; intro a hf
  refine sY hf hs rfl rfl rfl (Y_move rfl rfl) ?_; clear hf; intro a hf
  obtain ⟨r1, hc2, hm⟩ := bind_some hm
  refine sCall hf rfl rfl rfl rfl (cap := []) rfl rfl en68 (impl_checkModes_ok F p0_modes A_p0_modes_1 p0_modes.length c_p0_modes_1 rfl p1_x A_p1_x_1 p1_x.length c_p1_x_1 rfl _ _ hc2 (h_p0_modes_1.at hs) (h_p1_x_1.at hs)) ?_; clear hf
  rintro _ w ⟨rfl, hs1⟩ a hf
  have hs : St [] W w [] := hs.ext hs1.below
  clear hs1
  refine sY hf hs rfl rfl rfl (Y_assign rfl rfl) ?_; clear hf; intro a hf
  refine wpO_nil ?_
  refine wpL_seq ?_
  refine wpL_region ?_
  refine sY hf hs rfl rfl rfl (Y_move rfl rfl) ?_; clear hf; intro a hf
  refine sY hf hs rfl rfl rfl (Y_neq rfl rfl rfl) ?_; clear hf; intro a hf
  refine wpO_nil ?_
  refine wpL_cond hf rfl (fun hb3 => ?_) (fun hb3 => ?_)
  · have hm := bif_t hm hb3
    refine wpL_seq ?_
    refine wpL_region ?_
    refine sY hf hs rfl rfl rfl (Y_move rfl rfl) ?_; clear hf; intro a hf
    refine sY hf hs rfl rfl rfl (Y_assign rfl rfl) ?_; clear hf; intro a hf
    refine sY hf hs rfl rfl rfl (Y_assign rfl rfl) ?_; clear hf; intro a hf
    refine wpO_nil ?_
    have hs : St [] W _ [.row none 0 0 2 1 (ints ([] : List Int))] := hs.addNil 2 1
    obtain rfl := Option.some.inj hm
    refine wpL_ret (ret_tmp2 rfl hf rfl rfl ?_)
    exact ⟨_, rfl, none, 0, 0, rfl, rfl, hs⟩
  · have hm := bif_f hm hb3
    refine wpL_skip ?_
    refine wpL_seq ?_
    refine wpL_seq ?_
    refine wpL_region ?_
    refine sY hf hs rfl rfl rfl (Y_move rfl rfl) ?_; clear hf; intro a hf
    obtain ⟨r5, hc6, hm⟩ := bind_some hm
    refine sCall hf rfl rfl rfl rfl (cap := []) rfl rfl en69 (impl_within_ok F p2_n 0 6 _ _ hc6) ?_; clear hf
    rintro _ w ⟨rfl, hs1⟩ a hf
    have hs : St [] W w [] := hs.ext hs1.below
    clear hs1
    refine sY hf hs rfl rfl rfl (Y_not rfl rfl) ?_; clear hf; intro a hf
    refine wpO_nil ?_
    refine wpL_cond hf rfl (fun hb7 => ?_) (fun hb7 => ?_)
    · have hm := bif_t hm hb7
      refine wpL_seq ?_
      refine wpL_region ?_
      refine sY hf hs rfl rfl rfl (Y_assign rfl rfl) ?_; clear hf; intro a hf
      refine sY hf hs rfl rfl rfl (Y_assign rfl rfl) ?_; clear hf; intro a hf
      refine wpO_nil ?_
      have hs : St [] W _ [.row none 0 0 2 1 (ints ([] : List Int))] := hs.addNil 2 1
      obtain rfl := Option.some.inj hm
      refine wpL_ret (ret_tmp2 rfl hf rfl rfl ?_)
      exact ⟨_, rfl, none, 0, 0, rfl, rfl, hs⟩
    · have hm := bif_f hm hb7
      refine wpL_skip ?_
      refine wpL_seq ?_
      refine wpL_region ?_
      refine sY hf hs rfl rfl rfl (Y_move rfl rfl) ?_; clear hf; intro a hf
      obtain ⟨r9, hc10, hm⟩ := bind_some hm
      refine sCall hf rfl rfl rfl rfl (cap := []) rfl rfl en70 (impl_sumOfModes_ok F p0_modes A_p0_modes_1 p0_modes.length c_p0_modes_1 rfl _ _ hc10 (h_p0_modes_1.at hs) hcap_h_p0_modes_1) ?_; clear hf
      rintro _ w ⟨A11, n12, c13, vs15, rfl, hn14, hs1⟩ a hf
      have hs : St [] W w [.mat A11 n12 c13 23 2 vs15 r9] := hs.join hs1
      clear hs1
      refine sY hf hs rfl rfl rfl (Y_assign rfl rfl) ?_; clear hf; intro a hf
      refine wpO_nil ?_
      refine wpL_seq ?_
      refine wpL_region ?_
      refine sY hf hs rfl rfl rfl (Y_move rfl rfl) ?_; clear hf; intro a hf
      obtain ⟨r16, hc17, hm⟩ := bind_some hm
      refine sCall hf rfl rfl rfl rfl (cap := []) rfl rfl en71 (slices_Clone_int64_ok F p1_x A_p1_x_1 p1_x.length c_p1_x_1 rfl _ _ hc17 (h_p1_x_1.at hs)) ?_; clear hf
      rintro _ w ⟨A18, n19, c20, rfl, hn21, hs1⟩ a hf
      have hs : St [] W w [.mat A11 n12 c13 23 2 vs15 r9, .row A18 n19 c20 2 1 (ints r16)] := hs.join hs1
      clear hs1
      refine sY hf hs rfl rfl rfl (Y_assign rfl rfl) ?_; clear hf; intro a hf
      refine wpO_nil ?_
      refine wpL_seq ?_
      refine wpL_seq ?_
      refine wpL_region ?_
      refine sY hf hs rfl rfl rfl (Y_move rfl rfl) ?_; clear hf; intro a hf
      refine sY hf hs rfl rfl rfl (Y_move rfl rfl) ?_; clear hf; intro a hf
      refine wpO_nil ?_
      obtain ⟨r69, hl70, hm⟩ := bind_some hm
      refine wpL_block (fun a w => ∃ xs64 : List Int, ∃ A65, ∃ n66, ∃ c67, Sum.inr xs64 = r69 ∧ n66 = xs64.length ∧ Fr a 34 [(1, .slice A65 n66 c67)] ∧ St [] W w [.row A65 n66 c67 2 1 (ints xs64)]) ?_ ?_
      · refine wpL_loop (fun n a w => ∃ xs48 : List Int, ∃ x53 : Int, ∃ A49, ∃ n50, ∃ c51, impl_GreatestAfter_L1 F p2_n r9 n xs48 x53 = some r69 ∧ n50 = xs48.length ∧ Fr a 34 [(1, .slice A49 n50 c51), (9, .slice A11 n12 c13), (23, .int .i64 p2_n), (24, .int .i64 x53)] ∧ St [] W w [.row A49 n50 c51 2 1 (ints xs48), .mat A11 n12 c13 23 2 vs15 r9]) F ?_ ?_ ?_
        · exact ⟨r16, 0, A18, n19, c20, hl70, hn21, (Fr.pick (Fr.pick (Fr.pick (Fr.pick hf.none hf rfl) hf rfl) hf rfl) hf rfl), hs.sel [1, 0] (by decide)⟩
        · rintro a w ⟨xs48, x53, A49, n50, c51, h0_, -, -, -⟩; simp [impl_GreatestAfter_L1] at h0_
        · rintro n72 a w ⟨xs48, x53, A49, n50, c51, hm71, hn52, hf, hs⟩
          rw [impl_GreatestAfter_L1] at hm71
          refine wpL_seq ?_
          refine wpL_region ?_
          refine sY hf hs rfl rfl rfl (Y_lss rfl rfl rfl) ?_; clear hf; intro a hf
          refine wpO_nil ?_
          refine wpL_seq ?_
          refine wpL_cond hf rfl (fun hb73 => ?_) (fun hb73 => ?_)
          · have hm71 := bif_t hm71 hb73
            refine wpL_skip ?_
            refine wpL_seq ?_
            refine wpL_block0 ?_
            refine wpL_seq ?_
            refine wpL_region ?_
            refine sY hf hs rfl rfl rfl (Y_move rfl rfl) ?_; clear hf; intro a hf
            refine sY hf hs rfl rfl rfl (Y_move rfl rfl) ?_; clear hf; intro a hf
            obtain ⟨r74, hc75, hm71⟩ := bind_some hm71
            refine sCall hf rfl rfl rfl rfl (cap := []) rfl rfl en72 (impl_timesVector_ok F r9 A11 n12 c13 hn14 xs48 A49 n50 c51 hn52 _ _ hc75 (hs.rdM (i := 1) rfl) (hs.rd (i := 0) rfl)) ?_; clear hf
            rintro _ w ⟨A76, n77, c78, rfl, hn79, hs1⟩ a hf
            have hs : St [] W w [.row A49 n50 c51 2 1 (ints xs48), .mat A11 n12 c13 23 2 vs15 r9, .row A76 n77 c78 2 1 (ints r74)] := hs.join hs1
            clear hs1
            refine sY hf hs rfl rfl rfl (Y_assign rfl rfl) ?_; clear hf; intro a hf
            refine wpO_nil ?_
            refine wpL_seq ?_
            refine wpL_region ?_
            refine sY hf hs rfl rfl rfl (Y_move rfl rfl) ?_; clear hf; intro a hf
            obtain ⟨r80, hc81, hm71⟩ := bind_some hm71
            refine sCall hf rfl rfl rfl rfl (cap := []) rfl rfl en73 (impl_areValues_ok F r74 A76 n77 c78 hn79 _ _ hc81 (hs.rd (i := 2) rfl)) ?_; clear hf
            rintro _ w ⟨rfl, hs1⟩ a hf
            have hs : St [] W w [.row A49 n50 c51 2 1 (ints xs48), .mat A11 n12 c13 23 2 vs15 r9, .row A76 n77 c78 2 1 (ints r74)] := hs.ext hs1.below
            clear hs1
            refine sY hf hs rfl rfl rfl (Y_not rfl rfl) ?_; clear hf; intro a hf
            refine wpO_nil ?_
            refine wpL_cond hf rfl (fun hb82 => ?_) (fun hb82 => ?_)
            · have hm71 := bif_t hm71 hb82
              refine wpL_seq ?_
              refine wpL_region ?_
              refine sY hf hs rfl rfl rfl (Y_assign rfl rfl) ?_; clear hf; intro a hf
              refine sY hf hs rfl rfl rfl (Y_assign rfl rfl) ?_; clear hf; intro a hf
              refine wpO_nil ?_
              have hs : St [] W _ [.row A49 n50 c51 2 1 (ints xs48), .mat A11 n12 c13 23 2 vs15 r9, .row A76 n77 c78 2 1 (ints r74), .row none 0 0 2 1 (ints ([] : List Int))] := hs.addNil 2 1
              obtain rfl := Option.some.inj hm71
              try dsimp only at hm
              obtain rfl := Option.some.inj hm
              refine wpL_ret (Qb_ret (Ql_ret (Qb_ret (ret_tmp2 rfl hf rfl rfl ?_))))
              exact ⟨_, rfl, none, 0, 0, rfl, rfl, hs.sel [3] (by decide)⟩
            · have hm71 := bif_f hm71 hb82
              refine wpL_skip ?_
              refine wpL_nil (Qb_normal ?_)
              refine wpL_region ?_
              refine sY hf hs rfl rfl rfl (Y_add rfl rfl rfl) ?_; clear hf; intro a hf
              refine sY hf hs rfl rfl rfl (Y_move rfl rfl) ?_; clear hf; intro a hf
              refine wpO_nil ?_
              refine wpL_nil (Ql_normal ?_)
              exact ⟨r74, (IntKind.i64.wrap (x53 + 1)), A76, n77, c78, hm71, hn79, (Fr.pick (Fr.pick (Fr.pick (Fr.pick hf.none hf rfl) hf rfl) hf rfl) hf rfl), hs.sel [2, 1] (by decide)⟩
          · have hm71 := bif_f hm71 hb73
            refine wpL_exit (Ql_exit (Qb_exit ?_))
            exact ⟨xs48, A49, n50, c51, Option.some.inj hm71, hn52, (Fr.pick hf.none hf rfl), hs.sel [0] (by decide)⟩
      · rintro a w ⟨xs64, A65, n66, c67, hr_, hn68, hf, hs⟩
        subst hr_
        try dsimp only at hm
        refine wpL_seq ?_
        refine wpL_region ?_
        refine sY hf hs rfl rfl rfl (Y_move rfl rfl) ?_; clear hf; intro a hf
        refine sY hf hs rfl rfl rfl (Y_assign rfl rfl) ?_; clear hf; intro a hf
        refine sY hf hs rfl rfl rfl (Y_assign rfl rfl) ?_; clear hf; intro a hf
        refine wpO_nil ?_
        obtain rfl := Option.some.inj hm
        refine wpL_ret (ret_tmp2 rfl hf rfl rfl ?_)
        exact ⟨_, rfl, A65, n66, c67, rfl, hn68, hs⟩

set_option maxRecDepth 100000 in
theorem laws_eqInt64S_ok (F : Nat) (p0_a : List Int) (A_p0_a_1 : Option Addr) (n_p0_a_1 c_p0_a_1 : Nat) (hn_p0_a_1 : n_p0_a_1 = p0_a.length) (p1_b : List Int) (A_p1_b_1 : Option Addr) (n_p1_b_1 c_p1_b_1 : Nat) (hn_p1_b_1 : n_p1_b_1 = p1_b.length) (r : Bool) (W : World) (hm : laws_eqInt64S F p0_a p1_b = some r) (h_p0_a_1 : Rd W A_p0_a_1 (ints p0_a)) (h_p1_b_1 : Rd W A_p1_b_1 (ints p1_b)) :
    Calls Try.prog 19 [.slice A_p0_a_1 n_p0_a_1 c_p0_a_1, .slice A_p1_b_1 n_p1_b_1 c_p1_b_1].toArray W fun e w' => ∃ v, e = .returned v ∧ v = .bool r ∧ St [] W w' [] := by
  subst hn_p0_a_1
  subst hn_p1_b_1
  unfold laws_eqInt64S at hm
  refine Calls.enter (N := 26) Try.func19 rfl rfl rfl (fun a hf => ?_)
  have hs := St.start W
  obtain ⟨w, hw_⟩ : ∃ w, w = W := ⟨W, rfl⟩
  clear hw_ w
  refine wpL_seq ?_
  refine wpL_region ?_
  refine sY hf hs rfl rfl rfl (Y_assign rfl rfl) ?_; clear hf; intro a hf
  refine wpO_nil ?_
  refine wpL_seq ?_
  refine wpL_seq ?_
  refine wpL_region ?_
  refine sY hf hs rfl rfl rfl (Y_move rfl rfl) ?_; clear hf; intro a hf
  refine sY hf hs rfl rfl rfl (Y_lenH rfl rfl el23 rfl) ?_; clear hf; intro a hf
  refine sY hf hs rfl rfl rfl (Y_move rfl rfl) ?_; clear hf; intro a hf
  refine sY hf hs rfl rfl rfl (Y_lenH rfl rfl el23 rfl) ?_; clear hf; intro a hf
  refine sY hf hs rfl rfl rfl (Y_neq rfl rfl rfl) ?_; clear hf; intro a hf
  refine wpO_nil ?_
  refine wpL_cond hf rfl (fun hb1 => ?_) (fun hb1 => ?_)
  · have hm := bif_t hm hb1
    refine wpL_seq ?_
    refine wpL_region ?_
    refine sY hf hs rfl rfl rfl (Y_assign rfl rfl) ?_; clear hf; intro a hf
    refine wpO_nil ?_
    obtain rfl := Option.some.inj hm
    refine wpL_ret (ret_tmp rfl hf rfl ?_)
    exact ⟨_, rfl, rfl, hs⟩
  · have hm := bif_f hm hb1
    refine wpL_skip ?_
    refine wpL_seq ?_
    refine wpL_seq ?_
    refine wpL_region ?_
    refine sY hf hs rfl rfl rfl (Y_assign rfl rfl) ?_; clear hf; intro a hf
    refine wpO_nil ?_
    obtain ⟨r22, hl23, hm⟩ := bind_some hm
    refine wpL_block (fun a w => Sum.inr () = r22 ∧ Fr a 26 [] ∧ St [] W w []) ?_ ?_
    · refine wpL_loop (fun n a w => ∃ x15 : Int, laws_eqInt64S_L1 F p0_a p1_b n x15 = some r22 ∧ Fr a 26 [(0, .slice A_p0_a_1 p0_a.length c_p0_a_1), (1, .slice A_p1_b_1 p1_b.length c_p1_b_1), (5, .int .i64 x15)] ∧ St [] W w []) F ?_ ?_ ?_
      · exact ⟨0, hl23, (Fr.pick (Fr.pick (Fr.pick hf.none hf rfl) hf rfl) hf rfl), hs⟩
      · rintro a w ⟨x15, h0_, -, -⟩; simp [laws_eqInt64S_L1] at h0_
      · rintro n25 a w ⟨x15, hm24, hf, hs⟩
        rw [laws_eqInt64S_L1] at hm24
        refine wpL_seq ?_
        refine wpL_seq ?_
        refine wpL_region ?_
        refine sY hf hs rfl rfl rfl (Y_move rfl rfl) ?_; clear hf; intro a hf
        refine sY hf hs rfl rfl rfl (Y_move rfl rfl) ?_; clear hf; intro a hf
        refine sY hf hs rfl rfl rfl (Y_lenH rfl rfl el23 rfl) ?_; clear hf; intro a hf
        refine sY hf hs rfl rfl rfl (Y_lss rfl rfl rfl) ?_; clear hf; intro a hf
        refine wpO_nil ?_
        refine wpL_cond hf rfl (fun hb26 => ?_) (fun hb26 => ?_)
        · have hm24 := bif_t hm24 hb26
          refine wpL_skip ?_
          refine wpL_seq ?_
          refine wpL_block0 ?_
          refine wpL_seq ?_
          refine wpL_draw (by kernel_rfl) (by kernel_rfl) hs ?_
          refine qY hf rfl rfl rfl (Y_move rfl rfl) ?_; clear hf; intro a hf
          refine qY hf rfl rfl rfl (Y_move rfl rfl) ?_; clear hf; intro a hf
          obtain ⟨q27, hi28, hm24⟩ := bind_some hm24
          obtain ⟨hi28a, hi28b, hi28q⟩ := idx_some hi28
          refine qY hf rfl rfl rfl (Y_index rfl rfl rfl el23 ti2 (Rd.isAt (h_p0_a_1.at hs) (at1 (ints_at hi28q))) hi28a hi28b) ?_; clear hf; intro a hf
          refine qY hf rfl rfl rfl (Y_load_rd rfl rfl (fun w hs => h_p0_a_1.at hs) (at1 (ints_at hi28q)) ag2) ?_; clear hf; intro a hf
          refine qY hf rfl rfl rfl (Y_move rfl rfl) ?_; clear hf; intro a hf
          refine qY hf rfl rfl rfl (Y_move rfl rfl) ?_; clear hf; intro a hf
          obtain ⟨q29, hi30, hm24⟩ := bind_some hm24
          obtain ⟨hi30a, hi30b, hi30q⟩ := idx_some hi30
          refine qY hf rfl rfl rfl (Y_index rfl rfl rfl el23 ti2 (Rd.isAt (h_p1_b_1.at hs) (at1 (ints_at hi30q))) hi30a hi30b) ?_; clear hf; intro a hf
          refine qY hf rfl rfl rfl (Y_load_rd rfl rfl (fun w hs => h_p1_b_1.at hs) (at1 (ints_at hi30q)) ag2) ?_; clear hf; intro a hf
          refine qY hf rfl rfl rfl (Y_neq rfl rfl rfl) ?_; clear hf; intro a hf
          refine qNil ?_; clear hs; intro w hs
          refine wpL_cond hf rfl (fun hb31 => ?_) (fun hb31 => ?_)
          · have hm24 := bif_t hm24 hb31
            refine wpL_seq ?_
            refine wpL_region ?_
            refine sY hf hs rfl rfl rfl (Y_assign rfl rfl) ?_; clear hf; intro a hf
            refine wpO_nil ?_
            obtain rfl := Option.some.inj hm24
            try dsimp only at hm
            obtain rfl := Option.some.inj hm
            refine wpL_ret (Qb_ret (Ql_ret (Qb_ret (ret_tmp rfl hf rfl ?_))))
            exact ⟨_, rfl, rfl, hs⟩
          · have hm24 := bif_f hm24 hb31
            refine wpL_skip ?_
            refine wpL_nil (Qb_normal ?_)
            refine wpL_region ?_
            refine sY hf hs rfl rfl rfl (Y_move rfl rfl) ?_; clear hf; intro a hf
            refine sY hf hs rfl rfl rfl (Y_add rfl rfl rfl) ?_; clear hf; intro a hf
            refine sY hf hs rfl rfl rfl (Y_assign rfl rfl) ?_; clear hf; intro a hf
            refine wpO_nil ?_
            refine wpL_nil (Ql_normal ?_)
            exact ⟨(IntKind.i64.wrap (x15 + 1)), hm24, (Fr.pick (Fr.pick (Fr.pick hf.none hf rfl) hf rfl) hf rfl), hs⟩
        · have hm24 := bif_f hm24 hb26
          refine wpL_exit (Ql_exit (Qb_exit ?_))
          exact ⟨Option.some.inj hm24, hf.none, hs⟩
    · rintro a w ⟨hr_, hf, hs⟩
      subst hr_
      try dsimp only at hm
      refine wpL_seq ?_
      refine wpL_region ?_
      refine sY hf hs rfl rfl rfl (Y_assign rfl rfl) ?_; clear hf; intro a hf
      refine wpO_nil ?_
      obtain rfl := Option.some.inj hm
      refine wpL_ret (ret_tmp rfl hf rfl ?_)
      exact ⟨_, rfl, rfl, hs⟩

set_option maxRecDepth 100000 in
theorem laws_eqInt64SS_ok (F : Nat) (p0_a : List (List Int)) (A_p0_a_1 : Option Addr) (n_p0_a_1 c_p0_a_1 : Nat) (hn_p0_a_1 : n_p0_a_1 = p0_a.length) (p1_b : List (List Int)) (A_p1_b_1 : Option Addr) (n_p1_b_1 c_p1_b_1 : Nat) (hn_p1_b_1 : n_p1_b_1 = p1_b.length) (r : Bool) (W : World) (hm : laws_eqInt64SS F p0_a p1_b = some r) (h_p0_a_1 : RdM W A_p0_a_1 p0_a) (h_p1_b_1 : RdM W A_p1_b_1 p1_b) :
    Calls Try.prog 35 [.slice A_p0_a_1 n_p0_a_1 c_p0_a_1, .slice A_p1_b_1 n_p1_b_1 c_p1_b_1].toArray W fun e w' => ∃ v, e = .returned v ∧ v = .bool r ∧ St [] W w' [] := by
  subst hn_p0_a_1
  subst hn_p1_b_1
  unfold laws_eqInt64SS at hm
  refine Calls.enter (N := 27) Try.func35 rfl rfl rfl (fun a hf => ?_)
  have hs := St.start W
  obtain ⟨w, hw_⟩ : ∃ w, w = W := ⟨W, rfl⟩
  clear hw_ w
  refine wpL_seq ?_
  refine wpL_region ?_
  refine sY hf hs rfl rfl rfl (Y_assign rfl rfl) ?_; clear hf; intro a hf
  refine wpO_nil ?_
  refine wpL_seq ?_
  refine wpL_seq ?_
  refine wpL_region ?_
  refine sY hf hs rfl rfl rfl (Y_move rfl rfl) ?_; clear hf; intro a hf
  refine sY hf hs rfl rfl rfl (Y_lenH rfl rfl el46 rfl) ?_; clear hf; intro a hf
  refine sY hf hs rfl rfl rfl (Y_move rfl rfl) ?_; clear hf; intro a hf
  refine sY hf hs rfl rfl rfl (Y_lenH rfl rfl el46 rfl) ?_; clear hf; intro a hf
  refine sY hf hs rfl rfl rfl (Y_neq rfl rfl rfl) ?_; clear hf; intro a hf
  refine wpO_nil ?_
  refine wpL_cond hf rfl (fun hb1 => ?_) (fun hb1 => ?_)
  · have hm := bif_t hm hb1
    refine wpL_seq ?_
    refine wpL_region ?_
    refine sY hf hs rfl rfl rfl (Y_assign rfl rfl) ?_; clear hf; intro a hf
    refine wpO_nil ?_
    obtain rfl := Option.some.inj hm
    refine wpL_ret (ret_tmp rfl hf rfl ?_)
    exact ⟨_, rfl, rfl, hs⟩
  · have hm := bif_f hm hb1
    refine wpL_skip ?_
    refine wpL_seq ?_
    refine wpL_seq ?_
    refine wpL_region ?_
    refine sY hf hs rfl rfl rfl (Y_assign rfl rfl) ?_; clear hf; intro a hf
    refine wpO_nil ?_
    obtain ⟨r70, hl71, hm⟩ := bind_some hm
    refine wpL_block (fun a w => Sum.inr () = r70 ∧ Fr a 27 [] ∧ St [] W w []) ?_ ?_
    · refine wpL_loop (fun n a w => ∃ x47 : Int, laws_eqInt64SS_L1 F p0_a p1_b n x47 = some r70 ∧ Fr a 27 [(0, .slice A_p0_a_1 p0_a.length c_p0_a_1), (1, .slice A_p1_b_1 p1_b.length c_p1_b_1), (5, .int .i64 x47)] ∧ St [] W w []) F ?_ ?_ ?_
      · exact ⟨0, hl71, (Fr.pick (Fr.pick (Fr.pick hf.none hf rfl) hf rfl) hf rfl), hs⟩
      · rintro a w ⟨x47, h0_, -, -⟩; simp [laws_eqInt64SS_L1] at h0_
      · rintro n73 a w ⟨x47, hm72, hf, hs⟩
        rw [laws_eqInt64SS_L1] at hm72
        refine wpL_seq ?_
        refine wpL_seq ?_
        refine wpL_region ?_
        refine sY hf hs rfl rfl rfl (Y_move rfl rfl) ?_; clear hf; intro a hf
        refine sY hf hs rfl rfl rfl (Y_move rfl rfl) ?_; clear hf; intro a hf
        refine sY hf hs rfl rfl rfl (Y_lenH rfl rfl el46 rfl) ?_; clear hf; intro a hf
        refine sY hf hs rfl rfl rfl (Y_lss rfl rfl rfl) ?_; clear hf; intro a hf
        refine wpO_nil ?_
        refine wpL_cond hf rfl (fun hb74 => ?_) (fun hb74 => ?_)
        · have hm72 := bif_t hm72 hb74
          refine wpL_skip ?_
          refine wpL_seq ?_
          refine wpL_block0 ?_
          refine wpL_seq ?_
          refine wpL_draw (by kernel_rfl) (by kernel_rfl) hs ?_
          refine qY hf rfl rfl rfl (Y_move rfl rfl) ?_; clear hf; intro a hf
          refine qY hf rfl rfl rfl (Y_move rfl rfl) ?_; clear hf; intro a hf
          obtain ⟨q75, hi76, hm72⟩ := bind_some hm72
          obtain ⟨hi76a, hi76b, hi76q⟩ := idx_some hi76
          obtain ⟨vs77, hv78, hr79⟩ := id h_p0_a_1
          obtain ⟨A80, c81, hv82, hR83⟩ := hr79 _ _ hi76q
          refine qY hf rfl rfl rfl (Y_index rfl rfl rfl el46 ti23 (Rd.isAt hv78 hv82) hi76a hi76b) ?_; clear hf; intro a hf
          refine qY hf rfl rfl rfl (Y_load_rd rfl rfl (fun w hs => hv78.at hs) (at1 hv82) ag23) ?_; clear hf; intro a hf
          refine qY hf rfl rfl rfl (Y_move rfl rfl) ?_; clear hf; intro a hf
          refine qY hf rfl rfl rfl (Y_move rfl rfl) ?_; clear hf; intro a hf
          obtain ⟨q84, hi85, hm72⟩ := bind_some hm72
          obtain ⟨hi85a, hi85b, hi85q⟩ := idx_some hi85
          obtain ⟨vs86, hv87, hr88⟩ := id h_p1_b_1
          obtain ⟨A89, c90, hv91, hR92⟩ := hr88 _ _ hi85q
          refine qY hf rfl rfl rfl (Y_index rfl rfl rfl el46 ti23 (Rd.isAt hv87 hv91) hi85a hi85b) ?_; clear hf; intro a hf
          refine qY hf rfl rfl rfl (Y_load_rd rfl rfl (fun w hs => hv87.at hs) (at1 hv91) ag23) ?_; clear hf; intro a hf
          obtain ⟨r93, hc94, hm72⟩ := bind_some hm72
          refine qCall hf rfl rfl rfl rfl (cap := []) rfl rfl en19 (v := .bool r93) (fun w hs => Calls.scal (laws_eqInt64S_ok F q75 A80 q75.length c81 rfl q84 A89 q84.length c90 rfl _ _ hc94 (hR83.at hs) (hR92.at hs))) ?_; clear hf; intro a hf
          refine qY hf rfl rfl rfl (Y_not rfl rfl) ?_; clear hf; intro a hf
          refine qNil ?_; clear hs; intro w hs
          refine wpL_cond hf rfl (fun hb95 => ?_) (fun hb95 => ?_)
          · have hm72 := bif_t hm72 hb95
            refine wpL_seq ?_
            refine wpL_region ?_
            refine sY hf hs rfl rfl rfl (Y_assign rfl rfl) ?_; clear hf; intro a hf
            refine wpO_nil ?_
            obtain rfl := Option.some.inj hm72
            try dsimp only at hm
            obtain rfl := Option.some.inj hm
            refine wpL_ret (Qb_ret (Ql_ret (Qb_ret (ret_tmp rfl hf rfl ?_))))
            exact ⟨_, rfl, rfl, hs⟩
          · have hm72 := bif_f hm72 hb95
            refine wpL_skip ?_
            refine wpL_nil (Qb_normal ?_)
            refine wpL_region ?_
            refine sY hf hs rfl rfl rfl (Y_move rfl rfl) ?_; clear hf; intro a hf
            refine sY hf hs rfl rfl rfl (Y_add rfl rfl rfl) ?_; clear hf; intro a hf
            refine sY hf hs rfl rfl rfl (Y_assign rfl rfl) ?_; clear hf; intro a hf
            refine wpO_nil ?_
            refine wpL_nil (Ql_normal ?_)
            exact ⟨(IntKind.i64.wrap (x47 + 1)), hm72, (Fr.pick (Fr.pick (Fr.pick hf.none hf rfl) hf rfl) hf rfl), hs⟩
        · have hm72 := bif_f hm72 hb74
          refine wpL_exit (Ql_exit (Qb_exit ?_))
          exact ⟨Option.some.inj hm72, hf.none, hs⟩
    · rintro a w ⟨hr_, hf, hs⟩
      subst hr_
      try dsimp only at hm
      refine wpL_seq ?_
      refine wpL_region ?_
      refine sY hf hs rfl rfl rfl (Y_assign rfl rfl) ?_; clear hf; intro a hf
      refine wpO_nil ?_
      obtain rfl := Option.some.inj hm
      refine wpL_ret (ret_tmp rfl hf rfl ?_)
      exact ⟨_, rfl, rfl, hs⟩

set_option maxRecDepth 100000 in
theorem laws_eqInt64SSS_ok (F : Nat) (p0_a : List (List (List Int))) (A_p0_a_1 : Option Addr) (n_p0_a_1 c_p0_a_1 : Nat) (hn_p0_a_1 : n_p0_a_1 = p0_a.length) (p1_b : List (List (List Int))) (A_p1_b_1 : Option Addr) (n_p1_b_1 c_p1_b_1 : Nat) (hn_p1_b_1 : n_p1_b_1 = p1_b.length) (r : Bool) (W : World) (hm : laws_eqInt64SSS F p0_a p1_b = some r) (h_p0_a_1 : RdC W A_p0_a_1 p0_a) (h_p1_b_1 : RdC W A_p1_b_1 p1_b) :
    Calls Try.prog 20 [.slice A_p0_a_1 n_p0_a_1 c_p0_a_1, .slice A_p1_b_1 n_p1_b_1 c_p1_b_1].toArray W fun e w' => ∃ v, e = .returned v ∧ v = .bool r ∧ St [] W w' [] := by
  subst hn_p0_a_1
  subst hn_p1_b_1
  unfold laws_eqInt64SSS at hm
  refine Calls.enter (N := 27) Try.func20 rfl rfl rfl (fun a hf => ?_)
  have hs := St.start W
  obtain ⟨w, hw_⟩ : ∃ w, w = W := ⟨W, rfl⟩
  clear hw_ w
  refine wpL_seq ?_
  refine wpL_region ?_
  refine sY hf hs rfl rfl rfl (Y_assign rfl rfl) ?_; clear hf; intro a hf
  refine wpO_nil ?_
  refine wpL_seq ?_
  refine wpL_seq ?_
  refine wpL_region ?_
  refine sY hf hs rfl rfl rfl (Y_move rfl rfl) ?_; clear hf; intro a hf
  refine sY hf hs rfl rfl rfl (Y_lenH rfl rfl el22 rfl) ?_; clear hf; intro a hf
  refine sY hf hs rfl rfl rfl (Y_move rfl rfl) ?_; clear hf; intro a hf
  refine sY hf hs rfl rfl rfl (Y_lenH rfl rfl el22 rfl) ?_; clear hf; intro a hf
  refine sY hf hs rfl rfl rfl (Y_neq rfl rfl rfl) ?_; clear hf; intro a hf
  refine wpO_nil ?_
  refine wpL_cond hf rfl (fun hb1 => ?_) (fun hb1 => ?_)
  · have hm := bif_t hm hb1
    refine wpL_seq ?_
    refine wpL_region ?_
    refine sY hf hs rfl rfl rfl (Y_assign rfl rfl) ?_; clear hf; intro a hf
    refine wpO_nil ?_
    obtain rfl := Option.some.inj hm
    refine wpL_ret (ret_tmp rfl hf rfl ?_)
    exact ⟨_, rfl, rfl, hs⟩
  · have hm := bif_f hm hb1
    refine wpL_skip ?_
    refine wpL_seq ?_
    refine wpL_seq ?_
    refine wpL_region ?_
    refine sY hf hs rfl rfl rfl (Y_assign rfl rfl) ?_; clear hf; intro a hf
    refine wpO_nil ?_
    obtain ⟨r70, hl71, hm⟩ := bind_some hm
    refine wpL_block (fun a w => Sum.inr () = r70 ∧ Fr a 27 [] ∧ St [] W w []) ?_ ?_
    · refine wpL_loop (fun n a w => ∃ x47 : Int, laws_eqInt64SSS_L1 F p0_a p1_b n x47 = some r70 ∧ Fr a 27 [(0, .slice A_p0_a_1 p0_a.length c_p0_a_1), (1, .slice A_p1_b_1 p1_b.length c_p1_b_1), (5, .int .i64 x47)] ∧ St [] W w []) F ?_ ?_ ?_
      · exact ⟨0, hl71, (Fr.pick (Fr.pick (Fr.pick hf.none hf rfl) hf rfl) hf rfl), hs⟩
      · rintro a w ⟨x47, h0_, -, -⟩; simp [laws_eqInt64SSS_L1] at h0_
      · rintro n73 a w ⟨x47, hm72, hf, hs⟩
        rw [laws_eqInt64SSS_L1] at hm72
        refine wpL_seq ?_
        refine wpL_seq ?_
        refine wpL_region ?_
        refine sY hf hs rfl rfl rfl (Y_move rfl rfl) ?_; clear hf; intro a hf
        refine sY hf hs rfl rfl rfl (Y_move rfl rfl) ?_; clear hf; intro a hf
        refine sY hf hs rfl rfl rfl (Y_lenH rfl rfl el22 rfl) ?_; clear hf; intro a hf
        refine sY hf hs rfl rfl rfl (Y_lss rfl rfl rfl) ?_; clear hf; intro a hf
        refine wpO_nil ?_
        refine wpL_cond hf rfl (fun hb74 => ?_) (fun hb74 => ?_)
        · have hm72 := bif_t hm72 hb74
          refine wpL_skip ?_
          refine wpL_seq ?_
          refine wpL_block0 ?_
          refine wpL_seq ?_
          refine wpL_draw (by kernel_rfl) (by kernel_rfl) hs ?_
          refine qY hf rfl rfl rfl (Y_move rfl rfl) ?_; clear hf; intro a hf
          refine qY hf rfl rfl rfl (Y_move rfl rfl) ?_; clear hf; intro a hf
          obtain ⟨q75, hi76, hm72⟩ := bind_some hm72
          obtain ⟨hi76a, hi76b, hi76q⟩ := idx_some hi76
          obtain ⟨vs77, hv78, hr79⟩ := id h_p0_a_1
          obtain ⟨A80, c81, hv82, hR83⟩ := hr79 _ _ hi76q
          refine qY hf rfl rfl rfl (Y_index rfl rfl rfl el22 ti46 (Rd.isAt hv78 hv82) hi76a hi76b) ?_; clear hf; intro a hf
          refine qY hf rfl rfl rfl (Y_load_rd rfl rfl (fun w hs => hv78.at hs) (at1 hv82) ag46) ?_; clear hf; intro a hf
          refine qY hf rfl rfl rfl (Y_move rfl rfl) ?_; clear hf; intro a hf
          refine qY hf rfl rfl rfl (Y_move rfl rfl) ?_; clear hf; intro a hf
          obtain ⟨q84, hi85, hm72⟩ := bind_some hm72
          obtain ⟨hi85a, hi85b, hi85q⟩ := idx_some hi85
          obtain ⟨vs86, hv87, hr88⟩ := id h_p1_b_1
          obtain ⟨A89, c90, hv91, hR92⟩ := hr88 _ _ hi85q
          refine qY hf rfl rfl rfl (Y_index rfl rfl rfl el22 ti46 (Rd.isAt hv87 hv91) hi85a hi85b) ?_; clear hf; intro a hf
          refine qY hf rfl rfl rfl (Y_load_rd rfl rfl (fun w hs => hv87.at hs) (at1 hv91) ag46) ?_; clear hf; intro a hf
          obtain ⟨r93, hc94, hm72⟩ := bind_some hm72
          refine qCall hf rfl rfl rfl rfl (cap := []) rfl rfl en35 (v := .bool r93) (fun w hs => Calls.scal (laws_eqInt64SS_ok F q75 A80 q75.length c81 rfl q84 A89 q84.length c90 rfl _ _ hc94 (hR83.at hs) (hR92.at hs))) ?_; clear hf; intro a hf
          refine qY hf rfl rfl rfl (Y_not rfl rfl) ?_; clear hf; intro a hf
          refine qNil ?_; clear hs; intro w hs
          refine wpL_cond hf rfl (fun hb95 => ?_) (fun hb95 => ?_)
          · have hm72 := bif_t hm72 hb95
            refine wpL_seq ?_
            refine wpL_region ?_
            refine sY hf hs rfl rfl rfl (Y_assign rfl rfl) ?_; clear hf; intro a hf
            refine wpO_nil ?_
            obtain rfl := Option.some.inj hm72
            try dsimp only at hm
            obtain rfl := Option.some.inj hm
            refine wpL_ret (Qb_ret (Ql_ret (Qb_ret (ret_tmp rfl hf rfl ?_))))
            exact ⟨_, rfl, rfl, hs⟩
          · have hm72 := bif_f hm72 hb95
            refine wpL_skip ?_
            refine wpL_nil (Qb_normal ?_)
            refine wpL_region ?_
            refine sY hf hs rfl rfl rfl (Y_move rfl rfl) ?_; clear hf; intro a hf
            refine sY hf hs rfl rfl rfl (Y_add rfl rfl rfl) ?_; clear hf; intro a hf
            refine sY hf hs rfl rfl rfl (Y_assign rfl rfl) ?_; clear hf; intro a hf
            refine wpO_nil ?_
            refine wpL_nil (Ql_normal ?_)
            exact ⟨(IntKind.i64.wrap (x47 + 1)), hm72, (Fr.pick (Fr.pick (Fr.pick hf.none hf rfl) hf rfl) hf rfl), hs⟩
        · have hm72 := bif_f hm72 hb74
          refine wpL_exit (Ql_exit (Qb_exit ?_))
          exact ⟨Option.some.inj hm72, hf.none, hs⟩
    · rintro a w ⟨hr_, hf, hs⟩
      subst hr_
      try dsimp only at hm
      refine wpL_seq ?_
      refine wpL_region ?_
      refine sY hf hs rfl rfl rfl (Y_assign rfl rfl) ?_; clear hf; intro a hf
      refine wpO_nil ?_
      obtain rfl := Option.some.inj hm
      refine wpL_ret (ret_tmp rfl hf rfl ?_)
      exact ⟨_, rfl, rfl, hs⟩

set_option maxRecDepth 100000 in
theorem laws_markInt64S_ok (F : Nat) (p0_a : List Int) (A_p0_a_1 : Option Addr) (n_p0_a_1 c_p0_a_1 : Nat) (hn_p0_a_1 : n_p0_a_1 = p0_a.length) (p1_k : Int) (r : (Int) × List Int) (W : World) (hm : laws_markInt64S F p0_a p1_k = some r) (h_p0_a_1 : (Res.row A_p0_a_1 n_p0_a_1 c_p0_a_1 2 1 (ints p0_a) : Res).holds 0 W) :
    Calls Try.prog 22 [.slice A_p0_a_1 n_p0_a_1 c_p0_a_1, .int .i64 p1_k].toArray W fun e w' => ∃ v, e = .returned v ∧ v = .int .i64 r.1 ∧ n_p0_a_1 = r.2.length ∧ St (muA A_p0_a_1) W w' [.row A_p0_a_1 n_p0_a_1 c_p0_a_1 2 1 (ints r.2)] := by
  subst hn_p0_a_1
  unfold laws_markInt64S at hm
  refine Calls.enter (N := 19) Try.func22 rfl rfl rfl (fun a hf => ?_)
  have hs : St (muA A_p0_a_1) W W [.row A_p0_a_1 p0_a.length c_p0_a_1 2 1 (ints p0_a)] := St.startMut h_p0_a_1 (fun b hb => mem_muA hb)
  obtain ⟨w, hw_⟩ : ∃ w, w = W := ⟨W, rfl⟩
  clear hw_ w
  refine wpL_seq ?_
  refine wpL_region ?_
  refine sY hf hs rfl rfl rfl (Y_assign rfl rfl) ?_; clear hf; intro a hf
  refine wpO_nil ?_
  refine wpL_seq ?_
  refine wpL_seq ?_
  refine wpL_region ?_
  refine sY hf hs rfl rfl rfl (Y_assign rfl rfl) ?_; clear hf; intro a hf
  refine wpO_nil ?_
  obtain ⟨r27, hl28, hm⟩ := bind_some hm
  refine wpL_block (fun a w => ∃ xs24 : List Int, ∃ x26 : Int, (xs24, x26) = r27 ∧ p0_a.length = xs24.length ∧ Fr a 19 [(1, .int .i64 x26)] ∧ St (muA A_p0_a_1) W w [.row A_p0_a_1 p0_a.length c_p0_a_1 2 1 (ints xs24)]) ?_ ?_
  · refine wpL_loop (fun n a w => ∃ xs15 : List Int, ∃ x17 : Int, ∃ x18 : Int, laws_markInt64S_L1 F n xs15 x17 x18 = some r27 ∧ p0_a.length = xs15.length ∧ Fr a 19 [(0, .slice A_p0_a_1 p0_a.length c_p0_a_1), (1, .int .i64 x17), (5, .int .i64 x18)] ∧ St (muA A_p0_a_1) W w [.row A_p0_a_1 p0_a.length c_p0_a_1 2 1 (ints xs15)]) F ?_ ?_ ?_
    · exact ⟨p0_a, p1_k, 0, hl28, rfl, (Fr.pick (Fr.pick (Fr.pick hf.none hf rfl) hf rfl) hf rfl), hs⟩
    · rintro a w ⟨xs15, x17, x18, h0_, -, -, -⟩; simp [laws_markInt64S_L1] at h0_
    · rintro n30 a w ⟨xs15, x17, x18, hm29, hn16, hf, hs⟩
      rw [laws_markInt64S_L1] at hm29
      refine wpL_seq ?_
      refine wpL_seq ?_
      refine wpL_region ?_
      refine sY hf hs rfl rfl rfl (Y_move rfl rfl) ?_; clear hf; intro a hf
      refine sY hf hs rfl rfl rfl (Y_move rfl rfl) ?_; clear hf; intro a hf
      refine sY hf hs rfl rfl rfl (Y_lenH rfl rfl el23 hn16) ?_; clear hf; intro a hf
      refine sY hf hs rfl rfl rfl (Y_lss rfl rfl rfl) ?_; clear hf; intro a hf
      refine wpO_nil ?_
      refine wpL_cond hf rfl (fun hb31 => ?_) (fun hb31 => ?_)
      · have hm29 := bif_t hm29 hb31
        refine wpL_skip ?_
        refine wpL_seq ?_
        refine wpL_block0 ?_
        refine wpL_seq ?_
        refine wpL_region ?_
        refine sY hf hs rfl rfl rfl (Y_move rfl rfl) ?_; clear hf; intro a hf
        refine sY hf hs rfl rfl rfl (Y_move rfl rfl) ?_; clear hf; intro a hf
        refine sY hf hs rfl rfl rfl (Y_move rfl rfl) ?_; clear hf; intro a hf
        obtain ⟨q32, hi33, hm29⟩ := bind_some hm29
        obtain ⟨hi33a, hi33b, hi33q⟩ := idx_some hi33
        refine sY hf hs rfl rfl rfl (Y_index rfl rfl rfl el23 ti2 (Rd.isAt (hs.rd (i := 0) rfl) (at1 (ints_at hi33q))) hi33a (ltn hn16 hi33b)) ?_; clear hf; intro a hf
        obtain ⟨xs34, hu35, hm29⟩ := bind_some hm29
        refine sStoreL (i := 0) (us := [.int .i64 x17]) (enc := ints) hf hs rfl rfl rfl rfl rfl rfl hn16 hu35 ti2 rfl rfl rfl rfl rfl ints_len1 (ints_set x17) ?_; clear hs; intro w hs
        have hs : St (muA A_p0_a_1) W w [.row A_p0_a_1 p0_a.length c_p0_a_1 2 1 (ints xs34)] := hs
        refine wpO_nil ?_
        refine wpL_region ?_
        refine sY hf hs rfl rfl rfl (Y_move rfl rfl) ?_; clear hf; intro a hf
        refine sY hf hs rfl rfl rfl (Y_add rfl rfl rfl) ?_; clear hf; intro a hf
        refine sY hf hs rfl rfl rfl (Y_assign rfl rfl) ?_; clear hf; intro a hf
        refine wpO_nil ?_
        refine wpL_nil (Qb_normal ?_)
        refine wpL_region ?_
        refine sY hf hs rfl rfl rfl (Y_move rfl rfl) ?_; clear hf; intro a hf
        refine sY hf hs rfl rfl rfl (Y_add rfl rfl rfl) ?_; clear hf; intro a hf
        refine sY hf hs rfl rfl rfl (Y_assign rfl rfl) ?_; clear hf; intro a hf
        refine wpO_nil ?_
        refine wpL_nil (Ql_normal ?_)
        exact ⟨xs34, (IntKind.i64.wrap (x17 + 1)), (IntKind.i64.wrap (x18 + 1)), hm29, ((hn16).trans (upd_len hu35).symm), (Fr.pick (Fr.pick (Fr.pick hf.none hf rfl) hf rfl) hf rfl), hs⟩
      · have hm29 := bif_f hm29 hb31
        refine wpL_exit (Ql_exit (Qb_exit ?_))
        exact ⟨xs15, x17, Option.some.inj hm29, hn16, (Fr.pick hf.none hf rfl), hs⟩
  · rintro a w ⟨xs24, x26, hr_, hn25, hf, hs⟩
    subst hr_
    try dsimp only at hm
    refine wpL_seq ?_
    refine wpL_region ?_
    refine sY hf hs rfl rfl rfl (Y_move rfl rfl) ?_; clear hf; intro a hf
    refine sY hf hs rfl rfl rfl (Y_assign rfl rfl) ?_; clear hf; intro a hf
    refine wpO_nil ?_
    obtain rfl := Option.some.inj hm
    refine wpL_ret (ret_tmp rfl hf rfl ?_)
    exact ⟨_, rfl, rfl, hn25, hs⟩

set_option maxRecDepth 100000 in
theorem laws_markInt64SS_ok (F : Nat) (p0_a : List (List Int)) (A_p0_a_1 : Option Addr) (n_p0_a_1 c_p0_a_1 : Nat) (hn_p0_a_1 : n_p0_a_1 = p0_a.length) (vs_p0_a : List Value) (p1_k : Int) (r : (Int) × List (List Int)) (W : World) (hm : laws_markInt64SS F p0_a p1_k = some r) (h_p0_a_1 : (Res.mat A_p0_a_1 n_p0_a_1 c_p0_a_1 23 2 vs_p0_a p0_a : Res).holds 0 W) :
    Calls Try.prog 36 [.slice A_p0_a_1 n_p0_a_1 c_p0_a_1, .int .i64 p1_k].toArray W fun e w' => ∃ v, e = .returned v ∧ v = .int .i64 r.1 ∧ n_p0_a_1 = r.2.length ∧ St (muM A_p0_a_1 vs_p0_a) W w' [.mat A_p0_a_1 n_p0_a_1 c_p0_a_1 23 2 vs_p0_a r.2] := by
  subst hn_p0_a_1
  unfold laws_markInt64SS at hm
  refine Calls.enter (N := 19) Try.func36 rfl rfl rfl (fun a hf => ?_)
  have hs : St (muM A_p0_a_1 vs_p0_a) W W [.mat A_p0_a_1 p0_a.length c_p0_a_1 23 2 vs_p0_a p0_a] := St.startMut h_p0_a_1 (fun b hb => muM_mem.2 hb)
  obtain ⟨w, hw_⟩ : ∃ w, w = W := ⟨W, rfl⟩
  clear hw_ w
  refine wpL_seq ?_
  refine wpL_region ?_
  refine sY hf hs rfl rfl rfl (Y_assign rfl rfl) ?_; clear hf; intro a hf
  refine wpO_nil ?_
  refine wpL_seq ?_
  refine wpL_seq ?_
  refine wpL_region ?_
  refine sY hf hs rfl rfl rfl (Y_assign rfl rfl) ?_; clear hf; intro a hf
  refine wpO_nil ?_
  obtain ⟨r45, hl46, hm⟩ := bind_some hm
  refine wpL_block (fun a w => ∃ ms42 : List (List Int), ∃ x44 : Int, (ms42, x44) = r45 ∧ p0_a.length = ms42.length ∧ Fr a 19 [(1, .int .i64 x44)] ∧ St (muM A_p0_a_1 vs_p0_a) W w [.mat A_p0_a_1 p0_a.length c_p0_a_1 23 2 vs_p0_a ms42]) ?_ ?_
  · refine wpL_loop (fun n a w => ∃ ms27 : List (List Int), ∃ x29 : Int, ∃ x30 : Int, laws_markInt64SS_L1 F n ms27 x29 x30 = some r45 ∧ p0_a.length = ms27.length ∧ Fr a 19 [(0, .slice A_p0_a_1 p0_a.length c_p0_a_1), (1, .int .i64 x29), (5, .int .i64 x30)] ∧ St (muM A_p0_a_1 vs_p0_a) W w [.mat A_p0_a_1 p0_a.length c_p0_a_1 23 2 vs_p0_a ms27]) F ?_ ?_ ?_
    · exact ⟨p0_a, p1_k, 0, hl46, rfl, (Fr.pick (Fr.pick (Fr.pick hf.none hf rfl) hf rfl) hf rfl), hs⟩
    · rintro a w ⟨ms27, x29, x30, h0_, -, -, -⟩; simp [laws_markInt64SS_L1] at h0_
    · rintro n48 a w ⟨ms27, x29, x30, hm47, hn28, hf, hs⟩
      rw [laws_markInt64SS_L1] at hm47
      refine wpL_seq ?_
      refine wpL_seq ?_
      refine wpL_region ?_
      refine sY hf hs rfl rfl rfl (Y_move rfl rfl) ?_; clear hf; intro a hf
      refine sY hf hs rfl rfl rfl (Y_move rfl rfl) ?_; clear hf; intro a hf
      refine sY hf hs rfl rfl rfl (Y_lenH rfl rfl el46 hn28) ?_; clear hf; intro a hf
      refine sY hf hs rfl rfl rfl (Y_lss rfl rfl rfl) ?_; clear hf; intro a hf
      refine wpO_nil ?_
      refine wpL_cond hf rfl (fun hb49 => ?_) (fun hb49 => ?_)
      · have hm47 := bif_t hm47 hb49
        refine wpL_skip ?_
        refine wpL_seq ?_
        refine wpL_block0 ?_
        refine wpL_region ?_
        refine sY hf hs rfl rfl rfl (Y_move rfl rfl) ?_; clear hf; intro a hf
        refine sY hf hs rfl rfl rfl (Y_move rfl rfl) ?_; clear hf; intro a hf
        obtain ⟨q50, hi51, hm47⟩ := bind_some hm47
        obtain ⟨hi51a, hi51b, hi51q⟩ := idx_some hi51
        obtain ⟨A52, c53, hv54⟩ := hs.matRow (i := 0) rfl hi51q
        refine sY hf hs rfl rfl rfl (Y_index rfl rfl rfl el46 ti23 (Rd.isAt (hs.rdV (i := 0) rfl) hv54) hi51a (ltn hn28 hi51b)) ?_; clear hf; intro a hf
        refine sY hf hs rfl rfl rfl (Y_load_rd rfl rfl (fun w hs => hs.rdV (i := 0) rfl) (at1 hv54) ag23) ?_; clear hf; intro a hf
        refine sY hf hs rfl rfl rfl (Y_move rfl rfl) ?_; clear hf; intro a hf
        obtain ⟨r55, hc56, hm47⟩ := bind_some hm47
        refine sCall hf rfl rfl rfl rfl (cap := []) rfl rfl en22 (laws_markInt64S_ok F q50 A52 q50.length c53 rfl x29 _ _ hc56 (hs.rowHolds (i := 0) rfl ⟨hi51q, hv54⟩)) ?_; clear hf
        obtain ⟨ms59, hu58, hm47⟩ := bind_some hm47
        rintro _ w ⟨rfl, hn57, hs1⟩ a hf
        have hs : St (muM A_p0_a_1 vs_p0_a) W w [.mat A_p0_a_1 p0_a.length c_p0_a_1 23 2 vs_p0_a ms59] := hs.mutRow (i := 0) rfl ⟨hi51q, hv54⟩ hs1 hn57 hu58
        clear hs1
        refine sY hf hs rfl rfl rfl (Y_assign rfl rfl) ?_; clear hf; intro a hf
        refine wpO_nil ?_
        refine wpL_nil (Qb_normal ?_)
        refine wpL_region ?_
        refine sY hf hs rfl rfl rfl (Y_move rfl rfl) ?_; clear hf; intro a hf
        refine sY hf hs rfl rfl rfl (Y_add rfl rfl rfl) ?_; clear hf; intro a hf
        refine sY hf hs rfl rfl rfl (Y_assign rfl rfl) ?_; clear hf; intro a hf
        refine wpO_nil ?_
        refine wpL_nil (Ql_normal ?_)
        exact ⟨ms59, r55.1, (IntKind.i64.wrap (x30 + 1)), hm47, ((hn28).trans (upd_len hu58).symm), (Fr.pick (Fr.pick (Fr.pick hf.none hf rfl) hf rfl) hf rfl), hs⟩
      · have hm47 := bif_f hm47 hb49
        refine wpL_exit (Ql_exit (Qb_exit ?_))
        exact ⟨ms27, x29, Option.some.inj hm47, hn28, (Fr.pick hf.none hf rfl), hs⟩
  · rintro a w ⟨ms42, x44, hr_, hn43, hf, hs⟩
    subst hr_
    try dsimp only at hm
    refine wpL_seq ?_
    refine wpL_region ?_
    refine sY hf hs rfl rfl rfl (Y_move rfl rfl) ?_; clear hf; intro a hf
    refine sY hf hs rfl rfl rfl (Y_assign rfl rfl) ?_; clear hf; intro a hf
    refine wpO_nil ?_
    obtain rfl := Option.some.inj hm
    refine wpL_ret (ret_tmp rfl hf rfl ?_)
    exact ⟨_, rfl, rfl, hn43, hs⟩

set_option maxRecDepth 100000 in
theorem laws_markInt64SSS_ok (F : Nat) (p0_a : List (List (List Int))) (A_p0_a_1 : Option Addr) (n_p0_a_1 c_p0_a_1 : Nat) (hn_p0_a_1 : n_p0_a_1 = p0_a.length) (vs_p0_a : List Mt) (p1_k : Int) (r : (Int) × List (List (List Int))) (W : World) (hm : laws_markInt64SSS F p0_a p1_k = some r) (h_p0_a_1 : (Res.cub A_p0_a_1 n_p0_a_1 c_p0_a_1 46 23 2 vs_p0_a p0_a : Res).holds 0 W) :
    Calls Try.prog 21 [.slice A_p0_a_1 n_p0_a_1 c_p0_a_1, .int .i64 p1_k].toArray W fun e w' => ∃ v, e = .returned v ∧ ∃ ts_, v = .int .i64 r.1 ∧ n_p0_a_1 = r.2.length ∧ St (muC A_p0_a_1 vs_p0_a) W w' [.cub A_p0_a_1 n_p0_a_1 c_p0_a_1 46 23 2 ts_ r.2] := by
  subst hn_p0_a_1
  unfold laws_markInt64SSS at hm
  refine Calls.enter (N := 19) Try.func21 rfl rfl rfl (fun a hf => ?_)
  have hs : St (muC A_p0_a_1 vs_p0_a) W W [.cub A_p0_a_1 p0_a.length c_p0_a_1 46 23 2 vs_p0_a p0_a] := St.startMut h_p0_a_1 (fun b hb => muC_mem.2 hb)
  obtain ⟨w, hw_⟩ : ∃ w, w = W := ⟨W, rfl⟩
  clear hw_ w
  refine wpL_seq ?_
  refine wpL_region ?_
  refine sY hf hs rfl rfl rfl (Y_assign rfl rfl) ?_; clear hf; intro a hf
  refine wpO_nil ?_
  refine wpL_seq ?_
  refine wpL_seq ?_
  refine wpL_region ?_
  refine sY hf hs rfl rfl rfl (Y_assign rfl rfl) ?_; clear hf; intro a hf
  refine wpO_nil ?_
  obtain ⟨r54, hl55, hm⟩ := bind_some hm
  refine wpL_block (fun a w => ∃ ms50 : List (List (List Int)), ∃ x53 : Int, ∃ vs52, (ms50, x53) = r54 ∧ p0_a.length = ms50.length ∧ Fr a 19 [(1, .int .i64 x53)] ∧ St (muC A_p0_a_1 vs_p0_a) W w [.cub A_p0_a_1 p0_a.length c_p0_a_1 46 23 2 vs52 ms50]) ?_ ?_
  · refine wpL_loop (fun n a w => ∃ ms32 : List (List (List Int)), ∃ x35 : Int, ∃ x36 : Int, ∃ vs34, laws_markInt64SSS_L1 F n ms32 x35 x36 = some r54 ∧ p0_a.length = ms32.length ∧ Fr a 19 [(0, .slice A_p0_a_1 p0_a.length c_p0_a_1), (1, .int .i64 x35), (5, .int .i64 x36)] ∧ St (muC A_p0_a_1 vs_p0_a) W w [.cub A_p0_a_1 p0_a.length c_p0_a_1 46 23 2 vs34 ms32]) F ?_ ?_ ?_
    · exact ⟨p0_a, p1_k, 0, vs_p0_a, hl55, rfl, (Fr.pick (Fr.pick (Fr.pick hf.none hf rfl) hf rfl) hf rfl), hs⟩
    · rintro a w ⟨ms32, x35, x36, vs34, h0_, -, -, -⟩; simp [laws_markInt64SSS_L1] at h0_
    · rintro n57 a w ⟨ms32, x35, x36, vs34, hm56, hn33, hf, hs⟩
      rw [laws_markInt64SSS_L1] at hm56
      refine wpL_seq ?_
      refine wpL_seq ?_
      refine wpL_region ?_
      refine sY hf hs rfl rfl rfl (Y_move rfl rfl) ?_; clear hf; intro a hf
      refine sY hf hs rfl rfl rfl (Y_move rfl rfl) ?_; clear hf; intro a hf
      refine sY hf hs rfl rfl rfl (Y_lenH rfl rfl el22 hn33) ?_; clear hf; intro a hf
      refine sY hf hs rfl rfl rfl (Y_lss rfl rfl rfl) ?_; clear hf; intro a hf
      refine wpO_nil ?_
      refine wpL_cond hf rfl (fun hb58 => ?_) (fun hb58 => ?_)
      · have hm56 := bif_t hm56 hb58
        refine wpL_skip ?_
        refine wpL_seq ?_
        refine wpL_block0 ?_
        refine wpL_region ?_
        refine sY hf hs rfl rfl rfl (Y_move rfl rfl) ?_; clear hf; intro a hf
        refine sY hf hs rfl rfl rfl (Y_move rfl rfl) ?_; clear hf; intro a hf
        obtain ⟨q59, hi60, hm56⟩ := bind_some hm56
        obtain ⟨hi60a, hi60b, hi60q⟩ := idx_some hi60
        obtain ⟨A61, c62, us63, ht64⟩ := hs.cubAt (i := 0) rfl hi60q
        refine sY hf hs rfl rfl rfl (Y_index rfl rfl rfl el22 ti46 (Rd.isAt (hs.rdVC (i := 0) rfl) (mt_at ht64)) hi60a (ltn hn33 hi60b)) ?_; clear hf; intro a hf
        refine sY hf hs rfl rfl rfl (Y_load_rd rfl rfl (fun w hs => hs.rdVC (i := 0) rfl) (at1 (mt_at ht64)) ag46) ?_; clear hf; intro a hf
        refine sY hf hs rfl rfl rfl (Y_move rfl rfl) ?_; clear hf; intro a hf
        obtain ⟨r65, hc66, hm56⟩ := bind_some hm56
        refine sCall hf rfl rfl rfl rfl (cap := []) rfl rfl en36 (laws_markInt64SS_ok F q59 A61 q59.length c62 rfl us63 x35 _ _ hc66 (hs.matHoldsC (i := 0) rfl ht64)) ?_; clear hf
        obtain ⟨ms69, hu68, hm56⟩ := bind_some hm56
        rintro _ w ⟨rfl, hn67, hs1⟩ a hf
        obtain ⟨vs70, hs⟩ := hs.mutMatC (i := 0) rfl ht64 hs1 hn67 hu68
        clear hs1
        have hs : St (muC A_p0_a_1 vs_p0_a) W w [.cub A_p0_a_1 p0_a.length c_p0_a_1 46 23 2 vs70 ms69] := hs
        refine sY hf hs rfl rfl rfl (Y_assign rfl rfl) ?_; clear hf; intro a hf
        refine wpO_nil ?_
        refine wpL_nil (Qb_normal ?_)
        refine wpL_region ?_
        refine sY hf hs rfl rfl rfl (Y_move rfl rfl) ?_; clear hf; intro a hf
        refine sY hf hs rfl rfl rfl (Y_add rfl rfl rfl) ?_; clear hf; intro a hf
        refine sY hf hs rfl rfl rfl (Y_assign rfl rfl) ?_; clear hf; intro a hf
        refine wpO_nil ?_
        refine wpL_nil (Ql_normal ?_)
        exact ⟨ms69, r65.1, (IntKind.i64.wrap (x36 + 1)), vs70, hm56, ((hn33).trans (upd_len hu68).symm), (Fr.pick (Fr.pick (Fr.pick hf.none hf rfl) hf rfl) hf rfl), hs⟩
      · have hm56 := bif_f hm56 hb58
        refine wpL_exit (Ql_exit (Qb_exit ?_))
        exact ⟨ms32, x35, vs34, Option.some.inj hm56, hn33, (Fr.pick hf.none hf rfl), hs⟩
  · rintro a w ⟨ms50, x53, vs52, hr_, hn51, hf, hs⟩
    subst hr_
    try dsimp only at hm
    refine wpL_seq ?_
    refine wpL_region ?_
    refine sY hf hs rfl rfl rfl (Y_move rfl rfl) ?_; clear hf; intro a hf
    refine sY hf hs rfl rfl rfl (Y_assign rfl rfl) ?_; clear hf; intro a hf
    refine wpO_nil ?_
    obtain rfl := Option.some.inj hm
    refine wpL_ret (ret_tmp rfl hf rfl ?_)
    exact ⟨_, rfl, vs52, rfl, hn51, hs⟩

set_option maxRecDepth 100000 in
theorem laws_heldInt64S_ok (F : Nat) (p0_a : List Int) (A_p0_a_1 : Option Addr) (n_p0_a_1 c_p0_a_1 : Nat) (hn_p0_a_1 : n_p0_a_1 = p0_a.length) (p1_k : Int) (r : Int) (W : World) (hm : laws_heldInt64S F p0_a p1_k = some r) (h_p0_a_1 : Rd W A_p0_a_1 (ints p0_a)) :
    Calls Try.prog 23 [.slice A_p0_a_1 n_p0_a_1 c_p0_a_1, .int .i64 p1_k].toArray W fun e w' => ∃ v, e = .returned v ∧ v = .int .i64 r ∧ St [] W w' [] := by
  subst hn_p0_a_1
  unfold laws_heldInt64S at hm
  refine Calls.enter (N := 21) Try.func23 rfl rfl rfl (fun a hf => ?_)
  have hs := St.start W
  obtain ⟨w, hw_⟩ : ∃ w, w = W := ⟨W, rfl⟩
  clear hw_ w
  refine wpL_seq ?_
  refine wpL_region ?_
  refine sY hf hs rfl rfl rfl (Y_assign rfl rfl) ?_; clear hf; intro a hf
  refine wpO_nil ?_
  refine wpL_seq ?_
  refine wpL_seq ?_
  refine wpL_region ?_
  refine sY hf hs rfl rfl rfl (Y_assign rfl rfl) ?_; clear hf; intro a hf
  refine wpO_nil ?_
  obtain ⟨r18, hl19, hm⟩ := bind_some hm
  refine wpL_block (fun a w => ∃ x17 : Int, Sum.inr x17 = r18 ∧ Fr a 21 [(1, .int .i64 x17)] ∧ St [] W w []) ?_ ?_
  · refine wpL_loop (fun n a w => ∃ x11 : Int, ∃ x12 : Int, laws_heldInt64S_L1 F p0_a n x11 x12 = some r18 ∧ Fr a 21 [(0, .slice A_p0_a_1 p0_a.length c_p0_a_1), (1, .int .i64 x11), (5, .int .i64 x12)] ∧ St [] W w []) F ?_ ?_ ?_
    · exact ⟨p1_k, 0, hl19, (Fr.pick (Fr.pick (Fr.pick hf.none hf rfl) hf rfl) hf rfl), hs⟩
    · rintro a w ⟨x11, x12, h0_, -, -⟩; simp [laws_heldInt64S_L1] at h0_
    · rintro n21 a w ⟨x11, x12, hm20, hf, hs⟩
      rw [laws_heldInt64S_L1] at hm20
      refine wpL_seq ?_
      refine wpL_seq ?_
      refine wpL_region ?_
      refine sY hf hs rfl rfl rfl (Y_move rfl rfl) ?_; clear hf; intro a hf
      refine sY hf hs rfl rfl rfl (Y_move rfl rfl) ?_; clear hf; intro a hf
      refine sY hf hs rfl rfl rfl (Y_lenH rfl rfl el23 rfl) ?_; clear hf; intro a hf
      refine sY hf hs rfl rfl rfl (Y_lss rfl rfl rfl) ?_; clear hf; intro a hf
      refine wpO_nil ?_
      refine wpL_cond hf rfl (fun hb22 => ?_) (fun hb22 => ?_)
      · have hm20 := bif_t hm20 hb22
        refine wpL_skip ?_
        refine wpL_seq ?_
        refine wpL_block0 ?_
        refine wpL_seq ?_
        refine wpL_seq ?_
        refine wpL_region ?_
        refine sY hf hs rfl rfl rfl (Y_move rfl rfl) ?_; clear hf; intro a hf
        refine sY hf hs rfl rfl rfl (Y_move rfl rfl) ?_; clear hf; intro a hf
        obtain ⟨q23, hi24, hm20⟩ := bind_some hm20
        obtain ⟨hi24a, hi24b, hi24q⟩ := idx_some hi24
        refine sY hf hs rfl rfl rfl (Y_index rfl rfl rfl el23 ti2 (Rd.isAt (h_p0_a_1.at hs) (at1 (ints_at hi24q))) hi24a hi24b) ?_; clear hf; intro a hf
        refine sY hf hs rfl rfl rfl (Y_load_rd rfl rfl (fun w hs => h_p0_a_1.at hs) (at1 (ints_at hi24q)) ag2) ?_; clear hf; intro a hf
        refine sY hf hs rfl rfl rfl (Y_move rfl rfl) ?_; clear hf; intro a hf
        refine sY hf hs rfl rfl rfl (Y_neq rfl rfl rfl) ?_; clear hf; intro a hf
        refine wpO_nil ?_
        refine wpL_cond hf rfl (fun hb25 => ?_) (fun hb25 => ?_)
        · have hm20 := bif_t hm20 hb25
          refine wpL_seq ?_
          refine wpL_region ?_
          refine sY hf hs rfl rfl rfl (Y_assign rfl rfl) ?_; clear hf; intro a hf
          refine wpO_nil ?_
          obtain rfl := Option.some.inj hm20
          try dsimp only at hm
          obtain rfl := Option.some.inj hm
          refine wpL_ret (Qb_ret (Ql_ret (Qb_ret (ret_tmp rfl hf rfl ?_))))
          exact ⟨_, rfl, rfl, hs⟩
        · have hm20 := bif_f hm20 hb25
          refine wpL_skip ?_
          refine wpL_region ?_
          refine sY hf hs rfl rfl rfl (Y_move rfl rfl) ?_; clear hf; intro a hf
          refine sY hf hs rfl rfl rfl (Y_add rfl rfl rfl) ?_; clear hf; intro a hf
          refine sY hf hs rfl rfl rfl (Y_assign rfl rfl) ?_; clear hf; intro a hf
          refine wpO_nil ?_
          refine wpL_nil (Qb_normal ?_)
          refine wpL_region ?_
          refine sY hf hs rfl rfl rfl (Y_move rfl rfl) ?_; clear hf; intro a hf
          refine sY hf hs rfl rfl rfl (Y_add rfl rfl rfl) ?_; clear hf; intro a hf
          refine sY hf hs rfl rfl rfl (Y_assign rfl rfl) ?_; clear hf; intro a hf
          refine wpO_nil ?_
          refine wpL_nil (Ql_normal ?_)
          exact ⟨(IntKind.i64.wrap (x11 + 1)), (IntKind.i64.wrap (x12 + 1)), hm20, (Fr.pick (Fr.pick (Fr.pick hf.none hf rfl) hf rfl) hf rfl), hs⟩
      · have hm20 := bif_f hm20 hb22
        refine wpL_exit (Ql_exit (Qb_exit ?_))
        exact ⟨x11, Option.some.inj hm20, (Fr.pick hf.none hf rfl), hs⟩
  · rintro a w ⟨x17, hr_, hf, hs⟩
    subst hr_
    try dsimp only at hm
    refine wpL_seq ?_
    refine wpL_region ?_
    refine sY hf hs rfl rfl rfl (Y_move rfl rfl) ?_; clear hf; intro a hf
    refine sY hf hs rfl rfl rfl (Y_assign rfl rfl) ?_; clear hf; intro a hf
    refine wpO_nil ?_
    obtain rfl := Option.some.inj hm
    refine wpL_ret (ret_tmp rfl hf rfl ?_)
    exact ⟨_, rfl, rfl, hs⟩

set_option maxRecDepth 100000 in
theorem laws_FnExactGreatestAfter_ok (F : Nat) (p0 : List (List (List Int))) (A_p0_1 : Option Addr) (n_p0_1 c_p0_1 : Nat) (hn_p0_1 : n_p0_1 = p0.length) (p1 : List Int) (A_p1_1 : Option Addr) (n_p1_1 c_p1_1 : Nat) (hn_p1_1 : n_p1_1 = p1.length) (p2 : Int) (r : Bool) (W : World) (hm : laws_FnExactGreatestAfter F p0 p1 p2 = some r) (h_p0_1 : RdC W A_p0_1 p0) (h_p1_1 : Rd W A_p1_1 (ints p1)) :
    Calls Try.prog 3 [.slice A_p0_1 n_p0_1 c_p0_1, .slice A_p1_1 n_p1_1 c_p1_1, .int .i64 p2].toArray W fun e w' => ∃ v, e = .returned v ∧ v = .bool r ∧ St [] W w' [] := by
  subst hn_p0_1
  subst hn_p1_1
  unfold laws_FnExactGreatestAfter at hm
  refine Calls.enter (N := 122) Try.func3 rfl rfl rfl (fun a hf => ?_)
  have hs := St.start W
  obtain ⟨w, hw_⟩ : ∃ w, w = W := ⟨W, rfl⟩
  clear hw_ w
  refine wpL_seq ?_
  refine wpL_region ?_
  refine sY hf hs rfl rfl rfl (Y_assign rfl rfl) ?_; clear hf; intro a hf
  refine wpO_nil ?_
  refine wpL_seq ?_
  refine wpL_seq ?_
  refine wpL_region ?_
  refine sY hf hs rfl rfl rfl (Y_move rfl rfl) ?_; clear hf; intro a hf
  refine sY hf hs rfl rfl rfl (Y_lenH rfl rfl el23 rfl) ?_; clear hf; intro a hf
  refine sY hf hs rfl rfl rfl (Y_gtr rfl rfl rfl) ?_; clear hf; intro a hf
  refine wpO_nil ?_
  refine wpL_cond hf rfl (fun hb1 => ?_) (fun hb1 => ?_)
  · have hm := bif_t hm hb1
    refine wpL_seq ?_
    refine wpL_region ?_
    refine sY hf hs rfl rfl rfl (Y_assign rfl rfl) ?_; clear hf; intro a hf
    refine wpO_nil ?_
    obtain rfl := Option.some.inj hm
    refine wpL_ret (ret_tmp rfl hf rfl ?_)
    exact ⟨_, rfl, rfl, hs⟩
  · have hm := bif_f hm hb1
    refine wpL_skip ?_
    refine wpL_seq ?_
    refine wpL_region ?_
    refine sY hf hs rfl rfl rfl (Y_assign rfl rfl) ?_; clear hf; intro a hf
    refine wpO_nil ?_
    refine wpL_seq ?_
    refine wpL_region ?_
    refine sY hf hs rfl rfl rfl (Y_move rfl rfl) ?_; clear hf; intro a hf
    refine sY hf hs rfl rfl rfl (Y_move rfl rfl) ?_; clear hf; intro a hf
    obtain ⟨r2, hc3, hm⟩ := bind_some hm
    refine sCall hf rfl rfl rfl rfl (cap := []) rfl rfl en14 (laws_szInt64SSS_ok F p0 A_p0_1 p0.length c_p0_1 rfl 1048576 _ _ hc3 (h_p0_1.at hs)) ?_; clear hf
    rintro _ w ⟨rfl, hs1⟩ a hf
    have hs : St [] W w [] := hs.ext hs1.below
    clear hs1
    refine sY hf hs rfl rfl rfl (Y_assign rfl rfl) ?_; clear hf; intro a hf
    refine wpO_nil ?_
    refine wpL_seq ?_
    refine wpL_seq ?_
    refine wpL_region ?_
    refine sY hf hs rfl rfl rfl (Y_move rfl rfl) ?_; clear hf; intro a hf
    refine sY hf hs rfl rfl rfl (Y_lss rfl rfl rfl) ?_; clear hf; intro a hf
    refine wpO_nil ?_
    refine wpL_cond hf rfl (fun hb4 => ?_) (fun hb4 => ?_)
    · have hm := bif_t hm hb4
      refine wpL_seq ?_
      refine wpL_region ?_
      refine sY hf hs rfl rfl rfl (Y_assign rfl rfl) ?_; clear hf; intro a hf
      refine wpO_nil ?_
      obtain rfl := Option.some.inj hm
      refine wpL_ret (ret_tmp rfl hf rfl ?_)
      exact ⟨_, rfl, rfl, hs⟩
    · have hm := bif_f hm hb4
      refine wpL_skip ?_
      refine wpL_seq ?_
      refine wpL_region ?_
      refine sY hf hs rfl rfl rfl (Y_move rfl rfl) ?_; clear hf; intro a hf
      obtain ⟨r5, hc6, hm⟩ := bind_some hm
      refine sCall hf rfl rfl rfl rfl (cap := []) rfl rfl en16 (laws_toInt64SSS_ok F p0 A_p0_1 p0.length c_p0_1 rfl _ _ hc6 (h_p0_1.at hs)) ?_; clear hf
      rintro _ w ⟨A7, n8, c9, vs11, rfl, hn10, hs1⟩ a hf
      have hs : St [] W w [.cub A7 n8 c9 46 23 2 vs11 r5] := hs.join hs1
      clear hs1
      refine sY hf hs rfl rfl rfl (Y_move rfl rfl) ?_; clear hf; intro a hf
      obtain ⟨r12, hc13, hm⟩ := bind_some hm
      refine sCall hf rfl rfl rfl rfl (cap := []) rfl rfl en17 (laws_toInt64S_ok F p1 A_p1_1 p1.length c_p1_1 rfl _ _ hc13 (h_p1_1.at hs)) ?_; clear hf
      rintro _ w ⟨A14, n15, c16, rfl, hn17, hs1⟩ a hf
      have hs : St [] W w [.cub A7 n8 c9 46 23 2 vs11 r5, .row A14 n15 c16 2 1 (ints r12)] := hs.join hs1
      clear hs1
      refine sY hf hs rfl rfl rfl (Y_move rfl rfl) ?_; clear hf; intro a hf
      obtain ⟨r18, hc19, hm⟩ := bind_some hm
      refine sCall hf rfl rfl rfl rfl (cap := []) rfl rfl en15 (spec_GreatestAfter_ok F r5 A7 n8 c9 hn10 r12 A14 n15 c16 hn17 p2 _ _ hc19 (hs.rdC (i := 0) rfl) (hs.rd (i := 1) rfl)) ?_; clear hf
      rintro _ w ⟨A20, n21, c22, rfl, hn23, hs1⟩ a hf
      have hs : St [] W w [.cub A7 n8 c9 46 23 2 vs11 r5, .row A14 n15 c16 2 1 (ints r12), .row A20 n21 c22 2 1 (ints r18.1)] := hs.join hs1
      clear hs1
      refine sY hf hs rfl rfl rfl (Y_move rfl rfl) ?_; clear hf; intro a hf
      refine sY hf hs rfl rfl rfl (Y_extract rfl rfl rfl) ?_; clear hf; intro a hf
      refine sY hf hs rfl rfl rfl (Y_extract rfl rfl rfl) ?_; clear hf; intro a hf
      refine sY hf hs rfl rfl rfl (Y_assign rfl rfl) ?_; clear hf; intro a hf
      refine sY hf hs rfl rfl rfl (Y_assign rfl rfl) ?_; clear hf; intro a hf
      refine wpO_nil ?_
      refine wpL_seq ?_
      refine wpL_region ?_
      refine sY hf hs rfl rfl rfl (Y_move rfl rfl) ?_; clear hf; intro a hf
      obtain ⟨r24, hc25, hm⟩ := bind_some hm
      refine sCall hf rfl rfl rfl rfl (cap := []) rfl rfl en16 (laws_toInt64SSS_ok F p0 A_p0_1 p0.length c_p0_1 rfl _ _ hc25 (h_p0_1.at hs)) ?_; clear hf
      rintro _ w ⟨A26, n27, c28, vs30, rfl, hn29, hs1⟩ a hf
      have hs : St [] W w [.cub A7 n8 c9 46 23 2 vs11 r5, .row A14 n15 c16 2 1 (ints r12), .row A20 n21 c22 2 1 (ints r18.1), .cub A26 n27 c28 46 23 2 vs30 r24] := hs.join hs1
      clear hs1
      refine sY hf hs rfl rfl rfl (Y_assign rfl rfl) ?_; clear hf; intro a hf
      refine wpO_nil ?_
      refine wpL_seq ?_
      refine wpL_region ?_
      refine sY hf hs rfl rfl rfl (Y_move rfl rfl) ?_; clear hf; intro a hf
      obtain ⟨r31, hc32, hm⟩ := bind_some hm
      refine sCall hf rfl rfl rfl rfl (cap := []) rfl rfl en17 (laws_toInt64S_ok F p1 A_p1_1 p1.length c_p1_1 rfl _ _ hc32 (h_p1_1.at hs)) ?_; clear hf
      rintro _ w ⟨A33, n34, c35, rfl, hn36, hs1⟩ a hf
      have hs : St [] W w [.cub A7 n8 c9 46 23 2 vs11 r5, .row A14 n15 c16 2 1 (ints r12), .row A20 n21 c22 2 1 (ints r18.1), .cub A26 n27 c28 46 23 2 vs30 r24, .row A33 n34 c35 2 1 (ints r31)] := hs.join hs1
      clear hs1
      refine sY hf hs rfl rfl rfl (Y_assign rfl rfl) ?_; clear hf; intro a hf
      refine wpO_nil ?_
      refine wpL_seq ?_
      refine wpL_region ?_
      refine sY hf hs rfl rfl rfl (Y_move rfl rfl) ?_; clear hf; intro a hf
      refine sY hf hs rfl rfl rfl (Y_move rfl rfl) ?_; clear hf; intro a hf
      refine sY hf hs rfl rfl rfl (Y_move rfl rfl) ?_; clear hf; intro a hf
      obtain ⟨r37, hc38, hm⟩ := bind_some hm
      refine sCall hf rfl rfl rfl rfl (cap := []) rfl rfl en18 (impl_GreatestAfter_ok F r24 A26 n27 c28 hn29 r31 A33 n34 c35 hn36 p2 _ _ hc38 (hs.rdC (i := 3) rfl) (hs.capC (i := 3) rfl) (hs.rd (i := 4) rfl)) ?_; clear hf
      rintro _ w ⟨A39, n40, c41, rfl, hn42, hs1⟩ a hf
      have hs : St [] W w [.cub A7 n8 c9 46 23 2 vs11 r5, .row A14 n15 c16 2 1 (ints r12), .row A20 n21 c22 2 1 (ints r18.1), .cub A26 n27 c28 46 23 2 vs30 r24, .row A33 n34 c35 2 1 (ints r31), .row A39 n40 c41 2 1 (ints r37.1)] := hs.join hs1
      clear hs1
      refine sY hf hs rfl rfl rfl (Y_move rfl rfl) ?_; clear hf; intro a hf
      refine sY hf hs rfl rfl rfl (Y_extract rfl rfl rfl) ?_; clear hf; intro a hf
      refine sY hf hs rfl rfl rfl (Y_extract rfl rfl rfl) ?_; clear hf; intro a hf
      refine sY hf hs rfl rfl rfl (Y_assign rfl rfl) ?_; clear hf; intro a hf
      refine sY hf hs rfl rfl rfl (Y_assign rfl rfl) ?_; clear hf; intro a hf
      refine wpO_nil ?_
      refine wpL_seq ?_
      refine wpL_seq ?_
      obtain ⟨r47, hj48, hm⟩ := bind_some hm
      refine wpL_cut (fun a w => ∃ b46 : Bool, b46 = r47 ∧ Fr a 122 [(0, .slice A_p0_1 p0.length c_p0_1), (1, .slice A_p1_1 p1.length c_p1_1), (2, .int .i64 p2), (8, .slice A20 n21 c22), (9, .int .i64 r18.2), (10, .slice A26 n27 c28), (11, .slice A33 n34 c35), (12, .slice A39 n40 c41), (13, .int .i64 r37.2), (55, .bool b46)] ∧ St [] W w [.row A20 n21 c22 2 1 (ints r18.1), .cub A26 n27 c28 46 23 2 vs30 r24, .row A33 n34 c35 2 1 (ints r31), .row A39 n40 c41 2 1 (ints r37.1)]) ?_ ?_
      · refine wpL_region ?_
        refine sY hf hs rfl rfl rfl (Y_move rfl rfl) ?_; clear hf; intro a hf
        refine sY hf hs rfl rfl rfl (Y_move rfl rfl) ?_; clear hf; intro a hf
        obtain ⟨r49, hc50, hj48⟩ := bind_some hj48
        refine sCall hf rfl rfl rfl rfl (cap := []) rfl rfl en19 (laws_eqInt64S_ok F r37.1 A39 n40 c41 hn42 r18.1 A20 n21 c22 hn23 _ _ hc50 (hs.rd (i := 5) rfl) (hs.rd (i := 2) rfl)) ?_; clear hf
        rintro _ w ⟨rfl, hs1⟩ a hf
        have hs : St [] W w [.cub A7 n8 c9 46 23 2 vs11 r5, .row A14 n15 c16 2 1 (ints r12), .row A20 n21 c22 2 1 (ints r18.1), .cub A26 n27 c28 46 23 2 vs30 r24, .row A33 n34 c35 2 1 (ints r31), .row A39 n40 c41 2 1 (ints r37.1)] := hs.ext hs1.below
        clear hs1
        refine sY hf hs rfl rfl rfl (Y_not rfl rfl) ?_; clear hf; intro a hf
        refine sY hf hs rfl rfl rfl (Y_move rfl rfl) ?_; clear hf; intro a hf
        refine bsplit (!r49) (fun hb51 => ?_) (fun hb51 => ?_)
        · have hj48 := bif_t hj48 hb51
          refine sNo hf rfl rfl rfl (congrArg (fun b => some (Value.bool b)) hb51) rfl rfl rfl ?_; clear hf; intro a hf
          refine sNo hf rfl rfl rfl (congrArg (fun b => some (Value.bool b)) hb51) rfl rfl rfl ?_; clear hf; intro a hf
          refine sNo hf rfl rfl rfl (congrArg (fun b => some (Value.bool b)) hb51) rfl rfl rfl ?_; clear hf; intro a hf
          refine sY hf hs rfl rfl rfl (Y_pickT rfl (congrArg (fun b => some (Value.bool b)) hb51) rfl) ?_; clear hf; intro a hf
          refine wpO_nil ?_
          refine wpL_nil (then_normal ?_)
          exact ⟨true, Option.some.inj hj48, (Fr.pick (Fr.pick (Fr.pick (Fr.pick (Fr.pick (Fr.pick (Fr.pick (Fr.pick (Fr.pick (Fr.pick hf.none hf rfl) hf rfl) hf rfl) hf rfl) hf rfl) hf rfl) hf rfl) hf rfl) hf rfl) hf rfl), hs.sel [2, 3, 4, 5] (by decide)⟩
        · have hj48 := bif_f hj48 hb51
          refine sYg hf hs rfl rfl rfl (congrArg (fun b => some (Value.bool b)) hb51) rfl rfl rfl (Y_move rfl rfl) ?_; clear hf; intro a hf
          refine sYg hf hs rfl rfl rfl (congrArg (fun b => some (Value.bool b)) hb51) rfl rfl rfl (Y_move rfl rfl) ?_; clear hf; intro a hf
          refine sYg hf hs rfl rfl rfl (congrArg (fun b => some (Value.bool b)) hb51) rfl rfl rfl (Y_neq rfl rfl rfl) ?_; clear hf; intro a hf
          refine sY hf hs rfl rfl rfl (Y_pickF rfl (congrArg (fun b => some (Value.bool b)) hb51) rfl) ?_; clear hf; intro a hf
          refine wpO_nil ?_
          refine wpL_nil (then_normal ?_)
          exact ⟨(r37.2 != r18.2), Option.some.inj hj48, (Fr.pick (Fr.pick (Fr.pick (Fr.pick (Fr.pick (Fr.pick (Fr.pick (Fr.pick (Fr.pick (Fr.pick hf.none hf rfl) hf rfl) hf rfl) hf rfl) hf rfl) hf rfl) hf rfl) hf rfl) hf rfl) hf rfl), hs.sel [2, 3, 4, 5] (by decide)⟩
      · rintro a w ⟨b46, hr_, hf, hs⟩
        subst hr_
        try dsimp only at hm
        refine wpL_cond hf rfl (fun hb52 => ?_) (fun hb52 => ?_)
        · have hm := bif_t hm hb52
          refine wpL_seq ?_
          refine wpL_region ?_
          refine sY hf hs rfl rfl rfl (Y_assign rfl rfl) ?_; clear hf; intro a hf
          refine wpO_nil ?_
          obtain rfl := Option.some.inj hm
          refine wpL_ret (ret_tmp rfl hf rfl ?_)
          exact ⟨_, rfl, rfl, hs.sel [] (by decide)⟩
        · have hm := bif_f hm hb52
          refine wpL_skip ?_
          refine wpL_seq ?_
          refine wpL_seq ?_
          refine wpL_region ?_
          refine sY hf hs rfl rfl rfl (Y_move rfl rfl) ?_; clear hf; intro a hf
          refine sY hf hs rfl rfl rfl (Y_move rfl rfl) ?_; clear hf; intro a hf
          obtain ⟨r53, hc54, hm⟩ := bind_some hm
          refine sCall hf rfl rfl rfl rfl (cap := []) rfl rfl en16 (laws_toInt64SSS_ok F p0 A_p0_1 p0.length c_p0_1 rfl _ _ hc54 (h_p0_1.at hs)) ?_; clear hf
          rintro _ w ⟨A55, n56, c57, vs59, rfl, hn58, hs1⟩ a hf
          have hs : St [] W w [.row A20 n21 c22 2 1 (ints r18.1), .cub A26 n27 c28 46 23 2 vs30 r24, .row A33 n34 c35 2 1 (ints r31), .row A39 n40 c41 2 1 (ints r37.1), .cub A55 n56 c57 46 23 2 vs59 r53] := hs.join hs1
          clear hs1
          obtain ⟨r60, hc61, hm⟩ := bind_some hm
          refine sCall hf rfl rfl rfl rfl (cap := []) rfl rfl en20 (laws_eqInt64SSS_ok F r24 A26 n27 c28 hn29 r53 A55 n56 c57 hn58 _ _ hc61 (hs.rdC (i := 1) rfl) (hs.rdC (i := 4) rfl)) ?_; clear hf
          rintro _ w ⟨rfl, hs1⟩ a hf
          have hs : St [] W w [.row A20 n21 c22 2 1 (ints r18.1), .cub A26 n27 c28 46 23 2 vs30 r24, .row A33 n34 c35 2 1 (ints r31), .row A39 n40 c41 2 1 (ints r37.1), .cub A55 n56 c57 46 23 2 vs59 r53] := hs.ext hs1.below
          clear hs1
          refine sY hf hs rfl rfl rfl (Y_not rfl rfl) ?_; clear hf; intro a hf
          refine wpO_nil ?_
          refine wpL_cond hf rfl (fun hb62 => ?_) (fun hb62 => ?_)
          · have hm := bif_t hm hb62
            refine wpL_seq ?_
            refine wpL_region ?_
            refine sY hf hs rfl rfl rfl (Y_assign rfl rfl) ?_; clear hf; intro a hf
            refine wpO_nil ?_
            obtain rfl := Option.some.inj hm
            refine wpL_ret (ret_tmp rfl hf rfl ?_)
            exact ⟨_, rfl, rfl, hs.sel [] (by decide)⟩
          · have hm := bif_f hm hb62
            refine wpL_skip ?_
            refine wpL_seq ?_
            refine wpL_seq ?_
            refine wpL_region ?_
            refine sY hf hs rfl rfl rfl (Y_move rfl rfl) ?_; clear hf; intro a hf
            refine sY hf hs rfl rfl rfl (Y_move rfl rfl) ?_; clear hf; intro a hf
            obtain ⟨r63, hc64, hm⟩ := bind_some hm
            refine sCall hf rfl rfl rfl rfl (cap := []) rfl rfl en17 (laws_toInt64S_ok F p1 A_p1_1 p1.length c_p1_1 rfl _ _ hc64 (h_p1_1.at hs)) ?_; clear hf
            rintro _ w ⟨A65, n66, c67, rfl, hn68, hs1⟩ a hf
            have hs : St [] W w [.row A20 n21 c22 2 1 (ints r18.1), .cub A26 n27 c28 46 23 2 vs30 r24, .row A33 n34 c35 2 1 (ints r31), .row A39 n40 c41 2 1 (ints r37.1), .cub A55 n56 c57 46 23 2 vs59 r53, .row A65 n66 c67 2 1 (ints r63)] := hs.join hs1
            clear hs1
            obtain ⟨r69, hc70, hm⟩ := bind_some hm
            refine sCall hf rfl rfl rfl rfl (cap := []) rfl rfl en19 (laws_eqInt64S_ok F r31 A33 n34 c35 hn36 r63 A65 n66 c67 hn68 _ _ hc70 (hs.rd (i := 2) rfl) (hs.rd (i := 5) rfl)) ?_; clear hf
            rintro _ w ⟨rfl, hs1⟩ a hf
            have hs : St [] W w [.row A20 n21 c22 2 1 (ints r18.1), .cub A26 n27 c28 46 23 2 vs30 r24, .row A33 n34 c35 2 1 (ints r31), .row A39 n40 c41 2 1 (ints r37.1), .cub A55 n56 c57 46 23 2 vs59 r53, .row A65 n66 c67 2 1 (ints r63)] := hs.ext hs1.below
            clear hs1
            refine sY hf hs rfl rfl rfl (Y_not rfl rfl) ?_; clear hf; intro a hf
            refine wpO_nil ?_
            refine wpL_cond hf rfl (fun hb71 => ?_) (fun hb71 => ?_)
            · have hm := bif_t hm hb71
              refine wpL_seq ?_
              refine wpL_region ?_
              refine sY hf hs rfl rfl rfl (Y_assign rfl rfl) ?_; clear hf; intro a hf
              refine wpO_nil ?_
              obtain rfl := Option.some.inj hm
              refine wpL_ret (ret_tmp rfl hf rfl ?_)
              exact ⟨_, rfl, rfl, hs.sel [] (by decide)⟩
            · have hm := bif_f hm hb71
              refine wpL_skip ?_
              refine wpL_seq ?_
              refine wpL_region ?_
              refine sY hf hs rfl rfl rfl (Y_assign rfl rfl) ?_; clear hf; intro a hf
              refine wpO_nil ?_
              refine wpL_seq ?_
              refine wpL_region ?_
              refine sY hf hs rfl rfl rfl (Y_move rfl rfl) ?_; clear hf; intro a hf
              refine sY hf hs rfl rfl rfl (Y_move rfl rfl) ?_; clear hf; intro a hf
              obtain ⟨r72, hc73, hm⟩ := bind_some hm
              refine sCall hf rfl rfl rfl rfl (cap := []) rfl rfl en21 (laws_markInt64SSS_ok F r24 A26 n27 c28 hn29 vs30 1 _ _ hc73 (hs.res _ _ (show _[1]? = some _ from rfl))) ?_; clear hf
              rintro _ w ⟨vs75, rfl, hn74, hs1⟩ a hf
              have hs : St [] W w [.row A20 n21 c22 2 1 (ints r18.1), .cub A26 n27 c28 46 23 2 vs75 r72.2, .row A33 n34 c35 2 1 (ints r31), .row A39 n40 c41 2 1 (ints r37.1), .cub A55 n56 c57 46 23 2 vs59 r53, .row A65 n66 c67 2 1 (ints r63)] := hs.mut (i := 1) rfl (fun b hb => muC_mem.1 hb) hs1
              clear hs1
              refine sY hf hs rfl rfl rfl (Y_assign rfl rfl) ?_; clear hf; intro a hf
              refine wpO_nil ?_
              refine wpL_seq ?_
              refine wpL_region ?_
              refine sY hf hs rfl rfl rfl (Y_move rfl rfl) ?_; clear hf; intro a hf
              refine sY hf hs rfl rfl rfl (Y_move rfl rfl) ?_; clear hf; intro a hf
              obtain ⟨r76, hc77, hm⟩ := bind_some hm
              refine sCall hf rfl rfl rfl rfl (cap := []) rfl rfl en22 (laws_markInt64S_ok F r31 A33 n34 c35 hn36 r72.1 _ _ hc77 (hs.res _ _ (show _[2]? = some _ from rfl))) ?_; clear hf
              rintro _ w ⟨rfl, hn78, hs1⟩ a hf
              have hs : St [] W w [.row A20 n21 c22 2 1 (ints r18.1), .cub A26 n27 c28 46 23 2 vs75 r72.2, .row A33 n34 c35 2 1 (ints r76.2), .row A39 n40 c41 2 1 (ints r37.1), .cub A55 n56 c57 46 23 2 vs59 r53, .row A65 n66 c67 2 1 (ints r63)] := hs.mut (i := 2) rfl (fun b hb => muA_mem hb) hs1
              clear hs1
              refine sY hf hs rfl rfl rfl (Y_assign rfl rfl) ?_; clear hf; intro a hf
              refine wpO_nil ?_
              refine wpL_seq ?_
              refine wpL_seq ?_
              obtain ⟨r84, hj85, hm⟩ := bind_some hm
              refine wpL_cut (fun a w => ∃ b83 : Bool, b83 = r84 ∧ Fr a 122 [(0, .slice A_p0_1 p0.length c_p0_1), (1, .slice A_p1_1 p1.length c_p1_1), (2, .int .i64 p2), (8, .slice A20 n21 c22), (9, .int .i64 r18.2), (12, .slice A39 n40 c41), (84, .bool b83)] ∧ St [] W w [.row A20 n21 c22 2 1 (ints r18.1), .row A39 n40 c41 2 1 (ints r37.1)]) ?_ ?_
              · refine wpL_region ?_
                refine sY hf hs rfl rfl rfl (Y_move rfl rfl) ?_; clear hf; intro a hf
                refine sY hf hs rfl rfl rfl (Y_lss rfl rfl rfl) ?_; clear hf; intro a hf
                refine sY hf hs rfl rfl rfl (Y_move rfl rfl) ?_; clear hf; intro a hf
                refine bsplit (decide (r76.1 < 0)) (fun hb86 => ?_) (fun hb86 => ?_)
                · have hj85 := bif_t hj85 hb86
                  refine sNo hf rfl rfl rfl (congrArg (fun b => some (Value.bool b)) hb86) rfl rfl rfl ?_; clear hf; intro a hf
                  refine sNo hf rfl rfl rfl (congrArg (fun b => some (Value.bool b)) hb86) rfl rfl rfl ?_; clear hf; intro a hf
                  refine sNo hf rfl rfl rfl (congrArg (fun b => some (Value.bool b)) hb86) rfl rfl rfl ?_; clear hf; intro a hf
                  refine sNo hf rfl rfl rfl (congrArg (fun b => some (Value.bool b)) hb86) rfl rfl rfl ?_; clear hf; intro a hf
                  refine sY hf hs rfl rfl rfl (Y_pickT rfl (congrArg (fun b => some (Value.bool b)) hb86) rfl) ?_; clear hf; intro a hf
                  refine sY hf hs rfl rfl rfl (Y_move rfl rfl) ?_; clear hf; intro a hf
                  refine sNo hf rfl rfl rfl rfl rfl rfl rfl ?_; clear hf; intro a hf
                  refine sNo hf rfl rfl rfl rfl rfl rfl rfl ?_; clear hf; intro a hf
                  refine sNo hf rfl rfl rfl rfl rfl rfl rfl ?_; clear hf; intro a hf
                  refine sY hf hs rfl rfl rfl (Y_pickT rfl rfl rfl) ?_; clear hf; intro a hf
                  refine wpO_nil ?_
                  refine wpL_nil (then_normal ?_)
                  exact ⟨true, Option.some.inj hj85, (Fr.pick (Fr.pick (Fr.pick (Fr.pick (Fr.pick (Fr.pick (Fr.pick hf.none hf rfl) hf rfl) hf rfl) hf rfl) hf rfl) hf rfl) hf rfl), hs.sel [0, 3] (by decide)⟩
                · have hj85 := bif_f hj85 hb86
                  refine sYg hf hs rfl rfl rfl (congrArg (fun b => some (Value.bool b)) hb86) rfl rfl rfl (Y_move rfl rfl) ?_; clear hf; intro a hf
                  refine sYg hf hs rfl rfl rfl (congrArg (fun b => some (Value.bool b)) hb86) rfl rfl rfl (Y_move rfl rfl) ?_; clear hf; intro a hf
                  obtain ⟨r87, hc88, hj85⟩ := bind_some hj85
                  refine sCallg hf rfl rfl rfl (congrArg (fun b => some (Value.bool b)) hb86) rfl rfl rfl rfl (cap := []) rfl rfl en19 (laws_eqInt64S_ok F r37.1 A39 n40 c41 hn42 r18.1 A20 n21 c22 hn23 _ _ hc88 (hs.rd (i := 3) rfl) (hs.rd (i := 0) rfl)) ?_; clear hf
                  rintro _ w ⟨rfl, hs1⟩ a hf
                  have hs : St [] W w [.row A20 n21 c22 2 1 (ints r18.1), .cub A26 n27 c28 46 23 2 vs75 r72.2, .row A33 n34 c35 2 1 (ints r76.2), .row A39 n40 c41 2 1 (ints r37.1), .cub A55 n56 c57 46 23 2 vs59 r53, .row A65 n66 c67 2 1 (ints r63)] := hs.ext hs1.below
                  clear hs1
                  refine sYg hf hs rfl rfl rfl (congrArg (fun b => some (Value.bool b)) hb86) rfl rfl rfl (Y_not rfl rfl) ?_; clear hf; intro a hf
                  refine sY hf hs rfl rfl rfl (Y_pickF rfl (congrArg (fun b => some (Value.bool b)) hb86) rfl) ?_; clear hf; intro a hf
                  refine sY hf hs rfl rfl rfl (Y_move rfl rfl) ?_; clear hf; intro a hf
                  refine bsplit (!r87) (fun hb89 => ?_) (fun hb89 => ?_)
                  · have hj85 := bif_t hj85 hb89
                    refine sNo hf rfl rfl rfl (congrArg (fun b => some (Value.bool b)) hb89) rfl rfl rfl ?_; clear hf; intro a hf
                    refine sNo hf rfl rfl rfl (congrArg (fun b => some (Value.bool b)) hb89) rfl rfl rfl ?_; clear hf; intro a hf
                    refine sNo hf rfl rfl rfl (congrArg (fun b => some (Value.bool b)) hb89) rfl rfl rfl ?_; clear hf; intro a hf
                    refine sY hf hs rfl rfl rfl (Y_pickT rfl (congrArg (fun b => some (Value.bool b)) hb89) rfl) ?_; clear hf; intro a hf
                    refine wpO_nil ?_
                    refine wpL_nil (then_normal ?_)
                    exact ⟨true, Option.some.inj hj85, (Fr.pick (Fr.pick (Fr.pick (Fr.pick (Fr.pick (Fr.pick (Fr.pick hf.none hf rfl) hf rfl) hf rfl) hf rfl) hf rfl) hf rfl) hf rfl), hs.sel [0, 3] (by decide)⟩
                  · have hj85 := bif_f hj85 hb89
                    refine sYg hf hs rfl rfl rfl (congrArg (fun b => some (Value.bool b)) hb89) rfl rfl rfl (Y_move rfl rfl) ?_; clear hf; intro a hf
                    refine sYg hf hs rfl rfl rfl (congrArg (fun b => some (Value.bool b)) hb89) rfl rfl rfl (Y_move rfl rfl) ?_; clear hf; intro a hf
                    refine sYg hf hs rfl rfl rfl (congrArg (fun b => some (Value.bool b)) hb89) rfl rfl rfl (Y_neq rfl rfl rfl) ?_; clear hf; intro a hf
                    refine sY hf hs rfl rfl rfl (Y_pickF rfl (congrArg (fun b => some (Value.bool b)) hb89) rfl) ?_; clear hf; intro a hf
                    refine wpO_nil ?_
                    refine wpL_nil (then_normal ?_)
                    exact ⟨(r37.2 != r18.2), Option.some.inj hj85, (Fr.pick (Fr.pick (Fr.pick (Fr.pick (Fr.pick (Fr.pick (Fr.pick hf.none hf rfl) hf rfl) hf rfl) hf rfl) hf rfl) hf rfl) hf rfl), hs.sel [0, 3] (by decide)⟩
              · rintro a w ⟨b83, hr_, hf, hs⟩
                subst hr_
                try dsimp only at hm
                refine wpL_cond hf rfl (fun hb90 => ?_) (fun hb90 => ?_)
                · have hm := bif_t hm hb90
                  refine wpL_seq ?_
                  refine wpL_region ?_
                  refine sY hf hs rfl rfl rfl (Y_assign rfl rfl) ?_; clear hf; intro a hf
                  refine wpO_nil ?_
                  obtain rfl := Option.some.inj hm
                  refine wpL_ret (ret_tmp rfl hf rfl ?_)
                  exact ⟨_, rfl, rfl, hs.sel [] (by decide)⟩
                · have hm := bif_f hm hb90
                  refine wpL_skip ?_
                  refine wpL_seq ?_
                  refine wpL_region ?_
                  refine sY hf hs rfl rfl rfl (Y_assign rfl rfl) ?_; clear hf; intro a hf
                  refine wpO_nil ?_
                  refine wpL_seq ?_
                  refine wpL_region ?_
                  refine sY hf hs rfl rfl rfl (Y_move rfl rfl) ?_; clear hf; intro a hf
                  refine sY hf hs rfl rfl rfl (Y_move rfl rfl) ?_; clear hf; intro a hf
                  obtain ⟨r91, hc92, hm⟩ := bind_some hm
                  refine sCall hf rfl rfl rfl rfl (cap := []) rfl rfl en22 (laws_markInt64S_ok F r37.1 A39 n40 c41 hn42 1 _ _ hc92 (hs.res _ _ (show _[1]? = some _ from rfl))) ?_; clear hf
                  rintro _ w ⟨rfl, hn93, hs1⟩ a hf
                  have hs : St [] W w [.row A20 n21 c22 2 1 (ints r18.1), .row A39 n40 c41 2 1 (ints r91.2)] := hs.mut (i := 1) rfl (fun b hb => muA_mem hb) hs1
                  clear hs1
                  refine sY hf hs rfl rfl rfl (Y_assign rfl rfl) ?_; clear hf; intro a hf
                  refine wpO_nil ?_
                  refine wpL_seq ?_
                  refine wpL_region ?_
                  refine sY hf hs rfl rfl rfl (Y_assign rfl rfl) ?_; clear hf; intro a hf
                  refine wpO_nil ?_
                  refine wpL_seq ?_
                  refine wpL_region ?_
                  refine sY hf hs rfl rfl rfl (Y_move rfl rfl) ?_; clear hf; intro a hf
                  refine sY hf hs rfl rfl rfl (Y_move rfl rfl) ?_; clear hf; intro a hf
                  obtain ⟨r94, hc95, hm⟩ := bind_some hm
                  refine sCall hf rfl rfl rfl rfl (cap := []) rfl rfl en23 (laws_heldInt64S_ok F r91.2 A39 n40 c41 hn93 1 _ _ hc95 (hs.rd (i := 1) rfl)) ?_; clear hf
                  rintro _ w ⟨rfl, hs1⟩ a hf
                  have hs : St [] W w [.row A20 n21 c22 2 1 (ints r18.1), .row A39 n40 c41 2 1 (ints r91.2)] := hs.ext hs1.below
                  clear hs1
                  refine sY hf hs rfl rfl rfl (Y_assign rfl rfl) ?_; clear hf; intro a hf
                  refine wpO_nil ?_
                  refine wpL_seq ?_
                  refine wpL_seq ?_
                  refine wpL_region ?_
                  refine sY hf hs rfl rfl rfl (Y_move rfl rfl) ?_; clear hf; intro a hf
                  refine sY hf hs rfl rfl rfl (Y_lss rfl rfl rfl) ?_; clear hf; intro a hf
                  refine wpO_nil ?_
                  refine wpL_cond hf rfl (fun hb96 => ?_) (fun hb96 => ?_)
                  · have hm := bif_t hm hb96
                    refine wpL_seq ?_
                    refine wpL_region ?_
                    refine sY hf hs rfl rfl rfl (Y_assign rfl rfl) ?_; clear hf; intro a hf
                    refine wpO_nil ?_
                    obtain rfl := Option.some.inj hm
                    refine wpL_ret (ret_tmp rfl hf rfl ?_)
                    exact ⟨_, rfl, rfl, hs.sel [] (by decide)⟩
                  · have hm := bif_f hm hb96
                    refine wpL_skip ?_
                    refine wpL_seq ?_
                    refine wpL_seq ?_
                    refine wpL_region ?_
                    refine sY hf hs rfl rfl rfl (Y_move rfl rfl) ?_; clear hf; intro a hf
                    refine sY hf hs rfl rfl rfl (Y_move rfl rfl) ?_; clear hf; intro a hf
                    refine sY hf hs rfl rfl rfl (Y_neq rfl rfl rfl) ?_; clear hf; intro a hf
                    refine wpO_nil ?_
                    refine wpL_cond hf rfl (fun hb97 => ?_) (fun hb97 => ?_)
                    · have hm := bif_t hm hb97
                      refine wpL_seq ?_
                      refine wpL_region ?_
                      refine sY hf hs rfl rfl rfl (Y_assign rfl rfl) ?_; clear hf; intro a hf
                      refine wpO_nil ?_
                      obtain rfl := Option.some.inj hm
                      refine wpL_ret (ret_tmp rfl hf rfl ?_)
                      exact ⟨_, rfl, rfl, hs.sel [] (by decide)⟩
                    · have hm := bif_f hm hb97
                      refine wpL_skip ?_
                      refine wpL_seq ?_
                      refine wpL_region ?_
                      refine sY hf hs rfl rfl rfl (Y_move rfl rfl) ?_; clear hf; intro a hf
                      obtain ⟨r98, hc99, hm⟩ := bind_some hm
                      refine sCall hf rfl rfl rfl rfl (cap := []) rfl rfl en16 (laws_toInt64SSS_ok F p0 A_p0_1 p0.length c_p0_1 rfl _ _ hc99 (h_p0_1.at hs)) ?_; clear hf
                      rintro _ w ⟨A100, n101, c102, vs104, rfl, hn103, hs1⟩ a hf
                      have hs : St [] W w [.row A20 n21 c22 2 1 (ints r18.1), .row A39 n40 c41 2 1 (ints r91.2), .cub A100 n101 c102 46 23 2 vs104 r98] := hs.join hs1
                      clear hs1
                      refine sY hf hs rfl rfl rfl (Y_move rfl rfl) ?_; clear hf; intro a hf
                      obtain ⟨r105, hc106, hm⟩ := bind_some hm
                      refine sCall hf rfl rfl rfl rfl (cap := []) rfl rfl en17 (laws_toInt64S_ok F p1 A_p1_1 p1.length c_p1_1 rfl _ _ hc106 (h_p1_1.at hs)) ?_; clear hf
                      rintro _ w ⟨A107, n108, c109, rfl, hn110, hs1⟩ a hf
                      have hs : St [] W w [.row A20 n21 c22 2 1 (ints r18.1), .row A39 n40 c41 2 1 (ints r91.2), .cub A100 n101 c102 46 23 2 vs104 r98, .row A107 n108 c109 2 1 (ints r105)] := hs.join hs1
                      clear hs1
                      refine sY hf hs rfl rfl rfl (Y_move rfl rfl) ?_; clear hf; intro a hf
                      obtain ⟨r111, hc112, hm⟩ := bind_some hm
                      refine sCall hf rfl rfl rfl rfl (cap := []) rfl rfl en18 (impl_GreatestAfter_ok F r98 A100 n101 c102 hn103 r105 A107 n108 c109 hn110 p2 _ _ hc112 (hs.rdC (i := 2) rfl) (hs.capC (i := 2) rfl) (hs.rd (i := 3) rfl)) ?_; clear hf
                      rintro _ w ⟨A113, n114, c115, rfl, hn116, hs1⟩ a hf
                      have hs : St [] W w [.row A20 n21 c22 2 1 (ints r18.1), .row A39 n40 c41 2 1 (ints r91.2), .cub A100 n101 c102 46 23 2 vs104 r98, .row A107 n108 c109 2 1 (ints r105), .row A113 n114 c115 2 1 (ints r111.1)] := hs.join hs1
                      clear hs1
                      refine sY hf hs rfl rfl rfl (Y_move rfl rfl) ?_; clear hf; intro a hf
                      refine sY hf hs rfl rfl rfl (Y_extract rfl rfl rfl) ?_; clear hf; intro a hf
                      refine sY hf hs rfl rfl rfl (Y_extract rfl rfl rfl) ?_; clear hf; intro a hf
                      refine sY hf hs rfl rfl rfl (Y_assign rfl rfl) ?_; clear hf; intro a hf
                      refine sY hf hs rfl rfl rfl (Y_assign rfl rfl) ?_; clear hf; intro a hf
                      refine wpO_nil ?_
                      refine wpL_seq ?_
                      refine wpL_seq ?_
                      obtain ⟨r121, hj122, hm⟩ := bind_some hm
                      refine wpL_cut (fun a w => ∃ b120 : Bool, b120 = r121 ∧ Fr a 122 [(12, .slice A39 n40 c41), (15, .int .i64 r91.1), (113, .bool b120)] ∧ St [] W w [.row A39 n40 c41 2 1 (ints r91.2)]) ?_ ?_
                      · refine wpL_region ?_
                        refine sY hf hs rfl rfl rfl (Y_move rfl rfl) ?_; clear hf; intro a hf
                        refine sY hf hs rfl rfl rfl (Y_move rfl rfl) ?_; clear hf; intro a hf
                        obtain ⟨r123, hc124, hj122⟩ := bind_some hj122
                        refine sCall hf rfl rfl rfl rfl (cap := []) rfl rfl en19 (laws_eqInt64S_ok F r111.1 A113 n114 c115 hn116 r18.1 A20 n21 c22 hn23 _ _ hc124 (hs.rd (i := 4) rfl) (hs.rd (i := 0) rfl)) ?_; clear hf
                        rintro _ w ⟨rfl, hs1⟩ a hf
                        have hs : St [] W w [.row A20 n21 c22 2 1 (ints r18.1), .row A39 n40 c41 2 1 (ints r91.2), .cub A100 n101 c102 46 23 2 vs104 r98, .row A107 n108 c109 2 1 (ints r105), .row A113 n114 c115 2 1 (ints r111.1)] := hs.ext hs1.below
                        clear hs1
                        refine sY hf hs rfl rfl rfl (Y_not rfl rfl) ?_; clear hf; intro a hf
                        refine sY hf hs rfl rfl rfl (Y_move rfl rfl) ?_; clear hf; intro a hf
                        refine bsplit (!r123) (fun hb125 => ?_) (fun hb125 => ?_)
                        · have hj122 := bif_t hj122 hb125
                          refine sNo hf rfl rfl rfl (congrArg (fun b => some (Value.bool b)) hb125) rfl rfl rfl ?_; clear hf; intro a hf
                          refine sNo hf rfl rfl rfl (congrArg (fun b => some (Value.bool b)) hb125) rfl rfl rfl ?_; clear hf; intro a hf
                          refine sNo hf rfl rfl rfl (congrArg (fun b => some (Value.bool b)) hb125) rfl rfl rfl ?_; clear hf; intro a hf
                          refine sY hf hs rfl rfl rfl (Y_pickT rfl (congrArg (fun b => some (Value.bool b)) hb125) rfl) ?_; clear hf; intro a hf
                          refine wpO_nil ?_
                          refine wpL_nil (then_normal ?_)
                          exact ⟨true, Option.some.inj hj122, (Fr.pick (Fr.pick (Fr.pick hf.none hf rfl) hf rfl) hf rfl), hs.sel [1] (by decide)⟩
                        · have hj122 := bif_f hj122 hb125
                          refine sYg hf hs rfl rfl rfl (congrArg (fun b => some (Value.bool b)) hb125) rfl rfl rfl (Y_move rfl rfl) ?_; clear hf; intro a hf
                          refine sYg hf hs rfl rfl rfl (congrArg (fun b => some (Value.bool b)) hb125) rfl rfl rfl (Y_move rfl rfl) ?_; clear hf; intro a hf
                          refine sYg hf hs rfl rfl rfl (congrArg (fun b => some (Value.bool b)) hb125) rfl rfl rfl (Y_neq rfl rfl rfl) ?_; clear hf; intro a hf
                          refine sY hf hs rfl rfl rfl (Y_pickF rfl (congrArg (fun b => some (Value.bool b)) hb125) rfl) ?_; clear hf; intro a hf
                          refine wpO_nil ?_
                          refine wpL_nil (then_normal ?_)
                          exact ⟨(r111.2 != r18.2), Option.some.inj hj122, (Fr.pick (Fr.pick (Fr.pick hf.none hf rfl) hf rfl) hf rfl), hs.sel [1] (by decide)⟩
                      · rintro a w ⟨b120, hr_, hf, hs⟩
                        subst hr_
                        try dsimp only at hm
                        refine wpL_cond hf rfl (fun hb126 => ?_) (fun hb126 => ?_)
                        · have hm := bif_t hm hb126
                          refine wpL_seq ?_
                          refine wpL_region ?_
                          refine sY hf hs rfl rfl rfl (Y_assign rfl rfl) ?_; clear hf; intro a hf
                          refine wpO_nil ?_
                          obtain rfl := Option.some.inj hm
                          refine wpL_ret (ret_tmp rfl hf rfl ?_)
                          exact ⟨_, rfl, rfl, hs.sel [] (by decide)⟩
                        · have hm := bif_f hm hb126
                          refine wpL_skip ?_
                          refine wpL_seq ?_
                          refine wpL_region ?_
                          refine sY hf hs rfl rfl rfl (Y_assign rfl rfl) ?_; clear hf; intro a hf
                          refine wpO_nil ?_
                          refine wpL_seq ?_
                          refine wpL_region ?_
                          refine sY hf hs rfl rfl rfl (Y_move rfl rfl) ?_; clear hf; intro a hf
                          refine sY hf hs rfl rfl rfl (Y_move rfl rfl) ?_; clear hf; intro a hf
                          obtain ⟨r127, hc128, hm⟩ := bind_some hm
                          refine sCall hf rfl rfl rfl rfl (cap := []) rfl rfl en23 (laws_heldInt64S_ok F r91.2 A39 n40 c41 hn93 1 _ _ hc128 (hs.rd (i := 0) rfl)) ?_; clear hf
                          rintro _ w ⟨rfl, hs1⟩ a hf
                          have hs : St [] W w [.row A39 n40 c41 2 1 (ints r91.2)] := hs.ext hs1.below
                          clear hs1
                          refine sY hf hs rfl rfl rfl (Y_assign rfl rfl) ?_; clear hf; intro a hf
                          refine wpO_nil ?_
                          refine wpL_seq ?_
                          refine wpL_seq ?_
                          refine wpL_region ?_
                          refine sY hf hs rfl rfl rfl (Y_move rfl rfl) ?_; clear hf; intro a hf
                          refine sY hf hs rfl rfl rfl (Y_lss rfl rfl rfl) ?_; clear hf; intro a hf
                          refine wpO_nil ?_
                          refine wpL_cond hf rfl (fun hb129 => ?_) (fun hb129 => ?_)
                          · have hm := bif_t hm hb129
                            refine wpL_seq ?_
                            refine wpL_region ?_
                            refine sY hf hs rfl rfl rfl (Y_assign rfl rfl) ?_; clear hf; intro a hf
                            refine wpO_nil ?_
                            obtain rfl := Option.some.inj hm
                            refine wpL_ret (ret_tmp rfl hf rfl ?_)
                            exact ⟨_, rfl, rfl, hs.sel [] (by decide)⟩
                          · have hm := bif_f hm hb129
                            refine wpL_skip ?_
                            refine wpL_seq ?_
                            refine wpL_seq ?_
                            refine wpL_region ?_
                            refine sY hf hs rfl rfl rfl (Y_move rfl rfl) ?_; clear hf; intro a hf
                            refine sY hf hs rfl rfl rfl (Y_move rfl rfl) ?_; clear hf; intro a hf
                            refine sY hf hs rfl rfl rfl (Y_neq rfl rfl rfl) ?_; clear hf; intro a hf
                            refine wpO_nil ?_
                            refine wpL_cond hf rfl (fun hb130 => ?_) (fun hb130 => ?_)
                            · have hm := bif_t hm hb130
                              refine wpL_seq ?_
                              refine wpL_region ?_
                              refine sY hf hs rfl rfl rfl (Y_assign rfl rfl) ?_; clear hf; intro a hf
                              refine wpO_nil ?_
                              obtain rfl := Option.some.inj hm
                              refine wpL_ret (ret_tmp rfl hf rfl ?_)
                              exact ⟨_, rfl, rfl, hs.sel [] (by decide)⟩
                            · have hm := bif_f hm hb130
                              refine wpL_skip ?_
                              refine wpL_seq ?_
                              refine wpL_region ?_
                              refine sY hf hs rfl rfl rfl (Y_assign rfl rfl) ?_; clear hf; intro a hf
                              refine wpO_nil ?_
                              obtain rfl := Option.some.inj hm
                              refine wpL_ret (ret_tmp rfl hf rfl ?_)
                              exact ⟨_, rfl, rfl, hs.sel [] (by decide)⟩

end Go.Proofs.Ytpmebacdmilecaa
