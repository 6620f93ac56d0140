/- The functions do what their models say. -/
import Derived.Test.YtmijmamolmoheaaFindTourLifted1
import Derived.Test.YtmijmamolmoheaaRows
namespace Go.Proofs.Ytmijmamolmoheaa
open Go.RowKit

set_option maxRecDepth 100000 in
theorem impl_areValues_c1_ok (F : Nat) (p0_n : Int) (r : Bool) (W : World) (hm : impl_areValues_c1 F p0_n = some r) :
    Calls Try.prog 184 [.int .i64 p0_n].toArray W fun e w' => ∃ v, e = .returned v ∧ v = .bool r ∧ St [] W w' [] := by
  unfold impl_areValues_c1 at hm
  refine Calls.enter (N := 6) Try.func184 rfl rfl rfl (fun a hf => ?_)
  have hs := St.start W
  obtain ⟨w, hw_⟩ : ∃ w, w = W := ⟨W, rfl⟩
  clear hw_ w
  refine wpL_seq ?_
  refine wpL_region ?_
  refine sY hf hs rfl rfl rfl (Y_assign rfl rfl) ?_; clear hf; intro a hf
  refine wpO_nil ?_
  refine wpL_seq ?_
  refine wpL_region ?_
  refine sY hf hs rfl rfl rfl (Y_move rfl rfl) ?_; clear hf; intro a hf
  obtain ⟨r1, hc2, hm⟩ := bind_some hm
  refine sCall hf rfl rfl rfl rfl (cap := []) rfl rfl en185 (impl_IsValue_ok F p0_n _ _ hc2) ?_; clear hf
  rintro _ w ⟨rfl, hs1⟩ a hf
  have hs : St [] W w [] := hs.ext hs1.below
  clear hs1
  refine sY hf hs rfl rfl rfl (Y_not rfl rfl) ?_; clear hf; intro a hf
  refine sY hf hs rfl rfl rfl (Y_assign rfl rfl) ?_; clear hf; intro a hf
  refine wpO_nil ?_
  obtain rfl := Option.some.inj hm
  refine wpL_ret (ret_tmp rfl hf rfl ?_)
  exact ⟨_, rfl, rfl, hs⟩

set_option maxRecDepth 100000 in
theorem impl_areValues_ok (F : Nat) (p0_list : List Int) (A_p0_list_1 : Option Addr) (n_p0_list_1 c_p0_list_1 : Nat) (hn_p0_list_1 : n_p0_list_1 = p0_list.length) (r : Bool) (W : World) (hm : impl_areValues F p0_list = some r) (h_p0_list_1 : Rd W A_p0_list_1 (ints p0_list)) :
    Calls Try.prog 167 [.slice A_p0_list_1 n_p0_list_1 c_p0_list_1].toArray W fun e w' => ∃ v, e = .returned v ∧ v = .bool r ∧ St [] W w' [] := by
  subst hn_p0_list_1
  unfold impl_areValues at hm
  refine Calls.enter (N := 6) Try.func167 rfl rfl rfl (fun a hf => ?_)
  have hs := St.start W
  obtain ⟨w, hw_⟩ : ∃ w, w = W := ⟨W, rfl⟩
  clear hw_ w
  refine wpL_seq ?_
  refine wpL_region ?_
  refine sY hf hs rfl rfl rfl (Y_assign rfl rfl) ?_; clear hf; intro a hf
  refine wpO_nil ?_
  refine wpL_seq ?_
  refine wpL_region ?_
  refine sY hf hs rfl rfl rfl (Y_move rfl rfl) ?_; clear hf; intro a hf
  obtain ⟨r1, hc2, hm⟩ := bind_some hm
  refine sCall hf rfl rfl rfl rfl (cap := []) rfl rfl en183 (slices_ContainsFunc_int64_ok F p0_list A_p0_list_1 p0_list.length c_p0_list_1 rfl (fun x0 => impl_areValues_c1 F x0) 184 [] _ _ hc2 (h_p0_list_1.at hs) (fun x0 r w' hm_ hb => impl_areValues_c1_ok F x0 r w' hm_ ) en184) ?_; clear hf
  rintro _ w ⟨rfl, hs1⟩ a hf
  have hs : St [] W w [] := hs.ext hs1.below
  clear hs1
  refine sY hf hs rfl rfl rfl (Y_not rfl rfl) ?_; clear hf; intro a hf
  refine sY hf hs rfl rfl rfl (Y_assign rfl rfl) ?_; clear hf; intro a hf
  refine wpO_nil ?_
  obtain rfl := Option.some.inj hm
  refine wpL_ret (ret_tmp rfl hf rfl ?_)
  exact ⟨_, rfl, rfl, hs⟩

set_option maxRecDepth 100000 in
theorem impl_IsMatrix_c1_ok (F : Nat) (p0_row : List Int) (A_p0_row_1 : Option Addr) (n_p0_row_1 c_p0_row_1 : Nat) (hn_p0_row_1 : n_p0_row_1 = p0_row.length) (b_z0 : Nat) (z0 : List (List Int)) (A_z0_1 : Option Addr) (n_z0_1 c_z0_1 : Nat) (hn_z0_1 : n_z0_1 = z0.length) (r : Bool) (W : World) (hm : impl_IsMatrix_c1 F p0_row z0 = some r) (h_p0_row_1 : Rd W A_p0_row_1 (ints p0_row)) (h_z0_1 : RdM W A_z0_1 z0) (h_z0 : PB W b_z0 34 [.slice A_z0_1 n_z0_1 c_z0_1]) :
    Calls Try.prog 166 [.slice A_p0_row_1 n_p0_row_1 c_p0_row_1, .pointer (some ⟨b_z0, 0, none⟩)].toArray W fun e w' => ∃ v, e = .returned v ∧ v = .bool r ∧ St [] W w' [] := by
  subst hn_p0_row_1
  subst hn_z0_1
  unfold impl_IsMatrix_c1 at hm
  refine Calls.enter (N := 16) Try.func166 rfl rfl rfl (fun a hf => ?_)
  have hs := St.start W
  obtain ⟨w, hw_⟩ : ∃ w, w = W := ⟨W, rfl⟩
  clear hw_ w
  refine wpL_seq ?_
  refine wpL_region ?_
  refine sY hf hs rfl rfl rfl (Y_assign rfl rfl) ?_; clear hf; intro a hf
  refine wpO_nil ?_
  refine wpL_seq ?_
  obtain ⟨r14, hj15, hm⟩ := bind_some hm
  refine wpL_cut (fun a w => ∃ b13 : Bool, b13 = r14 ∧ Fr a 16 [(3, .bool b13)] ∧ St [] W w []) ?_ ?_
  · refine wpL_region ?_
    refine sY hf hs rfl rfl rfl (Y_move rfl rfl) ?_; clear hf; intro a hf
    refine sY hf hs rfl rfl rfl (Y_lenH rfl rfl el36 rfl) ?_; clear hf; intro a hf
    refine sY hf hs rfl rfl rfl (Y_load_pb rfl rfl h_z0 rfl ag34) ?_; clear hf; intro a hf
    obtain ⟨q16, hi17, hj15⟩ := bind_some hj15
    obtain ⟨hi17a, hi17b, hi17q⟩ := idx_some hi17
    obtain ⟨vs18, hv19, hr20⟩ := id h_z0_1
    obtain ⟨A21, c22, hv23, hR24⟩ := hr20 _ _ hi17q
    refine sY hf hs rfl rfl rfl (Y_index rfl rfl rfl el34 ti36 (Rd.isAt hv19 hv23) hi17a hi17b) ?_; clear hf; intro a hf
    refine sY hf hs rfl rfl rfl (Y_load_rd rfl rfl (fun w hs => hv19.at hs) (at1 hv23) ag36) ?_; clear hf; intro a hf
    refine sY hf hs rfl rfl rfl (Y_lenH rfl rfl el36 rfl) ?_; clear hf; intro a hf
    refine sY hf hs rfl rfl rfl (Y_neq rfl rfl rfl) ?_; clear hf; intro a hf
    refine sY hf hs rfl rfl rfl (Y_move rfl rfl) ?_; clear hf; intro a hf
    refine bsplit ((p0_row.length : Int) != (q16.length : Int)) (fun hb25 => ?_) (fun hb25 => ?_)
    · have hj15 := bif_t hj15 hb25
      refine sNo hf rfl rfl rfl (congrArg (fun b => some (Value.bool b)) hb25) rfl rfl rfl ?_; clear hf; intro a hf
      refine sNo hf rfl rfl rfl (congrArg (fun b => some (Value.bool b)) hb25) rfl rfl rfl ?_; clear hf; intro a hf
      refine sNo hf rfl rfl rfl (congrArg (fun b => some (Value.bool b)) hb25) rfl rfl rfl ?_; clear hf; intro a hf
      refine sY hf hs rfl rfl rfl (Y_pickT rfl (congrArg (fun b => some (Value.bool b)) hb25) rfl) ?_; clear hf; intro a hf
      refine sY hf hs rfl rfl rfl (Y_assign rfl rfl) ?_; clear hf; intro a hf
      refine wpO_nil ?_
      refine wpL_nil (then_normal ?_)
      exact ⟨true, Option.some.inj hj15, (Fr.pick hf.none hf rfl), hs⟩
    · have hj15 := bif_f hj15 hb25
      refine sYg hf hs rfl rfl rfl (congrArg (fun b => some (Value.bool b)) hb25) rfl rfl rfl (Y_move rfl rfl) ?_; clear hf; intro a hf
      obtain ⟨r26, hc27, hj15⟩ := bind_some hj15
      refine sCallg hf rfl rfl rfl (congrArg (fun b => some (Value.bool b)) hb25) rfl rfl rfl rfl (cap := []) rfl rfl en167 (impl_areValues_ok F p0_row A_p0_row_1 p0_row.length c_p0_row_1 rfl _ _ hc27 (h_p0_row_1.at hs)) ?_; clear hf
      rintro _ w ⟨rfl, hs1⟩ a hf
      have hs : St [] W w [] := hs.ext hs1.below
      clear hs1
      refine sYg hf hs rfl rfl rfl (congrArg (fun b => some (Value.bool b)) hb25) rfl rfl rfl (Y_not rfl rfl) ?_; clear hf; intro a hf
      refine sY hf hs rfl rfl rfl (Y_pickF rfl (congrArg (fun b => some (Value.bool b)) hb25) rfl) ?_; clear hf; intro a hf
      refine sY hf hs rfl rfl rfl (Y_assign rfl rfl) ?_; clear hf; intro a hf
      refine wpO_nil ?_
      refine wpL_nil (then_normal ?_)
      exact ⟨(!r26), Option.some.inj hj15, (Fr.pick hf.none hf rfl), hs⟩
  · rintro a w ⟨b13, hr_, hf, hs⟩
    subst hr_
    try dsimp only at hm
    obtain rfl := Option.some.inj hm
    refine wpL_ret (ret_tmp rfl hf rfl ?_)
    exact ⟨_, rfl, rfl, hs⟩

set_option maxRecDepth 100000 in
theorem slices_IndexFunc_sint64_ok (F : Nat) (p0_s : List (List Int)) (A_p0_s_1 : Option Addr) (n_p0_s_1 c_p0_s_1 : Nat) (hn_p0_s_1 : n_p0_s_1 = p0_s.length) (m_p1_f : (List Int) → Option Bool) (f_p1_f : FuncId) (k_p1_f : List Value) (r : Int) (W : World) (hm : slices_IndexFunc_sint64 F p0_s m_p1_f = some r) (h_p0_s_1 : RdM W A_p0_s_1 p0_s) (h_p1_f : ∀ (x0 : List Int) (Ax0_1 : Option Addr) (nx0_1 cx0_1 : Nat) (_hnx0_1 : nx0_1 = x0.length) (r : Bool) (w : World), m_p1_f x0 = some r → Below W.heap.size W w → Rd w Ax0_1 (ints x0) → Calls Try.prog f_p1_f (([.slice Ax0_1 nx0_1 cx0_1] : List Value) ++ k_p1_f).toArray w fun e w' => ∃ v, e = .returned v ∧ v = .bool r ∧ St [] w w' []) (e_p1_f : En Try.prog f_p1_f) :
    Calls Try.prog 182 [.slice A_p0_s_1 n_p0_s_1 c_p0_s_1, .func (.func f_p1_f) #[] k_p1_f.toArray].toArray W fun e w' => ∃ v, e = .returned v ∧ v = .int .i64 r ∧ St [] W w' [] := by
  subst hn_p0_s_1
  unfold slices_IndexFunc_sint64 at hm
  refine Calls.enter (N := 19) Try.func182 rfl rfl rfl (fun a hf => ?_)
  have hs := St.start W
  obtain ⟨w, hw_⟩ : ∃ w, w = W := ⟨W, rfl⟩
  clear hw_ w
  refine wpL_seq ?_
  refine wpL_region ?_
  refine sY hf hs rfl rfl rfl (Y_assign rfl rfl) ?_; clear hf; intro a hf
  refine wpO_nil ?_
  refine wpL_seq ?_
  refine wpL_seq ?_
  refine wpL_region ?_
  refine sY hf hs rfl rfl rfl (Y_move rfl rfl) ?_; clear hf; intro a hf
  refine sY hf hs rfl rfl rfl (Y_lenH rfl rfl el34 rfl) ?_; clear hf; intro a hf
  refine sY hf hs rfl rfl rfl (Y_move rfl rfl) ?_; clear hf; intro a hf
  refine wpO_nil ?_
  obtain ⟨r42, hl43, hm⟩ := bind_some hm
  refine wpL_block (fun a w => Sum.inr () = r42 ∧ Fr a 19 [] ∧ St [] W w []) ?_ ?_
  · refine wpL_loop (fun n a w => ∃ x28 : Int, slices_IndexFunc_sint64_L1 F p0_s m_p1_f n x28 = some r42 ∧ Fr a 19 [(0, .slice A_p0_s_1 p0_s.length c_p0_s_1), (1, .func (.func f_p1_f) #[] k_p1_f.toArray), (7, .int .i64 (p0_s.length : Int)), (8, .int .i64 x28)] ∧ St [] W w []) F ?_ ?_ ?_
    · exact ⟨0, hl43, (Fr.pick (Fr.pick (Fr.pick (Fr.pick hf.none hf rfl) hf rfl) hf rfl) hf rfl), hs⟩
    · rintro a w ⟨x28, h0_, -, -⟩; simp [slices_IndexFunc_sint64_L1] at h0_
    · rintro n45 a w ⟨x28, hm44, hf, hs⟩
      rw [slices_IndexFunc_sint64_L1] at hm44
      refine wpL_seq ?_
      refine wpL_region ?_
      refine sY hf hs rfl rfl rfl (Y_lss rfl rfl rfl) ?_; clear hf; intro a hf
      refine wpO_nil ?_
      refine wpL_seq ?_
      refine wpL_cond hf rfl (fun hb46 => ?_) (fun hb46 => ?_)
      · have hm44 := bif_t hm44 hb46
        refine wpL_skip ?_
        refine wpL_seq ?_
        refine wpL_block0 ?_
        refine wpL_seq ?_
        refine wpL_region ?_
        refine sY hf hs rfl rfl rfl (Y_move rfl rfl) ?_; clear hf; intro a hf
        refine sY hf hs rfl rfl rfl (Y_assign rfl rfl) ?_; clear hf; intro a hf
        refine wpO_nil ?_
        refine wpL_seq ?_
        refine wpL_region ?_
        refine sY hf hs rfl rfl rfl (Y_move rfl rfl) ?_; clear hf; intro a hf
        refine sY hf hs rfl rfl rfl (Y_move rfl rfl) ?_; clear hf; intro a hf
        refine sY hf hs rfl rfl rfl (Y_move rfl rfl) ?_; clear hf; intro a hf
        obtain ⟨q47, hi48, hm44⟩ := bind_some hm44
        obtain ⟨hi48a, hi48b, hi48q⟩ := idx_some hi48
        obtain ⟨vs49, hv50, hr51⟩ := id h_p0_s_1
        obtain ⟨A52, c53, hv54, hR55⟩ := hr51 _ _ hi48q
        refine sY hf hs rfl rfl rfl (Y_index rfl rfl rfl el34 ti36 (Rd.isAt hv50 hv54) hi48a hi48b) ?_; clear hf; intro a hf
        refine sY hf hs rfl rfl rfl (Y_load_rd rfl rfl (fun w hs => hv50.at hs) (at1 hv54) ag36) ?_; clear hf; intro a hf
        obtain ⟨r56, hc57, hm44⟩ := bind_some hm44
        refine sCall hf rfl rfl rfl rfl (cap := k_p1_f) rfl rfl e_p1_f (h_p1_f q47 A52 q47.length c53 rfl _ _ hc57 hs.below (hR55.at hs)) ?_; clear hf; rintro _ w ⟨rfl, hs1⟩ a hf; have hs := hs.ext hs1.below; clear hs1
        refine wpO_nil ?_
        refine wpL_cond hf rfl (fun hb58 => ?_) (fun hb58 => ?_)
        · have hm44 := bif_t hm44 hb58
          refine wpL_seq ?_
          refine wpL_region ?_
          refine sY hf hs rfl rfl rfl (Y_move rfl rfl) ?_; clear hf; intro a hf
          refine sY hf hs rfl rfl rfl (Y_assign rfl rfl) ?_; clear hf; intro a hf
          refine wpO_nil ?_
          obtain rfl := Option.some.inj hm44
          try dsimp only at hm
          obtain rfl := Option.some.inj hm
          refine wpL_ret (Qb_ret (Ql_ret (Qb_ret (ret_tmp rfl hf rfl ?_))))
          exact ⟨_, rfl, rfl, hs⟩
        · have hm44 := bif_f hm44 hb58
          refine wpL_skip ?_
          refine wpL_nil (Qb_normal ?_)
          refine wpL_region ?_
          refine sY hf hs rfl rfl rfl (Y_add rfl rfl rfl) ?_; clear hf; intro a hf
          refine sY hf hs rfl rfl rfl (Y_move rfl rfl) ?_; clear hf; intro a hf
          refine wpO_nil ?_
          refine wpL_nil (Ql_normal ?_)
          exact ⟨(IntKind.i64.wrap (x28 + 1)), hm44, (Fr.pick (Fr.pick (Fr.pick (Fr.pick hf.none hf rfl) hf rfl) hf rfl) hf rfl), hs⟩
      · have hm44 := bif_f hm44 hb46
        refine wpL_exit (Ql_exit (Qb_exit ?_))
        exact ⟨Option.some.inj hm44, hf.none, hs⟩
  · rintro a w ⟨hr_, hf, hs⟩
    subst hr_
    try dsimp only at hm
    refine wpL_seq ?_
    refine wpL_region ?_
    refine sY hf hs rfl rfl rfl (Y_assign rfl rfl) ?_; clear hf; intro a hf
    refine wpO_nil ?_
    obtain rfl := Option.some.inj hm
    refine wpL_ret (ret_tmp rfl hf rfl ?_)
    exact ⟨_, rfl, rfl, hs⟩

set_option maxRecDepth 100000 in
theorem slices_ContainsFunc_sint64_ok (F : Nat) (p0_s : List (List Int)) (A_p0_s_1 : Option Addr) (n_p0_s_1 c_p0_s_1 : Nat) (hn_p0_s_1 : n_p0_s_1 = p0_s.length) (m_p1_f : (List Int) → Option Bool) (f_p1_f : FuncId) (k_p1_f : List Value) (r : Bool) (W : World) (hm : slices_ContainsFunc_sint64 F p0_s m_p1_f = some r) (h_p0_s_1 : RdM W A_p0_s_1 p0_s) (h_p1_f : ∀ (x0 : List Int) (Ax0_1 : Option Addr) (nx0_1 cx0_1 : Nat) (_hnx0_1 : nx0_1 = x0.length) (r : Bool) (w : World), m_p1_f x0 = some r → Below W.heap.size W w → Rd w Ax0_1 (ints x0) → Calls Try.prog f_p1_f (([.slice Ax0_1 nx0_1 cx0_1] : List Value) ++ k_p1_f).toArray w fun e w' => ∃ v, e = .returned v ∧ v = .bool r ∧ St [] w w' []) (e_p1_f : En Try.prog f_p1_f) :
    Calls Try.prog 165 [.slice A_p0_s_1 n_p0_s_1 c_p0_s_1, .func (.func f_p1_f) #[] k_p1_f.toArray].toArray W fun e w' => ∃ v, e = .returned v ∧ v = .bool r ∧ St [] W w' [] := by
  subst hn_p0_s_1
  unfold slices_ContainsFunc_sint64 at hm
  refine Calls.enter (N := 9) Try.func165 rfl rfl rfl (fun a hf => ?_)
  have hs := St.start W
  obtain ⟨w, hw_⟩ : ∃ w, w = W := ⟨W, rfl⟩
  clear hw_ w
  refine wpL_seq ?_
  refine wpL_region ?_
  refine sY hf hs rfl rfl rfl (Y_assign rfl rfl) ?_; clear hf; intro a hf
  refine wpO_nil ?_
  refine wpL_seq ?_
  refine wpL_region ?_
  refine sY hf hs rfl rfl rfl (Y_move rfl rfl) ?_; clear hf; intro a hf
  refine sY hf hs rfl rfl rfl (Y_move rfl rfl) ?_; clear hf; intro a hf
  obtain ⟨r1, hc2, hm⟩ := bind_some hm
  refine sCall hf rfl rfl rfl rfl (cap := []) rfl rfl en182 (slices_IndexFunc_sint64_ok F p0_s A_p0_s_1 p0_s.length c_p0_s_1 rfl m_p1_f f_p1_f k_p1_f _ _ hc2 (h_p0_s_1.at hs) (fun x0 A0_0 n0_0 c0_0 h0_0 r w' hm_ hb r0_0 => h_p1_f x0 A0_0 n0_0 c0_0 h0_0 r w' hm_ (hs.below.trans (hb.mono hs.below.size)) r0_0) e_p1_f) ?_; clear hf
  rintro _ w ⟨rfl, hs1⟩ a hf
  have hs : St [] W w [] := hs.ext hs1.below
  clear hs1
  refine sY hf hs rfl rfl rfl (Y_geq rfl rfl rfl) ?_; clear hf; intro a hf
  refine sY hf hs rfl rfl rfl (Y_assign rfl rfl) ?_; clear hf; intro a hf
  refine wpO_nil ?_
  obtain rfl := Option.some.inj hm
  refine wpL_ret (ret_tmp rfl hf rfl ?_)
  exact ⟨_, rfl, rfl, hs⟩

set_option maxRecDepth 100000 in
theorem impl_IsMatrix_ok (F : Nat) (p0_a : List (List Int)) (A_p0_a_1 : Option Addr) (n_p0_a_1 c_p0_a_1 : Nat) (hn_p0_a_1 : n_p0_a_1 = p0_a.length) (r : Bool) (W : World) (hm : impl_IsMatrix F p0_a = some r) (h_p0_a_1 : RdM W A_p0_a_1 p0_a) :
    Calls Try.prog 132 [.slice A_p0_a_1 n_p0_a_1 c_p0_a_1].toArray W fun e w' => ∃ v, e = .returned v ∧ v = .bool r ∧ St [] W w' [] := by
  subst hn_p0_a_1
  unfold impl_IsMatrix at hm
  refine Calls.enter (N := 19) Try.func132 rfl rfl rfl (fun a hf => ?_)
  have hs := St.start W
  obtain ⟨w, hw_⟩ : ∃ w, w = W := ⟨W, rfl⟩
  clear hw_ w
  refine wpL_seq ?_
  refine wpL_region ?_
  refine sBox hf hs rfl rfl rfl rfl rfl (cs := [.slice A_p0_a_1 p0_a.length c_p0_a_1]) rfl ?_; clear hf hs; intro a w b1 hs hf
  have hs : St [] W w [.blk b1 34 [.slice A_p0_a_1 p0_a.length c_p0_a_1]] := hs
  refine sY hf hs rfl rfl rfl (Y_assign rfl rfl) ?_; clear hf; intro a hf
  refine wpO_nil ?_
  refine wpL_seq ?_
  refine wpL_seq ?_
  obtain ⟨r17, hj18, hm⟩ := bind_some hm
  refine wpL_cut (fun a w => ∃ b16 : Bool, b16 = r17 ∧ Fr a 19 [(1, .pointer (some ⟨b1, 0, none⟩)), (14, .bool b16)] ∧ St [] W w [.blk b1 34 [.slice A_p0_a_1 p0_a.length c_p0_a_1]]) ?_ ?_
  · refine wpL_region ?_
    refine sY hf hs rfl rfl rfl (Y_load_blk rfl rfl (i := 0) rfl rfl ag34) ?_; clear hf; intro a hf
    refine sY hf hs rfl rfl rfl (Y_lenH rfl rfl el34 rfl) ?_; clear hf; intro a hf
    obtain ⟨r19, hc20, hj18⟩ := bind_some hj18
    refine sCall hf rfl rfl rfl rfl (cap := []) rfl rfl en123 (impl_within_ok F (p0_a.length : Int) 1 10 _ _ hc20) ?_; clear hf
    rintro _ w ⟨rfl, hs1⟩ a hf
    have hs : St [] W w [.blk b1 34 [.slice A_p0_a_1 p0_a.length c_p0_a_1]] := hs.ext hs1.below
    clear hs1
    refine sY hf hs rfl rfl rfl (Y_not rfl rfl) ?_; clear hf; intro a hf
    refine sY hf hs rfl rfl rfl (Y_move rfl rfl) ?_; clear hf; intro a hf
    refine bsplit (!r19) (fun hb21 => ?_) (fun hb21 => ?_)
    · have hj18 := bif_t hj18 hb21
      refine sNo hf rfl rfl rfl (congrArg (fun b => some (Value.bool b)) hb21) rfl rfl rfl ?_; clear hf; intro a hf
      refine sNo hf rfl rfl rfl (congrArg (fun b => some (Value.bool b)) hb21) rfl rfl rfl ?_; clear hf; intro a hf
      refine sNo hf rfl rfl rfl (congrArg (fun b => some (Value.bool b)) hb21) rfl rfl rfl ?_; clear hf; intro a hf
      refine sNo hf rfl rfl rfl (congrArg (fun b => some (Value.bool b)) hb21) rfl rfl rfl ?_; clear hf; intro a hf
      refine sNo hf rfl rfl rfl (congrArg (fun b => some (Value.bool b)) hb21) rfl rfl rfl ?_; clear hf; intro a hf
      refine sNo hf rfl rfl rfl (congrArg (fun b => some (Value.bool b)) hb21) rfl rfl rfl ?_; clear hf; intro a hf
      refine sY hf hs rfl rfl rfl (Y_pickT rfl (congrArg (fun b => some (Value.bool b)) hb21) rfl) ?_; clear hf; intro a hf
      refine wpO_nil ?_
      refine wpL_nil (then_normal ?_)
      exact ⟨true, Option.some.inj hj18, (Fr.pick (Fr.pick hf.none hf rfl) hf rfl), hs⟩
    · have hj18 := bif_f hj18 hb21
      refine sYg hf hs rfl rfl rfl (congrArg (fun b => some (Value.bool b)) hb21) rfl rfl rfl (Y_load_blk rfl rfl (i := 0) rfl rfl ag34) ?_; clear hf; intro a hf
      obtain ⟨q22, hi23, hj18⟩ := bind_some hj18
      obtain ⟨hi23a, hi23b, hi23q⟩ := idx_some hi23
      obtain ⟨vs24, hv25, hr26⟩ := id h_p0_a_1
      obtain ⟨A27, c28, hv29, hR30⟩ := hr26 _ _ hi23q
      refine sYg hf hs rfl rfl rfl (congrArg (fun b => some (Value.bool b)) hb21) rfl rfl rfl (Y_index rfl rfl rfl el34 ti36 (Rd.isAt hv25 hv29) hi23a hi23b) ?_; clear hf; intro a hf
      refine sYg hf hs rfl rfl rfl (congrArg (fun b => some (Value.bool b)) hb21) rfl rfl rfl (Y_load_rd rfl rfl (fun w hs => hv25.at hs) (at1 hv29) ag36) ?_; clear hf; intro a hf
      refine sYg hf hs rfl rfl rfl (congrArg (fun b => some (Value.bool b)) hb21) rfl rfl rfl (Y_lenH rfl rfl el36 rfl) ?_; clear hf; intro a hf
      obtain ⟨r31, hc32, hj18⟩ := bind_some hj18
      refine sCallg hf rfl rfl rfl (congrArg (fun b => some (Value.bool b)) hb21) rfl rfl rfl rfl (cap := []) rfl rfl en123 (impl_within_ok F (q22.length : Int) 1 10 _ _ hc32) ?_; clear hf
      rintro _ w ⟨rfl, hs1⟩ a hf
      have hs : St [] W w [.blk b1 34 [.slice A_p0_a_1 p0_a.length c_p0_a_1]] := hs.ext hs1.below
      clear hs1
      refine sYg hf hs rfl rfl rfl (congrArg (fun b => some (Value.bool b)) hb21) rfl rfl rfl (Y_not rfl rfl) ?_; clear hf; intro a hf
      refine sY hf hs rfl rfl rfl (Y_pickF rfl (congrArg (fun b => some (Value.bool b)) hb21) rfl) ?_; clear hf; intro a hf
      refine wpO_nil ?_
      refine wpL_nil (then_normal ?_)
      exact ⟨(!r31), Option.some.inj hj18, (Fr.pick (Fr.pick hf.none hf rfl) hf rfl), hs⟩
  · rintro a w ⟨b16, hr_, hf, hs⟩
    subst hr_
    try dsimp only at hm
    refine wpL_cond hf rfl (fun hb33 => ?_) (fun hb33 => ?_)
    · have hm := bif_t hm hb33
      refine wpL_seq ?_
      refine wpL_region ?_
      refine sY hf hs rfl rfl rfl (Y_assign rfl rfl) ?_; clear hf; intro a hf
      refine wpO_nil ?_
      obtain rfl := Option.some.inj hm
      refine wpL_ret (ret_tmp rfl hf rfl ?_)
      exact ⟨_, rfl, rfl, hs.sel [] (by decide)⟩
    · have hm := bif_f hm hb33
      refine wpL_skip ?_
      refine wpL_seq ?_
      refine wpL_region ?_
      refine sY hf hs rfl rfl rfl (Y_load_blk rfl rfl (i := 0) rfl rfl ag34) ?_; clear hf; intro a hf
      refine sY hf hs rfl rfl rfl (Y_makeFunc (us := []) (vs := [.pointer (some ⟨b1, 0, none⟩)]) rfl rfl rfl) ?_; clear hf; intro a hf
      obtain ⟨r34, hc35, hm⟩ := bind_some hm
      refine sCall hf rfl rfl rfl rfl (cap := []) rfl rfl en165 (slices_ContainsFunc_sint64_ok F p0_a A_p0_a_1 p0_a.length c_p0_a_1 rfl (fun x0 => impl_IsMatrix_c1 F x0 p0_a) 166 ([.pointer (some ⟨b1, 0, none⟩)]) _ _ hc35 (h_p0_a_1.at hs) (fun x0 Ax00 nx00 cx00 hx00 r w' hm_ hb rx00 => impl_IsMatrix_c1_ok F x0 Ax00 nx00 cx00 hx00 b1 p0_a A_p0_a_1 p0_a.length c_p0_a_1 rfl r w' hm_ rx00 ((h_p0_a_1.at hs).below hb (Nat.le_refl _)) ((hs.pb (i := 0) rfl).below hb (Nat.le_refl _))) en166) ?_; clear hf
      rintro _ w ⟨rfl, hs1⟩ a hf
      have hs : St [] W w [.blk b1 34 [.slice A_p0_a_1 p0_a.length c_p0_a_1]] := hs.ext hs1.below
      clear hs1
      refine sY hf hs rfl rfl rfl (Y_not rfl rfl) ?_; clear hf; intro a hf
      refine sY hf hs rfl rfl rfl (Y_assign rfl rfl) ?_; clear hf; intro a hf
      refine wpO_nil ?_
      obtain rfl := Option.some.inj hm
      refine wpL_ret (ret_tmp rfl hf rfl ?_)
      exact ⟨_, rfl, rfl, hs.sel [] (by decide)⟩

set_option maxRecDepth 100000 in
theorem impl_isSquare_ok (F : Nat) (p0_a : List (List Int)) (A_p0_a_1 : Option Addr) (n_p0_a_1 c_p0_a_1 : Nat) (hn_p0_a_1 : n_p0_a_1 = p0_a.length) (r : Bool) (W : World) (hm : impl_isSquare F p0_a = some r) (h_p0_a_1 : RdM W A_p0_a_1 p0_a) :
    Calls Try.prog 82 [.slice A_p0_a_1 n_p0_a_1 c_p0_a_1].toArray W fun e w' => ∃ v, e = .returned v ∧ v = .bool r ∧ St [] W w' [] := by
  subst hn_p0_a_1
  unfold impl_isSquare at hm
  refine Calls.enter (N := 14) Try.func82 rfl rfl rfl (fun a hf => ?_)
  have hs := St.start W
  obtain ⟨w, hw_⟩ : ∃ w, w = W := ⟨W, rfl⟩
  clear hw_ w
  refine wpL_seq ?_
  refine wpL_region ?_
  refine sY hf hs rfl rfl rfl (Y_assign rfl rfl) ?_; clear hf; intro a hf
  refine wpO_nil ?_
  refine wpL_seq ?_
  obtain ⟨r14, hj15, hm⟩ := bind_some hm
  refine wpL_cut (fun a w => ∃ b13 : Bool, b13 = r14 ∧ Fr a 14 [(2, .bool b13)] ∧ St [] W w []) ?_ ?_
  · refine wpL_region ?_
    refine sY hf hs rfl rfl rfl (Y_move rfl rfl) ?_; clear hf; intro a hf
    obtain ⟨r16, hc17, hj15⟩ := bind_some hj15
    refine sCall hf rfl rfl rfl rfl (cap := []) rfl rfl en132 (impl_IsMatrix_ok F p0_a A_p0_a_1 p0_a.length c_p0_a_1 rfl _ _ hc17 (h_p0_a_1.at hs)) ?_; clear hf
    rintro _ w ⟨rfl, hs1⟩ a hf
    have hs : St [] W w [] := hs.ext hs1.below
    clear hs1
    refine sY hf hs rfl rfl rfl (Y_move rfl rfl) ?_; clear hf; intro a hf
    refine bsplit r16 (fun hb18 => ?_) (fun hb18 => ?_)
    · have hj15 := bif_t hj15 hb18
      refine sYg hf hs rfl rfl rfl (congrArg (fun b => some (Value.bool b)) hb18) rfl rfl rfl (Y_move rfl rfl) ?_; clear hf; intro a hf
      refine sYg hf hs rfl rfl rfl (congrArg (fun b => some (Value.bool b)) hb18) rfl rfl rfl (Y_lenH rfl rfl el34 rfl) ?_; clear hf; intro a hf
      refine sYg hf hs rfl rfl rfl (congrArg (fun b => some (Value.bool b)) hb18) rfl rfl rfl (Y_move rfl rfl) ?_; clear hf; intro a hf
      obtain ⟨q19, hi20, hj15⟩ := bind_some hj15
      obtain ⟨hi20a, hi20b, hi20q⟩ := idx_some hi20
      obtain ⟨vs21, hv22, hr23⟩ := id h_p0_a_1
      obtain ⟨A24, c25, hv26, hR27⟩ := hr23 _ _ hi20q
      refine sYg hf hs rfl rfl rfl (congrArg (fun b => some (Value.bool b)) hb18) rfl rfl rfl (Y_index rfl rfl rfl el34 ti36 (Rd.isAt hv22 hv26) hi20a hi20b) ?_; clear hf; intro a hf
      refine sYg hf hs rfl rfl rfl (congrArg (fun b => some (Value.bool b)) hb18) rfl rfl rfl (Y_load_rd rfl rfl (fun w hs => hv22.at hs) (at1 hv26) ag36) ?_; clear hf; intro a hf
      refine sYg hf hs rfl rfl rfl (congrArg (fun b => some (Value.bool b)) hb18) rfl rfl rfl (Y_lenH rfl rfl el36 rfl) ?_; clear hf; intro a hf
      refine sYg hf hs rfl rfl rfl (congrArg (fun b => some (Value.bool b)) hb18) rfl rfl rfl (Y_eql rfl rfl rfl) ?_; clear hf; intro a hf
      refine sY hf hs rfl rfl rfl (Y_pickT rfl (congrArg (fun b => some (Value.bool b)) hb18) rfl) ?_; clear hf; intro a hf
      refine sY hf hs rfl rfl rfl (Y_assign rfl rfl) ?_; clear hf; intro a hf
      refine wpO_nil ?_
      refine wpL_nil (then_normal ?_)
      exact ⟨((p0_a.length : Int) == (q19.length : Int)), Option.some.inj hj15, (Fr.pick hf.none hf rfl), hs⟩
    · have hj15 := bif_f hj15 hb18
      refine sNo hf rfl rfl rfl (congrArg (fun b => some (Value.bool b)) hb18) rfl rfl rfl ?_; clear hf; intro a hf
      refine sNo hf rfl rfl rfl (congrArg (fun b => some (Value.bool b)) hb18) rfl rfl rfl ?_; clear hf; intro a hf
      refine sNo hf rfl rfl rfl (congrArg (fun b => some (Value.bool b)) hb18) rfl rfl rfl ?_; clear hf; intro a hf
      refine sNo hf rfl rfl rfl (congrArg (fun b => some (Value.bool b)) hb18) rfl rfl rfl ?_; clear hf; intro a hf
      refine sNo hf rfl rfl rfl (congrArg (fun b => some (Value.bool b)) hb18) rfl rfl rfl ?_; clear hf; intro a hf
      refine sNo hf rfl rfl rfl (congrArg (fun b => some (Value.bool b)) hb18) rfl rfl rfl ?_; clear hf; intro a hf
      refine sNo hf rfl rfl rfl (congrArg (fun b => some (Value.bool b)) hb18) rfl rfl rfl ?_; clear hf; intro a hf
      refine sY hf hs rfl rfl rfl (Y_pickF rfl (congrArg (fun b => some (Value.bool b)) hb18) rfl) ?_; clear hf; intro a hf
      refine sY hf hs rfl rfl rfl (Y_assign rfl rfl) ?_; clear hf; intro a hf
      refine wpO_nil ?_
      refine wpL_nil (then_normal ?_)
      exact ⟨false, Option.some.inj hj15, (Fr.pick hf.none hf rfl), hs⟩
  · rintro a w ⟨b13, hr_, hf, hs⟩
    subst hr_
    try dsimp only at hm
    obtain rfl := Option.some.inj hm
    refine wpL_ret (ret_tmp rfl hf rfl ?_)
    exact ⟨_, rfl, rfl, hs⟩

set_option maxRecDepth 100000 in
theorem impl_unitMatrix_c1_ok (F : Nat) (p0_i : Int) (p1_j : Int) (r : Int) (W : World) (hm : impl_unitMatrix_c1 F p0_i p1_j = some r) :
    Calls Try.prog 170 [.int .i64 p0_i, .int .i64 p1_j].toArray W fun e w' => ∃ v, e = .returned v ∧ v = .int .i64 r ∧ St [] W w' [] := by
  unfold impl_unitMatrix_c1 at hm
  refine Calls.enter (N := 8) Try.func170 rfl rfl rfl (fun a hf => ?_)
  have hs := St.start W
  obtain ⟨w, hw_⟩ : ∃ w, w = W := ⟨W, rfl⟩
  clear hw_ w
  refine wpL_seq ?_
  refine wpL_region ?_
  refine sY hf hs rfl rfl rfl (Y_assign rfl rfl) ?_; clear hf; intro a hf
  refine wpO_nil ?_
  refine wpL_seq ?_
  refine wpL_seq ?_
  refine wpL_region ?_
  refine sY hf hs rfl rfl rfl (Y_move rfl rfl) ?_; clear hf; intro a hf
  refine sY hf hs rfl rfl rfl (Y_move rfl rfl) ?_; clear hf; intro a hf
  refine sY hf hs rfl rfl rfl (Y_eql rfl rfl rfl) ?_; clear hf; intro a hf
  refine wpO_nil ?_
  refine wpL_cond hf rfl (fun hb1 => ?_) (fun hb1 => ?_)
  · have hm := bif_t hm hb1
    refine wpL_seq ?_
    refine wpL_region ?_
    refine sY hf hs rfl rfl rfl (Y_assign rfl rfl) ?_; clear hf; intro a hf
    refine wpO_nil ?_
    obtain rfl := Option.some.inj hm
    refine wpL_ret (ret_tmp rfl hf rfl ?_)
    exact ⟨_, rfl, rfl, hs⟩
  · have hm := bif_f hm hb1
    refine wpL_skip ?_
    refine wpL_seq ?_
    refine wpL_region ?_
    refine sY hf hs rfl rfl rfl (Y_assign rfl rfl) ?_; clear hf; intro a hf
    refine wpO_nil ?_
    obtain rfl := Option.some.inj hm
    refine wpL_ret (ret_tmp rfl hf rfl ?_)
    exact ⟨_, rfl, rfl, hs⟩

set_option maxRecDepth 100000 in
theorem impl_unitMatrix_ok (F : Nat) (p0_n : Int) (r : List (List Int)) (W : World) (hm : impl_unitMatrix F p0_n = some r) :
    Calls Try.prog 134 [.int .i64 p0_n].toArray W fun e w' => ∃ v, e = .returned v ∧ ∃ A8, ∃ n9, ∃ c10, ∃ vs12, v = .slice A8 n9 c10 ∧ n9 = r.length ∧ St [] W w' [.mat A8 n9 c10 36 2 vs12 r] := by
  unfold impl_unitMatrix at hm
  refine Calls.enter (N := 6) Try.func134 rfl rfl rfl (fun a hf => ?_)
  have hs := St.start W
  obtain ⟨w, hw_⟩ : ∃ w, w = W := ⟨W, rfl⟩
  clear hw_ w
  refine wpL_seq ?_
  refine wpL_region ?_
  refine sY hf hs rfl rfl rfl (Y_assign rfl rfl) ?_; clear hf; intro a hf
  refine wpO_nil ?_
  refine wpL_seq ?_
  refine wpL_region ?_
  refine sY hf hs rfl rfl rfl (Y_move rfl rfl) ?_; clear hf; intro a hf
  refine sY hf hs rfl rfl rfl (Y_move rfl rfl) ?_; clear hf; intro a hf
  obtain ⟨r1, hc2, hm⟩ := bind_some hm
  refine sCall hf rfl rfl rfl rfl (cap := []) rfl rfl en168 (impl_matrixBy_ok F p0_n p0_n (fun x0 x1 => impl_unitMatrix_c1 F x0 x1) 170 [] _ _ hc2 (fun x0 x1 r w' hm_ hb => impl_unitMatrix_c1_ok F x0 x1 r w' hm_ ) en170) ?_; clear hf
  rintro _ w ⟨A3, n4, c5, vs7, rfl, hn6, hs1⟩ a hf
  have hs : St [] W w [.mat A3 n4 c5 36 2 vs7 r1] := hs.join hs1
  clear hs1
  refine sY hf hs rfl rfl rfl (Y_assign rfl rfl) ?_; clear hf; intro a hf
  refine wpO_nil ?_
  obtain rfl := Option.some.inj hm
  refine wpL_ret (ret_tmp rfl hf rfl ?_)
  exact ⟨_, rfl, A3, n4, c5, vs7, rfl, hn6, hs⟩

set_option maxRecDepth 100000 in
theorem impl_addMatrices_c1_ok (F : Nat) (p0_i : Int) (p1_j : Int) (b_z0 : Nat) (z0 : List (List Int)) (A_z0_1 : Option Addr) (n_z0_1 c_z0_1 : Nat) (hn_z0_1 : n_z0_1 = z0.length) (b_z1 : Nat) (z1 : List (List Int)) (A_z1_1 : Option Addr) (n_z1_1 c_z1_1 : Nat) (hn_z1_1 : n_z1_1 = z1.length) (r : Int) (W : World) (hm : impl_addMatrices_c1 F p0_i p1_j z0 z1 = some r) (h_z0_1 : RdM W A_z0_1 z0) (h_z0 : PB W b_z0 34 [.slice A_z0_1 n_z0_1 c_z0_1]) (h_z1_1 : RdM W A_z1_1 z1) (h_z1 : PB W b_z1 34 [.slice A_z1_1 n_z1_1 c_z1_1]) :
    Calls Try.prog 169 [.int .i64 p0_i, .int .i64 p1_j, .pointer (some ⟨b_z0, 0, none⟩), .pointer (some ⟨b_z1, 0, none⟩)].toArray W fun e w' => ∃ v, e = .returned v ∧ v = .int .i64 r ∧ St [] W w' [] := by
  subst hn_z0_1
  subst hn_z1_1
  unfold impl_addMatrices_c1 at hm
  refine Calls.enter (N := 22) Try.func169 rfl rfl rfl (fun a hf => ?_)
  have hs := St.start W
  obtain ⟨w, hw_⟩ : ∃ w, w = W := ⟨W, rfl⟩
  clear hw_ w
  refine wpL_seq ?_
  refine wpL_region ?_
  refine sY hf hs rfl rfl rfl (Y_assign rfl rfl) ?_; clear hf; intro a hf
  refine wpO_nil ?_
  refine wpL_seq ?_
  refine wpL_draw (by kernel_rfl) (by kernel_rfl) hs ?_
  refine qY hf rfl rfl rfl (Y_load_pb rfl rfl h_z0 rfl ag34) ?_; clear hf; intro a hf
  refine qY hf rfl rfl rfl (Y_move rfl rfl) ?_; clear hf; intro a hf
  obtain ⟨q1, hi2, hm⟩ := bind_some hm
  obtain ⟨hi2a, hi2b, hi2q⟩ := idx_some hi2
  obtain ⟨vs3, hv4, hr5⟩ := id h_z0_1
  obtain ⟨A6, c7, hv8, hR9⟩ := hr5 _ _ hi2q
  refine qY hf rfl rfl rfl (Y_index rfl rfl rfl el34 ti36 (Rd.isAt hv4 hv8) hi2a hi2b) ?_; clear hf; intro a hf
  refine qY hf rfl rfl rfl (Y_load_rd rfl rfl (fun w hs => hv4.at hs) (at1 hv8) ag36) ?_; clear hf; intro a hf
  refine qY hf rfl rfl rfl (Y_move rfl rfl) ?_; clear hf; intro a hf
  obtain ⟨q10, hi11, hm⟩ := bind_some hm
  obtain ⟨hi11a, hi11b, hi11q⟩ := idx_some hi11
  refine qY hf rfl rfl rfl (Y_index rfl rfl rfl el36 ti2 (Rd.isAt (hR9.at hs) (at1 (ints_at hi11q))) hi11a hi11b) ?_; clear hf; intro a hf
  refine qY hf rfl rfl rfl (Y_load_rd rfl rfl (fun w hs => hR9.at hs) (at1 (ints_at hi11q)) ag2) ?_; clear hf; intro a hf
  refine qY hf rfl rfl rfl (Y_load_pb rfl rfl h_z1 rfl ag34) ?_; clear hf; intro a hf
  refine qY hf rfl rfl rfl (Y_move rfl rfl) ?_; clear hf; intro a hf
  obtain ⟨q12, hi13, hm⟩ := bind_some hm
  obtain ⟨hi13a, hi13b, hi13q⟩ := idx_some hi13
  obtain ⟨vs14, hv15, hr16⟩ := id h_z1_1
  obtain ⟨A17, c18, hv19, hR20⟩ := hr16 _ _ hi13q
  refine qY hf rfl rfl rfl (Y_index rfl rfl rfl el34 ti36 (Rd.isAt hv15 hv19) hi13a hi13b) ?_; clear hf; intro a hf
  refine qY hf rfl rfl rfl (Y_load_rd rfl rfl (fun w hs => hv15.at hs) (at1 hv19) ag36) ?_; clear hf; intro a hf
  refine qY hf rfl rfl rfl (Y_move rfl rfl) ?_; clear hf; intro a hf
  obtain ⟨q21, hi22, hm⟩ := bind_some hm
  obtain ⟨hi22a, hi22b, hi22q⟩ := idx_some hi22
  refine qY hf rfl rfl rfl (Y_index rfl rfl rfl el36 ti2 (Rd.isAt (hR20.at hs) (at1 (ints_at hi22q))) hi22a hi22b) ?_; clear hf; intro a hf
  refine qY hf rfl rfl rfl (Y_load_rd rfl rfl (fun w hs => hR20.at hs) (at1 (ints_at hi22q)) ag2) ?_; clear hf; intro a hf
  refine qY hf rfl rfl rfl (Y_max rfl rfl rfl) ?_; clear hf; intro a hf
  refine qY hf rfl rfl rfl (Y_assign rfl rfl) ?_; clear hf; intro a hf
  refine qNil ?_; clear hs; intro w hs
  obtain rfl := Option.some.inj hm
  refine wpL_ret (ret_tmp rfl hf rfl ?_)
  exact ⟨_, rfl, rfl, hs⟩

set_option maxRecDepth 100000 in
theorem impl_addMatrices_ok (F : Nat) (p0_a : List (List Int)) (A_p0_a_1 : Option Addr) (n_p0_a_1 c_p0_a_1 : Nat) (hn_p0_a_1 : n_p0_a_1 = p0_a.length) (p1_b : List (List Int)) (A_p1_b_1 : Option Addr) (n_p1_b_1 c_p1_b_1 : Nat) (hn_p1_b_1 : n_p1_b_1 = p1_b.length) (r : List (List Int)) (W : World) (hm : impl_addMatrices F p0_a p1_b = some r) (h_p0_a_1 : RdM W A_p0_a_1 p0_a) (h_p1_b_1 : RdM W A_p1_b_1 p1_b) :
    Calls Try.prog 133 [.slice A_p0_a_1 n_p0_a_1 c_p0_a_1, .slice A_p1_b_1 n_p1_b_1 c_p1_b_1].toArray W fun e w' => ∃ v, e = .returned v ∧ ∃ A35, ∃ n36, ∃ c37, ∃ vs39, v = .slice A35 n36 c37 ∧ n36 = r.length ∧ St [] W w' [.mat A35 n36 c37 36 2 vs39 r] := by
  subst hn_p0_a_1
  subst hn_p1_b_1
  unfold impl_addMatrices at hm
  refine Calls.enter (N := 13) Try.func133 rfl rfl rfl (fun a hf => ?_)
  have hs := St.start W
  obtain ⟨w, hw_⟩ : ∃ w, w = W := ⟨W, rfl⟩
  clear hw_ w
  refine wpL_seq ?_
  refine wpL_region ?_
  refine sBox hf hs rfl rfl rfl rfl rfl (cs := [.slice A_p0_a_1 p0_a.length c_p0_a_1]) rfl ?_; clear hf hs; intro a w b1 hs hf
  have hs : St [] W w [.blk b1 34 [.slice A_p0_a_1 p0_a.length c_p0_a_1]] := hs
  refine sBox hf hs rfl rfl rfl rfl rfl (cs := [.slice A_p1_b_1 p1_b.length c_p1_b_1]) rfl ?_; clear hf hs; intro a w b2 hs hf
  have hs : St [] W w [.blk b1 34 [.slice A_p0_a_1 p0_a.length c_p0_a_1], .blk b2 34 [.slice A_p1_b_1 p1_b.length c_p1_b_1]] := hs
  refine sY hf hs rfl rfl rfl (Y_assign rfl rfl) ?_; clear hf; intro a hf
  refine wpO_nil ?_
  refine wpL_seq ?_
  refine wpL_drawG [.blk b1 34 [.slice A_p0_a_1 p0_a.length c_p0_a_1], .blk b2 34 [.slice A_p1_b_1 p1_b.length c_p1_b_1]] 9 (by kernel_rfl) hs ?_; clear hs; intro w hs
  have hs0 : St [] W w [.blk b1 34 [.slice A_p0_a_1 p0_a.length c_p0_a_1], .blk b2 34 [.slice A_p1_b_1 p1_b.length c_p1_b_1]] := hs
  refine gY (i := 0) [] rfl (by kernel_rfl) (by kernel_rfl) hf hs0 rfl rfl rfl (Y_load_blk rfl rfl (i := 0) rfl rfl ag34) ?_; clear hf; intro a hf
  refine gY (i := 1) [] rfl (by kernel_rfl) (by kernel_rfl) hf hs0 rfl rfl rfl (Y_lenH rfl rfl el34 rfl) ?_; clear hf; intro a hf
  refine gY (i := 2) [] rfl (by kernel_rfl) (by kernel_rfl) hf hs0 rfl rfl rfl (Y_load_blk rfl rfl (i := 0) rfl rfl ag34) ?_; clear hf; intro a hf
  obtain ⟨q19, hi20, hm⟩ := bind_some hm
  obtain ⟨hi20a, hi20b, hi20q⟩ := idx_some hi20
  obtain ⟨vs21, hv22, hr23⟩ := id h_p0_a_1
  obtain ⟨A24, c25, hv26, hR27⟩ := hr23 _ _ hi20q
  refine gY (i := 3) [] rfl (by kernel_rfl) (by kernel_rfl) hf hs0 rfl rfl rfl (Y_index rfl rfl rfl el34 ti36 (Rd.isAt hv22 hv26) hi20a hi20b) ?_; clear hf; intro a hf
  refine gY (i := 4) [] rfl (by kernel_rfl) (by kernel_rfl) hf hs0 rfl rfl rfl (Y_load_rd rfl rfl (fun w hs => hv22.at hs) (at1 hv26) ag36) ?_; clear hf; intro a hf
  refine gY (i := 5) [] rfl (by kernel_rfl) (by kernel_rfl) hf hs0 rfl rfl rfl (Y_lenH rfl rfl el36 rfl) ?_; clear hf; intro a hf
  refine gY (i := 6) [] rfl (by kernel_rfl) (by kernel_rfl) hf hs0 rfl rfl rfl (Y_makeFunc (us := []) (vs := [.pointer (some ⟨b1, 0, none⟩), .pointer (some ⟨b2, 0, none⟩)]) rfl rfl rfl) ?_; clear hf; intro a hf
  refine gRun (i := 7) rfl (by kernel_rfl) ?_
  obtain ⟨r28, hc29, hm⟩ := bind_some hm
  refine sCall hf rfl rfl rfl rfl (cap := []) rfl rfl en168 (impl_matrixBy_ok F (p0_a.length : Int) (q19.length : Int) (fun x0 x1 => impl_addMatrices_c1 F x0 x1 p0_a p1_b) 169 ([.pointer (some ⟨b1, 0, none⟩), .pointer (some ⟨b2, 0, none⟩)]) _ _ hc29 (fun x0 x1 r w' hm_ hb => impl_addMatrices_c1_ok F x0 x1 b1 p0_a A_p0_a_1 p0_a.length c_p0_a_1 rfl b2 p1_b A_p1_b_1 p1_b.length c_p1_b_1 rfl r w' hm_ ((h_p0_a_1.at hs).below hb (Nat.le_refl _)) ((hs.pb (i := 0) rfl).below hb (Nat.le_refl _)) ((h_p1_b_1.at hs).below hb (Nat.le_refl _)) ((hs.pb (i := 1) rfl).below hb (Nat.le_refl _))) en169) ?_; clear hf
  rintro _ w ⟨A30, n31, c32, vs34, rfl, hn33, hs1⟩ a hf
  have hs : St [] W w [.blk b1 34 [.slice A_p0_a_1 p0_a.length c_p0_a_1], .blk b2 34 [.slice A_p1_b_1 p1_b.length c_p1_b_1], .mat A30 n31 c32 36 2 vs34 r28] := hs.join hs1
  clear hs1
  have hs0 : St [] W w [.blk b1 34 [.slice A_p0_a_1 p0_a.length c_p0_a_1], .blk b2 34 [.slice A_p1_b_1 p1_b.length c_p1_b_1]] := hs.sel [0, 1] (by decide)
  refine wpO_nil ⟨Or.inr hs0, ?_⟩
  refine gY (i := 8) [] rfl (by kernel_rfl) (by kernel_rfl) hf hs0 rfl rfl rfl (Y_assign rfl rfl) ?_; clear hf; intro a hf
  refine gDone (by kernel_rfl) ?_
  clear hs0
  obtain rfl := Option.some.inj hm
  refine wpL_ret (ret_tmp rfl hf rfl ?_)
  exact ⟨_, rfl, A30, n31, c32, vs34, rfl, hn33, hs.sel [2] (by decide)⟩

set_option maxRecDepth 100000 in
theorem impl_times_ok (F : Nat) (p0_a : Int) (p1_b : Int) (r : Int) (W : World) (hm : impl_times F p0_a p1_b = some r) :
    Calls Try.prog 135 [.int .i64 p0_a, .int .i64 p1_b].toArray W fun e w' => ∃ v, e = .returned v ∧ v = .int .i64 r ∧ St [] W w' [] := by
  unfold impl_times at hm
  refine Calls.enter (N := 14) Try.func135 rfl rfl rfl (fun a hf => ?_)
  have hs := St.start W
  obtain ⟨w, hw_⟩ : ∃ w, w = W := ⟨W, rfl⟩
  clear hw_ w
  refine wpL_seq ?_
  refine wpL_region ?_
  refine sY hf hs rfl rfl rfl (Y_assign rfl rfl) ?_; clear hf; intro a hf
  refine wpO_nil ?_
  refine wpL_seq ?_
  refine wpL_seq ?_
  obtain ⟨r3, hj4, hm⟩ := bind_some hm
  refine wpL_cut (fun a w => ∃ b2 : Bool, b2 = r3 ∧ Fr a 14 [(0, .int .i64 p0_a), (1, .int .i64 p1_b), (10, .bool b2)] ∧ St [] W w []) ?_ ?_
  · refine wpL_region ?_
    refine sY hf hs rfl rfl rfl (Y_move rfl rfl) ?_; clear hf; intro a hf
    refine sY hf hs rfl rfl rfl (Y_eql rfl rfl rfl) ?_; clear hf; intro a hf
    refine sY hf hs rfl rfl rfl (Y_move rfl rfl) ?_; clear hf; intro a hf
    refine bsplit (p0_a == (-1000000000000000)) (fun hb5 => ?_) (fun hb5 => ?_)
    · have hj4 := bif_t hj4 hb5
      refine sNo hf rfl rfl rfl (congrArg (fun b => some (Value.bool b)) hb5) rfl rfl rfl ?_; clear hf; intro a hf
      refine sNo hf rfl rfl rfl (congrArg (fun b => some (Value.bool b)) hb5) rfl rfl rfl ?_; clear hf; intro a hf
      refine sY hf hs rfl rfl rfl (Y_pickT rfl (congrArg (fun b => some (Value.bool b)) hb5) rfl) ?_; clear hf; intro a hf
      refine wpO_nil ?_
      refine wpL_nil (then_normal ?_)
      exact ⟨true, Option.some.inj hj4, (Fr.pick (Fr.pick (Fr.pick hf.none hf rfl) hf rfl) hf rfl), hs⟩
    · have hj4 := bif_f hj4 hb5
      refine sYg hf hs rfl rfl rfl (congrArg (fun b => some (Value.bool b)) hb5) rfl rfl rfl (Y_move rfl rfl) ?_; clear hf; intro a hf
      refine sYg hf hs rfl rfl rfl (congrArg (fun b => some (Value.bool b)) hb5) rfl rfl rfl (Y_eql rfl rfl rfl) ?_; clear hf; intro a hf
      refine sY hf hs rfl rfl rfl (Y_pickF rfl (congrArg (fun b => some (Value.bool b)) hb5) rfl) ?_; clear hf; intro a hf
      refine wpO_nil ?_
      refine wpL_nil (then_normal ?_)
      exact ⟨(p1_b == (-1000000000000000)), Option.some.inj hj4, (Fr.pick (Fr.pick (Fr.pick hf.none hf rfl) hf rfl) hf rfl), hs⟩
  · rintro a w ⟨b2, hr_, hf, hs⟩
    subst hr_
    try dsimp only at hm
    refine wpL_cond hf rfl (fun hb6 => ?_) (fun hb6 => ?_)
    · have hm := bif_t hm hb6
      refine wpL_seq ?_
      refine wpL_region ?_
      refine sY hf hs rfl rfl rfl (Y_assign rfl rfl) ?_; clear hf; intro a hf
      refine wpO_nil ?_
      obtain rfl := Option.some.inj hm
      refine wpL_ret (ret_tmp rfl hf rfl ?_)
      exact ⟨_, rfl, rfl, hs⟩
    · have hm := bif_f hm hb6
      refine wpL_skip ?_
      refine wpL_seq ?_
      refine wpL_region ?_
      refine sY hf hs rfl rfl rfl (Y_move rfl rfl) ?_; clear hf; intro a hf
      refine sY hf hs rfl rfl rfl (Y_move rfl rfl) ?_; clear hf; intro a hf
      refine sY hf hs rfl rfl rfl (Y_add rfl rfl rfl) ?_; clear hf; intro a hf
      refine sY hf hs rfl rfl rfl (Y_assign rfl rfl) ?_; clear hf; intro a hf
      refine wpO_nil ?_
      obtain rfl := Option.some.inj hm
      refine wpL_ret (ret_tmp rfl hf rfl ?_)
      exact ⟨_, rfl, rfl, hs⟩

set_option maxRecDepth 100000 in
theorem impl_starOf_ok (F : Nat) (p0 : List (List Int)) (A_p0_1 : Option Addr) (n_p0_1 c_p0_1 : Nat) (hn_p0_1 : n_p0_1 = p0.length) (r : List (List Int) × Bool) (W : World) (hm : impl_starOf F p0 = some r) (h_p0_1 : RdM W A_p0_1 p0) :
    Calls Try.prog 83 [.slice A_p0_1 n_p0_1 c_p0_1].toArray W fun e w' => ∃ v, e = .returned v ∧ ∃ A5035, ∃ n5036, ∃ c5037, ∃ vs5039, v = .tuple #[.slice A5035 n5036 c5037, .bool r.2] ∧ n5036 = r.1.length ∧ St [] W w' [.mat A5035 n5036 c5037 36 2 vs5039 r.1] := by
  subst hn_p0_1
  unfold impl_starOf at hm
  refine Calls.enter (N := 84) Try.func83 rfl rfl rfl (fun a hf => ?_)
  have hs := St.start W
  obtain ⟨w, hw_⟩ : ∃ w, w = W := ⟨W, rfl⟩
  clear hw_ w
  refine wpL_seq ?_
  refine wpL_region ?_
  refine sY hf hs rfl rfl rfl (Y_assign rfl rfl) ?_; clear hf; intro a hf
  refine sY hf hs rfl rfl rfl (Y_assign rfl rfl) ?_; clear hf; intro a hf
  refine wpO_nil ?_
  refine wpL_seq ?_
  refine wpL_region ?_
  refine sY hf hs rfl rfl rfl (Y_move rfl rfl) ?_; clear hf; intro a hf
  refine sY hf hs rfl rfl rfl (Y_move rfl rfl) ?_; clear hf; intro a hf
  refine sY hf hs rfl rfl rfl (Y_lenH rfl rfl el34 rfl) ?_; clear hf; intro a hf
  obtain ⟨r1, hc2, hm⟩ := bind_some hm
  refine sCall hf rfl rfl rfl rfl (cap := []) rfl rfl en134 (impl_unitMatrix_ok F (p0.length : Int) _ _ hc2) ?_; clear hf
  rintro _ w ⟨A3, n4, c5, vs7, rfl, hn6, hs1⟩ a hf
  have hs : St [] W w [.mat A3 n4 c5 36 2 vs7 r1] := hs.join hs1
  clear hs1
  obtain ⟨r8, hc9, hm⟩ := bind_some hm
  refine sCall hf rfl rfl rfl rfl (cap := []) rfl rfl en133 (impl_addMatrices_ok F p0 A_p0_1 p0.length c_p0_1 rfl r1 A3 n4 c5 hn6 _ _ hc9 (h_p0_1.at hs) (hs.rdM (i := 0) rfl)) ?_; clear hf
  rintro _ w ⟨A10, n11, c12, vs14, rfl, hn13, hs1⟩ a hf
  have hs : St [] W w [.mat A3 n4 c5 36 2 vs7 r1, .mat A10 n11 c12 36 2 vs14 r8] := hs.join hs1
  clear hs1
  refine sY hf hs rfl rfl rfl (Y_assign rfl rfl) ?_; clear hf; intro a hf
  refine wpO_nil ?_
  refine wpL_seq ?_
  refine wpL_seq ?_
  refine wpL_region ?_
  refine sY hf hs rfl rfl rfl (Y_move rfl rfl) ?_; clear hf; intro a hf
  refine sY hf hs rfl rfl rfl (Y_lenH rfl rfl el34 hn13) ?_; clear hf; intro a hf
  refine sY hf hs rfl rfl rfl (Y_move rfl rfl) ?_; clear hf; intro a hf
  refine wpO_nil ?_
  obtain ⟨r3746, hl3747, hm⟩ := bind_some hm
  refine wpL_block (fun a w => ∃ ms3744 : List (List Int), Sum.inr ms3744 = r3746 ∧ n11 = ms3744.length ∧ Fr a 84 [(4, .slice A10 n11 c12)] ∧ St [] W w [.mat A10 n11 c12 36 2 vs14 ms3744]) ?_ ?_
  · refine wpL_loop (fun n a w => ∃ ms2500 : List (List Int), ∃ x2502 : Int, impl_starOf_L16 F r8 n ms2500 x2502 = some r3746 ∧ n11 = ms2500.length ∧ Fr a 84 [(4, .slice A10 n11 c12), (15, .int .i64 (r8.length : Int)), (16, .int .i64 x2502)] ∧ St [] W w [.mat A10 n11 c12 36 2 vs14 ms2500]) F ?_ ?_ ?_
    · exact ⟨r8, 0, hl3747, hn13, (Fr.pick (Fr.pick (Fr.pick hf.none hf rfl) hf rfl) hf rfl), hs.sel [1] (by decide)⟩
    · rintro a w ⟨ms2500, x2502, h0_, -, -, -⟩; simp [impl_starOf_L16] at h0_
    · rintro n3749 a w ⟨ms2500, x2502, hm3748, hn2501, hf, hs⟩
      rw [impl_starOf_L16] at hm3748
      refine wpL_seq ?_
      refine wpL_region ?_
      refine sY hf hs rfl rfl rfl (Y_lss rfl rfl rfl) ?_; clear hf; intro a hf
      refine wpO_nil ?_
      refine wpL_seq ?_
      refine wpL_cond hf rfl (fun hb3750 => ?_) (fun hb3750 => ?_)
      · have hm3748 := bif_t hm3748 hb3750
        refine wpL_skip ?_
        refine wpL_seq ?_
        refine wpL_block0 ?_
        refine wpL_seq ?_
        refine wpL_region ?_
        refine sY hf hs rfl rfl rfl (Y_move rfl rfl) ?_; clear hf; intro a hf
        refine sY hf hs rfl rfl rfl (Y_assign rfl rfl) ?_; clear hf; intro a hf
        refine wpO_nil ?_
        refine wpL_seq ?_
        refine wpL_seq ?_
        refine wpL_region ?_
        refine sY hf hs rfl rfl rfl (Y_move rfl rfl) ?_; clear hf; intro a hf
        refine sY hf hs rfl rfl rfl (Y_move rfl rfl) ?_; clear hf; intro a hf
        obtain ⟨q3751, hi3752, hm3748⟩ := bind_some hm3748
        obtain ⟨hi3752a, hi3752b, hi3752q⟩ := idx_some hi3752
        obtain ⟨A3753, c3754, hv3755⟩ := hs.matRow (i := 0) rfl hi3752q
        refine sY hf hs rfl rfl rfl (Y_index rfl rfl rfl el34 ti36 (Rd.isAt (hs.rdV (i := 0) rfl) hv3755) hi3752a (ltn hn2501 hi3752b)) ?_; clear hf; intro a hf
        refine sY hf hs rfl rfl rfl (Y_load_rd rfl rfl (fun w hs => hs.rdV (i := 0) rfl) (at1 hv3755) ag36) ?_; clear hf; intro a hf
        refine sY hf hs rfl rfl rfl (Y_move rfl rfl) ?_; clear hf; intro a hf
        obtain ⟨q3756, hi3757, hm3748⟩ := bind_some hm3748
        obtain ⟨hi3757a, hi3757b, hi3757q⟩ := idx_some hi3757
        refine sY hf hs rfl rfl rfl (Y_index rfl rfl rfl el36 ti2 (Rd.isAt (hs.rdRow (i := 0) rfl ⟨hi3752q, hv3755⟩) (at1 (ints_at hi3757q))) hi3757a hi3757b) ?_; clear hf; intro a hf
        refine sY hf hs rfl rfl rfl (Y_load_rd rfl rfl (fun w hs => hs.rdRow (i := 0) rfl ⟨hi3752q, hv3755⟩) (at1 (ints_at hi3757q)) ag2) ?_; clear hf; intro a hf
        refine sY hf hs rfl rfl rfl (Y_gtr rfl rfl rfl) ?_; clear hf; intro a hf
        refine wpO_nil ?_
        refine wpL_cond hf rfl (fun hb3758 => ?_) (fun hb3758 => ?_)
        · have hm3748 := bif_t hm3748 hb3758
          refine wpL_seq ?_
          refine wpL_region ?_
          refine sY hf hs rfl rfl rfl (Y_assign rfl rfl) ?_; clear hf; intro a hf
          refine sY hf hs rfl rfl rfl (Y_assign rfl rfl) ?_; clear hf; intro a hf
          refine wpO_nil ?_
          have hs : St [] W _ [.mat A10 n11 c12 36 2 vs14 ms2500, .mat none 0 0 36 2 [] ([] : List (List Int))] := hs.addNilM 36 2
          obtain rfl := Option.some.inj hm3748
          try dsimp only at hm
          obtain rfl := Option.some.inj hm
          refine wpL_ret (Qb_ret (Ql_ret (Qb_ret (ret_tmp2 rfl hf rfl rfl ?_))))
          exact ⟨_, rfl, none, 0, 0, [], rfl, rfl, hs.sel [1] (by decide)⟩
        · have hm3748 := bif_f hm3748 hb3758
          refine wpL_skip ?_
          refine wpL_seq ?_
          refine wpL_region ?_
          refine sY hf hs rfl rfl rfl (Y_move rfl rfl) ?_; clear hf; intro a hf
          refine sY hf hs rfl rfl rfl (Y_lenH rfl rfl el34 hn2501) ?_; clear hf; intro a hf
          refine sY hf hs rfl rfl rfl (Y_move rfl rfl) ?_; clear hf; intro a hf
          refine wpO_nil ?_
          obtain ⟨r4683, hl4684, hm3748⟩ := bind_some hm3748
          refine wpL_block (fun a w => ∃ ms4681 : List (List Int), ms4681 = r4683 ∧ n11 = ms4681.length ∧ Fr a 84 [(4, .slice A10 n11 c12), (15, .int .i64 (r8.length : Int)), (16, .int .i64 x2502)] ∧ St [] W w [.mat A10 n11 c12 36 2 vs14 ms4681]) ?_ ?_
          · refine wpL_loop (fun n a w => ∃ ms4373 : List (List Int), ∃ x4375 : Int, impl_starOf_L20 F ms2500 x2502 n ms4373 x4375 = some r4683 ∧ n11 = ms4373.length ∧ Fr a 84 [(4, .slice A10 n11 c12), (5, .int .i64 x2502), (15, .int .i64 (r8.length : Int)), (16, .int .i64 x2502), (28, .int .i64 (ms2500.length : Int)), (29, .int .i64 x4375)] ∧ St [] W w [.mat A10 n11 c12 36 2 vs14 ms4373]) F ?_ ?_ ?_
            · exact ⟨ms2500, 0, hl4684, hn2501, (Fr.pick (Fr.pick (Fr.pick (Fr.pick (Fr.pick (Fr.pick hf.none hf rfl) hf rfl) hf rfl) hf rfl) hf rfl) hf rfl), hs⟩
            · rintro a w ⟨ms4373, x4375, h0_, -, -, -⟩; simp [impl_starOf_L20] at h0_
            · rintro n4686 a w ⟨ms4373, x4375, hm4685, hn4374, hf, hs⟩
              rw [impl_starOf_L20] at hm4685
              refine wpL_seq ?_
              refine wpL_region ?_
              refine sY hf hs rfl rfl rfl (Y_lss rfl rfl rfl) ?_; clear hf; intro a hf
              refine wpO_nil ?_
              refine wpL_seq ?_
              refine wpL_cond hf rfl (fun hb4687 => ?_) (fun hb4687 => ?_)
              · have hm4685 := bif_t hm4685 hb4687
                refine wpL_skip ?_
                refine wpL_seq ?_
                refine wpL_block0 ?_
                refine wpL_seq ?_
                refine wpL_region ?_
                refine sY hf hs rfl rfl rfl (Y_move rfl rfl) ?_; clear hf; intro a hf
                refine sY hf hs rfl rfl rfl (Y_assign rfl rfl) ?_; clear hf; intro a hf
                refine wpO_nil ?_
                refine wpL_seq ?_
                refine wpL_region ?_
                refine sY hf hs rfl rfl rfl (Y_move rfl rfl) ?_; clear hf; intro a hf
                refine sY hf hs rfl rfl rfl (Y_lenH rfl rfl el34 hn4374) ?_; clear hf; intro a hf
                refine sY hf hs rfl rfl rfl (Y_move rfl rfl) ?_; clear hf; intro a hf
                refine wpO_nil ?_
                obtain ⟨r4915, hl4916, hm4685⟩ := bind_some hm4685
                refine wpL_block (fun a w => ∃ ms4913 : List (List Int), ms4913 = r4915 ∧ n11 = ms4913.length ∧ Fr a 84 [(4, .slice A10 n11 c12), (5, .int .i64 x2502), (15, .int .i64 (r8.length : Int)), (16, .int .i64 x2502), (28, .int .i64 (ms2500.length : Int)), (29, .int .i64 x4375)] ∧ St [] W w [.mat A10 n11 c12 36 2 vs14 ms4913]) ?_ ?_
                · refine wpL_loop (fun n a w => ∃ ms4837 : List (List Int), ∃ x4839 : Int, impl_starOf_L21 F x2502 ms4373 x4375 n ms4837 x4839 = some r4915 ∧ n11 = ms4837.length ∧ Fr a 84 [(4, .slice A10 n11 c12), (5, .int .i64 x2502), (6, .int .i64 x4375), (15, .int .i64 (r8.length : Int)), (16, .int .i64 x2502), (28, .int .i64 (ms2500.length : Int)), (29, .int .i64 x4375), (33, .int .i64 (ms4373.length : Int)), (34, .int .i64 x4839)] ∧ St [] W w [.mat A10 n11 c12 36 2 vs14 ms4837]) F ?_ ?_ ?_
                  · exact ⟨ms4373, 0, hl4916, hn4374, (Fr.pick (Fr.pick (Fr.pick (Fr.pick (Fr.pick (Fr.pick (Fr.pick (Fr.pick (Fr.pick hf.none hf rfl) hf rfl) hf rfl) hf rfl) hf rfl) hf rfl) hf rfl) hf rfl) hf rfl), hs⟩
                  · rintro a w ⟨ms4837, x4839, h0_, -, -, -⟩; simp [impl_starOf_L21] at h0_
                  · rintro n4918 a w ⟨ms4837, x4839, hm4917, hn4838, hf, hs⟩
                    rw [impl_starOf_L21] at hm4917
                    refine wpL_seq ?_
                    refine wpL_region ?_
                    refine sY hf hs rfl rfl rfl (Y_lss rfl rfl rfl) ?_; clear hf; intro a hf
                    refine wpO_nil ?_
                    refine wpL_seq ?_
                    refine wpL_cond hf rfl (fun hb4919 => ?_) (fun hb4919 => ?_)
                    · have hm4917 := bif_t hm4917 hb4919
                      refine wpL_skip ?_
                      refine wpL_seq ?_
                      refine wpL_block0 ?_
                      refine wpL_seq ?_
                      refine wpL_region ?_
                      refine sY hf hs rfl rfl rfl (Y_move rfl rfl) ?_; clear hf; intro a hf
                      refine sY hf hs rfl rfl rfl (Y_assign rfl rfl) ?_; clear hf; intro a hf
                      refine wpO_nil ?_
                      refine wpL_drawG [.mat A10 n11 c12 36 2 vs14 ms4837] 29 (by kernel_rfl) hs ?_; clear hs; intro w hs
                      have hs0 : St [] W w [.mat A10 n11 c12 36 2 vs14 ms4837] := hs
                      refine gY (i := 0) [] rfl (by kernel_rfl) (by kernel_rfl) hf hs0 rfl rfl rfl (Y_move rfl rfl) ?_; clear hf; intro a hf
                      refine gY (i := 1) [] rfl (by kernel_rfl) (by kernel_rfl) hf hs0 rfl rfl rfl (Y_move rfl rfl) ?_; clear hf; intro a hf
                      obtain ⟨q4956, hi4957, hm4917⟩ := bind_some hm4917
                      obtain ⟨hi4957a, hi4957b, hi4957q⟩ := idx_some hi4957
                      obtain ⟨A4958, c4959, hv4960⟩ := hs0.matRow (i := 0) rfl hi4957q
                      refine gY (i := 2) [] rfl (by kernel_rfl) (by kernel_rfl) hf hs0 rfl rfl rfl (Y_index rfl rfl rfl el34 ti36 (Rd.isAt (hs0.rdV (i := 0) rfl) hv4960) hi4957a (ltn hn4838 hi4957b)) ?_; clear hf; intro a hf
                      refine gY (i := 3) [] rfl (by kernel_rfl) (by kernel_rfl) hf hs0 rfl rfl rfl (Y_load_rd rfl rfl (fun w hs => hs.rdV (i := 0) rfl) (at1 hv4960) ag36) ?_; clear hf; intro a hf
                      refine gY (i := 4) [] rfl (by kernel_rfl) (by kernel_rfl) hf hs0 rfl rfl rfl (Y_move rfl rfl) ?_; clear hf; intro a hf
                      refine gY (i := 5) [] rfl (by kernel_rfl) (by kernel_rfl) hf hs0 rfl rfl rfl (Y_move rfl rfl) ?_; clear hf; intro a hf
                      refine gY (i := 6) [] rfl (by kernel_rfl) (by kernel_rfl) hf hs0 rfl rfl rfl (Y_move rfl rfl) ?_; clear hf; intro a hf
                      obtain ⟨q4961, hi4962, hm4917⟩ := bind_some hm4917
                      obtain ⟨hi4962a, hi4962b, hi4962q⟩ := idx_some hi4962
                      obtain ⟨A4963, c4964, hv4965⟩ := hs0.matRow (i := 0) rfl hi4962q
                      refine gY (i := 7) [] rfl (by kernel_rfl) (by kernel_rfl) hf hs0 rfl rfl rfl (Y_index rfl rfl rfl el34 ti36 (Rd.isAt (hs0.rdV (i := 0) rfl) hv4965) hi4962a (ltn hn4838 hi4962b)) ?_; clear hf; intro a hf
                      refine gY (i := 8) [] rfl (by kernel_rfl) (by kernel_rfl) hf hs0 rfl rfl rfl (Y_load_rd rfl rfl (fun w hs => hs.rdV (i := 0) rfl) (at1 hv4965) ag36) ?_; clear hf; intro a hf
                      refine gY (i := 9) [] rfl (by kernel_rfl) (by kernel_rfl) hf hs0 rfl rfl rfl (Y_move rfl rfl) ?_; clear hf; intro a hf
                      obtain ⟨q4966, hi4967, hm4917⟩ := bind_some hm4917
                      obtain ⟨hi4967a, hi4967b, hi4967q⟩ := idx_some hi4967
                      refine gY (i := 10) [] rfl (by kernel_rfl) (by kernel_rfl) hf hs0 rfl rfl rfl (Y_index rfl rfl rfl el36 ti2 (Rd.isAt (hs0.rdRow (i := 0) rfl ⟨hi4962q, hv4965⟩) (at1 (ints_at hi4967q))) hi4967a hi4967b) ?_; clear hf; intro a hf
                      refine gY (i := 11) [] rfl (by kernel_rfl) (by kernel_rfl) hf hs0 rfl rfl rfl (Y_load_rd rfl rfl (fun w hs => hs.rdRow (i := 0) rfl ⟨hi4962q, hv4965⟩) (at1 (ints_at hi4967q)) ag2) ?_; clear hf; intro a hf
                      refine gY (i := 12) [] rfl (by kernel_rfl) (by kernel_rfl) hf hs0 rfl rfl rfl (Y_move rfl rfl) ?_; clear hf; intro a hf
                      refine gY (i := 13) [] rfl (by kernel_rfl) (by kernel_rfl) hf hs0 rfl rfl rfl (Y_move rfl rfl) ?_; clear hf; intro a hf
                      obtain ⟨q4968, hi4969, hm4917⟩ := bind_some hm4917
                      obtain ⟨hi4969a, hi4969b, hi4969q⟩ := idx_some hi4969
                      obtain ⟨A4970, c4971, hv4972⟩ := hs0.matRow (i := 0) rfl hi4969q
                      refine gY (i := 14) [] rfl (by kernel_rfl) (by kernel_rfl) hf hs0 rfl rfl rfl (Y_index rfl rfl rfl el34 ti36 (Rd.isAt (hs0.rdV (i := 0) rfl) hv4972) hi4969a (ltn hn4838 hi4969b)) ?_; clear hf; intro a hf
                      refine gY (i := 15) [] rfl (by kernel_rfl) (by kernel_rfl) hf hs0 rfl rfl rfl (Y_load_rd rfl rfl (fun w hs => hs.rdV (i := 0) rfl) (at1 hv4972) ag36) ?_; clear hf; intro a hf
                      refine gY (i := 16) [] rfl (by kernel_rfl) (by kernel_rfl) hf hs0 rfl rfl rfl (Y_move rfl rfl) ?_; clear hf; intro a hf
                      obtain ⟨q4973, hi4974, hm4917⟩ := bind_some hm4917
                      obtain ⟨hi4974a, hi4974b, hi4974q⟩ := idx_some hi4974
                      refine gY (i := 17) [] rfl (by kernel_rfl) (by kernel_rfl) hf hs0 rfl rfl rfl (Y_index rfl rfl rfl el36 ti2 (Rd.isAt (hs0.rdRow (i := 0) rfl ⟨hi4969q, hv4972⟩) (at1 (ints_at hi4974q))) hi4974a hi4974b) ?_; clear hf; intro a hf
                      refine gY (i := 18) [] rfl (by kernel_rfl) (by kernel_rfl) hf hs0 rfl rfl rfl (Y_load_rd rfl rfl (fun w hs => hs.rdRow (i := 0) rfl ⟨hi4969q, hv4972⟩) (at1 (ints_at hi4974q)) ag2) ?_; clear hf; intro a hf
                      refine gY (i := 19) [] rfl (by kernel_rfl) (by kernel_rfl) hf hs0 rfl rfl rfl (Y_move rfl rfl) ?_; clear hf; intro a hf
                      refine gY (i := 20) [] rfl (by kernel_rfl) (by kernel_rfl) hf hs0 rfl rfl rfl (Y_move rfl rfl) ?_; clear hf; intro a hf
                      obtain ⟨q4975, hi4976, hm4917⟩ := bind_some hm4917
                      obtain ⟨hi4976a, hi4976b, hi4976q⟩ := idx_some hi4976
                      obtain ⟨A4977, c4978, hv4979⟩ := hs0.matRow (i := 0) rfl hi4976q
                      refine gY (i := 21) [] rfl (by kernel_rfl) (by kernel_rfl) hf hs0 rfl rfl rfl (Y_index rfl rfl rfl el34 ti36 (Rd.isAt (hs0.rdV (i := 0) rfl) hv4979) hi4976a (ltn hn4838 hi4976b)) ?_; clear hf; intro a hf
                      refine gY (i := 22) [] rfl (by kernel_rfl) (by kernel_rfl) hf hs0 rfl rfl rfl (Y_load_rd rfl rfl (fun w hs => hs.rdV (i := 0) rfl) (at1 hv4979) ag36) ?_; clear hf; intro a hf
                      refine gY (i := 23) [] rfl (by kernel_rfl) (by kernel_rfl) hf hs0 rfl rfl rfl (Y_move rfl rfl) ?_; clear hf; intro a hf
                      obtain ⟨q4980, hi4981, hm4917⟩ := bind_some hm4917
                      obtain ⟨hi4981a, hi4981b, hi4981q⟩ := idx_some hi4981
                      refine gY (i := 24) [] rfl (by kernel_rfl) (by kernel_rfl) hf hs0 rfl rfl rfl (Y_index rfl rfl rfl el36 ti2 (Rd.isAt (hs0.rdRow (i := 0) rfl ⟨hi4976q, hv4979⟩) (at1 (ints_at hi4981q))) hi4981a hi4981b) ?_; clear hf; intro a hf
                      refine gY (i := 25) [] rfl (by kernel_rfl) (by kernel_rfl) hf hs0 rfl rfl rfl (Y_load_rd rfl rfl (fun w hs => hs.rdRow (i := 0) rfl ⟨hi4976q, hv4979⟩) (at1 (ints_at hi4981q)) ag2) ?_; clear hf; intro a hf
                      refine gRun (i := 26) rfl (by kernel_rfl) ?_
                      obtain ⟨r4982, hc4983, hm4917⟩ := bind_some hm4917
                      refine sCall hf rfl rfl rfl rfl (cap := []) rfl rfl en135 (impl_times_ok F q4973 q4980 _ _ hc4983) ?_; clear hf
                      rintro _ w ⟨rfl, hs1⟩ a hf
                      have hs : St [] W w [.mat A10 n11 c12 36 2 vs14 ms4837] := hs.ext hs1.below
                      clear hs1
                      have hs0 : St [] W w [.mat A10 n11 c12 36 2 vs14 ms4837] := hs
                      refine wpO_nil ⟨Or.inr hs0, ?_⟩
                      refine gY (i := 27) [] rfl (by kernel_rfl) (by kernel_rfl) hf hs0 rfl rfl rfl (Y_max rfl rfl rfl) ?_; clear hf; intro a hf
                      obtain ⟨q4984, hi4985, hm4917⟩ := bind_some hm4917
                      obtain ⟨hi4985a, hi4985b, hi4985q⟩ := idx_some hi4985
                      refine gY (i := 28) [] rfl (by kernel_rfl) (by kernel_rfl) hf hs0 rfl rfl rfl (Y_index rfl rfl rfl el36 ti2 (Rd.isAt (hs0.rdRow (i := 0) rfl ⟨hi4957q, hv4960⟩) (at1 (ints_at hi4985q))) hi4985a hi4985b) ?_; clear hf; intro a hf
                      refine gRun (i := 29) rfl (by kernel_rfl) ?_
                      obtain ⟨xs4986, hu4988, hm4917⟩ := bind_some hm4917
                      obtain ⟨ms4987, hu4989, hm4917⟩ := bind_some hm4917
                      refine sStoreM (i := 0) (k := x4375) hf hs rfl rfl rfl rfl rfl rfl hi4957q hv4960 rfl hu4988 hu4989 ti2 ?_; clear hs; intro w hs
                      obtain ⟨hq4990, hv4991⟩ := rowUpd hu4988 hu4989 hv4960
                      have hs : St [] W w [.mat A10 n11 c12 36 2 vs14 ms4987] := hs
                      refine wpO_nil ⟨Or.inl rfl, ?_⟩
                      refine gDone (by kernel_rfl) ?_
                      clear hs0
                      refine wpL_nil (Qb_normal ?_)
                      refine wpL_region ?_
                      refine sY hf hs rfl rfl rfl (Y_add rfl rfl rfl) ?_; clear hf; intro a hf
                      refine sY hf hs rfl rfl rfl (Y_move rfl rfl) ?_; clear hf; intro a hf
                      refine wpO_nil ?_
                      refine wpL_nil (Ql_normal ?_)
                      exact ⟨ms4987, (IntKind.i64.wrap (x4839 + 1)), hm4917, ((hn4838).trans (upd_len hu4989).symm), (Fr.pick (Fr.pick (Fr.pick (Fr.pick (Fr.pick (Fr.pick (Fr.pick (Fr.pick (Fr.pick hf.none hf rfl) hf rfl) hf rfl) hf rfl) hf rfl) hf rfl) hf rfl) hf rfl) hf rfl), hs⟩
                    · have hm4917 := bif_f hm4917 hb4919
                      refine wpL_exit (Ql_exit (Qb_exit ?_))
                      exact ⟨ms4837, Option.some.inj hm4917, hn4838, (Fr.pick (Fr.pick (Fr.pick (Fr.pick (Fr.pick (Fr.pick hf.none hf rfl) hf rfl) hf rfl) hf rfl) hf rfl) hf rfl), hs⟩
                · rintro a w ⟨ms4913, hr_, hn4914, hf, hs⟩
                  subst hr_
                  try dsimp only at hm4685
                  refine wpL_nil (Qb_normal ?_)
                  refine wpL_region ?_
                  refine sY hf hs rfl rfl rfl (Y_add rfl rfl rfl) ?_; clear hf; intro a hf
                  refine sY hf hs rfl rfl rfl (Y_move rfl rfl) ?_; clear hf; intro a hf
                  refine wpO_nil ?_
                  refine wpL_nil (Ql_normal ?_)
                  exact ⟨ms4913, (IntKind.i64.wrap (x4375 + 1)), hm4685, hn4914, (Fr.pick (Fr.pick (Fr.pick (Fr.pick (Fr.pick (Fr.pick hf.none hf rfl) hf rfl) hf rfl) hf rfl) hf rfl) hf rfl), hs⟩
              · have hm4685 := bif_f hm4685 hb4687
                refine wpL_exit (Ql_exit (Qb_exit ?_))
                exact ⟨ms4373, Option.some.inj hm4685, hn4374, (Fr.pick (Fr.pick (Fr.pick hf.none hf rfl) hf rfl) hf rfl), hs⟩
          · rintro a w ⟨ms4681, hr_, hn4682, hf, hs⟩
            subst hr_
            try dsimp only at hm3748
            refine wpL_nil (Qb_normal ?_)
            refine wpL_region ?_
            refine sY hf hs rfl rfl rfl (Y_add rfl rfl rfl) ?_; clear hf; intro a hf
            refine sY hf hs rfl rfl rfl (Y_move rfl rfl) ?_; clear hf; intro a hf
            refine wpO_nil ?_
            refine wpL_nil (Ql_normal ?_)
            exact ⟨ms4681, (IntKind.i64.wrap (x2502 + 1)), hm3748, hn4682, (Fr.pick (Fr.pick (Fr.pick hf.none hf rfl) hf rfl) hf rfl), hs⟩
      · have hm3748 := bif_f hm3748 hb3750
        refine wpL_exit (Ql_exit (Qb_exit ?_))
        exact ⟨ms2500, Option.some.inj hm3748, hn2501, (Fr.pick hf.none hf rfl), hs⟩
  · rintro a w ⟨ms3744, hr_, hn3745, hf, hs⟩
    subst hr_
    try dsimp only at hm
    refine wpL_seq ?_
    refine wpL_seq ?_
    refine wpL_region ?_
    refine sY hf hs rfl rfl rfl (Y_move rfl rfl) ?_; clear hf; intro a hf
    refine sY hf hs rfl rfl rfl (Y_lenH rfl rfl el34 hn3745) ?_; clear hf; intro a hf
    refine sY hf hs rfl rfl rfl (Y_move rfl rfl) ?_; clear hf; intro a hf
    refine wpO_nil ?_
    obtain ⟨r5021, hl5022, hm⟩ := bind_some hm
    refine wpL_block (fun a w => Sum.inr () = r5021 ∧ Fr a 84 [(4, .slice A10 n11 c12)] ∧ St [] W w [.mat A10 n11 c12 36 2 vs14 ms3744]) ?_ ?_
    · refine wpL_loop (fun n a w => ∃ x5011 : Int, impl_starOf_L22 F ms3744 n x5011 = some r5021 ∧ Fr a 84 [(4, .slice A10 n11 c12), (70, .int .i64 (ms3744.length : Int)), (71, .int .i64 x5011)] ∧ St [] W w [.mat A10 n11 c12 36 2 vs14 ms3744]) F ?_ ?_ ?_
      · exact ⟨0, hl5022, (Fr.pick (Fr.pick (Fr.pick hf.none hf rfl) hf rfl) hf rfl), hs⟩
      · rintro a w ⟨x5011, h0_, -, -⟩; simp [impl_starOf_L22] at h0_
      · rintro n5024 a w ⟨x5011, hm5023, hf, hs⟩
        rw [impl_starOf_L22] at hm5023
        refine wpL_seq ?_
        refine wpL_region ?_
        refine sY hf hs rfl rfl rfl (Y_lss rfl rfl rfl) ?_; clear hf; intro a hf
        refine wpO_nil ?_
        refine wpL_seq ?_
        refine wpL_cond hf rfl (fun hb5025 => ?_) (fun hb5025 => ?_)
        · have hm5023 := bif_t hm5023 hb5025
          refine wpL_skip ?_
          refine wpL_seq ?_
          refine wpL_block0 ?_
          refine wpL_seq ?_
          refine wpL_region ?_
          refine sY hf hs rfl rfl rfl (Y_move rfl rfl) ?_; clear hf; intro a hf
          refine sY hf hs rfl rfl rfl (Y_assign rfl rfl) ?_; clear hf; intro a hf
          refine wpO_nil ?_
          refine wpL_seq ?_
          refine wpL_region ?_
          refine sY hf hs rfl rfl rfl (Y_move rfl rfl) ?_; clear hf; intro a hf
          refine sY hf hs rfl rfl rfl (Y_move rfl rfl) ?_; clear hf; intro a hf
          obtain ⟨q5026, hi5027, hm5023⟩ := bind_some hm5023
          obtain ⟨hi5027a, hi5027b, hi5027q⟩ := idx_some hi5027
          obtain ⟨A5028, c5029, hv5030⟩ := hs.matRow (i := 0) rfl hi5027q
          refine sY hf hs rfl rfl rfl (Y_index rfl rfl rfl el34 ti36 (Rd.isAt (hs.rdV (i := 0) rfl) hv5030) hi5027a (ltn hn3745 hi5027b)) ?_; clear hf; intro a hf
          refine sY hf hs rfl rfl rfl (Y_load_rd rfl rfl (fun w hs => hs.rdV (i := 0) rfl) (at1 hv5030) ag36) ?_; clear hf; intro a hf
          refine sY hf hs rfl rfl rfl (Y_move rfl rfl) ?_; clear hf; intro a hf
          obtain ⟨q5031, hi5032, hm5023⟩ := bind_some hm5023
          obtain ⟨hi5032a, hi5032b, hi5032q⟩ := idx_some hi5032
          refine sY hf hs rfl rfl rfl (Y_index rfl rfl rfl el36 ti2 (Rd.isAt (hs.rdRow (i := 0) rfl ⟨hi5027q, hv5030⟩) (at1 (ints_at hi5032q))) hi5032a hi5032b) ?_; clear hf; intro a hf
          refine sY hf hs rfl rfl rfl (Y_load_rd rfl rfl (fun w hs => hs.rdRow (i := 0) rfl ⟨hi5027q, hv5030⟩) (at1 (ints_at hi5032q)) ag2) ?_; clear hf; intro a hf
          refine sY hf hs rfl rfl rfl (Y_gtr rfl rfl rfl) ?_; clear hf; intro a hf
          refine wpO_nil ?_
          refine wpL_cond hf rfl (fun hb5033 => ?_) (fun hb5033 => ?_)
          · have hm5023 := bif_t hm5023 hb5033
            refine wpL_seq ?_
            refine wpL_region ?_
            refine sY hf hs rfl rfl rfl (Y_assign rfl rfl) ?_; clear hf; intro a hf
            refine sY hf hs rfl rfl rfl (Y_assign rfl rfl) ?_; clear hf; intro a hf
            refine wpO_nil ?_
            have hs : St [] W _ [.mat A10 n11 c12 36 2 vs14 ms3744, .mat none 0 0 36 2 [] ([] : List (List Int))] := hs.addNilM 36 2
            obtain rfl := Option.some.inj hm5023
            try dsimp only at hm
            obtain rfl := Option.some.inj hm
            refine wpL_ret (Qb_ret (Ql_ret (Qb_ret (ret_tmp2 rfl hf rfl rfl ?_))))
            exact ⟨_, rfl, none, 0, 0, [], rfl, rfl, hs.sel [1] (by decide)⟩
          · have hm5023 := bif_f hm5023 hb5033
            refine wpL_skip ?_
            refine wpL_nil (Qb_normal ?_)
            refine wpL_region ?_
            refine sY hf hs rfl rfl rfl (Y_add rfl rfl rfl) ?_; clear hf; intro a hf
            refine sY hf hs rfl rfl rfl (Y_move rfl rfl) ?_; clear hf; intro a hf
            refine wpO_nil ?_
            refine wpL_nil (Ql_normal ?_)
            exact ⟨(IntKind.i64.wrap (x5011 + 1)), hm5023, (Fr.pick (Fr.pick (Fr.pick hf.none hf rfl) hf rfl) hf rfl), hs⟩
        · have hm5023 := bif_f hm5023 hb5025
          refine wpL_exit (Ql_exit (Qb_exit ?_))
          exact ⟨Option.some.inj hm5023, (Fr.pick hf.none hf rfl), hs⟩
    · rintro a w ⟨hr_, hf, hs⟩
      subst hr_
      try dsimp only at hm
      refine wpL_seq ?_
      refine wpL_region ?_
      refine sY hf hs rfl rfl rfl (Y_move rfl rfl) ?_; clear hf; intro a hf
      refine sY hf hs rfl rfl rfl (Y_assign rfl rfl) ?_; clear hf; intro a hf
      refine sY hf hs rfl rfl rfl (Y_assign rfl rfl) ?_; clear hf; intro a hf
      refine wpO_nil ?_
      obtain rfl := Option.some.inj hm
      refine wpL_ret (ret_tmp2 rfl hf rfl rfl ?_)
      exact ⟨_, rfl, A10, n11, c12, vs14, rfl, hn3745, hs⟩

set_option maxRecDepth 100000 in
theorem impl_cycleSearch_goOn_step (F k_ : Nat) (ih_ : ∀ (b_p0 : Nat) (p0_matrix : List (List Int)) (A_p0_matrix : Option Addr) (n_p0_matrix c_p0_matrix : Nat) (_hn_p0_matrix : n_p0_matrix = p0_matrix.length) (m_p0_wanted : (List Int) → Int → Option Bool) (f_p0_wanted : FuncId) (k_p0_wanted : List Value) (p0_path : List Int) (A_p0_path : Option Addr) (n_p0_path c_p0_path : Nat) (_hn_p0_path : n_p0_path = p0_path.length) (p0_used : List Bool) (A_p0_used : Option Addr) (n_p0_used c_p0_used : Nat) (_hn_p0_used : n_p0_used = p0_used.length) (p1 : Int) (r : (Bool) × (List Int) × (List Bool)) (W : World) (_hm : impl_cycleSearch_goOn_rec F k_ p0_matrix m_p0_wanted p0_path p0_used p1 = some r) (_h_p0_matrix : KM (muL [.blk b_p0 146 [.slice A_p0_matrix n_p0_matrix c_p0_matrix, .func (.func f_p0_wanted) #[] k_p0_wanted.toArray, .slice A_p0_path n_p0_path c_p0_path, .slice A_p0_used n_p0_used c_p0_used], .row A_p0_path n_p0_path c_p0_path 2 1 (ints p0_path), .row A_p0_used n_p0_used c_p0_used 4 1 (bools p0_used)]) W A_p0_matrix p0_matrix) (_h_p0_wanted : ∀ (x0 : List Int) (Ax0_1 : Option Addr) (nx0_1 cx0_1 : Nat) (_hnx0_1 : nx0_1 = x0.length) (x1 : Int) (r : Bool) (w : World), m_p0_wanted x0 x1 = some r → BM (muL [.blk b_p0 146 [.slice A_p0_matrix n_p0_matrix c_p0_matrix, .func (.func f_p0_wanted) #[] k_p0_wanted.toArray, .slice A_p0_path n_p0_path c_p0_path, .slice A_p0_used n_p0_used c_p0_used], .row A_p0_path n_p0_path c_p0_path 2 1 (ints p0_path), .row A_p0_used n_p0_used c_p0_used 4 1 (bools p0_used)]) W w → Rd w Ax0_1 (ints x0) → Calls Try.prog f_p0_wanted (([.slice Ax0_1 nx0_1 cx0_1, .int .i64 x1] : List Value) ++ k_p0_wanted).toArray w fun e w' => ∃ v, e = .returned v ∧ v = .bool r ∧ St [] w w' []) (_e_p0_wanted : En Try.prog f_p0_wanted) (_hst : St (muL [.blk b_p0 146 [.slice A_p0_matrix n_p0_matrix c_p0_matrix, .func (.func f_p0_wanted) #[] k_p0_wanted.toArray, .slice A_p0_path n_p0_path c_p0_path, .slice A_p0_used n_p0_used c_p0_used], .row A_p0_path n_p0_path c_p0_path 2 1 (ints p0_path), .row A_p0_used n_p0_used c_p0_used 4 1 (bools p0_used)]) W W [.blk b_p0 146 [.slice A_p0_matrix n_p0_matrix c_p0_matrix, .func (.func f_p0_wanted) #[] k_p0_wanted.toArray, .slice A_p0_path n_p0_path c_p0_path, .slice A_p0_used n_p0_used c_p0_used], .row A_p0_path n_p0_path c_p0_path 2 1 (ints p0_path), .row A_p0_used n_p0_used c_p0_used 4 1 (bools p0_used)]), Calls Try.prog 136 [.pointer (some ⟨b_p0, 0, none⟩), .int .i64 p1].toArray W fun e w' => ∃ v, e = .returned v ∧ ∃ A2_, ∃ n2_, ∃ c2_, ∃ A3_, ∃ n3_, ∃ c3_, v = .bool r.1 ∧ n2_ = r.2.1.length ∧ n3_ = r.2.2.length ∧ St (muL [.blk b_p0 146 [.slice A_p0_matrix n_p0_matrix c_p0_matrix, .func (.func f_p0_wanted) #[] k_p0_wanted.toArray, .slice A_p0_path n_p0_path c_p0_path, .slice A_p0_used n_p0_used c_p0_used], .row A_p0_path n_p0_path c_p0_path 2 1 (ints p0_path), .row A_p0_used n_p0_used c_p0_used 4 1 (bools p0_used)]) W w' [.blk b_p0 146 [.slice A_p0_matrix n_p0_matrix c_p0_matrix, .func (.func f_p0_wanted) #[] k_p0_wanted.toArray, .slice A2_ n2_ c2_, .slice A3_ n3_ c3_], .row A2_ n2_ c2_ 2 1 (ints r.2.1), .row A3_ n3_ c3_ 4 1 (bools r.2.2)]) (b_p0 : Nat) (p0_matrix : List (List Int)) (A_p0_matrix : Option Addr) (n_p0_matrix c_p0_matrix : Nat) (hn_p0_matrix : n_p0_matrix = p0_matrix.length) (m_p0_wanted : (List Int) → Int → Option Bool) (f_p0_wanted : FuncId) (k_p0_wanted : List Value) (p0_path : List Int) (A_p0_path : Option Addr) (n_p0_path c_p0_path : Nat) (hn_p0_path : n_p0_path = p0_path.length) (p0_used : List Bool) (A_p0_used : Option Addr) (n_p0_used c_p0_used : Nat) (hn_p0_used : n_p0_used = p0_used.length) (p1 : Int) (r : (Bool) × (List Int) × (List Bool)) (W : World) (hm : impl_cycleSearch_goOn_rec F (k_ + 1) p0_matrix m_p0_wanted p0_path p0_used p1 = some r) (h_p0_matrix : KM (muL [.blk b_p0 146 [.slice A_p0_matrix n_p0_matrix c_p0_matrix, .func (.func f_p0_wanted) #[] k_p0_wanted.toArray, .slice A_p0_path n_p0_path c_p0_path, .slice A_p0_used n_p0_used c_p0_used], .row A_p0_path n_p0_path c_p0_path 2 1 (ints p0_path), .row A_p0_used n_p0_used c_p0_used 4 1 (bools p0_used)]) W A_p0_matrix p0_matrix) (h_p0_wanted : ∀ (x0 : List Int) (Ax0_1 : Option Addr) (nx0_1 cx0_1 : Nat) (_hnx0_1 : nx0_1 = x0.length) (x1 : Int) (r : Bool) (w : World), m_p0_wanted x0 x1 = some r → BM (muL [.blk b_p0 146 [.slice A_p0_matrix n_p0_matrix c_p0_matrix, .func (.func f_p0_wanted) #[] k_p0_wanted.toArray, .slice A_p0_path n_p0_path c_p0_path, .slice A_p0_used n_p0_used c_p0_used], .row A_p0_path n_p0_path c_p0_path 2 1 (ints p0_path), .row A_p0_used n_p0_used c_p0_used 4 1 (bools p0_used)]) W w → Rd w Ax0_1 (ints x0) → Calls Try.prog f_p0_wanted (([.slice Ax0_1 nx0_1 cx0_1, .int .i64 x1] : List Value) ++ k_p0_wanted).toArray w fun e w' => ∃ v, e = .returned v ∧ v = .bool r ∧ St [] w w' []) (e_p0_wanted : En Try.prog f_p0_wanted) (hst : St (muL [.blk b_p0 146 [.slice A_p0_matrix n_p0_matrix c_p0_matrix, .func (.func f_p0_wanted) #[] k_p0_wanted.toArray, .slice A_p0_path n_p0_path c_p0_path, .slice A_p0_used n_p0_used c_p0_used], .row A_p0_path n_p0_path c_p0_path 2 1 (ints p0_path), .row A_p0_used n_p0_used c_p0_used 4 1 (bools p0_used)]) W W [.blk b_p0 146 [.slice A_p0_matrix n_p0_matrix c_p0_matrix, .func (.func f_p0_wanted) #[] k_p0_wanted.toArray, .slice A_p0_path n_p0_path c_p0_path, .slice A_p0_used n_p0_used c_p0_used], .row A_p0_path n_p0_path c_p0_path 2 1 (ints p0_path), .row A_p0_used n_p0_used c_p0_used 4 1 (bools p0_used)]) :
    Calls Try.prog 136 [.pointer (some ⟨b_p0, 0, none⟩), .int .i64 p1].toArray W fun e w' => ∃ v, e = .returned v ∧ ∃ A2_, ∃ n2_, ∃ c2_, ∃ A3_, ∃ n3_, ∃ c3_, v = .bool r.1 ∧ n2_ = r.2.1.length ∧ n3_ = r.2.2.length ∧ St (muL [.blk b_p0 146 [.slice A_p0_matrix n_p0_matrix c_p0_matrix, .func (.func f_p0_wanted) #[] k_p0_wanted.toArray, .slice A_p0_path n_p0_path c_p0_path, .slice A_p0_used n_p0_used c_p0_used], .row A_p0_path n_p0_path c_p0_path 2 1 (ints p0_path), .row A_p0_used n_p0_used c_p0_used 4 1 (bools p0_used)]) W w' [.blk b_p0 146 [.slice A_p0_matrix n_p0_matrix c_p0_matrix, .func (.func f_p0_wanted) #[] k_p0_wanted.toArray, .slice A2_ n2_ c2_, .slice A3_ n3_ c3_], .row A2_ n2_ c2_ 2 1 (ints r.2.1), .row A3_ n3_ c3_ 4 1 (bools r.2.2)] := by
  subst hn_p0_matrix
  subst hn_p0_path
  subst hn_p0_used
  unfold impl_cycleSearch_goOn_rec at hm
  refine Calls.enter (N := 127) Try.func136 rfl rfl rfl (fun a hf => ?_)
  have hs := hst
  obtain ⟨w, hw_⟩ : ∃ w, w = W := ⟨W, rfl⟩
  clear hw_ w
  refine wpL_seq ?_
  refine wpL_region ?_
  refine sY hf hs rfl rfl rfl (Y_assign rfl rfl) ?_; clear hf; intro a hf
  refine wpO_nil ?_
  refine wpL_seq ?_
  refine wpL_draw (by kernel_rfl) (by kernel_rfl) hs ?_
  refine qY hf rfl rfl rfl (Y_move rfl rfl) ?_; clear hf; intro a hf
  refine qY hf rfl rfl rfl (Y_nilCheck rfl rfl) ?_; clear hf; intro a hf
  refine qY hf rfl rfl rfl (Y_fieldAddr rfl rfl fo146_2) ?_; clear hf; intro a hf
  refine qY hf rfl rfl rfl (Y_load_blk rfl rfl (i := 0) rfl rfl ag36) ?_; clear hf; intro a hf
  obtain ⟨q1, hi2, hm⟩ := bind_some hm
  obtain ⟨hi2a, hi2b, hi2q⟩ := idx_some hi2
  refine qY hf rfl rfl rfl (Y_index rfl rfl rfl el36 ti2 (Rd.isAt (hs.rd (i := 1) rfl) (at1 (ints_at hi2q))) hi2a hi2b) ?_; clear hf; intro a hf
  refine qY hf rfl rfl rfl (Y_load_rd rfl rfl (fun w hs => hs.rd (i := 1) rfl) (at1 (ints_at hi2q)) ag2) ?_; clear hf; intro a hf
  refine qY hf rfl rfl rfl (Y_move rfl rfl) ?_; clear hf; intro a hf
  refine qY hf rfl rfl rfl (Y_nilCheck rfl rfl) ?_; clear hf; intro a hf
  refine qY hf rfl rfl rfl (Y_fieldAddr rfl rfl fo146_2) ?_; clear hf; intro a hf
  refine qY hf rfl rfl rfl (Y_load_blk rfl rfl (i := 0) rfl rfl ag36) ?_; clear hf; intro a hf
  refine qY hf rfl rfl rfl (Y_move rfl rfl) ?_; clear hf; intro a hf
  refine qY hf rfl rfl rfl (Y_nilCheck rfl rfl) ?_; clear hf; intro a hf
  refine qY hf rfl rfl rfl (Y_fieldAddr rfl rfl fo146_2) ?_; clear hf; intro a hf
  refine qY hf rfl rfl rfl (Y_load_blk rfl rfl (i := 0) rfl rfl ag36) ?_; clear hf; intro a hf
  refine qY hf rfl rfl rfl (Y_lenH rfl rfl el36 rfl) ?_; clear hf; intro a hf
  refine qY hf rfl rfl rfl (Y_sub rfl rfl rfl) ?_; clear hf; intro a hf
  obtain ⟨q3, hi4, hm⟩ := bind_some hm
  obtain ⟨hi4a, hi4b, hi4q⟩ := idx_some hi4
  refine qY hf rfl rfl rfl (Y_index rfl rfl rfl el36 ti2 (Rd.isAt (hs.rd (i := 1) rfl) (at1 (ints_at hi4q))) hi4a hi4b) ?_; clear hf; intro a hf
  refine qY hf rfl rfl rfl (Y_load_rd rfl rfl (fun w hs => hs.rd (i := 1) rfl) (at1 (ints_at hi4q)) ag2) ?_; clear hf; intro a hf
  refine qY hf rfl rfl rfl (Y_assign rfl rfl) ?_; clear hf; intro a hf
  refine qY hf rfl rfl rfl (Y_assign rfl rfl) ?_; clear hf; intro a hf
  refine qNil ?_; clear hs; intro w hs
  refine wpL_seq ?_
  refine wpL_seq ?_
  refine wpL_region ?_
  refine sY hf hs rfl rfl rfl (Y_move rfl rfl) ?_; clear hf; intro a hf
  refine sY hf hs rfl rfl rfl (Y_nilCheck rfl rfl) ?_; clear hf; intro a hf
  refine sY hf hs rfl rfl rfl (Y_fieldAddr rfl rfl fo146_0) ?_; clear hf; intro a hf
  refine sY hf hs rfl rfl rfl (Y_load_blk rfl rfl (i := 0) rfl rfl ag34) ?_; clear hf; intro a hf
  refine sY hf hs rfl rfl rfl (Y_move rfl rfl) ?_; clear hf; intro a hf
  obtain ⟨q5, hi6, hm⟩ := bind_some hm
  obtain ⟨hi6a, hi6b, hi6q⟩ := idx_some hi6
  obtain ⟨vs7, hv8, hr9⟩ := id h_p0_matrix
  obtain ⟨A10, c11, hv12, hR13⟩ := hr9 _ _ hi6q
  refine sY hf hs rfl rfl rfl (Y_index rfl rfl rfl el34 ti36 (Rd.isAt hv8.here hv12) hi6a hi6b) ?_; clear hf; intro a hf
  refine sY hf hs rfl rfl rfl (Y_load_rd rfl rfl (fun w hs => hv8.at hs) (at1 hv12) ag36) ?_; clear hf; intro a hf
  refine sY hf hs rfl rfl rfl (Y_move rfl rfl) ?_; clear hf; intro a hf
  obtain ⟨q14, hi15, hm⟩ := bind_some hm
  obtain ⟨hi15a, hi15b, hi15q⟩ := idx_some hi15
  refine sY hf hs rfl rfl rfl (Y_index rfl rfl rfl el36 ti2 (Rd.isAt (hR13.at hs) (at1 (ints_at hi15q))) hi15a hi15b) ?_; clear hf; intro a hf
  refine sY hf hs rfl rfl rfl (Y_load_rd rfl rfl (fun w hs => hR13.at hs) (at1 (ints_at hi15q)) ag2) ?_; clear hf; intro a hf
  refine sY hf hs rfl rfl rfl (Y_assign rfl rfl) ?_; clear hf; intro a hf
  refine wpO_nil ?_
  refine wpL_seq ?_
  obtain ⟨r20, hj21, hm⟩ := bind_some hm
  refine wpL_cut (fun a w => ∃ b19 : Bool, b19 = r20 ∧ Fr a 127 [(0, .pointer (some ⟨b_p0, 0, none⟩)), (1, .int .i64 p1), (5, .int .i64 q1), (6, .int .i64 q3), (53, .bool b19)] ∧ St (muL [.blk b_p0 146 [.slice A_p0_matrix p0_matrix.length c_p0_matrix, .func (.func f_p0_wanted) #[] k_p0_wanted.toArray, .slice A_p0_path p0_path.length c_p0_path, .slice A_p0_used p0_used.length c_p0_used], .row A_p0_path p0_path.length c_p0_path 2 1 (ints p0_path), .row A_p0_used p0_used.length c_p0_used 4 1 (bools p0_used)]) W w [.blk b_p0 146 [.slice A_p0_matrix p0_matrix.length c_p0_matrix, .func (.func f_p0_wanted) #[] k_p0_wanted.toArray, .slice A_p0_path p0_path.length c_p0_path, .slice A_p0_used p0_used.length c_p0_used], .row A_p0_path p0_path.length c_p0_path 2 1 (ints p0_path), .row A_p0_used p0_used.length c_p0_used 4 1 (bools p0_used)]) ?_ ?_
  · refine wpL_draw (by kernel_rfl) (by kernel_rfl) hs ?_
    refine qY hf rfl rfl rfl (Y_move rfl rfl) ?_; clear hf; intro a hf
    refine qY hf rfl rfl rfl (Y_neq rfl rfl rfl) ?_; clear hf; intro a hf
    refine qY hf rfl rfl rfl (Y_move rfl rfl) ?_; clear hf; intro a hf
    refine bsplit (q14 != (-1000000000000000)) (fun hb22 => ?_) (fun hb22 => ?_)
    · have hj21 := bif_t hj21 hb22
      refine qYg hf rfl rfl rfl (congrArg (fun b => some (Value.bool b)) hb22) rfl rfl rfl (Y_move rfl rfl) ?_; clear hf; intro a hf
      refine qYg hf rfl rfl rfl (congrArg (fun b => some (Value.bool b)) hb22) rfl rfl rfl (Y_nilCheck rfl rfl) ?_; clear hf; intro a hf
      refine qYg hf rfl rfl rfl (congrArg (fun b => some (Value.bool b)) hb22) rfl rfl rfl (Y_fieldAddr rfl rfl fo146_1) ?_; clear hf; intro a hf
      refine qYg hf rfl rfl rfl (congrArg (fun b => some (Value.bool b)) hb22) rfl rfl rfl (Y_load_blk rfl rfl (i := 0) rfl rfl ag94) ?_; clear hf; intro a hf
      refine qYg hf rfl rfl rfl (congrArg (fun b => some (Value.bool b)) hb22) rfl rfl rfl (Y_move rfl rfl) ?_; clear hf; intro a hf
      refine qYg hf rfl rfl rfl (congrArg (fun b => some (Value.bool b)) hb22) rfl rfl rfl (Y_nilCheck rfl rfl) ?_; clear hf; intro a hf
      refine qYg hf rfl rfl rfl (congrArg (fun b => some (Value.bool b)) hb22) rfl rfl rfl (Y_fieldAddr rfl rfl fo146_2) ?_; clear hf; intro a hf
      refine qYg hf rfl rfl rfl (congrArg (fun b => some (Value.bool b)) hb22) rfl rfl rfl (Y_load_blk rfl rfl (i := 0) rfl rfl ag36) ?_; clear hf; intro a hf
      refine qYg hf rfl rfl rfl (congrArg (fun b => some (Value.bool b)) hb22) rfl rfl rfl (Y_move rfl rfl) ?_; clear hf; intro a hf
      refine qYg hf rfl rfl rfl (congrArg (fun b => some (Value.bool b)) hb22) rfl rfl rfl (Y_move rfl rfl) ?_; clear hf; intro a hf
      refine qYg hf rfl rfl rfl (congrArg (fun b => some (Value.bool b)) hb22) rfl rfl rfl (Y_add rfl rfl rfl) ?_; clear hf; intro a hf
      obtain ⟨r23, hc24, hj21⟩ := bind_some hj21
      refine qCallg hf rfl rfl rfl (congrArg (fun b => some (Value.bool b)) hb22) rfl rfl rfl rfl (cap := k_p0_wanted) rfl rfl e_p0_wanted (v := .bool r23) (fun w hs => Calls.scal (h_p0_wanted p0_path A_p0_path p0_path.length c_p0_path rfl (IntKind.i64.wrap (p1 + q14)) _ _ hc24 hs.bm (hs.rd (i := 1) rfl))) ?_; clear hf; intro a hf
      refine qY hf rfl rfl rfl (Y_pickT rfl (congrArg (fun b => some (Value.bool b)) hb22) rfl) ?_; clear hf; intro a hf
      refine qNil ?_; clear hs; intro w hs
      refine wpL_nil (then_normal ?_)
      exact ⟨r23, Option.some.inj hj21, (Fr.pick (Fr.pick (Fr.pick (Fr.pick (Fr.pick hf.none hf rfl) hf rfl) hf rfl) hf rfl) hf rfl), hs⟩
    · have hj21 := bif_f hj21 hb22
      refine qNo hf rfl rfl rfl (congrArg (fun b => some (Value.bool b)) hb22) rfl rfl rfl ?_; clear hf; intro a hf
      refine qNo hf rfl rfl rfl (congrArg (fun b => some (Value.bool b)) hb22) rfl rfl rfl ?_; clear hf; intro a hf
      refine qNo hf rfl rfl rfl (congrArg (fun b => some (Value.bool b)) hb22) rfl rfl rfl ?_; clear hf; intro a hf
      refine qNo hf rfl rfl rfl (congrArg (fun b => some (Value.bool b)) hb22) rfl rfl rfl ?_; clear hf; intro a hf
      refine qNo hf rfl rfl rfl (congrArg (fun b => some (Value.bool b)) hb22) rfl rfl rfl ?_; clear hf; intro a hf
      refine qNo hf rfl rfl rfl (congrArg (fun b => some (Value.bool b)) hb22) rfl rfl rfl ?_; clear hf; intro a hf
      refine qNo hf rfl rfl rfl (congrArg (fun b => some (Value.bool b)) hb22) rfl rfl rfl ?_; clear hf; intro a hf
      refine qNo hf rfl rfl rfl (congrArg (fun b => some (Value.bool b)) hb22) rfl rfl rfl ?_; clear hf; intro a hf
      refine qNo hf rfl rfl rfl (congrArg (fun b => some (Value.bool b)) hb22) rfl rfl rfl ?_; clear hf; intro a hf
      refine qNo hf rfl rfl rfl (congrArg (fun b => some (Value.bool b)) hb22) rfl rfl rfl ?_; clear hf; intro a hf
      refine qNo hf rfl rfl rfl (congrArg (fun b => some (Value.bool b)) hb22) rfl rfl rfl ?_; clear hf; intro a hf
      refine qNo hf rfl rfl rfl (congrArg (fun b => some (Value.bool b)) hb22) rfl rfl rfl ?_; clear hf; intro a hf
      refine qY hf rfl rfl rfl (Y_pickF rfl (congrArg (fun b => some (Value.bool b)) hb22) rfl) ?_; clear hf; intro a hf
      refine qNil ?_; clear hs; intro w hs
      refine wpL_nil (then_normal ?_)
      exact ⟨false, Option.some.inj hj21, (Fr.pick (Fr.pick (Fr.pick (Fr.pick (Fr.pick hf.none hf rfl) hf rfl) hf rfl) hf rfl) hf rfl), hs⟩
  · rintro a w ⟨b19, hr_, hf, hs⟩
    subst hr_
    try dsimp only at hm
    refine wpL_cond hf rfl (fun hb25 => ?_) (fun hb25 => ?_)
    · have hm := bif_t hm hb25
      refine wpL_seq ?_
      refine wpL_region ?_
      refine sY hf hs rfl rfl rfl (Y_assign rfl rfl) ?_; clear hf; intro a hf
      refine wpO_nil ?_
      obtain rfl := Option.some.inj hm
      refine wpL_ret (ret_tmp rfl hf rfl ?_)
      exact ⟨_, rfl, A_p0_path, p0_path.length, c_p0_path, A_p0_used, p0_used.length, c_p0_used, rfl, rfl, rfl, hs⟩
    · have hm := bif_f hm hb25
      refine wpL_skip ?_
      refine wpL_seq ?_
      refine wpL_seq ?_
      refine wpL_region ?_
      refine sY hf hs rfl rfl rfl (Y_move rfl rfl) ?_; clear hf; intro a hf
      refine sY hf hs rfl rfl rfl (Y_add rfl rfl rfl) ?_; clear hf; intro a hf
      refine sY hf hs rfl rfl rfl (Y_assign rfl rfl) ?_; clear hf; intro a hf
      refine wpO_nil ?_
      obtain ⟨r397, hl398, hm⟩ := bind_some hm
      refine wpL_block (fun a w => ∃ xs387 : List Int, ∃ xs392 : List Bool, ∃ A388, ∃ n389, ∃ c390, ∃ A393, ∃ n394, ∃ c395, Sum.inr (xs387, xs392) = r397 ∧ n389 = xs387.length ∧ n394 = xs392.length ∧ Fr a 127 [] ∧ St (muL [.blk b_p0 146 [.slice A_p0_matrix p0_matrix.length c_p0_matrix, .func (.func f_p0_wanted) #[] k_p0_wanted.toArray, .slice A_p0_path p0_path.length c_p0_path, .slice A_p0_used p0_used.length c_p0_used], .row A_p0_path p0_path.length c_p0_path 2 1 (ints p0_path), .row A_p0_used p0_used.length c_p0_used 4 1 (bools p0_used)]) W w [.blk b_p0 146 [.slice A_p0_matrix p0_matrix.length c_p0_matrix, .func (.func f_p0_wanted) #[] k_p0_wanted.toArray, .slice A388 n389 c390, .slice A393 n394 c395], .row A388 n389 c390 2 1 (ints xs387), .row A393 n394 c395 4 1 (bools xs392)]) ?_ ?_
      · refine wpL_loop (fun n a w => ∃ xs263 : List Int, ∃ xs268 : List Bool, ∃ x273 : Int, ∃ A264, ∃ n265, ∃ c266, ∃ A269, ∃ n270, ∃ c271, impl_cycleSearch_goOn_L1 F p0_matrix m_p0_wanted p1 q3 (impl_cycleSearch_goOn_rec F k_) n xs263 xs268 x273 = some r397 ∧ n265 = xs263.length ∧ n270 = xs268.length ∧ Fr a 127 [(0, .pointer (some ⟨b_p0, 0, none⟩)), (1, .int .i64 p1), (6, .int .i64 q3), (8, .int .i64 x273)] ∧ St (muL [.blk b_p0 146 [.slice A_p0_matrix p0_matrix.length c_p0_matrix, .func (.func f_p0_wanted) #[] k_p0_wanted.toArray, .slice A_p0_path p0_path.length c_p0_path, .slice A_p0_used p0_used.length c_p0_used], .row A_p0_path p0_path.length c_p0_path 2 1 (ints p0_path), .row A_p0_used p0_used.length c_p0_used 4 1 (bools p0_used)]) W w [.blk b_p0 146 [.slice A_p0_matrix p0_matrix.length c_p0_matrix, .func (.func f_p0_wanted) #[] k_p0_wanted.toArray, .slice A264 n265 c266, .slice A269 n270 c271], .row A264 n265 c266 2 1 (ints xs263), .row A269 n270 c271 4 1 (bools xs268)]) F ?_ ?_ ?_
        · exact ⟨p0_path, p0_used, (IntKind.i64.wrap (q1 + 1)), A_p0_path, p0_path.length, c_p0_path, A_p0_used, p0_used.length, c_p0_used, hl398, rfl, rfl, (Fr.pick (Fr.pick (Fr.pick (Fr.pick hf.none hf rfl) hf rfl) hf rfl) hf rfl), hs⟩
        · rintro a w ⟨xs263, xs268, x273, A264, n265, c266, A269, n270, c271, h0_, -, -, -, -⟩; simp [impl_cycleSearch_goOn_L1] at h0_
        · rintro n400 a w ⟨xs263, xs268, x273, A264, n265, c266, A269, n270, c271, hm399, hn267, hn272, hf, hs⟩
          rw [impl_cycleSearch_goOn_L1] at hm399
          refine wpL_seq ?_
          refine wpL_seq ?_
          refine wpL_region ?_
          refine sY hf hs rfl rfl rfl (Y_move rfl rfl) ?_; clear hf; intro a hf
          refine sY hf hs rfl rfl rfl (Y_move rfl rfl) ?_; clear hf; intro a hf
          refine sY hf hs rfl rfl rfl (Y_nilCheck rfl rfl) ?_; clear hf; intro a hf
          refine sY hf hs rfl rfl rfl (Y_fieldAddr rfl rfl fo146_0) ?_; clear hf; intro a hf
          refine sY hf hs rfl rfl rfl (Y_load_blk rfl rfl (i := 0) rfl rfl ag34) ?_; clear hf; intro a hf
          refine sY hf hs rfl rfl rfl (Y_lenH rfl rfl el34 rfl) ?_; clear hf; intro a hf
          refine sY hf hs rfl rfl rfl (Y_lss rfl rfl rfl) ?_; clear hf; intro a hf
          refine wpO_nil ?_
          refine wpL_cond hf rfl (fun hb401 => ?_) (fun hb401 => ?_)
          · have hm399 := bif_t hm399 hb401
            refine wpL_skip ?_
            refine wpL_seq ?_
            obtain ⟨r462, hj463, hm399⟩ := bind_some hm399
            refine wpL_block (fun a w => ∃ xs452 : List Int, ∃ xs457 : List Bool, ∃ A453, ∃ n454, ∃ c455, ∃ A458, ∃ n459, ∃ c460, Sum.inr (xs452, xs457) = r462 ∧ n454 = xs452.length ∧ n459 = xs457.length ∧ Fr a 127 [(0, .pointer (some ⟨b_p0, 0, none⟩)), (1, .int .i64 p1), (6, .int .i64 q3), (8, .int .i64 x273)] ∧ St (muL [.blk b_p0 146 [.slice A_p0_matrix p0_matrix.length c_p0_matrix, .func (.func f_p0_wanted) #[] k_p0_wanted.toArray, .slice A_p0_path p0_path.length c_p0_path, .slice A_p0_used p0_used.length c_p0_used], .row A_p0_path p0_path.length c_p0_path 2 1 (ints p0_path), .row A_p0_used p0_used.length c_p0_used 4 1 (bools p0_used)]) W w [.blk b_p0 146 [.slice A_p0_matrix p0_matrix.length c_p0_matrix, .func (.func f_p0_wanted) #[] k_p0_wanted.toArray, .slice A453 n454 c455, .slice A458 n459 c460], .row A453 n454 c455 2 1 (ints xs452), .row A458 n459 c460 4 1 (bools xs457)]) ?_ ?_
            · refine wpL_seq ?_
              refine wpL_region ?_
              refine sY hf hs rfl rfl rfl (Y_move rfl rfl) ?_; clear hf; intro a hf
              refine sY hf hs rfl rfl rfl (Y_nilCheck rfl rfl) ?_; clear hf; intro a hf
              refine sY hf hs rfl rfl rfl (Y_fieldAddr rfl rfl fo146_0) ?_; clear hf; intro a hf
              refine sY hf hs rfl rfl rfl (Y_load_blk rfl rfl (i := 0) rfl rfl ag34) ?_; clear hf; intro a hf
              refine sY hf hs rfl rfl rfl (Y_move rfl rfl) ?_; clear hf; intro a hf
              obtain ⟨q464, hi465, hj463⟩ := bind_some hj463
              obtain ⟨hi465a, hi465b, hi465q⟩ := idx_some hi465
              obtain ⟨vs466, hv467, hr468⟩ := id h_p0_matrix
              obtain ⟨A469, c470, hv471, hR472⟩ := hr468 _ _ hi465q
              refine sY hf hs rfl rfl rfl (Y_index rfl rfl rfl el34 ti36 (Rd.isAt hv467.here hv471) hi465a hi465b) ?_; clear hf; intro a hf
              refine sY hf hs rfl rfl rfl (Y_load_rd rfl rfl (fun w hs => hv467.at hs) (at1 hv471) ag36) ?_; clear hf; intro a hf
              refine sY hf hs rfl rfl rfl (Y_move rfl rfl) ?_; clear hf; intro a hf
              obtain ⟨q473, hi474, hj463⟩ := bind_some hj463
              obtain ⟨hi474a, hi474b, hi474q⟩ := idx_some hi474
              refine sY hf hs rfl rfl rfl (Y_index rfl rfl rfl el36 ti2 (Rd.isAt (hR472.at hs) (at1 (ints_at hi474q))) hi474a hi474b) ?_; clear hf; intro a hf
              refine sY hf hs rfl rfl rfl (Y_load_rd rfl rfl (fun w hs => hR472.at hs) (at1 (ints_at hi474q)) ag2) ?_; clear hf; intro a hf
              refine sY hf hs rfl rfl rfl (Y_assign rfl rfl) ?_; clear hf; intro a hf
              refine wpO_nil ?_
              refine wpL_seq ?_
              refine wpL_seq ?_
              obtain ⟨r479, hj480, hj463⟩ := bind_some hj463
              refine wpL_cut (fun a w => ∃ b478 : Bool, b478 = r479 ∧ Fr a 127 [(0, .pointer (some ⟨b_p0, 0, none⟩)), (1, .int .i64 p1), (6, .int .i64 q3), (8, .int .i64 x273), (9, .int .i64 q473), (85, .bool b478)] ∧ St (muL [.blk b_p0 146 [.slice A_p0_matrix p0_matrix.length c_p0_matrix, .func (.func f_p0_wanted) #[] k_p0_wanted.toArray, .slice A_p0_path p0_path.length c_p0_path, .slice A_p0_used p0_used.length c_p0_used], .row A_p0_path p0_path.length c_p0_path 2 1 (ints p0_path), .row A_p0_used p0_used.length c_p0_used 4 1 (bools p0_used)]) W w [.blk b_p0 146 [.slice A_p0_matrix p0_matrix.length c_p0_matrix, .func (.func f_p0_wanted) #[] k_p0_wanted.toArray, .slice A264 n265 c266, .slice A269 n270 c271], .row A264 n265 c266 2 1 (ints xs263), .row A269 n270 c271 4 1 (bools xs268)]) ?_ ?_
              · refine wpL_region ?_
                refine sY hf hs rfl rfl rfl (Y_move rfl rfl) ?_; clear hf; intro a hf
                refine sY hf hs rfl rfl rfl (Y_eql rfl rfl rfl) ?_; clear hf; intro a hf
                refine sY hf hs rfl rfl rfl (Y_move rfl rfl) ?_; clear hf; intro a hf
                refine bsplit (q473 == (-1000000000000000)) (fun hb481 => ?_) (fun hb481 => ?_)
                · have hj480 := bif_t hj480 hb481
                  refine sNo hf rfl rfl rfl (congrArg (fun b => some (Value.bool b)) hb481) rfl rfl rfl ?_; clear hf; intro a hf
                  refine sNo hf rfl rfl rfl (congrArg (fun b => some (Value.bool b)) hb481) rfl rfl rfl ?_; clear hf; intro a hf
                  refine sNo hf rfl rfl rfl (congrArg (fun b => some (Value.bool b)) hb481) rfl rfl rfl ?_; clear hf; intro a hf
                  refine sNo hf rfl rfl rfl (congrArg (fun b => some (Value.bool b)) hb481) rfl rfl rfl ?_; clear hf; intro a hf
                  refine sNo hf rfl rfl rfl (congrArg (fun b => some (Value.bool b)) hb481) rfl rfl rfl ?_; clear hf; intro a hf
                  refine sNo hf rfl rfl rfl (congrArg (fun b => some (Value.bool b)) hb481) rfl rfl rfl ?_; clear hf; intro a hf
                  refine sNo hf rfl rfl rfl (congrArg (fun b => some (Value.bool b)) hb481) rfl rfl rfl ?_; clear hf; intro a hf
                  refine sY hf hs rfl rfl rfl (Y_pickT rfl (congrArg (fun b => some (Value.bool b)) hb481) rfl) ?_; clear hf; intro a hf
                  refine wpO_nil ?_
                  refine wpL_nil (then_normal ?_)
                  exact ⟨true, Option.some.inj hj480, (Fr.pick (Fr.pick (Fr.pick (Fr.pick (Fr.pick (Fr.pick hf.none hf rfl) hf rfl) hf rfl) hf rfl) hf rfl) hf rfl), hs⟩
                · have hj480 := bif_f hj480 hb481
                  refine sYg hf hs rfl rfl rfl (congrArg (fun b => some (Value.bool b)) hb481) rfl rfl rfl (Y_move rfl rfl) ?_; clear hf; intro a hf
                  refine sYg hf hs rfl rfl rfl (congrArg (fun b => some (Value.bool b)) hb481) rfl rfl rfl (Y_nilCheck rfl rfl) ?_; clear hf; intro a hf
                  refine sYg hf hs rfl rfl rfl (congrArg (fun b => some (Value.bool b)) hb481) rfl rfl rfl (Y_fieldAddr rfl rfl fo146_3) ?_; clear hf; intro a hf
                  refine sYg hf hs rfl rfl rfl (congrArg (fun b => some (Value.bool b)) hb481) rfl rfl rfl (Y_load_blk rfl rfl (i := 0) rfl rfl ag144) ?_; clear hf; intro a hf
                  refine sYg hf hs rfl rfl rfl (congrArg (fun b => some (Value.bool b)) hb481) rfl rfl rfl (Y_move rfl rfl) ?_; clear hf; intro a hf
                  obtain ⟨q482, hi483, hj480⟩ := bind_some hj480
                  obtain ⟨hi483a, hi483b, hi483q⟩ := idx_some hi483
                  refine sYg hf hs rfl rfl rfl (congrArg (fun b => some (Value.bool b)) hb481) rfl rfl rfl (Y_index rfl rfl rfl el144 ti4 (Rd.isAt (hs.rd (i := 2) rfl) (at1 (bools_at hi483q))) hi483a (ltn hn272 hi483b)) ?_; clear hf; intro a hf
                  refine sYg hf hs rfl rfl rfl (congrArg (fun b => some (Value.bool b)) hb481) rfl rfl rfl (Y_load_rd rfl rfl (fun w hs => hs.rd (i := 2) rfl) (at1 (bools_at hi483q)) ag4) ?_; clear hf; intro a hf
                  refine sY hf hs rfl rfl rfl (Y_pickF rfl (congrArg (fun b => some (Value.bool b)) hb481) rfl) ?_; clear hf; intro a hf
                  refine wpO_nil ?_
                  refine wpL_nil (then_normal ?_)
                  exact ⟨q482, Option.some.inj hj480, (Fr.pick (Fr.pick (Fr.pick (Fr.pick (Fr.pick (Fr.pick hf.none hf rfl) hf rfl) hf rfl) hf rfl) hf rfl) hf rfl), hs⟩
              · rintro a w ⟨b478, hr_, hf, hs⟩
                subst hr_
                try dsimp only at hj463
                refine wpL_cond hf rfl (fun hb484 => ?_) (fun hb484 => ?_)
                · have hj463 := bif_t hj463 hb484
                  refine wpL_exit (Qb_exit ?_)
                  exact ⟨xs263, xs268, A264, n265, c266, A269, n270, c271, Option.some.inj hj463, hn267, hn272, (Fr.pick (Fr.pick (Fr.pick (Fr.pick hf.none hf rfl) hf rfl) hf rfl) hf rfl), hs⟩
                · have hj463 := bif_f hj463 hb484
                  refine wpL_skip ?_
                  refine wpL_seq ?_
                  refine wpL_region ?_
                  refine sY hf hs rfl rfl rfl (Y_move rfl rfl) ?_; clear hf; intro a hf
                  refine sY hf hs rfl rfl rfl (Y_nilCheck rfl rfl) ?_; clear hf; intro a hf
                  refine sY hf hs rfl rfl rfl (Y_fieldAddr rfl rfl fo146_3) ?_; clear hf; intro a hf
                  refine sY hf hs rfl rfl rfl (Y_load_blk rfl rfl (i := 0) rfl rfl ag144) ?_; clear hf; intro a hf
                  refine sY hf hs rfl rfl rfl (Y_move rfl rfl) ?_; clear hf; intro a hf
                  obtain ⟨q485, hi486, hj463⟩ := bind_some hj463
                  obtain ⟨hi486a, hi486b, hi486q⟩ := idx_some hi486
                  refine sY hf hs rfl rfl rfl (Y_index rfl rfl rfl el144 ti4 (Rd.isAt (hs.rd (i := 2) rfl) (at1 (bools_at hi486q))) hi486a (ltn hn272 hi486b)) ?_; clear hf; intro a hf
                  obtain ⟨xs487, hu488, hj463⟩ := bind_some hj463
                  refine sStoreL (i := 2) (us := [.bool true]) (enc := bools) hf hs rfl rfl rfl rfl rfl rfl hn272 hu488 ti4 rfl rfl rfl rfl rfl bools_len1 (bools_set true) ?_; clear hs; intro w hs
                  have hs : St (muL [.blk b_p0 146 [.slice A_p0_matrix p0_matrix.length c_p0_matrix, .func (.func f_p0_wanted) #[] k_p0_wanted.toArray, .slice A_p0_path p0_path.length c_p0_path, .slice A_p0_used p0_used.length c_p0_used], .row A_p0_path p0_path.length c_p0_path 2 1 (ints p0_path), .row A_p0_used p0_used.length c_p0_used 4 1 (bools p0_used)]) W w [.blk b_p0 146 [.slice A_p0_matrix p0_matrix.length c_p0_matrix, .func (.func f_p0_wanted) #[] k_p0_wanted.toArray, .slice A264 n265 c266, .slice A269 n270 c271], .row A264 n265 c266 2 1 (ints xs263), .row A269 n270 c271 4 1 (bools xs487)] := hs
                  refine wpO_nil ?_
                  refine wpL_seq ?_
                  refine wpL_region ?_
                  refine sY hf hs rfl rfl rfl (Y_move rfl rfl) ?_; clear hf; intro a hf
                  refine sY hf hs rfl rfl rfl (Y_move rfl rfl) ?_; clear hf; intro a hf
                  refine sY hf hs rfl rfl rfl (Y_nilCheck rfl rfl) ?_; clear hf; intro a hf
                  refine sY hf hs rfl rfl rfl (Y_fieldAddr rfl rfl fo146_2) ?_; clear hf; intro a hf
                  refine sY hf hs rfl rfl rfl (Y_load_blk rfl rfl (i := 0) rfl rfl ag36) ?_; clear hf; intro a hf
                  refine sY hf hs rfl rfl rfl (Y_move rfl rfl) ?_; clear hf; intro a hf
                  refine sBuildSlice (parts := [(0, .tmp 97)]) (vs := [.int .i64 x273]) (cells := [.int .i64 x273]) hf hs rfl rfl rfl rfl rfl el36 ti2 rfl rfl rfl rfl ?_; clear hf hs; intro a w A489 hs hA490 hf
                  have hs : St (muL [.blk b_p0 146 [.slice A_p0_matrix p0_matrix.length c_p0_matrix, .func (.func f_p0_wanted) #[] k_p0_wanted.toArray, .slice A_p0_path p0_path.length c_p0_path, .slice A_p0_used p0_used.length c_p0_used], .row A_p0_path p0_path.length c_p0_path 2 1 (ints p0_path), .row A_p0_used p0_used.length c_p0_used 4 1 (bools p0_used)]) W w [.blk b_p0 146 [.slice A_p0_matrix p0_matrix.length c_p0_matrix, .func (.func f_p0_wanted) #[] k_p0_wanted.toArray, .slice A264 n265 c266, .slice A269 n270 c271], .row A264 n265 c266 2 1 (ints xs263), .row A269 n270 c271 4 1 (bools xs487), .row A489 1 1 2 1 (ints ([x273]))] := hs
                  obtain ⟨xs493, ha494, hj463⟩ := bind_some hj463
                  refine sAppendL (i := 1) (xs := xs263) (ys := [x273]) (enc := ints) hf hs rfl rfl rfl rfl rfl rfl hn267 rfl rfl ha494 el36 ti2 rfl rfl rfl (hs.rd (i := 3) rfl) (Nat.succ_pos _) ints_len1 ints_append ints_one ?_; clear hf hs; intro a w A491 c492 hs hf
                  have hs : St (muL [.blk b_p0 146 [.slice A_p0_matrix p0_matrix.length c_p0_matrix, .func (.func f_p0_wanted) #[] k_p0_wanted.toArray, .slice A_p0_path p0_path.length c_p0_path, .slice A_p0_used p0_used.length c_p0_used], .row A_p0_path p0_path.length c_p0_path 2 1 (ints p0_path), .row A_p0_used p0_used.length c_p0_used 4 1 (bools p0_used)]) W w [.blk b_p0 146 [.slice A_p0_matrix p0_matrix.length c_p0_matrix, .func (.func f_p0_wanted) #[] k_p0_wanted.toArray, .slice A264 n265 c266, .slice A269 n270 c271], .row A491 xs493.length c492 2 1 (ints xs493), .row A269 n270 c271 4 1 (bools xs487), .row A489 1 1 2 1 (ints ([x273]))] := hs
                  refine sY hf hs rfl rfl rfl (Y_nilCheck rfl rfl) ?_; clear hf; intro a hf
                  refine sY hf hs rfl rfl rfl (Y_fieldAddr rfl rfl fo146_2) ?_; clear hf; intro a hf
                  refine sStore (i := 0) (us := [.slice A491 xs493.length c492]) hf hs rfl rfl rfl rfl rfl rfl ti36 rfl rfl rfl (Nat.le_of_ble_eq_true rfl) rfl ?_; clear hs; intro w hs
                  have hs : St (muL [.blk b_p0 146 [.slice A_p0_matrix p0_matrix.length c_p0_matrix, .func (.func f_p0_wanted) #[] k_p0_wanted.toArray, .slice A_p0_path p0_path.length c_p0_path, .slice A_p0_used p0_used.length c_p0_used], .row A_p0_path p0_path.length c_p0_path 2 1 (ints p0_path), .row A_p0_used p0_used.length c_p0_used 4 1 (bools p0_used)]) W w [.blk b_p0 146 [.slice A_p0_matrix p0_matrix.length c_p0_matrix, .func (.func f_p0_wanted) #[] k_p0_wanted.toArray, .slice A491 xs493.length c492, .slice A269 n270 c271], .row A491 xs493.length c492 2 1 (ints xs493), .row A269 n270 c271 4 1 (bools xs487), .row A489 1 1 2 1 (ints ([x273]))] := hs
                  refine wpO_nil ?_
                  refine wpL_seq ?_
                  refine wpL_seq ?_
                  refine wpL_region ?_
                  refine sY hf hs rfl rfl rfl (Y_move rfl rfl) ?_; clear hf; intro a hf
                  refine sY hf hs rfl rfl rfl (Y_move rfl rfl) ?_; clear hf; intro a hf
                  refine sY hf hs rfl rfl rfl (Y_move rfl rfl) ?_; clear hf; intro a hf
                  refine sY hf hs rfl rfl rfl (Y_add rfl rfl rfl) ?_; clear hf; intro a hf
                  obtain ⟨r495, hc496, hj463⟩ := bind_some hj463
                  refine sCall hf rfl rfl rfl rfl (cap := []) rfl rfl en136 (ih_ b_p0 p0_matrix A_p0_matrix p0_matrix.length c_p0_matrix rfl m_p0_wanted f_p0_wanted k_p0_wanted xs493 A491 xs493.length c492 rfl xs487 A269 n270 c271 ((hn272).trans (upd_len hu488).symm) (IntKind.i64.wrap (p1 + q473)) _ _ hc496 (h_p0_matrix.pass hs [0, 1, 2]) (fun x0 A0_0 n0_0 c0_0 h0_0 x1 r w' hm_ hb r0_0 => h_p0_wanted x0 A0_0 n0_0 c0_0 h0_0 x1 r w' hm_ (hs.bmPass [0, 1, 2] hb) r0_0) e_p0_wanted (hs.sel [0, 1, 2] (by decide)).rebase) ?_; clear hf
                  rintro _ w ⟨A497, n498, c499, A501, n502, c503, rfl, hn500, hn504, hs1⟩ a hf
                  have hs : St (muL [.blk b_p0 146 [.slice A_p0_matrix p0_matrix.length c_p0_matrix, .func (.func f_p0_wanted) #[] k_p0_wanted.toArray, .slice A_p0_path p0_path.length c_p0_path, .slice A_p0_used p0_used.length c_p0_used], .row A_p0_path p0_path.length c_p0_path 2 1 (ints p0_path), .row A_p0_used p0_used.length c_p0_used 4 1 (bools p0_used)]) W w [.row A489 1 1 2 1 (ints ([x273])), .blk b_p0 146 [.slice A_p0_matrix p0_matrix.length c_p0_matrix, .func (.func f_p0_wanted) #[] k_p0_wanted.toArray, .slice A497 n498 c499, .slice A501 n502 c503], .row A497 n498 c499 2 1 (ints r495.2.1), .row A501 n502 c503 4 1 (bools r495.2.2)] := St.mutTail (La := [.row A489 1 1 2 1 (ints ([x273]))]) (Lb := [.blk b_p0 146 [.slice A_p0_matrix p0_matrix.length c_p0_matrix, .func (.func f_p0_wanted) #[] k_p0_wanted.toArray, .slice A491 xs493.length c492, .slice A269 n270 c271], .row A491 xs493.length c492 2 1 (ints xs493), .row A269 n270 c271 4 1 (bools xs487)]) (hs.sel [3, 0, 1, 2] (by decide)) hs1
                  clear hs1
                  refine wpO_nil ?_
                  refine wpL_cond hf rfl (fun hb505 => ?_) (fun hb505 => ?_)
                  · have hj463 := bif_t hj463 hb505
                    refine wpL_seq ?_
                    refine wpL_region ?_
                    refine sY hf hs rfl rfl rfl (Y_assign rfl rfl) ?_; clear hf; intro a hf
                    refine wpO_nil ?_
                    obtain rfl := Option.some.inj hj463
                    try dsimp only at hm399
                    obtain rfl := Option.some.inj hm399
                    try dsimp only at hm
                    obtain rfl := Option.some.inj hm
                    refine wpL_ret (Qb_ret (Ql_ret (Qb_ret (ret_tmp rfl hf rfl ?_))))
                    exact ⟨_, rfl, A497, n498, c499, A501, n502, c503, rfl, hn500, hn504, hs.sel [1, 2, 3] (by decide)⟩
                  · have hj463 := bif_f hj463 hb505
                    refine wpL_skip ?_
                    refine wpL_seq ?_
                    refine wpL_drawG [.row A489 1 1 2 1 (ints ([x273])), .blk b_p0 146 [.slice A_p0_matrix p0_matrix.length c_p0_matrix, .func (.func f_p0_wanted) #[] k_p0_wanted.toArray, .slice A497 n498 c499, .slice A501 n502 c503], .row A497 n498 c499 2 1 (ints r495.2.1), .row A501 n502 c503 4 1 (bools r495.2.2)] 14 (by kernel_rfl) hs ?_; clear hs; intro w hs
                    have hs0 : St (muL [.blk b_p0 146 [.slice A_p0_matrix p0_matrix.length c_p0_matrix, .func (.func f_p0_wanted) #[] k_p0_wanted.toArray, .slice A_p0_path p0_path.length c_p0_path, .slice A_p0_used p0_used.length c_p0_used], .row A_p0_path p0_path.length c_p0_path 2 1 (ints p0_path), .row A_p0_used p0_used.length c_p0_used 4 1 (bools p0_used)]) W w [.row A489 1 1 2 1 (ints ([x273])), .blk b_p0 146 [.slice A_p0_matrix p0_matrix.length c_p0_matrix, .func (.func f_p0_wanted) #[] k_p0_wanted.toArray, .slice A497 n498 c499, .slice A501 n502 c503], .row A497 n498 c499 2 1 (ints r495.2.1), .row A501 n502 c503 4 1 (bools r495.2.2)] := hs
                    refine gY (i := 0) [] rfl (by kernel_rfl) (by kernel_rfl) hf hs0 rfl rfl rfl (Y_move rfl rfl) ?_; clear hf; intro a hf
                    refine gY (i := 1) [] rfl (by kernel_rfl) (by kernel_rfl) hf hs0 rfl rfl rfl (Y_move rfl rfl) ?_; clear hf; intro a hf
                    refine gY (i := 2) [] rfl (by kernel_rfl) (by kernel_rfl) hf hs0 rfl rfl rfl (Y_nilCheck rfl rfl) ?_; clear hf; intro a hf
                    refine gY (i := 3) [] rfl (by kernel_rfl) (by kernel_rfl) hf hs0 rfl rfl rfl (Y_fieldAddr rfl rfl fo146_2) ?_; clear hf; intro a hf
                    refine gY (i := 4) [] rfl (by kernel_rfl) (by kernel_rfl) hf hs0 rfl rfl rfl (Y_load_blk rfl rfl (i := 1) rfl rfl ag36) ?_; clear hf; intro a hf
                    refine gY (i := 5) [] rfl (by kernel_rfl) (by kernel_rfl) hf hs0 rfl rfl rfl (Y_move rfl rfl) ?_; clear hf; intro a hf
                    refine gY (i := 6) [] rfl (by kernel_rfl) (by kernel_rfl) hf hs0 rfl rfl rfl (Y_nilCheck rfl rfl) ?_; clear hf; intro a hf
                    refine gY (i := 7) [] rfl (by kernel_rfl) (by kernel_rfl) hf hs0 rfl rfl rfl (Y_fieldAddr rfl rfl fo146_2) ?_; clear hf; intro a hf
                    refine gY (i := 8) [] rfl (by kernel_rfl) (by kernel_rfl) hf hs0 rfl rfl rfl (Y_load_blk rfl rfl (i := 1) rfl rfl ag36) ?_; clear hf; intro a hf
                    refine gY (i := 9) [] rfl (by kernel_rfl) (by kernel_rfl) hf hs0 rfl rfl rfl (Y_lenH rfl rfl el36 hn500) ?_; clear hf; intro a hf
                    refine gY (i := 10) [] rfl (by kernel_rfl) (by kernel_rfl) hf hs0 rfl rfl rfl (Y_sub rfl rfl rfl) ?_; clear hf; intro a hf
                    obtain ⟨xs509, hk508, hj463⟩ := bind_some hj463
                    refine gY (i := 11) [] rfl (by kernel_rfl) (by kernel_rfl) hf hs0 rfl rfl rfl (Y_sliceH rfl rfl rfl (cutTo_some hk508).1 (leC hn500 (hs0.capR (i := 2) rfl) hk508) el36 ti2) ?_; clear hf; intro a hf
                    refine gY (i := 12) [13] rfl (by kernel_rfl) (by kernel_rfl) hf hs0 rfl rfl rfl (Y_nilCheck rfl rfl) ?_; clear hf; intro a hf
                    refine gY (i := 13) [] rfl (by kernel_rfl) (by kernel_rfl) hf hs0 rfl rfl rfl (Y_fieldAddr rfl rfl fo146_2) ?_; clear hf; intro a hf
                    refine gRun (i := 14) rfl (by kernel_rfl) ?_
                    have hs := hs.cutInts (i := 2) rfl hn500 hk508
                    have hs : St (muL [.blk b_p0 146 [.slice A_p0_matrix p0_matrix.length c_p0_matrix, .func (.func f_p0_wanted) #[] k_p0_wanted.toArray, .slice A_p0_path p0_path.length c_p0_path, .slice A_p0_used p0_used.length c_p0_used], .row A_p0_path p0_path.length c_p0_path 2 1 (ints p0_path), .row A_p0_used p0_used.length c_p0_used 4 1 (bools p0_used)]) W _ [.row A489 1 1 2 1 (ints ([x273])), .blk b_p0 146 [.slice A_p0_matrix p0_matrix.length c_p0_matrix, .func (.func f_p0_wanted) #[] k_p0_wanted.toArray, .slice A497 n498 c499, .slice A501 n502 c503], .row A497 ((IntKind.i64.wrap ((r495.2.1.length : Int) - 1)) : Int).toNat c499 2 1 (ints xs509), .row A501 n502 c503 4 1 (bools r495.2.2)] := hs
                    refine sStore (i := 1) (us := [.slice A497 (((IntKind.i64.wrap ((r495.2.1.length : Int) - 1)) : Int).toNat) c499]) hf hs rfl rfl rfl rfl rfl rfl ti36 rfl rfl rfl (Nat.le_of_ble_eq_true rfl) rfl ?_; clear hs; intro w hs
                    have hs : St (muL [.blk b_p0 146 [.slice A_p0_matrix p0_matrix.length c_p0_matrix, .func (.func f_p0_wanted) #[] k_p0_wanted.toArray, .slice A_p0_path p0_path.length c_p0_path, .slice A_p0_used p0_used.length c_p0_used], .row A_p0_path p0_path.length c_p0_path 2 1 (ints p0_path), .row A_p0_used p0_used.length c_p0_used 4 1 (bools p0_used)]) W w [.row A489 1 1 2 1 (ints ([x273])), .blk b_p0 146 [.slice A_p0_matrix p0_matrix.length c_p0_matrix, .func (.func f_p0_wanted) #[] k_p0_wanted.toArray, .slice A497 (((IntKind.i64.wrap ((r495.2.1.length : Int) - 1)) : Int).toNat) c499, .slice A501 n502 c503], .row A497 ((IntKind.i64.wrap ((r495.2.1.length : Int) - 1)) : Int).toNat c499 2 1 (ints xs509), .row A501 n502 c503 4 1 (bools r495.2.2)] := hs
                    refine wpO_nil ⟨Or.inl rfl, ?_⟩
                    refine gDone (by kernel_rfl) ?_
                    clear hs0
                    refine wpL_region ?_
                    refine sY hf hs rfl rfl rfl (Y_move rfl rfl) ?_; clear hf; intro a hf
                    refine sY hf hs rfl rfl rfl (Y_nilCheck rfl rfl) ?_; clear hf; intro a hf
                    refine sY hf hs rfl rfl rfl (Y_fieldAddr rfl rfl fo146_3) ?_; clear hf; intro a hf
                    refine sY hf hs rfl rfl rfl (Y_load_blk rfl rfl (i := 1) rfl rfl ag144) ?_; clear hf; intro a hf
                    refine sY hf hs rfl rfl rfl (Y_move rfl rfl) ?_; clear hf; intro a hf
                    obtain ⟨q510, hi511, hj463⟩ := bind_some hj463
                    obtain ⟨hi511a, hi511b, hi511q⟩ := idx_some hi511
                    refine sY hf hs rfl rfl rfl (Y_index rfl rfl rfl el144 ti4 (Rd.isAt (hs.rd (i := 3) rfl) (at1 (bools_at hi511q))) hi511a (ltn hn504 hi511b)) ?_; clear hf; intro a hf
                    obtain ⟨xs512, hu513, hj463⟩ := bind_some hj463
                    refine sStoreL (i := 3) (us := [.bool false]) (enc := bools) hf hs rfl rfl rfl rfl rfl rfl hn504 hu513 ti4 rfl rfl rfl rfl rfl bools_len1 (bools_set false) ?_; clear hs; intro w hs
                    have hs : St (muL [.blk b_p0 146 [.slice A_p0_matrix p0_matrix.length c_p0_matrix, .func (.func f_p0_wanted) #[] k_p0_wanted.toArray, .slice A_p0_path p0_path.length c_p0_path, .slice A_p0_used p0_used.length c_p0_used], .row A_p0_path p0_path.length c_p0_path 2 1 (ints p0_path), .row A_p0_used p0_used.length c_p0_used 4 1 (bools p0_used)]) W w [.row A489 1 1 2 1 (ints ([x273])), .blk b_p0 146 [.slice A_p0_matrix p0_matrix.length c_p0_matrix, .func (.func f_p0_wanted) #[] k_p0_wanted.toArray, .slice A497 (((IntKind.i64.wrap ((r495.2.1.length : Int) - 1)) : Int).toNat) c499, .slice A501 n502 c503], .row A497 ((IntKind.i64.wrap ((r495.2.1.length : Int) - 1)) : Int).toNat c499 2 1 (ints xs509), .row A501 n502 c503 4 1 (bools xs512)] := hs
                    refine wpO_nil ?_
                    refine wpL_nil (Qb_normal ?_)
                    exact ⟨xs509, xs512, A497, ((IntKind.i64.wrap ((r495.2.1.length : Int) - 1)) : Int).toNat, c499, A501, n502, c503, Option.some.inj hj463, (pre_len hk508), ((hn504).trans (upd_len hu513).symm), (Fr.pick (Fr.pick (Fr.pick (Fr.pick hf.none hf rfl) hf rfl) hf rfl) hf rfl), hs.sel [1, 2, 3] (by decide)⟩
            · rintro a w ⟨xs452, xs457, A453, n454, c455, A458, n459, c460, hr_, hn456, hn461, hf, hs⟩
              subst hr_
              try dsimp only at hm399
              refine wpL_region ?_
              refine sY hf hs rfl rfl rfl (Y_move rfl rfl) ?_; clear hf; intro a hf
              refine sY hf hs rfl rfl rfl (Y_add rfl rfl rfl) ?_; clear hf; intro a hf
              refine sY hf hs rfl rfl rfl (Y_assign rfl rfl) ?_; clear hf; intro a hf
              refine wpO_nil ?_
              refine wpL_nil (Ql_normal ?_)
              exact ⟨xs452, xs457, (IntKind.i64.wrap (x273 + 1)), A453, n454, c455, A458, n459, c460, hm399, hn456, hn461, (Fr.pick (Fr.pick (Fr.pick (Fr.pick hf.none hf rfl) hf rfl) hf rfl) hf rfl), hs⟩
          · have hm399 := bif_f hm399 hb401
            refine wpL_exit (Ql_exit (Qb_exit ?_))
            exact ⟨xs263, xs268, A264, n265, c266, A269, n270, c271, Option.some.inj hm399, hn267, hn272, hf.none, hs⟩
      · rintro a w ⟨xs387, xs392, A388, n389, c390, A393, n394, c395, hr_, hn391, hn396, hf, hs⟩
        subst hr_
        try dsimp only at hm
        refine wpL_seq ?_
        refine wpL_region ?_
        refine sY hf hs rfl rfl rfl (Y_assign rfl rfl) ?_; clear hf; intro a hf
        refine wpO_nil ?_
        obtain rfl := Option.some.inj hm
        refine wpL_ret (ret_tmp rfl hf rfl ?_)
        exact ⟨_, rfl, A388, n389, c390, A393, n394, c395, rfl, hn391, hn396, hs⟩
theorem impl_cycleSearch_goOn_rec_ok (F : Nat) : ∀ (k_ : Nat) (b_p0 : Nat) (p0_matrix : List (List Int)) (A_p0_matrix : Option Addr) (n_p0_matrix c_p0_matrix : Nat) (_hn_p0_matrix : n_p0_matrix = p0_matrix.length) (m_p0_wanted : (List Int) → Int → Option Bool) (f_p0_wanted : FuncId) (k_p0_wanted : List Value) (p0_path : List Int) (A_p0_path : Option Addr) (n_p0_path c_p0_path : Nat) (_hn_p0_path : n_p0_path = p0_path.length) (p0_used : List Bool) (A_p0_used : Option Addr) (n_p0_used c_p0_used : Nat) (_hn_p0_used : n_p0_used = p0_used.length) (p1 : Int) (r : (Bool) × (List Int) × (List Bool)) (W : World) (_hm : impl_cycleSearch_goOn_rec F k_ p0_matrix m_p0_wanted p0_path p0_used p1 = some r) (_h_p0_matrix : KM (muL [.blk b_p0 146 [.slice A_p0_matrix n_p0_matrix c_p0_matrix, .func (.func f_p0_wanted) #[] k_p0_wanted.toArray, .slice A_p0_path n_p0_path c_p0_path, .slice A_p0_used n_p0_used c_p0_used], .row A_p0_path n_p0_path c_p0_path 2 1 (ints p0_path), .row A_p0_used n_p0_used c_p0_used 4 1 (bools p0_used)]) W A_p0_matrix p0_matrix) (_h_p0_wanted : ∀ (x0 : List Int) (Ax0_1 : Option Addr) (nx0_1 cx0_1 : Nat) (_hnx0_1 : nx0_1 = x0.length) (x1 : Int) (r : Bool) (w : World), m_p0_wanted x0 x1 = some r → BM (muL [.blk b_p0 146 [.slice A_p0_matrix n_p0_matrix c_p0_matrix, .func (.func f_p0_wanted) #[] k_p0_wanted.toArray, .slice A_p0_path n_p0_path c_p0_path, .slice A_p0_used n_p0_used c_p0_used], .row A_p0_path n_p0_path c_p0_path 2 1 (ints p0_path), .row A_p0_used n_p0_used c_p0_used 4 1 (bools p0_used)]) W w → Rd w Ax0_1 (ints x0) → Calls Try.prog f_p0_wanted (([.slice Ax0_1 nx0_1 cx0_1, .int .i64 x1] : List Value) ++ k_p0_wanted).toArray w fun e w' => ∃ v, e = .returned v ∧ v = .bool r ∧ St [] w w' []) (_e_p0_wanted : En Try.prog f_p0_wanted) (_hst : St (muL [.blk b_p0 146 [.slice A_p0_matrix n_p0_matrix c_p0_matrix, .func (.func f_p0_wanted) #[] k_p0_wanted.toArray, .slice A_p0_path n_p0_path c_p0_path, .slice A_p0_used n_p0_used c_p0_used], .row A_p0_path n_p0_path c_p0_path 2 1 (ints p0_path), .row A_p0_used n_p0_used c_p0_used 4 1 (bools p0_used)]) W W [.blk b_p0 146 [.slice A_p0_matrix n_p0_matrix c_p0_matrix, .func (.func f_p0_wanted) #[] k_p0_wanted.toArray, .slice A_p0_path n_p0_path c_p0_path, .slice A_p0_used n_p0_used c_p0_used], .row A_p0_path n_p0_path c_p0_path 2 1 (ints p0_path), .row A_p0_used n_p0_used c_p0_used 4 1 (bools p0_used)]), Calls Try.prog 136 [.pointer (some ⟨b_p0, 0, none⟩), .int .i64 p1].toArray W fun e w' => ∃ v, e = .returned v ∧ ∃ A2_, ∃ n2_, ∃ c2_, ∃ A3_, ∃ n3_, ∃ c3_, v = .bool r.1 ∧ n2_ = r.2.1.length ∧ n3_ = r.2.2.length ∧ St (muL [.blk b_p0 146 [.slice A_p0_matrix n_p0_matrix c_p0_matrix, .func (.func f_p0_wanted) #[] k_p0_wanted.toArray, .slice A_p0_path n_p0_path c_p0_path, .slice A_p0_used n_p0_used c_p0_used], .row A_p0_path n_p0_path c_p0_path 2 1 (ints p0_path), .row A_p0_used n_p0_used c_p0_used 4 1 (bools p0_used)]) W w' [.blk b_p0 146 [.slice A_p0_matrix n_p0_matrix c_p0_matrix, .func (.func f_p0_wanted) #[] k_p0_wanted.toArray, .slice A2_ n2_ c2_, .slice A3_ n3_ c3_], .row A2_ n2_ c2_ 2 1 (ints r.2.1), .row A3_ n3_ c3_ 4 1 (bools r.2.2)]
  | 0 => by intros; simp [impl_cycleSearch_goOn_rec] at *
  | k_ + 1 => impl_cycleSearch_goOn_step F k_ (impl_cycleSearch_goOn_rec_ok F k_)
theorem impl_cycleSearch_goOn_ok (F : Nat) : ∀ (b_p0 : Nat) (p0_matrix : List (List Int)) (A_p0_matrix : Option Addr) (n_p0_matrix c_p0_matrix : Nat) (_hn_p0_matrix : n_p0_matrix = p0_matrix.length) (m_p0_wanted : (List Int) → Int → Option Bool) (f_p0_wanted : FuncId) (k_p0_wanted : List Value) (p0_path : List Int) (A_p0_path : Option Addr) (n_p0_path c_p0_path : Nat) (_hn_p0_path : n_p0_path = p0_path.length) (p0_used : List Bool) (A_p0_used : Option Addr) (n_p0_used c_p0_used : Nat) (_hn_p0_used : n_p0_used = p0_used.length) (p1 : Int) (r : (Bool) × (List Int) × (List Bool)) (W : World) (_hm : impl_cycleSearch_goOn F p0_matrix m_p0_wanted p0_path p0_used p1 = some r) (_h_p0_matrix : KM (muL [.blk b_p0 146 [.slice A_p0_matrix n_p0_matrix c_p0_matrix, .func (.func f_p0_wanted) #[] k_p0_wanted.toArray, .slice A_p0_path n_p0_path c_p0_path, .slice A_p0_used n_p0_used c_p0_used], .row A_p0_path n_p0_path c_p0_path 2 1 (ints p0_path), .row A_p0_used n_p0_used c_p0_used 4 1 (bools p0_used)]) W A_p0_matrix p0_matrix) (_h_p0_wanted : ∀ (x0 : List Int) (Ax0_1 : Option Addr) (nx0_1 cx0_1 : Nat) (_hnx0_1 : nx0_1 = x0.length) (x1 : Int) (r : Bool) (w : World), m_p0_wanted x0 x1 = some r → BM (muL [.blk b_p0 146 [.slice A_p0_matrix n_p0_matrix c_p0_matrix, .func (.func f_p0_wanted) #[] k_p0_wanted.toArray, .slice A_p0_path n_p0_path c_p0_path, .slice A_p0_used n_p0_used c_p0_used], .row A_p0_path n_p0_path c_p0_path 2 1 (ints p0_path), .row A_p0_used n_p0_used c_p0_used 4 1 (bools p0_used)]) W w → Rd w Ax0_1 (ints x0) → Calls Try.prog f_p0_wanted (([.slice Ax0_1 nx0_1 cx0_1, .int .i64 x1] : List Value) ++ k_p0_wanted).toArray w fun e w' => ∃ v, e = .returned v ∧ v = .bool r ∧ St [] w w' []) (_e_p0_wanted : En Try.prog f_p0_wanted) (_hst : St (muL [.blk b_p0 146 [.slice A_p0_matrix n_p0_matrix c_p0_matrix, .func (.func f_p0_wanted) #[] k_p0_wanted.toArray, .slice A_p0_path n_p0_path c_p0_path, .slice A_p0_used n_p0_used c_p0_used], .row A_p0_path n_p0_path c_p0_path 2 1 (ints p0_path), .row A_p0_used n_p0_used c_p0_used 4 1 (bools p0_used)]) W W [.blk b_p0 146 [.slice A_p0_matrix n_p0_matrix c_p0_matrix, .func (.func f_p0_wanted) #[] k_p0_wanted.toArray, .slice A_p0_path n_p0_path c_p0_path, .slice A_p0_used n_p0_used c_p0_used], .row A_p0_path n_p0_path c_p0_path 2 1 (ints p0_path), .row A_p0_used n_p0_used c_p0_used 4 1 (bools p0_used)]), Calls Try.prog 136 [.pointer (some ⟨b_p0, 0, none⟩), .int .i64 p1].toArray W fun e w' => ∃ v, e = .returned v ∧ ∃ A2_, ∃ n2_, ∃ c2_, ∃ A3_, ∃ n3_, ∃ c3_, v = .bool r.1 ∧ n2_ = r.2.1.length ∧ n3_ = r.2.2.length ∧ St (muL [.blk b_p0 146 [.slice A_p0_matrix n_p0_matrix c_p0_matrix, .func (.func f_p0_wanted) #[] k_p0_wanted.toArray, .slice A_p0_path n_p0_path c_p0_path, .slice A_p0_used n_p0_used c_p0_used], .row A_p0_path n_p0_path c_p0_path 2 1 (ints p0_path), .row A_p0_used n_p0_used c_p0_used 4 1 (bools p0_used)]) W w' [.blk b_p0 146 [.slice A_p0_matrix n_p0_matrix c_p0_matrix, .func (.func f_p0_wanted) #[] k_p0_wanted.toArray, .slice A2_ n2_ c2_, .slice A3_ n3_ c3_], .row A2_ n2_ c2_ 2 1 (ints r.2.1), .row A3_ n3_ c3_ 4 1 (bools r.2.2)] := impl_cycleSearch_goOn_rec_ok F F

set_option maxRecDepth 100000 in
theorem impl_firstCycle_ok (F : Nat) (p0_a : List (List Int)) (A_p0_a_1 : Option Addr) (n_p0_a_1 c_p0_a_1 : Nat) (hn_p0_a_1 : n_p0_a_1 = p0_a.length) (m_p1_wanted : (List Int) → Int → Option Bool) (f_p1_wanted : FuncId) (k_p1_wanted : List Value) (r : List Int) (W : World) (hm : impl_firstCycle F p0_a m_p1_wanted = some r) (h_p0_a_1 : RdM W A_p0_a_1 p0_a) (h_p1_wanted : ∀ (x0 : List Int) (Ax0_1 : Option Addr) (nx0_1 cx0_1 : Nat) (_hnx0_1 : nx0_1 = x0.length) (x1 : Int) (r : Bool) (w : World), m_p1_wanted x0 x1 = some r → Below W.heap.size W w → Rd w Ax0_1 (ints x0) → Calls Try.prog f_p1_wanted (([.slice Ax0_1 nx0_1 cx0_1, .int .i64 x1] : List Value) ++ k_p1_wanted).toArray w fun e w' => ∃ v, e = .returned v ∧ v = .bool r ∧ St [] w w' []) (e_p1_wanted : En Try.prog f_p1_wanted) :
    Calls Try.prog 84 [.slice A_p0_a_1 n_p0_a_1 c_p0_a_1, .func (.func f_p1_wanted) #[] k_p1_wanted.toArray].toArray W fun e w' => ∃ v, e = .returned v ∧ ∃ A80, ∃ n81, ∃ c82, v = .slice A80 n81 c82 ∧ n81 = r.length ∧ St [] W w' [.row A80 n81 c82 2 1 (ints r)] := by
  subst hn_p0_a_1
  unfold impl_firstCycle at hm
  refine Calls.enter (N := 24) Try.func84 rfl rfl rfl (fun a hf => ?_)
  have hs := St.start W
  obtain ⟨w, hw_⟩ : ∃ w, w = W := ⟨W, rfl⟩
  clear hw_ w
  refine wpL_seq ?_
  refine wpL_region ?_
  refine sY hf hs rfl rfl rfl (Y_assign rfl rfl) ?_; clear hf; intro a hf
  refine wpO_nil ?_
  refine wpL_seq ?_
  refine wpL_seq ?_
  refine wpL_region ?_
  refine sY hf hs rfl rfl rfl (Y_move rfl rfl) ?_; clear hf; intro a hf
  refine sY hf hs rfl rfl rfl (Y_lenH rfl rfl el34 rfl) ?_; clear hf; intro a hf
  refine sY hf hs rfl rfl rfl (Y_move rfl rfl) ?_; clear hf; intro a hf
  refine wpO_nil ?_
  obtain ⟨r57, hl58, hm⟩ := bind_some hm
  refine wpL_block (fun a w => Sum.inr () = r57 ∧ Fr a 24 [] ∧ St [] W w []) ?_ ?_
  · refine wpL_loop (fun n a w => ∃ x38 : Int, impl_firstCycle_L1 F p0_a m_p1_wanted n x38 = some r57 ∧ Fr a 24 [(0, .slice A_p0_a_1 p0_a.length c_p0_a_1), (1, .func (.func f_p1_wanted) #[] k_p1_wanted.toArray), (8, .int .i64 (p0_a.length : Int)), (9, .int .i64 x38)] ∧ St [] W w []) F ?_ ?_ ?_
    · exact ⟨0, hl58, (Fr.pick (Fr.pick (Fr.pick (Fr.pick hf.none hf rfl) hf rfl) hf rfl) hf rfl), hs⟩
    · rintro a w ⟨x38, h0_, -, -⟩; simp [impl_firstCycle_L1] at h0_
    · rintro n60 a w ⟨x38, hm59, hf, hs⟩
      rw [impl_firstCycle_L1] at hm59
      refine wpL_seq ?_
      refine wpL_region ?_
      refine sY hf hs rfl rfl rfl (Y_lss rfl rfl rfl) ?_; clear hf; intro a hf
      refine wpO_nil ?_
      refine wpL_seq ?_
      refine wpL_cond hf rfl (fun hb61 => ?_) (fun hb61 => ?_)
      · have hm59 := bif_t hm59 hb61
        refine wpL_skip ?_
        refine wpL_seq ?_
        refine wpL_block0 ?_
        refine wpL_seq ?_
        refine wpL_region ?_
        refine sY hf hs rfl rfl rfl (Y_move rfl rfl) ?_; clear hf; intro a hf
        refine sY hf hs rfl rfl rfl (Y_assign rfl rfl) ?_; clear hf; intro a hf
        refine wpO_nil ?_
        refine wpL_seq ?_
        refine wpL_region ?_
        refine sY hf hs rfl rfl rfl (Y_move rfl rfl) ?_; clear hf; intro a hf
        refine sY hf hs rfl rfl rfl (Y_move rfl rfl) ?_; clear hf; intro a hf
        refine sY hf hs rfl rfl rfl (Y_move rfl rfl) ?_; clear hf; intro a hf
        refine sBuildSlice (parts := [(0, .tmp 14)]) (vs := [.int .i64 x38]) (cells := [.int .i64 x38]) hf hs rfl rfl rfl rfl rfl el36 ti2 rfl rfl rfl rfl ?_; clear hf hs; intro a w A62 hs hA63 hf
        have hs : St [] W w [.row A62 1 1 2 1 (ints ([x38]))] := hs
        refine sY hf hs rfl rfl rfl (Y_move rfl rfl) ?_; clear hf; intro a hf
        refine sY hf hs rfl rfl rfl (Y_lenH rfl rfl el34 rfl) ?_; clear hf; intro a hf
        obtain ⟨xs66, hk65, hm59⟩ := bind_some hm59
        refine sMakeL (enc := bools) hf hs rfl rfl rfl rfl rfl hk65 el144 ti4 rfl bools_made ?_; clear hf hs; intro a w A64 hs hf
        have hs : St [] W w [.row A62 1 1 2 1 (ints ([x38])), .row A64 xs66.length xs66.length 4 1 (bools xs66)] := hs
        refine sY hf hs rfl rfl rfl (Y_build (parts := [(0, .tmp 12), (1, .tmp 13), (2, .tmp 15), (3, .tmp 18)]) (vs := [.slice A_p0_a_1 p0_a.length c_p0_a_1, .func (.func f_p1_wanted) #[] k_p1_wanted.toArray, .slice A62 1 1, .slice A64 xs66.length xs66.length]) rfl rfl (run_build (parts := [(0, .slice A_p0_a_1 p0_a.length c_p0_a_1), (1, .func (.func f_p1_wanted) #[] k_p1_wanted.toArray), (2, .slice A62 1 1), (3, .slice A64 xs66.length xs66.length)]) (cells := [.slice A_p0_a_1 p0_a.length c_p0_a_1, .func (.func f_p1_wanted) #[] k_p1_wanted.toArray, .slice A62 1 1, .slice A64 xs66.length xs66.length]) (places := #[(0, 1), (1, 1), (2, 1), (3, 1)]) ti146 Try.underlying146 (fun w => by simp [go_sem]) rfl)) ?_; clear hf; intro a hf
        refine sAlloc hf hs rfl rfl rfl rfl ti146 ?_; clear hf hs; intro a w b67 hs hf
        have hs : St [] W w [.row A62 1 1 2 1 (ints ([x38])), .row A64 xs66.length xs66.length 4 1 (bools xs66), .blk b67 146 [.slice none 0 0, .nilFunc, .slice none 0 0, .slice none 0 0]] := hs
        refine sStore (i := 2) (us := [.slice A_p0_a_1 p0_a.length c_p0_a_1, .func (.func f_p1_wanted) #[] k_p1_wanted.toArray, .slice A62 1 1, .slice A64 xs66.length xs66.length]) hf hs rfl rfl rfl rfl rfl rfl ti146 rfl rfl rfl (Nat.le_of_ble_eq_true rfl) rfl ?_; clear hs; intro w hs
        have hs : St [] W w [.row A62 1 1 2 1 (ints ([x38])), .row A64 xs66.length xs66.length 4 1 (bools xs66), .blk b67 146 [.slice A_p0_a_1 p0_a.length c_p0_a_1, .func (.func f_p1_wanted) #[] k_p1_wanted.toArray, .slice A62 1 1, .slice A64 xs66.length xs66.length]] := hs
        refine wpO_nil ?_
        refine wpL_seq ?_
        refine wpL_region ?_
        obtain ⟨r68, hc69, hm59⟩ := bind_some hm59
        refine sCall hf rfl rfl rfl rfl (cap := []) rfl rfl en136 (impl_cycleSearch_goOn_ok F b67 p0_a A_p0_a_1 p0_a.length c_p0_a_1 rfl m_p1_wanted f_p1_wanted k_p1_wanted ([x38]) A62 1 1 rfl xs66 A64 xs66.length xs66.length rfl 0 _ _ hc69 (h_p0_a_1.pass hs [2, 0, 1]) (fun x0 A0_0 n0_0 c0_0 h0_0 x1 r w' hm_ hb r0_0 => h_p1_wanted x0 A0_0 n0_0 c0_0 h0_0 x1 r w' hm_ (hs.bmPass [2, 0, 1] hb).below r0_0) e_p1_wanted (hs.sel [2, 0, 1] (by decide)).rebase) ?_; clear hf
        rintro _ w ⟨A70, n71, c72, A74, n75, c76, rfl, hn73, hn77, hs1⟩ a hf
        have hs : St [] W w [.blk b67 146 [.slice A_p0_a_1 p0_a.length c_p0_a_1, .func (.func f_p1_wanted) #[] k_p1_wanted.toArray, .slice A70 n71 c72, .slice A74 n75 c76], .row A70 n71 c72 2 1 (ints r68.2.1), .row A74 n75 c76 4 1 (bools r68.2.2)] := St.mutTail (La := []) (Lb := [.blk b67 146 [.slice A_p0_a_1 p0_a.length c_p0_a_1, .func (.func f_p1_wanted) #[] k_p1_wanted.toArray, .slice A62 1 1, .slice A64 xs66.length xs66.length], .row A62 1 1 2 1 (ints ([x38])), .row A64 xs66.length xs66.length 4 1 (bools xs66)]) (hs.sel [2, 0, 1] (by decide)) hs1
        clear hs1
        refine wpO_nil ?_
        refine wpL_cond hf rfl (fun hb78 => ?_) (fun hb78 => ?_)
        · have hm59 := bif_t hm59 hb78
          refine wpL_seq ?_
          refine wpL_region ?_
          refine sY hf hs rfl rfl rfl (Y_fieldAddr rfl rfl fo146_2) ?_; clear hf; intro a hf
          refine sY hf hs rfl rfl rfl (Y_load_blk rfl rfl (i := 0) rfl rfl ag36) ?_; clear hf; intro a hf
          refine sY hf hs rfl rfl rfl (Y_assign rfl rfl) ?_; clear hf; intro a hf
          refine wpO_nil ?_
          obtain rfl := Option.some.inj hm59
          try dsimp only at hm
          obtain rfl := Option.some.inj hm
          refine wpL_ret (Qb_ret (Ql_ret (Qb_ret (ret_tmp rfl hf rfl ?_))))
          exact ⟨_, rfl, A70, n71, c72, rfl, hn73, hs.sel [1] (by decide)⟩
        · have hm59 := bif_f hm59 hb78
          refine wpL_skip ?_
          refine wpL_nil (Qb_normal ?_)
          refine wpL_region ?_
          refine sY hf hs rfl rfl rfl (Y_add rfl rfl rfl) ?_; clear hf; intro a hf
          refine sY hf hs rfl rfl rfl (Y_move rfl rfl) ?_; clear hf; intro a hf
          refine wpO_nil ?_
          refine wpL_nil (Ql_normal ?_)
          exact ⟨(IntKind.i64.wrap (x38 + 1)), hm59, (Fr.pick (Fr.pick (Fr.pick (Fr.pick hf.none hf rfl) hf rfl) hf rfl) hf rfl), hs.sel [] (by decide)⟩
      · have hm59 := bif_f hm59 hb61
        refine wpL_exit (Ql_exit (Qb_exit ?_))
        exact ⟨Option.some.inj hm59, hf.none, hs⟩
  · rintro a w ⟨hr_, hf, hs⟩
    subst hr_
    try dsimp only at hm
    refine wpL_seq ?_
    refine wpL_region ?_
    refine sY hf hs rfl rfl rfl (Y_assign rfl rfl) ?_; clear hf; intro a hf
    refine wpO_nil ?_
    have hs : St [] W _ [.row none 0 0 2 1 (ints ([] : List Int))] := hs.addNil 2 1
    obtain rfl := Option.some.inj hm
    refine wpL_ret (ret_tmp rfl hf rfl ?_)
    exact ⟨_, rfl, none, 0, 0, rfl, rfl, hs⟩

set_option maxRecDepth 100000 in
theorem impl_PositiveCycle_c1_ok (F : Nat) (p0 : List Int) (A_p0_1 : Option Addr) (n_p0_1 c_p0_1 : Nat) (hn_p0_1 : n_p0_1 = p0.length) (p1_weight : Int) (r : Bool) (W : World) (hm : impl_PositiveCycle_c1 F p0 p1_weight = some r) (_h_p0_1 : Rd W A_p0_1 (ints p0)) :
    Calls Try.prog 85 [.slice A_p0_1 n_p0_1 c_p0_1, .int .i64 p1_weight].toArray W fun e w' => ∃ v, e = .returned v ∧ v = .bool r ∧ St [] W w' [] := by
  subst hn_p0_1
  unfold impl_PositiveCycle_c1 at hm
  refine Calls.enter (N := 7) Try.func85 rfl rfl rfl (fun a hf => ?_)
  have hs := St.start W
  obtain ⟨w, hw_⟩ : ∃ w, w = W := ⟨W, rfl⟩
  clear hw_ w
  refine wpL_seq ?_
  refine wpL_region ?_
  refine sY hf hs rfl rfl rfl (Y_assign rfl rfl) ?_; clear hf; intro a hf
  refine wpO_nil ?_
  refine wpL_seq ?_
  refine wpL_region ?_
  refine sY hf hs rfl rfl rfl (Y_move rfl rfl) ?_; clear hf; intro a hf
  refine sY hf hs rfl rfl rfl (Y_gtr rfl rfl rfl) ?_; clear hf; intro a hf
  refine sY hf hs rfl rfl rfl (Y_assign rfl rfl) ?_; clear hf; intro a hf
  refine wpO_nil ?_
  obtain rfl := Option.some.inj hm
  refine wpL_ret (ret_tmp rfl hf rfl ?_)
  exact ⟨_, rfl, rfl, hs⟩

set_option maxRecDepth 100000 in
theorem impl_PositiveCycle_ok (F : Nat) (p0_a : List (List Int)) (A_p0_a_1 : Option Addr) (n_p0_a_1 c_p0_a_1 : Nat) (hn_p0_a_1 : n_p0_a_1 = p0_a.length) (r : List Int × Int) (W : World) (hm : impl_PositiveCycle F p0_a = some r) (h_p0_a_1 : RdM W A_p0_a_1 p0_a) :
    Calls Try.prog 24 [.slice A_p0_a_1 n_p0_a_1 c_p0_a_1].toArray W fun e w' => ∃ v, e = .returned v ∧ ∃ A20, ∃ n21, ∃ c22, v = .tuple #[.slice A20 n21 c22, .int .i64 r.2] ∧ n21 = r.1.length ∧ St [] W w' [.row A20 n21 c22 2 1 (ints r.1)] := by
  subst hn_p0_a_1
  unfold impl_PositiveCycle at hm
  refine Calls.enter (N := 17) Try.func24 rfl rfl rfl (fun a hf => ?_)
  have hs := St.start W
  obtain ⟨w, hw_⟩ : ∃ w, w = W := ⟨W, rfl⟩
  clear hw_ w
  refine wpL_seq ?_
  refine wpL_region ?_
  refine sY hf hs rfl rfl rfl (Y_assign rfl rfl) ?_; clear hf; intro a hf
  refine sY hf hs rfl rfl rfl (Y_assign rfl rfl) ?_; clear hf; intro a hf
  refine wpO_nil ?_
  refine wpL_seq ?_
  refine wpL_seq ?_
  refine wpL_region ?_
  refine sY hf hs rfl rfl rfl (Y_move rfl rfl) ?_; clear hf; intro a hf
  obtain ⟨r1, hc2, hm⟩ := bind_some hm
  refine sCall hf rfl rfl rfl rfl (cap := []) rfl rfl en82 (impl_isSquare_ok F p0_a A_p0_a_1 p0_a.length c_p0_a_1 rfl _ _ hc2 (h_p0_a_1.at hs)) ?_; clear hf
  rintro _ w ⟨rfl, hs1⟩ a hf
  have hs : St [] W w [] := hs.ext hs1.below
  clear hs1
  refine sY hf hs rfl rfl rfl (Y_not rfl rfl) ?_; clear hf; intro a hf
  refine wpO_nil ?_
  refine wpL_cond hf rfl (fun hb3 => ?_) (fun hb3 => ?_)
  · have hm := bif_t hm hb3
    refine wpL_seq ?_
    refine wpL_region ?_
    refine sY hf hs rfl rfl rfl (Y_assign rfl rfl) ?_; clear hf; intro a hf
    refine sY hf hs rfl rfl rfl (Y_assign rfl rfl) ?_; clear hf; intro a hf
    refine wpO_nil ?_
    have hs : St [] W _ [.row none 0 0 2 1 (ints ([] : List Int))] := hs.addNil 2 1
    obtain rfl := Option.some.inj hm
    refine wpL_ret (ret_tmp2 rfl hf rfl rfl ?_)
    exact ⟨_, rfl, none, 0, 0, rfl, rfl, hs⟩
  · have hm := bif_f hm hb3
    refine wpL_skip ?_
    refine wpL_seq ?_
    refine wpL_seq ?_
    refine wpL_region ?_
    refine sY hf hs rfl rfl rfl (Y_move rfl rfl) ?_; clear hf; intro a hf
    obtain ⟨r5, hc6, hm⟩ := bind_some hm
    refine sCall hf rfl rfl rfl rfl (cap := []) rfl rfl en83 (impl_starOf_ok F p0_a A_p0_a_1 p0_a.length c_p0_a_1 rfl _ _ hc6 (h_p0_a_1.at hs)) ?_; clear hf
    rintro _ w ⟨A7, n8, c9, vs11, rfl, hn10, hs1⟩ a hf
    have hs : St [] W w [.mat A7 n8 c9 36 2 vs11 r5.1] := hs.join hs1
    clear hs1
    refine sY hf hs rfl rfl rfl (Y_move rfl rfl) ?_; clear hf; intro a hf
    refine sY hf hs rfl rfl rfl (Y_extract rfl rfl rfl) ?_; clear hf; intro a hf
    refine sY hf hs rfl rfl rfl (Y_extract rfl rfl rfl) ?_; clear hf; intro a hf
    refine sY hf hs rfl rfl rfl (Y_assign rfl rfl) ?_; clear hf; intro a hf
    refine sY hf hs rfl rfl rfl (Y_assign rfl rfl) ?_; clear hf; intro a hf
    refine wpO_nil ?_
    refine wpL_seq ?_
    refine wpL_region ?_
    refine sY hf hs rfl rfl rfl (Y_move rfl rfl) ?_; clear hf; intro a hf
    refine wpO_nil ?_
    refine wpL_cond hf rfl (fun hb12 => ?_) (fun hb12 => ?_)
    · have hm := bif_t hm hb12
      refine wpL_seq ?_
      refine wpL_region ?_
      refine sY hf hs rfl rfl rfl (Y_assign rfl rfl) ?_; clear hf; intro a hf
      refine sY hf hs rfl rfl rfl (Y_assign rfl rfl) ?_; clear hf; intro a hf
      refine wpO_nil ?_
      have hs : St [] W _ [.mat A7 n8 c9 36 2 vs11 r5.1, .row none 0 0 2 1 (ints ([] : List Int))] := hs.addNil 2 1
      obtain rfl := Option.some.inj hm
      refine wpL_ret (ret_tmp2 rfl hf rfl rfl ?_)
      exact ⟨_, rfl, none, 0, 0, rfl, rfl, hs.sel [1] (by decide)⟩
    · have hm := bif_f hm hb12
      refine wpL_skip ?_
      refine wpL_seq ?_
      refine wpL_region ?_
      refine sY hf hs rfl rfl rfl (Y_move rfl rfl) ?_; clear hf; intro a hf
      obtain ⟨r14, hc15, hm⟩ := bind_some hm
      refine sCall hf rfl rfl rfl rfl (cap := []) rfl rfl en84 (impl_firstCycle_ok F p0_a A_p0_a_1 p0_a.length c_p0_a_1 rfl (fun x0 x1 => impl_PositiveCycle_c1 F x0 x1) 85 [] _ _ hc15 (h_p0_a_1.at hs) (fun x0 Ax00 nx00 cx00 hx00 x1 r w' hm_ hb rx00 => impl_PositiveCycle_c1_ok F x0 Ax00 nx00 cx00 hx00 x1 r w' hm_ rx00) en85) ?_; clear hf
      rintro _ w ⟨A16, n17, c18, rfl, hn19, hs1⟩ a hf
      have hs : St [] W w [.mat A7 n8 c9 36 2 vs11 r5.1, .row A16 n17 c18 2 1 (ints r14)] := hs.join hs1
      clear hs1
      refine sY hf hs rfl rfl rfl (Y_assign rfl rfl) ?_; clear hf; intro a hf
      refine sY hf hs rfl rfl rfl (Y_assign rfl rfl) ?_; clear hf; intro a hf
      refine wpO_nil ?_
      obtain rfl := Option.some.inj hm
      refine wpL_ret (ret_tmp2 rfl hf rfl rfl ?_)
      exact ⟨_, rfl, A16, n17, c18, rfl, hn19, hs.sel [1] (by decide)⟩

set_option maxRecDepth 100000 in
theorem impl_FindTour_ok (F : Nat) (p0_windows : List GWindow) (A_p0_windows_1 : Option Addr) (n_p0_windows_1 c_p0_windows_1 : Nat) (hn_p0_windows_1 : n_p0_windows_1 = p0_windows.length) (p1_bonds : List GBond) (A_p1_bonds_1 : Option Addr) (n_p1_bonds_1 c_p1_bonds_1 : Nat) (hn_p1_bonds_1 : n_p1_bonds_1 = p1_bonds.length) (r : List Int × Int) (W : World) (hm : impl_FindTour F p0_windows p1_bonds = some r) (h_p0_windows_1 : Rd W A_p0_windows_1 ((recs GWindow.cells) p0_windows)) (h_p1_bonds_1 : Rd W A_p1_bonds_1 ((recs GBond.cells) p1_bonds)) :
    Calls Try.prog 40 [.slice A_p0_windows_1 n_p0_windows_1 c_p0_windows_1, .slice A_p1_bonds_1 n_p1_bonds_1 c_p1_bonds_1].toArray W fun e w' => ∃ v, e = .returned v ∧ ∃ A18, ∃ n19, ∃ c20, v = .tuple #[.slice A18 n19 c20, .int .i64 r.2] ∧ n19 = r.1.length ∧ St [] W w' [.row A18 n19 c20 2 1 (ints r.1)] := by
  subst hn_p0_windows_1
  subst hn_p1_bonds_1
  unfold impl_FindTour at hm
  refine Calls.enter (N := 16) Try.func40 rfl rfl rfl (fun a hf => ?_)
  have hs := St.start W
  obtain ⟨w, hw_⟩ : ∃ w, w = W := ⟨W, rfl⟩
  clear hw_ w
  refine wpL_seq ?_
  refine wpL_region ?_
  refine sY hf hs rfl rfl rfl (Y_assign rfl rfl) ?_; clear hf; intro a hf
  refine sY hf hs rfl rfl rfl (Y_assign rfl rfl) ?_; clear hf; intro a hf
  refine wpO_nil ?_
  refine wpL_seq ?_
  refine wpL_seq ?_
  refine wpL_region ?_
  refine sY hf hs rfl rfl rfl (Y_move rfl rfl) ?_; clear hf; intro a hf
  refine sY hf hs rfl rfl rfl (Y_move rfl rfl) ?_; clear hf; intro a hf
  obtain ⟨r1, hc2, hm⟩ := bind_some hm
  refine sCall hf rfl rfl rfl rfl (cap := []) rfl rfl en97 (impl_IsTask_ok F p0_windows A_p0_windows_1 p0_windows.length c_p0_windows_1 rfl p1_bonds A_p1_bonds_1 p1_bonds.length c_p1_bonds_1 rfl _ _ hc2 (h_p0_windows_1.at hs) (h_p1_bonds_1.at hs)) ?_; clear hf
  rintro _ w ⟨rfl, hs1⟩ a hf
  have hs : St [] W w [] := hs.ext hs1.below
  clear hs1
  refine sY hf hs rfl rfl rfl (Y_not rfl rfl) ?_; clear hf; intro a hf
  refine wpO_nil ?_
  refine wpL_cond hf rfl (fun hb3 => ?_) (fun hb3 => ?_)
  · have hm := bif_t hm hb3
    refine wpL_seq ?_
    refine wpL_region ?_
    refine sY hf hs rfl rfl rfl (Y_assign rfl rfl) ?_; clear hf; intro a hf
    refine sY hf hs rfl rfl rfl (Y_assign rfl rfl) ?_; clear hf; intro a hf
    refine wpO_nil ?_
    have hs : St [] W _ [.row none 0 0 2 1 (ints ([] : List Int))] := hs.addNil 2 1
    obtain rfl := Option.some.inj hm
    refine wpL_ret (ret_tmp2 rfl hf rfl rfl ?_)
    exact ⟨_, rfl, none, 0, 0, rfl, rfl, hs⟩
  · have hm := bif_f hm hb3
    refine wpL_skip ?_
    refine wpL_seq ?_
    refine wpL_region ?_
    refine sY hf hs rfl rfl rfl (Y_move rfl rfl) ?_; clear hf; intro a hf
    refine sY hf hs rfl rfl rfl (Y_move rfl rfl) ?_; clear hf; intro a hf
    obtain ⟨r5, hc6, hm⟩ := bind_some hm
    refine sCall hf rfl rfl rfl rfl (cap := []) rfl rfl en98 (impl_bondMatrix_ok F p0_windows A_p0_windows_1 p0_windows.length c_p0_windows_1 rfl p1_bonds A_p1_bonds_1 p1_bonds.length c_p1_bonds_1 rfl _ _ hc6 (h_p0_windows_1.at hs) (h_p1_bonds_1.at hs)) ?_; clear hf
    rintro _ w ⟨A7, n8, c9, vs11, rfl, hn10, hs1⟩ a hf
    have hs : St [] W w [.mat A7 n8 c9 36 2 vs11 r5] := hs.join hs1
    clear hs1
    obtain ⟨r12, hc13, hm⟩ := bind_some hm
    refine sCall hf rfl rfl rfl rfl (cap := []) rfl rfl en24 (impl_PositiveCycle_ok F r5 A7 n8 c9 hn10 _ _ hc13 (hs.rdM (i := 0) rfl)) ?_; clear hf
    rintro _ w ⟨A14, n15, c16, rfl, hn17, hs1⟩ a hf
    have hs : St [] W w [.mat A7 n8 c9 36 2 vs11 r5, .row A14 n15 c16 2 1 (ints r12.1)] := hs.join hs1
    clear hs1
    refine sY hf hs rfl rfl rfl (Y_extract rfl rfl rfl) ?_; clear hf; intro a hf
    refine sY hf hs rfl rfl rfl (Y_extract rfl rfl rfl) ?_; clear hf; intro a hf
    refine sY hf hs rfl rfl rfl (Y_assign rfl rfl) ?_; clear hf; intro a hf
    refine sY hf hs rfl rfl rfl (Y_assign rfl rfl) ?_; clear hf; intro a hf
    refine wpO_nil ?_
    obtain rfl := Option.some.inj hm
    refine wpL_ret (ret_tmp2 rfl hf rfl rfl ?_)
    exact ⟨_, rfl, A14, n15, c16, rfl, hn17, hs.sel [1] (by decide)⟩

set_option maxRecDepth 100000 in
theorem laws_eqInt64S_ok (F : Nat) (p0_a : List Int) (A_p0_a_1 : Option Addr) (n_p0_a_1 c_p0_a_1 : Nat) (hn_p0_a_1 : n_p0_a_1 = p0_a.length) (p1_b : List Int) (A_p1_b_1 : Option Addr) (n_p1_b_1 c_p1_b_1 : Nat) (hn_p1_b_1 : n_p1_b_1 = p1_b.length) (r : Bool) (W : World) (hm : laws_eqInt64S F p0_a p1_b = some r) (h_p0_a_1 : Rd W A_p0_a_1 (ints p0_a)) (h_p1_b_1 : Rd W A_p1_b_1 (ints p1_b)) :
    Calls Try.prog 25 [.slice A_p0_a_1 n_p0_a_1 c_p0_a_1, .slice A_p1_b_1 n_p1_b_1 c_p1_b_1].toArray W fun e w' => ∃ v, e = .returned v ∧ v = .bool r ∧ St [] W w' [] := by
  subst hn_p0_a_1
  subst hn_p1_b_1
  unfold laws_eqInt64S at hm
  refine Calls.enter (N := 26) Try.func25 rfl rfl rfl (fun a hf => ?_)
  have hs := St.start W
  obtain ⟨w, hw_⟩ : ∃ w, w = W := ⟨W, rfl⟩
  clear hw_ w
  refine wpL_seq ?_
  refine wpL_region ?_
  refine sY hf hs rfl rfl rfl (Y_assign rfl rfl) ?_; clear hf; intro a hf
  refine wpO_nil ?_
  refine wpL_seq ?_
  refine wpL_seq ?_
  refine wpL_region ?_
  refine sY hf hs rfl rfl rfl (Y_move rfl rfl) ?_; clear hf; intro a hf
  refine sY hf hs rfl rfl rfl (Y_lenH rfl rfl el36 rfl) ?_; clear hf; intro a hf
  refine sY hf hs rfl rfl rfl (Y_move rfl rfl) ?_; clear hf; intro a hf
  refine sY hf hs rfl rfl rfl (Y_lenH rfl rfl el36 rfl) ?_; clear hf; intro a hf
  refine sY hf hs rfl rfl rfl (Y_neq rfl rfl rfl) ?_; clear hf; intro a hf
  refine wpO_nil ?_
  refine wpL_cond hf rfl (fun hb1 => ?_) (fun hb1 => ?_)
  · have hm := bif_t hm hb1
    refine wpL_seq ?_
    refine wpL_region ?_
    refine sY hf hs rfl rfl rfl (Y_assign rfl rfl) ?_; clear hf; intro a hf
    refine wpO_nil ?_
    obtain rfl := Option.some.inj hm
    refine wpL_ret (ret_tmp rfl hf rfl ?_)
    exact ⟨_, rfl, rfl, hs⟩
  · have hm := bif_f hm hb1
    refine wpL_skip ?_
    refine wpL_seq ?_
    refine wpL_seq ?_
    refine wpL_region ?_
    refine sY hf hs rfl rfl rfl (Y_assign rfl rfl) ?_; clear hf; intro a hf
    refine wpO_nil ?_
    obtain ⟨r22, hl23, hm⟩ := bind_some hm
    refine wpL_block (fun a w => Sum.inr () = r22 ∧ Fr a 26 [] ∧ St [] W w []) ?_ ?_
    · refine wpL_loop (fun n a w => ∃ x15 : Int, laws_eqInt64S_L1 F p0_a p1_b n x15 = some r22 ∧ Fr a 26 [(0, .slice A_p0_a_1 p0_a.length c_p0_a_1), (1, .slice A_p1_b_1 p1_b.length c_p1_b_1), (5, .int .i64 x15)] ∧ St [] W w []) F ?_ ?_ ?_
      · exact ⟨0, hl23, (Fr.pick (Fr.pick (Fr.pick hf.none hf rfl) hf rfl) hf rfl), hs⟩
      · rintro a w ⟨x15, h0_, -, -⟩; simp [laws_eqInt64S_L1] at h0_
      · rintro n25 a w ⟨x15, hm24, hf, hs⟩
        rw [laws_eqInt64S_L1] at hm24
        refine wpL_seq ?_
        refine wpL_seq ?_
        refine wpL_region ?_
        refine sY hf hs rfl rfl rfl (Y_move rfl rfl) ?_; clear hf; intro a hf
        refine sY hf hs rfl rfl rfl (Y_move rfl rfl) ?_; clear hf; intro a hf
        refine sY hf hs rfl rfl rfl (Y_lenH rfl rfl el36 rfl) ?_; clear hf; intro a hf
        refine sY hf hs rfl rfl rfl (Y_lss rfl rfl rfl) ?_; clear hf; intro a hf
        refine wpO_nil ?_
        refine wpL_cond hf rfl (fun hb26 => ?_) (fun hb26 => ?_)
        · have hm24 := bif_t hm24 hb26
          refine wpL_skip ?_
          refine wpL_seq ?_
          refine wpL_block0 ?_
          refine wpL_seq ?_
          refine wpL_draw (by kernel_rfl) (by kernel_rfl) hs ?_
          refine qY hf rfl rfl rfl (Y_move rfl rfl) ?_; clear hf; intro a hf
          refine qY hf rfl rfl rfl (Y_move rfl rfl) ?_; clear hf; intro a hf
          obtain ⟨q27, hi28, hm24⟩ := bind_some hm24
          obtain ⟨hi28a, hi28b, hi28q⟩ := idx_some hi28
          refine qY hf rfl rfl rfl (Y_index rfl rfl rfl el36 ti2 (Rd.isAt (h_p0_a_1.at hs) (at1 (ints_at hi28q))) hi28a hi28b) ?_; clear hf; intro a hf
          refine qY hf rfl rfl rfl (Y_load_rd rfl rfl (fun w hs => h_p0_a_1.at hs) (at1 (ints_at hi28q)) ag2) ?_; clear hf; intro a hf
          refine qY hf rfl rfl rfl (Y_move rfl rfl) ?_; clear hf; intro a hf
          refine qY hf rfl rfl rfl (Y_move rfl rfl) ?_; clear hf; intro a hf
          obtain ⟨q29, hi30, hm24⟩ := bind_some hm24
          obtain ⟨hi30a, hi30b, hi30q⟩ := idx_some hi30
          refine qY hf rfl rfl rfl (Y_index rfl rfl rfl el36 ti2 (Rd.isAt (h_p1_b_1.at hs) (at1 (ints_at hi30q))) hi30a hi30b) ?_; clear hf; intro a hf
          refine qY hf rfl rfl rfl (Y_load_rd rfl rfl (fun w hs => h_p1_b_1.at hs) (at1 (ints_at hi30q)) ag2) ?_; clear hf; intro a hf
          refine qY hf rfl rfl rfl (Y_neq rfl rfl rfl) ?_; clear hf; intro a hf
          refine qNil ?_; clear hs; intro w hs
          refine wpL_cond hf rfl (fun hb31 => ?_) (fun hb31 => ?_)
          · have hm24 := bif_t hm24 hb31
            refine wpL_seq ?_
            refine wpL_region ?_
            refine sY hf hs rfl rfl rfl (Y_assign rfl rfl) ?_; clear hf; intro a hf
            refine wpO_nil ?_
            obtain rfl := Option.some.inj hm24
            try dsimp only at hm
            obtain rfl := Option.some.inj hm
            refine wpL_ret (Qb_ret (Ql_ret (Qb_ret (ret_tmp rfl hf rfl ?_))))
            exact ⟨_, rfl, rfl, hs⟩
          · have hm24 := bif_f hm24 hb31
            refine wpL_skip ?_
            refine wpL_nil (Qb_normal ?_)
            refine wpL_region ?_
            refine sY hf hs rfl rfl rfl (Y_move rfl rfl) ?_; clear hf; intro a hf
            refine sY hf hs rfl rfl rfl (Y_add rfl rfl rfl) ?_; clear hf; intro a hf
            refine sY hf hs rfl rfl rfl (Y_assign rfl rfl) ?_; clear hf; intro a hf
            refine wpO_nil ?_
            refine wpL_nil (Ql_normal ?_)
            exact ⟨(IntKind.i64.wrap (x15 + 1)), hm24, (Fr.pick (Fr.pick (Fr.pick hf.none hf rfl) hf rfl) hf rfl), hs⟩
        · have hm24 := bif_f hm24 hb26
          refine wpL_exit (Ql_exit (Qb_exit ?_))
          exact ⟨Option.some.inj hm24, hf.none, hs⟩
    · rintro a w ⟨hr_, hf, hs⟩
      subst hr_
      try dsimp only at hm
      refine wpL_seq ?_
      refine wpL_region ?_
      refine sY hf hs rfl rfl rfl (Y_assign rfl rfl) ?_; clear hf; intro a hf
      refine wpO_nil ?_
      obtain rfl := Option.some.inj hm
      refine wpL_ret (ret_tmp rfl hf rfl ?_)
      exact ⟨_, rfl, rfl, hs⟩

set_option maxRecDepth 100000 in
theorem laws_eqWindow_ok (F : Nat) (p0_a : GWindow) (p1_b : GWindow) (r : Bool) (W : World) (hm : laws_eqWindow F p0_a p1_b = some r) :
    Calls Try.prog 99 [.agg #[.int .i64 p0_a.Low, .int .i64 p0_a.High], .agg #[.int .i64 p1_b.Low, .int .i64 p1_b.High]].toArray W fun e w' => ∃ v, e = .returned v ∧ v = .bool r ∧ St [] W w' [] := by
  unfold laws_eqWindow at hm
  refine Calls.enter (N := 15) Try.func99 rfl rfl rfl (fun a hf => ?_)
  have hs := St.start W
  obtain ⟨w, hw_⟩ : ∃ w, w = W := ⟨W, rfl⟩
  clear hw_ w
  refine wpL_seq ?_
  refine wpL_region ?_
  refine sBox hf hs rfl rfl rfl rfl rfl (cs := [.int .i64 p0_a.Low, .int .i64 p0_a.High]) rfl ?_; clear hf hs; intro a w b1 hs hf
  have hs : St [] W w [.blk b1 103 [.int .i64 p0_a.Low, .int .i64 p0_a.High]] := hs
  refine sBox hf hs rfl rfl rfl rfl rfl (cs := [.int .i64 p1_b.Low, .int .i64 p1_b.High]) rfl ?_; clear hf hs; intro a w b2 hs hf
  have hs : St [] W w [.blk b1 103 [.int .i64 p0_a.Low, .int .i64 p0_a.High], .blk b2 103 [.int .i64 p1_b.Low, .int .i64 p1_b.High]] := hs
  refine sY hf hs rfl rfl rfl (Y_assign rfl rfl) ?_; clear hf; intro a hf
  refine wpO_nil ?_
  refine wpL_seq ?_
  refine wpL_seq ?_
  refine wpL_region ?_
  refine sY hf hs rfl rfl rfl (Y_fieldAddr rfl rfl fo103_0) ?_; clear hf; intro a hf
  refine sY hf hs rfl rfl rfl (Y_load_blk rfl rfl (i := 0) rfl rfl ag2) ?_; clear hf; intro a hf
  refine sY hf hs rfl rfl rfl (Y_fieldAddr rfl rfl fo103_0) ?_; clear hf; intro a hf
  refine sY hf hs rfl rfl rfl (Y_load_blk rfl rfl (i := 1) rfl rfl ag2) ?_; clear hf; intro a hf
  refine sY hf hs rfl rfl rfl (Y_neq rfl rfl rfl) ?_; clear hf; intro a hf
  refine wpO_nil ?_
  refine wpL_cond hf rfl (fun hb3 => ?_) (fun hb3 => ?_)
  · have hm := bif_t hm hb3
    refine wpL_seq ?_
    refine wpL_region ?_
    refine sY hf hs rfl rfl rfl (Y_assign rfl rfl) ?_; clear hf; intro a hf
    refine wpO_nil ?_
    obtain rfl := Option.some.inj hm
    refine wpL_ret (ret_tmp rfl hf rfl ?_)
    exact ⟨_, rfl, rfl, hs.sel [] (by decide)⟩
  · have hm := bif_f hm hb3
    refine wpL_skip ?_
    refine wpL_seq ?_
    refine wpL_seq ?_
    refine wpL_region ?_
    refine sY hf hs rfl rfl rfl (Y_fieldAddr rfl rfl fo103_1) ?_; clear hf; intro a hf
    refine sY hf hs rfl rfl rfl (Y_load_blk rfl rfl (i := 0) rfl rfl ag2) ?_; clear hf; intro a hf
    refine sY hf hs rfl rfl rfl (Y_fieldAddr rfl rfl fo103_1) ?_; clear hf; intro a hf
    refine sY hf hs rfl rfl rfl (Y_load_blk rfl rfl (i := 1) rfl rfl ag2) ?_; clear hf; intro a hf
    refine sY hf hs rfl rfl rfl (Y_neq rfl rfl rfl) ?_; clear hf; intro a hf
    refine wpO_nil ?_
    refine wpL_cond hf rfl (fun hb4 => ?_) (fun hb4 => ?_)
    · have hm := bif_t hm hb4
      refine wpL_seq ?_
      refine wpL_region ?_
      refine sY hf hs rfl rfl rfl (Y_assign rfl rfl) ?_; clear hf; intro a hf
      refine wpO_nil ?_
      obtain rfl := Option.some.inj hm
      refine wpL_ret (ret_tmp rfl hf rfl ?_)
      exact ⟨_, rfl, rfl, hs.sel [] (by decide)⟩
    · have hm := bif_f hm hb4
      refine wpL_skip ?_
      refine wpL_seq ?_
      refine wpL_region ?_
      refine sY hf hs rfl rfl rfl (Y_assign rfl rfl) ?_; clear hf; intro a hf
      refine wpO_nil ?_
      obtain rfl := Option.some.inj hm
      refine wpL_ret (ret_tmp rfl hf rfl ?_)
      exact ⟨_, rfl, rfl, hs.sel [] (by decide)⟩

set_option maxRecDepth 100000 in
theorem laws_eqWindowS_ok (F : Nat) (p0_a : List GWindow) (A_p0_a_1 : Option Addr) (n_p0_a_1 c_p0_a_1 : Nat) (hn_p0_a_1 : n_p0_a_1 = p0_a.length) (p1_b : List GWindow) (A_p1_b_1 : Option Addr) (n_p1_b_1 c_p1_b_1 : Nat) (hn_p1_b_1 : n_p1_b_1 = p1_b.length) (r : Bool) (W : World) (hm : laws_eqWindowS F p0_a p1_b = some r) (h_p0_a_1 : Rd W A_p0_a_1 ((recs GWindow.cells) p0_a)) (h_p1_b_1 : Rd W A_p1_b_1 ((recs GWindow.cells) p1_b)) :
    Calls Try.prog 41 [.slice A_p0_a_1 n_p0_a_1 c_p0_a_1, .slice A_p1_b_1 n_p1_b_1 c_p1_b_1].toArray W fun e w' => ∃ v, e = .returned v ∧ v = .bool r ∧ St [] W w' [] := by
  subst hn_p0_a_1
  subst hn_p1_b_1
  unfold laws_eqWindowS at hm
  refine Calls.enter (N := 27) Try.func41 rfl rfl rfl (fun a hf => ?_)
  have hs := St.start W
  obtain ⟨w, hw_⟩ : ∃ w, w = W := ⟨W, rfl⟩
  clear hw_ w
  refine wpL_seq ?_
  refine wpL_region ?_
  refine sY hf hs rfl rfl rfl (Y_assign rfl rfl) ?_; clear hf; intro a hf
  refine wpO_nil ?_
  refine wpL_seq ?_
  refine wpL_seq ?_
  refine wpL_region ?_
  refine sY hf hs rfl rfl rfl (Y_move rfl rfl) ?_; clear hf; intro a hf
  refine sY hf hs rfl rfl rfl (Y_lenH rfl rfl el53 rfl) ?_; clear hf; intro a hf
  refine sY hf hs rfl rfl rfl (Y_move rfl rfl) ?_; clear hf; intro a hf
  refine sY hf hs rfl rfl rfl (Y_lenH rfl rfl el53 rfl) ?_; clear hf; intro a hf
  refine sY hf hs rfl rfl rfl (Y_neq rfl rfl rfl) ?_; clear hf; intro a hf
  refine wpO_nil ?_
  refine wpL_cond hf rfl (fun hb1 => ?_) (fun hb1 => ?_)
  · have hm := bif_t hm hb1
    refine wpL_seq ?_
    refine wpL_region ?_
    refine sY hf hs rfl rfl rfl (Y_assign rfl rfl) ?_; clear hf; intro a hf
    refine wpO_nil ?_
    obtain rfl := Option.some.inj hm
    refine wpL_ret (ret_tmp rfl hf rfl ?_)
    exact ⟨_, rfl, rfl, hs⟩
  · have hm := bif_f hm hb1
    refine wpL_skip ?_
    refine wpL_seq ?_
    refine wpL_seq ?_
    refine wpL_region ?_
    refine sY hf hs rfl rfl rfl (Y_assign rfl rfl) ?_; clear hf; intro a hf
    refine wpO_nil ?_
    obtain ⟨r28, hl29, hm⟩ := bind_some hm
    refine wpL_block (fun a w => Sum.inr () = r28 ∧ Fr a 27 [] ∧ St [] W w []) ?_ ?_
    · refine wpL_loop (fun n a w => ∃ x19 : Int, laws_eqWindowS_L1 F p0_a p1_b n x19 = some r28 ∧ Fr a 27 [(0, .slice A_p0_a_1 p0_a.length c_p0_a_1), (1, .slice A_p1_b_1 p1_b.length c_p1_b_1), (5, .int .i64 x19)] ∧ St [] W w []) F ?_ ?_ ?_
      · exact ⟨0, hl29, (Fr.pick (Fr.pick (Fr.pick hf.none hf rfl) hf rfl) hf rfl), hs⟩
      · rintro a w ⟨x19, h0_, -, -⟩; simp [laws_eqWindowS_L1] at h0_
      · rintro n31 a w ⟨x19, hm30, hf, hs⟩
        rw [laws_eqWindowS_L1] at hm30
        refine wpL_seq ?_
        refine wpL_seq ?_
        refine wpL_region ?_
        refine sY hf hs rfl rfl rfl (Y_move rfl rfl) ?_; clear hf; intro a hf
        refine sY hf hs rfl rfl rfl (Y_move rfl rfl) ?_; clear hf; intro a hf
        refine sY hf hs rfl rfl rfl (Y_lenH rfl rfl el53 rfl) ?_; clear hf; intro a hf
        refine sY hf hs rfl rfl rfl (Y_lss rfl rfl rfl) ?_; clear hf; intro a hf
        refine wpO_nil ?_
        refine wpL_cond hf rfl (fun hb32 => ?_) (fun hb32 => ?_)
        · have hm30 := bif_t hm30 hb32
          refine wpL_skip ?_
          refine wpL_seq ?_
          refine wpL_block0 ?_
          refine wpL_seq ?_
          refine wpL_draw (by kernel_rfl) (by kernel_rfl) hs ?_
          refine qY hf rfl rfl rfl (Y_move rfl rfl) ?_; clear hf; intro a hf
          refine qY hf rfl rfl rfl (Y_move rfl rfl) ?_; clear hf; intro a hf
          obtain ⟨q33, hi34, hm30⟩ := bind_some hm30
          obtain ⟨hi34a, hi34b, hi34q⟩ := idx_some hi34
          refine qY hf rfl rfl rfl (Y_index rfl rfl rfl el53 ti103 (Rd.isAt (h_p0_a_1.at hs) (recs_at (s := 2) GWindow.len hi34q (j := 0) rfl)) hi34a hi34b) ?_; clear hf; intro a hf
          refine qY hf rfl rfl rfl (Y_load_rdS rfl rfl (us := [.int .i64 q33.Low, .int .i64 q33.High]) (fun w hs => h_p0_a_1.at hs) (fun j u hj => recs_at (s := 2) GWindow.len hi34q hj) (Nat.succ_pos _) ag103 ti103 rfl) ?_; clear hf; intro a hf
          refine qY hf rfl rfl rfl (Y_move rfl rfl) ?_; clear hf; intro a hf
          refine qY hf rfl rfl rfl (Y_move rfl rfl) ?_; clear hf; intro a hf
          obtain ⟨q35, hi36, hm30⟩ := bind_some hm30
          obtain ⟨hi36a, hi36b, hi36q⟩ := idx_some hi36
          refine qY hf rfl rfl rfl (Y_index rfl rfl rfl el53 ti103 (Rd.isAt (h_p1_b_1.at hs) (recs_at (s := 2) GWindow.len hi36q (j := 0) rfl)) hi36a hi36b) ?_; clear hf; intro a hf
          refine qY hf rfl rfl rfl (Y_load_rdS rfl rfl (us := [.int .i64 q35.Low, .int .i64 q35.High]) (fun w hs => h_p1_b_1.at hs) (fun j u hj => recs_at (s := 2) GWindow.len hi36q hj) (Nat.succ_pos _) ag103 ti103 rfl) ?_; clear hf; intro a hf
          obtain ⟨r37, hc38, hm30⟩ := bind_some hm30
          refine qCall hf rfl rfl rfl rfl (cap := []) rfl rfl en99 (v := .bool r37) (fun w hs => Calls.scal (laws_eqWindow_ok F q33 q35 _ _ hc38)) ?_; clear hf; intro a hf
          refine qY hf rfl rfl rfl (Y_not rfl rfl) ?_; clear hf; intro a hf
          refine qNil ?_; clear hs; intro w hs
          refine wpL_cond hf rfl (fun hb39 => ?_) (fun hb39 => ?_)
          · have hm30 := bif_t hm30 hb39
            refine wpL_seq ?_
            refine wpL_region ?_
            refine sY hf hs rfl rfl rfl (Y_assign rfl rfl) ?_; clear hf; intro a hf
            refine wpO_nil ?_
            obtain rfl := Option.some.inj hm30
            try dsimp only at hm
            obtain rfl := Option.some.inj hm
            refine wpL_ret (Qb_ret (Ql_ret (Qb_ret (ret_tmp rfl hf rfl ?_))))
            exact ⟨_, rfl, rfl, hs⟩
          · have hm30 := bif_f hm30 hb39
            refine wpL_skip ?_
            refine wpL_nil (Qb_normal ?_)
            refine wpL_region ?_
            refine sY hf hs rfl rfl rfl (Y_move rfl rfl) ?_; clear hf; intro a hf
            refine sY hf hs rfl rfl rfl (Y_add rfl rfl rfl) ?_; clear hf; intro a hf
            refine sY hf hs rfl rfl rfl (Y_assign rfl rfl) ?_; clear hf; intro a hf
            refine wpO_nil ?_
            refine wpL_nil (Ql_normal ?_)
            exact ⟨(IntKind.i64.wrap (x19 + 1)), hm30, (Fr.pick (Fr.pick (Fr.pick hf.none hf rfl) hf rfl) hf rfl), hs⟩
        · have hm30 := bif_f hm30 hb32
          refine wpL_exit (Ql_exit (Qb_exit ?_))
          exact ⟨Option.some.inj hm30, hf.none, hs⟩
    · rintro a w ⟨hr_, hf, hs⟩
      subst hr_
      try dsimp only at hm
      refine wpL_seq ?_
      refine wpL_region ?_
      refine sY hf hs rfl rfl rfl (Y_assign rfl rfl) ?_; clear hf; intro a hf
      refine wpO_nil ?_
      obtain rfl := Option.some.inj hm
      refine wpL_ret (ret_tmp rfl hf rfl ?_)
      exact ⟨_, rfl, rfl, hs⟩

set_option maxRecDepth 100000 in
theorem laws_eqBond_ok (F : Nat) (p0_a : GBond) (p1_b : GBond) (r : Bool) (W : World) (hm : laws_eqBond F p0_a p1_b = some r) :
    Calls Try.prog 100 [.agg #[.int .i64 p0_a.From, .int .i64 p0_a.To, .int .i64 p0_a.Least], .agg #[.int .i64 p1_b.From, .int .i64 p1_b.To, .int .i64 p1_b.Least]].toArray W fun e w' => ∃ v, e = .returned v ∧ v = .bool r ∧ St [] W w' [] := by
  unfold laws_eqBond at hm
  refine Calls.enter (N := 20) Try.func100 rfl rfl rfl (fun a hf => ?_)
  have hs := St.start W
  obtain ⟨w, hw_⟩ : ∃ w, w = W := ⟨W, rfl⟩
  clear hw_ w
  refine wpL_seq ?_
  refine wpL_region ?_
  refine sBox hf hs rfl rfl rfl rfl rfl (cs := [.int .i64 p0_a.From, .int .i64 p0_a.To, .int .i64 p0_a.Least]) rfl ?_; clear hf hs; intro a w b1 hs hf
  have hs : St [] W w [.blk b1 107 [.int .i64 p0_a.From, .int .i64 p0_a.To, .int .i64 p0_a.Least]] := hs
  refine sBox hf hs rfl rfl rfl rfl rfl (cs := [.int .i64 p1_b.From, .int .i64 p1_b.To, .int .i64 p1_b.Least]) rfl ?_; clear hf hs; intro a w b2 hs hf
  have hs : St [] W w [.blk b1 107 [.int .i64 p0_a.From, .int .i64 p0_a.To, .int .i64 p0_a.Least], .blk b2 107 [.int .i64 p1_b.From, .int .i64 p1_b.To, .int .i64 p1_b.Least]] := hs
  refine sY hf hs rfl rfl rfl (Y_assign rfl rfl) ?_; clear hf; intro a hf
  refine wpO_nil ?_
  refine wpL_seq ?_
  refine wpL_seq ?_
  refine wpL_region ?_
  refine sY hf hs rfl rfl rfl (Y_fieldAddr rfl rfl fo107_0) ?_; clear hf; intro a hf
  refine sY hf hs rfl rfl rfl (Y_load_blk rfl rfl (i := 0) rfl rfl ag2) ?_; clear hf; intro a hf
  refine sY hf hs rfl rfl rfl (Y_fieldAddr rfl rfl fo107_0) ?_; clear hf; intro a hf
  refine sY hf hs rfl rfl rfl (Y_load_blk rfl rfl (i := 1) rfl rfl ag2) ?_; clear hf; intro a hf
  refine sY hf hs rfl rfl rfl (Y_neq rfl rfl rfl) ?_; clear hf; intro a hf
  refine wpO_nil ?_
  refine wpL_cond hf rfl (fun hb3 => ?_) (fun hb3 => ?_)
  · have hm := bif_t hm hb3
    refine wpL_seq ?_
    refine wpL_region ?_
    refine sY hf hs rfl rfl rfl (Y_assign rfl rfl) ?_; clear hf; intro a hf
    refine wpO_nil ?_
    obtain rfl := Option.some.inj hm
    refine wpL_ret (ret_tmp rfl hf rfl ?_)
    exact ⟨_, rfl, rfl, hs.sel [] (by decide)⟩
  · have hm := bif_f hm hb3
    refine wpL_skip ?_
    refine wpL_seq ?_
    refine wpL_seq ?_
    refine wpL_region ?_
    refine sY hf hs rfl rfl rfl (Y_fieldAddr rfl rfl fo107_1) ?_; clear hf; intro a hf
    refine sY hf hs rfl rfl rfl (Y_load_blk rfl rfl (i := 0) rfl rfl ag2) ?_; clear hf; intro a hf
    refine sY hf hs rfl rfl rfl (Y_fieldAddr rfl rfl fo107_1) ?_; clear hf; intro a hf
    refine sY hf hs rfl rfl rfl (Y_load_blk rfl rfl (i := 1) rfl rfl ag2) ?_; clear hf; intro a hf
    refine sY hf hs rfl rfl rfl (Y_neq rfl rfl rfl) ?_; clear hf; intro a hf
    refine wpO_nil ?_
    refine wpL_cond hf rfl (fun hb4 => ?_) (fun hb4 => ?_)
    · have hm := bif_t hm hb4
      refine wpL_seq ?_
      refine wpL_region ?_
      refine sY hf hs rfl rfl rfl (Y_assign rfl rfl) ?_; clear hf; intro a hf
      refine wpO_nil ?_
      obtain rfl := Option.some.inj hm
      refine wpL_ret (ret_tmp rfl hf rfl ?_)
      exact ⟨_, rfl, rfl, hs.sel [] (by decide)⟩
    · have hm := bif_f hm hb4
      refine wpL_skip ?_
      refine wpL_seq ?_
      refine wpL_seq ?_
      refine wpL_region ?_
      refine sY hf hs rfl rfl rfl (Y_fieldAddr rfl rfl fo107_2) ?_; clear hf; intro a hf
      refine sY hf hs rfl rfl rfl (Y_load_blk rfl rfl (i := 0) rfl rfl ag2) ?_; clear hf; intro a hf
      refine sY hf hs rfl rfl rfl (Y_fieldAddr rfl rfl fo107_2) ?_; clear hf; intro a hf
      refine sY hf hs rfl rfl rfl (Y_load_blk rfl rfl (i := 1) rfl rfl ag2) ?_; clear hf; intro a hf
      refine sY hf hs rfl rfl rfl (Y_neq rfl rfl rfl) ?_; clear hf; intro a hf
      refine wpO_nil ?_
      refine wpL_cond hf rfl (fun hb5 => ?_) (fun hb5 => ?_)
      · have hm := bif_t hm hb5
        refine wpL_seq ?_
        refine wpL_region ?_
        refine sY hf hs rfl rfl rfl (Y_assign rfl rfl) ?_; clear hf; intro a hf
        refine wpO_nil ?_
        obtain rfl := Option.some.inj hm
        refine wpL_ret (ret_tmp rfl hf rfl ?_)
        exact ⟨_, rfl, rfl, hs.sel [] (by decide)⟩
      · have hm := bif_f hm hb5
        refine wpL_skip ?_
        refine wpL_seq ?_
        refine wpL_region ?_
        refine sY hf hs rfl rfl rfl (Y_assign rfl rfl) ?_; clear hf; intro a hf
        refine wpO_nil ?_
        obtain rfl := Option.some.inj hm
        refine wpL_ret (ret_tmp rfl hf rfl ?_)
        exact ⟨_, rfl, rfl, hs.sel [] (by decide)⟩

set_option maxRecDepth 100000 in
theorem laws_eqBondS_ok (F : Nat) (p0_a : List GBond) (A_p0_a_1 : Option Addr) (n_p0_a_1 c_p0_a_1 : Nat) (hn_p0_a_1 : n_p0_a_1 = p0_a.length) (p1_b : List GBond) (A_p1_b_1 : Option Addr) (n_p1_b_1 c_p1_b_1 : Nat) (hn_p1_b_1 : n_p1_b_1 = p1_b.length) (r : Bool) (W : World) (hm : laws_eqBondS F p0_a p1_b = some r) (h_p0_a_1 : Rd W A_p0_a_1 ((recs GBond.cells) p0_a)) (h_p1_b_1 : Rd W A_p1_b_1 ((recs GBond.cells) p1_b)) :
    Calls Try.prog 42 [.slice A_p0_a_1 n_p0_a_1 c_p0_a_1, .slice A_p1_b_1 n_p1_b_1 c_p1_b_1].toArray W fun e w' => ∃ v, e = .returned v ∧ v = .bool r ∧ St [] W w' [] := by
  subst hn_p0_a_1
  subst hn_p1_b_1
  unfold laws_eqBondS at hm
  refine Calls.enter (N := 27) Try.func42 rfl rfl rfl (fun a hf => ?_)
  have hs := St.start W
  obtain ⟨w, hw_⟩ : ∃ w, w = W := ⟨W, rfl⟩
  clear hw_ w
  refine wpL_seq ?_
  refine wpL_region ?_
  refine sY hf hs rfl rfl rfl (Y_assign rfl rfl) ?_; clear hf; intro a hf
  refine wpO_nil ?_
  refine wpL_seq ?_
  refine wpL_seq ?_
  refine wpL_region ?_
  refine sY hf hs rfl rfl rfl (Y_move rfl rfl) ?_; clear hf; intro a hf
  refine sY hf hs rfl rfl rfl (Y_lenH rfl rfl el55 rfl) ?_; clear hf; intro a hf
  refine sY hf hs rfl rfl rfl (Y_move rfl rfl) ?_; clear hf; intro a hf
  refine sY hf hs rfl rfl rfl (Y_lenH rfl rfl el55 rfl) ?_; clear hf; intro a hf
  refine sY hf hs rfl rfl rfl (Y_neq rfl rfl rfl) ?_; clear hf; intro a hf
  refine wpO_nil ?_
  refine wpL_cond hf rfl (fun hb1 => ?_) (fun hb1 => ?_)
  · have hm := bif_t hm hb1
    refine wpL_seq ?_
    refine wpL_region ?_
    refine sY hf hs rfl rfl rfl (Y_assign rfl rfl) ?_; clear hf; intro a hf
    refine wpO_nil ?_
    obtain rfl := Option.some.inj hm
    refine wpL_ret (ret_tmp rfl hf rfl ?_)
    exact ⟨_, rfl, rfl, hs⟩
  · have hm := bif_f hm hb1
    refine wpL_skip ?_
    refine wpL_seq ?_
    refine wpL_seq ?_
    refine wpL_region ?_
    refine sY hf hs rfl rfl rfl (Y_assign rfl rfl) ?_; clear hf; intro a hf
    refine wpO_nil ?_
    obtain ⟨r28, hl29, hm⟩ := bind_some hm
    refine wpL_block (fun a w => Sum.inr () = r28 ∧ Fr a 27 [] ∧ St [] W w []) ?_ ?_
    · refine wpL_loop (fun n a w => ∃ x19 : Int, laws_eqBondS_L1 F p0_a p1_b n x19 = some r28 ∧ Fr a 27 [(0, .slice A_p0_a_1 p0_a.length c_p0_a_1), (1, .slice A_p1_b_1 p1_b.length c_p1_b_1), (5, .int .i64 x19)] ∧ St [] W w []) F ?_ ?_ ?_
      · exact ⟨0, hl29, (Fr.pick (Fr.pick (Fr.pick hf.none hf rfl) hf rfl) hf rfl), hs⟩
      · rintro a w ⟨x19, h0_, -, -⟩; simp [laws_eqBondS_L1] at h0_
      · rintro n31 a w ⟨x19, hm30, hf, hs⟩
        rw [laws_eqBondS_L1] at hm30
        refine wpL_seq ?_
        refine wpL_seq ?_
        refine wpL_region ?_
        refine sY hf hs rfl rfl rfl (Y_move rfl rfl) ?_; clear hf; intro a hf
        refine sY hf hs rfl rfl rfl (Y_move rfl rfl) ?_; clear hf; intro a hf
        refine sY hf hs rfl rfl rfl (Y_lenH rfl rfl el55 rfl) ?_; clear hf; intro a hf
        refine sY hf hs rfl rfl rfl (Y_lss rfl rfl rfl) ?_; clear hf; intro a hf
        refine wpO_nil ?_
        refine wpL_cond hf rfl (fun hb32 => ?_) (fun hb32 => ?_)
        · have hm30 := bif_t hm30 hb32
          refine wpL_skip ?_
          refine wpL_seq ?_
          refine wpL_block0 ?_
          refine wpL_seq ?_
          refine wpL_draw (by kernel_rfl) (by kernel_rfl) hs ?_
          refine qY hf rfl rfl rfl (Y_move rfl rfl) ?_; clear hf; intro a hf
          refine qY hf rfl rfl rfl (Y_move rfl rfl) ?_; clear hf; intro a hf
          obtain ⟨q33, hi34, hm30⟩ := bind_some hm30
          obtain ⟨hi34a, hi34b, hi34q⟩ := idx_some hi34
          refine qY hf rfl rfl rfl (Y_index rfl rfl rfl el55 ti107 (Rd.isAt (h_p0_a_1.at hs) (recs_at (s := 3) GBond.len hi34q (j := 0) rfl)) hi34a hi34b) ?_; clear hf; intro a hf
          refine qY hf rfl rfl rfl (Y_load_rdS rfl rfl (us := [.int .i64 q33.From, .int .i64 q33.To, .int .i64 q33.Least]) (fun w hs => h_p0_a_1.at hs) (fun j u hj => recs_at (s := 3) GBond.len hi34q hj) (Nat.succ_pos _) ag107 ti107 rfl) ?_; clear hf; intro a hf
          refine qY hf rfl rfl rfl (Y_move rfl rfl) ?_; clear hf; intro a hf
          refine qY hf rfl rfl rfl (Y_move rfl rfl) ?_; clear hf; intro a hf
          obtain ⟨q35, hi36, hm30⟩ := bind_some hm30
          obtain ⟨hi36a, hi36b, hi36q⟩ := idx_some hi36
          refine qY hf rfl rfl rfl (Y_index rfl rfl rfl el55 ti107 (Rd.isAt (h_p1_b_1.at hs) (recs_at (s := 3) GBond.len hi36q (j := 0) rfl)) hi36a hi36b) ?_; clear hf; intro a hf
          refine qY hf rfl rfl rfl (Y_load_rdS rfl rfl (us := [.int .i64 q35.From, .int .i64 q35.To, .int .i64 q35.Least]) (fun w hs => h_p1_b_1.at hs) (fun j u hj => recs_at (s := 3) GBond.len hi36q hj) (Nat.succ_pos _) ag107 ti107 rfl) ?_; clear hf; intro a hf
          obtain ⟨r37, hc38, hm30⟩ := bind_some hm30
          refine qCall hf rfl rfl rfl rfl (cap := []) rfl rfl en100 (v := .bool r37) (fun w hs => Calls.scal (laws_eqBond_ok F q33 q35 _ _ hc38)) ?_; clear hf; intro a hf
          refine qY hf rfl rfl rfl (Y_not rfl rfl) ?_; clear hf; intro a hf
          refine qNil ?_; clear hs; intro w hs
          refine wpL_cond hf rfl (fun hb39 => ?_) (fun hb39 => ?_)
          · have hm30 := bif_t hm30 hb39
            refine wpL_seq ?_
            refine wpL_region ?_
            refine sY hf hs rfl rfl rfl (Y_assign rfl rfl) ?_; clear hf; intro a hf
            refine wpO_nil ?_
            obtain rfl := Option.some.inj hm30
            try dsimp only at hm
            obtain rfl := Option.some.inj hm
            refine wpL_ret (Qb_ret (Ql_ret (Qb_ret (ret_tmp rfl hf rfl ?_))))
            exact ⟨_, rfl, rfl, hs⟩
          · have hm30 := bif_f hm30 hb39
            refine wpL_skip ?_
            refine wpL_nil (Qb_normal ?_)
            refine wpL_region ?_
            refine sY hf hs rfl rfl rfl (Y_move rfl rfl) ?_; clear hf; intro a hf
            refine sY hf hs rfl rfl rfl (Y_add rfl rfl rfl) ?_; clear hf; intro a hf
            refine sY hf hs rfl rfl rfl (Y_assign rfl rfl) ?_; clear hf; intro a hf
            refine wpO_nil ?_
            refine wpL_nil (Ql_normal ?_)
            exact ⟨(IntKind.i64.wrap (x19 + 1)), hm30, (Fr.pick (Fr.pick (Fr.pick hf.none hf rfl) hf rfl) hf rfl), hs⟩
        · have hm30 := bif_f hm30 hb32
          refine wpL_exit (Ql_exit (Qb_exit ?_))
          exact ⟨Option.some.inj hm30, hf.none, hs⟩
    · rintro a w ⟨hr_, hf, hs⟩
      subst hr_
      try dsimp only at hm
      refine wpL_seq ?_
      refine wpL_region ?_
      refine sY hf hs rfl rfl rfl (Y_assign rfl rfl) ?_; clear hf; intro a hf
      refine wpO_nil ?_
      obtain rfl := Option.some.inj hm
      refine wpL_ret (ret_tmp rfl hf rfl ?_)
      exact ⟨_, rfl, rfl, hs⟩

set_option maxRecDepth 100000 in
theorem laws_markWindowS_ok (F : Nat) (p0_a : List GWindow) (A_p0_a_1 : Option Addr) (n_p0_a_1 c_p0_a_1 : Nat) (hn_p0_a_1 : n_p0_a_1 = p0_a.length) (p1_k : Int) (r : (Int) × List GWindow) (W : World) (hm : laws_markWindowS F p0_a p1_k = some r) (h_p0_a_1 : (Res.row A_p0_a_1 n_p0_a_1 c_p0_a_1 103 2 ((recs GWindow.cells) p0_a) : Res).holds 0 W) :
    Calls Try.prog 43 [.slice A_p0_a_1 n_p0_a_1 c_p0_a_1, .int .i64 p1_k].toArray W fun e w' => ∃ v, e = .returned v ∧ v = .int .i64 r.1 ∧ n_p0_a_1 = r.2.length ∧ St (muA A_p0_a_1) W w' [.row A_p0_a_1 n_p0_a_1 c_p0_a_1 103 2 ((recs GWindow.cells) r.2)] := by
  subst hn_p0_a_1
  unfold laws_markWindowS at hm
  refine Calls.enter (N := 27) Try.func43 rfl rfl rfl (fun a hf => ?_)
  have hs : St (muA A_p0_a_1) W W [.row A_p0_a_1 p0_a.length c_p0_a_1 103 2 ((recs GWindow.cells) p0_a)] := St.startMut h_p0_a_1 (fun b hb => mem_muA hb)
  obtain ⟨w, hw_⟩ : ∃ w, w = W := ⟨W, rfl⟩
  clear hw_ w
  refine wpL_seq ?_
  refine wpL_region ?_
  refine sY hf hs rfl rfl rfl (Y_assign rfl rfl) ?_; clear hf; intro a hf
  refine wpO_nil ?_
  refine wpL_seq ?_
  refine wpL_seq ?_
  refine wpL_region ?_
  refine sY hf hs rfl rfl rfl (Y_assign rfl rfl) ?_; clear hf; intro a hf
  refine wpO_nil ?_
  obtain ⟨r39, hl40, hm⟩ := bind_some hm
  refine wpL_block (fun a w => ∃ xs36 : List GWindow, ∃ x38 : Int, (xs36, x38) = r39 ∧ p0_a.length = xs36.length ∧ Fr a 27 [(1, .int .i64 x38)] ∧ St (muA A_p0_a_1) W w [.row A_p0_a_1 p0_a.length c_p0_a_1 103 2 ((recs GWindow.cells) xs36)]) ?_ ?_
  · refine wpL_loop (fun n a w => ∃ xs23 : List GWindow, ∃ x25 : Int, ∃ x26 : Int, laws_markWindowS_L1 F n xs23 x25 x26 = some r39 ∧ p0_a.length = xs23.length ∧ Fr a 27 [(0, .slice A_p0_a_1 p0_a.length c_p0_a_1), (1, .int .i64 x25), (5, .int .i64 x26)] ∧ St (muA A_p0_a_1) W w [.row A_p0_a_1 p0_a.length c_p0_a_1 103 2 ((recs GWindow.cells) xs23)]) F ?_ ?_ ?_
    · exact ⟨p0_a, p1_k, 0, hl40, rfl, (Fr.pick (Fr.pick (Fr.pick hf.none hf rfl) hf rfl) hf rfl), hs⟩
    · rintro a w ⟨xs23, x25, x26, h0_, -, -, -⟩; simp [laws_markWindowS_L1] at h0_
    · rintro n42 a w ⟨xs23, x25, x26, hm41, hn24, hf, hs⟩
      rw [laws_markWindowS_L1] at hm41
      refine wpL_seq ?_
      refine wpL_seq ?_
      refine wpL_region ?_
      refine sY hf hs rfl rfl rfl (Y_move rfl rfl) ?_; clear hf; intro a hf
      refine sY hf hs rfl rfl rfl (Y_move rfl rfl) ?_; clear hf; intro a hf
      refine sY hf hs rfl rfl rfl (Y_lenH rfl rfl el53 hn24) ?_; clear hf; intro a hf
      refine sY hf hs rfl rfl rfl (Y_lss rfl rfl rfl) ?_; clear hf; intro a hf
      refine wpO_nil ?_
      refine wpL_cond hf rfl (fun hb43 => ?_) (fun hb43 => ?_)
      · have hm41 := bif_t hm41 hb43
        refine wpL_skip ?_
        refine wpL_seq ?_
        refine wpL_block0 ?_
        refine wpL_seq ?_
        refine wpL_region ?_
        refine sY hf hs rfl rfl rfl (Y_move rfl rfl) ?_; clear hf; intro a hf
        refine sY hf hs rfl rfl rfl (Y_move rfl rfl) ?_; clear hf; intro a hf
        refine sY hf hs rfl rfl rfl (Y_move rfl rfl) ?_; clear hf; intro a hf
        obtain ⟨q44, hi45, hm41⟩ := bind_some hm41
        obtain ⟨hi45a, hi45b, hi45q⟩ := idx_some hi45
        refine sY hf hs rfl rfl rfl (Y_index rfl rfl rfl el53 ti103 (Rd.isAt (hs.rd (i := 0) rfl) (recs_at (s := 2) GWindow.len hi45q (j := 0) rfl)) hi45a (ltn hn24 hi45b)) ?_; clear hf; intro a hf
        refine sY hf hs rfl rfl rfl (Y_fieldAddrE rfl rfl fo103_0) ?_; clear hf; intro a hf
        obtain ⟨xs46, hu47, hm41⟩ := bind_some hm41
        refine sStoreF (i := 0) (s := 2) (fo := 0) (f := GWindow.cells) (x' := (GWindow.mk x25 q44.High)) hf hs rfl rfl rfl rfl rfl rfl hi45q hu47 ti2 rfl rfl rfl GWindow.len rfl rfl ?_; clear hs; intro w hs
        have hs : St (muA A_p0_a_1) W w [.row A_p0_a_1 p0_a.length c_p0_a_1 103 2 ((recs GWindow.cells) xs46)] := hs
        refine wpO_nil ?_
        refine wpL_seq ?_
        refine wpL_region ?_
        refine sY hf hs rfl rfl rfl (Y_move rfl rfl) ?_; clear hf; intro a hf
        refine sY hf hs rfl rfl rfl (Y_add rfl rfl rfl) ?_; clear hf; intro a hf
        refine sY hf hs rfl rfl rfl (Y_assign rfl rfl) ?_; clear hf; intro a hf
        refine wpO_nil ?_
        refine wpL_seq ?_
        refine wpL_region ?_
        refine sY hf hs rfl rfl rfl (Y_move rfl rfl) ?_; clear hf; intro a hf
        refine sY hf hs rfl rfl rfl (Y_move rfl rfl) ?_; clear hf; intro a hf
        refine sY hf hs rfl rfl rfl (Y_move rfl rfl) ?_; clear hf; intro a hf
        obtain ⟨q48, hi49, hm41⟩ := bind_some hm41
        obtain ⟨hi49a, hi49b, hi49q⟩ := idx_some hi49
        refine sY hf hs rfl rfl rfl (Y_index rfl rfl rfl el53 ti103 (Rd.isAt (hs.rd (i := 0) rfl) (recs_at (s := 2) GWindow.len hi49q (j := 0) rfl)) hi49a (ltn ((hn24).trans (upd_len hu47).symm) hi49b)) ?_; clear hf; intro a hf
        refine sY hf hs rfl rfl rfl (Y_fieldAddrE rfl rfl fo103_1) ?_; clear hf; intro a hf
        obtain ⟨xs50, hu51, hm41⟩ := bind_some hm41
        refine sStoreF (i := 0) (s := 2) (fo := 1) (f := GWindow.cells) (x' := (GWindow.mk q48.Low (IntKind.i64.wrap (x25 + 1)))) hf hs rfl rfl rfl rfl rfl rfl hi49q hu51 ti2 rfl rfl rfl GWindow.len rfl rfl ?_; clear hs; intro w hs
        have hs : St (muA A_p0_a_1) W w [.row A_p0_a_1 p0_a.length c_p0_a_1 103 2 ((recs GWindow.cells) xs50)] := hs
        refine wpO_nil ?_
        refine wpL_region ?_
        refine sY hf hs rfl rfl rfl (Y_move rfl rfl) ?_; clear hf; intro a hf
        refine sY hf hs rfl rfl rfl (Y_add rfl rfl rfl) ?_; clear hf; intro a hf
        refine sY hf hs rfl rfl rfl (Y_assign rfl rfl) ?_; clear hf; intro a hf
        refine wpO_nil ?_
        refine wpL_nil (Qb_normal ?_)
        refine wpL_region ?_
        refine sY hf hs rfl rfl rfl (Y_move rfl rfl) ?_; clear hf; intro a hf
        refine sY hf hs rfl rfl rfl (Y_add rfl rfl rfl) ?_; clear hf; intro a hf
        refine sY hf hs rfl rfl rfl (Y_assign rfl rfl) ?_; clear hf; intro a hf
        refine wpO_nil ?_
        refine wpL_nil (Ql_normal ?_)
        exact ⟨xs50, (IntKind.i64.wrap ((IntKind.i64.wrap (x25 + 1)) + 1)), (IntKind.i64.wrap (x26 + 1)), hm41, ((((hn24).trans (upd_len hu47).symm)).trans (upd_len hu51).symm), (Fr.pick (Fr.pick (Fr.pick hf.none hf rfl) hf rfl) hf rfl), hs⟩
      · have hm41 := bif_f hm41 hb43
        refine wpL_exit (Ql_exit (Qb_exit ?_))
        exact ⟨xs23, x25, Option.some.inj hm41, hn24, (Fr.pick hf.none hf rfl), hs⟩
  · rintro a w ⟨xs36, x38, hr_, hn37, hf, hs⟩
    subst hr_
    try dsimp only at hm
    refine wpL_seq ?_
    refine wpL_region ?_
    refine sY hf hs rfl rfl rfl (Y_move rfl rfl) ?_; clear hf; intro a hf
    refine sY hf hs rfl rfl rfl (Y_assign rfl rfl) ?_; clear hf; intro a hf
    refine wpO_nil ?_
    obtain rfl := Option.some.inj hm
    refine wpL_ret (ret_tmp rfl hf rfl ?_)
    exact ⟨_, rfl, rfl, hn37, hs⟩

set_option maxRecDepth 100000 in
theorem laws_markBondS_ok (F : Nat) (p0_a : List GBond) (A_p0_a_1 : Option Addr) (n_p0_a_1 c_p0_a_1 : Nat) (hn_p0_a_1 : n_p0_a_1 = p0_a.length) (p1_k : Int) (r : (Int) × List GBond) (W : World) (hm : laws_markBondS F p0_a p1_k = some r) (h_p0_a_1 : (Res.row A_p0_a_1 n_p0_a_1 c_p0_a_1 107 3 ((recs GBond.cells) p0_a) : Res).holds 0 W) :
    Calls Try.prog 44 [.slice A_p0_a_1 n_p0_a_1 c_p0_a_1, .int .i64 p1_k].toArray W fun e w' => ∃ v, e = .returned v ∧ v = .int .i64 r.1 ∧ n_p0_a_1 = r.2.length ∧ St (muA A_p0_a_1) W w' [.row A_p0_a_1 n_p0_a_1 c_p0_a_1 107 3 ((recs GBond.cells) r.2)] := by
  subst hn_p0_a_1
  unfold laws_markBondS at hm
  refine Calls.enter (N := 34) Try.func44 rfl rfl rfl (fun a hf => ?_)
  have hs : St (muA A_p0_a_1) W W [.row A_p0_a_1 p0_a.length c_p0_a_1 107 3 ((recs GBond.cells) p0_a)] := St.startMut h_p0_a_1 (fun b hb => mem_muA hb)
  obtain ⟨w, hw_⟩ : ∃ w, w = W := ⟨W, rfl⟩
  clear hw_ w
  refine wpL_seq ?_
  refine wpL_region ?_
  refine sY hf hs rfl rfl rfl (Y_assign rfl rfl) ?_; clear hf; intro a hf
  refine wpO_nil ?_
  refine wpL_seq ?_
  refine wpL_seq ?_
  refine wpL_region ?_
  refine sY hf hs rfl rfl rfl (Y_assign rfl rfl) ?_; clear hf; intro a hf
  refine wpO_nil ?_
  obtain ⟨r51, hl52, hm⟩ := bind_some hm
  refine wpL_block (fun a w => ∃ xs48 : List GBond, ∃ x50 : Int, (xs48, x50) = r51 ∧ p0_a.length = xs48.length ∧ Fr a 34 [(1, .int .i64 x50)] ∧ St (muA A_p0_a_1) W w [.row A_p0_a_1 p0_a.length c_p0_a_1 107 3 ((recs GBond.cells) xs48)]) ?_ ?_
  · refine wpL_loop (fun n a w => ∃ xs31 : List GBond, ∃ x33 : Int, ∃ x34 : Int, laws_markBondS_L1 F n xs31 x33 x34 = some r51 ∧ p0_a.length = xs31.length ∧ Fr a 34 [(0, .slice A_p0_a_1 p0_a.length c_p0_a_1), (1, .int .i64 x33), (5, .int .i64 x34)] ∧ St (muA A_p0_a_1) W w [.row A_p0_a_1 p0_a.length c_p0_a_1 107 3 ((recs GBond.cells) xs31)]) F ?_ ?_ ?_
    · exact ⟨p0_a, p1_k, 0, hl52, rfl, (Fr.pick (Fr.pick (Fr.pick hf.none hf rfl) hf rfl) hf rfl), hs⟩
    · rintro a w ⟨xs31, x33, x34, h0_, -, -, -⟩; simp [laws_markBondS_L1] at h0_
    · rintro n54 a w ⟨xs31, x33, x34, hm53, hn32, hf, hs⟩
      rw [laws_markBondS_L1] at hm53
      refine wpL_seq ?_
      refine wpL_seq ?_
      refine wpL_region ?_
      refine sY hf hs rfl rfl rfl (Y_move rfl rfl) ?_; clear hf; intro a hf
      refine sY hf hs rfl rfl rfl (Y_move rfl rfl) ?_; clear hf; intro a hf
      refine sY hf hs rfl rfl rfl (Y_lenH rfl rfl el55 hn32) ?_; clear hf; intro a hf
      refine sY hf hs rfl rfl rfl (Y_lss rfl rfl rfl) ?_; clear hf; intro a hf
      refine wpO_nil ?_
      refine wpL_cond hf rfl (fun hb55 => ?_) (fun hb55 => ?_)
      · have hm53 := bif_t hm53 hb55
        refine wpL_skip ?_
        refine wpL_seq ?_
        refine wpL_block0 ?_
        refine wpL_seq ?_
        refine wpL_region ?_
        refine sY hf hs rfl rfl rfl (Y_move rfl rfl) ?_; clear hf; intro a hf
        refine sY hf hs rfl rfl rfl (Y_move rfl rfl) ?_; clear hf; intro a hf
        refine sY hf hs rfl rfl rfl (Y_move rfl rfl) ?_; clear hf; intro a hf
        obtain ⟨q56, hi57, hm53⟩ := bind_some hm53
        obtain ⟨hi57a, hi57b, hi57q⟩ := idx_some hi57
        refine sY hf hs rfl rfl rfl (Y_index rfl rfl rfl el55 ti107 (Rd.isAt (hs.rd (i := 0) rfl) (recs_at (s := 3) GBond.len hi57q (j := 0) rfl)) hi57a (ltn hn32 hi57b)) ?_; clear hf; intro a hf
        refine sY hf hs rfl rfl rfl (Y_fieldAddrE rfl rfl fo107_0) ?_; clear hf; intro a hf
        obtain ⟨xs58, hu59, hm53⟩ := bind_some hm53
        refine sStoreF (i := 0) (s := 3) (fo := 0) (f := GBond.cells) (x' := (GBond.mk x33 q56.To q56.Least)) hf hs rfl rfl rfl rfl rfl rfl hi57q hu59 ti2 rfl rfl rfl GBond.len rfl rfl ?_; clear hs; intro w hs
        have hs : St (muA A_p0_a_1) W w [.row A_p0_a_1 p0_a.length c_p0_a_1 107 3 ((recs GBond.cells) xs58)] := hs
        refine wpO_nil ?_
        refine wpL_seq ?_
        refine wpL_region ?_
        refine sY hf hs rfl rfl rfl (Y_move rfl rfl) ?_; clear hf; intro a hf
        refine sY hf hs rfl rfl rfl (Y_add rfl rfl rfl) ?_; clear hf; intro a hf
        refine sY hf hs rfl rfl rfl (Y_assign rfl rfl) ?_; clear hf; intro a hf
        refine wpO_nil ?_
        refine wpL_seq ?_
        refine wpL_region ?_
        refine sY hf hs rfl rfl rfl (Y_move rfl rfl) ?_; clear hf; intro a hf
        refine sY hf hs rfl rfl rfl (Y_move rfl rfl) ?_; clear hf; intro a hf
        refine sY hf hs rfl rfl rfl (Y_move rfl rfl) ?_; clear hf; intro a hf
        obtain ⟨q60, hi61, hm53⟩ := bind_some hm53
        obtain ⟨hi61a, hi61b, hi61q⟩ := idx_some hi61
        refine sY hf hs rfl rfl rfl (Y_index rfl rfl rfl el55 ti107 (Rd.isAt (hs.rd (i := 0) rfl) (recs_at (s := 3) GBond.len hi61q (j := 0) rfl)) hi61a (ltn ((hn32).trans (upd_len hu59).symm) hi61b)) ?_; clear hf; intro a hf
        refine sY hf hs rfl rfl rfl (Y_fieldAddrE rfl rfl fo107_1) ?_; clear hf; intro a hf
        obtain ⟨xs62, hu63, hm53⟩ := bind_some hm53
        refine sStoreF (i := 0) (s := 3) (fo := 1) (f := GBond.cells) (x' := (GBond.mk q60.From (IntKind.i64.wrap (x33 + 1)) q60.Least)) hf hs rfl rfl rfl rfl rfl rfl hi61q hu63 ti2 rfl rfl rfl GBond.len rfl rfl ?_; clear hs; intro w hs
        have hs : St (muA A_p0_a_1) W w [.row A_p0_a_1 p0_a.length c_p0_a_1 107 3 ((recs GBond.cells) xs62)] := hs
        refine wpO_nil ?_
        refine wpL_seq ?_
        refine wpL_region ?_
        refine sY hf hs rfl rfl rfl (Y_move rfl rfl) ?_; clear hf; intro a hf
        refine sY hf hs rfl rfl rfl (Y_add rfl rfl rfl) ?_; clear hf; intro a hf
        refine sY hf hs rfl rfl rfl (Y_assign rfl rfl) ?_; clear hf; intro a hf
        refine wpO_nil ?_
        refine wpL_seq ?_
        refine wpL_region ?_
        refine sY hf hs rfl rfl rfl (Y_move rfl rfl) ?_; clear hf; intro a hf
        refine sY hf hs rfl rfl rfl (Y_move rfl rfl) ?_; clear hf; intro a hf
        refine sY hf hs rfl rfl rfl (Y_move rfl rfl) ?_; clear hf; intro a hf
        obtain ⟨q64, hi65, hm53⟩ := bind_some hm53
        obtain ⟨hi65a, hi65b, hi65q⟩ := idx_some hi65
        refine sY hf hs rfl rfl rfl (Y_index rfl rfl rfl el55 ti107 (Rd.isAt (hs.rd (i := 0) rfl) (recs_at (s := 3) GBond.len hi65q (j := 0) rfl)) hi65a (ltn ((((hn32).trans (upd_len hu59).symm)).trans (upd_len hu63).symm) hi65b)) ?_; clear hf; intro a hf
        refine sY hf hs rfl rfl rfl (Y_fieldAddrE rfl rfl fo107_2) ?_; clear hf; intro a hf
        obtain ⟨xs66, hu67, hm53⟩ := bind_some hm53
        refine sStoreF (i := 0) (s := 3) (fo := 2) (f := GBond.cells) (x' := (GBond.mk q64.From q64.To (IntKind.i64.wrap ((IntKind.i64.wrap (x33 + 1)) + 1)))) hf hs rfl rfl rfl rfl rfl rfl hi65q hu67 ti2 rfl rfl rfl GBond.len rfl rfl ?_; clear hs; intro w hs
        have hs : St (muA A_p0_a_1) W w [.row A_p0_a_1 p0_a.length c_p0_a_1 107 3 ((recs GBond.cells) xs66)] := hs
        refine wpO_nil ?_
        refine wpL_region ?_
        refine sY hf hs rfl rfl rfl (Y_move rfl rfl) ?_; clear hf; intro a hf
        refine sY hf hs rfl rfl rfl (Y_add rfl rfl rfl) ?_; clear hf; intro a hf
        refine sY hf hs rfl rfl rfl (Y_assign rfl rfl) ?_; clear hf; intro a hf
        refine wpO_nil ?_
        refine wpL_nil (Qb_normal ?_)
        refine wpL_region ?_
        refine sY hf hs rfl rfl rfl (Y_move rfl rfl) ?_; clear hf; intro a hf
        refine sY hf hs rfl rfl rfl (Y_add rfl rfl rfl) ?_; clear hf; intro a hf
        refine sY hf hs rfl rfl rfl (Y_assign rfl rfl) ?_; clear hf; intro a hf
        refine wpO_nil ?_
        refine wpL_nil (Ql_normal ?_)
        exact ⟨xs66, (IntKind.i64.wrap ((IntKind.i64.wrap ((IntKind.i64.wrap (x33 + 1)) + 1)) + 1)), (IntKind.i64.wrap (x34 + 1)), hm53, ((((((hn32).trans (upd_len hu59).symm)).trans (upd_len hu63).symm)).trans (upd_len hu67).symm), (Fr.pick (Fr.pick (Fr.pick hf.none hf rfl) hf rfl) hf rfl), hs⟩
      · have hm53 := bif_f hm53 hb55
        refine wpL_exit (Ql_exit (Qb_exit ?_))
        exact ⟨xs31, x33, Option.some.inj hm53, hn32, (Fr.pick hf.none hf rfl), hs⟩
  · rintro a w ⟨xs48, x50, hr_, hn49, hf, hs⟩
    subst hr_
    try dsimp only at hm
    refine wpL_seq ?_
    refine wpL_region ?_
    refine sY hf hs rfl rfl rfl (Y_move rfl rfl) ?_; clear hf; intro a hf
    refine sY hf hs rfl rfl rfl (Y_assign rfl rfl) ?_; clear hf; intro a hf
    refine wpO_nil ?_
    obtain rfl := Option.some.inj hm
    refine wpL_ret (ret_tmp rfl hf rfl ?_)
    exact ⟨_, rfl, rfl, hn49, hs⟩

set_option maxRecDepth 100000 in
theorem laws_markInt64S_ok (F : Nat) (p0_a : List Int) (A_p0_a_1 : Option Addr) (n_p0_a_1 c_p0_a_1 : Nat) (hn_p0_a_1 : n_p0_a_1 = p0_a.length) (p1_k : Int) (r : (Int) × List Int) (W : World) (hm : laws_markInt64S F p0_a p1_k = some r) (h_p0_a_1 : (Res.row A_p0_a_1 n_p0_a_1 c_p0_a_1 2 1 (ints p0_a) : Res).holds 0 W) :
    Calls Try.prog 28 [.slice A_p0_a_1 n_p0_a_1 c_p0_a_1, .int .i64 p1_k].toArray W fun e w' => ∃ v, e = .returned v ∧ v = .int .i64 r.1 ∧ n_p0_a_1 = r.2.length ∧ St (muA A_p0_a_1) W w' [.row A_p0_a_1 n_p0_a_1 c_p0_a_1 2 1 (ints r.2)] := by
  subst hn_p0_a_1
  unfold laws_markInt64S at hm
  refine Calls.enter (N := 19) Try.func28 rfl rfl rfl (fun a hf => ?_)
  have hs : St (muA A_p0_a_1) W W [.row A_p0_a_1 p0_a.length c_p0_a_1 2 1 (ints p0_a)] := St.startMut h_p0_a_1 (fun b hb => mem_muA hb)
  obtain ⟨w, hw_⟩ : ∃ w, w = W := ⟨W, rfl⟩
  clear hw_ w
  refine wpL_seq ?_
  refine wpL_region ?_
  refine sY hf hs rfl rfl rfl (Y_assign rfl rfl) ?_; clear hf; intro a hf
  refine wpO_nil ?_
  refine wpL_seq ?_
  refine wpL_seq ?_
  refine wpL_region ?_
  refine sY hf hs rfl rfl rfl (Y_assign rfl rfl) ?_; clear hf; intro a hf
  refine wpO_nil ?_
  obtain ⟨r27, hl28, hm⟩ := bind_some hm
  refine wpL_block (fun a w => ∃ xs24 : List Int, ∃ x26 : Int, (xs24, x26) = r27 ∧ p0_a.length = xs24.length ∧ Fr a 19 [(1, .int .i64 x26)] ∧ St (muA A_p0_a_1) W w [.row A_p0_a_1 p0_a.length c_p0_a_1 2 1 (ints xs24)]) ?_ ?_
  · refine wpL_loop (fun n a w => ∃ xs15 : List Int, ∃ x17 : Int, ∃ x18 : Int, laws_markInt64S_L1 F n xs15 x17 x18 = some r27 ∧ p0_a.length = xs15.length ∧ Fr a 19 [(0, .slice A_p0_a_1 p0_a.length c_p0_a_1), (1, .int .i64 x17), (5, .int .i64 x18)] ∧ St (muA A_p0_a_1) W w [.row A_p0_a_1 p0_a.length c_p0_a_1 2 1 (ints xs15)]) F ?_ ?_ ?_
    · exact ⟨p0_a, p1_k, 0, hl28, rfl, (Fr.pick (Fr.pick (Fr.pick hf.none hf rfl) hf rfl) hf rfl), hs⟩
    · rintro a w ⟨xs15, x17, x18, h0_, -, -, -⟩; simp [laws_markInt64S_L1] at h0_
    · rintro n30 a w ⟨xs15, x17, x18, hm29, hn16, hf, hs⟩
      rw [laws_markInt64S_L1] at hm29
      refine wpL_seq ?_
      refine wpL_seq ?_
      refine wpL_region ?_
      refine sY hf hs rfl rfl rfl (Y_move rfl rfl) ?_; clear hf; intro a hf
      refine sY hf hs rfl rfl rfl (Y_move rfl rfl) ?_; clear hf; intro a hf
      refine sY hf hs rfl rfl rfl (Y_lenH rfl rfl el36 hn16) ?_; clear hf; intro a hf
      refine sY hf hs rfl rfl rfl (Y_lss rfl rfl rfl) ?_; clear hf; intro a hf
      refine wpO_nil ?_
      refine wpL_cond hf rfl (fun hb31 => ?_) (fun hb31 => ?_)
      · have hm29 := bif_t hm29 hb31
        refine wpL_skip ?_
        refine wpL_seq ?_
        refine wpL_block0 ?_
        refine wpL_seq ?_
        refine wpL_region ?_
        refine sY hf hs rfl rfl rfl (Y_move rfl rfl) ?_; clear hf; intro a hf
        refine sY hf hs rfl rfl rfl (Y_move rfl rfl) ?_; clear hf; intro a hf
        refine sY hf hs rfl rfl rfl (Y_move rfl rfl) ?_; clear hf; intro a hf
        obtain ⟨q32, hi33, hm29⟩ := bind_some hm29
        obtain ⟨hi33a, hi33b, hi33q⟩ := idx_some hi33
        refine sY hf hs rfl rfl rfl (Y_index rfl rfl rfl el36 ti2 (Rd.isAt (hs.rd (i := 0) rfl) (at1 (ints_at hi33q))) hi33a (ltn hn16 hi33b)) ?_; clear hf; intro a hf
        obtain ⟨xs34, hu35, hm29⟩ := bind_some hm29
        refine sStoreL (i := 0) (us := [.int .i64 x17]) (enc := ints) hf hs rfl rfl rfl rfl rfl rfl hn16 hu35 ti2 rfl rfl rfl rfl rfl ints_len1 (ints_set x17) ?_; clear hs; intro w hs
        have hs : St (muA A_p0_a_1) W w [.row A_p0_a_1 p0_a.length c_p0_a_1 2 1 (ints xs34)] := hs
        refine wpO_nil ?_
        refine wpL_region ?_
        refine sY hf hs rfl rfl rfl (Y_move rfl rfl) ?_; clear hf; intro a hf
        refine sY hf hs rfl rfl rfl (Y_add rfl rfl rfl) ?_; clear hf; intro a hf
        refine sY hf hs rfl rfl rfl (Y_assign rfl rfl) ?_; clear hf; intro a hf
        refine wpO_nil ?_
        refine wpL_nil (Qb_normal ?_)
        refine wpL_region ?_
        refine sY hf hs rfl rfl rfl (Y_move rfl rfl) ?_; clear hf; intro a hf
        refine sY hf hs rfl rfl rfl (Y_add rfl rfl rfl) ?_; clear hf; intro a hf
        refine sY hf hs rfl rfl rfl (Y_assign rfl rfl) ?_; clear hf; intro a hf
        refine wpO_nil ?_
        refine wpL_nil (Ql_normal ?_)
        exact ⟨xs34, (IntKind.i64.wrap (x17 + 1)), (IntKind.i64.wrap (x18 + 1)), hm29, ((hn16).trans (upd_len hu35).symm), (Fr.pick (Fr.pick (Fr.pick hf.none hf rfl) hf rfl) hf rfl), hs⟩
      · have hm29 := bif_f hm29 hb31
        refine wpL_exit (Ql_exit (Qb_exit ?_))
        exact ⟨xs15, x17, Option.some.inj hm29, hn16, (Fr.pick hf.none hf rfl), hs⟩
  · rintro a w ⟨xs24, x26, hr_, hn25, hf, hs⟩
    subst hr_
    try dsimp only at hm
    refine wpL_seq ?_
    refine wpL_region ?_
    refine sY hf hs rfl rfl rfl (Y_move rfl rfl) ?_; clear hf; intro a hf
    refine sY hf hs rfl rfl rfl (Y_assign rfl rfl) ?_; clear hf; intro a hf
    refine wpO_nil ?_
    obtain rfl := Option.some.inj hm
    refine wpL_ret (ret_tmp rfl hf rfl ?_)
    exact ⟨_, rfl, rfl, hn25, hs⟩

set_option maxRecDepth 100000 in
theorem laws_heldInt64S_ok (F : Nat) (p0_a : List Int) (A_p0_a_1 : Option Addr) (n_p0_a_1 c_p0_a_1 : Nat) (hn_p0_a_1 : n_p0_a_1 = p0_a.length) (p1_k : Int) (r : Int) (W : World) (hm : laws_heldInt64S F p0_a p1_k = some r) (h_p0_a_1 : Rd W A_p0_a_1 (ints p0_a)) :
    Calls Try.prog 29 [.slice A_p0_a_1 n_p0_a_1 c_p0_a_1, .int .i64 p1_k].toArray W fun e w' => ∃ v, e = .returned v ∧ v = .int .i64 r ∧ St [] W w' [] := by
  subst hn_p0_a_1
  unfold laws_heldInt64S at hm
  refine Calls.enter (N := 21) Try.func29 rfl rfl rfl (fun a hf => ?_)
  have hs := St.start W
  obtain ⟨w, hw_⟩ : ∃ w, w = W := ⟨W, rfl⟩
  clear hw_ w
  refine wpL_seq ?_
  refine wpL_region ?_
  refine sY hf hs rfl rfl rfl (Y_assign rfl rfl) ?_; clear hf; intro a hf
  refine wpO_nil ?_
  refine wpL_seq ?_
  refine wpL_seq ?_
  refine wpL_region ?_
  refine sY hf hs rfl rfl rfl (Y_assign rfl rfl) ?_; clear hf; intro a hf
  refine wpO_nil ?_
  obtain ⟨r18, hl19, hm⟩ := bind_some hm
  refine wpL_block (fun a w => ∃ x17 : Int, Sum.inr x17 = r18 ∧ Fr a 21 [(1, .int .i64 x17)] ∧ St [] W w []) ?_ ?_
  · refine wpL_loop (fun n a w => ∃ x11 : Int, ∃ x12 : Int, laws_heldInt64S_L1 F p0_a n x11 x12 = some r18 ∧ Fr a 21 [(0, .slice A_p0_a_1 p0_a.length c_p0_a_1), (1, .int .i64 x11), (5, .int .i64 x12)] ∧ St [] W w []) F ?_ ?_ ?_
    · exact ⟨p1_k, 0, hl19, (Fr.pick (Fr.pick (Fr.pick hf.none hf rfl) hf rfl) hf rfl), hs⟩
    · rintro a w ⟨x11, x12, h0_, -, -⟩; simp [laws_heldInt64S_L1] at h0_
    · rintro n21 a w ⟨x11, x12, hm20, hf, hs⟩
      rw [laws_heldInt64S_L1] at hm20
      refine wpL_seq ?_
      refine wpL_seq ?_
      refine wpL_region ?_
      refine sY hf hs rfl rfl rfl (Y_move rfl rfl) ?_; clear hf; intro a hf
      refine sY hf hs rfl rfl rfl (Y_move rfl rfl) ?_; clear hf; intro a hf
      refine sY hf hs rfl rfl rfl (Y_lenH rfl rfl el36 rfl) ?_; clear hf; intro a hf
      refine sY hf hs rfl rfl rfl (Y_lss rfl rfl rfl) ?_; clear hf; intro a hf
      refine wpO_nil ?_
      refine wpL_cond hf rfl (fun hb22 => ?_) (fun hb22 => ?_)
      · have hm20 := bif_t hm20 hb22
        refine wpL_skip ?_
        refine wpL_seq ?_
        refine wpL_block0 ?_
        refine wpL_seq ?_
        refine wpL_seq ?_
        refine wpL_region ?_
        refine sY hf hs rfl rfl rfl (Y_move rfl rfl) ?_; clear hf; intro a hf
        refine sY hf hs rfl rfl rfl (Y_move rfl rfl) ?_; clear hf; intro a hf
        obtain ⟨q23, hi24, hm20⟩ := bind_some hm20
        obtain ⟨hi24a, hi24b, hi24q⟩ := idx_some hi24
        refine sY hf hs rfl rfl rfl (Y_index rfl rfl rfl el36 ti2 (Rd.isAt (h_p0_a_1.at hs) (at1 (ints_at hi24q))) hi24a hi24b) ?_; clear hf; intro a hf
        refine sY hf hs rfl rfl rfl (Y_load_rd rfl rfl (fun w hs => h_p0_a_1.at hs) (at1 (ints_at hi24q)) ag2) ?_; clear hf; intro a hf
        refine sY hf hs rfl rfl rfl (Y_move rfl rfl) ?_; clear hf; intro a hf
        refine sY hf hs rfl rfl rfl (Y_neq rfl rfl rfl) ?_; clear hf; intro a hf
        refine wpO_nil ?_
        refine wpL_cond hf rfl (fun hb25 => ?_) (fun hb25 => ?_)
        · have hm20 := bif_t hm20 hb25
          refine wpL_seq ?_
          refine wpL_region ?_
          refine sY hf hs rfl rfl rfl (Y_assign rfl rfl) ?_; clear hf; intro a hf
          refine wpO_nil ?_
          obtain rfl := Option.some.inj hm20
          try dsimp only at hm
          obtain rfl := Option.some.inj hm
          refine wpL_ret (Qb_ret (Ql_ret (Qb_ret (ret_tmp rfl hf rfl ?_))))
          exact ⟨_, rfl, rfl, hs⟩
        · have hm20 := bif_f hm20 hb25
          refine wpL_skip ?_
          refine wpL_region ?_
          refine sY hf hs rfl rfl rfl (Y_move rfl rfl) ?_; clear hf; intro a hf
          refine sY hf hs rfl rfl rfl (Y_add rfl rfl rfl) ?_; clear hf; intro a hf
          refine sY hf hs rfl rfl rfl (Y_assign rfl rfl) ?_; clear hf; intro a hf
          refine wpO_nil ?_
          refine wpL_nil (Qb_normal ?_)
          refine wpL_region ?_
          refine sY hf hs rfl rfl rfl (Y_move rfl rfl) ?_; clear hf; intro a hf
          refine sY hf hs rfl rfl rfl (Y_add rfl rfl rfl) ?_; clear hf; intro a hf
          refine sY hf hs rfl rfl rfl (Y_assign rfl rfl) ?_; clear hf; intro a hf
          refine wpO_nil ?_
          refine wpL_nil (Ql_normal ?_)
          exact ⟨(IntKind.i64.wrap (x11 + 1)), (IntKind.i64.wrap (x12 + 1)), hm20, (Fr.pick (Fr.pick (Fr.pick hf.none hf rfl) hf rfl) hf rfl), hs⟩
      · have hm20 := bif_f hm20 hb22
        refine wpL_exit (Ql_exit (Qb_exit ?_))
        exact ⟨x11, Option.some.inj hm20, (Fr.pick hf.none hf rfl), hs⟩
  · rintro a w ⟨x17, hr_, hf, hs⟩
    subst hr_
    try dsimp only at hm
    refine wpL_seq ?_
    refine wpL_region ?_
    refine sY hf hs rfl rfl rfl (Y_move rfl rfl) ?_; clear hf; intro a hf
    refine sY hf hs rfl rfl rfl (Y_assign rfl rfl) ?_; clear hf; intro a hf
    refine wpO_nil ?_
    obtain rfl := Option.some.inj hm
    refine wpL_ret (ret_tmp rfl hf rfl ?_)
    exact ⟨_, rfl, rfl, hs⟩

end Go.Proofs.Ytmijmamolmoheaa
