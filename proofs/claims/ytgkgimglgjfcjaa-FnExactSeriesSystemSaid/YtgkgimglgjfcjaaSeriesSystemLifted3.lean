/- The functions do what their models say. -/
import Derived.Test.YtgkgimglgjfcjaaSeriesSystemLifted2
import Derived.Test.YtgkgimglgjfcjaaRows
namespace Go.Proofs.Ytgkgimglgjfcjaa
open Go.RowKit

set_option maxRecDepth 100000 in
theorem slices_Concat_int64_ok (F : Nat) (p0_slices : List (List Int)) (A_p0_slices_1 : Option Addr) (n_p0_slices_1 c_p0_slices_1 : Nat) (hn_p0_slices_1 : n_p0_slices_1 = p0_slices.length) (r : List Int) (W : World) (hm : slices_Concat_int64 F p0_slices = some r) (h_p0_slices_1 : RdM W A_p0_slices_1 p0_slices) :
    Calls Try.prog 92 [.slice A_p0_slices_1 n_p0_slices_1 c_p0_slices_1].toArray W fun e w' => ∃ v, e = .returned v ∧ ∃ A137, ∃ n138, ∃ c139, v = .slice A137 n138 c139 ∧ n138 = r.length ∧ St [] W w' [.row A137 n138 c139 2 1 (ints r)] := by
  subst hn_p0_slices_1
  unfold slices_Concat_int64 at hm
  refine Calls.enter (N := 36) Try.func92 rfl rfl rfl (fun a hf => ?_)
  have hs := St.start W
  obtain ⟨w, hw_⟩ : ∃ w, w = W := ⟨W, rfl⟩
  clear hw_ w
  refine wpL_seq ?_
  refine wpL_region ?_
  refine sY hf hs rfl rfl rfl (Y_assign rfl rfl) ?_; clear hf; intro a hf
  refine wpO_nil ?_
  refine wpL_seq ?_
  refine wpL_region ?_
  refine sY hf hs rfl rfl rfl (Y_assign rfl rfl) ?_; clear hf; intro a hf
  refine wpO_nil ?_
  refine wpL_seq ?_
  refine wpL_seq ?_
  refine wpL_region ?_
  refine sY hf hs rfl rfl rfl (Y_move rfl rfl) ?_; clear hf; intro a hf
  refine sY hf hs rfl rfl rfl (Y_lenH rfl rfl el22 rfl) ?_; clear hf; intro a hf
  refine sY hf hs rfl rfl rfl (Y_move rfl rfl) ?_; clear hf; intro a hf
  refine wpO_nil ?_
  obtain ⟨r39, hl40, hm⟩ := bind_some hm
  refine wpL_block (fun a w => ∃ x38 : Int, x38 = r39 ∧ Fr a 36 [(0, .slice A_p0_slices_1 p0_slices.length c_p0_slices_1), (3, .int .i64 x38)] ∧ St [] W w []) ?_ ?_
  · refine wpL_loop (fun n a w => ∃ x25 : Int, ∃ x26 : Int, slices_Concat_int64_L1 F p0_slices n x25 x26 = some r39 ∧ Fr a 36 [(0, .slice A_p0_slices_1 p0_slices.length c_p0_slices_1), (3, .int .i64 x25), (9, .slice A_p0_slices_1 p0_slices.length c_p0_slices_1), (10, .int .i64 (p0_slices.length : Int)), (11, .int .i64 x26)] ∧ St [] W w []) F ?_ ?_ ?_
    · exact ⟨0, 0, hl40, (FrD.pick (FrD.pick (FrD.pick (FrD.pick (FrD.pick hf.none hf rfl) hf rfl) hf rfl) hf rfl) hf rfl), hs⟩
    · rintro a w ⟨x25, x26, h0_, -, -⟩; simp [slices_Concat_int64_L1] at h0_
    · rintro n42 a w ⟨x25, x26, hm41, hf, hs⟩
      rw [slices_Concat_int64_L1] at hm41
      refine wpL_seq ?_
      refine wpL_region ?_
      refine sY hf hs rfl rfl rfl (Y_lss rfl rfl rfl) ?_; clear hf; intro a hf
      refine wpO_nil ?_
      refine wpL_seq ?_
      refine wpL_cond hf rfl (fun hb43 => ?_) (fun hb43 => ?_)
      · have hm41 := bif_t hm41 hb43
        refine wpL_skip ?_
        refine wpL_seq ?_
        refine wpL_block0 ?_
        refine wpL_seq ?_
        refine wpL_region ?_
        obtain ⟨q44, hi45, hm41⟩ := bind_some hm41
        obtain ⟨hi45a, hi45b, hi45q⟩ := idx_some hi45
        obtain ⟨vs46, hv47, hr48⟩ := id h_p0_slices_1
        obtain ⟨A49, c50, hv51, hR52⟩ := hr48 _ _ hi45q
        refine sY hf hs rfl rfl rfl (Y_index rfl rfl rfl el22 ti23 (Rd.isAt hv47 hv51) hi45a hi45b) ?_; clear hf; intro a hf
        refine sY hf hs rfl rfl rfl (Y_load_rd rfl rfl (fun w hs => hv47.at hs) (at1 hv51) ag23) ?_; clear hf; intro a hf
        refine sY hf hs rfl rfl rfl (Y_assign rfl rfl) ?_; clear hf; intro a hf
        refine wpO_nil ?_
        refine wpL_seq ?_
        refine wpL_region ?_
        refine sY hf hs rfl rfl rfl (Y_move rfl rfl) ?_; clear hf; intro a hf
        refine sY hf hs rfl rfl rfl (Y_move rfl rfl) ?_; clear hf; intro a hf
        refine sY hf hs rfl rfl rfl (Y_lenH rfl rfl el23 rfl) ?_; clear hf; intro a hf
        refine sY hf hs rfl rfl rfl (Y_add rfl rfl rfl) ?_; clear hf; intro a hf
        refine sY hf hs rfl rfl rfl (Y_assign rfl rfl) ?_; clear hf; intro a hf
        refine wpO_nil ?_
        refine wpL_seq ?_
        refine wpL_region ?_
        refine sY hf hs rfl rfl rfl (Y_move rfl rfl) ?_; clear hf; intro a hf
        refine sY hf hs rfl rfl rfl (Y_lss rfl rfl rfl) ?_; clear hf; intro a hf
        refine wpO_nil ?_
        refine wpL_cond hf rfl (fun hb53 => ?_) (fun hb53 => ?_)
        · have hm41 := bif_t hm41 hb53
          cases hm41
        · have hm41 := bif_f hm41 hb53
          refine wpL_skip ?_
          refine wpL_nil (Qb_normal ?_)
          refine wpL_region ?_
          refine sY hf hs rfl rfl rfl (Y_add rfl rfl rfl) ?_; clear hf; intro a hf
          refine sY hf hs rfl rfl rfl (Y_move rfl rfl) ?_; clear hf; intro a hf
          refine wpO_nil ?_
          refine wpL_nil (Ql_normal ?_)
          exact ⟨(IntKind.i64.wrap (x25 + (q44.length : Int))), (IntKind.i64.wrap (x26 + 1)), hm41, (FrD.pick (FrD.pick (FrD.pick (FrD.pick (FrD.pick hf.none hf rfl) hf rfl) hf rfl) hf rfl) hf rfl), hs⟩
      · have hm41 := bif_f hm41 hb43
        refine wpL_exit (Ql_exit (Qb_exit ?_))
        exact ⟨x25, Option.some.inj hm41, (FrD.pick (FrD.pick hf.none hf rfl) hf rfl), hs⟩
  · rintro a w ⟨x38, hr_, hf, hs⟩
    subst hr_
    try dsimp only at hm
    refine wpL_seq ?_
    refine wpL_region ?_
    refine sY hf hs rfl rfl rfl (Y_move rfl rfl) ?_; clear hf; intro a hf
    obtain ⟨r54, hc55, hm⟩ := bind_some hm
    refine sCall hf rfl rfl rfl rfl (cap := []) rfl rfl en163 (slices_Grow_int64_ok F x38 _ _ hc55) ?_; clear hf
    rintro _ w ⟨A56, n57, c58, rfl, hn59, hs1⟩ a hf
    have hs : St [] W w [.row A56 n57 c58 2 1 (ints r54)] := hs.join hs1
    clear hs1
    refine sY hf hs rfl rfl rfl (Y_assign rfl rfl) ?_; clear hf; intro a hf
    refine wpO_nil ?_
    refine wpL_seq ?_
    refine wpL_seq ?_
    refine wpL_region ?_
    refine sY hf hs rfl rfl rfl (Y_move rfl rfl) ?_; clear hf; intro a hf
    refine sY hf hs rfl rfl rfl (Y_lenH rfl rfl el22 rfl) ?_; clear hf; intro a hf
    refine sY hf hs rfl rfl rfl (Y_move rfl rfl) ?_; clear hf; intro a hf
    refine wpO_nil ?_
    obtain ⟨r119, hl120, hm⟩ := bind_some hm
    refine wpL_block (fun a w => ∃ xs114 : List Int, ∃ A115, ∃ n116, ∃ c117, xs114 = r119 ∧ n116 = xs114.length ∧ Fr a 36 [(6, .slice A115 n116 c117)] ∧ St [] W w [.row A115 n116 c117 2 1 (ints xs114)]) ?_ ?_
    · refine wpL_loop (fun n a w => ∃ xs94 : List Int, ∃ x99 : Int, ∃ A95, ∃ n96, ∃ c97, slices_Concat_int64_L2 F p0_slices n xs94 x99 = some r119 ∧ n96 = xs94.length ∧ Fr a 36 [(6, .slice A95 n96 c97), (25, .slice A_p0_slices_1 p0_slices.length c_p0_slices_1), (26, .int .i64 (p0_slices.length : Int)), (27, .int .i64 x99)] ∧ St [] W w [.row A95 n96 c97 2 1 (ints xs94)]) F ?_ ?_ ?_
      · exact ⟨r54, 0, A56, n57, c58, hl120, hn59, (FrD.pick (FrD.pick (FrD.pick (FrD.pick hf.none hf rfl) hf rfl) hf rfl) hf rfl), hs⟩
      · rintro a w ⟨xs94, x99, A95, n96, c97, h0_, -, -, -⟩; simp [slices_Concat_int64_L2] at h0_
      · rintro n122 a w ⟨xs94, x99, A95, n96, c97, hm121, hn98, hf, hs⟩
        rw [slices_Concat_int64_L2] at hm121
        refine wpL_seq ?_
        refine wpL_region ?_
        refine sY hf hs rfl rfl rfl (Y_lss rfl rfl rfl) ?_; clear hf; intro a hf
        refine wpO_nil ?_
        refine wpL_seq ?_
        refine wpL_cond hf rfl (fun hb123 => ?_) (fun hb123 => ?_)
        · have hm121 := bif_t hm121 hb123
          refine wpL_skip ?_
          refine wpL_seq ?_
          refine wpL_block0 ?_
          refine wpL_seq ?_
          refine wpL_region ?_
          obtain ⟨q124, hi125, hm121⟩ := bind_some hm121
          obtain ⟨hi125a, hi125b, hi125q⟩ := idx_some hi125
          obtain ⟨vs126, hv127, hr128⟩ := id h_p0_slices_1
          obtain ⟨A129, c130, hv131, hR132⟩ := hr128 _ _ hi125q
          refine sY hf hs rfl rfl rfl (Y_index rfl rfl rfl el22 ti23 (Rd.isAt hv127 hv131) hi125a hi125b) ?_; clear hf; intro a hf
          refine sY hf hs rfl rfl rfl (Y_load_rd rfl rfl (fun w hs => hv127.at hs) (at1 hv131) ag23) ?_; clear hf; intro a hf
          refine sY hf hs rfl rfl rfl (Y_assign rfl rfl) ?_; clear hf; intro a hf
          refine wpO_nil ?_
          refine wpL_region ?_
          refine sY hf hs rfl rfl rfl (Y_move rfl rfl) ?_; clear hf; intro a hf
          refine sY hf hs rfl rfl rfl (Y_move rfl rfl) ?_; clear hf; intro a hf
          obtain ⟨xs135, ha136, hm121⟩ := bind_some hm121
          refine sAppendG (i := 0) (xs := xs94) (ys := q124) (enc := ints) hf hs rfl rfl rfl rfl rfl rfl hn98 rfl rfl ha136 el23 ti2 rfl rfl rfl (hR132.at hs) ints_len1 ints_append ints_one ?_; clear hf hs; intro a w A133 c134 hs hf
          have hs : St [] W w [.row A133 xs135.length c134 2 1 (ints xs135)] := hs
          refine sY hf hs rfl rfl rfl (Y_assign rfl rfl) ?_; clear hf; intro a hf
          refine wpO_nil ?_
          refine wpL_nil (Qb_normal ?_)
          refine wpL_region ?_
          refine sY hf hs rfl rfl rfl (Y_add rfl rfl rfl) ?_; clear hf; intro a hf
          refine sY hf hs rfl rfl rfl (Y_move rfl rfl) ?_; clear hf; intro a hf
          refine wpO_nil ?_
          refine wpL_nil (Ql_normal ?_)
          exact ⟨xs135, (IntKind.i64.wrap (x99 + 1)), A133, xs135.length, c134, hm121, rfl, (FrD.pick (FrD.pick (FrD.pick (FrD.pick hf.none hf rfl) hf rfl) hf rfl) hf rfl), hs⟩
        · have hm121 := bif_f hm121 hb123
          refine wpL_exit (Ql_exit (Qb_exit ?_))
          exact ⟨xs94, A95, n96, c97, Option.some.inj hm121, hn98, (FrD.pick hf.none hf rfl), hs⟩
    · rintro a w ⟨xs114, A115, n116, c117, hr_, hn118, hf, hs⟩
      subst hr_
      try dsimp only at hm
      refine wpL_seq ?_
      refine wpL_region ?_
      refine sY hf hs rfl rfl rfl (Y_move rfl rfl) ?_; clear hf; intro a hf
      refine sY hf hs rfl rfl rfl (Y_assign rfl rfl) ?_; clear hf; intro a hf
      refine wpO_nil ?_
      obtain rfl := Option.some.inj hm
      refine wpL_ret (ret_tmp rfl hf rfl ?_)
      exact ⟨_, rfl, A115, n116, c117, rfl, hn118, hs⟩

set_option maxRecDepth 100000 in
theorem impl_checkedSystem_ok (F : Nat) (p0_s : GSystem) (A_p0_s_1 : Option Addr) (n_p0_s_1 c_p0_s_1 : Nat) (hn_p0_s_1 : n_p0_s_1 = p0_s.A.length) (A_p0_s_2 : Option Addr) (n_p0_s_2 c_p0_s_2 : Nat) (hn_p0_s_2 : n_p0_s_2 = p0_s.B.length) (A_p0_s_3 : Option Addr) (n_p0_s_3 c_p0_s_3 : Nat) (hn_p0_s_3 : n_p0_s_3 = p0_s.C.length) (r : GSystem × Int) (W : World) (hm : impl_checkedSystem F p0_s = some r) (h_p0_s_1 : RdM W A_p0_s_1 p0_s.A) (h_p0_s_2 : Rd W A_p0_s_2 (ints p0_s.B)) (h_p0_s_3 : Rd W A_p0_s_3 (ints p0_s.C)) :
    Calls Try.prog 94 [.agg #[.slice A_p0_s_1 n_p0_s_1 c_p0_s_1, .slice A_p0_s_2 n_p0_s_2 c_p0_s_2, .slice A_p0_s_3 n_p0_s_3 c_p0_s_3]].toArray W fun e w' => ∃ v, e = .returned v ∧ ∃ A6, ∃ n7, ∃ c8, ∃ A11, ∃ n12, ∃ c13, ∃ A16, ∃ n17, ∃ c18, v = .tuple #[.agg #[.slice A6 n7 c8, .slice A11 n12 c13, .slice A16 n17 c18], .int .i64 r.2] ∧ n7 = r.1.A.length ∧ Al A_p0_s_1 n_p0_s_1 c_p0_s_1 p0_s.A A6 n7 c8 r.1.A ∧ n12 = r.1.B.length ∧ Al A_p0_s_2 n_p0_s_2 c_p0_s_2 p0_s.B A11 n12 c13 r.1.B ∧ n17 = r.1.C.length ∧ Al A_p0_s_3 n_p0_s_3 c_p0_s_3 p0_s.C A16 n17 c18 r.1.C ∧ St [] W w' [] := by
  subst hn_p0_s_1
  subst hn_p0_s_2
  subst hn_p0_s_3
  unfold impl_checkedSystem at hm
  refine Calls.enter (N := 9) Try.func94 rfl rfl rfl (fun a hf => ?_)
  have hs := St.start W
  obtain ⟨w, hw_⟩ : ∃ w, w = W := ⟨W, rfl⟩
  clear hw_ w
  refine wpL_seq ?_
  refine wpL_region ?_
  refine sBox hf hs rfl rfl rfl rfl rfl (cs := [.slice A_p0_s_1 p0_s.A.length c_p0_s_1, .slice A_p0_s_2 p0_s.B.length c_p0_s_2, .slice A_p0_s_3 p0_s.C.length c_p0_s_3]) rfl ?_; clear hf hs; intro a w b1 hs hf
  have hs : St [] W w [.blk b1 27 [.slice A_p0_s_1 p0_s.A.length c_p0_s_1, .slice A_p0_s_2 p0_s.B.length c_p0_s_2, .slice A_p0_s_3 p0_s.C.length c_p0_s_3]] := hs
  refine sAlloc hf hs rfl rfl rfl rfl ti27 ?_; clear hf hs; intro a w b2 hs hf
  have hs : St [] W w [.blk b1 27 [.slice A_p0_s_1 p0_s.A.length c_p0_s_1, .slice A_p0_s_2 p0_s.B.length c_p0_s_2, .slice A_p0_s_3 p0_s.C.length c_p0_s_3], .blk b2 27 [.slice none 0 0, .slice none 0 0, .slice none 0 0]] := hs
  refine sY hf hs rfl rfl rfl (Y_assign rfl rfl) ?_; clear hf; intro a hf
  refine wpO_nil ?_
  refine wpL_seq ?_
  refine wpL_seq ?_
  refine wpL_region ?_
  refine sY hf hs rfl rfl rfl (Y_load_blkS rfl rfl (i := 0) rfl ag27 ti27 rfl) ?_; clear hf; intro a hf
  obtain ⟨r3, hc4, hm⟩ := bind_some hm
  refine sCall hf rfl rfl rfl rfl (cap := []) rfl rfl en31 (impl_IsSystem_ok F p0_s A_p0_s_1 p0_s.A.length c_p0_s_1 rfl A_p0_s_2 p0_s.B.length c_p0_s_2 rfl A_p0_s_3 p0_s.C.length c_p0_s_3 rfl _ _ hc4 (h_p0_s_1.at hs) (h_p0_s_2.at hs) (h_p0_s_3.at hs)) ?_; clear hf
  rintro _ w ⟨rfl, hs1⟩ a hf
  have hs : St [] W w [.blk b1 27 [.slice A_p0_s_1 p0_s.A.length c_p0_s_1, .slice A_p0_s_2 p0_s.B.length c_p0_s_2, .slice A_p0_s_3 p0_s.C.length c_p0_s_3], .blk b2 27 [.slice none 0 0, .slice none 0 0, .slice none 0 0]] := hs.ext hs1.below
  clear hs1
  refine sY hf hs rfl rfl rfl (Y_not rfl rfl) ?_; clear hf; intro a hf
  refine wpO_nil ?_
  refine wpL_cond hf rfl (fun hb5 => ?_) (fun hb5 => ?_)
  · have hm := bif_t hm hb5
    refine wpL_seq ?_
    refine wpL_region ?_
    refine sY hf hs rfl rfl rfl (Y_build (parts := []) (vs := []) rfl rfl (run_build (parts := []) (cells := [.slice none 0 0, .slice none 0 0, .slice none 0 0]) (places := #[(0, 1), (1, 1), (2, 1)]) ti27 Try.underlying27 (fun w => by simp [go_sem]) rfl)) ?_; clear hf; intro a hf
    refine sStore (i := 1) (us := [.slice none 0 0, .slice none 0 0, .slice none 0 0]) hf hs rfl rfl rfl rfl rfl rfl ti27 rfl rfl rfl (Nat.le_of_ble_eq_true rfl) rfl ?_; clear hs; intro w hs
    have hs : St [] W w [.blk b1 27 [.slice A_p0_s_1 p0_s.A.length c_p0_s_1, .slice A_p0_s_2 p0_s.B.length c_p0_s_2, .slice A_p0_s_3 p0_s.C.length c_p0_s_3], .blk b2 27 [.slice none 0 0, .slice none 0 0, .slice none 0 0]] := hs
    refine sY hf hs rfl rfl rfl (Y_assign rfl rfl) ?_; clear hf; intro a hf
    refine wpO_nil ?_
    obtain rfl := Option.some.inj hm
    refine wpL_ret (ret_cell_tmp rfl hf rfl rfl hs (i := 1) rfl ag27 ti27 rfl ?_)
    exact ⟨_, rfl, none, 0, 0, none, 0, 0, none, 0, 0, rfl, rfl, .inr ⟨rfl, rfl, rfl, rfl⟩, rfl, .inr ⟨rfl, rfl, rfl, rfl⟩, rfl, .inr ⟨rfl, rfl, rfl, rfl⟩, hs.sel [] (by decide)⟩
  · have hm := bif_f hm hb5
    refine wpL_skip ?_
    refine wpL_seq ?_
    refine wpL_region ?_
    refine sY hf hs rfl rfl rfl (Y_load_blkS rfl rfl (i := 0) rfl ag27 ti27 rfl) ?_; clear hf; intro a hf
    refine sStore (i := 1) (us := [.slice A_p0_s_1 p0_s.A.length c_p0_s_1, .slice A_p0_s_2 p0_s.B.length c_p0_s_2, .slice A_p0_s_3 p0_s.C.length c_p0_s_3]) hf hs rfl rfl rfl rfl rfl rfl ti27 rfl rfl rfl (Nat.le_of_ble_eq_true rfl) rfl ?_; clear hs; intro w hs
    have hs : St [] W w [.blk b1 27 [.slice A_p0_s_1 p0_s.A.length c_p0_s_1, .slice A_p0_s_2 p0_s.B.length c_p0_s_2, .slice A_p0_s_3 p0_s.C.length c_p0_s_3], .blk b2 27 [.slice A_p0_s_1 p0_s.A.length c_p0_s_1, .slice A_p0_s_2 p0_s.B.length c_p0_s_2, .slice A_p0_s_3 p0_s.C.length c_p0_s_3]] := hs
    refine sY hf hs rfl rfl rfl (Y_assign rfl rfl) ?_; clear hf; intro a hf
    refine wpO_nil ?_
    obtain rfl := Option.some.inj hm
    refine wpL_ret (ret_cell_tmp rfl hf rfl rfl hs (i := 1) rfl ag27 ti27 rfl ?_)
    exact ⟨_, rfl, A_p0_s_1, p0_s.A.length, c_p0_s_1, A_p0_s_2, p0_s.B.length, c_p0_s_2, A_p0_s_3, p0_s.C.length, c_p0_s_3, rfl, rfl, .inl ⟨rfl, rfl, rfl, rfl⟩, rfl, .inl ⟨rfl, rfl, rfl, rfl⟩, rfl, .inl ⟨rfl, rfl, rfl, rfl⟩, hs.sel [] (by decide)⟩

set_option maxHeartbeats 2000000 in
set_option maxRecDepth 100000 in
theorem impl_SeriesSystem_ok (F : Nat) (p0 : GSystem) (A_p0_1 : Option Addr) (n_p0_1 c_p0_1 : Nat) (hn_p0_1 : n_p0_1 = p0.A.length) (A_p0_2 : Option Addr) (n_p0_2 c_p0_2 : Nat) (hn_p0_2 : n_p0_2 = p0.B.length) (A_p0_3 : Option Addr) (n_p0_3 c_p0_3 : Nat) (hn_p0_3 : n_p0_3 = p0.C.length) (p1 : GSystem) (A_p1_1 : Option Addr) (n_p1_1 c_p1_1 : Nat) (hn_p1_1 : n_p1_1 = p1.A.length) (A_p1_2 : Option Addr) (n_p1_2 c_p1_2 : Nat) (hn_p1_2 : n_p1_2 = p1.B.length) (A_p1_3 : Option Addr) (n_p1_3 c_p1_3 : Nat) (hn_p1_3 : n_p1_3 = p1.C.length) (r : GSystem × Int) (W : World) (hm : impl_SeriesSystem F p0 p1 = some r) (h_p0_1 : RdM W A_p0_1 p0.A) (h_p0_2 : Rd W A_p0_2 (ints p0.B)) (h_p0_3 : Rd W A_p0_3 (ints p0.C)) (h_p1_1 : RdM W A_p1_1 p1.A) (h_p1_2 : Rd W A_p1_2 (ints p1.B)) (h_p1_3 : Rd W A_p1_3 (ints p1.C)) :
    Calls Try.prog 13 [.agg #[.slice A_p0_1 n_p0_1 c_p0_1, .slice A_p0_2 n_p0_2 c_p0_2, .slice A_p0_3 n_p0_3 c_p0_3], .agg #[.slice A_p1_1 n_p1_1 c_p1_1, .slice A_p1_2 n_p1_2 c_p1_2, .slice A_p1_3 n_p1_3 c_p1_3]].toArray W fun e w' => ∃ v, e = .returned v ∧ ∃ A311, ∃ n312, ∃ c313, ∃ vs315, ∃ A316, ∃ n317, ∃ c318, ∃ A320, ∃ n321, ∃ c322, v = .tuple #[.agg #[.slice A311 n312 c313, .slice A316 n317 c318, .slice A320 n321 c322], .int .i64 r.2] ∧ n312 = r.1.A.length ∧ n317 = r.1.B.length ∧ n321 = r.1.C.length ∧ St [] W w' [.mat A311 n312 c313 23 2 vs315 r.1.A, .row A316 n317 c318 2 1 (ints r.1.B), .row A320 n321 c322 2 1 (ints r.1.C)] := by
  subst hn_p0_1
  subst hn_p0_2
  subst hn_p0_3
  subst hn_p1_1
  subst hn_p1_2
  subst hn_p1_3
  unfold impl_SeriesSystem at hm
  refine Calls.enter (N := 90) Try.func13 rfl rfl rfl (fun a hf => ?_)
  have hs := St.start W
  obtain ⟨w, hw_⟩ : ∃ w, w = W := ⟨W, rfl⟩
  clear hw_ w
  refine wpL_seq ?_
  refine wpL_region ?_
  refine sBox hf hs rfl rfl rfl rfl rfl (cs := [.slice A_p0_1 p0.A.length c_p0_1, .slice A_p0_2 p0.B.length c_p0_2, .slice A_p0_3 p0.C.length c_p0_3]) rfl ?_; clear hf hs; intro a w b1 hs hf
  have hs : St [] W w [.blk b1 27 [.slice A_p0_1 p0.A.length c_p0_1, .slice A_p0_2 p0.B.length c_p0_2, .slice A_p0_3 p0.C.length c_p0_3]] := hs
  refine sBox hf hs rfl rfl rfl rfl rfl (cs := [.slice A_p1_1 p1.A.length c_p1_1, .slice A_p1_2 p1.B.length c_p1_2, .slice A_p1_3 p1.C.length c_p1_3]) rfl ?_; clear hf hs; intro a w b2 hs hf
  have hs : St [] W w [.blk b1 27 [.slice A_p0_1 p0.A.length c_p0_1, .slice A_p0_2 p0.B.length c_p0_2, .slice A_p0_3 p0.C.length c_p0_3], .blk b2 27 [.slice A_p1_1 p1.A.length c_p1_1, .slice A_p1_2 p1.B.length c_p1_2, .slice A_p1_3 p1.C.length c_p1_3]] := hs
  refine sAlloc hf hs rfl rfl rfl rfl ti27 ?_; clear hf hs; intro a w b3 hs hf
  have hs : St [] W w [.blk b1 27 [.slice A_p0_1 p0.A.length c_p0_1, .slice A_p0_2 p0.B.length c_p0_2, .slice A_p0_3 p0.C.length c_p0_3], .blk b2 27 [.slice A_p1_1 p1.A.length c_p1_1, .slice A_p1_2 p1.B.length c_p1_2, .slice A_p1_3 p1.C.length c_p1_3], .blk b3 27 [.slice none 0 0, .slice none 0 0, .slice none 0 0]] := hs
  refine sY hf hs rfl rfl rfl (Y_assign rfl rfl) ?_; clear hf; intro a hf
  refine wpO_nil ?_
  refine wpL_seq ?_
  refine wpL_seq ?_
  obtain ⟨r10, hj11, hm⟩ := bind_some hm
  refine wpL_cut (fun a w => ∃ b9 : Bool, b9 = r10 ∧ Fr a 90 [(2, .pointer (some ⟨b1, 0, none⟩)), (3, .pointer (some ⟨b2, 0, none⟩)), (4, .pointer (some ⟨b3, 0, none⟩)), (19, .bool b9)] ∧ St [] W w [.blk b1 27 [.slice A_p0_1 p0.A.length c_p0_1, .slice A_p0_2 p0.B.length c_p0_2, .slice A_p0_3 p0.C.length c_p0_3], .blk b2 27 [.slice A_p1_1 p1.A.length c_p1_1, .slice A_p1_2 p1.B.length c_p1_2, .slice A_p1_3 p1.C.length c_p1_3], .blk b3 27 [.slice none 0 0, .slice none 0 0, .slice none 0 0]]) ?_ ?_
  · refine wpL_region ?_
    refine sY hf hs rfl rfl rfl (Y_load_blkS rfl rfl (i := 0) rfl ag27 ti27 rfl) ?_; clear hf; intro a hf
    obtain ⟨r12, hc13, hj11⟩ := bind_some hj11
    refine sCall hf rfl rfl rfl rfl (cap := []) rfl rfl en31 (impl_IsSystem_ok F p0 A_p0_1 p0.A.length c_p0_1 rfl A_p0_2 p0.B.length c_p0_2 rfl A_p0_3 p0.C.length c_p0_3 rfl _ _ hc13 (h_p0_1.at hs) (h_p0_2.at hs) (h_p0_3.at hs)) ?_; clear hf
    rintro _ w ⟨rfl, hs1⟩ a hf
    have hs : St [] W w [.blk b1 27 [.slice A_p0_1 p0.A.length c_p0_1, .slice A_p0_2 p0.B.length c_p0_2, .slice A_p0_3 p0.C.length c_p0_3], .blk b2 27 [.slice A_p1_1 p1.A.length c_p1_1, .slice A_p1_2 p1.B.length c_p1_2, .slice A_p1_3 p1.C.length c_p1_3], .blk b3 27 [.slice none 0 0, .slice none 0 0, .slice none 0 0]] := hs.ext hs1.below
    clear hs1
    refine sY hf hs rfl rfl rfl (Y_not rfl rfl) ?_; clear hf; intro a hf
    refine sY hf hs rfl rfl rfl (Y_move rfl rfl) ?_; clear hf; intro a hf
    refine bsplit (!r12) (fun hb14 => ?_) (fun hb14 => ?_)
    · have hj11 := bif_t hj11 hb14
      refine sNo hf rfl rfl rfl (congrArg (fun b => some (Value.bool b)) hb14) rfl rfl rfl ?_; clear hf; intro a hf
      refine sNo hf rfl rfl rfl (congrArg (fun b => some (Value.bool b)) hb14) rfl rfl rfl ?_; clear hf; intro a hf
      refine sNo hf rfl rfl rfl (congrArg (fun b => some (Value.bool b)) hb14) rfl rfl rfl ?_; clear hf; intro a hf
      refine sY hf hs rfl rfl rfl (Y_pickT rfl (congrArg (fun b => some (Value.bool b)) hb14) rfl) ?_; clear hf; intro a hf
      refine wpO_nil ?_
      refine wpL_nil (then_normal ?_)
      exact ⟨true, Option.some.inj hj11, (FrD.pick (FrD.pick (FrD.pick (FrD.pick hf.none hf rfl) hf rfl) hf rfl) hf rfl), hs⟩
    · have hj11 := bif_f hj11 hb14
      refine sYg hf hs rfl rfl rfl (congrArg (fun b => some (Value.bool b)) hb14) rfl rfl rfl (Y_load_blkS rfl rfl (i := 1) rfl ag27 ti27 rfl) ?_; clear hf; intro a hf
      obtain ⟨r15, hc16, hj11⟩ := bind_some hj11
      refine sCallg hf rfl rfl rfl (congrArg (fun b => some (Value.bool b)) hb14) rfl rfl rfl rfl (cap := []) rfl rfl en31 (impl_IsSystem_ok F p1 A_p1_1 p1.A.length c_p1_1 rfl A_p1_2 p1.B.length c_p1_2 rfl A_p1_3 p1.C.length c_p1_3 rfl _ _ hc16 (h_p1_1.at hs) (h_p1_2.at hs) (h_p1_3.at hs)) ?_; clear hf
      rintro _ w ⟨rfl, hs1⟩ a hf
      have hs : St [] W w [.blk b1 27 [.slice A_p0_1 p0.A.length c_p0_1, .slice A_p0_2 p0.B.length c_p0_2, .slice A_p0_3 p0.C.length c_p0_3], .blk b2 27 [.slice A_p1_1 p1.A.length c_p1_1, .slice A_p1_2 p1.B.length c_p1_2, .slice A_p1_3 p1.C.length c_p1_3], .blk b3 27 [.slice none 0 0, .slice none 0 0, .slice none 0 0]] := hs.ext hs1.below
      clear hs1
      refine sYg hf hs rfl rfl rfl (congrArg (fun b => some (Value.bool b)) hb14) rfl rfl rfl (Y_not rfl rfl) ?_; clear hf; intro a hf
      refine sY hf hs rfl rfl rfl (Y_pickF rfl (congrArg (fun b => some (Value.bool b)) hb14) rfl) ?_; clear hf; intro a hf
      refine wpO_nil ?_
      refine wpL_nil (then_normal ?_)
      exact ⟨(!r15), Option.some.inj hj11, (FrD.pick (FrD.pick (FrD.pick (FrD.pick hf.none hf rfl) hf rfl) hf rfl) hf rfl), hs⟩
  · rintro a w ⟨b9, hr_, hf, hs⟩
    subst hr_
    try dsimp only at hm
    refine wpL_cond hf rfl (fun hb17 => ?_) (fun hb17 => ?_)
    · have hm := bif_t hm hb17
      refine wpL_seq ?_
      refine wpL_region ?_
      refine sY hf hs rfl rfl rfl (Y_build (parts := []) (vs := []) rfl rfl (run_build (parts := []) (cells := [.slice none 0 0, .slice none 0 0, .slice none 0 0]) (places := #[(0, 1), (1, 1), (2, 1)]) ti27 Try.underlying27 (fun w => by simp [go_sem]) rfl)) ?_; clear hf; intro a hf
      refine sStore (i := 2) (us := [.slice none 0 0, .slice none 0 0, .slice none 0 0]) hf hs rfl rfl rfl rfl rfl rfl ti27 rfl rfl rfl (Nat.le_of_ble_eq_true rfl) rfl ?_; clear hs; intro w hs
      have hs : St [] W w [.blk b1 27 [.slice A_p0_1 p0.A.length c_p0_1, .slice A_p0_2 p0.B.length c_p0_2, .slice A_p0_3 p0.C.length c_p0_3], .blk b2 27 [.slice A_p1_1 p1.A.length c_p1_1, .slice A_p1_2 p1.B.length c_p1_2, .slice A_p1_3 p1.C.length c_p1_3], .blk b3 27 [.slice none 0 0, .slice none 0 0, .slice none 0 0]] := hs
      refine sY hf hs rfl rfl rfl (Y_assign rfl rfl) ?_; clear hf; intro a hf
      refine wpO_nil ?_
      have hs : St [] W _ [.blk b1 27 [.slice A_p0_1 p0.A.length c_p0_1, .slice A_p0_2 p0.B.length c_p0_2, .slice A_p0_3 p0.C.length c_p0_3], .blk b2 27 [.slice A_p1_1 p1.A.length c_p1_1, .slice A_p1_2 p1.B.length c_p1_2, .slice A_p1_3 p1.C.length c_p1_3], .blk b3 27 [.slice none 0 0, .slice none 0 0, .slice none 0 0], .mat none 0 0 23 2 [] ([] : List (List Int))] := hs.addNilM 23 2
      have hs : St [] W _ [.blk b1 27 [.slice A_p0_1 p0.A.length c_p0_1, .slice A_p0_2 p0.B.length c_p0_2, .slice A_p0_3 p0.C.length c_p0_3], .blk b2 27 [.slice A_p1_1 p1.A.length c_p1_1, .slice A_p1_2 p1.B.length c_p1_2, .slice A_p1_3 p1.C.length c_p1_3], .blk b3 27 [.slice none 0 0, .slice none 0 0, .slice none 0 0], .mat none 0 0 23 2 [] ([] : List (List Int)), .row none 0 0 2 1 (ints ([] : List Int))] := hs.addNil 2 1
      have hs : St [] W _ [.blk b1 27 [.slice A_p0_1 p0.A.length c_p0_1, .slice A_p0_2 p0.B.length c_p0_2, .slice A_p0_3 p0.C.length c_p0_3], .blk b2 27 [.slice A_p1_1 p1.A.length c_p1_1, .slice A_p1_2 p1.B.length c_p1_2, .slice A_p1_3 p1.C.length c_p1_3], .blk b3 27 [.slice none 0 0, .slice none 0 0, .slice none 0 0], .mat none 0 0 23 2 [] ([] : List (List Int)), .row none 0 0 2 1 (ints ([] : List Int)), .row none 0 0 2 1 (ints ([] : List Int))] := hs.addNil 2 1
      obtain rfl := Option.some.inj hm
      refine wpL_ret (ret_cell_tmp rfl hf rfl rfl hs (i := 2) rfl ag27 ti27 rfl ?_)
      exact ⟨_, rfl, none, 0, 0, [], none, 0, 0, none, 0, 0, rfl, rfl, rfl, rfl, hs.sel [3, 4, 5] (by decide)⟩
    · have hm := bif_f hm hb17
      refine wpL_skip ?_
      refine wpL_seq ?_
      refine wpL_region ?_
      refine sY hf hs rfl rfl rfl (Y_fieldAddr rfl rfl fo27_0) ?_; clear hf; intro a hf
      refine sY hf hs rfl rfl rfl (Y_load_blk rfl rfl (i := 0) rfl rfl ag22) ?_; clear hf; intro a hf
      refine sY hf hs rfl rfl rfl (Y_lenH rfl rfl el22 rfl) ?_; clear hf; intro a hf
      refine sY hf hs rfl rfl rfl (Y_assign rfl rfl) ?_; clear hf; intro a hf
      refine wpO_nil ?_
      refine wpL_seq ?_
      refine wpL_seq ?_
      refine wpL_region ?_
      refine sY hf hs rfl rfl rfl (Y_move rfl rfl) ?_; clear hf; intro a hf
      refine sY hf hs rfl rfl rfl (Y_fieldAddr rfl rfl fo27_0) ?_; clear hf; intro a hf
      refine sY hf hs rfl rfl rfl (Y_load_blk rfl rfl (i := 1) rfl rfl ag22) ?_; clear hf; intro a hf
      refine sY hf hs rfl rfl rfl (Y_lenH rfl rfl el22 rfl) ?_; clear hf; intro a hf
      refine sY hf hs rfl rfl rfl (Y_add rfl rfl rfl) ?_; clear hf; intro a hf
      refine sY hf hs rfl rfl rfl (Y_gtr rfl rfl rfl) ?_; clear hf; intro a hf
      refine wpO_nil ?_
      refine wpL_cond hf rfl (fun hb21 => ?_) (fun hb21 => ?_)
      · have hm := bif_t hm hb21
        refine wpL_seq ?_
        refine wpL_region ?_
        refine sY hf hs rfl rfl rfl (Y_build (parts := []) (vs := []) rfl rfl (run_build (parts := []) (cells := [.slice none 0 0, .slice none 0 0, .slice none 0 0]) (places := #[(0, 1), (1, 1), (2, 1)]) ti27 Try.underlying27 (fun w => by simp [go_sem]) rfl)) ?_; clear hf; intro a hf
        refine sStore (i := 2) (us := [.slice none 0 0, .slice none 0 0, .slice none 0 0]) hf hs rfl rfl rfl rfl rfl rfl ti27 rfl rfl rfl (Nat.le_of_ble_eq_true rfl) rfl ?_; clear hs; intro w hs
        have hs : St [] W w [.blk b1 27 [.slice A_p0_1 p0.A.length c_p0_1, .slice A_p0_2 p0.B.length c_p0_2, .slice A_p0_3 p0.C.length c_p0_3], .blk b2 27 [.slice A_p1_1 p1.A.length c_p1_1, .slice A_p1_2 p1.B.length c_p1_2, .slice A_p1_3 p1.C.length c_p1_3], .blk b3 27 [.slice none 0 0, .slice none 0 0, .slice none 0 0]] := hs
        refine sY hf hs rfl rfl rfl (Y_assign rfl rfl) ?_; clear hf; intro a hf
        refine wpO_nil ?_
        have hs : St [] W _ [.blk b1 27 [.slice A_p0_1 p0.A.length c_p0_1, .slice A_p0_2 p0.B.length c_p0_2, .slice A_p0_3 p0.C.length c_p0_3], .blk b2 27 [.slice A_p1_1 p1.A.length c_p1_1, .slice A_p1_2 p1.B.length c_p1_2, .slice A_p1_3 p1.C.length c_p1_3], .blk b3 27 [.slice none 0 0, .slice none 0 0, .slice none 0 0], .mat none 0 0 23 2 [] ([] : List (List Int))] := hs.addNilM 23 2
        have hs : St [] W _ [.blk b1 27 [.slice A_p0_1 p0.A.length c_p0_1, .slice A_p0_2 p0.B.length c_p0_2, .slice A_p0_3 p0.C.length c_p0_3], .blk b2 27 [.slice A_p1_1 p1.A.length c_p1_1, .slice A_p1_2 p1.B.length c_p1_2, .slice A_p1_3 p1.C.length c_p1_3], .blk b3 27 [.slice none 0 0, .slice none 0 0, .slice none 0 0], .mat none 0 0 23 2 [] ([] : List (List Int)), .row none 0 0 2 1 (ints ([] : List Int))] := hs.addNil 2 1
        have hs : St [] W _ [.blk b1 27 [.slice A_p0_1 p0.A.length c_p0_1, .slice A_p0_2 p0.B.length c_p0_2, .slice A_p0_3 p0.C.length c_p0_3], .blk b2 27 [.slice A_p1_1 p1.A.length c_p1_1, .slice A_p1_2 p1.B.length c_p1_2, .slice A_p1_3 p1.C.length c_p1_3], .blk b3 27 [.slice none 0 0, .slice none 0 0, .slice none 0 0], .mat none 0 0 23 2 [] ([] : List (List Int)), .row none 0 0 2 1 (ints ([] : List Int)), .row none 0 0 2 1 (ints ([] : List Int))] := hs.addNil 2 1
        obtain rfl := Option.some.inj hm
        refine wpL_ret (ret_cell_tmp rfl hf rfl rfl hs (i := 2) rfl ag27 ti27 rfl ?_)
        exact ⟨_, rfl, none, 0, 0, [], none, 0, 0, none, 0, 0, rfl, rfl, rfl, rfl, hs.sel [3, 4, 5] (by decide)⟩
      · have hm := bif_f hm hb21
        refine wpL_skip ?_
        refine wpL_seq ?_
        obtain ⟨r80, hj81, hm⟩ := bind_some hm
        refine wpL_cut (fun a w => ∃ xs75 : List Int, ∃ b74, ∃ A76, ∃ n77, ∃ c78, xs75 = r80 ∧ n77 = xs75.length ∧ Fr a 90 [(2, .pointer (some ⟨b1, 0, none⟩)), (3, .pointer (some ⟨b2, 0, none⟩)), (4, .pointer (some ⟨b3, 0, none⟩)), (6, .int .i64 (p0.A.length : Int)), (7, .pointer (some ⟨b74, 0, none⟩))] ∧ St [] W w [.blk b1 27 [.slice A_p0_1 p0.A.length c_p0_1, .slice A_p0_2 p0.B.length c_p0_2, .slice A_p0_3 p0.C.length c_p0_3], .blk b2 27 [.slice A_p1_1 p1.A.length c_p1_1, .slice A_p1_2 p1.B.length c_p1_2, .slice A_p1_3 p1.C.length c_p1_3], .blk b3 27 [.slice none 0 0, .slice none 0 0, .slice none 0 0], .blk b74 23 [.slice A76 n77 c78], .row A76 n77 c78 2 1 (ints xs75)]) ?_ ?_
        · refine wpL_drawM [.blk b1 27 [.slice A_p0_1 p0.A.length c_p0_1, .slice A_p0_2 p0.B.length c_p0_2, .slice A_p0_3 p0.C.length c_p0_3], .blk b2 27 [.slice A_p1_1 p1.A.length c_p1_1, .slice A_p1_2 p1.B.length c_p1_2, .slice A_p1_3 p1.C.length c_p1_3], .blk b3 27 [.slice none 0 0, .slice none 0 0, .slice none 0 0]] [5, 7] (by kernel_rfl) hs ?_; clear hs; intro w hs
          have hs0 : St [] W w [.blk b1 27 [.slice A_p0_1 p0.A.length c_p0_1, .slice A_p0_2 p0.B.length c_p0_2, .slice A_p0_3 p0.C.length c_p0_3], .blk b2 27 [.slice A_p1_1 p1.A.length c_p1_1, .slice A_p1_2 p1.B.length c_p1_2, .slice A_p1_3 p1.C.length c_p1_3], .blk b3 27 [.slice none 0 0, .slice none 0 0, .slice none 0 0]] := hs
          refine mYp (i := 0) rfl (by kernel_rfl) (by kernel_rfl) hf rfl rfl rfl (fun _ => Y_fieldAddr rfl rfl fo27_0) ?_; clear hf; intro a hf
          refine mY (i := 1) [[2], []] rfl (by kernel_rfl) (by kernel_rfl) hf hs0 rfl rfl rfl (Y_load_blk rfl rfl (i := 0) rfl rfl ag22) ?_; clear hf; intro a hf
          refine mYp (i := 3) rfl (by kernel_rfl) (by kernel_rfl) hf rfl rfl rfl (fun _ => Y_fieldAddr rfl rfl fo27_2) ?_; clear hf; intro a hf
          refine mY (i := 4) [[], []] rfl (by kernel_rfl) (by kernel_rfl) hf hs0 rfl rfl rfl (Y_load_blk rfl rfl (i := 0) rfl rfl ag23) ?_; clear hf; intro a hf
          refine mRun2 (i := 2) (j := 6) rfl rfl (by kernel_rfl) ?_ ?_
          · obtain ⟨r96, hc97, hj81⟩ := bind_some hj81
            refine sCall hf rfl rfl rfl rfl (cap := []) rfl rfl en84 (impl_transposed_ok F p0.A A_p0_1 p0.A.length c_p0_1 rfl _ _ hc97 (h_p0_1.at hs)) ?_; clear hf
            rintro _ w ⟨A98, n99, c100, vs102, rfl, hn101, hs1⟩ a hf
            have hs : St [] W w [.blk b1 27 [.slice A_p0_1 p0.A.length c_p0_1, .slice A_p0_2 p0.B.length c_p0_2, .slice A_p0_3 p0.C.length c_p0_3], .blk b2 27 [.slice A_p1_1 p1.A.length c_p1_1, .slice A_p1_2 p1.B.length c_p1_2, .slice A_p1_3 p1.C.length c_p1_3], .blk b3 27 [.slice none 0 0, .slice none 0 0, .slice none 0 0], .mat A98 n99 c100 23 2 vs102 r96] := hs.join hs1
            clear hs1
            have hs0 : St [] W w [.blk b1 27 [.slice A_p0_1 p0.A.length c_p0_1, .slice A_p0_2 p0.B.length c_p0_2, .slice A_p0_3 p0.C.length c_p0_3], .blk b2 27 [.slice A_p1_1 p1.A.length c_p1_1, .slice A_p1_2 p1.B.length c_p1_2, .slice A_p1_3 p1.C.length c_p1_3], .blk b3 27 [.slice none 0 0, .slice none 0 0, .slice none 0 0]] := hs.sel [0, 1, 2] (by decide)
            refine wpO_nil ⟨Or.inr (fun _ => hs0), ?_⟩
            refine mRun2 (i := 5) (j := 6) rfl rfl (by kernel_rfl) ?_ ?_
            · obtain ⟨r103, hc104, hj81⟩ := bind_some hj81
              refine sCall hf rfl rfl rfl rfl (cap := []) rfl rfl en83 (impl_timesVector_ok F r96 A98 n99 c100 hn101 p0.C A_p0_3 p0.C.length c_p0_3 rfl _ _ hc104 (hs.rdM (i := 3) rfl) (h_p0_3.at hs)) ?_; clear hf
              rintro _ w ⟨A105, n106, c107, rfl, hn108, hs1⟩ a hf
              have hs : St [] W w [.blk b1 27 [.slice A_p0_1 p0.A.length c_p0_1, .slice A_p0_2 p0.B.length c_p0_2, .slice A_p0_3 p0.C.length c_p0_3], .blk b2 27 [.slice A_p1_1 p1.A.length c_p1_1, .slice A_p1_2 p1.B.length c_p1_2, .slice A_p1_3 p1.C.length c_p1_3], .blk b3 27 [.slice none 0 0, .slice none 0 0, .slice none 0 0], .mat A98 n99 c100 23 2 vs102 r96, .row A105 n106 c107 2 1 (ints r103)] := hs.join hs1
              clear hs1
              refine wpO_nil ⟨Or.inl (by decide), ?_⟩
              refine mRun (i := 6) rfl (by kernel_rfl) ?_
              refine sAlloc hf hs rfl rfl rfl rfl ti23 ?_; clear hf hs; intro a w b109 hs hf
              have hs : St [] W w [.blk b1 27 [.slice A_p0_1 p0.A.length c_p0_1, .slice A_p0_2 p0.B.length c_p0_2, .slice A_p0_3 p0.C.length c_p0_3], .blk b2 27 [.slice A_p1_1 p1.A.length c_p1_1, .slice A_p1_2 p1.B.length c_p1_2, .slice A_p1_3 p1.C.length c_p1_3], .blk b3 27 [.slice none 0 0, .slice none 0 0, .slice none 0 0], .mat A98 n99 c100 23 2 vs102 r96, .row A105 n106 c107 2 1 (ints r103), .blk b109 23 [.slice none 0 0]] := hs
              have hs0 : St [] W w [.blk b1 27 [.slice A_p0_1 p0.A.length c_p0_1, .slice A_p0_2 p0.B.length c_p0_2, .slice A_p0_3 p0.C.length c_p0_3], .blk b2 27 [.slice A_p1_1 p1.A.length c_p1_1, .slice A_p1_2 p1.B.length c_p1_2, .slice A_p1_3 p1.C.length c_p1_3], .blk b3 27 [.slice none 0 0, .slice none 0 0, .slice none 0 0]] := hs.sel [0, 1, 2] (by decide)
              refine wpO_nil ⟨Or.inr (fun _ => hs0), ?_⟩
              refine mRun (i := 7) rfl (by kernel_rfl) ?_
              refine sStore (i := 5) (us := [.slice A105 n106 c107]) hf hs rfl rfl rfl rfl rfl rfl ti23 rfl rfl rfl (Nat.le_of_ble_eq_true rfl) rfl ?_; clear hs; intro w hs
              have hs : St [] W w [.blk b1 27 [.slice A_p0_1 p0.A.length c_p0_1, .slice A_p0_2 p0.B.length c_p0_2, .slice A_p0_3 p0.C.length c_p0_3], .blk b2 27 [.slice A_p1_1 p1.A.length c_p1_1, .slice A_p1_2 p1.B.length c_p1_2, .slice A_p1_3 p1.C.length c_p1_3], .blk b3 27 [.slice none 0 0, .slice none 0 0, .slice none 0 0], .mat A98 n99 c100 23 2 vs102 r96, .row A105 n106 c107 2 1 (ints r103), .blk b109 23 [.slice A105 n106 c107]] := hs
              refine wpO_nil ⟨Or.inl (by decide), ?_⟩
              refine mDone (by kernel_rfl) ?_
              clear hs0
              refine wpL_nil (then_normal ?_)
              exact ⟨r103, b109, A105, n106, c107, Option.some.inj hj81, hn108, (FrD.pick (FrD.pick (FrD.pick (FrD.pick (FrD.pick hf.none hf rfl) hf rfl) hf rfl) hf rfl) hf rfl), hs.sel [0, 1, 2, 5, 4] (by decide)⟩
            · refine sAlloc hf hs rfl rfl rfl rfl ti23 ?_; clear hf hs; intro a w b110 hs hf
              have hs : St [] W w [.blk b1 27 [.slice A_p0_1 p0.A.length c_p0_1, .slice A_p0_2 p0.B.length c_p0_2, .slice A_p0_3 p0.C.length c_p0_3], .blk b2 27 [.slice A_p1_1 p1.A.length c_p1_1, .slice A_p1_2 p1.B.length c_p1_2, .slice A_p1_3 p1.C.length c_p1_3], .blk b3 27 [.slice none 0 0, .slice none 0 0, .slice none 0 0], .mat A98 n99 c100 23 2 vs102 r96, .blk b110 23 [.slice none 0 0]] := hs
              have hs0 : St [] W w [.blk b1 27 [.slice A_p0_1 p0.A.length c_p0_1, .slice A_p0_2 p0.B.length c_p0_2, .slice A_p0_3 p0.C.length c_p0_3], .blk b2 27 [.slice A_p1_1 p1.A.length c_p1_1, .slice A_p1_2 p1.B.length c_p1_2, .slice A_p1_3 p1.C.length c_p1_3], .blk b3 27 [.slice none 0 0, .slice none 0 0, .slice none 0 0]] := hs.sel [0, 1, 2] (by decide)
              refine wpO_nil ⟨Or.inr (fun _ => hs0), ?_⟩
              refine mRun (i := 5) rfl (by kernel_rfl) ?_
              obtain ⟨r111, hc112, hj81⟩ := bind_some hj81
              refine sCall hf rfl rfl rfl rfl (cap := []) rfl rfl en83 (impl_timesVector_ok F r96 A98 n99 c100 hn101 p0.C A_p0_3 p0.C.length c_p0_3 rfl _ _ hc112 (hs.rdM (i := 3) rfl) (h_p0_3.at hs)) ?_; clear hf
              rintro _ w ⟨A113, n114, c115, rfl, hn116, hs1⟩ a hf
              have hs : St [] W w [.blk b1 27 [.slice A_p0_1 p0.A.length c_p0_1, .slice A_p0_2 p0.B.length c_p0_2, .slice A_p0_3 p0.C.length c_p0_3], .blk b2 27 [.slice A_p1_1 p1.A.length c_p1_1, .slice A_p1_2 p1.B.length c_p1_2, .slice A_p1_3 p1.C.length c_p1_3], .blk b3 27 [.slice none 0 0, .slice none 0 0, .slice none 0 0], .mat A98 n99 c100 23 2 vs102 r96, .blk b110 23 [.slice none 0 0], .row A113 n114 c115 2 1 (ints r111)] := hs.join hs1
              clear hs1
              refine wpO_nil ⟨Or.inl (by decide), ?_⟩
              refine mRun (i := 7) rfl (by kernel_rfl) ?_
              refine sStore (i := 4) (us := [.slice A113 n114 c115]) hf hs rfl rfl rfl rfl rfl rfl ti23 rfl rfl rfl (Nat.le_of_ble_eq_true rfl) rfl ?_; clear hs; intro w hs
              have hs : St [] W w [.blk b1 27 [.slice A_p0_1 p0.A.length c_p0_1, .slice A_p0_2 p0.B.length c_p0_2, .slice A_p0_3 p0.C.length c_p0_3], .blk b2 27 [.slice A_p1_1 p1.A.length c_p1_1, .slice A_p1_2 p1.B.length c_p1_2, .slice A_p1_3 p1.C.length c_p1_3], .blk b3 27 [.slice none 0 0, .slice none 0 0, .slice none 0 0], .mat A98 n99 c100 23 2 vs102 r96, .blk b110 23 [.slice A113 n114 c115], .row A113 n114 c115 2 1 (ints r111)] := hs
              refine wpO_nil ⟨Or.inl (by decide), ?_⟩
              refine mDone (by kernel_rfl) ?_
              clear hs0
              refine wpL_nil (then_normal ?_)
              exact ⟨r111, b110, A113, n114, c115, Option.some.inj hj81, hn116, (FrD.pick (FrD.pick (FrD.pick (FrD.pick (FrD.pick hf.none hf rfl) hf rfl) hf rfl) hf rfl) hf rfl), hs.sel [0, 1, 2, 4, 5] (by decide)⟩
          · refine sAlloc hf hs rfl rfl rfl rfl ti23 ?_; clear hf hs; intro a w b117 hs hf
            have hs : St [] W w [.blk b1 27 [.slice A_p0_1 p0.A.length c_p0_1, .slice A_p0_2 p0.B.length c_p0_2, .slice A_p0_3 p0.C.length c_p0_3], .blk b2 27 [.slice A_p1_1 p1.A.length c_p1_1, .slice A_p1_2 p1.B.length c_p1_2, .slice A_p1_3 p1.C.length c_p1_3], .blk b3 27 [.slice none 0 0, .slice none 0 0, .slice none 0 0], .blk b117 23 [.slice none 0 0]] := hs
            have hs0 : St [] W w [.blk b1 27 [.slice A_p0_1 p0.A.length c_p0_1, .slice A_p0_2 p0.B.length c_p0_2, .slice A_p0_3 p0.C.length c_p0_3], .blk b2 27 [.slice A_p1_1 p1.A.length c_p1_1, .slice A_p1_2 p1.B.length c_p1_2, .slice A_p1_3 p1.C.length c_p1_3], .blk b3 27 [.slice none 0 0, .slice none 0 0, .slice none 0 0]] := hs.sel [0, 1, 2] (by decide)
            refine wpO_nil ⟨Or.inr (fun _ => hs0), ?_⟩
            refine mRun (i := 2) rfl (by kernel_rfl) ?_
            obtain ⟨r118, hc119, hj81⟩ := bind_some hj81
            refine sCall hf rfl rfl rfl rfl (cap := []) rfl rfl en84 (impl_transposed_ok F p0.A A_p0_1 p0.A.length c_p0_1 rfl _ _ hc119 (h_p0_1.at hs)) ?_; clear hf
            rintro _ w ⟨A120, n121, c122, vs124, rfl, hn123, hs1⟩ a hf
            have hs : St [] W w [.blk b1 27 [.slice A_p0_1 p0.A.length c_p0_1, .slice A_p0_2 p0.B.length c_p0_2, .slice A_p0_3 p0.C.length c_p0_3], .blk b2 27 [.slice A_p1_1 p1.A.length c_p1_1, .slice A_p1_2 p1.B.length c_p1_2, .slice A_p1_3 p1.C.length c_p1_3], .blk b3 27 [.slice none 0 0, .slice none 0 0, .slice none 0 0], .blk b117 23 [.slice none 0 0], .mat A120 n121 c122 23 2 vs124 r118] := hs.join hs1
            clear hs1
            have hs0 : St [] W w [.blk b1 27 [.slice A_p0_1 p0.A.length c_p0_1, .slice A_p0_2 p0.B.length c_p0_2, .slice A_p0_3 p0.C.length c_p0_3], .blk b2 27 [.slice A_p1_1 p1.A.length c_p1_1, .slice A_p1_2 p1.B.length c_p1_2, .slice A_p1_3 p1.C.length c_p1_3], .blk b3 27 [.slice none 0 0, .slice none 0 0, .slice none 0 0]] := hs.sel [0, 1, 2] (by decide)
            refine wpO_nil ⟨Or.inr (fun _ => hs0), ?_⟩
            refine mRun (i := 5) rfl (by kernel_rfl) ?_
            obtain ⟨r125, hc126, hj81⟩ := bind_some hj81
            refine sCall hf rfl rfl rfl rfl (cap := []) rfl rfl en83 (impl_timesVector_ok F r118 A120 n121 c122 hn123 p0.C A_p0_3 p0.C.length c_p0_3 rfl _ _ hc126 (hs.rdM (i := 4) rfl) (h_p0_3.at hs)) ?_; clear hf
            rintro _ w ⟨A127, n128, c129, rfl, hn130, hs1⟩ a hf
            have hs : St [] W w [.blk b1 27 [.slice A_p0_1 p0.A.length c_p0_1, .slice A_p0_2 p0.B.length c_p0_2, .slice A_p0_3 p0.C.length c_p0_3], .blk b2 27 [.slice A_p1_1 p1.A.length c_p1_1, .slice A_p1_2 p1.B.length c_p1_2, .slice A_p1_3 p1.C.length c_p1_3], .blk b3 27 [.slice none 0 0, .slice none 0 0, .slice none 0 0], .blk b117 23 [.slice none 0 0], .mat A120 n121 c122 23 2 vs124 r118, .row A127 n128 c129 2 1 (ints r125)] := hs.join hs1
            clear hs1
            refine wpO_nil ⟨Or.inl (by decide), ?_⟩
            refine mRun (i := 7) rfl (by kernel_rfl) ?_
            refine sStore (i := 3) (us := [.slice A127 n128 c129]) hf hs rfl rfl rfl rfl rfl rfl ti23 rfl rfl rfl (Nat.le_of_ble_eq_true rfl) rfl ?_; clear hs; intro w hs
            have hs : St [] W w [.blk b1 27 [.slice A_p0_1 p0.A.length c_p0_1, .slice A_p0_2 p0.B.length c_p0_2, .slice A_p0_3 p0.C.length c_p0_3], .blk b2 27 [.slice A_p1_1 p1.A.length c_p1_1, .slice A_p1_2 p1.B.length c_p1_2, .slice A_p1_3 p1.C.length c_p1_3], .blk b3 27 [.slice none 0 0, .slice none 0 0, .slice none 0 0], .blk b117 23 [.slice A127 n128 c129], .mat A120 n121 c122 23 2 vs124 r118, .row A127 n128 c129 2 1 (ints r125)] := hs
            refine wpO_nil ⟨Or.inl (by decide), ?_⟩
            refine mDone (by kernel_rfl) ?_
            clear hs0
            refine wpL_nil (then_normal ?_)
            exact ⟨r125, b117, A127, n128, c129, Option.some.inj hj81, hn130, (FrD.pick (FrD.pick (FrD.pick (FrD.pick (FrD.pick hf.none hf rfl) hf rfl) hf rfl) hf rfl) hf rfl), hs.sel [0, 1, 2, 3, 5] (by decide)⟩
        · rintro a w ⟨xs75, b74, A76, n77, c78, hr_, hn79, hf, hs⟩
          subst hr_
          try dsimp only at hm
          refine wpL_seq ?_
          refine wpL_region ?_
          refine sY hf hs rfl rfl rfl (Y_fieldAddr rfl rfl fo27_2) ?_; clear hf; intro a hf
          refine sY hf hs rfl rfl rfl (Y_load_blk rfl rfl (i := 0) rfl rfl ag23) ?_; clear hf; intro a hf
          refine sY hf hs rfl rfl rfl (Y_fieldAddr rfl rfl fo27_1) ?_; clear hf; intro a hf
          refine sY hf hs rfl rfl rfl (Y_load_blk rfl rfl (i := 0) rfl rfl ag23) ?_; clear hf; intro a hf
          obtain ⟨r131, hc132, hm⟩ := bind_some hm
          refine sCall hf rfl rfl rfl rfl (cap := []) rfl rfl en85 (impl_innerProduct_ok F p0.C A_p0_3 p0.C.length c_p0_3 rfl p0.B A_p0_2 p0.B.length c_p0_2 rfl _ _ hc132 (h_p0_3.at hs) (h_p0_2.at hs)) ?_; clear hf
          rintro _ w ⟨rfl, hs1⟩ a hf
          have hs : St [] W w [.blk b1 27 [.slice A_p0_1 p0.A.length c_p0_1, .slice A_p0_2 p0.B.length c_p0_2, .slice A_p0_3 p0.C.length c_p0_3], .blk b2 27 [.slice A_p1_1 p1.A.length c_p1_1, .slice A_p1_2 p1.B.length c_p1_2, .slice A_p1_3 p1.C.length c_p1_3], .blk b3 27 [.slice none 0 0, .slice none 0 0, .slice none 0 0], .blk b74 23 [.slice A76 n77 c78], .row A76 n77 c78 2 1 (ints xs75)] := hs.ext hs1.below
          clear hs1
          refine sY hf hs rfl rfl rfl (Y_assign rfl rfl) ?_; clear hf; intro a hf
          refine wpO_nil ?_
          refine wpL_seq ?_
          refine wpL_seq ?_
          obtain ⟨r139, hj140, hm⟩ := bind_some hm
          refine wpL_cut (fun a w => ∃ b138 : Bool, b138 = r139 ∧ Fr a 90 [(2, .pointer (some ⟨b1, 0, none⟩)), (3, .pointer (some ⟨b2, 0, none⟩)), (4, .pointer (some ⟨b3, 0, none⟩)), (6, .int .i64 (p0.A.length : Int)), (7, .pointer (some ⟨b74, 0, none⟩)), (8, .int .i64 r131), (49, .bool b138)] ∧ St [] W w [.blk b1 27 [.slice A_p0_1 p0.A.length c_p0_1, .slice A_p0_2 p0.B.length c_p0_2, .slice A_p0_3 p0.C.length c_p0_3], .blk b2 27 [.slice A_p1_1 p1.A.length c_p1_1, .slice A_p1_2 p1.B.length c_p1_2, .slice A_p1_3 p1.C.length c_p1_3], .blk b3 27 [.slice none 0 0, .slice none 0 0, .slice none 0 0], .blk b74 23 [.slice A76 n77 c78], .row A76 n77 c78 2 1 (ints xs75)]) ?_ ?_
          · refine wpL_region ?_
            refine sY hf hs rfl rfl rfl (Y_load_blk rfl rfl (i := 3) rfl rfl ag23) ?_; clear hf; intro a hf
            obtain ⟨r141, hc142, hj140⟩ := bind_some hj140
            refine sCall hf rfl rfl rfl rfl (cap := []) rfl rfl en86 (impl_areValues_ok F xs75 A76 n77 c78 hn79 _ _ hc142 (hs.rd (i := 4) rfl)) ?_; clear hf
            rintro _ w ⟨rfl, hs1⟩ a hf
            have hs : St [] W w [.blk b1 27 [.slice A_p0_1 p0.A.length c_p0_1, .slice A_p0_2 p0.B.length c_p0_2, .slice A_p0_3 p0.C.length c_p0_3], .blk b2 27 [.slice A_p1_1 p1.A.length c_p1_1, .slice A_p1_2 p1.B.length c_p1_2, .slice A_p1_3 p1.C.length c_p1_3], .blk b3 27 [.slice none 0 0, .slice none 0 0, .slice none 0 0], .blk b74 23 [.slice A76 n77 c78], .row A76 n77 c78 2 1 (ints xs75)] := hs.ext hs1.below
            clear hs1
            refine sY hf hs rfl rfl rfl (Y_not rfl rfl) ?_; clear hf; intro a hf
            refine sY hf hs rfl rfl rfl (Y_move rfl rfl) ?_; clear hf; intro a hf
            refine bsplit (!r141) (fun hb143 => ?_) (fun hb143 => ?_)
            · have hj140 := bif_t hj140 hb143
              refine sNo hf rfl rfl rfl (congrArg (fun b => some (Value.bool b)) hb143) rfl rfl rfl ?_; clear hf; intro a hf
              refine sNo hf rfl rfl rfl (congrArg (fun b => some (Value.bool b)) hb143) rfl rfl rfl ?_; clear hf; intro a hf
              refine sNo hf rfl rfl rfl (congrArg (fun b => some (Value.bool b)) hb143) rfl rfl rfl ?_; clear hf; intro a hf
              refine sY hf hs rfl rfl rfl (Y_pickT rfl (congrArg (fun b => some (Value.bool b)) hb143) rfl) ?_; clear hf; intro a hf
              refine wpO_nil ?_
              refine wpL_nil (then_normal ?_)
              exact ⟨true, Option.some.inj hj140, (FrD.pick (FrD.pick (FrD.pick (FrD.pick (FrD.pick (FrD.pick (FrD.pick hf.none hf rfl) hf rfl) hf rfl) hf rfl) hf rfl) hf rfl) hf rfl), hs⟩
            · have hj140 := bif_f hj140 hb143
              refine sYg hf hs rfl rfl rfl (congrArg (fun b => some (Value.bool b)) hb143) rfl rfl rfl (Y_move rfl rfl) ?_; clear hf; intro a hf
              obtain ⟨r144, hc145, hj140⟩ := bind_some hj140
              refine sCallg hf rfl rfl rfl (congrArg (fun b => some (Value.bool b)) hb143) rfl rfl rfl rfl (cap := []) rfl rfl en87 (impl_IsValue_ok F r131 _ _ hc145) ?_; clear hf
              rintro _ w ⟨rfl, hs1⟩ a hf
              have hs : St [] W w [.blk b1 27 [.slice A_p0_1 p0.A.length c_p0_1, .slice A_p0_2 p0.B.length c_p0_2, .slice A_p0_3 p0.C.length c_p0_3], .blk b2 27 [.slice A_p1_1 p1.A.length c_p1_1, .slice A_p1_2 p1.B.length c_p1_2, .slice A_p1_3 p1.C.length c_p1_3], .blk b3 27 [.slice none 0 0, .slice none 0 0, .slice none 0 0], .blk b74 23 [.slice A76 n77 c78], .row A76 n77 c78 2 1 (ints xs75)] := hs.ext hs1.below
              clear hs1
              refine sYg hf hs rfl rfl rfl (congrArg (fun b => some (Value.bool b)) hb143) rfl rfl rfl (Y_not rfl rfl) ?_; clear hf; intro a hf
              refine sY hf hs rfl rfl rfl (Y_pickF rfl (congrArg (fun b => some (Value.bool b)) hb143) rfl) ?_; clear hf; intro a hf
              refine wpO_nil ?_
              refine wpL_nil (then_normal ?_)
              exact ⟨(!r144), Option.some.inj hj140, (FrD.pick (FrD.pick (FrD.pick (FrD.pick (FrD.pick (FrD.pick (FrD.pick hf.none hf rfl) hf rfl) hf rfl) hf rfl) hf rfl) hf rfl) hf rfl), hs⟩
          · rintro a w ⟨b138, hr_, hf, hs⟩
            subst hr_
            try dsimp only at hm
            refine wpL_cond hf rfl (fun hb146 => ?_) (fun hb146 => ?_)
            · have hm := bif_t hm hb146
              refine wpL_seq ?_
              refine wpL_region ?_
              refine sY hf hs rfl rfl rfl (Y_build (parts := []) (vs := []) rfl rfl (run_build (parts := []) (cells := [.slice none 0 0, .slice none 0 0, .slice none 0 0]) (places := #[(0, 1), (1, 1), (2, 1)]) ti27 Try.underlying27 (fun w => by simp [go_sem]) rfl)) ?_; clear hf; intro a hf
              refine sStore (i := 2) (us := [.slice none 0 0, .slice none 0 0, .slice none 0 0]) hf hs rfl rfl rfl rfl rfl rfl ti27 rfl rfl rfl (Nat.le_of_ble_eq_true rfl) rfl ?_; clear hs; intro w hs
              have hs : St [] W w [.blk b1 27 [.slice A_p0_1 p0.A.length c_p0_1, .slice A_p0_2 p0.B.length c_p0_2, .slice A_p0_3 p0.C.length c_p0_3], .blk b2 27 [.slice A_p1_1 p1.A.length c_p1_1, .slice A_p1_2 p1.B.length c_p1_2, .slice A_p1_3 p1.C.length c_p1_3], .blk b3 27 [.slice none 0 0, .slice none 0 0, .slice none 0 0], .blk b74 23 [.slice A76 n77 c78], .row A76 n77 c78 2 1 (ints xs75)] := hs
              refine sY hf hs rfl rfl rfl (Y_assign rfl rfl) ?_; clear hf; intro a hf
              refine wpO_nil ?_
              have hs : St [] W _ [.blk b1 27 [.slice A_p0_1 p0.A.length c_p0_1, .slice A_p0_2 p0.B.length c_p0_2, .slice A_p0_3 p0.C.length c_p0_3], .blk b2 27 [.slice A_p1_1 p1.A.length c_p1_1, .slice A_p1_2 p1.B.length c_p1_2, .slice A_p1_3 p1.C.length c_p1_3], .blk b3 27 [.slice none 0 0, .slice none 0 0, .slice none 0 0], .blk b74 23 [.slice A76 n77 c78], .row A76 n77 c78 2 1 (ints xs75), .mat none 0 0 23 2 [] ([] : List (List Int))] := hs.addNilM 23 2
              have hs : St [] W _ [.blk b1 27 [.slice A_p0_1 p0.A.length c_p0_1, .slice A_p0_2 p0.B.length c_p0_2, .slice A_p0_3 p0.C.length c_p0_3], .blk b2 27 [.slice A_p1_1 p1.A.length c_p1_1, .slice A_p1_2 p1.B.length c_p1_2, .slice A_p1_3 p1.C.length c_p1_3], .blk b3 27 [.slice none 0 0, .slice none 0 0, .slice none 0 0], .blk b74 23 [.slice A76 n77 c78], .row A76 n77 c78 2 1 (ints xs75), .mat none 0 0 23 2 [] ([] : List (List Int)), .row none 0 0 2 1 (ints ([] : List Int))] := hs.addNil 2 1
              have hs : St [] W _ [.blk b1 27 [.slice A_p0_1 p0.A.length c_p0_1, .slice A_p0_2 p0.B.length c_p0_2, .slice A_p0_3 p0.C.length c_p0_3], .blk b2 27 [.slice A_p1_1 p1.A.length c_p1_1, .slice A_p1_2 p1.B.length c_p1_2, .slice A_p1_3 p1.C.length c_p1_3], .blk b3 27 [.slice none 0 0, .slice none 0 0, .slice none 0 0], .blk b74 23 [.slice A76 n77 c78], .row A76 n77 c78 2 1 (ints xs75), .mat none 0 0 23 2 [] ([] : List (List Int)), .row none 0 0 2 1 (ints ([] : List Int)), .row none 0 0 2 1 (ints ([] : List Int))] := hs.addNil 2 1
              obtain rfl := Option.some.inj hm
              refine wpL_ret (ret_cell_tmp rfl hf rfl rfl hs (i := 2) rfl ag27 ti27 rfl ?_)
              exact ⟨_, rfl, none, 0, 0, [], none, 0, 0, none, 0, 0, rfl, rfl, rfl, rfl, hs.sel [5, 6, 7] (by decide)⟩
            · have hm := bif_f hm hb146
              refine wpL_skip ?_
              refine wpL_seq ?_
              refine wpL_region ?_
              refine sY hf hs rfl rfl rfl (Y_fieldAddr rfl rfl fo27_0) ?_; clear hf; intro a hf
              refine sY hf hs rfl rfl rfl (Y_load_blk rfl rfl (i := 0) rfl rfl ag22) ?_; clear hf; intro a hf
              refine sY hf hs rfl rfl rfl (Y_fieldAddr rfl rfl fo27_0) ?_; clear hf; intro a hf
              refine sY hf hs rfl rfl rfl (Y_load_blk rfl rfl (i := 1) rfl rfl ag22) ?_; clear hf; intro a hf
              refine sY hf hs rfl rfl rfl (Y_makeFunc (us := []) (vs := [.pointer (some ⟨b2, 0, none⟩), .pointer (some ⟨b74, 0, none⟩)]) rfl rfl rfl) ?_; clear hf; intro a hf
              obtain ⟨r150, hc151, hm⟩ := bind_some hm
              refine sCall hf rfl rfl rfl rfl (cap := []) rfl rfl en88 (impl_blocks_ok F p0.A A_p0_1 p0.A.length c_p0_1 rfl p1.A A_p1_1 p1.A.length c_p1_1 rfl (fun x0 x1 => impl_SeriesSystem_c1 F x0 x1 p1 xs75) 89 ([.pointer (some ⟨b2, 0, none⟩), .pointer (some ⟨b74, 0, none⟩)]) _ _ hc151 (h_p0_1.at hs) (h_p1_1.at hs) (fun x0 x1 r w' hm_ hb => impl_SeriesSystem_c1_ok F x0 x1 b2 p1 A_p1_1 p1.A.length c_p1_1 rfl A_p1_2 p1.B.length c_p1_2 rfl A_p1_3 p1.C.length c_p1_3 rfl b74 xs75 A76 n77 c78 hn79 r w' hm_ ((h_p1_1.at hs).below hb (Nat.le_refl _)) ((h_p1_2.at hs).below hb (Nat.le_refl _)) ((h_p1_3.at hs).below hb (Nat.le_refl _)) ((hs.pb (i := 1) rfl).below hb (Nat.le_refl _)) ((hs.rd (i := 4) rfl).below hb (Nat.le_refl _)) ((hs.pb (i := 3) rfl).below hb (Nat.le_refl _))) en89) ?_; clear hf
              rintro _ w ⟨A152, n153, c154, vs156, rfl, hn155, hs1⟩ a hf
              have hs : St [] W w [.blk b1 27 [.slice A_p0_1 p0.A.length c_p0_1, .slice A_p0_2 p0.B.length c_p0_2, .slice A_p0_3 p0.C.length c_p0_3], .blk b2 27 [.slice A_p1_1 p1.A.length c_p1_1, .slice A_p1_2 p1.B.length c_p1_2, .slice A_p1_3 p1.C.length c_p1_3], .blk b3 27 [.slice none 0 0, .slice none 0 0, .slice none 0 0], .blk b74 23 [.slice A76 n77 c78], .row A76 n77 c78 2 1 (ints xs75), .mat A152 n153 c154 23 2 vs156 r150] := hs.join hs1
              clear hs1
              refine sY hf hs rfl rfl rfl (Y_build (parts := [(0, .tmp 56)]) (vs := [.slice A152 n153 c154]) rfl rfl (run_build (parts := [(0, .slice A152 n153 c154)]) (cells := [.slice A152 n153 c154, .slice none 0 0, .slice none 0 0]) (places := #[(0, 1), (1, 1), (2, 1)]) ti27 Try.underlying27 (fun w => by simp [go_sem]) rfl)) ?_; clear hf; intro a hf
              refine sAlloc hf hs rfl rfl rfl rfl ti27 ?_; clear hf hs; intro a w b157 hs hf
              have hs : St [] W w [.blk b1 27 [.slice A_p0_1 p0.A.length c_p0_1, .slice A_p0_2 p0.B.length c_p0_2, .slice A_p0_3 p0.C.length c_p0_3], .blk b2 27 [.slice A_p1_1 p1.A.length c_p1_1, .slice A_p1_2 p1.B.length c_p1_2, .slice A_p1_3 p1.C.length c_p1_3], .blk b3 27 [.slice none 0 0, .slice none 0 0, .slice none 0 0], .blk b74 23 [.slice A76 n77 c78], .row A76 n77 c78 2 1 (ints xs75), .mat A152 n153 c154 23 2 vs156 r150, .blk b157 27 [.slice none 0 0, .slice none 0 0, .slice none 0 0]] := hs
              refine sStore (i := 6) (us := [.slice A152 n153 c154, .slice none 0 0, .slice none 0 0]) hf hs rfl rfl rfl rfl rfl rfl ti27 rfl rfl rfl (Nat.le_of_ble_eq_true rfl) rfl ?_; clear hs; intro w hs
              have hs : St [] W w [.blk b1 27 [.slice A_p0_1 p0.A.length c_p0_1, .slice A_p0_2 p0.B.length c_p0_2, .slice A_p0_3 p0.C.length c_p0_3], .blk b2 27 [.slice A_p1_1 p1.A.length c_p1_1, .slice A_p1_2 p1.B.length c_p1_2, .slice A_p1_3 p1.C.length c_p1_3], .blk b3 27 [.slice none 0 0, .slice none 0 0, .slice none 0 0], .blk b74 23 [.slice A76 n77 c78], .row A76 n77 c78 2 1 (ints xs75), .mat A152 n153 c154 23 2 vs156 r150, .blk b157 27 [.slice A152 n153 c154, .slice none 0 0, .slice none 0 0]] := hs
              refine wpO_nil ?_
              refine wpL_seq ?_
              refine wpL_region ?_
              refine sY hf hs rfl rfl rfl (Y_fieldAddr rfl rfl fo27_1) ?_; clear hf; intro a hf
              refine sY hf hs rfl rfl rfl (Y_load_blk rfl rfl (i := 0) rfl rfl ag23) ?_; clear hf; intro a hf
              obtain ⟨r158, hc159, hm⟩ := bind_some hm
              refine sCall hf rfl rfl rfl rfl (cap := []) rfl rfl en91 (slices_Clone_int64_ok F p0.B A_p0_2 p0.B.length c_p0_2 rfl _ _ hc159 (h_p0_2.at hs)) ?_; clear hf
              rintro _ w ⟨A160, n161, c162, rfl, hn163, hs1⟩ a hf
              have hs : St [] W w [.blk b1 27 [.slice A_p0_1 p0.A.length c_p0_1, .slice A_p0_2 p0.B.length c_p0_2, .slice A_p0_3 p0.C.length c_p0_3], .blk b2 27 [.slice A_p1_1 p1.A.length c_p1_1, .slice A_p1_2 p1.B.length c_p1_2, .slice A_p1_3 p1.C.length c_p1_3], .blk b3 27 [.slice none 0 0, .slice none 0 0, .slice none 0 0], .blk b74 23 [.slice A76 n77 c78], .row A76 n77 c78 2 1 (ints xs75), .mat A152 n153 c154 23 2 vs156 r150, .blk b157 27 [.slice A152 n153 c154, .slice none 0 0, .slice none 0 0], .row A160 n161 c162 2 1 (ints r158)] := hs.join hs1
              clear hs1
              refine sY hf hs rfl rfl rfl (Y_fieldAddr rfl rfl fo27_1) ?_; clear hf; intro a hf
              refine sStore (i := 6) (us := [.slice A160 n161 c162]) hf hs rfl rfl rfl rfl rfl rfl ti23 rfl rfl rfl (Nat.le_of_ble_eq_true rfl) rfl ?_; clear hs; intro w hs
              have hs : St [] W w [.blk b1 27 [.slice A_p0_1 p0.A.length c_p0_1, .slice A_p0_2 p0.B.length c_p0_2, .slice A_p0_3 p0.C.length c_p0_3], .blk b2 27 [.slice A_p1_1 p1.A.length c_p1_1, .slice A_p1_2 p1.B.length c_p1_2, .slice A_p1_3 p1.C.length c_p1_3], .blk b3 27 [.slice none 0 0, .slice none 0 0, .slice none 0 0], .blk b74 23 [.slice A76 n77 c78], .row A76 n77 c78 2 1 (ints xs75), .mat A152 n153 c154 23 2 vs156 r150, .blk b157 27 [.slice A152 n153 c154, .slice A160 n161 c162, .slice none 0 0], .row A160 n161 c162 2 1 (ints r158)] := hs
              refine wpO_nil ?_
              refine wpL_seq ?_
              refine wpL_seq ?_
              refine wpL_region ?_
              refine sY hf hs rfl rfl rfl (Y_fieldAddr rfl rfl fo27_1) ?_; clear hf; intro a hf
              refine sY hf hs rfl rfl rfl (Y_load_blk rfl rfl (i := 1) rfl rfl ag23) ?_; clear hf; intro a hf
              refine sY hf hs rfl rfl rfl (Y_lenH rfl rfl el23 rfl) ?_; clear hf; intro a hf
              refine sY hf hs rfl rfl rfl (Y_move rfl rfl) ?_; clear hf; intro a hf
              refine wpO_nil ?_
              obtain ⟨r238, hl239, hm⟩ := bind_some hm
              refine wpL_block (fun a w => ∃ xs233 : List Int, ∃ A234, ∃ n235, ∃ c236, xs233 = r238 ∧ n235 = xs233.length ∧ Fr a 90 [(3, .pointer (some ⟨b2, 0, none⟩)), (4, .pointer (some ⟨b3, 0, none⟩)), (6, .int .i64 (p0.A.length : Int)), (9, .pointer (some ⟨b157, 0, none⟩))] ∧ St [] W w [.blk b2 27 [.slice A_p1_1 p1.A.length c_p1_1, .slice A_p1_2 p1.B.length c_p1_2, .slice A_p1_3 p1.C.length c_p1_3], .blk b3 27 [.slice none 0 0, .slice none 0 0, .slice none 0 0], .blk b157 27 [.slice A152 n153 c154, .slice A234 n235 c236, .slice none 0 0], .mat A152 n153 c154 23 2 vs156 r150, .row A234 n235 c236 2 1 (ints xs233)]) ?_ ?_
              · refine wpL_loop (fun n a w => ∃ xs208 : List Int, ∃ x213 : Int, ∃ A209, ∃ n210, ∃ c211, impl_SeriesSystem_L1 F p1 r131 n xs208 x213 = some r238 ∧ n210 = xs208.length ∧ Fr a 90 [(3, .pointer (some ⟨b2, 0, none⟩)), (4, .pointer (some ⟨b3, 0, none⟩)), (6, .int .i64 (p0.A.length : Int)), (8, .int .i64 r131), (9, .pointer (some ⟨b157, 0, none⟩)), (63, .slice A_p1_2 p1.B.length c_p1_2), (64, .int .i64 (p1.B.length : Int)), (65, .int .i64 x213)] ∧ St [] W w [.blk b2 27 [.slice A_p1_1 p1.A.length c_p1_1, .slice A_p1_2 p1.B.length c_p1_2, .slice A_p1_3 p1.C.length c_p1_3], .blk b3 27 [.slice none 0 0, .slice none 0 0, .slice none 0 0], .blk b157 27 [.slice A152 n153 c154, .slice A209 n210 c211, .slice none 0 0], .mat A152 n153 c154 23 2 vs156 r150, .row A209 n210 c211 2 1 (ints xs208)]) F ?_ ?_ ?_
                · exact ⟨r158, 0, A160, n161, c162, hl239, hn163, (FrD.pick (FrD.pick (FrD.pick (FrD.pick (FrD.pick (FrD.pick (FrD.pick (FrD.pick hf.none hf rfl) hf rfl) hf rfl) hf rfl) hf rfl) hf rfl) hf rfl) hf rfl), hs.sel [1, 2, 6, 5, 7] (by decide)⟩
                · rintro a w ⟨xs208, x213, A209, n210, c211, h0_, -, -, -⟩; simp [impl_SeriesSystem_L1] at h0_
                · rintro n241 a w ⟨xs208, x213, A209, n210, c211, hm240, hn212, hf, hs⟩
                  rw [impl_SeriesSystem_L1] at hm240
                  refine wpL_seq ?_
                  refine wpL_region ?_
                  refine sY hf hs rfl rfl rfl (Y_lss rfl rfl rfl) ?_; clear hf; intro a hf
                  refine wpO_nil ?_
                  refine wpL_seq ?_
                  refine wpL_cond hf rfl (fun hb242 => ?_) (fun hb242 => ?_)
                  · have hm240 := bif_t hm240 hb242
                    refine wpL_skip ?_
                    refine wpL_seq ?_
                    refine wpL_block0 ?_
                    refine wpL_seq ?_
                    refine wpL_region ?_
                    obtain ⟨q243, hi244, hm240⟩ := bind_some hm240
                    obtain ⟨hi244a, hi244b, hi244q⟩ := idx_some hi244
                    refine sY hf hs rfl rfl rfl (Y_index rfl rfl rfl el23 ti2 (Rd.isAt (h_p1_2.at hs) (at1 (ints_at hi244q))) hi244a hi244b) ?_; clear hf; intro a hf
                    refine sY hf hs rfl rfl rfl (Y_load_rd rfl rfl (fun w hs => h_p1_2.at hs) (at1 (ints_at hi244q)) ag2) ?_; clear hf; intro a hf
                    refine sY hf hs rfl rfl rfl (Y_assign rfl rfl) ?_; clear hf; intro a hf
                    refine wpO_nil ?_
                    refine wpL_drawM [.blk b2 27 [.slice A_p1_1 p1.A.length c_p1_1, .slice A_p1_2 p1.B.length c_p1_2, .slice A_p1_3 p1.C.length c_p1_3], .blk b3 27 [.slice none 0 0, .slice none 0 0, .slice none 0 0], .blk b157 27 [.slice A152 n153 c154, .slice A209 n210 c211, .slice none 0 0], .mat A152 n153 c154 23 2 vs156 r150, .row A209 n210 c211 2 1 (ints xs208)] [6, 8] (by kernel_rfl) hs ?_; clear hs; intro w hs
                    have hs0 : St [] W w [.blk b2 27 [.slice A_p1_1 p1.A.length c_p1_1, .slice A_p1_2 p1.B.length c_p1_2, .slice A_p1_3 p1.C.length c_p1_3], .blk b3 27 [.slice none 0 0, .slice none 0 0, .slice none 0 0], .blk b157 27 [.slice A152 n153 c154, .slice A209 n210 c211, .slice none 0 0], .mat A152 n153 c154 23 2 vs156 r150, .row A209 n210 c211 2 1 (ints xs208)] := hs
                    refine mYp (i := 0) rfl (by kernel_rfl) (by kernel_rfl) hf rfl rfl rfl (fun _ => Y_fieldAddr rfl rfl fo27_1) ?_; clear hf; intro a hf
                    refine mY (i := 1) [[], []] rfl (by kernel_rfl) (by kernel_rfl) hf hs0 rfl rfl rfl (Y_load_blk rfl rfl (i := 2) rfl rfl ag23) ?_; clear hf; intro a hf
                    refine mYp (i := 2) rfl (by kernel_rfl) (by kernel_rfl) hf rfl rfl rfl (fun _ => Y_move rfl rfl) ?_; clear hf; intro a hf
                    refine mYp (i := 3) rfl (by kernel_rfl) (by kernel_rfl) hf rfl rfl rfl (fun _ => Y_move rfl rfl) ?_; clear hf; intro a hf
                    refine mRun (i := 4) rfl (by kernel_rfl) ?_
                    obtain ⟨r253, hc254, hm240⟩ := bind_some hm240
                    refine sCall hf rfl rfl rfl rfl (cap := []) rfl rfl en90 (impl_times_ok F q243 r131 _ _ hc254) ?_; clear hf
                    rintro _ w ⟨rfl, hs1⟩ a hf
                    have hs : St [] W w [.blk b2 27 [.slice A_p1_1 p1.A.length c_p1_1, .slice A_p1_2 p1.B.length c_p1_2, .slice A_p1_3 p1.C.length c_p1_3], .blk b3 27 [.slice none 0 0, .slice none 0 0, .slice none 0 0], .blk b157 27 [.slice A152 n153 c154, .slice A209 n210 c211, .slice none 0 0], .mat A152 n153 c154 23 2 vs156 r150, .row A209 n210 c211 2 1 (ints xs208)] := hs.ext hs1.below
                    clear hs1
                    have hs0 : St [] W w [.blk b2 27 [.slice A_p1_1 p1.A.length c_p1_1, .slice A_p1_2 p1.B.length c_p1_2, .slice A_p1_3 p1.C.length c_p1_3], .blk b3 27 [.slice none 0 0, .slice none 0 0, .slice none 0 0], .blk b157 27 [.slice A152 n153 c154, .slice A209 n210 c211, .slice none 0 0], .mat A152 n153 c154 23 2 vs156 r150, .row A209 n210 c211 2 1 (ints xs208)] := hs
                    refine wpO_nil ⟨Or.inr (fun _ => hs0), ?_⟩
                    refine mRun (i := 5) rfl (by kernel_rfl) ?_
                    refine sBuildSlice (parts := [(0, .tmp 73)]) (vs := [.int .i64 r253]) (cells := [.int .i64 r253]) hf hs rfl rfl rfl rfl rfl el23 ti2 rfl rfl rfl rfl ?_; clear hf hs; intro a w A255 hs hA256 hf
                    have hs : St [] W w [.blk b2 27 [.slice A_p1_1 p1.A.length c_p1_1, .slice A_p1_2 p1.B.length c_p1_2, .slice A_p1_3 p1.C.length c_p1_3], .blk b3 27 [.slice none 0 0, .slice none 0 0, .slice none 0 0], .blk b157 27 [.slice A152 n153 c154, .slice A209 n210 c211, .slice none 0 0], .mat A152 n153 c154 23 2 vs156 r150, .row A209 n210 c211 2 1 (ints xs208), .row A255 1 1 2 1 (ints ([r253]))] := hs
                    have hs0 : St [] W w [.blk b2 27 [.slice A_p1_1 p1.A.length c_p1_1, .slice A_p1_2 p1.B.length c_p1_2, .slice A_p1_3 p1.C.length c_p1_3], .blk b3 27 [.slice none 0 0, .slice none 0 0, .slice none 0 0], .blk b157 27 [.slice A152 n153 c154, .slice A209 n210 c211, .slice none 0 0], .mat A152 n153 c154 23 2 vs156 r150, .row A209 n210 c211 2 1 (ints xs208)] := hs.sel [0, 1, 2, 3, 4] (by decide)
                    refine wpO_nil ⟨Or.inr (fun _ => hs0), ?_⟩
                    refine mRun (i := 6) rfl (by kernel_rfl) ?_
                    obtain ⟨xs259, ha260, hm240⟩ := bind_some hm240
                    refine sAppendL (i := 4) (xs := xs208) (ys := [r253]) (enc := ints) hf hs rfl rfl rfl rfl rfl rfl hn212 rfl rfl ha260 el23 ti2 rfl rfl rfl (hs.rd (i := 5) rfl) (Nat.succ_pos _) ints_len1 ints_append ints_one ?_; clear hf hs; intro a w A257 c258 hs hf
                    have hs : St [] W w [.blk b2 27 [.slice A_p1_1 p1.A.length c_p1_1, .slice A_p1_2 p1.B.length c_p1_2, .slice A_p1_3 p1.C.length c_p1_3], .blk b3 27 [.slice none 0 0, .slice none 0 0, .slice none 0 0], .blk b157 27 [.slice A152 n153 c154, .slice A209 n210 c211, .slice none 0 0], .mat A152 n153 c154 23 2 vs156 r150, .row A257 xs259.length c258 2 1 (ints xs259), .row A255 1 1 2 1 (ints ([r253]))] := hs
                    refine wpO_nil ⟨Or.inl (by decide), ?_⟩
                    refine mYp (i := 7) rfl (by kernel_rfl) (by kernel_rfl) hf rfl rfl rfl (fun _ => Y_fieldAddr rfl rfl fo27_1) ?_; clear hf; intro a hf
                    refine mRun (i := 8) rfl (by kernel_rfl) ?_
                    refine sStore (i := 2) (us := [.slice A257 xs259.length c258]) hf hs rfl rfl rfl rfl rfl rfl ti23 rfl rfl rfl (Nat.le_of_ble_eq_true rfl) rfl ?_; clear hs; intro w hs
                    have hs : St [] W w [.blk b2 27 [.slice A_p1_1 p1.A.length c_p1_1, .slice A_p1_2 p1.B.length c_p1_2, .slice A_p1_3 p1.C.length c_p1_3], .blk b3 27 [.slice none 0 0, .slice none 0 0, .slice none 0 0], .blk b157 27 [.slice A152 n153 c154, .slice A257 xs259.length c258, .slice none 0 0], .mat A152 n153 c154 23 2 vs156 r150, .row A257 xs259.length c258 2 1 (ints xs259), .row A255 1 1 2 1 (ints ([r253]))] := hs
                    refine wpO_nil ⟨Or.inl (by decide), ?_⟩
                    refine mDone (by kernel_rfl) ?_
                    clear hs0
                    refine wpL_nil (Qb_normal ?_)
                    refine wpL_region ?_
                    refine sY hf hs rfl rfl rfl (Y_add rfl rfl rfl) ?_; clear hf; intro a hf
                    refine sY hf hs rfl rfl rfl (Y_move rfl rfl) ?_; clear hf; intro a hf
                    refine wpO_nil ?_
                    refine wpL_nil (Ql_normal ?_)
                    exact ⟨xs259, (IntKind.i64.wrap (x213 + 1)), A257, xs259.length, c258, hm240, rfl, (FrD.pick (FrD.pick (FrD.pick (FrD.pick (FrD.pick (FrD.pick (FrD.pick (FrD.pick hf.none hf rfl) hf rfl) hf rfl) hf rfl) hf rfl) hf rfl) hf rfl) hf rfl), hs.sel [0, 1, 2, 3, 4] (by decide)⟩
                  · have hm240 := bif_f hm240 hb242
                    refine wpL_exit (Ql_exit (Qb_exit ?_))
                    exact ⟨xs208, A209, n210, c211, Option.some.inj hm240, hn212, (FrD.pick (FrD.pick (FrD.pick (FrD.pick hf.none hf rfl) hf rfl) hf rfl) hf rfl), hs⟩
              · rintro a w ⟨xs233, A234, n235, c236, hr_, hn237, hf, hs⟩
                subst hr_
                try dsimp only at hm
                refine wpL_seq ?_
                refine wpL_drawM [.blk b2 27 [.slice A_p1_1 p1.A.length c_p1_1, .slice A_p1_2 p1.B.length c_p1_2, .slice A_p1_3 p1.C.length c_p1_3], .blk b3 27 [.slice none 0 0, .slice none 0 0, .slice none 0 0], .blk b157 27 [.slice A152 n153 c154, .slice A234 n235 c236, .slice none 0 0], .mat A152 n153 c154 23 2 vs156 r150, .row A234 n235 c236 2 1 (ints xs233)] [5, 6, 8] (by kernel_rfl) hs ?_; clear hs; intro w hs
                have hs0 : St [] W w [.blk b2 27 [.slice A_p1_1 p1.A.length c_p1_1, .slice A_p1_2 p1.B.length c_p1_2, .slice A_p1_3 p1.C.length c_p1_3], .blk b3 27 [.slice none 0 0, .slice none 0 0, .slice none 0 0], .blk b157 27 [.slice A152 n153 c154, .slice A234 n235 c236, .slice none 0 0], .mat A152 n153 c154 23 2 vs156 r150, .row A234 n235 c236 2 1 (ints xs233)] := hs
                refine mYp (i := 1) rfl (by kernel_rfl) (by kernel_rfl) hf rfl rfl rfl (fun _ => Y_move rfl rfl) ?_; clear hf; intro a hf
                refine mYp (i := 3) rfl (by kernel_rfl) (by kernel_rfl) hf rfl rfl rfl (fun _ => Y_fieldAddr rfl rfl fo27_2) ?_; clear hf; intro a hf
                refine mY (i := 4) [[], [5], []] rfl (by kernel_rfl) (by kernel_rfl) hf hs0 rfl rfl rfl (Y_load_blk rfl rfl (i := 0) rfl rfl ag23) ?_; clear hf; intro a hf
                refine mRun (i := 0) rfl (by kernel_rfl) ?_
                refine sBuildSlice (parts := [(0, .const (.int .i64 (-1000000000000000)))]) (vs := [.int .i64 (-1000000000000000)]) (cells := [.int .i64 (-1000000000000000)]) hf hs rfl rfl rfl rfl rfl el23 ti2 rfl rfl rfl rfl ?_; clear hf hs; intro a w A277 hs hA278 hf
                have hs : St [] W w [.blk b2 27 [.slice A_p1_1 p1.A.length c_p1_1, .slice A_p1_2 p1.B.length c_p1_2, .slice A_p1_3 p1.C.length c_p1_3], .blk b3 27 [.slice none 0 0, .slice none 0 0, .slice none 0 0], .blk b157 27 [.slice A152 n153 c154, .slice A234 n235 c236, .slice none 0 0], .mat A152 n153 c154 23 2 vs156 r150, .row A234 n235 c236 2 1 (ints xs233), .row A277 1 1 2 1 (ints ([(-1000000000000000)]))] := hs
                have hs0 : St [] W w [.blk b2 27 [.slice A_p1_1 p1.A.length c_p1_1, .slice A_p1_2 p1.B.length c_p1_2, .slice A_p1_3 p1.C.length c_p1_3], .blk b3 27 [.slice none 0 0, .slice none 0 0, .slice none 0 0], .blk b157 27 [.slice A152 n153 c154, .slice A234 n235 c236, .slice none 0 0], .mat A152 n153 c154 23 2 vs156 r150, .row A234 n235 c236 2 1 (ints xs233)] := hs.sel [0, 1, 2, 3, 4] (by decide)
                refine wpO_nil ⟨Or.inr (fun _ => hs0), ?_⟩
                refine mRun (i := 2) rfl (by kernel_rfl) ?_
                obtain ⟨r279, hc280, hm⟩ := bind_some hm
                refine sCall hf rfl rfl rfl rfl (cap := []) rfl rfl en93 (slices_Repeat_int64_ok F ([(-1000000000000000)]) A277 1 1 rfl (p0.A.length : Int) _ _ hc280 (hs.rd (i := 5) rfl)) ?_; clear hf
                rintro _ w ⟨A281, n282, c283, rfl, hn284, hs1⟩ a hf
                have hs : St [] W w [.blk b2 27 [.slice A_p1_1 p1.A.length c_p1_1, .slice A_p1_2 p1.B.length c_p1_2, .slice A_p1_3 p1.C.length c_p1_3], .blk b3 27 [.slice none 0 0, .slice none 0 0, .slice none 0 0], .blk b157 27 [.slice A152 n153 c154, .slice A234 n235 c236, .slice none 0 0], .mat A152 n153 c154 23 2 vs156 r150, .row A234 n235 c236 2 1 (ints xs233), .row A277 1 1 2 1 (ints ([(-1000000000000000)])), .row A281 n282 c283 2 1 (ints r279)] := hs.join hs1
                clear hs1
                have hs0 : St [] W w [.blk b2 27 [.slice A_p1_1 p1.A.length c_p1_1, .slice A_p1_2 p1.B.length c_p1_2, .slice A_p1_3 p1.C.length c_p1_3], .blk b3 27 [.slice none 0 0, .slice none 0 0, .slice none 0 0], .blk b157 27 [.slice A152 n153 c154, .slice A234 n235 c236, .slice none 0 0], .mat A152 n153 c154 23 2 vs156 r150, .row A234 n235 c236 2 1 (ints xs233)] := hs.sel [0, 1, 2, 3, 4] (by decide)
                refine wpO_nil ⟨Or.inr (fun _ => hs0), ?_⟩
                refine mRun (i := 5) rfl (by kernel_rfl) ?_
                refine sBuildSlice (parts := [(0, .tmp 80), (1, .tmp 82)]) (vs := [.slice A281 n282 c283, .slice A_p1_3 p1.C.length c_p1_3]) (cells := [.slice A281 n282 c283, .slice A_p1_3 p1.C.length c_p1_3]) hf hs rfl rfl rfl rfl rfl el22 ti23 rfl rfl rfl rfl ?_; clear hf hs; intro a w A285 hs hA286 hf
                have hs : St [] W w [.blk b2 27 [.slice A_p1_1 p1.A.length c_p1_1, .slice A_p1_2 p1.B.length c_p1_2, .slice A_p1_3 p1.C.length c_p1_3], .blk b3 27 [.slice none 0 0, .slice none 0 0, .slice none 0 0], .blk b157 27 [.slice A152 n153 c154, .slice A234 n235 c236, .slice none 0 0], .mat A152 n153 c154 23 2 vs156 r150, .row A234 n235 c236 2 1 (ints xs233), .row A277 1 1 2 1 (ints ([(-1000000000000000)])), .row A281 n282 c283 2 1 (ints r279), .row A285 2 2 23 1 [.slice A281 n282 c283, .slice A_p1_3 p1.C.length c_p1_3]] := hs
                refine wpO_nil ⟨Or.inl (by decide), ?_⟩
                refine mRun (i := 6) rfl (by kernel_rfl) ?_
                obtain ⟨r287, hc288, hm⟩ := bind_some hm
                refine sCall hf rfl rfl rfl rfl (cap := []) rfl rfl en92 (slices_Concat_int64_ok F ([r279, p1.C]) A285 2 2 rfl _ _ hc288 (RdM.two (hs.rd (i := 7) rfl) hn284 (hs.rd (i := 6) rfl) rfl (h_p1_3.at hs))) ?_; clear hf
                rintro _ w ⟨A289, n290, c291, rfl, hn292, hs1⟩ a hf
                have hs : St [] W w [.blk b2 27 [.slice A_p1_1 p1.A.length c_p1_1, .slice A_p1_2 p1.B.length c_p1_2, .slice A_p1_3 p1.C.length c_p1_3], .blk b3 27 [.slice none 0 0, .slice none 0 0, .slice none 0 0], .blk b157 27 [.slice A152 n153 c154, .slice A234 n235 c236, .slice none 0 0], .mat A152 n153 c154 23 2 vs156 r150, .row A234 n235 c236 2 1 (ints xs233), .row A277 1 1 2 1 (ints ([(-1000000000000000)])), .row A281 n282 c283 2 1 (ints r279), .row A285 2 2 23 1 [.slice A281 n282 c283, .slice A_p1_3 p1.C.length c_p1_3], .row A289 n290 c291 2 1 (ints r287)] := hs.join hs1
                clear hs1
                refine wpO_nil ⟨Or.inl (by decide), ?_⟩
                refine mYp (i := 7) rfl (by kernel_rfl) (by kernel_rfl) hf rfl rfl rfl (fun _ => Y_fieldAddr rfl rfl fo27_2) ?_; clear hf; intro a hf
                refine mRun (i := 8) rfl (by kernel_rfl) ?_
                refine sStore (i := 2) (us := [.slice A289 n290 c291]) hf hs rfl rfl rfl rfl rfl rfl ti23 rfl rfl rfl (Nat.le_of_ble_eq_true rfl) rfl ?_; clear hs; intro w hs
                have hs : St [] W w [.blk b2 27 [.slice A_p1_1 p1.A.length c_p1_1, .slice A_p1_2 p1.B.length c_p1_2, .slice A_p1_3 p1.C.length c_p1_3], .blk b3 27 [.slice none 0 0, .slice none 0 0, .slice none 0 0], .blk b157 27 [.slice A152 n153 c154, .slice A234 n235 c236, .slice A289 n290 c291], .mat A152 n153 c154 23 2 vs156 r150, .row A234 n235 c236 2 1 (ints xs233), .row A277 1 1 2 1 (ints ([(-1000000000000000)])), .row A281 n282 c283 2 1 (ints r279), .row A285 2 2 23 1 [.slice A281 n282 c283, .slice A_p1_3 p1.C.length c_p1_3], .row A289 n290 c291 2 1 (ints r287)] := hs
                refine wpO_nil ⟨Or.inl (by decide), ?_⟩
                refine mDone (by kernel_rfl) ?_
                clear hs0
                refine wpL_seq ?_
                refine wpL_region ?_
                refine sY hf hs rfl rfl rfl (Y_load_blkS rfl rfl (i := 2) rfl ag27 ti27 rfl) ?_; clear hf; intro a hf
                obtain ⟨r293, hc294, hm⟩ := bind_some hm
                refine sCall hf rfl rfl rfl rfl (cap := []) rfl rfl en94 (impl_checkedSystem_ok F (GSystem.mk r150 xs233 r287) A152 n153 c154 hn155 A234 n235 c236 hn237 A289 n290 c291 hn292 _ _ hc294 (hs.rdM (i := 3) rfl) (hs.rd (i := 4) rfl) (hs.rd (i := 8) rfl)) ?_; clear hf
                rintro _ w ⟨A295, n296, c297, A300, n301, c302, A305, n306, c307, rfl, hn298, hal299, hn303, hal304, hn308, hal309, hs1⟩ a hf
                have hs : St [] W w [.blk b2 27 [.slice A_p1_1 p1.A.length c_p1_1, .slice A_p1_2 p1.B.length c_p1_2, .slice A_p1_3 p1.C.length c_p1_3], .blk b3 27 [.slice none 0 0, .slice none 0 0, .slice none 0 0], .blk b157 27 [.slice A152 n153 c154, .slice A234 n235 c236, .slice A289 n290 c291], .mat A152 n153 c154 23 2 vs156 r150, .row A234 n235 c236 2 1 (ints xs233), .row A277 1 1 2 1 (ints ([(-1000000000000000)])), .row A281 n282 c283 2 1 (ints r279), .row A285 2 2 23 1 [.slice A281 n282 c283, .slice A_p1_3 p1.C.length c_p1_3], .row A289 n290 c291 2 1 (ints r287)] := hs.ext hs1.below
                clear hs1
                obtain ⟨vs310, hs⟩ := hs.aliasM (i := 3) rfl hal299
                have hs : St [] W w [.blk b2 27 [.slice A_p1_1 p1.A.length c_p1_1, .slice A_p1_2 p1.B.length c_p1_2, .slice A_p1_3 p1.C.length c_p1_3], .blk b3 27 [.slice none 0 0, .slice none 0 0, .slice none 0 0], .blk b157 27 [.slice A152 n153 c154, .slice A234 n235 c236, .slice A289 n290 c291], .mat A295 n296 c297 23 2 vs310 r293.1.A, .row A234 n235 c236 2 1 (ints xs233), .row A277 1 1 2 1 (ints ([(-1000000000000000)])), .row A281 n282 c283 2 1 (ints r279), .row A285 2 2 23 1 [.slice A281 n282 c283, .slice A_p1_3 p1.C.length c_p1_3], .row A289 n290 c291 2 1 (ints r287)] := hs
                have hs : St [] W w [.blk b2 27 [.slice A_p1_1 p1.A.length c_p1_1, .slice A_p1_2 p1.B.length c_p1_2, .slice A_p1_3 p1.C.length c_p1_3], .blk b3 27 [.slice none 0 0, .slice none 0 0, .slice none 0 0], .blk b157 27 [.slice A152 n153 c154, .slice A234 n235 c236, .slice A289 n290 c291], .mat A295 n296 c297 23 2 vs310 r293.1.A, .row A300 n301 c302 2 1 (ints r293.1.B), .row A277 1 1 2 1 (ints ([(-1000000000000000)])), .row A281 n282 c283 2 1 (ints r279), .row A285 2 2 23 1 [.slice A281 n282 c283, .slice A_p1_3 p1.C.length c_p1_3], .row A289 n290 c291 2 1 (ints r287)] := hs.alias (i := 4) (enc := ints) rfl rfl hal304
                have hs : St [] W w [.blk b2 27 [.slice A_p1_1 p1.A.length c_p1_1, .slice A_p1_2 p1.B.length c_p1_2, .slice A_p1_3 p1.C.length c_p1_3], .blk b3 27 [.slice none 0 0, .slice none 0 0, .slice none 0 0], .blk b157 27 [.slice A152 n153 c154, .slice A234 n235 c236, .slice A289 n290 c291], .mat A295 n296 c297 23 2 vs310 r293.1.A, .row A300 n301 c302 2 1 (ints r293.1.B), .row A277 1 1 2 1 (ints ([(-1000000000000000)])), .row A281 n282 c283 2 1 (ints r279), .row A285 2 2 23 1 [.slice A281 n282 c283, .slice A_p1_3 p1.C.length c_p1_3], .row A305 n306 c307 2 1 (ints r293.1.C)] := hs.alias (i := 8) (enc := ints) rfl rfl hal309
                refine sY hf hs rfl rfl rfl (Y_extract rfl rfl rfl) ?_; clear hf; intro a hf
                refine sY hf hs rfl rfl rfl (Y_extract rfl rfl rfl) ?_; clear hf; intro a hf
                refine sStore (i := 1) (us := [.slice A295 n296 c297, .slice A300 n301 c302, .slice A305 n306 c307]) hf hs rfl rfl rfl rfl rfl rfl ti27 rfl rfl rfl (Nat.le_of_ble_eq_true rfl) rfl ?_; clear hs; intro w hs
                have hs : St [] W w [.blk b2 27 [.slice A_p1_1 p1.A.length c_p1_1, .slice A_p1_2 p1.B.length c_p1_2, .slice A_p1_3 p1.C.length c_p1_3], .blk b3 27 [.slice A295 n296 c297, .slice A300 n301 c302, .slice A305 n306 c307], .blk b157 27 [.slice A152 n153 c154, .slice A234 n235 c236, .slice A289 n290 c291], .mat A295 n296 c297 23 2 vs310 r293.1.A, .row A300 n301 c302 2 1 (ints r293.1.B), .row A277 1 1 2 1 (ints ([(-1000000000000000)])), .row A281 n282 c283 2 1 (ints r279), .row A285 2 2 23 1 [.slice A281 n282 c283, .slice A_p1_3 p1.C.length c_p1_3], .row A305 n306 c307 2 1 (ints r293.1.C)] := hs
                refine sY hf hs rfl rfl rfl (Y_assign rfl rfl) ?_; clear hf; intro a hf
                refine wpO_nil ?_
                obtain rfl := Option.some.inj hm
                refine wpL_ret (ret_cell_tmp rfl hf rfl rfl hs (i := 1) rfl ag27 ti27 rfl ?_)
                exact ⟨_, rfl, A295, n296, c297, vs310, A300, n301, c302, A305, n306, c307, rfl, hn298, hn303, hn308, hs.sel [3, 4, 8] (by decide)⟩

set_option maxRecDepth 100000 in
theorem laws_eqInt64S_ok (F : Nat) (p0_a : List Int) (A_p0_a_1 : Option Addr) (n_p0_a_1 c_p0_a_1 : Nat) (hn_p0_a_1 : n_p0_a_1 = p0_a.length) (p1_b : List Int) (A_p1_b_1 : Option Addr) (n_p1_b_1 c_p1_b_1 : Nat) (hn_p1_b_1 : n_p1_b_1 = p1_b.length) (r : Bool) (W : World) (hm : laws_eqInt64S F p0_a p1_b = some r) (h_p0_a_1 : Rd W A_p0_a_1 (ints p0_a)) (h_p1_b_1 : Rd W A_p1_b_1 (ints p1_b)) :
    Calls Try.prog 96 [.slice A_p0_a_1 n_p0_a_1 c_p0_a_1, .slice A_p1_b_1 n_p1_b_1 c_p1_b_1].toArray W fun e w' => ∃ v, e = .returned v ∧ v = .bool r ∧ St [] W w' [] := by
  subst hn_p0_a_1
  subst hn_p1_b_1
  unfold laws_eqInt64S at hm
  refine Calls.enter (N := 26) Try.func96 rfl rfl rfl (fun a hf => ?_)
  have hs := St.start W
  obtain ⟨w, hw_⟩ : ∃ w, w = W := ⟨W, rfl⟩
  clear hw_ w
  refine wpL_seq ?_
  refine wpL_region ?_
  refine sY hf hs rfl rfl rfl (Y_assign rfl rfl) ?_; clear hf; intro a hf
  refine wpO_nil ?_
  refine wpL_seq ?_
  refine wpL_seq ?_
  refine wpL_region ?_
  refine sY hf hs rfl rfl rfl (Y_move rfl rfl) ?_; clear hf; intro a hf
  refine sY hf hs rfl rfl rfl (Y_lenH rfl rfl el23 rfl) ?_; clear hf; intro a hf
  refine sY hf hs rfl rfl rfl (Y_move rfl rfl) ?_; clear hf; intro a hf
  refine sY hf hs rfl rfl rfl (Y_lenH rfl rfl el23 rfl) ?_; clear hf; intro a hf
  refine sY hf hs rfl rfl rfl (Y_neq rfl rfl rfl) ?_; clear hf; intro a hf
  refine wpO_nil ?_
  refine wpL_cond hf rfl (fun hb1 => ?_) (fun hb1 => ?_)
  · have hm := bif_t hm hb1
    refine wpL_seq ?_
    refine wpL_region ?_
    refine sY hf hs rfl rfl rfl (Y_assign rfl rfl) ?_; clear hf; intro a hf
    refine wpO_nil ?_
    obtain rfl := Option.some.inj hm
    refine wpL_ret (ret_tmp rfl hf rfl ?_)
    exact ⟨_, rfl, rfl, hs⟩
  · have hm := bif_f hm hb1
    refine wpL_skip ?_
    refine wpL_seq ?_
    refine wpL_seq ?_
    refine wpL_region ?_
    refine sY hf hs rfl rfl rfl (Y_assign rfl rfl) ?_; clear hf; intro a hf
    refine wpO_nil ?_
    obtain ⟨r22, hl23, hm⟩ := bind_some hm
    refine wpL_block (fun a w => Sum.inr () = r22 ∧ Fr a 26 [] ∧ St [] W w []) ?_ ?_
    · refine wpL_loop (fun n a w => ∃ x15 : Int, laws_eqInt64S_L1 F p0_a p1_b n x15 = some r22 ∧ Fr a 26 [(0, .slice A_p0_a_1 p0_a.length c_p0_a_1), (1, .slice A_p1_b_1 p1_b.length c_p1_b_1), (5, .int .i64 x15)] ∧ St [] W w []) F ?_ ?_ ?_
      · exact ⟨0, hl23, (FrD.pick (FrD.pick (FrD.pick hf.none hf rfl) hf rfl) hf rfl), hs⟩
      · rintro a w ⟨x15, h0_, -, -⟩; simp [laws_eqInt64S_L1] at h0_
      · rintro n25 a w ⟨x15, hm24, hf, hs⟩
        rw [laws_eqInt64S_L1] at hm24
        refine wpL_seq ?_
        refine wpL_seq ?_
        refine wpL_region ?_
        refine sY hf hs rfl rfl rfl (Y_move rfl rfl) ?_; clear hf; intro a hf
        refine sY hf hs rfl rfl rfl (Y_move rfl rfl) ?_; clear hf; intro a hf
        refine sY hf hs rfl rfl rfl (Y_lenH rfl rfl el23 rfl) ?_; clear hf; intro a hf
        refine sY hf hs rfl rfl rfl (Y_lss rfl rfl rfl) ?_; clear hf; intro a hf
        refine wpO_nil ?_
        refine wpL_cond hf rfl (fun hb26 => ?_) (fun hb26 => ?_)
        · have hm24 := bif_t hm24 hb26
          refine wpL_skip ?_
          refine wpL_seq ?_
          refine wpL_block0 ?_
          refine wpL_seq ?_
          refine wpL_draw (by kernel_rfl) (by kernel_rfl) hs ?_
          refine qY hf rfl rfl rfl (Y_move rfl rfl) ?_; clear hf; intro a hf
          refine qY hf rfl rfl rfl (Y_move rfl rfl) ?_; clear hf; intro a hf
          obtain ⟨q27, hi28, hm24⟩ := bind_some hm24
          obtain ⟨hi28a, hi28b, hi28q⟩ := idx_some hi28
          refine qY hf rfl rfl rfl (Y_index rfl rfl rfl el23 ti2 (Rd.isAt (h_p0_a_1.at hs) (at1 (ints_at hi28q))) hi28a hi28b) ?_; clear hf; intro a hf
          refine qY hf rfl rfl rfl (Y_load_rd rfl rfl (fun w hs => h_p0_a_1.at hs) (at1 (ints_at hi28q)) ag2) ?_; clear hf; intro a hf
          refine qY hf rfl rfl rfl (Y_move rfl rfl) ?_; clear hf; intro a hf
          refine qY hf rfl rfl rfl (Y_move rfl rfl) ?_; clear hf; intro a hf
          obtain ⟨q29, hi30, hm24⟩ := bind_some hm24
          obtain ⟨hi30a, hi30b, hi30q⟩ := idx_some hi30
          refine qY hf rfl rfl rfl (Y_index rfl rfl rfl el23 ti2 (Rd.isAt (h_p1_b_1.at hs) (at1 (ints_at hi30q))) hi30a hi30b) ?_; clear hf; intro a hf
          refine qY hf rfl rfl rfl (Y_load_rd rfl rfl (fun w hs => h_p1_b_1.at hs) (at1 (ints_at hi30q)) ag2) ?_; clear hf; intro a hf
          refine qY hf rfl rfl rfl (Y_neq rfl rfl rfl) ?_; clear hf; intro a hf
          refine qNil ?_; clear hs; intro w hs
          refine wpL_cond hf rfl (fun hb31 => ?_) (fun hb31 => ?_)
          · have hm24 := bif_t hm24 hb31
            refine wpL_seq ?_
            refine wpL_region ?_
            refine sY hf hs rfl rfl rfl (Y_assign rfl rfl) ?_; clear hf; intro a hf
            refine wpO_nil ?_
            obtain rfl := Option.some.inj hm24
            try dsimp only at hm
            obtain rfl := Option.some.inj hm
            refine wpL_ret (Qb_ret (Ql_ret (Qb_ret (ret_tmp rfl hf rfl ?_))))
            exact ⟨_, rfl, rfl, hs⟩
          · have hm24 := bif_f hm24 hb31
            refine wpL_skip ?_
            refine wpL_nil (Qb_normal ?_)
            refine wpL_region ?_
            refine sY hf hs rfl rfl rfl (Y_move rfl rfl) ?_; clear hf; intro a hf
            refine sY hf hs rfl rfl rfl (Y_add rfl rfl rfl) ?_; clear hf; intro a hf
            refine sY hf hs rfl rfl rfl (Y_assign rfl rfl) ?_; clear hf; intro a hf
            refine wpO_nil ?_
            refine wpL_nil (Ql_normal ?_)
            exact ⟨(IntKind.i64.wrap (x15 + 1)), hm24, (FrD.pick (FrD.pick (FrD.pick hf.none hf rfl) hf rfl) hf rfl), hs⟩
        · have hm24 := bif_f hm24 hb26
          refine wpL_exit (Ql_exit (Qb_exit ?_))
          exact ⟨Option.some.inj hm24, hf.none, hs⟩
    · rintro a w ⟨hr_, hf, hs⟩
      subst hr_
      try dsimp only at hm
      refine wpL_seq ?_
      refine wpL_region ?_
      refine sY hf hs rfl rfl rfl (Y_assign rfl rfl) ?_; clear hf; intro a hf
      refine wpO_nil ?_
      obtain rfl := Option.some.inj hm
      refine wpL_ret (ret_tmp rfl hf rfl ?_)
      exact ⟨_, rfl, rfl, hs⟩

set_option maxRecDepth 100000 in
theorem laws_eqInt64SS_ok (F : Nat) (p0_a : List (List Int)) (A_p0_a_1 : Option Addr) (n_p0_a_1 c_p0_a_1 : Nat) (hn_p0_a_1 : n_p0_a_1 = p0_a.length) (p1_b : List (List Int)) (A_p1_b_1 : Option Addr) (n_p1_b_1 c_p1_b_1 : Nat) (hn_p1_b_1 : n_p1_b_1 = p1_b.length) (r : Bool) (W : World) (hm : laws_eqInt64SS F p0_a p1_b = some r) (h_p0_a_1 : RdM W A_p0_a_1 p0_a) (h_p1_b_1 : RdM W A_p1_b_1 p1_b) :
    Calls Try.prog 95 [.slice A_p0_a_1 n_p0_a_1 c_p0_a_1, .slice A_p1_b_1 n_p1_b_1 c_p1_b_1].toArray W fun e w' => ∃ v, e = .returned v ∧ v = .bool r ∧ St [] W w' [] := by
  subst hn_p0_a_1
  subst hn_p1_b_1
  unfold laws_eqInt64SS at hm
  refine Calls.enter (N := 27) Try.func95 rfl rfl rfl (fun a hf => ?_)
  have hs := St.start W
  obtain ⟨w, hw_⟩ : ∃ w, w = W := ⟨W, rfl⟩
  clear hw_ w
  refine wpL_seq ?_
  refine wpL_region ?_
  refine sY hf hs rfl rfl rfl (Y_assign rfl rfl) ?_; clear hf; intro a hf
  refine wpO_nil ?_
  refine wpL_seq ?_
  refine wpL_seq ?_
  refine wpL_region ?_
  refine sY hf hs rfl rfl rfl (Y_move rfl rfl) ?_; clear hf; intro a hf
  refine sY hf hs rfl rfl rfl (Y_lenH rfl rfl el22 rfl) ?_; clear hf; intro a hf
  refine sY hf hs rfl rfl rfl (Y_move rfl rfl) ?_; clear hf; intro a hf
  refine sY hf hs rfl rfl rfl (Y_lenH rfl rfl el22 rfl) ?_; clear hf; intro a hf
  refine sY hf hs rfl rfl rfl (Y_neq rfl rfl rfl) ?_; clear hf; intro a hf
  refine wpO_nil ?_
  refine wpL_cond hf rfl (fun hb1 => ?_) (fun hb1 => ?_)
  · have hm := bif_t hm hb1
    refine wpL_seq ?_
    refine wpL_region ?_
    refine sY hf hs rfl rfl rfl (Y_assign rfl rfl) ?_; clear hf; intro a hf
    refine wpO_nil ?_
    obtain rfl := Option.some.inj hm
    refine wpL_ret (ret_tmp rfl hf rfl ?_)
    exact ⟨_, rfl, rfl, hs⟩
  · have hm := bif_f hm hb1
    refine wpL_skip ?_
    refine wpL_seq ?_
    refine wpL_seq ?_
    refine wpL_region ?_
    refine sY hf hs rfl rfl rfl (Y_assign rfl rfl) ?_; clear hf; intro a hf
    refine wpO_nil ?_
    obtain ⟨r70, hl71, hm⟩ := bind_some hm
    refine wpL_block (fun a w => Sum.inr () = r70 ∧ Fr a 27 [] ∧ St [] W w []) ?_ ?_
    · refine wpL_loop (fun n a w => ∃ x47 : Int, laws_eqInt64SS_L1 F p0_a p1_b n x47 = some r70 ∧ Fr a 27 [(0, .slice A_p0_a_1 p0_a.length c_p0_a_1), (1, .slice A_p1_b_1 p1_b.length c_p1_b_1), (5, .int .i64 x47)] ∧ St [] W w []) F ?_ ?_ ?_
      · exact ⟨0, hl71, (FrD.pick (FrD.pick (FrD.pick hf.none hf rfl) hf rfl) hf rfl), hs⟩
      · rintro a w ⟨x47, h0_, -, -⟩; simp [laws_eqInt64SS_L1] at h0_
      · rintro n73 a w ⟨x47, hm72, hf, hs⟩
        rw [laws_eqInt64SS_L1] at hm72
        refine wpL_seq ?_
        refine wpL_seq ?_
        refine wpL_region ?_
        refine sY hf hs rfl rfl rfl (Y_move rfl rfl) ?_; clear hf; intro a hf
        refine sY hf hs rfl rfl rfl (Y_move rfl rfl) ?_; clear hf; intro a hf
        refine sY hf hs rfl rfl rfl (Y_lenH rfl rfl el22 rfl) ?_; clear hf; intro a hf
        refine sY hf hs rfl rfl rfl (Y_lss rfl rfl rfl) ?_; clear hf; intro a hf
        refine wpO_nil ?_
        refine wpL_cond hf rfl (fun hb74 => ?_) (fun hb74 => ?_)
        · have hm72 := bif_t hm72 hb74
          refine wpL_skip ?_
          refine wpL_seq ?_
          refine wpL_block0 ?_
          refine wpL_seq ?_
          refine wpL_draw (by kernel_rfl) (by kernel_rfl) hs ?_
          refine qY hf rfl rfl rfl (Y_move rfl rfl) ?_; clear hf; intro a hf
          refine qY hf rfl rfl rfl (Y_move rfl rfl) ?_; clear hf; intro a hf
          obtain ⟨q75, hi76, hm72⟩ := bind_some hm72
          obtain ⟨hi76a, hi76b, hi76q⟩ := idx_some hi76
          obtain ⟨vs77, hv78, hr79⟩ := id h_p0_a_1
          obtain ⟨A80, c81, hv82, hR83⟩ := hr79 _ _ hi76q
          refine qY hf rfl rfl rfl (Y_index rfl rfl rfl el22 ti23 (Rd.isAt hv78 hv82) hi76a hi76b) ?_; clear hf; intro a hf
          refine qY hf rfl rfl rfl (Y_load_rd rfl rfl (fun w hs => hv78.at hs) (at1 hv82) ag23) ?_; clear hf; intro a hf
          refine qY hf rfl rfl rfl (Y_move rfl rfl) ?_; clear hf; intro a hf
          refine qY hf rfl rfl rfl (Y_move rfl rfl) ?_; clear hf; intro a hf
          obtain ⟨q84, hi85, hm72⟩ := bind_some hm72
          obtain ⟨hi85a, hi85b, hi85q⟩ := idx_some hi85
          obtain ⟨vs86, hv87, hr88⟩ := id h_p1_b_1
          obtain ⟨A89, c90, hv91, hR92⟩ := hr88 _ _ hi85q
          refine qY hf rfl rfl rfl (Y_index rfl rfl rfl el22 ti23 (Rd.isAt hv87 hv91) hi85a hi85b) ?_; clear hf; intro a hf
          refine qY hf rfl rfl rfl (Y_load_rd rfl rfl (fun w hs => hv87.at hs) (at1 hv91) ag23) ?_; clear hf; intro a hf
          obtain ⟨r93, hc94, hm72⟩ := bind_some hm72
          refine qCall hf rfl rfl rfl rfl (cap := []) rfl rfl en96 (v := .bool r93) (fun w hs => Calls.scal (laws_eqInt64S_ok F q75 A80 q75.length c81 rfl q84 A89 q84.length c90 rfl _ _ hc94 (hR83.at hs) (hR92.at hs))) ?_; clear hf; intro a hf
          refine qY hf rfl rfl rfl (Y_not rfl rfl) ?_; clear hf; intro a hf
          refine qNil ?_; clear hs; intro w hs
          refine wpL_cond hf rfl (fun hb95 => ?_) (fun hb95 => ?_)
          · have hm72 := bif_t hm72 hb95
            refine wpL_seq ?_
            refine wpL_region ?_
            refine sY hf hs rfl rfl rfl (Y_assign rfl rfl) ?_; clear hf; intro a hf
            refine wpO_nil ?_
            obtain rfl := Option.some.inj hm72
            try dsimp only at hm
            obtain rfl := Option.some.inj hm
            refine wpL_ret (Qb_ret (Ql_ret (Qb_ret (ret_tmp rfl hf rfl ?_))))
            exact ⟨_, rfl, rfl, hs⟩
          · have hm72 := bif_f hm72 hb95
            refine wpL_skip ?_
            refine wpL_nil (Qb_normal ?_)
            refine wpL_region ?_
            refine sY hf hs rfl rfl rfl (Y_move rfl rfl) ?_; clear hf; intro a hf
            refine sY hf hs rfl rfl rfl (Y_add rfl rfl rfl) ?_; clear hf; intro a hf
            refine sY hf hs rfl rfl rfl (Y_assign rfl rfl) ?_; clear hf; intro a hf
            refine wpO_nil ?_
            refine wpL_nil (Ql_normal ?_)
            exact ⟨(IntKind.i64.wrap (x47 + 1)), hm72, (FrD.pick (FrD.pick (FrD.pick hf.none hf rfl) hf rfl) hf rfl), hs⟩
        · have hm72 := bif_f hm72 hb74
          refine wpL_exit (Ql_exit (Qb_exit ?_))
          exact ⟨Option.some.inj hm72, hf.none, hs⟩
    · rintro a w ⟨hr_, hf, hs⟩
      subst hr_
      try dsimp only at hm
      refine wpL_seq ?_
      refine wpL_region ?_
      refine sY hf hs rfl rfl rfl (Y_assign rfl rfl) ?_; clear hf; intro a hf
      refine wpO_nil ?_
      obtain rfl := Option.some.inj hm
      refine wpL_ret (ret_tmp rfl hf rfl ?_)
      exact ⟨_, rfl, rfl, hs⟩

set_option maxRecDepth 100000 in
theorem laws_eqSystem_ok (F : Nat) (p0_a : GSystem) (A_p0_a_1 : Option Addr) (n_p0_a_1 c_p0_a_1 : Nat) (hn_p0_a_1 : n_p0_a_1 = p0_a.A.length) (A_p0_a_2 : Option Addr) (n_p0_a_2 c_p0_a_2 : Nat) (hn_p0_a_2 : n_p0_a_2 = p0_a.B.length) (A_p0_a_3 : Option Addr) (n_p0_a_3 c_p0_a_3 : Nat) (hn_p0_a_3 : n_p0_a_3 = p0_a.C.length) (p1_b : GSystem) (A_p1_b_1 : Option Addr) (n_p1_b_1 c_p1_b_1 : Nat) (hn_p1_b_1 : n_p1_b_1 = p1_b.A.length) (A_p1_b_2 : Option Addr) (n_p1_b_2 c_p1_b_2 : Nat) (hn_p1_b_2 : n_p1_b_2 = p1_b.B.length) (A_p1_b_3 : Option Addr) (n_p1_b_3 c_p1_b_3 : Nat) (hn_p1_b_3 : n_p1_b_3 = p1_b.C.length) (r : Bool) (W : World) (hm : laws_eqSystem F p0_a p1_b = some r) (h_p0_a_1 : RdM W A_p0_a_1 p0_a.A) (h_p0_a_2 : Rd W A_p0_a_2 (ints p0_a.B)) (h_p0_a_3 : Rd W A_p0_a_3 (ints p0_a.C)) (h_p1_b_1 : RdM W A_p1_b_1 p1_b.A) (h_p1_b_2 : Rd W A_p1_b_2 (ints p1_b.B)) (h_p1_b_3 : Rd W A_p1_b_3 (ints p1_b.C)) :
    Calls Try.prog 14 [.agg #[.slice A_p0_a_1 n_p0_a_1 c_p0_a_1, .slice A_p0_a_2 n_p0_a_2 c_p0_a_2, .slice A_p0_a_3 n_p0_a_3 c_p0_a_3], .agg #[.slice A_p1_b_1 n_p1_b_1 c_p1_b_1, .slice A_p1_b_2 n_p1_b_2 c_p1_b_2, .slice A_p1_b_3 n_p1_b_3 c_p1_b_3]].toArray W fun e w' => ∃ v, e = .returned v ∧ v = .bool r ∧ St [] W w' [] := by
  subst hn_p0_a_1
  subst hn_p0_a_2
  subst hn_p0_a_3
  subst hn_p1_b_1
  subst hn_p1_b_2
  subst hn_p1_b_3
  unfold laws_eqSystem at hm
  refine Calls.enter (N := 23) Try.func14 rfl rfl rfl (fun a hf => ?_)
  have hs := St.start W
  obtain ⟨w, hw_⟩ : ∃ w, w = W := ⟨W, rfl⟩
  clear hw_ w
  refine wpL_seq ?_
  refine wpL_region ?_
  refine sBox hf hs rfl rfl rfl rfl rfl (cs := [.slice A_p0_a_1 p0_a.A.length c_p0_a_1, .slice A_p0_a_2 p0_a.B.length c_p0_a_2, .slice A_p0_a_3 p0_a.C.length c_p0_a_3]) rfl ?_; clear hf hs; intro a w b1 hs hf
  have hs : St [] W w [.blk b1 27 [.slice A_p0_a_1 p0_a.A.length c_p0_a_1, .slice A_p0_a_2 p0_a.B.length c_p0_a_2, .slice A_p0_a_3 p0_a.C.length c_p0_a_3]] := hs
  refine sBox hf hs rfl rfl rfl rfl rfl (cs := [.slice A_p1_b_1 p1_b.A.length c_p1_b_1, .slice A_p1_b_2 p1_b.B.length c_p1_b_2, .slice A_p1_b_3 p1_b.C.length c_p1_b_3]) rfl ?_; clear hf hs; intro a w b2 hs hf
  have hs : St [] W w [.blk b1 27 [.slice A_p0_a_1 p0_a.A.length c_p0_a_1, .slice A_p0_a_2 p0_a.B.length c_p0_a_2, .slice A_p0_a_3 p0_a.C.length c_p0_a_3], .blk b2 27 [.slice A_p1_b_1 p1_b.A.length c_p1_b_1, .slice A_p1_b_2 p1_b.B.length c_p1_b_2, .slice A_p1_b_3 p1_b.C.length c_p1_b_3]] := hs
  refine sY hf hs rfl rfl rfl (Y_assign rfl rfl) ?_; clear hf; intro a hf
  refine wpO_nil ?_
  refine wpL_seq ?_
  refine wpL_seq ?_
  refine wpL_region ?_
  refine sY hf hs rfl rfl rfl (Y_fieldAddr rfl rfl fo27_0) ?_; clear hf; intro a hf
  refine sY hf hs rfl rfl rfl (Y_load_blk rfl rfl (i := 0) rfl rfl ag22) ?_; clear hf; intro a hf
  refine sY hf hs rfl rfl rfl (Y_fieldAddr rfl rfl fo27_0) ?_; clear hf; intro a hf
  refine sY hf hs rfl rfl rfl (Y_load_blk rfl rfl (i := 1) rfl rfl ag22) ?_; clear hf; intro a hf
  obtain ⟨r3, hc4, hm⟩ := bind_some hm
  refine sCall hf rfl rfl rfl rfl (cap := []) rfl rfl en95 (laws_eqInt64SS_ok F p0_a.A A_p0_a_1 p0_a.A.length c_p0_a_1 rfl p1_b.A A_p1_b_1 p1_b.A.length c_p1_b_1 rfl _ _ hc4 (h_p0_a_1.at hs) (h_p1_b_1.at hs)) ?_; clear hf
  rintro _ w ⟨rfl, hs1⟩ a hf
  have hs : St [] W w [.blk b1 27 [.slice A_p0_a_1 p0_a.A.length c_p0_a_1, .slice A_p0_a_2 p0_a.B.length c_p0_a_2, .slice A_p0_a_3 p0_a.C.length c_p0_a_3], .blk b2 27 [.slice A_p1_b_1 p1_b.A.length c_p1_b_1, .slice A_p1_b_2 p1_b.B.length c_p1_b_2, .slice A_p1_b_3 p1_b.C.length c_p1_b_3]] := hs.ext hs1.below
  clear hs1
  refine sY hf hs rfl rfl rfl (Y_not rfl rfl) ?_; clear hf; intro a hf
  refine wpO_nil ?_
  refine wpL_cond hf rfl (fun hb5 => ?_) (fun hb5 => ?_)
  · have hm := bif_t hm hb5
    refine wpL_seq ?_
    refine wpL_region ?_
    refine sY hf hs rfl rfl rfl (Y_assign rfl rfl) ?_; clear hf; intro a hf
    refine wpO_nil ?_
    obtain rfl := Option.some.inj hm
    refine wpL_ret (ret_tmp rfl hf rfl ?_)
    exact ⟨_, rfl, rfl, hs.sel [] (by decide)⟩
  · have hm := bif_f hm hb5
    refine wpL_skip ?_
    refine wpL_seq ?_
    refine wpL_seq ?_
    refine wpL_region ?_
    refine sY hf hs rfl rfl rfl (Y_fieldAddr rfl rfl fo27_1) ?_; clear hf; intro a hf
    refine sY hf hs rfl rfl rfl (Y_load_blk rfl rfl (i := 0) rfl rfl ag23) ?_; clear hf; intro a hf
    refine sY hf hs rfl rfl rfl (Y_fieldAddr rfl rfl fo27_1) ?_; clear hf; intro a hf
    refine sY hf hs rfl rfl rfl (Y_load_blk rfl rfl (i := 1) rfl rfl ag23) ?_; clear hf; intro a hf
    obtain ⟨r6, hc7, hm⟩ := bind_some hm
    refine sCall hf rfl rfl rfl rfl (cap := []) rfl rfl en96 (laws_eqInt64S_ok F p0_a.B A_p0_a_2 p0_a.B.length c_p0_a_2 rfl p1_b.B A_p1_b_2 p1_b.B.length c_p1_b_2 rfl _ _ hc7 (h_p0_a_2.at hs) (h_p1_b_2.at hs)) ?_; clear hf
    rintro _ w ⟨rfl, hs1⟩ a hf
    have hs : St [] W w [.blk b1 27 [.slice A_p0_a_1 p0_a.A.length c_p0_a_1, .slice A_p0_a_2 p0_a.B.length c_p0_a_2, .slice A_p0_a_3 p0_a.C.length c_p0_a_3], .blk b2 27 [.slice A_p1_b_1 p1_b.A.length c_p1_b_1, .slice A_p1_b_2 p1_b.B.length c_p1_b_2, .slice A_p1_b_3 p1_b.C.length c_p1_b_3]] := hs.ext hs1.below
    clear hs1
    refine sY hf hs rfl rfl rfl (Y_not rfl rfl) ?_; clear hf; intro a hf
    refine wpO_nil ?_
    refine wpL_cond hf rfl (fun hb8 => ?_) (fun hb8 => ?_)
    · have hm := bif_t hm hb8
      refine wpL_seq ?_
      refine wpL_region ?_
      refine sY hf hs rfl rfl rfl (Y_assign rfl rfl) ?_; clear hf; intro a hf
      refine wpO_nil ?_
      obtain rfl := Option.some.inj hm
      refine wpL_ret (ret_tmp rfl hf rfl ?_)
      exact ⟨_, rfl, rfl, hs.sel [] (by decide)⟩
    · have hm := bif_f hm hb8
      refine wpL_skip ?_
      refine wpL_seq ?_
      refine wpL_seq ?_
      refine wpL_region ?_
      refine sY hf hs rfl rfl rfl (Y_fieldAddr rfl rfl fo27_2) ?_; clear hf; intro a hf
      refine sY hf hs rfl rfl rfl (Y_load_blk rfl rfl (i := 0) rfl rfl ag23) ?_; clear hf; intro a hf
      refine sY hf hs rfl rfl rfl (Y_fieldAddr rfl rfl fo27_2) ?_; clear hf; intro a hf
      refine sY hf hs rfl rfl rfl (Y_load_blk rfl rfl (i := 1) rfl rfl ag23) ?_; clear hf; intro a hf
      obtain ⟨r9, hc10, hm⟩ := bind_some hm
      refine sCall hf rfl rfl rfl rfl (cap := []) rfl rfl en96 (laws_eqInt64S_ok F p0_a.C A_p0_a_3 p0_a.C.length c_p0_a_3 rfl p1_b.C A_p1_b_3 p1_b.C.length c_p1_b_3 rfl _ _ hc10 (h_p0_a_3.at hs) (h_p1_b_3.at hs)) ?_; clear hf
      rintro _ w ⟨rfl, hs1⟩ a hf
      have hs : St [] W w [.blk b1 27 [.slice A_p0_a_1 p0_a.A.length c_p0_a_1, .slice A_p0_a_2 p0_a.B.length c_p0_a_2, .slice A_p0_a_3 p0_a.C.length c_p0_a_3], .blk b2 27 [.slice A_p1_b_1 p1_b.A.length c_p1_b_1, .slice A_p1_b_2 p1_b.B.length c_p1_b_2, .slice A_p1_b_3 p1_b.C.length c_p1_b_3]] := hs.ext hs1.below
      clear hs1
      refine sY hf hs rfl rfl rfl (Y_not rfl rfl) ?_; clear hf; intro a hf
      refine wpO_nil ?_
      refine wpL_cond hf rfl (fun hb11 => ?_) (fun hb11 => ?_)
      · have hm := bif_t hm hb11
        refine wpL_seq ?_
        refine wpL_region ?_
        refine sY hf hs rfl rfl rfl (Y_assign rfl rfl) ?_; clear hf; intro a hf
        refine wpO_nil ?_
        obtain rfl := Option.some.inj hm
        refine wpL_ret (ret_tmp rfl hf rfl ?_)
        exact ⟨_, rfl, rfl, hs.sel [] (by decide)⟩
      · have hm := bif_f hm hb11
        refine wpL_skip ?_
        refine wpL_seq ?_
        refine wpL_region ?_
        refine sY hf hs rfl rfl rfl (Y_assign rfl rfl) ?_; clear hf; intro a hf
        refine wpO_nil ?_
        obtain rfl := Option.some.inj hm
        refine wpL_ret (ret_tmp rfl hf rfl ?_)
        exact ⟨_, rfl, rfl, hs.sel [] (by decide)⟩

set_option maxRecDepth 100000 in
theorem laws_markInt64S_ok (F : Nat) (p0_a : List Int) (A_p0_a_1 : Option Addr) (n_p0_a_1 c_p0_a_1 : Nat) (hn_p0_a_1 : n_p0_a_1 = p0_a.length) (p1_k : Int) (r : (Int) × List Int) (W : World) (hm : laws_markInt64S F p0_a p1_k = some r) (h_p0_a_1 : (Res.row A_p0_a_1 n_p0_a_1 c_p0_a_1 2 1 (ints p0_a) : Res).holds 0 W) :
    Calls Try.prog 98 [.slice A_p0_a_1 n_p0_a_1 c_p0_a_1, .int .i64 p1_k].toArray W fun e w' => ∃ v, e = .returned v ∧ v = .int .i64 r.1 ∧ n_p0_a_1 = r.2.length ∧ St (muA A_p0_a_1) W w' [.row A_p0_a_1 n_p0_a_1 c_p0_a_1 2 1 (ints r.2)] := by
  subst hn_p0_a_1
  unfold laws_markInt64S at hm
  refine Calls.enter (N := 19) Try.func98 rfl rfl rfl (fun a hf => ?_)
  have hs : St (muA A_p0_a_1) W W [.row A_p0_a_1 p0_a.length c_p0_a_1 2 1 (ints p0_a)] := St.startMut h_p0_a_1 (fun b hb => mem_muA hb)
  obtain ⟨w, hw_⟩ : ∃ w, w = W := ⟨W, rfl⟩
  clear hw_ w
  refine wpL_seq ?_
  refine wpL_region ?_
  refine sY hf hs rfl rfl rfl (Y_assign rfl rfl) ?_; clear hf; intro a hf
  refine wpO_nil ?_
  refine wpL_seq ?_
  refine wpL_seq ?_
  refine wpL_region ?_
  refine sY hf hs rfl rfl rfl (Y_assign rfl rfl) ?_; clear hf; intro a hf
  refine wpO_nil ?_
  obtain ⟨r27, hl28, hm⟩ := bind_some hm
  refine wpL_block (fun a w => ∃ xs24 : List Int, ∃ x26 : Int, (xs24, x26) = r27 ∧ p0_a.length = xs24.length ∧ Fr a 19 [(1, .int .i64 x26)] ∧ St (muA A_p0_a_1) W w [.row A_p0_a_1 p0_a.length c_p0_a_1 2 1 (ints xs24)]) ?_ ?_
  · refine wpL_loop (fun n a w => ∃ xs15 : List Int, ∃ x17 : Int, ∃ x18 : Int, laws_markInt64S_L1 F n xs15 x17 x18 = some r27 ∧ p0_a.length = xs15.length ∧ Fr a 19 [(0, .slice A_p0_a_1 p0_a.length c_p0_a_1), (1, .int .i64 x17), (5, .int .i64 x18)] ∧ St (muA A_p0_a_1) W w [.row A_p0_a_1 p0_a.length c_p0_a_1 2 1 (ints xs15)]) F ?_ ?_ ?_
    · exact ⟨p0_a, p1_k, 0, hl28, rfl, (FrD.pick (FrD.pick (FrD.pick hf.none hf rfl) hf rfl) hf rfl), hs⟩
    · rintro a w ⟨xs15, x17, x18, h0_, -, -, -⟩; simp [laws_markInt64S_L1] at h0_
    · rintro n30 a w ⟨xs15, x17, x18, hm29, hn16, hf, hs⟩
      rw [laws_markInt64S_L1] at hm29
      refine wpL_seq ?_
      refine wpL_seq ?_
      refine wpL_region ?_
      refine sY hf hs rfl rfl rfl (Y_move rfl rfl) ?_; clear hf; intro a hf
      refine sY hf hs rfl rfl rfl (Y_move rfl rfl) ?_; clear hf; intro a hf
      refine sY hf hs rfl rfl rfl (Y_lenH rfl rfl el23 hn16) ?_; clear hf; intro a hf
      refine sY hf hs rfl rfl rfl (Y_lss rfl rfl rfl) ?_; clear hf; intro a hf
      refine wpO_nil ?_
      refine wpL_cond hf rfl (fun hb31 => ?_) (fun hb31 => ?_)
      · have hm29 := bif_t hm29 hb31
        refine wpL_skip ?_
        refine wpL_seq ?_
        refine wpL_block0 ?_
        refine wpL_seq ?_
        refine wpL_region ?_
        refine sY hf hs rfl rfl rfl (Y_move rfl rfl) ?_; clear hf; intro a hf
        refine sY hf hs rfl rfl rfl (Y_move rfl rfl) ?_; clear hf; intro a hf
        refine sY hf hs rfl rfl rfl (Y_move rfl rfl) ?_; clear hf; intro a hf
        obtain ⟨q32, hi33, hm29⟩ := bind_some hm29
        obtain ⟨hi33a, hi33b, hi33q⟩ := idx_some hi33
        refine sY hf hs rfl rfl rfl (Y_index rfl rfl rfl el23 ti2 (Rd.isAt (hs.rd (i := 0) rfl) (at1 (ints_at hi33q))) hi33a (ltn hn16 hi33b)) ?_; clear hf; intro a hf
        obtain ⟨xs34, hu35, hm29⟩ := bind_some hm29
        refine sStoreL (i := 0) (us := [.int .i64 x17]) (enc := ints) hf hs rfl rfl rfl rfl rfl rfl hn16 hu35 ti2 rfl rfl rfl rfl rfl ints_len1 (ints_set x17) ?_; clear hs; intro w hs
        have hs : St (muA A_p0_a_1) W w [.row A_p0_a_1 p0_a.length c_p0_a_1 2 1 (ints xs34)] := hs
        refine wpO_nil ?_
        refine wpL_region ?_
        refine sY hf hs rfl rfl rfl (Y_move rfl rfl) ?_; clear hf; intro a hf
        refine sY hf hs rfl rfl rfl (Y_add rfl rfl rfl) ?_; clear hf; intro a hf
        refine sY hf hs rfl rfl rfl (Y_assign rfl rfl) ?_; clear hf; intro a hf
        refine wpO_nil ?_
        refine wpL_nil (Qb_normal ?_)
        refine wpL_region ?_
        refine sY hf hs rfl rfl rfl (Y_move rfl rfl) ?_; clear hf; intro a hf
        refine sY hf hs rfl rfl rfl (Y_add rfl rfl rfl) ?_; clear hf; intro a hf
        refine sY hf hs rfl rfl rfl (Y_assign rfl rfl) ?_; clear hf; intro a hf
        refine wpO_nil ?_
        refine wpL_nil (Ql_normal ?_)
        exact ⟨xs34, (IntKind.i64.wrap (x17 + 1)), (IntKind.i64.wrap (x18 + 1)), hm29, ((hn16).trans (upd_len hu35).symm), (FrD.pick (FrD.pick (FrD.pick hf.none hf rfl) hf rfl) hf rfl), hs⟩
      · have hm29 := bif_f hm29 hb31
        refine wpL_exit (Ql_exit (Qb_exit ?_))
        exact ⟨xs15, x17, Option.some.inj hm29, hn16, (FrD.pick hf.none hf rfl), hs⟩
  · rintro a w ⟨xs24, x26, hr_, hn25, hf, hs⟩
    subst hr_
    try dsimp only at hm
    refine wpL_seq ?_
    refine wpL_region ?_
    refine sY hf hs rfl rfl rfl (Y_move rfl rfl) ?_; clear hf; intro a hf
    refine sY hf hs rfl rfl rfl (Y_assign rfl rfl) ?_; clear hf; intro a hf
    refine wpO_nil ?_
    obtain rfl := Option.some.inj hm
    refine wpL_ret (ret_tmp rfl hf rfl ?_)
    exact ⟨_, rfl, rfl, hn25, hs⟩

set_option maxRecDepth 100000 in
theorem laws_markInt64SS_ok (F : Nat) (p0_a : List (List Int)) (A_p0_a_1 : Option Addr) (n_p0_a_1 c_p0_a_1 : Nat) (hn_p0_a_1 : n_p0_a_1 = p0_a.length) (vs_p0_a : List Value) (p1_k : Int) (r : (Int) × List (List Int)) (W : World) (hm : laws_markInt64SS F p0_a p1_k = some r) (h_p0_a_1 : (Res.mat A_p0_a_1 n_p0_a_1 c_p0_a_1 23 2 vs_p0_a p0_a : Res).holds 0 W) :
    Calls Try.prog 97 [.slice A_p0_a_1 n_p0_a_1 c_p0_a_1, .int .i64 p1_k].toArray W fun e w' => ∃ v, e = .returned v ∧ v = .int .i64 r.1 ∧ n_p0_a_1 = r.2.length ∧ St (muM A_p0_a_1 vs_p0_a) W w' [.mat A_p0_a_1 n_p0_a_1 c_p0_a_1 23 2 vs_p0_a r.2] := by
  subst hn_p0_a_1
  unfold laws_markInt64SS at hm
  refine Calls.enter (N := 19) Try.func97 rfl rfl rfl (fun a hf => ?_)
  have hs : St (muM A_p0_a_1 vs_p0_a) W W [.mat A_p0_a_1 p0_a.length c_p0_a_1 23 2 vs_p0_a p0_a] := St.startMut h_p0_a_1 (fun b hb => muM_mem.2 hb)
  obtain ⟨w, hw_⟩ : ∃ w, w = W := ⟨W, rfl⟩
  clear hw_ w
  refine wpL_seq ?_
  refine wpL_region ?_
  refine sY hf hs rfl rfl rfl (Y_assign rfl rfl) ?_; clear hf; intro a hf
  refine wpO_nil ?_
  refine wpL_seq ?_
  refine wpL_seq ?_
  refine wpL_region ?_
  refine sY hf hs rfl rfl rfl (Y_assign rfl rfl) ?_; clear hf; intro a hf
  refine wpO_nil ?_
  obtain ⟨r45, hl46, hm⟩ := bind_some hm
  refine wpL_block (fun a w => ∃ ms42 : List (List Int), ∃ x44 : Int, (ms42, x44) = r45 ∧ p0_a.length = ms42.length ∧ Fr a 19 [(1, .int .i64 x44)] ∧ St (muM A_p0_a_1 vs_p0_a) W w [.mat A_p0_a_1 p0_a.length c_p0_a_1 23 2 vs_p0_a ms42]) ?_ ?_
  · refine wpL_loop (fun n a w => ∃ ms27 : List (List Int), ∃ x29 : Int, ∃ x30 : Int, laws_markInt64SS_L1 F n ms27 x29 x30 = some r45 ∧ p0_a.length = ms27.length ∧ Fr a 19 [(0, .slice A_p0_a_1 p0_a.length c_p0_a_1), (1, .int .i64 x29), (5, .int .i64 x30)] ∧ St (muM A_p0_a_1 vs_p0_a) W w [.mat A_p0_a_1 p0_a.length c_p0_a_1 23 2 vs_p0_a ms27]) F ?_ ?_ ?_
    · exact ⟨p0_a, p1_k, 0, hl46, rfl, (FrD.pick (FrD.pick (FrD.pick hf.none hf rfl) hf rfl) hf rfl), hs⟩
    · rintro a w ⟨ms27, x29, x30, h0_, -, -, -⟩; simp [laws_markInt64SS_L1] at h0_
    · rintro n48 a w ⟨ms27, x29, x30, hm47, hn28, hf, hs⟩
      rw [laws_markInt64SS_L1] at hm47
      refine wpL_seq ?_
      refine wpL_seq ?_
      refine wpL_region ?_
      refine sY hf hs rfl rfl rfl (Y_move rfl rfl) ?_; clear hf; intro a hf
      refine sY hf hs rfl rfl rfl (Y_move rfl rfl) ?_; clear hf; intro a hf
      refine sY hf hs rfl rfl rfl (Y_lenH rfl rfl el22 hn28) ?_; clear hf; intro a hf
      refine sY hf hs rfl rfl rfl (Y_lss rfl rfl rfl) ?_; clear hf; intro a hf
      refine wpO_nil ?_
      refine wpL_cond hf rfl (fun hb49 => ?_) (fun hb49 => ?_)
      · have hm47 := bif_t hm47 hb49
        refine wpL_skip ?_
        refine wpL_seq ?_
        refine wpL_block0 ?_
        refine wpL_region ?_
        refine sY hf hs rfl rfl rfl (Y_move rfl rfl) ?_; clear hf; intro a hf
        refine sY hf hs rfl rfl rfl (Y_move rfl rfl) ?_; clear hf; intro a hf
        obtain ⟨q50, hi51, hm47⟩ := bind_some hm47
        obtain ⟨hi51a, hi51b, hi51q⟩ := idx_some hi51
        obtain ⟨A52, c53, hv54⟩ := hs.matRow (i := 0) rfl hi51q
        refine sY hf hs rfl rfl rfl (Y_index rfl rfl rfl el22 ti23 (Rd.isAt (hs.rdV (i := 0) rfl) hv54) hi51a (ltn hn28 hi51b)) ?_; clear hf; intro a hf
        refine sY hf hs rfl rfl rfl (Y_load_rd rfl rfl (fun w hs => hs.rdV (i := 0) rfl) (at1 hv54) ag23) ?_; clear hf; intro a hf
        refine sY hf hs rfl rfl rfl (Y_move rfl rfl) ?_; clear hf; intro a hf
        obtain ⟨r55, hc56, hm47⟩ := bind_some hm47
        refine sCall hf rfl rfl rfl rfl (cap := []) rfl rfl en98 (laws_markInt64S_ok F q50 A52 q50.length c53 rfl x29 _ _ hc56 (hs.rowHolds (i := 0) rfl ⟨hi51q, hv54⟩)) ?_; clear hf
        obtain ⟨ms59, hu58, hm47⟩ := bind_some hm47
        rintro _ w ⟨rfl, hn57, hs1⟩ a hf
        have hs : St (muM A_p0_a_1 vs_p0_a) W w [.mat A_p0_a_1 p0_a.length c_p0_a_1 23 2 vs_p0_a ms59] := hs.mutRow (i := 0) rfl ⟨hi51q, hv54⟩ hs1 hn57 hu58
        clear hs1
        refine sY hf hs rfl rfl rfl (Y_assign rfl rfl) ?_; clear hf; intro a hf
        refine wpO_nil ?_
        refine wpL_nil (Qb_normal ?_)
        refine wpL_region ?_
        refine sY hf hs rfl rfl rfl (Y_move rfl rfl) ?_; clear hf; intro a hf
        refine sY hf hs rfl rfl rfl (Y_add rfl rfl rfl) ?_; clear hf; intro a hf
        refine sY hf hs rfl rfl rfl (Y_assign rfl rfl) ?_; clear hf; intro a hf
        refine wpO_nil ?_
        refine wpL_nil (Ql_normal ?_)
        exact ⟨ms59, r55.1, (IntKind.i64.wrap (x30 + 1)), hm47, ((hn28).trans (upd_len hu58).symm), (FrD.pick (FrD.pick (FrD.pick hf.none hf rfl) hf rfl) hf rfl), hs⟩
      · have hm47 := bif_f hm47 hb49
        refine wpL_exit (Ql_exit (Qb_exit ?_))
        exact ⟨ms27, x29, Option.some.inj hm47, hn28, (FrD.pick hf.none hf rfl), hs⟩
  · rintro a w ⟨ms42, x44, hr_, hn43, hf, hs⟩
    subst hr_
    try dsimp only at hm
    refine wpL_seq ?_
    refine wpL_region ?_
    refine sY hf hs rfl rfl rfl (Y_move rfl rfl) ?_; clear hf; intro a hf
    refine sY hf hs rfl rfl rfl (Y_assign rfl rfl) ?_; clear hf; intro a hf
    refine wpO_nil ?_
    obtain rfl := Option.some.inj hm
    refine wpL_ret (ret_tmp rfl hf rfl ?_)
    exact ⟨_, rfl, rfl, hn43, hs⟩

set_option maxRecDepth 100000 in
theorem laws_markSystem_ok (F : Nat) (p0_a : GSystem) (A_p0_a_1 : Option Addr) (n_p0_a_1 c_p0_a_1 : Nat) (hn_p0_a_1 : n_p0_a_1 = p0_a.A.length) (vs_p0_a_1 : List Value) (A_p0_a_2 : Option Addr) (n_p0_a_2 c_p0_a_2 : Nat) (hn_p0_a_2 : n_p0_a_2 = p0_a.B.length) (A_p0_a_3 : Option Addr) (n_p0_a_3 c_p0_a_3 : Nat) (hn_p0_a_3 : n_p0_a_3 = p0_a.C.length) (p1_k : Int) (r : (Int) × List (List Int) × List Int × List Int) (W : World) (hm : laws_markSystem F p0_a p1_k = some r) (hst : St (muL [.mat A_p0_a_1 n_p0_a_1 c_p0_a_1 23 2 vs_p0_a_1 p0_a.A, .row A_p0_a_2 n_p0_a_2 c_p0_a_2 2 1 (ints p0_a.B), .row A_p0_a_3 n_p0_a_3 c_p0_a_3 2 1 (ints p0_a.C)]) W W [.mat A_p0_a_1 n_p0_a_1 c_p0_a_1 23 2 vs_p0_a_1 p0_a.A, .row A_p0_a_2 n_p0_a_2 c_p0_a_2 2 1 (ints p0_a.B), .row A_p0_a_3 n_p0_a_3 c_p0_a_3 2 1 (ints p0_a.C)]) :
    Calls Try.prog 15 [.agg #[.slice A_p0_a_1 n_p0_a_1 c_p0_a_1, .slice A_p0_a_2 n_p0_a_2 c_p0_a_2, .slice A_p0_a_3 n_p0_a_3 c_p0_a_3], .int .i64 p1_k].toArray W fun e w' => ∃ v, e = .returned v ∧ v = .int .i64 r.1 ∧ n_p0_a_1 = r.2.1.length ∧ n_p0_a_2 = r.2.2.1.length ∧ n_p0_a_3 = r.2.2.2.length ∧ St (muL [.mat A_p0_a_1 n_p0_a_1 c_p0_a_1 23 2 vs_p0_a_1 p0_a.A, .row A_p0_a_2 n_p0_a_2 c_p0_a_2 2 1 (ints p0_a.B), .row A_p0_a_3 n_p0_a_3 c_p0_a_3 2 1 (ints p0_a.C)]) W w' [.mat A_p0_a_1 n_p0_a_1 c_p0_a_1 23 2 vs_p0_a_1 r.2.1, .row A_p0_a_2 n_p0_a_2 c_p0_a_2 2 1 (ints r.2.2.1), .row A_p0_a_3 n_p0_a_3 c_p0_a_3 2 1 (ints r.2.2.2)] := by
  subst hn_p0_a_1
  subst hn_p0_a_2
  subst hn_p0_a_3
  unfold laws_markSystem at hm
  refine Calls.enter (N := 18) Try.func15 rfl rfl rfl (fun a hf => ?_)
  have hs := hst
  obtain ⟨w, hw_⟩ : ∃ w, w = W := ⟨W, rfl⟩
  clear hw_ w
  refine wpL_seq ?_
  refine wpL_region ?_
  refine sBox hf hs rfl rfl rfl rfl rfl (cs := [.slice A_p0_a_1 p0_a.A.length c_p0_a_1, .slice A_p0_a_2 p0_a.B.length c_p0_a_2, .slice A_p0_a_3 p0_a.C.length c_p0_a_3]) rfl ?_; clear hf hs; intro a w b1 hs hf
  have hs : St (muL [.mat A_p0_a_1 p0_a.A.length c_p0_a_1 23 2 vs_p0_a_1 p0_a.A, .row A_p0_a_2 p0_a.B.length c_p0_a_2 2 1 (ints p0_a.B), .row A_p0_a_3 p0_a.C.length c_p0_a_3 2 1 (ints p0_a.C)]) W w [.mat A_p0_a_1 p0_a.A.length c_p0_a_1 23 2 vs_p0_a_1 p0_a.A, .row A_p0_a_2 p0_a.B.length c_p0_a_2 2 1 (ints p0_a.B), .row A_p0_a_3 p0_a.C.length c_p0_a_3 2 1 (ints p0_a.C), .blk b1 27 [.slice A_p0_a_1 p0_a.A.length c_p0_a_1, .slice A_p0_a_2 p0_a.B.length c_p0_a_2, .slice A_p0_a_3 p0_a.C.length c_p0_a_3]] := hs
  refine sY hf hs rfl rfl rfl (Y_assign rfl rfl) ?_; clear hf; intro a hf
  refine wpO_nil ?_
  refine wpL_seq ?_
  refine wpL_region ?_
  refine sY hf hs rfl rfl rfl (Y_fieldAddr rfl rfl fo27_0) ?_; clear hf; intro a hf
  refine sY hf hs rfl rfl rfl (Y_load_blk rfl rfl (i := 3) rfl rfl ag22) ?_; clear hf; intro a hf
  refine sY hf hs rfl rfl rfl (Y_move rfl rfl) ?_; clear hf; intro a hf
  obtain ⟨r2, hc3, hm⟩ := bind_some hm
  refine sCall hf rfl rfl rfl rfl (cap := []) rfl rfl en97 (laws_markInt64SS_ok F p0_a.A A_p0_a_1 p0_a.A.length c_p0_a_1 rfl vs_p0_a_1 p1_k _ _ hc3 (hs.res _ _ (show _[0]? = some _ from rfl))) ?_; clear hf
  rintro _ w ⟨rfl, hn4, hs1⟩ a hf
  have hs : St (muL [.mat A_p0_a_1 p0_a.A.length c_p0_a_1 23 2 vs_p0_a_1 p0_a.A, .row A_p0_a_2 p0_a.B.length c_p0_a_2 2 1 (ints p0_a.B), .row A_p0_a_3 p0_a.C.length c_p0_a_3 2 1 (ints p0_a.C)]) W w [.mat A_p0_a_1 p0_a.A.length c_p0_a_1 23 2 vs_p0_a_1 r2.2, .row A_p0_a_2 p0_a.B.length c_p0_a_2 2 1 (ints p0_a.B), .row A_p0_a_3 p0_a.C.length c_p0_a_3 2 1 (ints p0_a.C), .blk b1 27 [.slice A_p0_a_1 p0_a.A.length c_p0_a_1, .slice A_p0_a_2 p0_a.B.length c_p0_a_2, .slice A_p0_a_3 p0_a.C.length c_p0_a_3]] := hs.mut (i := 0) rfl (fun b hb => muM_mem.1 hb) hs1
  clear hs1
  refine sY hf hs rfl rfl rfl (Y_assign rfl rfl) ?_; clear hf; intro a hf
  refine wpO_nil ?_
  refine wpL_seq ?_
  refine wpL_region ?_
  refine sY hf hs rfl rfl rfl (Y_fieldAddr rfl rfl fo27_1) ?_; clear hf; intro a hf
  refine sY hf hs rfl rfl rfl (Y_load_blk rfl rfl (i := 3) rfl rfl ag23) ?_; clear hf; intro a hf
  refine sY hf hs rfl rfl rfl (Y_move rfl rfl) ?_; clear hf; intro a hf
  obtain ⟨r5, hc6, hm⟩ := bind_some hm
  refine sCall hf rfl rfl rfl rfl (cap := []) rfl rfl en98 (laws_markInt64S_ok F p0_a.B A_p0_a_2 p0_a.B.length c_p0_a_2 rfl r2.1 _ _ hc6 (hs.res _ _ (show _[1]? = some _ from rfl))) ?_; clear hf
  rintro _ w ⟨rfl, hn7, hs1⟩ a hf
  have hs : St (muL [.mat A_p0_a_1 p0_a.A.length c_p0_a_1 23 2 vs_p0_a_1 p0_a.A, .row A_p0_a_2 p0_a.B.length c_p0_a_2 2 1 (ints p0_a.B), .row A_p0_a_3 p0_a.C.length c_p0_a_3 2 1 (ints p0_a.C)]) W w [.mat A_p0_a_1 p0_a.A.length c_p0_a_1 23 2 vs_p0_a_1 r2.2, .row A_p0_a_2 p0_a.B.length c_p0_a_2 2 1 (ints r5.2), .row A_p0_a_3 p0_a.C.length c_p0_a_3 2 1 (ints p0_a.C), .blk b1 27 [.slice A_p0_a_1 p0_a.A.length c_p0_a_1, .slice A_p0_a_2 p0_a.B.length c_p0_a_2, .slice A_p0_a_3 p0_a.C.length c_p0_a_3]] := hs.mut (i := 1) rfl (fun b hb => muA_mem hb) hs1
  clear hs1
  refine sY hf hs rfl rfl rfl (Y_assign rfl rfl) ?_; clear hf; intro a hf
  refine wpO_nil ?_
  refine wpL_seq ?_
  refine wpL_region ?_
  refine sY hf hs rfl rfl rfl (Y_fieldAddr rfl rfl fo27_2) ?_; clear hf; intro a hf
  refine sY hf hs rfl rfl rfl (Y_load_blk rfl rfl (i := 3) rfl rfl ag23) ?_; clear hf; intro a hf
  refine sY hf hs rfl rfl rfl (Y_move rfl rfl) ?_; clear hf; intro a hf
  obtain ⟨r8, hc9, hm⟩ := bind_some hm
  refine sCall hf rfl rfl rfl rfl (cap := []) rfl rfl en98 (laws_markInt64S_ok F p0_a.C A_p0_a_3 p0_a.C.length c_p0_a_3 rfl r5.1 _ _ hc9 (hs.res _ _ (show _[2]? = some _ from rfl))) ?_; clear hf
  rintro _ w ⟨rfl, hn10, hs1⟩ a hf
  have hs : St (muL [.mat A_p0_a_1 p0_a.A.length c_p0_a_1 23 2 vs_p0_a_1 p0_a.A, .row A_p0_a_2 p0_a.B.length c_p0_a_2 2 1 (ints p0_a.B), .row A_p0_a_3 p0_a.C.length c_p0_a_3 2 1 (ints p0_a.C)]) W w [.mat A_p0_a_1 p0_a.A.length c_p0_a_1 23 2 vs_p0_a_1 r2.2, .row A_p0_a_2 p0_a.B.length c_p0_a_2 2 1 (ints r5.2), .row A_p0_a_3 p0_a.C.length c_p0_a_3 2 1 (ints r8.2), .blk b1 27 [.slice A_p0_a_1 p0_a.A.length c_p0_a_1, .slice A_p0_a_2 p0_a.B.length c_p0_a_2, .slice A_p0_a_3 p0_a.C.length c_p0_a_3]] := hs.mut (i := 2) rfl (fun b hb => muA_mem hb) hs1
  clear hs1
  refine sY hf hs rfl rfl rfl (Y_assign rfl rfl) ?_; clear hf; intro a hf
  refine wpO_nil ?_
  refine wpL_seq ?_
  refine wpL_region ?_
  refine sY hf hs rfl rfl rfl (Y_move rfl rfl) ?_; clear hf; intro a hf
  refine sY hf hs rfl rfl rfl (Y_assign rfl rfl) ?_; clear hf; intro a hf
  refine wpO_nil ?_
  obtain rfl := Option.some.inj hm
  refine wpL_ret (ret_tmp rfl hf rfl ?_)
  exact ⟨_, rfl, rfl, hn4, hn7, hn10, hs.sel [0, 1, 2] (by decide)⟩

set_option maxRecDepth 100000 in
theorem laws_heldInt64S_ok (F : Nat) (p0_a : List Int) (A_p0_a_1 : Option Addr) (n_p0_a_1 c_p0_a_1 : Nat) (hn_p0_a_1 : n_p0_a_1 = p0_a.length) (p1_k : Int) (r : Int) (W : World) (hm : laws_heldInt64S F p0_a p1_k = some r) (h_p0_a_1 : Rd W A_p0_a_1 (ints p0_a)) :
    Calls Try.prog 100 [.slice A_p0_a_1 n_p0_a_1 c_p0_a_1, .int .i64 p1_k].toArray W fun e w' => ∃ v, e = .returned v ∧ v = .int .i64 r ∧ St [] W w' [] := by
  subst hn_p0_a_1
  unfold laws_heldInt64S at hm
  refine Calls.enter (N := 21) Try.func100 rfl rfl rfl (fun a hf => ?_)
  have hs := St.start W
  obtain ⟨w, hw_⟩ : ∃ w, w = W := ⟨W, rfl⟩
  clear hw_ w
  refine wpL_seq ?_
  refine wpL_region ?_
  refine sY hf hs rfl rfl rfl (Y_assign rfl rfl) ?_; clear hf; intro a hf
  refine wpO_nil ?_
  refine wpL_seq ?_
  refine wpL_seq ?_
  refine wpL_region ?_
  refine sY hf hs rfl rfl rfl (Y_assign rfl rfl) ?_; clear hf; intro a hf
  refine wpO_nil ?_
  obtain ⟨r18, hl19, hm⟩ := bind_some hm
  refine wpL_block (fun a w => ∃ x17 : Int, Sum.inr x17 = r18 ∧ Fr a 21 [(1, .int .i64 x17)] ∧ St [] W w []) ?_ ?_
  · refine wpL_loop (fun n a w => ∃ x11 : Int, ∃ x12 : Int, laws_heldInt64S_L1 F p0_a n x11 x12 = some r18 ∧ Fr a 21 [(0, .slice A_p0_a_1 p0_a.length c_p0_a_1), (1, .int .i64 x11), (5, .int .i64 x12)] ∧ St [] W w []) F ?_ ?_ ?_
    · exact ⟨p1_k, 0, hl19, (FrD.pick (FrD.pick (FrD.pick hf.none hf rfl) hf rfl) hf rfl), hs⟩
    · rintro a w ⟨x11, x12, h0_, -, -⟩; simp [laws_heldInt64S_L1] at h0_
    · rintro n21 a w ⟨x11, x12, hm20, hf, hs⟩
      rw [laws_heldInt64S_L1] at hm20
      refine wpL_seq ?_
      refine wpL_seq ?_
      refine wpL_region ?_
      refine sY hf hs rfl rfl rfl (Y_move rfl rfl) ?_; clear hf; intro a hf
      refine sY hf hs rfl rfl rfl (Y_move rfl rfl) ?_; clear hf; intro a hf
      refine sY hf hs rfl rfl rfl (Y_lenH rfl rfl el23 rfl) ?_; clear hf; intro a hf
      refine sY hf hs rfl rfl rfl (Y_lss rfl rfl rfl) ?_; clear hf; intro a hf
      refine wpO_nil ?_
      refine wpL_cond hf rfl (fun hb22 => ?_) (fun hb22 => ?_)
      · have hm20 := bif_t hm20 hb22
        refine wpL_skip ?_
        refine wpL_seq ?_
        refine wpL_block0 ?_
        refine wpL_seq ?_
        refine wpL_seq ?_
        refine wpL_region ?_
        refine sY hf hs rfl rfl rfl (Y_move rfl rfl) ?_; clear hf; intro a hf
        refine sY hf hs rfl rfl rfl (Y_move rfl rfl) ?_; clear hf; intro a hf
        obtain ⟨q23, hi24, hm20⟩ := bind_some hm20
        obtain ⟨hi24a, hi24b, hi24q⟩ := idx_some hi24
        refine sY hf hs rfl rfl rfl (Y_index rfl rfl rfl el23 ti2 (Rd.isAt (h_p0_a_1.at hs) (at1 (ints_at hi24q))) hi24a hi24b) ?_; clear hf; intro a hf
        refine sY hf hs rfl rfl rfl (Y_load_rd rfl rfl (fun w hs => h_p0_a_1.at hs) (at1 (ints_at hi24q)) ag2) ?_; clear hf; intro a hf
        refine sY hf hs rfl rfl rfl (Y_move rfl rfl) ?_; clear hf; intro a hf
        refine sY hf hs rfl rfl rfl (Y_neq rfl rfl rfl) ?_; clear hf; intro a hf
        refine wpO_nil ?_
        refine wpL_cond hf rfl (fun hb25 => ?_) (fun hb25 => ?_)
        · have hm20 := bif_t hm20 hb25
          refine wpL_seq ?_
          refine wpL_region ?_
          refine sY hf hs rfl rfl rfl (Y_assign rfl rfl) ?_; clear hf; intro a hf
          refine wpO_nil ?_
          obtain rfl := Option.some.inj hm20
          try dsimp only at hm
          obtain rfl := Option.some.inj hm
          refine wpL_ret (Qb_ret (Ql_ret (Qb_ret (ret_tmp rfl hf rfl ?_))))
          exact ⟨_, rfl, rfl, hs⟩
        · have hm20 := bif_f hm20 hb25
          refine wpL_skip ?_
          refine wpL_region ?_
          refine sY hf hs rfl rfl rfl (Y_move rfl rfl) ?_; clear hf; intro a hf
          refine sY hf hs rfl rfl rfl (Y_add rfl rfl rfl) ?_; clear hf; intro a hf
          refine sY hf hs rfl rfl rfl (Y_assign rfl rfl) ?_; clear hf; intro a hf
          refine wpO_nil ?_
          refine wpL_nil (Qb_normal ?_)
          refine wpL_region ?_
          refine sY hf hs rfl rfl rfl (Y_move rfl rfl) ?_; clear hf; intro a hf
          refine sY hf hs rfl rfl rfl (Y_add rfl rfl rfl) ?_; clear hf; intro a hf
          refine sY hf hs rfl rfl rfl (Y_assign rfl rfl) ?_; clear hf; intro a hf
          refine wpO_nil ?_
          refine wpL_nil (Ql_normal ?_)
          exact ⟨(IntKind.i64.wrap (x11 + 1)), (IntKind.i64.wrap (x12 + 1)), hm20, (FrD.pick (FrD.pick (FrD.pick hf.none hf rfl) hf rfl) hf rfl), hs⟩
      · have hm20 := bif_f hm20 hb22
        refine wpL_exit (Ql_exit (Qb_exit ?_))
        exact ⟨x11, Option.some.inj hm20, (FrD.pick hf.none hf rfl), hs⟩
  · rintro a w ⟨x17, hr_, hf, hs⟩
    subst hr_
    try dsimp only at hm
    refine wpL_seq ?_
    refine wpL_region ?_
    refine sY hf hs rfl rfl rfl (Y_move rfl rfl) ?_; clear hf; intro a hf
    refine sY hf hs rfl rfl rfl (Y_assign rfl rfl) ?_; clear hf; intro a hf
    refine wpO_nil ?_
    obtain rfl := Option.some.inj hm
    refine wpL_ret (ret_tmp rfl hf rfl ?_)
    exact ⟨_, rfl, rfl, hs⟩

set_option maxRecDepth 100000 in
theorem laws_heldInt64SS_ok (F : Nat) (p0_a : List (List Int)) (A_p0_a_1 : Option Addr) (n_p0_a_1 c_p0_a_1 : Nat) (hn_p0_a_1 : n_p0_a_1 = p0_a.length) (p1_k : Int) (r : Int) (W : World) (hm : laws_heldInt64SS F p0_a p1_k = some r) (h_p0_a_1 : RdM W A_p0_a_1 p0_a) :
    Calls Try.prog 99 [.slice A_p0_a_1 n_p0_a_1 c_p0_a_1, .int .i64 p1_k].toArray W fun e w' => ∃ v, e = .returned v ∧ v = .int .i64 r ∧ St [] W w' [] := by
  subst hn_p0_a_1
  unfold laws_heldInt64SS at hm
  refine Calls.enter (N := 21) Try.func99 rfl rfl rfl (fun a hf => ?_)
  have hs := St.start W
  obtain ⟨w, hw_⟩ : ∃ w, w = W := ⟨W, rfl⟩
  clear hw_ w
  refine wpL_seq ?_
  refine wpL_region ?_
  refine sY hf hs rfl rfl rfl (Y_assign rfl rfl) ?_; clear hf; intro a hf
  refine wpO_nil ?_
  refine wpL_seq ?_
  refine wpL_seq ?_
  refine wpL_region ?_
  refine sY hf hs rfl rfl rfl (Y_assign rfl rfl) ?_; clear hf; intro a hf
  refine wpO_nil ?_
  obtain ⟨r45, hl46, hm⟩ := bind_some hm
  refine wpL_block (fun a w => ∃ x44 : Int, Sum.inr x44 = r45 ∧ Fr a 21 [(1, .int .i64 x44)] ∧ St [] W w []) ?_ ?_
  · refine wpL_loop (fun n a w => ∃ x29 : Int, ∃ x30 : Int, laws_heldInt64SS_L1 F p0_a n x29 x30 = some r45 ∧ Fr a 21 [(0, .slice A_p0_a_1 p0_a.length c_p0_a_1), (1, .int .i64 x29), (5, .int .i64 x30)] ∧ St [] W w []) F ?_ ?_ ?_
    · exact ⟨p1_k, 0, hl46, (FrD.pick (FrD.pick (FrD.pick hf.none hf rfl) hf rfl) hf rfl), hs⟩
    · rintro a w ⟨x29, x30, h0_, -, -⟩; simp [laws_heldInt64SS_L1] at h0_
    · rintro n48 a w ⟨x29, x30, hm47, hf, hs⟩
      rw [laws_heldInt64SS_L1] at hm47
      refine wpL_seq ?_
      refine wpL_seq ?_
      refine wpL_region ?_
      refine sY hf hs rfl rfl rfl (Y_move rfl rfl) ?_; clear hf; intro a hf
      refine sY hf hs rfl rfl rfl (Y_move rfl rfl) ?_; clear hf; intro a hf
      refine sY hf hs rfl rfl rfl (Y_lenH rfl rfl el22 rfl) ?_; clear hf; intro a hf
      refine sY hf hs rfl rfl rfl (Y_lss rfl rfl rfl) ?_; clear hf; intro a hf
      refine wpO_nil ?_
      refine wpL_cond hf rfl (fun hb49 => ?_) (fun hb49 => ?_)
      · have hm47 := bif_t hm47 hb49
        refine wpL_skip ?_
        refine wpL_seq ?_
        refine wpL_block0 ?_
        refine wpL_seq ?_
        refine wpL_region ?_
        refine sY hf hs rfl rfl rfl (Y_move rfl rfl) ?_; clear hf; intro a hf
        refine sY hf hs rfl rfl rfl (Y_move rfl rfl) ?_; clear hf; intro a hf
        obtain ⟨q50, hi51, hm47⟩ := bind_some hm47
        obtain ⟨hi51a, hi51b, hi51q⟩ := idx_some hi51
        obtain ⟨vs52, hv53, hr54⟩ := id h_p0_a_1
        obtain ⟨A55, c56, hv57, hR58⟩ := hr54 _ _ hi51q
        refine sY hf hs rfl rfl rfl (Y_index rfl rfl rfl el22 ti23 (Rd.isAt hv53 hv57) hi51a hi51b) ?_; clear hf; intro a hf
        refine sY hf hs rfl rfl rfl (Y_load_rd rfl rfl (fun w hs => hv53.at hs) (at1 hv57) ag23) ?_; clear hf; intro a hf
        refine sY hf hs rfl rfl rfl (Y_move rfl rfl) ?_; clear hf; intro a hf
        obtain ⟨r59, hc60, hm47⟩ := bind_some hm47
        refine sCall hf rfl rfl rfl rfl (cap := []) rfl rfl en100 (laws_heldInt64S_ok F q50 A55 q50.length c56 rfl x29 _ _ hc60 (hR58.at hs)) ?_; clear hf
        rintro _ w ⟨rfl, hs1⟩ a hf
        have hs : St [] W w [] := hs.ext hs1.below
        clear hs1
        refine sY hf hs rfl rfl rfl (Y_assign rfl rfl) ?_; clear hf; intro a hf
        refine wpO_nil ?_
        refine wpL_seq ?_
        refine wpL_region ?_
        refine sY hf hs rfl rfl rfl (Y_move rfl rfl) ?_; clear hf; intro a hf
        refine sY hf hs rfl rfl rfl (Y_lss rfl rfl rfl) ?_; clear hf; intro a hf
        refine wpO_nil ?_
        refine wpL_cond hf rfl (fun hb61 => ?_) (fun hb61 => ?_)
        · have hm47 := bif_t hm47 hb61
          refine wpL_seq ?_
          refine wpL_region ?_
          refine sY hf hs rfl rfl rfl (Y_assign rfl rfl) ?_; clear hf; intro a hf
          refine wpO_nil ?_
          obtain rfl := Option.some.inj hm47
          try dsimp only at hm
          obtain rfl := Option.some.inj hm
          refine wpL_ret (Qb_ret (Ql_ret (Qb_ret (ret_tmp rfl hf rfl ?_))))
          exact ⟨_, rfl, rfl, hs⟩
        · have hm47 := bif_f hm47 hb61
          refine wpL_skip ?_
          refine wpL_nil (Qb_normal ?_)
          refine wpL_region ?_
          refine sY hf hs rfl rfl rfl (Y_move rfl rfl) ?_; clear hf; intro a hf
          refine sY hf hs rfl rfl rfl (Y_add rfl rfl rfl) ?_; clear hf; intro a hf
          refine sY hf hs rfl rfl rfl (Y_assign rfl rfl) ?_; clear hf; intro a hf
          refine wpO_nil ?_
          refine wpL_nil (Ql_normal ?_)
          exact ⟨r59, (IntKind.i64.wrap (x30 + 1)), hm47, (FrD.pick (FrD.pick (FrD.pick hf.none hf rfl) hf rfl) hf rfl), hs⟩
      · have hm47 := bif_f hm47 hb49
        refine wpL_exit (Ql_exit (Qb_exit ?_))
        exact ⟨x29, Option.some.inj hm47, (FrD.pick hf.none hf rfl), hs⟩
  · rintro a w ⟨x44, hr_, hf, hs⟩
    subst hr_
    try dsimp only at hm
    refine wpL_seq ?_
    refine wpL_region ?_
    refine sY hf hs rfl rfl rfl (Y_move rfl rfl) ?_; clear hf; intro a hf
    refine sY hf hs rfl rfl rfl (Y_assign rfl rfl) ?_; clear hf; intro a hf
    refine wpO_nil ?_
    obtain rfl := Option.some.inj hm
    refine wpL_ret (ret_tmp rfl hf rfl ?_)
    exact ⟨_, rfl, rfl, hs⟩

set_option maxRecDepth 100000 in
theorem laws_heldSystem_ok (F : Nat) (p0_a : GSystem) (A_p0_a_1 : Option Addr) (n_p0_a_1 c_p0_a_1 : Nat) (hn_p0_a_1 : n_p0_a_1 = p0_a.A.length) (A_p0_a_2 : Option Addr) (n_p0_a_2 c_p0_a_2 : Nat) (hn_p0_a_2 : n_p0_a_2 = p0_a.B.length) (A_p0_a_3 : Option Addr) (n_p0_a_3 c_p0_a_3 : Nat) (hn_p0_a_3 : n_p0_a_3 = p0_a.C.length) (p1_k : Int) (r : Int) (W : World) (hm : laws_heldSystem F p0_a p1_k = some r) (h_p0_a_1 : RdM W A_p0_a_1 p0_a.A) (h_p0_a_2 : Rd W A_p0_a_2 (ints p0_a.B)) (h_p0_a_3 : Rd W A_p0_a_3 (ints p0_a.C)) :
    Calls Try.prog 16 [.agg #[.slice A_p0_a_1 n_p0_a_1 c_p0_a_1, .slice A_p0_a_2 n_p0_a_2 c_p0_a_2, .slice A_p0_a_3 n_p0_a_3 c_p0_a_3], .int .i64 p1_k].toArray W fun e w' => ∃ v, e = .returned v ∧ v = .int .i64 r ∧ St [] W w' [] := by
  subst hn_p0_a_1
  subst hn_p0_a_2
  subst hn_p0_a_3
  unfold laws_heldSystem at hm
  refine Calls.enter (N := 24) Try.func16 rfl rfl rfl (fun a hf => ?_)
  have hs := St.start W
  obtain ⟨w, hw_⟩ : ∃ w, w = W := ⟨W, rfl⟩
  clear hw_ w
  refine wpL_seq ?_
  refine wpL_region ?_
  refine sBox hf hs rfl rfl rfl rfl rfl (cs := [.slice A_p0_a_1 p0_a.A.length c_p0_a_1, .slice A_p0_a_2 p0_a.B.length c_p0_a_2, .slice A_p0_a_3 p0_a.C.length c_p0_a_3]) rfl ?_; clear hf hs; intro a w b1 hs hf
  have hs : St [] W w [.blk b1 27 [.slice A_p0_a_1 p0_a.A.length c_p0_a_1, .slice A_p0_a_2 p0_a.B.length c_p0_a_2, .slice A_p0_a_3 p0_a.C.length c_p0_a_3]] := hs
  refine sY hf hs rfl rfl rfl (Y_assign rfl rfl) ?_; clear hf; intro a hf
  refine wpO_nil ?_
  refine wpL_seq ?_
  refine wpL_region ?_
  refine sY hf hs rfl rfl rfl (Y_fieldAddr rfl rfl fo27_0) ?_; clear hf; intro a hf
  refine sY hf hs rfl rfl rfl (Y_load_blk rfl rfl (i := 0) rfl rfl ag22) ?_; clear hf; intro a hf
  refine sY hf hs rfl rfl rfl (Y_move rfl rfl) ?_; clear hf; intro a hf
  obtain ⟨r2, hc3, hm⟩ := bind_some hm
  refine sCall hf rfl rfl rfl rfl (cap := []) rfl rfl en99 (laws_heldInt64SS_ok F p0_a.A A_p0_a_1 p0_a.A.length c_p0_a_1 rfl p1_k _ _ hc3 (h_p0_a_1.at hs)) ?_; clear hf
  rintro _ w ⟨rfl, hs1⟩ a hf
  have hs : St [] W w [.blk b1 27 [.slice A_p0_a_1 p0_a.A.length c_p0_a_1, .slice A_p0_a_2 p0_a.B.length c_p0_a_2, .slice A_p0_a_3 p0_a.C.length c_p0_a_3]] := hs.ext hs1.below
  clear hs1
  refine sY hf hs rfl rfl rfl (Y_assign rfl rfl) ?_; clear hf; intro a hf
  refine wpO_nil ?_
  refine wpL_seq ?_
  refine wpL_seq ?_
  refine wpL_region ?_
  refine sY hf hs rfl rfl rfl (Y_move rfl rfl) ?_; clear hf; intro a hf
  refine sY hf hs rfl rfl rfl (Y_lss rfl rfl rfl) ?_; clear hf; intro a hf
  refine wpO_nil ?_
  refine wpL_cond hf rfl (fun hb4 => ?_) (fun hb4 => ?_)
  · have hm := bif_t hm hb4
    refine wpL_seq ?_
    refine wpL_region ?_
    refine sY hf hs rfl rfl rfl (Y_assign rfl rfl) ?_; clear hf; intro a hf
    refine wpO_nil ?_
    obtain rfl := Option.some.inj hm
    refine wpL_ret (ret_tmp rfl hf rfl ?_)
    exact ⟨_, rfl, rfl, hs.sel [] (by decide)⟩
  · have hm := bif_f hm hb4
    refine wpL_skip ?_
    refine wpL_seq ?_
    refine wpL_region ?_
    refine sY hf hs rfl rfl rfl (Y_fieldAddr rfl rfl fo27_1) ?_; clear hf; intro a hf
    refine sY hf hs rfl rfl rfl (Y_load_blk rfl rfl (i := 0) rfl rfl ag23) ?_; clear hf; intro a hf
    refine sY hf hs rfl rfl rfl (Y_move rfl rfl) ?_; clear hf; intro a hf
    obtain ⟨r5, hc6, hm⟩ := bind_some hm
    refine sCall hf rfl rfl rfl rfl (cap := []) rfl rfl en100 (laws_heldInt64S_ok F p0_a.B A_p0_a_2 p0_a.B.length c_p0_a_2 rfl r2 _ _ hc6 (h_p0_a_2.at hs)) ?_; clear hf
    rintro _ w ⟨rfl, hs1⟩ a hf
    have hs : St [] W w [.blk b1 27 [.slice A_p0_a_1 p0_a.A.length c_p0_a_1, .slice A_p0_a_2 p0_a.B.length c_p0_a_2, .slice A_p0_a_3 p0_a.C.length c_p0_a_3]] := hs.ext hs1.below
    clear hs1
    refine sY hf hs rfl rfl rfl (Y_assign rfl rfl) ?_; clear hf; intro a hf
    refine wpO_nil ?_
    refine wpL_seq ?_
    refine wpL_seq ?_
    refine wpL_region ?_
    refine sY hf hs rfl rfl rfl (Y_move rfl rfl) ?_; clear hf; intro a hf
    refine sY hf hs rfl rfl rfl (Y_lss rfl rfl rfl) ?_; clear hf; intro a hf
    refine wpO_nil ?_
    refine wpL_cond hf rfl (fun hb7 => ?_) (fun hb7 => ?_)
    · have hm := bif_t hm hb7
      refine wpL_seq ?_
      refine wpL_region ?_
      refine sY hf hs rfl rfl rfl (Y_assign rfl rfl) ?_; clear hf; intro a hf
      refine wpO_nil ?_
      obtain rfl := Option.some.inj hm
      refine wpL_ret (ret_tmp rfl hf rfl ?_)
      exact ⟨_, rfl, rfl, hs.sel [] (by decide)⟩
    · have hm := bif_f hm hb7
      refine wpL_skip ?_
      refine wpL_seq ?_
      refine wpL_region ?_
      refine sY hf hs rfl rfl rfl (Y_fieldAddr rfl rfl fo27_2) ?_; clear hf; intro a hf
      refine sY hf hs rfl rfl rfl (Y_load_blk rfl rfl (i := 0) rfl rfl ag23) ?_; clear hf; intro a hf
      refine sY hf hs rfl rfl rfl (Y_move rfl rfl) ?_; clear hf; intro a hf
      obtain ⟨r8, hc9, hm⟩ := bind_some hm
      refine sCall hf rfl rfl rfl rfl (cap := []) rfl rfl en100 (laws_heldInt64S_ok F p0_a.C A_p0_a_3 p0_a.C.length c_p0_a_3 rfl r5 _ _ hc9 (h_p0_a_3.at hs)) ?_; clear hf
      rintro _ w ⟨rfl, hs1⟩ a hf
      have hs : St [] W w [.blk b1 27 [.slice A_p0_a_1 p0_a.A.length c_p0_a_1, .slice A_p0_a_2 p0_a.B.length c_p0_a_2, .slice A_p0_a_3 p0_a.C.length c_p0_a_3]] := hs.ext hs1.below
      clear hs1
      refine sY hf hs rfl rfl rfl (Y_assign rfl rfl) ?_; clear hf; intro a hf
      refine wpO_nil ?_
      refine wpL_seq ?_
      refine wpL_seq ?_
      refine wpL_region ?_
      refine sY hf hs rfl rfl rfl (Y_move rfl rfl) ?_; clear hf; intro a hf
      refine sY hf hs rfl rfl rfl (Y_lss rfl rfl rfl) ?_; clear hf; intro a hf
      refine wpO_nil ?_
      refine wpL_cond hf rfl (fun hb10 => ?_) (fun hb10 => ?_)
      · have hm := bif_t hm hb10
        refine wpL_seq ?_
        refine wpL_region ?_
        refine sY hf hs rfl rfl rfl (Y_assign rfl rfl) ?_; clear hf; intro a hf
        refine wpO_nil ?_
        obtain rfl := Option.some.inj hm
        refine wpL_ret (ret_tmp rfl hf rfl ?_)
        exact ⟨_, rfl, rfl, hs.sel [] (by decide)⟩
      · have hm := bif_f hm hb10
        refine wpL_skip ?_
        refine wpL_seq ?_
        refine wpL_region ?_
        refine sY hf hs rfl rfl rfl (Y_move rfl rfl) ?_; clear hf; intro a hf
        refine sY hf hs rfl rfl rfl (Y_assign rfl rfl) ?_; clear hf; intro a hf
        refine wpO_nil ?_
        obtain rfl := Option.some.inj hm
        refine wpL_ret (ret_tmp rfl hf rfl ?_)
        exact ⟨_, rfl, rfl, hs.sel [] (by decide)⟩

end Go.Proofs.Ytgkgimglgjfcjaa
