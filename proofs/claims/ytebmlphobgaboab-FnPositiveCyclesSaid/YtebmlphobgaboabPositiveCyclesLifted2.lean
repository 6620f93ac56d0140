/- The functions do what their models say. -/
import Derived.Test.YtebmlphobgaboabPositiveCyclesLifted1
import Derived.Test.YtebmlphobgaboabRows
namespace Go.Proofs.Ytebmlphobgaboab
open Go.RowKit

set_option maxRecDepth 100000 in
theorem impl_IsMatrix_ok (F : Nat) (p0_a : List (List Int)) (A_p0_a_1 : Option Addr) (n_p0_a_1 c_p0_a_1 : Nat) (hn_p0_a_1 : n_p0_a_1 = p0_a.length) (r : Bool) (W : World) (hm : impl_IsMatrix F p0_a = some r) (h_p0_a_1 : RdM W A_p0_a_1 p0_a) :
    Calls Try.prog 91 [.slice A_p0_a_1 n_p0_a_1 c_p0_a_1].toArray W fun e w' => ∃ v, e = .returned v ∧ v = .bool r ∧ St [] W w' [] := by
  subst hn_p0_a_1
  unfold impl_IsMatrix at hm
  refine Calls.enter (N := 19) Try.func91 rfl rfl rfl (fun a hf => ?_)
  have hs := St.start W
  obtain ⟨w, hw_⟩ : ∃ w, w = W := ⟨W, rfl⟩
  clear hw_ w
  refine wpL_seq ?_
  refine wpL_region ?_
  refine sBox hf hs rfl rfl rfl rfl rfl (cs := [.slice A_p0_a_1 p0_a.length c_p0_a_1]) rfl ?_; clear hf hs; intro a w b1 hs hf
  have hs : St [] W w [.blk b1 40 [.slice A_p0_a_1 p0_a.length c_p0_a_1]] := hs
  refine sY hf hs rfl rfl rfl (Y_assign rfl rfl) ?_; clear hf; intro a hf
  refine wpO_nil ?_
  refine wpL_seq ?_
  refine wpL_seq ?_
  obtain ⟨r17, hj18, hm⟩ := bind_some hm
  refine wpL_cut (fun a w => ∃ b16 : Bool, b16 = r17 ∧ Fr a 19 [(1, .pointer (some ⟨b1, 0, none⟩)), (14, .bool b16)] ∧ St [] W w [.blk b1 40 [.slice A_p0_a_1 p0_a.length c_p0_a_1]]) ?_ ?_
  · refine wpL_region ?_
    refine sY hf hs rfl rfl rfl (Y_load_blk rfl rfl (i := 0) rfl rfl ag40) ?_; clear hf; intro a hf
    refine sY hf hs rfl rfl rfl (Y_lenH rfl rfl el40 rfl) ?_; clear hf; intro a hf
    obtain ⟨r19, hc20, hj18⟩ := bind_some hj18
    refine sCall hf rfl rfl rfl rfl (cap := []) rfl rfl en71 (impl_within_ok F (p0_a.length : Int) 1 10 _ _ hc20) ?_; clear hf
    rintro _ w ⟨rfl, hs1⟩ a hf
    have hs : St [] W w [.blk b1 40 [.slice A_p0_a_1 p0_a.length c_p0_a_1]] := hs.ext hs1.below
    clear hs1
    refine sY hf hs rfl rfl rfl (Y_not rfl rfl) ?_; clear hf; intro a hf
    refine sY hf hs rfl rfl rfl (Y_move rfl rfl) ?_; clear hf; intro a hf
    refine bsplit (!r19) (fun hb21 => ?_) (fun hb21 => ?_)
    · have hj18 := bif_t hj18 hb21
      refine sNo hf rfl rfl rfl (congrArg (fun b => some (Value.bool b)) hb21) rfl rfl rfl ?_; clear hf; intro a hf
      refine sNo hf rfl rfl rfl (congrArg (fun b => some (Value.bool b)) hb21) rfl rfl rfl ?_; clear hf; intro a hf
      refine sNo hf rfl rfl rfl (congrArg (fun b => some (Value.bool b)) hb21) rfl rfl rfl ?_; clear hf; intro a hf
      refine sNo hf rfl rfl rfl (congrArg (fun b => some (Value.bool b)) hb21) rfl rfl rfl ?_; clear hf; intro a hf
      refine sNo hf rfl rfl rfl (congrArg (fun b => some (Value.bool b)) hb21) rfl rfl rfl ?_; clear hf; intro a hf
      refine sNo hf rfl rfl rfl (congrArg (fun b => some (Value.bool b)) hb21) rfl rfl rfl ?_; clear hf; intro a hf
      refine sY hf hs rfl rfl rfl (Y_pickT rfl (congrArg (fun b => some (Value.bool b)) hb21) rfl) ?_; clear hf; intro a hf
      refine wpO_nil ?_
      refine wpL_nil (then_normal ?_)
      exact ⟨true, Option.some.inj hj18, (FrD.pick (FrD.pick hf.none hf rfl) hf rfl), hs⟩
    · have hj18 := bif_f hj18 hb21
      refine sYg hf hs rfl rfl rfl (congrArg (fun b => some (Value.bool b)) hb21) rfl rfl rfl (Y_load_blk rfl rfl (i := 0) rfl rfl ag40) ?_; clear hf; intro a hf
      obtain ⟨q22, hi23, hj18⟩ := bind_some hj18
      obtain ⟨hi23a, hi23b, hi23q⟩ := idx_some hi23
      obtain ⟨vs24, hv25, hr26⟩ := id h_p0_a_1
      obtain ⟨A27, c28, hv29, hR30⟩ := hr26 _ _ hi23q
      refine sYg hf hs rfl rfl rfl (congrArg (fun b => some (Value.bool b)) hb21) rfl rfl rfl (Y_index rfl rfl rfl el40 ti28 (Rd.isAt hv25 hv29) hi23a hi23b) ?_; clear hf; intro a hf
      refine sYg hf hs rfl rfl rfl (congrArg (fun b => some (Value.bool b)) hb21) rfl rfl rfl (Y_load_rd rfl rfl (fun w hs => hv25.at hs) (at1 hv29) ag28) ?_; clear hf; intro a hf
      refine sYg hf hs rfl rfl rfl (congrArg (fun b => some (Value.bool b)) hb21) rfl rfl rfl (Y_lenH rfl rfl el28 rfl) ?_; clear hf; intro a hf
      obtain ⟨r31, hc32, hj18⟩ := bind_some hj18
      refine sCallg hf rfl rfl rfl (congrArg (fun b => some (Value.bool b)) hb21) rfl rfl rfl rfl (cap := []) rfl rfl en71 (impl_within_ok F (q22.length : Int) 1 10 _ _ hc32) ?_; clear hf
      rintro _ w ⟨rfl, hs1⟩ a hf
      have hs : St [] W w [.blk b1 40 [.slice A_p0_a_1 p0_a.length c_p0_a_1]] := hs.ext hs1.below
      clear hs1
      refine sYg hf hs rfl rfl rfl (congrArg (fun b => some (Value.bool b)) hb21) rfl rfl rfl (Y_not rfl rfl) ?_; clear hf; intro a hf
      refine sY hf hs rfl rfl rfl (Y_pickF rfl (congrArg (fun b => some (Value.bool b)) hb21) rfl) ?_; clear hf; intro a hf
      refine wpO_nil ?_
      refine wpL_nil (then_normal ?_)
      exact ⟨(!r31), Option.some.inj hj18, (FrD.pick (FrD.pick hf.none hf rfl) hf rfl), hs⟩
  · rintro a w ⟨b16, hr_, hf, hs⟩
    subst hr_
    try dsimp only at hm
    refine wpL_cond hf rfl (fun hb33 => ?_) (fun hb33 => ?_)
    · have hm := bif_t hm hb33
      refine wpL_seq ?_
      refine wpL_region ?_
      refine sY hf hs rfl rfl rfl (Y_assign rfl rfl) ?_; clear hf; intro a hf
      refine wpO_nil ?_
      obtain rfl := Option.some.inj hm
      refine wpL_ret (ret_tmp rfl hf rfl ?_)
      exact ⟨_, rfl, rfl, hs.sel [] (by decide)⟩
    · have hm := bif_f hm hb33
      refine wpL_skip ?_
      refine wpL_seq ?_
      refine wpL_region ?_
      refine sY hf hs rfl rfl rfl (Y_load_blk rfl rfl (i := 0) rfl rfl ag40) ?_; clear hf; intro a hf
      refine sY hf hs rfl rfl rfl (Y_makeFunc (us := []) (vs := [.pointer (some ⟨b1, 0, none⟩)]) rfl rfl rfl) ?_; clear hf; intro a hf
      obtain ⟨r34, hc35, hm⟩ := bind_some hm
      refine sCall hf rfl rfl rfl rfl (cap := []) rfl rfl en146 (slices_ContainsFunc_sint64_ok F p0_a A_p0_a_1 p0_a.length c_p0_a_1 rfl (fun x0 => impl_IsMatrix_c1 F x0 p0_a) 159 ([.pointer (some ⟨b1, 0, none⟩)]) _ _ hc35 (h_p0_a_1.at hs) (fun x0 Ax00 nx00 cx00 hx00 r w' hm_ hb rx00 => impl_IsMatrix_c1_ok F x0 Ax00 nx00 cx00 hx00 b1 p0_a A_p0_a_1 p0_a.length c_p0_a_1 rfl r w' hm_ rx00 ((h_p0_a_1.at hs).below hb (Nat.le_refl _)) ((hs.pb (i := 0) rfl).below hb (Nat.le_refl _))) en159) ?_; clear hf
      rintro _ w ⟨rfl, hs1⟩ a hf
      have hs : St [] W w [.blk b1 40 [.slice A_p0_a_1 p0_a.length c_p0_a_1]] := hs.ext hs1.below
      clear hs1
      refine sY hf hs rfl rfl rfl (Y_not rfl rfl) ?_; clear hf; intro a hf
      refine sY hf hs rfl rfl rfl (Y_assign rfl rfl) ?_; clear hf; intro a hf
      refine wpO_nil ?_
      obtain rfl := Option.some.inj hm
      refine wpL_ret (ret_tmp rfl hf rfl ?_)
      exact ⟨_, rfl, rfl, hs.sel [] (by decide)⟩

set_option maxRecDepth 100000 in
theorem impl_isSquare_ok (F : Nat) (p0_a : List (List Int)) (A_p0_a_1 : Option Addr) (n_p0_a_1 c_p0_a_1 : Nat) (hn_p0_a_1 : n_p0_a_1 = p0_a.length) (r : Bool) (W : World) (hm : impl_isSquare F p0_a = some r) (h_p0_a_1 : RdM W A_p0_a_1 p0_a) :
    Calls Try.prog 79 [.slice A_p0_a_1 n_p0_a_1 c_p0_a_1].toArray W fun e w' => ∃ v, e = .returned v ∧ v = .bool r ∧ St [] W w' [] := by
  subst hn_p0_a_1
  unfold impl_isSquare at hm
  refine Calls.enter (N := 14) Try.func79 rfl rfl rfl (fun a hf => ?_)
  have hs := St.start W
  obtain ⟨w, hw_⟩ : ∃ w, w = W := ⟨W, rfl⟩
  clear hw_ w
  refine wpL_seq ?_
  refine wpL_region ?_
  refine sY hf hs rfl rfl rfl (Y_assign rfl rfl) ?_; clear hf; intro a hf
  refine wpO_nil ?_
  refine wpL_seq ?_
  obtain ⟨r14, hj15, hm⟩ := bind_some hm
  refine wpL_cut (fun a w => ∃ b13 : Bool, b13 = r14 ∧ Fr a 14 [(2, .bool b13)] ∧ St [] W w []) ?_ ?_
  · refine wpL_region ?_
    refine sY hf hs rfl rfl rfl (Y_move rfl rfl) ?_; clear hf; intro a hf
    obtain ⟨r16, hc17, hj15⟩ := bind_some hj15
    refine sCall hf rfl rfl rfl rfl (cap := []) rfl rfl en91 (impl_IsMatrix_ok F p0_a A_p0_a_1 p0_a.length c_p0_a_1 rfl _ _ hc17 (h_p0_a_1.at hs)) ?_; clear hf
    rintro _ w ⟨rfl, hs1⟩ a hf
    have hs : St [] W w [] := hs.ext hs1.below
    clear hs1
    refine sY hf hs rfl rfl rfl (Y_move rfl rfl) ?_; clear hf; intro a hf
    refine bsplit r16 (fun hb18 => ?_) (fun hb18 => ?_)
    · have hj15 := bif_t hj15 hb18
      refine sYg hf hs rfl rfl rfl (congrArg (fun b => some (Value.bool b)) hb18) rfl rfl rfl (Y_move rfl rfl) ?_; clear hf; intro a hf
      refine sYg hf hs rfl rfl rfl (congrArg (fun b => some (Value.bool b)) hb18) rfl rfl rfl (Y_lenH rfl rfl el40 rfl) ?_; clear hf; intro a hf
      refine sYg hf hs rfl rfl rfl (congrArg (fun b => some (Value.bool b)) hb18) rfl rfl rfl (Y_move rfl rfl) ?_; clear hf; intro a hf
      obtain ⟨q19, hi20, hj15⟩ := bind_some hj15
      obtain ⟨hi20a, hi20b, hi20q⟩ := idx_some hi20
      obtain ⟨vs21, hv22, hr23⟩ := id h_p0_a_1
      obtain ⟨A24, c25, hv26, hR27⟩ := hr23 _ _ hi20q
      refine sYg hf hs rfl rfl rfl (congrArg (fun b => some (Value.bool b)) hb18) rfl rfl rfl (Y_index rfl rfl rfl el40 ti28 (Rd.isAt hv22 hv26) hi20a hi20b) ?_; clear hf; intro a hf
      refine sYg hf hs rfl rfl rfl (congrArg (fun b => some (Value.bool b)) hb18) rfl rfl rfl (Y_load_rd rfl rfl (fun w hs => hv22.at hs) (at1 hv26) ag28) ?_; clear hf; intro a hf
      refine sYg hf hs rfl rfl rfl (congrArg (fun b => some (Value.bool b)) hb18) rfl rfl rfl (Y_lenH rfl rfl el28 rfl) ?_; clear hf; intro a hf
      refine sYg hf hs rfl rfl rfl (congrArg (fun b => some (Value.bool b)) hb18) rfl rfl rfl (Y_eql rfl rfl rfl) ?_; clear hf; intro a hf
      refine sY hf hs rfl rfl rfl (Y_pickT rfl (congrArg (fun b => some (Value.bool b)) hb18) rfl) ?_; clear hf; intro a hf
      refine sY hf hs rfl rfl rfl (Y_assign rfl rfl) ?_; clear hf; intro a hf
      refine wpO_nil ?_
      refine wpL_nil (then_normal ?_)
      exact ⟨((p0_a.length : Int) == (q19.length : Int)), Option.some.inj hj15, (FrD.pick hf.none hf rfl), hs⟩
    · have hj15 := bif_f hj15 hb18
      refine sNo hf rfl rfl rfl (congrArg (fun b => some (Value.bool b)) hb18) rfl rfl rfl ?_; clear hf; intro a hf
      refine sNo hf rfl rfl rfl (congrArg (fun b => some (Value.bool b)) hb18) rfl rfl rfl ?_; clear hf; intro a hf
      refine sNo hf rfl rfl rfl (congrArg (fun b => some (Value.bool b)) hb18) rfl rfl rfl ?_; clear hf; intro a hf
      refine sNo hf rfl rfl rfl (congrArg (fun b => some (Value.bool b)) hb18) rfl rfl rfl ?_; clear hf; intro a hf
      refine sNo hf rfl rfl rfl (congrArg (fun b => some (Value.bool b)) hb18) rfl rfl rfl ?_; clear hf; intro a hf
      refine sNo hf rfl rfl rfl (congrArg (fun b => some (Value.bool b)) hb18) rfl rfl rfl ?_; clear hf; intro a hf
      refine sNo hf rfl rfl rfl (congrArg (fun b => some (Value.bool b)) hb18) rfl rfl rfl ?_; clear hf; intro a hf
      refine sY hf hs rfl rfl rfl (Y_pickF rfl (congrArg (fun b => some (Value.bool b)) hb18) rfl) ?_; clear hf; intro a hf
      refine sY hf hs rfl rfl rfl (Y_assign rfl rfl) ?_; clear hf; intro a hf
      refine wpO_nil ?_
      refine wpL_nil (then_normal ?_)
      exact ⟨false, Option.some.inj hj15, (FrD.pick hf.none hf rfl), hs⟩
  · rintro a w ⟨b13, hr_, hf, hs⟩
    subst hr_
    try dsimp only at hm
    obtain rfl := Option.some.inj hm
    refine wpL_ret (ret_tmp rfl hf rfl ?_)
    exact ⟨_, rfl, rfl, hs⟩

set_option maxRecDepth 100000 in
theorem impl_matrixBy_ok (F : Nat) (p0_m : Int) (p1_n : Int) (m_p2_entry : Int → Int → Option Int) (f_p2_entry : FuncId) (k_p2_entry : List Value) (r : List (List Int)) (W : World) (hm : impl_matrixBy F p0_m p1_n m_p2_entry = some r) (h_p2_entry : ∀ (x0 : Int) (x1 : Int) (r : Int) (w : World), m_p2_entry x0 x1 = some r → Below W.heap.size W w → Calls Try.prog f_p2_entry (([.int .i64 x0, .int .i64 x1] : List Value) ++ k_p2_entry).toArray w fun e w' => ∃ v, e = .returned v ∧ v = .int .i64 r ∧ St [] w w' []) (e_p2_entry : En Try.prog f_p2_entry) :
    Calls Try.prog 111 [.int .i64 p0_m, .int .i64 p1_n, .func (.func f_p2_entry) #[] k_p2_entry.toArray].toArray W fun e w' => ∃ v, e = .returned v ∧ ∃ A641, ∃ n642, ∃ c643, ∃ vs645, v = .slice A641 n642 c643 ∧ n642 = r.length ∧ St [] W w' [.mat A641 n642 c643 28 2 vs645 r] := by
  unfold impl_matrixBy at hm
  refine Calls.enter (N := 43) Try.func111 rfl rfl rfl (fun a hf => ?_)
  have hs := St.start W
  obtain ⟨w, hw_⟩ : ∃ w, w = W := ⟨W, rfl⟩
  clear hw_ w
  refine wpL_seq ?_
  refine wpL_region ?_
  refine sY hf hs rfl rfl rfl (Y_assign rfl rfl) ?_; clear hf; intro a hf
  refine wpO_nil ?_
  refine wpL_seq ?_
  refine wpL_region ?_
  refine sY hf hs rfl rfl rfl (Y_move rfl rfl) ?_; clear hf; intro a hf
  obtain ⟨ms3, hk2, hm⟩ := bind_some hm
  refine sMakeM 2 hf hs rfl rfl rfl rfl rfl hk2 el40 ti28 rfl ?_; clear hf hs; intro a w A1 vs4 hs hf
  have hs : St [] W w [.mat A1 ms3.length ms3.length 28 2 vs4 ms3] := hs
  refine sY hf hs rfl rfl rfl (Y_assign rfl rfl) ?_; clear hf; intro a hf
  refine wpO_nil ?_
  refine wpL_seq ?_
  refine wpL_seq ?_
  refine wpL_region ?_
  refine sY hf hs rfl rfl rfl (Y_move rfl rfl) ?_; clear hf; intro a hf
  refine sY hf hs rfl rfl rfl (Y_lenH rfl rfl el40 rfl) ?_; clear hf; intro a hf
  refine sY hf hs rfl rfl rfl (Y_move rfl rfl) ?_; clear hf; intro a hf
  refine wpO_nil ?_
  obtain ⟨r484, hl485, hm⟩ := bind_some hm
  refine wpL_block (fun a w => ∃ ms478 : List (List Int), ∃ A479, ∃ n480, ∃ c481, ∃ vs483, ms478 = r484 ∧ n480 = ms478.length ∧ Fr a 43 [(7, .slice A479 n480 c481)] ∧ St [] W w [.mat A479 n480 c481 28 2 vs483 ms478]) ?_ ?_
  · refine wpL_loop (fun n a w => ∃ ms318 : List (List Int), ∃ x324 : Int, ∃ A319, ∃ n320, ∃ c321, ∃ vs323, impl_matrixBy_L4 F p1_n m_p2_entry ms3 n ms318 x324 = some r484 ∧ n320 = ms318.length ∧ Fr a 43 [(1, .int .i64 p1_n), (2, .func (.func f_p2_entry) #[] k_p2_entry.toArray), (7, .slice A319 n320 c321), (13, .int .i64 (ms3.length : Int)), (14, .int .i64 x324)] ∧ St [] W w [.mat A319 n320 c321 28 2 vs323 ms318]) F ?_ ?_ ?_
    · exact ⟨ms3, 0, A1, ms3.length, ms3.length, vs4, hl485, rfl, (FrD.pick (FrD.pick (FrD.pick (FrD.pick (FrD.pick hf.none hf rfl) hf rfl) hf rfl) hf rfl) hf rfl), hs⟩
    · rintro a w ⟨ms318, x324, A319, n320, c321, vs323, h0_, -, -, -⟩; simp [impl_matrixBy_L4] at h0_
    · rintro n487 a w ⟨ms318, x324, A319, n320, c321, vs323, hm486, hn322, hf, hs⟩
      rw [impl_matrixBy_L4] at hm486
      refine wpL_seq ?_
      refine wpL_region ?_
      refine sY hf hs rfl rfl rfl (Y_lss rfl rfl rfl) ?_; clear hf; intro a hf
      refine wpO_nil ?_
      refine wpL_seq ?_
      refine wpL_cond hf rfl (fun hb488 => ?_) (fun hb488 => ?_)
      · have hm486 := bif_t hm486 hb488
        refine wpL_skip ?_
        refine wpL_seq ?_
        refine wpL_block0 ?_
        refine wpL_seq ?_
        refine wpL_region ?_
        refine sY hf hs rfl rfl rfl (Y_move rfl rfl) ?_; clear hf; intro a hf
        refine sY hf hs rfl rfl rfl (Y_assign rfl rfl) ?_; clear hf; intro a hf
        refine wpO_nil ?_
        refine wpL_seq ?_
        refine wpL_region ?_
        refine sY hf hs rfl rfl rfl (Y_move rfl rfl) ?_; clear hf; intro a hf
        refine sY hf hs rfl rfl rfl (Y_move rfl rfl) ?_; clear hf; intro a hf
        refine sY hf hs rfl rfl rfl (Y_move rfl rfl) ?_; clear hf; intro a hf
        obtain ⟨xs491, hk490, hm486⟩ := bind_some hm486
        refine sMakeL (enc := ints) hf hs rfl rfl rfl rfl rfl hk490 el28 ti2 rfl ints_made ?_; clear hf hs; intro a w A489 hs hf
        have hs : St [] W w [.mat A319 n320 c321 28 2 vs323 ms318, .row A489 xs491.length xs491.length 2 1 (ints xs491)] := hs
        obtain ⟨q492, hi493, hm486⟩ := bind_some hm486
        obtain ⟨hi493a, hi493b, hi493q⟩ := idx_some hi493
        obtain ⟨A494, c495, hv496⟩ := hs.matRow (i := 0) rfl hi493q
        refine sY hf hs rfl rfl rfl (Y_index rfl rfl rfl el40 ti28 (Rd.isAt (hs.rdV (i := 0) rfl) hv496) hi493a (ltn hn322 hi493b)) ?_; clear hf; intro a hf
        obtain ⟨ms497, hu498, hm486⟩ := bind_some hm486
        refine sStoreRowM (i := 0) (j := 1) (k := x324) hf hs rfl rfl rfl rfl rfl rfl rfl (by decide) rfl hu498 ti28 ?_; clear hs; intro w vs499 hs
        have hs : St [] W w [.mat A319 n320 c321 28 2 vs499 ms497] := hs
        refine wpO_nil ?_
        refine wpL_seq ?_
        refine wpL_region ?_
        refine sY hf hs rfl rfl rfl (Y_move rfl rfl) ?_; clear hf; intro a hf
        refine sY hf hs rfl rfl rfl (Y_move rfl rfl) ?_; clear hf; intro a hf
        obtain ⟨q500, hi501, hm486⟩ := bind_some hm486
        obtain ⟨hi501a, hi501b, hi501q⟩ := idx_some hi501
        obtain ⟨A502, c503, hv504⟩ := hs.matRow (i := 0) rfl hi501q
        refine sY hf hs rfl rfl rfl (Y_index rfl rfl rfl el40 ti28 (Rd.isAt (hs.rdV (i := 0) rfl) hv504) hi501a (ltn ((hn322).trans (upd_len hu498).symm) hi501b)) ?_; clear hf; intro a hf
        refine sY hf hs rfl rfl rfl (Y_load_rd rfl rfl (fun w hs => hs.rdV (i := 0) rfl) (at1 hv504) ag28) ?_; clear hf; intro a hf
        refine sY hf hs rfl rfl rfl (Y_lenH rfl rfl el28 rfl) ?_; clear hf; intro a hf
        refine sY hf hs rfl rfl rfl (Y_move rfl rfl) ?_; clear hf; intro a hf
        refine wpO_nil ?_
        obtain ⟨r606, hl607, hm486⟩ := bind_some hm486
        refine wpL_block (fun a w => ∃ ms604 : List (List Int), ms604 = r606 ∧ n320 = ms604.length ∧ Fr a 43 [(1, .int .i64 p1_n), (2, .func (.func f_p2_entry) #[] k_p2_entry.toArray), (7, .slice A319 n320 c321), (13, .int .i64 (ms3.length : Int)), (14, .int .i64 x324)] ∧ St [] W w [.mat A319 n320 c321 28 2 vs499 ms604]) ?_ ?_
        · refine wpL_loop (fun n a w => ∃ ms570 : List (List Int), ∃ x572 : Int, impl_matrixBy_L5 F m_p2_entry x324 q500 n ms570 x572 = some r606 ∧ n320 = ms570.length ∧ Fr a 43 [(1, .int .i64 p1_n), (2, .func (.func f_p2_entry) #[] k_p2_entry.toArray), (7, .slice A319 n320 c321), (8, .int .i64 x324), (13, .int .i64 (ms3.length : Int)), (14, .int .i64 x324), (26, .int .i64 (q500.length : Int)), (27, .int .i64 x572)] ∧ St [] W w [.mat A319 n320 c321 28 2 vs499 ms570]) F ?_ ?_ ?_
          · exact ⟨ms497, 0, hl607, ((hn322).trans (upd_len hu498).symm), (FrD.pick (FrD.pick (FrD.pick (FrD.pick (FrD.pick (FrD.pick (FrD.pick (FrD.pick hf.none hf rfl) hf rfl) hf rfl) hf rfl) hf rfl) hf rfl) hf rfl) hf rfl), hs⟩
          · rintro a w ⟨ms570, x572, h0_, -, -, -⟩; simp [impl_matrixBy_L5] at h0_
          · rintro n609 a w ⟨ms570, x572, hm608, hn571, hf, hs⟩
            rw [impl_matrixBy_L5] at hm608
            refine wpL_seq ?_
            refine wpL_region ?_
            refine sY hf hs rfl rfl rfl (Y_lss rfl rfl rfl) ?_; clear hf; intro a hf
            refine wpO_nil ?_
            refine wpL_seq ?_
            refine wpL_cond hf rfl (fun hb610 => ?_) (fun hb610 => ?_)
            · have hm608 := bif_t hm608 hb610
              refine wpL_skip ?_
              refine wpL_seq ?_
              refine wpL_block0 ?_
              refine wpL_seq ?_
              refine wpL_region ?_
              refine sY hf hs rfl rfl rfl (Y_move rfl rfl) ?_; clear hf; intro a hf
              refine sY hf hs rfl rfl rfl (Y_assign rfl rfl) ?_; clear hf; intro a hf
              refine wpO_nil ?_
              refine wpL_drawM [.mat A319 n320 c321 28 2 vs499 ms570] [10] (by kernel_rfl) hs ?_; clear hs; intro w hs
              have hs0 : St [] W w [.mat A319 n320 c321 28 2 vs499 ms570] := hs
              refine mYp (i := 0) rfl (by kernel_rfl) (by kernel_rfl) hf rfl rfl rfl (fun _ => Y_move rfl rfl) ?_; clear hf; intro a hf
              refine mYp (i := 1) rfl (by kernel_rfl) (by kernel_rfl) hf rfl rfl rfl (fun _ => Y_move rfl rfl) ?_; clear hf; intro a hf
              obtain ⟨q626, hi627, hm608⟩ := bind_some hm608
              obtain ⟨hi627a, hi627b, hi627q⟩ := idx_some hi627
              obtain ⟨A628, c629, hv630⟩ := hs.matRow (i := 0) rfl hi627q
              refine mYp (i := 2) rfl (by kernel_rfl) (by kernel_rfl) hf rfl rfl rfl (fun _ => Y_index rfl rfl rfl el40 ti28 (Rd.isAt (hs.rdV (i := 0) rfl) hv630) hi627a (ltn hn571 hi627b)) ?_; clear hf; intro a hf
              refine mY (i := 3) [[]] rfl (by kernel_rfl) (by kernel_rfl) hf hs0 rfl rfl rfl (Y_load_rd rfl rfl (fun w hs => hs.rdV (i := 0) rfl) (at1 hv630) ag28) ?_; clear hf; intro a hf
              refine mYp (i := 4) rfl (by kernel_rfl) (by kernel_rfl) hf rfl rfl rfl (fun _ => Y_move rfl rfl) ?_; clear hf; intro a hf
              refine mYp (i := 5) rfl (by kernel_rfl) (by kernel_rfl) hf rfl rfl rfl (fun _ => Y_move rfl rfl) ?_; clear hf; intro a hf
              refine mYp (i := 6) rfl (by kernel_rfl) (by kernel_rfl) hf rfl rfl rfl (fun _ => Y_move rfl rfl) ?_; clear hf; intro a hf
              refine mYp (i := 7) rfl (by kernel_rfl) (by kernel_rfl) hf rfl rfl rfl (fun _ => Y_move rfl rfl) ?_; clear hf; intro a hf
              refine mRun (i := 8) rfl (by kernel_rfl) ?_
              obtain ⟨r631, hc632, hm608⟩ := bind_some hm608
              refine sCall hf rfl rfl rfl rfl (cap := k_p2_entry) rfl rfl e_p2_entry (h_p2_entry x324 x572 _ _ hc632 hs.below) ?_; clear hf; rintro _ w ⟨rfl, hs1⟩ a hf; have hs := hs.ext hs1.below; clear hs1
              have hs0 : St [] W w [.mat A319 n320 c321 28 2 vs499 ms570] := hs
              refine wpO_nil ⟨Or.inr (fun _ => hs0), ?_⟩
              obtain ⟨q633, hi634, hm608⟩ := bind_some hm608
              obtain ⟨hi634a, hi634b, hi634q⟩ := idx_some hi634
              refine mYp (i := 9) rfl (by kernel_rfl) (by kernel_rfl) hf rfl rfl rfl (fun _ => Y_index rfl rfl rfl el28 ti2 (Rd.isAt (hs.rdRow (i := 0) rfl ⟨hi627q, hv630⟩) (at1 (ints_at hi634q))) hi634a hi634b) ?_; clear hf; intro a hf
              refine mRun (i := 10) rfl (by kernel_rfl) ?_
              obtain ⟨xs635, hu637, hm608⟩ := bind_some hm608
              obtain ⟨ms636, hu638, hm608⟩ := bind_some hm608
              refine sStoreM (i := 0) (k := x324) hf hs rfl rfl rfl rfl rfl rfl hi627q hv630 rfl hu637 hu638 ti2 ?_; clear hs; intro w hs
              obtain ⟨hq639, hv640⟩ := rowUpd hu637 hu638 hv630
              have hs : St [] W w [.mat A319 n320 c321 28 2 vs499 ms636] := hs
              refine wpO_nil ⟨Or.inl (by decide), ?_⟩
              refine mDone (by kernel_rfl) ?_
              clear hs0
              refine wpL_nil (Qb_normal ?_)
              refine wpL_region ?_
              refine sY hf hs rfl rfl rfl (Y_add rfl rfl rfl) ?_; clear hf; intro a hf
              refine sY hf hs rfl rfl rfl (Y_move rfl rfl) ?_; clear hf; intro a hf
              refine wpO_nil ?_
              refine wpL_nil (Ql_normal ?_)
              exact ⟨ms636, (IntKind.i64.wrap (x572 + 1)), hm608, ((hn571).trans (upd_len hu638).symm), (FrD.pick (FrD.pick (FrD.pick (FrD.pick (FrD.pick (FrD.pick (FrD.pick (FrD.pick hf.none hf rfl) hf rfl) hf rfl) hf rfl) hf rfl) hf rfl) hf rfl) hf rfl), hs⟩
            · have hm608 := bif_f hm608 hb610
              refine wpL_exit (Ql_exit (Qb_exit ?_))
              exact ⟨ms570, Option.some.inj hm608, hn571, (FrD.pick (FrD.pick (FrD.pick (FrD.pick (FrD.pick hf.none hf rfl) hf rfl) hf rfl) hf rfl) hf rfl), hs⟩
        · rintro a w ⟨ms604, hr_, hn605, hf, hs⟩
          subst hr_
          try dsimp only at hm486
          refine wpL_nil (Qb_normal ?_)
          refine wpL_region ?_
          refine sY hf hs rfl rfl rfl (Y_add rfl rfl rfl) ?_; clear hf; intro a hf
          refine sY hf hs rfl rfl rfl (Y_move rfl rfl) ?_; clear hf; intro a hf
          refine wpO_nil ?_
          refine wpL_nil (Ql_normal ?_)
          exact ⟨ms604, (IntKind.i64.wrap (x324 + 1)), A319, n320, c321, vs499, hm486, hn605, (FrD.pick (FrD.pick (FrD.pick (FrD.pick (FrD.pick hf.none hf rfl) hf rfl) hf rfl) hf rfl) hf rfl), hs⟩
      · have hm486 := bif_f hm486 hb488
        refine wpL_exit (Ql_exit (Qb_exit ?_))
        exact ⟨ms318, A319, n320, c321, vs323, Option.some.inj hm486, hn322, (FrD.pick hf.none hf rfl), hs⟩
  · rintro a w ⟨ms478, A479, n480, c481, vs483, hr_, hn482, hf, hs⟩
    subst hr_
    try dsimp only at hm
    refine wpL_seq ?_
    refine wpL_region ?_
    refine sY hf hs rfl rfl rfl (Y_move rfl rfl) ?_; clear hf; intro a hf
    refine sY hf hs rfl rfl rfl (Y_assign rfl rfl) ?_; clear hf; intro a hf
    refine wpO_nil ?_
    obtain rfl := Option.some.inj hm
    refine wpL_ret (ret_tmp rfl hf rfl ?_)
    exact ⟨_, rfl, A479, n480, c481, vs483, rfl, hn482, hs⟩

set_option maxRecDepth 100000 in
theorem impl_unitMatrix_c1_ok (F : Nat) (p0_i : Int) (p1_j : Int) (r : Int) (W : World) (hm : impl_unitMatrix_c1 F p0_i p1_j = some r) :
    Calls Try.prog 158 [.int .i64 p0_i, .int .i64 p1_j].toArray W fun e w' => ∃ v, e = .returned v ∧ v = .int .i64 r ∧ St [] W w' [] := by
  unfold impl_unitMatrix_c1 at hm
  refine Calls.enter (N := 8) Try.func158 rfl rfl rfl (fun a hf => ?_)
  have hs := St.start W
  obtain ⟨w, hw_⟩ : ∃ w, w = W := ⟨W, rfl⟩
  clear hw_ w
  refine wpL_seq ?_
  refine wpL_region ?_
  refine sY hf hs rfl rfl rfl (Y_assign rfl rfl) ?_; clear hf; intro a hf
  refine wpO_nil ?_
  refine wpL_seq ?_
  refine wpL_seq ?_
  refine wpL_region ?_
  refine sY hf hs rfl rfl rfl (Y_move rfl rfl) ?_; clear hf; intro a hf
  refine sY hf hs rfl rfl rfl (Y_move rfl rfl) ?_; clear hf; intro a hf
  refine sY hf hs rfl rfl rfl (Y_eql rfl rfl rfl) ?_; clear hf; intro a hf
  refine wpO_nil ?_
  refine wpL_cond hf rfl (fun hb1 => ?_) (fun hb1 => ?_)
  · have hm := bif_t hm hb1
    refine wpL_seq ?_
    refine wpL_region ?_
    refine sY hf hs rfl rfl rfl (Y_assign rfl rfl) ?_; clear hf; intro a hf
    refine wpO_nil ?_
    obtain rfl := Option.some.inj hm
    refine wpL_ret (ret_tmp rfl hf rfl ?_)
    exact ⟨_, rfl, rfl, hs⟩
  · have hm := bif_f hm hb1
    refine wpL_skip ?_
    refine wpL_seq ?_
    refine wpL_region ?_
    refine sY hf hs rfl rfl rfl (Y_assign rfl rfl) ?_; clear hf; intro a hf
    refine wpO_nil ?_
    obtain rfl := Option.some.inj hm
    refine wpL_ret (ret_tmp rfl hf rfl ?_)
    exact ⟨_, rfl, rfl, hs⟩

set_option maxRecDepth 100000 in
theorem impl_unitMatrix_ok (F : Nat) (p0_n : Int) (r : List (List Int)) (W : World) (hm : impl_unitMatrix F p0_n = some r) :
    Calls Try.prog 90 [.int .i64 p0_n].toArray W fun e w' => ∃ v, e = .returned v ∧ ∃ A8, ∃ n9, ∃ c10, ∃ vs12, v = .slice A8 n9 c10 ∧ n9 = r.length ∧ St [] W w' [.mat A8 n9 c10 28 2 vs12 r] := by
  unfold impl_unitMatrix at hm
  refine Calls.enter (N := 6) Try.func90 rfl rfl rfl (fun a hf => ?_)
  have hs := St.start W
  obtain ⟨w, hw_⟩ : ∃ w, w = W := ⟨W, rfl⟩
  clear hw_ w
  refine wpL_seq ?_
  refine wpL_region ?_
  refine sY hf hs rfl rfl rfl (Y_assign rfl rfl) ?_; clear hf; intro a hf
  refine wpO_nil ?_
  refine wpL_seq ?_
  refine wpL_region ?_
  refine sY hf hs rfl rfl rfl (Y_move rfl rfl) ?_; clear hf; intro a hf
  refine sY hf hs rfl rfl rfl (Y_move rfl rfl) ?_; clear hf; intro a hf
  obtain ⟨r1, hc2, hm⟩ := bind_some hm
  refine sCall hf rfl rfl rfl rfl (cap := []) rfl rfl en111 (impl_matrixBy_ok F p0_n p0_n (fun x0 x1 => impl_unitMatrix_c1 F x0 x1) 158 [] _ _ hc2 (fun x0 x1 r w' hm_ hb => impl_unitMatrix_c1_ok F x0 x1 r w' hm_ ) en158) ?_; clear hf
  rintro _ w ⟨A3, n4, c5, vs7, rfl, hn6, hs1⟩ a hf
  have hs : St [] W w [.mat A3 n4 c5 28 2 vs7 r1] := hs.join hs1
  clear hs1
  refine sY hf hs rfl rfl rfl (Y_assign rfl rfl) ?_; clear hf; intro a hf
  refine wpO_nil ?_
  obtain rfl := Option.some.inj hm
  refine wpL_ret (ret_tmp rfl hf rfl ?_)
  exact ⟨_, rfl, A3, n4, c5, vs7, rfl, hn6, hs⟩

set_option maxRecDepth 100000 in
theorem impl_addMatrices_c1_ok (F : Nat) (p0_i : Int) (p1_j : Int) (b_z0 : Nat) (z0 : List (List Int)) (A_z0_1 : Option Addr) (n_z0_1 c_z0_1 : Nat) (hn_z0_1 : n_z0_1 = z0.length) (b_z1 : Nat) (z1 : List (List Int)) (A_z1_1 : Option Addr) (n_z1_1 c_z1_1 : Nat) (hn_z1_1 : n_z1_1 = z1.length) (r : Int) (W : World) (hm : impl_addMatrices_c1 F p0_i p1_j z0 z1 = some r) (h_z0_1 : RdM W A_z0_1 z0) (h_z0 : PB W b_z0 40 [.slice A_z0_1 n_z0_1 c_z0_1]) (h_z1_1 : RdM W A_z1_1 z1) (h_z1 : PB W b_z1 40 [.slice A_z1_1 n_z1_1 c_z1_1]) :
    Calls Try.prog 160 [.int .i64 p0_i, .int .i64 p1_j, .pointer (some ⟨b_z0, 0, none⟩), .pointer (some ⟨b_z1, 0, none⟩)].toArray W fun e w' => ∃ v, e = .returned v ∧ v = .int .i64 r ∧ St [] W w' [] := by
  subst hn_z0_1
  subst hn_z1_1
  unfold impl_addMatrices_c1 at hm
  refine Calls.enter (N := 22) Try.func160 rfl rfl rfl (fun a hf => ?_)
  have hs := St.start W
  obtain ⟨w, hw_⟩ : ∃ w, w = W := ⟨W, rfl⟩
  clear hw_ w
  refine wpL_seq ?_
  refine wpL_region ?_
  refine sY hf hs rfl rfl rfl (Y_assign rfl rfl) ?_; clear hf; intro a hf
  refine wpO_nil ?_
  refine wpL_seq ?_
  refine wpL_draw (by kernel_rfl) (by kernel_rfl) hs ?_
  refine qY hf rfl rfl rfl (Y_load_pb rfl rfl h_z0 rfl ag40) ?_; clear hf; intro a hf
  refine qY hf rfl rfl rfl (Y_move rfl rfl) ?_; clear hf; intro a hf
  obtain ⟨q1, hi2, hm⟩ := bind_some hm
  obtain ⟨hi2a, hi2b, hi2q⟩ := idx_some hi2
  obtain ⟨vs3, hv4, hr5⟩ := id h_z0_1
  obtain ⟨A6, c7, hv8, hR9⟩ := hr5 _ _ hi2q
  refine qY hf rfl rfl rfl (Y_index rfl rfl rfl el40 ti28 (Rd.isAt hv4 hv8) hi2a hi2b) ?_; clear hf; intro a hf
  refine qY hf rfl rfl rfl (Y_load_rd rfl rfl (fun w hs => hv4.at hs) (at1 hv8) ag28) ?_; clear hf; intro a hf
  refine qY hf rfl rfl rfl (Y_move rfl rfl) ?_; clear hf; intro a hf
  obtain ⟨q10, hi11, hm⟩ := bind_some hm
  obtain ⟨hi11a, hi11b, hi11q⟩ := idx_some hi11
  refine qY hf rfl rfl rfl (Y_index rfl rfl rfl el28 ti2 (Rd.isAt (hR9.at hs) (at1 (ints_at hi11q))) hi11a hi11b) ?_; clear hf; intro a hf
  refine qY hf rfl rfl rfl (Y_load_rd rfl rfl (fun w hs => hR9.at hs) (at1 (ints_at hi11q)) ag2) ?_; clear hf; intro a hf
  refine qY hf rfl rfl rfl (Y_load_pb rfl rfl h_z1 rfl ag40) ?_; clear hf; intro a hf
  refine qY hf rfl rfl rfl (Y_move rfl rfl) ?_; clear hf; intro a hf
  obtain ⟨q12, hi13, hm⟩ := bind_some hm
  obtain ⟨hi13a, hi13b, hi13q⟩ := idx_some hi13
  obtain ⟨vs14, hv15, hr16⟩ := id h_z1_1
  obtain ⟨A17, c18, hv19, hR20⟩ := hr16 _ _ hi13q
  refine qY hf rfl rfl rfl (Y_index rfl rfl rfl el40 ti28 (Rd.isAt hv15 hv19) hi13a hi13b) ?_; clear hf; intro a hf
  refine qY hf rfl rfl rfl (Y_load_rd rfl rfl (fun w hs => hv15.at hs) (at1 hv19) ag28) ?_; clear hf; intro a hf
  refine qY hf rfl rfl rfl (Y_move rfl rfl) ?_; clear hf; intro a hf
  obtain ⟨q21, hi22, hm⟩ := bind_some hm
  obtain ⟨hi22a, hi22b, hi22q⟩ := idx_some hi22
  refine qY hf rfl rfl rfl (Y_index rfl rfl rfl el28 ti2 (Rd.isAt (hR20.at hs) (at1 (ints_at hi22q))) hi22a hi22b) ?_; clear hf; intro a hf
  refine qY hf rfl rfl rfl (Y_load_rd rfl rfl (fun w hs => hR20.at hs) (at1 (ints_at hi22q)) ag2) ?_; clear hf; intro a hf
  refine qY hf rfl rfl rfl (Y_max rfl rfl rfl) ?_; clear hf; intro a hf
  refine qY hf rfl rfl rfl (Y_assign rfl rfl) ?_; clear hf; intro a hf
  refine qNil ?_; clear hs; intro w hs
  obtain rfl := Option.some.inj hm
  refine wpL_ret (ret_tmp rfl hf rfl ?_)
  exact ⟨_, rfl, rfl, hs⟩

set_option maxRecDepth 100000 in
theorem impl_addMatrices_ok (F : Nat) (p0_a : List (List Int)) (A_p0_a_1 : Option Addr) (n_p0_a_1 c_p0_a_1 : Nat) (hn_p0_a_1 : n_p0_a_1 = p0_a.length) (p1_b : List (List Int)) (A_p1_b_1 : Option Addr) (n_p1_b_1 c_p1_b_1 : Nat) (hn_p1_b_1 : n_p1_b_1 = p1_b.length) (r : List (List Int)) (W : World) (hm : impl_addMatrices F p0_a p1_b = some r) (h_p0_a_1 : RdM W A_p0_a_1 p0_a) (h_p1_b_1 : RdM W A_p1_b_1 p1_b) :
    Calls Try.prog 92 [.slice A_p0_a_1 n_p0_a_1 c_p0_a_1, .slice A_p1_b_1 n_p1_b_1 c_p1_b_1].toArray W fun e w' => ∃ v, e = .returned v ∧ ∃ A19, ∃ n20, ∃ c21, ∃ vs23, v = .slice A19 n20 c21 ∧ n20 = r.length ∧ St [] W w' [.mat A19 n20 c21 28 2 vs23 r] := by
  subst hn_p0_a_1
  subst hn_p1_b_1
  unfold impl_addMatrices at hm
  refine Calls.enter (N := 13) Try.func92 rfl rfl rfl (fun a hf => ?_)
  have hs := St.start W
  obtain ⟨w, hw_⟩ : ∃ w, w = W := ⟨W, rfl⟩
  clear hw_ w
  refine wpL_seq ?_
  refine wpL_region ?_
  refine sBox hf hs rfl rfl rfl rfl rfl (cs := [.slice A_p0_a_1 p0_a.length c_p0_a_1]) rfl ?_; clear hf hs; intro a w b1 hs hf
  have hs : St [] W w [.blk b1 40 [.slice A_p0_a_1 p0_a.length c_p0_a_1]] := hs
  refine sBox hf hs rfl rfl rfl rfl rfl (cs := [.slice A_p1_b_1 p1_b.length c_p1_b_1]) rfl ?_; clear hf hs; intro a w b2 hs hf
  have hs : St [] W w [.blk b1 40 [.slice A_p0_a_1 p0_a.length c_p0_a_1], .blk b2 40 [.slice A_p1_b_1 p1_b.length c_p1_b_1]] := hs
  refine sY hf hs rfl rfl rfl (Y_assign rfl rfl) ?_; clear hf; intro a hf
  refine wpO_nil ?_
  refine wpL_seq ?_
  refine wpL_drawM [.blk b1 40 [.slice A_p0_a_1 p0_a.length c_p0_a_1], .blk b2 40 [.slice A_p1_b_1 p1_b.length c_p1_b_1]] [7] (by kernel_rfl) hs ?_; clear hs; intro w hs
  have hs0 : St [] W w [.blk b1 40 [.slice A_p0_a_1 p0_a.length c_p0_a_1], .blk b2 40 [.slice A_p1_b_1 p1_b.length c_p1_b_1]] := hs
  refine mY (i := 0) [[1]] rfl (by kernel_rfl) (by kernel_rfl) hf hs0 rfl rfl rfl (Y_load_blk rfl rfl (i := 0) rfl rfl ag40) ?_; clear hf; intro a hf
  refine mYp (i := 1) rfl (by kernel_rfl) (by kernel_rfl) hf rfl rfl rfl (fun _ => Y_lenH rfl rfl el40 rfl) ?_; clear hf; intro a hf
  refine mY (i := 2) [[3, 4, 5]] rfl (by kernel_rfl) (by kernel_rfl) hf hs0 rfl rfl rfl (Y_load_blk rfl rfl (i := 0) rfl rfl ag40) ?_; clear hf; intro a hf
  obtain ⟨q3, hi4, hm⟩ := bind_some hm
  obtain ⟨hi4a, hi4b, hi4q⟩ := idx_some hi4
  obtain ⟨vs5, hv6, hr7⟩ := id h_p0_a_1
  obtain ⟨A8, c9, hv10, hR11⟩ := hr7 _ _ hi4q
  refine mYp (i := 3) rfl (by kernel_rfl) (by kernel_rfl) hf rfl rfl rfl (fun _ => Y_index rfl rfl rfl el40 ti28 (Rd.isAt hv6 hv10) hi4a hi4b) ?_; clear hf; intro a hf
  refine mY (i := 4) [[5]] rfl (by kernel_rfl) (by kernel_rfl) hf hs0 rfl rfl rfl (Y_load_rd rfl rfl (fun w hs => hv6.at hs) (at1 hv10) ag28) ?_; clear hf; intro a hf
  refine mYp (i := 5) rfl (by kernel_rfl) (by kernel_rfl) hf rfl rfl rfl (fun _ => Y_lenH rfl rfl el28 rfl) ?_; clear hf; intro a hf
  refine mYp (i := 6) rfl (by kernel_rfl) (by kernel_rfl) hf rfl rfl rfl (fun _ => Y_makeFunc (us := []) (vs := [.pointer (some ⟨b1, 0, none⟩), .pointer (some ⟨b2, 0, none⟩)]) rfl rfl rfl) ?_; clear hf; intro a hf
  refine mRun (i := 7) rfl (by kernel_rfl) ?_
  obtain ⟨r12, hc13, hm⟩ := bind_some hm
  refine sCall hf rfl rfl rfl rfl (cap := []) rfl rfl en111 (impl_matrixBy_ok F (p0_a.length : Int) (q3.length : Int) (fun x0 x1 => impl_addMatrices_c1 F x0 x1 p0_a p1_b) 160 ([.pointer (some ⟨b1, 0, none⟩), .pointer (some ⟨b2, 0, none⟩)]) _ _ hc13 (fun x0 x1 r w' hm_ hb => impl_addMatrices_c1_ok F x0 x1 b1 p0_a A_p0_a_1 p0_a.length c_p0_a_1 rfl b2 p1_b A_p1_b_1 p1_b.length c_p1_b_1 rfl r w' hm_ ((h_p0_a_1.at hs).below hb (Nat.le_refl _)) ((hs.pb (i := 0) rfl).below hb (Nat.le_refl _)) ((h_p1_b_1.at hs).below hb (Nat.le_refl _)) ((hs.pb (i := 1) rfl).below hb (Nat.le_refl _))) en160) ?_; clear hf
  rintro _ w ⟨A14, n15, c16, vs18, rfl, hn17, hs1⟩ a hf
  have hs : St [] W w [.blk b1 40 [.slice A_p0_a_1 p0_a.length c_p0_a_1], .blk b2 40 [.slice A_p1_b_1 p1_b.length c_p1_b_1], .mat A14 n15 c16 28 2 vs18 r12] := hs.join hs1
  clear hs1
  refine wpO_nil ⟨Or.inl (by decide), ?_⟩
  refine mYp (i := 8) rfl (by kernel_rfl) (by kernel_rfl) hf rfl rfl rfl (fun _ => Y_assign rfl rfl) ?_; clear hf; intro a hf
  refine mDone (by kernel_rfl) ?_
  clear hs0
  obtain rfl := Option.some.inj hm
  refine wpL_ret (ret_tmp rfl hf rfl ?_)
  exact ⟨_, rfl, A14, n15, c16, vs18, rfl, hn17, hs.sel [2] (by decide)⟩

set_option maxRecDepth 100000 in
theorem impl_times_ok (F : Nat) (p0_a : Int) (p1_b : Int) (r : Int) (W : World) (hm : impl_times F p0_a p1_b = some r) :
    Calls Try.prog 145 [.int .i64 p0_a, .int .i64 p1_b].toArray W fun e w' => ∃ v, e = .returned v ∧ v = .int .i64 r ∧ St [] W w' [] := by
  unfold impl_times at hm
  refine Calls.enter (N := 14) Try.func145 rfl rfl rfl (fun a hf => ?_)
  have hs := St.start W
  obtain ⟨w, hw_⟩ : ∃ w, w = W := ⟨W, rfl⟩
  clear hw_ w
  refine wpL_seq ?_
  refine wpL_region ?_
  refine sY hf hs rfl rfl rfl (Y_assign rfl rfl) ?_; clear hf; intro a hf
  refine wpO_nil ?_
  refine wpL_seq ?_
  refine wpL_seq ?_
  obtain ⟨r3, hj4, hm⟩ := bind_some hm
  refine wpL_cut (fun a w => ∃ b2 : Bool, b2 = r3 ∧ Fr a 14 [(0, .int .i64 p0_a), (1, .int .i64 p1_b), (10, .bool b2)] ∧ St [] W w []) ?_ ?_
  · refine wpL_region ?_
    refine sY hf hs rfl rfl rfl (Y_move rfl rfl) ?_; clear hf; intro a hf
    refine sY hf hs rfl rfl rfl (Y_eql rfl rfl rfl) ?_; clear hf; intro a hf
    refine sY hf hs rfl rfl rfl (Y_move rfl rfl) ?_; clear hf; intro a hf
    refine bsplit (p0_a == (-1000000000000000)) (fun hb5 => ?_) (fun hb5 => ?_)
    · have hj4 := bif_t hj4 hb5
      refine sNo hf rfl rfl rfl (congrArg (fun b => some (Value.bool b)) hb5) rfl rfl rfl ?_; clear hf; intro a hf
      refine sNo hf rfl rfl rfl (congrArg (fun b => some (Value.bool b)) hb5) rfl rfl rfl ?_; clear hf; intro a hf
      refine sY hf hs rfl rfl rfl (Y_pickT rfl (congrArg (fun b => some (Value.bool b)) hb5) rfl) ?_; clear hf; intro a hf
      refine wpO_nil ?_
      refine wpL_nil (then_normal ?_)
      exact ⟨true, Option.some.inj hj4, (FrD.pick (FrD.pick (FrD.pick hf.none hf rfl) hf rfl) hf rfl), hs⟩
    · have hj4 := bif_f hj4 hb5
      refine sYg hf hs rfl rfl rfl (congrArg (fun b => some (Value.bool b)) hb5) rfl rfl rfl (Y_move rfl rfl) ?_; clear hf; intro a hf
      refine sYg hf hs rfl rfl rfl (congrArg (fun b => some (Value.bool b)) hb5) rfl rfl rfl (Y_eql rfl rfl rfl) ?_; clear hf; intro a hf
      refine sY hf hs rfl rfl rfl (Y_pickF rfl (congrArg (fun b => some (Value.bool b)) hb5) rfl) ?_; clear hf; intro a hf
      refine wpO_nil ?_
      refine wpL_nil (then_normal ?_)
      exact ⟨(p1_b == (-1000000000000000)), Option.some.inj hj4, (FrD.pick (FrD.pick (FrD.pick hf.none hf rfl) hf rfl) hf rfl), hs⟩
  · rintro a w ⟨b2, hr_, hf, hs⟩
    subst hr_
    try dsimp only at hm
    refine wpL_cond hf rfl (fun hb6 => ?_) (fun hb6 => ?_)
    · have hm := bif_t hm hb6
      refine wpL_seq ?_
      refine wpL_region ?_
      refine sY hf hs rfl rfl rfl (Y_assign rfl rfl) ?_; clear hf; intro a hf
      refine wpO_nil ?_
      obtain rfl := Option.some.inj hm
      refine wpL_ret (ret_tmp rfl hf rfl ?_)
      exact ⟨_, rfl, rfl, hs⟩
    · have hm := bif_f hm hb6
      refine wpL_skip ?_
      refine wpL_seq ?_
      refine wpL_region ?_
      refine sY hf hs rfl rfl rfl (Y_move rfl rfl) ?_; clear hf; intro a hf
      refine sY hf hs rfl rfl rfl (Y_move rfl rfl) ?_; clear hf; intro a hf
      refine sY hf hs rfl rfl rfl (Y_add rfl rfl rfl) ?_; clear hf; intro a hf
      refine sY hf hs rfl rfl rfl (Y_assign rfl rfl) ?_; clear hf; intro a hf
      refine wpO_nil ?_
      obtain rfl := Option.some.inj hm
      refine wpL_ret (ret_tmp rfl hf rfl ?_)
      exact ⟨_, rfl, rfl, hs⟩

set_option maxHeartbeats 2000000 in
set_option maxRecDepth 100000 in
theorem impl_starOf_ok (F : Nat) (p0 : List (List Int)) (A_p0_1 : Option Addr) (n_p0_1 c_p0_1 : Nat) (hn_p0_1 : n_p0_1 = p0.length) (r : List (List Int) × Bool) (W : World) (hm : impl_starOf F p0 = some r) (h_p0_1 : RdM W A_p0_1 p0) :
    Calls Try.prog 80 [.slice A_p0_1 n_p0_1 c_p0_1].toArray W fun e w' => ∃ v, e = .returned v ∧ ∃ A5035, ∃ n5036, ∃ c5037, ∃ vs5039, v = .tuple #[.slice A5035 n5036 c5037, .bool r.2] ∧ n5036 = r.1.length ∧ St [] W w' [.mat A5035 n5036 c5037 28 2 vs5039 r.1] := by
  subst hn_p0_1
  unfold impl_starOf at hm
  refine Calls.enter (N := 84) Try.func80 rfl rfl rfl (fun a hf => ?_)
  have hs := St.start W
  obtain ⟨w, hw_⟩ : ∃ w, w = W := ⟨W, rfl⟩
  clear hw_ w
  refine wpL_seq ?_
  refine wpL_region ?_
  refine sY hf hs rfl rfl rfl (Y_assign rfl rfl) ?_; clear hf; intro a hf
  refine sY hf hs rfl rfl rfl (Y_assign rfl rfl) ?_; clear hf; intro a hf
  refine wpO_nil ?_
  refine wpL_seq ?_
  refine wpL_region ?_
  refine sY hf hs rfl rfl rfl (Y_move rfl rfl) ?_; clear hf; intro a hf
  refine sY hf hs rfl rfl rfl (Y_move rfl rfl) ?_; clear hf; intro a hf
  refine sY hf hs rfl rfl rfl (Y_lenH rfl rfl el40 rfl) ?_; clear hf; intro a hf
  obtain ⟨r1, hc2, hm⟩ := bind_some hm
  refine sCall hf rfl rfl rfl rfl (cap := []) rfl rfl en90 (impl_unitMatrix_ok F (p0.length : Int) _ _ hc2) ?_; clear hf
  rintro _ w ⟨A3, n4, c5, vs7, rfl, hn6, hs1⟩ a hf
  have hs : St [] W w [.mat A3 n4 c5 28 2 vs7 r1] := hs.join hs1
  clear hs1
  obtain ⟨r8, hc9, hm⟩ := bind_some hm
  refine sCall hf rfl rfl rfl rfl (cap := []) rfl rfl en92 (impl_addMatrices_ok F p0 A_p0_1 p0.length c_p0_1 rfl r1 A3 n4 c5 hn6 _ _ hc9 (h_p0_1.at hs) (hs.rdM (i := 0) rfl)) ?_; clear hf
  rintro _ w ⟨A10, n11, c12, vs14, rfl, hn13, hs1⟩ a hf
  have hs : St [] W w [.mat A3 n4 c5 28 2 vs7 r1, .mat A10 n11 c12 28 2 vs14 r8] := hs.join hs1
  clear hs1
  refine sY hf hs rfl rfl rfl (Y_assign rfl rfl) ?_; clear hf; intro a hf
  refine wpO_nil ?_
  refine wpL_seq ?_
  refine wpL_seq ?_
  refine wpL_region ?_
  refine sY hf hs rfl rfl rfl (Y_move rfl rfl) ?_; clear hf; intro a hf
  refine sY hf hs rfl rfl rfl (Y_lenH rfl rfl el40 hn13) ?_; clear hf; intro a hf
  refine sY hf hs rfl rfl rfl (Y_move rfl rfl) ?_; clear hf; intro a hf
  refine wpO_nil ?_
  obtain ⟨r3746, hl3747, hm⟩ := bind_some hm
  refine wpL_block (fun a w => ∃ ms3744 : List (List Int), Sum.inr ms3744 = r3746 ∧ n11 = ms3744.length ∧ Fr a 84 [(4, .slice A10 n11 c12)] ∧ St [] W w [.mat A10 n11 c12 28 2 vs14 ms3744]) ?_ ?_
  · refine wpL_loop (fun n a w => ∃ ms2500 : List (List Int), ∃ x2502 : Int, impl_starOf_L16 F r8 n ms2500 x2502 = some r3746 ∧ n11 = ms2500.length ∧ Fr a 84 [(4, .slice A10 n11 c12), (15, .int .i64 (r8.length : Int)), (16, .int .i64 x2502)] ∧ St [] W w [.mat A10 n11 c12 28 2 vs14 ms2500]) F ?_ ?_ ?_
    · exact ⟨r8, 0, hl3747, hn13, (FrD.pick (FrD.pick (FrD.pick hf.none hf rfl) hf rfl) hf rfl), hs.sel [1] (by decide)⟩
    · rintro a w ⟨ms2500, x2502, h0_, -, -, -⟩; simp [impl_starOf_L16] at h0_
    · rintro n3749 a w ⟨ms2500, x2502, hm3748, hn2501, hf, hs⟩
      rw [impl_starOf_L16] at hm3748
      refine wpL_seq ?_
      refine wpL_region ?_
      refine sY hf hs rfl rfl rfl (Y_lss rfl rfl rfl) ?_; clear hf; intro a hf
      refine wpO_nil ?_
      refine wpL_seq ?_
      refine wpL_cond hf rfl (fun hb3750 => ?_) (fun hb3750 => ?_)
      · have hm3748 := bif_t hm3748 hb3750
        refine wpL_skip ?_
        refine wpL_seq ?_
        refine wpL_block0 ?_
        refine wpL_seq ?_
        refine wpL_region ?_
        refine sY hf hs rfl rfl rfl (Y_move rfl rfl) ?_; clear hf; intro a hf
        refine sY hf hs rfl rfl rfl (Y_assign rfl rfl) ?_; clear hf; intro a hf
        refine wpO_nil ?_
        refine wpL_seq ?_
        refine wpL_seq ?_
        refine wpL_region ?_
        refine sY hf hs rfl rfl rfl (Y_move rfl rfl) ?_; clear hf; intro a hf
        refine sY hf hs rfl rfl rfl (Y_move rfl rfl) ?_; clear hf; intro a hf
        obtain ⟨q3751, hi3752, hm3748⟩ := bind_some hm3748
        obtain ⟨hi3752a, hi3752b, hi3752q⟩ := idx_some hi3752
        obtain ⟨A3753, c3754, hv3755⟩ := hs.matRow (i := 0) rfl hi3752q
        refine sY hf hs rfl rfl rfl (Y_index rfl rfl rfl el40 ti28 (Rd.isAt (hs.rdV (i := 0) rfl) hv3755) hi3752a (ltn hn2501 hi3752b)) ?_; clear hf; intro a hf
        refine sY hf hs rfl rfl rfl (Y_load_rd rfl rfl (fun w hs => hs.rdV (i := 0) rfl) (at1 hv3755) ag28) ?_; clear hf; intro a hf
        refine sY hf hs rfl rfl rfl (Y_move rfl rfl) ?_; clear hf; intro a hf
        obtain ⟨q3756, hi3757, hm3748⟩ := bind_some hm3748
        obtain ⟨hi3757a, hi3757b, hi3757q⟩ := idx_some hi3757
        refine sY hf hs rfl rfl rfl (Y_index rfl rfl rfl el28 ti2 (Rd.isAt (hs.rdRow (i := 0) rfl ⟨hi3752q, hv3755⟩) (at1 (ints_at hi3757q))) hi3757a hi3757b) ?_; clear hf; intro a hf
        refine sY hf hs rfl rfl rfl (Y_load_rd rfl rfl (fun w hs => hs.rdRow (i := 0) rfl ⟨hi3752q, hv3755⟩) (at1 (ints_at hi3757q)) ag2) ?_; clear hf; intro a hf
        refine sY hf hs rfl rfl rfl (Y_gtr rfl rfl rfl) ?_; clear hf; intro a hf
        refine wpO_nil ?_
        refine wpL_cond hf rfl (fun hb3758 => ?_) (fun hb3758 => ?_)
        · have hm3748 := bif_t hm3748 hb3758
          refine wpL_seq ?_
          refine wpL_region ?_
          refine sY hf hs rfl rfl rfl (Y_assign rfl rfl) ?_; clear hf; intro a hf
          refine sY hf hs rfl rfl rfl (Y_assign rfl rfl) ?_; clear hf; intro a hf
          refine wpO_nil ?_
          have hs : St [] W _ [.mat A10 n11 c12 28 2 vs14 ms2500, .mat none 0 0 28 2 [] ([] : List (List Int))] := hs.addNilM 28 2
          obtain rfl := Option.some.inj hm3748
          try dsimp only at hm
          obtain rfl := Option.some.inj hm
          refine wpL_ret (Qb_ret (Ql_ret (Qb_ret (ret_tmp2 rfl hf rfl rfl ?_))))
          exact ⟨_, rfl, none, 0, 0, [], rfl, rfl, hs.sel [1] (by decide)⟩
        · have hm3748 := bif_f hm3748 hb3758
          refine wpL_skip ?_
          refine wpL_seq ?_
          refine wpL_region ?_
          refine sY hf hs rfl rfl rfl (Y_move rfl rfl) ?_; clear hf; intro a hf
          refine sY hf hs rfl rfl rfl (Y_lenH rfl rfl el40 hn2501) ?_; clear hf; intro a hf
          refine sY hf hs rfl rfl rfl (Y_move rfl rfl) ?_; clear hf; intro a hf
          refine wpO_nil ?_
          obtain ⟨r4683, hl4684, hm3748⟩ := bind_some hm3748
          refine wpL_block (fun a w => ∃ ms4681 : List (List Int), ms4681 = r4683 ∧ n11 = ms4681.length ∧ Fr a 84 [(4, .slice A10 n11 c12), (15, .int .i64 (r8.length : Int)), (16, .int .i64 x2502)] ∧ St [] W w [.mat A10 n11 c12 28 2 vs14 ms4681]) ?_ ?_
          · refine wpL_loop (fun n a w => ∃ ms4373 : List (List Int), ∃ x4375 : Int, impl_starOf_L20 F ms2500 x2502 n ms4373 x4375 = some r4683 ∧ n11 = ms4373.length ∧ Fr a 84 [(4, .slice A10 n11 c12), (5, .int .i64 x2502), (15, .int .i64 (r8.length : Int)), (16, .int .i64 x2502), (28, .int .i64 (ms2500.length : Int)), (29, .int .i64 x4375)] ∧ St [] W w [.mat A10 n11 c12 28 2 vs14 ms4373]) F ?_ ?_ ?_
            · exact ⟨ms2500, 0, hl4684, hn2501, (FrD.pick (FrD.pick (FrD.pick (FrD.pick (FrD.pick (FrD.pick hf.none hf rfl) hf rfl) hf rfl) hf rfl) hf rfl) hf rfl), hs⟩
            · rintro a w ⟨ms4373, x4375, h0_, -, -, -⟩; simp [impl_starOf_L20] at h0_
            · rintro n4686 a w ⟨ms4373, x4375, hm4685, hn4374, hf, hs⟩
              rw [impl_starOf_L20] at hm4685
              refine wpL_seq ?_
              refine wpL_region ?_
              refine sY hf hs rfl rfl rfl (Y_lss rfl rfl rfl) ?_; clear hf; intro a hf
              refine wpO_nil ?_
              refine wpL_seq ?_
              refine wpL_cond hf rfl (fun hb4687 => ?_) (fun hb4687 => ?_)
              · have hm4685 := bif_t hm4685 hb4687
                refine wpL_skip ?_
                refine wpL_seq ?_
                refine wpL_block0 ?_
                refine wpL_seq ?_
                refine wpL_region ?_
                refine sY hf hs rfl rfl rfl (Y_move rfl rfl) ?_; clear hf; intro a hf
                refine sY hf hs rfl rfl rfl (Y_assign rfl rfl) ?_; clear hf; intro a hf
                refine wpO_nil ?_
                refine wpL_seq ?_
                refine wpL_region ?_
                refine sY hf hs rfl rfl rfl (Y_move rfl rfl) ?_; clear hf; intro a hf
                refine sY hf hs rfl rfl rfl (Y_lenH rfl rfl el40 hn4374) ?_; clear hf; intro a hf
                refine sY hf hs rfl rfl rfl (Y_move rfl rfl) ?_; clear hf; intro a hf
                refine wpO_nil ?_
                obtain ⟨r4915, hl4916, hm4685⟩ := bind_some hm4685
                refine wpL_block (fun a w => ∃ ms4913 : List (List Int), ms4913 = r4915 ∧ n11 = ms4913.length ∧ Fr a 84 [(4, .slice A10 n11 c12), (5, .int .i64 x2502), (15, .int .i64 (r8.length : Int)), (16, .int .i64 x2502), (28, .int .i64 (ms2500.length : Int)), (29, .int .i64 x4375)] ∧ St [] W w [.mat A10 n11 c12 28 2 vs14 ms4913]) ?_ ?_
                · refine wpL_loop (fun n a w => ∃ ms4837 : List (List Int), ∃ x4839 : Int, impl_starOf_L21 F x2502 ms4373 x4375 n ms4837 x4839 = some r4915 ∧ n11 = ms4837.length ∧ Fr a 84 [(4, .slice A10 n11 c12), (5, .int .i64 x2502), (6, .int .i64 x4375), (15, .int .i64 (r8.length : Int)), (16, .int .i64 x2502), (28, .int .i64 (ms2500.length : Int)), (29, .int .i64 x4375), (33, .int .i64 (ms4373.length : Int)), (34, .int .i64 x4839)] ∧ St [] W w [.mat A10 n11 c12 28 2 vs14 ms4837]) F ?_ ?_ ?_
                  · exact ⟨ms4373, 0, hl4916, hn4374, (FrD.pick (FrD.pick (FrD.pick (FrD.pick (FrD.pick (FrD.pick (FrD.pick (FrD.pick (FrD.pick hf.none hf rfl) hf rfl) hf rfl) hf rfl) hf rfl) hf rfl) hf rfl) hf rfl) hf rfl), hs⟩
                  · rintro a w ⟨ms4837, x4839, h0_, -, -, -⟩; simp [impl_starOf_L21] at h0_
                  · rintro n4918 a w ⟨ms4837, x4839, hm4917, hn4838, hf, hs⟩
                    rw [impl_starOf_L21] at hm4917
                    refine wpL_seq ?_
                    refine wpL_region ?_
                    refine sY hf hs rfl rfl rfl (Y_lss rfl rfl rfl) ?_; clear hf; intro a hf
                    refine wpO_nil ?_
                    refine wpL_seq ?_
                    refine wpL_cond hf rfl (fun hb4919 => ?_) (fun hb4919 => ?_)
                    · have hm4917 := bif_t hm4917 hb4919
                      refine wpL_skip ?_
                      refine wpL_seq ?_
                      refine wpL_block0 ?_
                      refine wpL_seq ?_
                      refine wpL_region ?_
                      refine sY hf hs rfl rfl rfl (Y_move rfl rfl) ?_; clear hf; intro a hf
                      refine sY hf hs rfl rfl rfl (Y_assign rfl rfl) ?_; clear hf; intro a hf
                      refine wpO_nil ?_
                      refine wpL_drawM [.mat A10 n11 c12 28 2 vs14 ms4837] [29] (by kernel_rfl) hs ?_; clear hs; intro w hs
                      have hs0 : St [] W w [.mat A10 n11 c12 28 2 vs14 ms4837] := hs
                      refine mYp (i := 0) rfl (by kernel_rfl) (by kernel_rfl) hf rfl rfl rfl (fun _ => Y_move rfl rfl) ?_; clear hf; intro a hf
                      refine mYp (i := 1) rfl (by kernel_rfl) (by kernel_rfl) hf rfl rfl rfl (fun _ => Y_move rfl rfl) ?_; clear hf; intro a hf
                      obtain ⟨q4956, hi4957, hm4917⟩ := bind_some hm4917
                      obtain ⟨hi4957a, hi4957b, hi4957q⟩ := idx_some hi4957
                      obtain ⟨A4958, c4959, hv4960⟩ := hs.matRow (i := 0) rfl hi4957q
                      refine mYp (i := 2) rfl (by kernel_rfl) (by kernel_rfl) hf rfl rfl rfl (fun _ => Y_index rfl rfl rfl el40 ti28 (Rd.isAt (hs.rdV (i := 0) rfl) hv4960) hi4957a (ltn hn4838 hi4957b)) ?_; clear hf; intro a hf
                      refine mY (i := 3) [[]] rfl (by kernel_rfl) (by kernel_rfl) hf hs0 rfl rfl rfl (Y_load_rd rfl rfl (fun w hs => hs.rdV (i := 0) rfl) (at1 hv4960) ag28) ?_; clear hf; intro a hf
                      refine mYp (i := 4) rfl (by kernel_rfl) (by kernel_rfl) hf rfl rfl rfl (fun _ => Y_move rfl rfl) ?_; clear hf; intro a hf
                      refine mYp (i := 5) rfl (by kernel_rfl) (by kernel_rfl) hf rfl rfl rfl (fun _ => Y_move rfl rfl) ?_; clear hf; intro a hf
                      refine mYp (i := 6) rfl (by kernel_rfl) (by kernel_rfl) hf rfl rfl rfl (fun _ => Y_move rfl rfl) ?_; clear hf; intro a hf
                      obtain ⟨q4961, hi4962, hm4917⟩ := bind_some hm4917
                      obtain ⟨hi4962a, hi4962b, hi4962q⟩ := idx_some hi4962
                      obtain ⟨A4963, c4964, hv4965⟩ := hs.matRow (i := 0) rfl hi4962q
                      refine mYp (i := 7) rfl (by kernel_rfl) (by kernel_rfl) hf rfl rfl rfl (fun _ => Y_index rfl rfl rfl el40 ti28 (Rd.isAt (hs.rdV (i := 0) rfl) hv4965) hi4962a (ltn hn4838 hi4962b)) ?_; clear hf; intro a hf
                      refine mY (i := 8) [[]] rfl (by kernel_rfl) (by kernel_rfl) hf hs0 rfl rfl rfl (Y_load_rd rfl rfl (fun w hs => hs.rdV (i := 0) rfl) (at1 hv4965) ag28) ?_; clear hf; intro a hf
                      refine mYp (i := 9) rfl (by kernel_rfl) (by kernel_rfl) hf rfl rfl rfl (fun _ => Y_move rfl rfl) ?_; clear hf; intro a hf
                      obtain ⟨q4966, hi4967, hm4917⟩ := bind_some hm4917
                      obtain ⟨hi4967a, hi4967b, hi4967q⟩ := idx_some hi4967
                      refine mYp (i := 10) rfl (by kernel_rfl) (by kernel_rfl) hf rfl rfl rfl (fun _ => Y_index rfl rfl rfl el28 ti2 (Rd.isAt (hs.rdRow (i := 0) rfl ⟨hi4962q, hv4965⟩) (at1 (ints_at hi4967q))) hi4967a hi4967b) ?_; clear hf; intro a hf
                      refine mY (i := 11) [[]] rfl (by kernel_rfl) (by kernel_rfl) hf hs0 rfl rfl rfl (Y_load_rd rfl rfl (fun w hs => hs.rdRow (i := 0) rfl ⟨hi4962q, hv4965⟩) (at1 (ints_at hi4967q)) ag2) ?_; clear hf; intro a hf
                      refine mYp (i := 12) rfl (by kernel_rfl) (by kernel_rfl) hf rfl rfl rfl (fun _ => Y_move rfl rfl) ?_; clear hf; intro a hf
                      refine mYp (i := 13) rfl (by kernel_rfl) (by kernel_rfl) hf rfl rfl rfl (fun _ => Y_move rfl rfl) ?_; clear hf; intro a hf
                      obtain ⟨q4968, hi4969, hm4917⟩ := bind_some hm4917
                      obtain ⟨hi4969a, hi4969b, hi4969q⟩ := idx_some hi4969
                      obtain ⟨A4970, c4971, hv4972⟩ := hs.matRow (i := 0) rfl hi4969q
                      refine mYp (i := 14) rfl (by kernel_rfl) (by kernel_rfl) hf rfl rfl rfl (fun _ => Y_index rfl rfl rfl el40 ti28 (Rd.isAt (hs.rdV (i := 0) rfl) hv4972) hi4969a (ltn hn4838 hi4969b)) ?_; clear hf; intro a hf
                      refine mY (i := 15) [[]] rfl (by kernel_rfl) (by kernel_rfl) hf hs0 rfl rfl rfl (Y_load_rd rfl rfl (fun w hs => hs.rdV (i := 0) rfl) (at1 hv4972) ag28) ?_; clear hf; intro a hf
                      refine mYp (i := 16) rfl (by kernel_rfl) (by kernel_rfl) hf rfl rfl rfl (fun _ => Y_move rfl rfl) ?_; clear hf; intro a hf
                      obtain ⟨q4973, hi4974, hm4917⟩ := bind_some hm4917
                      obtain ⟨hi4974a, hi4974b, hi4974q⟩ := idx_some hi4974
                      refine mYp (i := 17) rfl (by kernel_rfl) (by kernel_rfl) hf rfl rfl rfl (fun _ => Y_index rfl rfl rfl el28 ti2 (Rd.isAt (hs.rdRow (i := 0) rfl ⟨hi4969q, hv4972⟩) (at1 (ints_at hi4974q))) hi4974a hi4974b) ?_; clear hf; intro a hf
                      refine mY (i := 18) [[]] rfl (by kernel_rfl) (by kernel_rfl) hf hs0 rfl rfl rfl (Y_load_rd rfl rfl (fun w hs => hs.rdRow (i := 0) rfl ⟨hi4969q, hv4972⟩) (at1 (ints_at hi4974q)) ag2) ?_; clear hf; intro a hf
                      refine mYp (i := 19) rfl (by kernel_rfl) (by kernel_rfl) hf rfl rfl rfl (fun _ => Y_move rfl rfl) ?_; clear hf; intro a hf
                      refine mYp (i := 20) rfl (by kernel_rfl) (by kernel_rfl) hf rfl rfl rfl (fun _ => Y_move rfl rfl) ?_; clear hf; intro a hf
                      obtain ⟨q4975, hi4976, hm4917⟩ := bind_some hm4917
                      obtain ⟨hi4976a, hi4976b, hi4976q⟩ := idx_some hi4976
                      obtain ⟨A4977, c4978, hv4979⟩ := hs.matRow (i := 0) rfl hi4976q
                      refine mYp (i := 21) rfl (by kernel_rfl) (by kernel_rfl) hf rfl rfl rfl (fun _ => Y_index rfl rfl rfl el40 ti28 (Rd.isAt (hs.rdV (i := 0) rfl) hv4979) hi4976a (ltn hn4838 hi4976b)) ?_; clear hf; intro a hf
                      refine mY (i := 22) [[]] rfl (by kernel_rfl) (by kernel_rfl) hf hs0 rfl rfl rfl (Y_load_rd rfl rfl (fun w hs => hs.rdV (i := 0) rfl) (at1 hv4979) ag28) ?_; clear hf; intro a hf
                      refine mYp (i := 23) rfl (by kernel_rfl) (by kernel_rfl) hf rfl rfl rfl (fun _ => Y_move rfl rfl) ?_; clear hf; intro a hf
                      obtain ⟨q4980, hi4981, hm4917⟩ := bind_some hm4917
                      obtain ⟨hi4981a, hi4981b, hi4981q⟩ := idx_some hi4981
                      refine mYp (i := 24) rfl (by kernel_rfl) (by kernel_rfl) hf rfl rfl rfl (fun _ => Y_index rfl rfl rfl el28 ti2 (Rd.isAt (hs.rdRow (i := 0) rfl ⟨hi4976q, hv4979⟩) (at1 (ints_at hi4981q))) hi4981a hi4981b) ?_; clear hf; intro a hf
                      refine mY (i := 25) [[]] rfl (by kernel_rfl) (by kernel_rfl) hf hs0 rfl rfl rfl (Y_load_rd rfl rfl (fun w hs => hs.rdRow (i := 0) rfl ⟨hi4976q, hv4979⟩) (at1 (ints_at hi4981q)) ag2) ?_; clear hf; intro a hf
                      refine mRun (i := 26) rfl (by kernel_rfl) ?_
                      obtain ⟨r4982, hc4983, hm4917⟩ := bind_some hm4917
                      refine sCall hf rfl rfl rfl rfl (cap := []) rfl rfl en145 (impl_times_ok F q4973 q4980 _ _ hc4983) ?_; clear hf
                      rintro _ w ⟨rfl, hs1⟩ a hf
                      have hs : St [] W w [.mat A10 n11 c12 28 2 vs14 ms4837] := hs.ext hs1.below
                      clear hs1
                      have hs0 : St [] W w [.mat A10 n11 c12 28 2 vs14 ms4837] := hs
                      refine wpO_nil ⟨Or.inr (fun _ => hs0), ?_⟩
                      refine mYp (i := 27) rfl (by kernel_rfl) (by kernel_rfl) hf rfl rfl rfl (fun _ => Y_max rfl rfl rfl) ?_; clear hf; intro a hf
                      obtain ⟨q4984, hi4985, hm4917⟩ := bind_some hm4917
                      obtain ⟨hi4985a, hi4985b, hi4985q⟩ := idx_some hi4985
                      refine mYp (i := 28) rfl (by kernel_rfl) (by kernel_rfl) hf rfl rfl rfl (fun _ => Y_index rfl rfl rfl el28 ti2 (Rd.isAt (hs.rdRow (i := 0) rfl ⟨hi4957q, hv4960⟩) (at1 (ints_at hi4985q))) hi4985a hi4985b) ?_; clear hf; intro a hf
                      refine mRun (i := 29) rfl (by kernel_rfl) ?_
                      obtain ⟨xs4986, hu4988, hm4917⟩ := bind_some hm4917
                      obtain ⟨ms4987, hu4989, hm4917⟩ := bind_some hm4917
                      refine sStoreM (i := 0) (k := x4375) hf hs rfl rfl rfl rfl rfl rfl hi4957q hv4960 rfl hu4988 hu4989 ti2 ?_; clear hs; intro w hs
                      obtain ⟨hq4990, hv4991⟩ := rowUpd hu4988 hu4989 hv4960
                      have hs : St [] W w [.mat A10 n11 c12 28 2 vs14 ms4987] := hs
                      refine wpO_nil ⟨Or.inl (by decide), ?_⟩
                      refine mDone (by kernel_rfl) ?_
                      clear hs0
                      refine wpL_nil (Qb_normal ?_)
                      refine wpL_region ?_
                      refine sY hf hs rfl rfl rfl (Y_add rfl rfl rfl) ?_; clear hf; intro a hf
                      refine sY hf hs rfl rfl rfl (Y_move rfl rfl) ?_; clear hf; intro a hf
                      refine wpO_nil ?_
                      refine wpL_nil (Ql_normal ?_)
                      exact ⟨ms4987, (IntKind.i64.wrap (x4839 + 1)), hm4917, ((hn4838).trans (upd_len hu4989).symm), (FrD.pick (FrD.pick (FrD.pick (FrD.pick (FrD.pick (FrD.pick (FrD.pick (FrD.pick (FrD.pick hf.none hf rfl) hf rfl) hf rfl) hf rfl) hf rfl) hf rfl) hf rfl) hf rfl) hf rfl), hs⟩
                    · have hm4917 := bif_f hm4917 hb4919
                      refine wpL_exit (Ql_exit (Qb_exit ?_))
                      exact ⟨ms4837, Option.some.inj hm4917, hn4838, (FrD.pick (FrD.pick (FrD.pick (FrD.pick (FrD.pick (FrD.pick hf.none hf rfl) hf rfl) hf rfl) hf rfl) hf rfl) hf rfl), hs⟩
                · rintro a w ⟨ms4913, hr_, hn4914, hf, hs⟩
                  subst hr_
                  try dsimp only at hm4685
                  refine wpL_nil (Qb_normal ?_)
                  refine wpL_region ?_
                  refine sY hf hs rfl rfl rfl (Y_add rfl rfl rfl) ?_; clear hf; intro a hf
                  refine sY hf hs rfl rfl rfl (Y_move rfl rfl) ?_; clear hf; intro a hf
                  refine wpO_nil ?_
                  refine wpL_nil (Ql_normal ?_)
                  exact ⟨ms4913, (IntKind.i64.wrap (x4375 + 1)), hm4685, hn4914, (FrD.pick (FrD.pick (FrD.pick (FrD.pick (FrD.pick (FrD.pick hf.none hf rfl) hf rfl) hf rfl) hf rfl) hf rfl) hf rfl), hs⟩
              · have hm4685 := bif_f hm4685 hb4687
                refine wpL_exit (Ql_exit (Qb_exit ?_))
                exact ⟨ms4373, Option.some.inj hm4685, hn4374, (FrD.pick (FrD.pick (FrD.pick hf.none hf rfl) hf rfl) hf rfl), hs⟩
          · rintro a w ⟨ms4681, hr_, hn4682, hf, hs⟩
            subst hr_
            try dsimp only at hm3748
            refine wpL_nil (Qb_normal ?_)
            refine wpL_region ?_
            refine sY hf hs rfl rfl rfl (Y_add rfl rfl rfl) ?_; clear hf; intro a hf
            refine sY hf hs rfl rfl rfl (Y_move rfl rfl) ?_; clear hf; intro a hf
            refine wpO_nil ?_
            refine wpL_nil (Ql_normal ?_)
            exact ⟨ms4681, (IntKind.i64.wrap (x2502 + 1)), hm3748, hn4682, (FrD.pick (FrD.pick (FrD.pick hf.none hf rfl) hf rfl) hf rfl), hs⟩
      · have hm3748 := bif_f hm3748 hb3750
        refine wpL_exit (Ql_exit (Qb_exit ?_))
        exact ⟨ms2500, Option.some.inj hm3748, hn2501, (FrD.pick hf.none hf rfl), hs⟩
  · rintro a w ⟨ms3744, hr_, hn3745, hf, hs⟩
    subst hr_
    try dsimp only at hm
    refine wpL_seq ?_
    refine wpL_seq ?_
    refine wpL_region ?_
    refine sY hf hs rfl rfl rfl (Y_move rfl rfl) ?_; clear hf; intro a hf
    refine sY hf hs rfl rfl rfl (Y_lenH rfl rfl el40 hn3745) ?_; clear hf; intro a hf
    refine sY hf hs rfl rfl rfl (Y_move rfl rfl) ?_; clear hf; intro a hf
    refine wpO_nil ?_
    obtain ⟨r5021, hl5022, hm⟩ := bind_some hm
    refine wpL_block (fun a w => Sum.inr () = r5021 ∧ Fr a 84 [(4, .slice A10 n11 c12)] ∧ St [] W w [.mat A10 n11 c12 28 2 vs14 ms3744]) ?_ ?_
    · refine wpL_loop (fun n a w => ∃ x5011 : Int, impl_starOf_L22 F ms3744 n x5011 = some r5021 ∧ Fr a 84 [(4, .slice A10 n11 c12), (70, .int .i64 (ms3744.length : Int)), (71, .int .i64 x5011)] ∧ St [] W w [.mat A10 n11 c12 28 2 vs14 ms3744]) F ?_ ?_ ?_
      · exact ⟨0, hl5022, (FrD.pick (FrD.pick (FrD.pick hf.none hf rfl) hf rfl) hf rfl), hs⟩
      · rintro a w ⟨x5011, h0_, -, -⟩; simp [impl_starOf_L22] at h0_
      · rintro n5024 a w ⟨x5011, hm5023, hf, hs⟩
        rw [impl_starOf_L22] at hm5023
        refine wpL_seq ?_
        refine wpL_region ?_
        refine sY hf hs rfl rfl rfl (Y_lss rfl rfl rfl) ?_; clear hf; intro a hf
        refine wpO_nil ?_
        refine wpL_seq ?_
        refine wpL_cond hf rfl (fun hb5025 => ?_) (fun hb5025 => ?_)
        · have hm5023 := bif_t hm5023 hb5025
          refine wpL_skip ?_
          refine wpL_seq ?_
          refine wpL_block0 ?_
          refine wpL_seq ?_
          refine wpL_region ?_
          refine sY hf hs rfl rfl rfl (Y_move rfl rfl) ?_; clear hf; intro a hf
          refine sY hf hs rfl rfl rfl (Y_assign rfl rfl) ?_; clear hf; intro a hf
          refine wpO_nil ?_
          refine wpL_seq ?_
          refine wpL_region ?_
          refine sY hf hs rfl rfl rfl (Y_move rfl rfl) ?_; clear hf; intro a hf
          refine sY hf hs rfl rfl rfl (Y_move rfl rfl) ?_; clear hf; intro a hf
          obtain ⟨q5026, hi5027, hm5023⟩ := bind_some hm5023
          obtain ⟨hi5027a, hi5027b, hi5027q⟩ := idx_some hi5027
          obtain ⟨A5028, c5029, hv5030⟩ := hs.matRow (i := 0) rfl hi5027q
          refine sY hf hs rfl rfl rfl (Y_index rfl rfl rfl el40 ti28 (Rd.isAt (hs.rdV (i := 0) rfl) hv5030) hi5027a (ltn hn3745 hi5027b)) ?_; clear hf; intro a hf
          refine sY hf hs rfl rfl rfl (Y_load_rd rfl rfl (fun w hs => hs.rdV (i := 0) rfl) (at1 hv5030) ag28) ?_; clear hf; intro a hf
          refine sY hf hs rfl rfl rfl (Y_move rfl rfl) ?_; clear hf; intro a hf
          obtain ⟨q5031, hi5032, hm5023⟩ := bind_some hm5023
          obtain ⟨hi5032a, hi5032b, hi5032q⟩ := idx_some hi5032
          refine sY hf hs rfl rfl rfl (Y_index rfl rfl rfl el28 ti2 (Rd.isAt (hs.rdRow (i := 0) rfl ⟨hi5027q, hv5030⟩) (at1 (ints_at hi5032q))) hi5032a hi5032b) ?_; clear hf; intro a hf
          refine sY hf hs rfl rfl rfl (Y_load_rd rfl rfl (fun w hs => hs.rdRow (i := 0) rfl ⟨hi5027q, hv5030⟩) (at1 (ints_at hi5032q)) ag2) ?_; clear hf; intro a hf
          refine sY hf hs rfl rfl rfl (Y_gtr rfl rfl rfl) ?_; clear hf; intro a hf
          refine wpO_nil ?_
          refine wpL_cond hf rfl (fun hb5033 => ?_) (fun hb5033 => ?_)
          · have hm5023 := bif_t hm5023 hb5033
            refine wpL_seq ?_
            refine wpL_region ?_
            refine sY hf hs rfl rfl rfl (Y_assign rfl rfl) ?_; clear hf; intro a hf
            refine sY hf hs rfl rfl rfl (Y_assign rfl rfl) ?_; clear hf; intro a hf
            refine wpO_nil ?_
            have hs : St [] W _ [.mat A10 n11 c12 28 2 vs14 ms3744, .mat none 0 0 28 2 [] ([] : List (List Int))] := hs.addNilM 28 2
            obtain rfl := Option.some.inj hm5023
            try dsimp only at hm
            obtain rfl := Option.some.inj hm
            refine wpL_ret (Qb_ret (Ql_ret (Qb_ret (ret_tmp2 rfl hf rfl rfl ?_))))
            exact ⟨_, rfl, none, 0, 0, [], rfl, rfl, hs.sel [1] (by decide)⟩
          · have hm5023 := bif_f hm5023 hb5033
            refine wpL_skip ?_
            refine wpL_nil (Qb_normal ?_)
            refine wpL_region ?_
            refine sY hf hs rfl rfl rfl (Y_add rfl rfl rfl) ?_; clear hf; intro a hf
            refine sY hf hs rfl rfl rfl (Y_move rfl rfl) ?_; clear hf; intro a hf
            refine wpO_nil ?_
            refine wpL_nil (Ql_normal ?_)
            exact ⟨(IntKind.i64.wrap (x5011 + 1)), hm5023, (FrD.pick (FrD.pick (FrD.pick hf.none hf rfl) hf rfl) hf rfl), hs⟩
        · have hm5023 := bif_f hm5023 hb5025
          refine wpL_exit (Ql_exit (Qb_exit ?_))
          exact ⟨Option.some.inj hm5023, (FrD.pick hf.none hf rfl), hs⟩
    · rintro a w ⟨hr_, hf, hs⟩
      subst hr_
      try dsimp only at hm
      refine wpL_seq ?_
      refine wpL_region ?_
      refine sY hf hs rfl rfl rfl (Y_move rfl rfl) ?_; clear hf; intro a hf
      refine sY hf hs rfl rfl rfl (Y_assign rfl rfl) ?_; clear hf; intro a hf
      refine sY hf hs rfl rfl rfl (Y_assign rfl rfl) ?_; clear hf; intro a hf
      refine wpO_nil ?_
      obtain rfl := Option.some.inj hm
      refine wpL_ret (ret_tmp2 rfl hf rfl rfl ?_)
      exact ⟨_, rfl, A10, n11, c12, vs14, rfl, hn3745, hs⟩

set_option maxHeartbeats 2000000 in
set_option maxRecDepth 100000 in
theorem impl_cycleSearch_goOn_step (F k_ : Nat) (ih_ : ∀ (b_p0 : Nat) (p0_matrix : List (List Int)) (A_p0_matrix : Option Addr) (n_p0_matrix c_p0_matrix : Nat) (_hn_p0_matrix : n_p0_matrix = p0_matrix.length) (m_p0_wanted : (List Int) → Int → Option Bool) (f_p0_wanted : FuncId) (k_p0_wanted : List Value) (p0_path : List Int) (A_p0_path : Option Addr) (n_p0_path c_p0_path : Nat) (_hn_p0_path : n_p0_path = p0_path.length) (p0_used : List Bool) (A_p0_used : Option Addr) (n_p0_used c_p0_used : Nat) (_hn_p0_used : n_p0_used = p0_used.length) (p1 : Int) (r : (Bool) × (List Int) × (List Bool)) (W : World) (_hm : impl_cycleSearch_goOn_rec F k_ p0_matrix m_p0_wanted p0_path p0_used p1 = some r) (_h_p0_matrix : KM (muL [.blk b_p0 162 [.slice A_p0_matrix n_p0_matrix c_p0_matrix, .func (.func f_p0_wanted) #[] k_p0_wanted.toArray, .slice A_p0_path n_p0_path c_p0_path, .slice A_p0_used n_p0_used c_p0_used], .row A_p0_path n_p0_path c_p0_path 2 1 (ints p0_path), .row A_p0_used n_p0_used c_p0_used 4 1 (bools p0_used)]) W A_p0_matrix p0_matrix) (_h_p0_wanted : ∀ (x0 : List Int) (Ax0_1 : Option Addr) (nx0_1 cx0_1 : Nat) (_hnx0_1 : nx0_1 = x0.length) (x1 : Int) (r : Bool) (w : World), m_p0_wanted x0 x1 = some r → BM (muL [.blk b_p0 162 [.slice A_p0_matrix n_p0_matrix c_p0_matrix, .func (.func f_p0_wanted) #[] k_p0_wanted.toArray, .slice A_p0_path n_p0_path c_p0_path, .slice A_p0_used n_p0_used c_p0_used], .row A_p0_path n_p0_path c_p0_path 2 1 (ints p0_path), .row A_p0_used n_p0_used c_p0_used 4 1 (bools p0_used)]) W w → Rd w Ax0_1 (ints x0) → Calls Try.prog f_p0_wanted (([.slice Ax0_1 nx0_1 cx0_1, .int .i64 x1] : List Value) ++ k_p0_wanted).toArray w fun e w' => ∃ v, e = .returned v ∧ v = .bool r ∧ St [] w w' []) (_e_p0_wanted : En Try.prog f_p0_wanted) (_hst : St (muL [.blk b_p0 162 [.slice A_p0_matrix n_p0_matrix c_p0_matrix, .func (.func f_p0_wanted) #[] k_p0_wanted.toArray, .slice A_p0_path n_p0_path c_p0_path, .slice A_p0_used n_p0_used c_p0_used], .row A_p0_path n_p0_path c_p0_path 2 1 (ints p0_path), .row A_p0_used n_p0_used c_p0_used 4 1 (bools p0_used)]) W W [.blk b_p0 162 [.slice A_p0_matrix n_p0_matrix c_p0_matrix, .func (.func f_p0_wanted) #[] k_p0_wanted.toArray, .slice A_p0_path n_p0_path c_p0_path, .slice A_p0_used n_p0_used c_p0_used], .row A_p0_path n_p0_path c_p0_path 2 1 (ints p0_path), .row A_p0_used n_p0_used c_p0_used 4 1 (bools p0_used)]), Calls Try.prog 156 [.pointer (some ⟨b_p0, 0, none⟩), .int .i64 p1].toArray W fun e w' => ∃ v, e = .returned v ∧ ∃ A2_, ∃ n2_, ∃ c2_, ∃ A3_, ∃ n3_, ∃ c3_, v = .bool r.1 ∧ n2_ = r.2.1.length ∧ n3_ = r.2.2.length ∧ St (muL [.blk b_p0 162 [.slice A_p0_matrix n_p0_matrix c_p0_matrix, .func (.func f_p0_wanted) #[] k_p0_wanted.toArray, .slice A_p0_path n_p0_path c_p0_path, .slice A_p0_used n_p0_used c_p0_used], .row A_p0_path n_p0_path c_p0_path 2 1 (ints p0_path), .row A_p0_used n_p0_used c_p0_used 4 1 (bools p0_used)]) W w' [.blk b_p0 162 [.slice A_p0_matrix n_p0_matrix c_p0_matrix, .func (.func f_p0_wanted) #[] k_p0_wanted.toArray, .slice A2_ n2_ c2_, .slice A3_ n3_ c3_], .row A2_ n2_ c2_ 2 1 (ints r.2.1), .row A3_ n3_ c3_ 4 1 (bools r.2.2)]) (b_p0 : Nat) (p0_matrix : List (List Int)) (A_p0_matrix : Option Addr) (n_p0_matrix c_p0_matrix : Nat) (hn_p0_matrix : n_p0_matrix = p0_matrix.length) (m_p0_wanted : (List Int) → Int → Option Bool) (f_p0_wanted : FuncId) (k_p0_wanted : List Value) (p0_path : List Int) (A_p0_path : Option Addr) (n_p0_path c_p0_path : Nat) (hn_p0_path : n_p0_path = p0_path.length) (p0_used : List Bool) (A_p0_used : Option Addr) (n_p0_used c_p0_used : Nat) (hn_p0_used : n_p0_used = p0_used.length) (p1 : Int) (r : (Bool) × (List Int) × (List Bool)) (W : World) (hm : impl_cycleSearch_goOn_rec F (k_ + 1) p0_matrix m_p0_wanted p0_path p0_used p1 = some r) (h_p0_matrix : KM (muL [.blk b_p0 162 [.slice A_p0_matrix n_p0_matrix c_p0_matrix, .func (.func f_p0_wanted) #[] k_p0_wanted.toArray, .slice A_p0_path n_p0_path c_p0_path, .slice A_p0_used n_p0_used c_p0_used], .row A_p0_path n_p0_path c_p0_path 2 1 (ints p0_path), .row A_p0_used n_p0_used c_p0_used 4 1 (bools p0_used)]) W A_p0_matrix p0_matrix) (h_p0_wanted : ∀ (x0 : List Int) (Ax0_1 : Option Addr) (nx0_1 cx0_1 : Nat) (_hnx0_1 : nx0_1 = x0.length) (x1 : Int) (r : Bool) (w : World), m_p0_wanted x0 x1 = some r → BM (muL [.blk b_p0 162 [.slice A_p0_matrix n_p0_matrix c_p0_matrix, .func (.func f_p0_wanted) #[] k_p0_wanted.toArray, .slice A_p0_path n_p0_path c_p0_path, .slice A_p0_used n_p0_used c_p0_used], .row A_p0_path n_p0_path c_p0_path 2 1 (ints p0_path), .row A_p0_used n_p0_used c_p0_used 4 1 (bools p0_used)]) W w → Rd w Ax0_1 (ints x0) → Calls Try.prog f_p0_wanted (([.slice Ax0_1 nx0_1 cx0_1, .int .i64 x1] : List Value) ++ k_p0_wanted).toArray w fun e w' => ∃ v, e = .returned v ∧ v = .bool r ∧ St [] w w' []) (e_p0_wanted : En Try.prog f_p0_wanted) (hst : St (muL [.blk b_p0 162 [.slice A_p0_matrix n_p0_matrix c_p0_matrix, .func (.func f_p0_wanted) #[] k_p0_wanted.toArray, .slice A_p0_path n_p0_path c_p0_path, .slice A_p0_used n_p0_used c_p0_used], .row A_p0_path n_p0_path c_p0_path 2 1 (ints p0_path), .row A_p0_used n_p0_used c_p0_used 4 1 (bools p0_used)]) W W [.blk b_p0 162 [.slice A_p0_matrix n_p0_matrix c_p0_matrix, .func (.func f_p0_wanted) #[] k_p0_wanted.toArray, .slice A_p0_path n_p0_path c_p0_path, .slice A_p0_used n_p0_used c_p0_used], .row A_p0_path n_p0_path c_p0_path 2 1 (ints p0_path), .row A_p0_used n_p0_used c_p0_used 4 1 (bools p0_used)]) :
    Calls Try.prog 156 [.pointer (some ⟨b_p0, 0, none⟩), .int .i64 p1].toArray W fun e w' => ∃ v, e = .returned v ∧ ∃ A2_, ∃ n2_, ∃ c2_, ∃ A3_, ∃ n3_, ∃ c3_, v = .bool r.1 ∧ n2_ = r.2.1.length ∧ n3_ = r.2.2.length ∧ St (muL [.blk b_p0 162 [.slice A_p0_matrix n_p0_matrix c_p0_matrix, .func (.func f_p0_wanted) #[] k_p0_wanted.toArray, .slice A_p0_path n_p0_path c_p0_path, .slice A_p0_used n_p0_used c_p0_used], .row A_p0_path n_p0_path c_p0_path 2 1 (ints p0_path), .row A_p0_used n_p0_used c_p0_used 4 1 (bools p0_used)]) W w' [.blk b_p0 162 [.slice A_p0_matrix n_p0_matrix c_p0_matrix, .func (.func f_p0_wanted) #[] k_p0_wanted.toArray, .slice A2_ n2_ c2_, .slice A3_ n3_ c3_], .row A2_ n2_ c2_ 2 1 (ints r.2.1), .row A3_ n3_ c3_ 4 1 (bools r.2.2)] := by
  subst hn_p0_matrix
  subst hn_p0_path
  subst hn_p0_used
  unfold impl_cycleSearch_goOn_rec at hm
  refine Calls.enter (N := 127) Try.func156 rfl rfl rfl (fun a hf => ?_)
  have hs := hst
  obtain ⟨w, hw_⟩ : ∃ w, w = W := ⟨W, rfl⟩
  clear hw_ w
  refine wpL_seq ?_
  refine wpL_region ?_
  refine sY hf hs rfl rfl rfl (Y_assign rfl rfl) ?_; clear hf; intro a hf
  refine wpO_nil ?_
  refine wpL_seq ?_
  refine wpL_draw (by kernel_rfl) (by kernel_rfl) hs ?_
  refine qY hf rfl rfl rfl (Y_move rfl rfl) ?_; clear hf; intro a hf
  refine qY hf rfl rfl rfl (Y_nilCheck rfl rfl) ?_; clear hf; intro a hf
  refine qY hf rfl rfl rfl (Y_fieldAddr rfl rfl fo162_2) ?_; clear hf; intro a hf
  refine qY hf rfl rfl rfl (Y_load_blk rfl rfl (i := 0) rfl rfl ag28) ?_; clear hf; intro a hf
  obtain ⟨q1, hi2, hm⟩ := bind_some hm
  obtain ⟨hi2a, hi2b, hi2q⟩ := idx_some hi2
  refine qY hf rfl rfl rfl (Y_index rfl rfl rfl el28 ti2 (Rd.isAt (hs.rd (i := 1) rfl) (at1 (ints_at hi2q))) hi2a hi2b) ?_; clear hf; intro a hf
  refine qY hf rfl rfl rfl (Y_load_rd rfl rfl (fun w hs => hs.rd (i := 1) rfl) (at1 (ints_at hi2q)) ag2) ?_; clear hf; intro a hf
  refine qY hf rfl rfl rfl (Y_move rfl rfl) ?_; clear hf; intro a hf
  refine qY hf rfl rfl rfl (Y_nilCheck rfl rfl) ?_; clear hf; intro a hf
  refine qY hf rfl rfl rfl (Y_fieldAddr rfl rfl fo162_2) ?_; clear hf; intro a hf
  refine qY hf rfl rfl rfl (Y_load_blk rfl rfl (i := 0) rfl rfl ag28) ?_; clear hf; intro a hf
  refine qY hf rfl rfl rfl (Y_move rfl rfl) ?_; clear hf; intro a hf
  refine qY hf rfl rfl rfl (Y_nilCheck rfl rfl) ?_; clear hf; intro a hf
  refine qY hf rfl rfl rfl (Y_fieldAddr rfl rfl fo162_2) ?_; clear hf; intro a hf
  refine qY hf rfl rfl rfl (Y_load_blk rfl rfl (i := 0) rfl rfl ag28) ?_; clear hf; intro a hf
  refine qY hf rfl rfl rfl (Y_lenH rfl rfl el28 rfl) ?_; clear hf; intro a hf
  refine qY hf rfl rfl rfl (Y_sub rfl rfl rfl) ?_; clear hf; intro a hf
  obtain ⟨q3, hi4, hm⟩ := bind_some hm
  obtain ⟨hi4a, hi4b, hi4q⟩ := idx_some hi4
  refine qY hf rfl rfl rfl (Y_index rfl rfl rfl el28 ti2 (Rd.isAt (hs.rd (i := 1) rfl) (at1 (ints_at hi4q))) hi4a hi4b) ?_; clear hf; intro a hf
  refine qY hf rfl rfl rfl (Y_load_rd rfl rfl (fun w hs => hs.rd (i := 1) rfl) (at1 (ints_at hi4q)) ag2) ?_; clear hf; intro a hf
  refine qY hf rfl rfl rfl (Y_assign rfl rfl) ?_; clear hf; intro a hf
  refine qY hf rfl rfl rfl (Y_assign rfl rfl) ?_; clear hf; intro a hf
  refine qNil ?_; clear hs; intro w hs
  refine wpL_seq ?_
  refine wpL_seq ?_
  refine wpL_region ?_
  refine sY hf hs rfl rfl rfl (Y_move rfl rfl) ?_; clear hf; intro a hf
  refine sY hf hs rfl rfl rfl (Y_nilCheck rfl rfl) ?_; clear hf; intro a hf
  refine sY hf hs rfl rfl rfl (Y_fieldAddr rfl rfl fo162_0) ?_; clear hf; intro a hf
  refine sY hf hs rfl rfl rfl (Y_load_blk rfl rfl (i := 0) rfl rfl ag40) ?_; clear hf; intro a hf
  refine sY hf hs rfl rfl rfl (Y_move rfl rfl) ?_; clear hf; intro a hf
  obtain ⟨q5, hi6, hm⟩ := bind_some hm
  obtain ⟨hi6a, hi6b, hi6q⟩ := idx_some hi6
  obtain ⟨vs7, hv8, hr9⟩ := id h_p0_matrix
  obtain ⟨A10, c11, hv12, hR13⟩ := hr9 _ _ hi6q
  refine sY hf hs rfl rfl rfl (Y_index rfl rfl rfl el40 ti28 (Rd.isAt hv8.here hv12) hi6a hi6b) ?_; clear hf; intro a hf
  refine sY hf hs rfl rfl rfl (Y_load_rd rfl rfl (fun w hs => hv8.at hs) (at1 hv12) ag28) ?_; clear hf; intro a hf
  refine sY hf hs rfl rfl rfl (Y_move rfl rfl) ?_; clear hf; intro a hf
  obtain ⟨q14, hi15, hm⟩ := bind_some hm
  obtain ⟨hi15a, hi15b, hi15q⟩ := idx_some hi15
  refine sY hf hs rfl rfl rfl (Y_index rfl rfl rfl el28 ti2 (Rd.isAt (hR13.at hs) (at1 (ints_at hi15q))) hi15a hi15b) ?_; clear hf; intro a hf
  refine sY hf hs rfl rfl rfl (Y_load_rd rfl rfl (fun w hs => hR13.at hs) (at1 (ints_at hi15q)) ag2) ?_; clear hf; intro a hf
  refine sY hf hs rfl rfl rfl (Y_assign rfl rfl) ?_; clear hf; intro a hf
  refine wpO_nil ?_
  refine wpL_seq ?_
  obtain ⟨r20, hj21, hm⟩ := bind_some hm
  refine wpL_cut (fun a w => ∃ b19 : Bool, b19 = r20 ∧ Fr a 127 [(0, .pointer (some ⟨b_p0, 0, none⟩)), (1, .int .i64 p1), (5, .int .i64 q1), (6, .int .i64 q3), (53, .bool b19)] ∧ St (muL [.blk b_p0 162 [.slice A_p0_matrix p0_matrix.length c_p0_matrix, .func (.func f_p0_wanted) #[] k_p0_wanted.toArray, .slice A_p0_path p0_path.length c_p0_path, .slice A_p0_used p0_used.length c_p0_used], .row A_p0_path p0_path.length c_p0_path 2 1 (ints p0_path), .row A_p0_used p0_used.length c_p0_used 4 1 (bools p0_used)]) W w [.blk b_p0 162 [.slice A_p0_matrix p0_matrix.length c_p0_matrix, .func (.func f_p0_wanted) #[] k_p0_wanted.toArray, .slice A_p0_path p0_path.length c_p0_path, .slice A_p0_used p0_used.length c_p0_used], .row A_p0_path p0_path.length c_p0_path 2 1 (ints p0_path), .row A_p0_used p0_used.length c_p0_used 4 1 (bools p0_used)]) ?_ ?_
  · refine wpL_draw (by kernel_rfl) (by kernel_rfl) hs ?_
    refine qY hf rfl rfl rfl (Y_move rfl rfl) ?_; clear hf; intro a hf
    refine qY hf rfl rfl rfl (Y_neq rfl rfl rfl) ?_; clear hf; intro a hf
    refine qY hf rfl rfl rfl (Y_move rfl rfl) ?_; clear hf; intro a hf
    refine bsplit (q14 != (-1000000000000000)) (fun hb22 => ?_) (fun hb22 => ?_)
    · have hj21 := bif_t hj21 hb22
      refine qYg hf rfl rfl rfl (congrArg (fun b => some (Value.bool b)) hb22) rfl rfl rfl (Y_move rfl rfl) ?_; clear hf; intro a hf
      refine qYg hf rfl rfl rfl (congrArg (fun b => some (Value.bool b)) hb22) rfl rfl rfl (Y_nilCheck rfl rfl) ?_; clear hf; intro a hf
      refine qYg hf rfl rfl rfl (congrArg (fun b => some (Value.bool b)) hb22) rfl rfl rfl (Y_fieldAddr rfl rfl fo162_1) ?_; clear hf; intro a hf
      refine qYg hf rfl rfl rfl (congrArg (fun b => some (Value.bool b)) hb22) rfl rfl rfl (Y_load_blk rfl rfl (i := 0) rfl rfl ag105) ?_; clear hf; intro a hf
      refine qYg hf rfl rfl rfl (congrArg (fun b => some (Value.bool b)) hb22) rfl rfl rfl (Y_move rfl rfl) ?_; clear hf; intro a hf
      refine qYg hf rfl rfl rfl (congrArg (fun b => some (Value.bool b)) hb22) rfl rfl rfl (Y_nilCheck rfl rfl) ?_; clear hf; intro a hf
      refine qYg hf rfl rfl rfl (congrArg (fun b => some (Value.bool b)) hb22) rfl rfl rfl (Y_fieldAddr rfl rfl fo162_2) ?_; clear hf; intro a hf
      refine qYg hf rfl rfl rfl (congrArg (fun b => some (Value.bool b)) hb22) rfl rfl rfl (Y_load_blk rfl rfl (i := 0) rfl rfl ag28) ?_; clear hf; intro a hf
      refine qYg hf rfl rfl rfl (congrArg (fun b => some (Value.bool b)) hb22) rfl rfl rfl (Y_move rfl rfl) ?_; clear hf; intro a hf
      refine qYg hf rfl rfl rfl (congrArg (fun b => some (Value.bool b)) hb22) rfl rfl rfl (Y_move rfl rfl) ?_; clear hf; intro a hf
      refine qYg hf rfl rfl rfl (congrArg (fun b => some (Value.bool b)) hb22) rfl rfl rfl (Y_add rfl rfl rfl) ?_; clear hf; intro a hf
      obtain ⟨r23, hc24, hj21⟩ := bind_some hj21
      refine qCallg hf rfl rfl rfl (congrArg (fun b => some (Value.bool b)) hb22) rfl rfl rfl rfl (cap := k_p0_wanted) rfl rfl e_p0_wanted (v := .bool r23) (fun w hs => Calls.scal (h_p0_wanted p0_path A_p0_path p0_path.length c_p0_path rfl (IntKind.i64.wrap (p1 + q14)) _ _ hc24 hs.bm (hs.rd (i := 1) rfl))) ?_; clear hf; intro a hf
      refine qY hf rfl rfl rfl (Y_pickT rfl (congrArg (fun b => some (Value.bool b)) hb22) rfl) ?_; clear hf; intro a hf
      refine qNil ?_; clear hs; intro w hs
      refine wpL_nil (then_normal ?_)
      exact ⟨r23, Option.some.inj hj21, (FrD.pick (FrD.pick (FrD.pick (FrD.pick (FrD.pick hf.none hf rfl) hf rfl) hf rfl) hf rfl) hf rfl), hs⟩
    · have hj21 := bif_f hj21 hb22
      refine qNo hf rfl rfl rfl (congrArg (fun b => some (Value.bool b)) hb22) rfl rfl rfl ?_; clear hf; intro a hf
      refine qNo hf rfl rfl rfl (congrArg (fun b => some (Value.bool b)) hb22) rfl rfl rfl ?_; clear hf; intro a hf
      refine qNo hf rfl rfl rfl (congrArg (fun b => some (Value.bool b)) hb22) rfl rfl rfl ?_; clear hf; intro a hf
      refine qNo hf rfl rfl rfl (congrArg (fun b => some (Value.bool b)) hb22) rfl rfl rfl ?_; clear hf; intro a hf
      refine qNo hf rfl rfl rfl (congrArg (fun b => some (Value.bool b)) hb22) rfl rfl rfl ?_; clear hf; intro a hf
      refine qNo hf rfl rfl rfl (congrArg (fun b => some (Value.bool b)) hb22) rfl rfl rfl ?_; clear hf; intro a hf
      refine qNo hf rfl rfl rfl (congrArg (fun b => some (Value.bool b)) hb22) rfl rfl rfl ?_; clear hf; intro a hf
      refine qNo hf rfl rfl rfl (congrArg (fun b => some (Value.bool b)) hb22) rfl rfl rfl ?_; clear hf; intro a hf
      refine qNo hf rfl rfl rfl (congrArg (fun b => some (Value.bool b)) hb22) rfl rfl rfl ?_; clear hf; intro a hf
      refine qNo hf rfl rfl rfl (congrArg (fun b => some (Value.bool b)) hb22) rfl rfl rfl ?_; clear hf; intro a hf
      refine qNo hf rfl rfl rfl (congrArg (fun b => some (Value.bool b)) hb22) rfl rfl rfl ?_; clear hf; intro a hf
      refine qNo hf rfl rfl rfl (congrArg (fun b => some (Value.bool b)) hb22) rfl rfl rfl ?_; clear hf; intro a hf
      refine qY hf rfl rfl rfl (Y_pickF rfl (congrArg (fun b => some (Value.bool b)) hb22) rfl) ?_; clear hf; intro a hf
      refine qNil ?_; clear hs; intro w hs
      refine wpL_nil (then_normal ?_)
      exact ⟨false, Option.some.inj hj21, (FrD.pick (FrD.pick (FrD.pick (FrD.pick (FrD.pick hf.none hf rfl) hf rfl) hf rfl) hf rfl) hf rfl), hs⟩
  · rintro a w ⟨b19, hr_, hf, hs⟩
    subst hr_
    try dsimp only at hm
    refine wpL_cond hf rfl (fun hb25 => ?_) (fun hb25 => ?_)
    · have hm := bif_t hm hb25
      refine wpL_seq ?_
      refine wpL_region ?_
      refine sY hf hs rfl rfl rfl (Y_assign rfl rfl) ?_; clear hf; intro a hf
      refine wpO_nil ?_
      obtain rfl := Option.some.inj hm
      refine wpL_ret (ret_tmp rfl hf rfl ?_)
      exact ⟨_, rfl, A_p0_path, p0_path.length, c_p0_path, A_p0_used, p0_used.length, c_p0_used, rfl, rfl, rfl, hs⟩
    · have hm := bif_f hm hb25
      refine wpL_skip ?_
      refine wpL_seq ?_
      refine wpL_seq ?_
      refine wpL_region ?_
      refine sY hf hs rfl rfl rfl (Y_move rfl rfl) ?_; clear hf; intro a hf
      refine sY hf hs rfl rfl rfl (Y_add rfl rfl rfl) ?_; clear hf; intro a hf
      refine sY hf hs rfl rfl rfl (Y_assign rfl rfl) ?_; clear hf; intro a hf
      refine wpO_nil ?_
      obtain ⟨r385, hl386, hm⟩ := bind_some hm
      refine wpL_block (fun a w => ∃ xs375 : List Int, ∃ xs380 : List Bool, ∃ A376, ∃ n377, ∃ c378, ∃ A381, ∃ n382, ∃ c383, Sum.inr (xs375, xs380) = r385 ∧ n377 = xs375.length ∧ n382 = xs380.length ∧ Fr a 127 [] ∧ St (muL [.blk b_p0 162 [.slice A_p0_matrix p0_matrix.length c_p0_matrix, .func (.func f_p0_wanted) #[] k_p0_wanted.toArray, .slice A_p0_path p0_path.length c_p0_path, .slice A_p0_used p0_used.length c_p0_used], .row A_p0_path p0_path.length c_p0_path 2 1 (ints p0_path), .row A_p0_used p0_used.length c_p0_used 4 1 (bools p0_used)]) W w [.blk b_p0 162 [.slice A_p0_matrix p0_matrix.length c_p0_matrix, .func (.func f_p0_wanted) #[] k_p0_wanted.toArray, .slice A376 n377 c378, .slice A381 n382 c383], .row A376 n377 c378 2 1 (ints xs375), .row A381 n382 c383 4 1 (bools xs380)]) ?_ ?_
      · refine wpL_loop (fun n a w => ∃ xs255 : List Int, ∃ xs260 : List Bool, ∃ x265 : Int, ∃ A256, ∃ n257, ∃ c258, ∃ A261, ∃ n262, ∃ c263, impl_cycleSearch_goOn_L1 F p0_matrix m_p0_wanted p1 q3 (impl_cycleSearch_goOn_rec F k_) n xs255 xs260 x265 = some r385 ∧ n257 = xs255.length ∧ n262 = xs260.length ∧ Fr a 127 [(0, .pointer (some ⟨b_p0, 0, none⟩)), (1, .int .i64 p1), (6, .int .i64 q3), (8, .int .i64 x265)] ∧ St (muL [.blk b_p0 162 [.slice A_p0_matrix p0_matrix.length c_p0_matrix, .func (.func f_p0_wanted) #[] k_p0_wanted.toArray, .slice A_p0_path p0_path.length c_p0_path, .slice A_p0_used p0_used.length c_p0_used], .row A_p0_path p0_path.length c_p0_path 2 1 (ints p0_path), .row A_p0_used p0_used.length c_p0_used 4 1 (bools p0_used)]) W w [.blk b_p0 162 [.slice A_p0_matrix p0_matrix.length c_p0_matrix, .func (.func f_p0_wanted) #[] k_p0_wanted.toArray, .slice A256 n257 c258, .slice A261 n262 c263], .row A256 n257 c258 2 1 (ints xs255), .row A261 n262 c263 4 1 (bools xs260)]) F ?_ ?_ ?_
        · exact ⟨p0_path, p0_used, (IntKind.i64.wrap (q1 + 1)), A_p0_path, p0_path.length, c_p0_path, A_p0_used, p0_used.length, c_p0_used, hl386, rfl, rfl, (FrD.pick (FrD.pick (FrD.pick (FrD.pick hf.none hf rfl) hf rfl) hf rfl) hf rfl), hs⟩
        · rintro a w ⟨xs255, xs260, x265, A256, n257, c258, A261, n262, c263, h0_, -, -, -, -⟩; simp [impl_cycleSearch_goOn_L1] at h0_
        · rintro n388 a w ⟨xs255, xs260, x265, A256, n257, c258, A261, n262, c263, hm387, hn259, hn264, hf, hs⟩
          rw [impl_cycleSearch_goOn_L1] at hm387
          refine wpL_seq ?_
          refine wpL_seq ?_
          refine wpL_region ?_
          refine sY hf hs rfl rfl rfl (Y_move rfl rfl) ?_; clear hf; intro a hf
          refine sY hf hs rfl rfl rfl (Y_move rfl rfl) ?_; clear hf; intro a hf
          refine sY hf hs rfl rfl rfl (Y_nilCheck rfl rfl) ?_; clear hf; intro a hf
          refine sY hf hs rfl rfl rfl (Y_fieldAddr rfl rfl fo162_0) ?_; clear hf; intro a hf
          refine sY hf hs rfl rfl rfl (Y_load_blk rfl rfl (i := 0) rfl rfl ag40) ?_; clear hf; intro a hf
          refine sY hf hs rfl rfl rfl (Y_lenH rfl rfl el40 rfl) ?_; clear hf; intro a hf
          refine sY hf hs rfl rfl rfl (Y_lss rfl rfl rfl) ?_; clear hf; intro a hf
          refine wpO_nil ?_
          refine wpL_cond hf rfl (fun hb389 => ?_) (fun hb389 => ?_)
          · have hm387 := bif_t hm387 hb389
            refine wpL_skip ?_
            refine wpL_seq ?_
            obtain ⟨r448, hj449, hm387⟩ := bind_some hm387
            refine wpL_block (fun a w => ∃ xs438 : List Int, ∃ xs443 : List Bool, ∃ A439, ∃ n440, ∃ c441, ∃ A444, ∃ n445, ∃ c446, Sum.inr (xs438, xs443) = r448 ∧ n440 = xs438.length ∧ n445 = xs443.length ∧ Fr a 127 [(0, .pointer (some ⟨b_p0, 0, none⟩)), (1, .int .i64 p1), (6, .int .i64 q3), (8, .int .i64 x265)] ∧ St (muL [.blk b_p0 162 [.slice A_p0_matrix p0_matrix.length c_p0_matrix, .func (.func f_p0_wanted) #[] k_p0_wanted.toArray, .slice A_p0_path p0_path.length c_p0_path, .slice A_p0_used p0_used.length c_p0_used], .row A_p0_path p0_path.length c_p0_path 2 1 (ints p0_path), .row A_p0_used p0_used.length c_p0_used 4 1 (bools p0_used)]) W w [.blk b_p0 162 [.slice A_p0_matrix p0_matrix.length c_p0_matrix, .func (.func f_p0_wanted) #[] k_p0_wanted.toArray, .slice A439 n440 c441, .slice A444 n445 c446], .row A439 n440 c441 2 1 (ints xs438), .row A444 n445 c446 4 1 (bools xs443)]) ?_ ?_
            · refine wpL_seq ?_
              refine wpL_region ?_
              refine sY hf hs rfl rfl rfl (Y_move rfl rfl) ?_; clear hf; intro a hf
              refine sY hf hs rfl rfl rfl (Y_nilCheck rfl rfl) ?_; clear hf; intro a hf
              refine sY hf hs rfl rfl rfl (Y_fieldAddr rfl rfl fo162_0) ?_; clear hf; intro a hf
              refine sY hf hs rfl rfl rfl (Y_load_blk rfl rfl (i := 0) rfl rfl ag40) ?_; clear hf; intro a hf
              refine sY hf hs rfl rfl rfl (Y_move rfl rfl) ?_; clear hf; intro a hf
              obtain ⟨q450, hi451, hj449⟩ := bind_some hj449
              obtain ⟨hi451a, hi451b, hi451q⟩ := idx_some hi451
              obtain ⟨vs452, hv453, hr454⟩ := id h_p0_matrix
              obtain ⟨A455, c456, hv457, hR458⟩ := hr454 _ _ hi451q
              refine sY hf hs rfl rfl rfl (Y_index rfl rfl rfl el40 ti28 (Rd.isAt hv453.here hv457) hi451a hi451b) ?_; clear hf; intro a hf
              refine sY hf hs rfl rfl rfl (Y_load_rd rfl rfl (fun w hs => hv453.at hs) (at1 hv457) ag28) ?_; clear hf; intro a hf
              refine sY hf hs rfl rfl rfl (Y_move rfl rfl) ?_; clear hf; intro a hf
              obtain ⟨q459, hi460, hj449⟩ := bind_some hj449
              obtain ⟨hi460a, hi460b, hi460q⟩ := idx_some hi460
              refine sY hf hs rfl rfl rfl (Y_index rfl rfl rfl el28 ti2 (Rd.isAt (hR458.at hs) (at1 (ints_at hi460q))) hi460a hi460b) ?_; clear hf; intro a hf
              refine sY hf hs rfl rfl rfl (Y_load_rd rfl rfl (fun w hs => hR458.at hs) (at1 (ints_at hi460q)) ag2) ?_; clear hf; intro a hf
              refine sY hf hs rfl rfl rfl (Y_assign rfl rfl) ?_; clear hf; intro a hf
              refine wpO_nil ?_
              refine wpL_seq ?_
              refine wpL_seq ?_
              obtain ⟨r465, hj466, hj449⟩ := bind_some hj449
              refine wpL_cut (fun a w => ∃ b464 : Bool, b464 = r465 ∧ Fr a 127 [(0, .pointer (some ⟨b_p0, 0, none⟩)), (1, .int .i64 p1), (6, .int .i64 q3), (8, .int .i64 x265), (9, .int .i64 q459), (85, .bool b464)] ∧ St (muL [.blk b_p0 162 [.slice A_p0_matrix p0_matrix.length c_p0_matrix, .func (.func f_p0_wanted) #[] k_p0_wanted.toArray, .slice A_p0_path p0_path.length c_p0_path, .slice A_p0_used p0_used.length c_p0_used], .row A_p0_path p0_path.length c_p0_path 2 1 (ints p0_path), .row A_p0_used p0_used.length c_p0_used 4 1 (bools p0_used)]) W w [.blk b_p0 162 [.slice A_p0_matrix p0_matrix.length c_p0_matrix, .func (.func f_p0_wanted) #[] k_p0_wanted.toArray, .slice A256 n257 c258, .slice A261 n262 c263], .row A256 n257 c258 2 1 (ints xs255), .row A261 n262 c263 4 1 (bools xs260)]) ?_ ?_
              · refine wpL_region ?_
                refine sY hf hs rfl rfl rfl (Y_move rfl rfl) ?_; clear hf; intro a hf
                refine sY hf hs rfl rfl rfl (Y_eql rfl rfl rfl) ?_; clear hf; intro a hf
                refine sY hf hs rfl rfl rfl (Y_move rfl rfl) ?_; clear hf; intro a hf
                refine bsplit (q459 == (-1000000000000000)) (fun hb467 => ?_) (fun hb467 => ?_)
                · have hj466 := bif_t hj466 hb467
                  refine sNo hf rfl rfl rfl (congrArg (fun b => some (Value.bool b)) hb467) rfl rfl rfl ?_; clear hf; intro a hf
                  refine sNo hf rfl rfl rfl (congrArg (fun b => some (Value.bool b)) hb467) rfl rfl rfl ?_; clear hf; intro a hf
                  refine sNo hf rfl rfl rfl (congrArg (fun b => some (Value.bool b)) hb467) rfl rfl rfl ?_; clear hf; intro a hf
                  refine sNo hf rfl rfl rfl (congrArg (fun b => some (Value.bool b)) hb467) rfl rfl rfl ?_; clear hf; intro a hf
                  refine sNo hf rfl rfl rfl (congrArg (fun b => some (Value.bool b)) hb467) rfl rfl rfl ?_; clear hf; intro a hf
                  refine sNo hf rfl rfl rfl (congrArg (fun b => some (Value.bool b)) hb467) rfl rfl rfl ?_; clear hf; intro a hf
                  refine sNo hf rfl rfl rfl (congrArg (fun b => some (Value.bool b)) hb467) rfl rfl rfl ?_; clear hf; intro a hf
                  refine sY hf hs rfl rfl rfl (Y_pickT rfl (congrArg (fun b => some (Value.bool b)) hb467) rfl) ?_; clear hf; intro a hf
                  refine wpO_nil ?_
                  refine wpL_nil (then_normal ?_)
                  exact ⟨true, Option.some.inj hj466, (FrD.pick (FrD.pick (FrD.pick (FrD.pick (FrD.pick (FrD.pick hf.none hf rfl) hf rfl) hf rfl) hf rfl) hf rfl) hf rfl), hs⟩
                · have hj466 := bif_f hj466 hb467
                  refine sYg hf hs rfl rfl rfl (congrArg (fun b => some (Value.bool b)) hb467) rfl rfl rfl (Y_move rfl rfl) ?_; clear hf; intro a hf
                  refine sYg hf hs rfl rfl rfl (congrArg (fun b => some (Value.bool b)) hb467) rfl rfl rfl (Y_nilCheck rfl rfl) ?_; clear hf; intro a hf
                  refine sYg hf hs rfl rfl rfl (congrArg (fun b => some (Value.bool b)) hb467) rfl rfl rfl (Y_fieldAddr rfl rfl fo162_3) ?_; clear hf; intro a hf
                  refine sYg hf hs rfl rfl rfl (congrArg (fun b => some (Value.bool b)) hb467) rfl rfl rfl (Y_load_blk rfl rfl (i := 0) rfl rfl ag160) ?_; clear hf; intro a hf
                  refine sYg hf hs rfl rfl rfl (congrArg (fun b => some (Value.bool b)) hb467) rfl rfl rfl (Y_move rfl rfl) ?_; clear hf; intro a hf
                  obtain ⟨q468, hi469, hj466⟩ := bind_some hj466
                  obtain ⟨hi469a, hi469b, hi469q⟩ := idx_some hi469
                  refine sYg hf hs rfl rfl rfl (congrArg (fun b => some (Value.bool b)) hb467) rfl rfl rfl (Y_index rfl rfl rfl el160 ti4 (Rd.isAt (hs.rd (i := 2) rfl) (at1 (bools_at hi469q))) hi469a (ltn hn264 hi469b)) ?_; clear hf; intro a hf
                  refine sYg hf hs rfl rfl rfl (congrArg (fun b => some (Value.bool b)) hb467) rfl rfl rfl (Y_load_rd rfl rfl (fun w hs => hs.rd (i := 2) rfl) (at1 (bools_at hi469q)) ag4) ?_; clear hf; intro a hf
                  refine sY hf hs rfl rfl rfl (Y_pickF rfl (congrArg (fun b => some (Value.bool b)) hb467) rfl) ?_; clear hf; intro a hf
                  refine wpO_nil ?_
                  refine wpL_nil (then_normal ?_)
                  exact ⟨q468, Option.some.inj hj466, (FrD.pick (FrD.pick (FrD.pick (FrD.pick (FrD.pick (FrD.pick hf.none hf rfl) hf rfl) hf rfl) hf rfl) hf rfl) hf rfl), hs⟩
              · rintro a w ⟨b464, hr_, hf, hs⟩
                subst hr_
                try dsimp only at hj449
                refine wpL_cond hf rfl (fun hb470 => ?_) (fun hb470 => ?_)
                · have hj449 := bif_t hj449 hb470
                  refine wpL_exit (Qb_exit ?_)
                  exact ⟨xs255, xs260, A256, n257, c258, A261, n262, c263, Option.some.inj hj449, hn259, hn264, (FrD.pick (FrD.pick (FrD.pick (FrD.pick hf.none hf rfl) hf rfl) hf rfl) hf rfl), hs⟩
                · have hj449 := bif_f hj449 hb470
                  refine wpL_skip ?_
                  refine wpL_seq ?_
                  refine wpL_region ?_
                  refine sY hf hs rfl rfl rfl (Y_move rfl rfl) ?_; clear hf; intro a hf
                  refine sY hf hs rfl rfl rfl (Y_nilCheck rfl rfl) ?_; clear hf; intro a hf
                  refine sY hf hs rfl rfl rfl (Y_fieldAddr rfl rfl fo162_3) ?_; clear hf; intro a hf
                  refine sY hf hs rfl rfl rfl (Y_load_blk rfl rfl (i := 0) rfl rfl ag160) ?_; clear hf; intro a hf
                  refine sY hf hs rfl rfl rfl (Y_move rfl rfl) ?_; clear hf; intro a hf
                  obtain ⟨q471, hi472, hj449⟩ := bind_some hj449
                  obtain ⟨hi472a, hi472b, hi472q⟩ := idx_some hi472
                  refine sY hf hs rfl rfl rfl (Y_index rfl rfl rfl el160 ti4 (Rd.isAt (hs.rd (i := 2) rfl) (at1 (bools_at hi472q))) hi472a (ltn hn264 hi472b)) ?_; clear hf; intro a hf
                  obtain ⟨xs473, hu474, hj449⟩ := bind_some hj449
                  refine sStoreL (i := 2) (us := [.bool true]) (enc := bools) hf hs rfl rfl rfl rfl rfl rfl hn264 hu474 ti4 rfl rfl rfl rfl rfl bools_len1 (bools_set true) ?_; clear hs; intro w hs
                  have hs : St (muL [.blk b_p0 162 [.slice A_p0_matrix p0_matrix.length c_p0_matrix, .func (.func f_p0_wanted) #[] k_p0_wanted.toArray, .slice A_p0_path p0_path.length c_p0_path, .slice A_p0_used p0_used.length c_p0_used], .row A_p0_path p0_path.length c_p0_path 2 1 (ints p0_path), .row A_p0_used p0_used.length c_p0_used 4 1 (bools p0_used)]) W w [.blk b_p0 162 [.slice A_p0_matrix p0_matrix.length c_p0_matrix, .func (.func f_p0_wanted) #[] k_p0_wanted.toArray, .slice A256 n257 c258, .slice A261 n262 c263], .row A256 n257 c258 2 1 (ints xs255), .row A261 n262 c263 4 1 (bools xs473)] := hs
                  refine wpO_nil ?_
                  refine wpL_seq ?_
                  refine wpL_region ?_
                  refine sY hf hs rfl rfl rfl (Y_move rfl rfl) ?_; clear hf; intro a hf
                  refine sY hf hs rfl rfl rfl (Y_move rfl rfl) ?_; clear hf; intro a hf
                  refine sY hf hs rfl rfl rfl (Y_nilCheck rfl rfl) ?_; clear hf; intro a hf
                  refine sY hf hs rfl rfl rfl (Y_fieldAddr rfl rfl fo162_2) ?_; clear hf; intro a hf
                  refine sY hf hs rfl rfl rfl (Y_load_blk rfl rfl (i := 0) rfl rfl ag28) ?_; clear hf; intro a hf
                  refine sY hf hs rfl rfl rfl (Y_move rfl rfl) ?_; clear hf; intro a hf
                  refine sBuildSlice (parts := [(0, .tmp 97)]) (vs := [.int .i64 x265]) (cells := [.int .i64 x265]) hf hs rfl rfl rfl rfl rfl el28 ti2 rfl rfl rfl rfl ?_; clear hf hs; intro a w A475 hs hA476 hf
                  have hs : St (muL [.blk b_p0 162 [.slice A_p0_matrix p0_matrix.length c_p0_matrix, .func (.func f_p0_wanted) #[] k_p0_wanted.toArray, .slice A_p0_path p0_path.length c_p0_path, .slice A_p0_used p0_used.length c_p0_used], .row A_p0_path p0_path.length c_p0_path 2 1 (ints p0_path), .row A_p0_used p0_used.length c_p0_used 4 1 (bools p0_used)]) W w [.blk b_p0 162 [.slice A_p0_matrix p0_matrix.length c_p0_matrix, .func (.func f_p0_wanted) #[] k_p0_wanted.toArray, .slice A256 n257 c258, .slice A261 n262 c263], .row A256 n257 c258 2 1 (ints xs255), .row A261 n262 c263 4 1 (bools xs473), .row A475 1 1 2 1 (ints ([x265]))] := hs
                  obtain ⟨xs479, ha480, hj449⟩ := bind_some hj449
                  refine sAppendL (i := 1) (xs := xs255) (ys := [x265]) (enc := ints) hf hs rfl rfl rfl rfl rfl rfl hn259 rfl rfl ha480 el28 ti2 rfl rfl rfl (hs.rd (i := 3) rfl) (Nat.succ_pos _) ints_len1 ints_append ints_one ?_; clear hf hs; intro a w A477 c478 hs hf
                  have hs : St (muL [.blk b_p0 162 [.slice A_p0_matrix p0_matrix.length c_p0_matrix, .func (.func f_p0_wanted) #[] k_p0_wanted.toArray, .slice A_p0_path p0_path.length c_p0_path, .slice A_p0_used p0_used.length c_p0_used], .row A_p0_path p0_path.length c_p0_path 2 1 (ints p0_path), .row A_p0_used p0_used.length c_p0_used 4 1 (bools p0_used)]) W w [.blk b_p0 162 [.slice A_p0_matrix p0_matrix.length c_p0_matrix, .func (.func f_p0_wanted) #[] k_p0_wanted.toArray, .slice A256 n257 c258, .slice A261 n262 c263], .row A477 xs479.length c478 2 1 (ints xs479), .row A261 n262 c263 4 1 (bools xs473), .row A475 1 1 2 1 (ints ([x265]))] := hs
                  refine sY hf hs rfl rfl rfl (Y_nilCheck rfl rfl) ?_; clear hf; intro a hf
                  refine sY hf hs rfl rfl rfl (Y_fieldAddr rfl rfl fo162_2) ?_; clear hf; intro a hf
                  refine sStore (i := 0) (us := [.slice A477 xs479.length c478]) hf hs rfl rfl rfl rfl rfl rfl ti28 rfl rfl rfl (Nat.le_of_ble_eq_true rfl) rfl ?_; clear hs; intro w hs
                  have hs : St (muL [.blk b_p0 162 [.slice A_p0_matrix p0_matrix.length c_p0_matrix, .func (.func f_p0_wanted) #[] k_p0_wanted.toArray, .slice A_p0_path p0_path.length c_p0_path, .slice A_p0_used p0_used.length c_p0_used], .row A_p0_path p0_path.length c_p0_path 2 1 (ints p0_path), .row A_p0_used p0_used.length c_p0_used 4 1 (bools p0_used)]) W w [.blk b_p0 162 [.slice A_p0_matrix p0_matrix.length c_p0_matrix, .func (.func f_p0_wanted) #[] k_p0_wanted.toArray, .slice A477 xs479.length c478, .slice A261 n262 c263], .row A477 xs479.length c478 2 1 (ints xs479), .row A261 n262 c263 4 1 (bools xs473), .row A475 1 1 2 1 (ints ([x265]))] := hs
                  refine wpO_nil ?_
                  refine wpL_seq ?_
                  refine wpL_seq ?_
                  refine wpL_region ?_
                  refine sY hf hs rfl rfl rfl (Y_move rfl rfl) ?_; clear hf; intro a hf
                  refine sY hf hs rfl rfl rfl (Y_move rfl rfl) ?_; clear hf; intro a hf
                  refine sY hf hs rfl rfl rfl (Y_move rfl rfl) ?_; clear hf; intro a hf
                  refine sY hf hs rfl rfl rfl (Y_add rfl rfl rfl) ?_; clear hf; intro a hf
                  obtain ⟨r481, hc482, hj449⟩ := bind_some hj449
                  refine sCall hf rfl rfl rfl rfl (cap := []) rfl rfl en156 (ih_ b_p0 p0_matrix A_p0_matrix p0_matrix.length c_p0_matrix rfl m_p0_wanted f_p0_wanted k_p0_wanted xs479 A477 xs479.length c478 rfl xs473 A261 n262 c263 ((hn264).trans (upd_len hu474).symm) (IntKind.i64.wrap (p1 + q459)) _ _ hc482 (h_p0_matrix.pass hs [0, 1, 2]) (fun x0 A0_0 n0_0 c0_0 h0_0 x1 r w' hm_ hb r0_0 => h_p0_wanted x0 A0_0 n0_0 c0_0 h0_0 x1 r w' hm_ (hs.bmPass [0, 1, 2] hb) r0_0) e_p0_wanted (hs.sel [0, 1, 2] (by decide)).rebase) ?_; clear hf
                  rintro _ w ⟨A483, n484, c485, A487, n488, c489, rfl, hn486, hn490, hs1⟩ a hf
                  have hs : St (muL [.blk b_p0 162 [.slice A_p0_matrix p0_matrix.length c_p0_matrix, .func (.func f_p0_wanted) #[] k_p0_wanted.toArray, .slice A_p0_path p0_path.length c_p0_path, .slice A_p0_used p0_used.length c_p0_used], .row A_p0_path p0_path.length c_p0_path 2 1 (ints p0_path), .row A_p0_used p0_used.length c_p0_used 4 1 (bools p0_used)]) W w [.row A475 1 1 2 1 (ints ([x265])), .blk b_p0 162 [.slice A_p0_matrix p0_matrix.length c_p0_matrix, .func (.func f_p0_wanted) #[] k_p0_wanted.toArray, .slice A483 n484 c485, .slice A487 n488 c489], .row A483 n484 c485 2 1 (ints r481.2.1), .row A487 n488 c489 4 1 (bools r481.2.2)] := St.mutTail (La := [.row A475 1 1 2 1 (ints ([x265]))]) (Lb := [.blk b_p0 162 [.slice A_p0_matrix p0_matrix.length c_p0_matrix, .func (.func f_p0_wanted) #[] k_p0_wanted.toArray, .slice A477 xs479.length c478, .slice A261 n262 c263], .row A477 xs479.length c478 2 1 (ints xs479), .row A261 n262 c263 4 1 (bools xs473)]) (hs.sel [3, 0, 1, 2] (by decide)) hs1
                  clear hs1
                  refine wpO_nil ?_
                  refine wpL_cond hf rfl (fun hb491 => ?_) (fun hb491 => ?_)
                  · have hj449 := bif_t hj449 hb491
                    refine wpL_seq ?_
                    refine wpL_region ?_
                    refine sY hf hs rfl rfl rfl (Y_assign rfl rfl) ?_; clear hf; intro a hf
                    refine wpO_nil ?_
                    obtain rfl := Option.some.inj hj449
                    try dsimp only at hm387
                    obtain rfl := Option.some.inj hm387
                    try dsimp only at hm
                    obtain rfl := Option.some.inj hm
                    refine wpL_ret (Qb_ret (Ql_ret (Qb_ret (ret_tmp rfl hf rfl ?_))))
                    exact ⟨_, rfl, A483, n484, c485, A487, n488, c489, rfl, hn486, hn490, hs.sel [1, 2, 3] (by decide)⟩
                  · have hj449 := bif_f hj449 hb491
                    refine wpL_skip ?_
                    refine wpL_seq ?_
                    refine wpL_drawM [.row A475 1 1 2 1 (ints ([x265])), .blk b_p0 162 [.slice A_p0_matrix p0_matrix.length c_p0_matrix, .func (.func f_p0_wanted) #[] k_p0_wanted.toArray, .slice A483 n484 c485, .slice A487 n488 c489], .row A483 n484 c485 2 1 (ints r481.2.1), .row A487 n488 c489 4 1 (bools r481.2.2)] [14] (by kernel_rfl) hs ?_; clear hs; intro w hs
                    have hs0 : St (muL [.blk b_p0 162 [.slice A_p0_matrix p0_matrix.length c_p0_matrix, .func (.func f_p0_wanted) #[] k_p0_wanted.toArray, .slice A_p0_path p0_path.length c_p0_path, .slice A_p0_used p0_used.length c_p0_used], .row A_p0_path p0_path.length c_p0_path 2 1 (ints p0_path), .row A_p0_used p0_used.length c_p0_used 4 1 (bools p0_used)]) W w [.row A475 1 1 2 1 (ints ([x265])), .blk b_p0 162 [.slice A_p0_matrix p0_matrix.length c_p0_matrix, .func (.func f_p0_wanted) #[] k_p0_wanted.toArray, .slice A483 n484 c485, .slice A487 n488 c489], .row A483 n484 c485 2 1 (ints r481.2.1), .row A487 n488 c489 4 1 (bools r481.2.2)] := hs
                    refine mYp (i := 0) rfl (by kernel_rfl) (by kernel_rfl) hf rfl rfl rfl (fun _ => Y_move rfl rfl) ?_; clear hf; intro a hf
                    refine mYp (i := 1) rfl (by kernel_rfl) (by kernel_rfl) hf rfl rfl rfl (fun _ => Y_move rfl rfl) ?_; clear hf; intro a hf
                    refine mYp (i := 2) rfl (by kernel_rfl) (by kernel_rfl) hf rfl rfl rfl (fun _ => Y_nilCheck rfl rfl) ?_; clear hf; intro a hf
                    refine mYp (i := 3) rfl (by kernel_rfl) (by kernel_rfl) hf rfl rfl rfl (fun _ => Y_fieldAddr rfl rfl fo162_2) ?_; clear hf; intro a hf
                    refine mY (i := 4) [[]] rfl (by kernel_rfl) (by kernel_rfl) hf hs0 rfl rfl rfl (Y_load_blk rfl rfl (i := 1) rfl rfl ag28) ?_; clear hf; intro a hf
                    refine mYp (i := 5) rfl (by kernel_rfl) (by kernel_rfl) hf rfl rfl rfl (fun _ => Y_move rfl rfl) ?_; clear hf; intro a hf
                    refine mYp (i := 6) rfl (by kernel_rfl) (by kernel_rfl) hf rfl rfl rfl (fun _ => Y_nilCheck rfl rfl) ?_; clear hf; intro a hf
                    refine mYp (i := 7) rfl (by kernel_rfl) (by kernel_rfl) hf rfl rfl rfl (fun _ => Y_fieldAddr rfl rfl fo162_2) ?_; clear hf; intro a hf
                    refine mY (i := 8) [[]] rfl (by kernel_rfl) (by kernel_rfl) hf hs0 rfl rfl rfl (Y_load_blk rfl rfl (i := 1) rfl rfl ag28) ?_; clear hf; intro a hf
                    refine mYp (i := 9) rfl (by kernel_rfl) (by kernel_rfl) hf rfl rfl rfl (fun _ => Y_lenH rfl rfl el28 hn486) ?_; clear hf; intro a hf
                    refine mYp (i := 10) rfl (by kernel_rfl) (by kernel_rfl) hf rfl rfl rfl (fun _ => Y_sub rfl rfl rfl) ?_; clear hf; intro a hf
                    obtain ⟨xs493, hk492, hj449⟩ := bind_some hj449
                    refine mY (i := 11) [[]] rfl (by kernel_rfl) (by kernel_rfl) hf hs0 rfl rfl rfl (Y_sliceH rfl rfl rfl (cutTo_some hk492).1 (leC hn486 (hs0.capR (i := 2) rfl) hk492) el28 ti2) ?_; clear hf; intro a hf
                    refine mYp (i := 12) rfl (by kernel_rfl) (by kernel_rfl) hf rfl rfl rfl (fun _ => Y_nilCheck rfl rfl) ?_; clear hf; intro a hf
                    refine mYp (i := 13) rfl (by kernel_rfl) (by kernel_rfl) hf rfl rfl rfl (fun _ => Y_fieldAddr rfl rfl fo162_2) ?_; clear hf; intro a hf
                    refine mRun (i := 14) rfl (by kernel_rfl) ?_
                    have hs := hs.cutInts (i := 2) rfl hn486 hk492
                    have hs : St (muL [.blk b_p0 162 [.slice A_p0_matrix p0_matrix.length c_p0_matrix, .func (.func f_p0_wanted) #[] k_p0_wanted.toArray, .slice A_p0_path p0_path.length c_p0_path, .slice A_p0_used p0_used.length c_p0_used], .row A_p0_path p0_path.length c_p0_path 2 1 (ints p0_path), .row A_p0_used p0_used.length c_p0_used 4 1 (bools p0_used)]) W _ [.row A475 1 1 2 1 (ints ([x265])), .blk b_p0 162 [.slice A_p0_matrix p0_matrix.length c_p0_matrix, .func (.func f_p0_wanted) #[] k_p0_wanted.toArray, .slice A483 n484 c485, .slice A487 n488 c489], .row A483 ((IntKind.i64.wrap ((r481.2.1.length : Int) - 1)) : Int).toNat c485 2 1 (ints xs493), .row A487 n488 c489 4 1 (bools r481.2.2)] := hs
                    refine sStore (i := 1) (us := [.slice A483 (((IntKind.i64.wrap ((r481.2.1.length : Int) - 1)) : Int).toNat) c485]) hf hs rfl rfl rfl rfl rfl rfl ti28 rfl rfl rfl (Nat.le_of_ble_eq_true rfl) rfl ?_; clear hs; intro w hs
                    have hs : St (muL [.blk b_p0 162 [.slice A_p0_matrix p0_matrix.length c_p0_matrix, .func (.func f_p0_wanted) #[] k_p0_wanted.toArray, .slice A_p0_path p0_path.length c_p0_path, .slice A_p0_used p0_used.length c_p0_used], .row A_p0_path p0_path.length c_p0_path 2 1 (ints p0_path), .row A_p0_used p0_used.length c_p0_used 4 1 (bools p0_used)]) W w [.row A475 1 1 2 1 (ints ([x265])), .blk b_p0 162 [.slice A_p0_matrix p0_matrix.length c_p0_matrix, .func (.func f_p0_wanted) #[] k_p0_wanted.toArray, .slice A483 (((IntKind.i64.wrap ((r481.2.1.length : Int) - 1)) : Int).toNat) c485, .slice A487 n488 c489], .row A483 ((IntKind.i64.wrap ((r481.2.1.length : Int) - 1)) : Int).toNat c485 2 1 (ints xs493), .row A487 n488 c489 4 1 (bools r481.2.2)] := hs
                    refine wpO_nil ⟨Or.inl (by decide), ?_⟩
                    refine mDone (by kernel_rfl) ?_
                    clear hs0
                    refine wpL_region ?_
                    refine sY hf hs rfl rfl rfl (Y_move rfl rfl) ?_; clear hf; intro a hf
                    refine sY hf hs rfl rfl rfl (Y_nilCheck rfl rfl) ?_; clear hf; intro a hf
                    refine sY hf hs rfl rfl rfl (Y_fieldAddr rfl rfl fo162_3) ?_; clear hf; intro a hf
                    refine sY hf hs rfl rfl rfl (Y_load_blk rfl rfl (i := 1) rfl rfl ag160) ?_; clear hf; intro a hf
                    refine sY hf hs rfl rfl rfl (Y_move rfl rfl) ?_; clear hf; intro a hf
                    obtain ⟨q494, hi495, hj449⟩ := bind_some hj449
                    obtain ⟨hi495a, hi495b, hi495q⟩ := idx_some hi495
                    refine sY hf hs rfl rfl rfl (Y_index rfl rfl rfl el160 ti4 (Rd.isAt (hs.rd (i := 3) rfl) (at1 (bools_at hi495q))) hi495a (ltn hn490 hi495b)) ?_; clear hf; intro a hf
                    obtain ⟨xs496, hu497, hj449⟩ := bind_some hj449
                    refine sStoreL (i := 3) (us := [.bool false]) (enc := bools) hf hs rfl rfl rfl rfl rfl rfl hn490 hu497 ti4 rfl rfl rfl rfl rfl bools_len1 (bools_set false) ?_; clear hs; intro w hs
                    have hs : St (muL [.blk b_p0 162 [.slice A_p0_matrix p0_matrix.length c_p0_matrix, .func (.func f_p0_wanted) #[] k_p0_wanted.toArray, .slice A_p0_path p0_path.length c_p0_path, .slice A_p0_used p0_used.length c_p0_used], .row A_p0_path p0_path.length c_p0_path 2 1 (ints p0_path), .row A_p0_used p0_used.length c_p0_used 4 1 (bools p0_used)]) W w [.row A475 1 1 2 1 (ints ([x265])), .blk b_p0 162 [.slice A_p0_matrix p0_matrix.length c_p0_matrix, .func (.func f_p0_wanted) #[] k_p0_wanted.toArray, .slice A483 (((IntKind.i64.wrap ((r481.2.1.length : Int) - 1)) : Int).toNat) c485, .slice A487 n488 c489], .row A483 ((IntKind.i64.wrap ((r481.2.1.length : Int) - 1)) : Int).toNat c485 2 1 (ints xs493), .row A487 n488 c489 4 1 (bools xs496)] := hs
                    refine wpO_nil ?_
                    refine wpL_nil (Qb_normal ?_)
                    exact ⟨xs493, xs496, A483, ((IntKind.i64.wrap ((r481.2.1.length : Int) - 1)) : Int).toNat, c485, A487, n488, c489, Option.some.inj hj449, (pre_len hk492), ((hn490).trans (upd_len hu497).symm), (FrD.pick (FrD.pick (FrD.pick (FrD.pick hf.none hf rfl) hf rfl) hf rfl) hf rfl), hs.sel [1, 2, 3] (by decide)⟩
            · rintro a w ⟨xs438, xs443, A439, n440, c441, A444, n445, c446, hr_, hn442, hn447, hf, hs⟩
              subst hr_
              try dsimp only at hm387
              refine wpL_region ?_
              refine sY hf hs rfl rfl rfl (Y_move rfl rfl) ?_; clear hf; intro a hf
              refine sY hf hs rfl rfl rfl (Y_add rfl rfl rfl) ?_; clear hf; intro a hf
              refine sY hf hs rfl rfl rfl (Y_assign rfl rfl) ?_; clear hf; intro a hf
              refine wpO_nil ?_
              refine wpL_nil (Ql_normal ?_)
              exact ⟨xs438, xs443, (IntKind.i64.wrap (x265 + 1)), A439, n440, c441, A444, n445, c446, hm387, hn442, hn447, (FrD.pick (FrD.pick (FrD.pick (FrD.pick hf.none hf rfl) hf rfl) hf rfl) hf rfl), hs⟩
          · have hm387 := bif_f hm387 hb389
            refine wpL_exit (Ql_exit (Qb_exit ?_))
            exact ⟨xs255, xs260, A256, n257, c258, A261, n262, c263, Option.some.inj hm387, hn259, hn264, hf.none, hs⟩
      · rintro a w ⟨xs375, xs380, A376, n377, c378, A381, n382, c383, hr_, hn379, hn384, hf, hs⟩
        subst hr_
        try dsimp only at hm
        refine wpL_seq ?_
        refine wpL_region ?_
        refine sY hf hs rfl rfl rfl (Y_assign rfl rfl) ?_; clear hf; intro a hf
        refine wpO_nil ?_
        obtain rfl := Option.some.inj hm
        refine wpL_ret (ret_tmp rfl hf rfl ?_)
        exact ⟨_, rfl, A376, n377, c378, A381, n382, c383, rfl, hn379, hn384, hs⟩
theorem impl_cycleSearch_goOn_rec_ok (F : Nat) : ∀ (k_ : Nat) (b_p0 : Nat) (p0_matrix : List (List Int)) (A_p0_matrix : Option Addr) (n_p0_matrix c_p0_matrix : Nat) (_hn_p0_matrix : n_p0_matrix = p0_matrix.length) (m_p0_wanted : (List Int) → Int → Option Bool) (f_p0_wanted : FuncId) (k_p0_wanted : List Value) (p0_path : List Int) (A_p0_path : Option Addr) (n_p0_path c_p0_path : Nat) (_hn_p0_path : n_p0_path = p0_path.length) (p0_used : List Bool) (A_p0_used : Option Addr) (n_p0_used c_p0_used : Nat) (_hn_p0_used : n_p0_used = p0_used.length) (p1 : Int) (r : (Bool) × (List Int) × (List Bool)) (W : World) (_hm : impl_cycleSearch_goOn_rec F k_ p0_matrix m_p0_wanted p0_path p0_used p1 = some r) (_h_p0_matrix : KM (muL [.blk b_p0 162 [.slice A_p0_matrix n_p0_matrix c_p0_matrix, .func (.func f_p0_wanted) #[] k_p0_wanted.toArray, .slice A_p0_path n_p0_path c_p0_path, .slice A_p0_used n_p0_used c_p0_used], .row A_p0_path n_p0_path c_p0_path 2 1 (ints p0_path), .row A_p0_used n_p0_used c_p0_used 4 1 (bools p0_used)]) W A_p0_matrix p0_matrix) (_h_p0_wanted : ∀ (x0 : List Int) (Ax0_1 : Option Addr) (nx0_1 cx0_1 : Nat) (_hnx0_1 : nx0_1 = x0.length) (x1 : Int) (r : Bool) (w : World), m_p0_wanted x0 x1 = some r → BM (muL [.blk b_p0 162 [.slice A_p0_matrix n_p0_matrix c_p0_matrix, .func (.func f_p0_wanted) #[] k_p0_wanted.toArray, .slice A_p0_path n_p0_path c_p0_path, .slice A_p0_used n_p0_used c_p0_used], .row A_p0_path n_p0_path c_p0_path 2 1 (ints p0_path), .row A_p0_used n_p0_used c_p0_used 4 1 (bools p0_used)]) W w → Rd w Ax0_1 (ints x0) → Calls Try.prog f_p0_wanted (([.slice Ax0_1 nx0_1 cx0_1, .int .i64 x1] : List Value) ++ k_p0_wanted).toArray w fun e w' => ∃ v, e = .returned v ∧ v = .bool r ∧ St [] w w' []) (_e_p0_wanted : En Try.prog f_p0_wanted) (_hst : St (muL [.blk b_p0 162 [.slice A_p0_matrix n_p0_matrix c_p0_matrix, .func (.func f_p0_wanted) #[] k_p0_wanted.toArray, .slice A_p0_path n_p0_path c_p0_path, .slice A_p0_used n_p0_used c_p0_used], .row A_p0_path n_p0_path c_p0_path 2 1 (ints p0_path), .row A_p0_used n_p0_used c_p0_used 4 1 (bools p0_used)]) W W [.blk b_p0 162 [.slice A_p0_matrix n_p0_matrix c_p0_matrix, .func (.func f_p0_wanted) #[] k_p0_wanted.toArray, .slice A_p0_path n_p0_path c_p0_path, .slice A_p0_used n_p0_used c_p0_used], .row A_p0_path n_p0_path c_p0_path 2 1 (ints p0_path), .row A_p0_used n_p0_used c_p0_used 4 1 (bools p0_used)]), Calls Try.prog 156 [.pointer (some ⟨b_p0, 0, none⟩), .int .i64 p1].toArray W fun e w' => ∃ v, e = .returned v ∧ ∃ A2_, ∃ n2_, ∃ c2_, ∃ A3_, ∃ n3_, ∃ c3_, v = .bool r.1 ∧ n2_ = r.2.1.length ∧ n3_ = r.2.2.length ∧ St (muL [.blk b_p0 162 [.slice A_p0_matrix n_p0_matrix c_p0_matrix, .func (.func f_p0_wanted) #[] k_p0_wanted.toArray, .slice A_p0_path n_p0_path c_p0_path, .slice A_p0_used n_p0_used c_p0_used], .row A_p0_path n_p0_path c_p0_path 2 1 (ints p0_path), .row A_p0_used n_p0_used c_p0_used 4 1 (bools p0_used)]) W w' [.blk b_p0 162 [.slice A_p0_matrix n_p0_matrix c_p0_matrix, .func (.func f_p0_wanted) #[] k_p0_wanted.toArray, .slice A2_ n2_ c2_, .slice A3_ n3_ c3_], .row A2_ n2_ c2_ 2 1 (ints r.2.1), .row A3_ n3_ c3_ 4 1 (bools r.2.2)]
  | 0 => by intros; simp [impl_cycleSearch_goOn_rec] at *
  | k_ + 1 => impl_cycleSearch_goOn_step F k_ (impl_cycleSearch_goOn_rec_ok F k_)
theorem impl_cycleSearch_goOn_ok (F : Nat) : ∀ (b_p0 : Nat) (p0_matrix : List (List Int)) (A_p0_matrix : Option Addr) (n_p0_matrix c_p0_matrix : Nat) (_hn_p0_matrix : n_p0_matrix = p0_matrix.length) (m_p0_wanted : (List Int) → Int → Option Bool) (f_p0_wanted : FuncId) (k_p0_wanted : List Value) (p0_path : List Int) (A_p0_path : Option Addr) (n_p0_path c_p0_path : Nat) (_hn_p0_path : n_p0_path = p0_path.length) (p0_used : List Bool) (A_p0_used : Option Addr) (n_p0_used c_p0_used : Nat) (_hn_p0_used : n_p0_used = p0_used.length) (p1 : Int) (r : (Bool) × (List Int) × (List Bool)) (W : World) (_hm : impl_cycleSearch_goOn F p0_matrix m_p0_wanted p0_path p0_used p1 = some r) (_h_p0_matrix : KM (muL [.blk b_p0 162 [.slice A_p0_matrix n_p0_matrix c_p0_matrix, .func (.func f_p0_wanted) #[] k_p0_wanted.toArray, .slice A_p0_path n_p0_path c_p0_path, .slice A_p0_used n_p0_used c_p0_used], .row A_p0_path n_p0_path c_p0_path 2 1 (ints p0_path), .row A_p0_used n_p0_used c_p0_used 4 1 (bools p0_used)]) W A_p0_matrix p0_matrix) (_h_p0_wanted : ∀ (x0 : List Int) (Ax0_1 : Option Addr) (nx0_1 cx0_1 : Nat) (_hnx0_1 : nx0_1 = x0.length) (x1 : Int) (r : Bool) (w : World), m_p0_wanted x0 x1 = some r → BM (muL [.blk b_p0 162 [.slice A_p0_matrix n_p0_matrix c_p0_matrix, .func (.func f_p0_wanted) #[] k_p0_wanted.toArray, .slice A_p0_path n_p0_path c_p0_path, .slice A_p0_used n_p0_used c_p0_used], .row A_p0_path n_p0_path c_p0_path 2 1 (ints p0_path), .row A_p0_used n_p0_used c_p0_used 4 1 (bools p0_used)]) W w → Rd w Ax0_1 (ints x0) → Calls Try.prog f_p0_wanted (([.slice Ax0_1 nx0_1 cx0_1, .int .i64 x1] : List Value) ++ k_p0_wanted).toArray w fun e w' => ∃ v, e = .returned v ∧ v = .bool r ∧ St [] w w' []) (_e_p0_wanted : En Try.prog f_p0_wanted) (_hst : St (muL [.blk b_p0 162 [.slice A_p0_matrix n_p0_matrix c_p0_matrix, .func (.func f_p0_wanted) #[] k_p0_wanted.toArray, .slice A_p0_path n_p0_path c_p0_path, .slice A_p0_used n_p0_used c_p0_used], .row A_p0_path n_p0_path c_p0_path 2 1 (ints p0_path), .row A_p0_used n_p0_used c_p0_used 4 1 (bools p0_used)]) W W [.blk b_p0 162 [.slice A_p0_matrix n_p0_matrix c_p0_matrix, .func (.func f_p0_wanted) #[] k_p0_wanted.toArray, .slice A_p0_path n_p0_path c_p0_path, .slice A_p0_used n_p0_used c_p0_used], .row A_p0_path n_p0_path c_p0_path 2 1 (ints p0_path), .row A_p0_used n_p0_used c_p0_used 4 1 (bools p0_used)]), Calls Try.prog 156 [.pointer (some ⟨b_p0, 0, none⟩), .int .i64 p1].toArray W fun e w' => ∃ v, e = .returned v ∧ ∃ A2_, ∃ n2_, ∃ c2_, ∃ A3_, ∃ n3_, ∃ c3_, v = .bool r.1 ∧ n2_ = r.2.1.length ∧ n3_ = r.2.2.length ∧ St (muL [.blk b_p0 162 [.slice A_p0_matrix n_p0_matrix c_p0_matrix, .func (.func f_p0_wanted) #[] k_p0_wanted.toArray, .slice A_p0_path n_p0_path c_p0_path, .slice A_p0_used n_p0_used c_p0_used], .row A_p0_path n_p0_path c_p0_path 2 1 (ints p0_path), .row A_p0_used n_p0_used c_p0_used 4 1 (bools p0_used)]) W w' [.blk b_p0 162 [.slice A_p0_matrix n_p0_matrix c_p0_matrix, .func (.func f_p0_wanted) #[] k_p0_wanted.toArray, .slice A2_ n2_ c2_, .slice A3_ n3_ c3_], .row A2_ n2_ c2_ 2 1 (ints r.2.1), .row A3_ n3_ c3_ 4 1 (bools r.2.2)] := impl_cycleSearch_goOn_rec_ok F F

set_option maxRecDepth 100000 in
theorem impl_firstCycle_ok (F : Nat) (p0_a : List (List Int)) (A_p0_a_1 : Option Addr) (n_p0_a_1 c_p0_a_1 : Nat) (hn_p0_a_1 : n_p0_a_1 = p0_a.length) (m_p1_wanted : (List Int) → Int → Option Bool) (f_p1_wanted : FuncId) (k_p1_wanted : List Value) (r : List Int) (W : World) (hm : impl_firstCycle F p0_a m_p1_wanted = some r) (h_p0_a_1 : RdM W A_p0_a_1 p0_a) (h_p1_wanted : ∀ (x0 : List Int) (Ax0_1 : Option Addr) (nx0_1 cx0_1 : Nat) (_hnx0_1 : nx0_1 = x0.length) (x1 : Int) (r : Bool) (w : World), m_p1_wanted x0 x1 = some r → Below W.heap.size W w → Rd w Ax0_1 (ints x0) → Calls Try.prog f_p1_wanted (([.slice Ax0_1 nx0_1 cx0_1, .int .i64 x1] : List Value) ++ k_p1_wanted).toArray w fun e w' => ∃ v, e = .returned v ∧ v = .bool r ∧ St [] w w' []) (e_p1_wanted : En Try.prog f_p1_wanted) :
    Calls Try.prog 87 [.slice A_p0_a_1 n_p0_a_1 c_p0_a_1, .func (.func f_p1_wanted) #[] k_p1_wanted.toArray].toArray W fun e w' => ∃ v, e = .returned v ∧ ∃ A80, ∃ n81, ∃ c82, v = .slice A80 n81 c82 ∧ n81 = r.length ∧ St [] W w' [.row A80 n81 c82 2 1 (ints r)] := by
  subst hn_p0_a_1
  unfold impl_firstCycle at hm
  refine Calls.enter (N := 24) Try.func87 rfl rfl rfl (fun a hf => ?_)
  have hs := St.start W
  obtain ⟨w, hw_⟩ : ∃ w, w = W := ⟨W, rfl⟩
  clear hw_ w
  refine wpL_seq ?_
  refine wpL_region ?_
  refine sY hf hs rfl rfl rfl (Y_assign rfl rfl) ?_; clear hf; intro a hf
  refine wpO_nil ?_
  refine wpL_seq ?_
  refine wpL_seq ?_
  refine wpL_region ?_
  refine sY hf hs rfl rfl rfl (Y_move rfl rfl) ?_; clear hf; intro a hf
  refine sY hf hs rfl rfl rfl (Y_lenH rfl rfl el40 rfl) ?_; clear hf; intro a hf
  refine sY hf hs rfl rfl rfl (Y_move rfl rfl) ?_; clear hf; intro a hf
  refine wpO_nil ?_
  obtain ⟨r57, hl58, hm⟩ := bind_some hm
  refine wpL_block (fun a w => Sum.inr () = r57 ∧ Fr a 24 [] ∧ St [] W w []) ?_ ?_
  · refine wpL_loop (fun n a w => ∃ x38 : Int, impl_firstCycle_L1 F p0_a m_p1_wanted n x38 = some r57 ∧ Fr a 24 [(0, .slice A_p0_a_1 p0_a.length c_p0_a_1), (1, .func (.func f_p1_wanted) #[] k_p1_wanted.toArray), (8, .int .i64 (p0_a.length : Int)), (9, .int .i64 x38)] ∧ St [] W w []) F ?_ ?_ ?_
    · exact ⟨0, hl58, (FrD.pick (FrD.pick (FrD.pick (FrD.pick hf.none hf rfl) hf rfl) hf rfl) hf rfl), hs⟩
    · rintro a w ⟨x38, h0_, -, -⟩; simp [impl_firstCycle_L1] at h0_
    · rintro n60 a w ⟨x38, hm59, hf, hs⟩
      rw [impl_firstCycle_L1] at hm59
      refine wpL_seq ?_
      refine wpL_region ?_
      refine sY hf hs rfl rfl rfl (Y_lss rfl rfl rfl) ?_; clear hf; intro a hf
      refine wpO_nil ?_
      refine wpL_seq ?_
      refine wpL_cond hf rfl (fun hb61 => ?_) (fun hb61 => ?_)
      · have hm59 := bif_t hm59 hb61
        refine wpL_skip ?_
        refine wpL_seq ?_
        refine wpL_block0 ?_
        refine wpL_seq ?_
        refine wpL_region ?_
        refine sY hf hs rfl rfl rfl (Y_move rfl rfl) ?_; clear hf; intro a hf
        refine sY hf hs rfl rfl rfl (Y_assign rfl rfl) ?_; clear hf; intro a hf
        refine wpO_nil ?_
        refine wpL_seq ?_
        refine wpL_region ?_
        refine sY hf hs rfl rfl rfl (Y_move rfl rfl) ?_; clear hf; intro a hf
        refine sY hf hs rfl rfl rfl (Y_move rfl rfl) ?_; clear hf; intro a hf
        refine sY hf hs rfl rfl rfl (Y_move rfl rfl) ?_; clear hf; intro a hf
        refine sBuildSlice (parts := [(0, .tmp 14)]) (vs := [.int .i64 x38]) (cells := [.int .i64 x38]) hf hs rfl rfl rfl rfl rfl el28 ti2 rfl rfl rfl rfl ?_; clear hf hs; intro a w A62 hs hA63 hf
        have hs : St [] W w [.row A62 1 1 2 1 (ints ([x38]))] := hs
        refine sY hf hs rfl rfl rfl (Y_move rfl rfl) ?_; clear hf; intro a hf
        refine sY hf hs rfl rfl rfl (Y_lenH rfl rfl el40 rfl) ?_; clear hf; intro a hf
        obtain ⟨xs66, hk65, hm59⟩ := bind_some hm59
        refine sMakeL (enc := bools) hf hs rfl rfl rfl rfl rfl hk65 el160 ti4 rfl bools_made ?_; clear hf hs; intro a w A64 hs hf
        have hs : St [] W w [.row A62 1 1 2 1 (ints ([x38])), .row A64 xs66.length xs66.length 4 1 (bools xs66)] := hs
        refine sY hf hs rfl rfl rfl (Y_build (parts := [(0, .tmp 12), (1, .tmp 13), (2, .tmp 15), (3, .tmp 18)]) (vs := [.slice A_p0_a_1 p0_a.length c_p0_a_1, .func (.func f_p1_wanted) #[] k_p1_wanted.toArray, .slice A62 1 1, .slice A64 xs66.length xs66.length]) rfl rfl (run_build (parts := [(0, .slice A_p0_a_1 p0_a.length c_p0_a_1), (1, .func (.func f_p1_wanted) #[] k_p1_wanted.toArray), (2, .slice A62 1 1), (3, .slice A64 xs66.length xs66.length)]) (cells := [.slice A_p0_a_1 p0_a.length c_p0_a_1, .func (.func f_p1_wanted) #[] k_p1_wanted.toArray, .slice A62 1 1, .slice A64 xs66.length xs66.length]) (places := #[(0, 1), (1, 1), (2, 1), (3, 1)]) ti162 Try.underlying162 (fun w => by simp [go_sem]) rfl)) ?_; clear hf; intro a hf
        refine sAlloc hf hs rfl rfl rfl rfl ti162 ?_; clear hf hs; intro a w b67 hs hf
        have hs : St [] W w [.row A62 1 1 2 1 (ints ([x38])), .row A64 xs66.length xs66.length 4 1 (bools xs66), .blk b67 162 [.slice none 0 0, .nilFunc, .slice none 0 0, .slice none 0 0]] := hs
        refine sStore (i := 2) (us := [.slice A_p0_a_1 p0_a.length c_p0_a_1, .func (.func f_p1_wanted) #[] k_p1_wanted.toArray, .slice A62 1 1, .slice A64 xs66.length xs66.length]) hf hs rfl rfl rfl rfl rfl rfl ti162 rfl rfl rfl (Nat.le_of_ble_eq_true rfl) rfl ?_; clear hs; intro w hs
        have hs : St [] W w [.row A62 1 1 2 1 (ints ([x38])), .row A64 xs66.length xs66.length 4 1 (bools xs66), .blk b67 162 [.slice A_p0_a_1 p0_a.length c_p0_a_1, .func (.func f_p1_wanted) #[] k_p1_wanted.toArray, .slice A62 1 1, .slice A64 xs66.length xs66.length]] := hs
        refine wpO_nil ?_
        refine wpL_seq ?_
        refine wpL_region ?_
        obtain ⟨r68, hc69, hm59⟩ := bind_some hm59
        refine sCall hf rfl rfl rfl rfl (cap := []) rfl rfl en156 (impl_cycleSearch_goOn_ok F b67 p0_a A_p0_a_1 p0_a.length c_p0_a_1 rfl m_p1_wanted f_p1_wanted k_p1_wanted ([x38]) A62 1 1 rfl xs66 A64 xs66.length xs66.length rfl 0 _ _ hc69 (h_p0_a_1.pass hs [2, 0, 1]) (fun x0 A0_0 n0_0 c0_0 h0_0 x1 r w' hm_ hb r0_0 => h_p1_wanted x0 A0_0 n0_0 c0_0 h0_0 x1 r w' hm_ (hs.bmPass [2, 0, 1] hb).below r0_0) e_p1_wanted (hs.sel [2, 0, 1] (by decide)).rebase) ?_; clear hf
        rintro _ w ⟨A70, n71, c72, A74, n75, c76, rfl, hn73, hn77, hs1⟩ a hf
        have hs : St [] W w [.blk b67 162 [.slice A_p0_a_1 p0_a.length c_p0_a_1, .func (.func f_p1_wanted) #[] k_p1_wanted.toArray, .slice A70 n71 c72, .slice A74 n75 c76], .row A70 n71 c72 2 1 (ints r68.2.1), .row A74 n75 c76 4 1 (bools r68.2.2)] := St.mutTail (La := []) (Lb := [.blk b67 162 [.slice A_p0_a_1 p0_a.length c_p0_a_1, .func (.func f_p1_wanted) #[] k_p1_wanted.toArray, .slice A62 1 1, .slice A64 xs66.length xs66.length], .row A62 1 1 2 1 (ints ([x38])), .row A64 xs66.length xs66.length 4 1 (bools xs66)]) (hs.sel [2, 0, 1] (by decide)) hs1
        clear hs1
        refine wpO_nil ?_
        refine wpL_cond hf rfl (fun hb78 => ?_) (fun hb78 => ?_)
        · have hm59 := bif_t hm59 hb78
          refine wpL_seq ?_
          refine wpL_region ?_
          refine sY hf hs rfl rfl rfl (Y_fieldAddr rfl rfl fo162_2) ?_; clear hf; intro a hf
          refine sY hf hs rfl rfl rfl (Y_load_blk rfl rfl (i := 0) rfl rfl ag28) ?_; clear hf; intro a hf
          refine sY hf hs rfl rfl rfl (Y_assign rfl rfl) ?_; clear hf; intro a hf
          refine wpO_nil ?_
          obtain rfl := Option.some.inj hm59
          try dsimp only at hm
          obtain rfl := Option.some.inj hm
          refine wpL_ret (Qb_ret (Ql_ret (Qb_ret (ret_tmp rfl hf rfl ?_))))
          exact ⟨_, rfl, A70, n71, c72, rfl, hn73, hs.sel [1] (by decide)⟩
        · have hm59 := bif_f hm59 hb78
          refine wpL_skip ?_
          refine wpL_nil (Qb_normal ?_)
          refine wpL_region ?_
          refine sY hf hs rfl rfl rfl (Y_add rfl rfl rfl) ?_; clear hf; intro a hf
          refine sY hf hs rfl rfl rfl (Y_move rfl rfl) ?_; clear hf; intro a hf
          refine wpO_nil ?_
          refine wpL_nil (Ql_normal ?_)
          exact ⟨(IntKind.i64.wrap (x38 + 1)), hm59, (FrD.pick (FrD.pick (FrD.pick (FrD.pick hf.none hf rfl) hf rfl) hf rfl) hf rfl), hs.sel [] (by decide)⟩
      · have hm59 := bif_f hm59 hb61
        refine wpL_exit (Ql_exit (Qb_exit ?_))
        exact ⟨Option.some.inj hm59, hf.none, hs⟩
  · rintro a w ⟨hr_, hf, hs⟩
    subst hr_
    try dsimp only at hm
    refine wpL_seq ?_
    refine wpL_region ?_
    refine sY hf hs rfl rfl rfl (Y_assign rfl rfl) ?_; clear hf; intro a hf
    refine wpO_nil ?_
    have hs : St [] W _ [.row none 0 0 2 1 (ints ([] : List Int))] := hs.addNil 2 1
    obtain rfl := Option.some.inj hm
    refine wpL_ret (ret_tmp rfl hf rfl ?_)
    exact ⟨_, rfl, none, 0, 0, rfl, rfl, hs⟩

set_option maxRecDepth 100000 in
theorem impl_PositiveCycle_c1_ok (F : Nat) (p0 : List Int) (A_p0_1 : Option Addr) (n_p0_1 c_p0_1 : Nat) (hn_p0_1 : n_p0_1 = p0.length) (p1_weight : Int) (r : Bool) (W : World) (hm : impl_PositiveCycle_c1 F p0 p1_weight = some r) (_h_p0_1 : Rd W A_p0_1 (ints p0)) :
    Calls Try.prog 88 [.slice A_p0_1 n_p0_1 c_p0_1, .int .i64 p1_weight].toArray W fun e w' => ∃ v, e = .returned v ∧ v = .bool r ∧ St [] W w' [] := by
  subst hn_p0_1
  unfold impl_PositiveCycle_c1 at hm
  refine Calls.enter (N := 7) Try.func88 rfl rfl rfl (fun a hf => ?_)
  have hs := St.start W
  obtain ⟨w, hw_⟩ : ∃ w, w = W := ⟨W, rfl⟩
  clear hw_ w
  refine wpL_seq ?_
  refine wpL_region ?_
  refine sY hf hs rfl rfl rfl (Y_assign rfl rfl) ?_; clear hf; intro a hf
  refine wpO_nil ?_
  refine wpL_seq ?_
  refine wpL_region ?_
  refine sY hf hs rfl rfl rfl (Y_move rfl rfl) ?_; clear hf; intro a hf
  refine sY hf hs rfl rfl rfl (Y_gtr rfl rfl rfl) ?_; clear hf; intro a hf
  refine sY hf hs rfl rfl rfl (Y_assign rfl rfl) ?_; clear hf; intro a hf
  refine wpO_nil ?_
  obtain rfl := Option.some.inj hm
  refine wpL_ret (ret_tmp rfl hf rfl ?_)
  exact ⟨_, rfl, rfl, hs⟩

set_option maxRecDepth 100000 in
theorem impl_PositiveCycle_ok (F : Nat) (p0_a : List (List Int)) (A_p0_a_1 : Option Addr) (n_p0_a_1 c_p0_a_1 : Nat) (hn_p0_a_1 : n_p0_a_1 = p0_a.length) (r : List Int × Int) (W : World) (hm : impl_PositiveCycle F p0_a = some r) (h_p0_a_1 : RdM W A_p0_a_1 p0_a) :
    Calls Try.prog 29 [.slice A_p0_a_1 n_p0_a_1 c_p0_a_1].toArray W fun e w' => ∃ v, e = .returned v ∧ ∃ A20, ∃ n21, ∃ c22, v = .tuple #[.slice A20 n21 c22, .int .i64 r.2] ∧ n21 = r.1.length ∧ St [] W w' [.row A20 n21 c22 2 1 (ints r.1)] := by
  subst hn_p0_a_1
  unfold impl_PositiveCycle at hm
  refine Calls.enter (N := 17) Try.func29 rfl rfl rfl (fun a hf => ?_)
  have hs := St.start W
  obtain ⟨w, hw_⟩ : ∃ w, w = W := ⟨W, rfl⟩
  clear hw_ w
  refine wpL_seq ?_
  refine wpL_region ?_
  refine sY hf hs rfl rfl rfl (Y_assign rfl rfl) ?_; clear hf; intro a hf
  refine sY hf hs rfl rfl rfl (Y_assign rfl rfl) ?_; clear hf; intro a hf
  refine wpO_nil ?_
  refine wpL_seq ?_
  refine wpL_seq ?_
  refine wpL_region ?_
  refine sY hf hs rfl rfl rfl (Y_move rfl rfl) ?_; clear hf; intro a hf
  obtain ⟨r1, hc2, hm⟩ := bind_some hm
  refine sCall hf rfl rfl rfl rfl (cap := []) rfl rfl en79 (impl_isSquare_ok F p0_a A_p0_a_1 p0_a.length c_p0_a_1 rfl _ _ hc2 (h_p0_a_1.at hs)) ?_; clear hf
  rintro _ w ⟨rfl, hs1⟩ a hf
  have hs : St [] W w [] := hs.ext hs1.below
  clear hs1
  refine sY hf hs rfl rfl rfl (Y_not rfl rfl) ?_; clear hf; intro a hf
  refine wpO_nil ?_
  refine wpL_cond hf rfl (fun hb3 => ?_) (fun hb3 => ?_)
  · have hm := bif_t hm hb3
    refine wpL_seq ?_
    refine wpL_region ?_
    refine sY hf hs rfl rfl rfl (Y_assign rfl rfl) ?_; clear hf; intro a hf
    refine sY hf hs rfl rfl rfl (Y_assign rfl rfl) ?_; clear hf; intro a hf
    refine wpO_nil ?_
    have hs : St [] W _ [.row none 0 0 2 1 (ints ([] : List Int))] := hs.addNil 2 1
    obtain rfl := Option.some.inj hm
    refine wpL_ret (ret_tmp2 rfl hf rfl rfl ?_)
    exact ⟨_, rfl, none, 0, 0, rfl, rfl, hs⟩
  · have hm := bif_f hm hb3
    refine wpL_skip ?_
    refine wpL_seq ?_
    refine wpL_seq ?_
    refine wpL_region ?_
    refine sY hf hs rfl rfl rfl (Y_move rfl rfl) ?_; clear hf; intro a hf
    obtain ⟨r5, hc6, hm⟩ := bind_some hm
    refine sCall hf rfl rfl rfl rfl (cap := []) rfl rfl en80 (impl_starOf_ok F p0_a A_p0_a_1 p0_a.length c_p0_a_1 rfl _ _ hc6 (h_p0_a_1.at hs)) ?_; clear hf
    rintro _ w ⟨A7, n8, c9, vs11, rfl, hn10, hs1⟩ a hf
    have hs : St [] W w [.mat A7 n8 c9 28 2 vs11 r5.1] := hs.join hs1
    clear hs1
    refine sY hf hs rfl rfl rfl (Y_move rfl rfl) ?_; clear hf; intro a hf
    refine sY hf hs rfl rfl rfl (Y_extract rfl rfl rfl) ?_; clear hf; intro a hf
    refine sY hf hs rfl rfl rfl (Y_extract rfl rfl rfl) ?_; clear hf; intro a hf
    refine sY hf hs rfl rfl rfl (Y_assign rfl rfl) ?_; clear hf; intro a hf
    refine sY hf hs rfl rfl rfl (Y_assign rfl rfl) ?_; clear hf; intro a hf
    refine wpO_nil ?_
    refine wpL_seq ?_
    refine wpL_region ?_
    refine sY hf hs rfl rfl rfl (Y_move rfl rfl) ?_; clear hf; intro a hf
    refine wpO_nil ?_
    refine wpL_cond hf rfl (fun hb12 => ?_) (fun hb12 => ?_)
    · have hm := bif_t hm hb12
      refine wpL_seq ?_
      refine wpL_region ?_
      refine sY hf hs rfl rfl rfl (Y_assign rfl rfl) ?_; clear hf; intro a hf
      refine sY hf hs rfl rfl rfl (Y_assign rfl rfl) ?_; clear hf; intro a hf
      refine wpO_nil ?_
      have hs : St [] W _ [.mat A7 n8 c9 28 2 vs11 r5.1, .row none 0 0 2 1 (ints ([] : List Int))] := hs.addNil 2 1
      obtain rfl := Option.some.inj hm
      refine wpL_ret (ret_tmp2 rfl hf rfl rfl ?_)
      exact ⟨_, rfl, none, 0, 0, rfl, rfl, hs.sel [1] (by decide)⟩
    · have hm := bif_f hm hb12
      refine wpL_skip ?_
      refine wpL_seq ?_
      refine wpL_region ?_
      refine sY hf hs rfl rfl rfl (Y_move rfl rfl) ?_; clear hf; intro a hf
      obtain ⟨r14, hc15, hm⟩ := bind_some hm
      refine sCall hf rfl rfl rfl rfl (cap := []) rfl rfl en87 (impl_firstCycle_ok F p0_a A_p0_a_1 p0_a.length c_p0_a_1 rfl (fun x0 x1 => impl_PositiveCycle_c1 F x0 x1) 88 [] _ _ hc15 (h_p0_a_1.at hs) (fun x0 Ax00 nx00 cx00 hx00 x1 r w' hm_ hb rx00 => impl_PositiveCycle_c1_ok F x0 Ax00 nx00 cx00 hx00 x1 r w' hm_ rx00) en88) ?_; clear hf
      rintro _ w ⟨A16, n17, c18, rfl, hn19, hs1⟩ a hf
      have hs : St [] W w [.mat A7 n8 c9 28 2 vs11 r5.1, .row A16 n17 c18 2 1 (ints r14)] := hs.join hs1
      clear hs1
      refine sY hf hs rfl rfl rfl (Y_assign rfl rfl) ?_; clear hf; intro a hf
      refine sY hf hs rfl rfl rfl (Y_assign rfl rfl) ?_; clear hf; intro a hf
      refine wpO_nil ?_
      obtain rfl := Option.some.inj hm
      refine wpL_ret (ret_tmp2 rfl hf rfl rfl ?_)
      exact ⟨_, rfl, A16, n17, c18, rfl, hn19, hs.sel [1] (by decide)⟩

set_option maxRecDepth 100000 in
theorem spec_l01Has_ok (F : Nat) (p0_list : List Int) (A_p0_list_1 : Option Addr) (n_p0_list_1 c_p0_list_1 : Nat) (hn_p0_list_1 : n_p0_list_1 = p0_list.length) (p1_x : Int) (r : Bool) (W : World) (hm : spec_l01Has F p0_list p1_x = some r) (h_p0_list_1 : Rd W A_p0_list_1 (ints p0_list)) :
    Calls Try.prog 166 [.slice A_p0_list_1 n_p0_list_1 c_p0_list_1, .int .i64 p1_x].toArray W fun e w' => ∃ v, e = .returned v ∧ v = .bool r ∧ St [] W w' [] := by
  subst hn_p0_list_1
  unfold spec_l01Has at hm
  refine Calls.enter (N := 18) Try.func166 rfl rfl rfl (fun a hf => ?_)
  have hs := St.start W
  obtain ⟨w, hw_⟩ : ∃ w, w = W := ⟨W, rfl⟩
  clear hw_ w
  refine wpL_seq ?_
  refine wpL_region ?_
  refine sY hf hs rfl rfl rfl (Y_assign rfl rfl) ?_; clear hf; intro a hf
  refine wpO_nil ?_
  refine wpL_seq ?_
  refine wpL_seq ?_
  refine wpL_region ?_
  refine sY hf hs rfl rfl rfl (Y_assign rfl rfl) ?_; clear hf; intro a hf
  refine wpO_nil ?_
  obtain ⟨r15, hl16, hm⟩ := bind_some hm
  refine wpL_block (fun a w => Sum.inr () = r15 ∧ Fr a 18 [] ∧ St [] W w []) ?_ ?_
  · refine wpL_loop (fun n a w => ∃ x10 : Int, spec_l01Has_L1 F p0_list p1_x n x10 = some r15 ∧ Fr a 18 [(0, .slice A_p0_list_1 p0_list.length c_p0_list_1), (1, .int .i64 p1_x), (5, .int .i64 x10)] ∧ St [] W w []) F ?_ ?_ ?_
    · exact ⟨0, hl16, (FrD.pick (FrD.pick (FrD.pick hf.none hf rfl) hf rfl) hf rfl), hs⟩
    · rintro a w ⟨x10, h0_, -, -⟩; simp [spec_l01Has_L1] at h0_
    · rintro n18 a w ⟨x10, hm17, hf, hs⟩
      rw [spec_l01Has_L1] at hm17
      refine wpL_seq ?_
      refine wpL_seq ?_
      refine wpL_region ?_
      refine sY hf hs rfl rfl rfl (Y_move rfl rfl) ?_; clear hf; intro a hf
      refine sY hf hs rfl rfl rfl (Y_move rfl rfl) ?_; clear hf; intro a hf
      refine sY hf hs rfl rfl rfl (Y_lenH rfl rfl el28 rfl) ?_; clear hf; intro a hf
      refine sY hf hs rfl rfl rfl (Y_lss rfl rfl rfl) ?_; clear hf; intro a hf
      refine wpO_nil ?_
      refine wpL_cond hf rfl (fun hb19 => ?_) (fun hb19 => ?_)
      · have hm17 := bif_t hm17 hb19
        refine wpL_skip ?_
        refine wpL_seq ?_
        refine wpL_block0 ?_
        refine wpL_seq ?_
        refine wpL_region ?_
        refine sY hf hs rfl rfl rfl (Y_move rfl rfl) ?_; clear hf; intro a hf
        refine sY hf hs rfl rfl rfl (Y_move rfl rfl) ?_; clear hf; intro a hf
        obtain ⟨q20, hi21, hm17⟩ := bind_some hm17
        obtain ⟨hi21a, hi21b, hi21q⟩ := idx_some hi21
        refine sY hf hs rfl rfl rfl (Y_index rfl rfl rfl el28 ti2 (Rd.isAt (h_p0_list_1.at hs) (at1 (ints_at hi21q))) hi21a hi21b) ?_; clear hf; intro a hf
        refine sY hf hs rfl rfl rfl (Y_load_rd rfl rfl (fun w hs => h_p0_list_1.at hs) (at1 (ints_at hi21q)) ag2) ?_; clear hf; intro a hf
        refine sY hf hs rfl rfl rfl (Y_move rfl rfl) ?_; clear hf; intro a hf
        refine sY hf hs rfl rfl rfl (Y_eql rfl rfl rfl) ?_; clear hf; intro a hf
        refine wpO_nil ?_
        refine wpL_cond hf rfl (fun hb22 => ?_) (fun hb22 => ?_)
        · have hm17 := bif_t hm17 hb22
          refine wpL_seq ?_
          refine wpL_region ?_
          refine sY hf hs rfl rfl rfl (Y_assign rfl rfl) ?_; clear hf; intro a hf
          refine wpO_nil ?_
          obtain rfl := Option.some.inj hm17
          try dsimp only at hm
          obtain rfl := Option.some.inj hm
          refine wpL_ret (Qb_ret (Ql_ret (Qb_ret (ret_tmp rfl hf rfl ?_))))
          exact ⟨_, rfl, rfl, hs⟩
        · have hm17 := bif_f hm17 hb22
          refine wpL_skip ?_
          refine wpL_nil (Qb_normal ?_)
          refine wpL_region ?_
          refine sY hf hs rfl rfl rfl (Y_move rfl rfl) ?_; clear hf; intro a hf
          refine sY hf hs rfl rfl rfl (Y_add rfl rfl rfl) ?_; clear hf; intro a hf
          refine sY hf hs rfl rfl rfl (Y_assign rfl rfl) ?_; clear hf; intro a hf
          refine wpO_nil ?_
          refine wpL_nil (Ql_normal ?_)
          exact ⟨(IntKind.i64.wrap (x10 + 1)), hm17, (FrD.pick (FrD.pick (FrD.pick hf.none hf rfl) hf rfl) hf rfl), hs⟩
      · have hm17 := bif_f hm17 hb19
        refine wpL_exit (Ql_exit (Qb_exit ?_))
        exact ⟨Option.some.inj hm17, hf.none, hs⟩
  · rintro a w ⟨hr_, hf, hs⟩
    subst hr_
    try dsimp only at hm
    refine wpL_seq ?_
    refine wpL_region ?_
    refine sY hf hs rfl rfl rfl (Y_assign rfl rfl) ?_; clear hf; intro a hf
    refine wpO_nil ?_
    obtain rfl := Option.some.inj hm
    refine wpL_ret (ret_tmp rfl hf rfl ?_)
    exact ⟨_, rfl, rfl, hs⟩

set_option maxRecDepth 100000 in
theorem spec_l01Own_ok (F : Nat) (p0_list : List Int) (A_p0_list_1 : Option Addr) (n_p0_list_1 c_p0_list_1 : Nat) (hn_p0_list_1 : n_p0_list_1 = p0_list.length) (r : List Int) (W : World) (hm : spec_l01Own F p0_list = some r) (h_p0_list_1 : Rd W A_p0_list_1 (ints p0_list)) :
    Calls Try.prog 114 [.slice A_p0_list_1 n_p0_list_1 c_p0_list_1].toArray W fun e w' => ∃ v, e = .returned v ∧ ∃ A7, ∃ n8, ∃ c9, v = .slice A7 n8 c9 ∧ n8 = r.length ∧ St [] W w' [.row A7 n8 c9 2 1 (ints r)] := by
  subst hn_p0_list_1
  unfold spec_l01Own at hm
  refine Calls.enter (N := 6) Try.func114 rfl rfl rfl (fun a hf => ?_)
  have hs := St.start W
  obtain ⟨w, hw_⟩ : ∃ w, w = W := ⟨W, rfl⟩
  clear hw_ w
  refine wpL_seq ?_
  refine wpL_region ?_
  refine sY hf hs rfl rfl rfl (Y_assign rfl rfl) ?_; clear hf; intro a hf
  refine wpO_nil ?_
  refine wpL_seq ?_
  refine wpL_region ?_
  refine sEmpty hf hs rfl rfl rfl rfl el28 ti2 ?_; clear hf hs; intro a w A1 hs hf
  have hs : St [] W w [.row A1 0 0 2 1 (ints ([] : List Int))] := hs
  refine sY hf hs rfl rfl rfl (Y_move rfl rfl) ?_; clear hf; intro a hf
  obtain ⟨xs5, ha6, hm⟩ := bind_some hm
  refine sAppendG (i := 0) (xs := ([] : List Int)) (ys := p0_list) (enc := ints) hf hs rfl rfl rfl rfl rfl rfl rfl rfl rfl ha6 el28 ti2 rfl rfl rfl (h_p0_list_1.at hs) ints_len1 ints_append ints_one ?_; clear hf hs; intro a w A3 c4 hs hf
  have hs : St [] W w [.row A3 xs5.length c4 2 1 (ints xs5)] := hs
  refine sY hf hs rfl rfl rfl (Y_assign rfl rfl) ?_; clear hf; intro a hf
  refine wpO_nil ?_
  obtain rfl := Option.some.inj hm
  refine wpL_ret (ret_tmp rfl hf rfl ?_)
  exact ⟨_, rfl, A3, xs5.length, c4, rfl, rfl, hs⟩

set_option maxHeartbeats 2000000 in
set_option maxRecDepth 100000 in
theorem spec_l03Grow_step (F k_ : Nat) (ih_ : ∀ (p0 : List (List Int)) (A_p0_1 : Option Addr) (n_p0_1 c_p0_1 : Nat) (_hn_p0_1 : n_p0_1 = p0.length) (p1 : List Int) (A_p1_1 : Option Addr) (n_p1_1 c_p1_1 : Nat) (_hn_p1_1 : n_p1_1 = p1.length) (p2 : Int) (p3 : Int) (r : List Int) (W : World) (_hm : spec_l03Grow_rec F k_ p0 p1 p2 p3 = some r) (_h_p0_1 : RdM W A_p0_1 p0) (_h_p1_1 : Rd W A_p1_1 (ints p1)), Calls Try.prog 157 [.slice A_p0_1 n_p0_1 c_p0_1, .slice A_p1_1 n_p1_1 c_p1_1, .int .i64 p2, .int .i64 p3].toArray W fun e w' => ∃ v, e = .returned v ∧ ∃ A1851, ∃ n1852, ∃ c1853, ∃ A1854, ∃ n1855, ∃ c1856, ∃ ys1857, v = .slice A1851 n1852 c1853 ∧ n1852 = r.length ∧ Ei A_p1_1 n_p1_1 c_p1_1 p1 A1854 n1855 c1856 ys1857 A1851 n1852 c1853 r ∧ St [] W w' [.row A1854 n1855 c1856 2 1 (ints ys1857)]) (p0 : List (List Int)) (A_p0_1 : Option Addr) (n_p0_1 c_p0_1 : Nat) (hn_p0_1 : n_p0_1 = p0.length) (p1 : List Int) (A_p1_1 : Option Addr) (n_p1_1 c_p1_1 : Nat) (hn_p1_1 : n_p1_1 = p1.length) (p2 : Int) (p3 : Int) (r : List Int) (W : World) (hm : spec_l03Grow_rec F (k_ + 1) p0 p1 p2 p3 = some r) (h_p0_1 : RdM W A_p0_1 p0) (h_p1_1 : Rd W A_p1_1 (ints p1)) :
    Calls Try.prog 157 [.slice A_p0_1 n_p0_1 c_p0_1, .slice A_p1_1 n_p1_1 c_p1_1, .int .i64 p2, .int .i64 p3].toArray W fun e w' => ∃ v, e = .returned v ∧ ∃ A1851, ∃ n1852, ∃ c1853, ∃ A1854, ∃ n1855, ∃ c1856, ∃ ys1857, v = .slice A1851 n1852 c1853 ∧ n1852 = r.length ∧ Ei A_p1_1 n_p1_1 c_p1_1 p1 A1854 n1855 c1856 ys1857 A1851 n1852 c1853 r ∧ St [] W w' [.row A1854 n1855 c1856 2 1 (ints ys1857)] := by
  subst hn_p0_1
  subst hn_p1_1
  unfold spec_l03Grow_rec at hm
  refine Calls.enter (N := 86) Try.func157 rfl rfl rfl (fun a hf => ?_)
  have hs := St.start W
  obtain ⟨w, hw_⟩ : ∃ w, w = W := ⟨W, rfl⟩
  clear hw_ w
  refine wpL_seq ?_
  refine wpL_region ?_
  refine sY hf hs rfl rfl rfl (Y_assign rfl rfl) ?_; clear hf; intro a hf
  refine wpO_nil ?_
  refine wpL_seq ?_
  refine wpL_draw (by kernel_rfl) (by kernel_rfl) hs ?_
  refine qY hf rfl rfl rfl (Y_move rfl rfl) ?_; clear hf; intro a hf
  obtain ⟨q1, hi2, hm⟩ := bind_some hm
  obtain ⟨hi2a, hi2b, hi2q⟩ := idx_some hi2
  refine qY hf rfl rfl rfl (Y_index rfl rfl rfl el28 ti2 (Rd.isAt (h_p1_1.at hs) (at1 (ints_at hi2q))) hi2a hi2b) ?_; clear hf; intro a hf
  refine qY hf rfl rfl rfl (Y_load_rd rfl rfl (fun w hs => h_p1_1.at hs) (at1 (ints_at hi2q)) ag2) ?_; clear hf; intro a hf
  refine qY hf rfl rfl rfl (Y_move rfl rfl) ?_; clear hf; intro a hf
  refine qY hf rfl rfl rfl (Y_move rfl rfl) ?_; clear hf; intro a hf
  refine qY hf rfl rfl rfl (Y_lenH rfl rfl el28 rfl) ?_; clear hf; intro a hf
  refine qY hf rfl rfl rfl (Y_sub rfl rfl rfl) ?_; clear hf; intro a hf
  obtain ⟨q3, hi4, hm⟩ := bind_some hm
  obtain ⟨hi4a, hi4b, hi4q⟩ := idx_some hi4
  refine qY hf rfl rfl rfl (Y_index rfl rfl rfl el28 ti2 (Rd.isAt (h_p1_1.at hs) (at1 (ints_at hi4q))) hi4a hi4b) ?_; clear hf; intro a hf
  refine qY hf rfl rfl rfl (Y_load_rd rfl rfl (fun w hs => h_p1_1.at hs) (at1 (ints_at hi4q)) ag2) ?_; clear hf; intro a hf
  refine qY hf rfl rfl rfl (Y_assign rfl rfl) ?_; clear hf; intro a hf
  refine qY hf rfl rfl rfl (Y_assign rfl rfl) ?_; clear hf; intro a hf
  refine qNil ?_; clear hs; intro w hs
  refine wpL_seq ?_
  refine wpL_seq ?_
  obtain ⟨r29, hj30, hm⟩ := bind_some hm
  refine wpL_cut (fun a w => ∃ b28 : Bool, b28 = r29 ∧ Fr a 86 [(0, .slice A_p0_1 p0.length c_p0_1), (1, .slice A_p1_1 p1.length c_p1_1), (2, .int .i64 p2), (3, .int .i64 p3), (9, .int .i64 q1), (10, .int .i64 q3), (42, .bool b28)] ∧ St [] W w []) ?_ ?_
  · refine wpL_region ?_
    refine sY hf hs rfl rfl rfl (Y_move rfl rfl) ?_; clear hf; intro a hf
    refine sY hf hs rfl rfl rfl (Y_move rfl rfl) ?_; clear hf; intro a hf
    obtain ⟨q31, hi32, hj30⟩ := bind_some hj30
    obtain ⟨hi32a, hi32b, hi32q⟩ := idx_some hi32
    obtain ⟨vs33, hv34, hr35⟩ := id h_p0_1
    obtain ⟨A36, c37, hv38, hR39⟩ := hr35 _ _ hi32q
    refine sY hf hs rfl rfl rfl (Y_index rfl rfl rfl el40 ti28 (Rd.isAt hv34 hv38) hi32a hi32b) ?_; clear hf; intro a hf
    refine sY hf hs rfl rfl rfl (Y_load_rd rfl rfl (fun w hs => hv34.at hs) (at1 hv38) ag28) ?_; clear hf; intro a hf
    refine sY hf hs rfl rfl rfl (Y_move rfl rfl) ?_; clear hf; intro a hf
    obtain ⟨q40, hi41, hj30⟩ := bind_some hj30
    obtain ⟨hi41a, hi41b, hi41q⟩ := idx_some hi41
    refine sY hf hs rfl rfl rfl (Y_index rfl rfl rfl el28 ti2 (Rd.isAt (hR39.at hs) (at1 (ints_at hi41q))) hi41a hi41b) ?_; clear hf; intro a hf
    refine sY hf hs rfl rfl rfl (Y_load_rd rfl rfl (fun w hs => hR39.at hs) (at1 (ints_at hi41q)) ag2) ?_; clear hf; intro a hf
    refine sY hf hs rfl rfl rfl (Y_neq rfl rfl rfl) ?_; clear hf; intro a hf
    refine sY hf hs rfl rfl rfl (Y_move rfl rfl) ?_; clear hf; intro a hf
    refine bsplit (q40 != (-1000000000000000)) (fun hb42 => ?_) (fun hb42 => ?_)
    · have hj30 := bif_t hj30 hb42
      refine sYg hf hs rfl rfl rfl (congrArg (fun b => some (Value.bool b)) hb42) rfl rfl rfl (Y_move rfl rfl) ?_; clear hf; intro a hf
      refine sYg hf hs rfl rfl rfl (congrArg (fun b => some (Value.bool b)) hb42) rfl rfl rfl (Y_move rfl rfl) ?_; clear hf; intro a hf
      refine sYg hf hs rfl rfl rfl (congrArg (fun b => some (Value.bool b)) hb42) rfl rfl rfl (Y_move rfl rfl) ?_; clear hf; intro a hf
      obtain ⟨q43, hi44, hj30⟩ := bind_some hj30
      obtain ⟨hi44a, hi44b, hi44q⟩ := idx_some hi44
      obtain ⟨vs45, hv46, hr47⟩ := id h_p0_1
      obtain ⟨A48, c49, hv50, hR51⟩ := hr47 _ _ hi44q
      refine sYg hf hs rfl rfl rfl (congrArg (fun b => some (Value.bool b)) hb42) rfl rfl rfl (Y_index rfl rfl rfl el40 ti28 (Rd.isAt hv46 hv50) hi44a hi44b) ?_; clear hf; intro a hf
      refine sYg hf hs rfl rfl rfl (congrArg (fun b => some (Value.bool b)) hb42) rfl rfl rfl (Y_load_rd rfl rfl (fun w hs => hv46.at hs) (at1 hv50) ag28) ?_; clear hf; intro a hf
      refine sYg hf hs rfl rfl rfl (congrArg (fun b => some (Value.bool b)) hb42) rfl rfl rfl (Y_move rfl rfl) ?_; clear hf; intro a hf
      obtain ⟨q52, hi53, hj30⟩ := bind_some hj30
      obtain ⟨hi53a, hi53b, hi53q⟩ := idx_some hi53
      refine sYg hf hs rfl rfl rfl (congrArg (fun b => some (Value.bool b)) hb42) rfl rfl rfl (Y_index rfl rfl rfl el28 ti2 (Rd.isAt (hR51.at hs) (at1 (ints_at hi53q))) hi53a hi53b) ?_; clear hf; intro a hf
      refine sYg hf hs rfl rfl rfl (congrArg (fun b => some (Value.bool b)) hb42) rfl rfl rfl (Y_load_rd rfl rfl (fun w hs => hR51.at hs) (at1 (ints_at hi53q)) ag2) ?_; clear hf; intro a hf
      refine sYg hf hs rfl rfl rfl (congrArg (fun b => some (Value.bool b)) hb42) rfl rfl rfl (Y_add rfl rfl rfl) ?_; clear hf; intro a hf
      refine sYg hf hs rfl rfl rfl (congrArg (fun b => some (Value.bool b)) hb42) rfl rfl rfl (Y_move rfl rfl) ?_; clear hf; intro a hf
      refine sYg hf hs rfl rfl rfl (congrArg (fun b => some (Value.bool b)) hb42) rfl rfl rfl (Y_gtr rfl rfl rfl) ?_; clear hf; intro a hf
      refine sY hf hs rfl rfl rfl (Y_pickT rfl (congrArg (fun b => some (Value.bool b)) hb42) rfl) ?_; clear hf; intro a hf
      refine wpO_nil ?_
      refine wpL_nil (then_normal ?_)
      exact ⟨(decide (p3 < (IntKind.i64.wrap (p2 + q52)))), Option.some.inj hj30, (FrD.pick (FrD.pick (FrD.pick (FrD.pick (FrD.pick (FrD.pick (FrD.pick hf.none hf rfl) hf rfl) hf rfl) hf rfl) hf rfl) hf rfl) hf rfl), hs⟩
    · have hj30 := bif_f hj30 hb42
      refine sNo hf rfl rfl rfl (congrArg (fun b => some (Value.bool b)) hb42) rfl rfl rfl ?_; clear hf; intro a hf
      refine sNo hf rfl rfl rfl (congrArg (fun b => some (Value.bool b)) hb42) rfl rfl rfl ?_; clear hf; intro a hf
      refine sNo hf rfl rfl rfl (congrArg (fun b => some (Value.bool b)) hb42) rfl rfl rfl ?_; clear hf; intro a hf
      refine sNo hf rfl rfl rfl (congrArg (fun b => some (Value.bool b)) hb42) rfl rfl rfl ?_; clear hf; intro a hf
      refine sNo hf rfl rfl rfl (congrArg (fun b => some (Value.bool b)) hb42) rfl rfl rfl ?_; clear hf; intro a hf
      refine sNo hf rfl rfl rfl (congrArg (fun b => some (Value.bool b)) hb42) rfl rfl rfl ?_; clear hf; intro a hf
      refine sNo hf rfl rfl rfl (congrArg (fun b => some (Value.bool b)) hb42) rfl rfl rfl ?_; clear hf; intro a hf
      refine sNo hf rfl rfl rfl (congrArg (fun b => some (Value.bool b)) hb42) rfl rfl rfl ?_; clear hf; intro a hf
      refine sNo hf rfl rfl rfl (congrArg (fun b => some (Value.bool b)) hb42) rfl rfl rfl ?_; clear hf; intro a hf
      refine sNo hf rfl rfl rfl (congrArg (fun b => some (Value.bool b)) hb42) rfl rfl rfl ?_; clear hf; intro a hf
      refine sNo hf rfl rfl rfl (congrArg (fun b => some (Value.bool b)) hb42) rfl rfl rfl ?_; clear hf; intro a hf
      refine sY hf hs rfl rfl rfl (Y_pickF rfl (congrArg (fun b => some (Value.bool b)) hb42) rfl) ?_; clear hf; intro a hf
      refine wpO_nil ?_
      refine wpL_nil (then_normal ?_)
      exact ⟨false, Option.some.inj hj30, (FrD.pick (FrD.pick (FrD.pick (FrD.pick (FrD.pick (FrD.pick (FrD.pick hf.none hf rfl) hf rfl) hf rfl) hf rfl) hf rfl) hf rfl) hf rfl), hs⟩
  · rintro a w ⟨b28, hr_, hf, hs⟩
    subst hr_
    try dsimp only at hm
    refine wpL_cond hf rfl (fun hb54 => ?_) (fun hb54 => ?_)
    · have hm := bif_t hm hb54
      refine wpL_seq ?_
      refine wpL_region ?_
      refine sY hf hs rfl rfl rfl (Y_move rfl rfl) ?_; clear hf; intro a hf
      refine sY hf hs rfl rfl rfl (Y_assign rfl rfl) ?_; clear hf; intro a hf
      refine wpO_nil ?_
      have hs : St [] W _ [.row none 0 0 2 1 (ints ([] : List Int))] := hs.addNil 2 1
      obtain rfl := Option.some.inj hm
      refine wpL_ret (ret_tmp rfl hf rfl ?_)
      exact ⟨_, rfl, A_p1_1, p1.length, c_p1_1, none, 0, 0, ([] : List Int), rfl, rfl, .inl ⟨rfl, rfl, rfl, rfl⟩, hs⟩
    · have hm := bif_f hm hb54
      refine wpL_skip ?_
      refine wpL_seq ?_
      refine wpL_seq ?_
      refine wpL_region ?_
      refine sY hf hs rfl rfl rfl (Y_move rfl rfl) ?_; clear hf; intro a hf
      refine sY hf hs rfl rfl rfl (Y_add rfl rfl rfl) ?_; clear hf; intro a hf
      refine sY hf hs rfl rfl rfl (Y_assign rfl rfl) ?_; clear hf; intro a hf
      refine wpO_nil ?_
      obtain ⟨r1399, hl1400, hm⟩ := bind_some hm
      refine wpL_block (fun a w => Sum.inr () = r1399 ∧ Fr a 86 [] ∧ St [] W w []) ?_ ?_
      · refine wpL_loop (fun n a w => ∃ x951 : Int, spec_l03Grow_L1 F p0 p1 p2 p3 q3 (spec_l03Grow_rec F k_) n x951 = some r1399 ∧ Fr a 86 [(0, .slice A_p0_1 p0.length c_p0_1), (1, .slice A_p1_1 p1.length c_p1_1), (2, .int .i64 p2), (3, .int .i64 p3), (10, .int .i64 q3), (11, .int .i64 x951)] ∧ St [] W w []) F ?_ ?_ ?_
        · exact ⟨(IntKind.i64.wrap (q1 + 1)), hl1400, (FrD.pick (FrD.pick (FrD.pick (FrD.pick (FrD.pick (FrD.pick hf.none hf rfl) hf rfl) hf rfl) hf rfl) hf rfl) hf rfl), hs⟩
        · rintro a w ⟨x951, h0_, -, -⟩; simp [spec_l03Grow_L1] at h0_
        · rintro n1402 a w ⟨x951, hm1401, hf, hs⟩
          rw [spec_l03Grow_L1] at hm1401
          refine wpL_seq ?_
          refine wpL_seq ?_
          refine wpL_region ?_
          refine sY hf hs rfl rfl rfl (Y_move rfl rfl) ?_; clear hf; intro a hf
          refine sY hf hs rfl rfl rfl (Y_move rfl rfl) ?_; clear hf; intro a hf
          refine sY hf hs rfl rfl rfl (Y_lenH rfl rfl el40 rfl) ?_; clear hf; intro a hf
          refine sY hf hs rfl rfl rfl (Y_lss rfl rfl rfl) ?_; clear hf; intro a hf
          refine wpO_nil ?_
          refine wpL_cond hf rfl (fun hb1403 => ?_) (fun hb1403 => ?_)
          · have hm1401 := bif_t hm1401 hb1403
            refine wpL_skip ?_
            refine wpL_seq ?_
            obtain ⟨r1626, hj1627, hm1401⟩ := bind_some hm1401
            refine wpL_block (fun a w => Sum.inr () = r1626 ∧ Fr a 86 [(0, .slice A_p0_1 p0.length c_p0_1), (1, .slice A_p1_1 p1.length c_p1_1), (2, .int .i64 p2), (3, .int .i64 p3), (10, .int .i64 q3), (11, .int .i64 x951)] ∧ St [] W w []) ?_ ?_
            · refine wpL_seq ?_
              refine wpL_seq ?_
              obtain ⟨r1643, hj1644, hj1627⟩ := bind_some hj1627
              refine wpL_cut (fun a w => ∃ b1642 : Bool, b1642 = r1643 ∧ Fr a 86 [(0, .slice A_p0_1 p0.length c_p0_1), (1, .slice A_p1_1 p1.length c_p1_1), (2, .int .i64 p2), (3, .int .i64 p3), (10, .int .i64 q3), (11, .int .i64 x951), (64, .bool b1642)] ∧ St [] W w []) ?_ ?_
              · refine wpL_region ?_
                refine sY hf hs rfl rfl rfl (Y_move rfl rfl) ?_; clear hf; intro a hf
                refine sY hf hs rfl rfl rfl (Y_move rfl rfl) ?_; clear hf; intro a hf
                obtain ⟨q1645, hi1646, hj1644⟩ := bind_some hj1644
                obtain ⟨hi1646a, hi1646b, hi1646q⟩ := idx_some hi1646
                obtain ⟨vs1647, hv1648, hr1649⟩ := id h_p0_1
                obtain ⟨A1650, c1651, hv1652, hR1653⟩ := hr1649 _ _ hi1646q
                refine sY hf hs rfl rfl rfl (Y_index rfl rfl rfl el40 ti28 (Rd.isAt hv1648 hv1652) hi1646a hi1646b) ?_; clear hf; intro a hf
                refine sY hf hs rfl rfl rfl (Y_load_rd rfl rfl (fun w hs => hv1648.at hs) (at1 hv1652) ag28) ?_; clear hf; intro a hf
                refine sY hf hs rfl rfl rfl (Y_move rfl rfl) ?_; clear hf; intro a hf
                obtain ⟨q1654, hi1655, hj1644⟩ := bind_some hj1644
                obtain ⟨hi1655a, hi1655b, hi1655q⟩ := idx_some hi1655
                refine sY hf hs rfl rfl rfl (Y_index rfl rfl rfl el28 ti2 (Rd.isAt (hR1653.at hs) (at1 (ints_at hi1655q))) hi1655a hi1655b) ?_; clear hf; intro a hf
                refine sY hf hs rfl rfl rfl (Y_load_rd rfl rfl (fun w hs => hR1653.at hs) (at1 (ints_at hi1655q)) ag2) ?_; clear hf; intro a hf
                refine sY hf hs rfl rfl rfl (Y_eql rfl rfl rfl) ?_; clear hf; intro a hf
                refine sY hf hs rfl rfl rfl (Y_move rfl rfl) ?_; clear hf; intro a hf
                refine bsplit (q1654 == (-1000000000000000)) (fun hb1656 => ?_) (fun hb1656 => ?_)
                · have hj1644 := bif_t hj1644 hb1656
                  refine sNo hf rfl rfl rfl (congrArg (fun b => some (Value.bool b)) hb1656) rfl rfl rfl ?_; clear hf; intro a hf
                  refine sNo hf rfl rfl rfl (congrArg (fun b => some (Value.bool b)) hb1656) rfl rfl rfl ?_; clear hf; intro a hf
                  refine sNo hf rfl rfl rfl (congrArg (fun b => some (Value.bool b)) hb1656) rfl rfl rfl ?_; clear hf; intro a hf
                  refine sY hf hs rfl rfl rfl (Y_pickT rfl (congrArg (fun b => some (Value.bool b)) hb1656) rfl) ?_; clear hf; intro a hf
                  refine wpO_nil ?_
                  refine wpL_nil (then_normal ?_)
                  exact ⟨true, Option.some.inj hj1644, (FrD.pick (FrD.pick (FrD.pick (FrD.pick (FrD.pick (FrD.pick (FrD.pick hf.none hf rfl) hf rfl) hf rfl) hf rfl) hf rfl) hf rfl) hf rfl), hs⟩
                · have hj1644 := bif_f hj1644 hb1656
                  refine sYg hf hs rfl rfl rfl (congrArg (fun b => some (Value.bool b)) hb1656) rfl rfl rfl (Y_move rfl rfl) ?_; clear hf; intro a hf
                  refine sYg hf hs rfl rfl rfl (congrArg (fun b => some (Value.bool b)) hb1656) rfl rfl rfl (Y_move rfl rfl) ?_; clear hf; intro a hf
                  obtain ⟨r1657, hc1658, hj1644⟩ := bind_some hj1644
                  refine sCallg hf rfl rfl rfl (congrArg (fun b => some (Value.bool b)) hb1656) rfl rfl rfl rfl (cap := []) rfl rfl en166 (spec_l01Has_ok F p1 A_p1_1 p1.length c_p1_1 rfl x951 _ _ hc1658 (h_p1_1.at hs)) ?_; clear hf
                  rintro _ w ⟨rfl, hs1⟩ a hf
                  have hs : St [] W w [] := hs.ext hs1.below
                  clear hs1
                  refine sY hf hs rfl rfl rfl (Y_pickF rfl (congrArg (fun b => some (Value.bool b)) hb1656) rfl) ?_; clear hf; intro a hf
                  refine wpO_nil ?_
                  refine wpL_nil (then_normal ?_)
                  exact ⟨r1657, Option.some.inj hj1644, (FrD.pick (FrD.pick (FrD.pick (FrD.pick (FrD.pick (FrD.pick (FrD.pick hf.none hf rfl) hf rfl) hf rfl) hf rfl) hf rfl) hf rfl) hf rfl), hs⟩
              · rintro a w ⟨b1642, hr_, hf, hs⟩
                subst hr_
                try dsimp only at hj1627
                refine wpL_cond hf rfl (fun hb1659 => ?_) (fun hb1659 => ?_)
                · have hj1627 := bif_t hj1627 hb1659
                  refine wpL_exit (Qb_exit ?_)
                  exact ⟨Option.some.inj hj1627, (FrD.pick (FrD.pick (FrD.pick (FrD.pick (FrD.pick (FrD.pick hf.none hf rfl) hf rfl) hf rfl) hf rfl) hf rfl) hf rfl), hs⟩
                · have hj1627 := bif_f hj1627 hb1659
                  refine wpL_skip ?_
                  refine wpL_seq ?_
                  obtain ⟨r1756, hj1757, hj1627⟩ := bind_some hj1627
                  refine wpL_cut (fun a w => ∃ xs1751 : List Int, ∃ A1752, ∃ n1753, ∃ c1754, xs1751 = r1756 ∧ n1753 = xs1751.length ∧ Fr a 86 [(0, .slice A_p0_1 p0.length c_p0_1), (1, .slice A_p1_1 p1.length c_p1_1), (2, .int .i64 p2), (3, .int .i64 p3), (10, .int .i64 q3), (11, .int .i64 x951), (12, .slice A1752 n1753 c1754)] ∧ St [] W w [.row A1752 n1753 c1754 2 1 (ints xs1751)]) ?_ ?_
                  · refine wpL_drawM [] [16] (by kernel_rfl) hs ?_; clear hs; intro w hs
                    have hs0 : St [] W w [] := hs
                    refine mYp (i := 0) rfl (by kernel_rfl) (by kernel_rfl) hf rfl rfl rfl (fun _ => Y_move rfl rfl) ?_; clear hf; intro a hf
                    refine mYp (i := 1) rfl (by kernel_rfl) (by kernel_rfl) hf rfl rfl rfl (fun _ => Y_move rfl rfl) ?_; clear hf; intro a hf
                    refine mYp (i := 3) rfl (by kernel_rfl) (by kernel_rfl) hf rfl rfl rfl (fun _ => Y_move rfl rfl) ?_; clear hf; intro a hf
                    refine mYp (i := 6) rfl (by kernel_rfl) (by kernel_rfl) hf rfl rfl rfl (fun _ => Y_move rfl rfl) ?_; clear hf; intro a hf
                    refine mYp (i := 7) rfl (by kernel_rfl) (by kernel_rfl) hf rfl rfl rfl (fun _ => Y_move rfl rfl) ?_; clear hf; intro a hf
                    refine mYp (i := 8) rfl (by kernel_rfl) (by kernel_rfl) hf rfl rfl rfl (fun _ => Y_move rfl rfl) ?_; clear hf; intro a hf
                    obtain ⟨q1792, hi1793, hj1757⟩ := bind_some hj1757
                    obtain ⟨hi1793a, hi1793b, hi1793q⟩ := idx_some hi1793
                    obtain ⟨vs1794, hv1795, hr1796⟩ := id h_p0_1
                    obtain ⟨A1797, c1798, hv1799, hR1800⟩ := hr1796 _ _ hi1793q
                    refine mYp (i := 9) rfl (by kernel_rfl) (by kernel_rfl) hf rfl rfl rfl (fun _ => Y_index rfl rfl rfl el40 ti28 (Rd.isAt hv1795 hv1799) hi1793a hi1793b) ?_; clear hf; intro a hf
                    refine mY (i := 10) [[12, 13, 14]] rfl (by kernel_rfl) (by kernel_rfl) hf hs0 rfl rfl rfl (Y_load_rd rfl rfl (fun w hs => hv1795.at hs) (at1 hv1799) ag28) ?_; clear hf; intro a hf
                    refine mYp (i := 11) rfl (by kernel_rfl) (by kernel_rfl) hf rfl rfl rfl (fun _ => Y_move rfl rfl) ?_; clear hf; intro a hf
                    obtain ⟨q1801, hi1802, hj1757⟩ := bind_some hj1757
                    obtain ⟨hi1802a, hi1802b, hi1802q⟩ := idx_some hi1802
                    refine mYp (i := 12) rfl (by kernel_rfl) (by kernel_rfl) hf rfl rfl rfl (fun _ => Y_index rfl rfl rfl el28 ti2 (Rd.isAt (hR1800.at hs) (at1 (ints_at hi1802q))) hi1802a hi1802b) ?_; clear hf; intro a hf
                    refine mY (i := 13) [[14]] rfl (by kernel_rfl) (by kernel_rfl) hf hs0 rfl rfl rfl (Y_load_rd rfl rfl (fun w hs => hR1800.at hs) (at1 (ints_at hi1802q)) ag2) ?_; clear hf; intro a hf
                    refine mYp (i := 14) rfl (by kernel_rfl) (by kernel_rfl) hf rfl rfl rfl (fun _ => Y_add rfl rfl rfl) ?_; clear hf; intro a hf
                    refine mYp (i := 15) rfl (by kernel_rfl) (by kernel_rfl) hf rfl rfl rfl (fun _ => Y_move rfl rfl) ?_; clear hf; intro a hf
                    refine mRun2 (i := 2) (j := 4) rfl rfl (by kernel_rfl) ?_ ?_
                    · obtain ⟨r1803, hc1804, hj1757⟩ := bind_some hj1757
                      refine sCall hf rfl rfl rfl rfl (cap := []) rfl rfl en114 (spec_l01Own_ok F p1 A_p1_1 p1.length c_p1_1 rfl _ _ hc1804 (h_p1_1.at hs)) ?_; clear hf
                      rintro _ w ⟨A1805, n1806, c1807, rfl, hn1808, hs1⟩ a hf
                      have hs : St [] W w [.row A1805 n1806 c1807 2 1 (ints r1803)] := hs.join hs1
                      clear hs1
                      have hs0 : St [] W w [] := hs.sel [] (by decide)
                      refine wpO_nil ⟨Or.inr (fun _ => hs0), ?_⟩
                      refine mRun (i := 4) rfl (by kernel_rfl) ?_
                      refine sBuildSlice (parts := [(0, .tmp 68)]) (vs := [.int .i64 x951]) (cells := [.int .i64 x951]) hf hs rfl rfl rfl rfl rfl el28 ti2 rfl rfl rfl rfl ?_; clear hf hs; intro a w A1809 hs hA1810 hf
                      have hs : St [] W w [.row A1805 n1806 c1807 2 1 (ints r1803), .row A1809 1 1 2 1 (ints ([x951]))] := hs
                      have hs0 : St [] W w [] := hs.sel [] (by decide)
                      refine wpO_nil ⟨Or.inr (fun _ => hs0), ?_⟩
                      refine mRun (i := 5) rfl (by kernel_rfl) ?_
                      obtain ⟨xs1813, ha1814, hj1757⟩ := bind_some hj1757
                      refine sAppendL (i := 0) (xs := r1803) (ys := [x951]) (enc := ints) hf hs rfl rfl rfl rfl rfl rfl hn1808 rfl rfl ha1814 el28 ti2 rfl rfl rfl (hs.rd (i := 1) rfl) (Nat.succ_pos _) ints_len1 ints_append ints_one ?_; clear hf hs; intro a w A1811 c1812 hs hf
                      have hs : St [] W w [.row A1811 xs1813.length c1812 2 1 (ints xs1813), .row A1809 1 1 2 1 (ints ([x951]))] := hs
                      have hs0 : St [] W w [] := hs.sel [] (by decide)
                      refine wpO_nil ⟨Or.inr (fun _ => hs0), ?_⟩
                      refine mRun (i := 16) rfl (by kernel_rfl) ?_
                      obtain ⟨r1815, hc1816, hj1757⟩ := bind_some hj1757
                      refine sCall hf rfl rfl rfl rfl (cap := []) rfl rfl en157 (ih_ p0 A_p0_1 p0.length c_p0_1 rfl xs1813 A1811 xs1813.length c1812 rfl (IntKind.i64.wrap (p2 + q1801)) p3 _ _ hc1816 (h_p0_1.at hs) (hs.rd (i := 0) rfl)) ?_; clear hf
                      rintro _ w ⟨A1817, n1818, c1819, A1820, n1821, c1822, ys1823, rfl, hn1824, he1825, hs1⟩ a hf
                      have hs : St [] W w [.row A1811 xs1813.length c1812 2 1 (ints xs1813), .row A1809 1 1 2 1 (ints ([x951])), .row A1820 n1821 c1822 2 1 (ints ys1823)] := hs.join hs1
                      clear hs1
                      have hs := hs.eiOwn (i := 0) (j := 2) (enc := ints) rfl rfl (by decide) he1825
                      have hs : St [] W w [.row A1817 n1818 c1819 2 1 (ints r1815), .row A1809 1 1 2 1 (ints ([x951]))] := hs
                      refine wpO_nil ⟨Or.inl (by decide), ?_⟩
                      refine mYp (i := 17) rfl (by kernel_rfl) (by kernel_rfl) hf rfl rfl rfl (fun _ => Y_assign rfl rfl) ?_; clear hf; intro a hf
                      refine mDone (by kernel_rfl) ?_
                      clear hs0
                      refine wpL_nil (then_normal ?_)
                      exact ⟨r1815, A1817, n1818, c1819, Option.some.inj hj1757, hn1824, (FrD.pick (FrD.pick (FrD.pick (FrD.pick (FrD.pick (FrD.pick (FrD.pick hf.none hf rfl) hf rfl) hf rfl) hf rfl) hf rfl) hf rfl) hf rfl), hs.sel [0] (by decide)⟩
                    · refine sBuildSlice (parts := [(0, .tmp 68)]) (vs := [.int .i64 x951]) (cells := [.int .i64 x951]) hf hs rfl rfl rfl rfl rfl el28 ti2 rfl rfl rfl rfl ?_; clear hf hs; intro a w A1826 hs hA1827 hf
                      have hs : St [] W w [.row A1826 1 1 2 1 (ints ([x951]))] := hs
                      have hs0 : St [] W w [] := hs.sel [] (by decide)
                      refine wpO_nil ⟨Or.inr (fun _ => hs0), ?_⟩
                      refine mRun (i := 2) rfl (by kernel_rfl) ?_
                      obtain ⟨r1828, hc1829, hj1757⟩ := bind_some hj1757
                      refine sCall hf rfl rfl rfl rfl (cap := []) rfl rfl en114 (spec_l01Own_ok F p1 A_p1_1 p1.length c_p1_1 rfl _ _ hc1829 (h_p1_1.at hs)) ?_; clear hf
                      rintro _ w ⟨A1830, n1831, c1832, rfl, hn1833, hs1⟩ a hf
                      have hs : St [] W w [.row A1826 1 1 2 1 (ints ([x951])), .row A1830 n1831 c1832 2 1 (ints r1828)] := hs.join hs1
                      clear hs1
                      have hs0 : St [] W w [] := hs.sel [] (by decide)
                      refine wpO_nil ⟨Or.inr (fun _ => hs0), ?_⟩
                      refine mRun (i := 5) rfl (by kernel_rfl) ?_
                      obtain ⟨xs1836, ha1837, hj1757⟩ := bind_some hj1757
                      refine sAppendL (i := 1) (xs := r1828) (ys := [x951]) (enc := ints) hf hs rfl rfl rfl rfl rfl rfl hn1833 rfl rfl ha1837 el28 ti2 rfl rfl rfl (hs.rd (i := 0) rfl) (Nat.succ_pos _) ints_len1 ints_append ints_one ?_; clear hf hs; intro a w A1834 c1835 hs hf
                      have hs : St [] W w [.row A1826 1 1 2 1 (ints ([x951])), .row A1834 xs1836.length c1835 2 1 (ints xs1836)] := hs
                      have hs0 : St [] W w [] := hs.sel [] (by decide)
                      refine wpO_nil ⟨Or.inr (fun _ => hs0), ?_⟩
                      refine mRun (i := 16) rfl (by kernel_rfl) ?_
                      obtain ⟨r1838, hc1839, hj1757⟩ := bind_some hj1757
                      refine sCall hf rfl rfl rfl rfl (cap := []) rfl rfl en157 (ih_ p0 A_p0_1 p0.length c_p0_1 rfl xs1836 A1834 xs1836.length c1835 rfl (IntKind.i64.wrap (p2 + q1801)) p3 _ _ hc1839 (h_p0_1.at hs) (hs.rd (i := 1) rfl)) ?_; clear hf
                      rintro _ w ⟨A1840, n1841, c1842, A1843, n1844, c1845, ys1846, rfl, hn1847, he1848, hs1⟩ a hf
                      have hs : St [] W w [.row A1826 1 1 2 1 (ints ([x951])), .row A1834 xs1836.length c1835 2 1 (ints xs1836), .row A1843 n1844 c1845 2 1 (ints ys1846)] := hs.join hs1
                      clear hs1
                      have hs := hs.eiOwn (i := 1) (j := 2) (enc := ints) rfl rfl (by decide) he1848
                      have hs : St [] W w [.row A1826 1 1 2 1 (ints ([x951])), .row A1840 n1841 c1842 2 1 (ints r1838)] := hs
                      refine wpO_nil ⟨Or.inl (by decide), ?_⟩
                      refine mYp (i := 17) rfl (by kernel_rfl) (by kernel_rfl) hf rfl rfl rfl (fun _ => Y_assign rfl rfl) ?_; clear hf; intro a hf
                      refine mDone (by kernel_rfl) ?_
                      clear hs0
                      refine wpL_nil (then_normal ?_)
                      exact ⟨r1838, A1840, n1841, c1842, Option.some.inj hj1757, hn1847, (FrD.pick (FrD.pick (FrD.pick (FrD.pick (FrD.pick (FrD.pick (FrD.pick hf.none hf rfl) hf rfl) hf rfl) hf rfl) hf rfl) hf rfl) hf rfl), hs.sel [1] (by decide)⟩
                  · rintro a w ⟨xs1751, A1752, n1753, c1754, hr_, hn1755, hf, hs⟩
                    subst hr_
                    try dsimp only at hj1627
                    refine wpL_seq ?_
                    refine wpL_region ?_
                    refine sY hf hs rfl rfl rfl (Y_move rfl rfl) ?_; clear hf; intro a hf
                    refine sY hf hs rfl rfl rfl (Y_lenH rfl rfl el28 hn1755) ?_; clear hf; intro a hf
                    refine sY hf hs rfl rfl rfl (Y_gtr rfl rfl rfl) ?_; clear hf; intro a hf
                    refine wpO_nil ?_
                    refine wpL_cond hf rfl (fun hb1849 => ?_) (fun hb1849 => ?_)
                    · have hj1627 := bif_t hj1627 hb1849
                      refine wpL_seq ?_
                      refine wpL_region ?_
                      refine sY hf hs rfl rfl rfl (Y_move rfl rfl) ?_; clear hf; intro a hf
                      refine sY hf hs rfl rfl rfl (Y_assign rfl rfl) ?_; clear hf; intro a hf
                      refine wpO_nil ?_
                      obtain rfl := Option.some.inj hj1627
                      try dsimp only at hm1401
                      obtain rfl := Option.some.inj hm1401
                      try dsimp only at hm
                      obtain rfl := Option.some.inj hm
                      refine wpL_ret (Qb_ret (Ql_ret (Qb_ret (ret_tmp rfl hf rfl ?_))))
                      exact ⟨_, rfl, A1752, n1753, c1754, A1752, n1753, c1754, xs1751, rfl, hn1755, .inr ⟨rfl, rfl, rfl, rfl⟩, hs⟩
                    · have hj1627 := bif_f hj1627 hb1849
                      refine wpL_skip ?_
                      refine wpL_nil (Qb_normal ?_)
                      exact ⟨Option.some.inj hj1627, (FrD.pick (FrD.pick (FrD.pick (FrD.pick (FrD.pick (FrD.pick hf.none hf rfl) hf rfl) hf rfl) hf rfl) hf rfl) hf rfl), hs.sel [] (by decide)⟩
            · rintro a w ⟨hr_, hf, hs⟩
              subst hr_
              try dsimp only at hm1401
              refine wpL_region ?_
              refine sY hf hs rfl rfl rfl (Y_move rfl rfl) ?_; clear hf; intro a hf
              refine sY hf hs rfl rfl rfl (Y_add rfl rfl rfl) ?_; clear hf; intro a hf
              refine sY hf hs rfl rfl rfl (Y_assign rfl rfl) ?_; clear hf; intro a hf
              refine wpO_nil ?_
              refine wpL_nil (Ql_normal ?_)
              exact ⟨(IntKind.i64.wrap (x951 + 1)), hm1401, (FrD.pick (FrD.pick (FrD.pick (FrD.pick (FrD.pick (FrD.pick hf.none hf rfl) hf rfl) hf rfl) hf rfl) hf rfl) hf rfl), hs⟩
          · have hm1401 := bif_f hm1401 hb1403
            refine wpL_exit (Ql_exit (Qb_exit ?_))
            exact ⟨Option.some.inj hm1401, hf.none, hs⟩
      · rintro a w ⟨hr_, hf, hs⟩
        subst hr_
        try dsimp only at hm
        refine wpL_seq ?_
        refine wpL_region ?_
        refine sY hf hs rfl rfl rfl (Y_assign rfl rfl) ?_; clear hf; intro a hf
        refine wpO_nil ?_
        have hs : St [] W _ [.row none 0 0 2 1 (ints ([] : List Int))] := hs.addNil 2 1
        obtain rfl := Option.some.inj hm
        refine wpL_ret (ret_tmp rfl hf rfl ?_)
        exact ⟨_, rfl, none, 0, 0, none, 0, 0, ([] : List Int), rfl, rfl, .inr ⟨rfl, rfl, rfl, rfl⟩, hs⟩
theorem spec_l03Grow_rec_ok (F : Nat) : ∀ (k_ : Nat) (p0 : List (List Int)) (A_p0_1 : Option Addr) (n_p0_1 c_p0_1 : Nat) (_hn_p0_1 : n_p0_1 = p0.length) (p1 : List Int) (A_p1_1 : Option Addr) (n_p1_1 c_p1_1 : Nat) (_hn_p1_1 : n_p1_1 = p1.length) (p2 : Int) (p3 : Int) (r : List Int) (W : World) (_hm : spec_l03Grow_rec F k_ p0 p1 p2 p3 = some r) (_h_p0_1 : RdM W A_p0_1 p0) (_h_p1_1 : Rd W A_p1_1 (ints p1)), Calls Try.prog 157 [.slice A_p0_1 n_p0_1 c_p0_1, .slice A_p1_1 n_p1_1 c_p1_1, .int .i64 p2, .int .i64 p3].toArray W fun e w' => ∃ v, e = .returned v ∧ ∃ A1851, ∃ n1852, ∃ c1853, ∃ A1854, ∃ n1855, ∃ c1856, ∃ ys1857, v = .slice A1851 n1852 c1853 ∧ n1852 = r.length ∧ Ei A_p1_1 n_p1_1 c_p1_1 p1 A1854 n1855 c1856 ys1857 A1851 n1852 c1853 r ∧ St [] W w' [.row A1854 n1855 c1856 2 1 (ints ys1857)]
  | 0 => by intros; simp [spec_l03Grow_rec] at *
  | k_ + 1 => spec_l03Grow_step F k_ (spec_l03Grow_rec_ok F k_)
theorem spec_l03Grow_ok (F : Nat) : ∀ (p0 : List (List Int)) (A_p0_1 : Option Addr) (n_p0_1 c_p0_1 : Nat) (_hn_p0_1 : n_p0_1 = p0.length) (p1 : List Int) (A_p1_1 : Option Addr) (n_p1_1 c_p1_1 : Nat) (_hn_p1_1 : n_p1_1 = p1.length) (p2 : Int) (p3 : Int) (r : List Int) (W : World) (_hm : spec_l03Grow F p0 p1 p2 p3 = some r) (_h_p0_1 : RdM W A_p0_1 p0) (_h_p1_1 : Rd W A_p1_1 (ints p1)), Calls Try.prog 157 [.slice A_p0_1 n_p0_1 c_p0_1, .slice A_p1_1 n_p1_1 c_p1_1, .int .i64 p2, .int .i64 p3].toArray W fun e w' => ∃ v, e = .returned v ∧ ∃ A1851, ∃ n1852, ∃ c1853, ∃ A1854, ∃ n1855, ∃ c1856, ∃ ys1857, v = .slice A1851 n1852 c1853 ∧ n1852 = r.length ∧ Ei A_p1_1 n_p1_1 c_p1_1 p1 A1854 n1855 c1856 ys1857 A1851 n1852 c1853 r ∧ St [] W w' [.row A1854 n1855 c1856 2 1 (ints ys1857)] := spec_l03Grow_rec_ok F F

set_option maxRecDepth 100000 in
theorem spec_l03Over_ok (F : Nat) (p0_a : List (List Int)) (A_p0_a_1 : Option Addr) (n_p0_a_1 c_p0_a_1 : Nat) (hn_p0_a_1 : n_p0_a_1 = p0_a.length) (p1_over : Int) (r : List Int) (W : World) (hm : spec_l03Over F p0_a p1_over = some r) (h_p0_a_1 : RdM W A_p0_a_1 p0_a) :
    Calls Try.prog 89 [.slice A_p0_a_1 n_p0_a_1 c_p0_a_1, .int .i64 p1_over].toArray W fun e w' => ∃ v, e = .returned v ∧ ∃ A68, ∃ n69, ∃ c70, v = .slice A68 n69 c70 ∧ n69 = r.length ∧ St [] W w' [.row A68 n69 c70 2 1 (ints r)] := by
  subst hn_p0_a_1
  unfold spec_l03Over at hm
  refine Calls.enter (N := 22) Try.func89 rfl rfl rfl (fun a hf => ?_)
  have hs := St.start W
  obtain ⟨w, hw_⟩ : ∃ w, w = W := ⟨W, rfl⟩
  clear hw_ w
  refine wpL_seq ?_
  refine wpL_region ?_
  refine sY hf hs rfl rfl rfl (Y_assign rfl rfl) ?_; clear hf; intro a hf
  refine wpO_nil ?_
  refine wpL_seq ?_
  refine wpL_seq ?_
  refine wpL_region ?_
  refine sY hf hs rfl rfl rfl (Y_assign rfl rfl) ?_; clear hf; intro a hf
  refine wpO_nil ?_
  obtain ⟨r48, hl49, hm⟩ := bind_some hm
  refine wpL_block (fun a w => Sum.inr () = r48 ∧ Fr a 22 [] ∧ St [] W w []) ?_ ?_
  · refine wpL_loop (fun n a w => ∃ x32 : Int, spec_l03Over_L1 F p0_a p1_over n x32 = some r48 ∧ Fr a 22 [(0, .slice A_p0_a_1 p0_a.length c_p0_a_1), (1, .int .i64 p1_over), (5, .int .i64 x32)] ∧ St [] W w []) F ?_ ?_ ?_
    · exact ⟨0, hl49, (FrD.pick (FrD.pick (FrD.pick hf.none hf rfl) hf rfl) hf rfl), hs⟩
    · rintro a w ⟨x32, h0_, -, -⟩; simp [spec_l03Over_L1] at h0_
    · rintro n51 a w ⟨x32, hm50, hf, hs⟩
      rw [spec_l03Over_L1] at hm50
      refine wpL_seq ?_
      refine wpL_seq ?_
      refine wpL_region ?_
      refine sY hf hs rfl rfl rfl (Y_move rfl rfl) ?_; clear hf; intro a hf
      refine sY hf hs rfl rfl rfl (Y_move rfl rfl) ?_; clear hf; intro a hf
      refine sY hf hs rfl rfl rfl (Y_lenH rfl rfl el40 rfl) ?_; clear hf; intro a hf
      refine sY hf hs rfl rfl rfl (Y_lss rfl rfl rfl) ?_; clear hf; intro a hf
      refine wpO_nil ?_
      refine wpL_cond hf rfl (fun hb52 => ?_) (fun hb52 => ?_)
      · have hm50 := bif_t hm50 hb52
        refine wpL_skip ?_
        refine wpL_seq ?_
        refine wpL_block0 ?_
        refine wpL_seq ?_
        refine wpL_region ?_
        refine sY hf hs rfl rfl rfl (Y_move rfl rfl) ?_; clear hf; intro a hf
        refine sY hf hs rfl rfl rfl (Y_move rfl rfl) ?_; clear hf; intro a hf
        refine sBuildSlice (parts := [(0, .tmp 14)]) (vs := [.int .i64 x32]) (cells := [.int .i64 x32]) hf hs rfl rfl rfl rfl rfl el28 ti2 rfl rfl rfl rfl ?_; clear hf hs; intro a w A53 hs hA54 hf
        have hs : St [] W w [.row A53 1 1 2 1 (ints ([x32]))] := hs
        refine sY hf hs rfl rfl rfl (Y_move rfl rfl) ?_; clear hf; intro a hf
        obtain ⟨r55, hc56, hm50⟩ := bind_some hm50
        refine sCall hf rfl rfl rfl rfl (cap := []) rfl rfl en157 (spec_l03Grow_ok F p0_a A_p0_a_1 p0_a.length c_p0_a_1 rfl ([x32]) A53 1 1 rfl 0 p1_over _ _ hc56 (h_p0_a_1.at hs) (hs.rd (i := 0) rfl)) ?_; clear hf
        rintro _ w ⟨A57, n58, c59, A60, n61, c62, ys63, rfl, hn64, he65, hs1⟩ a hf
        have hs : St [] W w [.row A53 1 1 2 1 (ints ([x32])), .row A60 n61 c62 2 1 (ints ys63)] := hs.join hs1
        clear hs1
        have hs := hs.eiOwn (i := 0) (j := 1) (enc := ints) rfl rfl (by decide) he65
        have hs : St [] W w [.row A57 n58 c59 2 1 (ints r55)] := hs
        refine sY hf hs rfl rfl rfl (Y_assign rfl rfl) ?_; clear hf; intro a hf
        refine wpO_nil ?_
        refine wpL_seq ?_
        refine wpL_region ?_
        refine sY hf hs rfl rfl rfl (Y_move rfl rfl) ?_; clear hf; intro a hf
        refine sY hf hs rfl rfl rfl (Y_lenH rfl rfl el28 hn64) ?_; clear hf; intro a hf
        refine sY hf hs rfl rfl rfl (Y_gtr rfl rfl rfl) ?_; clear hf; intro a hf
        refine wpO_nil ?_
        refine wpL_cond hf rfl (fun hb66 => ?_) (fun hb66 => ?_)
        · have hm50 := bif_t hm50 hb66
          refine wpL_seq ?_
          refine wpL_region ?_
          refine sY hf hs rfl rfl rfl (Y_move rfl rfl) ?_; clear hf; intro a hf
          refine sY hf hs rfl rfl rfl (Y_assign rfl rfl) ?_; clear hf; intro a hf
          refine wpO_nil ?_
          obtain rfl := Option.some.inj hm50
          try dsimp only at hm
          obtain rfl := Option.some.inj hm
          refine wpL_ret (Qb_ret (Ql_ret (Qb_ret (ret_tmp rfl hf rfl ?_))))
          exact ⟨_, rfl, A57, n58, c59, rfl, hn64, hs⟩
        · have hm50 := bif_f hm50 hb66
          refine wpL_skip ?_
          refine wpL_nil (Qb_normal ?_)
          refine wpL_region ?_
          refine sY hf hs rfl rfl rfl (Y_move rfl rfl) ?_; clear hf; intro a hf
          refine sY hf hs rfl rfl rfl (Y_add rfl rfl rfl) ?_; clear hf; intro a hf
          refine sY hf hs rfl rfl rfl (Y_assign rfl rfl) ?_; clear hf; intro a hf
          refine wpO_nil ?_
          refine wpL_nil (Ql_normal ?_)
          exact ⟨(IntKind.i64.wrap (x32 + 1)), hm50, (FrD.pick (FrD.pick (FrD.pick hf.none hf rfl) hf rfl) hf rfl), hs.sel [] (by decide)⟩
      · have hm50 := bif_f hm50 hb52
        refine wpL_exit (Ql_exit (Qb_exit ?_))
        exact ⟨Option.some.inj hm50, hf.none, hs⟩
  · rintro a w ⟨hr_, hf, hs⟩
    subst hr_
    try dsimp only at hm
    refine wpL_seq ?_
    refine wpL_region ?_
    refine sY hf hs rfl rfl rfl (Y_assign rfl rfl) ?_; clear hf; intro a hf
    refine wpO_nil ?_
    have hs : St [] W _ [.row none 0 0 2 1 (ints ([] : List Int))] := hs.addNil 2 1
    obtain rfl := Option.some.inj hm
    refine wpL_ret (ret_tmp rfl hf rfl ?_)
    exact ⟨_, rfl, none, 0, 0, rfl, rfl, hs⟩

set_option maxRecDepth 100000 in
theorem spec_PositiveCycle_ok (F : Nat) (p0_a : List (List Int)) (A_p0_a_1 : Option Addr) (n_p0_a_1 c_p0_a_1 : Nat) (hn_p0_a_1 : n_p0_a_1 = p0_a.length) (r : List Int × Int) (W : World) (hm : spec_PositiveCycle F p0_a = some r) (h_p0_a_1 : RdM W A_p0_a_1 p0_a) :
    Calls Try.prog 30 [.slice A_p0_a_1 n_p0_a_1 c_p0_a_1].toArray W fun e w' => ∃ v, e = .returned v ∧ ∃ A13, ∃ n14, ∃ c15, v = .tuple #[.slice A13 n14 c15, .int .i64 r.2] ∧ n14 = r.1.length ∧ St [] W w' [.row A13 n14 c15 2 1 (ints r.1)] := by
  subst hn_p0_a_1
  unfold spec_PositiveCycle at hm
  refine Calls.enter (N := 14) Try.func30 rfl rfl rfl (fun a hf => ?_)
  have hs := St.start W
  obtain ⟨w, hw_⟩ : ∃ w, w = W := ⟨W, rfl⟩
  clear hw_ w
  refine wpL_seq ?_
  refine wpL_region ?_
  refine sY hf hs rfl rfl rfl (Y_assign rfl rfl) ?_; clear hf; intro a hf
  refine sY hf hs rfl rfl rfl (Y_assign rfl rfl) ?_; clear hf; intro a hf
  refine wpO_nil ?_
  refine wpL_seq ?_
  refine wpL_seq ?_
  refine wpL_region ?_
  refine sY hf hs rfl rfl rfl (Y_move rfl rfl) ?_; clear hf; intro a hf
  obtain ⟨r1, hc2, hm⟩ := bind_some hm
  refine sCall hf rfl rfl rfl rfl (cap := []) rfl rfl en82 (spec_l02Square_ok F p0_a A_p0_a_1 p0_a.length c_p0_a_1 rfl _ _ hc2 (h_p0_a_1.at hs)) ?_; clear hf
  rintro _ w ⟨rfl, hs1⟩ a hf
  have hs : St [] W w [] := hs.ext hs1.below
  clear hs1
  refine sY hf hs rfl rfl rfl (Y_not rfl rfl) ?_; clear hf; intro a hf
  refine wpO_nil ?_
  refine wpL_cond hf rfl (fun hb3 => ?_) (fun hb3 => ?_)
  · have hm := bif_t hm hb3
    refine wpL_seq ?_
    refine wpL_region ?_
    refine sY hf hs rfl rfl rfl (Y_assign rfl rfl) ?_; clear hf; intro a hf
    refine sY hf hs rfl rfl rfl (Y_assign rfl rfl) ?_; clear hf; intro a hf
    refine wpO_nil ?_
    have hs : St [] W _ [.row none 0 0 2 1 (ints ([] : List Int))] := hs.addNil 2 1
    obtain rfl := Option.some.inj hm
    refine wpL_ret (ret_tmp2 rfl hf rfl rfl ?_)
    exact ⟨_, rfl, none, 0, 0, rfl, rfl, hs⟩
  · have hm := bif_f hm hb3
    refine wpL_skip ?_
    refine wpL_seq ?_
    refine wpL_region ?_
    refine sY hf hs rfl rfl rfl (Y_move rfl rfl) ?_; clear hf; intro a hf
    obtain ⟨r5, hc6, hm⟩ := bind_some hm
    refine sCall hf rfl rfl rfl rfl (cap := []) rfl rfl en89 (spec_l03Over_ok F p0_a A_p0_a_1 p0_a.length c_p0_a_1 rfl 0 _ _ hc6 (h_p0_a_1.at hs)) ?_; clear hf
    rintro _ w ⟨A7, n8, c9, rfl, hn10, hs1⟩ a hf
    have hs : St [] W w [.row A7 n8 c9 2 1 (ints r5)] := hs.join hs1
    clear hs1
    refine sY hf hs rfl rfl rfl (Y_assign rfl rfl) ?_; clear hf; intro a hf
    refine wpO_nil ?_
    refine wpL_seq ?_
    refine wpL_seq ?_
    refine wpL_region ?_
    refine sY hf hs rfl rfl rfl (Y_move rfl rfl) ?_; clear hf; intro a hf
    refine sY hf hs rfl rfl rfl (Y_lenH rfl rfl el28 hn10) ?_; clear hf; intro a hf
    refine sY hf hs rfl rfl rfl (Y_eql rfl rfl rfl) ?_; clear hf; intro a hf
    refine wpO_nil ?_
    refine wpL_cond hf rfl (fun hb11 => ?_) (fun hb11 => ?_)
    · have hm := bif_t hm hb11
      refine wpL_seq ?_
      refine wpL_region ?_
      refine sY hf hs rfl rfl rfl (Y_assign rfl rfl) ?_; clear hf; intro a hf
      refine sY hf hs rfl rfl rfl (Y_assign rfl rfl) ?_; clear hf; intro a hf
      refine wpO_nil ?_
      have hs : St [] W _ [.row A7 n8 c9 2 1 (ints r5), .row none 0 0 2 1 (ints ([] : List Int))] := hs.addNil 2 1
      obtain rfl := Option.some.inj hm
      refine wpL_ret (ret_tmp2 rfl hf rfl rfl ?_)
      exact ⟨_, rfl, none, 0, 0, rfl, rfl, hs.sel [1] (by decide)⟩
    · have hm := bif_f hm hb11
      refine wpL_skip ?_
      refine wpL_seq ?_
      refine wpL_region ?_
      refine sY hf hs rfl rfl rfl (Y_move rfl rfl) ?_; clear hf; intro a hf
      refine sY hf hs rfl rfl rfl (Y_assign rfl rfl) ?_; clear hf; intro a hf
      refine sY hf hs rfl rfl rfl (Y_assign rfl rfl) ?_; clear hf; intro a hf
      refine wpO_nil ?_
      obtain rfl := Option.some.inj hm
      refine wpL_ret (ret_tmp2 rfl hf rfl rfl ?_)
      exact ⟨_, rfl, A7, n8, c9, rfl, hn10, hs⟩

end Go.Proofs.Ytebmlphobgaboab
