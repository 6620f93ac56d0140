/- The functions do what their models say. -/
import Derived.Test.YtebmlphobgaboabStarsLifted1
import Derived.Test.YtebmlphobgaboabRows
namespace Go.Proofs.Ytebmlphobgaboab
open Go.RowKit

set_option maxRecDepth 100000 in
theorem impl_isSquare_ok (F : Nat) (p0_a : List (List Int)) (A_p0_a_1 : Option Addr) (n_p0_a_1 c_p0_a_1 : Nat) (hn_p0_a_1 : n_p0_a_1 = p0_a.length) (r : Bool) (W : World) (hm : impl_isSquare F p0_a = some r) (h_p0_a_1 : RdM W A_p0_a_1 p0_a) :
    Calls Try.prog 79 [.slice A_p0_a_1 n_p0_a_1 c_p0_a_1].toArray W fun e w' => ∃ v, e = .returned v ∧ v = .bool r ∧ St [] W w' [] := by
  subst hn_p0_a_1
  unfold impl_isSquare at hm
  refine Calls.enter (N := 14) Try.func79 rfl rfl rfl (fun a hf => ?_)
  have hs := St.start W
  obtain ⟨w, hw_⟩ : ∃ w, w = W := ⟨W, rfl⟩
  clear hw_ w
  refine wpL_seq ?_
  refine wpL_region ?_
  refine sY hf hs rfl rfl rfl (Y_assign rfl rfl) ?_; clear hf; intro a hf
  refine wpO_nil ?_
  refine wpL_seq ?_
  obtain ⟨r14, hj15, hm⟩ := bind_some hm
  refine wpL_cut (fun a w => ∃ b13 : Bool, b13 = r14 ∧ Fr a 14 [(2, .bool b13)] ∧ St [] W w []) ?_ ?_
  · refine wpL_region ?_
    refine sY hf hs rfl rfl rfl (Y_move rfl rfl) ?_; clear hf; intro a hf
    obtain ⟨r16, hc17, hj15⟩ := bind_some hj15
    refine sCall hf rfl rfl rfl rfl (cap := []) rfl rfl en91 (impl_IsMatrix_ok F p0_a A_p0_a_1 p0_a.length c_p0_a_1 rfl _ _ hc17 (h_p0_a_1.at hs)) ?_; clear hf
    rintro _ w ⟨rfl, hs1⟩ a hf
    have hs : St [] W w [] := hs.ext hs1.below
    clear hs1
    refine sY hf hs rfl rfl rfl (Y_move rfl rfl) ?_; clear hf; intro a hf
    refine bsplit r16 (fun hb18 => ?_) (fun hb18 => ?_)
    · have hj15 := bif_t hj15 hb18
      refine sYg hf hs rfl rfl rfl (congrArg (fun b => some (Value.bool b)) hb18) rfl rfl rfl (Y_move rfl rfl) ?_; clear hf; intro a hf
      refine sYg hf hs rfl rfl rfl (congrArg (fun b => some (Value.bool b)) hb18) rfl rfl rfl (Y_lenH rfl rfl el40 rfl) ?_; clear hf; intro a hf
      refine sYg hf hs rfl rfl rfl (congrArg (fun b => some (Value.bool b)) hb18) rfl rfl rfl (Y_move rfl rfl) ?_; clear hf; intro a hf
      obtain ⟨q19, hi20, hj15⟩ := bind_some hj15
      obtain ⟨hi20a, hi20b, hi20q⟩ := idx_some hi20
      obtain ⟨vs21, hv22, hr23⟩ := id h_p0_a_1
      obtain ⟨A24, c25, hv26, hR27⟩ := hr23 _ _ hi20q
      refine sYg hf hs rfl rfl rfl (congrArg (fun b => some (Value.bool b)) hb18) rfl rfl rfl (Y_index rfl rfl rfl el40 ti28 (Rd.isAt hv22 hv26) hi20a hi20b) ?_; clear hf; intro a hf
      refine sYg hf hs rfl rfl rfl (congrArg (fun b => some (Value.bool b)) hb18) rfl rfl rfl (Y_load_rd rfl rfl (fun w hs => hv22.at hs) (at1 hv26) ag28) ?_; clear hf; intro a hf
      refine sYg hf hs rfl rfl rfl (congrArg (fun b => some (Value.bool b)) hb18) rfl rfl rfl (Y_lenH rfl rfl el28 rfl) ?_; clear hf; intro a hf
      refine sYg hf hs rfl rfl rfl (congrArg (fun b => some (Value.bool b)) hb18) rfl rfl rfl (Y_eql rfl rfl rfl) ?_; clear hf; intro a hf
      refine sY hf hs rfl rfl rfl (Y_pickT rfl (congrArg (fun b => some (Value.bool b)) hb18) rfl) ?_; clear hf; intro a hf
      refine sY hf hs rfl rfl rfl (Y_assign rfl rfl) ?_; clear hf; intro a hf
      refine wpO_nil ?_
      refine wpL_nil (then_normal ?_)
      exact ⟨((p0_a.length : Int) == (q19.length : Int)), Option.some.inj hj15, (FrD.pick hf.none hf rfl), hs⟩
    · have hj15 := bif_f hj15 hb18
      refine sNo hf rfl rfl rfl (congrArg (fun b => some (Value.bool b)) hb18) rfl rfl rfl ?_; clear hf; intro a hf
      refine sNo hf rfl rfl rfl (congrArg (fun b => some (Value.bool b)) hb18) rfl rfl rfl ?_; clear hf; intro a hf
      refine sNo hf rfl rfl rfl (congrArg (fun b => some (Value.bool b)) hb18) rfl rfl rfl ?_; clear hf; intro a hf
      refine sNo hf rfl rfl rfl (congrArg (fun b => some (Value.bool b)) hb18) rfl rfl rfl ?_; clear hf; intro a hf
      refine sNo hf rfl rfl rfl (congrArg (fun b => some (Value.bool b)) hb18) rfl rfl rfl ?_; clear hf; intro a hf
      refine sNo hf rfl rfl rfl (congrArg (fun b => some (Value.bool b)) hb18) rfl rfl rfl ?_; clear hf; intro a hf
      refine sNo hf rfl rfl rfl (congrArg (fun b => some (Value.bool b)) hb18) rfl rfl rfl ?_; clear hf; intro a hf
      refine sY hf hs rfl rfl rfl (Y_pickF rfl (congrArg (fun b => some (Value.bool b)) hb18) rfl) ?_; clear hf; intro a hf
      refine sY hf hs rfl rfl rfl (Y_assign rfl rfl) ?_; clear hf; intro a hf
      refine wpO_nil ?_
      refine wpL_nil (then_normal ?_)
      exact ⟨false, Option.some.inj hj15, (FrD.pick hf.none hf rfl), hs⟩
  · rintro a w ⟨b13, hr_, hf, hs⟩
    subst hr_
    try dsimp only at hm
    obtain rfl := Option.some.inj hm
    refine wpL_ret (ret_tmp rfl hf rfl ?_)
    exact ⟨_, rfl, rfl, hs⟩

set_option maxRecDepth 100000 in
theorem impl_matrixBy_ok (F : Nat) (p0_m : Int) (p1_n : Int) (m_p2_entry : Int → Int → Option Int) (f_p2_entry : FuncId) (k_p2_entry : List Value) (r : List (List Int)) (W : World) (hm : impl_matrixBy F p0_m p1_n m_p2_entry = some r) (h_p2_entry : ∀ (x0 : Int) (x1 : Int) (r : Int) (w : World), m_p2_entry x0 x1 = some r → Below W.heap.size W w → Calls Try.prog f_p2_entry (([.int .i64 x0, .int .i64 x1] : List Value) ++ k_p2_entry).toArray w fun e w' => ∃ v, e = .returned v ∧ v = .int .i64 r ∧ St [] w w' []) (e_p2_entry : En Try.prog f_p2_entry) :
    Calls Try.prog 111 [.int .i64 p0_m, .int .i64 p1_n, .func (.func f_p2_entry) #[] k_p2_entry.toArray].toArray W fun e w' => ∃ v, e = .returned v ∧ ∃ A641, ∃ n642, ∃ c643, ∃ vs645, v = .slice A641 n642 c643 ∧ n642 = r.length ∧ St [] W w' [.mat A641 n642 c643 28 2 vs645 r] := by
  unfold impl_matrixBy at hm
  refine Calls.enter (N := 43) Try.func111 rfl rfl rfl (fun a hf => ?_)
  have hs := St.start W
  obtain ⟨w, hw_⟩ : ∃ w, w = W := ⟨W, rfl⟩
  clear hw_ w
  refine wpL_seq ?_
  refine wpL_region ?_
  refine sY hf hs rfl rfl rfl (Y_assign rfl rfl) ?_; clear hf; intro a hf
  refine wpO_nil ?_
  refine wpL_seq ?_
  refine wpL_region ?_
  refine sY hf hs rfl rfl rfl (Y_move rfl rfl) ?_; clear hf; intro a hf
  obtain ⟨ms3, hk2, hm⟩ := bind_some hm
  refine sMakeM 2 hf hs rfl rfl rfl rfl rfl hk2 el40 ti28 rfl ?_; clear hf hs; intro a w A1 vs4 hs hf
  have hs : St [] W w [.mat A1 ms3.length ms3.length 28 2 vs4 ms3] := hs
  refine sY hf hs rfl rfl rfl (Y_assign rfl rfl) ?_; clear hf; intro a hf
  refine wpO_nil ?_
  refine wpL_seq ?_
  refine wpL_seq ?_
  refine wpL_region ?_
  refine sY hf hs rfl rfl rfl (Y_move rfl rfl) ?_; clear hf; intro a hf
  refine sY hf hs rfl rfl rfl (Y_lenH rfl rfl el40 rfl) ?_; clear hf; intro a hf
  refine sY hf hs rfl rfl rfl (Y_move rfl rfl) ?_; clear hf; intro a hf
  refine wpO_nil ?_
  obtain ⟨r484, hl485, hm⟩ := bind_some hm
  refine wpL_block (fun a w => ∃ ms478 : List (List Int), ∃ A479, ∃ n480, ∃ c481, ∃ vs483, ms478 = r484 ∧ n480 = ms478.length ∧ Fr a 43 [(7, .slice A479 n480 c481)] ∧ St [] W w [.mat A479 n480 c481 28 2 vs483 ms478]) ?_ ?_
  · refine wpL_loop (fun n a w => ∃ ms318 : List (List Int), ∃ x324 : Int, ∃ A319, ∃ n320, ∃ c321, ∃ vs323, impl_matrixBy_L4 F p1_n m_p2_entry ms3 n ms318 x324 = some r484 ∧ n320 = ms318.length ∧ Fr a 43 [(1, .int .i64 p1_n), (2, .func (.func f_p2_entry) #[] k_p2_entry.toArray), (7, .slice A319 n320 c321), (13, .int .i64 (ms3.length : Int)), (14, .int .i64 x324)] ∧ St [] W w [.mat A319 n320 c321 28 2 vs323 ms318]) F ?_ ?_ ?_
    · exact ⟨ms3, 0, A1, ms3.length, ms3.length, vs4, hl485, rfl, (FrD.pick (FrD.pick (FrD.pick (FrD.pick (FrD.pick hf.none hf rfl) hf rfl) hf rfl) hf rfl) hf rfl), hs⟩
    · rintro a w ⟨ms318, x324, A319, n320, c321, vs323, h0_, -, -, -⟩; simp [impl_matrixBy_L4] at h0_
    · rintro n487 a w ⟨ms318, x324, A319, n320, c321, vs323, hm486, hn322, hf, hs⟩
      rw [impl_matrixBy_L4] at hm486
      refine wpL_seq ?_
      refine wpL_region ?_
      refine sY hf hs rfl rfl rfl (Y_lss rfl rfl rfl) ?_; clear hf; intro a hf
      refine wpO_nil ?_
      refine wpL_seq ?_
      refine wpL_cond hf rfl (fun hb488 => ?_) (fun hb488 => ?_)
      · have hm486 := bif_t hm486 hb488
        refine wpL_skip ?_
        refine wpL_seq ?_
        refine wpL_block0 ?_
        refine wpL_seq ?_
        refine wpL_region ?_
        refine sY hf hs rfl rfl rfl (Y_move rfl rfl) ?_; clear hf; intro a hf
        refine sY hf hs rfl rfl rfl (Y_assign rfl rfl) ?_; clear hf; intro a hf
        refine wpO_nil ?_
        refine wpL_seq ?_
        refine wpL_region ?_
        refine sY hf hs rfl rfl rfl (Y_move rfl rfl) ?_; clear hf; intro a hf
        refine sY hf hs rfl rfl rfl (Y_move rfl rfl) ?_; clear hf; intro a hf
        refine sY hf hs rfl rfl rfl (Y_move rfl rfl) ?_; clear hf; intro a hf
        obtain ⟨xs491, hk490, hm486⟩ := bind_some hm486
        refine sMakeL (enc := ints) hf hs rfl rfl rfl rfl rfl hk490 el28 ti2 rfl ints_made ?_; clear hf hs; intro a w A489 hs hf
        have hs : St [] W w [.mat A319 n320 c321 28 2 vs323 ms318, .row A489 xs491.length xs491.length 2 1 (ints xs491)] := hs
        obtain ⟨q492, hi493, hm486⟩ := bind_some hm486
        obtain ⟨hi493a, hi493b, hi493q⟩ := idx_some hi493
        obtain ⟨A494, c495, hv496⟩ := hs.matRow (i := 0) rfl hi493q
        refine sY hf hs rfl rfl rfl (Y_index rfl rfl rfl el40 ti28 (Rd.isAt (hs.rdV (i := 0) rfl) hv496) hi493a (ltn hn322 hi493b)) ?_; clear hf; intro a hf
        obtain ⟨ms497, hu498, hm486⟩ := bind_some hm486
        refine sStoreRowM (i := 0) (j := 1) (k := x324) hf hs rfl rfl rfl rfl rfl rfl rfl (by decide) rfl hu498 ti28 ?_; clear hs; intro w vs499 hs
        have hs : St [] W w [.mat A319 n320 c321 28 2 vs499 ms497] := hs
        refine wpO_nil ?_
        refine wpL_seq ?_
        refine wpL_region ?_
        refine sY hf hs rfl rfl rfl (Y_move rfl rfl) ?_; clear hf; intro a hf
        refine sY hf hs rfl rfl rfl (Y_move rfl rfl) ?_; clear hf; intro a hf
        obtain ⟨q500, hi501, hm486⟩ := bind_some hm486
        obtain ⟨hi501a, hi501b, hi501q⟩ := idx_some hi501
        obtain ⟨A502, c503, hv504⟩ := hs.matRow (i := 0) rfl hi501q
        refine sY hf hs rfl rfl rfl (Y_index rfl rfl rfl el40 ti28 (Rd.isAt (hs.rdV (i := 0) rfl) hv504) hi501a (ltn ((hn322).trans (upd_len hu498).symm) hi501b)) ?_; clear hf; intro a hf
        refine sY hf hs rfl rfl rfl (Y_load_rd rfl rfl (fun w hs => hs.rdV (i := 0) rfl) (at1 hv504) ag28) ?_; clear hf; intro a hf
        refine sY hf hs rfl rfl rfl (Y_lenH rfl rfl el28 rfl) ?_; clear hf; intro a hf
        refine sY hf hs rfl rfl rfl (Y_move rfl rfl) ?_; clear hf; intro a hf
        refine wpO_nil ?_
        obtain ⟨r606, hl607, hm486⟩ := bind_some hm486
        refine wpL_block (fun a w => ∃ ms604 : List (List Int), ms604 = r606 ∧ n320 = ms604.length ∧ Fr a 43 [(1, .int .i64 p1_n), (2, .func (.func f_p2_entry) #[] k_p2_entry.toArray), (7, .slice A319 n320 c321), (13, .int .i64 (ms3.length : Int)), (14, .int .i64 x324)] ∧ St [] W w [.mat A319 n320 c321 28 2 vs499 ms604]) ?_ ?_
        · refine wpL_loop (fun n a w => ∃ ms570 : List (List Int), ∃ x572 : Int, impl_matrixBy_L5 F m_p2_entry x324 q500 n ms570 x572 = some r606 ∧ n320 = ms570.length ∧ Fr a 43 [(1, .int .i64 p1_n), (2, .func (.func f_p2_entry) #[] k_p2_entry.toArray), (7, .slice A319 n320 c321), (8, .int .i64 x324), (13, .int .i64 (ms3.length : Int)), (14, .int .i64 x324), (26, .int .i64 (q500.length : Int)), (27, .int .i64 x572)] ∧ St [] W w [.mat A319 n320 c321 28 2 vs499 ms570]) F ?_ ?_ ?_
          · exact ⟨ms497, 0, hl607, ((hn322).trans (upd_len hu498).symm), (FrD.pick (FrD.pick (FrD.pick (FrD.pick (FrD.pick (FrD.pick (FrD.pick (FrD.pick hf.none hf rfl) hf rfl) hf rfl) hf rfl) hf rfl) hf rfl) hf rfl) hf rfl), hs⟩
          · rintro a w ⟨ms570, x572, h0_, -, -, -⟩; simp [impl_matrixBy_L5] at h0_
          · rintro n609 a w ⟨ms570, x572, hm608, hn571, hf, hs⟩
            rw [impl_matrixBy_L5] at hm608
            refine wpL_seq ?_
            refine wpL_region ?_
            refine sY hf hs rfl rfl rfl (Y_lss rfl rfl rfl) ?_; clear hf; intro a hf
            refine wpO_nil ?_
            refine wpL_seq ?_
            refine wpL_cond hf rfl (fun hb610 => ?_) (fun hb610 => ?_)
            · have hm608 := bif_t hm608 hb610
              refine wpL_skip ?_
              refine wpL_seq ?_
              refine wpL_block0 ?_
              refine wpL_seq ?_
              refine wpL_region ?_
              refine sY hf hs rfl rfl rfl (Y_move rfl rfl) ?_; clear hf; intro a hf
              refine sY hf hs rfl rfl rfl (Y_assign rfl rfl) ?_; clear hf; intro a hf
              refine wpO_nil ?_
              refine wpL_drawM [.mat A319 n320 c321 28 2 vs499 ms570] [10] (by kernel_rfl) hs ?_; clear hs; intro w hs
              have hs0 : St [] W w [.mat A319 n320 c321 28 2 vs499 ms570] := hs
              refine mYp (i := 0) rfl (by kernel_rfl) (by kernel_rfl) hf rfl rfl rfl (fun _ => Y_move rfl rfl) ?_; clear hf; intro a hf
              refine mYp (i := 1) rfl (by kernel_rfl) (by kernel_rfl) hf rfl rfl rfl (fun _ => Y_move rfl rfl) ?_; clear hf; intro a hf
              obtain ⟨q626, hi627, hm608⟩ := bind_some hm608
              obtain ⟨hi627a, hi627b, hi627q⟩ := idx_some hi627
              obtain ⟨A628, c629, hv630⟩ := hs.matRow (i := 0) rfl hi627q
              refine mYp (i := 2) rfl (by kernel_rfl) (by kernel_rfl) hf rfl rfl rfl (fun _ => Y_index rfl rfl rfl el40 ti28 (Rd.isAt (hs.rdV (i := 0) rfl) hv630) hi627a (ltn hn571 hi627b)) ?_; clear hf; intro a hf
              refine mY (i := 3) [[]] rfl (by kernel_rfl) (by kernel_rfl) hf hs0 rfl rfl rfl (Y_load_rd rfl rfl (fun w hs => hs.rdV (i := 0) rfl) (at1 hv630) ag28) ?_; clear hf; intro a hf
              refine mYp (i := 4) rfl (by kernel_rfl) (by kernel_rfl) hf rfl rfl rfl (fun _ => Y_move rfl rfl) ?_; clear hf; intro a hf
              refine mYp (i := 5) rfl (by kernel_rfl) (by kernel_rfl) hf rfl rfl rfl (fun _ => Y_move rfl rfl) ?_; clear hf; intro a hf
              refine mYp (i := 6) rfl (by kernel_rfl) (by kernel_rfl) hf rfl rfl rfl (fun _ => Y_move rfl rfl) ?_; clear hf; intro a hf
              refine mYp (i := 7) rfl (by kernel_rfl) (by kernel_rfl) hf rfl rfl rfl (fun _ => Y_move rfl rfl) ?_; clear hf; intro a hf
              refine mRun (i := 8) rfl (by kernel_rfl) ?_
              obtain ⟨r631, hc632, hm608⟩ := bind_some hm608
              refine sCall hf rfl rfl rfl rfl (cap := k_p2_entry) rfl rfl e_p2_entry (h_p2_entry x324 x572 _ _ hc632 hs.below) ?_; clear hf; rintro _ w ⟨rfl, hs1⟩ a hf; have hs := hs.ext hs1.below; clear hs1
              have hs0 : St [] W w [.mat A319 n320 c321 28 2 vs499 ms570] := hs
              refine wpO_nil ⟨Or.inr (fun _ => hs0), ?_⟩
              obtain ⟨q633, hi634, hm608⟩ := bind_some hm608
              obtain ⟨hi634a, hi634b, hi634q⟩ := idx_some hi634
              refine mYp (i := 9) rfl (by kernel_rfl) (by kernel_rfl) hf rfl rfl rfl (fun _ => Y_index rfl rfl rfl el28 ti2 (Rd.isAt (hs.rdRow (i := 0) rfl ⟨hi627q, hv630⟩) (at1 (ints_at hi634q))) hi634a hi634b) ?_; clear hf; intro a hf
              refine mRun (i := 10) rfl (by kernel_rfl) ?_
              obtain ⟨xs635, hu637, hm608⟩ := bind_some hm608
              obtain ⟨ms636, hu638, hm608⟩ := bind_some hm608
              refine sStoreM (i := 0) (k := x324) hf hs rfl rfl rfl rfl rfl rfl hi627q hv630 rfl hu637 hu638 ti2 ?_; clear hs; intro w hs
              obtain ⟨hq639, hv640⟩ := rowUpd hu637 hu638 hv630
              have hs : St [] W w [.mat A319 n320 c321 28 2 vs499 ms636] := hs
              refine wpO_nil ⟨Or.inl (by decide), ?_⟩
              refine mDone (by kernel_rfl) ?_
              clear hs0
              refine wpL_nil (Qb_normal ?_)
              refine wpL_region ?_
              refine sY hf hs rfl rfl rfl (Y_add rfl rfl rfl) ?_; clear hf; intro a hf
              refine sY hf hs rfl rfl rfl (Y_move rfl rfl) ?_; clear hf; intro a hf
              refine wpO_nil ?_
              refine wpL_nil (Ql_normal ?_)
              exact ⟨ms636, (IntKind.i64.wrap (x572 + 1)), hm608, ((hn571).trans (upd_len hu638).symm), (FrD.pick (FrD.pick (FrD.pick (FrD.pick (FrD.pick (FrD.pick (FrD.pick (FrD.pick hf.none hf rfl) hf rfl) hf rfl) hf rfl) hf rfl) hf rfl) hf rfl) hf rfl), hs⟩
            · have hm608 := bif_f hm608 hb610
              refine wpL_exit (Ql_exit (Qb_exit ?_))
              exact ⟨ms570, Option.some.inj hm608, hn571, (FrD.pick (FrD.pick (FrD.pick (FrD.pick (FrD.pick hf.none hf rfl) hf rfl) hf rfl) hf rfl) hf rfl), hs⟩
        · rintro a w ⟨ms604, hr_, hn605, hf, hs⟩
          subst hr_
          try dsimp only at hm486
          refine wpL_nil (Qb_normal ?_)
          refine wpL_region ?_
          refine sY hf hs rfl rfl rfl (Y_add rfl rfl rfl) ?_; clear hf; intro a hf
          refine sY hf hs rfl rfl rfl (Y_move rfl rfl) ?_; clear hf; intro a hf
          refine wpO_nil ?_
          refine wpL_nil (Ql_normal ?_)
          exact ⟨ms604, (IntKind.i64.wrap (x324 + 1)), A319, n320, c321, vs499, hm486, hn605, (FrD.pick (FrD.pick (FrD.pick (FrD.pick (FrD.pick hf.none hf rfl) hf rfl) hf rfl) hf rfl) hf rfl), hs⟩
      · have hm486 := bif_f hm486 hb488
        refine wpL_exit (Ql_exit (Qb_exit ?_))
        exact ⟨ms318, A319, n320, c321, vs323, Option.some.inj hm486, hn322, (FrD.pick hf.none hf rfl), hs⟩
  · rintro a w ⟨ms478, A479, n480, c481, vs483, hr_, hn482, hf, hs⟩
    subst hr_
    try dsimp only at hm
    refine wpL_seq ?_
    refine wpL_region ?_
    refine sY hf hs rfl rfl rfl (Y_move rfl rfl) ?_; clear hf; intro a hf
    refine sY hf hs rfl rfl rfl (Y_assign rfl rfl) ?_; clear hf; intro a hf
    refine wpO_nil ?_
    obtain rfl := Option.some.inj hm
    refine wpL_ret (ret_tmp rfl hf rfl ?_)
    exact ⟨_, rfl, A479, n480, c481, vs483, rfl, hn482, hs⟩

set_option maxRecDepth 100000 in
theorem impl_unitMatrix_c1_ok (F : Nat) (p0_i : Int) (p1_j : Int) (r : Int) (W : World) (hm : impl_unitMatrix_c1 F p0_i p1_j = some r) :
    Calls Try.prog 158 [.int .i64 p0_i, .int .i64 p1_j].toArray W fun e w' => ∃ v, e = .returned v ∧ v = .int .i64 r ∧ St [] W w' [] := by
  unfold impl_unitMatrix_c1 at hm
  refine Calls.enter (N := 8) Try.func158 rfl rfl rfl (fun a hf => ?_)
  have hs := St.start W
  obtain ⟨w, hw_⟩ : ∃ w, w = W := ⟨W, rfl⟩
  clear hw_ w
  refine wpL_seq ?_
  refine wpL_region ?_
  refine sY hf hs rfl rfl rfl (Y_assign rfl rfl) ?_; clear hf; intro a hf
  refine wpO_nil ?_
  refine wpL_seq ?_
  refine wpL_seq ?_
  refine wpL_region ?_
  refine sY hf hs rfl rfl rfl (Y_move rfl rfl) ?_; clear hf; intro a hf
  refine sY hf hs rfl rfl rfl (Y_move rfl rfl) ?_; clear hf; intro a hf
  refine sY hf hs rfl rfl rfl (Y_eql rfl rfl rfl) ?_; clear hf; intro a hf
  refine wpO_nil ?_
  refine wpL_cond hf rfl (fun hb1 => ?_) (fun hb1 => ?_)
  · have hm := bif_t hm hb1
    refine wpL_seq ?_
    refine wpL_region ?_
    refine sY hf hs rfl rfl rfl (Y_assign rfl rfl) ?_; clear hf; intro a hf
    refine wpO_nil ?_
    obtain rfl := Option.some.inj hm
    refine wpL_ret (ret_tmp rfl hf rfl ?_)
    exact ⟨_, rfl, rfl, hs⟩
  · have hm := bif_f hm hb1
    refine wpL_skip ?_
    refine wpL_seq ?_
    refine wpL_region ?_
    refine sY hf hs rfl rfl rfl (Y_assign rfl rfl) ?_; clear hf; intro a hf
    refine wpO_nil ?_
    obtain rfl := Option.some.inj hm
    refine wpL_ret (ret_tmp rfl hf rfl ?_)
    exact ⟨_, rfl, rfl, hs⟩

set_option maxRecDepth 100000 in
theorem impl_unitMatrix_ok (F : Nat) (p0_n : Int) (r : List (List Int)) (W : World) (hm : impl_unitMatrix F p0_n = some r) :
    Calls Try.prog 90 [.int .i64 p0_n].toArray W fun e w' => ∃ v, e = .returned v ∧ ∃ A8, ∃ n9, ∃ c10, ∃ vs12, v = .slice A8 n9 c10 ∧ n9 = r.length ∧ St [] W w' [.mat A8 n9 c10 28 2 vs12 r] := by
  unfold impl_unitMatrix at hm
  refine Calls.enter (N := 6) Try.func90 rfl rfl rfl (fun a hf => ?_)
  have hs := St.start W
  obtain ⟨w, hw_⟩ : ∃ w, w = W := ⟨W, rfl⟩
  clear hw_ w
  refine wpL_seq ?_
  refine wpL_region ?_
  refine sY hf hs rfl rfl rfl (Y_assign rfl rfl) ?_; clear hf; intro a hf
  refine wpO_nil ?_
  refine wpL_seq ?_
  refine wpL_region ?_
  refine sY hf hs rfl rfl rfl (Y_move rfl rfl) ?_; clear hf; intro a hf
  refine sY hf hs rfl rfl rfl (Y_move rfl rfl) ?_; clear hf; intro a hf
  obtain ⟨r1, hc2, hm⟩ := bind_some hm
  refine sCall hf rfl rfl rfl rfl (cap := []) rfl rfl en111 (impl_matrixBy_ok F p0_n p0_n (fun x0 x1 => impl_unitMatrix_c1 F x0 x1) 158 [] _ _ hc2 (fun x0 x1 r w' hm_ hb => impl_unitMatrix_c1_ok F x0 x1 r w' hm_ ) en158) ?_; clear hf
  rintro _ w ⟨A3, n4, c5, vs7, rfl, hn6, hs1⟩ a hf
  have hs : St [] W w [.mat A3 n4 c5 28 2 vs7 r1] := hs.join hs1
  clear hs1
  refine sY hf hs rfl rfl rfl (Y_assign rfl rfl) ?_; clear hf; intro a hf
  refine wpO_nil ?_
  obtain rfl := Option.some.inj hm
  refine wpL_ret (ret_tmp rfl hf rfl ?_)
  exact ⟨_, rfl, A3, n4, c5, vs7, rfl, hn6, hs⟩

set_option maxRecDepth 100000 in
theorem impl_addMatrices_c1_ok (F : Nat) (p0_i : Int) (p1_j : Int) (b_z0 : Nat) (z0 : List (List Int)) (A_z0_1 : Option Addr) (n_z0_1 c_z0_1 : Nat) (hn_z0_1 : n_z0_1 = z0.length) (b_z1 : Nat) (z1 : List (List Int)) (A_z1_1 : Option Addr) (n_z1_1 c_z1_1 : Nat) (hn_z1_1 : n_z1_1 = z1.length) (r : Int) (W : World) (hm : impl_addMatrices_c1 F p0_i p1_j z0 z1 = some r) (h_z0_1 : RdM W A_z0_1 z0) (h_z0 : PB W b_z0 40 [.slice A_z0_1 n_z0_1 c_z0_1]) (h_z1_1 : RdM W A_z1_1 z1) (h_z1 : PB W b_z1 40 [.slice A_z1_1 n_z1_1 c_z1_1]) :
    Calls Try.prog 160 [.int .i64 p0_i, .int .i64 p1_j, .pointer (some ⟨b_z0, 0, none⟩), .pointer (some ⟨b_z1, 0, none⟩)].toArray W fun e w' => ∃ v, e = .returned v ∧ v = .int .i64 r ∧ St [] W w' [] := by
  subst hn_z0_1
  subst hn_z1_1
  unfold impl_addMatrices_c1 at hm
  refine Calls.enter (N := 22) Try.func160 rfl rfl rfl (fun a hf => ?_)
  have hs := St.start W
  obtain ⟨w, hw_⟩ : ∃ w, w = W := ⟨W, rfl⟩
  clear hw_ w
  refine wpL_seq ?_
  refine wpL_region ?_
  refine sY hf hs rfl rfl rfl (Y_assign rfl rfl) ?_; clear hf; intro a hf
  refine wpO_nil ?_
  refine wpL_seq ?_
  refine wpL_draw (by kernel_rfl) (by kernel_rfl) hs ?_
  refine qY hf rfl rfl rfl (Y_load_pb rfl rfl h_z0 rfl ag40) ?_; clear hf; intro a hf
  refine qY hf rfl rfl rfl (Y_move rfl rfl) ?_; clear hf; intro a hf
  obtain ⟨q1, hi2, hm⟩ := bind_some hm
  obtain ⟨hi2a, hi2b, hi2q⟩ := idx_some hi2
  obtain ⟨vs3, hv4, hr5⟩ := id h_z0_1
  obtain ⟨A6, c7, hv8, hR9⟩ := hr5 _ _ hi2q
  refine qY hf rfl rfl rfl (Y_index rfl rfl rfl el40 ti28 (Rd.isAt hv4 hv8) hi2a hi2b) ?_; clear hf; intro a hf
  refine qY hf rfl rfl rfl (Y_load_rd rfl rfl (fun w hs => hv4.at hs) (at1 hv8) ag28) ?_; clear hf; intro a hf
  refine qY hf rfl rfl rfl (Y_move rfl rfl) ?_; clear hf; intro a hf
  obtain ⟨q10, hi11, hm⟩ := bind_some hm
  obtain ⟨hi11a, hi11b, hi11q⟩ := idx_some hi11
  refine qY hf rfl rfl rfl (Y_index rfl rfl rfl el28 ti2 (Rd.isAt (hR9.at hs) (at1 (ints_at hi11q))) hi11a hi11b) ?_; clear hf; intro a hf
  refine qY hf rfl rfl rfl (Y_load_rd rfl rfl (fun w hs => hR9.at hs) (at1 (ints_at hi11q)) ag2) ?_; clear hf; intro a hf
  refine qY hf rfl rfl rfl (Y_load_pb rfl rfl h_z1 rfl ag40) ?_; clear hf; intro a hf
  refine qY hf rfl rfl rfl (Y_move rfl rfl) ?_; clear hf; intro a hf
  obtain ⟨q12, hi13, hm⟩ := bind_some hm
  obtain ⟨hi13a, hi13b, hi13q⟩ := idx_some hi13
  obtain ⟨vs14, hv15, hr16⟩ := id h_z1_1
  obtain ⟨A17, c18, hv19, hR20⟩ := hr16 _ _ hi13q
  refine qY hf rfl rfl rfl (Y_index rfl rfl rfl el40 ti28 (Rd.isAt hv15 hv19) hi13a hi13b) ?_; clear hf; intro a hf
  refine qY hf rfl rfl rfl (Y_load_rd rfl rfl (fun w hs => hv15.at hs) (at1 hv19) ag28) ?_; clear hf; intro a hf
  refine qY hf rfl rfl rfl (Y_move rfl rfl) ?_; clear hf; intro a hf
  obtain ⟨q21, hi22, hm⟩ := bind_some hm
  obtain ⟨hi22a, hi22b, hi22q⟩ := idx_some hi22
  refine qY hf rfl rfl rfl (Y_index rfl rfl rfl el28 ti2 (Rd.isAt (hR20.at hs) (at1 (ints_at hi22q))) hi22a hi22b) ?_; clear hf; intro a hf
  refine qY hf rfl rfl rfl (Y_load_rd rfl rfl (fun w hs => hR20.at hs) (at1 (ints_at hi22q)) ag2) ?_; clear hf; intro a hf
  refine qY hf rfl rfl rfl (Y_max rfl rfl rfl) ?_; clear hf; intro a hf
  refine qY hf rfl rfl rfl (Y_assign rfl rfl) ?_; clear hf; intro a hf
  refine qNil ?_; clear hs; intro w hs
  obtain rfl := Option.some.inj hm
  refine wpL_ret (ret_tmp rfl hf rfl ?_)
  exact ⟨_, rfl, rfl, hs⟩

set_option maxRecDepth 100000 in
theorem impl_addMatrices_ok (F : Nat) (p0_a : List (List Int)) (A_p0_a_1 : Option Addr) (n_p0_a_1 c_p0_a_1 : Nat) (hn_p0_a_1 : n_p0_a_1 = p0_a.length) (p1_b : List (List Int)) (A_p1_b_1 : Option Addr) (n_p1_b_1 c_p1_b_1 : Nat) (hn_p1_b_1 : n_p1_b_1 = p1_b.length) (r : List (List Int)) (W : World) (hm : impl_addMatrices F p0_a p1_b = some r) (h_p0_a_1 : RdM W A_p0_a_1 p0_a) (h_p1_b_1 : RdM W A_p1_b_1 p1_b) :
    Calls Try.prog 92 [.slice A_p0_a_1 n_p0_a_1 c_p0_a_1, .slice A_p1_b_1 n_p1_b_1 c_p1_b_1].toArray W fun e w' => ∃ v, e = .returned v ∧ ∃ A19, ∃ n20, ∃ c21, ∃ vs23, v = .slice A19 n20 c21 ∧ n20 = r.length ∧ St [] W w' [.mat A19 n20 c21 28 2 vs23 r] := by
  subst hn_p0_a_1
  subst hn_p1_b_1
  unfold impl_addMatrices at hm
  refine Calls.enter (N := 13) Try.func92 rfl rfl rfl (fun a hf => ?_)
  have hs := St.start W
  obtain ⟨w, hw_⟩ : ∃ w, w = W := ⟨W, rfl⟩
  clear hw_ w
  refine wpL_seq ?_
  refine wpL_region ?_
  refine sBox hf hs rfl rfl rfl rfl rfl (cs := [.slice A_p0_a_1 p0_a.length c_p0_a_1]) rfl ?_; clear hf hs; intro a w b1 hs hf
  have hs : St [] W w [.blk b1 40 [.slice A_p0_a_1 p0_a.length c_p0_a_1]] := hs
  refine sBox hf hs rfl rfl rfl rfl rfl (cs := [.slice A_p1_b_1 p1_b.length c_p1_b_1]) rfl ?_; clear hf hs; intro a w b2 hs hf
  have hs : St [] W w [.blk b1 40 [.slice A_p0_a_1 p0_a.length c_p0_a_1], .blk b2 40 [.slice A_p1_b_1 p1_b.length c_p1_b_1]] := hs
  refine sY hf hs rfl rfl rfl (Y_assign rfl rfl) ?_; clear hf; intro a hf
  refine wpO_nil ?_
  refine wpL_seq ?_
  refine wpL_drawM [.blk b1 40 [.slice A_p0_a_1 p0_a.length c_p0_a_1], .blk b2 40 [.slice A_p1_b_1 p1_b.length c_p1_b_1]] [7] (by kernel_rfl) hs ?_; clear hs; intro w hs
  have hs0 : St [] W w [.blk b1 40 [.slice A_p0_a_1 p0_a.length c_p0_a_1], .blk b2 40 [.slice A_p1_b_1 p1_b.length c_p1_b_1]] := hs
  refine mY (i := 0) [[1]] rfl (by kernel_rfl) (by kernel_rfl) hf hs0 rfl rfl rfl (Y_load_blk rfl rfl (i := 0) rfl rfl ag40) ?_; clear hf; intro a hf
  refine mYp (i := 1) rfl (by kernel_rfl) (by kernel_rfl) hf rfl rfl rfl (fun _ => Y_lenH rfl rfl el40 rfl) ?_; clear hf; intro a hf
  refine mY (i := 2) [[3, 4, 5]] rfl (by kernel_rfl) (by kernel_rfl) hf hs0 rfl rfl rfl (Y_load_blk rfl rfl (i := 0) rfl rfl ag40) ?_; clear hf; intro a hf
  obtain ⟨q3, hi4, hm⟩ := bind_some hm
  obtain ⟨hi4a, hi4b, hi4q⟩ := idx_some hi4
  obtain ⟨vs5, hv6, hr7⟩ := id h_p0_a_1
  obtain ⟨A8, c9, hv10, hR11⟩ := hr7 _ _ hi4q
  refine mYp (i := 3) rfl (by kernel_rfl) (by kernel_rfl) hf rfl rfl rfl (fun _ => Y_index rfl rfl rfl el40 ti28 (Rd.isAt hv6 hv10) hi4a hi4b) ?_; clear hf; intro a hf
  refine mY (i := 4) [[5]] rfl (by kernel_rfl) (by kernel_rfl) hf hs0 rfl rfl rfl (Y_load_rd rfl rfl (fun w hs => hv6.at hs) (at1 hv10) ag28) ?_; clear hf; intro a hf
  refine mYp (i := 5) rfl (by kernel_rfl) (by kernel_rfl) hf rfl rfl rfl (fun _ => Y_lenH rfl rfl el28 rfl) ?_; clear hf; intro a hf
  refine mYp (i := 6) rfl (by kernel_rfl) (by kernel_rfl) hf rfl rfl rfl (fun _ => Y_makeFunc (us := []) (vs := [.pointer (some ⟨b1, 0, none⟩), .pointer (some ⟨b2, 0, none⟩)]) rfl rfl rfl) ?_; clear hf; intro a hf
  refine mRun (i := 7) rfl (by kernel_rfl) ?_
  obtain ⟨r12, hc13, hm⟩ := bind_some hm
  refine sCall hf rfl rfl rfl rfl (cap := []) rfl rfl en111 (impl_matrixBy_ok F (p0_a.length : Int) (q3.length : Int) (fun x0 x1 => impl_addMatrices_c1 F x0 x1 p0_a p1_b) 160 ([.pointer (some ⟨b1, 0, none⟩), .pointer (some ⟨b2, 0, none⟩)]) _ _ hc13 (fun x0 x1 r w' hm_ hb => impl_addMatrices_c1_ok F x0 x1 b1 p0_a A_p0_a_1 p0_a.length c_p0_a_1 rfl b2 p1_b A_p1_b_1 p1_b.length c_p1_b_1 rfl r w' hm_ ((h_p0_a_1.at hs).below hb (Nat.le_refl _)) ((hs.pb (i := 0) rfl).below hb (Nat.le_refl _)) ((h_p1_b_1.at hs).below hb (Nat.le_refl _)) ((hs.pb (i := 1) rfl).below hb (Nat.le_refl _))) en160) ?_; clear hf
  rintro _ w ⟨A14, n15, c16, vs18, rfl, hn17, hs1⟩ a hf
  have hs : St [] W w [.blk b1 40 [.slice A_p0_a_1 p0_a.length c_p0_a_1], .blk b2 40 [.slice A_p1_b_1 p1_b.length c_p1_b_1], .mat A14 n15 c16 28 2 vs18 r12] := hs.join hs1
  clear hs1
  refine wpO_nil ⟨Or.inl (by decide), ?_⟩
  refine mYp (i := 8) rfl (by kernel_rfl) (by kernel_rfl) hf rfl rfl rfl (fun _ => Y_assign rfl rfl) ?_; clear hf; intro a hf
  refine mDone (by kernel_rfl) ?_
  clear hs0
  obtain rfl := Option.some.inj hm
  refine wpL_ret (ret_tmp rfl hf rfl ?_)
  exact ⟨_, rfl, A14, n15, c16, vs18, rfl, hn17, hs.sel [2] (by decide)⟩

set_option maxRecDepth 100000 in
theorem impl_times_ok (F : Nat) (p0_a : Int) (p1_b : Int) (r : Int) (W : World) (hm : impl_times F p0_a p1_b = some r) :
    Calls Try.prog 145 [.int .i64 p0_a, .int .i64 p1_b].toArray W fun e w' => ∃ v, e = .returned v ∧ v = .int .i64 r ∧ St [] W w' [] := by
  unfold impl_times at hm
  refine Calls.enter (N := 14) Try.func145 rfl rfl rfl (fun a hf => ?_)
  have hs := St.start W
  obtain ⟨w, hw_⟩ : ∃ w, w = W := ⟨W, rfl⟩
  clear hw_ w
  refine wpL_seq ?_
  refine wpL_region ?_
  refine sY hf hs rfl rfl rfl (Y_assign rfl rfl) ?_; clear hf; intro a hf
  refine wpO_nil ?_
  refine wpL_seq ?_
  refine wpL_seq ?_
  obtain ⟨r3, hj4, hm⟩ := bind_some hm
  refine wpL_cut (fun a w => ∃ b2 : Bool, b2 = r3 ∧ Fr a 14 [(0, .int .i64 p0_a), (1, .int .i64 p1_b), (10, .bool b2)] ∧ St [] W w []) ?_ ?_
  · refine wpL_region ?_
    refine sY hf hs rfl rfl rfl (Y_move rfl rfl) ?_; clear hf; intro a hf
    refine sY hf hs rfl rfl rfl (Y_eql rfl rfl rfl) ?_; clear hf; intro a hf
    refine sY hf hs rfl rfl rfl (Y_move rfl rfl) ?_; clear hf; intro a hf
    refine bsplit (p0_a == (-1000000000000000)) (fun hb5 => ?_) (fun hb5 => ?_)
    · have hj4 := bif_t hj4 hb5
      refine sNo hf rfl rfl rfl (congrArg (fun b => some (Value.bool b)) hb5) rfl rfl rfl ?_; clear hf; intro a hf
      refine sNo hf rfl rfl rfl (congrArg (fun b => some (Value.bool b)) hb5) rfl rfl rfl ?_; clear hf; intro a hf
      refine sY hf hs rfl rfl rfl (Y_pickT rfl (congrArg (fun b => some (Value.bool b)) hb5) rfl) ?_; clear hf; intro a hf
      refine wpO_nil ?_
      refine wpL_nil (then_normal ?_)
      exact ⟨true, Option.some.inj hj4, (FrD.pick (FrD.pick (FrD.pick hf.none hf rfl) hf rfl) hf rfl), hs⟩
    · have hj4 := bif_f hj4 hb5
      refine sYg hf hs rfl rfl rfl (congrArg (fun b => some (Value.bool b)) hb5) rfl rfl rfl (Y_move rfl rfl) ?_; clear hf; intro a hf
      refine sYg hf hs rfl rfl rfl (congrArg (fun b => some (Value.bool b)) hb5) rfl rfl rfl (Y_eql rfl rfl rfl) ?_; clear hf; intro a hf
      refine sY hf hs rfl rfl rfl (Y_pickF rfl (congrArg (fun b => some (Value.bool b)) hb5) rfl) ?_; clear hf; intro a hf
      refine wpO_nil ?_
      refine wpL_nil (then_normal ?_)
      exact ⟨(p1_b == (-1000000000000000)), Option.some.inj hj4, (FrD.pick (FrD.pick (FrD.pick hf.none hf rfl) hf rfl) hf rfl), hs⟩
  · rintro a w ⟨b2, hr_, hf, hs⟩
    subst hr_
    try dsimp only at hm
    refine wpL_cond hf rfl (fun hb6 => ?_) (fun hb6 => ?_)
    · have hm := bif_t hm hb6
      refine wpL_seq ?_
      refine wpL_region ?_
      refine sY hf hs rfl rfl rfl (Y_assign rfl rfl) ?_; clear hf; intro a hf
      refine wpO_nil ?_
      obtain rfl := Option.some.inj hm
      refine wpL_ret (ret_tmp rfl hf rfl ?_)
      exact ⟨_, rfl, rfl, hs⟩
    · have hm := bif_f hm hb6
      refine wpL_skip ?_
      refine wpL_seq ?_
      refine wpL_region ?_
      refine sY hf hs rfl rfl rfl (Y_move rfl rfl) ?_; clear hf; intro a hf
      refine sY hf hs rfl rfl rfl (Y_move rfl rfl) ?_; clear hf; intro a hf
      refine sY hf hs rfl rfl rfl (Y_add rfl rfl rfl) ?_; clear hf; intro a hf
      refine sY hf hs rfl rfl rfl (Y_assign rfl rfl) ?_; clear hf; intro a hf
      refine wpO_nil ?_
      obtain rfl := Option.some.inj hm
      refine wpL_ret (ret_tmp rfl hf rfl ?_)
      exact ⟨_, rfl, rfl, hs⟩

set_option maxHeartbeats 2000000 in
set_option maxRecDepth 100000 in
theorem impl_starOf_ok (F : Nat) (p0 : List (List Int)) (A_p0_1 : Option Addr) (n_p0_1 c_p0_1 : Nat) (hn_p0_1 : n_p0_1 = p0.length) (r : List (List Int) × Bool) (W : World) (hm : impl_starOf F p0 = some r) (h_p0_1 : RdM W A_p0_1 p0) :
    Calls Try.prog 80 [.slice A_p0_1 n_p0_1 c_p0_1].toArray W fun e w' => ∃ v, e = .returned v ∧ ∃ A5035, ∃ n5036, ∃ c5037, ∃ vs5039, v = .tuple #[.slice A5035 n5036 c5037, .bool r.2] ∧ n5036 = r.1.length ∧ St [] W w' [.mat A5035 n5036 c5037 28 2 vs5039 r.1] := by
  subst hn_p0_1
  unfold impl_starOf at hm
  refine Calls.enter (N := 84) Try.func80 rfl rfl rfl (fun a hf => ?_)
  have hs := St.start W
  obtain ⟨w, hw_⟩ : ∃ w, w = W := ⟨W, rfl⟩
  clear hw_ w
  refine wpL_seq ?_
  refine wpL_region ?_
  refine sY hf hs rfl rfl rfl (Y_assign rfl rfl) ?_; clear hf; intro a hf
  refine sY hf hs rfl rfl rfl (Y_assign rfl rfl) ?_; clear hf; intro a hf
  refine wpO_nil ?_
  refine wpL_seq ?_
  refine wpL_region ?_
  refine sY hf hs rfl rfl rfl (Y_move rfl rfl) ?_; clear hf; intro a hf
  refine sY hf hs rfl rfl rfl (Y_move rfl rfl) ?_; clear hf; intro a hf
  refine sY hf hs rfl rfl rfl (Y_lenH rfl rfl el40 rfl) ?_; clear hf; intro a hf
  obtain ⟨r1, hc2, hm⟩ := bind_some hm
  refine sCall hf rfl rfl rfl rfl (cap := []) rfl rfl en90 (impl_unitMatrix_ok F (p0.length : Int) _ _ hc2) ?_; clear hf
  rintro _ w ⟨A3, n4, c5, vs7, rfl, hn6, hs1⟩ a hf
  have hs : St [] W w [.mat A3 n4 c5 28 2 vs7 r1] := hs.join hs1
  clear hs1
  obtain ⟨r8, hc9, hm⟩ := bind_some hm
  refine sCall hf rfl rfl rfl rfl (cap := []) rfl rfl en92 (impl_addMatrices_ok F p0 A_p0_1 p0.length c_p0_1 rfl r1 A3 n4 c5 hn6 _ _ hc9 (h_p0_1.at hs) (hs.rdM (i := 0) rfl)) ?_; clear hf
  rintro _ w ⟨A10, n11, c12, vs14, rfl, hn13, hs1⟩ a hf
  have hs : St [] W w [.mat A3 n4 c5 28 2 vs7 r1, .mat A10 n11 c12 28 2 vs14 r8] := hs.join hs1
  clear hs1
  refine sY hf hs rfl rfl rfl (Y_assign rfl rfl) ?_; clear hf; intro a hf
  refine wpO_nil ?_
  refine wpL_seq ?_
  refine wpL_seq ?_
  refine wpL_region ?_
  refine sY hf hs rfl rfl rfl (Y_move rfl rfl) ?_; clear hf; intro a hf
  refine sY hf hs rfl rfl rfl (Y_lenH rfl rfl el40 hn13) ?_; clear hf; intro a hf
  refine sY hf hs rfl rfl rfl (Y_move rfl rfl) ?_; clear hf; intro a hf
  refine wpO_nil ?_
  obtain ⟨r3746, hl3747, hm⟩ := bind_some hm
  refine wpL_block (fun a w => ∃ ms3744 : List (List Int), Sum.inr ms3744 = r3746 ∧ n11 = ms3744.length ∧ Fr a 84 [(4, .slice A10 n11 c12)] ∧ St [] W w [.mat A10 n11 c12 28 2 vs14 ms3744]) ?_ ?_
  · refine wpL_loop (fun n a w => ∃ ms2500 : List (List Int), ∃ x2502 : Int, impl_starOf_L16 F r8 n ms2500 x2502 = some r3746 ∧ n11 = ms2500.length ∧ Fr a 84 [(4, .slice A10 n11 c12), (15, .int .i64 (r8.length : Int)), (16, .int .i64 x2502)] ∧ St [] W w [.mat A10 n11 c12 28 2 vs14 ms2500]) F ?_ ?_ ?_
    · exact ⟨r8, 0, hl3747, hn13, (FrD.pick (FrD.pick (FrD.pick hf.none hf rfl) hf rfl) hf rfl), hs.sel [1] (by decide)⟩
    · rintro a w ⟨ms2500, x2502, h0_, -, -, -⟩; simp [impl_starOf_L16] at h0_
    · rintro n3749 a w ⟨ms2500, x2502, hm3748, hn2501, hf, hs⟩
      rw [impl_starOf_L16] at hm3748
      refine wpL_seq ?_
      refine wpL_region ?_
      refine sY hf hs rfl rfl rfl (Y_lss rfl rfl rfl) ?_; clear hf; intro a hf
      refine wpO_nil ?_
      refine wpL_seq ?_
      refine wpL_cond hf rfl (fun hb3750 => ?_) (fun hb3750 => ?_)
      · have hm3748 := bif_t hm3748 hb3750
        refine wpL_skip ?_
        refine wpL_seq ?_
        refine wpL_block0 ?_
        refine wpL_seq ?_
        refine wpL_region ?_
        refine sY hf hs rfl rfl rfl (Y_move rfl rfl) ?_; clear hf; intro a hf
        refine sY hf hs rfl rfl rfl (Y_assign rfl rfl) ?_; clear hf; intro a hf
        refine wpO_nil ?_
        refine wpL_seq ?_
        refine wpL_seq ?_
        refine wpL_region ?_
        refine sY hf hs rfl rfl rfl (Y_move rfl rfl) ?_; clear hf; intro a hf
        refine sY hf hs rfl rfl rfl (Y_move rfl rfl) ?_; clear hf; intro a hf
        obtain ⟨q3751, hi3752, hm3748⟩ := bind_some hm3748
        obtain ⟨hi3752a, hi3752b, hi3752q⟩ := idx_some hi3752
        obtain ⟨A3753, c3754, hv3755⟩ := hs.matRow (i := 0) rfl hi3752q
        refine sY hf hs rfl rfl rfl (Y_index rfl rfl rfl el40 ti28 (Rd.isAt (hs.rdV (i := 0) rfl) hv3755) hi3752a (ltn hn2501 hi3752b)) ?_; clear hf; intro a hf
        refine sY hf hs rfl rfl rfl (Y_load_rd rfl rfl (fun w hs => hs.rdV (i := 0) rfl) (at1 hv3755) ag28) ?_; clear hf; intro a hf
        refine sY hf hs rfl rfl rfl (Y_move rfl rfl) ?_; clear hf; intro a hf
        obtain ⟨q3756, hi3757, hm3748⟩ := bind_some hm3748
        obtain ⟨hi3757a, hi3757b, hi3757q⟩ := idx_some hi3757
        refine sY hf hs rfl rfl rfl (Y_index rfl rfl rfl el28 ti2 (Rd.isAt (hs.rdRow (i := 0) rfl ⟨hi3752q, hv3755⟩) (at1 (ints_at hi3757q))) hi3757a hi3757b) ?_; clear hf; intro a hf
        refine sY hf hs rfl rfl rfl (Y_load_rd rfl rfl (fun w hs => hs.rdRow (i := 0) rfl ⟨hi3752q, hv3755⟩) (at1 (ints_at hi3757q)) ag2) ?_; clear hf; intro a hf
        refine sY hf hs rfl rfl rfl (Y_gtr rfl rfl rfl) ?_; clear hf; intro a hf
        refine wpO_nil ?_
        refine wpL_cond hf rfl (fun hb3758 => ?_) (fun hb3758 => ?_)
        · have hm3748 := bif_t hm3748 hb3758
          refine wpL_seq ?_
          refine wpL_region ?_
          refine sY hf hs rfl rfl rfl (Y_assign rfl rfl) ?_; clear hf; intro a hf
          refine sY hf hs rfl rfl rfl (Y_assign rfl rfl) ?_; clear hf; intro a hf
          refine wpO_nil ?_
          have hs : St [] W _ [.mat A10 n11 c12 28 2 vs14 ms2500, .mat none 0 0 28 2 [] ([] : List (List Int))] := hs.addNilM 28 2
          obtain rfl := Option.some.inj hm3748
          try dsimp only at hm
          obtain rfl := Option.some.inj hm
          refine wpL_ret (Qb_ret (Ql_ret (Qb_ret (ret_tmp2 rfl hf rfl rfl ?_))))
          exact ⟨_, rfl, none, 0, 0, [], rfl, rfl, hs.sel [1] (by decide)⟩
        · have hm3748 := bif_f hm3748 hb3758
          refine wpL_skip ?_
          refine wpL_seq ?_
          refine wpL_region ?_
          refine sY hf hs rfl rfl rfl (Y_move rfl rfl) ?_; clear hf; intro a hf
          refine sY hf hs rfl rfl rfl (Y_lenH rfl rfl el40 hn2501) ?_; clear hf; intro a hf
          refine sY hf hs rfl rfl rfl (Y_move rfl rfl) ?_; clear hf; intro a hf
          refine wpO_nil ?_
          obtain ⟨r4683, hl4684, hm3748⟩ := bind_some hm3748
          refine wpL_block (fun a w => ∃ ms4681 : List (List Int), ms4681 = r4683 ∧ n11 = ms4681.length ∧ Fr a 84 [(4, .slice A10 n11 c12), (15, .int .i64 (r8.length : Int)), (16, .int .i64 x2502)] ∧ St [] W w [.mat A10 n11 c12 28 2 vs14 ms4681]) ?_ ?_
          · refine wpL_loop (fun n a w => ∃ ms4373 : List (List Int), ∃ x4375 : Int, impl_starOf_L20 F ms2500 x2502 n ms4373 x4375 = some r4683 ∧ n11 = ms4373.length ∧ Fr a 84 [(4, .slice A10 n11 c12), (5, .int .i64 x2502), (15, .int .i64 (r8.length : Int)), (16, .int .i64 x2502), (28, .int .i64 (ms2500.length : Int)), (29, .int .i64 x4375)] ∧ St [] W w [.mat A10 n11 c12 28 2 vs14 ms4373]) F ?_ ?_ ?_
            · exact ⟨ms2500, 0, hl4684, hn2501, (FrD.pick (FrD.pick (FrD.pick (FrD.pick (FrD.pick (FrD.pick hf.none hf rfl) hf rfl) hf rfl) hf rfl) hf rfl) hf rfl), hs⟩
            · rintro a w ⟨ms4373, x4375, h0_, -, -, -⟩; simp [impl_starOf_L20] at h0_
            · rintro n4686 a w ⟨ms4373, x4375, hm4685, hn4374, hf, hs⟩
              rw [impl_starOf_L20] at hm4685
              refine wpL_seq ?_
              refine wpL_region ?_
              refine sY hf hs rfl rfl rfl (Y_lss rfl rfl rfl) ?_; clear hf; intro a hf
              refine wpO_nil ?_
              refine wpL_seq ?_
              refine wpL_cond hf rfl (fun hb4687 => ?_) (fun hb4687 => ?_)
              · have hm4685 := bif_t hm4685 hb4687
                refine wpL_skip ?_
                refine wpL_seq ?_
                refine wpL_block0 ?_
                refine wpL_seq ?_
                refine wpL_region ?_
                refine sY hf hs rfl rfl rfl (Y_move rfl rfl) ?_; clear hf; intro a hf
                refine sY hf hs rfl rfl rfl (Y_assign rfl rfl) ?_; clear hf; intro a hf
                refine wpO_nil ?_
                refine wpL_seq ?_
                refine wpL_region ?_
                refine sY hf hs rfl rfl rfl (Y_move rfl rfl) ?_; clear hf; intro a hf
                refine sY hf hs rfl rfl rfl (Y_lenH rfl rfl el40 hn4374) ?_; clear hf; intro a hf
                refine sY hf hs rfl rfl rfl (Y_move rfl rfl) ?_; clear hf; intro a hf
                refine wpO_nil ?_
                obtain ⟨r4915, hl4916, hm4685⟩ := bind_some hm4685
                refine wpL_block (fun a w => ∃ ms4913 : List (List Int), ms4913 = r4915 ∧ n11 = ms4913.length ∧ Fr a 84 [(4, .slice A10 n11 c12), (5, .int .i64 x2502), (15, .int .i64 (r8.length : Int)), (16, .int .i64 x2502), (28, .int .i64 (ms2500.length : Int)), (29, .int .i64 x4375)] ∧ St [] W w [.mat A10 n11 c12 28 2 vs14 ms4913]) ?_ ?_
                · refine wpL_loop (fun n a w => ∃ ms4837 : List (List Int), ∃ x4839 : Int, impl_starOf_L21 F x2502 ms4373 x4375 n ms4837 x4839 = some r4915 ∧ n11 = ms4837.length ∧ Fr a 84 [(4, .slice A10 n11 c12), (5, .int .i64 x2502), (6, .int .i64 x4375), (15, .int .i64 (r8.length : Int)), (16, .int .i64 x2502), (28, .int .i64 (ms2500.length : Int)), (29, .int .i64 x4375), (33, .int .i64 (ms4373.length : Int)), (34, .int .i64 x4839)] ∧ St [] W w [.mat A10 n11 c12 28 2 vs14 ms4837]) F ?_ ?_ ?_
                  · exact ⟨ms4373, 0, hl4916, hn4374, (FrD.pick (FrD.pick (FrD.pick (FrD.pick (FrD.pick (FrD.pick (FrD.pick (FrD.pick (FrD.pick hf.none hf rfl) hf rfl) hf rfl) hf rfl) hf rfl) hf rfl) hf rfl) hf rfl) hf rfl), hs⟩
                  · rintro a w ⟨ms4837, x4839, h0_, -, -, -⟩; simp [impl_starOf_L21] at h0_
                  · rintro n4918 a w ⟨ms4837, x4839, hm4917, hn4838, hf, hs⟩
                    rw [impl_starOf_L21] at hm4917
                    refine wpL_seq ?_
                    refine wpL_region ?_
                    refine sY hf hs rfl rfl rfl (Y_lss rfl rfl rfl) ?_; clear hf; intro a hf
                    refine wpO_nil ?_
                    refine wpL_seq ?_
                    refine wpL_cond hf rfl (fun hb4919 => ?_) (fun hb4919 => ?_)
                    · have hm4917 := bif_t hm4917 hb4919
                      refine wpL_skip ?_
                      refine wpL_seq ?_
                      refine wpL_block0 ?_
                      refine wpL_seq ?_
                      refine wpL_region ?_
                      refine sY hf hs rfl rfl rfl (Y_move rfl rfl) ?_; clear hf; intro a hf
                      refine sY hf hs rfl rfl rfl (Y_assign rfl rfl) ?_; clear hf; intro a hf
                      refine wpO_nil ?_
                      refine wpL_drawM [.mat A10 n11 c12 28 2 vs14 ms4837] [29] (by kernel_rfl) hs ?_; clear hs; intro w hs
                      have hs0 : St [] W w [.mat A10 n11 c12 28 2 vs14 ms4837] := hs
                      refine mYp (i := 0) rfl (by kernel_rfl) (by kernel_rfl) hf rfl rfl rfl (fun _ => Y_move rfl rfl) ?_; clear hf; intro a hf
                      refine mYp (i := 1) rfl (by kernel_rfl) (by kernel_rfl) hf rfl rfl rfl (fun _ => Y_move rfl rfl) ?_; clear hf; intro a hf
                      obtain ⟨q4956, hi4957, hm4917⟩ := bind_some hm4917
                      obtain ⟨hi4957a, hi4957b, hi4957q⟩ := idx_some hi4957
                      obtain ⟨A4958, c4959, hv4960⟩ := hs.matRow (i := 0) rfl hi4957q
                      refine mYp (i := 2) rfl (by kernel_rfl) (by kernel_rfl) hf rfl rfl rfl (fun _ => Y_index rfl rfl rfl el40 ti28 (Rd.isAt (hs.rdV (i := 0) rfl) hv4960) hi4957a (ltn hn4838 hi4957b)) ?_; clear hf; intro a hf
                      refine mY (i := 3) [[]] rfl (by kernel_rfl) (by kernel_rfl) hf hs0 rfl rfl rfl (Y_load_rd rfl rfl (fun w hs => hs.rdV (i := 0) rfl) (at1 hv4960) ag28) ?_; clear hf; intro a hf
                      refine mYp (i := 4) rfl (by kernel_rfl) (by kernel_rfl) hf rfl rfl rfl (fun _ => Y_move rfl rfl) ?_; clear hf; intro a hf
                      refine mYp (i := 5) rfl (by kernel_rfl) (by kernel_rfl) hf rfl rfl rfl (fun _ => Y_move rfl rfl) ?_; clear hf; intro a hf
                      refine mYp (i := 6) rfl (by kernel_rfl) (by kernel_rfl) hf rfl rfl rfl (fun _ => Y_move rfl rfl) ?_; clear hf; intro a hf
                      obtain ⟨q4961, hi4962, hm4917⟩ := bind_some hm4917
                      obtain ⟨hi4962a, hi4962b, hi4962q⟩ := idx_some hi4962
                      obtain ⟨A4963, c4964, hv4965⟩ := hs.matRow (i := 0) rfl hi4962q
                      refine mYp (i := 7) rfl (by kernel_rfl) (by kernel_rfl) hf rfl rfl rfl (fun _ => Y_index rfl rfl rfl el40 ti28 (Rd.isAt (hs.rdV (i := 0) rfl) hv4965) hi4962a (ltn hn4838 hi4962b)) ?_; clear hf; intro a hf
                      refine mY (i := 8) [[]] rfl (by kernel_rfl) (by kernel_rfl) hf hs0 rfl rfl rfl (Y_load_rd rfl rfl (fun w hs => hs.rdV (i := 0) rfl) (at1 hv4965) ag28) ?_; clear hf; intro a hf
                      refine mYp (i := 9) rfl (by kernel_rfl) (by kernel_rfl) hf rfl rfl rfl (fun _ => Y_move rfl rfl) ?_; clear hf; intro a hf
                      obtain ⟨q4966, hi4967, hm4917⟩ := bind_some hm4917
                      obtain ⟨hi4967a, hi4967b, hi4967q⟩ := idx_some hi4967
                      refine mYp (i := 10) rfl (by kernel_rfl) (by kernel_rfl) hf rfl rfl rfl (fun _ => Y_index rfl rfl rfl el28 ti2 (Rd.isAt (hs.rdRow (i := 0) rfl ⟨hi4962q, hv4965⟩) (at1 (ints_at hi4967q))) hi4967a hi4967b) ?_; clear hf; intro a hf
                      refine mY (i := 11) [[]] rfl (by kernel_rfl) (by kernel_rfl) hf hs0 rfl rfl rfl (Y_load_rd rfl rfl (fun w hs => hs.rdRow (i := 0) rfl ⟨hi4962q, hv4965⟩) (at1 (ints_at hi4967q)) ag2) ?_; clear hf; intro a hf
                      refine mYp (i := 12) rfl (by kernel_rfl) (by kernel_rfl) hf rfl rfl rfl (fun _ => Y_move rfl rfl) ?_; clear hf; intro a hf
                      refine mYp (i := 13) rfl (by kernel_rfl) (by kernel_rfl) hf rfl rfl rfl (fun _ => Y_move rfl rfl) ?_; clear hf; intro a hf
                      obtain ⟨q4968, hi4969, hm4917⟩ := bind_some hm4917
                      obtain ⟨hi4969a, hi4969b, hi4969q⟩ := idx_some hi4969
                      obtain ⟨A4970, c4971, hv4972⟩ := hs.matRow (i := 0) rfl hi4969q
                      refine mYp (i := 14) rfl (by kernel_rfl) (by kernel_rfl) hf rfl rfl rfl (fun _ => Y_index rfl rfl rfl el40 ti28 (Rd.isAt (hs.rdV (i := 0) rfl) hv4972) hi4969a (ltn hn4838 hi4969b)) ?_; clear hf; intro a hf
                      refine mY (i := 15) [[]] rfl (by kernel_rfl) (by kernel_rfl) hf hs0 rfl rfl rfl (Y_load_rd rfl rfl (fun w hs => hs.rdV (i := 0) rfl) (at1 hv4972) ag28) ?_; clear hf; intro a hf
                      refine mYp (i := 16) rfl (by kernel_rfl) (by kernel_rfl) hf rfl rfl rfl (fun _ => Y_move rfl rfl) ?_; clear hf; intro a hf
                      obtain ⟨q4973, hi4974, hm4917⟩ := bind_some hm4917
                      obtain ⟨hi4974a, hi4974b, hi4974q⟩ := idx_some hi4974
                      refine mYp (i := 17) rfl (by kernel_rfl) (by kernel_rfl) hf rfl rfl rfl (fun _ => Y_index rfl rfl rfl el28 ti2 (Rd.isAt (hs.rdRow (i := 0) rfl ⟨hi4969q, hv4972⟩) (at1 (ints_at hi4974q))) hi4974a hi4974b) ?_; clear hf; intro a hf
                      refine mY (i := 18) [[]] rfl (by kernel_rfl) (by kernel_rfl) hf hs0 rfl rfl rfl (Y_load_rd rfl rfl (fun w hs => hs.rdRow (i := 0) rfl ⟨hi4969q, hv4972⟩) (at1 (ints_at hi4974q)) ag2) ?_; clear hf; intro a hf
                      refine mYp (i := 19) rfl (by kernel_rfl) (by kernel_rfl) hf rfl rfl rfl (fun _ => Y_move rfl rfl) ?_; clear hf; intro a hf
                      refine mYp (i := 20) rfl (by kernel_rfl) (by kernel_rfl) hf rfl rfl rfl (fun _ => Y_move rfl rfl) ?_; clear hf; intro a hf
                      obtain ⟨q4975, hi4976, hm4917⟩ := bind_some hm4917
                      obtain ⟨hi4976a, hi4976b, hi4976q⟩ := idx_some hi4976
                      obtain ⟨A4977, c4978, hv4979⟩ := hs.matRow (i := 0) rfl hi4976q
                      refine mYp (i := 21) rfl (by kernel_rfl) (by kernel_rfl) hf rfl rfl rfl (fun _ => Y_index rfl rfl rfl el40 ti28 (Rd.isAt (hs.rdV (i := 0) rfl) hv4979) hi4976a (ltn hn4838 hi4976b)) ?_; clear hf; intro a hf
                      refine mY (i := 22) [[]] rfl (by kernel_rfl) (by kernel_rfl) hf hs0 rfl rfl rfl (Y_load_rd rfl rfl (fun w hs => hs.rdV (i := 0) rfl) (at1 hv4979) ag28) ?_; clear hf; intro a hf
                      refine mYp (i := 23) rfl (by kernel_rfl) (by kernel_rfl) hf rfl rfl rfl (fun _ => Y_move rfl rfl) ?_; clear hf; intro a hf
                      obtain ⟨q4980, hi4981, hm4917⟩ := bind_some hm4917
                      obtain ⟨hi4981a, hi4981b, hi4981q⟩ := idx_some hi4981
                      refine mYp (i := 24) rfl (by kernel_rfl) (by kernel_rfl) hf rfl rfl rfl (fun _ => Y_index rfl rfl rfl el28 ti2 (Rd.isAt (hs.rdRow (i := 0) rfl ⟨hi4976q, hv4979⟩) (at1 (ints_at hi4981q))) hi4981a hi4981b) ?_; clear hf; intro a hf
                      refine mY (i := 25) [[]] rfl (by kernel_rfl) (by kernel_rfl) hf hs0 rfl rfl rfl (Y_load_rd rfl rfl (fun w hs => hs.rdRow (i := 0) rfl ⟨hi4976q, hv4979⟩) (at1 (ints_at hi4981q)) ag2) ?_; clear hf; intro a hf
                      refine mRun (i := 26) rfl (by kernel_rfl) ?_
                      obtain ⟨r4982, hc4983, hm4917⟩ := bind_some hm4917
                      refine sCall hf rfl rfl rfl rfl (cap := []) rfl rfl en145 (impl_times_ok F q4973 q4980 _ _ hc4983) ?_; clear hf
                      rintro _ w ⟨rfl, hs1⟩ a hf
                      have hs : St [] W w [.mat A10 n11 c12 28 2 vs14 ms4837] := hs.ext hs1.below
                      clear hs1
                      have hs0 : St [] W w [.mat A10 n11 c12 28 2 vs14 ms4837] := hs
                      refine wpO_nil ⟨Or.inr (fun _ => hs0), ?_⟩
                      refine mYp (i := 27) rfl (by kernel_rfl) (by kernel_rfl) hf rfl rfl rfl (fun _ => Y_max rfl rfl rfl) ?_; clear hf; intro a hf
                      obtain ⟨q4984, hi4985, hm4917⟩ := bind_some hm4917
                      obtain ⟨hi4985a, hi4985b, hi4985q⟩ := idx_some hi4985
                      refine mYp (i := 28) rfl (by kernel_rfl) (by kernel_rfl) hf rfl rfl rfl (fun _ => Y_index rfl rfl rfl el28 ti2 (Rd.isAt (hs.rdRow (i := 0) rfl ⟨hi4957q, hv4960⟩) (at1 (ints_at hi4985q))) hi4985a hi4985b) ?_; clear hf; intro a hf
                      refine mRun (i := 29) rfl (by kernel_rfl) ?_
                      obtain ⟨xs4986, hu4988, hm4917⟩ := bind_some hm4917
                      obtain ⟨ms4987, hu4989, hm4917⟩ := bind_some hm4917
                      refine sStoreM (i := 0) (k := x4375) hf hs rfl rfl rfl rfl rfl rfl hi4957q hv4960 rfl hu4988 hu4989 ti2 ?_; clear hs; intro w hs
                      obtain ⟨hq4990, hv4991⟩ := rowUpd hu4988 hu4989 hv4960
                      have hs : St [] W w [.mat A10 n11 c12 28 2 vs14 ms4987] := hs
                      refine wpO_nil ⟨Or.inl (by decide), ?_⟩
                      refine mDone (by kernel_rfl) ?_
                      clear hs0
                      refine wpL_nil (Qb_normal ?_)
                      refine wpL_region ?_
                      refine sY hf hs rfl rfl rfl (Y_add rfl rfl rfl) ?_; clear hf; intro a hf
                      refine sY hf hs rfl rfl rfl (Y_move rfl rfl) ?_; clear hf; intro a hf
                      refine wpO_nil ?_
                      refine wpL_nil (Ql_normal ?_)
                      exact ⟨ms4987, (IntKind.i64.wrap (x4839 + 1)), hm4917, ((hn4838).trans (upd_len hu4989).symm), (FrD.pick (FrD.pick (FrD.pick (FrD.pick (FrD.pick (FrD.pick (FrD.pick (FrD.pick (FrD.pick hf.none hf rfl) hf rfl) hf rfl) hf rfl) hf rfl) hf rfl) hf rfl) hf rfl) hf rfl), hs⟩
                    · have hm4917 := bif_f hm4917 hb4919
                      refine wpL_exit (Ql_exit (Qb_exit ?_))
                      exact ⟨ms4837, Option.some.inj hm4917, hn4838, (FrD.pick (FrD.pick (FrD.pick (FrD.pick (FrD.pick (FrD.pick hf.none hf rfl) hf rfl) hf rfl) hf rfl) hf rfl) hf rfl), hs⟩
                · rintro a w ⟨ms4913, hr_, hn4914, hf, hs⟩
                  subst hr_
                  try dsimp only at hm4685
                  refine wpL_nil (Qb_normal ?_)
                  refine wpL_region ?_
                  refine sY hf hs rfl rfl rfl (Y_add rfl rfl rfl) ?_; clear hf; intro a hf
                  refine sY hf hs rfl rfl rfl (Y_move rfl rfl) ?_; clear hf; intro a hf
                  refine wpO_nil ?_
                  refine wpL_nil (Ql_normal ?_)
                  exact ⟨ms4913, (IntKind.i64.wrap (x4375 + 1)), hm4685, hn4914, (FrD.pick (FrD.pick (FrD.pick (FrD.pick (FrD.pick (FrD.pick hf.none hf rfl) hf rfl) hf rfl) hf rfl) hf rfl) hf rfl), hs⟩
              · have hm4685 := bif_f hm4685 hb4687
                refine wpL_exit (Ql_exit (Qb_exit ?_))
                exact ⟨ms4373, Option.some.inj hm4685, hn4374, (FrD.pick (FrD.pick (FrD.pick hf.none hf rfl) hf rfl) hf rfl), hs⟩
          · rintro a w ⟨ms4681, hr_, hn4682, hf, hs⟩
            subst hr_
            try dsimp only at hm3748
            refine wpL_nil (Qb_normal ?_)
            refine wpL_region ?_
            refine sY hf hs rfl rfl rfl (Y_add rfl rfl rfl) ?_; clear hf; intro a hf
            refine sY hf hs rfl rfl rfl (Y_move rfl rfl) ?_; clear hf; intro a hf
            refine wpO_nil ?_
            refine wpL_nil (Ql_normal ?_)
            exact ⟨ms4681, (IntKind.i64.wrap (x2502 + 1)), hm3748, hn4682, (FrD.pick (FrD.pick (FrD.pick hf.none hf rfl) hf rfl) hf rfl), hs⟩
      · have hm3748 := bif_f hm3748 hb3750
        refine wpL_exit (Ql_exit (Qb_exit ?_))
        exact ⟨ms2500, Option.some.inj hm3748, hn2501, (FrD.pick hf.none hf rfl), hs⟩
  · rintro a w ⟨ms3744, hr_, hn3745, hf, hs⟩
    subst hr_
    try dsimp only at hm
    refine wpL_seq ?_
    refine wpL_seq ?_
    refine wpL_region ?_
    refine sY hf hs rfl rfl rfl (Y_move rfl rfl) ?_; clear hf; intro a hf
    refine sY hf hs rfl rfl rfl (Y_lenH rfl rfl el40 hn3745) ?_; clear hf; intro a hf
    refine sY hf hs rfl rfl rfl (Y_move rfl rfl) ?_; clear hf; intro a hf
    refine wpO_nil ?_
    obtain ⟨r5021, hl5022, hm⟩ := bind_some hm
    refine wpL_block (fun a w => Sum.inr () = r5021 ∧ Fr a 84 [(4, .slice A10 n11 c12)] ∧ St [] W w [.mat A10 n11 c12 28 2 vs14 ms3744]) ?_ ?_
    · refine wpL_loop (fun n a w => ∃ x5011 : Int, impl_starOf_L22 F ms3744 n x5011 = some r5021 ∧ Fr a 84 [(4, .slice A10 n11 c12), (70, .int .i64 (ms3744.length : Int)), (71, .int .i64 x5011)] ∧ St [] W w [.mat A10 n11 c12 28 2 vs14 ms3744]) F ?_ ?_ ?_
      · exact ⟨0, hl5022, (FrD.pick (FrD.pick (FrD.pick hf.none hf rfl) hf rfl) hf rfl), hs⟩
      · rintro a w ⟨x5011, h0_, -, -⟩; simp [impl_starOf_L22] at h0_
      · rintro n5024 a w ⟨x5011, hm5023, hf, hs⟩
        rw [impl_starOf_L22] at hm5023
        refine wpL_seq ?_
        refine wpL_region ?_
        refine sY hf hs rfl rfl rfl (Y_lss rfl rfl rfl) ?_; clear hf; intro a hf
        refine wpO_nil ?_
        refine wpL_seq ?_
        refine wpL_cond hf rfl (fun hb5025 => ?_) (fun hb5025 => ?_)
        · have hm5023 := bif_t hm5023 hb5025
          refine wpL_skip ?_
          refine wpL_seq ?_
          refine wpL_block0 ?_
          refine wpL_seq ?_
          refine wpL_region ?_
          refine sY hf hs rfl rfl rfl (Y_move rfl rfl) ?_; clear hf; intro a hf
          refine sY hf hs rfl rfl rfl (Y_assign rfl rfl) ?_; clear hf; intro a hf
          refine wpO_nil ?_
          refine wpL_seq ?_
          refine wpL_region ?_
          refine sY hf hs rfl rfl rfl (Y_move rfl rfl) ?_; clear hf; intro a hf
          refine sY hf hs rfl rfl rfl (Y_move rfl rfl) ?_; clear hf; intro a hf
          obtain ⟨q5026, hi5027, hm5023⟩ := bind_some hm5023
          obtain ⟨hi5027a, hi5027b, hi5027q⟩ := idx_some hi5027
          obtain ⟨A5028, c5029, hv5030⟩ := hs.matRow (i := 0) rfl hi5027q
          refine sY hf hs rfl rfl rfl (Y_index rfl rfl rfl el40 ti28 (Rd.isAt (hs.rdV (i := 0) rfl) hv5030) hi5027a (ltn hn3745 hi5027b)) ?_; clear hf; intro a hf
          refine sY hf hs rfl rfl rfl (Y_load_rd rfl rfl (fun w hs => hs.rdV (i := 0) rfl) (at1 hv5030) ag28) ?_; clear hf; intro a hf
          refine sY hf hs rfl rfl rfl (Y_move rfl rfl) ?_; clear hf; intro a hf
          obtain ⟨q5031, hi5032, hm5023⟩ := bind_some hm5023
          obtain ⟨hi5032a, hi5032b, hi5032q⟩ := idx_some hi5032
          refine sY hf hs rfl rfl rfl (Y_index rfl rfl rfl el28 ti2 (Rd.isAt (hs.rdRow (i := 0) rfl ⟨hi5027q, hv5030⟩) (at1 (ints_at hi5032q))) hi5032a hi5032b) ?_; clear hf; intro a hf
          refine sY hf hs rfl rfl rfl (Y_load_rd rfl rfl (fun w hs => hs.rdRow (i := 0) rfl ⟨hi5027q, hv5030⟩) (at1 (ints_at hi5032q)) ag2) ?_; clear hf; intro a hf
          refine sY hf hs rfl rfl rfl (Y_gtr rfl rfl rfl) ?_; clear hf; intro a hf
          refine wpO_nil ?_
          refine wpL_cond hf rfl (fun hb5033 => ?_) (fun hb5033 => ?_)
          · have hm5023 := bif_t hm5023 hb5033
            refine wpL_seq ?_
            refine wpL_region ?_
            refine sY hf hs rfl rfl rfl (Y_assign rfl rfl) ?_; clear hf; intro a hf
            refine sY hf hs rfl rfl rfl (Y_assign rfl rfl) ?_; clear hf; intro a hf
            refine wpO_nil ?_
            have hs : St [] W _ [.mat A10 n11 c12 28 2 vs14 ms3744, .mat none 0 0 28 2 [] ([] : List (List Int))] := hs.addNilM 28 2
            obtain rfl := Option.some.inj hm5023
            try dsimp only at hm
            obtain rfl := Option.some.inj hm
            refine wpL_ret (Qb_ret (Ql_ret (Qb_ret (ret_tmp2 rfl hf rfl rfl ?_))))
            exact ⟨_, rfl, none, 0, 0, [], rfl, rfl, hs.sel [1] (by decide)⟩
          · have hm5023 := bif_f hm5023 hb5033
            refine wpL_skip ?_
            refine wpL_nil (Qb_normal ?_)
            refine wpL_region ?_
            refine sY hf hs rfl rfl rfl (Y_add rfl rfl rfl) ?_; clear hf; intro a hf
            refine sY hf hs rfl rfl rfl (Y_move rfl rfl) ?_; clear hf; intro a hf
            refine wpO_nil ?_
            refine wpL_nil (Ql_normal ?_)
            exact ⟨(IntKind.i64.wrap (x5011 + 1)), hm5023, (FrD.pick (FrD.pick (FrD.pick hf.none hf rfl) hf rfl) hf rfl), hs⟩
        · have hm5023 := bif_f hm5023 hb5025
          refine wpL_exit (Ql_exit (Qb_exit ?_))
          exact ⟨Option.some.inj hm5023, (FrD.pick hf.none hf rfl), hs⟩
    · rintro a w ⟨hr_, hf, hs⟩
      subst hr_
      try dsimp only at hm
      refine wpL_seq ?_
      refine wpL_region ?_
      refine sY hf hs rfl rfl rfl (Y_move rfl rfl) ?_; clear hf; intro a hf
      refine sY hf hs rfl rfl rfl (Y_assign rfl rfl) ?_; clear hf; intro a hf
      refine sY hf hs rfl rfl rfl (Y_assign rfl rfl) ?_; clear hf; intro a hf
      refine wpO_nil ?_
      obtain rfl := Option.some.inj hm
      refine wpL_ret (ret_tmp2 rfl hf rfl rfl ?_)
      exact ⟨_, rfl, A10, n11, c12, vs14, rfl, hn3745, hs⟩

set_option maxRecDepth 100000 in
theorem impl_checkedMatrix_c1_ok (F : Nat) (p0_row : List Int) (A_p0_row_1 : Option Addr) (n_p0_row_1 c_p0_row_1 : Nat) (hn_p0_row_1 : n_p0_row_1 = p0_row.length) (r : Bool) (W : World) (hm : impl_checkedMatrix_c1 F p0_row = some r) (h_p0_row_1 : Rd W A_p0_row_1 (ints p0_row)) :
    Calls Try.prog 147 [.slice A_p0_row_1 n_p0_row_1 c_p0_row_1].toArray W fun e w' => ∃ v, e = .returned v ∧ v = .bool r ∧ St [] W w' [] := by
  subst hn_p0_row_1
  unfold impl_checkedMatrix_c1 at hm
  refine Calls.enter (N := 6) Try.func147 rfl rfl rfl (fun a hf => ?_)
  have hs := St.start W
  obtain ⟨w, hw_⟩ : ∃ w, w = W := ⟨W, rfl⟩
  clear hw_ w
  refine wpL_seq ?_
  refine wpL_region ?_
  refine sY hf hs rfl rfl rfl (Y_assign rfl rfl) ?_; clear hf; intro a hf
  refine wpO_nil ?_
  refine wpL_seq ?_
  refine wpL_region ?_
  refine sY hf hs rfl rfl rfl (Y_move rfl rfl) ?_; clear hf; intro a hf
  obtain ⟨r1, hc2, hm⟩ := bind_some hm
  refine sCall hf rfl rfl rfl rfl (cap := []) rfl rfl en148 (impl_areValues_ok F p0_row A_p0_row_1 p0_row.length c_p0_row_1 rfl _ _ hc2 (h_p0_row_1.at hs)) ?_; clear hf
  rintro _ w ⟨rfl, hs1⟩ a hf
  have hs : St [] W w [] := hs.ext hs1.below
  clear hs1
  refine sY hf hs rfl rfl rfl (Y_not rfl rfl) ?_; clear hf; intro a hf
  refine sY hf hs rfl rfl rfl (Y_assign rfl rfl) ?_; clear hf; intro a hf
  refine wpO_nil ?_
  obtain rfl := Option.some.inj hm
  refine wpL_ret (ret_tmp rfl hf rfl ?_)
  exact ⟨_, rfl, rfl, hs⟩

set_option maxRecDepth 100000 in
theorem impl_checkedMatrix_ok (F : Nat) (p0_a : List (List Int)) (A_p0_a_1 : Option Addr) (n_p0_a_1 c_p0_a_1 : Nat) (hn_p0_a_1 : n_p0_a_1 = p0_a.length) (r : List (List Int) × Int) (W : World) (hm : impl_checkedMatrix F p0_a = some r) (h_p0_a_1 : RdM W A_p0_a_1 p0_a) :
    Calls Try.prog 81 [.slice A_p0_a_1 n_p0_a_1 c_p0_a_1].toArray W fun e w' => ∃ v, e = .returned v ∧ ∃ A4, ∃ n5, ∃ c6, v = .tuple #[.slice A4 n5 c6, .int .i64 r.2] ∧ n5 = r.1.length ∧ Al A_p0_a_1 n_p0_a_1 c_p0_a_1 p0_a A4 n5 c6 r.1 ∧ St [] W w' [] := by
  subst hn_p0_a_1
  unfold impl_checkedMatrix at hm
  refine Calls.enter (N := 7) Try.func81 rfl rfl rfl (fun a hf => ?_)
  have hs := St.start W
  obtain ⟨w, hw_⟩ : ∃ w, w = W := ⟨W, rfl⟩
  clear hw_ w
  refine wpL_seq ?_
  refine wpL_region ?_
  refine sY hf hs rfl rfl rfl (Y_assign rfl rfl) ?_; clear hf; intro a hf
  refine sY hf hs rfl rfl rfl (Y_assign rfl rfl) ?_; clear hf; intro a hf
  refine wpO_nil ?_
  refine wpL_seq ?_
  refine wpL_seq ?_
  refine wpL_region ?_
  refine sY hf hs rfl rfl rfl (Y_move rfl rfl) ?_; clear hf; intro a hf
  obtain ⟨r1, hc2, hm⟩ := bind_some hm
  refine sCall hf rfl rfl rfl rfl (cap := []) rfl rfl en146 (slices_ContainsFunc_sint64_ok F p0_a A_p0_a_1 p0_a.length c_p0_a_1 rfl (fun x0 => impl_checkedMatrix_c1 F x0) 147 [] _ _ hc2 (h_p0_a_1.at hs) (fun x0 Ax00 nx00 cx00 hx00 r w' hm_ hb rx00 => impl_checkedMatrix_c1_ok F x0 Ax00 nx00 cx00 hx00 r w' hm_ rx00) en147) ?_; clear hf
  rintro _ w ⟨rfl, hs1⟩ a hf
  have hs : St [] W w [] := hs.ext hs1.below
  clear hs1
  refine wpO_nil ?_
  refine wpL_cond hf rfl (fun hb3 => ?_) (fun hb3 => ?_)
  · have hm := bif_t hm hb3
    refine wpL_seq ?_
    refine wpL_region ?_
    refine sY hf hs rfl rfl rfl (Y_assign rfl rfl) ?_; clear hf; intro a hf
    refine sY hf hs rfl rfl rfl (Y_assign rfl rfl) ?_; clear hf; intro a hf
    refine wpO_nil ?_
    obtain rfl := Option.some.inj hm
    refine wpL_ret (ret_tmp2 rfl hf rfl rfl ?_)
    exact ⟨_, rfl, none, 0, 0, rfl, rfl, .inr ⟨rfl, rfl, rfl, rfl⟩, hs⟩
  · have hm := bif_f hm hb3
    refine wpL_skip ?_
    refine wpL_seq ?_
    refine wpL_region ?_
    refine sY hf hs rfl rfl rfl (Y_move rfl rfl) ?_; clear hf; intro a hf
    refine sY hf hs rfl rfl rfl (Y_assign rfl rfl) ?_; clear hf; intro a hf
    refine sY hf hs rfl rfl rfl (Y_assign rfl rfl) ?_; clear hf; intro a hf
    refine wpO_nil ?_
    obtain rfl := Option.some.inj hm
    refine wpL_ret (ret_tmp2 rfl hf rfl rfl ?_)
    exact ⟨_, rfl, A_p0_a_1, p0_a.length, c_p0_a_1, rfl, rfl, .inl ⟨rfl, rfl, rfl, rfl⟩, hs⟩

set_option maxRecDepth 100000 in
theorem impl_StarMatrix_ok (F : Nat) (p0_a : List (List Int)) (A_p0_a_1 : Option Addr) (n_p0_a_1 c_p0_a_1 : Nat) (hn_p0_a_1 : n_p0_a_1 = p0_a.length) (r : List (List Int) × Int) (W : World) (hm : impl_StarMatrix F p0_a = some r) (h_p0_a_1 : RdM W A_p0_a_1 p0_a) :
    Calls Try.prog 25 [.slice A_p0_a_1 n_p0_a_1 c_p0_a_1].toArray W fun e w' => ∃ v, e = .returned v ∧ ∃ A22, ∃ n23, ∃ c24, ∃ vs26, v = .tuple #[.slice A22 n23 c24, .int .i64 r.2] ∧ n23 = r.1.length ∧ St [] W w' [.mat A22 n23 c24 28 2 vs26 r.1] := by
  subst hn_p0_a_1
  unfold impl_StarMatrix at hm
  refine Calls.enter (N := 20) Try.func25 rfl rfl rfl (fun a hf => ?_)
  have hs := St.start W
  obtain ⟨w, hw_⟩ : ∃ w, w = W := ⟨W, rfl⟩
  clear hw_ w
  refine wpL_seq ?_
  refine wpL_region ?_
  refine sY hf hs rfl rfl rfl (Y_assign rfl rfl) ?_; clear hf; intro a hf
  refine sY hf hs rfl rfl rfl (Y_assign rfl rfl) ?_; clear hf; intro a hf
  refine wpO_nil ?_
  refine wpL_seq ?_
  refine wpL_seq ?_
  refine wpL_region ?_
  refine sY hf hs rfl rfl rfl (Y_move rfl rfl) ?_; clear hf; intro a hf
  obtain ⟨r1, hc2, hm⟩ := bind_some hm
  refine sCall hf rfl rfl rfl rfl (cap := []) rfl rfl en79 (impl_isSquare_ok F p0_a A_p0_a_1 p0_a.length c_p0_a_1 rfl _ _ hc2 (h_p0_a_1.at hs)) ?_; clear hf
  rintro _ w ⟨rfl, hs1⟩ a hf
  have hs : St [] W w [] := hs.ext hs1.below
  clear hs1
  refine sY hf hs rfl rfl rfl (Y_not rfl rfl) ?_; clear hf; intro a hf
  refine wpO_nil ?_
  refine wpL_cond hf rfl (fun hb3 => ?_) (fun hb3 => ?_)
  · have hm := bif_t hm hb3
    refine wpL_seq ?_
    refine wpL_region ?_
    refine sY hf hs rfl rfl rfl (Y_assign rfl rfl) ?_; clear hf; intro a hf
    refine sY hf hs rfl rfl rfl (Y_assign rfl rfl) ?_; clear hf; intro a hf
    refine wpO_nil ?_
    have hs : St [] W _ [.mat none 0 0 28 2 [] ([] : List (List Int))] := hs.addNilM 28 2
    obtain rfl := Option.some.inj hm
    refine wpL_ret (ret_tmp2 rfl hf rfl rfl ?_)
    exact ⟨_, rfl, none, 0, 0, [], rfl, rfl, hs⟩
  · have hm := bif_f hm hb3
    refine wpL_skip ?_
    refine wpL_seq ?_
    refine wpL_region ?_
    refine sY hf hs rfl rfl rfl (Y_move rfl rfl) ?_; clear hf; intro a hf
    obtain ⟨r5, hc6, hm⟩ := bind_some hm
    refine sCall hf rfl rfl rfl rfl (cap := []) rfl rfl en80 (impl_starOf_ok F p0_a A_p0_a_1 p0_a.length c_p0_a_1 rfl _ _ hc6 (h_p0_a_1.at hs)) ?_; clear hf
    rintro _ w ⟨A7, n8, c9, vs11, rfl, hn10, hs1⟩ a hf
    have hs : St [] W w [.mat A7 n8 c9 28 2 vs11 r5.1] := hs.join hs1
    clear hs1
    refine sY hf hs rfl rfl rfl (Y_move rfl rfl) ?_; clear hf; intro a hf
    refine sY hf hs rfl rfl rfl (Y_extract rfl rfl rfl) ?_; clear hf; intro a hf
    refine sY hf hs rfl rfl rfl (Y_extract rfl rfl rfl) ?_; clear hf; intro a hf
    refine sY hf hs rfl rfl rfl (Y_assign rfl rfl) ?_; clear hf; intro a hf
    refine sY hf hs rfl rfl rfl (Y_assign rfl rfl) ?_; clear hf; intro a hf
    refine wpO_nil ?_
    refine wpL_seq ?_
    refine wpL_seq ?_
    refine wpL_region ?_
    refine sY hf hs rfl rfl rfl (Y_move rfl rfl) ?_; clear hf; intro a hf
    refine sY hf hs rfl rfl rfl (Y_not rfl rfl) ?_; clear hf; intro a hf
    refine wpO_nil ?_
    refine wpL_cond hf rfl (fun hb12 => ?_) (fun hb12 => ?_)
    · have hm := bif_t hm hb12
      refine wpL_seq ?_
      refine wpL_region ?_
      refine sY hf hs rfl rfl rfl (Y_assign rfl rfl) ?_; clear hf; intro a hf
      refine sY hf hs rfl rfl rfl (Y_assign rfl rfl) ?_; clear hf; intro a hf
      refine wpO_nil ?_
      have hs : St [] W _ [.mat A7 n8 c9 28 2 vs11 r5.1, .mat none 0 0 28 2 [] ([] : List (List Int))] := hs.addNilM 28 2
      obtain rfl := Option.some.inj hm
      refine wpL_ret (ret_tmp2 rfl hf rfl rfl ?_)
      exact ⟨_, rfl, none, 0, 0, [], rfl, rfl, hs.sel [1] (by decide)⟩
    · have hm := bif_f hm hb12
      refine wpL_skip ?_
      refine wpL_seq ?_
      refine wpL_region ?_
      refine sY hf hs rfl rfl rfl (Y_move rfl rfl) ?_; clear hf; intro a hf
      obtain ⟨r14, hc15, hm⟩ := bind_some hm
      refine sCall hf rfl rfl rfl rfl (cap := []) rfl rfl en81 (impl_checkedMatrix_ok F r5.1 A7 n8 c9 hn10 _ _ hc15 (hs.rdM (i := 0) rfl)) ?_; clear hf
      rintro _ w ⟨A16, n17, c18, rfl, hn19, hal20, hs1⟩ a hf
      have hs : St [] W w [.mat A7 n8 c9 28 2 vs11 r5.1] := hs.ext hs1.below
      clear hs1
      obtain ⟨vs21, hs⟩ := hs.aliasM (i := 0) rfl hal20
      have hs : St [] W w [.mat A16 n17 c18 28 2 vs21 r14.1] := hs
      refine sY hf hs rfl rfl rfl (Y_extract rfl rfl rfl) ?_; clear hf; intro a hf
      refine sY hf hs rfl rfl rfl (Y_extract rfl rfl rfl) ?_; clear hf; intro a hf
      refine sY hf hs rfl rfl rfl (Y_assign rfl rfl) ?_; clear hf; intro a hf
      refine sY hf hs rfl rfl rfl (Y_assign rfl rfl) ?_; clear hf; intro a hf
      refine wpO_nil ?_
      obtain rfl := Option.some.inj hm
      refine wpL_ret (ret_tmp2 rfl hf rfl rfl ?_)
      exact ⟨_, rfl, A16, n17, c18, vs21, rfl, hn19, hs⟩

set_option maxRecDepth 100000 in
theorem spec_l02Unit_ok (F : Nat) (p0_n : Int) (r : List (List Int)) (W : World) (hm : spec_l02Unit F p0_n = some r) :
    Calls Try.prog 150 [.int .i64 p0_n].toArray W fun e w' => ∃ v, e = .returned v ∧ ∃ A76, ∃ n77, ∃ c78, ∃ vs80, v = .slice A76 n77 c78 ∧ n77 = r.length ∧ St [] W w' [.mat A76 n77 c78 28 2 vs80 r] := by
  unfold spec_l02Unit at hm
  refine Calls.enter (N := 20) Try.func150 rfl rfl rfl (fun a hf => ?_)
  have hs := St.start W
  obtain ⟨w, hw_⟩ : ∃ w, w = W := ⟨W, rfl⟩
  clear hw_ w
  refine wpL_seq ?_
  refine wpL_region ?_
  refine sY hf hs rfl rfl rfl (Y_assign rfl rfl) ?_; clear hf; intro a hf
  refine wpO_nil ?_
  refine wpL_seq ?_
  refine wpL_region ?_
  refine sY hf hs rfl rfl rfl (Y_move rfl rfl) ?_; clear hf; intro a hf
  refine sY hf hs rfl rfl rfl (Y_move rfl rfl) ?_; clear hf; intro a hf
  obtain ⟨r1, hc2, hm⟩ := bind_some hm
  refine sCall hf rfl rfl rfl rfl (cap := []) rfl rfl en154 (spec_l02Bottom_ok F p0_n p0_n _ _ hc2) ?_; clear hf
  rintro _ w ⟨A3, n4, c5, vs7, rfl, hn6, hs1⟩ a hf
  have hs : St [] W w [.mat A3 n4 c5 28 2 vs7 r1] := hs.join hs1
  clear hs1
  refine sY hf hs rfl rfl rfl (Y_assign rfl rfl) ?_; clear hf; intro a hf
  refine wpO_nil ?_
  refine wpL_seq ?_
  refine wpL_seq ?_
  refine wpL_region ?_
  refine sY hf hs rfl rfl rfl (Y_assign rfl rfl) ?_; clear hf; intro a hf
  refine wpO_nil ?_
  obtain ⟨r58, hl59, hm⟩ := bind_some hm
  refine wpL_block (fun a w => ∃ ms56 : List (List Int), ms56 = r58 ∧ n4 = ms56.length ∧ Fr a 20 [(3, .slice A3 n4 c5)] ∧ St [] W w [.mat A3 n4 c5 28 2 vs7 ms56]) ?_ ?_
  · refine wpL_loop (fun n a w => ∃ ms39 : List (List Int), ∃ x41 : Int, spec_l02Unit_L1 F p0_n n ms39 x41 = some r58 ∧ n4 = ms39.length ∧ Fr a 20 [(0, .int .i64 p0_n), (3, .slice A3 n4 c5), (4, .int .i64 x41)] ∧ St [] W w [.mat A3 n4 c5 28 2 vs7 ms39]) F ?_ ?_ ?_
    · exact ⟨r1, 0, hl59, hn6, (FrD.pick (FrD.pick (FrD.pick hf.none hf rfl) hf rfl) hf rfl), hs⟩
    · rintro a w ⟨ms39, x41, h0_, -, -, -⟩; simp [spec_l02Unit_L1] at h0_
    · rintro n61 a w ⟨ms39, x41, hm60, hn40, hf, hs⟩
      rw [spec_l02Unit_L1] at hm60
      refine wpL_seq ?_
      refine wpL_seq ?_
      refine wpL_region ?_
      refine sY hf hs rfl rfl rfl (Y_move rfl rfl) ?_; clear hf; intro a hf
      refine sY hf hs rfl rfl rfl (Y_move rfl rfl) ?_; clear hf; intro a hf
      refine sY hf hs rfl rfl rfl (Y_lss rfl rfl rfl) ?_; clear hf; intro a hf
      refine wpO_nil ?_
      refine wpL_cond hf rfl (fun hb62 => ?_) (fun hb62 => ?_)
      · have hm60 := bif_t hm60 hb62
        refine wpL_skip ?_
        refine wpL_seq ?_
        refine wpL_block0 ?_
        refine wpL_region ?_
        refine sY hf hs rfl rfl rfl (Y_move rfl rfl) ?_; clear hf; intro a hf
        refine sY hf hs rfl rfl rfl (Y_move rfl rfl) ?_; clear hf; intro a hf
        obtain ⟨q63, hi64, hm60⟩ := bind_some hm60
        obtain ⟨hi64a, hi64b, hi64q⟩ := idx_some hi64
        obtain ⟨A65, c66, hv67⟩ := hs.matRow (i := 0) rfl hi64q
        refine sY hf hs rfl rfl rfl (Y_index rfl rfl rfl el40 ti28 (Rd.isAt (hs.rdV (i := 0) rfl) hv67) hi64a (ltn hn40 hi64b)) ?_; clear hf; intro a hf
        refine sY hf hs rfl rfl rfl (Y_load_rd rfl rfl (fun w hs => hs.rdV (i := 0) rfl) (at1 hv67) ag28) ?_; clear hf; intro a hf
        refine sY hf hs rfl rfl rfl (Y_move rfl rfl) ?_; clear hf; intro a hf
        obtain ⟨q68, hi69, hm60⟩ := bind_some hm60
        obtain ⟨hi69a, hi69b, hi69q⟩ := idx_some hi69
        refine sY hf hs rfl rfl rfl (Y_index rfl rfl rfl el28 ti2 (Rd.isAt (hs.rdRow (i := 0) rfl ⟨hi64q, hv67⟩) (at1 (ints_at hi69q))) hi69a hi69b) ?_; clear hf; intro a hf
        obtain ⟨xs70, hu72, hm60⟩ := bind_some hm60
        obtain ⟨ms71, hu73, hm60⟩ := bind_some hm60
        refine sStoreM (i := 0) (k := x41) hf hs rfl rfl rfl rfl rfl rfl hi64q hv67 rfl hu72 hu73 ti2 ?_; clear hs; intro w hs
        obtain ⟨hq74, hv75⟩ := rowUpd hu72 hu73 hv67
        have hs : St [] W w [.mat A3 n4 c5 28 2 vs7 ms71] := hs
        refine wpO_nil ?_
        refine wpL_nil (Qb_normal ?_)
        refine wpL_region ?_
        refine sY hf hs rfl rfl rfl (Y_move rfl rfl) ?_; clear hf; intro a hf
        refine sY hf hs rfl rfl rfl (Y_add rfl rfl rfl) ?_; clear hf; intro a hf
        refine sY hf hs rfl rfl rfl (Y_assign rfl rfl) ?_; clear hf; intro a hf
        refine wpO_nil ?_
        refine wpL_nil (Ql_normal ?_)
        exact ⟨ms71, (IntKind.i64.wrap (x41 + 1)), hm60, ((hn40).trans (upd_len hu73).symm), (FrD.pick (FrD.pick (FrD.pick hf.none hf rfl) hf rfl) hf rfl), hs⟩
      · have hm60 := bif_f hm60 hb62
        refine wpL_exit (Ql_exit (Qb_exit ?_))
        exact ⟨ms39, Option.some.inj hm60, hn40, (FrD.pick hf.none hf rfl), hs⟩
  · rintro a w ⟨ms56, hr_, hn57, hf, hs⟩
    subst hr_
    try dsimp only at hm
    refine wpL_seq ?_
    refine wpL_region ?_
    refine sY hf hs rfl rfl rfl (Y_move rfl rfl) ?_; clear hf; intro a hf
    refine sY hf hs rfl rfl rfl (Y_assign rfl rfl) ?_; clear hf; intro a hf
    refine wpO_nil ?_
    obtain rfl := Option.some.inj hm
    refine wpL_ret (ret_tmp rfl hf rfl ?_)
    exact ⟨_, rfl, A3, n4, c5, vs7, rfl, hn57, hs⟩

set_option maxRecDepth 100000 in
theorem spec_l01Times_ok (F : Nat) (p0_a : Int) (p1_b : Int) (r : Int) (W : World) (hm : spec_l01Times F p0_a p1_b = some r) :
    Calls Try.prog 155 [.int .i64 p0_a, .int .i64 p1_b].toArray W fun e w' => ∃ v, e = .returned v ∧ v = .int .i64 r ∧ St [] W w' [] := by
  unfold spec_l01Times at hm
  refine Calls.enter (N := 14) Try.func155 rfl rfl rfl (fun a hf => ?_)
  have hs := St.start W
  obtain ⟨w, hw_⟩ : ∃ w, w = W := ⟨W, rfl⟩
  clear hw_ w
  refine wpL_seq ?_
  refine wpL_region ?_
  refine sY hf hs rfl rfl rfl (Y_assign rfl rfl) ?_; clear hf; intro a hf
  refine wpO_nil ?_
  refine wpL_seq ?_
  refine wpL_seq ?_
  obtain ⟨r3, hj4, hm⟩ := bind_some hm
  refine wpL_cut (fun a w => ∃ b2 : Bool, b2 = r3 ∧ Fr a 14 [(0, .int .i64 p0_a), (1, .int .i64 p1_b), (10, .bool b2)] ∧ St [] W w []) ?_ ?_
  · refine wpL_region ?_
    refine sY hf hs rfl rfl rfl (Y_move rfl rfl) ?_; clear hf; intro a hf
    refine sY hf hs rfl rfl rfl (Y_eql rfl rfl rfl) ?_; clear hf; intro a hf
    refine sY hf hs rfl rfl rfl (Y_move rfl rfl) ?_; clear hf; intro a hf
    refine bsplit (p0_a == (-1000000000000000)) (fun hb5 => ?_) (fun hb5 => ?_)
    · have hj4 := bif_t hj4 hb5
      refine sNo hf rfl rfl rfl (congrArg (fun b => some (Value.bool b)) hb5) rfl rfl rfl ?_; clear hf; intro a hf
      refine sNo hf rfl rfl rfl (congrArg (fun b => some (Value.bool b)) hb5) rfl rfl rfl ?_; clear hf; intro a hf
      refine sY hf hs rfl rfl rfl (Y_pickT rfl (congrArg (fun b => some (Value.bool b)) hb5) rfl) ?_; clear hf; intro a hf
      refine wpO_nil ?_
      refine wpL_nil (then_normal ?_)
      exact ⟨true, Option.some.inj hj4, (FrD.pick (FrD.pick (FrD.pick hf.none hf rfl) hf rfl) hf rfl), hs⟩
    · have hj4 := bif_f hj4 hb5
      refine sYg hf hs rfl rfl rfl (congrArg (fun b => some (Value.bool b)) hb5) rfl rfl rfl (Y_move rfl rfl) ?_; clear hf; intro a hf
      refine sYg hf hs rfl rfl rfl (congrArg (fun b => some (Value.bool b)) hb5) rfl rfl rfl (Y_eql rfl rfl rfl) ?_; clear hf; intro a hf
      refine sY hf hs rfl rfl rfl (Y_pickF rfl (congrArg (fun b => some (Value.bool b)) hb5) rfl) ?_; clear hf; intro a hf
      refine wpO_nil ?_
      refine wpL_nil (then_normal ?_)
      exact ⟨(p1_b == (-1000000000000000)), Option.some.inj hj4, (FrD.pick (FrD.pick (FrD.pick hf.none hf rfl) hf rfl) hf rfl), hs⟩
  · rintro a w ⟨b2, hr_, hf, hs⟩
    subst hr_
    try dsimp only at hm
    refine wpL_cond hf rfl (fun hb6 => ?_) (fun hb6 => ?_)
    · have hm := bif_t hm hb6
      refine wpL_seq ?_
      refine wpL_region ?_
      refine sY hf hs rfl rfl rfl (Y_assign rfl rfl) ?_; clear hf; intro a hf
      refine wpO_nil ?_
      obtain rfl := Option.some.inj hm
      refine wpL_ret (ret_tmp rfl hf rfl ?_)
      exact ⟨_, rfl, rfl, hs⟩
    · have hm := bif_f hm hb6
      refine wpL_skip ?_
      refine wpL_seq ?_
      refine wpL_region ?_
      refine sY hf hs rfl rfl rfl (Y_move rfl rfl) ?_; clear hf; intro a hf
      refine sY hf hs rfl rfl rfl (Y_move rfl rfl) ?_; clear hf; intro a hf
      refine sY hf hs rfl rfl rfl (Y_add rfl rfl rfl) ?_; clear hf; intro a hf
      refine sY hf hs rfl rfl rfl (Y_assign rfl rfl) ?_; clear hf; intro a hf
      refine wpO_nil ?_
      obtain rfl := Option.some.inj hm
      refine wpL_ret (ret_tmp rfl hf rfl ?_)
      exact ⟨_, rfl, rfl, hs⟩

set_option maxRecDepth 100000 in
theorem spec_l02Multiply_ok (F : Nat) (p0 : List (List Int)) (A_p0_1 : Option Addr) (n_p0_1 c_p0_1 : Nat) (hn_p0_1 : n_p0_1 = p0.length) (p1 : List (List Int)) (A_p1_1 : Option Addr) (n_p1_1 c_p1_1 : Nat) (hn_p1_1 : n_p1_1 = p1.length) (r : List (List Int)) (W : World) (hm : spec_l02Multiply F p0 p1 = some r) (h_p0_1 : RdM W A_p0_1 p0) (h_p1_1 : RdM W A_p1_1 p1) :
    Calls Try.prog 86 [.slice A_p0_1 n_p0_1 c_p0_1, .slice A_p1_1 n_p1_1 c_p1_1].toArray W fun e w' => ∃ v, e = .returned v ∧ ∃ A6129, ∃ n6130, ∃ c6131, ∃ vs6133, v = .slice A6129 n6130 c6131 ∧ n6130 = r.length ∧ St [] W w' [.mat A6129 n6130 c6131 28 2 vs6133 r] := by
  subst hn_p0_1
  subst hn_p1_1
  unfold spec_l02Multiply at hm
  refine Calls.enter (N := 66) Try.func86 rfl rfl rfl (fun a hf => ?_)
  have hs := St.start W
  obtain ⟨w, hw_⟩ : ∃ w, w = W := ⟨W, rfl⟩
  clear hw_ w
  refine wpL_seq ?_
  refine wpL_region ?_
  refine sY hf hs rfl rfl rfl (Y_assign rfl rfl) ?_; clear hf; intro a hf
  refine wpO_nil ?_
  refine wpL_seq ?_
  refine wpL_region ?_
  refine sY hf hs rfl rfl rfl (Y_move rfl rfl) ?_; clear hf; intro a hf
  refine sY hf hs rfl rfl rfl (Y_lenH rfl rfl el40 rfl) ?_; clear hf; intro a hf
  refine sY hf hs rfl rfl rfl (Y_move rfl rfl) ?_; clear hf; intro a hf
  obtain ⟨q1, hi2, hm⟩ := bind_some hm
  obtain ⟨hi2a, hi2b, hi2q⟩ := idx_some hi2
  obtain ⟨vs3, hv4, hr5⟩ := id h_p1_1
  obtain ⟨A6, c7, hv8, hR9⟩ := hr5 _ _ hi2q
  refine sY hf hs rfl rfl rfl (Y_index rfl rfl rfl el40 ti28 (Rd.isAt hv4 hv8) hi2a hi2b) ?_; clear hf; intro a hf
  refine sY hf hs rfl rfl rfl (Y_load_rd rfl rfl (fun w hs => hv4.at hs) (at1 hv8) ag28) ?_; clear hf; intro a hf
  refine sY hf hs rfl rfl rfl (Y_lenH rfl rfl el28 rfl) ?_; clear hf; intro a hf
  obtain ⟨r10, hc11, hm⟩ := bind_some hm
  refine sCall hf rfl rfl rfl rfl (cap := []) rfl rfl en154 (spec_l02Bottom_ok F (p0.length : Int) (q1.length : Int) _ _ hc11) ?_; clear hf
  rintro _ w ⟨A12, n13, c14, vs16, rfl, hn15, hs1⟩ a hf
  have hs : St [] W w [.mat A12 n13 c14 28 2 vs16 r10] := hs.join hs1
  clear hs1
  refine sY hf hs rfl rfl rfl (Y_assign rfl rfl) ?_; clear hf; intro a hf
  refine wpO_nil ?_
  refine wpL_seq ?_
  refine wpL_seq ?_
  refine wpL_region ?_
  refine sY hf hs rfl rfl rfl (Y_assign rfl rfl) ?_; clear hf; intro a hf
  refine wpO_nil ?_
  obtain ⟨r4600, hl4601, hm⟩ := bind_some hm
  refine wpL_block (fun a w => ∃ ms4598 : List (List Int), ms4598 = r4600 ∧ n13 = ms4598.length ∧ Fr a 66 [(5, .slice A12 n13 c14)] ∧ St [] W w [.mat A12 n13 c14 28 2 vs16 ms4598]) ?_ ?_
  · refine wpL_loop (fun n a w => ∃ ms3070 : List (List Int), ∃ x3072 : Int, spec_l02Multiply_L16 F p0 p1 n ms3070 x3072 = some r4600 ∧ n13 = ms3070.length ∧ Fr a 66 [(0, .slice A_p0_1 p0.length c_p0_1), (1, .slice A_p1_1 p1.length c_p1_1), (5, .slice A12 n13 c14), (6, .int .i64 x3072)] ∧ St [] W w [.mat A12 n13 c14 28 2 vs16 ms3070]) F ?_ ?_ ?_
    · exact ⟨r10, 0, hl4601, hn15, (FrD.pick (FrD.pick (FrD.pick (FrD.pick hf.none hf rfl) hf rfl) hf rfl) hf rfl), hs⟩
    · rintro a w ⟨ms3070, x3072, h0_, -, -, -⟩; simp [spec_l02Multiply_L16] at h0_
    · rintro n4603 a w ⟨ms3070, x3072, hm4602, hn3071, hf, hs⟩
      rw [spec_l02Multiply_L16] at hm4602
      refine wpL_seq ?_
      refine wpL_seq ?_
      refine wpL_region ?_
      refine sY hf hs rfl rfl rfl (Y_move rfl rfl) ?_; clear hf; intro a hf
      refine sY hf hs rfl rfl rfl (Y_move rfl rfl) ?_; clear hf; intro a hf
      refine sY hf hs rfl rfl rfl (Y_lenH rfl rfl el40 rfl) ?_; clear hf; intro a hf
      refine sY hf hs rfl rfl rfl (Y_lss rfl rfl rfl) ?_; clear hf; intro a hf
      refine wpO_nil ?_
      refine wpL_cond hf rfl (fun hb4604 => ?_) (fun hb4604 => ?_)
      · have hm4602 := bif_t hm4602 hb4604
        refine wpL_skip ?_
        refine wpL_seq ?_
        refine wpL_block0 ?_
        refine wpL_seq ?_
        refine wpL_region ?_
        refine sY hf hs rfl rfl rfl (Y_assign rfl rfl) ?_; clear hf; intro a hf
        refine wpO_nil ?_
        obtain ⟨r5747, hl5748, hm4602⟩ := bind_some hm4602
        refine wpL_block (fun a w => ∃ ms5745 : List (List Int), ms5745 = r5747 ∧ n13 = ms5745.length ∧ Fr a 66 [(0, .slice A_p0_1 p0.length c_p0_1), (1, .slice A_p1_1 p1.length c_p1_1), (5, .slice A12 n13 c14), (6, .int .i64 x3072)] ∧ St [] W w [.mat A12 n13 c14 28 2 vs16 ms5745]) ?_ ?_
        · refine wpL_loop (fun n a w => ∃ ms5364 : List (List Int), ∃ x5366 : Int, spec_l02Multiply_L20 F p0 p1 x3072 n ms5364 x5366 = some r5747 ∧ n13 = ms5364.length ∧ Fr a 66 [(0, .slice A_p0_1 p0.length c_p0_1), (1, .slice A_p1_1 p1.length c_p1_1), (5, .slice A12 n13 c14), (6, .int .i64 x3072), (7, .int .i64 x5366)] ∧ St [] W w [.mat A12 n13 c14 28 2 vs16 ms5364]) F ?_ ?_ ?_
          · exact ⟨ms3070, 0, hl5748, hn3071, (FrD.pick (FrD.pick (FrD.pick (FrD.pick (FrD.pick hf.none hf rfl) hf rfl) hf rfl) hf rfl) hf rfl), hs⟩
          · rintro a w ⟨ms5364, x5366, h0_, -, -, -⟩; simp [spec_l02Multiply_L20] at h0_
          · rintro n5750 a w ⟨ms5364, x5366, hm5749, hn5365, hf, hs⟩
            rw [spec_l02Multiply_L20] at hm5749
            refine wpL_seq ?_
            refine wpL_seq ?_
            refine wpL_region ?_
            refine sY hf hs rfl rfl rfl (Y_move rfl rfl) ?_; clear hf; intro a hf
            refine sY hf hs rfl rfl rfl (Y_move rfl rfl) ?_; clear hf; intro a hf
            obtain ⟨q5751, hi5752, hm5749⟩ := bind_some hm5749
            obtain ⟨hi5752a, hi5752b, hi5752q⟩ := idx_some hi5752
            obtain ⟨vs5753, hv5754, hr5755⟩ := id h_p1_1
            obtain ⟨A5756, c5757, hv5758, hR5759⟩ := hr5755 _ _ hi5752q
            refine sY hf hs rfl rfl rfl (Y_index rfl rfl rfl el40 ti28 (Rd.isAt hv5754 hv5758) hi5752a hi5752b) ?_; clear hf; intro a hf
            refine sY hf hs rfl rfl rfl (Y_load_rd rfl rfl (fun w hs => hv5754.at hs) (at1 hv5758) ag28) ?_; clear hf; intro a hf
            refine sY hf hs rfl rfl rfl (Y_lenH rfl rfl el28 rfl) ?_; clear hf; intro a hf
            refine sY hf hs rfl rfl rfl (Y_lss rfl rfl rfl) ?_; clear hf; intro a hf
            refine wpO_nil ?_
            refine wpL_cond hf rfl (fun hb5760 => ?_) (fun hb5760 => ?_)
            · have hm5749 := bif_t hm5749 hb5760
              refine wpL_skip ?_
              refine wpL_seq ?_
              refine wpL_block0 ?_
              refine wpL_seq ?_
              refine wpL_region ?_
              refine sY hf hs rfl rfl rfl (Y_assign rfl rfl) ?_; clear hf; intro a hf
              refine wpO_nil ?_
              obtain ⟨r6036, hl6037, hm5749⟩ := bind_some hm5749
              refine wpL_block (fun a w => ∃ ms6034 : List (List Int), ms6034 = r6036 ∧ n13 = ms6034.length ∧ Fr a 66 [(0, .slice A_p0_1 p0.length c_p0_1), (1, .slice A_p1_1 p1.length c_p1_1), (5, .slice A12 n13 c14), (6, .int .i64 x3072), (7, .int .i64 x5366)] ∧ St [] W w [.mat A12 n13 c14 28 2 vs16 ms6034]) ?_ ?_
              · refine wpL_loop (fun n a w => ∃ ms5942 : List (List Int), ∃ x5944 : Int, spec_l02Multiply_L21 F p0 p1 x3072 x5366 n ms5942 x5944 = some r6036 ∧ n13 = ms5942.length ∧ Fr a 66 [(0, .slice A_p0_1 p0.length c_p0_1), (1, .slice A_p1_1 p1.length c_p1_1), (5, .slice A12 n13 c14), (6, .int .i64 x3072), (7, .int .i64 x5366), (8, .int .i64 x5944)] ∧ St [] W w [.mat A12 n13 c14 28 2 vs16 ms5942]) F ?_ ?_ ?_
                · exact ⟨ms5364, 0, hl6037, hn5365, (FrD.pick (FrD.pick (FrD.pick (FrD.pick (FrD.pick (FrD.pick hf.none hf rfl) hf rfl) hf rfl) hf rfl) hf rfl) hf rfl), hs⟩
                · rintro a w ⟨ms5942, x5944, h0_, -, -, -⟩; simp [spec_l02Multiply_L21] at h0_
                · rintro n6039 a w ⟨ms5942, x5944, hm6038, hn5943, hf, hs⟩
                  rw [spec_l02Multiply_L21] at hm6038
                  refine wpL_seq ?_
                  refine wpL_seq ?_
                  refine wpL_region ?_
                  refine sY hf hs rfl rfl rfl (Y_move rfl rfl) ?_; clear hf; intro a hf
                  refine sY hf hs rfl rfl rfl (Y_move rfl rfl) ?_; clear hf; intro a hf
                  refine sY hf hs rfl rfl rfl (Y_lenH rfl rfl el40 rfl) ?_; clear hf; intro a hf
                  refine sY hf hs rfl rfl rfl (Y_lss rfl rfl rfl) ?_; clear hf; intro a hf
                  refine wpO_nil ?_
                  refine wpL_cond hf rfl (fun hb6040 => ?_) (fun hb6040 => ?_)
                  · have hm6038 := bif_t hm6038 hb6040
                    refine wpL_skip ?_
                    refine wpL_seq ?_
                    refine wpL_block0 ?_
                    refine wpL_drawM [.mat A12 n13 c14 28 2 vs16 ms5942] [29] (by kernel_rfl) hs ?_; clear hs; intro w hs
                    have hs0 : St [] W w [.mat A12 n13 c14 28 2 vs16 ms5942] := hs
                    refine mYp (i := 0) rfl (by kernel_rfl) (by kernel_rfl) hf rfl rfl rfl (fun _ => Y_move rfl rfl) ?_; clear hf; intro a hf
                    refine mYp (i := 1) rfl (by kernel_rfl) (by kernel_rfl) hf rfl rfl rfl (fun _ => Y_move rfl rfl) ?_; clear hf; intro a hf
                    obtain ⟨q6085, hi6086, hm6038⟩ := bind_some hm6038
                    obtain ⟨hi6086a, hi6086b, hi6086q⟩ := idx_some hi6086
                    obtain ⟨A6087, c6088, hv6089⟩ := hs.matRow (i := 0) rfl hi6086q
                    refine mYp (i := 2) rfl (by kernel_rfl) (by kernel_rfl) hf rfl rfl rfl (fun _ => Y_index rfl rfl rfl el40 ti28 (Rd.isAt (hs.rdV (i := 0) rfl) hv6089) hi6086a (ltn hn5943 hi6086b)) ?_; clear hf; intro a hf
                    refine mY (i := 3) [[]] rfl (by kernel_rfl) (by kernel_rfl) hf hs0 rfl rfl rfl (Y_load_rd rfl rfl (fun w hs => hs.rdV (i := 0) rfl) (at1 hv6089) ag28) ?_; clear hf; intro a hf
                    refine mYp (i := 4) rfl (by kernel_rfl) (by kernel_rfl) hf rfl rfl rfl (fun _ => Y_move rfl rfl) ?_; clear hf; intro a hf
                    refine mYp (i := 5) rfl (by kernel_rfl) (by kernel_rfl) hf rfl rfl rfl (fun _ => Y_move rfl rfl) ?_; clear hf; intro a hf
                    refine mYp (i := 6) rfl (by kernel_rfl) (by kernel_rfl) hf rfl rfl rfl (fun _ => Y_move rfl rfl) ?_; clear hf; intro a hf
                    obtain ⟨q6090, hi6091, hm6038⟩ := bind_some hm6038
                    obtain ⟨hi6091a, hi6091b, hi6091q⟩ := idx_some hi6091
                    obtain ⟨A6092, c6093, hv6094⟩ := hs.matRow (i := 0) rfl hi6091q
                    refine mYp (i := 7) rfl (by kernel_rfl) (by kernel_rfl) hf rfl rfl rfl (fun _ => Y_index rfl rfl rfl el40 ti28 (Rd.isAt (hs.rdV (i := 0) rfl) hv6094) hi6091a (ltn hn5943 hi6091b)) ?_; clear hf; intro a hf
                    refine mY (i := 8) [[]] rfl (by kernel_rfl) (by kernel_rfl) hf hs0 rfl rfl rfl (Y_load_rd rfl rfl (fun w hs => hs.rdV (i := 0) rfl) (at1 hv6094) ag28) ?_; clear hf; intro a hf
                    refine mYp (i := 9) rfl (by kernel_rfl) (by kernel_rfl) hf rfl rfl rfl (fun _ => Y_move rfl rfl) ?_; clear hf; intro a hf
                    obtain ⟨q6095, hi6096, hm6038⟩ := bind_some hm6038
                    obtain ⟨hi6096a, hi6096b, hi6096q⟩ := idx_some hi6096
                    refine mYp (i := 10) rfl (by kernel_rfl) (by kernel_rfl) hf rfl rfl rfl (fun _ => Y_index rfl rfl rfl el28 ti2 (Rd.isAt (hs.rdRow (i := 0) rfl ⟨hi6091q, hv6094⟩) (at1 (ints_at hi6096q))) hi6096a hi6096b) ?_; clear hf; intro a hf
                    refine mY (i := 11) [[]] rfl (by kernel_rfl) (by kernel_rfl) hf hs0 rfl rfl rfl (Y_load_rd rfl rfl (fun w hs => hs.rdRow (i := 0) rfl ⟨hi6091q, hv6094⟩) (at1 (ints_at hi6096q)) ag2) ?_; clear hf; intro a hf
                    refine mYp (i := 12) rfl (by kernel_rfl) (by kernel_rfl) hf rfl rfl rfl (fun _ => Y_move rfl rfl) ?_; clear hf; intro a hf
                    refine mYp (i := 13) rfl (by kernel_rfl) (by kernel_rfl) hf rfl rfl rfl (fun _ => Y_move rfl rfl) ?_; clear hf; intro a hf
                    obtain ⟨q6097, hi6098, hm6038⟩ := bind_some hm6038
                    obtain ⟨hi6098a, hi6098b, hi6098q⟩ := idx_some hi6098
                    obtain ⟨vs6099, hv6100, hr6101⟩ := id h_p0_1
                    obtain ⟨A6102, c6103, hv6104, hR6105⟩ := hr6101 _ _ hi6098q
                    refine mYp (i := 14) rfl (by kernel_rfl) (by kernel_rfl) hf rfl rfl rfl (fun _ => Y_index rfl rfl rfl el40 ti28 (Rd.isAt hv6100 hv6104) hi6098a hi6098b) ?_; clear hf; intro a hf
                    refine mY (i := 15) [[]] rfl (by kernel_rfl) (by kernel_rfl) hf hs0 rfl rfl rfl (Y_load_rd rfl rfl (fun w hs => hv6100.at hs) (at1 hv6104) ag28) ?_; clear hf; intro a hf
                    refine mYp (i := 16) rfl (by kernel_rfl) (by kernel_rfl) hf rfl rfl rfl (fun _ => Y_move rfl rfl) ?_; clear hf; intro a hf
                    obtain ⟨q6106, hi6107, hm6038⟩ := bind_some hm6038
                    obtain ⟨hi6107a, hi6107b, hi6107q⟩ := idx_some hi6107
                    refine mYp (i := 17) rfl (by kernel_rfl) (by kernel_rfl) hf rfl rfl rfl (fun _ => Y_index rfl rfl rfl el28 ti2 (Rd.isAt (hR6105.at hs) (at1 (ints_at hi6107q))) hi6107a hi6107b) ?_; clear hf; intro a hf
                    refine mY (i := 18) [[]] rfl (by kernel_rfl) (by kernel_rfl) hf hs0 rfl rfl rfl (Y_load_rd rfl rfl (fun w hs => hR6105.at hs) (at1 (ints_at hi6107q)) ag2) ?_; clear hf; intro a hf
                    refine mYp (i := 19) rfl (by kernel_rfl) (by kernel_rfl) hf rfl rfl rfl (fun _ => Y_move rfl rfl) ?_; clear hf; intro a hf
                    refine mYp (i := 20) rfl (by kernel_rfl) (by kernel_rfl) hf rfl rfl rfl (fun _ => Y_move rfl rfl) ?_; clear hf; intro a hf
                    obtain ⟨q6108, hi6109, hm6038⟩ := bind_some hm6038
                    obtain ⟨hi6109a, hi6109b, hi6109q⟩ := idx_some hi6109
                    obtain ⟨vs6110, hv6111, hr6112⟩ := id h_p1_1
                    obtain ⟨A6113, c6114, hv6115, hR6116⟩ := hr6112 _ _ hi6109q
                    refine mYp (i := 21) rfl (by kernel_rfl) (by kernel_rfl) hf rfl rfl rfl (fun _ => Y_index rfl rfl rfl el40 ti28 (Rd.isAt hv6111 hv6115) hi6109a hi6109b) ?_; clear hf; intro a hf
                    refine mY (i := 22) [[]] rfl (by kernel_rfl) (by kernel_rfl) hf hs0 rfl rfl rfl (Y_load_rd rfl rfl (fun w hs => hv6111.at hs) (at1 hv6115) ag28) ?_; clear hf; intro a hf
                    refine mYp (i := 23) rfl (by kernel_rfl) (by kernel_rfl) hf rfl rfl rfl (fun _ => Y_move rfl rfl) ?_; clear hf; intro a hf
                    obtain ⟨q6117, hi6118, hm6038⟩ := bind_some hm6038
                    obtain ⟨hi6118a, hi6118b, hi6118q⟩ := idx_some hi6118
                    refine mYp (i := 24) rfl (by kernel_rfl) (by kernel_rfl) hf rfl rfl rfl (fun _ => Y_index rfl rfl rfl el28 ti2 (Rd.isAt (hR6116.at hs) (at1 (ints_at hi6118q))) hi6118a hi6118b) ?_; clear hf; intro a hf
                    refine mY (i := 25) [[]] rfl (by kernel_rfl) (by kernel_rfl) hf hs0 rfl rfl rfl (Y_load_rd rfl rfl (fun w hs => hR6116.at hs) (at1 (ints_at hi6118q)) ag2) ?_; clear hf; intro a hf
                    refine mRun (i := 26) rfl (by kernel_rfl) ?_
                    obtain ⟨r6119, hc6120, hm6038⟩ := bind_some hm6038
                    refine sCall hf rfl rfl rfl rfl (cap := []) rfl rfl en155 (spec_l01Times_ok F q6106 q6117 _ _ hc6120) ?_; clear hf
                    rintro _ w ⟨rfl, hs1⟩ a hf
                    have hs : St [] W w [.mat A12 n13 c14 28 2 vs16 ms5942] := hs.ext hs1.below
                    clear hs1
                    have hs0 : St [] W w [.mat A12 n13 c14 28 2 vs16 ms5942] := hs
                    refine wpO_nil ⟨Or.inr (fun _ => hs0), ?_⟩
                    refine mYp (i := 27) rfl (by kernel_rfl) (by kernel_rfl) hf rfl rfl rfl (fun _ => Y_max rfl rfl rfl) ?_; clear hf; intro a hf
                    obtain ⟨q6121, hi6122, hm6038⟩ := bind_some hm6038
                    obtain ⟨hi6122a, hi6122b, hi6122q⟩ := idx_some hi6122
                    refine mYp (i := 28) rfl (by kernel_rfl) (by kernel_rfl) hf rfl rfl rfl (fun _ => Y_index rfl rfl rfl el28 ti2 (Rd.isAt (hs.rdRow (i := 0) rfl ⟨hi6086q, hv6089⟩) (at1 (ints_at hi6122q))) hi6122a hi6122b) ?_; clear hf; intro a hf
                    refine mRun (i := 29) rfl (by kernel_rfl) ?_
                    obtain ⟨xs6123, hu6125, hm6038⟩ := bind_some hm6038
                    obtain ⟨ms6124, hu6126, hm6038⟩ := bind_some hm6038
                    refine sStoreM (i := 0) (k := x3072) hf hs rfl rfl rfl rfl rfl rfl hi6086q hv6089 rfl hu6125 hu6126 ti2 ?_; clear hs; intro w hs
                    obtain ⟨hq6127, hv6128⟩ := rowUpd hu6125 hu6126 hv6089
                    have hs : St [] W w [.mat A12 n13 c14 28 2 vs16 ms6124] := hs
                    refine wpO_nil ⟨Or.inl (by decide), ?_⟩
                    refine mDone (by kernel_rfl) ?_
                    clear hs0
                    refine wpL_nil (Qb_normal ?_)
                    refine wpL_region ?_
                    refine sY hf hs rfl rfl rfl (Y_move rfl rfl) ?_; clear hf; intro a hf
                    refine sY hf hs rfl rfl rfl (Y_add rfl rfl rfl) ?_; clear hf; intro a hf
                    refine sY hf hs rfl rfl rfl (Y_assign rfl rfl) ?_; clear hf; intro a hf
                    refine wpO_nil ?_
                    refine wpL_nil (Ql_normal ?_)
                    exact ⟨ms6124, (IntKind.i64.wrap (x5944 + 1)), hm6038, ((hn5943).trans (upd_len hu6126).symm), (FrD.pick (FrD.pick (FrD.pick (FrD.pick (FrD.pick (FrD.pick hf.none hf rfl) hf rfl) hf rfl) hf rfl) hf rfl) hf rfl), hs⟩
                  · have hm6038 := bif_f hm6038 hb6040
                    refine wpL_exit (Ql_exit (Qb_exit ?_))
                    exact ⟨ms5942, Option.some.inj hm6038, hn5943, (FrD.pick (FrD.pick (FrD.pick (FrD.pick (FrD.pick hf.none hf rfl) hf rfl) hf rfl) hf rfl) hf rfl), hs⟩
              · rintro a w ⟨ms6034, hr_, hn6035, hf, hs⟩
                subst hr_
                try dsimp only at hm5749
                refine wpL_nil (Qb_normal ?_)
                refine wpL_region ?_
                refine sY hf hs rfl rfl rfl (Y_move rfl rfl) ?_; clear hf; intro a hf
                refine sY hf hs rfl rfl rfl (Y_add rfl rfl rfl) ?_; clear hf; intro a hf
                refine sY hf hs rfl rfl rfl (Y_assign rfl rfl) ?_; clear hf; intro a hf
                refine wpO_nil ?_
                refine wpL_nil (Ql_normal ?_)
                exact ⟨ms6034, (IntKind.i64.wrap (x5366 + 1)), hm5749, hn6035, (FrD.pick (FrD.pick (FrD.pick (FrD.pick (FrD.pick hf.none hf rfl) hf rfl) hf rfl) hf rfl) hf rfl), hs⟩
            · have hm5749 := bif_f hm5749 hb5760
              refine wpL_exit (Ql_exit (Qb_exit ?_))
              exact ⟨ms5364, Option.some.inj hm5749, hn5365, (FrD.pick (FrD.pick (FrD.pick (FrD.pick hf.none hf rfl) hf rfl) hf rfl) hf rfl), hs⟩
        · rintro a w ⟨ms5745, hr_, hn5746, hf, hs⟩
          subst hr_
          try dsimp only at hm4602
          refine wpL_nil (Qb_normal ?_)
          refine wpL_region ?_
          refine sY hf hs rfl rfl rfl (Y_move rfl rfl) ?_; clear hf; intro a hf
          refine sY hf hs rfl rfl rfl (Y_add rfl rfl rfl) ?_; clear hf; intro a hf
          refine sY hf hs rfl rfl rfl (Y_assign rfl rfl) ?_; clear hf; intro a hf
          refine wpO_nil ?_
          refine wpL_nil (Ql_normal ?_)
          exact ⟨ms5745, (IntKind.i64.wrap (x3072 + 1)), hm4602, hn5746, (FrD.pick (FrD.pick (FrD.pick (FrD.pick hf.none hf rfl) hf rfl) hf rfl) hf rfl), hs⟩
      · have hm4602 := bif_f hm4602 hb4604
        refine wpL_exit (Ql_exit (Qb_exit ?_))
        exact ⟨ms3070, Option.some.inj hm4602, hn3071, (FrD.pick hf.none hf rfl), hs⟩
  · rintro a w ⟨ms4598, hr_, hn4599, hf, hs⟩
    subst hr_
    try dsimp only at hm
    refine wpL_seq ?_
    refine wpL_region ?_
    refine sY hf hs rfl rfl rfl (Y_move rfl rfl) ?_; clear hf; intro a hf
    refine sY hf hs rfl rfl rfl (Y_assign rfl rfl) ?_; clear hf; intro a hf
    refine wpO_nil ?_
    obtain rfl := Option.some.inj hm
    refine wpL_ret (ret_tmp rfl hf rfl ?_)
    exact ⟨_, rfl, A12, n13, c14, vs16, rfl, hn4599, hs⟩

set_option maxRecDepth 100000 in
theorem spec_l01Own_ok (F : Nat) (p0_list : List Int) (A_p0_list_1 : Option Addr) (n_p0_list_1 c_p0_list_1 : Nat) (hn_p0_list_1 : n_p0_list_1 = p0_list.length) (r : List Int) (W : World) (hm : spec_l01Own F p0_list = some r) (h_p0_list_1 : Rd W A_p0_list_1 (ints p0_list)) :
    Calls Try.prog 114 [.slice A_p0_list_1 n_p0_list_1 c_p0_list_1].toArray W fun e w' => ∃ v, e = .returned v ∧ ∃ A7, ∃ n8, ∃ c9, v = .slice A7 n8 c9 ∧ n8 = r.length ∧ St [] W w' [.row A7 n8 c9 2 1 (ints r)] := by
  subst hn_p0_list_1
  unfold spec_l01Own at hm
  refine Calls.enter (N := 6) Try.func114 rfl rfl rfl (fun a hf => ?_)
  have hs := St.start W
  obtain ⟨w, hw_⟩ : ∃ w, w = W := ⟨W, rfl⟩
  clear hw_ w
  refine wpL_seq ?_
  refine wpL_region ?_
  refine sY hf hs rfl rfl rfl (Y_assign rfl rfl) ?_; clear hf; intro a hf
  refine wpO_nil ?_
  refine wpL_seq ?_
  refine wpL_region ?_
  refine sEmpty hf hs rfl rfl rfl rfl el28 ti2 ?_; clear hf hs; intro a w A1 hs hf
  have hs : St [] W w [.row A1 0 0 2 1 (ints ([] : List Int))] := hs
  refine sY hf hs rfl rfl rfl (Y_move rfl rfl) ?_; clear hf; intro a hf
  obtain ⟨xs5, ha6, hm⟩ := bind_some hm
  refine sAppendG (i := 0) (xs := ([] : List Int)) (ys := p0_list) (enc := ints) hf hs rfl rfl rfl rfl rfl rfl rfl rfl rfl ha6 el28 ti2 rfl rfl rfl (h_p0_list_1.at hs) ints_len1 ints_append ints_one ?_; clear hf hs; intro a w A3 c4 hs hf
  have hs : St [] W w [.row A3 xs5.length c4 2 1 (ints xs5)] := hs
  refine sY hf hs rfl rfl rfl (Y_assign rfl rfl) ?_; clear hf; intro a hf
  refine wpO_nil ?_
  obtain rfl := Option.some.inj hm
  refine wpL_ret (ret_tmp rfl hf rfl ?_)
  exact ⟨_, rfl, A3, xs5.length, c4, rfl, rfl, hs⟩

set_option maxRecDepth 100000 in
theorem spec_l02Own_ok (F : Nat) (p0_a : List (List Int)) (A_p0_a_1 : Option Addr) (n_p0_a_1 c_p0_a_1 : Nat) (hn_p0_a_1 : n_p0_a_1 = p0_a.length) (r : List (List Int)) (W : World) (hm : spec_l02Own F p0_a = some r) (h_p0_a_1 : RdM W A_p0_a_1 p0_a) :
    Calls Try.prog 180 [.slice A_p0_a_1 n_p0_a_1 c_p0_a_1].toArray W fun e w' => ∃ v, e = .returned v ∧ ∃ A124, ∃ n125, ∃ c126, ∃ vs128, v = .slice A124 n125 c126 ∧ n125 = r.length ∧ St [] W w' [.mat A124 n125 c126 28 2 vs128 r] := by
  subst hn_p0_a_1
  unfold spec_l02Own at hm
  refine Calls.enter (N := 21) Try.func180 rfl rfl rfl (fun a hf => ?_)
  have hs := St.start W
  obtain ⟨w, hw_⟩ : ∃ w, w = W := ⟨W, rfl⟩
  clear hw_ w
  refine wpL_seq ?_
  refine wpL_region ?_
  refine sY hf hs rfl rfl rfl (Y_assign rfl rfl) ?_; clear hf; intro a hf
  refine wpO_nil ?_
  refine wpL_seq ?_
  refine wpL_region ?_
  refine sEmptyM 2 hf hs rfl rfl rfl rfl el40 ti28 rfl ?_; clear hf hs; intro a w A1 hs hf
  have hs : St [] W w [.mat A1 0 0 28 2 [] []] := hs
  refine sY hf hs rfl rfl rfl (Y_assign rfl rfl) ?_; clear hf; intro a hf
  refine wpO_nil ?_
  refine wpL_seq ?_
  refine wpL_seq ?_
  refine wpL_region ?_
  refine sY hf hs rfl rfl rfl (Y_assign rfl rfl) ?_; clear hf; intro a hf
  refine wpO_nil ?_
  obtain ⟨r96, hl97, hm⟩ := bind_some hm
  refine wpL_block (fun a w => ∃ ms90 : List (List Int), ∃ A91, ∃ n92, ∃ c93, ∃ vs95, ms90 = r96 ∧ n92 = ms90.length ∧ Fr a 21 [(3, .slice A91 n92 c93)] ∧ St [] W w [.mat A91 n92 c93 28 2 vs95 ms90]) ?_ ?_
  · refine wpL_loop (fun n a w => ∃ ms59 : List (List Int), ∃ x65 : Int, ∃ A60, ∃ n61, ∃ c62, ∃ vs64, spec_l02Own_L1 F p0_a n ms59 x65 = some r96 ∧ n61 = ms59.length ∧ Fr a 21 [(0, .slice A_p0_a_1 p0_a.length c_p0_a_1), (3, .slice A60 n61 c62), (4, .int .i64 x65)] ∧ St [] W w [.mat A60 n61 c62 28 2 vs64 ms59]) F ?_ ?_ ?_
    · exact ⟨[], 0, A1, 0, 0, [], hl97, rfl, (FrD.pick (FrD.pick (FrD.pick hf.none hf rfl) hf rfl) hf rfl), hs⟩
    · rintro a w ⟨ms59, x65, A60, n61, c62, vs64, h0_, -, -, -⟩; simp [spec_l02Own_L1] at h0_
    · rintro n99 a w ⟨ms59, x65, A60, n61, c62, vs64, hm98, hn63, hf, hs⟩
      rw [spec_l02Own_L1] at hm98
      refine wpL_seq ?_
      refine wpL_seq ?_
      refine wpL_region ?_
      refine sY hf hs rfl rfl rfl (Y_move rfl rfl) ?_; clear hf; intro a hf
      refine sY hf hs rfl rfl rfl (Y_move rfl rfl) ?_; clear hf; intro a hf
      refine sY hf hs rfl rfl rfl (Y_lenH rfl rfl el40 rfl) ?_; clear hf; intro a hf
      refine sY hf hs rfl rfl rfl (Y_lss rfl rfl rfl) ?_; clear hf; intro a hf
      refine wpO_nil ?_
      refine wpL_cond hf rfl (fun hb100 => ?_) (fun hb100 => ?_)
      · have hm98 := bif_t hm98 hb100
        refine wpL_skip ?_
        refine wpL_seq ?_
        refine wpL_block0 ?_
        refine wpL_region ?_
        refine sY hf hs rfl rfl rfl (Y_move rfl rfl) ?_; clear hf; intro a hf
        refine sY hf hs rfl rfl rfl (Y_move rfl rfl) ?_; clear hf; intro a hf
        refine sY hf hs rfl rfl rfl (Y_move rfl rfl) ?_; clear hf; intro a hf
        obtain ⟨q101, hi102, hm98⟩ := bind_some hm98
        obtain ⟨hi102a, hi102b, hi102q⟩ := idx_some hi102
        obtain ⟨vs103, hv104, hr105⟩ := id h_p0_a_1
        obtain ⟨A106, c107, hv108, hR109⟩ := hr105 _ _ hi102q
        refine sY hf hs rfl rfl rfl (Y_index rfl rfl rfl el40 ti28 (Rd.isAt hv104 hv108) hi102a hi102b) ?_; clear hf; intro a hf
        refine sY hf hs rfl rfl rfl (Y_load_rd rfl rfl (fun w hs => hv104.at hs) (at1 hv108) ag28) ?_; clear hf; intro a hf
        obtain ⟨r110, hc111, hm98⟩ := bind_some hm98
        refine sCall hf rfl rfl rfl rfl (cap := []) rfl rfl en114 (spec_l01Own_ok F q101 A106 q101.length c107 rfl _ _ hc111 (hR109.at hs)) ?_; clear hf
        rintro _ w ⟨A112, n113, c114, rfl, hn115, hs1⟩ a hf
        have hs : St [] W w [.mat A60 n61 c62 28 2 vs64 ms59, .row A112 n113 c114 2 1 (ints r110)] := hs.join hs1
        clear hs1
        refine sOneM (j := 1) hf hs rfl rfl rfl rfl rfl rfl hn115 el40 ti28 ?_; clear hf hs; intro a w A116 hs hf
        have hs : St [] W w [.mat A60 n61 c62 28 2 vs64 ms59, .mat A116 1 1 28 2 ([Value.slice A112 r110.length c114]) ([r110])] := hs
        obtain ⟨ms120, ha121, hm98⟩ := bind_some hm98
        refine sAppendM (i := 0) (j := 1) hf hs rfl rfl rfl rfl rfl rfl hn63 rfl (by decide) rfl rfl (by decide) ha121 el40 ti28 rfl ?_; clear hf hs; intro a w A118 c119 hs hf
        have hs : St [] W w [.mat A118 ms120.length c119 28 2 (vs64 ++ ([Value.slice A112 r110.length c114])) ms120] := hs
        obtain ⟨hq122, hv123⟩ := hs.appended (i := 0) rfl ha121
        refine sY hf hs rfl rfl rfl (Y_assign rfl rfl) ?_; clear hf; intro a hf
        refine wpO_nil ?_
        refine wpL_nil (Qb_normal ?_)
        refine wpL_region ?_
        refine sY hf hs rfl rfl rfl (Y_move rfl rfl) ?_; clear hf; intro a hf
        refine sY hf hs rfl rfl rfl (Y_add rfl rfl rfl) ?_; clear hf; intro a hf
        refine sY hf hs rfl rfl rfl (Y_assign rfl rfl) ?_; clear hf; intro a hf
        refine wpO_nil ?_
        refine wpL_nil (Ql_normal ?_)
        exact ⟨ms120, (IntKind.i64.wrap (x65 + 1)), A118, ms120.length, c119, (vs64 ++ ([Value.slice A112 r110.length c114])), hm98, rfl, (FrD.pick (FrD.pick (FrD.pick hf.none hf rfl) hf rfl) hf rfl), hs⟩
      · have hm98 := bif_f hm98 hb100
        refine wpL_exit (Ql_exit (Qb_exit ?_))
        exact ⟨ms59, A60, n61, c62, vs64, Option.some.inj hm98, hn63, (FrD.pick hf.none hf rfl), hs⟩
  · rintro a w ⟨ms90, A91, n92, c93, vs95, hr_, hn94, hf, hs⟩
    subst hr_
    try dsimp only at hm
    refine wpL_seq ?_
    refine wpL_region ?_
    refine sY hf hs rfl rfl rfl (Y_move rfl rfl) ?_; clear hf; intro a hf
    refine sY hf hs rfl rfl rfl (Y_assign rfl rfl) ?_; clear hf; intro a hf
    refine wpO_nil ?_
    obtain rfl := Option.some.inj hm
    refine wpL_ret (ret_tmp rfl hf rfl ?_)
    exact ⟨_, rfl, A91, n92, c93, vs95, rfl, hn94, hs⟩

set_option maxRecDepth 100000 in
theorem spec_l02Add_ok (F : Nat) (p0_a : List (List Int)) (A_p0_a_1 : Option Addr) (n_p0_a_1 c_p0_a_1 : Nat) (hn_p0_a_1 : n_p0_a_1 = p0_a.length) (p1_b : List (List Int)) (A_p1_b_1 : Option Addr) (n_p1_b_1 c_p1_b_1 : Nat) (hn_p1_b_1 : n_p1_b_1 = p1_b.length) (r : List (List Int)) (W : World) (hm : spec_l02Add F p0_a p1_b = some r) (h_p0_a_1 : RdM W A_p0_a_1 p0_a) (h_p1_b_1 : RdM W A_p1_b_1 p1_b) :
    Calls Try.prog 151 [.slice A_p0_a_1 n_p0_a_1 c_p0_a_1, .slice A_p1_b_1 n_p1_b_1 c_p1_b_1].toArray W fun e w' => ∃ v, e = .returned v ∧ ∃ A664, ∃ n665, ∃ c666, ∃ vs668, v = .slice A664 n665 c666 ∧ n665 = r.length ∧ St [] W w' [.mat A664 n665 c666 28 2 vs668 r] := by
  subst hn_p0_a_1
  subst hn_p1_b_1
  unfold spec_l02Add at hm
  refine Calls.enter (N := 47) Try.func151 rfl rfl rfl (fun a hf => ?_)
  have hs := St.start W
  obtain ⟨w, hw_⟩ : ∃ w, w = W := ⟨W, rfl⟩
  clear hw_ w
  refine wpL_seq ?_
  refine wpL_region ?_
  refine sY hf hs rfl rfl rfl (Y_assign rfl rfl) ?_; clear hf; intro a hf
  refine wpO_nil ?_
  refine wpL_seq ?_
  refine wpL_region ?_
  refine sY hf hs rfl rfl rfl (Y_move rfl rfl) ?_; clear hf; intro a hf
  obtain ⟨r1, hc2, hm⟩ := bind_some hm
  refine sCall hf rfl rfl rfl rfl (cap := []) rfl rfl en180 (spec_l02Own_ok F p0_a A_p0_a_1 p0_a.length c_p0_a_1 rfl _ _ hc2 (h_p0_a_1.at hs)) ?_; clear hf
  rintro _ w ⟨A3, n4, c5, vs7, rfl, hn6, hs1⟩ a hf
  have hs : St [] W w [.mat A3 n4 c5 28 2 vs7 r1] := hs.join hs1
  clear hs1
  refine sY hf hs rfl rfl rfl (Y_assign rfl rfl) ?_; clear hf; intro a hf
  refine wpO_nil ?_
  refine wpL_seq ?_
  refine wpL_seq ?_
  refine wpL_region ?_
  refine sY hf hs rfl rfl rfl (Y_assign rfl rfl) ?_; clear hf; intro a hf
  refine wpO_nil ?_
  obtain ⟨r499, hl500, hm⟩ := bind_some hm
  refine wpL_block (fun a w => ∃ ms497 : List (List Int), ms497 = r499 ∧ n4 = ms497.length ∧ Fr a 47 [(5, .slice A3 n4 c5)] ∧ St [] W w [.mat A3 n4 c5 28 2 vs7 ms497]) ?_ ?_
  · refine wpL_loop (fun n a w => ∃ ms333 : List (List Int), ∃ x335 : Int, spec_l02Add_L4 F p1_b n ms333 x335 = some r499 ∧ n4 = ms333.length ∧ Fr a 47 [(1, .slice A_p1_b_1 p1_b.length c_p1_b_1), (5, .slice A3 n4 c5), (6, .int .i64 x335)] ∧ St [] W w [.mat A3 n4 c5 28 2 vs7 ms333]) F ?_ ?_ ?_
    · exact ⟨r1, 0, hl500, hn6, (FrD.pick (FrD.pick (FrD.pick hf.none hf rfl) hf rfl) hf rfl), hs⟩
    · rintro a w ⟨ms333, x335, h0_, -, -, -⟩; simp [spec_l02Add_L4] at h0_
    · rintro n502 a w ⟨ms333, x335, hm501, hn334, hf, hs⟩
      rw [spec_l02Add_L4] at hm501
      refine wpL_seq ?_
      refine wpL_seq ?_
      refine wpL_region ?_
      refine sY hf hs rfl rfl rfl (Y_move rfl rfl) ?_; clear hf; intro a hf
      refine sY hf hs rfl rfl rfl (Y_move rfl rfl) ?_; clear hf; intro a hf
      refine sY hf hs rfl rfl rfl (Y_lenH rfl rfl el40 hn334) ?_; clear hf; intro a hf
      refine sY hf hs rfl rfl rfl (Y_lss rfl rfl rfl) ?_; clear hf; intro a hf
      refine wpO_nil ?_
      refine wpL_cond hf rfl (fun hb503 => ?_) (fun hb503 => ?_)
      · have hm501 := bif_t hm501 hb503
        refine wpL_skip ?_
        refine wpL_seq ?_
        refine wpL_block0 ?_
        refine wpL_seq ?_
        refine wpL_region ?_
        refine sY hf hs rfl rfl rfl (Y_assign rfl rfl) ?_; clear hf; intro a hf
        refine wpO_nil ?_
        obtain ⟨r623, hl624, hm501⟩ := bind_some hm501
        refine wpL_block (fun a w => ∃ ms621 : List (List Int), ms621 = r623 ∧ n4 = ms621.length ∧ Fr a 47 [(1, .slice A_p1_b_1 p1_b.length c_p1_b_1), (5, .slice A3 n4 c5), (6, .int .i64 x335)] ∧ St [] W w [.mat A3 n4 c5 28 2 vs7 ms621]) ?_ ?_
        · refine wpL_loop (fun n a w => ∃ ms581 : List (List Int), ∃ x583 : Int, spec_l02Add_L5 F p1_b x335 n ms581 x583 = some r623 ∧ n4 = ms581.length ∧ Fr a 47 [(1, .slice A_p1_b_1 p1_b.length c_p1_b_1), (5, .slice A3 n4 c5), (6, .int .i64 x335), (7, .int .i64 x583)] ∧ St [] W w [.mat A3 n4 c5 28 2 vs7 ms581]) F ?_ ?_ ?_
          · exact ⟨ms333, 0, hl624, hn334, (FrD.pick (FrD.pick (FrD.pick (FrD.pick hf.none hf rfl) hf rfl) hf rfl) hf rfl), hs⟩
          · rintro a w ⟨ms581, x583, h0_, -, -, -⟩; simp [spec_l02Add_L5] at h0_
          · rintro n626 a w ⟨ms581, x583, hm625, hn582, hf, hs⟩
            rw [spec_l02Add_L5] at hm625
            refine wpL_seq ?_
            refine wpL_seq ?_
            refine wpL_region ?_
            refine sY hf hs rfl rfl rfl (Y_move rfl rfl) ?_; clear hf; intro a hf
            refine sY hf hs rfl rfl rfl (Y_move rfl rfl) ?_; clear hf; intro a hf
            refine sY hf hs rfl rfl rfl (Y_move rfl rfl) ?_; clear hf; intro a hf
            obtain ⟨q627, hi628, hm625⟩ := bind_some hm625
            obtain ⟨hi628a, hi628b, hi628q⟩ := idx_some hi628
            obtain ⟨A629, c630, hv631⟩ := hs.matRow (i := 0) rfl hi628q
            refine sY hf hs rfl rfl rfl (Y_index rfl rfl rfl el40 ti28 (Rd.isAt (hs.rdV (i := 0) rfl) hv631) hi628a (ltn hn582 hi628b)) ?_; clear hf; intro a hf
            refine sY hf hs rfl rfl rfl (Y_load_rd rfl rfl (fun w hs => hs.rdV (i := 0) rfl) (at1 hv631) ag28) ?_; clear hf; intro a hf
            refine sY hf hs rfl rfl rfl (Y_lenH rfl rfl el28 rfl) ?_; clear hf; intro a hf
            refine sY hf hs rfl rfl rfl (Y_lss rfl rfl rfl) ?_; clear hf; intro a hf
            refine wpO_nil ?_
            refine wpL_cond hf rfl (fun hb632 => ?_) (fun hb632 => ?_)
            · have hm625 := bif_t hm625 hb632
              refine wpL_skip ?_
              refine wpL_seq ?_
              refine wpL_block0 ?_
              refine wpL_drawM [.mat A3 n4 c5 28 2 vs7 ms581] [21] (by kernel_rfl) hs ?_; clear hs; intro w hs
              have hs0 : St [] W w [.mat A3 n4 c5 28 2 vs7 ms581] := hs
              refine mYp (i := 0) rfl (by kernel_rfl) (by kernel_rfl) hf rfl rfl rfl (fun _ => Y_move rfl rfl) ?_; clear hf; intro a hf
              refine mYp (i := 1) rfl (by kernel_rfl) (by kernel_rfl) hf rfl rfl rfl (fun _ => Y_move rfl rfl) ?_; clear hf; intro a hf
              obtain ⟨q633, hi634, hm625⟩ := bind_some hm625
              obtain ⟨hi634a, hi634b, hi634q⟩ := idx_some hi634
              obtain ⟨A635, c636, hv637⟩ := hs.matRow (i := 0) rfl hi634q
              refine mYp (i := 2) rfl (by kernel_rfl) (by kernel_rfl) hf rfl rfl rfl (fun _ => Y_index rfl rfl rfl el40 ti28 (Rd.isAt (hs.rdV (i := 0) rfl) hv637) hi634a (ltn hn582 hi634b)) ?_; clear hf; intro a hf
              refine mY (i := 3) [[]] rfl (by kernel_rfl) (by kernel_rfl) hf hs0 rfl rfl rfl (Y_load_rd rfl rfl (fun w hs => hs.rdV (i := 0) rfl) (at1 hv637) ag28) ?_; clear hf; intro a hf
              refine mYp (i := 4) rfl (by kernel_rfl) (by kernel_rfl) hf rfl rfl rfl (fun _ => Y_move rfl rfl) ?_; clear hf; intro a hf
              refine mYp (i := 5) rfl (by kernel_rfl) (by kernel_rfl) hf rfl rfl rfl (fun _ => Y_move rfl rfl) ?_; clear hf; intro a hf
              refine mYp (i := 6) rfl (by kernel_rfl) (by kernel_rfl) hf rfl rfl rfl (fun _ => Y_move rfl rfl) ?_; clear hf; intro a hf
              obtain ⟨q638, hi639, hm625⟩ := bind_some hm625
              obtain ⟨hi639a, hi639b, hi639q⟩ := idx_some hi639
              obtain ⟨A640, c641, hv642⟩ := hs.matRow (i := 0) rfl hi639q
              refine mYp (i := 7) rfl (by kernel_rfl) (by kernel_rfl) hf rfl rfl rfl (fun _ => Y_index rfl rfl rfl el40 ti28 (Rd.isAt (hs.rdV (i := 0) rfl) hv642) hi639a (ltn hn582 hi639b)) ?_; clear hf; intro a hf
              refine mY (i := 8) [[]] rfl (by kernel_rfl) (by kernel_rfl) hf hs0 rfl rfl rfl (Y_load_rd rfl rfl (fun w hs => hs.rdV (i := 0) rfl) (at1 hv642) ag28) ?_; clear hf; intro a hf
              refine mYp (i := 9) rfl (by kernel_rfl) (by kernel_rfl) hf rfl rfl rfl (fun _ => Y_move rfl rfl) ?_; clear hf; intro a hf
              obtain ⟨q643, hi644, hm625⟩ := bind_some hm625
              obtain ⟨hi644a, hi644b, hi644q⟩ := idx_some hi644
              refine mYp (i := 10) rfl (by kernel_rfl) (by kernel_rfl) hf rfl rfl rfl (fun _ => Y_index rfl rfl rfl el28 ti2 (Rd.isAt (hs.rdRow (i := 0) rfl ⟨hi639q, hv642⟩) (at1 (ints_at hi644q))) hi644a hi644b) ?_; clear hf; intro a hf
              refine mY (i := 11) [[]] rfl (by kernel_rfl) (by kernel_rfl) hf hs0 rfl rfl rfl (Y_load_rd rfl rfl (fun w hs => hs.rdRow (i := 0) rfl ⟨hi639q, hv642⟩) (at1 (ints_at hi644q)) ag2) ?_; clear hf; intro a hf
              refine mYp (i := 12) rfl (by kernel_rfl) (by kernel_rfl) hf rfl rfl rfl (fun _ => Y_move rfl rfl) ?_; clear hf; intro a hf
              refine mYp (i := 13) rfl (by kernel_rfl) (by kernel_rfl) hf rfl rfl rfl (fun _ => Y_move rfl rfl) ?_; clear hf; intro a hf
              obtain ⟨q645, hi646, hm625⟩ := bind_some hm625
              obtain ⟨hi646a, hi646b, hi646q⟩ := idx_some hi646
              obtain ⟨vs647, hv648, hr649⟩ := id h_p1_b_1
              obtain ⟨A650, c651, hv652, hR653⟩ := hr649 _ _ hi646q
              refine mYp (i := 14) rfl (by kernel_rfl) (by kernel_rfl) hf rfl rfl rfl (fun _ => Y_index rfl rfl rfl el40 ti28 (Rd.isAt hv648 hv652) hi646a hi646b) ?_; clear hf; intro a hf
              refine mY (i := 15) [[]] rfl (by kernel_rfl) (by kernel_rfl) hf hs0 rfl rfl rfl (Y_load_rd rfl rfl (fun w hs => hv648.at hs) (at1 hv652) ag28) ?_; clear hf; intro a hf
              refine mYp (i := 16) rfl (by kernel_rfl) (by kernel_rfl) hf rfl rfl rfl (fun _ => Y_move rfl rfl) ?_; clear hf; intro a hf
              obtain ⟨q654, hi655, hm625⟩ := bind_some hm625
              obtain ⟨hi655a, hi655b, hi655q⟩ := idx_some hi655
              refine mYp (i := 17) rfl (by kernel_rfl) (by kernel_rfl) hf rfl rfl rfl (fun _ => Y_index rfl rfl rfl el28 ti2 (Rd.isAt (hR653.at hs) (at1 (ints_at hi655q))) hi655a hi655b) ?_; clear hf; intro a hf
              refine mY (i := 18) [[]] rfl (by kernel_rfl) (by kernel_rfl) hf hs0 rfl rfl rfl (Y_load_rd rfl rfl (fun w hs => hR653.at hs) (at1 (ints_at hi655q)) ag2) ?_; clear hf; intro a hf
              refine mYp (i := 19) rfl (by kernel_rfl) (by kernel_rfl) hf rfl rfl rfl (fun _ => Y_max rfl rfl rfl) ?_; clear hf; intro a hf
              obtain ⟨q656, hi657, hm625⟩ := bind_some hm625
              obtain ⟨hi657a, hi657b, hi657q⟩ := idx_some hi657
              refine mYp (i := 20) rfl (by kernel_rfl) (by kernel_rfl) hf rfl rfl rfl (fun _ => Y_index rfl rfl rfl el28 ti2 (Rd.isAt (hs.rdRow (i := 0) rfl ⟨hi634q, hv637⟩) (at1 (ints_at hi657q))) hi657a hi657b) ?_; clear hf; intro a hf
              refine mRun (i := 21) rfl (by kernel_rfl) ?_
              obtain ⟨xs658, hu660, hm625⟩ := bind_some hm625
              obtain ⟨ms659, hu661, hm625⟩ := bind_some hm625
              refine sStoreM (i := 0) (k := x335) hf hs rfl rfl rfl rfl rfl rfl hi634q hv637 rfl hu660 hu661 ti2 ?_; clear hs; intro w hs
              obtain ⟨hq662, hv663⟩ := rowUpd hu660 hu661 hv637
              have hs : St [] W w [.mat A3 n4 c5 28 2 vs7 ms659] := hs
              refine wpO_nil ⟨Or.inl (by decide), ?_⟩
              refine mDone (by kernel_rfl) ?_
              clear hs0
              refine wpL_nil (Qb_normal ?_)
              refine wpL_region ?_
              refine sY hf hs rfl rfl rfl (Y_move rfl rfl) ?_; clear hf; intro a hf
              refine sY hf hs rfl rfl rfl (Y_add rfl rfl rfl) ?_; clear hf; intro a hf
              refine sY hf hs rfl rfl rfl (Y_assign rfl rfl) ?_; clear hf; intro a hf
              refine wpO_nil ?_
              refine wpL_nil (Ql_normal ?_)
              exact ⟨ms659, (IntKind.i64.wrap (x583 + 1)), hm625, ((hn582).trans (upd_len hu661).symm), (FrD.pick (FrD.pick (FrD.pick (FrD.pick hf.none hf rfl) hf rfl) hf rfl) hf rfl), hs⟩
            · have hm625 := bif_f hm625 hb632
              refine wpL_exit (Ql_exit (Qb_exit ?_))
              exact ⟨ms581, Option.some.inj hm625, hn582, (FrD.pick (FrD.pick (FrD.pick hf.none hf rfl) hf rfl) hf rfl), hs⟩
        · rintro a w ⟨ms621, hr_, hn622, hf, hs⟩
          subst hr_
          try dsimp only at hm501
          refine wpL_nil (Qb_normal ?_)
          refine wpL_region ?_
          refine sY hf hs rfl rfl rfl (Y_move rfl rfl) ?_; clear hf; intro a hf
          refine sY hf hs rfl rfl rfl (Y_add rfl rfl rfl) ?_; clear hf; intro a hf
          refine sY hf hs rfl rfl rfl (Y_assign rfl rfl) ?_; clear hf; intro a hf
          refine wpO_nil ?_
          refine wpL_nil (Ql_normal ?_)
          exact ⟨ms621, (IntKind.i64.wrap (x335 + 1)), hm501, hn622, (FrD.pick (FrD.pick (FrD.pick hf.none hf rfl) hf rfl) hf rfl), hs⟩
      · have hm501 := bif_f hm501 hb503
        refine wpL_exit (Ql_exit (Qb_exit ?_))
        exact ⟨ms333, Option.some.inj hm501, hn334, (FrD.pick hf.none hf rfl), hs⟩
  · rintro a w ⟨ms497, hr_, hn498, hf, hs⟩
    subst hr_
    try dsimp only at hm
    refine wpL_seq ?_
    refine wpL_region ?_
    refine sY hf hs rfl rfl rfl (Y_move rfl rfl) ?_; clear hf; intro a hf
    refine sY hf hs rfl rfl rfl (Y_assign rfl rfl) ?_; clear hf; intro a hf
    refine wpO_nil ?_
    obtain rfl := Option.some.inj hm
    refine wpL_ret (ret_tmp rfl hf rfl ?_)
    exact ⟨_, rfl, A3, n4, c5, vs7, rfl, hn498, hs⟩

set_option maxRecDepth 100000 in
theorem spec_l01Same_ok (F : Nat) (p0_a : List Int) (A_p0_a_1 : Option Addr) (n_p0_a_1 c_p0_a_1 : Nat) (hn_p0_a_1 : n_p0_a_1 = p0_a.length) (p1_b : List Int) (A_p1_b_1 : Option Addr) (n_p1_b_1 c_p1_b_1 : Nat) (hn_p1_b_1 : n_p1_b_1 = p1_b.length) (r : Bool) (W : World) (hm : spec_l01Same F p0_a p1_b = some r) (h_p0_a_1 : Rd W A_p0_a_1 (ints p0_a)) (h_p1_b_1 : Rd W A_p1_b_1 (ints p1_b)) :
    Calls Try.prog 205 [.slice A_p0_a_1 n_p0_a_1 c_p0_a_1, .slice A_p1_b_1 n_p1_b_1 c_p1_b_1].toArray W fun e w' => ∃ v, e = .returned v ∧ v = .bool r ∧ St [] W w' [] := by
  subst hn_p0_a_1
  subst hn_p1_b_1
  unfold spec_l01Same at hm
  refine Calls.enter (N := 26) Try.func205 rfl rfl rfl (fun a hf => ?_)
  have hs := St.start W
  obtain ⟨w, hw_⟩ : ∃ w, w = W := ⟨W, rfl⟩
  clear hw_ w
  refine wpL_seq ?_
  refine wpL_region ?_
  refine sY hf hs rfl rfl rfl (Y_assign rfl rfl) ?_; clear hf; intro a hf
  refine wpO_nil ?_
  refine wpL_seq ?_
  refine wpL_seq ?_
  refine wpL_region ?_
  refine sY hf hs rfl rfl rfl (Y_move rfl rfl) ?_; clear hf; intro a hf
  refine sY hf hs rfl rfl rfl (Y_lenH rfl rfl el28 rfl) ?_; clear hf; intro a hf
  refine sY hf hs rfl rfl rfl (Y_move rfl rfl) ?_; clear hf; intro a hf
  refine sY hf hs rfl rfl rfl (Y_lenH rfl rfl el28 rfl) ?_; clear hf; intro a hf
  refine sY hf hs rfl rfl rfl (Y_neq rfl rfl rfl) ?_; clear hf; intro a hf
  refine wpO_nil ?_
  refine wpL_cond hf rfl (fun hb1 => ?_) (fun hb1 => ?_)
  · have hm := bif_t hm hb1
    refine wpL_seq ?_
    refine wpL_region ?_
    refine sY hf hs rfl rfl rfl (Y_assign rfl rfl) ?_; clear hf; intro a hf
    refine wpO_nil ?_
    obtain rfl := Option.some.inj hm
    refine wpL_ret (ret_tmp rfl hf rfl ?_)
    exact ⟨_, rfl, rfl, hs⟩
  · have hm := bif_f hm hb1
    refine wpL_skip ?_
    refine wpL_seq ?_
    refine wpL_seq ?_
    refine wpL_region ?_
    refine sY hf hs rfl rfl rfl (Y_assign rfl rfl) ?_; clear hf; intro a hf
    refine wpO_nil ?_
    obtain ⟨r22, hl23, hm⟩ := bind_some hm
    refine wpL_block (fun a w => Sum.inr () = r22 ∧ Fr a 26 [] ∧ St [] W w []) ?_ ?_
    · refine wpL_loop (fun n a w => ∃ x15 : Int, spec_l01Same_L1 F p0_a p1_b n x15 = some r22 ∧ Fr a 26 [(0, .slice A_p0_a_1 p0_a.length c_p0_a_1), (1, .slice A_p1_b_1 p1_b.length c_p1_b_1), (5, .int .i64 x15)] ∧ St [] W w []) F ?_ ?_ ?_
      · exact ⟨0, hl23, (FrD.pick (FrD.pick (FrD.pick hf.none hf rfl) hf rfl) hf rfl), hs⟩
      · rintro a w ⟨x15, h0_, -, -⟩; simp [spec_l01Same_L1] at h0_
      · rintro n25 a w ⟨x15, hm24, hf, hs⟩
        rw [spec_l01Same_L1] at hm24
        refine wpL_seq ?_
        refine wpL_seq ?_
        refine wpL_region ?_
        refine sY hf hs rfl rfl rfl (Y_move rfl rfl) ?_; clear hf; intro a hf
        refine sY hf hs rfl rfl rfl (Y_move rfl rfl) ?_; clear hf; intro a hf
        refine sY hf hs rfl rfl rfl (Y_lenH rfl rfl el28 rfl) ?_; clear hf; intro a hf
        refine sY hf hs rfl rfl rfl (Y_lss rfl rfl rfl) ?_; clear hf; intro a hf
        refine wpO_nil ?_
        refine wpL_cond hf rfl (fun hb26 => ?_) (fun hb26 => ?_)
        · have hm24 := bif_t hm24 hb26
          refine wpL_skip ?_
          refine wpL_seq ?_
          refine wpL_block0 ?_
          refine wpL_seq ?_
          refine wpL_draw (by kernel_rfl) (by kernel_rfl) hs ?_
          refine qY hf rfl rfl rfl (Y_move rfl rfl) ?_; clear hf; intro a hf
          refine qY hf rfl rfl rfl (Y_move rfl rfl) ?_; clear hf; intro a hf
          obtain ⟨q27, hi28, hm24⟩ := bind_some hm24
          obtain ⟨hi28a, hi28b, hi28q⟩ := idx_some hi28
          refine qY hf rfl rfl rfl (Y_index rfl rfl rfl el28 ti2 (Rd.isAt (h_p0_a_1.at hs) (at1 (ints_at hi28q))) hi28a hi28b) ?_; clear hf; intro a hf
          refine qY hf rfl rfl rfl (Y_load_rd rfl rfl (fun w hs => h_p0_a_1.at hs) (at1 (ints_at hi28q)) ag2) ?_; clear hf; intro a hf
          refine qY hf rfl rfl rfl (Y_move rfl rfl) ?_; clear hf; intro a hf
          refine qY hf rfl rfl rfl (Y_move rfl rfl) ?_; clear hf; intro a hf
          obtain ⟨q29, hi30, hm24⟩ := bind_some hm24
          obtain ⟨hi30a, hi30b, hi30q⟩ := idx_some hi30
          refine qY hf rfl rfl rfl (Y_index rfl rfl rfl el28 ti2 (Rd.isAt (h_p1_b_1.at hs) (at1 (ints_at hi30q))) hi30a hi30b) ?_; clear hf; intro a hf
          refine qY hf rfl rfl rfl (Y_load_rd rfl rfl (fun w hs => h_p1_b_1.at hs) (at1 (ints_at hi30q)) ag2) ?_; clear hf; intro a hf
          refine qY hf rfl rfl rfl (Y_neq rfl rfl rfl) ?_; clear hf; intro a hf
          refine qNil ?_; clear hs; intro w hs
          refine wpL_cond hf rfl (fun hb31 => ?_) (fun hb31 => ?_)
          · have hm24 := bif_t hm24 hb31
            refine wpL_seq ?_
            refine wpL_region ?_
            refine sY hf hs rfl rfl rfl (Y_assign rfl rfl) ?_; clear hf; intro a hf
            refine wpO_nil ?_
            obtain rfl := Option.some.inj hm24
            try dsimp only at hm
            obtain rfl := Option.some.inj hm
            refine wpL_ret (Qb_ret (Ql_ret (Qb_ret (ret_tmp rfl hf rfl ?_))))
            exact ⟨_, rfl, rfl, hs⟩
          · have hm24 := bif_f hm24 hb31
            refine wpL_skip ?_
            refine wpL_nil (Qb_normal ?_)
            refine wpL_region ?_
            refine sY hf hs rfl rfl rfl (Y_move rfl rfl) ?_; clear hf; intro a hf
            refine sY hf hs rfl rfl rfl (Y_add rfl rfl rfl) ?_; clear hf; intro a hf
            refine sY hf hs rfl rfl rfl (Y_assign rfl rfl) ?_; clear hf; intro a hf
            refine wpO_nil ?_
            refine wpL_nil (Ql_normal ?_)
            exact ⟨(IntKind.i64.wrap (x15 + 1)), hm24, (FrD.pick (FrD.pick (FrD.pick hf.none hf rfl) hf rfl) hf rfl), hs⟩
        · have hm24 := bif_f hm24 hb26
          refine wpL_exit (Ql_exit (Qb_exit ?_))
          exact ⟨Option.some.inj hm24, hf.none, hs⟩
    · rintro a w ⟨hr_, hf, hs⟩
      subst hr_
      try dsimp only at hm
      refine wpL_seq ?_
      refine wpL_region ?_
      refine sY hf hs rfl rfl rfl (Y_assign rfl rfl) ?_; clear hf; intro a hf
      refine wpO_nil ?_
      obtain rfl := Option.some.inj hm
      refine wpL_ret (ret_tmp rfl hf rfl ?_)
      exact ⟨_, rfl, rfl, hs⟩

set_option maxRecDepth 100000 in
theorem spec_l02Same_ok (F : Nat) (p0_a : List (List Int)) (A_p0_a_1 : Option Addr) (n_p0_a_1 c_p0_a_1 : Nat) (hn_p0_a_1 : n_p0_a_1 = p0_a.length) (p1_b : List (List Int)) (A_p1_b_1 : Option Addr) (n_p1_b_1 c_p1_b_1 : Nat) (hn_p1_b_1 : n_p1_b_1 = p1_b.length) (r : Bool) (W : World) (hm : spec_l02Same F p0_a p1_b = some r) (h_p0_a_1 : RdM W A_p0_a_1 p0_a) (h_p1_b_1 : RdM W A_p1_b_1 p1_b) :
    Calls Try.prog 152 [.slice A_p0_a_1 n_p0_a_1 c_p0_a_1, .slice A_p1_b_1 n_p1_b_1 c_p1_b_1].toArray W fun e w' => ∃ v, e = .returned v ∧ v = .bool r ∧ St [] W w' [] := by
  subst hn_p0_a_1
  subst hn_p1_b_1
  unfold spec_l02Same at hm
  refine Calls.enter (N := 27) Try.func152 rfl rfl rfl (fun a hf => ?_)
  have hs := St.start W
  obtain ⟨w, hw_⟩ : ∃ w, w = W := ⟨W, rfl⟩
  clear hw_ w
  refine wpL_seq ?_
  refine wpL_region ?_
  refine sY hf hs rfl rfl rfl (Y_assign rfl rfl) ?_; clear hf; intro a hf
  refine wpO_nil ?_
  refine wpL_seq ?_
  refine wpL_seq ?_
  refine wpL_region ?_
  refine sY hf hs rfl rfl rfl (Y_move rfl rfl) ?_; clear hf; intro a hf
  refine sY hf hs rfl rfl rfl (Y_lenH rfl rfl el40 rfl) ?_; clear hf; intro a hf
  refine sY hf hs rfl rfl rfl (Y_move rfl rfl) ?_; clear hf; intro a hf
  refine sY hf hs rfl rfl rfl (Y_lenH rfl rfl el40 rfl) ?_; clear hf; intro a hf
  refine sY hf hs rfl rfl rfl (Y_neq rfl rfl rfl) ?_; clear hf; intro a hf
  refine wpO_nil ?_
  refine wpL_cond hf rfl (fun hb1 => ?_) (fun hb1 => ?_)
  · have hm := bif_t hm hb1
    refine wpL_seq ?_
    refine wpL_region ?_
    refine sY hf hs rfl rfl rfl (Y_assign rfl rfl) ?_; clear hf; intro a hf
    refine wpO_nil ?_
    obtain rfl := Option.some.inj hm
    refine wpL_ret (ret_tmp rfl hf rfl ?_)
    exact ⟨_, rfl, rfl, hs⟩
  · have hm := bif_f hm hb1
    refine wpL_skip ?_
    refine wpL_seq ?_
    refine wpL_seq ?_
    refine wpL_region ?_
    refine sY hf hs rfl rfl rfl (Y_assign rfl rfl) ?_; clear hf; intro a hf
    refine wpO_nil ?_
    obtain ⟨r70, hl71, hm⟩ := bind_some hm
    refine wpL_block (fun a w => Sum.inr () = r70 ∧ Fr a 27 [] ∧ St [] W w []) ?_ ?_
    · refine wpL_loop (fun n a w => ∃ x47 : Int, spec_l02Same_L1 F p0_a p1_b n x47 = some r70 ∧ Fr a 27 [(0, .slice A_p0_a_1 p0_a.length c_p0_a_1), (1, .slice A_p1_b_1 p1_b.length c_p1_b_1), (5, .int .i64 x47)] ∧ St [] W w []) F ?_ ?_ ?_
      · exact ⟨0, hl71, (FrD.pick (FrD.pick (FrD.pick hf.none hf rfl) hf rfl) hf rfl), hs⟩
      · rintro a w ⟨x47, h0_, -, -⟩; simp [spec_l02Same_L1] at h0_
      · rintro n73 a w ⟨x47, hm72, hf, hs⟩
        rw [spec_l02Same_L1] at hm72
        refine wpL_seq ?_
        refine wpL_seq ?_
        refine wpL_region ?_
        refine sY hf hs rfl rfl rfl (Y_move rfl rfl) ?_; clear hf; intro a hf
        refine sY hf hs rfl rfl rfl (Y_move rfl rfl) ?_; clear hf; intro a hf
        refine sY hf hs rfl rfl rfl (Y_lenH rfl rfl el40 rfl) ?_; clear hf; intro a hf
        refine sY hf hs rfl rfl rfl (Y_lss rfl rfl rfl) ?_; clear hf; intro a hf
        refine wpO_nil ?_
        refine wpL_cond hf rfl (fun hb74 => ?_) (fun hb74 => ?_)
        · have hm72 := bif_t hm72 hb74
          refine wpL_skip ?_
          refine wpL_seq ?_
          refine wpL_block0 ?_
          refine wpL_seq ?_
          refine wpL_draw (by kernel_rfl) (by kernel_rfl) hs ?_
          refine qY hf rfl rfl rfl (Y_move rfl rfl) ?_; clear hf; intro a hf
          refine qY hf rfl rfl rfl (Y_move rfl rfl) ?_; clear hf; intro a hf
          obtain ⟨q75, hi76, hm72⟩ := bind_some hm72
          obtain ⟨hi76a, hi76b, hi76q⟩ := idx_some hi76
          obtain ⟨vs77, hv78, hr79⟩ := id h_p0_a_1
          obtain ⟨A80, c81, hv82, hR83⟩ := hr79 _ _ hi76q
          refine qY hf rfl rfl rfl (Y_index rfl rfl rfl el40 ti28 (Rd.isAt hv78 hv82) hi76a hi76b) ?_; clear hf; intro a hf
          refine qY hf rfl rfl rfl (Y_load_rd rfl rfl (fun w hs => hv78.at hs) (at1 hv82) ag28) ?_; clear hf; intro a hf
          refine qY hf rfl rfl rfl (Y_move rfl rfl) ?_; clear hf; intro a hf
          refine qY hf rfl rfl rfl (Y_move rfl rfl) ?_; clear hf; intro a hf
          obtain ⟨q84, hi85, hm72⟩ := bind_some hm72
          obtain ⟨hi85a, hi85b, hi85q⟩ := idx_some hi85
          obtain ⟨vs86, hv87, hr88⟩ := id h_p1_b_1
          obtain ⟨A89, c90, hv91, hR92⟩ := hr88 _ _ hi85q
          refine qY hf rfl rfl rfl (Y_index rfl rfl rfl el40 ti28 (Rd.isAt hv87 hv91) hi85a hi85b) ?_; clear hf; intro a hf
          refine qY hf rfl rfl rfl (Y_load_rd rfl rfl (fun w hs => hv87.at hs) (at1 hv91) ag28) ?_; clear hf; intro a hf
          obtain ⟨r93, hc94, hm72⟩ := bind_some hm72
          refine qCall hf rfl rfl rfl rfl (cap := []) rfl rfl en205 (v := .bool r93) (fun w hs => Calls.scal (spec_l01Same_ok F q75 A80 q75.length c81 rfl q84 A89 q84.length c90 rfl _ _ hc94 (hR83.at hs) (hR92.at hs))) ?_; clear hf; intro a hf
          refine qY hf rfl rfl rfl (Y_not rfl rfl) ?_; clear hf; intro a hf
          refine qNil ?_; clear hs; intro w hs
          refine wpL_cond hf rfl (fun hb95 => ?_) (fun hb95 => ?_)
          · have hm72 := bif_t hm72 hb95
            refine wpL_seq ?_
            refine wpL_region ?_
            refine sY hf hs rfl rfl rfl (Y_assign rfl rfl) ?_; clear hf; intro a hf
            refine wpO_nil ?_
            obtain rfl := Option.some.inj hm72
            try dsimp only at hm
            obtain rfl := Option.some.inj hm
            refine wpL_ret (Qb_ret (Ql_ret (Qb_ret (ret_tmp rfl hf rfl ?_))))
            exact ⟨_, rfl, rfl, hs⟩
          · have hm72 := bif_f hm72 hb95
            refine wpL_skip ?_
            refine wpL_nil (Qb_normal ?_)
            refine wpL_region ?_
            refine sY hf hs rfl rfl rfl (Y_move rfl rfl) ?_; clear hf; intro a hf
            refine sY hf hs rfl rfl rfl (Y_add rfl rfl rfl) ?_; clear hf; intro a hf
            refine sY hf hs rfl rfl rfl (Y_assign rfl rfl) ?_; clear hf; intro a hf
            refine wpO_nil ?_
            refine wpL_nil (Ql_normal ?_)
            exact ⟨(IntKind.i64.wrap (x47 + 1)), hm72, (FrD.pick (FrD.pick (FrD.pick hf.none hf rfl) hf rfl) hf rfl), hs⟩
        · have hm72 := bif_f hm72 hb74
          refine wpL_exit (Ql_exit (Qb_exit ?_))
          exact ⟨Option.some.inj hm72, hf.none, hs⟩
    · rintro a w ⟨hr_, hf, hs⟩
      subst hr_
      try dsimp only at hm
      refine wpL_seq ?_
      refine wpL_region ?_
      refine sY hf hs rfl rfl rfl (Y_assign rfl rfl) ?_; clear hf; intro a hf
      refine wpO_nil ?_
      obtain rfl := Option.some.inj hm
      refine wpL_ret (ret_tmp rfl hf rfl ?_)
      exact ⟨_, rfl, rfl, hs⟩

set_option maxRecDepth 100000 in
theorem spec_l03Star_ok (F : Nat) (p0_a : List (List Int)) (A_p0_a_1 : Option Addr) (n_p0_a_1 c_p0_a_1 : Nat) (hn_p0_a_1 : n_p0_a_1 = p0_a.length) (r : List (List Int) × Bool) (W : World) (hm : spec_l03Star F p0_a = some r) (h_p0_a_1 : RdM W A_p0_a_1 p0_a) :
    Calls Try.prog 83 [.slice A_p0_a_1 n_p0_a_1 c_p0_a_1].toArray W fun e w' => ∃ v, e = .returned v ∧ ∃ A143, ∃ n144, ∃ c145, ∃ vs147, v = .tuple #[.slice A143 n144 c145, .bool r.2] ∧ n144 = r.1.length ∧ St [] W w' [.mat A143 n144 c145 28 2 vs147 r.1] := by
  subst hn_p0_a_1
  unfold spec_l03Star at hm
  refine Calls.enter (N := 33) Try.func83 rfl rfl rfl (fun a hf => ?_)
  have hs := St.start W
  obtain ⟨w, hw_⟩ : ∃ w, w = W := ⟨W, rfl⟩
  clear hw_ w
  refine wpL_seq ?_
  refine wpL_region ?_
  refine sY hf hs rfl rfl rfl (Y_assign rfl rfl) ?_; clear hf; intro a hf
  refine sY hf hs rfl rfl rfl (Y_assign rfl rfl) ?_; clear hf; intro a hf
  refine wpO_nil ?_
  refine wpL_seq ?_
  refine wpL_region ?_
  refine sY hf hs rfl rfl rfl (Y_move rfl rfl) ?_; clear hf; intro a hf
  refine sY hf hs rfl rfl rfl (Y_lenH rfl rfl el40 rfl) ?_; clear hf; intro a hf
  refine sY hf hs rfl rfl rfl (Y_assign rfl rfl) ?_; clear hf; intro a hf
  refine wpO_nil ?_
  refine wpL_seq ?_
  refine wpL_region ?_
  refine sY hf hs rfl rfl rfl (Y_move rfl rfl) ?_; clear hf; intro a hf
  obtain ⟨r1, hc2, hm⟩ := bind_some hm
  refine sCall hf rfl rfl rfl rfl (cap := []) rfl rfl en150 (spec_l02Unit_ok F (p0_a.length : Int) _ _ hc2) ?_; clear hf
  rintro _ w ⟨A3, n4, c5, vs7, rfl, hn6, hs1⟩ a hf
  have hs : St [] W w [.mat A3 n4 c5 28 2 vs7 r1] := hs.join hs1
  clear hs1
  refine sY hf hs rfl rfl rfl (Y_assign rfl rfl) ?_; clear hf; intro a hf
  refine wpO_nil ?_
  refine wpL_seq ?_
  refine wpL_seq ?_
  refine wpL_region ?_
  refine sY hf hs rfl rfl rfl (Y_assign rfl rfl) ?_; clear hf; intro a hf
  refine wpO_nil ?_
  obtain ⟨r94, hl95, hm⟩ := bind_some hm
  refine wpL_block (fun a w => ∃ ms88 : List (List Int), ∃ A89, ∃ n90, ∃ c91, ∃ vs93, ms88 = r94 ∧ n90 = ms88.length ∧ Fr a 33 [(0, .slice A_p0_a_1 p0_a.length c_p0_a_1), (4, .int .i64 (p0_a.length : Int)), (5, .slice A89 n90 c91)] ∧ St [] W w [.mat A89 n90 c91 28 2 vs93 ms88]) ?_ ?_
  · refine wpL_loop (fun n a w => ∃ ms59 : List (List Int), ∃ x65 : Int, ∃ A60, ∃ n61, ∃ c62, ∃ vs64, spec_l03Star_L1 F p0_a n ms59 x65 = some r94 ∧ n61 = ms59.length ∧ Fr a 33 [(0, .slice A_p0_a_1 p0_a.length c_p0_a_1), (4, .int .i64 (p0_a.length : Int)), (5, .slice A60 n61 c62), (6, .int .i64 x65)] ∧ St [] W w [.mat A60 n61 c62 28 2 vs64 ms59]) F ?_ ?_ ?_
    · exact ⟨r1, 0, A3, n4, c5, vs7, hl95, hn6, (FrD.pick (FrD.pick (FrD.pick (FrD.pick hf.none hf rfl) hf rfl) hf rfl) hf rfl), hs⟩
    · rintro a w ⟨ms59, x65, A60, n61, c62, vs64, h0_, -, -, -⟩; simp [spec_l03Star_L1] at h0_
    · rintro n97 a w ⟨ms59, x65, A60, n61, c62, vs64, hm96, hn63, hf, hs⟩
      rw [spec_l03Star_L1] at hm96
      refine wpL_seq ?_
      refine wpL_seq ?_
      refine wpL_region ?_
      refine sY hf hs rfl rfl rfl (Y_move rfl rfl) ?_; clear hf; intro a hf
      refine sY hf hs rfl rfl rfl (Y_move rfl rfl) ?_; clear hf; intro a hf
      refine sY hf hs rfl rfl rfl (Y_lss rfl rfl rfl) ?_; clear hf; intro a hf
      refine wpO_nil ?_
      refine wpL_cond hf rfl (fun hb98 => ?_) (fun hb98 => ?_)
      · have hm96 := bif_t hm96 hb98
        refine wpL_skip ?_
        refine wpL_seq ?_
        refine wpL_block0 ?_
        refine wpL_region ?_
        refine sY hf hs rfl rfl rfl (Y_move rfl rfl) ?_; clear hf; intro a hf
        obtain ⟨r99, hc100, hm96⟩ := bind_some hm96
        refine sCall hf rfl rfl rfl rfl (cap := []) rfl rfl en150 (spec_l02Unit_ok F (p0_a.length : Int) _ _ hc100) ?_; clear hf
        rintro _ w ⟨A101, n102, c103, vs105, rfl, hn104, hs1⟩ a hf
        have hs : St [] W w [.mat A60 n61 c62 28 2 vs64 ms59, .mat A101 n102 c103 28 2 vs105 r99] := hs.join hs1
        clear hs1
        refine sY hf hs rfl rfl rfl (Y_move rfl rfl) ?_; clear hf; intro a hf
        refine sY hf hs rfl rfl rfl (Y_move rfl rfl) ?_; clear hf; intro a hf
        obtain ⟨r106, hc107, hm96⟩ := bind_some hm96
        refine sCall hf rfl rfl rfl rfl (cap := []) rfl rfl en86 (spec_l02Multiply_ok F p0_a A_p0_a_1 p0_a.length c_p0_a_1 rfl ms59 A60 n61 c62 hn63 _ _ hc107 (h_p0_a_1.at hs) (hs.rdM (i := 0) rfl)) ?_; clear hf
        rintro _ w ⟨A108, n109, c110, vs112, rfl, hn111, hs1⟩ a hf
        have hs : St [] W w [.mat A60 n61 c62 28 2 vs64 ms59, .mat A101 n102 c103 28 2 vs105 r99, .mat A108 n109 c110 28 2 vs112 r106] := hs.join hs1
        clear hs1
        obtain ⟨r113, hc114, hm96⟩ := bind_some hm96
        refine sCall hf rfl rfl rfl rfl (cap := []) rfl rfl en151 (spec_l02Add_ok F r99 A101 n102 c103 hn104 r106 A108 n109 c110 hn111 _ _ hc114 (hs.rdM (i := 1) rfl) (hs.rdM (i := 2) rfl)) ?_; clear hf
        rintro _ w ⟨A115, n116, c117, vs119, rfl, hn118, hs1⟩ a hf
        have hs : St [] W w [.mat A60 n61 c62 28 2 vs64 ms59, .mat A101 n102 c103 28 2 vs105 r99, .mat A108 n109 c110 28 2 vs112 r106, .mat A115 n116 c117 28 2 vs119 r113] := hs.join hs1
        clear hs1
        refine sY hf hs rfl rfl rfl (Y_assign rfl rfl) ?_; clear hf; intro a hf
        refine wpO_nil ?_
        refine wpL_nil (Qb_normal ?_)
        refine wpL_region ?_
        refine sY hf hs rfl rfl rfl (Y_move rfl rfl) ?_; clear hf; intro a hf
        refine sY hf hs rfl rfl rfl (Y_add rfl rfl rfl) ?_; clear hf; intro a hf
        refine sY hf hs rfl rfl rfl (Y_assign rfl rfl) ?_; clear hf; intro a hf
        refine wpO_nil ?_
        refine wpL_nil (Ql_normal ?_)
        exact ⟨r113, (IntKind.i64.wrap (x65 + 1)), A115, n116, c117, vs119, hm96, hn118, (FrD.pick (FrD.pick (FrD.pick (FrD.pick hf.none hf rfl) hf rfl) hf rfl) hf rfl), hs.sel [3] (by decide)⟩
      · have hm96 := bif_f hm96 hb98
        refine wpL_exit (Ql_exit (Qb_exit ?_))
        exact ⟨ms59, A60, n61, c62, vs64, Option.some.inj hm96, hn63, (FrD.pick (FrD.pick (FrD.pick hf.none hf rfl) hf rfl) hf rfl), hs⟩
  · rintro a w ⟨ms88, A89, n90, c91, vs93, hr_, hn92, hf, hs⟩
    subst hr_
    try dsimp only at hm
    refine wpL_seq ?_
    refine wpL_region ?_
    refine sY hf hs rfl rfl rfl (Y_move rfl rfl) ?_; clear hf; intro a hf
    obtain ⟨r120, hc121, hm⟩ := bind_some hm
    refine sCall hf rfl rfl rfl rfl (cap := []) rfl rfl en150 (spec_l02Unit_ok F (p0_a.length : Int) _ _ hc121) ?_; clear hf
    rintro _ w ⟨A122, n123, c124, vs126, rfl, hn125, hs1⟩ a hf
    have hs : St [] W w [.mat A89 n90 c91 28 2 vs93 ms88, .mat A122 n123 c124 28 2 vs126 r120] := hs.join hs1
    clear hs1
    refine sY hf hs rfl rfl rfl (Y_move rfl rfl) ?_; clear hf; intro a hf
    refine sY hf hs rfl rfl rfl (Y_move rfl rfl) ?_; clear hf; intro a hf
    obtain ⟨r127, hc128, hm⟩ := bind_some hm
    refine sCall hf rfl rfl rfl rfl (cap := []) rfl rfl en86 (spec_l02Multiply_ok F p0_a A_p0_a_1 p0_a.length c_p0_a_1 rfl ms88 A89 n90 c91 hn92 _ _ hc128 (h_p0_a_1.at hs) (hs.rdM (i := 0) rfl)) ?_; clear hf
    rintro _ w ⟨A129, n130, c131, vs133, rfl, hn132, hs1⟩ a hf
    have hs : St [] W w [.mat A89 n90 c91 28 2 vs93 ms88, .mat A122 n123 c124 28 2 vs126 r120, .mat A129 n130 c131 28 2 vs133 r127] := hs.join hs1
    clear hs1
    obtain ⟨r134, hc135, hm⟩ := bind_some hm
    refine sCall hf rfl rfl rfl rfl (cap := []) rfl rfl en151 (spec_l02Add_ok F r120 A122 n123 c124 hn125 r127 A129 n130 c131 hn132 _ _ hc135 (hs.rdM (i := 1) rfl) (hs.rdM (i := 2) rfl)) ?_; clear hf
    rintro _ w ⟨A136, n137, c138, vs140, rfl, hn139, hs1⟩ a hf
    have hs : St [] W w [.mat A89 n90 c91 28 2 vs93 ms88, .mat A122 n123 c124 28 2 vs126 r120, .mat A129 n130 c131 28 2 vs133 r127, .mat A136 n137 c138 28 2 vs140 r134] := hs.join hs1
    clear hs1
    refine sY hf hs rfl rfl rfl (Y_assign rfl rfl) ?_; clear hf; intro a hf
    refine wpO_nil ?_
    refine wpL_seq ?_
    refine wpL_region ?_
    refine sY hf hs rfl rfl rfl (Y_move rfl rfl) ?_; clear hf; intro a hf
    refine sY hf hs rfl rfl rfl (Y_move rfl rfl) ?_; clear hf; intro a hf
    refine sY hf hs rfl rfl rfl (Y_move rfl rfl) ?_; clear hf; intro a hf
    obtain ⟨r141, hc142, hm⟩ := bind_some hm
    refine sCall hf rfl rfl rfl rfl (cap := []) rfl rfl en152 (spec_l02Same_ok F r134 A136 n137 c138 hn139 ms88 A89 n90 c91 hn92 _ _ hc142 (hs.rdM (i := 3) rfl) (hs.rdM (i := 0) rfl)) ?_; clear hf
    rintro _ w ⟨rfl, hs1⟩ a hf
    have hs : St [] W w [.mat A89 n90 c91 28 2 vs93 ms88, .mat A122 n123 c124 28 2 vs126 r120, .mat A129 n130 c131 28 2 vs133 r127, .mat A136 n137 c138 28 2 vs140 r134] := hs.ext hs1.below
    clear hs1
    refine sY hf hs rfl rfl rfl (Y_assign rfl rfl) ?_; clear hf; intro a hf
    refine sY hf hs rfl rfl rfl (Y_assign rfl rfl) ?_; clear hf; intro a hf
    refine wpO_nil ?_
    obtain rfl := Option.some.inj hm
    refine wpL_ret (ret_tmp2 rfl hf rfl rfl ?_)
    exact ⟨_, rfl, A89, n90, c91, vs93, rfl, hn92, hs.sel [0] (by decide)⟩

set_option maxRecDepth 100000 in
theorem spec_l03Result_ok (F : Nat) (p0_a : List (List Int)) (A_p0_a_1 : Option Addr) (n_p0_a_1 c_p0_a_1 : Nat) (hn_p0_a_1 : n_p0_a_1 = p0_a.length) (r : List (List Int) × Int) (W : World) (hm : spec_l03Result F p0_a = some r) (h_p0_a_1 : RdM W A_p0_a_1 p0_a) :
    Calls Try.prog 84 [.slice A_p0_a_1 n_p0_a_1 c_p0_a_1].toArray W fun e w' => ∃ v, e = .returned v ∧ ∃ A4, ∃ n5, ∃ c6, v = .tuple #[.slice A4 n5 c6, .int .i64 r.2] ∧ n5 = r.1.length ∧ Al A_p0_a_1 n_p0_a_1 c_p0_a_1 p0_a A4 n5 c6 r.1 ∧ St [] W w' [] := by
  subst hn_p0_a_1
  unfold spec_l03Result at hm
  refine Calls.enter (N := 8) Try.func84 rfl rfl rfl (fun a hf => ?_)
  have hs := St.start W
  obtain ⟨w, hw_⟩ : ∃ w, w = W := ⟨W, rfl⟩
  clear hw_ w
  refine wpL_seq ?_
  refine wpL_region ?_
  refine sY hf hs rfl rfl rfl (Y_assign rfl rfl) ?_; clear hf; intro a hf
  refine sY hf hs rfl rfl rfl (Y_assign rfl rfl) ?_; clear hf; intro a hf
  refine wpO_nil ?_
  refine wpL_seq ?_
  refine wpL_seq ?_
  refine wpL_region ?_
  refine sY hf hs rfl rfl rfl (Y_move rfl rfl) ?_; clear hf; intro a hf
  obtain ⟨r1, hc2, hm⟩ := bind_some hm
  refine sCall hf rfl rfl rfl rfl (cap := []) rfl rfl en149 (spec_IsMatrix_ok F p0_a A_p0_a_1 p0_a.length c_p0_a_1 rfl _ _ hc2 (h_p0_a_1.at hs)) ?_; clear hf
  rintro _ w ⟨rfl, hs1⟩ a hf
  have hs : St [] W w [] := hs.ext hs1.below
  clear hs1
  refine sY hf hs rfl rfl rfl (Y_not rfl rfl) ?_; clear hf; intro a hf
  refine wpO_nil ?_
  refine wpL_cond hf rfl (fun hb3 => ?_) (fun hb3 => ?_)
  · have hm := bif_t hm hb3
    refine wpL_seq ?_
    refine wpL_region ?_
    refine sY hf hs rfl rfl rfl (Y_assign rfl rfl) ?_; clear hf; intro a hf
    refine sY hf hs rfl rfl rfl (Y_assign rfl rfl) ?_; clear hf; intro a hf
    refine wpO_nil ?_
    obtain rfl := Option.some.inj hm
    refine wpL_ret (ret_tmp2 rfl hf rfl rfl ?_)
    exact ⟨_, rfl, none, 0, 0, rfl, rfl, .inr ⟨rfl, rfl, rfl, rfl⟩, hs⟩
  · have hm := bif_f hm hb3
    refine wpL_skip ?_
    refine wpL_seq ?_
    refine wpL_region ?_
    refine sY hf hs rfl rfl rfl (Y_move rfl rfl) ?_; clear hf; intro a hf
    refine sY hf hs rfl rfl rfl (Y_assign rfl rfl) ?_; clear hf; intro a hf
    refine sY hf hs rfl rfl rfl (Y_assign rfl rfl) ?_; clear hf; intro a hf
    refine wpO_nil ?_
    obtain rfl := Option.some.inj hm
    refine wpL_ret (ret_tmp2 rfl hf rfl rfl ?_)
    exact ⟨_, rfl, A_p0_a_1, p0_a.length, c_p0_a_1, rfl, rfl, .inl ⟨rfl, rfl, rfl, rfl⟩, hs⟩

set_option maxRecDepth 100000 in
theorem spec_StarMatrix_ok (F : Nat) (p0_a : List (List Int)) (A_p0_a_1 : Option Addr) (n_p0_a_1 c_p0_a_1 : Nat) (hn_p0_a_1 : n_p0_a_1 = p0_a.length) (r : List (List Int) × Int) (W : World) (hm : spec_StarMatrix F p0_a = some r) (h_p0_a_1 : RdM W A_p0_a_1 p0_a) :
    Calls Try.prog 26 [.slice A_p0_a_1 n_p0_a_1 c_p0_a_1].toArray W fun e w' => ∃ v, e = .returned v ∧ ∃ A22, ∃ n23, ∃ c24, ∃ vs26, v = .tuple #[.slice A22 n23 c24, .int .i64 r.2] ∧ n23 = r.1.length ∧ St [] W w' [.mat A22 n23 c24 28 2 vs26 r.1] := by
  subst hn_p0_a_1
  unfold spec_StarMatrix at hm
  refine Calls.enter (N := 20) Try.func26 rfl rfl rfl (fun a hf => ?_)
  have hs := St.start W
  obtain ⟨w, hw_⟩ : ∃ w, w = W := ⟨W, rfl⟩
  clear hw_ w
  refine wpL_seq ?_
  refine wpL_region ?_
  refine sY hf hs rfl rfl rfl (Y_assign rfl rfl) ?_; clear hf; intro a hf
  refine sY hf hs rfl rfl rfl (Y_assign rfl rfl) ?_; clear hf; intro a hf
  refine wpO_nil ?_
  refine wpL_seq ?_
  refine wpL_seq ?_
  refine wpL_region ?_
  refine sY hf hs rfl rfl rfl (Y_move rfl rfl) ?_; clear hf; intro a hf
  obtain ⟨r1, hc2, hm⟩ := bind_some hm
  refine sCall hf rfl rfl rfl rfl (cap := []) rfl rfl en82 (spec_l02Square_ok F p0_a A_p0_a_1 p0_a.length c_p0_a_1 rfl _ _ hc2 (h_p0_a_1.at hs)) ?_; clear hf
  rintro _ w ⟨rfl, hs1⟩ a hf
  have hs : St [] W w [] := hs.ext hs1.below
  clear hs1
  refine sY hf hs rfl rfl rfl (Y_not rfl rfl) ?_; clear hf; intro a hf
  refine wpO_nil ?_
  refine wpL_cond hf rfl (fun hb3 => ?_) (fun hb3 => ?_)
  · have hm := bif_t hm hb3
    refine wpL_seq ?_
    refine wpL_region ?_
    refine sY hf hs rfl rfl rfl (Y_assign rfl rfl) ?_; clear hf; intro a hf
    refine sY hf hs rfl rfl rfl (Y_assign rfl rfl) ?_; clear hf; intro a hf
    refine wpO_nil ?_
    have hs : St [] W _ [.mat none 0 0 28 2 [] ([] : List (List Int))] := hs.addNilM 28 2
    obtain rfl := Option.some.inj hm
    refine wpL_ret (ret_tmp2 rfl hf rfl rfl ?_)
    exact ⟨_, rfl, none, 0, 0, [], rfl, rfl, hs⟩
  · have hm := bif_f hm hb3
    refine wpL_skip ?_
    refine wpL_seq ?_
    refine wpL_region ?_
    refine sY hf hs rfl rfl rfl (Y_move rfl rfl) ?_; clear hf; intro a hf
    obtain ⟨r5, hc6, hm⟩ := bind_some hm
    refine sCall hf rfl rfl rfl rfl (cap := []) rfl rfl en83 (spec_l03Star_ok F p0_a A_p0_a_1 p0_a.length c_p0_a_1 rfl _ _ hc6 (h_p0_a_1.at hs)) ?_; clear hf
    rintro _ w ⟨A7, n8, c9, vs11, rfl, hn10, hs1⟩ a hf
    have hs : St [] W w [.mat A7 n8 c9 28 2 vs11 r5.1] := hs.join hs1
    clear hs1
    refine sY hf hs rfl rfl rfl (Y_move rfl rfl) ?_; clear hf; intro a hf
    refine sY hf hs rfl rfl rfl (Y_extract rfl rfl rfl) ?_; clear hf; intro a hf
    refine sY hf hs rfl rfl rfl (Y_extract rfl rfl rfl) ?_; clear hf; intro a hf
    refine sY hf hs rfl rfl rfl (Y_assign rfl rfl) ?_; clear hf; intro a hf
    refine sY hf hs rfl rfl rfl (Y_assign rfl rfl) ?_; clear hf; intro a hf
    refine wpO_nil ?_
    refine wpL_seq ?_
    refine wpL_seq ?_
    refine wpL_region ?_
    refine sY hf hs rfl rfl rfl (Y_move rfl rfl) ?_; clear hf; intro a hf
    refine sY hf hs rfl rfl rfl (Y_not rfl rfl) ?_; clear hf; intro a hf
    refine wpO_nil ?_
    refine wpL_cond hf rfl (fun hb12 => ?_) (fun hb12 => ?_)
    · have hm := bif_t hm hb12
      refine wpL_seq ?_
      refine wpL_region ?_
      refine sY hf hs rfl rfl rfl (Y_assign rfl rfl) ?_; clear hf; intro a hf
      refine sY hf hs rfl rfl rfl (Y_assign rfl rfl) ?_; clear hf; intro a hf
      refine wpO_nil ?_
      have hs : St [] W _ [.mat A7 n8 c9 28 2 vs11 r5.1, .mat none 0 0 28 2 [] ([] : List (List Int))] := hs.addNilM 28 2
      obtain rfl := Option.some.inj hm
      refine wpL_ret (ret_tmp2 rfl hf rfl rfl ?_)
      exact ⟨_, rfl, none, 0, 0, [], rfl, rfl, hs.sel [1] (by decide)⟩
    · have hm := bif_f hm hb12
      refine wpL_skip ?_
      refine wpL_seq ?_
      refine wpL_region ?_
      refine sY hf hs rfl rfl rfl (Y_move rfl rfl) ?_; clear hf; intro a hf
      obtain ⟨r14, hc15, hm⟩ := bind_some hm
      refine sCall hf rfl rfl rfl rfl (cap := []) rfl rfl en84 (spec_l03Result_ok F r5.1 A7 n8 c9 hn10 _ _ hc15 (hs.rdM (i := 0) rfl)) ?_; clear hf
      rintro _ w ⟨A16, n17, c18, rfl, hn19, hal20, hs1⟩ a hf
      have hs : St [] W w [.mat A7 n8 c9 28 2 vs11 r5.1] := hs.ext hs1.below
      clear hs1
      obtain ⟨vs21, hs⟩ := hs.aliasM (i := 0) rfl hal20
      have hs : St [] W w [.mat A16 n17 c18 28 2 vs21 r14.1] := hs
      refine sY hf hs rfl rfl rfl (Y_extract rfl rfl rfl) ?_; clear hf; intro a hf
      refine sY hf hs rfl rfl rfl (Y_extract rfl rfl rfl) ?_; clear hf; intro a hf
      refine sY hf hs rfl rfl rfl (Y_assign rfl rfl) ?_; clear hf; intro a hf
      refine sY hf hs rfl rfl rfl (Y_assign rfl rfl) ?_; clear hf; intro a hf
      refine wpO_nil ?_
      obtain rfl := Option.some.inj hm
      refine wpL_ret (ret_tmp2 rfl hf rfl rfl ?_)
      exact ⟨_, rfl, A16, n17, c18, vs21, rfl, hn19, hs⟩

set_option maxRecDepth 100000 in
theorem impl_multiply_c1_ok (F : Nat) (p0_i : Int) (p1_j : Int) (b_z0 : Nat) (z0 : List (List Int)) (A_z0_1 : Option Addr) (n_z0_1 c_z0_1 : Nat) (hn_z0_1 : n_z0_1 = z0.length) (b_z1 : Nat) (z1 : List (List Int)) (A_z1_1 : Option Addr) (n_z1_1 c_z1_1 : Nat) (hn_z1_1 : n_z1_1 = z1.length) (r : Int) (W : World) (hm : impl_multiply_c1 F p0_i p1_j z0 z1 = some r) (h_z0_1 : RdM W A_z0_1 z0) (h_z0 : PB W b_z0 40 [.slice A_z0_1 n_z0_1 c_z0_1]) (h_z1_1 : RdM W A_z1_1 z1) (h_z1 : PB W b_z1 40 [.slice A_z1_1 n_z1_1 c_z1_1]) :
    Calls Try.prog 153 [.int .i64 p0_i, .int .i64 p1_j, .pointer (some ⟨b_z0, 0, none⟩), .pointer (some ⟨b_z1, 0, none⟩)].toArray W fun e w' => ∃ v, e = .returned v ∧ v = .int .i64 r ∧ St [] W w' [] := by
  subst hn_z0_1
  subst hn_z1_1
  unfold impl_multiply_c1 at hm
  refine Calls.enter (N := 33) Try.func153 rfl rfl rfl (fun a hf => ?_)
  have hs := St.start W
  obtain ⟨w, hw_⟩ : ∃ w, w = W := ⟨W, rfl⟩
  clear hw_ w
  refine wpL_seq ?_
  refine wpL_region ?_
  refine sY hf hs rfl rfl rfl (Y_assign rfl rfl) ?_; clear hf; intro a hf
  refine wpO_nil ?_
  refine wpL_seq ?_
  refine wpL_region ?_
  refine sY hf hs rfl rfl rfl (Y_assign rfl rfl) ?_; clear hf; intro a hf
  refine wpO_nil ?_
  refine wpL_seq ?_
  refine wpL_seq ?_
  refine wpL_region ?_
  refine sY hf hs rfl rfl rfl (Y_load_pb rfl rfl h_z0 rfl ag40) ?_; clear hf; intro a hf
  refine sY hf hs rfl rfl rfl (Y_move rfl rfl) ?_; clear hf; intro a hf
  obtain ⟨q1, hi2, hm⟩ := bind_some hm
  obtain ⟨hi2a, hi2b, hi2q⟩ := idx_some hi2
  obtain ⟨vs3, hv4, hr5⟩ := id h_z0_1
  obtain ⟨A6, c7, hv8, hR9⟩ := hr5 _ _ hi2q
  refine sY hf hs rfl rfl rfl (Y_index rfl rfl rfl el40 ti28 (Rd.isAt hv4 hv8) hi2a hi2b) ?_; clear hf; intro a hf
  refine sY hf hs rfl rfl rfl (Y_load_rd rfl rfl (fun w hs => hv4.at hs) (at1 hv8) ag28) ?_; clear hf; intro a hf
  refine sY hf hs rfl rfl rfl (Y_lenH rfl rfl el28 rfl) ?_; clear hf; intro a hf
  refine sY hf hs rfl rfl rfl (Y_move rfl rfl) ?_; clear hf; intro a hf
  refine wpO_nil ?_
  obtain ⟨r63, hl64, hm⟩ := bind_some hm
  refine wpL_block (fun a w => ∃ x62 : Int, x62 = r63 ∧ Fr a 33 [(7, .int .i64 x62)] ∧ St [] W w []) ?_ ?_
  · refine wpL_loop (fun n a w => ∃ x44 : Int, ∃ x45 : Int, impl_multiply_c1_L1 F p1_j z1 q1 n x44 x45 = some r63 ∧ Fr a 33 [(1, .int .i64 p1_j), (3, .pointer (some ⟨b_z1, 0, none⟩)), (7, .int .i64 x44), (13, .slice A6 q1.length c7), (14, .int .i64 (q1.length : Int)), (15, .int .i64 x45)] ∧ St [] W w []) F ?_ ?_ ?_
    · exact ⟨(-1000000000000000), 0, hl64, (FrD.pick (FrD.pick (FrD.pick (FrD.pick (FrD.pick (FrD.pick hf.none hf rfl) hf rfl) hf rfl) hf rfl) hf rfl) hf rfl), hs⟩
    · rintro a w ⟨x44, x45, h0_, -, -⟩; simp [impl_multiply_c1_L1] at h0_
    · rintro n66 a w ⟨x44, x45, hm65, hf, hs⟩
      rw [impl_multiply_c1_L1] at hm65
      refine wpL_seq ?_
      refine wpL_region ?_
      refine sY hf hs rfl rfl rfl (Y_lss rfl rfl rfl) ?_; clear hf; intro a hf
      refine wpO_nil ?_
      refine wpL_seq ?_
      refine wpL_cond hf rfl (fun hb67 => ?_) (fun hb67 => ?_)
      · have hm65 := bif_t hm65 hb67
        refine wpL_skip ?_
        refine wpL_seq ?_
        refine wpL_block0 ?_
        refine wpL_seq ?_
        refine wpL_region ?_
        refine sY hf hs rfl rfl rfl (Y_move rfl rfl) ?_; clear hf; intro a hf
        obtain ⟨q68, hi69, hm65⟩ := bind_some hm65
        obtain ⟨hi69a, hi69b, hi69q⟩ := idx_some hi69
        refine sY hf hs rfl rfl rfl (Y_index rfl rfl rfl el28 ti2 (Rd.isAt (hR9.at hs) (at1 (ints_at hi69q))) hi69a hi69b) ?_; clear hf; intro a hf
        refine sY hf hs rfl rfl rfl (Y_load_rd rfl rfl (fun w hs => hR9.at hs) (at1 (ints_at hi69q)) ag2) ?_; clear hf; intro a hf
        refine sY hf hs rfl rfl rfl (Y_assign rfl rfl) ?_; clear hf; intro a hf
        refine sY hf hs rfl rfl rfl (Y_assign rfl rfl) ?_; clear hf; intro a hf
        refine wpO_nil ?_
        refine wpL_region ?_
        refine sY hf hs rfl rfl rfl (Y_move rfl rfl) ?_; clear hf; intro a hf
        refine sY hf hs rfl rfl rfl (Y_move rfl rfl) ?_; clear hf; intro a hf
        refine sY hf hs rfl rfl rfl (Y_load_pb rfl rfl h_z1 rfl ag40) ?_; clear hf; intro a hf
        refine sY hf hs rfl rfl rfl (Y_move rfl rfl) ?_; clear hf; intro a hf
        obtain ⟨q70, hi71, hm65⟩ := bind_some hm65
        obtain ⟨hi71a, hi71b, hi71q⟩ := idx_some hi71
        obtain ⟨vs72, hv73, hr74⟩ := id h_z1_1
        obtain ⟨A75, c76, hv77, hR78⟩ := hr74 _ _ hi71q
        refine sY hf hs rfl rfl rfl (Y_index rfl rfl rfl el40 ti28 (Rd.isAt hv73 hv77) hi71a hi71b) ?_; clear hf; intro a hf
        refine sY hf hs rfl rfl rfl (Y_load_rd rfl rfl (fun w hs => hv73.at hs) (at1 hv77) ag28) ?_; clear hf; intro a hf
        refine sY hf hs rfl rfl rfl (Y_move rfl rfl) ?_; clear hf; intro a hf
        obtain ⟨q79, hi80, hm65⟩ := bind_some hm65
        obtain ⟨hi80a, hi80b, hi80q⟩ := idx_some hi80
        refine sY hf hs rfl rfl rfl (Y_index rfl rfl rfl el28 ti2 (Rd.isAt (hR78.at hs) (at1 (ints_at hi80q))) hi80a hi80b) ?_; clear hf; intro a hf
        refine sY hf hs rfl rfl rfl (Y_load_rd rfl rfl (fun w hs => hR78.at hs) (at1 (ints_at hi80q)) ag2) ?_; clear hf; intro a hf
        obtain ⟨r81, hc82, hm65⟩ := bind_some hm65
        refine sCall hf rfl rfl rfl rfl (cap := []) rfl rfl en145 (impl_times_ok F q68 q79 _ _ hc82) ?_; clear hf
        rintro _ w ⟨rfl, hs1⟩ a hf
        have hs : St [] W w [] := hs.ext hs1.below
        clear hs1
        refine sY hf hs rfl rfl rfl (Y_max rfl rfl rfl) ?_; clear hf; intro a hf
        refine sY hf hs rfl rfl rfl (Y_assign rfl rfl) ?_; clear hf; intro a hf
        refine wpO_nil ?_
        refine wpL_nil (Qb_normal ?_)
        refine wpL_region ?_
        refine sY hf hs rfl rfl rfl (Y_add rfl rfl rfl) ?_; clear hf; intro a hf
        refine sY hf hs rfl rfl rfl (Y_move rfl rfl) ?_; clear hf; intro a hf
        refine wpO_nil ?_
        refine wpL_nil (Ql_normal ?_)
        exact ⟨(max x44 r81), (IntKind.i64.wrap (x45 + 1)), hm65, (FrD.pick (FrD.pick (FrD.pick (FrD.pick (FrD.pick (FrD.pick hf.none hf rfl) hf rfl) hf rfl) hf rfl) hf rfl) hf rfl), hs⟩
      · have hm65 := bif_f hm65 hb67
        refine wpL_exit (Ql_exit (Qb_exit ?_))
        exact ⟨x44, Option.some.inj hm65, (FrD.pick hf.none hf rfl), hs⟩
  · rintro a w ⟨x62, hr_, hf, hs⟩
    subst hr_
    try dsimp only at hm
    refine wpL_seq ?_
    refine wpL_region ?_
    refine sY hf hs rfl rfl rfl (Y_move rfl rfl) ?_; clear hf; intro a hf
    refine sY hf hs rfl rfl rfl (Y_assign rfl rfl) ?_; clear hf; intro a hf
    refine wpO_nil ?_
    obtain rfl := Option.some.inj hm
    refine wpL_ret (ret_tmp rfl hf rfl ?_)
    exact ⟨_, rfl, rfl, hs⟩

set_option maxRecDepth 100000 in
theorem impl_multiply_ok (F : Nat) (p0_a : List (List Int)) (A_p0_a_1 : Option Addr) (n_p0_a_1 c_p0_a_1 : Nat) (hn_p0_a_1 : n_p0_a_1 = p0_a.length) (p1_b : List (List Int)) (A_p1_b_1 : Option Addr) (n_p1_b_1 c_p1_b_1 : Nat) (hn_p1_b_1 : n_p1_b_1 = p1_b.length) (r : List (List Int)) (W : World) (hm : impl_multiply F p0_a p1_b = some r) (h_p0_a_1 : RdM W A_p0_a_1 p0_a) (h_p1_b_1 : RdM W A_p1_b_1 p1_b) :
    Calls Try.prog 85 [.slice A_p0_a_1 n_p0_a_1 c_p0_a_1, .slice A_p1_b_1 n_p1_b_1 c_p1_b_1].toArray W fun e w' => ∃ v, e = .returned v ∧ ∃ A19, ∃ n20, ∃ c21, ∃ vs23, v = .slice A19 n20 c21 ∧ n20 = r.length ∧ St [] W w' [.mat A19 n20 c21 28 2 vs23 r] := by
  subst hn_p0_a_1
  subst hn_p1_b_1
  unfold impl_multiply at hm
  refine Calls.enter (N := 13) Try.func85 rfl rfl rfl (fun a hf => ?_)
  have hs := St.start W
  obtain ⟨w, hw_⟩ : ∃ w, w = W := ⟨W, rfl⟩
  clear hw_ w
  refine wpL_seq ?_
  refine wpL_region ?_
  refine sBox hf hs rfl rfl rfl rfl rfl (cs := [.slice A_p0_a_1 p0_a.length c_p0_a_1]) rfl ?_; clear hf hs; intro a w b1 hs hf
  have hs : St [] W w [.blk b1 40 [.slice A_p0_a_1 p0_a.length c_p0_a_1]] := hs
  refine sBox hf hs rfl rfl rfl rfl rfl (cs := [.slice A_p1_b_1 p1_b.length c_p1_b_1]) rfl ?_; clear hf hs; intro a w b2 hs hf
  have hs : St [] W w [.blk b1 40 [.slice A_p0_a_1 p0_a.length c_p0_a_1], .blk b2 40 [.slice A_p1_b_1 p1_b.length c_p1_b_1]] := hs
  refine sY hf hs rfl rfl rfl (Y_assign rfl rfl) ?_; clear hf; intro a hf
  refine wpO_nil ?_
  refine wpL_seq ?_
  refine wpL_drawM [.blk b1 40 [.slice A_p0_a_1 p0_a.length c_p0_a_1], .blk b2 40 [.slice A_p1_b_1 p1_b.length c_p1_b_1]] [7] (by kernel_rfl) hs ?_; clear hs; intro w hs
  have hs0 : St [] W w [.blk b1 40 [.slice A_p0_a_1 p0_a.length c_p0_a_1], .blk b2 40 [.slice A_p1_b_1 p1_b.length c_p1_b_1]] := hs
  refine mY (i := 0) [[1]] rfl (by kernel_rfl) (by kernel_rfl) hf hs0 rfl rfl rfl (Y_load_blk rfl rfl (i := 0) rfl rfl ag40) ?_; clear hf; intro a hf
  refine mYp (i := 1) rfl (by kernel_rfl) (by kernel_rfl) hf rfl rfl rfl (fun _ => Y_lenH rfl rfl el40 rfl) ?_; clear hf; intro a hf
  refine mY (i := 2) [[3, 4, 5]] rfl (by kernel_rfl) (by kernel_rfl) hf hs0 rfl rfl rfl (Y_load_blk rfl rfl (i := 1) rfl rfl ag40) ?_; clear hf; intro a hf
  obtain ⟨q3, hi4, hm⟩ := bind_some hm
  obtain ⟨hi4a, hi4b, hi4q⟩ := idx_some hi4
  obtain ⟨vs5, hv6, hr7⟩ := id h_p1_b_1
  obtain ⟨A8, c9, hv10, hR11⟩ := hr7 _ _ hi4q
  refine mYp (i := 3) rfl (by kernel_rfl) (by kernel_rfl) hf rfl rfl rfl (fun _ => Y_index rfl rfl rfl el40 ti28 (Rd.isAt hv6 hv10) hi4a hi4b) ?_; clear hf; intro a hf
  refine mY (i := 4) [[5]] rfl (by kernel_rfl) (by kernel_rfl) hf hs0 rfl rfl rfl (Y_load_rd rfl rfl (fun w hs => hv6.at hs) (at1 hv10) ag28) ?_; clear hf; intro a hf
  refine mYp (i := 5) rfl (by kernel_rfl) (by kernel_rfl) hf rfl rfl rfl (fun _ => Y_lenH rfl rfl el28 rfl) ?_; clear hf; intro a hf
  refine mYp (i := 6) rfl (by kernel_rfl) (by kernel_rfl) hf rfl rfl rfl (fun _ => Y_makeFunc (us := []) (vs := [.pointer (some ⟨b1, 0, none⟩), .pointer (some ⟨b2, 0, none⟩)]) rfl rfl rfl) ?_; clear hf; intro a hf
  refine mRun (i := 7) rfl (by kernel_rfl) ?_
  obtain ⟨r12, hc13, hm⟩ := bind_some hm
  refine sCall hf rfl rfl rfl rfl (cap := []) rfl rfl en111 (impl_matrixBy_ok F (p0_a.length : Int) (q3.length : Int) (fun x0 x1 => impl_multiply_c1 F x0 x1 p0_a p1_b) 153 ([.pointer (some ⟨b1, 0, none⟩), .pointer (some ⟨b2, 0, none⟩)]) _ _ hc13 (fun x0 x1 r w' hm_ hb => impl_multiply_c1_ok F x0 x1 b1 p0_a A_p0_a_1 p0_a.length c_p0_a_1 rfl b2 p1_b A_p1_b_1 p1_b.length c_p1_b_1 rfl r w' hm_ ((h_p0_a_1.at hs).below hb (Nat.le_refl _)) ((hs.pb (i := 0) rfl).below hb (Nat.le_refl _)) ((h_p1_b_1.at hs).below hb (Nat.le_refl _)) ((hs.pb (i := 1) rfl).below hb (Nat.le_refl _))) en153) ?_; clear hf
  rintro _ w ⟨A14, n15, c16, vs18, rfl, hn17, hs1⟩ a hf
  have hs : St [] W w [.blk b1 40 [.slice A_p0_a_1 p0_a.length c_p0_a_1], .blk b2 40 [.slice A_p1_b_1 p1_b.length c_p1_b_1], .mat A14 n15 c16 28 2 vs18 r12] := hs.join hs1
  clear hs1
  refine wpO_nil ⟨Or.inl (by decide), ?_⟩
  refine mYp (i := 8) rfl (by kernel_rfl) (by kernel_rfl) hf rfl rfl rfl (fun _ => Y_assign rfl rfl) ?_; clear hf; intro a hf
  refine mDone (by kernel_rfl) ?_
  clear hs0
  obtain rfl := Option.some.inj hm
  refine wpL_ret (ret_tmp rfl hf rfl ?_)
  exact ⟨_, rfl, A14, n15, c16, vs18, rfl, hn17, hs.sel [2] (by decide)⟩

set_option maxRecDepth 100000 in
theorem impl_PlusMatrix_ok (F : Nat) (p0_a : List (List Int)) (A_p0_a_1 : Option Addr) (n_p0_a_1 c_p0_a_1 : Nat) (hn_p0_a_1 : n_p0_a_1 = p0_a.length) (r : List (List Int) × Int) (W : World) (hm : impl_PlusMatrix F p0_a = some r) (h_p0_a_1 : RdM W A_p0_a_1 p0_a) :
    Calls Try.prog 27 [.slice A_p0_a_1 n_p0_a_1 c_p0_a_1].toArray W fun e w' => ∃ v, e = .returned v ∧ ∃ A29, ∃ n30, ∃ c31, ∃ vs33, v = .tuple #[.slice A29 n30 c31, .int .i64 r.2] ∧ n30 = r.1.length ∧ St [] W w' [.mat A29 n30 c31 28 2 vs33 r.1] := by
  subst hn_p0_a_1
  unfold impl_PlusMatrix at hm
  refine Calls.enter (N := 22) Try.func27 rfl rfl rfl (fun a hf => ?_)
  have hs := St.start W
  obtain ⟨w, hw_⟩ : ∃ w, w = W := ⟨W, rfl⟩
  clear hw_ w
  refine wpL_seq ?_
  refine wpL_region ?_
  refine sY hf hs rfl rfl rfl (Y_assign rfl rfl) ?_; clear hf; intro a hf
  refine sY hf hs rfl rfl rfl (Y_assign rfl rfl) ?_; clear hf; intro a hf
  refine wpO_nil ?_
  refine wpL_seq ?_
  refine wpL_seq ?_
  refine wpL_region ?_
  refine sY hf hs rfl rfl rfl (Y_move rfl rfl) ?_; clear hf; intro a hf
  obtain ⟨r1, hc2, hm⟩ := bind_some hm
  refine sCall hf rfl rfl rfl rfl (cap := []) rfl rfl en79 (impl_isSquare_ok F p0_a A_p0_a_1 p0_a.length c_p0_a_1 rfl _ _ hc2 (h_p0_a_1.at hs)) ?_; clear hf
  rintro _ w ⟨rfl, hs1⟩ a hf
  have hs : St [] W w [] := hs.ext hs1.below
  clear hs1
  refine sY hf hs rfl rfl rfl (Y_not rfl rfl) ?_; clear hf; intro a hf
  refine wpO_nil ?_
  refine wpL_cond hf rfl (fun hb3 => ?_) (fun hb3 => ?_)
  · have hm := bif_t hm hb3
    refine wpL_seq ?_
    refine wpL_region ?_
    refine sY hf hs rfl rfl rfl (Y_assign rfl rfl) ?_; clear hf; intro a hf
    refine sY hf hs rfl rfl rfl (Y_assign rfl rfl) ?_; clear hf; intro a hf
    refine wpO_nil ?_
    have hs : St [] W _ [.mat none 0 0 28 2 [] ([] : List (List Int))] := hs.addNilM 28 2
    obtain rfl := Option.some.inj hm
    refine wpL_ret (ret_tmp2 rfl hf rfl rfl ?_)
    exact ⟨_, rfl, none, 0, 0, [], rfl, rfl, hs⟩
  · have hm := bif_f hm hb3
    refine wpL_skip ?_
    refine wpL_seq ?_
    refine wpL_region ?_
    refine sY hf hs rfl rfl rfl (Y_move rfl rfl) ?_; clear hf; intro a hf
    obtain ⟨r5, hc6, hm⟩ := bind_some hm
    refine sCall hf rfl rfl rfl rfl (cap := []) rfl rfl en80 (impl_starOf_ok F p0_a A_p0_a_1 p0_a.length c_p0_a_1 rfl _ _ hc6 (h_p0_a_1.at hs)) ?_; clear hf
    rintro _ w ⟨A7, n8, c9, vs11, rfl, hn10, hs1⟩ a hf
    have hs : St [] W w [.mat A7 n8 c9 28 2 vs11 r5.1] := hs.join hs1
    clear hs1
    refine sY hf hs rfl rfl rfl (Y_move rfl rfl) ?_; clear hf; intro a hf
    refine sY hf hs rfl rfl rfl (Y_extract rfl rfl rfl) ?_; clear hf; intro a hf
    refine sY hf hs rfl rfl rfl (Y_extract rfl rfl rfl) ?_; clear hf; intro a hf
    refine sY hf hs rfl rfl rfl (Y_assign rfl rfl) ?_; clear hf; intro a hf
    refine sY hf hs rfl rfl rfl (Y_assign rfl rfl) ?_; clear hf; intro a hf
    refine wpO_nil ?_
    refine wpL_seq ?_
    refine wpL_seq ?_
    refine wpL_region ?_
    refine sY hf hs rfl rfl rfl (Y_move rfl rfl) ?_; clear hf; intro a hf
    refine sY hf hs rfl rfl rfl (Y_not rfl rfl) ?_; clear hf; intro a hf
    refine wpO_nil ?_
    refine wpL_cond hf rfl (fun hb12 => ?_) (fun hb12 => ?_)
    · have hm := bif_t hm hb12
      refine wpL_seq ?_
      refine wpL_region ?_
      refine sY hf hs rfl rfl rfl (Y_assign rfl rfl) ?_; clear hf; intro a hf
      refine sY hf hs rfl rfl rfl (Y_assign rfl rfl) ?_; clear hf; intro a hf
      refine wpO_nil ?_
      have hs : St [] W _ [.mat A7 n8 c9 28 2 vs11 r5.1, .mat none 0 0 28 2 [] ([] : List (List Int))] := hs.addNilM 28 2
      obtain rfl := Option.some.inj hm
      refine wpL_ret (ret_tmp2 rfl hf rfl rfl ?_)
      exact ⟨_, rfl, none, 0, 0, [], rfl, rfl, hs.sel [1] (by decide)⟩
    · have hm := bif_f hm hb12
      refine wpL_skip ?_
      refine wpL_seq ?_
      refine wpL_region ?_
      refine sY hf hs rfl rfl rfl (Y_move rfl rfl) ?_; clear hf; intro a hf
      refine sY hf hs rfl rfl rfl (Y_move rfl rfl) ?_; clear hf; intro a hf
      obtain ⟨r14, hc15, hm⟩ := bind_some hm
      refine sCall hf rfl rfl rfl rfl (cap := []) rfl rfl en85 (impl_multiply_ok F p0_a A_p0_a_1 p0_a.length c_p0_a_1 rfl r5.1 A7 n8 c9 hn10 _ _ hc15 (h_p0_a_1.at hs) (hs.rdM (i := 0) rfl)) ?_; clear hf
      rintro _ w ⟨A16, n17, c18, vs20, rfl, hn19, hs1⟩ a hf
      have hs : St [] W w [.mat A7 n8 c9 28 2 vs11 r5.1, .mat A16 n17 c18 28 2 vs20 r14] := hs.join hs1
      clear hs1
      obtain ⟨r21, hc22, hm⟩ := bind_some hm
      refine sCall hf rfl rfl rfl rfl (cap := []) rfl rfl en81 (impl_checkedMatrix_ok F r14 A16 n17 c18 hn19 _ _ hc22 (hs.rdM (i := 1) rfl)) ?_; clear hf
      rintro _ w ⟨A23, n24, c25, rfl, hn26, hal27, hs1⟩ a hf
      have hs : St [] W w [.mat A7 n8 c9 28 2 vs11 r5.1, .mat A16 n17 c18 28 2 vs20 r14] := hs.ext hs1.below
      clear hs1
      obtain ⟨vs28, hs⟩ := hs.aliasM (i := 1) rfl hal27
      have hs : St [] W w [.mat A7 n8 c9 28 2 vs11 r5.1, .mat A23 n24 c25 28 2 vs28 r21.1] := hs
      refine sY hf hs rfl rfl rfl (Y_extract rfl rfl rfl) ?_; clear hf; intro a hf
      refine sY hf hs rfl rfl rfl (Y_extract rfl rfl rfl) ?_; clear hf; intro a hf
      refine sY hf hs rfl rfl rfl (Y_assign rfl rfl) ?_; clear hf; intro a hf
      refine sY hf hs rfl rfl rfl (Y_assign rfl rfl) ?_; clear hf; intro a hf
      refine wpO_nil ?_
      obtain rfl := Option.some.inj hm
      refine wpL_ret (ret_tmp2 rfl hf rfl rfl ?_)
      exact ⟨_, rfl, A23, n24, c25, vs28, rfl, hn26, hs.sel [1] (by decide)⟩

set_option maxRecDepth 100000 in
theorem spec_PlusMatrix_ok (F : Nat) (p0_a : List (List Int)) (A_p0_a_1 : Option Addr) (n_p0_a_1 c_p0_a_1 : Nat) (hn_p0_a_1 : n_p0_a_1 = p0_a.length) (r : List (List Int) × Int) (W : World) (hm : spec_PlusMatrix F p0_a = some r) (h_p0_a_1 : RdM W A_p0_a_1 p0_a) :
    Calls Try.prog 28 [.slice A_p0_a_1 n_p0_a_1 c_p0_a_1].toArray W fun e w' => ∃ v, e = .returned v ∧ ∃ A29, ∃ n30, ∃ c31, ∃ vs33, v = .tuple #[.slice A29 n30 c31, .int .i64 r.2] ∧ n30 = r.1.length ∧ St [] W w' [.mat A29 n30 c31 28 2 vs33 r.1] := by
  subst hn_p0_a_1
  unfold spec_PlusMatrix at hm
  refine Calls.enter (N := 22) Try.func28 rfl rfl rfl (fun a hf => ?_)
  have hs := St.start W
  obtain ⟨w, hw_⟩ : ∃ w, w = W := ⟨W, rfl⟩
  clear hw_ w
  refine wpL_seq ?_
  refine wpL_region ?_
  refine sY hf hs rfl rfl rfl (Y_assign rfl rfl) ?_; clear hf; intro a hf
  refine sY hf hs rfl rfl rfl (Y_assign rfl rfl) ?_; clear hf; intro a hf
  refine wpO_nil ?_
  refine wpL_seq ?_
  refine wpL_seq ?_
  refine wpL_region ?_
  refine sY hf hs rfl rfl rfl (Y_move rfl rfl) ?_; clear hf; intro a hf
  obtain ⟨r1, hc2, hm⟩ := bind_some hm
  refine sCall hf rfl rfl rfl rfl (cap := []) rfl rfl en82 (spec_l02Square_ok F p0_a A_p0_a_1 p0_a.length c_p0_a_1 rfl _ _ hc2 (h_p0_a_1.at hs)) ?_; clear hf
  rintro _ w ⟨rfl, hs1⟩ a hf
  have hs : St [] W w [] := hs.ext hs1.below
  clear hs1
  refine sY hf hs rfl rfl rfl (Y_not rfl rfl) ?_; clear hf; intro a hf
  refine wpO_nil ?_
  refine wpL_cond hf rfl (fun hb3 => ?_) (fun hb3 => ?_)
  · have hm := bif_t hm hb3
    refine wpL_seq ?_
    refine wpL_region ?_
    refine sY hf hs rfl rfl rfl (Y_assign rfl rfl) ?_; clear hf; intro a hf
    refine sY hf hs rfl rfl rfl (Y_assign rfl rfl) ?_; clear hf; intro a hf
    refine wpO_nil ?_
    have hs : St [] W _ [.mat none 0 0 28 2 [] ([] : List (List Int))] := hs.addNilM 28 2
    obtain rfl := Option.some.inj hm
    refine wpL_ret (ret_tmp2 rfl hf rfl rfl ?_)
    exact ⟨_, rfl, none, 0, 0, [], rfl, rfl, hs⟩
  · have hm := bif_f hm hb3
    refine wpL_skip ?_
    refine wpL_seq ?_
    refine wpL_region ?_
    refine sY hf hs rfl rfl rfl (Y_move rfl rfl) ?_; clear hf; intro a hf
    obtain ⟨r5, hc6, hm⟩ := bind_some hm
    refine sCall hf rfl rfl rfl rfl (cap := []) rfl rfl en83 (spec_l03Star_ok F p0_a A_p0_a_1 p0_a.length c_p0_a_1 rfl _ _ hc6 (h_p0_a_1.at hs)) ?_; clear hf
    rintro _ w ⟨A7, n8, c9, vs11, rfl, hn10, hs1⟩ a hf
    have hs : St [] W w [.mat A7 n8 c9 28 2 vs11 r5.1] := hs.join hs1
    clear hs1
    refine sY hf hs rfl rfl rfl (Y_move rfl rfl) ?_; clear hf; intro a hf
    refine sY hf hs rfl rfl rfl (Y_extract rfl rfl rfl) ?_; clear hf; intro a hf
    refine sY hf hs rfl rfl rfl (Y_extract rfl rfl rfl) ?_; clear hf; intro a hf
    refine sY hf hs rfl rfl rfl (Y_assign rfl rfl) ?_; clear hf; intro a hf
    refine sY hf hs rfl rfl rfl (Y_assign rfl rfl) ?_; clear hf; intro a hf
    refine wpO_nil ?_
    refine wpL_seq ?_
    refine wpL_seq ?_
    refine wpL_region ?_
    refine sY hf hs rfl rfl rfl (Y_move rfl rfl) ?_; clear hf; intro a hf
    refine sY hf hs rfl rfl rfl (Y_not rfl rfl) ?_; clear hf; intro a hf
    refine wpO_nil ?_
    refine wpL_cond hf rfl (fun hb12 => ?_) (fun hb12 => ?_)
    · have hm := bif_t hm hb12
      refine wpL_seq ?_
      refine wpL_region ?_
      refine sY hf hs rfl rfl rfl (Y_assign rfl rfl) ?_; clear hf; intro a hf
      refine sY hf hs rfl rfl rfl (Y_assign rfl rfl) ?_; clear hf; intro a hf
      refine wpO_nil ?_
      have hs : St [] W _ [.mat A7 n8 c9 28 2 vs11 r5.1, .mat none 0 0 28 2 [] ([] : List (List Int))] := hs.addNilM 28 2
      obtain rfl := Option.some.inj hm
      refine wpL_ret (ret_tmp2 rfl hf rfl rfl ?_)
      exact ⟨_, rfl, none, 0, 0, [], rfl, rfl, hs.sel [1] (by decide)⟩
    · have hm := bif_f hm hb12
      refine wpL_skip ?_
      refine wpL_seq ?_
      refine wpL_region ?_
      refine sY hf hs rfl rfl rfl (Y_move rfl rfl) ?_; clear hf; intro a hf
      refine sY hf hs rfl rfl rfl (Y_move rfl rfl) ?_; clear hf; intro a hf
      obtain ⟨r14, hc15, hm⟩ := bind_some hm
      refine sCall hf rfl rfl rfl rfl (cap := []) rfl rfl en86 (spec_l02Multiply_ok F p0_a A_p0_a_1 p0_a.length c_p0_a_1 rfl r5.1 A7 n8 c9 hn10 _ _ hc15 (h_p0_a_1.at hs) (hs.rdM (i := 0) rfl)) ?_; clear hf
      rintro _ w ⟨A16, n17, c18, vs20, rfl, hn19, hs1⟩ a hf
      have hs : St [] W w [.mat A7 n8 c9 28 2 vs11 r5.1, .mat A16 n17 c18 28 2 vs20 r14] := hs.join hs1
      clear hs1
      obtain ⟨r21, hc22, hm⟩ := bind_some hm
      refine sCall hf rfl rfl rfl rfl (cap := []) rfl rfl en84 (spec_l03Result_ok F r14 A16 n17 c18 hn19 _ _ hc22 (hs.rdM (i := 1) rfl)) ?_; clear hf
      rintro _ w ⟨A23, n24, c25, rfl, hn26, hal27, hs1⟩ a hf
      have hs : St [] W w [.mat A7 n8 c9 28 2 vs11 r5.1, .mat A16 n17 c18 28 2 vs20 r14] := hs.ext hs1.below
      clear hs1
      obtain ⟨vs28, hs⟩ := hs.aliasM (i := 1) rfl hal27
      have hs : St [] W w [.mat A7 n8 c9 28 2 vs11 r5.1, .mat A23 n24 c25 28 2 vs28 r21.1] := hs
      refine sY hf hs rfl rfl rfl (Y_extract rfl rfl rfl) ?_; clear hf; intro a hf
      refine sY hf hs rfl rfl rfl (Y_extract rfl rfl rfl) ?_; clear hf; intro a hf
      refine sY hf hs rfl rfl rfl (Y_assign rfl rfl) ?_; clear hf; intro a hf
      refine sY hf hs rfl rfl rfl (Y_assign rfl rfl) ?_; clear hf; intro a hf
      refine wpO_nil ?_
      obtain rfl := Option.some.inj hm
      refine wpL_ret (ret_tmp2 rfl hf rfl rfl ?_)
      exact ⟨_, rfl, A23, n24, c25, vs28, rfl, hn26, hs.sel [1] (by decide)⟩

end Go.Proofs.Ytebmlphobgaboab
