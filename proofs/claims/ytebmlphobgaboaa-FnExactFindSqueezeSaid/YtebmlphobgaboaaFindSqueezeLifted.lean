/- The functions do what their models say. -/
import Derived.Test.YtebmlphobgaboaaFindSqueezeLifted2
import Derived.Test.YtebmlphobgaboaaRows
namespace Go.Proofs.Ytebmlphobgaboaa
open Go.RowKit

set_option maxHeartbeats 2000000 in
set_option maxRecDepth 100000 in
theorem impl_heaviestPath_ok (F : Nat) (p0 : List (List Int)) (A_p0_1 : Option Addr) (n_p0_1 c_p0_1 : Nat) (hn_p0_1 : n_p0_1 = p0.length) (p1 : List (List Int)) (A_p1_1 : Option Addr) (n_p1_1 c_p1_1 : Nat) (hn_p1_1 : n_p1_1 = p1.length) (p2 : Int) (p3 : Int) (r : List Int) (W : World) (hm : impl_heaviestPath F p0 p1 p2 p3 = some r) (h_p0_1 : RdM W A_p0_1 p0) (h_p1_1 : RdM W A_p1_1 p1) :
    Calls Try.prog 72 [.slice A_p0_1 n_p0_1 c_p0_1, .slice A_p1_1 n_p1_1 c_p1_1, .int .i64 p2, .int .i64 p3].toArray W fun e w' => ∃ v, e = .returned v ∧ ∃ A1565, ∃ n1566, ∃ c1567, v = .slice A1565 n1566 c1567 ∧ n1566 = r.length ∧ St [] W w' [.row A1565 n1566 c1567 2 1 (ints r)] := by
  subst hn_p0_1
  subst hn_p1_1
  unfold impl_heaviestPath at hm
  refine Calls.enter (N := 134) Try.func72 rfl rfl rfl (fun a hf => ?_)
  have hs := St.start W
  obtain ⟨w, hw_⟩ : ∃ w, w = W := ⟨W, rfl⟩
  clear hw_ w
  refine wpL_seq ?_
  refine wpL_region ?_
  refine sY hf hs rfl rfl rfl (Y_assign rfl rfl) ?_; clear hf; intro a hf
  refine wpO_nil ?_
  refine wpL_seq ?_
  refine wpL_region ?_
  refine sY hf hs rfl rfl rfl (Y_move rfl rfl) ?_; clear hf; intro a hf
  refine sY hf hs rfl rfl rfl (Y_lenH rfl rfl el59 rfl) ?_; clear hf; intro a hf
  refine sY hf hs rfl rfl rfl (Y_assign rfl rfl) ?_; clear hf; intro a hf
  refine wpO_nil ?_
  refine wpL_seq ?_
  refine wpL_region ?_
  refine sY hf hs rfl rfl rfl (Y_move rfl rfl) ?_; clear hf; intro a hf
  obtain ⟨xs3, hk2, hm⟩ := bind_some hm
  refine sMakeL (enc := ints) hf hs rfl rfl rfl rfl rfl hk2 el23 ti2 rfl ints_made ?_; clear hf hs; intro a w A1 hs hf
  have hs : St [] W w [.row A1 xs3.length xs3.length 2 1 (ints xs3)] := hs
  refine sOneM (j := 0) hf hs rfl rfl rfl rfl rfl rfl rfl el59 ti23 ?_; clear hf hs; intro a w A4 hs hf
  have hs : St [] W w [.mat A4 1 1 23 2 ([Value.slice A1 xs3.length xs3.length]) ([xs3])] := hs
  refine sY hf hs rfl rfl rfl (Y_assign rfl rfl) ?_; clear hf; intro a hf
  refine wpO_nil ?_
  refine wpL_seq ?_
  refine wpL_seq ?_
  refine wpL_region ?_
  refine sY hf hs rfl rfl rfl (Y_move rfl rfl) ?_; clear hf; intro a hf
  obtain ⟨q6, hi7, hm⟩ := bind_some hm
  obtain ⟨hi7a, hi7b, hi7q⟩ := idx_some hi7
  obtain ⟨A8, c9, hv10⟩ := hs.matRow (i := 0) rfl hi7q
  refine sY hf hs rfl rfl rfl (Y_index rfl rfl rfl el59 ti23 (Rd.isAt (hs.rdV (i := 0) rfl) hv10) hi7a hi7b) ?_; clear hf; intro a hf
  refine sY hf hs rfl rfl rfl (Y_load_rd rfl rfl (fun w hs => hs.rdV (i := 0) rfl) (at1 hv10) ag23) ?_; clear hf; intro a hf
  refine sY hf hs rfl rfl rfl (Y_lenH rfl rfl el23 rfl) ?_; clear hf; intro a hf
  refine sY hf hs rfl rfl rfl (Y_move rfl rfl) ?_; clear hf; intro a hf
  refine wpO_nil ?_
  obtain ⟨r61, hl62, hm⟩ := bind_some hm
  refine wpL_block (fun a w => ∃ ms59 : List (List Int), ms59 = r61 ∧ 1 = ms59.length ∧ Fr a 134 [(0, .slice A_p0_1 p0.length c_p0_1), (1, .slice A_p1_1 p1.length c_p1_1), (2, .int .i64 p2), (3, .int .i64 p3), (9, .int .i64 (p0.length : Int)), (10, .slice A4 1 1)] ∧ St [] W w [.mat A4 1 1 23 2 ([Value.slice A1 xs3.length xs3.length]) ms59]) ?_ ?_
  · refine wpL_loop (fun n a w => ∃ ms42 : List (List Int), ∃ x44 : Int, impl_heaviestPath_L1 F q6 n ms42 x44 = some r61 ∧ 1 = ms42.length ∧ Fr a 134 [(0, .slice A_p0_1 p0.length c_p0_1), (1, .slice A_p1_1 p1.length c_p1_1), (2, .int .i64 p2), (3, .int .i64 p3), (9, .int .i64 (p0.length : Int)), (10, .slice A4 1 1), (25, .int .i64 (q6.length : Int)), (26, .int .i64 x44)] ∧ St [] W w [.mat A4 1 1 23 2 ([Value.slice A1 xs3.length xs3.length]) ms42]) F ?_ ?_ ?_
    · exact ⟨[xs3], 0, hl62, rfl, (FrD.pick (FrD.pick (FrD.pick (FrD.pick (FrD.pick (FrD.pick (FrD.pick (FrD.pick hf.none hf rfl) hf rfl) hf rfl) hf rfl) hf rfl) hf rfl) hf rfl) hf rfl), hs⟩
    · rintro a w ⟨ms42, x44, h0_, -, -, -⟩; simp [impl_heaviestPath_L1] at h0_
    · rintro n64 a w ⟨ms42, x44, hm63, hn43, hf, hs⟩
      rw [impl_heaviestPath_L1] at hm63
      refine wpL_seq ?_
      refine wpL_region ?_
      refine sY hf hs rfl rfl rfl (Y_lss rfl rfl rfl) ?_; clear hf; intro a hf
      refine wpO_nil ?_
      refine wpL_seq ?_
      refine wpL_cond hf rfl (fun hb65 => ?_) (fun hb65 => ?_)
      · have hm63 := bif_t hm63 hb65
        refine wpL_skip ?_
        refine wpL_seq ?_
        refine wpL_block0 ?_
        refine wpL_seq ?_
        refine wpL_region ?_
        refine sY hf hs rfl rfl rfl (Y_move rfl rfl) ?_; clear hf; intro a hf
        refine sY hf hs rfl rfl rfl (Y_assign rfl rfl) ?_; clear hf; intro a hf
        refine wpO_nil ?_
        refine wpL_region ?_
        refine sY hf hs rfl rfl rfl (Y_move rfl rfl) ?_; clear hf; intro a hf
        obtain ⟨q66, hi67, hm63⟩ := bind_some hm63
        obtain ⟨hi67a, hi67b, hi67q⟩ := idx_some hi67
        obtain ⟨A68, c69, hv70⟩ := hs.matRow (i := 0) rfl hi67q
        refine sY hf hs rfl rfl rfl (Y_index rfl rfl rfl el59 ti23 (Rd.isAt (hs.rdV (i := 0) rfl) hv70) hi67a (ltn hn43 hi67b)) ?_; clear hf; intro a hf
        refine sY hf hs rfl rfl rfl (Y_load_rd rfl rfl (fun w hs => hs.rdV (i := 0) rfl) (at1 hv70) ag23) ?_; clear hf; intro a hf
        refine sY hf hs rfl rfl rfl (Y_move rfl rfl) ?_; clear hf; intro a hf
        obtain ⟨q71, hi72, hm63⟩ := bind_some hm63
        obtain ⟨hi72a, hi72b, hi72q⟩ := idx_some hi72
        refine sY hf hs rfl rfl rfl (Y_index rfl rfl rfl el23 ti2 (Rd.isAt (hs.rdRow (i := 0) rfl ⟨hi67q, hv70⟩) (at1 (ints_at hi72q))) hi72a hi72b) ?_; clear hf; intro a hf
        obtain ⟨xs73, hu75, hm63⟩ := bind_some hm63
        obtain ⟨ms74, hu76, hm63⟩ := bind_some hm63
        refine sStoreM (i := 0) (k := 0) hf hs rfl rfl rfl rfl rfl rfl hi67q hv70 rfl hu75 hu76 ti2 ?_; clear hs; intro w hs
        obtain ⟨hq77, hv78⟩ := rowUpd hu75 hu76 hv70
        have hs : St [] W w [.mat A4 1 1 23 2 ([Value.slice A1 xs3.length xs3.length]) ms74] := hs
        refine wpO_nil ?_
        refine wpL_nil (Qb_normal ?_)
        refine wpL_region ?_
        refine sY hf hs rfl rfl rfl (Y_add rfl rfl rfl) ?_; clear hf; intro a hf
        refine sY hf hs rfl rfl rfl (Y_move rfl rfl) ?_; clear hf; intro a hf
        refine wpO_nil ?_
        refine wpL_nil (Ql_normal ?_)
        exact ⟨ms74, (IntKind.i64.wrap (x44 + 1)), hm63, ((hn43).trans (upd_len hu76).symm), (FrD.pick (FrD.pick (FrD.pick (FrD.pick (FrD.pick (FrD.pick (FrD.pick (FrD.pick hf.none hf rfl) hf rfl) hf rfl) hf rfl) hf rfl) hf rfl) hf rfl) hf rfl), hs⟩
      · have hm63 := bif_f hm63 hb65
        refine wpL_exit (Ql_exit (Qb_exit ?_))
        exact ⟨ms42, Option.some.inj hm63, hn43, (FrD.pick (FrD.pick (FrD.pick (FrD.pick (FrD.pick (FrD.pick hf.none hf rfl) hf rfl) hf rfl) hf rfl) hf rfl) hf rfl), hs⟩
  · rintro a w ⟨ms59, hr_, hn60, hf, hs⟩
    subst hr_
    try dsimp only at hm
    refine wpL_seq ?_
    refine wpL_region ?_
    refine sY hf hs rfl rfl rfl (Y_move rfl rfl) ?_; clear hf; intro a hf
    obtain ⟨q79, hi80, hm⟩ := bind_some hm
    obtain ⟨hi80a, hi80b, hi80q⟩ := idx_some hi80
    obtain ⟨A81, c82, hv83⟩ := hs.matRow (i := 0) rfl hi80q
    refine sY hf hs rfl rfl rfl (Y_index rfl rfl rfl el59 ti23 (Rd.isAt (hs.rdV (i := 0) rfl) hv83) hi80a (ltn hn60 hi80b)) ?_; clear hf; intro a hf
    refine sY hf hs rfl rfl rfl (Y_load_rd rfl rfl (fun w hs => hs.rdV (i := 0) rfl) (at1 hv83) ag23) ?_; clear hf; intro a hf
    refine sY hf hs rfl rfl rfl (Y_move rfl rfl) ?_; clear hf; intro a hf
    obtain ⟨q84, hi85, hm⟩ := bind_some hm
    obtain ⟨hi85a, hi85b, hi85q⟩ := idx_some hi85
    refine sY hf hs rfl rfl rfl (Y_index rfl rfl rfl el23 ti2 (Rd.isAt (hs.rdRow (i := 0) rfl ⟨hi80q, hv83⟩) (at1 (ints_at hi85q))) hi85a hi85b) ?_; clear hf; intro a hf
    obtain ⟨xs86, hu88, hm⟩ := bind_some hm
    obtain ⟨ms87, hu89, hm⟩ := bind_some hm
    refine sStoreM (i := 0) (k := 0) hf hs rfl rfl rfl rfl rfl rfl hi80q hv83 rfl hu88 hu89 ti2 ?_; clear hs; intro w hs
    obtain ⟨hq90, hv91⟩ := rowUpd hu88 hu89 hv83
    have hs : St [] W w [.mat A4 1 1 23 2 ([Value.slice A1 xs3.length xs3.length]) ms87] := hs
    refine wpO_nil ?_
    refine wpL_seq ?_
    obtain ⟨r323, hl324, hm⟩ := bind_some hm
    refine wpL_block (fun a w => ∃ ms317 : List (List Int), ∃ A318, ∃ n319, ∃ c320, ∃ vs322, ms317 = r323 ∧ n319 = ms317.length ∧ Fr a 134 [(0, .slice A_p0_1 p0.length c_p0_1), (2, .int .i64 p2), (9, .int .i64 (p0.length : Int)), (10, .slice A318 n319 c320)] ∧ St [] W w [.mat A318 n319 c320 23 2 vs322 ms317]) ?_ ?_
    · refine wpL_loop (fun n a w => ∃ ms240 : List (List Int), ∃ A241, ∃ n242, ∃ c243, ∃ vs245, impl_heaviestPath_L2 F p0 p1 p2 p3 n ms240 = some r323 ∧ n242 = ms240.length ∧ Fr a 134 [(0, .slice A_p0_1 p0.length c_p0_1), (1, .slice A_p1_1 p1.length c_p1_1), (2, .int .i64 p2), (3, .int .i64 p3), (9, .int .i64 (p0.length : Int)), (10, .slice A241 n242 c243)] ∧ St [] W w [.mat A241 n242 c243 23 2 vs245 ms240]) F ?_ ?_ ?_
      · exact ⟨ms87, A4, 1, 1, [Value.slice A1 xs3.length xs3.length], hl324, ((hn60).trans (upd_len hu89).symm), (FrD.pick (FrD.pick (FrD.pick (FrD.pick (FrD.pick (FrD.pick hf.none hf rfl) hf rfl) hf rfl) hf rfl) hf rfl) hf rfl), hs⟩
      · rintro a w ⟨ms240, A241, n242, c243, vs245, h0_, -, -, -⟩; simp [impl_heaviestPath_L2] at h0_
      · rintro n326 a w ⟨ms240, A241, n242, c243, vs245, hm325, hn244, hf, hs⟩
        rw [impl_heaviestPath_L2] at hm325
        refine wpL_seq ?_
        refine wpL_seq ?_
        refine wpL_draw (by kernel_rfl) (by kernel_rfl) hs ?_
        refine qY hf rfl rfl rfl (Y_move rfl rfl) ?_; clear hf; intro a hf
        refine qY hf rfl rfl rfl (Y_move rfl rfl) ?_; clear hf; intro a hf
        refine qY hf rfl rfl rfl (Y_lenH rfl rfl el59 hn244) ?_; clear hf; intro a hf
        refine qY hf rfl rfl rfl (Y_sub rfl rfl rfl) ?_; clear hf; intro a hf
        obtain ⟨q327, hi328, hm325⟩ := bind_some hm325
        obtain ⟨hi328a, hi328b, hi328q⟩ := idx_some hi328
        obtain ⟨A329, c330, hv331⟩ := hs.matRow (i := 0) rfl hi328q
        refine qY hf rfl rfl rfl (Y_index rfl rfl rfl el59 ti23 (Rd.isAt (hs.rdV (i := 0) rfl) hv331) hi328a (ltn hn244 hi328b)) ?_; clear hf; intro a hf
        refine qY hf rfl rfl rfl (Y_load_rd rfl rfl (fun w hs => hs.rdV (i := 0) rfl) (at1 hv331) ag23) ?_; clear hf; intro a hf
        refine qY hf rfl rfl rfl (Y_move rfl rfl) ?_; clear hf; intro a hf
        obtain ⟨q332, hi333, hm325⟩ := bind_some hm325
        obtain ⟨hi333a, hi333b, hi333q⟩ := idx_some hi333
        refine qY hf rfl rfl rfl (Y_index rfl rfl rfl el23 ti2 (Rd.isAt (hs.rdRow (i := 0) rfl ⟨hi328q, hv331⟩) (at1 (ints_at hi333q))) hi333a hi333b) ?_; clear hf; intro a hf
        refine qY hf rfl rfl rfl (Y_load_rd rfl rfl (fun w hs => hs.rdRow (i := 0) rfl ⟨hi328q, hv331⟩) (at1 (ints_at hi333q)) ag2) ?_; clear hf; intro a hf
        refine qY hf rfl rfl rfl (Y_move rfl rfl) ?_; clear hf; intro a hf
        refine qY hf rfl rfl rfl (Y_move rfl rfl) ?_; clear hf; intro a hf
        obtain ⟨q334, hi335, hm325⟩ := bind_some hm325
        obtain ⟨hi335a, hi335b, hi335q⟩ := idx_some hi335
        obtain ⟨vs336, hv337, hr338⟩ := id h_p1_1
        obtain ⟨A339, c340, hv341, hR342⟩ := hr338 _ _ hi335q
        refine qY hf rfl rfl rfl (Y_index rfl rfl rfl el59 ti23 (Rd.isAt hv337 hv341) hi335a hi335b) ?_; clear hf; intro a hf
        refine qY hf rfl rfl rfl (Y_load_rd rfl rfl (fun w hs => hv337.at hs) (at1 hv341) ag23) ?_; clear hf; intro a hf
        refine qY hf rfl rfl rfl (Y_move rfl rfl) ?_; clear hf; intro a hf
        obtain ⟨q343, hi344, hm325⟩ := bind_some hm325
        obtain ⟨hi344a, hi344b, hi344q⟩ := idx_some hi344
        refine qY hf rfl rfl rfl (Y_index rfl rfl rfl el23 ti2 (Rd.isAt (hR342.at hs) (at1 (ints_at hi344q))) hi344a hi344b) ?_; clear hf; intro a hf
        refine qY hf rfl rfl rfl (Y_load_rd rfl rfl (fun w hs => hR342.at hs) (at1 (ints_at hi344q)) ag2) ?_; clear hf; intro a hf
        refine qY hf rfl rfl rfl (Y_neq rfl rfl rfl) ?_; clear hf; intro a hf
        refine qNil ?_; clear hs; intro w hs
        refine wpL_cond hf rfl (fun hb345 => ?_) (fun hb345 => ?_)
        · have hm325 := bif_t hm325 hb345
          refine wpL_skip ?_
          refine wpL_block0 ?_
          refine wpL_drawM [.mat A241 n242 c243 23 2 vs245 ms240] [9, 10, 11] (by kernel_rfl) hs ?_; clear hs; intro w hs
          have hs0 : St [] W w [.mat A241 n242 c243 23 2 vs245 ms240] := hs
          refine mYp (i := 0) rfl (by kernel_rfl) (by kernel_rfl) hf rfl rfl rfl (fun _ => Y_move rfl rfl) ?_; clear hf; intro a hf
          refine mYp (i := 1) rfl (by kernel_rfl) (by kernel_rfl) hf rfl rfl rfl (fun _ => Y_move rfl rfl) ?_; clear hf; intro a hf
          refine mYp (i := 3) rfl (by kernel_rfl) (by kernel_rfl) hf rfl rfl rfl (fun _ => Y_move rfl rfl) ?_; clear hf; intro a hf
          refine mYp (i := 4) rfl (by kernel_rfl) (by kernel_rfl) hf rfl rfl rfl (fun _ => Y_move rfl rfl) ?_; clear hf; intro a hf
          refine mYp (i := 5) rfl (by kernel_rfl) (by kernel_rfl) hf rfl rfl rfl (fun _ => Y_lenH rfl rfl el59 hn244) ?_; clear hf; intro a hf
          refine mYp (i := 6) rfl (by kernel_rfl) (by kernel_rfl) hf rfl rfl rfl (fun _ => Y_sub rfl rfl rfl) ?_; clear hf; intro a hf
          obtain ⟨q372, hi373, hm325⟩ := bind_some hm325
          obtain ⟨hi373a, hi373b, hi373q⟩ := idx_some hi373
          obtain ⟨A374, c375, hv376⟩ := hs.matRow (i := 0) rfl hi373q
          refine mYp (i := 7) rfl (by kernel_rfl) (by kernel_rfl) hf rfl rfl rfl (fun _ => Y_index rfl rfl rfl el59 ti23 (Rd.isAt (hs.rdV (i := 0) rfl) hv376) hi373a (ltn hn244 hi373b)) ?_; clear hf; intro a hf
          refine mY (i := 8) [[], [9], [9]] rfl (by kernel_rfl) (by kernel_rfl) hf hs0 rfl rfl rfl (Y_load_rd rfl rfl (fun w hs => hs.rdV (i := 0) rfl) (at1 hv376) ag23) ?_; clear hf; intro a hf
          refine mRun (i := 2) rfl (by kernel_rfl) ?_
          obtain ⟨r377, hc378, hm325⟩ := bind_some hm325
          refine sCall hf rfl rfl rfl rfl (cap := []) rfl rfl en131 (impl_transposed_ok F p0 A_p0_1 p0.length c_p0_1 rfl _ _ hc378 (h_p0_1.at hs)) ?_; clear hf
          rintro _ w ⟨A379, n380, c381, vs383, rfl, hn382, hs1⟩ a hf
          have hs : St [] W w [.mat A241 n242 c243 23 2 vs245 ms240, .mat A379 n380 c381 23 2 vs383 r377] := hs.join hs1
          clear hs1
          have hs0 : St [] W w [.mat A241 n242 c243 23 2 vs245 ms240] := hs.sel [0] (by decide)
          refine wpO_nil ⟨Or.inr (fun _ => hs0), ?_⟩
          refine mRun (i := 9) rfl (by kernel_rfl) ?_
          obtain ⟨r384, hc385, hm325⟩ := bind_some hm325
          refine sCall hf rfl rfl rfl rfl (cap := []) rfl rfl en130 (impl_timesVector_ok F r377 A379 n380 c381 hn382 q372 A374 q372.length c375 rfl _ _ hc385 (hs.rdM (i := 1) rfl) (hs.rdRow (i := 0) rfl ⟨hi373q, hv376⟩)) ?_; clear hf
          rintro _ w ⟨A386, n387, c388, rfl, hn389, hs1⟩ a hf
          have hs : St [] W w [.mat A241 n242 c243 23 2 vs245 ms240, .mat A379 n380 c381 23 2 vs383 r377, .row A386 n387 c388 2 1 (ints r384)] := hs.join hs1
          clear hs1
          refine wpO_nil ⟨Or.inl (by decide), ?_⟩
          refine mRun (i := 10) rfl (by kernel_rfl) ?_
          refine sOneM (j := 2) hf hs rfl rfl rfl rfl rfl rfl hn389 el59 ti23 ?_; clear hf hs; intro a w A390 hs hf
          have hs : St [] W w [.mat A241 n242 c243 23 2 vs245 ms240, .mat A379 n380 c381 23 2 vs383 r377, .mat A390 1 1 23 2 ([Value.slice A386 r384.length c388]) ([r384])] := hs
          refine wpO_nil ⟨Or.inl (by decide), ?_⟩
          refine mRun (i := 11) rfl (by kernel_rfl) ?_
          obtain ⟨ms394, ha395, hm325⟩ := bind_some hm325
          refine sAppendM (i := 0) (j := 2) hf hs rfl rfl rfl rfl rfl rfl hn244 rfl (by decide) rfl rfl (by decide) ha395 el59 ti23 rfl ?_; clear hf hs; intro a w A392 c393 hs hf
          have hs : St [] W w [.mat A392 ms394.length c393 23 2 (vs245 ++ ([Value.slice A386 r384.length c388])) ms394, .mat A379 n380 c381 23 2 vs383 r377] := hs
          obtain ⟨hq396, hv397⟩ := hs.appended (i := 0) rfl ha395
          refine wpO_nil ⟨Or.inl (by decide), ?_⟩
          refine mYp (i := 12) rfl (by kernel_rfl) (by kernel_rfl) hf rfl rfl rfl (fun _ => Y_assign rfl rfl) ?_; clear hf; intro a hf
          refine mDone (by kernel_rfl) ?_
          clear hs0
          refine wpL_nil (Qb_normal ?_)
          refine wpL_nil (Ql_normal ?_)
          exact ⟨ms394, A392, ms394.length, c393, (vs245 ++ ([Value.slice A386 r384.length c388])), hm325, rfl, (FrD.pick (FrD.pick (FrD.pick (FrD.pick (FrD.pick (FrD.pick hf.none hf rfl) hf rfl) hf rfl) hf rfl) hf rfl) hf rfl), hs.sel [0] (by decide)⟩
        · have hm325 := bif_f hm325 hb345
          refine wpL_exit (Ql_exit (Qb_exit ?_))
          exact ⟨ms240, A241, n242, c243, vs245, Option.some.inj hm325, hn244, (FrD.pick (FrD.pick (FrD.pick (FrD.pick hf.none hf rfl) hf rfl) hf rfl) hf rfl), hs⟩
    · rintro a w ⟨ms317, A318, n319, c320, vs322, hr_, hn321, hf, hs⟩
      subst hr_
      try dsimp only at hm
      refine wpL_seq ?_
      refine wpL_region ?_
      refine sY hf hs rfl rfl rfl (Y_move rfl rfl) ?_; clear hf; intro a hf
      refine sBuildSlice (parts := [(0, .tmp 69)]) (vs := [.int .i64 p2]) (cells := [.int .i64 p2]) hf hs rfl rfl rfl rfl rfl el23 ti2 rfl rfl rfl rfl ?_; clear hf hs; intro a w A398 hs hA399 hf
      have hs : St [] W w [.mat A318 n319 c320 23 2 vs322 ms317, .row A398 1 1 2 1 (ints ([p2]))] := hs
      refine sY hf hs rfl rfl rfl (Y_assign rfl rfl) ?_; clear hf; intro a hf
      refine wpO_nil ?_
      refine wpL_seq ?_
      refine wpL_seq ?_
      refine wpL_region ?_
      refine sY hf hs rfl rfl rfl (Y_move rfl rfl) ?_; clear hf; intro a hf
      refine sY hf hs rfl rfl rfl (Y_lenH rfl rfl el59 hn321) ?_; clear hf; intro a hf
      refine sY hf hs rfl rfl rfl (Y_sub rfl rfl rfl) ?_; clear hf; intro a hf
      refine sY hf hs rfl rfl rfl (Y_assign rfl rfl) ?_; clear hf; intro a hf
      refine wpO_nil ?_
      obtain ⟨r1275, hl1276, hm⟩ := bind_some hm
      refine wpL_block (fun a w => ∃ xs1270 : List Int, ∃ A1271, ∃ n1272, ∃ c1273, xs1270 = r1275 ∧ n1272 = xs1270.length ∧ Fr a 134 [(12, .slice A1271 n1272 c1273)] ∧ St [] W w [.row A1271 n1272 c1273 2 1 (ints xs1270)]) ?_ ?_
      · refine wpL_loop (fun n a w => ∃ xs978 : List Int, ∃ x983 : Int, ∃ A979, ∃ n980, ∃ c981, impl_heaviestPath_L6 F p0 ms317 n xs978 x983 = some r1275 ∧ n980 = xs978.length ∧ Fr a 134 [(0, .slice A_p0_1 p0.length c_p0_1), (9, .int .i64 (p0.length : Int)), (10, .slice A318 n319 c320), (12, .slice A979 n980 c981), (13, .int .i64 x983)] ∧ St [] W w [.mat A318 n319 c320 23 2 vs322 ms317, .row A979 n980 c981 2 1 (ints xs978)]) F ?_ ?_ ?_
        · exact ⟨[p2], (IntKind.i64.wrap ((ms317.length : Int) - 1)), A398, 1, 1, hl1276, rfl, (FrD.pick (FrD.pick (FrD.pick (FrD.pick (FrD.pick hf.none hf rfl) hf rfl) hf rfl) hf rfl) hf rfl), hs⟩
        · rintro a w ⟨xs978, x983, A979, n980, c981, h0_, -, -, -⟩; simp [impl_heaviestPath_L6] at h0_
        · rintro n1278 a w ⟨xs978, x983, A979, n980, c981, hm1277, hn982, hf, hs⟩
          rw [impl_heaviestPath_L6] at hm1277
          refine wpL_seq ?_
          refine wpL_seq ?_
          refine wpL_region ?_
          refine sY hf hs rfl rfl rfl (Y_move rfl rfl) ?_; clear hf; intro a hf
          refine sY hf hs rfl rfl rfl (Y_gtr rfl rfl rfl) ?_; clear hf; intro a hf
          refine wpO_nil ?_
          refine wpL_cond hf rfl (fun hb1279 => ?_) (fun hb1279 => ?_)
          · have hm1277 := bif_t hm1277 hb1279
            refine wpL_skip ?_
            refine wpL_seq ?_
            refine wpL_block0 ?_
            refine wpL_seq ?_
            refine wpL_region ?_
            refine sY hf hs rfl rfl rfl (Y_move rfl rfl) ?_; clear hf; intro a hf
            refine sY hf hs rfl rfl rfl (Y_move rfl rfl) ?_; clear hf; intro a hf
            refine sY hf hs rfl rfl rfl (Y_lenH rfl rfl el23 hn982) ?_; clear hf; intro a hf
            refine sY hf hs rfl rfl rfl (Y_sub rfl rfl rfl) ?_; clear hf; intro a hf
            obtain ⟨q1280, hi1281, hm1277⟩ := bind_some hm1277
            obtain ⟨hi1281a, hi1281b, hi1281q⟩ := idx_some hi1281
            refine sY hf hs rfl rfl rfl (Y_index rfl rfl rfl el23 ti2 (Rd.isAt (hs.rd (i := 1) rfl) (at1 (ints_at hi1281q))) hi1281a (ltn hn982 hi1281b)) ?_; clear hf; intro a hf
            refine sY hf hs rfl rfl rfl (Y_load_rd rfl rfl (fun w hs => hs.rd (i := 1) rfl) (at1 (ints_at hi1281q)) ag2) ?_; clear hf; intro a hf
            refine sY hf hs rfl rfl rfl (Y_assign rfl rfl) ?_; clear hf; intro a hf
            refine wpO_nil ?_
            refine wpL_seq ?_
            refine wpL_region ?_
            refine sY hf hs rfl rfl rfl (Y_move rfl rfl) ?_; clear hf; intro a hf
            refine sY hf hs rfl rfl rfl (Y_move rfl rfl) ?_; clear hf; intro a hf
            refine wpO_nil ?_
            obtain ⟨r1493, hl1494, hm1277⟩ := bind_some hm1277
            refine wpL_block (fun a w => ∃ xs1488 : List Int, ∃ A1489, ∃ n1490, ∃ c1491, xs1488 = r1493 ∧ n1490 = xs1488.length ∧ Fr a 134 [(0, .slice A_p0_1 p0.length c_p0_1), (9, .int .i64 (p0.length : Int)), (10, .slice A318 n319 c320), (12, .slice A1489 n1490 c1491), (13, .int .i64 x983)] ∧ St [] W w [.mat A318 n319 c320 23 2 vs322 ms317, .row A1489 n1490 c1491 2 1 (ints xs1488)]) ?_ ?_
            · refine wpL_loop (fun n a w => ∃ x1419 : Int, impl_heaviestPath_L7 F p0 ms317 xs978 x983 q1280 n x1419 = some r1493 ∧ Fr a 134 [(0, .slice A_p0_1 p0.length c_p0_1), (9, .int .i64 (p0.length : Int)), (10, .slice A318 n319 c320), (12, .slice A979 n980 c981), (13, .int .i64 x983), (14, .int .i64 q1280), (84, .int .i64 (p0.length : Int)), (85, .int .i64 x1419)] ∧ St [] W w [.mat A318 n319 c320 23 2 vs322 ms317, .row A979 n980 c981 2 1 (ints xs978)]) F ?_ ?_ ?_
              · exact ⟨0, hl1494, (FrD.pick (FrD.pick (FrD.pick (FrD.pick (FrD.pick (FrD.pick (FrD.pick (FrD.pick hf.none hf rfl) hf rfl) hf rfl) hf rfl) hf rfl) hf rfl) hf rfl) hf rfl), hs⟩
              · rintro a w ⟨x1419, h0_, -, -⟩; simp [impl_heaviestPath_L7] at h0_
              · rintro n1496 a w ⟨x1419, hm1495, hf, hs⟩
                rw [impl_heaviestPath_L7] at hm1495
                refine wpL_seq ?_
                refine wpL_region ?_
                refine sY hf hs rfl rfl rfl (Y_lss rfl rfl rfl) ?_; clear hf; intro a hf
                refine wpO_nil ?_
                refine wpL_seq ?_
                refine wpL_cond hf rfl (fun hb1497 => ?_) (fun hb1497 => ?_)
                · have hm1495 := bif_t hm1495 hb1497
                  refine wpL_skip ?_
                  refine wpL_seq ?_
                  refine wpL_block0 ?_
                  refine wpL_seq ?_
                  refine wpL_region ?_
                  refine sY hf hs rfl rfl rfl (Y_move rfl rfl) ?_; clear hf; intro a hf
                  refine sY hf hs rfl rfl rfl (Y_assign rfl rfl) ?_; clear hf; intro a hf
                  refine wpO_nil ?_
                  refine wpL_seq ?_
                  refine wpL_region ?_
                  refine sY hf hs rfl rfl rfl (Y_move rfl rfl) ?_; clear hf; intro a hf
                  refine sY hf hs rfl rfl rfl (Y_move rfl rfl) ?_; clear hf; intro a hf
                  obtain ⟨q1498, hi1499, hm1495⟩ := bind_some hm1495
                  obtain ⟨hi1499a, hi1499b, hi1499q⟩ := idx_some hi1499
                  obtain ⟨vs1500, hv1501, hr1502⟩ := id h_p0_1
                  obtain ⟨A1503, c1504, hv1505, hR1506⟩ := hr1502 _ _ hi1499q
                  refine sY hf hs rfl rfl rfl (Y_index rfl rfl rfl el59 ti23 (Rd.isAt hv1501 hv1505) hi1499a hi1499b) ?_; clear hf; intro a hf
                  refine sY hf hs rfl rfl rfl (Y_load_rd rfl rfl (fun w hs => hv1501.at hs) (at1 hv1505) ag23) ?_; clear hf; intro a hf
                  refine sY hf hs rfl rfl rfl (Y_move rfl rfl) ?_; clear hf; intro a hf
                  obtain ⟨q1507, hi1508, hm1495⟩ := bind_some hm1495
                  obtain ⟨hi1508a, hi1508b, hi1508q⟩ := idx_some hi1508
                  refine sY hf hs rfl rfl rfl (Y_index rfl rfl rfl el23 ti2 (Rd.isAt (hR1506.at hs) (at1 (ints_at hi1508q))) hi1508a hi1508b) ?_; clear hf; intro a hf
                  refine sY hf hs rfl rfl rfl (Y_load_rd rfl rfl (fun w hs => hR1506.at hs) (at1 (ints_at hi1508q)) ag2) ?_; clear hf; intro a hf
                  refine sY hf hs rfl rfl rfl (Y_assign rfl rfl) ?_; clear hf; intro a hf
                  refine wpO_nil ?_
                  refine wpL_seq ?_
                  obtain ⟨r1533, hj1534, hm1495⟩ := bind_some hm1495
                  refine wpL_cut (fun a w => ∃ b1532 : Bool, b1532 = r1533 ∧ Fr a 134 [(0, .slice A_p0_1 p0.length c_p0_1), (9, .int .i64 (p0.length : Int)), (10, .slice A318 n319 c320), (12, .slice A979 n980 c981), (13, .int .i64 x983), (14, .int .i64 q1280), (15, .int .i64 x1419), (84, .int .i64 (p0.length : Int)), (85, .int .i64 x1419), (127, .bool b1532)] ∧ St [] W w [.mat A318 n319 c320 23 2 vs322 ms317, .row A979 n980 c981 2 1 (ints xs978)]) ?_ ?_
                  · refine wpL_draw (by kernel_rfl) (by kernel_rfl) hs ?_
                    refine qY hf rfl rfl rfl (Y_move rfl rfl) ?_; clear hf; intro a hf
                    refine qY hf rfl rfl rfl (Y_neq rfl rfl rfl) ?_; clear hf; intro a hf
                    refine qY hf rfl rfl rfl (Y_move rfl rfl) ?_; clear hf; intro a hf
                    refine bsplit (q1507 != (-1000000000000000)) (fun hb1535 => ?_) (fun hb1535 => ?_)
                    · have hj1534 := bif_t hj1534 hb1535
                      refine qYg hf rfl rfl rfl (congrArg (fun b => some (Value.bool b)) hb1535) rfl rfl rfl (Y_move rfl rfl) ?_; clear hf; intro a hf
                      refine qYg hf rfl rfl rfl (congrArg (fun b => some (Value.bool b)) hb1535) rfl rfl rfl (Y_move rfl rfl) ?_; clear hf; intro a hf
                      refine qYg hf rfl rfl rfl (congrArg (fun b => some (Value.bool b)) hb1535) rfl rfl rfl (Y_sub rfl rfl rfl) ?_; clear hf; intro a hf
                      obtain ⟨q1536, hi1537, hj1534⟩ := bind_some hj1534
                      obtain ⟨hi1537a, hi1537b, hi1537q⟩ := idx_some hi1537
                      obtain ⟨A1538, c1539, hv1540⟩ := hs.matRow (i := 0) rfl hi1537q
                      refine qYg hf rfl rfl rfl (congrArg (fun b => some (Value.bool b)) hb1535) rfl rfl rfl (Y_index rfl rfl rfl el59 ti23 (Rd.isAt (hs.rdV (i := 0) rfl) hv1540) hi1537a (ltn hn321 hi1537b)) ?_; clear hf; intro a hf
                      refine qYg hf rfl rfl rfl (congrArg (fun b => some (Value.bool b)) hb1535) rfl rfl rfl (Y_load_rd rfl rfl (fun w hs => hs.rdV (i := 0) rfl) (at1 hv1540) ag23) ?_; clear hf; intro a hf
                      refine qYg hf rfl rfl rfl (congrArg (fun b => some (Value.bool b)) hb1535) rfl rfl rfl (Y_move rfl rfl) ?_; clear hf; intro a hf
                      obtain ⟨q1541, hi1542, hj1534⟩ := bind_some hj1534
                      obtain ⟨hi1542a, hi1542b, hi1542q⟩ := idx_some hi1542
                      refine qYg hf rfl rfl rfl (congrArg (fun b => some (Value.bool b)) hb1535) rfl rfl rfl (Y_index rfl rfl rfl el23 ti2 (Rd.isAt (hs.rdRow (i := 0) rfl ⟨hi1537q, hv1540⟩) (at1 (ints_at hi1542q))) hi1542a hi1542b) ?_; clear hf; intro a hf
                      refine qYg hf rfl rfl rfl (congrArg (fun b => some (Value.bool b)) hb1535) rfl rfl rfl (Y_load_rd rfl rfl (fun w hs => hs.rdRow (i := 0) rfl ⟨hi1537q, hv1540⟩) (at1 (ints_at hi1542q)) ag2) ?_; clear hf; intro a hf
                      refine qYg hf rfl rfl rfl (congrArg (fun b => some (Value.bool b)) hb1535) rfl rfl rfl (Y_neq rfl rfl rfl) ?_; clear hf; intro a hf
                      refine qY hf rfl rfl rfl (Y_pickT rfl (congrArg (fun b => some (Value.bool b)) hb1535) rfl) ?_; clear hf; intro a hf
                      refine qY hf rfl rfl rfl (Y_move rfl rfl) ?_; clear hf; intro a hf
                      refine bsplit (q1541 != (-1000000000000000)) (fun hb1543 => ?_) (fun hb1543 => ?_)
                      · have hj1534 := bif_t hj1534 hb1543
                        refine qYg hf rfl rfl rfl (congrArg (fun b => some (Value.bool b)) hb1543) rfl rfl rfl (Y_move rfl rfl) ?_; clear hf; intro a hf
                        refine qYg hf rfl rfl rfl (congrArg (fun b => some (Value.bool b)) hb1543) rfl rfl rfl (Y_move rfl rfl) ?_; clear hf; intro a hf
                        refine qYg hf rfl rfl rfl (congrArg (fun b => some (Value.bool b)) hb1543) rfl rfl rfl (Y_move rfl rfl) ?_; clear hf; intro a hf
                        refine qYg hf rfl rfl rfl (congrArg (fun b => some (Value.bool b)) hb1543) rfl rfl rfl (Y_sub rfl rfl rfl) ?_; clear hf; intro a hf
                        obtain ⟨q1544, hi1545, hj1534⟩ := bind_some hj1534
                        obtain ⟨hi1545a, hi1545b, hi1545q⟩ := idx_some hi1545
                        obtain ⟨A1546, c1547, hv1548⟩ := hs.matRow (i := 0) rfl hi1545q
                        refine qYg hf rfl rfl rfl (congrArg (fun b => some (Value.bool b)) hb1543) rfl rfl rfl (Y_index rfl rfl rfl el59 ti23 (Rd.isAt (hs.rdV (i := 0) rfl) hv1548) hi1545a (ltn hn321 hi1545b)) ?_; clear hf; intro a hf
                        refine qYg hf rfl rfl rfl (congrArg (fun b => some (Value.bool b)) hb1543) rfl rfl rfl (Y_load_rd rfl rfl (fun w hs => hs.rdV (i := 0) rfl) (at1 hv1548) ag23) ?_; clear hf; intro a hf
                        refine qYg hf rfl rfl rfl (congrArg (fun b => some (Value.bool b)) hb1543) rfl rfl rfl (Y_move rfl rfl) ?_; clear hf; intro a hf
                        obtain ⟨q1549, hi1550, hj1534⟩ := bind_some hj1534
                        obtain ⟨hi1550a, hi1550b, hi1550q⟩ := idx_some hi1550
                        refine qYg hf rfl rfl rfl (congrArg (fun b => some (Value.bool b)) hb1543) rfl rfl rfl (Y_index rfl rfl rfl el23 ti2 (Rd.isAt (hs.rdRow (i := 0) rfl ⟨hi1545q, hv1548⟩) (at1 (ints_at hi1550q))) hi1550a hi1550b) ?_; clear hf; intro a hf
                        refine qYg hf rfl rfl rfl (congrArg (fun b => some (Value.bool b)) hb1543) rfl rfl rfl (Y_load_rd rfl rfl (fun w hs => hs.rdRow (i := 0) rfl ⟨hi1545q, hv1548⟩) (at1 (ints_at hi1550q)) ag2) ?_; clear hf; intro a hf
                        refine qYg hf rfl rfl rfl (congrArg (fun b => some (Value.bool b)) hb1543) rfl rfl rfl (Y_add rfl rfl rfl) ?_; clear hf; intro a hf
                        refine qYg hf rfl rfl rfl (congrArg (fun b => some (Value.bool b)) hb1543) rfl rfl rfl (Y_move rfl rfl) ?_; clear hf; intro a hf
                        refine qYg hf rfl rfl rfl (congrArg (fun b => some (Value.bool b)) hb1543) rfl rfl rfl (Y_move rfl rfl) ?_; clear hf; intro a hf
                        obtain ⟨q1551, hi1552, hj1534⟩ := bind_some hj1534
                        obtain ⟨hi1552a, hi1552b, hi1552q⟩ := idx_some hi1552
                        obtain ⟨A1553, c1554, hv1555⟩ := hs.matRow (i := 0) rfl hi1552q
                        refine qYg hf rfl rfl rfl (congrArg (fun b => some (Value.bool b)) hb1543) rfl rfl rfl (Y_index rfl rfl rfl el59 ti23 (Rd.isAt (hs.rdV (i := 0) rfl) hv1555) hi1552a (ltn hn321 hi1552b)) ?_; clear hf; intro a hf
                        refine qYg hf rfl rfl rfl (congrArg (fun b => some (Value.bool b)) hb1543) rfl rfl rfl (Y_load_rd rfl rfl (fun w hs => hs.rdV (i := 0) rfl) (at1 hv1555) ag23) ?_; clear hf; intro a hf
                        refine qYg hf rfl rfl rfl (congrArg (fun b => some (Value.bool b)) hb1543) rfl rfl rfl (Y_move rfl rfl) ?_; clear hf; intro a hf
                        obtain ⟨q1556, hi1557, hj1534⟩ := bind_some hj1534
                        obtain ⟨hi1557a, hi1557b, hi1557q⟩ := idx_some hi1557
                        refine qYg hf rfl rfl rfl (congrArg (fun b => some (Value.bool b)) hb1543) rfl rfl rfl (Y_index rfl rfl rfl el23 ti2 (Rd.isAt (hs.rdRow (i := 0) rfl ⟨hi1552q, hv1555⟩) (at1 (ints_at hi1557q))) hi1557a hi1557b) ?_; clear hf; intro a hf
                        refine qYg hf rfl rfl rfl (congrArg (fun b => some (Value.bool b)) hb1543) rfl rfl rfl (Y_load_rd rfl rfl (fun w hs => hs.rdRow (i := 0) rfl ⟨hi1552q, hv1555⟩) (at1 (ints_at hi1557q)) ag2) ?_; clear hf; intro a hf
                        refine qYg hf rfl rfl rfl (congrArg (fun b => some (Value.bool b)) hb1543) rfl rfl rfl (Y_eql rfl rfl rfl) ?_; clear hf; intro a hf
                        refine qY hf rfl rfl rfl (Y_pickT rfl (congrArg (fun b => some (Value.bool b)) hb1543) rfl) ?_; clear hf; intro a hf
                        refine qNil ?_; clear hs; intro w hs
                        refine wpL_nil (then_normal ?_)
                        exact ⟨((IntKind.i64.wrap (q1507 + q1549)) == q1556), Option.some.inj hj1534, (FrD.pick (FrD.pick (FrD.pick (FrD.pick (FrD.pick (FrD.pick (FrD.pick (FrD.pick (FrD.pick (FrD.pick hf.none hf rfl) hf rfl) hf rfl) hf rfl) hf rfl) hf rfl) hf rfl) hf rfl) hf rfl) hf rfl), hs⟩
                      · have hj1534 := bif_f hj1534 hb1543
                        refine qNo hf rfl rfl rfl (congrArg (fun b => some (Value.bool b)) hb1543) rfl rfl rfl ?_; clear hf; intro a hf
                        refine qNo hf rfl rfl rfl (congrArg (fun b => some (Value.bool b)) hb1543) rfl rfl rfl ?_; clear hf; intro a hf
                        refine qNo hf rfl rfl rfl (congrArg (fun b => some (Value.bool b)) hb1543) rfl rfl rfl ?_; clear hf; intro a hf
                        refine qNo hf rfl rfl rfl (congrArg (fun b => some (Value.bool b)) hb1543) rfl rfl rfl ?_; clear hf; intro a hf
                        refine qNo hf rfl rfl rfl (congrArg (fun b => some (Value.bool b)) hb1543) rfl rfl rfl ?_; clear hf; intro a hf
                        refine qNo hf rfl rfl rfl (congrArg (fun b => some (Value.bool b)) hb1543) rfl rfl rfl ?_; clear hf; intro a hf
                        refine qNo hf rfl rfl rfl (congrArg (fun b => some (Value.bool b)) hb1543) rfl rfl rfl ?_; clear hf; intro a hf
                        refine qNo hf rfl rfl rfl (congrArg (fun b => some (Value.bool b)) hb1543) rfl rfl rfl ?_; clear hf; intro a hf
                        refine qNo hf rfl rfl rfl (congrArg (fun b => some (Value.bool b)) hb1543) rfl rfl rfl ?_; clear hf; intro a hf
                        refine qNo hf rfl rfl rfl (congrArg (fun b => some (Value.bool b)) hb1543) rfl rfl rfl ?_; clear hf; intro a hf
                        refine qNo hf rfl rfl rfl (congrArg (fun b => some (Value.bool b)) hb1543) rfl rfl rfl ?_; clear hf; intro a hf
                        refine qNo hf rfl rfl rfl (congrArg (fun b => some (Value.bool b)) hb1543) rfl rfl rfl ?_; clear hf; intro a hf
                        refine qNo hf rfl rfl rfl (congrArg (fun b => some (Value.bool b)) hb1543) rfl rfl rfl ?_; clear hf; intro a hf
                        refine qNo hf rfl rfl rfl (congrArg (fun b => some (Value.bool b)) hb1543) rfl rfl rfl ?_; clear hf; intro a hf
                        refine qNo hf rfl rfl rfl (congrArg (fun b => some (Value.bool b)) hb1543) rfl rfl rfl ?_; clear hf; intro a hf
                        refine qNo hf rfl rfl rfl (congrArg (fun b => some (Value.bool b)) hb1543) rfl rfl rfl ?_; clear hf; intro a hf
                        refine qNo hf rfl rfl rfl (congrArg (fun b => some (Value.bool b)) hb1543) rfl rfl rfl ?_; clear hf; intro a hf
                        refine qNo hf rfl rfl rfl (congrArg (fun b => some (Value.bool b)) hb1543) rfl rfl rfl ?_; clear hf; intro a hf
                        refine qY hf rfl rfl rfl (Y_pickF rfl (congrArg (fun b => some (Value.bool b)) hb1543) rfl) ?_; clear hf; intro a hf
                        refine qNil ?_; clear hs; intro w hs
                        refine wpL_nil (then_normal ?_)
                        exact ⟨false, Option.some.inj hj1534, (FrD.pick (FrD.pick (FrD.pick (FrD.pick (FrD.pick (FrD.pick (FrD.pick (FrD.pick (FrD.pick (FrD.pick hf.none hf rfl) hf rfl) hf rfl) hf rfl) hf rfl) hf rfl) hf rfl) hf rfl) hf rfl) hf rfl), hs⟩
                    · have hj1534 := bif_f hj1534 hb1535
                      refine qNo hf rfl rfl rfl (congrArg (fun b => some (Value.bool b)) hb1535) rfl rfl rfl ?_; clear hf; intro a hf
                      refine qNo hf rfl rfl rfl (congrArg (fun b => some (Value.bool b)) hb1535) rfl rfl rfl ?_; clear hf; intro a hf
                      refine qNo hf rfl rfl rfl (congrArg (fun b => some (Value.bool b)) hb1535) rfl rfl rfl ?_; clear hf; intro a hf
                      refine qNo hf rfl rfl rfl (congrArg (fun b => some (Value.bool b)) hb1535) rfl rfl rfl ?_; clear hf; intro a hf
                      refine qNo hf rfl rfl rfl (congrArg (fun b => some (Value.bool b)) hb1535) rfl rfl rfl ?_; clear hf; intro a hf
                      refine qNo hf rfl rfl rfl (congrArg (fun b => some (Value.bool b)) hb1535) rfl rfl rfl ?_; clear hf; intro a hf
                      refine qNo hf rfl rfl rfl (congrArg (fun b => some (Value.bool b)) hb1535) rfl rfl rfl ?_; clear hf; intro a hf
                      refine qNo hf rfl rfl rfl (congrArg (fun b => some (Value.bool b)) hb1535) rfl rfl rfl ?_; clear hf; intro a hf
                      refine qNo hf rfl rfl rfl (congrArg (fun b => some (Value.bool b)) hb1535) rfl rfl rfl ?_; clear hf; intro a hf
                      refine qY hf rfl rfl rfl (Y_pickF rfl (congrArg (fun b => some (Value.bool b)) hb1535) rfl) ?_; clear hf; intro a hf
                      refine qY hf rfl rfl rfl (Y_move rfl rfl) ?_; clear hf; intro a hf
                      refine qNo hf rfl rfl rfl rfl rfl rfl rfl ?_; clear hf; intro a hf
                      refine qNo hf rfl rfl rfl rfl rfl rfl rfl ?_; clear hf; intro a hf
                      refine qNo hf rfl rfl rfl rfl rfl rfl rfl ?_; clear hf; intro a hf
                      refine qNo hf rfl rfl rfl rfl rfl rfl rfl ?_; clear hf; intro a hf
                      refine qNo hf rfl rfl rfl rfl rfl rfl rfl ?_; clear hf; intro a hf
                      refine qNo hf rfl rfl rfl rfl rfl rfl rfl ?_; clear hf; intro a hf
                      refine qNo hf rfl rfl rfl rfl rfl rfl rfl ?_; clear hf; intro a hf
                      refine qNo hf rfl rfl rfl rfl rfl rfl rfl ?_; clear hf; intro a hf
                      refine qNo hf rfl rfl rfl rfl rfl rfl rfl ?_; clear hf; intro a hf
                      refine qNo hf rfl rfl rfl rfl rfl rfl rfl ?_; clear hf; intro a hf
                      refine qNo hf rfl rfl rfl rfl rfl rfl rfl ?_; clear hf; intro a hf
                      refine qNo hf rfl rfl rfl rfl rfl rfl rfl ?_; clear hf; intro a hf
                      refine qNo hf rfl rfl rfl rfl rfl rfl rfl ?_; clear hf; intro a hf
                      refine qNo hf rfl rfl rfl rfl rfl rfl rfl ?_; clear hf; intro a hf
                      refine qNo hf rfl rfl rfl rfl rfl rfl rfl ?_; clear hf; intro a hf
                      refine qNo hf rfl rfl rfl rfl rfl rfl rfl ?_; clear hf; intro a hf
                      refine qNo hf rfl rfl rfl rfl rfl rfl rfl ?_; clear hf; intro a hf
                      refine qNo hf rfl rfl rfl rfl rfl rfl rfl ?_; clear hf; intro a hf
                      refine qY hf rfl rfl rfl (Y_pickF rfl rfl rfl) ?_; clear hf; intro a hf
                      refine qNil ?_; clear hs; intro w hs
                      refine wpL_nil (then_normal ?_)
                      exact ⟨false, Option.some.inj hj1534, (FrD.pick (FrD.pick (FrD.pick (FrD.pick (FrD.pick (FrD.pick (FrD.pick (FrD.pick (FrD.pick (FrD.pick hf.none hf rfl) hf rfl) hf rfl) hf rfl) hf rfl) hf rfl) hf rfl) hf rfl) hf rfl) hf rfl), hs⟩
                  · rintro a w ⟨b1532, hr_, hf, hs⟩
                    subst hr_
                    try dsimp only at hm1495
                    refine wpL_cond hf rfl (fun hb1558 => ?_) (fun hb1558 => ?_)
                    · have hm1495 := bif_t hm1495 hb1558
                      refine wpL_seq ?_
                      refine wpL_region ?_
                      refine sY hf hs rfl rfl rfl (Y_move rfl rfl) ?_; clear hf; intro a hf
                      refine sY hf hs rfl rfl rfl (Y_move rfl rfl) ?_; clear hf; intro a hf
                      refine sBuildSlice (parts := [(0, .tmp 129)]) (vs := [.int .i64 x1419]) (cells := [.int .i64 x1419]) hf hs rfl rfl rfl rfl rfl el23 ti2 rfl rfl rfl rfl ?_; clear hf hs; intro a w A1559 hs hA1560 hf
                      have hs : St [] W w [.mat A318 n319 c320 23 2 vs322 ms317, .row A979 n980 c981 2 1 (ints xs978), .row A1559 1 1 2 1 (ints ([x1419]))] := hs
                      obtain ⟨xs1563, ha1564, hm1495⟩ := bind_some hm1495
                      refine sAppendL (i := 1) (xs := xs978) (ys := [x1419]) (enc := ints) hf hs rfl rfl rfl rfl rfl rfl hn982 rfl rfl ha1564 el23 ti2 rfl rfl rfl (hs.rd (i := 2) rfl) (Nat.succ_pos _) ints_len1 ints_append ints_one ?_; clear hf hs; intro a w A1561 c1562 hs hf
                      have hs : St [] W w [.mat A318 n319 c320 23 2 vs322 ms317, .row A1561 xs1563.length c1562 2 1 (ints xs1563), .row A1559 1 1 2 1 (ints ([x1419]))] := hs
                      refine sY hf hs rfl rfl rfl (Y_assign rfl rfl) ?_; clear hf; intro a hf
                      refine wpO_nil ?_
                      refine wpL_exit (Qb_exit_ne rfl (Ql_exit (Qb_exit ?_)))
                      exact ⟨xs1563, A1561, xs1563.length, c1562, Option.some.inj hm1495, rfl, (FrD.pick (FrD.pick (FrD.pick (FrD.pick (FrD.pick hf.none hf rfl) hf rfl) hf rfl) hf rfl) hf rfl), hs.sel [0, 1] (by decide)⟩
                    · have hm1495 := bif_f hm1495 hb1558
                      refine wpL_skip ?_
                      refine wpL_nil (Qb_normal ?_)
                      refine wpL_region ?_
                      refine sY hf hs rfl rfl rfl (Y_add rfl rfl rfl) ?_; clear hf; intro a hf
                      refine sY hf hs rfl rfl rfl (Y_move rfl rfl) ?_; clear hf; intro a hf
                      refine wpO_nil ?_
                      refine wpL_nil (Ql_normal ?_)
                      exact ⟨(IntKind.i64.wrap (x1419 + 1)), hm1495, (FrD.pick (FrD.pick (FrD.pick (FrD.pick (FrD.pick (FrD.pick (FrD.pick (FrD.pick hf.none hf rfl) hf rfl) hf rfl) hf rfl) hf rfl) hf rfl) hf rfl) hf rfl), hs⟩
                · have hm1495 := bif_f hm1495 hb1497
                  refine wpL_exit (Ql_exit (Qb_exit ?_))
                  exact ⟨xs978, A979, n980, c981, Option.some.inj hm1495, hn982, (FrD.pick (FrD.pick (FrD.pick (FrD.pick (FrD.pick hf.none hf rfl) hf rfl) hf rfl) hf rfl) hf rfl), hs⟩
            · rintro a w ⟨xs1488, A1489, n1490, c1491, hr_, hn1492, hf, hs⟩
              subst hr_
              try dsimp only at hm1277
              refine wpL_nil (Qb_normal ?_)
              refine wpL_region ?_
              refine sY hf hs rfl rfl rfl (Y_move rfl rfl) ?_; clear hf; intro a hf
              refine sY hf hs rfl rfl rfl (Y_sub rfl rfl rfl) ?_; clear hf; intro a hf
              refine sY hf hs rfl rfl rfl (Y_assign rfl rfl) ?_; clear hf; intro a hf
              refine wpO_nil ?_
              refine wpL_nil (Ql_normal ?_)
              exact ⟨xs1488, (IntKind.i64.wrap (x983 - 1)), A1489, n1490, c1491, hm1277, hn1492, (FrD.pick (FrD.pick (FrD.pick (FrD.pick (FrD.pick hf.none hf rfl) hf rfl) hf rfl) hf rfl) hf rfl), hs⟩
          · have hm1277 := bif_f hm1277 hb1279
            refine wpL_exit (Ql_exit (Qb_exit ?_))
            exact ⟨xs978, A979, n980, c981, Option.some.inj hm1277, hn982, (FrD.pick hf.none hf rfl), hs.sel [1] (by decide)⟩
      · rintro a w ⟨xs1270, A1271, n1272, c1273, hr_, hn1274, hf, hs⟩
        subst hr_
        try dsimp only at hm
        refine wpL_seq ?_
        refine wpL_region ?_
        refine sY hf hs rfl rfl rfl (Y_move rfl rfl) ?_; clear hf; intro a hf
        refine sY hf hs rfl rfl rfl (Y_assign rfl rfl) ?_; clear hf; intro a hf
        refine wpO_nil ?_
        obtain rfl := Option.some.inj hm
        refine wpL_ret (ret_tmp rfl hf rfl ?_)
        exact ⟨_, rfl, A1271, n1272, c1273, rfl, hn1274, hs⟩

set_option maxRecDepth 100000 in
theorem impl_FindSqueeze_ok (F : Nat) (p0 : List GWindow) (A_p0_1 : Option Addr) (n_p0_1 c_p0_1 : Nat) (hn_p0_1 : n_p0_1 = p0.length) (p1 : List GBond) (A_p1_1 : Option Addr) (n_p1_1 c_p1_1 : Nat) (hn_p1_1 : n_p1_1 = p1.length) (r : List Int × Int) (W : World) (hm : impl_FindSqueeze F p0 p1 = some r) (h_p0_1 : Rd W A_p0_1 ((recs GWindow.cells) p0)) (h_p1_1 : Rd W A_p1_1 ((recs GBond.cells) p1)) :
    Calls Try.prog 26 [.slice A_p0_1 n_p0_1 c_p0_1, .slice A_p1_1 n_p1_1 c_p1_1].toArray W fun e w' => ∃ v, e = .returned v ∧ ∃ A772, ∃ n773, ∃ c774, v = .tuple #[.slice A772 n773 c774, .int .i64 r.2] ∧ n773 = r.1.length ∧ St [] W w' [.row A772 n773 c774 2 1 (ints r.1)] := by
  subst hn_p0_1
  subst hn_p1_1
  unfold impl_FindSqueeze at hm
  refine Calls.enter (N := 71) Try.func26 rfl rfl rfl (fun a hf => ?_)
  have hs := St.start W
  obtain ⟨w, hw_⟩ : ∃ w, w = W := ⟨W, rfl⟩
  clear hw_ w
  refine wpL_seq ?_
  refine wpL_region ?_
  refine sY hf hs rfl rfl rfl (Y_assign rfl rfl) ?_; clear hf; intro a hf
  refine sY hf hs rfl rfl rfl (Y_assign rfl rfl) ?_; clear hf; intro a hf
  refine wpO_nil ?_
  refine wpL_seq ?_
  refine wpL_seq ?_
  refine wpL_region ?_
  refine sY hf hs rfl rfl rfl (Y_move rfl rfl) ?_; clear hf; intro a hf
  refine sY hf hs rfl rfl rfl (Y_move rfl rfl) ?_; clear hf; intro a hf
  obtain ⟨r1, hc2, hm⟩ := bind_some hm
  refine sCall hf rfl rfl rfl rfl (cap := []) rfl rfl en69 (impl_IsTask_ok F p0 A_p0_1 p0.length c_p0_1 rfl p1 A_p1_1 p1.length c_p1_1 rfl _ _ hc2 (h_p0_1.at hs) (h_p1_1.at hs)) ?_; clear hf
  rintro _ w ⟨rfl, hs1⟩ a hf
  have hs : St [] W w [] := hs.ext hs1.below
  clear hs1
  refine sY hf hs rfl rfl rfl (Y_not rfl rfl) ?_; clear hf; intro a hf
  refine wpO_nil ?_
  refine wpL_cond hf rfl (fun hb3 => ?_) (fun hb3 => ?_)
  · have hm := bif_t hm hb3
    refine wpL_seq ?_
    refine wpL_region ?_
    refine sY hf hs rfl rfl rfl (Y_assign rfl rfl) ?_; clear hf; intro a hf
    refine sY hf hs rfl rfl rfl (Y_assign rfl rfl) ?_; clear hf; intro a hf
    refine wpO_nil ?_
    have hs : St [] W _ [.row none 0 0 2 1 (ints ([] : List Int))] := hs.addNil 2 1
    obtain rfl := Option.some.inj hm
    refine wpL_ret (ret_tmp2 rfl hf rfl rfl ?_)
    exact ⟨_, rfl, none, 0, 0, rfl, rfl, hs⟩
  · have hm := bif_f hm hb3
    refine wpL_skip ?_
    refine wpL_seq ?_
    refine wpL_region ?_
    refine sY hf hs rfl rfl rfl (Y_move rfl rfl) ?_; clear hf; intro a hf
    refine sY hf hs rfl rfl rfl (Y_move rfl rfl) ?_; clear hf; intro a hf
    obtain ⟨r5, hc6, hm⟩ := bind_some hm
    refine sCall hf rfl rfl rfl rfl (cap := []) rfl rfl en70 (impl_bondMatrix_ok F p0 A_p0_1 p0.length c_p0_1 rfl p1 A_p1_1 p1.length c_p1_1 rfl _ _ hc6 (h_p0_1.at hs) (h_p1_1.at hs)) ?_; clear hf
    rintro _ w ⟨A7, n8, c9, vs11, rfl, hn10, hs1⟩ a hf
    have hs : St [] W w [.mat A7 n8 c9 23 2 vs11 r5] := hs.join hs1
    clear hs1
    refine sY hf hs rfl rfl rfl (Y_assign rfl rfl) ?_; clear hf; intro a hf
    refine wpO_nil ?_
    refine wpL_seq ?_
    refine wpL_region ?_
    refine sY hf hs rfl rfl rfl (Y_move rfl rfl) ?_; clear hf; intro a hf
    obtain ⟨r12, hc13, hm⟩ := bind_some hm
    refine sCall hf rfl rfl rfl rfl (cap := []) rfl rfl en71 (impl_starOf_ok F r5 A7 n8 c9 hn10 _ _ hc13 (hs.rdM (i := 0) rfl)) ?_; clear hf
    rintro _ w ⟨A14, n15, c16, vs18, rfl, hn17, hs1⟩ a hf
    have hs : St [] W w [.mat A7 n8 c9 23 2 vs11 r5, .mat A14 n15 c16 23 2 vs18 r12.1] := hs.join hs1
    clear hs1
    refine sY hf hs rfl rfl rfl (Y_move rfl rfl) ?_; clear hf; intro a hf
    refine sY hf hs rfl rfl rfl (Y_extract rfl rfl rfl) ?_; clear hf; intro a hf
    refine sY hf hs rfl rfl rfl (Y_extract rfl rfl rfl) ?_; clear hf; intro a hf
    refine sY hf hs rfl rfl rfl (Y_assign rfl rfl) ?_; clear hf; intro a hf
    refine sY hf hs rfl rfl rfl (Y_assign rfl rfl) ?_; clear hf; intro a hf
    refine wpO_nil ?_
    refine wpL_seq ?_
    refine wpL_seq ?_
    refine wpL_region ?_
    refine sY hf hs rfl rfl rfl (Y_move rfl rfl) ?_; clear hf; intro a hf
    refine sY hf hs rfl rfl rfl (Y_not rfl rfl) ?_; clear hf; intro a hf
    refine wpO_nil ?_
    refine wpL_cond hf rfl (fun hb19 => ?_) (fun hb19 => ?_)
    · have hm := bif_t hm hb19
      refine wpL_seq ?_
      refine wpL_region ?_
      refine sY hf hs rfl rfl rfl (Y_assign rfl rfl) ?_; clear hf; intro a hf
      refine sY hf hs rfl rfl rfl (Y_assign rfl rfl) ?_; clear hf; intro a hf
      refine wpO_nil ?_
      have hs : St [] W _ [.mat A7 n8 c9 23 2 vs11 r5, .mat A14 n15 c16 23 2 vs18 r12.1, .row none 0 0 2 1 (ints ([] : List Int))] := hs.addNil 2 1
      obtain rfl := Option.some.inj hm
      refine wpL_ret (ret_tmp2 rfl hf rfl rfl ?_)
      exact ⟨_, rfl, none, 0, 0, rfl, rfl, hs.sel [2] (by decide)⟩
    · have hm := bif_f hm hb19
      refine wpL_skip ?_
      refine wpL_seq ?_
      refine wpL_seq ?_
      refine wpL_region ?_
      refine sY hf hs rfl rfl rfl (Y_move rfl rfl) ?_; clear hf; intro a hf
      refine sY hf hs rfl rfl rfl (Y_lenH rfl rfl el39 rfl) ?_; clear hf; intro a hf
      refine sY hf hs rfl rfl rfl (Y_move rfl rfl) ?_; clear hf; intro a hf
      refine wpO_nil ?_
      obtain ⟨r581, hl582, hm⟩ := bind_some hm
      refine wpL_block (fun a w => Sum.inr () = r581 ∧ Fr a 71 [] ∧ St [] W w []) ?_ ?_
      · refine wpL_loop (fun n a w => ∃ x394 : Int, impl_FindSqueeze_L4 F p0 r5 r12 n x394 = some r581 ∧ Fr a 71 [(0, .slice A_p0_1 p0.length c_p0_1), (6, .slice A7 n8 c9), (7, .slice A14 n15 c16), (27, .slice A_p0_1 p0.length c_p0_1), (28, .int .i64 (p0.length : Int)), (29, .int .i64 x394)] ∧ St [] W w [.mat A7 n8 c9 23 2 vs11 r5, .mat A14 n15 c16 23 2 vs18 r12.1]) F ?_ ?_ ?_
        · exact ⟨0, hl582, (FrD.pick (FrD.pick (FrD.pick (FrD.pick (FrD.pick (FrD.pick hf.none hf rfl) hf rfl) hf rfl) hf rfl) hf rfl) hf rfl), hs⟩
        · rintro a w ⟨x394, h0_, -, -⟩; simp [impl_FindSqueeze_L4] at h0_
        · rintro n584 a w ⟨x394, hm583, hf, hs⟩
          rw [impl_FindSqueeze_L4] at hm583
          refine wpL_seq ?_
          refine wpL_region ?_
          refine sY hf hs rfl rfl rfl (Y_lss rfl rfl rfl) ?_; clear hf; intro a hf
          refine wpO_nil ?_
          refine wpL_seq ?_
          refine wpL_cond hf rfl (fun hb585 => ?_) (fun hb585 => ?_)
          · have hm583 := bif_t hm583 hb585
            refine wpL_skip ?_
            refine wpL_seq ?_
            refine wpL_block0 ?_
            refine wpL_seq ?_
            refine wpL_region ?_
            refine sY hf hs rfl rfl rfl (Y_move rfl rfl) ?_; clear hf; intro a hf
            obtain ⟨q586, hi587, hm583⟩ := bind_some hm583
            obtain ⟨hi587a, hi587b, hi587q⟩ := idx_some hi587
            refine sY hf hs rfl rfl rfl (Y_index rfl rfl rfl el39 ti86 (Rd.isAt (h_p0_1.at hs) (recs_at (s := 2) GWindow.len hi587q (j := 0) rfl)) hi587a hi587b) ?_; clear hf; intro a hf
            refine sY hf hs rfl rfl rfl (Y_load_rdS rfl rfl (us := [.int .i64 q586.Low, .int .i64 q586.High]) (fun w hs => h_p0_1.at hs) (fun j u hj => recs_at (s := 2) GWindow.len hi587q hj) (Nat.succ_pos _) ag86 ti86 rfl) ?_; clear hf; intro a hf
            refine sAlloc hf hs rfl rfl rfl rfl ti86 ?_; clear hf hs; intro a w b588 hs hf
            have hs : St [] W w [.mat A7 n8 c9 23 2 vs11 r5, .mat A14 n15 c16 23 2 vs18 r12.1, .blk b588 86 [.int .i64 0, .int .i64 0]] := hs
            refine sY hf hs rfl rfl rfl (Y_assign rfl rfl) ?_; clear hf; intro a hf
            refine sStore (i := 2) (us := [.int .i64 q586.Low, .int .i64 q586.High]) hf hs rfl rfl rfl rfl rfl rfl ti86 rfl rfl rfl (Nat.le_of_ble_eq_true rfl) rfl ?_; clear hs; intro w hs
            have hs : St [] W w [.mat A7 n8 c9 23 2 vs11 r5, .mat A14 n15 c16 23 2 vs18 r12.1, .blk b588 86 [.int .i64 q586.Low, .int .i64 q586.High]] := hs
            refine wpO_nil ?_
            refine wpL_seq ?_
            refine wpL_region ?_
            refine sY hf hs rfl rfl rfl (Y_move rfl rfl) ?_; clear hf; intro a hf
            refine sY hf hs rfl rfl rfl (Y_lenH rfl rfl el39 rfl) ?_; clear hf; intro a hf
            refine sY hf hs rfl rfl rfl (Y_move rfl rfl) ?_; clear hf; intro a hf
            refine wpO_nil ?_
            obtain ⟨r723, hl724, hm583⟩ := bind_some hm583
            refine wpL_block (fun a w => Sum.inr () = r723 ∧ Fr a 71 [(0, .slice A_p0_1 p0.length c_p0_1), (6, .slice A7 n8 c9), (7, .slice A14 n15 c16), (27, .slice A_p0_1 p0.length c_p0_1), (28, .int .i64 (p0.length : Int)), (29, .int .i64 x394)] ∧ St [] W w [.mat A7 n8 c9 23 2 vs11 r5, .mat A14 n15 c16 23 2 vs18 r12.1]) ?_ ?_
            · refine wpL_loop (fun n a w => ∃ x678 : Int, impl_FindSqueeze_L5 F p0 r5 r12 x394 q586 n x678 = some r723 ∧ Fr a 71 [(0, .slice A_p0_1 p0.length c_p0_1), (6, .slice A7 n8 c9), (7, .slice A14 n15 c16), (9, .int .i64 x394), (10, .pointer (some ⟨b588, 0, none⟩)), (27, .slice A_p0_1 p0.length c_p0_1), (28, .int .i64 (p0.length : Int)), (29, .int .i64 x394), (34, .slice A_p0_1 p0.length c_p0_1), (35, .int .i64 (p0.length : Int)), (36, .int .i64 x678)] ∧ St [] W w [.mat A7 n8 c9 23 2 vs11 r5, .mat A14 n15 c16 23 2 vs18 r12.1, .blk b588 86 [.int .i64 q586.Low, .int .i64 q586.High]]) F ?_ ?_ ?_
              · exact ⟨0, hl724, (FrD.pick (FrD.pick (FrD.pick (FrD.pick (FrD.pick (FrD.pick (FrD.pick (FrD.pick (FrD.pick (FrD.pick (FrD.pick hf.none hf rfl) hf rfl) hf rfl) hf rfl) hf rfl) hf rfl) hf rfl) hf rfl) hf rfl) hf rfl) hf rfl), hs⟩
              · rintro a w ⟨x678, h0_, -, -⟩; simp [impl_FindSqueeze_L5] at h0_
              · rintro n726 a w ⟨x678, hm725, hf, hs⟩
                rw [impl_FindSqueeze_L5] at hm725
                refine wpL_seq ?_
                refine wpL_region ?_
                refine sY hf hs rfl rfl rfl (Y_lss rfl rfl rfl) ?_; clear hf; intro a hf
                refine wpO_nil ?_
                refine wpL_seq ?_
                refine wpL_cond hf rfl (fun hb727 => ?_) (fun hb727 => ?_)
                · have hm725 := bif_t hm725 hb727
                  refine wpL_skip ?_
                  refine wpL_seq ?_
                  refine wpL_block0 ?_
                  refine wpL_seq ?_
                  refine wpL_region ?_
                  refine sY hf hs rfl rfl rfl (Y_move rfl rfl) ?_; clear hf; intro a hf
                  obtain ⟨q728, hi729, hm725⟩ := bind_some hm725
                  obtain ⟨hi729a, hi729b, hi729q⟩ := idx_some hi729
                  refine sY hf hs rfl rfl rfl (Y_index rfl rfl rfl el39 ti86 (Rd.isAt (h_p0_1.at hs) (recs_at (s := 2) GWindow.len hi729q (j := 0) rfl)) hi729a hi729b) ?_; clear hf; intro a hf
                  refine sY hf hs rfl rfl rfl (Y_load_rdS rfl rfl (us := [.int .i64 q728.Low, .int .i64 q728.High]) (fun w hs => h_p0_1.at hs) (fun j u hj => recs_at (s := 2) GWindow.len hi729q hj) (Nat.succ_pos _) ag86 ti86 rfl) ?_; clear hf; intro a hf
                  refine sAlloc hf hs rfl rfl rfl rfl ti86 ?_; clear hf hs; intro a w b730 hs hf
                  have hs : St [] W w [.mat A7 n8 c9 23 2 vs11 r5, .mat A14 n15 c16 23 2 vs18 r12.1, .blk b588 86 [.int .i64 q586.Low, .int .i64 q586.High], .blk b730 86 [.int .i64 0, .int .i64 0]] := hs
                  refine sY hf hs rfl rfl rfl (Y_assign rfl rfl) ?_; clear hf; intro a hf
                  refine sStore (i := 3) (us := [.int .i64 q728.Low, .int .i64 q728.High]) hf hs rfl rfl rfl rfl rfl rfl ti86 rfl rfl rfl (Nat.le_of_ble_eq_true rfl) rfl ?_; clear hs; intro w hs
                  have hs : St [] W w [.mat A7 n8 c9 23 2 vs11 r5, .mat A14 n15 c16 23 2 vs18 r12.1, .blk b588 86 [.int .i64 q586.Low, .int .i64 q586.High], .blk b730 86 [.int .i64 q728.Low, .int .i64 q728.High]] := hs
                  refine wpO_nil ?_
                  refine wpL_seq ?_
                  obtain ⟨r747, hj748, hm725⟩ := bind_some hm725
                  refine wpL_cut (fun a w => ∃ b746 : Bool, b746 = r747 ∧ Fr a 71 [(0, .slice A_p0_1 p0.length c_p0_1), (6, .slice A7 n8 c9), (7, .slice A14 n15 c16), (9, .int .i64 x394), (10, .pointer (some ⟨b588, 0, none⟩)), (11, .int .i64 x678), (27, .slice A_p0_1 p0.length c_p0_1), (28, .int .i64 (p0.length : Int)), (29, .int .i64 x394), (34, .slice A_p0_1 p0.length c_p0_1), (35, .int .i64 (p0.length : Int)), (36, .int .i64 x678), (63, .bool b746)] ∧ St [] W w [.mat A7 n8 c9 23 2 vs11 r5, .mat A14 n15 c16 23 2 vs18 r12.1, .blk b588 86 [.int .i64 q586.Low, .int .i64 q586.High]]) ?_ ?_
                  · refine wpL_draw (by kernel_rfl) (by kernel_rfl) hs ?_
                    refine qY hf rfl rfl rfl (Y_move rfl rfl) ?_; clear hf; intro a hf
                    refine qY hf rfl rfl rfl (Y_move rfl rfl) ?_; clear hf; intro a hf
                    obtain ⟨q749, hi750, hj748⟩ := bind_some hj748
                    obtain ⟨hi750a, hi750b, hi750q⟩ := idx_some hi750
                    obtain ⟨A751, c752, hv753⟩ := hs.matRow (i := 1) rfl hi750q
                    refine qY hf rfl rfl rfl (Y_index rfl rfl rfl el59 ti23 (Rd.isAt (hs.rdV (i := 1) rfl) hv753) hi750a (ltn hn17 hi750b)) ?_; clear hf; intro a hf
                    refine qY hf rfl rfl rfl (Y_load_rd rfl rfl (fun w hs => hs.rdV (i := 1) rfl) (at1 hv753) ag23) ?_; clear hf; intro a hf
                    refine qY hf rfl rfl rfl (Y_move rfl rfl) ?_; clear hf; intro a hf
                    obtain ⟨q754, hi755, hj748⟩ := bind_some hj748
                    obtain ⟨hi755a, hi755b, hi755q⟩ := idx_some hi755
                    refine qY hf rfl rfl rfl (Y_index rfl rfl rfl el23 ti2 (Rd.isAt (hs.rdRow (i := 1) rfl ⟨hi750q, hv753⟩) (at1 (ints_at hi755q))) hi755a hi755b) ?_; clear hf; intro a hf
                    refine qY hf rfl rfl rfl (Y_load_rd rfl rfl (fun w hs => hs.rdRow (i := 1) rfl ⟨hi750q, hv753⟩) (at1 (ints_at hi755q)) ag2) ?_; clear hf; intro a hf
                    refine qY hf rfl rfl rfl (Y_neq rfl rfl rfl) ?_; clear hf; intro a hf
                    refine qY hf rfl rfl rfl (Y_move rfl rfl) ?_; clear hf; intro a hf
                    refine bsplit (q754 != (-1000000000000000)) (fun hb756 => ?_) (fun hb756 => ?_)
                    · have hj748 := bif_t hj748 hb756
                      refine qYg hf rfl rfl rfl (congrArg (fun b => some (Value.bool b)) hb756) rfl rfl rfl (Y_fieldAddr rfl rfl fo86_0) ?_; clear hf; intro a hf
                      refine qYg hf rfl rfl rfl (congrArg (fun b => some (Value.bool b)) hb756) rfl rfl rfl (Y_load_blk rfl rfl (i := 2) rfl rfl ag2) ?_; clear hf; intro a hf
                      refine qYg hf rfl rfl rfl (congrArg (fun b => some (Value.bool b)) hb756) rfl rfl rfl (Y_move rfl rfl) ?_; clear hf; intro a hf
                      refine qYg hf rfl rfl rfl (congrArg (fun b => some (Value.bool b)) hb756) rfl rfl rfl (Y_move rfl rfl) ?_; clear hf; intro a hf
                      obtain ⟨q757, hi758, hj748⟩ := bind_some hj748
                      obtain ⟨hi758a, hi758b, hi758q⟩ := idx_some hi758
                      obtain ⟨A759, c760, hv761⟩ := hs.matRow (i := 1) rfl hi758q
                      refine qYg hf rfl rfl rfl (congrArg (fun b => some (Value.bool b)) hb756) rfl rfl rfl (Y_index rfl rfl rfl el59 ti23 (Rd.isAt (hs.rdV (i := 1) rfl) hv761) hi758a (ltn hn17 hi758b)) ?_; clear hf; intro a hf
                      refine qYg hf rfl rfl rfl (congrArg (fun b => some (Value.bool b)) hb756) rfl rfl rfl (Y_load_rd rfl rfl (fun w hs => hs.rdV (i := 1) rfl) (at1 hv761) ag23) ?_; clear hf; intro a hf
                      refine qYg hf rfl rfl rfl (congrArg (fun b => some (Value.bool b)) hb756) rfl rfl rfl (Y_move rfl rfl) ?_; clear hf; intro a hf
                      obtain ⟨q762, hi763, hj748⟩ := bind_some hj748
                      obtain ⟨hi763a, hi763b, hi763q⟩ := idx_some hi763
                      refine qYg hf rfl rfl rfl (congrArg (fun b => some (Value.bool b)) hb756) rfl rfl rfl (Y_index rfl rfl rfl el23 ti2 (Rd.isAt (hs.rdRow (i := 1) rfl ⟨hi758q, hv761⟩) (at1 (ints_at hi763q))) hi763a hi763b) ?_; clear hf; intro a hf
                      refine qYg hf rfl rfl rfl (congrArg (fun b => some (Value.bool b)) hb756) rfl rfl rfl (Y_load_rd rfl rfl (fun w hs => hs.rdRow (i := 1) rfl ⟨hi758q, hv761⟩) (at1 (ints_at hi763q)) ag2) ?_; clear hf; intro a hf
                      refine qYg hf rfl rfl rfl (congrArg (fun b => some (Value.bool b)) hb756) rfl rfl rfl (Y_add rfl rfl rfl) ?_; clear hf; intro a hf
                      refine qYg hf rfl rfl rfl (congrArg (fun b => some (Value.bool b)) hb756) rfl rfl rfl (Y_fieldAddr rfl rfl fo86_1) ?_; clear hf; intro a hf
                      refine qYg hf rfl rfl rfl (congrArg (fun b => some (Value.bool b)) hb756) rfl rfl rfl (Y_load_blk rfl rfl (i := 3) rfl rfl ag2) ?_; clear hf; intro a hf
                      refine qYg hf rfl rfl rfl (congrArg (fun b => some (Value.bool b)) hb756) rfl rfl rfl (Y_gtr rfl rfl rfl) ?_; clear hf; intro a hf
                      refine qY hf rfl rfl rfl (Y_pickT rfl (congrArg (fun b => some (Value.bool b)) hb756) rfl) ?_; clear hf; intro a hf
                      refine qNil ?_; clear hs; intro w hs
                      refine wpL_nil (then_normal ?_)
                      exact ⟨(decide (q728.High < (IntKind.i64.wrap (q586.Low + q762)))), Option.some.inj hj748, (FrD.pick (FrD.pick (FrD.pick (FrD.pick (FrD.pick (FrD.pick (FrD.pick (FrD.pick (FrD.pick (FrD.pick (FrD.pick (FrD.pick (FrD.pick hf.none hf rfl) hf rfl) hf rfl) hf rfl) hf rfl) hf rfl) hf rfl) hf rfl) hf rfl) hf rfl) hf rfl) hf rfl) hf rfl), hs.sel [0, 1, 2] (by decide)⟩
                    · have hj748 := bif_f hj748 hb756
                      refine qNo hf rfl rfl rfl (congrArg (fun b => some (Value.bool b)) hb756) rfl rfl rfl ?_; clear hf; intro a hf
                      refine qNo hf rfl rfl rfl (congrArg (fun b => some (Value.bool b)) hb756) rfl rfl rfl ?_; clear hf; intro a hf
                      refine qNo hf rfl rfl rfl (congrArg (fun b => some (Value.bool b)) hb756) rfl rfl rfl ?_; clear hf; intro a hf
                      refine qNo hf rfl rfl rfl (congrArg (fun b => some (Value.bool b)) hb756) rfl rfl rfl ?_; clear hf; intro a hf
                      refine qNo hf rfl rfl rfl (congrArg (fun b => some (Value.bool b)) hb756) rfl rfl rfl ?_; clear hf; intro a hf
                      refine qNo hf rfl rfl rfl (congrArg (fun b => some (Value.bool b)) hb756) rfl rfl rfl ?_; clear hf; intro a hf
                      refine qNo hf rfl rfl rfl (congrArg (fun b => some (Value.bool b)) hb756) rfl rfl rfl ?_; clear hf; intro a hf
                      refine qNo hf rfl rfl rfl (congrArg (fun b => some (Value.bool b)) hb756) rfl rfl rfl ?_; clear hf; intro a hf
                      refine qNo hf rfl rfl rfl (congrArg (fun b => some (Value.bool b)) hb756) rfl rfl rfl ?_; clear hf; intro a hf
                      refine qNo hf rfl rfl rfl (congrArg (fun b => some (Value.bool b)) hb756) rfl rfl rfl ?_; clear hf; intro a hf
                      refine qNo hf rfl rfl rfl (congrArg (fun b => some (Value.bool b)) hb756) rfl rfl rfl ?_; clear hf; intro a hf
                      refine qNo hf rfl rfl rfl (congrArg (fun b => some (Value.bool b)) hb756) rfl rfl rfl ?_; clear hf; intro a hf
                      refine qNo hf rfl rfl rfl (congrArg (fun b => some (Value.bool b)) hb756) rfl rfl rfl ?_; clear hf; intro a hf
                      refine qY hf rfl rfl rfl (Y_pickF rfl (congrArg (fun b => some (Value.bool b)) hb756) rfl) ?_; clear hf; intro a hf
                      refine qNil ?_; clear hs; intro w hs
                      refine wpL_nil (then_normal ?_)
                      exact ⟨false, Option.some.inj hj748, (FrD.pick (FrD.pick (FrD.pick (FrD.pick (FrD.pick (FrD.pick (FrD.pick (FrD.pick (FrD.pick (FrD.pick (FrD.pick (FrD.pick (FrD.pick hf.none hf rfl) hf rfl) hf rfl) hf rfl) hf rfl) hf rfl) hf rfl) hf rfl) hf rfl) hf rfl) hf rfl) hf rfl) hf rfl), hs.sel [0, 1, 2] (by decide)⟩
                  · rintro a w ⟨b746, hr_, hf, hs⟩
                    subst hr_
                    try dsimp only at hm725
                    refine wpL_cond hf rfl (fun hb764 => ?_) (fun hb764 => ?_)
                    · have hm725 := bif_t hm725 hb764
                      refine wpL_seq ?_
                      refine wpL_region ?_
                      refine sY hf hs rfl rfl rfl (Y_move rfl rfl) ?_; clear hf; intro a hf
                      refine sY hf hs rfl rfl rfl (Y_move rfl rfl) ?_; clear hf; intro a hf
                      refine sY hf hs rfl rfl rfl (Y_move rfl rfl) ?_; clear hf; intro a hf
                      refine sY hf hs rfl rfl rfl (Y_move rfl rfl) ?_; clear hf; intro a hf
                      obtain ⟨r765, hc766, hm725⟩ := bind_some hm725
                      refine sCall hf rfl rfl rfl rfl (cap := []) rfl rfl en72 (impl_heaviestPath_ok F r5 A7 n8 c9 hn10 r12.1 A14 n15 c16 hn17 x394 x678 _ _ hc766 (hs.rdM (i := 0) rfl) (hs.rdM (i := 1) rfl)) ?_; clear hf
                      rintro _ w ⟨A767, n768, c769, rfl, hn770, hs1⟩ a hf
                      have hs : St [] W w [.mat A7 n8 c9 23 2 vs11 r5, .mat A14 n15 c16 23 2 vs18 r12.1, .blk b588 86 [.int .i64 q586.Low, .int .i64 q586.High], .row A767 n768 c769 2 1 (ints r765)] := hs.join hs1
                      clear hs1
                      refine sY hf hs rfl rfl rfl (Y_assign rfl rfl) ?_; clear hf; intro a hf
                      refine sY hf hs rfl rfl rfl (Y_assign rfl rfl) ?_; clear hf; intro a hf
                      refine wpO_nil ?_
                      obtain rfl := Option.some.inj hm725
                      try dsimp only at hm583
                      obtain rfl := Option.some.inj hm583
                      try dsimp only at hm
                      obtain rfl := Option.some.inj hm
                      refine wpL_ret (Qb_ret (Ql_ret (Qb_ret (Qb_ret (Ql_ret (Qb_ret (ret_tmp2 rfl hf rfl rfl ?_)))))))
                      exact ⟨_, rfl, A767, n768, c769, rfl, hn770, hs.sel [3] (by decide)⟩
                    · have hm725 := bif_f hm725 hb764
                      refine wpL_skip ?_
                      refine wpL_nil (Qb_normal ?_)
                      refine wpL_region ?_
                      refine sY hf hs rfl rfl rfl (Y_add rfl rfl rfl) ?_; clear hf; intro a hf
                      refine sY hf hs rfl rfl rfl (Y_move rfl rfl) ?_; clear hf; intro a hf
                      refine wpO_nil ?_
                      refine wpL_nil (Ql_normal ?_)
                      exact ⟨(IntKind.i64.wrap (x678 + 1)), hm725, (FrD.pick (FrD.pick (FrD.pick (FrD.pick (FrD.pick (FrD.pick (FrD.pick (FrD.pick (FrD.pick (FrD.pick (FrD.pick hf.none hf rfl) hf rfl) hf rfl) hf rfl) hf rfl) hf rfl) hf rfl) hf rfl) hf rfl) hf rfl) hf rfl), hs⟩
                · have hm725 := bif_f hm725 hb727
                  refine wpL_exit (Ql_exit (Qb_exit ?_))
                  exact ⟨Option.some.inj hm725, (FrD.pick (FrD.pick (FrD.pick (FrD.pick (FrD.pick (FrD.pick hf.none hf rfl) hf rfl) hf rfl) hf rfl) hf rfl) hf rfl), hs.sel [0, 1] (by decide)⟩
            · rintro a w ⟨hr_, hf, hs⟩
              subst hr_
              try dsimp only at hm583
              refine wpL_nil (Qb_normal ?_)
              refine wpL_region ?_
              refine sY hf hs rfl rfl rfl (Y_add rfl rfl rfl) ?_; clear hf; intro a hf
              refine sY hf hs rfl rfl rfl (Y_move rfl rfl) ?_; clear hf; intro a hf
              refine wpO_nil ?_
              refine wpL_nil (Ql_normal ?_)
              exact ⟨(IntKind.i64.wrap (x394 + 1)), hm583, (FrD.pick (FrD.pick (FrD.pick (FrD.pick (FrD.pick (FrD.pick hf.none hf rfl) hf rfl) hf rfl) hf rfl) hf rfl) hf rfl), hs⟩
          · have hm583 := bif_f hm583 hb585
            refine wpL_exit (Ql_exit (Qb_exit ?_))
            exact ⟨Option.some.inj hm583, hf.none, hs.sel [] (by decide)⟩
      · rintro a w ⟨hr_, hf, hs⟩
        subst hr_
        try dsimp only at hm
        refine wpL_seq ?_
        refine wpL_region ?_
        refine sY hf hs rfl rfl rfl (Y_assign rfl rfl) ?_; clear hf; intro a hf
        refine sY hf hs rfl rfl rfl (Y_assign rfl rfl) ?_; clear hf; intro a hf
        refine wpO_nil ?_
        have hs : St [] W _ [.row none 0 0 2 1 (ints ([] : List Int))] := hs.addNil 2 1
        obtain rfl := Option.some.inj hm
        refine wpL_ret (ret_tmp2 rfl hf rfl rfl ?_)
        exact ⟨_, rfl, none, 0, 0, rfl, rfl, hs⟩

set_option maxRecDepth 100000 in
theorem laws_eqInt64S_ok (F : Nat) (p0_a : List Int) (A_p0_a_1 : Option Addr) (n_p0_a_1 c_p0_a_1 : Nat) (hn_p0_a_1 : n_p0_a_1 = p0_a.length) (p1_b : List Int) (A_p1_b_1 : Option Addr) (n_p1_b_1 c_p1_b_1 : Nat) (hn_p1_b_1 : n_p1_b_1 = p1_b.length) (r : Bool) (W : World) (hm : laws_eqInt64S F p0_a p1_b = some r) (h_p0_a_1 : Rd W A_p0_a_1 (ints p0_a)) (h_p1_b_1 : Rd W A_p1_b_1 (ints p1_b)) :
    Calls Try.prog 14 [.slice A_p0_a_1 n_p0_a_1 c_p0_a_1, .slice A_p1_b_1 n_p1_b_1 c_p1_b_1].toArray W fun e w' => ∃ v, e = .returned v ∧ v = .bool r ∧ St [] W w' [] := by
  subst hn_p0_a_1
  subst hn_p1_b_1
  unfold laws_eqInt64S at hm
  refine Calls.enter (N := 26) Try.func14 rfl rfl rfl (fun a hf => ?_)
  have hs := St.start W
  obtain ⟨w, hw_⟩ : ∃ w, w = W := ⟨W, rfl⟩
  clear hw_ w
  refine wpL_seq ?_
  refine wpL_region ?_
  refine sY hf hs rfl rfl rfl (Y_assign rfl rfl) ?_; clear hf; intro a hf
  refine wpO_nil ?_
  refine wpL_seq ?_
  refine wpL_seq ?_
  refine wpL_region ?_
  refine sY hf hs rfl rfl rfl (Y_move rfl rfl) ?_; clear hf; intro a hf
  refine sY hf hs rfl rfl rfl (Y_lenH rfl rfl el23 rfl) ?_; clear hf; intro a hf
  refine sY hf hs rfl rfl rfl (Y_move rfl rfl) ?_; clear hf; intro a hf
  refine sY hf hs rfl rfl rfl (Y_lenH rfl rfl el23 rfl) ?_; clear hf; intro a hf
  refine sY hf hs rfl rfl rfl (Y_neq rfl rfl rfl) ?_; clear hf; intro a hf
  refine wpO_nil ?_
  refine wpL_cond hf rfl (fun hb1 => ?_) (fun hb1 => ?_)
  · have hm := bif_t hm hb1
    refine wpL_seq ?_
    refine wpL_region ?_
    refine sY hf hs rfl rfl rfl (Y_assign rfl rfl) ?_; clear hf; intro a hf
    refine wpO_nil ?_
    obtain rfl := Option.some.inj hm
    refine wpL_ret (ret_tmp rfl hf rfl ?_)
    exact ⟨_, rfl, rfl, hs⟩
  · have hm := bif_f hm hb1
    refine wpL_skip ?_
    refine wpL_seq ?_
    refine wpL_seq ?_
    refine wpL_region ?_
    refine sY hf hs rfl rfl rfl (Y_assign rfl rfl) ?_; clear hf; intro a hf
    refine wpO_nil ?_
    obtain ⟨r22, hl23, hm⟩ := bind_some hm
    refine wpL_block (fun a w => Sum.inr () = r22 ∧ Fr a 26 [] ∧ St [] W w []) ?_ ?_
    · refine wpL_loop (fun n a w => ∃ x15 : Int, laws_eqInt64S_L1 F p0_a p1_b n x15 = some r22 ∧ Fr a 26 [(0, .slice A_p0_a_1 p0_a.length c_p0_a_1), (1, .slice A_p1_b_1 p1_b.length c_p1_b_1), (5, .int .i64 x15)] ∧ St [] W w []) F ?_ ?_ ?_
      · exact ⟨0, hl23, (FrD.pick (FrD.pick (FrD.pick hf.none hf rfl) hf rfl) hf rfl), hs⟩
      · rintro a w ⟨x15, h0_, -, -⟩; simp [laws_eqInt64S_L1] at h0_
      · rintro n25 a w ⟨x15, hm24, hf, hs⟩
        rw [laws_eqInt64S_L1] at hm24
        refine wpL_seq ?_
        refine wpL_seq ?_
        refine wpL_region ?_
        refine sY hf hs rfl rfl rfl (Y_move rfl rfl) ?_; clear hf; intro a hf
        refine sY hf hs rfl rfl rfl (Y_move rfl rfl) ?_; clear hf; intro a hf
        refine sY hf hs rfl rfl rfl (Y_lenH rfl rfl el23 rfl) ?_; clear hf; intro a hf
        refine sY hf hs rfl rfl rfl (Y_lss rfl rfl rfl) ?_; clear hf; intro a hf
        refine wpO_nil ?_
        refine wpL_cond hf rfl (fun hb26 => ?_) (fun hb26 => ?_)
        · have hm24 := bif_t hm24 hb26
          refine wpL_skip ?_
          refine wpL_seq ?_
          refine wpL_block0 ?_
          refine wpL_seq ?_
          refine wpL_draw (by kernel_rfl) (by kernel_rfl) hs ?_
          refine qY hf rfl rfl rfl (Y_move rfl rfl) ?_; clear hf; intro a hf
          refine qY hf rfl rfl rfl (Y_move rfl rfl) ?_; clear hf; intro a hf
          obtain ⟨q27, hi28, hm24⟩ := bind_some hm24
          obtain ⟨hi28a, hi28b, hi28q⟩ := idx_some hi28
          refine qY hf rfl rfl rfl (Y_index rfl rfl rfl el23 ti2 (Rd.isAt (h_p0_a_1.at hs) (at1 (ints_at hi28q))) hi28a hi28b) ?_; clear hf; intro a hf
          refine qY hf rfl rfl rfl (Y_load_rd rfl rfl (fun w hs => h_p0_a_1.at hs) (at1 (ints_at hi28q)) ag2) ?_; clear hf; intro a hf
          refine qY hf rfl rfl rfl (Y_move rfl rfl) ?_; clear hf; intro a hf
          refine qY hf rfl rfl rfl (Y_move rfl rfl) ?_; clear hf; intro a hf
          obtain ⟨q29, hi30, hm24⟩ := bind_some hm24
          obtain ⟨hi30a, hi30b, hi30q⟩ := idx_some hi30
          refine qY hf rfl rfl rfl (Y_index rfl rfl rfl el23 ti2 (Rd.isAt (h_p1_b_1.at hs) (at1 (ints_at hi30q))) hi30a hi30b) ?_; clear hf; intro a hf
          refine qY hf rfl rfl rfl (Y_load_rd rfl rfl (fun w hs => h_p1_b_1.at hs) (at1 (ints_at hi30q)) ag2) ?_; clear hf; intro a hf
          refine qY hf rfl rfl rfl (Y_neq rfl rfl rfl) ?_; clear hf; intro a hf
          refine qNil ?_; clear hs; intro w hs
          refine wpL_cond hf rfl (fun hb31 => ?_) (fun hb31 => ?_)
          · have hm24 := bif_t hm24 hb31
            refine wpL_seq ?_
            refine wpL_region ?_
            refine sY hf hs rfl rfl rfl (Y_assign rfl rfl) ?_; clear hf; intro a hf
            refine wpO_nil ?_
            obtain rfl := Option.some.inj hm24
            try dsimp only at hm
            obtain rfl := Option.some.inj hm
            refine wpL_ret (Qb_ret (Ql_ret (Qb_ret (ret_tmp rfl hf rfl ?_))))
            exact ⟨_, rfl, rfl, hs⟩
          · have hm24 := bif_f hm24 hb31
            refine wpL_skip ?_
            refine wpL_nil (Qb_normal ?_)
            refine wpL_region ?_
            refine sY hf hs rfl rfl rfl (Y_move rfl rfl) ?_; clear hf; intro a hf
            refine sY hf hs rfl rfl rfl (Y_add rfl rfl rfl) ?_; clear hf; intro a hf
            refine sY hf hs rfl rfl rfl (Y_assign rfl rfl) ?_; clear hf; intro a hf
            refine wpO_nil ?_
            refine wpL_nil (Ql_normal ?_)
            exact ⟨(IntKind.i64.wrap (x15 + 1)), hm24, (FrD.pick (FrD.pick (FrD.pick hf.none hf rfl) hf rfl) hf rfl), hs⟩
        · have hm24 := bif_f hm24 hb26
          refine wpL_exit (Ql_exit (Qb_exit ?_))
          exact ⟨Option.some.inj hm24, hf.none, hs⟩
    · rintro a w ⟨hr_, hf, hs⟩
      subst hr_
      try dsimp only at hm
      refine wpL_seq ?_
      refine wpL_region ?_
      refine sY hf hs rfl rfl rfl (Y_assign rfl rfl) ?_; clear hf; intro a hf
      refine wpO_nil ?_
      obtain rfl := Option.some.inj hm
      refine wpL_ret (ret_tmp rfl hf rfl ?_)
      exact ⟨_, rfl, rfl, hs⟩

set_option maxRecDepth 100000 in
theorem laws_eqWindow_ok (F : Nat) (p0_a : GWindow) (p1_b : GWindow) (r : Bool) (W : World) (hm : laws_eqWindow F p0_a p1_b = some r) :
    Calls Try.prog 73 [.agg #[.int .i64 p0_a.Low, .int .i64 p0_a.High], .agg #[.int .i64 p1_b.Low, .int .i64 p1_b.High]].toArray W fun e w' => ∃ v, e = .returned v ∧ v = .bool r ∧ St [] W w' [] := by
  unfold laws_eqWindow at hm
  refine Calls.enter (N := 15) Try.func73 rfl rfl rfl (fun a hf => ?_)
  have hs := St.start W
  obtain ⟨w, hw_⟩ : ∃ w, w = W := ⟨W, rfl⟩
  clear hw_ w
  refine wpL_seq ?_
  refine wpL_region ?_
  refine sBox hf hs rfl rfl rfl rfl rfl (cs := [.int .i64 p0_a.Low, .int .i64 p0_a.High]) rfl ?_; clear hf hs; intro a w b1 hs hf
  have hs : St [] W w [.blk b1 86 [.int .i64 p0_a.Low, .int .i64 p0_a.High]] := hs
  refine sBox hf hs rfl rfl rfl rfl rfl (cs := [.int .i64 p1_b.Low, .int .i64 p1_b.High]) rfl ?_; clear hf hs; intro a w b2 hs hf
  have hs : St [] W w [.blk b1 86 [.int .i64 p0_a.Low, .int .i64 p0_a.High], .blk b2 86 [.int .i64 p1_b.Low, .int .i64 p1_b.High]] := hs
  refine sY hf hs rfl rfl rfl (Y_assign rfl rfl) ?_; clear hf; intro a hf
  refine wpO_nil ?_
  refine wpL_seq ?_
  refine wpL_seq ?_
  refine wpL_region ?_
  refine sY hf hs rfl rfl rfl (Y_fieldAddr rfl rfl fo86_0) ?_; clear hf; intro a hf
  refine sY hf hs rfl rfl rfl (Y_load_blk rfl rfl (i := 0) rfl rfl ag2) ?_; clear hf; intro a hf
  refine sY hf hs rfl rfl rfl (Y_fieldAddr rfl rfl fo86_0) ?_; clear hf; intro a hf
  refine sY hf hs rfl rfl rfl (Y_load_blk rfl rfl (i := 1) rfl rfl ag2) ?_; clear hf; intro a hf
  refine sY hf hs rfl rfl rfl (Y_neq rfl rfl rfl) ?_; clear hf; intro a hf
  refine wpO_nil ?_
  refine wpL_cond hf rfl (fun hb3 => ?_) (fun hb3 => ?_)
  · have hm := bif_t hm hb3
    refine wpL_seq ?_
    refine wpL_region ?_
    refine sY hf hs rfl rfl rfl (Y_assign rfl rfl) ?_; clear hf; intro a hf
    refine wpO_nil ?_
    obtain rfl := Option.some.inj hm
    refine wpL_ret (ret_tmp rfl hf rfl ?_)
    exact ⟨_, rfl, rfl, hs.sel [] (by decide)⟩
  · have hm := bif_f hm hb3
    refine wpL_skip ?_
    refine wpL_seq ?_
    refine wpL_seq ?_
    refine wpL_region ?_
    refine sY hf hs rfl rfl rfl (Y_fieldAddr rfl rfl fo86_1) ?_; clear hf; intro a hf
    refine sY hf hs rfl rfl rfl (Y_load_blk rfl rfl (i := 0) rfl rfl ag2) ?_; clear hf; intro a hf
    refine sY hf hs rfl rfl rfl (Y_fieldAddr rfl rfl fo86_1) ?_; clear hf; intro a hf
    refine sY hf hs rfl rfl rfl (Y_load_blk rfl rfl (i := 1) rfl rfl ag2) ?_; clear hf; intro a hf
    refine sY hf hs rfl rfl rfl (Y_neq rfl rfl rfl) ?_; clear hf; intro a hf
    refine wpO_nil ?_
    refine wpL_cond hf rfl (fun hb4 => ?_) (fun hb4 => ?_)
    · have hm := bif_t hm hb4
      refine wpL_seq ?_
      refine wpL_region ?_
      refine sY hf hs rfl rfl rfl (Y_assign rfl rfl) ?_; clear hf; intro a hf
      refine wpO_nil ?_
      obtain rfl := Option.some.inj hm
      refine wpL_ret (ret_tmp rfl hf rfl ?_)
      exact ⟨_, rfl, rfl, hs.sel [] (by decide)⟩
    · have hm := bif_f hm hb4
      refine wpL_skip ?_
      refine wpL_seq ?_
      refine wpL_region ?_
      refine sY hf hs rfl rfl rfl (Y_assign rfl rfl) ?_; clear hf; intro a hf
      refine wpO_nil ?_
      obtain rfl := Option.some.inj hm
      refine wpL_ret (ret_tmp rfl hf rfl ?_)
      exact ⟨_, rfl, rfl, hs.sel [] (by decide)⟩

set_option maxRecDepth 100000 in
theorem laws_eqWindowS_ok (F : Nat) (p0_a : List GWindow) (A_p0_a_1 : Option Addr) (n_p0_a_1 c_p0_a_1 : Nat) (hn_p0_a_1 : n_p0_a_1 = p0_a.length) (p1_b : List GWindow) (A_p1_b_1 : Option Addr) (n_p1_b_1 c_p1_b_1 : Nat) (hn_p1_b_1 : n_p1_b_1 = p1_b.length) (r : Bool) (W : World) (hm : laws_eqWindowS F p0_a p1_b = some r) (h_p0_a_1 : Rd W A_p0_a_1 ((recs GWindow.cells) p0_a)) (h_p1_b_1 : Rd W A_p1_b_1 ((recs GWindow.cells) p1_b)) :
    Calls Try.prog 27 [.slice A_p0_a_1 n_p0_a_1 c_p0_a_1, .slice A_p1_b_1 n_p1_b_1 c_p1_b_1].toArray W fun e w' => ∃ v, e = .returned v ∧ v = .bool r ∧ St [] W w' [] := by
  subst hn_p0_a_1
  subst hn_p1_b_1
  unfold laws_eqWindowS at hm
  refine Calls.enter (N := 27) Try.func27 rfl rfl rfl (fun a hf => ?_)
  have hs := St.start W
  obtain ⟨w, hw_⟩ : ∃ w, w = W := ⟨W, rfl⟩
  clear hw_ w
  refine wpL_seq ?_
  refine wpL_region ?_
  refine sY hf hs rfl rfl rfl (Y_assign rfl rfl) ?_; clear hf; intro a hf
  refine wpO_nil ?_
  refine wpL_seq ?_
  refine wpL_seq ?_
  refine wpL_region ?_
  refine sY hf hs rfl rfl rfl (Y_move rfl rfl) ?_; clear hf; intro a hf
  refine sY hf hs rfl rfl rfl (Y_lenH rfl rfl el39 rfl) ?_; clear hf; intro a hf
  refine sY hf hs rfl rfl rfl (Y_move rfl rfl) ?_; clear hf; intro a hf
  refine sY hf hs rfl rfl rfl (Y_lenH rfl rfl el39 rfl) ?_; clear hf; intro a hf
  refine sY hf hs rfl rfl rfl (Y_neq rfl rfl rfl) ?_; clear hf; intro a hf
  refine wpO_nil ?_
  refine wpL_cond hf rfl (fun hb1 => ?_) (fun hb1 => ?_)
  · have hm := bif_t hm hb1
    refine wpL_seq ?_
    refine wpL_region ?_
    refine sY hf hs rfl rfl rfl (Y_assign rfl rfl) ?_; clear hf; intro a hf
    refine wpO_nil ?_
    obtain rfl := Option.some.inj hm
    refine wpL_ret (ret_tmp rfl hf rfl ?_)
    exact ⟨_, rfl, rfl, hs⟩
  · have hm := bif_f hm hb1
    refine wpL_skip ?_
    refine wpL_seq ?_
    refine wpL_seq ?_
    refine wpL_region ?_
    refine sY hf hs rfl rfl rfl (Y_assign rfl rfl) ?_; clear hf; intro a hf
    refine wpO_nil ?_
    obtain ⟨r28, hl29, hm⟩ := bind_some hm
    refine wpL_block (fun a w => Sum.inr () = r28 ∧ Fr a 27 [] ∧ St [] W w []) ?_ ?_
    · refine wpL_loop (fun n a w => ∃ x19 : Int, laws_eqWindowS_L1 F p0_a p1_b n x19 = some r28 ∧ Fr a 27 [(0, .slice A_p0_a_1 p0_a.length c_p0_a_1), (1, .slice A_p1_b_1 p1_b.length c_p1_b_1), (5, .int .i64 x19)] ∧ St [] W w []) F ?_ ?_ ?_
      · exact ⟨0, hl29, (FrD.pick (FrD.pick (FrD.pick hf.none hf rfl) hf rfl) hf rfl), hs⟩
      · rintro a w ⟨x19, h0_, -, -⟩; simp [laws_eqWindowS_L1] at h0_
      · rintro n31 a w ⟨x19, hm30, hf, hs⟩
        rw [laws_eqWindowS_L1] at hm30
        refine wpL_seq ?_
        refine wpL_seq ?_
        refine wpL_region ?_
        refine sY hf hs rfl rfl rfl (Y_move rfl rfl) ?_; clear hf; intro a hf
        refine sY hf hs rfl rfl rfl (Y_move rfl rfl) ?_; clear hf; intro a hf
        refine sY hf hs rfl rfl rfl (Y_lenH rfl rfl el39 rfl) ?_; clear hf; intro a hf
        refine sY hf hs rfl rfl rfl (Y_lss rfl rfl rfl) ?_; clear hf; intro a hf
        refine wpO_nil ?_
        refine wpL_cond hf rfl (fun hb32 => ?_) (fun hb32 => ?_)
        · have hm30 := bif_t hm30 hb32
          refine wpL_skip ?_
          refine wpL_seq ?_
          refine wpL_block0 ?_
          refine wpL_seq ?_
          refine wpL_draw (by kernel_rfl) (by kernel_rfl) hs ?_
          refine qY hf rfl rfl rfl (Y_move rfl rfl) ?_; clear hf; intro a hf
          refine qY hf rfl rfl rfl (Y_move rfl rfl) ?_; clear hf; intro a hf
          obtain ⟨q33, hi34, hm30⟩ := bind_some hm30
          obtain ⟨hi34a, hi34b, hi34q⟩ := idx_some hi34
          refine qY hf rfl rfl rfl (Y_index rfl rfl rfl el39 ti86 (Rd.isAt (h_p0_a_1.at hs) (recs_at (s := 2) GWindow.len hi34q (j := 0) rfl)) hi34a hi34b) ?_; clear hf; intro a hf
          refine qY hf rfl rfl rfl (Y_load_rdS rfl rfl (us := [.int .i64 q33.Low, .int .i64 q33.High]) (fun w hs => h_p0_a_1.at hs) (fun j u hj => recs_at (s := 2) GWindow.len hi34q hj) (Nat.succ_pos _) ag86 ti86 rfl) ?_; clear hf; intro a hf
          refine qY hf rfl rfl rfl (Y_move rfl rfl) ?_; clear hf; intro a hf
          refine qY hf rfl rfl rfl (Y_move rfl rfl) ?_; clear hf; intro a hf
          obtain ⟨q35, hi36, hm30⟩ := bind_some hm30
          obtain ⟨hi36a, hi36b, hi36q⟩ := idx_some hi36
          refine qY hf rfl rfl rfl (Y_index rfl rfl rfl el39 ti86 (Rd.isAt (h_p1_b_1.at hs) (recs_at (s := 2) GWindow.len hi36q (j := 0) rfl)) hi36a hi36b) ?_; clear hf; intro a hf
          refine qY hf rfl rfl rfl (Y_load_rdS rfl rfl (us := [.int .i64 q35.Low, .int .i64 q35.High]) (fun w hs => h_p1_b_1.at hs) (fun j u hj => recs_at (s := 2) GWindow.len hi36q hj) (Nat.succ_pos _) ag86 ti86 rfl) ?_; clear hf; intro a hf
          obtain ⟨r37, hc38, hm30⟩ := bind_some hm30
          refine qCall hf rfl rfl rfl rfl (cap := []) rfl rfl en73 (v := .bool r37) (fun w hs => Calls.scal (laws_eqWindow_ok F q33 q35 _ _ hc38)) ?_; clear hf; intro a hf
          refine qY hf rfl rfl rfl (Y_not rfl rfl) ?_; clear hf; intro a hf
          refine qNil ?_; clear hs; intro w hs
          refine wpL_cond hf rfl (fun hb39 => ?_) (fun hb39 => ?_)
          · have hm30 := bif_t hm30 hb39
            refine wpL_seq ?_
            refine wpL_region ?_
            refine sY hf hs rfl rfl rfl (Y_assign rfl rfl) ?_; clear hf; intro a hf
            refine wpO_nil ?_
            obtain rfl := Option.some.inj hm30
            try dsimp only at hm
            obtain rfl := Option.some.inj hm
            refine wpL_ret (Qb_ret (Ql_ret (Qb_ret (ret_tmp rfl hf rfl ?_))))
            exact ⟨_, rfl, rfl, hs⟩
          · have hm30 := bif_f hm30 hb39
            refine wpL_skip ?_
            refine wpL_nil (Qb_normal ?_)
            refine wpL_region ?_
            refine sY hf hs rfl rfl rfl (Y_move rfl rfl) ?_; clear hf; intro a hf
            refine sY hf hs rfl rfl rfl (Y_add rfl rfl rfl) ?_; clear hf; intro a hf
            refine sY hf hs rfl rfl rfl (Y_assign rfl rfl) ?_; clear hf; intro a hf
            refine wpO_nil ?_
            refine wpL_nil (Ql_normal ?_)
            exact ⟨(IntKind.i64.wrap (x19 + 1)), hm30, (FrD.pick (FrD.pick (FrD.pick hf.none hf rfl) hf rfl) hf rfl), hs⟩
        · have hm30 := bif_f hm30 hb32
          refine wpL_exit (Ql_exit (Qb_exit ?_))
          exact ⟨Option.some.inj hm30, hf.none, hs⟩
    · rintro a w ⟨hr_, hf, hs⟩
      subst hr_
      try dsimp only at hm
      refine wpL_seq ?_
      refine wpL_region ?_
      refine sY hf hs rfl rfl rfl (Y_assign rfl rfl) ?_; clear hf; intro a hf
      refine wpO_nil ?_
      obtain rfl := Option.some.inj hm
      refine wpL_ret (ret_tmp rfl hf rfl ?_)
      exact ⟨_, rfl, rfl, hs⟩

set_option maxRecDepth 100000 in
theorem laws_eqBond_ok (F : Nat) (p0_a : GBond) (p1_b : GBond) (r : Bool) (W : World) (hm : laws_eqBond F p0_a p1_b = some r) :
    Calls Try.prog 74 [.agg #[.int .i64 p0_a.From, .int .i64 p0_a.To, .int .i64 p0_a.Least], .agg #[.int .i64 p1_b.From, .int .i64 p1_b.To, .int .i64 p1_b.Least]].toArray W fun e w' => ∃ v, e = .returned v ∧ v = .bool r ∧ St [] W w' [] := by
  unfold laws_eqBond at hm
  refine Calls.enter (N := 20) Try.func74 rfl rfl rfl (fun a hf => ?_)
  have hs := St.start W
  obtain ⟨w, hw_⟩ : ∃ w, w = W := ⟨W, rfl⟩
  clear hw_ w
  refine wpL_seq ?_
  refine wpL_region ?_
  refine sBox hf hs rfl rfl rfl rfl rfl (cs := [.int .i64 p0_a.From, .int .i64 p0_a.To, .int .i64 p0_a.Least]) rfl ?_; clear hf hs; intro a w b1 hs hf
  have hs : St [] W w [.blk b1 91 [.int .i64 p0_a.From, .int .i64 p0_a.To, .int .i64 p0_a.Least]] := hs
  refine sBox hf hs rfl rfl rfl rfl rfl (cs := [.int .i64 p1_b.From, .int .i64 p1_b.To, .int .i64 p1_b.Least]) rfl ?_; clear hf hs; intro a w b2 hs hf
  have hs : St [] W w [.blk b1 91 [.int .i64 p0_a.From, .int .i64 p0_a.To, .int .i64 p0_a.Least], .blk b2 91 [.int .i64 p1_b.From, .int .i64 p1_b.To, .int .i64 p1_b.Least]] := hs
  refine sY hf hs rfl rfl rfl (Y_assign rfl rfl) ?_; clear hf; intro a hf
  refine wpO_nil ?_
  refine wpL_seq ?_
  refine wpL_seq ?_
  refine wpL_region ?_
  refine sY hf hs rfl rfl rfl (Y_fieldAddr rfl rfl fo91_0) ?_; clear hf; intro a hf
  refine sY hf hs rfl rfl rfl (Y_load_blk rfl rfl (i := 0) rfl rfl ag2) ?_; clear hf; intro a hf
  refine sY hf hs rfl rfl rfl (Y_fieldAddr rfl rfl fo91_0) ?_; clear hf; intro a hf
  refine sY hf hs rfl rfl rfl (Y_load_blk rfl rfl (i := 1) rfl rfl ag2) ?_; clear hf; intro a hf
  refine sY hf hs rfl rfl rfl (Y_neq rfl rfl rfl) ?_; clear hf; intro a hf
  refine wpO_nil ?_
  refine wpL_cond hf rfl (fun hb3 => ?_) (fun hb3 => ?_)
  · have hm := bif_t hm hb3
    refine wpL_seq ?_
    refine wpL_region ?_
    refine sY hf hs rfl rfl rfl (Y_assign rfl rfl) ?_; clear hf; intro a hf
    refine wpO_nil ?_
    obtain rfl := Option.some.inj hm
    refine wpL_ret (ret_tmp rfl hf rfl ?_)
    exact ⟨_, rfl, rfl, hs.sel [] (by decide)⟩
  · have hm := bif_f hm hb3
    refine wpL_skip ?_
    refine wpL_seq ?_
    refine wpL_seq ?_
    refine wpL_region ?_
    refine sY hf hs rfl rfl rfl (Y_fieldAddr rfl rfl fo91_1) ?_; clear hf; intro a hf
    refine sY hf hs rfl rfl rfl (Y_load_blk rfl rfl (i := 0) rfl rfl ag2) ?_; clear hf; intro a hf
    refine sY hf hs rfl rfl rfl (Y_fieldAddr rfl rfl fo91_1) ?_; clear hf; intro a hf
    refine sY hf hs rfl rfl rfl (Y_load_blk rfl rfl (i := 1) rfl rfl ag2) ?_; clear hf; intro a hf
    refine sY hf hs rfl rfl rfl (Y_neq rfl rfl rfl) ?_; clear hf; intro a hf
    refine wpO_nil ?_
    refine wpL_cond hf rfl (fun hb4 => ?_) (fun hb4 => ?_)
    · have hm := bif_t hm hb4
      refine wpL_seq ?_
      refine wpL_region ?_
      refine sY hf hs rfl rfl rfl (Y_assign rfl rfl) ?_; clear hf; intro a hf
      refine wpO_nil ?_
      obtain rfl := Option.some.inj hm
      refine wpL_ret (ret_tmp rfl hf rfl ?_)
      exact ⟨_, rfl, rfl, hs.sel [] (by decide)⟩
    · have hm := bif_f hm hb4
      refine wpL_skip ?_
      refine wpL_seq ?_
      refine wpL_seq ?_
      refine wpL_region ?_
      refine sY hf hs rfl rfl rfl (Y_fieldAddr rfl rfl fo91_2) ?_; clear hf; intro a hf
      refine sY hf hs rfl rfl rfl (Y_load_blk rfl rfl (i := 0) rfl rfl ag2) ?_; clear hf; intro a hf
      refine sY hf hs rfl rfl rfl (Y_fieldAddr rfl rfl fo91_2) ?_; clear hf; intro a hf
      refine sY hf hs rfl rfl rfl (Y_load_blk rfl rfl (i := 1) rfl rfl ag2) ?_; clear hf; intro a hf
      refine sY hf hs rfl rfl rfl (Y_neq rfl rfl rfl) ?_; clear hf; intro a hf
      refine wpO_nil ?_
      refine wpL_cond hf rfl (fun hb5 => ?_) (fun hb5 => ?_)
      · have hm := bif_t hm hb5
        refine wpL_seq ?_
        refine wpL_region ?_
        refine sY hf hs rfl rfl rfl (Y_assign rfl rfl) ?_; clear hf; intro a hf
        refine wpO_nil ?_
        obtain rfl := Option.some.inj hm
        refine wpL_ret (ret_tmp rfl hf rfl ?_)
        exact ⟨_, rfl, rfl, hs.sel [] (by decide)⟩
      · have hm := bif_f hm hb5
        refine wpL_skip ?_
        refine wpL_seq ?_
        refine wpL_region ?_
        refine sY hf hs rfl rfl rfl (Y_assign rfl rfl) ?_; clear hf; intro a hf
        refine wpO_nil ?_
        obtain rfl := Option.some.inj hm
        refine wpL_ret (ret_tmp rfl hf rfl ?_)
        exact ⟨_, rfl, rfl, hs.sel [] (by decide)⟩

set_option maxRecDepth 100000 in
theorem laws_eqBondS_ok (F : Nat) (p0_a : List GBond) (A_p0_a_1 : Option Addr) (n_p0_a_1 c_p0_a_1 : Nat) (hn_p0_a_1 : n_p0_a_1 = p0_a.length) (p1_b : List GBond) (A_p1_b_1 : Option Addr) (n_p1_b_1 c_p1_b_1 : Nat) (hn_p1_b_1 : n_p1_b_1 = p1_b.length) (r : Bool) (W : World) (hm : laws_eqBondS F p0_a p1_b = some r) (h_p0_a_1 : Rd W A_p0_a_1 ((recs GBond.cells) p0_a)) (h_p1_b_1 : Rd W A_p1_b_1 ((recs GBond.cells) p1_b)) :
    Calls Try.prog 28 [.slice A_p0_a_1 n_p0_a_1 c_p0_a_1, .slice A_p1_b_1 n_p1_b_1 c_p1_b_1].toArray W fun e w' => ∃ v, e = .returned v ∧ v = .bool r ∧ St [] W w' [] := by
  subst hn_p0_a_1
  subst hn_p1_b_1
  unfold laws_eqBondS at hm
  refine Calls.enter (N := 27) Try.func28 rfl rfl rfl (fun a hf => ?_)
  have hs := St.start W
  obtain ⟨w, hw_⟩ : ∃ w, w = W := ⟨W, rfl⟩
  clear hw_ w
  refine wpL_seq ?_
  refine wpL_region ?_
  refine sY hf hs rfl rfl rfl (Y_assign rfl rfl) ?_; clear hf; intro a hf
  refine wpO_nil ?_
  refine wpL_seq ?_
  refine wpL_seq ?_
  refine wpL_region ?_
  refine sY hf hs rfl rfl rfl (Y_move rfl rfl) ?_; clear hf; intro a hf
  refine sY hf hs rfl rfl rfl (Y_lenH rfl rfl el41 rfl) ?_; clear hf; intro a hf
  refine sY hf hs rfl rfl rfl (Y_move rfl rfl) ?_; clear hf; intro a hf
  refine sY hf hs rfl rfl rfl (Y_lenH rfl rfl el41 rfl) ?_; clear hf; intro a hf
  refine sY hf hs rfl rfl rfl (Y_neq rfl rfl rfl) ?_; clear hf; intro a hf
  refine wpO_nil ?_
  refine wpL_cond hf rfl (fun hb1 => ?_) (fun hb1 => ?_)
  · have hm := bif_t hm hb1
    refine wpL_seq ?_
    refine wpL_region ?_
    refine sY hf hs rfl rfl rfl (Y_assign rfl rfl) ?_; clear hf; intro a hf
    refine wpO_nil ?_
    obtain rfl := Option.some.inj hm
    refine wpL_ret (ret_tmp rfl hf rfl ?_)
    exact ⟨_, rfl, rfl, hs⟩
  · have hm := bif_f hm hb1
    refine wpL_skip ?_
    refine wpL_seq ?_
    refine wpL_seq ?_
    refine wpL_region ?_
    refine sY hf hs rfl rfl rfl (Y_assign rfl rfl) ?_; clear hf; intro a hf
    refine wpO_nil ?_
    obtain ⟨r28, hl29, hm⟩ := bind_some hm
    refine wpL_block (fun a w => Sum.inr () = r28 ∧ Fr a 27 [] ∧ St [] W w []) ?_ ?_
    · refine wpL_loop (fun n a w => ∃ x19 : Int, laws_eqBondS_L1 F p0_a p1_b n x19 = some r28 ∧ Fr a 27 [(0, .slice A_p0_a_1 p0_a.length c_p0_a_1), (1, .slice A_p1_b_1 p1_b.length c_p1_b_1), (5, .int .i64 x19)] ∧ St [] W w []) F ?_ ?_ ?_
      · exact ⟨0, hl29, (FrD.pick (FrD.pick (FrD.pick hf.none hf rfl) hf rfl) hf rfl), hs⟩
      · rintro a w ⟨x19, h0_, -, -⟩; simp [laws_eqBondS_L1] at h0_
      · rintro n31 a w ⟨x19, hm30, hf, hs⟩
        rw [laws_eqBondS_L1] at hm30
        refine wpL_seq ?_
        refine wpL_seq ?_
        refine wpL_region ?_
        refine sY hf hs rfl rfl rfl (Y_move rfl rfl) ?_; clear hf; intro a hf
        refine sY hf hs rfl rfl rfl (Y_move rfl rfl) ?_; clear hf; intro a hf
        refine sY hf hs rfl rfl rfl (Y_lenH rfl rfl el41 rfl) ?_; clear hf; intro a hf
        refine sY hf hs rfl rfl rfl (Y_lss rfl rfl rfl) ?_; clear hf; intro a hf
        refine wpO_nil ?_
        refine wpL_cond hf rfl (fun hb32 => ?_) (fun hb32 => ?_)
        · have hm30 := bif_t hm30 hb32
          refine wpL_skip ?_
          refine wpL_seq ?_
          refine wpL_block0 ?_
          refine wpL_seq ?_
          refine wpL_draw (by kernel_rfl) (by kernel_rfl) hs ?_
          refine qY hf rfl rfl rfl (Y_move rfl rfl) ?_; clear hf; intro a hf
          refine qY hf rfl rfl rfl (Y_move rfl rfl) ?_; clear hf; intro a hf
          obtain ⟨q33, hi34, hm30⟩ := bind_some hm30
          obtain ⟨hi34a, hi34b, hi34q⟩ := idx_some hi34
          refine qY hf rfl rfl rfl (Y_index rfl rfl rfl el41 ti91 (Rd.isAt (h_p0_a_1.at hs) (recs_at (s := 3) GBond.len hi34q (j := 0) rfl)) hi34a hi34b) ?_; clear hf; intro a hf
          refine qY hf rfl rfl rfl (Y_load_rdS rfl rfl (us := [.int .i64 q33.From, .int .i64 q33.To, .int .i64 q33.Least]) (fun w hs => h_p0_a_1.at hs) (fun j u hj => recs_at (s := 3) GBond.len hi34q hj) (Nat.succ_pos _) ag91 ti91 rfl) ?_; clear hf; intro a hf
          refine qY hf rfl rfl rfl (Y_move rfl rfl) ?_; clear hf; intro a hf
          refine qY hf rfl rfl rfl (Y_move rfl rfl) ?_; clear hf; intro a hf
          obtain ⟨q35, hi36, hm30⟩ := bind_some hm30
          obtain ⟨hi36a, hi36b, hi36q⟩ := idx_some hi36
          refine qY hf rfl rfl rfl (Y_index rfl rfl rfl el41 ti91 (Rd.isAt (h_p1_b_1.at hs) (recs_at (s := 3) GBond.len hi36q (j := 0) rfl)) hi36a hi36b) ?_; clear hf; intro a hf
          refine qY hf rfl rfl rfl (Y_load_rdS rfl rfl (us := [.int .i64 q35.From, .int .i64 q35.To, .int .i64 q35.Least]) (fun w hs => h_p1_b_1.at hs) (fun j u hj => recs_at (s := 3) GBond.len hi36q hj) (Nat.succ_pos _) ag91 ti91 rfl) ?_; clear hf; intro a hf
          obtain ⟨r37, hc38, hm30⟩ := bind_some hm30
          refine qCall hf rfl rfl rfl rfl (cap := []) rfl rfl en74 (v := .bool r37) (fun w hs => Calls.scal (laws_eqBond_ok F q33 q35 _ _ hc38)) ?_; clear hf; intro a hf
          refine qY hf rfl rfl rfl (Y_not rfl rfl) ?_; clear hf; intro a hf
          refine qNil ?_; clear hs; intro w hs
          refine wpL_cond hf rfl (fun hb39 => ?_) (fun hb39 => ?_)
          · have hm30 := bif_t hm30 hb39
            refine wpL_seq ?_
            refine wpL_region ?_
            refine sY hf hs rfl rfl rfl (Y_assign rfl rfl) ?_; clear hf; intro a hf
            refine wpO_nil ?_
            obtain rfl := Option.some.inj hm30
            try dsimp only at hm
            obtain rfl := Option.some.inj hm
            refine wpL_ret (Qb_ret (Ql_ret (Qb_ret (ret_tmp rfl hf rfl ?_))))
            exact ⟨_, rfl, rfl, hs⟩
          · have hm30 := bif_f hm30 hb39
            refine wpL_skip ?_
            refine wpL_nil (Qb_normal ?_)
            refine wpL_region ?_
            refine sY hf hs rfl rfl rfl (Y_move rfl rfl) ?_; clear hf; intro a hf
            refine sY hf hs rfl rfl rfl (Y_add rfl rfl rfl) ?_; clear hf; intro a hf
            refine sY hf hs rfl rfl rfl (Y_assign rfl rfl) ?_; clear hf; intro a hf
            refine wpO_nil ?_
            refine wpL_nil (Ql_normal ?_)
            exact ⟨(IntKind.i64.wrap (x19 + 1)), hm30, (FrD.pick (FrD.pick (FrD.pick hf.none hf rfl) hf rfl) hf rfl), hs⟩
        · have hm30 := bif_f hm30 hb32
          refine wpL_exit (Ql_exit (Qb_exit ?_))
          exact ⟨Option.some.inj hm30, hf.none, hs⟩
    · rintro a w ⟨hr_, hf, hs⟩
      subst hr_
      try dsimp only at hm
      refine wpL_seq ?_
      refine wpL_region ?_
      refine sY hf hs rfl rfl rfl (Y_assign rfl rfl) ?_; clear hf; intro a hf
      refine wpO_nil ?_
      obtain rfl := Option.some.inj hm
      refine wpL_ret (ret_tmp rfl hf rfl ?_)
      exact ⟨_, rfl, rfl, hs⟩

set_option maxRecDepth 100000 in
theorem laws_markWindowS_ok (F : Nat) (p0_a : List GWindow) (A_p0_a_1 : Option Addr) (n_p0_a_1 c_p0_a_1 : Nat) (hn_p0_a_1 : n_p0_a_1 = p0_a.length) (p1_k : Int) (r : (Int) × List GWindow) (W : World) (hm : laws_markWindowS F p0_a p1_k = some r) (h_p0_a_1 : (Res.row A_p0_a_1 n_p0_a_1 c_p0_a_1 86 2 ((recs GWindow.cells) p0_a) : Res).holds 0 W) :
    Calls Try.prog 29 [.slice A_p0_a_1 n_p0_a_1 c_p0_a_1, .int .i64 p1_k].toArray W fun e w' => ∃ v, e = .returned v ∧ v = .int .i64 r.1 ∧ n_p0_a_1 = r.2.length ∧ St (muA A_p0_a_1) W w' [.row A_p0_a_1 n_p0_a_1 c_p0_a_1 86 2 ((recs GWindow.cells) r.2)] := by
  subst hn_p0_a_1
  unfold laws_markWindowS at hm
  refine Calls.enter (N := 27) Try.func29 rfl rfl rfl (fun a hf => ?_)
  have hs : St (muA A_p0_a_1) W W [.row A_p0_a_1 p0_a.length c_p0_a_1 86 2 ((recs GWindow.cells) p0_a)] := St.startMut h_p0_a_1 (fun b hb => mem_muA hb)
  obtain ⟨w, hw_⟩ : ∃ w, w = W := ⟨W, rfl⟩
  clear hw_ w
  refine wpL_seq ?_
  refine wpL_region ?_
  refine sY hf hs rfl rfl rfl (Y_assign rfl rfl) ?_; clear hf; intro a hf
  refine wpO_nil ?_
  refine wpL_seq ?_
  refine wpL_seq ?_
  refine wpL_region ?_
  refine sY hf hs rfl rfl rfl (Y_assign rfl rfl) ?_; clear hf; intro a hf
  refine wpO_nil ?_
  obtain ⟨r39, hl40, hm⟩ := bind_some hm
  refine wpL_block (fun a w => ∃ xs36 : List GWindow, ∃ x38 : Int, (xs36, x38) = r39 ∧ p0_a.length = xs36.length ∧ Fr a 27 [(1, .int .i64 x38)] ∧ St (muA A_p0_a_1) W w [.row A_p0_a_1 p0_a.length c_p0_a_1 86 2 ((recs GWindow.cells) xs36)]) ?_ ?_
  · refine wpL_loop (fun n a w => ∃ xs23 : List GWindow, ∃ x25 : Int, ∃ x26 : Int, laws_markWindowS_L1 F n xs23 x25 x26 = some r39 ∧ p0_a.length = xs23.length ∧ Fr a 27 [(0, .slice A_p0_a_1 p0_a.length c_p0_a_1), (1, .int .i64 x25), (5, .int .i64 x26)] ∧ St (muA A_p0_a_1) W w [.row A_p0_a_1 p0_a.length c_p0_a_1 86 2 ((recs GWindow.cells) xs23)]) F ?_ ?_ ?_
    · exact ⟨p0_a, p1_k, 0, hl40, rfl, (FrD.pick (FrD.pick (FrD.pick hf.none hf rfl) hf rfl) hf rfl), hs⟩
    · rintro a w ⟨xs23, x25, x26, h0_, -, -, -⟩; simp [laws_markWindowS_L1] at h0_
    · rintro n42 a w ⟨xs23, x25, x26, hm41, hn24, hf, hs⟩
      rw [laws_markWindowS_L1] at hm41
      refine wpL_seq ?_
      refine wpL_seq ?_
      refine wpL_region ?_
      refine sY hf hs rfl rfl rfl (Y_move rfl rfl) ?_; clear hf; intro a hf
      refine sY hf hs rfl rfl rfl (Y_move rfl rfl) ?_; clear hf; intro a hf
      refine sY hf hs rfl rfl rfl (Y_lenH rfl rfl el39 hn24) ?_; clear hf; intro a hf
      refine sY hf hs rfl rfl rfl (Y_lss rfl rfl rfl) ?_; clear hf; intro a hf
      refine wpO_nil ?_
      refine wpL_cond hf rfl (fun hb43 => ?_) (fun hb43 => ?_)
      · have hm41 := bif_t hm41 hb43
        refine wpL_skip ?_
        refine wpL_seq ?_
        refine wpL_block0 ?_
        refine wpL_seq ?_
        refine wpL_region ?_
        refine sY hf hs rfl rfl rfl (Y_move rfl rfl) ?_; clear hf; intro a hf
        refine sY hf hs rfl rfl rfl (Y_move rfl rfl) ?_; clear hf; intro a hf
        refine sY hf hs rfl rfl rfl (Y_move rfl rfl) ?_; clear hf; intro a hf
        obtain ⟨q44, hi45, hm41⟩ := bind_some hm41
        obtain ⟨hi45a, hi45b, hi45q⟩ := idx_some hi45
        refine sY hf hs rfl rfl rfl (Y_index rfl rfl rfl el39 ti86 (Rd.isAt (hs.rd (i := 0) rfl) (recs_at (s := 2) GWindow.len hi45q (j := 0) rfl)) hi45a (ltn hn24 hi45b)) ?_; clear hf; intro a hf
        refine sY hf hs rfl rfl rfl (Y_fieldAddrE rfl rfl fo86_0) ?_; clear hf; intro a hf
        obtain ⟨xs46, hu47, hm41⟩ := bind_some hm41
        refine sStoreF (i := 0) (s := 2) (fo := 0) (f := GWindow.cells) (x' := (GWindow.mk x25 q44.High)) hf hs rfl rfl rfl rfl rfl rfl hi45q hu47 ti2 rfl rfl rfl GWindow.len rfl rfl ?_; clear hs; intro w hs
        have hs : St (muA A_p0_a_1) W w [.row A_p0_a_1 p0_a.length c_p0_a_1 86 2 ((recs GWindow.cells) xs46)] := hs
        refine wpO_nil ?_
        refine wpL_seq ?_
        refine wpL_region ?_
        refine sY hf hs rfl rfl rfl (Y_move rfl rfl) ?_; clear hf; intro a hf
        refine sY hf hs rfl rfl rfl (Y_add rfl rfl rfl) ?_; clear hf; intro a hf
        refine sY hf hs rfl rfl rfl (Y_assign rfl rfl) ?_; clear hf; intro a hf
        refine wpO_nil ?_
        refine wpL_seq ?_
        refine wpL_region ?_
        refine sY hf hs rfl rfl rfl (Y_move rfl rfl) ?_; clear hf; intro a hf
        refine sY hf hs rfl rfl rfl (Y_move rfl rfl) ?_; clear hf; intro a hf
        refine sY hf hs rfl rfl rfl (Y_move rfl rfl) ?_; clear hf; intro a hf
        obtain ⟨q48, hi49, hm41⟩ := bind_some hm41
        obtain ⟨hi49a, hi49b, hi49q⟩ := idx_some hi49
        refine sY hf hs rfl rfl rfl (Y_index rfl rfl rfl el39 ti86 (Rd.isAt (hs.rd (i := 0) rfl) (recs_at (s := 2) GWindow.len hi49q (j := 0) rfl)) hi49a (ltn ((hn24).trans (upd_len hu47).symm) hi49b)) ?_; clear hf; intro a hf
        refine sY hf hs rfl rfl rfl (Y_fieldAddrE rfl rfl fo86_1) ?_; clear hf; intro a hf
        obtain ⟨xs50, hu51, hm41⟩ := bind_some hm41
        refine sStoreF (i := 0) (s := 2) (fo := 1) (f := GWindow.cells) (x' := (GWindow.mk q48.Low (IntKind.i64.wrap (x25 + 1)))) hf hs rfl rfl rfl rfl rfl rfl hi49q hu51 ti2 rfl rfl rfl GWindow.len rfl rfl ?_; clear hs; intro w hs
        have hs : St (muA A_p0_a_1) W w [.row A_p0_a_1 p0_a.length c_p0_a_1 86 2 ((recs GWindow.cells) xs50)] := hs
        refine wpO_nil ?_
        refine wpL_region ?_
        refine sY hf hs rfl rfl rfl (Y_move rfl rfl) ?_; clear hf; intro a hf
        refine sY hf hs rfl rfl rfl (Y_add rfl rfl rfl) ?_; clear hf; intro a hf
        refine sY hf hs rfl rfl rfl (Y_assign rfl rfl) ?_; clear hf; intro a hf
        refine wpO_nil ?_
        refine wpL_nil (Qb_normal ?_)
        refine wpL_region ?_
        refine sY hf hs rfl rfl rfl (Y_move rfl rfl) ?_; clear hf; intro a hf
        refine sY hf hs rfl rfl rfl (Y_add rfl rfl rfl) ?_; clear hf; intro a hf
        refine sY hf hs rfl rfl rfl (Y_assign rfl rfl) ?_; clear hf; intro a hf
        refine wpO_nil ?_
        refine wpL_nil (Ql_normal ?_)
        exact ⟨xs50, (IntKind.i64.wrap ((IntKind.i64.wrap (x25 + 1)) + 1)), (IntKind.i64.wrap (x26 + 1)), hm41, ((((hn24).trans (upd_len hu47).symm)).trans (upd_len hu51).symm), (FrD.pick (FrD.pick (FrD.pick hf.none hf rfl) hf rfl) hf rfl), hs⟩
      · have hm41 := bif_f hm41 hb43
        refine wpL_exit (Ql_exit (Qb_exit ?_))
        exact ⟨xs23, x25, Option.some.inj hm41, hn24, (FrD.pick hf.none hf rfl), hs⟩
  · rintro a w ⟨xs36, x38, hr_, hn37, hf, hs⟩
    subst hr_
    try dsimp only at hm
    refine wpL_seq ?_
    refine wpL_region ?_
    refine sY hf hs rfl rfl rfl (Y_move rfl rfl) ?_; clear hf; intro a hf
    refine sY hf hs rfl rfl rfl (Y_assign rfl rfl) ?_; clear hf; intro a hf
    refine wpO_nil ?_
    obtain rfl := Option.some.inj hm
    refine wpL_ret (ret_tmp rfl hf rfl ?_)
    exact ⟨_, rfl, rfl, hn37, hs⟩

set_option maxRecDepth 100000 in
theorem laws_markBondS_ok (F : Nat) (p0_a : List GBond) (A_p0_a_1 : Option Addr) (n_p0_a_1 c_p0_a_1 : Nat) (hn_p0_a_1 : n_p0_a_1 = p0_a.length) (p1_k : Int) (r : (Int) × List GBond) (W : World) (hm : laws_markBondS F p0_a p1_k = some r) (h_p0_a_1 : (Res.row A_p0_a_1 n_p0_a_1 c_p0_a_1 91 3 ((recs GBond.cells) p0_a) : Res).holds 0 W) :
    Calls Try.prog 30 [.slice A_p0_a_1 n_p0_a_1 c_p0_a_1, .int .i64 p1_k].toArray W fun e w' => ∃ v, e = .returned v ∧ v = .int .i64 r.1 ∧ n_p0_a_1 = r.2.length ∧ St (muA A_p0_a_1) W w' [.row A_p0_a_1 n_p0_a_1 c_p0_a_1 91 3 ((recs GBond.cells) r.2)] := by
  subst hn_p0_a_1
  unfold laws_markBondS at hm
  refine Calls.enter (N := 34) Try.func30 rfl rfl rfl (fun a hf => ?_)
  have hs : St (muA A_p0_a_1) W W [.row A_p0_a_1 p0_a.length c_p0_a_1 91 3 ((recs GBond.cells) p0_a)] := St.startMut h_p0_a_1 (fun b hb => mem_muA hb)
  obtain ⟨w, hw_⟩ : ∃ w, w = W := ⟨W, rfl⟩
  clear hw_ w
  refine wpL_seq ?_
  refine wpL_region ?_
  refine sY hf hs rfl rfl rfl (Y_assign rfl rfl) ?_; clear hf; intro a hf
  refine wpO_nil ?_
  refine wpL_seq ?_
  refine wpL_seq ?_
  refine wpL_region ?_
  refine sY hf hs rfl rfl rfl (Y_assign rfl rfl) ?_; clear hf; intro a hf
  refine wpO_nil ?_
  obtain ⟨r51, hl52, hm⟩ := bind_some hm
  refine wpL_block (fun a w => ∃ xs48 : List GBond, ∃ x50 : Int, (xs48, x50) = r51 ∧ p0_a.length = xs48.length ∧ Fr a 34 [(1, .int .i64 x50)] ∧ St (muA A_p0_a_1) W w [.row A_p0_a_1 p0_a.length c_p0_a_1 91 3 ((recs GBond.cells) xs48)]) ?_ ?_
  · refine wpL_loop (fun n a w => ∃ xs31 : List GBond, ∃ x33 : Int, ∃ x34 : Int, laws_markBondS_L1 F n xs31 x33 x34 = some r51 ∧ p0_a.length = xs31.length ∧ Fr a 34 [(0, .slice A_p0_a_1 p0_a.length c_p0_a_1), (1, .int .i64 x33), (5, .int .i64 x34)] ∧ St (muA A_p0_a_1) W w [.row A_p0_a_1 p0_a.length c_p0_a_1 91 3 ((recs GBond.cells) xs31)]) F ?_ ?_ ?_
    · exact ⟨p0_a, p1_k, 0, hl52, rfl, (FrD.pick (FrD.pick (FrD.pick hf.none hf rfl) hf rfl) hf rfl), hs⟩
    · rintro a w ⟨xs31, x33, x34, h0_, -, -, -⟩; simp [laws_markBondS_L1] at h0_
    · rintro n54 a w ⟨xs31, x33, x34, hm53, hn32, hf, hs⟩
      rw [laws_markBondS_L1] at hm53
      refine wpL_seq ?_
      refine wpL_seq ?_
      refine wpL_region ?_
      refine sY hf hs rfl rfl rfl (Y_move rfl rfl) ?_; clear hf; intro a hf
      refine sY hf hs rfl rfl rfl (Y_move rfl rfl) ?_; clear hf; intro a hf
      refine sY hf hs rfl rfl rfl (Y_lenH rfl rfl el41 hn32) ?_; clear hf; intro a hf
      refine sY hf hs rfl rfl rfl (Y_lss rfl rfl rfl) ?_; clear hf; intro a hf
      refine wpO_nil ?_
      refine wpL_cond hf rfl (fun hb55 => ?_) (fun hb55 => ?_)
      · have hm53 := bif_t hm53 hb55
        refine wpL_skip ?_
        refine wpL_seq ?_
        refine wpL_block0 ?_
        refine wpL_seq ?_
        refine wpL_region ?_
        refine sY hf hs rfl rfl rfl (Y_move rfl rfl) ?_; clear hf; intro a hf
        refine sY hf hs rfl rfl rfl (Y_move rfl rfl) ?_; clear hf; intro a hf
        refine sY hf hs rfl rfl rfl (Y_move rfl rfl) ?_; clear hf; intro a hf
        obtain ⟨q56, hi57, hm53⟩ := bind_some hm53
        obtain ⟨hi57a, hi57b, hi57q⟩ := idx_some hi57
        refine sY hf hs rfl rfl rfl (Y_index rfl rfl rfl el41 ti91 (Rd.isAt (hs.rd (i := 0) rfl) (recs_at (s := 3) GBond.len hi57q (j := 0) rfl)) hi57a (ltn hn32 hi57b)) ?_; clear hf; intro a hf
        refine sY hf hs rfl rfl rfl (Y_fieldAddrE rfl rfl fo91_0) ?_; clear hf; intro a hf
        obtain ⟨xs58, hu59, hm53⟩ := bind_some hm53
        refine sStoreF (i := 0) (s := 3) (fo := 0) (f := GBond.cells) (x' := (GBond.mk x33 q56.To q56.Least)) hf hs rfl rfl rfl rfl rfl rfl hi57q hu59 ti2 rfl rfl rfl GBond.len rfl rfl ?_; clear hs; intro w hs
        have hs : St (muA A_p0_a_1) W w [.row A_p0_a_1 p0_a.length c_p0_a_1 91 3 ((recs GBond.cells) xs58)] := hs
        refine wpO_nil ?_
        refine wpL_seq ?_
        refine wpL_region ?_
        refine sY hf hs rfl rfl rfl (Y_move rfl rfl) ?_; clear hf; intro a hf
        refine sY hf hs rfl rfl rfl (Y_add rfl rfl rfl) ?_; clear hf; intro a hf
        refine sY hf hs rfl rfl rfl (Y_assign rfl rfl) ?_; clear hf; intro a hf
        refine wpO_nil ?_
        refine wpL_seq ?_
        refine wpL_region ?_
        refine sY hf hs rfl rfl rfl (Y_move rfl rfl) ?_; clear hf; intro a hf
        refine sY hf hs rfl rfl rfl (Y_move rfl rfl) ?_; clear hf; intro a hf
        refine sY hf hs rfl rfl rfl (Y_move rfl rfl) ?_; clear hf; intro a hf
        obtain ⟨q60, hi61, hm53⟩ := bind_some hm53
        obtain ⟨hi61a, hi61b, hi61q⟩ := idx_some hi61
        refine sY hf hs rfl rfl rfl (Y_index rfl rfl rfl el41 ti91 (Rd.isAt (hs.rd (i := 0) rfl) (recs_at (s := 3) GBond.len hi61q (j := 0) rfl)) hi61a (ltn ((hn32).trans (upd_len hu59).symm) hi61b)) ?_; clear hf; intro a hf
        refine sY hf hs rfl rfl rfl (Y_fieldAddrE rfl rfl fo91_1) ?_; clear hf; intro a hf
        obtain ⟨xs62, hu63, hm53⟩ := bind_some hm53
        refine sStoreF (i := 0) (s := 3) (fo := 1) (f := GBond.cells) (x' := (GBond.mk q60.From (IntKind.i64.wrap (x33 + 1)) q60.Least)) hf hs rfl rfl rfl rfl rfl rfl hi61q hu63 ti2 rfl rfl rfl GBond.len rfl rfl ?_; clear hs; intro w hs
        have hs : St (muA A_p0_a_1) W w [.row A_p0_a_1 p0_a.length c_p0_a_1 91 3 ((recs GBond.cells) xs62)] := hs
        refine wpO_nil ?_
        refine wpL_seq ?_
        refine wpL_region ?_
        refine sY hf hs rfl rfl rfl (Y_move rfl rfl) ?_; clear hf; intro a hf
        refine sY hf hs rfl rfl rfl (Y_add rfl rfl rfl) ?_; clear hf; intro a hf
        refine sY hf hs rfl rfl rfl (Y_assign rfl rfl) ?_; clear hf; intro a hf
        refine wpO_nil ?_
        refine wpL_seq ?_
        refine wpL_region ?_
        refine sY hf hs rfl rfl rfl (Y_move rfl rfl) ?_; clear hf; intro a hf
        refine sY hf hs rfl rfl rfl (Y_move rfl rfl) ?_; clear hf; intro a hf
        refine sY hf hs rfl rfl rfl (Y_move rfl rfl) ?_; clear hf; intro a hf
        obtain ⟨q64, hi65, hm53⟩ := bind_some hm53
        obtain ⟨hi65a, hi65b, hi65q⟩ := idx_some hi65
        refine sY hf hs rfl rfl rfl (Y_index rfl rfl rfl el41 ti91 (Rd.isAt (hs.rd (i := 0) rfl) (recs_at (s := 3) GBond.len hi65q (j := 0) rfl)) hi65a (ltn ((((hn32).trans (upd_len hu59).symm)).trans (upd_len hu63).symm) hi65b)) ?_; clear hf; intro a hf
        refine sY hf hs rfl rfl rfl (Y_fieldAddrE rfl rfl fo91_2) ?_; clear hf; intro a hf
        obtain ⟨xs66, hu67, hm53⟩ := bind_some hm53
        refine sStoreF (i := 0) (s := 3) (fo := 2) (f := GBond.cells) (x' := (GBond.mk q64.From q64.To (IntKind.i64.wrap ((IntKind.i64.wrap (x33 + 1)) + 1)))) hf hs rfl rfl rfl rfl rfl rfl hi65q hu67 ti2 rfl rfl rfl GBond.len rfl rfl ?_; clear hs; intro w hs
        have hs : St (muA A_p0_a_1) W w [.row A_p0_a_1 p0_a.length c_p0_a_1 91 3 ((recs GBond.cells) xs66)] := hs
        refine wpO_nil ?_
        refine wpL_region ?_
        refine sY hf hs rfl rfl rfl (Y_move rfl rfl) ?_; clear hf; intro a hf
        refine sY hf hs rfl rfl rfl (Y_add rfl rfl rfl) ?_; clear hf; intro a hf
        refine sY hf hs rfl rfl rfl (Y_assign rfl rfl) ?_; clear hf; intro a hf
        refine wpO_nil ?_
        refine wpL_nil (Qb_normal ?_)
        refine wpL_region ?_
        refine sY hf hs rfl rfl rfl (Y_move rfl rfl) ?_; clear hf; intro a hf
        refine sY hf hs rfl rfl rfl (Y_add rfl rfl rfl) ?_; clear hf; intro a hf
        refine sY hf hs rfl rfl rfl (Y_assign rfl rfl) ?_; clear hf; intro a hf
        refine wpO_nil ?_
        refine wpL_nil (Ql_normal ?_)
        exact ⟨xs66, (IntKind.i64.wrap ((IntKind.i64.wrap ((IntKind.i64.wrap (x33 + 1)) + 1)) + 1)), (IntKind.i64.wrap (x34 + 1)), hm53, ((((((hn32).trans (upd_len hu59).symm)).trans (upd_len hu63).symm)).trans (upd_len hu67).symm), (FrD.pick (FrD.pick (FrD.pick hf.none hf rfl) hf rfl) hf rfl), hs⟩
      · have hm53 := bif_f hm53 hb55
        refine wpL_exit (Ql_exit (Qb_exit ?_))
        exact ⟨xs31, x33, Option.some.inj hm53, hn32, (FrD.pick hf.none hf rfl), hs⟩
  · rintro a w ⟨xs48, x50, hr_, hn49, hf, hs⟩
    subst hr_
    try dsimp only at hm
    refine wpL_seq ?_
    refine wpL_region ?_
    refine sY hf hs rfl rfl rfl (Y_move rfl rfl) ?_; clear hf; intro a hf
    refine sY hf hs rfl rfl rfl (Y_assign rfl rfl) ?_; clear hf; intro a hf
    refine wpO_nil ?_
    obtain rfl := Option.some.inj hm
    refine wpL_ret (ret_tmp rfl hf rfl ?_)
    exact ⟨_, rfl, rfl, hn49, hs⟩

set_option maxRecDepth 100000 in
theorem laws_markInt64S_ok (F : Nat) (p0_a : List Int) (A_p0_a_1 : Option Addr) (n_p0_a_1 c_p0_a_1 : Nat) (hn_p0_a_1 : n_p0_a_1 = p0_a.length) (p1_k : Int) (r : (Int) × List Int) (W : World) (hm : laws_markInt64S F p0_a p1_k = some r) (h_p0_a_1 : (Res.row A_p0_a_1 n_p0_a_1 c_p0_a_1 2 1 (ints p0_a) : Res).holds 0 W) :
    Calls Try.prog 17 [.slice A_p0_a_1 n_p0_a_1 c_p0_a_1, .int .i64 p1_k].toArray W fun e w' => ∃ v, e = .returned v ∧ v = .int .i64 r.1 ∧ n_p0_a_1 = r.2.length ∧ St (muA A_p0_a_1) W w' [.row A_p0_a_1 n_p0_a_1 c_p0_a_1 2 1 (ints r.2)] := by
  subst hn_p0_a_1
  unfold laws_markInt64S at hm
  refine Calls.enter (N := 19) Try.func17 rfl rfl rfl (fun a hf => ?_)
  have hs : St (muA A_p0_a_1) W W [.row A_p0_a_1 p0_a.length c_p0_a_1 2 1 (ints p0_a)] := St.startMut h_p0_a_1 (fun b hb => mem_muA hb)
  obtain ⟨w, hw_⟩ : ∃ w, w = W := ⟨W, rfl⟩
  clear hw_ w
  refine wpL_seq ?_
  refine wpL_region ?_
  refine sY hf hs rfl rfl rfl (Y_assign rfl rfl) ?_; clear hf; intro a hf
  refine wpO_nil ?_
  refine wpL_seq ?_
  refine wpL_seq ?_
  refine wpL_region ?_
  refine sY hf hs rfl rfl rfl (Y_assign rfl rfl) ?_; clear hf; intro a hf
  refine wpO_nil ?_
  obtain ⟨r27, hl28, hm⟩ := bind_some hm
  refine wpL_block (fun a w => ∃ xs24 : List Int, ∃ x26 : Int, (xs24, x26) = r27 ∧ p0_a.length = xs24.length ∧ Fr a 19 [(1, .int .i64 x26)] ∧ St (muA A_p0_a_1) W w [.row A_p0_a_1 p0_a.length c_p0_a_1 2 1 (ints xs24)]) ?_ ?_
  · refine wpL_loop (fun n a w => ∃ xs15 : List Int, ∃ x17 : Int, ∃ x18 : Int, laws_markInt64S_L1 F n xs15 x17 x18 = some r27 ∧ p0_a.length = xs15.length ∧ Fr a 19 [(0, .slice A_p0_a_1 p0_a.length c_p0_a_1), (1, .int .i64 x17), (5, .int .i64 x18)] ∧ St (muA A_p0_a_1) W w [.row A_p0_a_1 p0_a.length c_p0_a_1 2 1 (ints xs15)]) F ?_ ?_ ?_
    · exact ⟨p0_a, p1_k, 0, hl28, rfl, (FrD.pick (FrD.pick (FrD.pick hf.none hf rfl) hf rfl) hf rfl), hs⟩
    · rintro a w ⟨xs15, x17, x18, h0_, -, -, -⟩; simp [laws_markInt64S_L1] at h0_
    · rintro n30 a w ⟨xs15, x17, x18, hm29, hn16, hf, hs⟩
      rw [laws_markInt64S_L1] at hm29
      refine wpL_seq ?_
      refine wpL_seq ?_
      refine wpL_region ?_
      refine sY hf hs rfl rfl rfl (Y_move rfl rfl) ?_; clear hf; intro a hf
      refine sY hf hs rfl rfl rfl (Y_move rfl rfl) ?_; clear hf; intro a hf
      refine sY hf hs rfl rfl rfl (Y_lenH rfl rfl el23 hn16) ?_; clear hf; intro a hf
      refine sY hf hs rfl rfl rfl (Y_lss rfl rfl rfl) ?_; clear hf; intro a hf
      refine wpO_nil ?_
      refine wpL_cond hf rfl (fun hb31 => ?_) (fun hb31 => ?_)
      · have hm29 := bif_t hm29 hb31
        refine wpL_skip ?_
        refine wpL_seq ?_
        refine wpL_block0 ?_
        refine wpL_seq ?_
        refine wpL_region ?_
        refine sY hf hs rfl rfl rfl (Y_move rfl rfl) ?_; clear hf; intro a hf
        refine sY hf hs rfl rfl rfl (Y_move rfl rfl) ?_; clear hf; intro a hf
        refine sY hf hs rfl rfl rfl (Y_move rfl rfl) ?_; clear hf; intro a hf
        obtain ⟨q32, hi33, hm29⟩ := bind_some hm29
        obtain ⟨hi33a, hi33b, hi33q⟩ := idx_some hi33
        refine sY hf hs rfl rfl rfl (Y_index rfl rfl rfl el23 ti2 (Rd.isAt (hs.rd (i := 0) rfl) (at1 (ints_at hi33q))) hi33a (ltn hn16 hi33b)) ?_; clear hf; intro a hf
        obtain ⟨xs34, hu35, hm29⟩ := bind_some hm29
        refine sStoreL (i := 0) (us := [.int .i64 x17]) (enc := ints) hf hs rfl rfl rfl rfl rfl rfl hn16 hu35 ti2 rfl rfl rfl rfl rfl ints_len1 (ints_set x17) ?_; clear hs; intro w hs
        have hs : St (muA A_p0_a_1) W w [.row A_p0_a_1 p0_a.length c_p0_a_1 2 1 (ints xs34)] := hs
        refine wpO_nil ?_
        refine wpL_region ?_
        refine sY hf hs rfl rfl rfl (Y_move rfl rfl) ?_; clear hf; intro a hf
        refine sY hf hs rfl rfl rfl (Y_add rfl rfl rfl) ?_; clear hf; intro a hf
        refine sY hf hs rfl rfl rfl (Y_assign rfl rfl) ?_; clear hf; intro a hf
        refine wpO_nil ?_
        refine wpL_nil (Qb_normal ?_)
        refine wpL_region ?_
        refine sY hf hs rfl rfl rfl (Y_move rfl rfl) ?_; clear hf; intro a hf
        refine sY hf hs rfl rfl rfl (Y_add rfl rfl rfl) ?_; clear hf; intro a hf
        refine sY hf hs rfl rfl rfl (Y_assign rfl rfl) ?_; clear hf; intro a hf
        refine wpO_nil ?_
        refine wpL_nil (Ql_normal ?_)
        exact ⟨xs34, (IntKind.i64.wrap (x17 + 1)), (IntKind.i64.wrap (x18 + 1)), hm29, ((hn16).trans (upd_len hu35).symm), (FrD.pick (FrD.pick (FrD.pick hf.none hf rfl) hf rfl) hf rfl), hs⟩
      · have hm29 := bif_f hm29 hb31
        refine wpL_exit (Ql_exit (Qb_exit ?_))
        exact ⟨xs15, x17, Option.some.inj hm29, hn16, (FrD.pick hf.none hf rfl), hs⟩
  · rintro a w ⟨xs24, x26, hr_, hn25, hf, hs⟩
    subst hr_
    try dsimp only at hm
    refine wpL_seq ?_
    refine wpL_region ?_
    refine sY hf hs rfl rfl rfl (Y_move rfl rfl) ?_; clear hf; intro a hf
    refine sY hf hs rfl rfl rfl (Y_assign rfl rfl) ?_; clear hf; intro a hf
    refine wpO_nil ?_
    obtain rfl := Option.some.inj hm
    refine wpL_ret (ret_tmp rfl hf rfl ?_)
    exact ⟨_, rfl, rfl, hn25, hs⟩

set_option maxRecDepth 100000 in
theorem laws_heldInt64S_ok (F : Nat) (p0_a : List Int) (A_p0_a_1 : Option Addr) (n_p0_a_1 c_p0_a_1 : Nat) (hn_p0_a_1 : n_p0_a_1 = p0_a.length) (p1_k : Int) (r : Int) (W : World) (hm : laws_heldInt64S F p0_a p1_k = some r) (h_p0_a_1 : Rd W A_p0_a_1 (ints p0_a)) :
    Calls Try.prog 18 [.slice A_p0_a_1 n_p0_a_1 c_p0_a_1, .int .i64 p1_k].toArray W fun e w' => ∃ v, e = .returned v ∧ v = .int .i64 r ∧ St [] W w' [] := by
  subst hn_p0_a_1
  unfold laws_heldInt64S at hm
  refine Calls.enter (N := 21) Try.func18 rfl rfl rfl (fun a hf => ?_)
  have hs := St.start W
  obtain ⟨w, hw_⟩ : ∃ w, w = W := ⟨W, rfl⟩
  clear hw_ w
  refine wpL_seq ?_
  refine wpL_region ?_
  refine sY hf hs rfl rfl rfl (Y_assign rfl rfl) ?_; clear hf; intro a hf
  refine wpO_nil ?_
  refine wpL_seq ?_
  refine wpL_seq ?_
  refine wpL_region ?_
  refine sY hf hs rfl rfl rfl (Y_assign rfl rfl) ?_; clear hf; intro a hf
  refine wpO_nil ?_
  obtain ⟨r18, hl19, hm⟩ := bind_some hm
  refine wpL_block (fun a w => ∃ x17 : Int, Sum.inr x17 = r18 ∧ Fr a 21 [(1, .int .i64 x17)] ∧ St [] W w []) ?_ ?_
  · refine wpL_loop (fun n a w => ∃ x11 : Int, ∃ x12 : Int, laws_heldInt64S_L1 F p0_a n x11 x12 = some r18 ∧ Fr a 21 [(0, .slice A_p0_a_1 p0_a.length c_p0_a_1), (1, .int .i64 x11), (5, .int .i64 x12)] ∧ St [] W w []) F ?_ ?_ ?_
    · exact ⟨p1_k, 0, hl19, (FrD.pick (FrD.pick (FrD.pick hf.none hf rfl) hf rfl) hf rfl), hs⟩
    · rintro a w ⟨x11, x12, h0_, -, -⟩; simp [laws_heldInt64S_L1] at h0_
    · rintro n21 a w ⟨x11, x12, hm20, hf, hs⟩
      rw [laws_heldInt64S_L1] at hm20
      refine wpL_seq ?_
      refine wpL_seq ?_
      refine wpL_region ?_
      refine sY hf hs rfl rfl rfl (Y_move rfl rfl) ?_; clear hf; intro a hf
      refine sY hf hs rfl rfl rfl (Y_move rfl rfl) ?_; clear hf; intro a hf
      refine sY hf hs rfl rfl rfl (Y_lenH rfl rfl el23 rfl) ?_; clear hf; intro a hf
      refine sY hf hs rfl rfl rfl (Y_lss rfl rfl rfl) ?_; clear hf; intro a hf
      refine wpO_nil ?_
      refine wpL_cond hf rfl (fun hb22 => ?_) (fun hb22 => ?_)
      · have hm20 := bif_t hm20 hb22
        refine wpL_skip ?_
        refine wpL_seq ?_
        refine wpL_block0 ?_
        refine wpL_seq ?_
        refine wpL_seq ?_
        refine wpL_region ?_
        refine sY hf hs rfl rfl rfl (Y_move rfl rfl) ?_; clear hf; intro a hf
        refine sY hf hs rfl rfl rfl (Y_move rfl rfl) ?_; clear hf; intro a hf
        obtain ⟨q23, hi24, hm20⟩ := bind_some hm20
        obtain ⟨hi24a, hi24b, hi24q⟩ := idx_some hi24
        refine sY hf hs rfl rfl rfl (Y_index rfl rfl rfl el23 ti2 (Rd.isAt (h_p0_a_1.at hs) (at1 (ints_at hi24q))) hi24a hi24b) ?_; clear hf; intro a hf
        refine sY hf hs rfl rfl rfl (Y_load_rd rfl rfl (fun w hs => h_p0_a_1.at hs) (at1 (ints_at hi24q)) ag2) ?_; clear hf; intro a hf
        refine sY hf hs rfl rfl rfl (Y_move rfl rfl) ?_; clear hf; intro a hf
        refine sY hf hs rfl rfl rfl (Y_neq rfl rfl rfl) ?_; clear hf; intro a hf
        refine wpO_nil ?_
        refine wpL_cond hf rfl (fun hb25 => ?_) (fun hb25 => ?_)
        · have hm20 := bif_t hm20 hb25
          refine wpL_seq ?_
          refine wpL_region ?_
          refine sY hf hs rfl rfl rfl (Y_assign rfl rfl) ?_; clear hf; intro a hf
          refine wpO_nil ?_
          obtain rfl := Option.some.inj hm20
          try dsimp only at hm
          obtain rfl := Option.some.inj hm
          refine wpL_ret (Qb_ret (Ql_ret (Qb_ret (ret_tmp rfl hf rfl ?_))))
          exact ⟨_, rfl, rfl, hs⟩
        · have hm20 := bif_f hm20 hb25
          refine wpL_skip ?_
          refine wpL_region ?_
          refine sY hf hs rfl rfl rfl (Y_move rfl rfl) ?_; clear hf; intro a hf
          refine sY hf hs rfl rfl rfl (Y_add rfl rfl rfl) ?_; clear hf; intro a hf
          refine sY hf hs rfl rfl rfl (Y_assign rfl rfl) ?_; clear hf; intro a hf
          refine wpO_nil ?_
          refine wpL_nil (Qb_normal ?_)
          refine wpL_region ?_
          refine sY hf hs rfl rfl rfl (Y_move rfl rfl) ?_; clear hf; intro a hf
          refine sY hf hs rfl rfl rfl (Y_add rfl rfl rfl) ?_; clear hf; intro a hf
          refine sY hf hs rfl rfl rfl (Y_assign rfl rfl) ?_; clear hf; intro a hf
          refine wpO_nil ?_
          refine wpL_nil (Ql_normal ?_)
          exact ⟨(IntKind.i64.wrap (x11 + 1)), (IntKind.i64.wrap (x12 + 1)), hm20, (FrD.pick (FrD.pick (FrD.pick hf.none hf rfl) hf rfl) hf rfl), hs⟩
      · have hm20 := bif_f hm20 hb22
        refine wpL_exit (Ql_exit (Qb_exit ?_))
        exact ⟨x11, Option.some.inj hm20, (FrD.pick hf.none hf rfl), hs⟩
  · rintro a w ⟨x17, hr_, hf, hs⟩
    subst hr_
    try dsimp only at hm
    refine wpL_seq ?_
    refine wpL_region ?_
    refine sY hf hs rfl rfl rfl (Y_move rfl rfl) ?_; clear hf; intro a hf
    refine sY hf hs rfl rfl rfl (Y_assign rfl rfl) ?_; clear hf; intro a hf
    refine wpO_nil ?_
    obtain rfl := Option.some.inj hm
    refine wpL_ret (ret_tmp rfl hf rfl ?_)
    exact ⟨_, rfl, rfl, hs⟩

set_option maxHeartbeats 2000000 in
set_option maxRecDepth 100000 in
theorem laws_FnExactFindSqueeze_ok (F : Nat) (p0 : List LWindow) (A_p0_1 : Option Addr) (n_p0_1 c_p0_1 : Nat) (hn_p0_1 : n_p0_1 = p0.length) (p1 : List LBond) (A_p1_1 : Option Addr) (n_p1_1 c_p1_1 : Nat) (hn_p1_1 : n_p1_1 = p1.length) (r : Bool) (W : World) (hm : laws_FnExactFindSqueeze F p0 p1 = some r) (h_p0_1 : Rd W A_p0_1 ((recs LWindow.cells) p0)) (h_p1_1 : Rd W A_p1_1 ((recs LBond.cells) p1)) :
    Calls Try.prog 5 [.slice A_p0_1 n_p0_1 c_p0_1, .slice A_p1_1 n_p1_1 c_p1_1].toArray W fun e w' => ∃ v, e = .returned v ∧ v = .bool r ∧ St [] W w' [] := by
  subst hn_p0_1
  subst hn_p1_1
  unfold laws_FnExactFindSqueeze at hm
  refine Calls.enter (N := 119) Try.func5 rfl rfl rfl (fun a hf => ?_)
  have hs := St.start W
  obtain ⟨w, hw_⟩ : ∃ w, w = W := ⟨W, rfl⟩
  clear hw_ w
  refine wpL_seq ?_
  refine wpL_region ?_
  refine sY hf hs rfl rfl rfl (Y_assign rfl rfl) ?_; clear hf; intro a hf
  refine wpO_nil ?_
  refine wpL_seq ?_
  refine wpL_region ?_
  refine sY hf hs rfl rfl rfl (Y_assign rfl rfl) ?_; clear hf; intro a hf
  refine wpO_nil ?_
  refine wpL_seq ?_
  refine wpL_region ?_
  refine sY hf hs rfl rfl rfl (Y_move rfl rfl) ?_; clear hf; intro a hf
  refine sY hf hs rfl rfl rfl (Y_move rfl rfl) ?_; clear hf; intro a hf
  obtain ⟨r1, hc2, hm⟩ := bind_some hm
  refine sCall hf rfl rfl rfl rfl (cap := []) rfl rfl en21 (laws_szWindowS_ok F p0 A_p0_1 p0.length c_p0_1 rfl 1048576 _ _ hc2 (h_p0_1.at hs)) ?_; clear hf
  rintro _ w ⟨rfl, hs1⟩ a hf
  have hs : St [] W w [] := hs.ext hs1.below
  clear hs1
  refine sY hf hs rfl rfl rfl (Y_assign rfl rfl) ?_; clear hf; intro a hf
  refine wpO_nil ?_
  refine wpL_seq ?_
  refine wpL_seq ?_
  refine wpL_region ?_
  refine sY hf hs rfl rfl rfl (Y_move rfl rfl) ?_; clear hf; intro a hf
  refine sY hf hs rfl rfl rfl (Y_lss rfl rfl rfl) ?_; clear hf; intro a hf
  refine wpO_nil ?_
  refine wpL_cond hf rfl (fun hb3 => ?_) (fun hb3 => ?_)
  · have hm := bif_t hm hb3
    refine wpL_seq ?_
    refine wpL_region ?_
    refine sY hf hs rfl rfl rfl (Y_assign rfl rfl) ?_; clear hf; intro a hf
    refine wpO_nil ?_
    obtain rfl := Option.some.inj hm
    refine wpL_ret (ret_tmp rfl hf rfl ?_)
    exact ⟨_, rfl, rfl, hs⟩
  · have hm := bif_f hm hb3
    refine wpL_skip ?_
    refine wpL_seq ?_
    refine wpL_region ?_
    refine sY hf hs rfl rfl rfl (Y_move rfl rfl) ?_; clear hf; intro a hf
    refine sY hf hs rfl rfl rfl (Y_move rfl rfl) ?_; clear hf; intro a hf
    obtain ⟨r4, hc5, hm⟩ := bind_some hm
    refine sCall hf rfl rfl rfl rfl (cap := []) rfl rfl en22 (laws_szBondS_ok F p1 A_p1_1 p1.length c_p1_1 rfl r1 _ _ hc5 (h_p1_1.at hs)) ?_; clear hf
    rintro _ w ⟨rfl, hs1⟩ a hf
    have hs : St [] W w [] := hs.ext hs1.below
    clear hs1
    refine sY hf hs rfl rfl rfl (Y_assign rfl rfl) ?_; clear hf; intro a hf
    refine wpO_nil ?_
    refine wpL_seq ?_
    refine wpL_seq ?_
    refine wpL_region ?_
    refine sY hf hs rfl rfl rfl (Y_move rfl rfl) ?_; clear hf; intro a hf
    refine sY hf hs rfl rfl rfl (Y_lss rfl rfl rfl) ?_; clear hf; intro a hf
    refine wpO_nil ?_
    refine wpL_cond hf rfl (fun hb6 => ?_) (fun hb6 => ?_)
    · have hm := bif_t hm hb6
      refine wpL_seq ?_
      refine wpL_region ?_
      refine sY hf hs rfl rfl rfl (Y_assign rfl rfl) ?_; clear hf; intro a hf
      refine wpO_nil ?_
      obtain rfl := Option.some.inj hm
      refine wpL_ret (ret_tmp rfl hf rfl ?_)
      exact ⟨_, rfl, rfl, hs⟩
    · have hm := bif_f hm hb6
      refine wpL_skip ?_
      refine wpL_seq ?_
      refine wpL_region ?_
      refine sY hf hs rfl rfl rfl (Y_move rfl rfl) ?_; clear hf; intro a hf
      obtain ⟨r7, hc8, hm⟩ := bind_some hm
      refine sCall hf rfl rfl rfl rfl (cap := []) rfl rfl en24 (laws_toWindowS_ok F p0 A_p0_1 p0.length c_p0_1 rfl _ _ hc8 (h_p0_1.at hs)) ?_; clear hf
      rintro _ w ⟨A9, n10, c11, rfl, hn12, hs1⟩ a hf
      have hs : St [] W w [.row A9 n10 c11 86 2 ((recs GWindow.cells) r7)] := hs.join hs1
      clear hs1
      refine sY hf hs rfl rfl rfl (Y_move rfl rfl) ?_; clear hf; intro a hf
      obtain ⟨r13, hc14, hm⟩ := bind_some hm
      refine sCall hf rfl rfl rfl rfl (cap := []) rfl rfl en25 (laws_toBondS_ok F p1 A_p1_1 p1.length c_p1_1 rfl _ _ hc14 (h_p1_1.at hs)) ?_; clear hf
      rintro _ w ⟨A15, n16, c17, rfl, hn18, hs1⟩ a hf
      have hs : St [] W w [.row A9 n10 c11 86 2 ((recs GWindow.cells) r7), .row A15 n16 c17 91 3 ((recs GBond.cells) r13)] := hs.join hs1
      clear hs1
      obtain ⟨r19, hc20, hm⟩ := bind_some hm
      refine sCall hf rfl rfl rfl rfl (cap := []) rfl rfl en23 (spec_FindSqueeze_ok F r7 A9 n10 c11 hn12 r13 A15 n16 c17 hn18 _ _ hc20 (hs.rd (i := 0) rfl) (hs.rd (i := 1) rfl)) ?_; clear hf
      rintro _ w ⟨A21, n22, c23, rfl, hn24, hs1⟩ a hf
      have hs : St [] W w [.row A9 n10 c11 86 2 ((recs GWindow.cells) r7), .row A15 n16 c17 91 3 ((recs GBond.cells) r13), .row A21 n22 c23 2 1 (ints r19.1)] := hs.join hs1
      clear hs1
      refine sY hf hs rfl rfl rfl (Y_move rfl rfl) ?_; clear hf; intro a hf
      refine sY hf hs rfl rfl rfl (Y_extract rfl rfl rfl) ?_; clear hf; intro a hf
      refine sY hf hs rfl rfl rfl (Y_extract rfl rfl rfl) ?_; clear hf; intro a hf
      refine sY hf hs rfl rfl rfl (Y_assign rfl rfl) ?_; clear hf; intro a hf
      refine sY hf hs rfl rfl rfl (Y_assign rfl rfl) ?_; clear hf; intro a hf
      refine wpO_nil ?_
      refine wpL_seq ?_
      refine wpL_region ?_
      refine sY hf hs rfl rfl rfl (Y_move rfl rfl) ?_; clear hf; intro a hf
      obtain ⟨r25, hc26, hm⟩ := bind_some hm
      refine sCall hf rfl rfl rfl rfl (cap := []) rfl rfl en24 (laws_toWindowS_ok F p0 A_p0_1 p0.length c_p0_1 rfl _ _ hc26 (h_p0_1.at hs)) ?_; clear hf
      rintro _ w ⟨A27, n28, c29, rfl, hn30, hs1⟩ a hf
      have hs : St [] W w [.row A9 n10 c11 86 2 ((recs GWindow.cells) r7), .row A15 n16 c17 91 3 ((recs GBond.cells) r13), .row A21 n22 c23 2 1 (ints r19.1), .row A27 n28 c29 86 2 ((recs GWindow.cells) r25)] := hs.join hs1
      clear hs1
      refine sY hf hs rfl rfl rfl (Y_assign rfl rfl) ?_; clear hf; intro a hf
      refine wpO_nil ?_
      refine wpL_seq ?_
      refine wpL_region ?_
      refine sY hf hs rfl rfl rfl (Y_move rfl rfl) ?_; clear hf; intro a hf
      obtain ⟨r31, hc32, hm⟩ := bind_some hm
      refine sCall hf rfl rfl rfl rfl (cap := []) rfl rfl en25 (laws_toBondS_ok F p1 A_p1_1 p1.length c_p1_1 rfl _ _ hc32 (h_p1_1.at hs)) ?_; clear hf
      rintro _ w ⟨A33, n34, c35, rfl, hn36, hs1⟩ a hf
      have hs : St [] W w [.row A9 n10 c11 86 2 ((recs GWindow.cells) r7), .row A15 n16 c17 91 3 ((recs GBond.cells) r13), .row A21 n22 c23 2 1 (ints r19.1), .row A27 n28 c29 86 2 ((recs GWindow.cells) r25), .row A33 n34 c35 91 3 ((recs GBond.cells) r31)] := hs.join hs1
      clear hs1
      refine sY hf hs rfl rfl rfl (Y_assign rfl rfl) ?_; clear hf; intro a hf
      refine wpO_nil ?_
      refine wpL_seq ?_
      refine wpL_region ?_
      refine sY hf hs rfl rfl rfl (Y_move rfl rfl) ?_; clear hf; intro a hf
      refine sY hf hs rfl rfl rfl (Y_move rfl rfl) ?_; clear hf; intro a hf
      obtain ⟨r37, hc38, hm⟩ := bind_some hm
      refine sCall hf rfl rfl rfl rfl (cap := []) rfl rfl en26 (impl_FindSqueeze_ok F r25 A27 n28 c29 hn30 r31 A33 n34 c35 hn36 _ _ hc38 (hs.rd (i := 3) rfl) (hs.rd (i := 4) rfl)) ?_; clear hf
      rintro _ w ⟨A39, n40, c41, rfl, hn42, hs1⟩ a hf
      have hs : St [] W w [.row A9 n10 c11 86 2 ((recs GWindow.cells) r7), .row A15 n16 c17 91 3 ((recs GBond.cells) r13), .row A21 n22 c23 2 1 (ints r19.1), .row A27 n28 c29 86 2 ((recs GWindow.cells) r25), .row A33 n34 c35 91 3 ((recs GBond.cells) r31), .row A39 n40 c41 2 1 (ints r37.1)] := hs.join hs1
      clear hs1
      refine sY hf hs rfl rfl rfl (Y_move rfl rfl) ?_; clear hf; intro a hf
      refine sY hf hs rfl rfl rfl (Y_extract rfl rfl rfl) ?_; clear hf; intro a hf
      refine sY hf hs rfl rfl rfl (Y_extract rfl rfl rfl) ?_; clear hf; intro a hf
      refine sY hf hs rfl rfl rfl (Y_assign rfl rfl) ?_; clear hf; intro a hf
      refine sY hf hs rfl rfl rfl (Y_assign rfl rfl) ?_; clear hf; intro a hf
      refine wpO_nil ?_
      refine wpL_seq ?_
      refine wpL_seq ?_
      obtain ⟨r47, hj48, hm⟩ := bind_some hm
      refine wpL_cut (fun a w => ∃ b46 : Bool, b46 = r47 ∧ Fr a 119 [(0, .slice A_p0_1 p0.length c_p0_1), (1, .slice A_p1_1 p1.length c_p1_1), (6, .slice A21 n22 c23), (7, .int .i64 r19.2), (8, .slice A27 n28 c29), (9, .slice A33 n34 c35), (10, .slice A39 n40 c41), (11, .int .i64 r37.2), (53, .bool b46)] ∧ St [] W w [.row A21 n22 c23 2 1 (ints r19.1), .row A27 n28 c29 86 2 ((recs GWindow.cells) r25), .row A33 n34 c35 91 3 ((recs GBond.cells) r31), .row A39 n40 c41 2 1 (ints r37.1)]) ?_ ?_
      · refine wpL_region ?_
        refine sY hf hs rfl rfl rfl (Y_move rfl rfl) ?_; clear hf; intro a hf
        refine sY hf hs rfl rfl rfl (Y_move rfl rfl) ?_; clear hf; intro a hf
        obtain ⟨r49, hc50, hj48⟩ := bind_some hj48
        refine sCall hf rfl rfl rfl rfl (cap := []) rfl rfl en14 (laws_eqInt64S_ok F r37.1 A39 n40 c41 hn42 r19.1 A21 n22 c23 hn24 _ _ hc50 (hs.rd (i := 5) rfl) (hs.rd (i := 2) rfl)) ?_; clear hf
        rintro _ w ⟨rfl, hs1⟩ a hf
        have hs : St [] W w [.row A9 n10 c11 86 2 ((recs GWindow.cells) r7), .row A15 n16 c17 91 3 ((recs GBond.cells) r13), .row A21 n22 c23 2 1 (ints r19.1), .row A27 n28 c29 86 2 ((recs GWindow.cells) r25), .row A33 n34 c35 91 3 ((recs GBond.cells) r31), .row A39 n40 c41 2 1 (ints r37.1)] := hs.ext hs1.below
        clear hs1
        refine sY hf hs rfl rfl rfl (Y_not rfl rfl) ?_; clear hf; intro a hf
        refine sY hf hs rfl rfl rfl (Y_move rfl rfl) ?_; clear hf; intro a hf
        refine bsplit (!r49) (fun hb51 => ?_) (fun hb51 => ?_)
        · have hj48 := bif_t hj48 hb51
          refine sNo hf rfl rfl rfl (congrArg (fun b => some (Value.bool b)) hb51) rfl rfl rfl ?_; clear hf; intro a hf
          refine sNo hf rfl rfl rfl (congrArg (fun b => some (Value.bool b)) hb51) rfl rfl rfl ?_; clear hf; intro a hf
          refine sNo hf rfl rfl rfl (congrArg (fun b => some (Value.bool b)) hb51) rfl rfl rfl ?_; clear hf; intro a hf
          refine sY hf hs rfl rfl rfl (Y_pickT rfl (congrArg (fun b => some (Value.bool b)) hb51) rfl) ?_; clear hf; intro a hf
          refine wpO_nil ?_
          refine wpL_nil (then_normal ?_)
          exact ⟨true, Option.some.inj hj48, (FrD.pick (FrD.pick (FrD.pick (FrD.pick (FrD.pick (FrD.pick (FrD.pick (FrD.pick (FrD.pick hf.none hf rfl) hf rfl) hf rfl) hf rfl) hf rfl) hf rfl) hf rfl) hf rfl) hf rfl), hs.sel [2, 3, 4, 5] (by decide)⟩
        · have hj48 := bif_f hj48 hb51
          refine sYg hf hs rfl rfl rfl (congrArg (fun b => some (Value.bool b)) hb51) rfl rfl rfl (Y_move rfl rfl) ?_; clear hf; intro a hf
          refine sYg hf hs rfl rfl rfl (congrArg (fun b => some (Value.bool b)) hb51) rfl rfl rfl (Y_move rfl rfl) ?_; clear hf; intro a hf
          refine sYg hf hs rfl rfl rfl (congrArg (fun b => some (Value.bool b)) hb51) rfl rfl rfl (Y_neq rfl rfl rfl) ?_; clear hf; intro a hf
          refine sY hf hs rfl rfl rfl (Y_pickF rfl (congrArg (fun b => some (Value.bool b)) hb51) rfl) ?_; clear hf; intro a hf
          refine wpO_nil ?_
          refine wpL_nil (then_normal ?_)
          exact ⟨(r37.2 != r19.2), Option.some.inj hj48, (FrD.pick (FrD.pick (FrD.pick (FrD.pick (FrD.pick (FrD.pick (FrD.pick (FrD.pick (FrD.pick hf.none hf rfl) hf rfl) hf rfl) hf rfl) hf rfl) hf rfl) hf rfl) hf rfl) hf rfl), hs.sel [2, 3, 4, 5] (by decide)⟩
      · rintro a w ⟨b46, hr_, hf, hs⟩
        subst hr_
        try dsimp only at hm
        refine wpL_cond hf rfl (fun hb52 => ?_) (fun hb52 => ?_)
        · have hm := bif_t hm hb52
          refine wpL_seq ?_
          refine wpL_region ?_
          refine sY hf hs rfl rfl rfl (Y_assign rfl rfl) ?_; clear hf; intro a hf
          refine wpO_nil ?_
          obtain rfl := Option.some.inj hm
          refine wpL_ret (ret_tmp rfl hf rfl ?_)
          exact ⟨_, rfl, rfl, hs.sel [] (by decide)⟩
        · have hm := bif_f hm hb52
          refine wpL_skip ?_
          refine wpL_seq ?_
          refine wpL_seq ?_
          refine wpL_region ?_
          refine sY hf hs rfl rfl rfl (Y_move rfl rfl) ?_; clear hf; intro a hf
          refine sY hf hs rfl rfl rfl (Y_move rfl rfl) ?_; clear hf; intro a hf
          obtain ⟨r53, hc54, hm⟩ := bind_some hm
          refine sCall hf rfl rfl rfl rfl (cap := []) rfl rfl en24 (laws_toWindowS_ok F p0 A_p0_1 p0.length c_p0_1 rfl _ _ hc54 (h_p0_1.at hs)) ?_; clear hf
          rintro _ w ⟨A55, n56, c57, rfl, hn58, hs1⟩ a hf
          have hs : St [] W w [.row A21 n22 c23 2 1 (ints r19.1), .row A27 n28 c29 86 2 ((recs GWindow.cells) r25), .row A33 n34 c35 91 3 ((recs GBond.cells) r31), .row A39 n40 c41 2 1 (ints r37.1), .row A55 n56 c57 86 2 ((recs GWindow.cells) r53)] := hs.join hs1
          clear hs1
          obtain ⟨r59, hc60, hm⟩ := bind_some hm
          refine sCall hf rfl rfl rfl rfl (cap := []) rfl rfl en27 (laws_eqWindowS_ok F r25 A27 n28 c29 hn30 r53 A55 n56 c57 hn58 _ _ hc60 (hs.rd (i := 1) rfl) (hs.rd (i := 4) rfl)) ?_; clear hf
          rintro _ w ⟨rfl, hs1⟩ a hf
          have hs : St [] W w [.row A21 n22 c23 2 1 (ints r19.1), .row A27 n28 c29 86 2 ((recs GWindow.cells) r25), .row A33 n34 c35 91 3 ((recs GBond.cells) r31), .row A39 n40 c41 2 1 (ints r37.1), .row A55 n56 c57 86 2 ((recs GWindow.cells) r53)] := hs.ext hs1.below
          clear hs1
          refine sY hf hs rfl rfl rfl (Y_not rfl rfl) ?_; clear hf; intro a hf
          refine wpO_nil ?_
          refine wpL_cond hf rfl (fun hb61 => ?_) (fun hb61 => ?_)
          · have hm := bif_t hm hb61
            refine wpL_seq ?_
            refine wpL_region ?_
            refine sY hf hs rfl rfl rfl (Y_assign rfl rfl) ?_; clear hf; intro a hf
            refine wpO_nil ?_
            obtain rfl := Option.some.inj hm
            refine wpL_ret (ret_tmp rfl hf rfl ?_)
            exact ⟨_, rfl, rfl, hs.sel [] (by decide)⟩
          · have hm := bif_f hm hb61
            refine wpL_skip ?_
            refine wpL_seq ?_
            refine wpL_seq ?_
            refine wpL_region ?_
            refine sY hf hs rfl rfl rfl (Y_move rfl rfl) ?_; clear hf; intro a hf
            refine sY hf hs rfl rfl rfl (Y_move rfl rfl) ?_; clear hf; intro a hf
            obtain ⟨r62, hc63, hm⟩ := bind_some hm
            refine sCall hf rfl rfl rfl rfl (cap := []) rfl rfl en25 (laws_toBondS_ok F p1 A_p1_1 p1.length c_p1_1 rfl _ _ hc63 (h_p1_1.at hs)) ?_; clear hf
            rintro _ w ⟨A64, n65, c66, rfl, hn67, hs1⟩ a hf
            have hs : St [] W w [.row A21 n22 c23 2 1 (ints r19.1), .row A27 n28 c29 86 2 ((recs GWindow.cells) r25), .row A33 n34 c35 91 3 ((recs GBond.cells) r31), .row A39 n40 c41 2 1 (ints r37.1), .row A55 n56 c57 86 2 ((recs GWindow.cells) r53), .row A64 n65 c66 91 3 ((recs GBond.cells) r62)] := hs.join hs1
            clear hs1
            obtain ⟨r68, hc69, hm⟩ := bind_some hm
            refine sCall hf rfl rfl rfl rfl (cap := []) rfl rfl en28 (laws_eqBondS_ok F r31 A33 n34 c35 hn36 r62 A64 n65 c66 hn67 _ _ hc69 (hs.rd (i := 2) rfl) (hs.rd (i := 5) rfl)) ?_; clear hf
            rintro _ w ⟨rfl, hs1⟩ a hf
            have hs : St [] W w [.row A21 n22 c23 2 1 (ints r19.1), .row A27 n28 c29 86 2 ((recs GWindow.cells) r25), .row A33 n34 c35 91 3 ((recs GBond.cells) r31), .row A39 n40 c41 2 1 (ints r37.1), .row A55 n56 c57 86 2 ((recs GWindow.cells) r53), .row A64 n65 c66 91 3 ((recs GBond.cells) r62)] := hs.ext hs1.below
            clear hs1
            refine sY hf hs rfl rfl rfl (Y_not rfl rfl) ?_; clear hf; intro a hf
            refine wpO_nil ?_
            refine wpL_cond hf rfl (fun hb70 => ?_) (fun hb70 => ?_)
            · have hm := bif_t hm hb70
              refine wpL_seq ?_
              refine wpL_region ?_
              refine sY hf hs rfl rfl rfl (Y_assign rfl rfl) ?_; clear hf; intro a hf
              refine wpO_nil ?_
              obtain rfl := Option.some.inj hm
              refine wpL_ret (ret_tmp rfl hf rfl ?_)
              exact ⟨_, rfl, rfl, hs.sel [] (by decide)⟩
            · have hm := bif_f hm hb70
              refine wpL_skip ?_
              refine wpL_seq ?_
              refine wpL_region ?_
              refine sY hf hs rfl rfl rfl (Y_assign rfl rfl) ?_; clear hf; intro a hf
              refine wpO_nil ?_
              refine wpL_seq ?_
              refine wpL_region ?_
              refine sY hf hs rfl rfl rfl (Y_move rfl rfl) ?_; clear hf; intro a hf
              refine sY hf hs rfl rfl rfl (Y_move rfl rfl) ?_; clear hf; intro a hf
              obtain ⟨r71, hc72, hm⟩ := bind_some hm
              refine sCall hf rfl rfl rfl rfl (cap := []) rfl rfl en29 (laws_markWindowS_ok F r25 A27 n28 c29 hn30 1 _ _ hc72 (hs.res _ _ (show _[1]? = some _ from rfl))) ?_; clear hf
              rintro _ w ⟨rfl, hn73, hs1⟩ a hf
              have hs : St [] W w [.row A21 n22 c23 2 1 (ints r19.1), .row A27 n28 c29 86 2 ((recs GWindow.cells) r71.2), .row A33 n34 c35 91 3 ((recs GBond.cells) r31), .row A39 n40 c41 2 1 (ints r37.1), .row A55 n56 c57 86 2 ((recs GWindow.cells) r53), .row A64 n65 c66 91 3 ((recs GBond.cells) r62)] := hs.mut (i := 1) rfl (fun b hb => muA_mem hb) hs1
              clear hs1
              refine sY hf hs rfl rfl rfl (Y_assign rfl rfl) ?_; clear hf; intro a hf
              refine wpO_nil ?_
              refine wpL_seq ?_
              refine wpL_region ?_
              refine sY hf hs rfl rfl rfl (Y_move rfl rfl) ?_; clear hf; intro a hf
              refine sY hf hs rfl rfl rfl (Y_move rfl rfl) ?_; clear hf; intro a hf
              obtain ⟨r74, hc75, hm⟩ := bind_some hm
              refine sCall hf rfl rfl rfl rfl (cap := []) rfl rfl en30 (laws_markBondS_ok F r31 A33 n34 c35 hn36 r71.1 _ _ hc75 (hs.res _ _ (show _[2]? = some _ from rfl))) ?_; clear hf
              rintro _ w ⟨rfl, hn76, hs1⟩ a hf
              have hs : St [] W w [.row A21 n22 c23 2 1 (ints r19.1), .row A27 n28 c29 86 2 ((recs GWindow.cells) r71.2), .row A33 n34 c35 91 3 ((recs GBond.cells) r74.2), .row A39 n40 c41 2 1 (ints r37.1), .row A55 n56 c57 86 2 ((recs GWindow.cells) r53), .row A64 n65 c66 91 3 ((recs GBond.cells) r62)] := hs.mut (i := 2) rfl (fun b hb => muA_mem hb) hs1
              clear hs1
              refine sY hf hs rfl rfl rfl (Y_assign rfl rfl) ?_; clear hf; intro a hf
              refine wpO_nil ?_
              refine wpL_seq ?_
              refine wpL_seq ?_
              obtain ⟨r82, hj83, hm⟩ := bind_some hm
              refine wpL_cut (fun a w => ∃ b81 : Bool, b81 = r82 ∧ Fr a 119 [(0, .slice A_p0_1 p0.length c_p0_1), (1, .slice A_p1_1 p1.length c_p1_1), (6, .slice A21 n22 c23), (7, .int .i64 r19.2), (10, .slice A39 n40 c41), (82, .bool b81)] ∧ St [] W w [.row A21 n22 c23 2 1 (ints r19.1), .row A39 n40 c41 2 1 (ints r37.1)]) ?_ ?_
              · refine wpL_region ?_
                refine sY hf hs rfl rfl rfl (Y_move rfl rfl) ?_; clear hf; intro a hf
                refine sY hf hs rfl rfl rfl (Y_lss rfl rfl rfl) ?_; clear hf; intro a hf
                refine sY hf hs rfl rfl rfl (Y_move rfl rfl) ?_; clear hf; intro a hf
                refine bsplit (decide (r74.1 < 0)) (fun hb84 => ?_) (fun hb84 => ?_)
                · have hj83 := bif_t hj83 hb84
                  refine sNo hf rfl rfl rfl (congrArg (fun b => some (Value.bool b)) hb84) rfl rfl rfl ?_; clear hf; intro a hf
                  refine sNo hf rfl rfl rfl (congrArg (fun b => some (Value.bool b)) hb84) rfl rfl rfl ?_; clear hf; intro a hf
                  refine sNo hf rfl rfl rfl (congrArg (fun b => some (Value.bool b)) hb84) rfl rfl rfl ?_; clear hf; intro a hf
                  refine sNo hf rfl rfl rfl (congrArg (fun b => some (Value.bool b)) hb84) rfl rfl rfl ?_; clear hf; intro a hf
                  refine sY hf hs rfl rfl rfl (Y_pickT rfl (congrArg (fun b => some (Value.bool b)) hb84) rfl) ?_; clear hf; intro a hf
                  refine sY hf hs rfl rfl rfl (Y_move rfl rfl) ?_; clear hf; intro a hf
                  refine sNo hf rfl rfl rfl rfl rfl rfl rfl ?_; clear hf; intro a hf
                  refine sNo hf rfl rfl rfl rfl rfl rfl rfl ?_; clear hf; intro a hf
                  refine sNo hf rfl rfl rfl rfl rfl rfl rfl ?_; clear hf; intro a hf
                  refine sY hf hs rfl rfl rfl (Y_pickT rfl rfl rfl) ?_; clear hf; intro a hf
                  refine wpO_nil ?_
                  refine wpL_nil (then_normal ?_)
                  exact ⟨true, Option.some.inj hj83, (FrD.pick (FrD.pick (FrD.pick (FrD.pick (FrD.pick (FrD.pick hf.none hf rfl) hf rfl) hf rfl) hf rfl) hf rfl) hf rfl), hs.sel [0, 3] (by decide)⟩
                · have hj83 := bif_f hj83 hb84
                  refine sYg hf hs rfl rfl rfl (congrArg (fun b => some (Value.bool b)) hb84) rfl rfl rfl (Y_move rfl rfl) ?_; clear hf; intro a hf
                  refine sYg hf hs rfl rfl rfl (congrArg (fun b => some (Value.bool b)) hb84) rfl rfl rfl (Y_move rfl rfl) ?_; clear hf; intro a hf
                  obtain ⟨r85, hc86, hj83⟩ := bind_some hj83
                  refine sCallg hf rfl rfl rfl (congrArg (fun b => some (Value.bool b)) hb84) rfl rfl rfl rfl (cap := []) rfl rfl en14 (laws_eqInt64S_ok F r37.1 A39 n40 c41 hn42 r19.1 A21 n22 c23 hn24 _ _ hc86 (hs.rd (i := 3) rfl) (hs.rd (i := 0) rfl)) ?_; clear hf
                  rintro _ w ⟨rfl, hs1⟩ a hf
                  have hs : St [] W w [.row A21 n22 c23 2 1 (ints r19.1), .row A27 n28 c29 86 2 ((recs GWindow.cells) r71.2), .row A33 n34 c35 91 3 ((recs GBond.cells) r74.2), .row A39 n40 c41 2 1 (ints r37.1), .row A55 n56 c57 86 2 ((recs GWindow.cells) r53), .row A64 n65 c66 91 3 ((recs GBond.cells) r62)] := hs.ext hs1.below
                  clear hs1
                  refine sYg hf hs rfl rfl rfl (congrArg (fun b => some (Value.bool b)) hb84) rfl rfl rfl (Y_not rfl rfl) ?_; clear hf; intro a hf
                  refine sY hf hs rfl rfl rfl (Y_pickF rfl (congrArg (fun b => some (Value.bool b)) hb84) rfl) ?_; clear hf; intro a hf
                  refine sY hf hs rfl rfl rfl (Y_move rfl rfl) ?_; clear hf; intro a hf
                  refine bsplit (!r85) (fun hb87 => ?_) (fun hb87 => ?_)
                  · have hj83 := bif_t hj83 hb87
                    refine sNo hf rfl rfl rfl (congrArg (fun b => some (Value.bool b)) hb87) rfl rfl rfl ?_; clear hf; intro a hf
                    refine sNo hf rfl rfl rfl (congrArg (fun b => some (Value.bool b)) hb87) rfl rfl rfl ?_; clear hf; intro a hf
                    refine sNo hf rfl rfl rfl (congrArg (fun b => some (Value.bool b)) hb87) rfl rfl rfl ?_; clear hf; intro a hf
                    refine sY hf hs rfl rfl rfl (Y_pickT rfl (congrArg (fun b => some (Value.bool b)) hb87) rfl) ?_; clear hf; intro a hf
                    refine wpO_nil ?_
                    refine wpL_nil (then_normal ?_)
                    exact ⟨true, Option.some.inj hj83, (FrD.pick (FrD.pick (FrD.pick (FrD.pick (FrD.pick (FrD.pick hf.none hf rfl) hf rfl) hf rfl) hf rfl) hf rfl) hf rfl), hs.sel [0, 3] (by decide)⟩
                  · have hj83 := bif_f hj83 hb87
                    refine sYg hf hs rfl rfl rfl (congrArg (fun b => some (Value.bool b)) hb87) rfl rfl rfl (Y_move rfl rfl) ?_; clear hf; intro a hf
                    refine sYg hf hs rfl rfl rfl (congrArg (fun b => some (Value.bool b)) hb87) rfl rfl rfl (Y_move rfl rfl) ?_; clear hf; intro a hf
                    refine sYg hf hs rfl rfl rfl (congrArg (fun b => some (Value.bool b)) hb87) rfl rfl rfl (Y_neq rfl rfl rfl) ?_; clear hf; intro a hf
                    refine sY hf hs rfl rfl rfl (Y_pickF rfl (congrArg (fun b => some (Value.bool b)) hb87) rfl) ?_; clear hf; intro a hf
                    refine wpO_nil ?_
                    refine wpL_nil (then_normal ?_)
                    exact ⟨(r37.2 != r19.2), Option.some.inj hj83, (FrD.pick (FrD.pick (FrD.pick (FrD.pick (FrD.pick (FrD.pick hf.none hf rfl) hf rfl) hf rfl) hf rfl) hf rfl) hf rfl), hs.sel [0, 3] (by decide)⟩
              · rintro a w ⟨b81, hr_, hf, hs⟩
                subst hr_
                try dsimp only at hm
                refine wpL_cond hf rfl (fun hb88 => ?_) (fun hb88 => ?_)
                · have hm := bif_t hm hb88
                  refine wpL_seq ?_
                  refine wpL_region ?_
                  refine sY hf hs rfl rfl rfl (Y_assign rfl rfl) ?_; clear hf; intro a hf
                  refine wpO_nil ?_
                  obtain rfl := Option.some.inj hm
                  refine wpL_ret (ret_tmp rfl hf rfl ?_)
                  exact ⟨_, rfl, rfl, hs.sel [] (by decide)⟩
                · have hm := bif_f hm hb88
                  refine wpL_skip ?_
                  refine wpL_seq ?_
                  refine wpL_region ?_
                  refine sY hf hs rfl rfl rfl (Y_assign rfl rfl) ?_; clear hf; intro a hf
                  refine wpO_nil ?_
                  refine wpL_seq ?_
                  refine wpL_region ?_
                  refine sY hf hs rfl rfl rfl (Y_move rfl rfl) ?_; clear hf; intro a hf
                  refine sY hf hs rfl rfl rfl (Y_move rfl rfl) ?_; clear hf; intro a hf
                  obtain ⟨r89, hc90, hm⟩ := bind_some hm
                  refine sCall hf rfl rfl rfl rfl (cap := []) rfl rfl en17 (laws_markInt64S_ok F r37.1 A39 n40 c41 hn42 1 _ _ hc90 (hs.res _ _ (show _[1]? = some _ from rfl))) ?_; clear hf
                  rintro _ w ⟨rfl, hn91, hs1⟩ a hf
                  have hs : St [] W w [.row A21 n22 c23 2 1 (ints r19.1), .row A39 n40 c41 2 1 (ints r89.2)] := hs.mut (i := 1) rfl (fun b hb => muA_mem hb) hs1
                  clear hs1
                  refine sY hf hs rfl rfl rfl (Y_assign rfl rfl) ?_; clear hf; intro a hf
                  refine wpO_nil ?_
                  refine wpL_seq ?_
                  refine wpL_region ?_
                  refine sY hf hs rfl rfl rfl (Y_assign rfl rfl) ?_; clear hf; intro a hf
                  refine wpO_nil ?_
                  refine wpL_seq ?_
                  refine wpL_region ?_
                  refine sY hf hs rfl rfl rfl (Y_move rfl rfl) ?_; clear hf; intro a hf
                  refine sY hf hs rfl rfl rfl (Y_move rfl rfl) ?_; clear hf; intro a hf
                  obtain ⟨r92, hc93, hm⟩ := bind_some hm
                  refine sCall hf rfl rfl rfl rfl (cap := []) rfl rfl en18 (laws_heldInt64S_ok F r89.2 A39 n40 c41 hn91 1 _ _ hc93 (hs.rd (i := 1) rfl)) ?_; clear hf
                  rintro _ w ⟨rfl, hs1⟩ a hf
                  have hs : St [] W w [.row A21 n22 c23 2 1 (ints r19.1), .row A39 n40 c41 2 1 (ints r89.2)] := hs.ext hs1.below
                  clear hs1
                  refine sY hf hs rfl rfl rfl (Y_assign rfl rfl) ?_; clear hf; intro a hf
                  refine wpO_nil ?_
                  refine wpL_seq ?_
                  refine wpL_seq ?_
                  refine wpL_region ?_
                  refine sY hf hs rfl rfl rfl (Y_move rfl rfl) ?_; clear hf; intro a hf
                  refine sY hf hs rfl rfl rfl (Y_lss rfl rfl rfl) ?_; clear hf; intro a hf
                  refine wpO_nil ?_
                  refine wpL_cond hf rfl (fun hb94 => ?_) (fun hb94 => ?_)
                  · have hm := bif_t hm hb94
                    refine wpL_seq ?_
                    refine wpL_region ?_
                    refine sY hf hs rfl rfl rfl (Y_assign rfl rfl) ?_; clear hf; intro a hf
                    refine wpO_nil ?_
                    obtain rfl := Option.some.inj hm
                    refine wpL_ret (ret_tmp rfl hf rfl ?_)
                    exact ⟨_, rfl, rfl, hs.sel [] (by decide)⟩
                  · have hm := bif_f hm hb94
                    refine wpL_skip ?_
                    refine wpL_seq ?_
                    refine wpL_seq ?_
                    refine wpL_region ?_
                    refine sY hf hs rfl rfl rfl (Y_move rfl rfl) ?_; clear hf; intro a hf
                    refine sY hf hs rfl rfl rfl (Y_move rfl rfl) ?_; clear hf; intro a hf
                    refine sY hf hs rfl rfl rfl (Y_neq rfl rfl rfl) ?_; clear hf; intro a hf
                    refine wpO_nil ?_
                    refine wpL_cond hf rfl (fun hb95 => ?_) (fun hb95 => ?_)
                    · have hm := bif_t hm hb95
                      refine wpL_seq ?_
                      refine wpL_region ?_
                      refine sY hf hs rfl rfl rfl (Y_assign rfl rfl) ?_; clear hf; intro a hf
                      refine wpO_nil ?_
                      obtain rfl := Option.some.inj hm
                      refine wpL_ret (ret_tmp rfl hf rfl ?_)
                      exact ⟨_, rfl, rfl, hs.sel [] (by decide)⟩
                    · have hm := bif_f hm hb95
                      refine wpL_skip ?_
                      refine wpL_seq ?_
                      refine wpL_region ?_
                      refine sY hf hs rfl rfl rfl (Y_move rfl rfl) ?_; clear hf; intro a hf
                      obtain ⟨r96, hc97, hm⟩ := bind_some hm
                      refine sCall hf rfl rfl rfl rfl (cap := []) rfl rfl en24 (laws_toWindowS_ok F p0 A_p0_1 p0.length c_p0_1 rfl _ _ hc97 (h_p0_1.at hs)) ?_; clear hf
                      rintro _ w ⟨A98, n99, c100, rfl, hn101, hs1⟩ a hf
                      have hs : St [] W w [.row A21 n22 c23 2 1 (ints r19.1), .row A39 n40 c41 2 1 (ints r89.2), .row A98 n99 c100 86 2 ((recs GWindow.cells) r96)] := hs.join hs1
                      clear hs1
                      refine sY hf hs rfl rfl rfl (Y_move rfl rfl) ?_; clear hf; intro a hf
                      obtain ⟨r102, hc103, hm⟩ := bind_some hm
                      refine sCall hf rfl rfl rfl rfl (cap := []) rfl rfl en25 (laws_toBondS_ok F p1 A_p1_1 p1.length c_p1_1 rfl _ _ hc103 (h_p1_1.at hs)) ?_; clear hf
                      rintro _ w ⟨A104, n105, c106, rfl, hn107, hs1⟩ a hf
                      have hs : St [] W w [.row A21 n22 c23 2 1 (ints r19.1), .row A39 n40 c41 2 1 (ints r89.2), .row A98 n99 c100 86 2 ((recs GWindow.cells) r96), .row A104 n105 c106 91 3 ((recs GBond.cells) r102)] := hs.join hs1
                      clear hs1
                      obtain ⟨r108, hc109, hm⟩ := bind_some hm
                      refine sCall hf rfl rfl rfl rfl (cap := []) rfl rfl en26 (impl_FindSqueeze_ok F r96 A98 n99 c100 hn101 r102 A104 n105 c106 hn107 _ _ hc109 (hs.rd (i := 2) rfl) (hs.rd (i := 3) rfl)) ?_; clear hf
                      rintro _ w ⟨A110, n111, c112, rfl, hn113, hs1⟩ a hf
                      have hs : St [] W w [.row A21 n22 c23 2 1 (ints r19.1), .row A39 n40 c41 2 1 (ints r89.2), .row A98 n99 c100 86 2 ((recs GWindow.cells) r96), .row A104 n105 c106 91 3 ((recs GBond.cells) r102), .row A110 n111 c112 2 1 (ints r108.1)] := hs.join hs1
                      clear hs1
                      refine sY hf hs rfl rfl rfl (Y_move rfl rfl) ?_; clear hf; intro a hf
                      refine sY hf hs rfl rfl rfl (Y_extract rfl rfl rfl) ?_; clear hf; intro a hf
                      refine sY hf hs rfl rfl rfl (Y_extract rfl rfl rfl) ?_; clear hf; intro a hf
                      refine sY hf hs rfl rfl rfl (Y_assign rfl rfl) ?_; clear hf; intro a hf
                      refine sY hf hs rfl rfl rfl (Y_assign rfl rfl) ?_; clear hf; intro a hf
                      refine wpO_nil ?_
                      refine wpL_seq ?_
                      refine wpL_seq ?_
                      obtain ⟨r118, hj119, hm⟩ := bind_some hm
                      refine wpL_cut (fun a w => ∃ b117 : Bool, b117 = r118 ∧ Fr a 119 [(10, .slice A39 n40 c41), (13, .int .i64 r89.1), (110, .bool b117)] ∧ St [] W w [.row A39 n40 c41 2 1 (ints r89.2)]) ?_ ?_
                      · refine wpL_region ?_
                        refine sY hf hs rfl rfl rfl (Y_move rfl rfl) ?_; clear hf; intro a hf
                        refine sY hf hs rfl rfl rfl (Y_move rfl rfl) ?_; clear hf; intro a hf
                        obtain ⟨r120, hc121, hj119⟩ := bind_some hj119
                        refine sCall hf rfl rfl rfl rfl (cap := []) rfl rfl en14 (laws_eqInt64S_ok F r108.1 A110 n111 c112 hn113 r19.1 A21 n22 c23 hn24 _ _ hc121 (hs.rd (i := 4) rfl) (hs.rd (i := 0) rfl)) ?_; clear hf
                        rintro _ w ⟨rfl, hs1⟩ a hf
                        have hs : St [] W w [.row A21 n22 c23 2 1 (ints r19.1), .row A39 n40 c41 2 1 (ints r89.2), .row A98 n99 c100 86 2 ((recs GWindow.cells) r96), .row A104 n105 c106 91 3 ((recs GBond.cells) r102), .row A110 n111 c112 2 1 (ints r108.1)] := hs.ext hs1.below
                        clear hs1
                        refine sY hf hs rfl rfl rfl (Y_not rfl rfl) ?_; clear hf; intro a hf
                        refine sY hf hs rfl rfl rfl (Y_move rfl rfl) ?_; clear hf; intro a hf
                        refine bsplit (!r120) (fun hb122 => ?_) (fun hb122 => ?_)
                        · have hj119 := bif_t hj119 hb122
                          refine sNo hf rfl rfl rfl (congrArg (fun b => some (Value.bool b)) hb122) rfl rfl rfl ?_; clear hf; intro a hf
                          refine sNo hf rfl rfl rfl (congrArg (fun b => some (Value.bool b)) hb122) rfl rfl rfl ?_; clear hf; intro a hf
                          refine sNo hf rfl rfl rfl (congrArg (fun b => some (Value.bool b)) hb122) rfl rfl rfl ?_; clear hf; intro a hf
                          refine sY hf hs rfl rfl rfl (Y_pickT rfl (congrArg (fun b => some (Value.bool b)) hb122) rfl) ?_; clear hf; intro a hf
                          refine wpO_nil ?_
                          refine wpL_nil (then_normal ?_)
                          exact ⟨true, Option.some.inj hj119, (FrD.pick (FrD.pick (FrD.pick hf.none hf rfl) hf rfl) hf rfl), hs.sel [1] (by decide)⟩
                        · have hj119 := bif_f hj119 hb122
                          refine sYg hf hs rfl rfl rfl (congrArg (fun b => some (Value.bool b)) hb122) rfl rfl rfl (Y_move rfl rfl) ?_; clear hf; intro a hf
                          refine sYg hf hs rfl rfl rfl (congrArg (fun b => some (Value.bool b)) hb122) rfl rfl rfl (Y_move rfl rfl) ?_; clear hf; intro a hf
                          refine sYg hf hs rfl rfl rfl (congrArg (fun b => some (Value.bool b)) hb122) rfl rfl rfl (Y_neq rfl rfl rfl) ?_; clear hf; intro a hf
                          refine sY hf hs rfl rfl rfl (Y_pickF rfl (congrArg (fun b => some (Value.bool b)) hb122) rfl) ?_; clear hf; intro a hf
                          refine wpO_nil ?_
                          refine wpL_nil (then_normal ?_)
                          exact ⟨(r108.2 != r19.2), Option.some.inj hj119, (FrD.pick (FrD.pick (FrD.pick hf.none hf rfl) hf rfl) hf rfl), hs.sel [1] (by decide)⟩
                      · rintro a w ⟨b117, hr_, hf, hs⟩
                        subst hr_
                        try dsimp only at hm
                        refine wpL_cond hf rfl (fun hb123 => ?_) (fun hb123 => ?_)
                        · have hm := bif_t hm hb123
                          refine wpL_seq ?_
                          refine wpL_region ?_
                          refine sY hf hs rfl rfl rfl (Y_assign rfl rfl) ?_; clear hf; intro a hf
                          refine wpO_nil ?_
                          obtain rfl := Option.some.inj hm
                          refine wpL_ret (ret_tmp rfl hf rfl ?_)
                          exact ⟨_, rfl, rfl, hs.sel [] (by decide)⟩
                        · have hm := bif_f hm hb123
                          refine wpL_skip ?_
                          refine wpL_seq ?_
                          refine wpL_region ?_
                          refine sY hf hs rfl rfl rfl (Y_assign rfl rfl) ?_; clear hf; intro a hf
                          refine wpO_nil ?_
                          refine wpL_seq ?_
                          refine wpL_region ?_
                          refine sY hf hs rfl rfl rfl (Y_move rfl rfl) ?_; clear hf; intro a hf
                          refine sY hf hs rfl rfl rfl (Y_move rfl rfl) ?_; clear hf; intro a hf
                          obtain ⟨r124, hc125, hm⟩ := bind_some hm
                          refine sCall hf rfl rfl rfl rfl (cap := []) rfl rfl en18 (laws_heldInt64S_ok F r89.2 A39 n40 c41 hn91 1 _ _ hc125 (hs.rd (i := 0) rfl)) ?_; clear hf
                          rintro _ w ⟨rfl, hs1⟩ a hf
                          have hs : St [] W w [.row A39 n40 c41 2 1 (ints r89.2)] := hs.ext hs1.below
                          clear hs1
                          refine sY hf hs rfl rfl rfl (Y_assign rfl rfl) ?_; clear hf; intro a hf
                          refine wpO_nil ?_
                          refine wpL_seq ?_
                          refine wpL_seq ?_
                          refine wpL_region ?_
                          refine sY hf hs rfl rfl rfl (Y_move rfl rfl) ?_; clear hf; intro a hf
                          refine sY hf hs rfl rfl rfl (Y_lss rfl rfl rfl) ?_; clear hf; intro a hf
                          refine wpO_nil ?_
                          refine wpL_cond hf rfl (fun hb126 => ?_) (fun hb126 => ?_)
                          · have hm := bif_t hm hb126
                            refine wpL_seq ?_
                            refine wpL_region ?_
                            refine sY hf hs rfl rfl rfl (Y_assign rfl rfl) ?_; clear hf; intro a hf
                            refine wpO_nil ?_
                            obtain rfl := Option.some.inj hm
                            refine wpL_ret (ret_tmp rfl hf rfl ?_)
                            exact ⟨_, rfl, rfl, hs.sel [] (by decide)⟩
                          · have hm := bif_f hm hb126
                            refine wpL_skip ?_
                            refine wpL_seq ?_
                            refine wpL_seq ?_
                            refine wpL_region ?_
                            refine sY hf hs rfl rfl rfl (Y_move rfl rfl) ?_; clear hf; intro a hf
                            refine sY hf hs rfl rfl rfl (Y_move rfl rfl) ?_; clear hf; intro a hf
                            refine sY hf hs rfl rfl rfl (Y_neq rfl rfl rfl) ?_; clear hf; intro a hf
                            refine wpO_nil ?_
                            refine wpL_cond hf rfl (fun hb127 => ?_) (fun hb127 => ?_)
                            · have hm := bif_t hm hb127
                              refine wpL_seq ?_
                              refine wpL_region ?_
                              refine sY hf hs rfl rfl rfl (Y_assign rfl rfl) ?_; clear hf; intro a hf
                              refine wpO_nil ?_
                              obtain rfl := Option.some.inj hm
                              refine wpL_ret (ret_tmp rfl hf rfl ?_)
                              exact ⟨_, rfl, rfl, hs.sel [] (by decide)⟩
                            · have hm := bif_f hm hb127
                              refine wpL_skip ?_
                              refine wpL_seq ?_
                              refine wpL_region ?_
                              refine sY hf hs rfl rfl rfl (Y_assign rfl rfl) ?_; clear hf; intro a hf
                              refine wpO_nil ?_
                              obtain rfl := Option.some.inj hm
                              refine wpL_ret (ret_tmp rfl hf rfl ?_)
                              exact ⟨_, rfl, rfl, hs.sel [] (by decide)⟩

end Go.Proofs.Ytebmlphobgaboaa
