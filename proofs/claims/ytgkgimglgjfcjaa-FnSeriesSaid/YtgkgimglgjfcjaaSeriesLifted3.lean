/- The functions do what their models say. -/
import Derived.Test.YtgkgimglgjfcjaaSeriesLifted2
import Derived.Test.YtgkgimglgjfcjaaRows
namespace Go.Proofs.Ytgkgimglgjfcjaa
open Go.RowKit

set_option maxRecDepth 100000 in
theorem spec_l01Times_ok (F : Nat) (p0_a : Int) (p1_b : Int) (r : Int) (W : World) (hm : spec_l01Times F p0_a p1_b = some r) :
    Calls Try.prog 154 [.int .i64 p0_a, .int .i64 p1_b].toArray W fun e w' => ∃ v, e = .returned v ∧ v = .int .i64 r ∧ St [] W w' [] := by
  unfold spec_l01Times at hm
  refine Calls.enter (N := 14) Try.func154 rfl rfl rfl (fun a hf => ?_)
  have hs := St.start W
  obtain ⟨w, hw_⟩ : ∃ w, w = W := ⟨W, rfl⟩
  clear hw_ w
  refine wpL_seq ?_
  refine wpL_region ?_
  refine sY hf hs rfl rfl rfl (Y_assign rfl rfl) ?_; clear hf; intro a hf
  refine wpO_nil ?_
  refine wpL_seq ?_
  refine wpL_seq ?_
  obtain ⟨r3, hj4, hm⟩ := bind_some hm
  refine wpL_cut (fun a w => ∃ b2 : Bool, b2 = r3 ∧ Fr a 14 [(0, .int .i64 p0_a), (1, .int .i64 p1_b), (10, .bool b2)] ∧ St [] W w []) ?_ ?_
  · refine wpL_region ?_
    refine sY hf hs rfl rfl rfl (Y_move rfl rfl) ?_; clear hf; intro a hf
    refine sY hf hs rfl rfl rfl (Y_eql rfl rfl rfl) ?_; clear hf; intro a hf
    refine sY hf hs rfl rfl rfl (Y_move rfl rfl) ?_; clear hf; intro a hf
    refine bsplit (p0_a == (-1000000000000000)) (fun hb5 => ?_) (fun hb5 => ?_)
    · have hj4 := bif_t hj4 hb5
      refine sNo hf rfl rfl rfl (congrArg (fun b => some (Value.bool b)) hb5) rfl rfl rfl ?_; clear hf; intro a hf
      refine sNo hf rfl rfl rfl (congrArg (fun b => some (Value.bool b)) hb5) rfl rfl rfl ?_; clear hf; intro a hf
      refine sY hf hs rfl rfl rfl (Y_pickT rfl (congrArg (fun b => some (Value.bool b)) hb5) rfl) ?_; clear hf; intro a hf
      refine wpO_nil ?_
      refine wpL_nil (then_normal ?_)
      exact ⟨true, Option.some.inj hj4, (FrD.pick (FrD.pick (FrD.pick hf.none hf rfl) hf rfl) hf rfl), hs⟩
    · have hj4 := bif_f hj4 hb5
      refine sYg hf hs rfl rfl rfl (congrArg (fun b => some (Value.bool b)) hb5) rfl rfl rfl (Y_move rfl rfl) ?_; clear hf; intro a hf
      refine sYg hf hs rfl rfl rfl (congrArg (fun b => some (Value.bool b)) hb5) rfl rfl rfl (Y_eql rfl rfl rfl) ?_; clear hf; intro a hf
      refine sY hf hs rfl rfl rfl (Y_pickF rfl (congrArg (fun b => some (Value.bool b)) hb5) rfl) ?_; clear hf; intro a hf
      refine wpO_nil ?_
      refine wpL_nil (then_normal ?_)
      exact ⟨(p1_b == (-1000000000000000)), Option.some.inj hj4, (FrD.pick (FrD.pick (FrD.pick hf.none hf rfl) hf rfl) hf rfl), hs⟩
  · rintro a w ⟨b2, hr_, hf, hs⟩
    subst hr_
    try dsimp only at hm
    refine wpL_cond hf rfl (fun hb6 => ?_) (fun hb6 => ?_)
    · have hm := bif_t hm hb6
      refine wpL_seq ?_
      refine wpL_region ?_
      refine sY hf hs rfl rfl rfl (Y_assign rfl rfl) ?_; clear hf; intro a hf
      refine wpO_nil ?_
      obtain rfl := Option.some.inj hm
      refine wpL_ret (ret_tmp rfl hf rfl ?_)
      exact ⟨_, rfl, rfl, hs⟩
    · have hm := bif_f hm hb6
      refine wpL_skip ?_
      refine wpL_seq ?_
      refine wpL_region ?_
      refine sY hf hs rfl rfl rfl (Y_move rfl rfl) ?_; clear hf; intro a hf
      refine sY hf hs rfl rfl rfl (Y_move rfl rfl) ?_; clear hf; intro a hf
      refine sY hf hs rfl rfl rfl (Y_add rfl rfl rfl) ?_; clear hf; intro a hf
      refine sY hf hs rfl rfl rfl (Y_assign rfl rfl) ?_; clear hf; intro a hf
      refine wpO_nil ?_
      obtain rfl := Option.some.inj hm
      refine wpL_ret (ret_tmp rfl hf rfl ?_)
      exact ⟨_, rfl, rfl, hs⟩

set_option maxRecDepth 100000 in
theorem spec_l02Multiply_ok (F : Nat) (p0 : List (List Int)) (A_p0_1 : Option Addr) (n_p0_1 c_p0_1 : Nat) (hn_p0_1 : n_p0_1 = p0.length) (p1 : List (List Int)) (A_p1_1 : Option Addr) (n_p1_1 c_p1_1 : Nat) (hn_p1_1 : n_p1_1 = p1.length) (r : List (List Int)) (W : World) (hm : spec_l02Multiply F p0 p1 = some r) (h_p0_1 : RdM W A_p0_1 p0) (h_p1_1 : RdM W A_p1_1 p1) :
    Calls Try.prog 71 [.slice A_p0_1 n_p0_1 c_p0_1, .slice A_p1_1 n_p1_1 c_p1_1].toArray W fun e w' => ∃ v, e = .returned v ∧ ∃ A6129, ∃ n6130, ∃ c6131, ∃ vs6133, v = .slice A6129 n6130 c6131 ∧ n6130 = r.length ∧ St [] W w' [.mat A6129 n6130 c6131 23 2 vs6133 r] := by
  subst hn_p0_1
  subst hn_p1_1
  unfold spec_l02Multiply at hm
  refine Calls.enter (N := 66) Try.func71 rfl rfl rfl (fun a hf => ?_)
  have hs := St.start W
  obtain ⟨w, hw_⟩ : ∃ w, w = W := ⟨W, rfl⟩
  clear hw_ w
  refine wpL_seq ?_
  refine wpL_region ?_
  refine sY hf hs rfl rfl rfl (Y_assign rfl rfl) ?_; clear hf; intro a hf
  refine wpO_nil ?_
  refine wpL_seq ?_
  refine wpL_region ?_
  refine sY hf hs rfl rfl rfl (Y_move rfl rfl) ?_; clear hf; intro a hf
  refine sY hf hs rfl rfl rfl (Y_lenH rfl rfl el22 rfl) ?_; clear hf; intro a hf
  refine sY hf hs rfl rfl rfl (Y_move rfl rfl) ?_; clear hf; intro a hf
  obtain ⟨q1, hi2, hm⟩ := bind_some hm
  obtain ⟨hi2a, hi2b, hi2q⟩ := idx_some hi2
  obtain ⟨vs3, hv4, hr5⟩ := id h_p1_1
  obtain ⟨A6, c7, hv8, hR9⟩ := hr5 _ _ hi2q
  refine sY hf hs rfl rfl rfl (Y_index rfl rfl rfl el22 ti23 (Rd.isAt hv4 hv8) hi2a hi2b) ?_; clear hf; intro a hf
  refine sY hf hs rfl rfl rfl (Y_load_rd rfl rfl (fun w hs => hv4.at hs) (at1 hv8) ag23) ?_; clear hf; intro a hf
  refine sY hf hs rfl rfl rfl (Y_lenH rfl rfl el23 rfl) ?_; clear hf; intro a hf
  obtain ⟨r10, hc11, hm⟩ := bind_some hm
  refine sCall hf rfl rfl rfl rfl (cap := []) rfl rfl en74 (spec_l02Bottom_ok F (p0.length : Int) (q1.length : Int) _ _ hc11) ?_; clear hf
  rintro _ w ⟨A12, n13, c14, vs16, rfl, hn15, hs1⟩ a hf
  have hs : St [] W w [.mat A12 n13 c14 23 2 vs16 r10] := hs.join hs1
  clear hs1
  refine sY hf hs rfl rfl rfl (Y_assign rfl rfl) ?_; clear hf; intro a hf
  refine wpO_nil ?_
  refine wpL_seq ?_
  refine wpL_seq ?_
  refine wpL_region ?_
  refine sY hf hs rfl rfl rfl (Y_assign rfl rfl) ?_; clear hf; intro a hf
  refine wpO_nil ?_
  obtain ⟨r4600, hl4601, hm⟩ := bind_some hm
  refine wpL_block (fun a w => ∃ ms4598 : List (List Int), ms4598 = r4600 ∧ n13 = ms4598.length ∧ Fr a 66 [(5, .slice A12 n13 c14)] ∧ St [] W w [.mat A12 n13 c14 23 2 vs16 ms4598]) ?_ ?_
  · refine wpL_loop (fun n a w => ∃ ms3070 : List (List Int), ∃ x3072 : Int, spec_l02Multiply_L16 F p0 p1 n ms3070 x3072 = some r4600 ∧ n13 = ms3070.length ∧ Fr a 66 [(0, .slice A_p0_1 p0.length c_p0_1), (1, .slice A_p1_1 p1.length c_p1_1), (5, .slice A12 n13 c14), (6, .int .i64 x3072)] ∧ St [] W w [.mat A12 n13 c14 23 2 vs16 ms3070]) F ?_ ?_ ?_
    · exact ⟨r10, 0, hl4601, hn15, (FrD.pick (FrD.pick (FrD.pick (FrD.pick hf.none hf rfl) hf rfl) hf rfl) hf rfl), hs⟩
    · rintro a w ⟨ms3070, x3072, h0_, -, -, -⟩; simp [spec_l02Multiply_L16] at h0_
    · rintro n4603 a w ⟨ms3070, x3072, hm4602, hn3071, hf, hs⟩
      rw [spec_l02Multiply_L16] at hm4602
      refine wpL_seq ?_
      refine wpL_seq ?_
      refine wpL_region ?_
      refine sY hf hs rfl rfl rfl (Y_move rfl rfl) ?_; clear hf; intro a hf
      refine sY hf hs rfl rfl rfl (Y_move rfl rfl) ?_; clear hf; intro a hf
      refine sY hf hs rfl rfl rfl (Y_lenH rfl rfl el22 rfl) ?_; clear hf; intro a hf
      refine sY hf hs rfl rfl rfl (Y_lss rfl rfl rfl) ?_; clear hf; intro a hf
      refine wpO_nil ?_
      refine wpL_cond hf rfl (fun hb4604 => ?_) (fun hb4604 => ?_)
      · have hm4602 := bif_t hm4602 hb4604
        refine wpL_skip ?_
        refine wpL_seq ?_
        refine wpL_block0 ?_
        refine wpL_seq ?_
        refine wpL_region ?_
        refine sY hf hs rfl rfl rfl (Y_assign rfl rfl) ?_; clear hf; intro a hf
        refine wpO_nil ?_
        obtain ⟨r5747, hl5748, hm4602⟩ := bind_some hm4602
        refine wpL_block (fun a w => ∃ ms5745 : List (List Int), ms5745 = r5747 ∧ n13 = ms5745.length ∧ Fr a 66 [(0, .slice A_p0_1 p0.length c_p0_1), (1, .slice A_p1_1 p1.length c_p1_1), (5, .slice A12 n13 c14), (6, .int .i64 x3072)] ∧ St [] W w [.mat A12 n13 c14 23 2 vs16 ms5745]) ?_ ?_
        · refine wpL_loop (fun n a w => ∃ ms5364 : List (List Int), ∃ x5366 : Int, spec_l02Multiply_L20 F p0 p1 x3072 n ms5364 x5366 = some r5747 ∧ n13 = ms5364.length ∧ Fr a 66 [(0, .slice A_p0_1 p0.length c_p0_1), (1, .slice A_p1_1 p1.length c_p1_1), (5, .slice A12 n13 c14), (6, .int .i64 x3072), (7, .int .i64 x5366)] ∧ St [] W w [.mat A12 n13 c14 23 2 vs16 ms5364]) F ?_ ?_ ?_
          · exact ⟨ms3070, 0, hl5748, hn3071, (FrD.pick (FrD.pick (FrD.pick (FrD.pick (FrD.pick hf.none hf rfl) hf rfl) hf rfl) hf rfl) hf rfl), hs⟩
          · rintro a w ⟨ms5364, x5366, h0_, -, -, -⟩; simp [spec_l02Multiply_L20] at h0_
          · rintro n5750 a w ⟨ms5364, x5366, hm5749, hn5365, hf, hs⟩
            rw [spec_l02Multiply_L20] at hm5749
            refine wpL_seq ?_
            refine wpL_seq ?_
            refine wpL_region ?_
            refine sY hf hs rfl rfl rfl (Y_move rfl rfl) ?_; clear hf; intro a hf
            refine sY hf hs rfl rfl rfl (Y_move rfl rfl) ?_; clear hf; intro a hf
            obtain ⟨q5751, hi5752, hm5749⟩ := bind_some hm5749
            obtain ⟨hi5752a, hi5752b, hi5752q⟩ := idx_some hi5752
            obtain ⟨vs5753, hv5754, hr5755⟩ := id h_p1_1
            obtain ⟨A5756, c5757, hv5758, hR5759⟩ := hr5755 _ _ hi5752q
            refine sY hf hs rfl rfl rfl (Y_index rfl rfl rfl el22 ti23 (Rd.isAt hv5754 hv5758) hi5752a hi5752b) ?_; clear hf; intro a hf
            refine sY hf hs rfl rfl rfl (Y_load_rd rfl rfl (fun w hs => hv5754.at hs) (at1 hv5758) ag23) ?_; clear hf; intro a hf
            refine sY hf hs rfl rfl rfl (Y_lenH rfl rfl el23 rfl) ?_; clear hf; intro a hf
            refine sY hf hs rfl rfl rfl (Y_lss rfl rfl rfl) ?_; clear hf; intro a hf
            refine wpO_nil ?_
            refine wpL_cond hf rfl (fun hb5760 => ?_) (fun hb5760 => ?_)
            · have hm5749 := bif_t hm5749 hb5760
              refine wpL_skip ?_
              refine wpL_seq ?_
              refine wpL_block0 ?_
              refine wpL_seq ?_
              refine wpL_region ?_
              refine sY hf hs rfl rfl rfl (Y_assign rfl rfl) ?_; clear hf; intro a hf
              refine wpO_nil ?_
              obtain ⟨r6036, hl6037, hm5749⟩ := bind_some hm5749
              refine wpL_block (fun a w => ∃ ms6034 : List (List Int), ms6034 = r6036 ∧ n13 = ms6034.length ∧ Fr a 66 [(0, .slice A_p0_1 p0.length c_p0_1), (1, .slice A_p1_1 p1.length c_p1_1), (5, .slice A12 n13 c14), (6, .int .i64 x3072), (7, .int .i64 x5366)] ∧ St [] W w [.mat A12 n13 c14 23 2 vs16 ms6034]) ?_ ?_
              · refine wpL_loop (fun n a w => ∃ ms5942 : List (List Int), ∃ x5944 : Int, spec_l02Multiply_L21 F p0 p1 x3072 x5366 n ms5942 x5944 = some r6036 ∧ n13 = ms5942.length ∧ Fr a 66 [(0, .slice A_p0_1 p0.length c_p0_1), (1, .slice A_p1_1 p1.length c_p1_1), (5, .slice A12 n13 c14), (6, .int .i64 x3072), (7, .int .i64 x5366), (8, .int .i64 x5944)] ∧ St [] W w [.mat A12 n13 c14 23 2 vs16 ms5942]) F ?_ ?_ ?_
                · exact ⟨ms5364, 0, hl6037, hn5365, (FrD.pick (FrD.pick (FrD.pick (FrD.pick (FrD.pick (FrD.pick hf.none hf rfl) hf rfl) hf rfl) hf rfl) hf rfl) hf rfl), hs⟩
                · rintro a w ⟨ms5942, x5944, h0_, -, -, -⟩; simp [spec_l02Multiply_L21] at h0_
                · rintro n6039 a w ⟨ms5942, x5944, hm6038, hn5943, hf, hs⟩
                  rw [spec_l02Multiply_L21] at hm6038
                  refine wpL_seq ?_
                  refine wpL_seq ?_
                  refine wpL_region ?_
                  refine sY hf hs rfl rfl rfl (Y_move rfl rfl) ?_; clear hf; intro a hf
                  refine sY hf hs rfl rfl rfl (Y_move rfl rfl) ?_; clear hf; intro a hf
                  refine sY hf hs rfl rfl rfl (Y_lenH rfl rfl el22 rfl) ?_; clear hf; intro a hf
                  refine sY hf hs rfl rfl rfl (Y_lss rfl rfl rfl) ?_; clear hf; intro a hf
                  refine wpO_nil ?_
                  refine wpL_cond hf rfl (fun hb6040 => ?_) (fun hb6040 => ?_)
                  · have hm6038 := bif_t hm6038 hb6040
                    refine wpL_skip ?_
                    refine wpL_seq ?_
                    refine wpL_block0 ?_
                    refine wpL_drawM [.mat A12 n13 c14 23 2 vs16 ms5942] [29] (by kernel_rfl) hs ?_; clear hs; intro w hs
                    have hs0 : St [] W w [.mat A12 n13 c14 23 2 vs16 ms5942] := hs
                    refine mYp (i := 0) rfl (by kernel_rfl) (by kernel_rfl) hf rfl rfl rfl (fun _ => Y_move rfl rfl) ?_; clear hf; intro a hf
                    refine mYp (i := 1) rfl (by kernel_rfl) (by kernel_rfl) hf rfl rfl rfl (fun _ => Y_move rfl rfl) ?_; clear hf; intro a hf
                    obtain ⟨q6085, hi6086, hm6038⟩ := bind_some hm6038
                    obtain ⟨hi6086a, hi6086b, hi6086q⟩ := idx_some hi6086
                    obtain ⟨A6087, c6088, hv6089⟩ := hs.matRow (i := 0) rfl hi6086q
                    refine mYp (i := 2) rfl (by kernel_rfl) (by kernel_rfl) hf rfl rfl rfl (fun _ => Y_index rfl rfl rfl el22 ti23 (Rd.isAt (hs.rdV (i := 0) rfl) hv6089) hi6086a (ltn hn5943 hi6086b)) ?_; clear hf; intro a hf
                    refine mY (i := 3) [[]] rfl (by kernel_rfl) (by kernel_rfl) hf hs0 rfl rfl rfl (Y_load_rd rfl rfl (fun w hs => hs.rdV (i := 0) rfl) (at1 hv6089) ag23) ?_; clear hf; intro a hf
                    refine mYp (i := 4) rfl (by kernel_rfl) (by kernel_rfl) hf rfl rfl rfl (fun _ => Y_move rfl rfl) ?_; clear hf; intro a hf
                    refine mYp (i := 5) rfl (by kernel_rfl) (by kernel_rfl) hf rfl rfl rfl (fun _ => Y_move rfl rfl) ?_; clear hf; intro a hf
                    refine mYp (i := 6) rfl (by kernel_rfl) (by kernel_rfl) hf rfl rfl rfl (fun _ => Y_move rfl rfl) ?_; clear hf; intro a hf
                    obtain ⟨q6090, hi6091, hm6038⟩ := bind_some hm6038
                    obtain ⟨hi6091a, hi6091b, hi6091q⟩ := idx_some hi6091
                    obtain ⟨A6092, c6093, hv6094⟩ := hs.matRow (i := 0) rfl hi6091q
                    refine mYp (i := 7) rfl (by kernel_rfl) (by kernel_rfl) hf rfl rfl rfl (fun _ => Y_index rfl rfl rfl el22 ti23 (Rd.isAt (hs.rdV (i := 0) rfl) hv6094) hi6091a (ltn hn5943 hi6091b)) ?_; clear hf; intro a hf
                    refine mY (i := 8) [[]] rfl (by kernel_rfl) (by kernel_rfl) hf hs0 rfl rfl rfl (Y_load_rd rfl rfl (fun w hs => hs.rdV (i := 0) rfl) (at1 hv6094) ag23) ?_; clear hf; intro a hf
                    refine mYp (i := 9) rfl (by kernel_rfl) (by kernel_rfl) hf rfl rfl rfl (fun _ => Y_move rfl rfl) ?_; clear hf; intro a hf
                    obtain ⟨q6095, hi6096, hm6038⟩ := bind_some hm6038
                    obtain ⟨hi6096a, hi6096b, hi6096q⟩ := idx_some hi6096
                    refine mYp (i := 10) rfl (by kernel_rfl) (by kernel_rfl) hf rfl rfl rfl (fun _ => Y_index rfl rfl rfl el23 ti2 (Rd.isAt (hs.rdRow (i := 0) rfl ⟨hi6091q, hv6094⟩) (at1 (ints_at hi6096q))) hi6096a hi6096b) ?_; clear hf; intro a hf
                    refine mY (i := 11) [[]] rfl (by kernel_rfl) (by kernel_rfl) hf hs0 rfl rfl rfl (Y_load_rd rfl rfl (fun w hs => hs.rdRow (i := 0) rfl ⟨hi6091q, hv6094⟩) (at1 (ints_at hi6096q)) ag2) ?_; clear hf; intro a hf
                    refine mYp (i := 12) rfl (by kernel_rfl) (by kernel_rfl) hf rfl rfl rfl (fun _ => Y_move rfl rfl) ?_; clear hf; intro a hf
                    refine mYp (i := 13) rfl (by kernel_rfl) (by kernel_rfl) hf rfl rfl rfl (fun _ => Y_move rfl rfl) ?_; clear hf; intro a hf
                    obtain ⟨q6097, hi6098, hm6038⟩ := bind_some hm6038
                    obtain ⟨hi6098a, hi6098b, hi6098q⟩ := idx_some hi6098
                    obtain ⟨vs6099, hv6100, hr6101⟩ := id h_p0_1
                    obtain ⟨A6102, c6103, hv6104, hR6105⟩ := hr6101 _ _ hi6098q
                    refine mYp (i := 14) rfl (by kernel_rfl) (by kernel_rfl) hf rfl rfl rfl (fun _ => Y_index rfl rfl rfl el22 ti23 (Rd.isAt hv6100 hv6104) hi6098a hi6098b) ?_; clear hf; intro a hf
                    refine mY (i := 15) [[]] rfl (by kernel_rfl) (by kernel_rfl) hf hs0 rfl rfl rfl (Y_load_rd rfl rfl (fun w hs => hv6100.at hs) (at1 hv6104) ag23) ?_; clear hf; intro a hf
                    refine mYp (i := 16) rfl (by kernel_rfl) (by kernel_rfl) hf rfl rfl rfl (fun _ => Y_move rfl rfl) ?_; clear hf; intro a hf
                    obtain ⟨q6106, hi6107, hm6038⟩ := bind_some hm6038
                    obtain ⟨hi6107a, hi6107b, hi6107q⟩ := idx_some hi6107
                    refine mYp (i := 17) rfl (by kernel_rfl) (by kernel_rfl) hf rfl rfl rfl (fun _ => Y_index rfl rfl rfl el23 ti2 (Rd.isAt (hR6105.at hs) (at1 (ints_at hi6107q))) hi6107a hi6107b) ?_; clear hf; intro a hf
                    refine mY (i := 18) [[]] rfl (by kernel_rfl) (by kernel_rfl) hf hs0 rfl rfl rfl (Y_load_rd rfl rfl (fun w hs => hR6105.at hs) (at1 (ints_at hi6107q)) ag2) ?_; clear hf; intro a hf
                    refine mYp (i := 19) rfl (by kernel_rfl) (by kernel_rfl) hf rfl rfl rfl (fun _ => Y_move rfl rfl) ?_; clear hf; intro a hf
                    refine mYp (i := 20) rfl (by kernel_rfl) (by kernel_rfl) hf rfl rfl rfl (fun _ => Y_move rfl rfl) ?_; clear hf; intro a hf
                    obtain ⟨q6108, hi6109, hm6038⟩ := bind_some hm6038
                    obtain ⟨hi6109a, hi6109b, hi6109q⟩ := idx_some hi6109
                    obtain ⟨vs6110, hv6111, hr6112⟩ := id h_p1_1
                    obtain ⟨A6113, c6114, hv6115, hR6116⟩ := hr6112 _ _ hi6109q
                    refine mYp (i := 21) rfl (by kernel_rfl) (by kernel_rfl) hf rfl rfl rfl (fun _ => Y_index rfl rfl rfl el22 ti23 (Rd.isAt hv6111 hv6115) hi6109a hi6109b) ?_; clear hf; intro a hf
                    refine mY (i := 22) [[]] rfl (by kernel_rfl) (by kernel_rfl) hf hs0 rfl rfl rfl (Y_load_rd rfl rfl (fun w hs => hv6111.at hs) (at1 hv6115) ag23) ?_; clear hf; intro a hf
                    refine mYp (i := 23) rfl (by kernel_rfl) (by kernel_rfl) hf rfl rfl rfl (fun _ => Y_move rfl rfl) ?_; clear hf; intro a hf
                    obtain ⟨q6117, hi6118, hm6038⟩ := bind_some hm6038
                    obtain ⟨hi6118a, hi6118b, hi6118q⟩ := idx_some hi6118
                    refine mYp (i := 24) rfl (by kernel_rfl) (by kernel_rfl) hf rfl rfl rfl (fun _ => Y_index rfl rfl rfl el23 ti2 (Rd.isAt (hR6116.at hs) (at1 (ints_at hi6118q))) hi6118a hi6118b) ?_; clear hf; intro a hf
                    refine mY (i := 25) [[]] rfl (by kernel_rfl) (by kernel_rfl) hf hs0 rfl rfl rfl (Y_load_rd rfl rfl (fun w hs => hR6116.at hs) (at1 (ints_at hi6118q)) ag2) ?_; clear hf; intro a hf
                    refine mRun (i := 26) rfl (by kernel_rfl) ?_
                    obtain ⟨r6119, hc6120, hm6038⟩ := bind_some hm6038
                    refine sCall hf rfl rfl rfl rfl (cap := []) rfl rfl en154 (spec_l01Times_ok F q6106 q6117 _ _ hc6120) ?_; clear hf
                    rintro _ w ⟨rfl, hs1⟩ a hf
                    have hs : St [] W w [.mat A12 n13 c14 23 2 vs16 ms5942] := hs.ext hs1.below
                    clear hs1
                    have hs0 : St [] W w [.mat A12 n13 c14 23 2 vs16 ms5942] := hs
                    refine wpO_nil ⟨Or.inr (fun _ => hs0), ?_⟩
                    refine mYp (i := 27) rfl (by kernel_rfl) (by kernel_rfl) hf rfl rfl rfl (fun _ => Y_max rfl rfl rfl) ?_; clear hf; intro a hf
                    obtain ⟨q6121, hi6122, hm6038⟩ := bind_some hm6038
                    obtain ⟨hi6122a, hi6122b, hi6122q⟩ := idx_some hi6122
                    refine mYp (i := 28) rfl (by kernel_rfl) (by kernel_rfl) hf rfl rfl rfl (fun _ => Y_index rfl rfl rfl el23 ti2 (Rd.isAt (hs.rdRow (i := 0) rfl ⟨hi6086q, hv6089⟩) (at1 (ints_at hi6122q))) hi6122a hi6122b) ?_; clear hf; intro a hf
                    refine mRun (i := 29) rfl (by kernel_rfl) ?_
                    obtain ⟨xs6123, hu6125, hm6038⟩ := bind_some hm6038
                    obtain ⟨ms6124, hu6126, hm6038⟩ := bind_some hm6038
                    refine sStoreM (i := 0) (k := x3072) hf hs rfl rfl rfl rfl rfl rfl hi6086q hv6089 rfl hu6125 hu6126 ti2 ?_; clear hs; intro w hs
                    obtain ⟨hq6127, hv6128⟩ := rowUpd hu6125 hu6126 hv6089
                    have hs : St [] W w [.mat A12 n13 c14 23 2 vs16 ms6124] := hs
                    refine wpO_nil ⟨Or.inl (by decide), ?_⟩
                    refine mDone (by kernel_rfl) ?_
                    clear hs0
                    refine wpL_nil (Qb_normal ?_)
                    refine wpL_region ?_
                    refine sY hf hs rfl rfl rfl (Y_move rfl rfl) ?_; clear hf; intro a hf
                    refine sY hf hs rfl rfl rfl (Y_add rfl rfl rfl) ?_; clear hf; intro a hf
                    refine sY hf hs rfl rfl rfl (Y_assign rfl rfl) ?_; clear hf; intro a hf
                    refine wpO_nil ?_
                    refine wpL_nil (Ql_normal ?_)
                    exact ⟨ms6124, (IntKind.i64.wrap (x5944 + 1)), hm6038, ((hn5943).trans (upd_len hu6126).symm), (FrD.pick (FrD.pick (FrD.pick (FrD.pick (FrD.pick (FrD.pick hf.none hf rfl) hf rfl) hf rfl) hf rfl) hf rfl) hf rfl), hs⟩
                  · have hm6038 := bif_f hm6038 hb6040
                    refine wpL_exit (Ql_exit (Qb_exit ?_))
                    exact ⟨ms5942, Option.some.inj hm6038, hn5943, (FrD.pick (FrD.pick (FrD.pick (FrD.pick (FrD.pick hf.none hf rfl) hf rfl) hf rfl) hf rfl) hf rfl), hs⟩
              · rintro a w ⟨ms6034, hr_, hn6035, hf, hs⟩
                subst hr_
                try dsimp only at hm5749
                refine wpL_nil (Qb_normal ?_)
                refine wpL_region ?_
                refine sY hf hs rfl rfl rfl (Y_move rfl rfl) ?_; clear hf; intro a hf
                refine sY hf hs rfl rfl rfl (Y_add rfl rfl rfl) ?_; clear hf; intro a hf
                refine sY hf hs rfl rfl rfl (Y_assign rfl rfl) ?_; clear hf; intro a hf
                refine wpO_nil ?_
                refine wpL_nil (Ql_normal ?_)
                exact ⟨ms6034, (IntKind.i64.wrap (x5366 + 1)), hm5749, hn6035, (FrD.pick (FrD.pick (FrD.pick (FrD.pick (FrD.pick hf.none hf rfl) hf rfl) hf rfl) hf rfl) hf rfl), hs⟩
            · have hm5749 := bif_f hm5749 hb5760
              refine wpL_exit (Ql_exit (Qb_exit ?_))
              exact ⟨ms5364, Option.some.inj hm5749, hn5365, (FrD.pick (FrD.pick (FrD.pick (FrD.pick hf.none hf rfl) hf rfl) hf rfl) hf rfl), hs⟩
        · rintro a w ⟨ms5745, hr_, hn5746, hf, hs⟩
          subst hr_
          try dsimp only at hm4602
          refine wpL_nil (Qb_normal ?_)
          refine wpL_region ?_
          refine sY hf hs rfl rfl rfl (Y_move rfl rfl) ?_; clear hf; intro a hf
          refine sY hf hs rfl rfl rfl (Y_add rfl rfl rfl) ?_; clear hf; intro a hf
          refine sY hf hs rfl rfl rfl (Y_assign rfl rfl) ?_; clear hf; intro a hf
          refine wpO_nil ?_
          refine wpL_nil (Ql_normal ?_)
          exact ⟨ms5745, (IntKind.i64.wrap (x3072 + 1)), hm4602, hn5746, (FrD.pick (FrD.pick (FrD.pick (FrD.pick hf.none hf rfl) hf rfl) hf rfl) hf rfl), hs⟩
      · have hm4602 := bif_f hm4602 hb4604
        refine wpL_exit (Ql_exit (Qb_exit ?_))
        exact ⟨ms3070, Option.some.inj hm4602, hn3071, (FrD.pick hf.none hf rfl), hs⟩
  · rintro a w ⟨ms4598, hr_, hn4599, hf, hs⟩
    subst hr_
    try dsimp only at hm
    refine wpL_seq ?_
    refine wpL_region ?_
    refine sY hf hs rfl rfl rfl (Y_move rfl rfl) ?_; clear hf; intro a hf
    refine sY hf hs rfl rfl rfl (Y_assign rfl rfl) ?_; clear hf; intro a hf
    refine wpO_nil ?_
    obtain rfl := Option.some.inj hm
    refine wpL_ret (ret_tmp rfl hf rfl ?_)
    exact ⟨_, rfl, A12, n13, c14, vs16, rfl, hn4599, hs⟩

set_option maxRecDepth 100000 in
theorem spec_l02Turn_ok (F : Nat) (p0_a : List (List Int)) (A_p0_a_1 : Option Addr) (n_p0_a_1 c_p0_a_1 : Nat) (hn_p0_a_1 : n_p0_a_1 = p0_a.length) (r : List (List Int)) (W : World) (hm : spec_l02Turn F p0_a = some r) (h_p0_a_1 : RdM W A_p0_a_1 p0_a) :
    Calls Try.prog 155 [.slice A_p0_a_1 n_p0_a_1 c_p0_a_1].toArray W fun e w' => ∃ v, e = .returned v ∧ ∃ A625, ∃ n626, ∃ c627, ∃ vs629, v = .slice A625 n626 c627 ∧ n626 = r.length ∧ St [] W w' [.mat A625 n626 c627 23 2 vs629 r] := by
  subst hn_p0_a_1
  unfold spec_l02Turn at hm
  refine Calls.enter (N := 42) Try.func155 rfl rfl rfl (fun a hf => ?_)
  have hs := St.start W
  obtain ⟨w, hw_⟩ : ∃ w, w = W := ⟨W, rfl⟩
  clear hw_ w
  refine wpL_seq ?_
  refine wpL_region ?_
  refine sY hf hs rfl rfl rfl (Y_assign rfl rfl) ?_; clear hf; intro a hf
  refine wpO_nil ?_
  refine wpL_seq ?_
  refine wpL_region ?_
  refine sY hf hs rfl rfl rfl (Y_move rfl rfl) ?_; clear hf; intro a hf
  obtain ⟨q1, hi2, hm⟩ := bind_some hm
  obtain ⟨hi2a, hi2b, hi2q⟩ := idx_some hi2
  obtain ⟨vs3, hv4, hr5⟩ := id h_p0_a_1
  obtain ⟨A6, c7, hv8, hR9⟩ := hr5 _ _ hi2q
  refine sY hf hs rfl rfl rfl (Y_index rfl rfl rfl el22 ti23 (Rd.isAt hv4 hv8) hi2a hi2b) ?_; clear hf; intro a hf
  refine sY hf hs rfl rfl rfl (Y_load_rd rfl rfl (fun w hs => hv4.at hs) (at1 hv8) ag23) ?_; clear hf; intro a hf
  refine sY hf hs rfl rfl rfl (Y_lenH rfl rfl el23 rfl) ?_; clear hf; intro a hf
  refine sY hf hs rfl rfl rfl (Y_move rfl rfl) ?_; clear hf; intro a hf
  refine sY hf hs rfl rfl rfl (Y_lenH rfl rfl el22 rfl) ?_; clear hf; intro a hf
  obtain ⟨r10, hc11, hm⟩ := bind_some hm
  refine sCall hf rfl rfl rfl rfl (cap := []) rfl rfl en74 (spec_l02Bottom_ok F (q1.length : Int) (p0_a.length : Int) _ _ hc11) ?_; clear hf
  rintro _ w ⟨A12, n13, c14, vs16, rfl, hn15, hs1⟩ a hf
  have hs : St [] W w [.mat A12 n13 c14 23 2 vs16 r10] := hs.join hs1
  clear hs1
  refine sY hf hs rfl rfl rfl (Y_assign rfl rfl) ?_; clear hf; intro a hf
  refine wpO_nil ?_
  refine wpL_seq ?_
  refine wpL_seq ?_
  refine wpL_region ?_
  refine sY hf hs rfl rfl rfl (Y_assign rfl rfl) ?_; clear hf; intro a hf
  refine wpO_nil ?_
  obtain ⟨r472, hl473, hm⟩ := bind_some hm
  refine wpL_block (fun a w => ∃ ms470 : List (List Int), ms470 = r472 ∧ n13 = ms470.length ∧ Fr a 42 [(3, .slice A12 n13 c14)] ∧ St [] W w [.mat A12 n13 c14 23 2 vs16 ms470]) ?_ ?_
  · refine wpL_loop (fun n a w => ∃ ms318 : List (List Int), ∃ x320 : Int, spec_l02Turn_L4 F p0_a n ms318 x320 = some r472 ∧ n13 = ms318.length ∧ Fr a 42 [(0, .slice A_p0_a_1 p0_a.length c_p0_a_1), (3, .slice A12 n13 c14), (4, .int .i64 x320)] ∧ St [] W w [.mat A12 n13 c14 23 2 vs16 ms318]) F ?_ ?_ ?_
    · exact ⟨r10, 0, hl473, hn15, (FrD.pick (FrD.pick (FrD.pick hf.none hf rfl) hf rfl) hf rfl), hs⟩
    · rintro a w ⟨ms318, x320, h0_, -, -, -⟩; simp [spec_l02Turn_L4] at h0_
    · rintro n475 a w ⟨ms318, x320, hm474, hn319, hf, hs⟩
      rw [spec_l02Turn_L4] at hm474
      refine wpL_seq ?_
      refine wpL_seq ?_
      refine wpL_region ?_
      refine sY hf hs rfl rfl rfl (Y_move rfl rfl) ?_; clear hf; intro a hf
      refine sY hf hs rfl rfl rfl (Y_move rfl rfl) ?_; clear hf; intro a hf
      refine sY hf hs rfl rfl rfl (Y_lenH rfl rfl el22 rfl) ?_; clear hf; intro a hf
      refine sY hf hs rfl rfl rfl (Y_lss rfl rfl rfl) ?_; clear hf; intro a hf
      refine wpO_nil ?_
      refine wpL_cond hf rfl (fun hb476 => ?_) (fun hb476 => ?_)
      · have hm474 := bif_t hm474 hb476
        refine wpL_skip ?_
        refine wpL_seq ?_
        refine wpL_block0 ?_
        refine wpL_seq ?_
        refine wpL_region ?_
        refine sY hf hs rfl rfl rfl (Y_assign rfl rfl) ?_; clear hf; intro a hf
        refine wpO_nil ?_
        obtain ⟨r587, hl588, hm474⟩ := bind_some hm474
        refine wpL_block (fun a w => ∃ ms585 : List (List Int), ms585 = r587 ∧ n13 = ms585.length ∧ Fr a 42 [(0, .slice A_p0_a_1 p0_a.length c_p0_a_1), (3, .slice A12 n13 c14), (4, .int .i64 x320)] ∧ St [] W w [.mat A12 n13 c14 23 2 vs16 ms585]) ?_ ?_
        · refine wpL_loop (fun n a w => ∃ ms548 : List (List Int), ∃ x550 : Int, spec_l02Turn_L5 F p0_a x320 n ms548 x550 = some r587 ∧ n13 = ms548.length ∧ Fr a 42 [(0, .slice A_p0_a_1 p0_a.length c_p0_a_1), (3, .slice A12 n13 c14), (4, .int .i64 x320), (5, .int .i64 x550)] ∧ St [] W w [.mat A12 n13 c14 23 2 vs16 ms548]) F ?_ ?_ ?_
          · exact ⟨ms318, 0, hl588, hn319, (FrD.pick (FrD.pick (FrD.pick (FrD.pick hf.none hf rfl) hf rfl) hf rfl) hf rfl), hs⟩
          · rintro a w ⟨ms548, x550, h0_, -, -, -⟩; simp [spec_l02Turn_L5] at h0_
          · rintro n590 a w ⟨ms548, x550, hm589, hn549, hf, hs⟩
            rw [spec_l02Turn_L5] at hm589
            refine wpL_seq ?_
            refine wpL_seq ?_
            refine wpL_region ?_
            refine sY hf hs rfl rfl rfl (Y_move rfl rfl) ?_; clear hf; intro a hf
            refine sY hf hs rfl rfl rfl (Y_move rfl rfl) ?_; clear hf; intro a hf
            refine sY hf hs rfl rfl rfl (Y_move rfl rfl) ?_; clear hf; intro a hf
            obtain ⟨q591, hi592, hm589⟩ := bind_some hm589
            obtain ⟨hi592a, hi592b, hi592q⟩ := idx_some hi592
            obtain ⟨vs593, hv594, hr595⟩ := id h_p0_a_1
            obtain ⟨A596, c597, hv598, hR599⟩ := hr595 _ _ hi592q
            refine sY hf hs rfl rfl rfl (Y_index rfl rfl rfl el22 ti23 (Rd.isAt hv594 hv598) hi592a hi592b) ?_; clear hf; intro a hf
            refine sY hf hs rfl rfl rfl (Y_load_rd rfl rfl (fun w hs => hv594.at hs) (at1 hv598) ag23) ?_; clear hf; intro a hf
            refine sY hf hs rfl rfl rfl (Y_lenH rfl rfl el23 rfl) ?_; clear hf; intro a hf
            refine sY hf hs rfl rfl rfl (Y_lss rfl rfl rfl) ?_; clear hf; intro a hf
            refine wpO_nil ?_
            refine wpL_cond hf rfl (fun hb600 => ?_) (fun hb600 => ?_)
            · have hm589 := bif_t hm589 hb600
              refine wpL_skip ?_
              refine wpL_seq ?_
              refine wpL_block0 ?_
              refine wpL_drawM [.mat A12 n13 c14 23 2 vs16 ms548] [13] (by kernel_rfl) hs ?_; clear hs; intro w hs
              have hs0 : St [] W w [.mat A12 n13 c14 23 2 vs16 ms548] := hs
              refine mYp (i := 0) rfl (by kernel_rfl) (by kernel_rfl) hf rfl rfl rfl (fun _ => Y_move rfl rfl) ?_; clear hf; intro a hf
              refine mYp (i := 1) rfl (by kernel_rfl) (by kernel_rfl) hf rfl rfl rfl (fun _ => Y_move rfl rfl) ?_; clear hf; intro a hf
              obtain ⟨q601, hi602, hm589⟩ := bind_some hm589
              obtain ⟨hi602a, hi602b, hi602q⟩ := idx_some hi602
              obtain ⟨A603, c604, hv605⟩ := hs.matRow (i := 0) rfl hi602q
              refine mYp (i := 2) rfl (by kernel_rfl) (by kernel_rfl) hf rfl rfl rfl (fun _ => Y_index rfl rfl rfl el22 ti23 (Rd.isAt (hs.rdV (i := 0) rfl) hv605) hi602a (ltn hn549 hi602b)) ?_; clear hf; intro a hf
              refine mY (i := 3) [[]] rfl (by kernel_rfl) (by kernel_rfl) hf hs0 rfl rfl rfl (Y_load_rd rfl rfl (fun w hs => hs.rdV (i := 0) rfl) (at1 hv605) ag23) ?_; clear hf; intro a hf
              refine mYp (i := 4) rfl (by kernel_rfl) (by kernel_rfl) hf rfl rfl rfl (fun _ => Y_move rfl rfl) ?_; clear hf; intro a hf
              refine mYp (i := 5) rfl (by kernel_rfl) (by kernel_rfl) hf rfl rfl rfl (fun _ => Y_move rfl rfl) ?_; clear hf; intro a hf
              refine mYp (i := 6) rfl (by kernel_rfl) (by kernel_rfl) hf rfl rfl rfl (fun _ => Y_move rfl rfl) ?_; clear hf; intro a hf
              obtain ⟨q606, hi607, hm589⟩ := bind_some hm589
              obtain ⟨hi607a, hi607b, hi607q⟩ := idx_some hi607
              obtain ⟨vs608, hv609, hr610⟩ := id h_p0_a_1
              obtain ⟨A611, c612, hv613, hR614⟩ := hr610 _ _ hi607q
              refine mYp (i := 7) rfl (by kernel_rfl) (by kernel_rfl) hf rfl rfl rfl (fun _ => Y_index rfl rfl rfl el22 ti23 (Rd.isAt hv609 hv613) hi607a hi607b) ?_; clear hf; intro a hf
              refine mY (i := 8) [[]] rfl (by kernel_rfl) (by kernel_rfl) hf hs0 rfl rfl rfl (Y_load_rd rfl rfl (fun w hs => hv609.at hs) (at1 hv613) ag23) ?_; clear hf; intro a hf
              refine mYp (i := 9) rfl (by kernel_rfl) (by kernel_rfl) hf rfl rfl rfl (fun _ => Y_move rfl rfl) ?_; clear hf; intro a hf
              obtain ⟨q615, hi616, hm589⟩ := bind_some hm589
              obtain ⟨hi616a, hi616b, hi616q⟩ := idx_some hi616
              refine mYp (i := 10) rfl (by kernel_rfl) (by kernel_rfl) hf rfl rfl rfl (fun _ => Y_index rfl rfl rfl el23 ti2 (Rd.isAt (hR614.at hs) (at1 (ints_at hi616q))) hi616a hi616b) ?_; clear hf; intro a hf
              refine mY (i := 11) [[]] rfl (by kernel_rfl) (by kernel_rfl) hf hs0 rfl rfl rfl (Y_load_rd rfl rfl (fun w hs => hR614.at hs) (at1 (ints_at hi616q)) ag2) ?_; clear hf; intro a hf
              obtain ⟨q617, hi618, hm589⟩ := bind_some hm589
              obtain ⟨hi618a, hi618b, hi618q⟩ := idx_some hi618
              refine mYp (i := 12) rfl (by kernel_rfl) (by kernel_rfl) hf rfl rfl rfl (fun _ => Y_index rfl rfl rfl el23 ti2 (Rd.isAt (hs.rdRow (i := 0) rfl ⟨hi602q, hv605⟩) (at1 (ints_at hi618q))) hi618a hi618b) ?_; clear hf; intro a hf
              refine mRun (i := 13) rfl (by kernel_rfl) ?_
              obtain ⟨xs619, hu621, hm589⟩ := bind_some hm589
              obtain ⟨ms620, hu622, hm589⟩ := bind_some hm589
              refine sStoreM (i := 0) (k := x550) hf hs rfl rfl rfl rfl rfl rfl hi602q hv605 rfl hu621 hu622 ti2 ?_; clear hs; intro w hs
              obtain ⟨hq623, hv624⟩ := rowUpd hu621 hu622 hv605
              have hs : St [] W w [.mat A12 n13 c14 23 2 vs16 ms620] := hs
              refine wpO_nil ⟨Or.inl (by decide), ?_⟩
              refine mDone (by kernel_rfl) ?_
              clear hs0
              refine wpL_nil (Qb_normal ?_)
              refine wpL_region ?_
              refine sY hf hs rfl rfl rfl (Y_move rfl rfl) ?_; clear hf; intro a hf
              refine sY hf hs rfl rfl rfl (Y_add rfl rfl rfl) ?_; clear hf; intro a hf
              refine sY hf hs rfl rfl rfl (Y_assign rfl rfl) ?_; clear hf; intro a hf
              refine wpO_nil ?_
              refine wpL_nil (Ql_normal ?_)
              exact ⟨ms620, (IntKind.i64.wrap (x550 + 1)), hm589, ((hn549).trans (upd_len hu622).symm), (FrD.pick (FrD.pick (FrD.pick (FrD.pick hf.none hf rfl) hf rfl) hf rfl) hf rfl), hs⟩
            · have hm589 := bif_f hm589 hb600
              refine wpL_exit (Ql_exit (Qb_exit ?_))
              exact ⟨ms548, Option.some.inj hm589, hn549, (FrD.pick (FrD.pick (FrD.pick hf.none hf rfl) hf rfl) hf rfl), hs⟩
        · rintro a w ⟨ms585, hr_, hn586, hf, hs⟩
          subst hr_
          try dsimp only at hm474
          refine wpL_nil (Qb_normal ?_)
          refine wpL_region ?_
          refine sY hf hs rfl rfl rfl (Y_move rfl rfl) ?_; clear hf; intro a hf
          refine sY hf hs rfl rfl rfl (Y_add rfl rfl rfl) ?_; clear hf; intro a hf
          refine sY hf hs rfl rfl rfl (Y_assign rfl rfl) ?_; clear hf; intro a hf
          refine wpO_nil ?_
          refine wpL_nil (Ql_normal ?_)
          exact ⟨ms585, (IntKind.i64.wrap (x320 + 1)), hm474, hn586, (FrD.pick (FrD.pick (FrD.pick hf.none hf rfl) hf rfl) hf rfl), hs⟩
      · have hm474 := bif_f hm474 hb476
        refine wpL_exit (Ql_exit (Qb_exit ?_))
        exact ⟨ms318, Option.some.inj hm474, hn319, (FrD.pick hf.none hf rfl), hs⟩
  · rintro a w ⟨ms470, hr_, hn471, hf, hs⟩
    subst hr_
    try dsimp only at hm
    refine wpL_seq ?_
    refine wpL_region ?_
    refine sY hf hs rfl rfl rfl (Y_move rfl rfl) ?_; clear hf; intro a hf
    refine sY hf hs rfl rfl rfl (Y_assign rfl rfl) ?_; clear hf; intro a hf
    refine wpO_nil ?_
    obtain rfl := Option.some.inj hm
    refine wpL_ret (ret_tmp rfl hf rfl ?_)
    exact ⟨_, rfl, A12, n13, c14, vs16, rfl, hn471, hs⟩

set_option maxRecDepth 100000 in
theorem spec_l07Column_ok (F : Nat) (p0_x : List Int) (A_p0_x_1 : Option Addr) (n_p0_x_1 c_p0_x_1 : Nat) (hn_p0_x_1 : n_p0_x_1 = p0_x.length) (r : List (List Int)) (W : World) (hm : spec_l07Column F p0_x = some r) (h_p0_x_1 : Rd W A_p0_x_1 (ints p0_x)) :
    Calls Try.prog 72 [.slice A_p0_x_1 n_p0_x_1 c_p0_x_1].toArray W fun e w' => ∃ v, e = .returned v ∧ ∃ A10, ∃ n11, ∃ c12, ∃ vs14, v = .slice A10 n11 c12 ∧ n11 = r.length ∧ St [] W w' [.mat A10 n11 c12 23 2 vs14 r] := by
  subst hn_p0_x_1
  unfold spec_l07Column at hm
  refine Calls.enter (N := 6) Try.func72 rfl rfl rfl (fun a hf => ?_)
  have hs := St.start W
  obtain ⟨w, hw_⟩ : ∃ w, w = W := ⟨W, rfl⟩
  clear hw_ w
  refine wpL_seq ?_
  refine wpL_region ?_
  refine sY hf hs rfl rfl rfl (Y_assign rfl rfl) ?_; clear hf; intro a hf
  refine wpO_nil ?_
  refine wpL_seq ?_
  refine wpL_region ?_
  refine sY hf hs rfl rfl rfl (Y_move rfl rfl) ?_; clear hf; intro a hf
  refine sBuildSlice (parts := [(0, .tmp 3)]) (vs := [.slice A_p0_x_1 p0_x.length c_p0_x_1]) (cells := [.slice A_p0_x_1 p0_x.length c_p0_x_1]) hf hs rfl rfl rfl rfl rfl el22 ti23 rfl rfl rfl rfl ?_; clear hf hs; intro a w A1 hs hA2 hf
  have hs : St [] W w [.row A1 1 1 23 1 [.slice A_p0_x_1 p0_x.length c_p0_x_1]] := hs
  obtain ⟨r3, hc4, hm⟩ := bind_some hm
  refine sCall hf rfl rfl rfl rfl (cap := []) rfl rfl en155 (spec_l02Turn_ok F ([p0_x]) A1 1 1 rfl _ _ hc4 (RdM.one (hs.rd (i := 0) rfl) rfl (h_p0_x_1.at hs))) ?_; clear hf
  rintro _ w ⟨A5, n6, c7, vs9, rfl, hn8, hs1⟩ a hf
  have hs : St [] W w [.row A1 1 1 23 1 [.slice A_p0_x_1 p0_x.length c_p0_x_1], .mat A5 n6 c7 23 2 vs9 r3] := hs.join hs1
  clear hs1
  refine sY hf hs rfl rfl rfl (Y_assign rfl rfl) ?_; clear hf; intro a hf
  refine wpO_nil ?_
  obtain rfl := Option.some.inj hm
  refine wpL_ret (ret_tmp rfl hf rfl ?_)
  exact ⟨_, rfl, A5, n6, c7, vs9, rfl, hn8, hs.sel [1] (by decide)⟩

set_option maxRecDepth 100000 in
theorem spec_l24Dot_ok (F : Nat) (p0_c : List Int) (A_p0_c_1 : Option Addr) (n_p0_c_1 c_p0_c_1 : Nat) (hn_p0_c_1 : n_p0_c_1 = p0_c.length) (p1_x : List Int) (A_p1_x_1 : Option Addr) (n_p1_x_1 c_p1_x_1 : Nat) (hn_p1_x_1 : n_p1_x_1 = p1_x.length) (r : Int) (W : World) (hm : spec_l24Dot F p0_c p1_x = some r) (h_p0_c_1 : Rd W A_p0_c_1 (ints p0_c)) (h_p1_x_1 : Rd W A_p1_x_1 (ints p1_x)) :
    Calls Try.prog 73 [.slice A_p0_c_1 n_p0_c_1 c_p0_c_1, .slice A_p1_x_1 n_p1_x_1 c_p1_x_1].toArray W fun e w' => ∃ v, e = .returned v ∧ v = .int .i64 r ∧ St [] W w' [] := by
  subst hn_p0_c_1
  subst hn_p1_x_1
  unfold spec_l24Dot at hm
  refine Calls.enter (N := 25) Try.func73 rfl rfl rfl (fun a hf => ?_)
  have hs := St.start W
  obtain ⟨w, hw_⟩ : ∃ w, w = W := ⟨W, rfl⟩
  clear hw_ w
  refine wpL_seq ?_
  refine wpL_region ?_
  refine sY hf hs rfl rfl rfl (Y_assign rfl rfl) ?_; clear hf; intro a hf
  refine wpO_nil ?_
  refine wpL_seq ?_
  refine wpL_region ?_
  refine sY hf hs rfl rfl rfl (Y_assign rfl rfl) ?_; clear hf; intro a hf
  refine wpO_nil ?_
  refine wpL_seq ?_
  refine wpL_seq ?_
  refine wpL_region ?_
  refine sY hf hs rfl rfl rfl (Y_assign rfl rfl) ?_; clear hf; intro a hf
  refine wpO_nil ?_
  obtain ⟨r27, hl28, hm⟩ := bind_some hm
  refine wpL_block (fun a w => ∃ x26 : Int, x26 = r27 ∧ Fr a 25 [(5, .int .i64 x26)] ∧ St [] W w []) ?_ ?_
  · refine wpL_loop (fun n a w => ∃ x17 : Int, ∃ x18 : Int, spec_l24Dot_L1 F p0_c p1_x n x17 x18 = some r27 ∧ Fr a 25 [(0, .slice A_p0_c_1 p0_c.length c_p0_c_1), (1, .slice A_p1_x_1 p1_x.length c_p1_x_1), (5, .int .i64 x17), (6, .int .i64 x18)] ∧ St [] W w []) F ?_ ?_ ?_
    · exact ⟨(-1000000000000000), 0, hl28, (FrD.pick (FrD.pick (FrD.pick (FrD.pick hf.none hf rfl) hf rfl) hf rfl) hf rfl), hs⟩
    · rintro a w ⟨x17, x18, h0_, -, -⟩; simp [spec_l24Dot_L1] at h0_
    · rintro n30 a w ⟨x17, x18, hm29, hf, hs⟩
      rw [spec_l24Dot_L1] at hm29
      refine wpL_seq ?_
      refine wpL_seq ?_
      refine wpL_region ?_
      refine sY hf hs rfl rfl rfl (Y_move rfl rfl) ?_; clear hf; intro a hf
      refine sY hf hs rfl rfl rfl (Y_move rfl rfl) ?_; clear hf; intro a hf
      refine sY hf hs rfl rfl rfl (Y_lenH rfl rfl el23 rfl) ?_; clear hf; intro a hf
      refine sY hf hs rfl rfl rfl (Y_lss rfl rfl rfl) ?_; clear hf; intro a hf
      refine wpO_nil ?_
      refine wpL_cond hf rfl (fun hb31 => ?_) (fun hb31 => ?_)
      · have hm29 := bif_t hm29 hb31
        refine wpL_skip ?_
        refine wpL_seq ?_
        refine wpL_block0 ?_
        refine wpL_draw (by kernel_rfl) (by kernel_rfl) hs ?_
        refine qY hf rfl rfl rfl (Y_move rfl rfl) ?_; clear hf; intro a hf
        refine qY hf rfl rfl rfl (Y_move rfl rfl) ?_; clear hf; intro a hf
        refine qY hf rfl rfl rfl (Y_move rfl rfl) ?_; clear hf; intro a hf
        obtain ⟨q32, hi33, hm29⟩ := bind_some hm29
        obtain ⟨hi33a, hi33b, hi33q⟩ := idx_some hi33
        refine qY hf rfl rfl rfl (Y_index rfl rfl rfl el23 ti2 (Rd.isAt (h_p0_c_1.at hs) (at1 (ints_at hi33q))) hi33a hi33b) ?_; clear hf; intro a hf
        refine qY hf rfl rfl rfl (Y_load_rd rfl rfl (fun w hs => h_p0_c_1.at hs) (at1 (ints_at hi33q)) ag2) ?_; clear hf; intro a hf
        refine qY hf rfl rfl rfl (Y_move rfl rfl) ?_; clear hf; intro a hf
        refine qY hf rfl rfl rfl (Y_move rfl rfl) ?_; clear hf; intro a hf
        obtain ⟨q34, hi35, hm29⟩ := bind_some hm29
        obtain ⟨hi35a, hi35b, hi35q⟩ := idx_some hi35
        refine qY hf rfl rfl rfl (Y_index rfl rfl rfl el23 ti2 (Rd.isAt (h_p1_x_1.at hs) (at1 (ints_at hi35q))) hi35a hi35b) ?_; clear hf; intro a hf
        refine qY hf rfl rfl rfl (Y_load_rd rfl rfl (fun w hs => h_p1_x_1.at hs) (at1 (ints_at hi35q)) ag2) ?_; clear hf; intro a hf
        obtain ⟨r36, hc37, hm29⟩ := bind_some hm29
        refine qCall hf rfl rfl rfl rfl (cap := []) rfl rfl en154 (v := .int .i64 r36) (fun w hs => Calls.scal (spec_l01Times_ok F q32 q34 _ _ hc37)) ?_; clear hf; intro a hf
        refine qY hf rfl rfl rfl (Y_max rfl rfl rfl) ?_; clear hf; intro a hf
        refine qY hf rfl rfl rfl (Y_assign rfl rfl) ?_; clear hf; intro a hf
        refine qNil ?_; clear hs; intro w hs
        refine wpL_nil (Qb_normal ?_)
        refine wpL_region ?_
        refine sY hf hs rfl rfl rfl (Y_move rfl rfl) ?_; clear hf; intro a hf
        refine sY hf hs rfl rfl rfl (Y_add rfl rfl rfl) ?_; clear hf; intro a hf
        refine sY hf hs rfl rfl rfl (Y_assign rfl rfl) ?_; clear hf; intro a hf
        refine wpO_nil ?_
        refine wpL_nil (Ql_normal ?_)
        exact ⟨(max x17 r36), (IntKind.i64.wrap (x18 + 1)), hm29, (FrD.pick (FrD.pick (FrD.pick (FrD.pick hf.none hf rfl) hf rfl) hf rfl) hf rfl), hs⟩
      · have hm29 := bif_f hm29 hb31
        refine wpL_exit (Ql_exit (Qb_exit ?_))
        exact ⟨x17, Option.some.inj hm29, (FrD.pick hf.none hf rfl), hs⟩
  · rintro a w ⟨x26, hr_, hf, hs⟩
    subst hr_
    try dsimp only at hm
    refine wpL_seq ?_
    refine wpL_region ?_
    refine sY hf hs rfl rfl rfl (Y_move rfl rfl) ?_; clear hf; intro a hf
    refine sY hf hs rfl rfl rfl (Y_assign rfl rfl) ?_; clear hf; intro a hf
    refine wpO_nil ?_
    obtain rfl := Option.some.inj hm
    refine wpL_ret (ret_tmp rfl hf rfl ?_)
    exact ⟨_, rfl, rfl, hs⟩

set_option maxRecDepth 100000 in
theorem spec_l07Shift_ok (F : Nat) (p0_x : List Int) (A_p0_x_1 : Option Addr) (n_p0_x_1 c_p0_x_1 : Nat) (hn_p0_x_1 : n_p0_x_1 = p0_x.length) (p1_g : Int) (r : List Int) (W : World) (hm : spec_l07Shift F p0_x p1_g = some r) (h_p0_x_1 : Rd W A_p0_x_1 (ints p0_x)) :
    Calls Try.prog 75 [.slice A_p0_x_1 n_p0_x_1 c_p0_x_1, .int .i64 p1_g].toArray W fun e w' => ∃ v, e = .returned v ∧ ∃ A68, ∃ n69, ∃ c70, v = .slice A68 n69 c70 ∧ n69 = r.length ∧ St [] W w' [.row A68 n69 c70 2 1 (ints r)] := by
  subst hn_p0_x_1
  unfold spec_l07Shift at hm
  refine Calls.enter (N := 24) Try.func75 rfl rfl rfl (fun a hf => ?_)
  have hs := St.start W
  obtain ⟨w, hw_⟩ : ∃ w, w = W := ⟨W, rfl⟩
  clear hw_ w
  refine wpL_seq ?_
  refine wpL_region ?_
  refine sY hf hs rfl rfl rfl (Y_assign rfl rfl) ?_; clear hf; intro a hf
  refine wpO_nil ?_
  refine wpL_seq ?_
  refine wpL_region ?_
  refine sEmpty hf hs rfl rfl rfl rfl el23 ti2 ?_; clear hf hs; intro a w A1 hs hf
  have hs : St [] W w [.row A1 0 0 2 1 (ints ([] : List Int))] := hs
  refine sY hf hs rfl rfl rfl (Y_assign rfl rfl) ?_; clear hf; intro a hf
  refine wpO_nil ?_
  refine wpL_seq ?_
  refine wpL_seq ?_
  refine wpL_region ?_
  refine sY hf hs rfl rfl rfl (Y_assign rfl rfl) ?_; clear hf; intro a hf
  refine wpO_nil ?_
  obtain ⟨r53, hl54, hm⟩ := bind_some hm
  refine wpL_block (fun a w => ∃ xs48 : List Int, ∃ A49, ∃ n50, ∃ c51, xs48 = r53 ∧ n50 = xs48.length ∧ Fr a 24 [(5, .slice A49 n50 c51)] ∧ St [] W w [.row A49 n50 c51 2 1 (ints xs48)]) ?_ ?_
  · refine wpL_loop (fun n a w => ∃ xs31 : List Int, ∃ x36 : Int, ∃ A32, ∃ n33, ∃ c34, spec_l07Shift_L1 F p0_x p1_g n xs31 x36 = some r53 ∧ n33 = xs31.length ∧ Fr a 24 [(0, .slice A_p0_x_1 p0_x.length c_p0_x_1), (1, .int .i64 p1_g), (5, .slice A32 n33 c34), (6, .int .i64 x36)] ∧ St [] W w [.row A32 n33 c34 2 1 (ints xs31)]) F ?_ ?_ ?_
    · exact ⟨([] : List Int), 0, A1, 0, 0, hl54, rfl, (FrD.pick (FrD.pick (FrD.pick (FrD.pick hf.none hf rfl) hf rfl) hf rfl) hf rfl), hs⟩
    · rintro a w ⟨xs31, x36, A32, n33, c34, h0_, -, -, -⟩; simp [spec_l07Shift_L1] at h0_
    · rintro n56 a w ⟨xs31, x36, A32, n33, c34, hm55, hn35, hf, hs⟩
      rw [spec_l07Shift_L1] at hm55
      refine wpL_seq ?_
      refine wpL_seq ?_
      refine wpL_region ?_
      refine sY hf hs rfl rfl rfl (Y_move rfl rfl) ?_; clear hf; intro a hf
      refine sY hf hs rfl rfl rfl (Y_move rfl rfl) ?_; clear hf; intro a hf
      refine sY hf hs rfl rfl rfl (Y_lenH rfl rfl el23 rfl) ?_; clear hf; intro a hf
      refine sY hf hs rfl rfl rfl (Y_lss rfl rfl rfl) ?_; clear hf; intro a hf
      refine wpO_nil ?_
      refine wpL_cond hf rfl (fun hb57 => ?_) (fun hb57 => ?_)
      · have hm55 := bif_t hm55 hb57
        refine wpL_skip ?_
        refine wpL_seq ?_
        refine wpL_block0 ?_
        refine wpL_region ?_
        refine sY hf hs rfl rfl rfl (Y_move rfl rfl) ?_; clear hf; intro a hf
        refine sY hf hs rfl rfl rfl (Y_move rfl rfl) ?_; clear hf; intro a hf
        refine sY hf hs rfl rfl rfl (Y_move rfl rfl) ?_; clear hf; intro a hf
        obtain ⟨q58, hi59, hm55⟩ := bind_some hm55
        obtain ⟨hi59a, hi59b, hi59q⟩ := idx_some hi59
        refine sY hf hs rfl rfl rfl (Y_index rfl rfl rfl el23 ti2 (Rd.isAt (h_p0_x_1.at hs) (at1 (ints_at hi59q))) hi59a hi59b) ?_; clear hf; intro a hf
        refine sY hf hs rfl rfl rfl (Y_load_rd rfl rfl (fun w hs => h_p0_x_1.at hs) (at1 (ints_at hi59q)) ag2) ?_; clear hf; intro a hf
        refine sY hf hs rfl rfl rfl (Y_move rfl rfl) ?_; clear hf; intro a hf
        obtain ⟨r60, hc61, hm55⟩ := bind_some hm55
        refine sCall hf rfl rfl rfl rfl (cap := []) rfl rfl en154 (spec_l01Times_ok F q58 p1_g _ _ hc61) ?_; clear hf
        rintro _ w ⟨rfl, hs1⟩ a hf
        have hs : St [] W w [.row A32 n33 c34 2 1 (ints xs31)] := hs.ext hs1.below
        clear hs1
        refine sBuildSlice (parts := [(0, .tmp 20)]) (vs := [.int .i64 r60]) (cells := [.int .i64 r60]) hf hs rfl rfl rfl rfl rfl el23 ti2 rfl rfl rfl rfl ?_; clear hf hs; intro a w A62 hs hA63 hf
        have hs : St [] W w [.row A32 n33 c34 2 1 (ints xs31), .row A62 1 1 2 1 (ints ([r60]))] := hs
        obtain ⟨xs66, ha67, hm55⟩ := bind_some hm55
        refine sAppendL (i := 0) (xs := xs31) (ys := [r60]) (enc := ints) hf hs rfl rfl rfl rfl rfl rfl hn35 rfl rfl ha67 el23 ti2 rfl rfl rfl (hs.rd (i := 1) rfl) (Nat.succ_pos _) ints_len1 ints_append ints_one ?_; clear hf hs; intro a w A64 c65 hs hf
        have hs : St [] W w [.row A64 xs66.length c65 2 1 (ints xs66), .row A62 1 1 2 1 (ints ([r60]))] := hs
        refine sY hf hs rfl rfl rfl (Y_assign rfl rfl) ?_; clear hf; intro a hf
        refine wpO_nil ?_
        refine wpL_nil (Qb_normal ?_)
        refine wpL_region ?_
        refine sY hf hs rfl rfl rfl (Y_move rfl rfl) ?_; clear hf; intro a hf
        refine sY hf hs rfl rfl rfl (Y_add rfl rfl rfl) ?_; clear hf; intro a hf
        refine sY hf hs rfl rfl rfl (Y_assign rfl rfl) ?_; clear hf; intro a hf
        refine wpO_nil ?_
        refine wpL_nil (Ql_normal ?_)
        exact ⟨xs66, (IntKind.i64.wrap (x36 + 1)), A64, xs66.length, c65, hm55, rfl, (FrD.pick (FrD.pick (FrD.pick (FrD.pick hf.none hf rfl) hf rfl) hf rfl) hf rfl), hs.sel [0] (by decide)⟩
      · have hm55 := bif_f hm55 hb57
        refine wpL_exit (Ql_exit (Qb_exit ?_))
        exact ⟨xs31, A32, n33, c34, Option.some.inj hm55, hn35, (FrD.pick hf.none hf rfl), hs⟩
  · rintro a w ⟨xs48, A49, n50, c51, hr_, hn52, hf, hs⟩
    subst hr_
    try dsimp only at hm
    refine wpL_seq ?_
    refine wpL_region ?_
    refine sY hf hs rfl rfl rfl (Y_move rfl rfl) ?_; clear hf; intro a hf
    refine sY hf hs rfl rfl rfl (Y_assign rfl rfl) ?_; clear hf; intro a hf
    refine wpO_nil ?_
    obtain rfl := Option.some.inj hm
    refine wpL_ret (ret_tmp rfl hf rfl ?_)
    exact ⟨_, rfl, A49, n50, c51, rfl, hn52, hs⟩

set_option maxHeartbeats 2000000 in
set_option maxRecDepth 100000 in
theorem spec_l24Stack_ok (F : Nat) (p0 : List (List Int)) (A_p0_1 : Option Addr) (n_p0_1 c_p0_1 : Nat) (hn_p0_1 : n_p0_1 = p0.length) (p1 : List (List Int)) (A_p1_1 : Option Addr) (n_p1_1 c_p1_1 : Nat) (hn_p1_1 : n_p1_1 = p1.length) (p2 : List (List Int)) (A_p2_1 : Option Addr) (n_p2_1 c_p2_1 : Nat) (hn_p2_1 : n_p2_1 = p2.length) (r : List (List Int)) (W : World) (hm : spec_l24Stack F p0 p1 p2 = some r) (h_p0_1 : RdM W A_p0_1 p0) (h_p1_1 : RdM W A_p1_1 p1) (h_p2_1 : RdM W A_p2_1 p2) :
    Calls Try.prog 79 [.slice A_p0_1 n_p0_1 c_p0_1, .slice A_p1_1 n_p1_1 c_p1_1, .slice A_p2_1 n_p2_1 c_p2_1].toArray W fun e w' => ∃ v, e = .returned v ∧ ∃ A1384, ∃ n1385, ∃ c1386, ∃ vs1388, v = .slice A1384 n1385 c1386 ∧ n1385 = r.length ∧ St [] W w' [.mat A1384 n1385 c1386 23 2 vs1388 r] := by
  subst hn_p0_1
  subst hn_p1_1
  subst hn_p2_1
  unfold spec_l24Stack at hm
  refine Calls.enter (N := 98) Try.func79 rfl rfl rfl (fun a hf => ?_)
  have hs := St.start W
  obtain ⟨w, hw_⟩ : ∃ w, w = W := ⟨W, rfl⟩
  clear hw_ w
  refine wpL_seq ?_
  refine wpL_region ?_
  refine sY hf hs rfl rfl rfl (Y_assign rfl rfl) ?_; clear hf; intro a hf
  refine wpO_nil ?_
  refine wpL_seq ?_
  refine wpL_region ?_
  refine sY hf hs rfl rfl rfl (Y_move rfl rfl) ?_; clear hf; intro a hf
  refine sY hf hs rfl rfl rfl (Y_lenH rfl rfl el22 rfl) ?_; clear hf; intro a hf
  refine sY hf hs rfl rfl rfl (Y_assign rfl rfl) ?_; clear hf; intro a hf
  refine wpO_nil ?_
  refine wpL_seq ?_
  refine wpL_region ?_
  refine sY hf hs rfl rfl rfl (Y_move rfl rfl) ?_; clear hf; intro a hf
  refine sY hf hs rfl rfl rfl (Y_move rfl rfl) ?_; clear hf; intro a hf
  refine sY hf hs rfl rfl rfl (Y_lenH rfl rfl el22 rfl) ?_; clear hf; intro a hf
  refine sY hf hs rfl rfl rfl (Y_add rfl rfl rfl) ?_; clear hf; intro a hf
  refine sY hf hs rfl rfl rfl (Y_move rfl rfl) ?_; clear hf; intro a hf
  refine sY hf hs rfl rfl rfl (Y_move rfl rfl) ?_; clear hf; intro a hf
  refine sY hf hs rfl rfl rfl (Y_lenH rfl rfl el22 rfl) ?_; clear hf; intro a hf
  refine sY hf hs rfl rfl rfl (Y_add rfl rfl rfl) ?_; clear hf; intro a hf
  obtain ⟨r1, hc2, hm⟩ := bind_some hm
  refine sCall hf rfl rfl rfl rfl (cap := []) rfl rfl en74 (spec_l02Bottom_ok F (IntKind.i64.wrap ((p0.length : Int) + (p1.length : Int))) (IntKind.i64.wrap ((p0.length : Int) + (p1.length : Int))) _ _ hc2) ?_; clear hf
  rintro _ w ⟨A3, n4, c5, vs7, rfl, hn6, hs1⟩ a hf
  have hs : St [] W w [.mat A3 n4 c5 23 2 vs7 r1] := hs.join hs1
  clear hs1
  refine sY hf hs rfl rfl rfl (Y_assign rfl rfl) ?_; clear hf; intro a hf
  refine wpO_nil ?_
  refine wpL_seq ?_
  refine wpL_seq ?_
  refine wpL_region ?_
  refine sY hf hs rfl rfl rfl (Y_assign rfl rfl) ?_; clear hf; intro a hf
  refine wpO_nil ?_
  obtain ⟨r355, hl356, hm⟩ := bind_some hm
  refine wpL_block (fun a w => ∃ ms353 : List (List Int), ms353 = r355 ∧ n4 = ms353.length ∧ Fr a 98 [(1, .slice A_p1_1 p1.length c_p1_1), (2, .slice A_p2_1 p2.length c_p2_1), (7, .int .i64 (p0.length : Int)), (8, .slice A3 n4 c5)] ∧ St [] W w [.mat A3 n4 c5 23 2 vs7 ms353]) ?_ ?_
  · refine wpL_loop (fun n a w => ∃ ms237 : List (List Int), ∃ x239 : Int, spec_l24Stack_L4 F p0 n ms237 x239 = some r355 ∧ n4 = ms237.length ∧ Fr a 98 [(0, .slice A_p0_1 p0.length c_p0_1), (1, .slice A_p1_1 p1.length c_p1_1), (2, .slice A_p2_1 p2.length c_p2_1), (7, .int .i64 (p0.length : Int)), (8, .slice A3 n4 c5), (9, .int .i64 x239)] ∧ St [] W w [.mat A3 n4 c5 23 2 vs7 ms237]) F ?_ ?_ ?_
    · exact ⟨r1, 0, hl356, hn6, (FrD.pick (FrD.pick (FrD.pick (FrD.pick (FrD.pick (FrD.pick hf.none hf rfl) hf rfl) hf rfl) hf rfl) hf rfl) hf rfl), hs⟩
    · rintro a w ⟨ms237, x239, h0_, -, -, -⟩; simp [spec_l24Stack_L4] at h0_
    · rintro n358 a w ⟨ms237, x239, hm357, hn238, hf, hs⟩
      rw [spec_l24Stack_L4] at hm357
      refine wpL_seq ?_
      refine wpL_seq ?_
      refine wpL_region ?_
      refine sY hf hs rfl rfl rfl (Y_move rfl rfl) ?_; clear hf; intro a hf
      refine sY hf hs rfl rfl rfl (Y_move rfl rfl) ?_; clear hf; intro a hf
      refine sY hf hs rfl rfl rfl (Y_lss rfl rfl rfl) ?_; clear hf; intro a hf
      refine wpO_nil ?_
      refine wpL_cond hf rfl (fun hb359 => ?_) (fun hb359 => ?_)
      · have hm357 := bif_t hm357 hb359
        refine wpL_skip ?_
        refine wpL_seq ?_
        refine wpL_block0 ?_
        refine wpL_seq ?_
        refine wpL_region ?_
        refine sY hf hs rfl rfl rfl (Y_assign rfl rfl) ?_; clear hf; intro a hf
        refine wpO_nil ?_
        obtain ⟨r443, hl444, hm357⟩ := bind_some hm357
        refine wpL_block (fun a w => ∃ ms441 : List (List Int), ms441 = r443 ∧ n4 = ms441.length ∧ Fr a 98 [(0, .slice A_p0_1 p0.length c_p0_1), (1, .slice A_p1_1 p1.length c_p1_1), (2, .slice A_p2_1 p2.length c_p2_1), (7, .int .i64 (p0.length : Int)), (8, .slice A3 n4 c5), (9, .int .i64 x239)] ∧ St [] W w [.mat A3 n4 c5 23 2 vs7 ms441]) ?_ ?_
        · refine wpL_loop (fun n a w => ∃ ms413 : List (List Int), ∃ x415 : Int, spec_l24Stack_L5 F p0 x239 n ms413 x415 = some r443 ∧ n4 = ms413.length ∧ Fr a 98 [(0, .slice A_p0_1 p0.length c_p0_1), (1, .slice A_p1_1 p1.length c_p1_1), (2, .slice A_p2_1 p2.length c_p2_1), (7, .int .i64 (p0.length : Int)), (8, .slice A3 n4 c5), (9, .int .i64 x239), (10, .int .i64 x415)] ∧ St [] W w [.mat A3 n4 c5 23 2 vs7 ms413]) F ?_ ?_ ?_
          · exact ⟨ms237, 0, hl444, hn238, (FrD.pick (FrD.pick (FrD.pick (FrD.pick (FrD.pick (FrD.pick (FrD.pick hf.none hf rfl) hf rfl) hf rfl) hf rfl) hf rfl) hf rfl) hf rfl), hs⟩
          · rintro a w ⟨ms413, x415, h0_, -, -, -⟩; simp [spec_l24Stack_L5] at h0_
          · rintro n446 a w ⟨ms413, x415, hm445, hn414, hf, hs⟩
            rw [spec_l24Stack_L5] at hm445
            refine wpL_seq ?_
            refine wpL_seq ?_
            refine wpL_region ?_
            refine sY hf hs rfl rfl rfl (Y_move rfl rfl) ?_; clear hf; intro a hf
            refine sY hf hs rfl rfl rfl (Y_move rfl rfl) ?_; clear hf; intro a hf
            refine sY hf hs rfl rfl rfl (Y_lss rfl rfl rfl) ?_; clear hf; intro a hf
            refine wpO_nil ?_
            refine wpL_cond hf rfl (fun hb447 => ?_) (fun hb447 => ?_)
            · have hm445 := bif_t hm445 hb447
              refine wpL_skip ?_
              refine wpL_seq ?_
              refine wpL_block0 ?_
              refine wpL_drawM [.mat A3 n4 c5 23 2 vs7 ms413] [13] (by kernel_rfl) hs ?_; clear hs; intro w hs
              have hs0 : St [] W w [.mat A3 n4 c5 23 2 vs7 ms413] := hs
              refine mYp (i := 0) rfl (by kernel_rfl) (by kernel_rfl) hf rfl rfl rfl (fun _ => Y_move rfl rfl) ?_; clear hf; intro a hf
              refine mYp (i := 1) rfl (by kernel_rfl) (by kernel_rfl) hf rfl rfl rfl (fun _ => Y_move rfl rfl) ?_; clear hf; intro a hf
              obtain ⟨q448, hi449, hm445⟩ := bind_some hm445
              obtain ⟨hi449a, hi449b, hi449q⟩ := idx_some hi449
              obtain ⟨A450, c451, hv452⟩ := hs.matRow (i := 0) rfl hi449q
              refine mYp (i := 2) rfl (by kernel_rfl) (by kernel_rfl) hf rfl rfl rfl (fun _ => Y_index rfl rfl rfl el22 ti23 (Rd.isAt (hs.rdV (i := 0) rfl) hv452) hi449a (ltn hn414 hi449b)) ?_; clear hf; intro a hf
              refine mY (i := 3) [[]] rfl (by kernel_rfl) (by kernel_rfl) hf hs0 rfl rfl rfl (Y_load_rd rfl rfl (fun w hs => hs.rdV (i := 0) rfl) (at1 hv452) ag23) ?_; clear hf; intro a hf
              refine mYp (i := 4) rfl (by kernel_rfl) (by kernel_rfl) hf rfl rfl rfl (fun _ => Y_move rfl rfl) ?_; clear hf; intro a hf
              refine mYp (i := 5) rfl (by kernel_rfl) (by kernel_rfl) hf rfl rfl rfl (fun _ => Y_move rfl rfl) ?_; clear hf; intro a hf
              refine mYp (i := 6) rfl (by kernel_rfl) (by kernel_rfl) hf rfl rfl rfl (fun _ => Y_move rfl rfl) ?_; clear hf; intro a hf
              obtain ⟨q453, hi454, hm445⟩ := bind_some hm445
              obtain ⟨hi454a, hi454b, hi454q⟩ := idx_some hi454
              obtain ⟨vs455, hv456, hr457⟩ := id h_p0_1
              obtain ⟨A458, c459, hv460, hR461⟩ := hr457 _ _ hi454q
              refine mYp (i := 7) rfl (by kernel_rfl) (by kernel_rfl) hf rfl rfl rfl (fun _ => Y_index rfl rfl rfl el22 ti23 (Rd.isAt hv456 hv460) hi454a hi454b) ?_; clear hf; intro a hf
              refine mY (i := 8) [[]] rfl (by kernel_rfl) (by kernel_rfl) hf hs0 rfl rfl rfl (Y_load_rd rfl rfl (fun w hs => hv456.at hs) (at1 hv460) ag23) ?_; clear hf; intro a hf
              refine mYp (i := 9) rfl (by kernel_rfl) (by kernel_rfl) hf rfl rfl rfl (fun _ => Y_move rfl rfl) ?_; clear hf; intro a hf
              obtain ⟨q462, hi463, hm445⟩ := bind_some hm445
              obtain ⟨hi463a, hi463b, hi463q⟩ := idx_some hi463
              refine mYp (i := 10) rfl (by kernel_rfl) (by kernel_rfl) hf rfl rfl rfl (fun _ => Y_index rfl rfl rfl el23 ti2 (Rd.isAt (hR461.at hs) (at1 (ints_at hi463q))) hi463a hi463b) ?_; clear hf; intro a hf
              refine mY (i := 11) [[]] rfl (by kernel_rfl) (by kernel_rfl) hf hs0 rfl rfl rfl (Y_load_rd rfl rfl (fun w hs => hR461.at hs) (at1 (ints_at hi463q)) ag2) ?_; clear hf; intro a hf
              obtain ⟨q464, hi465, hm445⟩ := bind_some hm445
              obtain ⟨hi465a, hi465b, hi465q⟩ := idx_some hi465
              refine mYp (i := 12) rfl (by kernel_rfl) (by kernel_rfl) hf rfl rfl rfl (fun _ => Y_index rfl rfl rfl el23 ti2 (Rd.isAt (hs.rdRow (i := 0) rfl ⟨hi449q, hv452⟩) (at1 (ints_at hi465q))) hi465a hi465b) ?_; clear hf; intro a hf
              refine mRun (i := 13) rfl (by kernel_rfl) ?_
              obtain ⟨xs466, hu468, hm445⟩ := bind_some hm445
              obtain ⟨ms467, hu469, hm445⟩ := bind_some hm445
              refine sStoreM (i := 0) (k := x239) hf hs rfl rfl rfl rfl rfl rfl hi449q hv452 rfl hu468 hu469 ti2 ?_; clear hs; intro w hs
              obtain ⟨hq470, hv471⟩ := rowUpd hu468 hu469 hv452
              have hs : St [] W w [.mat A3 n4 c5 23 2 vs7 ms467] := hs
              refine wpO_nil ⟨Or.inl (by decide), ?_⟩
              refine mDone (by kernel_rfl) ?_
              clear hs0
              refine wpL_nil (Qb_normal ?_)
              refine wpL_region ?_
              refine sY hf hs rfl rfl rfl (Y_move rfl rfl) ?_; clear hf; intro a hf
              refine sY hf hs rfl rfl rfl (Y_add rfl rfl rfl) ?_; clear hf; intro a hf
              refine sY hf hs rfl rfl rfl (Y_assign rfl rfl) ?_; clear hf; intro a hf
              refine wpO_nil ?_
              refine wpL_nil (Ql_normal ?_)
              exact ⟨ms467, (IntKind.i64.wrap (x415 + 1)), hm445, ((hn414).trans (upd_len hu469).symm), (FrD.pick (FrD.pick (FrD.pick (FrD.pick (FrD.pick (FrD.pick (FrD.pick hf.none hf rfl) hf rfl) hf rfl) hf rfl) hf rfl) hf rfl) hf rfl), hs⟩
            · have hm445 := bif_f hm445 hb447
              refine wpL_exit (Ql_exit (Qb_exit ?_))
              exact ⟨ms413, Option.some.inj hm445, hn414, (FrD.pick (FrD.pick (FrD.pick (FrD.pick (FrD.pick (FrD.pick hf.none hf rfl) hf rfl) hf rfl) hf rfl) hf rfl) hf rfl), hs⟩
        · rintro a w ⟨ms441, hr_, hn442, hf, hs⟩
          subst hr_
          try dsimp only at hm357
          refine wpL_nil (Qb_normal ?_)
          refine wpL_region ?_
          refine sY hf hs rfl rfl rfl (Y_move rfl rfl) ?_; clear hf; intro a hf
          refine sY hf hs rfl rfl rfl (Y_add rfl rfl rfl) ?_; clear hf; intro a hf
          refine sY hf hs rfl rfl rfl (Y_assign rfl rfl) ?_; clear hf; intro a hf
          refine wpO_nil ?_
          refine wpL_nil (Ql_normal ?_)
          exact ⟨ms441, (IntKind.i64.wrap (x239 + 1)), hm357, hn442, (FrD.pick (FrD.pick (FrD.pick (FrD.pick (FrD.pick (FrD.pick hf.none hf rfl) hf rfl) hf rfl) hf rfl) hf rfl) hf rfl), hs⟩
      · have hm357 := bif_f hm357 hb359
        refine wpL_exit (Ql_exit (Qb_exit ?_))
        exact ⟨ms237, Option.some.inj hm357, hn238, (FrD.pick (FrD.pick (FrD.pick (FrD.pick hf.none hf rfl) hf rfl) hf rfl) hf rfl), hs⟩
  · rintro a w ⟨ms353, hr_, hn354, hf, hs⟩
    subst hr_
    try dsimp only at hm
    refine wpL_seq ?_
    refine wpL_seq ?_
    refine wpL_region ?_
    refine sY hf hs rfl rfl rfl (Y_assign rfl rfl) ?_; clear hf; intro a hf
    refine wpO_nil ?_
    obtain ⟨r1155, hl1156, hm⟩ := bind_some hm
    refine wpL_block (fun a w => ∃ ms1153 : List (List Int), ms1153 = r1155 ∧ n4 = ms1153.length ∧ Fr a 98 [(8, .slice A3 n4 c5)] ∧ St [] W w [.mat A3 n4 c5 23 2 vs7 ms1153]) ?_ ?_
    · refine wpL_loop (fun n a w => ∃ ms925 : List (List Int), ∃ x927 : Int, spec_l24Stack_L12 F p0 p1 p2 n ms925 x927 = some r1155 ∧ n4 = ms925.length ∧ Fr a 98 [(1, .slice A_p1_1 p1.length c_p1_1), (2, .slice A_p2_1 p2.length c_p2_1), (7, .int .i64 (p0.length : Int)), (8, .slice A3 n4 c5), (11, .int .i64 x927)] ∧ St [] W w [.mat A3 n4 c5 23 2 vs7 ms925]) F ?_ ?_ ?_
      · exact ⟨ms353, 0, hl1156, hn354, (FrD.pick (FrD.pick (FrD.pick (FrD.pick (FrD.pick hf.none hf rfl) hf rfl) hf rfl) hf rfl) hf rfl), hs⟩
      · rintro a w ⟨ms925, x927, h0_, -, -, -⟩; simp [spec_l24Stack_L12] at h0_
      · rintro n1158 a w ⟨ms925, x927, hm1157, hn926, hf, hs⟩
        rw [spec_l24Stack_L12] at hm1157
        refine wpL_seq ?_
        refine wpL_seq ?_
        refine wpL_region ?_
        refine sY hf hs rfl rfl rfl (Y_move rfl rfl) ?_; clear hf; intro a hf
        refine sY hf hs rfl rfl rfl (Y_move rfl rfl) ?_; clear hf; intro a hf
        refine sY hf hs rfl rfl rfl (Y_lenH rfl rfl el22 rfl) ?_; clear hf; intro a hf
        refine sY hf hs rfl rfl rfl (Y_lss rfl rfl rfl) ?_; clear hf; intro a hf
        refine wpO_nil ?_
        refine wpL_cond hf rfl (fun hb1159 => ?_) (fun hb1159 => ?_)
        · have hm1157 := bif_t hm1157 hb1159
          refine wpL_skip ?_
          refine wpL_seq ?_
          refine wpL_block0 ?_
          refine wpL_seq ?_
          refine wpL_seq ?_
          refine wpL_region ?_
          refine sY hf hs rfl rfl rfl (Y_assign rfl rfl) ?_; clear hf; intro a hf
          refine wpO_nil ?_
          obtain ⟨r1243, hl1244, hm1157⟩ := bind_some hm1157
          refine wpL_block (fun a w => ∃ ms1241 : List (List Int), ms1241 = r1243 ∧ n4 = ms1241.length ∧ Fr a 98 [(1, .slice A_p1_1 p1.length c_p1_1), (2, .slice A_p2_1 p2.length c_p2_1), (7, .int .i64 (p0.length : Int)), (8, .slice A3 n4 c5), (11, .int .i64 x927)] ∧ St [] W w [.mat A3 n4 c5 23 2 vs7 ms1241]) ?_ ?_
          · refine wpL_loop (fun n a w => ∃ ms1213 : List (List Int), ∃ x1215 : Int, spec_l24Stack_L13 F p0 p1 x927 n ms1213 x1215 = some r1243 ∧ n4 = ms1213.length ∧ Fr a 98 [(1, .slice A_p1_1 p1.length c_p1_1), (2, .slice A_p2_1 p2.length c_p2_1), (7, .int .i64 (p0.length : Int)), (8, .slice A3 n4 c5), (11, .int .i64 x927), (12, .int .i64 x1215)] ∧ St [] W w [.mat A3 n4 c5 23 2 vs7 ms1213]) F ?_ ?_ ?_
            · exact ⟨ms925, 0, hl1244, hn926, (FrD.pick (FrD.pick (FrD.pick (FrD.pick (FrD.pick (FrD.pick hf.none hf rfl) hf rfl) hf rfl) hf rfl) hf rfl) hf rfl), hs⟩
            · rintro a w ⟨ms1213, x1215, h0_, -, -, -⟩; simp [spec_l24Stack_L13] at h0_
            · rintro n1246 a w ⟨ms1213, x1215, hm1245, hn1214, hf, hs⟩
              rw [spec_l24Stack_L13] at hm1245
              refine wpL_seq ?_
              refine wpL_seq ?_
              refine wpL_region ?_
              refine sY hf hs rfl rfl rfl (Y_move rfl rfl) ?_; clear hf; intro a hf
              refine sY hf hs rfl rfl rfl (Y_move rfl rfl) ?_; clear hf; intro a hf
              refine sY hf hs rfl rfl rfl (Y_lenH rfl rfl el22 rfl) ?_; clear hf; intro a hf
              refine sY hf hs rfl rfl rfl (Y_lss rfl rfl rfl) ?_; clear hf; intro a hf
              refine wpO_nil ?_
              refine wpL_cond hf rfl (fun hb1247 => ?_) (fun hb1247 => ?_)
              · have hm1245 := bif_t hm1245 hb1247
                refine wpL_skip ?_
                refine wpL_seq ?_
                refine wpL_block0 ?_
                refine wpL_drawM [.mat A3 n4 c5 23 2 vs7 ms1213] [17] (by kernel_rfl) hs ?_; clear hs; intro w hs
                have hs0 : St [] W w [.mat A3 n4 c5 23 2 vs7 ms1213] := hs
                refine mYp (i := 0) rfl (by kernel_rfl) (by kernel_rfl) hf rfl rfl rfl (fun _ => Y_move rfl rfl) ?_; clear hf; intro a hf
                refine mYp (i := 1) rfl (by kernel_rfl) (by kernel_rfl) hf rfl rfl rfl (fun _ => Y_move rfl rfl) ?_; clear hf; intro a hf
                refine mYp (i := 2) rfl (by kernel_rfl) (by kernel_rfl) hf rfl rfl rfl (fun _ => Y_move rfl rfl) ?_; clear hf; intro a hf
                refine mYp (i := 3) rfl (by kernel_rfl) (by kernel_rfl) hf rfl rfl rfl (fun _ => Y_add rfl rfl rfl) ?_; clear hf; intro a hf
                obtain ⟨q1248, hi1249, hm1245⟩ := bind_some hm1245
                obtain ⟨hi1249a, hi1249b, hi1249q⟩ := idx_some hi1249
                obtain ⟨A1250, c1251, hv1252⟩ := hs.matRow (i := 0) rfl hi1249q
                refine mYp (i := 4) rfl (by kernel_rfl) (by kernel_rfl) hf rfl rfl rfl (fun _ => Y_index rfl rfl rfl el22 ti23 (Rd.isAt (hs.rdV (i := 0) rfl) hv1252) hi1249a (ltn hn1214 hi1249b)) ?_; clear hf; intro a hf
                refine mY (i := 5) [[]] rfl (by kernel_rfl) (by kernel_rfl) hf hs0 rfl rfl rfl (Y_load_rd rfl rfl (fun w hs => hs.rdV (i := 0) rfl) (at1 hv1252) ag23) ?_; clear hf; intro a hf
                refine mYp (i := 6) rfl (by kernel_rfl) (by kernel_rfl) hf rfl rfl rfl (fun _ => Y_move rfl rfl) ?_; clear hf; intro a hf
                refine mYp (i := 7) rfl (by kernel_rfl) (by kernel_rfl) hf rfl rfl rfl (fun _ => Y_move rfl rfl) ?_; clear hf; intro a hf
                refine mYp (i := 8) rfl (by kernel_rfl) (by kernel_rfl) hf rfl rfl rfl (fun _ => Y_add rfl rfl rfl) ?_; clear hf; intro a hf
                refine mYp (i := 9) rfl (by kernel_rfl) (by kernel_rfl) hf rfl rfl rfl (fun _ => Y_move rfl rfl) ?_; clear hf; intro a hf
                refine mYp (i := 10) rfl (by kernel_rfl) (by kernel_rfl) hf rfl rfl rfl (fun _ => Y_move rfl rfl) ?_; clear hf; intro a hf
                obtain ⟨q1253, hi1254, hm1245⟩ := bind_some hm1245
                obtain ⟨hi1254a, hi1254b, hi1254q⟩ := idx_some hi1254
                obtain ⟨vs1255, hv1256, hr1257⟩ := id h_p1_1
                obtain ⟨A1258, c1259, hv1260, hR1261⟩ := hr1257 _ _ hi1254q
                refine mYp (i := 11) rfl (by kernel_rfl) (by kernel_rfl) hf rfl rfl rfl (fun _ => Y_index rfl rfl rfl el22 ti23 (Rd.isAt hv1256 hv1260) hi1254a hi1254b) ?_; clear hf; intro a hf
                refine mY (i := 12) [[]] rfl (by kernel_rfl) (by kernel_rfl) hf hs0 rfl rfl rfl (Y_load_rd rfl rfl (fun w hs => hv1256.at hs) (at1 hv1260) ag23) ?_; clear hf; intro a hf
                refine mYp (i := 13) rfl (by kernel_rfl) (by kernel_rfl) hf rfl rfl rfl (fun _ => Y_move rfl rfl) ?_; clear hf; intro a hf
                obtain ⟨q1262, hi1263, hm1245⟩ := bind_some hm1245
                obtain ⟨hi1263a, hi1263b, hi1263q⟩ := idx_some hi1263
                refine mYp (i := 14) rfl (by kernel_rfl) (by kernel_rfl) hf rfl rfl rfl (fun _ => Y_index rfl rfl rfl el23 ti2 (Rd.isAt (hR1261.at hs) (at1 (ints_at hi1263q))) hi1263a hi1263b) ?_; clear hf; intro a hf
                refine mY (i := 15) [[]] rfl (by kernel_rfl) (by kernel_rfl) hf hs0 rfl rfl rfl (Y_load_rd rfl rfl (fun w hs => hR1261.at hs) (at1 (ints_at hi1263q)) ag2) ?_; clear hf; intro a hf
                obtain ⟨q1264, hi1265, hm1245⟩ := bind_some hm1245
                obtain ⟨hi1265a, hi1265b, hi1265q⟩ := idx_some hi1265
                refine mYp (i := 16) rfl (by kernel_rfl) (by kernel_rfl) hf rfl rfl rfl (fun _ => Y_index rfl rfl rfl el23 ti2 (Rd.isAt (hs.rdRow (i := 0) rfl ⟨hi1249q, hv1252⟩) (at1 (ints_at hi1265q))) hi1265a hi1265b) ?_; clear hf; intro a hf
                refine mRun (i := 17) rfl (by kernel_rfl) ?_
                obtain ⟨xs1266, hu1268, hm1245⟩ := bind_some hm1245
                obtain ⟨ms1267, hu1269, hm1245⟩ := bind_some hm1245
                refine sStoreM (i := 0) (k := (IntKind.i64.wrap ((p0.length : Int) + x927))) hf hs rfl rfl rfl rfl rfl rfl hi1249q hv1252 rfl hu1268 hu1269 ti2 ?_; clear hs; intro w hs
                obtain ⟨hq1270, hv1271⟩ := rowUpd hu1268 hu1269 hv1252
                have hs : St [] W w [.mat A3 n4 c5 23 2 vs7 ms1267] := hs
                refine wpO_nil ⟨Or.inl (by decide), ?_⟩
                refine mDone (by kernel_rfl) ?_
                clear hs0
                refine wpL_nil (Qb_normal ?_)
                refine wpL_region ?_
                refine sY hf hs rfl rfl rfl (Y_move rfl rfl) ?_; clear hf; intro a hf
                refine sY hf hs rfl rfl rfl (Y_add rfl rfl rfl) ?_; clear hf; intro a hf
                refine sY hf hs rfl rfl rfl (Y_assign rfl rfl) ?_; clear hf; intro a hf
                refine wpO_nil ?_
                refine wpL_nil (Ql_normal ?_)
                exact ⟨ms1267, (IntKind.i64.wrap (x1215 + 1)), hm1245, ((hn1214).trans (upd_len hu1269).symm), (FrD.pick (FrD.pick (FrD.pick (FrD.pick (FrD.pick (FrD.pick hf.none hf rfl) hf rfl) hf rfl) hf rfl) hf rfl) hf rfl), hs⟩
              · have hm1245 := bif_f hm1245 hb1247
                refine wpL_exit (Ql_exit (Qb_exit ?_))
                exact ⟨ms1213, Option.some.inj hm1245, hn1214, (FrD.pick (FrD.pick (FrD.pick (FrD.pick (FrD.pick hf.none hf rfl) hf rfl) hf rfl) hf rfl) hf rfl), hs⟩
          · rintro a w ⟨ms1241, hr_, hn1242, hf, hs⟩
            subst hr_
            try dsimp only at hm1157
            refine wpL_seq ?_
            refine wpL_region ?_
            refine sY hf hs rfl rfl rfl (Y_assign rfl rfl) ?_; clear hf; intro a hf
            refine wpO_nil ?_
            obtain ⟨r1355, hl1356, hm1157⟩ := bind_some hm1157
            refine wpL_block (fun a w => ∃ ms1353 : List (List Int), ms1353 = r1355 ∧ n4 = ms1353.length ∧ Fr a 98 [(1, .slice A_p1_1 p1.length c_p1_1), (2, .slice A_p2_1 p2.length c_p2_1), (7, .int .i64 (p0.length : Int)), (8, .slice A3 n4 c5), (11, .int .i64 x927)] ∧ St [] W w [.mat A3 n4 c5 23 2 vs7 ms1353]) ?_ ?_
            · refine wpL_loop (fun n a w => ∃ ms1325 : List (List Int), ∃ x1327 : Int, spec_l24Stack_L14 F p0 p2 x927 n ms1325 x1327 = some r1355 ∧ n4 = ms1325.length ∧ Fr a 98 [(1, .slice A_p1_1 p1.length c_p1_1), (2, .slice A_p2_1 p2.length c_p2_1), (7, .int .i64 (p0.length : Int)), (8, .slice A3 n4 c5), (11, .int .i64 x927), (13, .int .i64 x1327)] ∧ St [] W w [.mat A3 n4 c5 23 2 vs7 ms1325]) F ?_ ?_ ?_
              · exact ⟨ms1241, 0, hl1356, hn1242, (FrD.pick (FrD.pick (FrD.pick (FrD.pick (FrD.pick (FrD.pick hf.none hf rfl) hf rfl) hf rfl) hf rfl) hf rfl) hf rfl), hs⟩
              · rintro a w ⟨ms1325, x1327, h0_, -, -, -⟩; simp [spec_l24Stack_L14] at h0_
              · rintro n1358 a w ⟨ms1325, x1327, hm1357, hn1326, hf, hs⟩
                rw [spec_l24Stack_L14] at hm1357
                refine wpL_seq ?_
                refine wpL_seq ?_
                refine wpL_region ?_
                refine sY hf hs rfl rfl rfl (Y_move rfl rfl) ?_; clear hf; intro a hf
                refine sY hf hs rfl rfl rfl (Y_move rfl rfl) ?_; clear hf; intro a hf
                refine sY hf hs rfl rfl rfl (Y_lss rfl rfl rfl) ?_; clear hf; intro a hf
                refine wpO_nil ?_
                refine wpL_cond hf rfl (fun hb1359 => ?_) (fun hb1359 => ?_)
                · have hm1357 := bif_t hm1357 hb1359
                  refine wpL_skip ?_
                  refine wpL_seq ?_
                  refine wpL_block0 ?_
                  refine wpL_drawM [.mat A3 n4 c5 23 2 vs7 ms1325] [15] (by kernel_rfl) hs ?_; clear hs; intro w hs
                  have hs0 : St [] W w [.mat A3 n4 c5 23 2 vs7 ms1325] := hs
                  refine mYp (i := 0) rfl (by kernel_rfl) (by kernel_rfl) hf rfl rfl rfl (fun _ => Y_move rfl rfl) ?_; clear hf; intro a hf
                  refine mYp (i := 1) rfl (by kernel_rfl) (by kernel_rfl) hf rfl rfl rfl (fun _ => Y_move rfl rfl) ?_; clear hf; intro a hf
                  refine mYp (i := 2) rfl (by kernel_rfl) (by kernel_rfl) hf rfl rfl rfl (fun _ => Y_move rfl rfl) ?_; clear hf; intro a hf
                  refine mYp (i := 3) rfl (by kernel_rfl) (by kernel_rfl) hf rfl rfl rfl (fun _ => Y_add rfl rfl rfl) ?_; clear hf; intro a hf
                  obtain ⟨q1360, hi1361, hm1357⟩ := bind_some hm1357
                  obtain ⟨hi1361a, hi1361b, hi1361q⟩ := idx_some hi1361
                  obtain ⟨A1362, c1363, hv1364⟩ := hs.matRow (i := 0) rfl hi1361q
                  refine mYp (i := 4) rfl (by kernel_rfl) (by kernel_rfl) hf rfl rfl rfl (fun _ => Y_index rfl rfl rfl el22 ti23 (Rd.isAt (hs.rdV (i := 0) rfl) hv1364) hi1361a (ltn hn1326 hi1361b)) ?_; clear hf; intro a hf
                  refine mY (i := 5) [[]] rfl (by kernel_rfl) (by kernel_rfl) hf hs0 rfl rfl rfl (Y_load_rd rfl rfl (fun w hs => hs.rdV (i := 0) rfl) (at1 hv1364) ag23) ?_; clear hf; intro a hf
                  refine mYp (i := 6) rfl (by kernel_rfl) (by kernel_rfl) hf rfl rfl rfl (fun _ => Y_move rfl rfl) ?_; clear hf; intro a hf
                  refine mYp (i := 7) rfl (by kernel_rfl) (by kernel_rfl) hf rfl rfl rfl (fun _ => Y_move rfl rfl) ?_; clear hf; intro a hf
                  refine mYp (i := 8) rfl (by kernel_rfl) (by kernel_rfl) hf rfl rfl rfl (fun _ => Y_move rfl rfl) ?_; clear hf; intro a hf
                  obtain ⟨q1365, hi1366, hm1357⟩ := bind_some hm1357
                  obtain ⟨hi1366a, hi1366b, hi1366q⟩ := idx_some hi1366
                  obtain ⟨vs1367, hv1368, hr1369⟩ := id h_p2_1
                  obtain ⟨A1370, c1371, hv1372, hR1373⟩ := hr1369 _ _ hi1366q
                  refine mYp (i := 9) rfl (by kernel_rfl) (by kernel_rfl) hf rfl rfl rfl (fun _ => Y_index rfl rfl rfl el22 ti23 (Rd.isAt hv1368 hv1372) hi1366a hi1366b) ?_; clear hf; intro a hf
                  refine mY (i := 10) [[]] rfl (by kernel_rfl) (by kernel_rfl) hf hs0 rfl rfl rfl (Y_load_rd rfl rfl (fun w hs => hv1368.at hs) (at1 hv1372) ag23) ?_; clear hf; intro a hf
                  refine mYp (i := 11) rfl (by kernel_rfl) (by kernel_rfl) hf rfl rfl rfl (fun _ => Y_move rfl rfl) ?_; clear hf; intro a hf
                  obtain ⟨q1374, hi1375, hm1357⟩ := bind_some hm1357
                  obtain ⟨hi1375a, hi1375b, hi1375q⟩ := idx_some hi1375
                  refine mYp (i := 12) rfl (by kernel_rfl) (by kernel_rfl) hf rfl rfl rfl (fun _ => Y_index rfl rfl rfl el23 ti2 (Rd.isAt (hR1373.at hs) (at1 (ints_at hi1375q))) hi1375a hi1375b) ?_; clear hf; intro a hf
                  refine mY (i := 13) [[]] rfl (by kernel_rfl) (by kernel_rfl) hf hs0 rfl rfl rfl (Y_load_rd rfl rfl (fun w hs => hR1373.at hs) (at1 (ints_at hi1375q)) ag2) ?_; clear hf; intro a hf
                  obtain ⟨q1376, hi1377, hm1357⟩ := bind_some hm1357
                  obtain ⟨hi1377a, hi1377b, hi1377q⟩ := idx_some hi1377
                  refine mYp (i := 14) rfl (by kernel_rfl) (by kernel_rfl) hf rfl rfl rfl (fun _ => Y_index rfl rfl rfl el23 ti2 (Rd.isAt (hs.rdRow (i := 0) rfl ⟨hi1361q, hv1364⟩) (at1 (ints_at hi1377q))) hi1377a hi1377b) ?_; clear hf; intro a hf
                  refine mRun (i := 15) rfl (by kernel_rfl) ?_
                  obtain ⟨xs1378, hu1380, hm1357⟩ := bind_some hm1357
                  obtain ⟨ms1379, hu1381, hm1357⟩ := bind_some hm1357
                  refine sStoreM (i := 0) (k := (IntKind.i64.wrap ((p0.length : Int) + x927))) hf hs rfl rfl rfl rfl rfl rfl hi1361q hv1364 rfl hu1380 hu1381 ti2 ?_; clear hs; intro w hs
                  obtain ⟨hq1382, hv1383⟩ := rowUpd hu1380 hu1381 hv1364
                  have hs : St [] W w [.mat A3 n4 c5 23 2 vs7 ms1379] := hs
                  refine wpO_nil ⟨Or.inl (by decide), ?_⟩
                  refine mDone (by kernel_rfl) ?_
                  clear hs0
                  refine wpL_nil (Qb_normal ?_)
                  refine wpL_region ?_
                  refine sY hf hs rfl rfl rfl (Y_move rfl rfl) ?_; clear hf; intro a hf
                  refine sY hf hs rfl rfl rfl (Y_add rfl rfl rfl) ?_; clear hf; intro a hf
                  refine sY hf hs rfl rfl rfl (Y_assign rfl rfl) ?_; clear hf; intro a hf
                  refine wpO_nil ?_
                  refine wpL_nil (Ql_normal ?_)
                  exact ⟨ms1379, (IntKind.i64.wrap (x1327 + 1)), hm1357, ((hn1326).trans (upd_len hu1381).symm), (FrD.pick (FrD.pick (FrD.pick (FrD.pick (FrD.pick (FrD.pick hf.none hf rfl) hf rfl) hf rfl) hf rfl) hf rfl) hf rfl), hs⟩
                · have hm1357 := bif_f hm1357 hb1359
                  refine wpL_exit (Ql_exit (Qb_exit ?_))
                  exact ⟨ms1325, Option.some.inj hm1357, hn1326, (FrD.pick (FrD.pick (FrD.pick (FrD.pick (FrD.pick hf.none hf rfl) hf rfl) hf rfl) hf rfl) hf rfl), hs⟩
            · rintro a w ⟨ms1353, hr_, hn1354, hf, hs⟩
              subst hr_
              try dsimp only at hm1157
              refine wpL_nil (Qb_normal ?_)
              refine wpL_region ?_
              refine sY hf hs rfl rfl rfl (Y_move rfl rfl) ?_; clear hf; intro a hf
              refine sY hf hs rfl rfl rfl (Y_add rfl rfl rfl) ?_; clear hf; intro a hf
              refine sY hf hs rfl rfl rfl (Y_assign rfl rfl) ?_; clear hf; intro a hf
              refine wpO_nil ?_
              refine wpL_nil (Ql_normal ?_)
              exact ⟨ms1353, (IntKind.i64.wrap (x927 + 1)), hm1157, hn1354, (FrD.pick (FrD.pick (FrD.pick (FrD.pick (FrD.pick hf.none hf rfl) hf rfl) hf rfl) hf rfl) hf rfl), hs⟩
        · have hm1157 := bif_f hm1157 hb1159
          refine wpL_exit (Ql_exit (Qb_exit ?_))
          exact ⟨ms925, Option.some.inj hm1157, hn926, (FrD.pick hf.none hf rfl), hs⟩
    · rintro a w ⟨ms1153, hr_, hn1154, hf, hs⟩
      subst hr_
      try dsimp only at hm
      refine wpL_seq ?_
      refine wpL_region ?_
      refine sY hf hs rfl rfl rfl (Y_move rfl rfl) ?_; clear hf; intro a hf
      refine sY hf hs rfl rfl rfl (Y_assign rfl rfl) ?_; clear hf; intro a hf
      refine wpO_nil ?_
      obtain rfl := Option.some.inj hm
      refine wpL_ret (ret_tmp rfl hf rfl ?_)
      exact ⟨_, rfl, A3, n4, c5, vs7, rfl, hn1154, hs⟩

set_option maxRecDepth 100000 in
theorem spec_l01Own_ok (F : Nat) (p0_list : List Int) (A_p0_list_1 : Option Addr) (n_p0_list_1 c_p0_list_1 : Nat) (hn_p0_list_1 : n_p0_list_1 = p0_list.length) (r : List Int) (W : World) (hm : spec_l01Own F p0_list = some r) (h_p0_list_1 : Rd W A_p0_list_1 (ints p0_list)) :
    Calls Try.prog 80 [.slice A_p0_list_1 n_p0_list_1 c_p0_list_1].toArray W fun e w' => ∃ v, e = .returned v ∧ ∃ A7, ∃ n8, ∃ c9, v = .slice A7 n8 c9 ∧ n8 = r.length ∧ St [] W w' [.row A7 n8 c9 2 1 (ints r)] := by
  subst hn_p0_list_1
  unfold spec_l01Own at hm
  refine Calls.enter (N := 6) Try.func80 rfl rfl rfl (fun a hf => ?_)
  have hs := St.start W
  obtain ⟨w, hw_⟩ : ∃ w, w = W := ⟨W, rfl⟩
  clear hw_ w
  refine wpL_seq ?_
  refine wpL_region ?_
  refine sY hf hs rfl rfl rfl (Y_assign rfl rfl) ?_; clear hf; intro a hf
  refine wpO_nil ?_
  refine wpL_seq ?_
  refine wpL_region ?_
  refine sEmpty hf hs rfl rfl rfl rfl el23 ti2 ?_; clear hf hs; intro a w A1 hs hf
  have hs : St [] W w [.row A1 0 0 2 1 (ints ([] : List Int))] := hs
  refine sY hf hs rfl rfl rfl (Y_move rfl rfl) ?_; clear hf; intro a hf
  obtain ⟨xs5, ha6, hm⟩ := bind_some hm
  refine sAppendG (i := 0) (xs := ([] : List Int)) (ys := p0_list) (enc := ints) hf hs rfl rfl rfl rfl rfl rfl rfl rfl rfl ha6 el23 ti2 rfl rfl rfl (h_p0_list_1.at hs) ints_len1 ints_append ints_one ?_; clear hf hs; intro a w A3 c4 hs hf
  have hs : St [] W w [.row A3 xs5.length c4 2 1 (ints xs5)] := hs
  refine sY hf hs rfl rfl rfl (Y_assign rfl rfl) ?_; clear hf; intro a hf
  refine wpO_nil ?_
  obtain rfl := Option.some.inj hm
  refine wpL_ret (ret_tmp rfl hf rfl ?_)
  exact ⟨_, rfl, A3, xs5.length, c4, rfl, rfl, hs⟩

set_option maxRecDepth 100000 in
theorem spec_l24Result_ok (F : Nat) (p0_s : GSystem) (A_p0_s_1 : Option Addr) (n_p0_s_1 c_p0_s_1 : Nat) (hn_p0_s_1 : n_p0_s_1 = p0_s.A.length) (A_p0_s_2 : Option Addr) (n_p0_s_2 c_p0_s_2 : Nat) (hn_p0_s_2 : n_p0_s_2 = p0_s.B.length) (A_p0_s_3 : Option Addr) (n_p0_s_3 c_p0_s_3 : Nat) (hn_p0_s_3 : n_p0_s_3 = p0_s.C.length) (r : GSystem × Int) (W : World) (hm : spec_l24Result F p0_s = some r) (h_p0_s_1 : RdM W A_p0_s_1 p0_s.A) (h_p0_s_2 : Rd W A_p0_s_2 (ints p0_s.B)) (h_p0_s_3 : Rd W A_p0_s_3 (ints p0_s.C)) :
    Calls Try.prog 78 [.agg #[.slice A_p0_s_1 n_p0_s_1 c_p0_s_1, .slice A_p0_s_2 n_p0_s_2 c_p0_s_2, .slice A_p0_s_3 n_p0_s_3 c_p0_s_3]].toArray W fun e w' => ∃ v, e = .returned v ∧ ∃ A6, ∃ n7, ∃ c8, ∃ A11, ∃ n12, ∃ c13, ∃ A16, ∃ n17, ∃ c18, v = .tuple #[.agg #[.slice A6 n7 c8, .slice A11 n12 c13, .slice A16 n17 c18], .int .i64 r.2] ∧ n7 = r.1.A.length ∧ Al A_p0_s_1 n_p0_s_1 c_p0_s_1 p0_s.A A6 n7 c8 r.1.A ∧ n12 = r.1.B.length ∧ Al A_p0_s_2 n_p0_s_2 c_p0_s_2 p0_s.B A11 n12 c13 r.1.B ∧ n17 = r.1.C.length ∧ Al A_p0_s_3 n_p0_s_3 c_p0_s_3 p0_s.C A16 n17 c18 r.1.C ∧ St [] W w' [] := by
  subst hn_p0_s_1
  subst hn_p0_s_2
  subst hn_p0_s_3
  unfold spec_l24Result at hm
  refine Calls.enter (N := 9) Try.func78 rfl rfl rfl (fun a hf => ?_)
  have hs := St.start W
  obtain ⟨w, hw_⟩ : ∃ w, w = W := ⟨W, rfl⟩
  clear hw_ w
  refine wpL_seq ?_
  refine wpL_region ?_
  refine sBox hf hs rfl rfl rfl rfl rfl (cs := [.slice A_p0_s_1 p0_s.A.length c_p0_s_1, .slice A_p0_s_2 p0_s.B.length c_p0_s_2, .slice A_p0_s_3 p0_s.C.length c_p0_s_3]) rfl ?_; clear hf hs; intro a w b1 hs hf
  have hs : St [] W w [.blk b1 27 [.slice A_p0_s_1 p0_s.A.length c_p0_s_1, .slice A_p0_s_2 p0_s.B.length c_p0_s_2, .slice A_p0_s_3 p0_s.C.length c_p0_s_3]] := hs
  refine sAlloc hf hs rfl rfl rfl rfl ti27 ?_; clear hf hs; intro a w b2 hs hf
  have hs : St [] W w [.blk b1 27 [.slice A_p0_s_1 p0_s.A.length c_p0_s_1, .slice A_p0_s_2 p0_s.B.length c_p0_s_2, .slice A_p0_s_3 p0_s.C.length c_p0_s_3], .blk b2 27 [.slice none 0 0, .slice none 0 0, .slice none 0 0]] := hs
  refine sY hf hs rfl rfl rfl (Y_assign rfl rfl) ?_; clear hf; intro a hf
  refine wpO_nil ?_
  refine wpL_seq ?_
  refine wpL_seq ?_
  refine wpL_region ?_
  refine sY hf hs rfl rfl rfl (Y_load_blkS rfl rfl (i := 0) rfl ag27 ti27 rfl) ?_; clear hf; intro a hf
  obtain ⟨r3, hc4, hm⟩ := bind_some hm
  refine sCall hf rfl rfl rfl rfl (cap := []) rfl rfl en32 (spec_IsSystem_ok F p0_s A_p0_s_1 p0_s.A.length c_p0_s_1 rfl A_p0_s_2 p0_s.B.length c_p0_s_2 rfl A_p0_s_3 p0_s.C.length c_p0_s_3 rfl _ _ hc4 (h_p0_s_1.at hs) (h_p0_s_2.at hs) (h_p0_s_3.at hs)) ?_; clear hf
  rintro _ w ⟨rfl, hs1⟩ a hf
  have hs : St [] W w [.blk b1 27 [.slice A_p0_s_1 p0_s.A.length c_p0_s_1, .slice A_p0_s_2 p0_s.B.length c_p0_s_2, .slice A_p0_s_3 p0_s.C.length c_p0_s_3], .blk b2 27 [.slice none 0 0, .slice none 0 0, .slice none 0 0]] := hs.ext hs1.below
  clear hs1
  refine sY hf hs rfl rfl rfl (Y_not rfl rfl) ?_; clear hf; intro a hf
  refine wpO_nil ?_
  refine wpL_cond hf rfl (fun hb5 => ?_) (fun hb5 => ?_)
  · have hm := bif_t hm hb5
    refine wpL_seq ?_
    refine wpL_region ?_
    refine sY hf hs rfl rfl rfl (Y_build (parts := []) (vs := []) rfl rfl (run_build (parts := []) (cells := [.slice none 0 0, .slice none 0 0, .slice none 0 0]) (places := #[(0, 1), (1, 1), (2, 1)]) ti27 Try.underlying27 (fun w => by simp [go_sem]) rfl)) ?_; clear hf; intro a hf
    refine sStore (i := 1) (us := [.slice none 0 0, .slice none 0 0, .slice none 0 0]) hf hs rfl rfl rfl rfl rfl rfl ti27 rfl rfl rfl (Nat.le_of_ble_eq_true rfl) rfl ?_; clear hs; intro w hs
    have hs : St [] W w [.blk b1 27 [.slice A_p0_s_1 p0_s.A.length c_p0_s_1, .slice A_p0_s_2 p0_s.B.length c_p0_s_2, .slice A_p0_s_3 p0_s.C.length c_p0_s_3], .blk b2 27 [.slice none 0 0, .slice none 0 0, .slice none 0 0]] := hs
    refine sY hf hs rfl rfl rfl (Y_assign rfl rfl) ?_; clear hf; intro a hf
    refine wpO_nil ?_
    obtain rfl := Option.some.inj hm
    refine wpL_ret (ret_cell_tmp rfl hf rfl rfl hs (i := 1) rfl ag27 ti27 rfl ?_)
    exact ⟨_, rfl, none, 0, 0, none, 0, 0, none, 0, 0, rfl, rfl, .inr ⟨rfl, rfl, rfl, rfl⟩, rfl, .inr ⟨rfl, rfl, rfl, rfl⟩, rfl, .inr ⟨rfl, rfl, rfl, rfl⟩, hs.sel [] (by decide)⟩
  · have hm := bif_f hm hb5
    refine wpL_skip ?_
    refine wpL_seq ?_
    refine wpL_region ?_
    refine sY hf hs rfl rfl rfl (Y_load_blkS rfl rfl (i := 0) rfl ag27 ti27 rfl) ?_; clear hf; intro a hf
    refine sStore (i := 1) (us := [.slice A_p0_s_1 p0_s.A.length c_p0_s_1, .slice A_p0_s_2 p0_s.B.length c_p0_s_2, .slice A_p0_s_3 p0_s.C.length c_p0_s_3]) hf hs rfl rfl rfl rfl rfl rfl ti27 rfl rfl rfl (Nat.le_of_ble_eq_true rfl) rfl ?_; clear hs; intro w hs
    have hs : St [] W w [.blk b1 27 [.slice A_p0_s_1 p0_s.A.length c_p0_s_1, .slice A_p0_s_2 p0_s.B.length c_p0_s_2, .slice A_p0_s_3 p0_s.C.length c_p0_s_3], .blk b2 27 [.slice A_p0_s_1 p0_s.A.length c_p0_s_1, .slice A_p0_s_2 p0_s.B.length c_p0_s_2, .slice A_p0_s_3 p0_s.C.length c_p0_s_3]] := hs
    refine sY hf hs rfl rfl rfl (Y_assign rfl rfl) ?_; clear hf; intro a hf
    refine wpO_nil ?_
    obtain rfl := Option.some.inj hm
    refine wpL_ret (ret_cell_tmp rfl hf rfl rfl hs (i := 1) rfl ag27 ti27 rfl ?_)
    exact ⟨_, rfl, A_p0_s_1, p0_s.A.length, c_p0_s_1, A_p0_s_2, p0_s.B.length, c_p0_s_2, A_p0_s_3, p0_s.C.length, c_p0_s_3, rfl, rfl, .inl ⟨rfl, rfl, rfl, rfl⟩, rfl, .inl ⟨rfl, rfl, rfl, rfl⟩, rfl, .inl ⟨rfl, rfl, rfl, rfl⟩, hs.sel [] (by decide)⟩

set_option maxHeartbeats 2000000 in
set_option maxRecDepth 100000 in
theorem spec_SeriesSystem_ok (F : Nat) (p0 : GSystem) (A_p0_1 : Option Addr) (n_p0_1 c_p0_1 : Nat) (hn_p0_1 : n_p0_1 = p0.A.length) (A_p0_2 : Option Addr) (n_p0_2 c_p0_2 : Nat) (hn_p0_2 : n_p0_2 = p0.B.length) (A_p0_3 : Option Addr) (n_p0_3 c_p0_3 : Nat) (hn_p0_3 : n_p0_3 = p0.C.length) (p1 : GSystem) (A_p1_1 : Option Addr) (n_p1_1 c_p1_1 : Nat) (hn_p1_1 : n_p1_1 = p1.A.length) (A_p1_2 : Option Addr) (n_p1_2 c_p1_2 : Nat) (hn_p1_2 : n_p1_2 = p1.B.length) (A_p1_3 : Option Addr) (n_p1_3 c_p1_3 : Nat) (hn_p1_3 : n_p1_3 = p1.C.length) (r : GSystem × Int) (W : World) (hm : spec_SeriesSystem F p0 p1 = some r) (h_p0_1 : RdM W A_p0_1 p0.A) (h_p0_2 : Rd W A_p0_2 (ints p0.B)) (h_p0_3 : Rd W A_p0_3 (ints p0.C)) (h_p1_1 : RdM W A_p1_1 p1.A) (h_p1_2 : Rd W A_p1_2 (ints p1.B)) (h_p1_3 : Rd W A_p1_3 (ints p1.C)) :
    Calls Try.prog 11 [.agg #[.slice A_p0_1 n_p0_1 c_p0_1, .slice A_p0_2 n_p0_2 c_p0_2, .slice A_p0_3 n_p0_3 c_p0_3], .agg #[.slice A_p1_1 n_p1_1 c_p1_1, .slice A_p1_2 n_p1_2 c_p1_2, .slice A_p1_3 n_p1_3 c_p1_3]].toArray W fun e w' => ∃ v, e = .returned v ∧ ∃ A163, ∃ n164, ∃ c165, ∃ vs167, ∃ A168, ∃ n169, ∃ c170, ∃ A172, ∃ n173, ∃ c174, v = .tuple #[.agg #[.slice A163 n164 c165, .slice A168 n169 c170, .slice A172 n173 c174], .int .i64 r.2] ∧ n164 = r.1.A.length ∧ n169 = r.1.B.length ∧ n173 = r.1.C.length ∧ St [] W w' [.mat A163 n164 c165 23 2 vs167 r.1.A, .row A168 n169 c170 2 1 (ints r.1.B), .row A172 n173 c174 2 1 (ints r.1.C)] := by
  subst hn_p0_1
  subst hn_p0_2
  subst hn_p0_3
  subst hn_p1_1
  subst hn_p1_2
  subst hn_p1_3
  unfold spec_SeriesSystem at hm
  refine Calls.enter (N := 85) Try.func11 rfl rfl rfl (fun a hf => ?_)
  have hs := St.start W
  obtain ⟨w, hw_⟩ : ∃ w, w = W := ⟨W, rfl⟩
  clear hw_ w
  refine wpL_seq ?_
  refine wpL_region ?_
  refine sBox hf hs rfl rfl rfl rfl rfl (cs := [.slice A_p0_1 p0.A.length c_p0_1, .slice A_p0_2 p0.B.length c_p0_2, .slice A_p0_3 p0.C.length c_p0_3]) rfl ?_; clear hf hs; intro a w b1 hs hf
  have hs : St [] W w [.blk b1 27 [.slice A_p0_1 p0.A.length c_p0_1, .slice A_p0_2 p0.B.length c_p0_2, .slice A_p0_3 p0.C.length c_p0_3]] := hs
  refine sBox hf hs rfl rfl rfl rfl rfl (cs := [.slice A_p1_1 p1.A.length c_p1_1, .slice A_p1_2 p1.B.length c_p1_2, .slice A_p1_3 p1.C.length c_p1_3]) rfl ?_; clear hf hs; intro a w b2 hs hf
  have hs : St [] W w [.blk b1 27 [.slice A_p0_1 p0.A.length c_p0_1, .slice A_p0_2 p0.B.length c_p0_2, .slice A_p0_3 p0.C.length c_p0_3], .blk b2 27 [.slice A_p1_1 p1.A.length c_p1_1, .slice A_p1_2 p1.B.length c_p1_2, .slice A_p1_3 p1.C.length c_p1_3]] := hs
  refine sAlloc hf hs rfl rfl rfl rfl ti27 ?_; clear hf hs; intro a w b3 hs hf
  have hs : St [] W w [.blk b1 27 [.slice A_p0_1 p0.A.length c_p0_1, .slice A_p0_2 p0.B.length c_p0_2, .slice A_p0_3 p0.C.length c_p0_3], .blk b2 27 [.slice A_p1_1 p1.A.length c_p1_1, .slice A_p1_2 p1.B.length c_p1_2, .slice A_p1_3 p1.C.length c_p1_3], .blk b3 27 [.slice none 0 0, .slice none 0 0, .slice none 0 0]] := hs
  refine sY hf hs rfl rfl rfl (Y_assign rfl rfl) ?_; clear hf; intro a hf
  refine wpO_nil ?_
  refine wpL_seq ?_
  refine wpL_block0 ?_
  refine wpL_seq ?_
  obtain ⟨r10, hj11, hm⟩ := bind_some hm
  refine wpL_cut (fun a w => ∃ b9 : Bool, b9 = r10 ∧ Fr a 85 [(2, .pointer (some ⟨b1, 0, none⟩)), (3, .pointer (some ⟨b2, 0, none⟩)), (4, .pointer (some ⟨b3, 0, none⟩)), (11, .bool b9)] ∧ St [] W w [.blk b1 27 [.slice A_p0_1 p0.A.length c_p0_1, .slice A_p0_2 p0.B.length c_p0_2, .slice A_p0_3 p0.C.length c_p0_3], .blk b2 27 [.slice A_p1_1 p1.A.length c_p1_1, .slice A_p1_2 p1.B.length c_p1_2, .slice A_p1_3 p1.C.length c_p1_3], .blk b3 27 [.slice none 0 0, .slice none 0 0, .slice none 0 0]]) ?_ ?_
  · refine wpL_region ?_
    refine sY hf hs rfl rfl rfl (Y_load_blkS rfl rfl (i := 0) rfl ag27 ti27 rfl) ?_; clear hf; intro a hf
    obtain ⟨r12, hc13, hj11⟩ := bind_some hj11
    refine sCall hf rfl rfl rfl rfl (cap := []) rfl rfl en32 (spec_IsSystem_ok F p0 A_p0_1 p0.A.length c_p0_1 rfl A_p0_2 p0.B.length c_p0_2 rfl A_p0_3 p0.C.length c_p0_3 rfl _ _ hc13 (h_p0_1.at hs) (h_p0_2.at hs) (h_p0_3.at hs)) ?_; clear hf
    rintro _ w ⟨rfl, hs1⟩ a hf
    have hs : St [] W w [.blk b1 27 [.slice A_p0_1 p0.A.length c_p0_1, .slice A_p0_2 p0.B.length c_p0_2, .slice A_p0_3 p0.C.length c_p0_3], .blk b2 27 [.slice A_p1_1 p1.A.length c_p1_1, .slice A_p1_2 p1.B.length c_p1_2, .slice A_p1_3 p1.C.length c_p1_3], .blk b3 27 [.slice none 0 0, .slice none 0 0, .slice none 0 0]] := hs.ext hs1.below
    clear hs1
    refine sY hf hs rfl rfl rfl (Y_not rfl rfl) ?_; clear hf; intro a hf
    refine sY hf hs rfl rfl rfl (Y_move rfl rfl) ?_; clear hf; intro a hf
    refine bsplit (!r12) (fun hb14 => ?_) (fun hb14 => ?_)
    · have hj11 := bif_t hj11 hb14
      refine sNo hf rfl rfl rfl (congrArg (fun b => some (Value.bool b)) hb14) rfl rfl rfl ?_; clear hf; intro a hf
      refine sNo hf rfl rfl rfl (congrArg (fun b => some (Value.bool b)) hb14) rfl rfl rfl ?_; clear hf; intro a hf
      refine sNo hf rfl rfl rfl (congrArg (fun b => some (Value.bool b)) hb14) rfl rfl rfl ?_; clear hf; intro a hf
      refine sY hf hs rfl rfl rfl (Y_pickT rfl (congrArg (fun b => some (Value.bool b)) hb14) rfl) ?_; clear hf; intro a hf
      refine sY hf hs rfl rfl rfl (Y_assign rfl rfl) ?_; clear hf; intro a hf
      refine wpO_nil ?_
      refine wpL_nil (then_normal ?_)
      exact ⟨true, Option.some.inj hj11, (FrD.pick (FrD.pick (FrD.pick (FrD.pick hf.none hf rfl) hf rfl) hf rfl) hf rfl), hs⟩
    · have hj11 := bif_f hj11 hb14
      refine sYg hf hs rfl rfl rfl (congrArg (fun b => some (Value.bool b)) hb14) rfl rfl rfl (Y_load_blkS rfl rfl (i := 1) rfl ag27 ti27 rfl) ?_; clear hf; intro a hf
      obtain ⟨r15, hc16, hj11⟩ := bind_some hj11
      refine sCallg hf rfl rfl rfl (congrArg (fun b => some (Value.bool b)) hb14) rfl rfl rfl rfl (cap := []) rfl rfl en32 (spec_IsSystem_ok F p1 A_p1_1 p1.A.length c_p1_1 rfl A_p1_2 p1.B.length c_p1_2 rfl A_p1_3 p1.C.length c_p1_3 rfl _ _ hc16 (h_p1_1.at hs) (h_p1_2.at hs) (h_p1_3.at hs)) ?_; clear hf
      rintro _ w ⟨rfl, hs1⟩ a hf
      have hs : St [] W w [.blk b1 27 [.slice A_p0_1 p0.A.length c_p0_1, .slice A_p0_2 p0.B.length c_p0_2, .slice A_p0_3 p0.C.length c_p0_3], .blk b2 27 [.slice A_p1_1 p1.A.length c_p1_1, .slice A_p1_2 p1.B.length c_p1_2, .slice A_p1_3 p1.C.length c_p1_3], .blk b3 27 [.slice none 0 0, .slice none 0 0, .slice none 0 0]] := hs.ext hs1.below
      clear hs1
      refine sYg hf hs rfl rfl rfl (congrArg (fun b => some (Value.bool b)) hb14) rfl rfl rfl (Y_not rfl rfl) ?_; clear hf; intro a hf
      refine sY hf hs rfl rfl rfl (Y_pickF rfl (congrArg (fun b => some (Value.bool b)) hb14) rfl) ?_; clear hf; intro a hf
      refine sY hf hs rfl rfl rfl (Y_assign rfl rfl) ?_; clear hf; intro a hf
      refine wpO_nil ?_
      refine wpL_nil (then_normal ?_)
      exact ⟨(!r15), Option.some.inj hj11, (FrD.pick (FrD.pick (FrD.pick (FrD.pick hf.none hf rfl) hf rfl) hf rfl) hf rfl), hs⟩
  · rintro a w ⟨b9, hr_, hf, hs⟩
    subst hr_
    try dsimp only at hm
    refine wpL_cond hf rfl (fun hb17 => ?_) (fun hb17 => ?_)
    · have hm := bif_t hm hb17
      refine wpL_seq ?_
      refine wpL_region ?_
      refine sY hf hs rfl rfl rfl (Y_build (parts := []) (vs := []) rfl rfl (run_build (parts := []) (cells := [.slice none 0 0, .slice none 0 0, .slice none 0 0]) (places := #[(0, 1), (1, 1), (2, 1)]) ti27 Try.underlying27 (fun w => by simp [go_sem]) rfl)) ?_; clear hf; intro a hf
      refine sStore (i := 2) (us := [.slice none 0 0, .slice none 0 0, .slice none 0 0]) hf hs rfl rfl rfl rfl rfl rfl ti27 rfl rfl rfl (Nat.le_of_ble_eq_true rfl) rfl ?_; clear hs; intro w hs
      have hs : St [] W w [.blk b1 27 [.slice A_p0_1 p0.A.length c_p0_1, .slice A_p0_2 p0.B.length c_p0_2, .slice A_p0_3 p0.C.length c_p0_3], .blk b2 27 [.slice A_p1_1 p1.A.length c_p1_1, .slice A_p1_2 p1.B.length c_p1_2, .slice A_p1_3 p1.C.length c_p1_3], .blk b3 27 [.slice none 0 0, .slice none 0 0, .slice none 0 0]] := hs
      refine sY hf hs rfl rfl rfl (Y_assign rfl rfl) ?_; clear hf; intro a hf
      refine wpO_nil ?_
      have hs : St [] W _ [.blk b1 27 [.slice A_p0_1 p0.A.length c_p0_1, .slice A_p0_2 p0.B.length c_p0_2, .slice A_p0_3 p0.C.length c_p0_3], .blk b2 27 [.slice A_p1_1 p1.A.length c_p1_1, .slice A_p1_2 p1.B.length c_p1_2, .slice A_p1_3 p1.C.length c_p1_3], .blk b3 27 [.slice none 0 0, .slice none 0 0, .slice none 0 0], .mat none 0 0 23 2 [] ([] : List (List Int))] := hs.addNilM 23 2
      have hs : St [] W _ [.blk b1 27 [.slice A_p0_1 p0.A.length c_p0_1, .slice A_p0_2 p0.B.length c_p0_2, .slice A_p0_3 p0.C.length c_p0_3], .blk b2 27 [.slice A_p1_1 p1.A.length c_p1_1, .slice A_p1_2 p1.B.length c_p1_2, .slice A_p1_3 p1.C.length c_p1_3], .blk b3 27 [.slice none 0 0, .slice none 0 0, .slice none 0 0], .mat none 0 0 23 2 [] ([] : List (List Int)), .row none 0 0 2 1 (ints ([] : List Int))] := hs.addNil 2 1
      have hs : St [] W _ [.blk b1 27 [.slice A_p0_1 p0.A.length c_p0_1, .slice A_p0_2 p0.B.length c_p0_2, .slice A_p0_3 p0.C.length c_p0_3], .blk b2 27 [.slice A_p1_1 p1.A.length c_p1_1, .slice A_p1_2 p1.B.length c_p1_2, .slice A_p1_3 p1.C.length c_p1_3], .blk b3 27 [.slice none 0 0, .slice none 0 0, .slice none 0 0], .mat none 0 0 23 2 [] ([] : List (List Int)), .row none 0 0 2 1 (ints ([] : List Int)), .row none 0 0 2 1 (ints ([] : List Int))] := hs.addNil 2 1
      obtain rfl := Option.some.inj hm
      refine wpL_ret (Qb_ret (ret_cell_tmp rfl hf rfl rfl hs (i := 2) rfl ag27 ti27 rfl ?_))
      exact ⟨_, rfl, none, 0, 0, [], none, 0, 0, none, 0, 0, rfl, rfl, rfl, rfl, hs.sel [3, 4, 5] (by decide)⟩
    · have hm := bif_f hm hb17
      refine wpL_seq ?_
      refine wpL_region ?_
      refine sY hf hs rfl rfl rfl (Y_fieldAddr rfl rfl fo27_0) ?_; clear hf; intro a hf
      refine sY hf hs rfl rfl rfl (Y_load_blk rfl rfl (i := 0) rfl rfl ag22) ?_; clear hf; intro a hf
      refine sY hf hs rfl rfl rfl (Y_lenH rfl rfl el22 rfl) ?_; clear hf; intro a hf
      refine sY hf hs rfl rfl rfl (Y_fieldAddr rfl rfl fo27_0) ?_; clear hf; intro a hf
      refine sY hf hs rfl rfl rfl (Y_load_blk rfl rfl (i := 1) rfl rfl ag22) ?_; clear hf; intro a hf
      refine sY hf hs rfl rfl rfl (Y_lenH rfl rfl el22 rfl) ?_; clear hf; intro a hf
      refine sY hf hs rfl rfl rfl (Y_add rfl rfl rfl) ?_; clear hf; intro a hf
      refine sY hf hs rfl rfl rfl (Y_gtr rfl rfl rfl) ?_; clear hf; intro a hf
      refine sY hf hs rfl rfl rfl (Y_assign rfl rfl) ?_; clear hf; intro a hf
      refine wpO_nil ?_
      refine wpL_cond hf rfl (fun hb21 => ?_) (fun hb21 => ?_)
      · have hm := bif_t hm hb21
        refine wpL_seq ?_
        refine wpL_region ?_
        refine sY hf hs rfl rfl rfl (Y_build (parts := []) (vs := []) rfl rfl (run_build (parts := []) (cells := [.slice none 0 0, .slice none 0 0, .slice none 0 0]) (places := #[(0, 1), (1, 1), (2, 1)]) ti27 Try.underlying27 (fun w => by simp [go_sem]) rfl)) ?_; clear hf; intro a hf
        refine sStore (i := 2) (us := [.slice none 0 0, .slice none 0 0, .slice none 0 0]) hf hs rfl rfl rfl rfl rfl rfl ti27 rfl rfl rfl (Nat.le_of_ble_eq_true rfl) rfl ?_; clear hs; intro w hs
        have hs : St [] W w [.blk b1 27 [.slice A_p0_1 p0.A.length c_p0_1, .slice A_p0_2 p0.B.length c_p0_2, .slice A_p0_3 p0.C.length c_p0_3], .blk b2 27 [.slice A_p1_1 p1.A.length c_p1_1, .slice A_p1_2 p1.B.length c_p1_2, .slice A_p1_3 p1.C.length c_p1_3], .blk b3 27 [.slice none 0 0, .slice none 0 0, .slice none 0 0]] := hs
        refine sY hf hs rfl rfl rfl (Y_assign rfl rfl) ?_; clear hf; intro a hf
        refine wpO_nil ?_
        have hs : St [] W _ [.blk b1 27 [.slice A_p0_1 p0.A.length c_p0_1, .slice A_p0_2 p0.B.length c_p0_2, .slice A_p0_3 p0.C.length c_p0_3], .blk b2 27 [.slice A_p1_1 p1.A.length c_p1_1, .slice A_p1_2 p1.B.length c_p1_2, .slice A_p1_3 p1.C.length c_p1_3], .blk b3 27 [.slice none 0 0, .slice none 0 0, .slice none 0 0], .mat none 0 0 23 2 [] ([] : List (List Int))] := hs.addNilM 23 2
        have hs : St [] W _ [.blk b1 27 [.slice A_p0_1 p0.A.length c_p0_1, .slice A_p0_2 p0.B.length c_p0_2, .slice A_p0_3 p0.C.length c_p0_3], .blk b2 27 [.slice A_p1_1 p1.A.length c_p1_1, .slice A_p1_2 p1.B.length c_p1_2, .slice A_p1_3 p1.C.length c_p1_3], .blk b3 27 [.slice none 0 0, .slice none 0 0, .slice none 0 0], .mat none 0 0 23 2 [] ([] : List (List Int)), .row none 0 0 2 1 (ints ([] : List Int))] := hs.addNil 2 1
        have hs : St [] W _ [.blk b1 27 [.slice A_p0_1 p0.A.length c_p0_1, .slice A_p0_2 p0.B.length c_p0_2, .slice A_p0_3 p0.C.length c_p0_3], .blk b2 27 [.slice A_p1_1 p1.A.length c_p1_1, .slice A_p1_2 p1.B.length c_p1_2, .slice A_p1_3 p1.C.length c_p1_3], .blk b3 27 [.slice none 0 0, .slice none 0 0, .slice none 0 0], .mat none 0 0 23 2 [] ([] : List (List Int)), .row none 0 0 2 1 (ints ([] : List Int)), .row none 0 0 2 1 (ints ([] : List Int))] := hs.addNil 2 1
        obtain rfl := Option.some.inj hm
        refine wpL_ret (Qb_ret (ret_cell_tmp rfl hf rfl rfl hs (i := 2) rfl ag27 ti27 rfl ?_))
        exact ⟨_, rfl, none, 0, 0, [], none, 0, 0, none, 0, 0, rfl, rfl, rfl, rfl, hs.sel [3, 4, 5] (by decide)⟩
      · have hm := bif_f hm hb21
        refine wpL_skip ?_
        refine wpL_nil (Qb_normal ?_)
        refine wpL_seq ?_
        refine wpL_region ?_
        refine sY hf hs rfl rfl rfl (Y_fieldAddr rfl rfl fo27_2) ?_; clear hf; intro a hf
        refine sY hf hs rfl rfl rfl (Y_load_blk rfl rfl (i := 0) rfl rfl ag23) ?_; clear hf; intro a hf
        refine sBuildSlice (parts := [(0, .tmp 32)]) (vs := [.slice A_p0_3 p0.C.length c_p0_3]) (cells := [.slice A_p0_3 p0.C.length c_p0_3]) hf hs rfl rfl rfl rfl rfl el22 ti23 rfl rfl rfl rfl ?_; clear hf hs; intro a w A25 hs hA26 hf
        have hs : St [] W w [.blk b1 27 [.slice A_p0_1 p0.A.length c_p0_1, .slice A_p0_2 p0.B.length c_p0_2, .slice A_p0_3 p0.C.length c_p0_3], .blk b2 27 [.slice A_p1_1 p1.A.length c_p1_1, .slice A_p1_2 p1.B.length c_p1_2, .slice A_p1_3 p1.C.length c_p1_3], .blk b3 27 [.slice none 0 0, .slice none 0 0, .slice none 0 0], .row A25 1 1 23 1 [.slice A_p0_3 p0.C.length c_p0_3]] := hs
        refine sY hf hs rfl rfl rfl (Y_fieldAddr rfl rfl fo27_0) ?_; clear hf; intro a hf
        refine sY hf hs rfl rfl rfl (Y_load_blk rfl rfl (i := 0) rfl rfl ag22) ?_; clear hf; intro a hf
        obtain ⟨r27, hc28, hm⟩ := bind_some hm
        refine sCall hf rfl rfl rfl rfl (cap := []) rfl rfl en71 (spec_l02Multiply_ok F ([p0.C]) A25 1 1 rfl p0.A A_p0_1 p0.A.length c_p0_1 rfl _ _ hc28 (RdM.one (hs.rd (i := 3) rfl) rfl (h_p0_3.at hs)) (h_p0_1.at hs)) ?_; clear hf
        rintro _ w ⟨A29, n30, c31, vs33, rfl, hn32, hs1⟩ a hf
        have hs : St [] W w [.blk b1 27 [.slice A_p0_1 p0.A.length c_p0_1, .slice A_p0_2 p0.B.length c_p0_2, .slice A_p0_3 p0.C.length c_p0_3], .blk b2 27 [.slice A_p1_1 p1.A.length c_p1_1, .slice A_p1_2 p1.B.length c_p1_2, .slice A_p1_3 p1.C.length c_p1_3], .blk b3 27 [.slice none 0 0, .slice none 0 0, .slice none 0 0], .row A25 1 1 23 1 [.slice A_p0_3 p0.C.length c_p0_3], .mat A29 n30 c31 23 2 vs33 r27] := hs.join hs1
        clear hs1
        refine sY hf hs rfl rfl rfl (Y_assign rfl rfl) ?_; clear hf; intro a hf
        refine wpO_nil ?_
        refine wpL_seq ?_
        refine wpL_region ?_
        refine sY hf hs rfl rfl rfl (Y_fieldAddr rfl rfl fo27_1) ?_; clear hf; intro a hf
        refine sY hf hs rfl rfl rfl (Y_load_blk rfl rfl (i := 1) rfl rfl ag23) ?_; clear hf; intro a hf
        obtain ⟨r34, hc35, hm⟩ := bind_some hm
        refine sCall hf rfl rfl rfl rfl (cap := []) rfl rfl en72 (spec_l07Column_ok F p1.B A_p1_2 p1.B.length c_p1_2 rfl _ _ hc35 (h_p1_2.at hs)) ?_; clear hf
        rintro _ w ⟨A36, n37, c38, vs40, rfl, hn39, hs1⟩ a hf
        have hs : St [] W w [.blk b1 27 [.slice A_p0_1 p0.A.length c_p0_1, .slice A_p0_2 p0.B.length c_p0_2, .slice A_p0_3 p0.C.length c_p0_3], .blk b2 27 [.slice A_p1_1 p1.A.length c_p1_1, .slice A_p1_2 p1.B.length c_p1_2, .slice A_p1_3 p1.C.length c_p1_3], .blk b3 27 [.slice none 0 0, .slice none 0 0, .slice none 0 0], .row A25 1 1 23 1 [.slice A_p0_3 p0.C.length c_p0_3], .mat A29 n30 c31 23 2 vs33 r27, .mat A36 n37 c38 23 2 vs40 r34] := hs.join hs1
        clear hs1
        refine sY hf hs rfl rfl rfl (Y_move rfl rfl) ?_; clear hf; intro a hf
        obtain ⟨r41, hc42, hm⟩ := bind_some hm
        refine sCall hf rfl rfl rfl rfl (cap := []) rfl rfl en71 (spec_l02Multiply_ok F r34 A36 n37 c38 hn39 r27 A29 n30 c31 hn32 _ _ hc42 (hs.rdM (i := 5) rfl) (hs.rdM (i := 4) rfl)) ?_; clear hf
        rintro _ w ⟨A43, n44, c45, vs47, rfl, hn46, hs1⟩ a hf
        have hs : St [] W w [.blk b1 27 [.slice A_p0_1 p0.A.length c_p0_1, .slice A_p0_2 p0.B.length c_p0_2, .slice A_p0_3 p0.C.length c_p0_3], .blk b2 27 [.slice A_p1_1 p1.A.length c_p1_1, .slice A_p1_2 p1.B.length c_p1_2, .slice A_p1_3 p1.C.length c_p1_3], .blk b3 27 [.slice none 0 0, .slice none 0 0, .slice none 0 0], .row A25 1 1 23 1 [.slice A_p0_3 p0.C.length c_p0_3], .mat A29 n30 c31 23 2 vs33 r27, .mat A36 n37 c38 23 2 vs40 r34, .mat A43 n44 c45 23 2 vs47 r41] := hs.join hs1
        clear hs1
        refine sY hf hs rfl rfl rfl (Y_assign rfl rfl) ?_; clear hf; intro a hf
        refine wpO_nil ?_
        refine wpL_seq ?_
        refine wpL_region ?_
        refine sY hf hs rfl rfl rfl (Y_fieldAddr rfl rfl fo27_2) ?_; clear hf; intro a hf
        refine sY hf hs rfl rfl rfl (Y_load_blk rfl rfl (i := 0) rfl rfl ag23) ?_; clear hf; intro a hf
        refine sY hf hs rfl rfl rfl (Y_fieldAddr rfl rfl fo27_1) ?_; clear hf; intro a hf
        refine sY hf hs rfl rfl rfl (Y_load_blk rfl rfl (i := 0) rfl rfl ag23) ?_; clear hf; intro a hf
        obtain ⟨r48, hc49, hm⟩ := bind_some hm
        refine sCall hf rfl rfl rfl rfl (cap := []) rfl rfl en73 (spec_l24Dot_ok F p0.C A_p0_3 p0.C.length c_p0_3 rfl p0.B A_p0_2 p0.B.length c_p0_2 rfl _ _ hc49 (h_p0_3.at hs) (h_p0_2.at hs)) ?_; clear hf
        rintro _ w ⟨rfl, hs1⟩ a hf
        have hs : St [] W w [.blk b1 27 [.slice A_p0_1 p0.A.length c_p0_1, .slice A_p0_2 p0.B.length c_p0_2, .slice A_p0_3 p0.C.length c_p0_3], .blk b2 27 [.slice A_p1_1 p1.A.length c_p1_1, .slice A_p1_2 p1.B.length c_p1_2, .slice A_p1_3 p1.C.length c_p1_3], .blk b3 27 [.slice none 0 0, .slice none 0 0, .slice none 0 0], .row A25 1 1 23 1 [.slice A_p0_3 p0.C.length c_p0_3], .mat A29 n30 c31 23 2 vs33 r27, .mat A36 n37 c38 23 2 vs40 r34, .mat A43 n44 c45 23 2 vs47 r41] := hs.ext hs1.below
        clear hs1
        refine sY hf hs rfl rfl rfl (Y_assign rfl rfl) ?_; clear hf; intro a hf
        refine wpO_nil ?_
        refine wpL_seq ?_
        refine wpL_region ?_
        refine sY hf hs rfl rfl rfl (Y_fieldAddr rfl rfl fo27_0) ?_; clear hf; intro a hf
        refine sY hf hs rfl rfl rfl (Y_load_blk rfl rfl (i := 0) rfl rfl ag22) ?_; clear hf; intro a hf
        refine sY hf hs rfl rfl rfl (Y_lenH rfl rfl el22 rfl) ?_; clear hf; intro a hf
        obtain ⟨r50, hc51, hm⟩ := bind_some hm
        refine sCall hf rfl rfl rfl rfl (cap := []) rfl rfl en74 (spec_l02Bottom_ok F 1 (p0.A.length : Int) _ _ hc51) ?_; clear hf
        rintro _ w ⟨A52, n53, c54, vs56, rfl, hn55, hs1⟩ a hf
        have hs : St [] W w [.blk b1 27 [.slice A_p0_1 p0.A.length c_p0_1, .slice A_p0_2 p0.B.length c_p0_2, .slice A_p0_3 p0.C.length c_p0_3], .blk b2 27 [.slice A_p1_1 p1.A.length c_p1_1, .slice A_p1_2 p1.B.length c_p1_2, .slice A_p1_3 p1.C.length c_p1_3], .blk b3 27 [.slice none 0 0, .slice none 0 0, .slice none 0 0], .row A25 1 1 23 1 [.slice A_p0_3 p0.C.length c_p0_3], .mat A29 n30 c31 23 2 vs33 r27, .mat A36 n37 c38 23 2 vs40 r34, .mat A43 n44 c45 23 2 vs47 r41, .mat A52 n53 c54 23 2 vs56 r50] := hs.join hs1
        clear hs1
        obtain ⟨q57, hi58, hm⟩ := bind_some hm
        obtain ⟨hi58a, hi58b, hi58q⟩ := idx_some hi58
        obtain ⟨A59, c60, hv61⟩ := hs.matRow (i := 7) rfl hi58q
        refine sY hf hs rfl rfl rfl (Y_index rfl rfl rfl el22 ti23 (Rd.isAt (hs.rdV (i := 7) rfl) hv61) hi58a (ltn hn55 hi58b)) ?_; clear hf; intro a hf
        refine sY hf hs rfl rfl rfl (Y_load_rd rfl rfl (fun w hs => hs.rdV (i := 7) rfl) (at1 hv61) ag23) ?_; clear hf; intro a hf
        refine sY hf hs rfl rfl rfl (Y_assign rfl rfl) ?_; clear hf; intro a hf
        refine wpO_nil ?_
        refine wpL_seq ?_
        refine wpL_region ?_
        refine sY hf hs rfl rfl rfl (Y_fieldAddr rfl rfl fo27_1) ?_; clear hf; intro a hf
        refine sY hf hs rfl rfl rfl (Y_load_blk rfl rfl (i := 1) rfl rfl ag23) ?_; clear hf; intro a hf
        refine sY hf hs rfl rfl rfl (Y_move rfl rfl) ?_; clear hf; intro a hf
        obtain ⟨r62, hc63, hm⟩ := bind_some hm
        refine sCall hf rfl rfl rfl rfl (cap := []) rfl rfl en75 (spec_l07Shift_ok F p1.B A_p1_2 p1.B.length c_p1_2 rfl r48 _ _ hc63 (h_p1_2.at hs)) ?_; clear hf
        rintro _ w ⟨A64, n65, c66, rfl, hn67, hs1⟩ a hf
        have hs : St [] W w [.blk b1 27 [.slice A_p0_1 p0.A.length c_p0_1, .slice A_p0_2 p0.B.length c_p0_2, .slice A_p0_3 p0.C.length c_p0_3], .blk b2 27 [.slice A_p1_1 p1.A.length c_p1_1, .slice A_p1_2 p1.B.length c_p1_2, .slice A_p1_3 p1.C.length c_p1_3], .blk b3 27 [.slice none 0 0, .slice none 0 0, .slice none 0 0], .row A25 1 1 23 1 [.slice A_p0_3 p0.C.length c_p0_3], .mat A29 n30 c31 23 2 vs33 r27, .mat A36 n37 c38 23 2 vs40 r34, .mat A43 n44 c45 23 2 vs47 r41, .mat A52 n53 c54 23 2 vs56 r50, .row A64 n65 c66 2 1 (ints r62)] := hs.join hs1
        clear hs1
        refine sY hf hs rfl rfl rfl (Y_assign rfl rfl) ?_; clear hf; intro a hf
        refine wpO_nil ?_
        refine wpL_seq ?_
        refine wpL_seq ?_
        obtain ⟨r74, hj75, hm⟩ := bind_some hm
        refine wpL_cut (fun a w => ∃ b73 : Bool, b73 = r74 ∧ Fr a 85 [(2, .pointer (some ⟨b1, 0, none⟩)), (3, .pointer (some ⟨b2, 0, none⟩)), (4, .pointer (some ⟨b3, 0, none⟩)), (7, .slice A43 n44 c45), (9, .slice A59 q57.length c60), (10, .slice A64 n65 c66), (64, .bool b73)] ∧ St [] W w [.blk b1 27 [.slice A_p0_1 p0.A.length c_p0_1, .slice A_p0_2 p0.B.length c_p0_2, .slice A_p0_3 p0.C.length c_p0_3], .blk b2 27 [.slice A_p1_1 p1.A.length c_p1_1, .slice A_p1_2 p1.B.length c_p1_2, .slice A_p1_3 p1.C.length c_p1_3], .blk b3 27 [.slice none 0 0, .slice none 0 0, .slice none 0 0], .mat A43 n44 c45 23 2 vs47 r41, .mat A52 n53 c54 23 2 vs56 r50, .row A64 n65 c66 2 1 (ints r62)]) ?_ ?_
        · refine wpL_region ?_
          refine sY hf hs rfl rfl rfl (Y_move rfl rfl) ?_; clear hf; intro a hf
          obtain ⟨r76, hc77, hj75⟩ := bind_some hj75
          refine sCall hf rfl rfl rfl rfl (cap := []) rfl rfl en76 (spec_IsMatrix_ok F r27 A29 n30 c31 hn32 _ _ hc77 (hs.rdM (i := 4) rfl)) ?_; clear hf
          rintro _ w ⟨rfl, hs1⟩ a hf
          have hs : St [] W w [.blk b1 27 [.slice A_p0_1 p0.A.length c_p0_1, .slice A_p0_2 p0.B.length c_p0_2, .slice A_p0_3 p0.C.length c_p0_3], .blk b2 27 [.slice A_p1_1 p1.A.length c_p1_1, .slice A_p1_2 p1.B.length c_p1_2, .slice A_p1_3 p1.C.length c_p1_3], .blk b3 27 [.slice none 0 0, .slice none 0 0, .slice none 0 0], .row A25 1 1 23 1 [.slice A_p0_3 p0.C.length c_p0_3], .mat A29 n30 c31 23 2 vs33 r27, .mat A36 n37 c38 23 2 vs40 r34, .mat A43 n44 c45 23 2 vs47 r41, .mat A52 n53 c54 23 2 vs56 r50, .row A64 n65 c66 2 1 (ints r62)] := hs.ext hs1.below
          clear hs1
          refine sY hf hs rfl rfl rfl (Y_not rfl rfl) ?_; clear hf; intro a hf
          refine sY hf hs rfl rfl rfl (Y_move rfl rfl) ?_; clear hf; intro a hf
          refine bsplit (!r76) (fun hb78 => ?_) (fun hb78 => ?_)
          · have hj75 := bif_t hj75 hb78
            refine sNo hf rfl rfl rfl (congrArg (fun b => some (Value.bool b)) hb78) rfl rfl rfl ?_; clear hf; intro a hf
            refine sNo hf rfl rfl rfl (congrArg (fun b => some (Value.bool b)) hb78) rfl rfl rfl ?_; clear hf; intro a hf
            refine sNo hf rfl rfl rfl (congrArg (fun b => some (Value.bool b)) hb78) rfl rfl rfl ?_; clear hf; intro a hf
            refine sY hf hs rfl rfl rfl (Y_pickT rfl (congrArg (fun b => some (Value.bool b)) hb78) rfl) ?_; clear hf; intro a hf
            refine wpO_nil ?_
            refine wpL_nil (then_normal ?_)
            exact ⟨true, Option.some.inj hj75, (FrD.pick (FrD.pick (FrD.pick (FrD.pick (FrD.pick (FrD.pick (FrD.pick hf.none hf rfl) hf rfl) hf rfl) hf rfl) hf rfl) hf rfl) hf rfl), hs.sel [0, 1, 2, 6, 7, 8] (by decide)⟩
          · have hj75 := bif_f hj75 hb78
            refine sYg hf hs rfl rfl rfl (congrArg (fun b => some (Value.bool b)) hb78) rfl rfl rfl (Y_move rfl rfl) ?_; clear hf; intro a hf
            obtain ⟨r79, hc80, hj75⟩ := bind_some hj75
            refine sCallg hf rfl rfl rfl (congrArg (fun b => some (Value.bool b)) hb78) rfl rfl rfl rfl (cap := []) rfl rfl en77 (spec_IsValue_ok F r48 _ _ hc80) ?_; clear hf
            rintro _ w ⟨rfl, hs1⟩ a hf
            have hs : St [] W w [.blk b1 27 [.slice A_p0_1 p0.A.length c_p0_1, .slice A_p0_2 p0.B.length c_p0_2, .slice A_p0_3 p0.C.length c_p0_3], .blk b2 27 [.slice A_p1_1 p1.A.length c_p1_1, .slice A_p1_2 p1.B.length c_p1_2, .slice A_p1_3 p1.C.length c_p1_3], .blk b3 27 [.slice none 0 0, .slice none 0 0, .slice none 0 0], .row A25 1 1 23 1 [.slice A_p0_3 p0.C.length c_p0_3], .mat A29 n30 c31 23 2 vs33 r27, .mat A36 n37 c38 23 2 vs40 r34, .mat A43 n44 c45 23 2 vs47 r41, .mat A52 n53 c54 23 2 vs56 r50, .row A64 n65 c66 2 1 (ints r62)] := hs.ext hs1.below
            clear hs1
            refine sYg hf hs rfl rfl rfl (congrArg (fun b => some (Value.bool b)) hb78) rfl rfl rfl (Y_not rfl rfl) ?_; clear hf; intro a hf
            refine sY hf hs rfl rfl rfl (Y_pickF rfl (congrArg (fun b => some (Value.bool b)) hb78) rfl) ?_; clear hf; intro a hf
            refine wpO_nil ?_
            refine wpL_nil (then_normal ?_)
            exact ⟨(!r79), Option.some.inj hj75, (FrD.pick (FrD.pick (FrD.pick (FrD.pick (FrD.pick (FrD.pick (FrD.pick hf.none hf rfl) hf rfl) hf rfl) hf rfl) hf rfl) hf rfl) hf rfl), hs.sel [0, 1, 2, 6, 7, 8] (by decide)⟩
        · rintro a w ⟨b73, hr_, hf, hs⟩
          subst hr_
          try dsimp only at hm
          refine wpL_cond hf rfl (fun hb81 => ?_) (fun hb81 => ?_)
          · have hm := bif_t hm hb81
            refine wpL_seq ?_
            refine wpL_region ?_
            refine sY hf hs rfl rfl rfl (Y_build (parts := []) (vs := []) rfl rfl (run_build (parts := []) (cells := [.slice none 0 0, .slice none 0 0, .slice none 0 0]) (places := #[(0, 1), (1, 1), (2, 1)]) ti27 Try.underlying27 (fun w => by simp [go_sem]) rfl)) ?_; clear hf; intro a hf
            refine sStore (i := 2) (us := [.slice none 0 0, .slice none 0 0, .slice none 0 0]) hf hs rfl rfl rfl rfl rfl rfl ti27 rfl rfl rfl (Nat.le_of_ble_eq_true rfl) rfl ?_; clear hs; intro w hs
            have hs : St [] W w [.blk b1 27 [.slice A_p0_1 p0.A.length c_p0_1, .slice A_p0_2 p0.B.length c_p0_2, .slice A_p0_3 p0.C.length c_p0_3], .blk b2 27 [.slice A_p1_1 p1.A.length c_p1_1, .slice A_p1_2 p1.B.length c_p1_2, .slice A_p1_3 p1.C.length c_p1_3], .blk b3 27 [.slice none 0 0, .slice none 0 0, .slice none 0 0], .mat A43 n44 c45 23 2 vs47 r41, .mat A52 n53 c54 23 2 vs56 r50, .row A64 n65 c66 2 1 (ints r62)] := hs
            refine sY hf hs rfl rfl rfl (Y_assign rfl rfl) ?_; clear hf; intro a hf
            refine wpO_nil ?_
            have hs : St [] W _ [.blk b1 27 [.slice A_p0_1 p0.A.length c_p0_1, .slice A_p0_2 p0.B.length c_p0_2, .slice A_p0_3 p0.C.length c_p0_3], .blk b2 27 [.slice A_p1_1 p1.A.length c_p1_1, .slice A_p1_2 p1.B.length c_p1_2, .slice A_p1_3 p1.C.length c_p1_3], .blk b3 27 [.slice none 0 0, .slice none 0 0, .slice none 0 0], .mat A43 n44 c45 23 2 vs47 r41, .mat A52 n53 c54 23 2 vs56 r50, .row A64 n65 c66 2 1 (ints r62), .mat none 0 0 23 2 [] ([] : List (List Int))] := hs.addNilM 23 2
            have hs : St [] W _ [.blk b1 27 [.slice A_p0_1 p0.A.length c_p0_1, .slice A_p0_2 p0.B.length c_p0_2, .slice A_p0_3 p0.C.length c_p0_3], .blk b2 27 [.slice A_p1_1 p1.A.length c_p1_1, .slice A_p1_2 p1.B.length c_p1_2, .slice A_p1_3 p1.C.length c_p1_3], .blk b3 27 [.slice none 0 0, .slice none 0 0, .slice none 0 0], .mat A43 n44 c45 23 2 vs47 r41, .mat A52 n53 c54 23 2 vs56 r50, .row A64 n65 c66 2 1 (ints r62), .mat none 0 0 23 2 [] ([] : List (List Int)), .row none 0 0 2 1 (ints ([] : List Int))] := hs.addNil 2 1
            have hs : St [] W _ [.blk b1 27 [.slice A_p0_1 p0.A.length c_p0_1, .slice A_p0_2 p0.B.length c_p0_2, .slice A_p0_3 p0.C.length c_p0_3], .blk b2 27 [.slice A_p1_1 p1.A.length c_p1_1, .slice A_p1_2 p1.B.length c_p1_2, .slice A_p1_3 p1.C.length c_p1_3], .blk b3 27 [.slice none 0 0, .slice none 0 0, .slice none 0 0], .mat A43 n44 c45 23 2 vs47 r41, .mat A52 n53 c54 23 2 vs56 r50, .row A64 n65 c66 2 1 (ints r62), .mat none 0 0 23 2 [] ([] : List (List Int)), .row none 0 0 2 1 (ints ([] : List Int)), .row none 0 0 2 1 (ints ([] : List Int))] := hs.addNil 2 1
            obtain rfl := Option.some.inj hm
            refine wpL_ret (ret_cell_tmp rfl hf rfl rfl hs (i := 2) rfl ag27 ti27 rfl ?_)
            exact ⟨_, rfl, none, 0, 0, [], none, 0, 0, none, 0, 0, rfl, rfl, rfl, rfl, hs.sel [6, 7, 8] (by decide)⟩
          · have hm := bif_f hm hb81
            refine wpL_skip ?_
            refine wpL_seq ?_
            refine wpL_drawM [.blk b1 27 [.slice A_p0_1 p0.A.length c_p0_1, .slice A_p0_2 p0.B.length c_p0_2, .slice A_p0_3 p0.C.length c_p0_3], .blk b2 27 [.slice A_p1_1 p1.A.length c_p1_1, .slice A_p1_2 p1.B.length c_p1_2, .slice A_p1_3 p1.C.length c_p1_3], .blk b3 27 [.slice none 0 0, .slice none 0 0, .slice none 0 0], .mat A43 n44 c45 23 2 vs47 r41, .mat A52 n53 c54 23 2 vs56 r50, .row A64 n65 c66 2 1 (ints r62)] [14, 16, 19] (by kernel_rfl) hs ?_; clear hs; intro w hs
            have hs0 : St [] W w [.blk b1 27 [.slice A_p0_1 p0.A.length c_p0_1, .slice A_p0_2 p0.B.length c_p0_2, .slice A_p0_3 p0.C.length c_p0_3], .blk b2 27 [.slice A_p1_1 p1.A.length c_p1_1, .slice A_p1_2 p1.B.length c_p1_2, .slice A_p1_3 p1.C.length c_p1_3], .blk b3 27 [.slice none 0 0, .slice none 0 0, .slice none 0 0], .mat A43 n44 c45 23 2 vs47 r41, .mat A52 n53 c54 23 2 vs56 r50, .row A64 n65 c66 2 1 (ints r62)] := hs
            refine mYp (i := 0) rfl (by kernel_rfl) (by kernel_rfl) hf rfl rfl rfl (fun _ => Y_fieldAddr rfl rfl fo27_0) ?_; clear hf; intro a hf
            refine mY (i := 1) [[5, 8, 10], [5, 15], []] rfl (by kernel_rfl) (by kernel_rfl) hf hs0 rfl rfl rfl (Y_load_blk rfl rfl (i := 0) rfl rfl ag22) ?_; clear hf; intro a hf
            refine mYp (i := 2) rfl (by kernel_rfl) (by kernel_rfl) hf rfl rfl rfl (fun _ => Y_fieldAddr rfl rfl fo27_0) ?_; clear hf; intro a hf
            refine mY (i := 3) [[5, 8, 10], [5, 15], []] rfl (by kernel_rfl) (by kernel_rfl) hf hs0 rfl rfl rfl (Y_load_blk rfl rfl (i := 1) rfl rfl ag22) ?_; clear hf; intro a hf
            refine mYp (i := 4) rfl (by kernel_rfl) (by kernel_rfl) hf rfl rfl rfl (fun _ => Y_move rfl rfl) ?_; clear hf; intro a hf
            refine mYp (i := 6) rfl (by kernel_rfl) (by kernel_rfl) hf rfl rfl rfl (fun _ => Y_fieldAddr rfl rfl fo27_1) ?_; clear hf; intro a hf
            refine mY (i := 7) [[8, 10], [8, 10, 14], []] rfl (by kernel_rfl) (by kernel_rfl) hf hs0 rfl rfl rfl (Y_load_blk rfl rfl (i := 0) rfl rfl ag23) ?_; clear hf; intro a hf
            refine mYp (i := 9) rfl (by kernel_rfl) (by kernel_rfl) hf rfl rfl rfl (fun _ => Y_move rfl rfl) ?_; clear hf; intro a hf
            refine mYp (i := 11) rfl (by kernel_rfl) (by kernel_rfl) hf rfl rfl rfl (fun _ => Y_move rfl rfl) ?_; clear hf; intro a hf
            refine mYp (i := 12) rfl (by kernel_rfl) (by kernel_rfl) hf rfl rfl rfl (fun _ => Y_fieldAddr rfl rfl fo27_2) ?_; clear hf; intro a hf
            refine mY (i := 13) [[], [14], []] rfl (by kernel_rfl) (by kernel_rfl) hf hs0 rfl rfl rfl (Y_load_blk rfl rfl (i := 1) rfl rfl ag23) ?_; clear hf; intro a hf
            refine mRun (i := 5) rfl (by kernel_rfl) ?_
            obtain ⟨r124, hc125, hm⟩ := bind_some hm
            refine sCall hf rfl rfl rfl rfl (cap := []) rfl rfl en79 (spec_l24Stack_ok F p0.A A_p0_1 p0.A.length c_p0_1 rfl p1.A A_p1_1 p1.A.length c_p1_1 rfl r41 A43 n44 c45 hn46 _ _ hc125 (h_p0_1.at hs) (h_p1_1.at hs) (hs.rdM (i := 3) rfl)) ?_; clear hf
            rintro _ w ⟨A126, n127, c128, vs130, rfl, hn129, hs1⟩ a hf
            have hs : St [] W w [.blk b1 27 [.slice A_p0_1 p0.A.length c_p0_1, .slice A_p0_2 p0.B.length c_p0_2, .slice A_p0_3 p0.C.length c_p0_3], .blk b2 27 [.slice A_p1_1 p1.A.length c_p1_1, .slice A_p1_2 p1.B.length c_p1_2, .slice A_p1_3 p1.C.length c_p1_3], .blk b3 27 [.slice none 0 0, .slice none 0 0, .slice none 0 0], .mat A43 n44 c45 23 2 vs47 r41, .mat A52 n53 c54 23 2 vs56 r50, .row A64 n65 c66 2 1 (ints r62), .mat A126 n127 c128 23 2 vs130 r124] := hs.join hs1
            clear hs1
            have hs0 : St [] W w [.blk b1 27 [.slice A_p0_1 p0.A.length c_p0_1, .slice A_p0_2 p0.B.length c_p0_2, .slice A_p0_3 p0.C.length c_p0_3], .blk b2 27 [.slice A_p1_1 p1.A.length c_p1_1, .slice A_p1_2 p1.B.length c_p1_2, .slice A_p1_3 p1.C.length c_p1_3], .blk b3 27 [.slice none 0 0, .slice none 0 0, .slice none 0 0], .mat A43 n44 c45 23 2 vs47 r41, .mat A52 n53 c54 23 2 vs56 r50, .row A64 n65 c66 2 1 (ints r62)] := hs.sel [0, 1, 2, 3, 4, 5] (by decide)
            refine wpO_nil ⟨Or.inr (fun _ => hs0), ?_⟩
            refine mRun (i := 8) rfl (by kernel_rfl) ?_
            obtain ⟨r131, hc132, hm⟩ := bind_some hm
            refine sCall hf rfl rfl rfl rfl (cap := []) rfl rfl en80 (spec_l01Own_ok F p0.B A_p0_2 p0.B.length c_p0_2 rfl _ _ hc132 (h_p0_2.at hs)) ?_; clear hf
            rintro _ w ⟨A133, n134, c135, rfl, hn136, hs1⟩ a hf
            have hs : St [] W w [.blk b1 27 [.slice A_p0_1 p0.A.length c_p0_1, .slice A_p0_2 p0.B.length c_p0_2, .slice A_p0_3 p0.C.length c_p0_3], .blk b2 27 [.slice A_p1_1 p1.A.length c_p1_1, .slice A_p1_2 p1.B.length c_p1_2, .slice A_p1_3 p1.C.length c_p1_3], .blk b3 27 [.slice none 0 0, .slice none 0 0, .slice none 0 0], .mat A43 n44 c45 23 2 vs47 r41, .mat A52 n53 c54 23 2 vs56 r50, .row A64 n65 c66 2 1 (ints r62), .mat A126 n127 c128 23 2 vs130 r124, .row A133 n134 c135 2 1 (ints r131)] := hs.join hs1
            clear hs1
            have hs0 : St [] W w [.blk b1 27 [.slice A_p0_1 p0.A.length c_p0_1, .slice A_p0_2 p0.B.length c_p0_2, .slice A_p0_3 p0.C.length c_p0_3], .blk b2 27 [.slice A_p1_1 p1.A.length c_p1_1, .slice A_p1_2 p1.B.length c_p1_2, .slice A_p1_3 p1.C.length c_p1_3], .blk b3 27 [.slice none 0 0, .slice none 0 0, .slice none 0 0], .mat A43 n44 c45 23 2 vs47 r41, .mat A52 n53 c54 23 2 vs56 r50, .row A64 n65 c66 2 1 (ints r62)] := hs.sel [0, 1, 2, 3, 4, 5] (by decide)
            refine wpO_nil ⟨Or.inr (fun _ => hs0), ?_⟩
            refine mRun (i := 10) rfl (by kernel_rfl) ?_
            obtain ⟨xs139, ha140, hm⟩ := bind_some hm
            refine sAppendG (i := 7) (xs := r131) (ys := r62) (enc := ints) hf hs rfl rfl rfl rfl rfl rfl hn136 hn67 rfl ha140 el23 ti2 rfl rfl rfl (hs.rd (i := 5) rfl) ints_len1 ints_append ints_one ?_; clear hf hs; intro a w A137 c138 hs hf
            have hs : St [] W w [.blk b1 27 [.slice A_p0_1 p0.A.length c_p0_1, .slice A_p0_2 p0.B.length c_p0_2, .slice A_p0_3 p0.C.length c_p0_3], .blk b2 27 [.slice A_p1_1 p1.A.length c_p1_1, .slice A_p1_2 p1.B.length c_p1_2, .slice A_p1_3 p1.C.length c_p1_3], .blk b3 27 [.slice none 0 0, .slice none 0 0, .slice none 0 0], .mat A43 n44 c45 23 2 vs47 r41, .mat A52 n53 c54 23 2 vs56 r50, .row A64 n65 c66 2 1 (ints r62), .mat A126 n127 c128 23 2 vs130 r124, .row A137 xs139.length c138 2 1 (ints xs139)] := hs
            have hs0 : St [] W w [.blk b1 27 [.slice A_p0_1 p0.A.length c_p0_1, .slice A_p0_2 p0.B.length c_p0_2, .slice A_p0_3 p0.C.length c_p0_3], .blk b2 27 [.slice A_p1_1 p1.A.length c_p1_1, .slice A_p1_2 p1.B.length c_p1_2, .slice A_p1_3 p1.C.length c_p1_3], .blk b3 27 [.slice none 0 0, .slice none 0 0, .slice none 0 0], .mat A43 n44 c45 23 2 vs47 r41, .mat A52 n53 c54 23 2 vs56 r50, .row A64 n65 c66 2 1 (ints r62)] := hs.sel [0, 1, 2, 3, 4, 5] (by decide)
            refine wpO_nil ⟨Or.inr (fun _ => hs0), ?_⟩
            refine mRun (i := 14) rfl (by kernel_rfl) ?_
            have hs := hs.takeRow (i := 4) rfl ⟨hi58q, hv61⟩
            have hs : St [] W w [.blk b1 27 [.slice A_p0_1 p0.A.length c_p0_1, .slice A_p0_2 p0.B.length c_p0_2, .slice A_p0_3 p0.C.length c_p0_3], .blk b2 27 [.slice A_p1_1 p1.A.length c_p1_1, .slice A_p1_2 p1.B.length c_p1_2, .slice A_p1_3 p1.C.length c_p1_3], .blk b3 27 [.slice none 0 0, .slice none 0 0, .slice none 0 0], .mat A43 n44 c45 23 2 vs47 r41, .row A59 q57.length c60 2 1 (ints q57), .row A64 n65 c66 2 1 (ints r62), .mat A126 n127 c128 23 2 vs130 r124, .row A137 xs139.length c138 2 1 (ints xs139)] := hs
            obtain ⟨xs143, ha144, hm⟩ := bind_some hm
            refine sAppendG (i := 4) (xs := q57) (ys := p1.C) (enc := ints) hf hs rfl rfl rfl rfl rfl rfl rfl rfl rfl ha144 el23 ti2 rfl rfl rfl (h_p1_3.at hs) ints_len1 ints_append ints_one ?_; clear hf hs; intro a w A141 c142 hs hf
            have hs : St [] W w [.blk b1 27 [.slice A_p0_1 p0.A.length c_p0_1, .slice A_p0_2 p0.B.length c_p0_2, .slice A_p0_3 p0.C.length c_p0_3], .blk b2 27 [.slice A_p1_1 p1.A.length c_p1_1, .slice A_p1_2 p1.B.length c_p1_2, .slice A_p1_3 p1.C.length c_p1_3], .blk b3 27 [.slice none 0 0, .slice none 0 0, .slice none 0 0], .mat A43 n44 c45 23 2 vs47 r41, .row A141 xs143.length c142 2 1 (ints xs143), .row A64 n65 c66 2 1 (ints r62), .mat A126 n127 c128 23 2 vs130 r124, .row A137 xs139.length c138 2 1 (ints xs139)] := hs
            refine wpO_nil ⟨Or.inl (by decide), ?_⟩
            refine mYp (i := 15) rfl (by kernel_rfl) (by kernel_rfl) hf rfl rfl rfl (fun _ => Y_build (parts := [(0, .tmp 71), (1, .tmp 76), (2, .tmp 80)]) (vs := [.slice A126 n127 c128, .slice A137 xs139.length c138, .slice A141 xs143.length c142]) rfl rfl (run_build (parts := [(0, .slice A126 n127 c128), (1, .slice A137 xs139.length c138), (2, .slice A141 xs143.length c142)]) (cells := [.slice A126 n127 c128, .slice A137 xs139.length c138, .slice A141 xs143.length c142]) (places := #[(0, 1), (1, 1), (2, 1)]) ti27 Try.underlying27 (fun w => by simp [go_sem]) rfl)) ?_; clear hf; intro a hf
            refine mRun (i := 16) rfl (by kernel_rfl) ?_
            obtain ⟨r145, hc146, hm⟩ := bind_some hm
            refine sCall hf rfl rfl rfl rfl (cap := []) rfl rfl en78 (spec_l24Result_ok F (GSystem.mk r124 xs139 xs143) A126 n127 c128 hn129 A137 xs139.length c138 rfl A141 xs143.length c142 rfl _ _ hc146 (hs.rdM (i := 6) rfl) (hs.rd (i := 7) rfl) (hs.rd (i := 4) rfl)) ?_; clear hf
            rintro _ w ⟨A147, n148, c149, A152, n153, c154, A157, n158, c159, rfl, hn150, hal151, hn155, hal156, hn160, hal161, hs1⟩ a hf
            have hs : St [] W w [.blk b1 27 [.slice A_p0_1 p0.A.length c_p0_1, .slice A_p0_2 p0.B.length c_p0_2, .slice A_p0_3 p0.C.length c_p0_3], .blk b2 27 [.slice A_p1_1 p1.A.length c_p1_1, .slice A_p1_2 p1.B.length c_p1_2, .slice A_p1_3 p1.C.length c_p1_3], .blk b3 27 [.slice none 0 0, .slice none 0 0, .slice none 0 0], .mat A43 n44 c45 23 2 vs47 r41, .row A141 xs143.length c142 2 1 (ints xs143), .row A64 n65 c66 2 1 (ints r62), .mat A126 n127 c128 23 2 vs130 r124, .row A137 xs139.length c138 2 1 (ints xs139)] := hs.ext hs1.below
            clear hs1
            obtain ⟨vs162, hs⟩ := hs.aliasM (i := 6) rfl hal151
            have hs : St [] W w [.blk b1 27 [.slice A_p0_1 p0.A.length c_p0_1, .slice A_p0_2 p0.B.length c_p0_2, .slice A_p0_3 p0.C.length c_p0_3], .blk b2 27 [.slice A_p1_1 p1.A.length c_p1_1, .slice A_p1_2 p1.B.length c_p1_2, .slice A_p1_3 p1.C.length c_p1_3], .blk b3 27 [.slice none 0 0, .slice none 0 0, .slice none 0 0], .mat A43 n44 c45 23 2 vs47 r41, .row A141 xs143.length c142 2 1 (ints xs143), .row A64 n65 c66 2 1 (ints r62), .mat A147 n148 c149 23 2 vs162 r145.1.A, .row A137 xs139.length c138 2 1 (ints xs139)] := hs
            have hs : St [] W w [.blk b1 27 [.slice A_p0_1 p0.A.length c_p0_1, .slice A_p0_2 p0.B.length c_p0_2, .slice A_p0_3 p0.C.length c_p0_3], .blk b2 27 [.slice A_p1_1 p1.A.length c_p1_1, .slice A_p1_2 p1.B.length c_p1_2, .slice A_p1_3 p1.C.length c_p1_3], .blk b3 27 [.slice none 0 0, .slice none 0 0, .slice none 0 0], .mat A43 n44 c45 23 2 vs47 r41, .row A141 xs143.length c142 2 1 (ints xs143), .row A64 n65 c66 2 1 (ints r62), .mat A147 n148 c149 23 2 vs162 r145.1.A, .row A152 n153 c154 2 1 (ints r145.1.B)] := hs.alias (i := 7) (enc := ints) rfl rfl hal156
            have hs : St [] W w [.blk b1 27 [.slice A_p0_1 p0.A.length c_p0_1, .slice A_p0_2 p0.B.length c_p0_2, .slice A_p0_3 p0.C.length c_p0_3], .blk b2 27 [.slice A_p1_1 p1.A.length c_p1_1, .slice A_p1_2 p1.B.length c_p1_2, .slice A_p1_3 p1.C.length c_p1_3], .blk b3 27 [.slice none 0 0, .slice none 0 0, .slice none 0 0], .mat A43 n44 c45 23 2 vs47 r41, .row A157 n158 c159 2 1 (ints r145.1.C), .row A64 n65 c66 2 1 (ints r62), .mat A147 n148 c149 23 2 vs162 r145.1.A, .row A152 n153 c154 2 1 (ints r145.1.B)] := hs.alias (i := 4) (enc := ints) rfl rfl hal161
            refine wpO_nil ⟨Or.inl (by decide), ?_⟩
            refine mYp (i := 17) rfl (by kernel_rfl) (by kernel_rfl) hf rfl rfl rfl (fun _ => Y_extract rfl rfl rfl) ?_; clear hf; intro a hf
            refine mYp (i := 18) rfl (by kernel_rfl) (by kernel_rfl) hf rfl rfl rfl (fun _ => Y_extract rfl rfl rfl) ?_; clear hf; intro a hf
            refine mRun (i := 19) rfl (by kernel_rfl) ?_
            refine sStore (i := 2) (us := [.slice A147 n148 c149, .slice A152 n153 c154, .slice A157 n158 c159]) hf hs rfl rfl rfl rfl rfl rfl ti27 rfl rfl rfl (Nat.le_of_ble_eq_true rfl) rfl ?_; clear hs; intro w hs
            have hs : St [] W w [.blk b1 27 [.slice A_p0_1 p0.A.length c_p0_1, .slice A_p0_2 p0.B.length c_p0_2, .slice A_p0_3 p0.C.length c_p0_3], .blk b2 27 [.slice A_p1_1 p1.A.length c_p1_1, .slice A_p1_2 p1.B.length c_p1_2, .slice A_p1_3 p1.C.length c_p1_3], .blk b3 27 [.slice A147 n148 c149, .slice A152 n153 c154, .slice A157 n158 c159], .mat A43 n44 c45 23 2 vs47 r41, .row A157 n158 c159 2 1 (ints r145.1.C), .row A64 n65 c66 2 1 (ints r62), .mat A147 n148 c149 23 2 vs162 r145.1.A, .row A152 n153 c154 2 1 (ints r145.1.B)] := hs
            refine wpO_nil ⟨Or.inl (by decide), ?_⟩
            refine mYp (i := 20) rfl (by kernel_rfl) (by kernel_rfl) hf rfl rfl rfl (fun _ => Y_assign rfl rfl) ?_; clear hf; intro a hf
            refine mDone (by kernel_rfl) ?_
            clear hs0
            obtain rfl := Option.some.inj hm
            refine wpL_ret (ret_cell_tmp rfl hf rfl rfl hs (i := 2) rfl ag27 ti27 rfl ?_)
            exact ⟨_, rfl, A147, n148, c149, vs162, A152, n153, c154, A157, n158, c159, rfl, hn150, hn155, hn160, hs.sel [6, 7, 4] (by decide)⟩

set_option maxRecDepth 100000 in
theorem impl_ParallelSystem_c1_ok (F : Nat) (p0 : Int) (p1 : Int) (r : Int) (W : World) (hm : impl_ParallelSystem_c1 F p0 p1 = some r) :
    Calls Try.prog 103 [.int .i64 p0, .int .i64 p1].toArray W fun e w' => ∃ v, e = .returned v ∧ v = .int .i64 r ∧ St [] W w' [] := by
  unfold impl_ParallelSystem_c1 at hm
  refine Calls.enter (N := 5) Try.func103 rfl rfl rfl (fun a hf => ?_)
  have hs := St.start W
  obtain ⟨w, hw_⟩ : ∃ w, w = W := ⟨W, rfl⟩
  clear hw_ w
  refine wpL_seq ?_
  refine wpL_region ?_
  refine sY hf hs rfl rfl rfl (Y_assign rfl rfl) ?_; clear hf; intro a hf
  refine wpO_nil ?_
  refine wpL_seq ?_
  refine wpL_region ?_
  refine sY hf hs rfl rfl rfl (Y_assign rfl rfl) ?_; clear hf; intro a hf
  refine wpO_nil ?_
  obtain rfl := Option.some.inj hm
  refine wpL_ret (ret_tmp rfl hf rfl ?_)
  exact ⟨_, rfl, rfl, hs⟩

set_option maxHeartbeats 2000000 in
set_option maxRecDepth 100000 in
theorem impl_ParallelSystem_ok (F : Nat) (p0_s : GSystem) (A_p0_s_1 : Option Addr) (n_p0_s_1 c_p0_s_1 : Nat) (hn_p0_s_1 : n_p0_s_1 = p0_s.A.length) (A_p0_s_2 : Option Addr) (n_p0_s_2 c_p0_s_2 : Nat) (hn_p0_s_2 : n_p0_s_2 = p0_s.B.length) (A_p0_s_3 : Option Addr) (n_p0_s_3 c_p0_s_3 : Nat) (hn_p0_s_3 : n_p0_s_3 = p0_s.C.length) (p1_t : GSystem) (A_p1_t_1 : Option Addr) (n_p1_t_1 c_p1_t_1 : Nat) (hn_p1_t_1 : n_p1_t_1 = p1_t.A.length) (A_p1_t_2 : Option Addr) (n_p1_t_2 c_p1_t_2 : Nat) (hn_p1_t_2 : n_p1_t_2 = p1_t.B.length) (A_p1_t_3 : Option Addr) (n_p1_t_3 c_p1_t_3 : Nat) (hn_p1_t_3 : n_p1_t_3 = p1_t.C.length) (r : GSystem × Int) (W : World) (hm : impl_ParallelSystem F p0_s p1_t = some r) (h_p0_s_1 : RdM W A_p0_s_1 p0_s.A) (h_p0_s_2 : Rd W A_p0_s_2 (ints p0_s.B)) (h_p0_s_3 : Rd W A_p0_s_3 (ints p0_s.C)) (h_p1_t_1 : RdM W A_p1_t_1 p1_t.A) (h_p1_t_2 : Rd W A_p1_t_2 (ints p1_t.B)) (h_p1_t_3 : Rd W A_p1_t_3 (ints p1_t.C)) :
    Calls Try.prog 19 [.agg #[.slice A_p0_s_1 n_p0_s_1 c_p0_s_1, .slice A_p0_s_2 n_p0_s_2 c_p0_s_2, .slice A_p0_s_3 n_p0_s_3 c_p0_s_3], .agg #[.slice A_p1_t_1 n_p1_t_1 c_p1_t_1, .slice A_p1_t_2 n_p1_t_2 c_p1_t_2, .slice A_p1_t_3 n_p1_t_3 c_p1_t_3]].toArray W fun e w' => ∃ v, e = .returned v ∧ ∃ A174, ∃ n175, ∃ c176, ∃ vs178, ∃ A179, ∃ n180, ∃ c181, ∃ A183, ∃ n184, ∃ c185, v = .tuple #[.agg #[.slice A174 n175 c176, .slice A179 n180 c181, .slice A183 n184 c185], .int .i64 r.2] ∧ n175 = r.1.A.length ∧ n180 = r.1.B.length ∧ n184 = r.1.C.length ∧ St [] W w' [.mat A174 n175 c176 23 2 vs178 r.1.A, .row A179 n180 c181 2 1 (ints r.1.B), .row A183 n184 c185 2 1 (ints r.1.C)] := by
  subst hn_p0_s_1
  subst hn_p0_s_2
  subst hn_p0_s_3
  subst hn_p1_t_1
  subst hn_p1_t_2
  subst hn_p1_t_3
  unfold impl_ParallelSystem at hm
  refine Calls.enter (N := 44) Try.func19 rfl rfl rfl (fun a hf => ?_)
  have hs := St.start W
  obtain ⟨w, hw_⟩ : ∃ w, w = W := ⟨W, rfl⟩
  clear hw_ w
  refine wpL_seq ?_
  refine wpL_region ?_
  refine sBox hf hs rfl rfl rfl rfl rfl (cs := [.slice A_p0_s_1 p0_s.A.length c_p0_s_1, .slice A_p0_s_2 p0_s.B.length c_p0_s_2, .slice A_p0_s_3 p0_s.C.length c_p0_s_3]) rfl ?_; clear hf hs; intro a w b1 hs hf
  have hs : St [] W w [.blk b1 27 [.slice A_p0_s_1 p0_s.A.length c_p0_s_1, .slice A_p0_s_2 p0_s.B.length c_p0_s_2, .slice A_p0_s_3 p0_s.C.length c_p0_s_3]] := hs
  refine sBox hf hs rfl rfl rfl rfl rfl (cs := [.slice A_p1_t_1 p1_t.A.length c_p1_t_1, .slice A_p1_t_2 p1_t.B.length c_p1_t_2, .slice A_p1_t_3 p1_t.C.length c_p1_t_3]) rfl ?_; clear hf hs; intro a w b2 hs hf
  have hs : St [] W w [.blk b1 27 [.slice A_p0_s_1 p0_s.A.length c_p0_s_1, .slice A_p0_s_2 p0_s.B.length c_p0_s_2, .slice A_p0_s_3 p0_s.C.length c_p0_s_3], .blk b2 27 [.slice A_p1_t_1 p1_t.A.length c_p1_t_1, .slice A_p1_t_2 p1_t.B.length c_p1_t_2, .slice A_p1_t_3 p1_t.C.length c_p1_t_3]] := hs
  refine sAlloc hf hs rfl rfl rfl rfl ti27 ?_; clear hf hs; intro a w b3 hs hf
  have hs : St [] W w [.blk b1 27 [.slice A_p0_s_1 p0_s.A.length c_p0_s_1, .slice A_p0_s_2 p0_s.B.length c_p0_s_2, .slice A_p0_s_3 p0_s.C.length c_p0_s_3], .blk b2 27 [.slice A_p1_t_1 p1_t.A.length c_p1_t_1, .slice A_p1_t_2 p1_t.B.length c_p1_t_2, .slice A_p1_t_3 p1_t.C.length c_p1_t_3], .blk b3 27 [.slice none 0 0, .slice none 0 0, .slice none 0 0]] := hs
  refine sY hf hs rfl rfl rfl (Y_assign rfl rfl) ?_; clear hf; intro a hf
  refine wpO_nil ?_
  refine wpL_seq ?_
  refine wpL_seq ?_
  obtain ⟨r10, hj11, hm⟩ := bind_some hm
  refine wpL_cut (fun a w => ∃ b9 : Bool, b9 = r10 ∧ Fr a 44 [(2, .pointer (some ⟨b1, 0, none⟩)), (3, .pointer (some ⟨b2, 0, none⟩)), (4, .pointer (some ⟨b3, 0, none⟩)), (14, .bool b9)] ∧ St [] W w [.blk b1 27 [.slice A_p0_s_1 p0_s.A.length c_p0_s_1, .slice A_p0_s_2 p0_s.B.length c_p0_s_2, .slice A_p0_s_3 p0_s.C.length c_p0_s_3], .blk b2 27 [.slice A_p1_t_1 p1_t.A.length c_p1_t_1, .slice A_p1_t_2 p1_t.B.length c_p1_t_2, .slice A_p1_t_3 p1_t.C.length c_p1_t_3], .blk b3 27 [.slice none 0 0, .slice none 0 0, .slice none 0 0]]) ?_ ?_
  · refine wpL_region ?_
    refine sY hf hs rfl rfl rfl (Y_load_blkS rfl rfl (i := 0) rfl ag27 ti27 rfl) ?_; clear hf; intro a hf
    obtain ⟨r12, hc13, hj11⟩ := bind_some hj11
    refine sCall hf rfl rfl rfl rfl (cap := []) rfl rfl en31 (impl_IsSystem_ok F p0_s A_p0_s_1 p0_s.A.length c_p0_s_1 rfl A_p0_s_2 p0_s.B.length c_p0_s_2 rfl A_p0_s_3 p0_s.C.length c_p0_s_3 rfl _ _ hc13 (h_p0_s_1.at hs) (h_p0_s_2.at hs) (h_p0_s_3.at hs)) ?_; clear hf
    rintro _ w ⟨rfl, hs1⟩ a hf
    have hs : St [] W w [.blk b1 27 [.slice A_p0_s_1 p0_s.A.length c_p0_s_1, .slice A_p0_s_2 p0_s.B.length c_p0_s_2, .slice A_p0_s_3 p0_s.C.length c_p0_s_3], .blk b2 27 [.slice A_p1_t_1 p1_t.A.length c_p1_t_1, .slice A_p1_t_2 p1_t.B.length c_p1_t_2, .slice A_p1_t_3 p1_t.C.length c_p1_t_3], .blk b3 27 [.slice none 0 0, .slice none 0 0, .slice none 0 0]] := hs.ext hs1.below
    clear hs1
    refine sY hf hs rfl rfl rfl (Y_not rfl rfl) ?_; clear hf; intro a hf
    refine sY hf hs rfl rfl rfl (Y_move rfl rfl) ?_; clear hf; intro a hf
    refine bsplit (!r12) (fun hb14 => ?_) (fun hb14 => ?_)
    · have hj11 := bif_t hj11 hb14
      refine sNo hf rfl rfl rfl (congrArg (fun b => some (Value.bool b)) hb14) rfl rfl rfl ?_; clear hf; intro a hf
      refine sNo hf rfl rfl rfl (congrArg (fun b => some (Value.bool b)) hb14) rfl rfl rfl ?_; clear hf; intro a hf
      refine sNo hf rfl rfl rfl (congrArg (fun b => some (Value.bool b)) hb14) rfl rfl rfl ?_; clear hf; intro a hf
      refine sY hf hs rfl rfl rfl (Y_pickT rfl (congrArg (fun b => some (Value.bool b)) hb14) rfl) ?_; clear hf; intro a hf
      refine wpO_nil ?_
      refine wpL_nil (then_normal ?_)
      exact ⟨true, Option.some.inj hj11, (FrD.pick (FrD.pick (FrD.pick (FrD.pick hf.none hf rfl) hf rfl) hf rfl) hf rfl), hs⟩
    · have hj11 := bif_f hj11 hb14
      refine sYg hf hs rfl rfl rfl (congrArg (fun b => some (Value.bool b)) hb14) rfl rfl rfl (Y_load_blkS rfl rfl (i := 1) rfl ag27 ti27 rfl) ?_; clear hf; intro a hf
      obtain ⟨r15, hc16, hj11⟩ := bind_some hj11
      refine sCallg hf rfl rfl rfl (congrArg (fun b => some (Value.bool b)) hb14) rfl rfl rfl rfl (cap := []) rfl rfl en31 (impl_IsSystem_ok F p1_t A_p1_t_1 p1_t.A.length c_p1_t_1 rfl A_p1_t_2 p1_t.B.length c_p1_t_2 rfl A_p1_t_3 p1_t.C.length c_p1_t_3 rfl _ _ hc16 (h_p1_t_1.at hs) (h_p1_t_2.at hs) (h_p1_t_3.at hs)) ?_; clear hf
      rintro _ w ⟨rfl, hs1⟩ a hf
      have hs : St [] W w [.blk b1 27 [.slice A_p0_s_1 p0_s.A.length c_p0_s_1, .slice A_p0_s_2 p0_s.B.length c_p0_s_2, .slice A_p0_s_3 p0_s.C.length c_p0_s_3], .blk b2 27 [.slice A_p1_t_1 p1_t.A.length c_p1_t_1, .slice A_p1_t_2 p1_t.B.length c_p1_t_2, .slice A_p1_t_3 p1_t.C.length c_p1_t_3], .blk b3 27 [.slice none 0 0, .slice none 0 0, .slice none 0 0]] := hs.ext hs1.below
      clear hs1
      refine sYg hf hs rfl rfl rfl (congrArg (fun b => some (Value.bool b)) hb14) rfl rfl rfl (Y_not rfl rfl) ?_; clear hf; intro a hf
      refine sY hf hs rfl rfl rfl (Y_pickF rfl (congrArg (fun b => some (Value.bool b)) hb14) rfl) ?_; clear hf; intro a hf
      refine wpO_nil ?_
      refine wpL_nil (then_normal ?_)
      exact ⟨(!r15), Option.some.inj hj11, (FrD.pick (FrD.pick (FrD.pick (FrD.pick hf.none hf rfl) hf rfl) hf rfl) hf rfl), hs⟩
  · rintro a w ⟨b9, hr_, hf, hs⟩
    subst hr_
    try dsimp only at hm
    refine wpL_cond hf rfl (fun hb17 => ?_) (fun hb17 => ?_)
    · have hm := bif_t hm hb17
      refine wpL_seq ?_
      refine wpL_region ?_
      refine sY hf hs rfl rfl rfl (Y_build (parts := []) (vs := []) rfl rfl (run_build (parts := []) (cells := [.slice none 0 0, .slice none 0 0, .slice none 0 0]) (places := #[(0, 1), (1, 1), (2, 1)]) ti27 Try.underlying27 (fun w => by simp [go_sem]) rfl)) ?_; clear hf; intro a hf
      refine sStore (i := 2) (us := [.slice none 0 0, .slice none 0 0, .slice none 0 0]) hf hs rfl rfl rfl rfl rfl rfl ti27 rfl rfl rfl (Nat.le_of_ble_eq_true rfl) rfl ?_; clear hs; intro w hs
      have hs : St [] W w [.blk b1 27 [.slice A_p0_s_1 p0_s.A.length c_p0_s_1, .slice A_p0_s_2 p0_s.B.length c_p0_s_2, .slice A_p0_s_3 p0_s.C.length c_p0_s_3], .blk b2 27 [.slice A_p1_t_1 p1_t.A.length c_p1_t_1, .slice A_p1_t_2 p1_t.B.length c_p1_t_2, .slice A_p1_t_3 p1_t.C.length c_p1_t_3], .blk b3 27 [.slice none 0 0, .slice none 0 0, .slice none 0 0]] := hs
      refine sY hf hs rfl rfl rfl (Y_assign rfl rfl) ?_; clear hf; intro a hf
      refine wpO_nil ?_
      have hs : St [] W _ [.blk b1 27 [.slice A_p0_s_1 p0_s.A.length c_p0_s_1, .slice A_p0_s_2 p0_s.B.length c_p0_s_2, .slice A_p0_s_3 p0_s.C.length c_p0_s_3], .blk b2 27 [.slice A_p1_t_1 p1_t.A.length c_p1_t_1, .slice A_p1_t_2 p1_t.B.length c_p1_t_2, .slice A_p1_t_3 p1_t.C.length c_p1_t_3], .blk b3 27 [.slice none 0 0, .slice none 0 0, .slice none 0 0], .mat none 0 0 23 2 [] ([] : List (List Int))] := hs.addNilM 23 2
      have hs : St [] W _ [.blk b1 27 [.slice A_p0_s_1 p0_s.A.length c_p0_s_1, .slice A_p0_s_2 p0_s.B.length c_p0_s_2, .slice A_p0_s_3 p0_s.C.length c_p0_s_3], .blk b2 27 [.slice A_p1_t_1 p1_t.A.length c_p1_t_1, .slice A_p1_t_2 p1_t.B.length c_p1_t_2, .slice A_p1_t_3 p1_t.C.length c_p1_t_3], .blk b3 27 [.slice none 0 0, .slice none 0 0, .slice none 0 0], .mat none 0 0 23 2 [] ([] : List (List Int)), .row none 0 0 2 1 (ints ([] : List Int))] := hs.addNil 2 1
      have hs : St [] W _ [.blk b1 27 [.slice A_p0_s_1 p0_s.A.length c_p0_s_1, .slice A_p0_s_2 p0_s.B.length c_p0_s_2, .slice A_p0_s_3 p0_s.C.length c_p0_s_3], .blk b2 27 [.slice A_p1_t_1 p1_t.A.length c_p1_t_1, .slice A_p1_t_2 p1_t.B.length c_p1_t_2, .slice A_p1_t_3 p1_t.C.length c_p1_t_3], .blk b3 27 [.slice none 0 0, .slice none 0 0, .slice none 0 0], .mat none 0 0 23 2 [] ([] : List (List Int)), .row none 0 0 2 1 (ints ([] : List Int)), .row none 0 0 2 1 (ints ([] : List Int))] := hs.addNil 2 1
      obtain rfl := Option.some.inj hm
      refine wpL_ret (ret_cell_tmp rfl hf rfl rfl hs (i := 2) rfl ag27 ti27 rfl ?_)
      exact ⟨_, rfl, none, 0, 0, [], none, 0, 0, none, 0, 0, rfl, rfl, rfl, rfl, hs.sel [3, 4, 5] (by decide)⟩
    · have hm := bif_f hm hb17
      refine wpL_skip ?_
      refine wpL_seq ?_
      refine wpL_seq ?_
      refine wpL_region ?_
      refine sY hf hs rfl rfl rfl (Y_fieldAddr rfl rfl fo27_0) ?_; clear hf; intro a hf
      refine sY hf hs rfl rfl rfl (Y_load_blk rfl rfl (i := 0) rfl rfl ag22) ?_; clear hf; intro a hf
      refine sY hf hs rfl rfl rfl (Y_lenH rfl rfl el22 rfl) ?_; clear hf; intro a hf
      refine sY hf hs rfl rfl rfl (Y_fieldAddr rfl rfl fo27_0) ?_; clear hf; intro a hf
      refine sY hf hs rfl rfl rfl (Y_load_blk rfl rfl (i := 1) rfl rfl ag22) ?_; clear hf; intro a hf
      refine sY hf hs rfl rfl rfl (Y_lenH rfl rfl el22 rfl) ?_; clear hf; intro a hf
      refine sY hf hs rfl rfl rfl (Y_add rfl rfl rfl) ?_; clear hf; intro a hf
      refine sY hf hs rfl rfl rfl (Y_gtr rfl rfl rfl) ?_; clear hf; intro a hf
      refine wpO_nil ?_
      refine wpL_cond hf rfl (fun hb21 => ?_) (fun hb21 => ?_)
      · have hm := bif_t hm hb21
        refine wpL_seq ?_
        refine wpL_region ?_
        refine sY hf hs rfl rfl rfl (Y_build (parts := []) (vs := []) rfl rfl (run_build (parts := []) (cells := [.slice none 0 0, .slice none 0 0, .slice none 0 0]) (places := #[(0, 1), (1, 1), (2, 1)]) ti27 Try.underlying27 (fun w => by simp [go_sem]) rfl)) ?_; clear hf; intro a hf
        refine sStore (i := 2) (us := [.slice none 0 0, .slice none 0 0, .slice none 0 0]) hf hs rfl rfl rfl rfl rfl rfl ti27 rfl rfl rfl (Nat.le_of_ble_eq_true rfl) rfl ?_; clear hs; intro w hs
        have hs : St [] W w [.blk b1 27 [.slice A_p0_s_1 p0_s.A.length c_p0_s_1, .slice A_p0_s_2 p0_s.B.length c_p0_s_2, .slice A_p0_s_3 p0_s.C.length c_p0_s_3], .blk b2 27 [.slice A_p1_t_1 p1_t.A.length c_p1_t_1, .slice A_p1_t_2 p1_t.B.length c_p1_t_2, .slice A_p1_t_3 p1_t.C.length c_p1_t_3], .blk b3 27 [.slice none 0 0, .slice none 0 0, .slice none 0 0]] := hs
        refine sY hf hs rfl rfl rfl (Y_assign rfl rfl) ?_; clear hf; intro a hf
        refine wpO_nil ?_
        have hs : St [] W _ [.blk b1 27 [.slice A_p0_s_1 p0_s.A.length c_p0_s_1, .slice A_p0_s_2 p0_s.B.length c_p0_s_2, .slice A_p0_s_3 p0_s.C.length c_p0_s_3], .blk b2 27 [.slice A_p1_t_1 p1_t.A.length c_p1_t_1, .slice A_p1_t_2 p1_t.B.length c_p1_t_2, .slice A_p1_t_3 p1_t.C.length c_p1_t_3], .blk b3 27 [.slice none 0 0, .slice none 0 0, .slice none 0 0], .mat none 0 0 23 2 [] ([] : List (List Int))] := hs.addNilM 23 2
        have hs : St [] W _ [.blk b1 27 [.slice A_p0_s_1 p0_s.A.length c_p0_s_1, .slice A_p0_s_2 p0_s.B.length c_p0_s_2, .slice A_p0_s_3 p0_s.C.length c_p0_s_3], .blk b2 27 [.slice A_p1_t_1 p1_t.A.length c_p1_t_1, .slice A_p1_t_2 p1_t.B.length c_p1_t_2, .slice A_p1_t_3 p1_t.C.length c_p1_t_3], .blk b3 27 [.slice none 0 0, .slice none 0 0, .slice none 0 0], .mat none 0 0 23 2 [] ([] : List (List Int)), .row none 0 0 2 1 (ints ([] : List Int))] := hs.addNil 2 1
        have hs : St [] W _ [.blk b1 27 [.slice A_p0_s_1 p0_s.A.length c_p0_s_1, .slice A_p0_s_2 p0_s.B.length c_p0_s_2, .slice A_p0_s_3 p0_s.C.length c_p0_s_3], .blk b2 27 [.slice A_p1_t_1 p1_t.A.length c_p1_t_1, .slice A_p1_t_2 p1_t.B.length c_p1_t_2, .slice A_p1_t_3 p1_t.C.length c_p1_t_3], .blk b3 27 [.slice none 0 0, .slice none 0 0, .slice none 0 0], .mat none 0 0 23 2 [] ([] : List (List Int)), .row none 0 0 2 1 (ints ([] : List Int)), .row none 0 0 2 1 (ints ([] : List Int))] := hs.addNil 2 1
        obtain rfl := Option.some.inj hm
        refine wpL_ret (ret_cell_tmp rfl hf rfl rfl hs (i := 2) rfl ag27 ti27 rfl ?_)
        exact ⟨_, rfl, none, 0, 0, [], none, 0, 0, none, 0, 0, rfl, rfl, rfl, rfl, hs.sel [3, 4, 5] (by decide)⟩
      · have hm := bif_f hm hb21
        refine wpL_skip ?_
        refine wpL_seq ?_
        refine wpL_region ?_
        refine sY hf hs rfl rfl rfl (Y_fieldAddr rfl rfl fo27_0) ?_; clear hf; intro a hf
        refine sY hf hs rfl rfl rfl (Y_load_blk rfl rfl (i := 0) rfl rfl ag22) ?_; clear hf; intro a hf
        refine sY hf hs rfl rfl rfl (Y_fieldAddr rfl rfl fo27_0) ?_; clear hf; intro a hf
        refine sY hf hs rfl rfl rfl (Y_load_blk rfl rfl (i := 1) rfl rfl ag22) ?_; clear hf; intro a hf
        obtain ⟨r25, hc26, hm⟩ := bind_some hm
        refine sCall hf rfl rfl rfl rfl (cap := []) rfl rfl en88 (impl_blocks_ok F p0_s.A A_p0_s_1 p0_s.A.length c_p0_s_1 rfl p1_t.A A_p1_t_1 p1_t.A.length c_p1_t_1 rfl (fun x0 x1 => impl_ParallelSystem_c1 F x0 x1) 103 [] _ _ hc26 (h_p0_s_1.at hs) (h_p1_t_1.at hs) (fun x0 x1 r w' hm_ hb => impl_ParallelSystem_c1_ok F x0 x1 r w' hm_ ) en103) ?_; clear hf
        rintro _ w ⟨A27, n28, c29, vs31, rfl, hn30, hs1⟩ a hf
        have hs : St [] W w [.blk b1 27 [.slice A_p0_s_1 p0_s.A.length c_p0_s_1, .slice A_p0_s_2 p0_s.B.length c_p0_s_2, .slice A_p0_s_3 p0_s.C.length c_p0_s_3], .blk b2 27 [.slice A_p1_t_1 p1_t.A.length c_p1_t_1, .slice A_p1_t_2 p1_t.B.length c_p1_t_2, .slice A_p1_t_3 p1_t.C.length c_p1_t_3], .blk b3 27 [.slice none 0 0, .slice none 0 0, .slice none 0 0], .mat A27 n28 c29 23 2 vs31 r25] := hs.join hs1
        clear hs1
        refine sY hf hs rfl rfl rfl (Y_assign rfl rfl) ?_; clear hf; intro a hf
        refine wpO_nil ?_
        refine wpL_seq ?_
        obtain ⟨r110, hj111, hm⟩ := bind_some hm
        refine wpL_cut (fun a w => ∃ ms94 : List (List Int), ∃ xs100 : List Int, ∃ xs105 : List Int, ∃ A95, ∃ n96, ∃ c97, ∃ vs99, ∃ A101, ∃ n102, ∃ c103, ∃ A106, ∃ n107, ∃ c108, (ms94, xs100, xs105) = r110 ∧ n96 = ms94.length ∧ n102 = xs100.length ∧ n107 = xs105.length ∧ Fr a 44 [(4, .pointer (some ⟨b3, 0, none⟩)), (5, .int .i64 0)] ∧ St [] W w [.blk b3 27 [.slice A95 n96 c97, .slice A101 n102 c103, .slice A106 n107 c108], .mat A95 n96 c97 23 2 vs99 ms94, .row A101 n102 c103 2 1 (ints xs100), .row A106 n107 c108 2 1 (ints xs105)]) ?_ ?_
        · refine wpL_drawM [.blk b1 27 [.slice A_p0_s_1 p0_s.A.length c_p0_s_1, .slice A_p0_s_2 p0_s.B.length c_p0_s_2, .slice A_p0_s_3 p0_s.C.length c_p0_s_3], .blk b2 27 [.slice A_p1_t_1 p1_t.A.length c_p1_t_1, .slice A_p1_t_2 p1_t.B.length c_p1_t_2, .slice A_p1_t_3 p1_t.C.length c_p1_t_3], .blk b3 27 [.slice none 0 0, .slice none 0 0, .slice none 0 0], .mat A27 n28 c29 23 2 vs31 r25] [12, 14] (by kernel_rfl) hs ?_; clear hs; intro w hs
          have hs0 : St [] W w [.blk b1 27 [.slice A_p0_s_1 p0_s.A.length c_p0_s_1, .slice A_p0_s_2 p0_s.B.length c_p0_s_2, .slice A_p0_s_3 p0_s.C.length c_p0_s_3], .blk b2 27 [.slice A_p1_t_1 p1_t.A.length c_p1_t_1, .slice A_p1_t_2 p1_t.B.length c_p1_t_2, .slice A_p1_t_3 p1_t.C.length c_p1_t_3], .blk b3 27 [.slice none 0 0, .slice none 0 0, .slice none 0 0], .mat A27 n28 c29 23 2 vs31 r25] := hs
          refine mYp (i := 0) rfl (by kernel_rfl) (by kernel_rfl) hf rfl rfl rfl (fun _ => Y_move rfl rfl) ?_; clear hf; intro a hf
          refine mYp (i := 1) rfl (by kernel_rfl) (by kernel_rfl) hf rfl rfl rfl (fun _ => Y_fieldAddr rfl rfl fo27_1) ?_; clear hf; intro a hf
          refine mY (i := 2) [[5, 6], []] rfl (by kernel_rfl) (by kernel_rfl) hf hs0 rfl rfl rfl (Y_load_blk rfl rfl (i := 0) rfl rfl ag23) ?_; clear hf; intro a hf
          refine mYp (i := 3) rfl (by kernel_rfl) (by kernel_rfl) hf rfl rfl rfl (fun _ => Y_fieldAddr rfl rfl fo27_1) ?_; clear hf; intro a hf
          refine mY (i := 4) [[5, 6], []] rfl (by kernel_rfl) (by kernel_rfl) hf hs0 rfl rfl rfl (Y_load_blk rfl rfl (i := 1) rfl rfl ag23) ?_; clear hf; intro a hf
          refine mYp (i := 7) rfl (by kernel_rfl) (by kernel_rfl) hf rfl rfl rfl (fun _ => Y_fieldAddr rfl rfl fo27_2) ?_; clear hf; intro a hf
          refine mY (i := 8) [[11], []] rfl (by kernel_rfl) (by kernel_rfl) hf hs0 rfl rfl rfl (Y_load_blk rfl rfl (i := 0) rfl rfl ag23) ?_; clear hf; intro a hf
          refine mYp (i := 9) rfl (by kernel_rfl) (by kernel_rfl) hf rfl rfl rfl (fun _ => Y_fieldAddr rfl rfl fo27_2) ?_; clear hf; intro a hf
          refine mY (i := 10) [[11], []] rfl (by kernel_rfl) (by kernel_rfl) hf hs0 rfl rfl rfl (Y_load_blk rfl rfl (i := 1) rfl rfl ag23) ?_; clear hf; intro a hf
          refine mRun2 (i := 5) (j := 11) rfl rfl (by kernel_rfl) ?_ ?_
          · refine sBuildSlice (parts := [(0, .tmp 32), (1, .tmp 34)]) (vs := [.slice A_p0_s_2 p0_s.B.length c_p0_s_2, .slice A_p1_t_2 p1_t.B.length c_p1_t_2]) (cells := [.slice A_p0_s_2 p0_s.B.length c_p0_s_2, .slice A_p1_t_2 p1_t.B.length c_p1_t_2]) hf hs rfl rfl rfl rfl rfl el22 ti23 rfl rfl rfl rfl ?_; clear hf hs; intro a w A128 hs hA129 hf
            have hs : St [] W w [.blk b1 27 [.slice A_p0_s_1 p0_s.A.length c_p0_s_1, .slice A_p0_s_2 p0_s.B.length c_p0_s_2, .slice A_p0_s_3 p0_s.C.length c_p0_s_3], .blk b2 27 [.slice A_p1_t_1 p1_t.A.length c_p1_t_1, .slice A_p1_t_2 p1_t.B.length c_p1_t_2, .slice A_p1_t_3 p1_t.C.length c_p1_t_3], .blk b3 27 [.slice none 0 0, .slice none 0 0, .slice none 0 0], .mat A27 n28 c29 23 2 vs31 r25, .row A128 2 2 23 1 [.slice A_p0_s_2 p0_s.B.length c_p0_s_2, .slice A_p1_t_2 p1_t.B.length c_p1_t_2]] := hs
            have hs0 : St [] W w [.blk b1 27 [.slice A_p0_s_1 p0_s.A.length c_p0_s_1, .slice A_p0_s_2 p0_s.B.length c_p0_s_2, .slice A_p0_s_3 p0_s.C.length c_p0_s_3], .blk b2 27 [.slice A_p1_t_1 p1_t.A.length c_p1_t_1, .slice A_p1_t_2 p1_t.B.length c_p1_t_2, .slice A_p1_t_3 p1_t.C.length c_p1_t_3], .blk b3 27 [.slice none 0 0, .slice none 0 0, .slice none 0 0], .mat A27 n28 c29 23 2 vs31 r25] := hs.sel [0, 1, 2, 3] (by decide)
            refine wpO_nil ⟨Or.inr (fun _ => hs0), ?_⟩
            refine mRun2 (i := 6) (j := 11) rfl rfl (by kernel_rfl) ?_ ?_
            · obtain ⟨r130, hc131, hj111⟩ := bind_some hj111
              refine sCall hf rfl rfl rfl rfl (cap := []) rfl rfl en92 (slices_Concat_int64_ok F ([p0_s.B, p1_t.B]) A128 2 2 rfl _ _ hc131 (RdM.two (hs.rd (i := 4) rfl) rfl (h_p0_s_2.at hs) rfl (h_p1_t_2.at hs))) ?_; clear hf
              rintro _ w ⟨A132, n133, c134, rfl, hn135, hs1⟩ a hf
              have hs : St [] W w [.blk b1 27 [.slice A_p0_s_1 p0_s.A.length c_p0_s_1, .slice A_p0_s_2 p0_s.B.length c_p0_s_2, .slice A_p0_s_3 p0_s.C.length c_p0_s_3], .blk b2 27 [.slice A_p1_t_1 p1_t.A.length c_p1_t_1, .slice A_p1_t_2 p1_t.B.length c_p1_t_2, .slice A_p1_t_3 p1_t.C.length c_p1_t_3], .blk b3 27 [.slice none 0 0, .slice none 0 0, .slice none 0 0], .mat A27 n28 c29 23 2 vs31 r25, .row A128 2 2 23 1 [.slice A_p0_s_2 p0_s.B.length c_p0_s_2, .slice A_p1_t_2 p1_t.B.length c_p1_t_2], .row A132 n133 c134 2 1 (ints r130)] := hs.join hs1
              clear hs1
              have hs0 : St [] W w [.blk b1 27 [.slice A_p0_s_1 p0_s.A.length c_p0_s_1, .slice A_p0_s_2 p0_s.B.length c_p0_s_2, .slice A_p0_s_3 p0_s.C.length c_p0_s_3], .blk b2 27 [.slice A_p1_t_1 p1_t.A.length c_p1_t_1, .slice A_p1_t_2 p1_t.B.length c_p1_t_2, .slice A_p1_t_3 p1_t.C.length c_p1_t_3], .blk b3 27 [.slice none 0 0, .slice none 0 0, .slice none 0 0], .mat A27 n28 c29 23 2 vs31 r25] := hs.sel [0, 1, 2, 3] (by decide)
              refine wpO_nil ⟨Or.inr (fun _ => hs0), ?_⟩
              refine mRun (i := 11) rfl (by kernel_rfl) ?_
              refine sBuildSlice (parts := [(0, .tmp 38), (1, .tmp 40)]) (vs := [.slice A_p0_s_3 p0_s.C.length c_p0_s_3, .slice A_p1_t_3 p1_t.C.length c_p1_t_3]) (cells := [.slice A_p0_s_3 p0_s.C.length c_p0_s_3, .slice A_p1_t_3 p1_t.C.length c_p1_t_3]) hf hs rfl rfl rfl rfl rfl el22 ti23 rfl rfl rfl rfl ?_; clear hf hs; intro a w A136 hs hA137 hf
              have hs : St [] W w [.blk b1 27 [.slice A_p0_s_1 p0_s.A.length c_p0_s_1, .slice A_p0_s_2 p0_s.B.length c_p0_s_2, .slice A_p0_s_3 p0_s.C.length c_p0_s_3], .blk b2 27 [.slice A_p1_t_1 p1_t.A.length c_p1_t_1, .slice A_p1_t_2 p1_t.B.length c_p1_t_2, .slice A_p1_t_3 p1_t.C.length c_p1_t_3], .blk b3 27 [.slice none 0 0, .slice none 0 0, .slice none 0 0], .mat A27 n28 c29 23 2 vs31 r25, .row A128 2 2 23 1 [.slice A_p0_s_2 p0_s.B.length c_p0_s_2, .slice A_p1_t_2 p1_t.B.length c_p1_t_2], .row A132 n133 c134 2 1 (ints r130), .row A136 2 2 23 1 [.slice A_p0_s_3 p0_s.C.length c_p0_s_3, .slice A_p1_t_3 p1_t.C.length c_p1_t_3]] := hs
              have hs0 : St [] W w [.blk b1 27 [.slice A_p0_s_1 p0_s.A.length c_p0_s_1, .slice A_p0_s_2 p0_s.B.length c_p0_s_2, .slice A_p0_s_3 p0_s.C.length c_p0_s_3], .blk b2 27 [.slice A_p1_t_1 p1_t.A.length c_p1_t_1, .slice A_p1_t_2 p1_t.B.length c_p1_t_2, .slice A_p1_t_3 p1_t.C.length c_p1_t_3], .blk b3 27 [.slice none 0 0, .slice none 0 0, .slice none 0 0], .mat A27 n28 c29 23 2 vs31 r25] := hs.sel [0, 1, 2, 3] (by decide)
              refine wpO_nil ⟨Or.inr (fun _ => hs0), ?_⟩
              refine mRun (i := 12) rfl (by kernel_rfl) ?_
              obtain ⟨r138, hc139, hj111⟩ := bind_some hj111
              refine sCall hf rfl rfl rfl rfl (cap := []) rfl rfl en92 (slices_Concat_int64_ok F ([p0_s.C, p1_t.C]) A136 2 2 rfl _ _ hc139 (RdM.two (hs.rd (i := 6) rfl) rfl (h_p0_s_3.at hs) rfl (h_p1_t_3.at hs))) ?_; clear hf
              rintro _ w ⟨A140, n141, c142, rfl, hn143, hs1⟩ a hf
              have hs : St [] W w [.blk b1 27 [.slice A_p0_s_1 p0_s.A.length c_p0_s_1, .slice A_p0_s_2 p0_s.B.length c_p0_s_2, .slice A_p0_s_3 p0_s.C.length c_p0_s_3], .blk b2 27 [.slice A_p1_t_1 p1_t.A.length c_p1_t_1, .slice A_p1_t_2 p1_t.B.length c_p1_t_2, .slice A_p1_t_3 p1_t.C.length c_p1_t_3], .blk b3 27 [.slice none 0 0, .slice none 0 0, .slice none 0 0], .mat A27 n28 c29 23 2 vs31 r25, .row A128 2 2 23 1 [.slice A_p0_s_2 p0_s.B.length c_p0_s_2, .slice A_p1_t_2 p1_t.B.length c_p1_t_2], .row A132 n133 c134 2 1 (ints r130), .row A136 2 2 23 1 [.slice A_p0_s_3 p0_s.C.length c_p0_s_3, .slice A_p1_t_3 p1_t.C.length c_p1_t_3], .row A140 n141 c142 2 1 (ints r138)] := hs.join hs1
              clear hs1
              refine wpO_nil ⟨Or.inl (by decide), ?_⟩
              refine mYp (i := 13) rfl (by kernel_rfl) (by kernel_rfl) hf rfl rfl rfl (fun _ => Y_build (parts := [(0, .tmp 30), (1, .tmp 36), (2, .tmp 42)]) (vs := [.slice A27 n28 c29, .slice A132 n133 c134, .slice A140 n141 c142]) rfl rfl (run_build (parts := [(0, .slice A27 n28 c29), (1, .slice A132 n133 c134), (2, .slice A140 n141 c142)]) (cells := [.slice A27 n28 c29, .slice A132 n133 c134, .slice A140 n141 c142]) (places := #[(0, 1), (1, 1), (2, 1)]) ti27 Try.underlying27 (fun w => by simp [go_sem]) rfl)) ?_; clear hf; intro a hf
              refine mRun (i := 14) rfl (by kernel_rfl) ?_
              refine sStore (i := 2) (us := [.slice A27 n28 c29, .slice A132 n133 c134, .slice A140 n141 c142]) hf hs rfl rfl rfl rfl rfl rfl ti27 rfl rfl rfl (Nat.le_of_ble_eq_true rfl) rfl ?_; clear hs; intro w hs
              have hs : St [] W w [.blk b1 27 [.slice A_p0_s_1 p0_s.A.length c_p0_s_1, .slice A_p0_s_2 p0_s.B.length c_p0_s_2, .slice A_p0_s_3 p0_s.C.length c_p0_s_3], .blk b2 27 [.slice A_p1_t_1 p1_t.A.length c_p1_t_1, .slice A_p1_t_2 p1_t.B.length c_p1_t_2, .slice A_p1_t_3 p1_t.C.length c_p1_t_3], .blk b3 27 [.slice A27 n28 c29, .slice A132 n133 c134, .slice A140 n141 c142], .mat A27 n28 c29 23 2 vs31 r25, .row A128 2 2 23 1 [.slice A_p0_s_2 p0_s.B.length c_p0_s_2, .slice A_p1_t_2 p1_t.B.length c_p1_t_2], .row A132 n133 c134 2 1 (ints r130), .row A136 2 2 23 1 [.slice A_p0_s_3 p0_s.C.length c_p0_s_3, .slice A_p1_t_3 p1_t.C.length c_p1_t_3], .row A140 n141 c142 2 1 (ints r138)] := hs
              refine wpO_nil ⟨Or.inl (by decide), ?_⟩
              refine mYp (i := 15) rfl (by kernel_rfl) (by kernel_rfl) hf rfl rfl rfl (fun _ => Y_assign rfl rfl) ?_; clear hf; intro a hf
              refine mDone (by kernel_rfl) ?_
              clear hs0
              refine wpL_nil (then_normal ?_)
              exact ⟨r25, r130, r138, A27, n28, c29, vs31, A132, n133, c134, A140, n141, c142, Option.some.inj hj111, hn30, hn135, hn143, (FrD.pick (FrD.pick hf.none hf rfl) hf rfl), hs.sel [2, 3, 5, 7] (by decide)⟩
            · refine sBuildSlice (parts := [(0, .tmp 38), (1, .tmp 40)]) (vs := [.slice A_p0_s_3 p0_s.C.length c_p0_s_3, .slice A_p1_t_3 p1_t.C.length c_p1_t_3]) (cells := [.slice A_p0_s_3 p0_s.C.length c_p0_s_3, .slice A_p1_t_3 p1_t.C.length c_p1_t_3]) hf hs rfl rfl rfl rfl rfl el22 ti23 rfl rfl rfl rfl ?_; clear hf hs; intro a w A144 hs hA145 hf
              have hs : St [] W w [.blk b1 27 [.slice A_p0_s_1 p0_s.A.length c_p0_s_1, .slice A_p0_s_2 p0_s.B.length c_p0_s_2, .slice A_p0_s_3 p0_s.C.length c_p0_s_3], .blk b2 27 [.slice A_p1_t_1 p1_t.A.length c_p1_t_1, .slice A_p1_t_2 p1_t.B.length c_p1_t_2, .slice A_p1_t_3 p1_t.C.length c_p1_t_3], .blk b3 27 [.slice none 0 0, .slice none 0 0, .slice none 0 0], .mat A27 n28 c29 23 2 vs31 r25, .row A128 2 2 23 1 [.slice A_p0_s_2 p0_s.B.length c_p0_s_2, .slice A_p1_t_2 p1_t.B.length c_p1_t_2], .row A144 2 2 23 1 [.slice A_p0_s_3 p0_s.C.length c_p0_s_3, .slice A_p1_t_3 p1_t.C.length c_p1_t_3]] := hs
              have hs0 : St [] W w [.blk b1 27 [.slice A_p0_s_1 p0_s.A.length c_p0_s_1, .slice A_p0_s_2 p0_s.B.length c_p0_s_2, .slice A_p0_s_3 p0_s.C.length c_p0_s_3], .blk b2 27 [.slice A_p1_t_1 p1_t.A.length c_p1_t_1, .slice A_p1_t_2 p1_t.B.length c_p1_t_2, .slice A_p1_t_3 p1_t.C.length c_p1_t_3], .blk b3 27 [.slice none 0 0, .slice none 0 0, .slice none 0 0], .mat A27 n28 c29 23 2 vs31 r25] := hs.sel [0, 1, 2, 3] (by decide)
              refine wpO_nil ⟨Or.inr (fun _ => hs0), ?_⟩
              refine mRun (i := 6) rfl (by kernel_rfl) ?_
              obtain ⟨r146, hc147, hj111⟩ := bind_some hj111
              refine sCall hf rfl rfl rfl rfl (cap := []) rfl rfl en92 (slices_Concat_int64_ok F ([p0_s.B, p1_t.B]) A128 2 2 rfl _ _ hc147 (RdM.two (hs.rd (i := 4) rfl) rfl (h_p0_s_2.at hs) rfl (h_p1_t_2.at hs))) ?_; clear hf
              rintro _ w ⟨A148, n149, c150, rfl, hn151, hs1⟩ a hf
              have hs : St [] W w [.blk b1 27 [.slice A_p0_s_1 p0_s.A.length c_p0_s_1, .slice A_p0_s_2 p0_s.B.length c_p0_s_2, .slice A_p0_s_3 p0_s.C.length c_p0_s_3], .blk b2 27 [.slice A_p1_t_1 p1_t.A.length c_p1_t_1, .slice A_p1_t_2 p1_t.B.length c_p1_t_2, .slice A_p1_t_3 p1_t.C.length c_p1_t_3], .blk b3 27 [.slice none 0 0, .slice none 0 0, .slice none 0 0], .mat A27 n28 c29 23 2 vs31 r25, .row A128 2 2 23 1 [.slice A_p0_s_2 p0_s.B.length c_p0_s_2, .slice A_p1_t_2 p1_t.B.length c_p1_t_2], .row A144 2 2 23 1 [.slice A_p0_s_3 p0_s.C.length c_p0_s_3, .slice A_p1_t_3 p1_t.C.length c_p1_t_3], .row A148 n149 c150 2 1 (ints r146)] := hs.join hs1
              clear hs1
              have hs0 : St [] W w [.blk b1 27 [.slice A_p0_s_1 p0_s.A.length c_p0_s_1, .slice A_p0_s_2 p0_s.B.length c_p0_s_2, .slice A_p0_s_3 p0_s.C.length c_p0_s_3], .blk b2 27 [.slice A_p1_t_1 p1_t.A.length c_p1_t_1, .slice A_p1_t_2 p1_t.B.length c_p1_t_2, .slice A_p1_t_3 p1_t.C.length c_p1_t_3], .blk b3 27 [.slice none 0 0, .slice none 0 0, .slice none 0 0], .mat A27 n28 c29 23 2 vs31 r25] := hs.sel [0, 1, 2, 3] (by decide)
              refine wpO_nil ⟨Or.inr (fun _ => hs0), ?_⟩
              refine mRun (i := 12) rfl (by kernel_rfl) ?_
              obtain ⟨r152, hc153, hj111⟩ := bind_some hj111
              refine sCall hf rfl rfl rfl rfl (cap := []) rfl rfl en92 (slices_Concat_int64_ok F ([p0_s.C, p1_t.C]) A144 2 2 rfl _ _ hc153 (RdM.two (hs.rd (i := 5) rfl) rfl (h_p0_s_3.at hs) rfl (h_p1_t_3.at hs))) ?_; clear hf
              rintro _ w ⟨A154, n155, c156, rfl, hn157, hs1⟩ a hf
              have hs : St [] W w [.blk b1 27 [.slice A_p0_s_1 p0_s.A.length c_p0_s_1, .slice A_p0_s_2 p0_s.B.length c_p0_s_2, .slice A_p0_s_3 p0_s.C.length c_p0_s_3], .blk b2 27 [.slice A_p1_t_1 p1_t.A.length c_p1_t_1, .slice A_p1_t_2 p1_t.B.length c_p1_t_2, .slice A_p1_t_3 p1_t.C.length c_p1_t_3], .blk b3 27 [.slice none 0 0, .slice none 0 0, .slice none 0 0], .mat A27 n28 c29 23 2 vs31 r25, .row A128 2 2 23 1 [.slice A_p0_s_2 p0_s.B.length c_p0_s_2, .slice A_p1_t_2 p1_t.B.length c_p1_t_2], .row A144 2 2 23 1 [.slice A_p0_s_3 p0_s.C.length c_p0_s_3, .slice A_p1_t_3 p1_t.C.length c_p1_t_3], .row A148 n149 c150 2 1 (ints r146), .row A154 n155 c156 2 1 (ints r152)] := hs.join hs1
              clear hs1
              refine wpO_nil ⟨Or.inl (by decide), ?_⟩
              refine mYp (i := 13) rfl (by kernel_rfl) (by kernel_rfl) hf rfl rfl rfl (fun _ => Y_build (parts := [(0, .tmp 30), (1, .tmp 36), (2, .tmp 42)]) (vs := [.slice A27 n28 c29, .slice A148 n149 c150, .slice A154 n155 c156]) rfl rfl (run_build (parts := [(0, .slice A27 n28 c29), (1, .slice A148 n149 c150), (2, .slice A154 n155 c156)]) (cells := [.slice A27 n28 c29, .slice A148 n149 c150, .slice A154 n155 c156]) (places := #[(0, 1), (1, 1), (2, 1)]) ti27 Try.underlying27 (fun w => by simp [go_sem]) rfl)) ?_; clear hf; intro a hf
              refine mRun (i := 14) rfl (by kernel_rfl) ?_
              refine sStore (i := 2) (us := [.slice A27 n28 c29, .slice A148 n149 c150, .slice A154 n155 c156]) hf hs rfl rfl rfl rfl rfl rfl ti27 rfl rfl rfl (Nat.le_of_ble_eq_true rfl) rfl ?_; clear hs; intro w hs
              have hs : St [] W w [.blk b1 27 [.slice A_p0_s_1 p0_s.A.length c_p0_s_1, .slice A_p0_s_2 p0_s.B.length c_p0_s_2, .slice A_p0_s_3 p0_s.C.length c_p0_s_3], .blk b2 27 [.slice A_p1_t_1 p1_t.A.length c_p1_t_1, .slice A_p1_t_2 p1_t.B.length c_p1_t_2, .slice A_p1_t_3 p1_t.C.length c_p1_t_3], .blk b3 27 [.slice A27 n28 c29, .slice A148 n149 c150, .slice A154 n155 c156], .mat A27 n28 c29 23 2 vs31 r25, .row A128 2 2 23 1 [.slice A_p0_s_2 p0_s.B.length c_p0_s_2, .slice A_p1_t_2 p1_t.B.length c_p1_t_2], .row A144 2 2 23 1 [.slice A_p0_s_3 p0_s.C.length c_p0_s_3, .slice A_p1_t_3 p1_t.C.length c_p1_t_3], .row A148 n149 c150 2 1 (ints r146), .row A154 n155 c156 2 1 (ints r152)] := hs
              refine wpO_nil ⟨Or.inl (by decide), ?_⟩
              refine mYp (i := 15) rfl (by kernel_rfl) (by kernel_rfl) hf rfl rfl rfl (fun _ => Y_assign rfl rfl) ?_; clear hf; intro a hf
              refine mDone (by kernel_rfl) ?_
              clear hs0
              refine wpL_nil (then_normal ?_)
              exact ⟨r25, r146, r152, A27, n28, c29, vs31, A148, n149, c150, A154, n155, c156, Option.some.inj hj111, hn30, hn151, hn157, (FrD.pick (FrD.pick hf.none hf rfl) hf rfl), hs.sel [2, 3, 6, 7] (by decide)⟩
          · refine sBuildSlice (parts := [(0, .tmp 38), (1, .tmp 40)]) (vs := [.slice A_p0_s_3 p0_s.C.length c_p0_s_3, .slice A_p1_t_3 p1_t.C.length c_p1_t_3]) (cells := [.slice A_p0_s_3 p0_s.C.length c_p0_s_3, .slice A_p1_t_3 p1_t.C.length c_p1_t_3]) hf hs rfl rfl rfl rfl rfl el22 ti23 rfl rfl rfl rfl ?_; clear hf hs; intro a w A158 hs hA159 hf
            have hs : St [] W w [.blk b1 27 [.slice A_p0_s_1 p0_s.A.length c_p0_s_1, .slice A_p0_s_2 p0_s.B.length c_p0_s_2, .slice A_p0_s_3 p0_s.C.length c_p0_s_3], .blk b2 27 [.slice A_p1_t_1 p1_t.A.length c_p1_t_1, .slice A_p1_t_2 p1_t.B.length c_p1_t_2, .slice A_p1_t_3 p1_t.C.length c_p1_t_3], .blk b3 27 [.slice none 0 0, .slice none 0 0, .slice none 0 0], .mat A27 n28 c29 23 2 vs31 r25, .row A158 2 2 23 1 [.slice A_p0_s_3 p0_s.C.length c_p0_s_3, .slice A_p1_t_3 p1_t.C.length c_p1_t_3]] := hs
            have hs0 : St [] W w [.blk b1 27 [.slice A_p0_s_1 p0_s.A.length c_p0_s_1, .slice A_p0_s_2 p0_s.B.length c_p0_s_2, .slice A_p0_s_3 p0_s.C.length c_p0_s_3], .blk b2 27 [.slice A_p1_t_1 p1_t.A.length c_p1_t_1, .slice A_p1_t_2 p1_t.B.length c_p1_t_2, .slice A_p1_t_3 p1_t.C.length c_p1_t_3], .blk b3 27 [.slice none 0 0, .slice none 0 0, .slice none 0 0], .mat A27 n28 c29 23 2 vs31 r25] := hs.sel [0, 1, 2, 3] (by decide)
            refine wpO_nil ⟨Or.inr (fun _ => hs0), ?_⟩
            refine mRun (i := 5) rfl (by kernel_rfl) ?_
            refine sBuildSlice (parts := [(0, .tmp 32), (1, .tmp 34)]) (vs := [.slice A_p0_s_2 p0_s.B.length c_p0_s_2, .slice A_p1_t_2 p1_t.B.length c_p1_t_2]) (cells := [.slice A_p0_s_2 p0_s.B.length c_p0_s_2, .slice A_p1_t_2 p1_t.B.length c_p1_t_2]) hf hs rfl rfl rfl rfl rfl el22 ti23 rfl rfl rfl rfl ?_; clear hf hs; intro a w A160 hs hA161 hf
            have hs : St [] W w [.blk b1 27 [.slice A_p0_s_1 p0_s.A.length c_p0_s_1, .slice A_p0_s_2 p0_s.B.length c_p0_s_2, .slice A_p0_s_3 p0_s.C.length c_p0_s_3], .blk b2 27 [.slice A_p1_t_1 p1_t.A.length c_p1_t_1, .slice A_p1_t_2 p1_t.B.length c_p1_t_2, .slice A_p1_t_3 p1_t.C.length c_p1_t_3], .blk b3 27 [.slice none 0 0, .slice none 0 0, .slice none 0 0], .mat A27 n28 c29 23 2 vs31 r25, .row A158 2 2 23 1 [.slice A_p0_s_3 p0_s.C.length c_p0_s_3, .slice A_p1_t_3 p1_t.C.length c_p1_t_3], .row A160 2 2 23 1 [.slice A_p0_s_2 p0_s.B.length c_p0_s_2, .slice A_p1_t_2 p1_t.B.length c_p1_t_2]] := hs
            have hs0 : St [] W w [.blk b1 27 [.slice A_p0_s_1 p0_s.A.length c_p0_s_1, .slice A_p0_s_2 p0_s.B.length c_p0_s_2, .slice A_p0_s_3 p0_s.C.length c_p0_s_3], .blk b2 27 [.slice A_p1_t_1 p1_t.A.length c_p1_t_1, .slice A_p1_t_2 p1_t.B.length c_p1_t_2, .slice A_p1_t_3 p1_t.C.length c_p1_t_3], .blk b3 27 [.slice none 0 0, .slice none 0 0, .slice none 0 0], .mat A27 n28 c29 23 2 vs31 r25] := hs.sel [0, 1, 2, 3] (by decide)
            refine wpO_nil ⟨Or.inr (fun _ => hs0), ?_⟩
            refine mRun (i := 6) rfl (by kernel_rfl) ?_
            obtain ⟨r162, hc163, hj111⟩ := bind_some hj111
            refine sCall hf rfl rfl rfl rfl (cap := []) rfl rfl en92 (slices_Concat_int64_ok F ([p0_s.B, p1_t.B]) A160 2 2 rfl _ _ hc163 (RdM.two (hs.rd (i := 5) rfl) rfl (h_p0_s_2.at hs) rfl (h_p1_t_2.at hs))) ?_; clear hf
            rintro _ w ⟨A164, n165, c166, rfl, hn167, hs1⟩ a hf
            have hs : St [] W w [.blk b1 27 [.slice A_p0_s_1 p0_s.A.length c_p0_s_1, .slice A_p0_s_2 p0_s.B.length c_p0_s_2, .slice A_p0_s_3 p0_s.C.length c_p0_s_3], .blk b2 27 [.slice A_p1_t_1 p1_t.A.length c_p1_t_1, .slice A_p1_t_2 p1_t.B.length c_p1_t_2, .slice A_p1_t_3 p1_t.C.length c_p1_t_3], .blk b3 27 [.slice none 0 0, .slice none 0 0, .slice none 0 0], .mat A27 n28 c29 23 2 vs31 r25, .row A158 2 2 23 1 [.slice A_p0_s_3 p0_s.C.length c_p0_s_3, .slice A_p1_t_3 p1_t.C.length c_p1_t_3], .row A160 2 2 23 1 [.slice A_p0_s_2 p0_s.B.length c_p0_s_2, .slice A_p1_t_2 p1_t.B.length c_p1_t_2], .row A164 n165 c166 2 1 (ints r162)] := hs.join hs1
            clear hs1
            have hs0 : St [] W w [.blk b1 27 [.slice A_p0_s_1 p0_s.A.length c_p0_s_1, .slice A_p0_s_2 p0_s.B.length c_p0_s_2, .slice A_p0_s_3 p0_s.C.length c_p0_s_3], .blk b2 27 [.slice A_p1_t_1 p1_t.A.length c_p1_t_1, .slice A_p1_t_2 p1_t.B.length c_p1_t_2, .slice A_p1_t_3 p1_t.C.length c_p1_t_3], .blk b3 27 [.slice none 0 0, .slice none 0 0, .slice none 0 0], .mat A27 n28 c29 23 2 vs31 r25] := hs.sel [0, 1, 2, 3] (by decide)
            refine wpO_nil ⟨Or.inr (fun _ => hs0), ?_⟩
            refine mRun (i := 12) rfl (by kernel_rfl) ?_
            obtain ⟨r168, hc169, hj111⟩ := bind_some hj111
            refine sCall hf rfl rfl rfl rfl (cap := []) rfl rfl en92 (slices_Concat_int64_ok F ([p0_s.C, p1_t.C]) A158 2 2 rfl _ _ hc169 (RdM.two (hs.rd (i := 4) rfl) rfl (h_p0_s_3.at hs) rfl (h_p1_t_3.at hs))) ?_; clear hf
            rintro _ w ⟨A170, n171, c172, rfl, hn173, hs1⟩ a hf
            have hs : St [] W w [.blk b1 27 [.slice A_p0_s_1 p0_s.A.length c_p0_s_1, .slice A_p0_s_2 p0_s.B.length c_p0_s_2, .slice A_p0_s_3 p0_s.C.length c_p0_s_3], .blk b2 27 [.slice A_p1_t_1 p1_t.A.length c_p1_t_1, .slice A_p1_t_2 p1_t.B.length c_p1_t_2, .slice A_p1_t_3 p1_t.C.length c_p1_t_3], .blk b3 27 [.slice none 0 0, .slice none 0 0, .slice none 0 0], .mat A27 n28 c29 23 2 vs31 r25, .row A158 2 2 23 1 [.slice A_p0_s_3 p0_s.C.length c_p0_s_3, .slice A_p1_t_3 p1_t.C.length c_p1_t_3], .row A160 2 2 23 1 [.slice A_p0_s_2 p0_s.B.length c_p0_s_2, .slice A_p1_t_2 p1_t.B.length c_p1_t_2], .row A164 n165 c166 2 1 (ints r162), .row A170 n171 c172 2 1 (ints r168)] := hs.join hs1
            clear hs1
            refine wpO_nil ⟨Or.inl (by decide), ?_⟩
            refine mYp (i := 13) rfl (by kernel_rfl) (by kernel_rfl) hf rfl rfl rfl (fun _ => Y_build (parts := [(0, .tmp 30), (1, .tmp 36), (2, .tmp 42)]) (vs := [.slice A27 n28 c29, .slice A164 n165 c166, .slice A170 n171 c172]) rfl rfl (run_build (parts := [(0, .slice A27 n28 c29), (1, .slice A164 n165 c166), (2, .slice A170 n171 c172)]) (cells := [.slice A27 n28 c29, .slice A164 n165 c166, .slice A170 n171 c172]) (places := #[(0, 1), (1, 1), (2, 1)]) ti27 Try.underlying27 (fun w => by simp [go_sem]) rfl)) ?_; clear hf; intro a hf
            refine mRun (i := 14) rfl (by kernel_rfl) ?_
            refine sStore (i := 2) (us := [.slice A27 n28 c29, .slice A164 n165 c166, .slice A170 n171 c172]) hf hs rfl rfl rfl rfl rfl rfl ti27 rfl rfl rfl (Nat.le_of_ble_eq_true rfl) rfl ?_; clear hs; intro w hs
            have hs : St [] W w [.blk b1 27 [.slice A_p0_s_1 p0_s.A.length c_p0_s_1, .slice A_p0_s_2 p0_s.B.length c_p0_s_2, .slice A_p0_s_3 p0_s.C.length c_p0_s_3], .blk b2 27 [.slice A_p1_t_1 p1_t.A.length c_p1_t_1, .slice A_p1_t_2 p1_t.B.length c_p1_t_2, .slice A_p1_t_3 p1_t.C.length c_p1_t_3], .blk b3 27 [.slice A27 n28 c29, .slice A164 n165 c166, .slice A170 n171 c172], .mat A27 n28 c29 23 2 vs31 r25, .row A158 2 2 23 1 [.slice A_p0_s_3 p0_s.C.length c_p0_s_3, .slice A_p1_t_3 p1_t.C.length c_p1_t_3], .row A160 2 2 23 1 [.slice A_p0_s_2 p0_s.B.length c_p0_s_2, .slice A_p1_t_2 p1_t.B.length c_p1_t_2], .row A164 n165 c166 2 1 (ints r162), .row A170 n171 c172 2 1 (ints r168)] := hs
            refine wpO_nil ⟨Or.inl (by decide), ?_⟩
            refine mYp (i := 15) rfl (by kernel_rfl) (by kernel_rfl) hf rfl rfl rfl (fun _ => Y_assign rfl rfl) ?_; clear hf; intro a hf
            refine mDone (by kernel_rfl) ?_
            clear hs0
            refine wpL_nil (then_normal ?_)
            exact ⟨r25, r162, r168, A27, n28, c29, vs31, A164, n165, c166, A170, n171, c172, Option.some.inj hj111, hn30, hn167, hn173, (FrD.pick (FrD.pick hf.none hf rfl) hf rfl), hs.sel [2, 3, 6, 7] (by decide)⟩
        · rintro a w ⟨ms94, xs100, xs105, A95, n96, c97, vs99, A101, n102, c103, A106, n107, c108, hr_, hn98, hn104, hn109, hf, hs⟩
          subst hr_
          try dsimp only at hm
          obtain rfl := Option.some.inj hm
          refine wpL_ret (ret_cell_tmp rfl hf rfl rfl hs (i := 0) rfl ag27 ti27 rfl ?_)
          exact ⟨_, rfl, A95, n96, c97, vs99, A101, n102, c103, A106, n107, c108, rfl, hn98, hn104, hn109, hs.sel [1, 2, 3] (by decide)⟩

set_option maxHeartbeats 2000000 in
set_option maxRecDepth 100000 in
theorem spec_ParallelSystem_ok (F : Nat) (p0_s : GSystem) (A_p0_s_1 : Option Addr) (n_p0_s_1 c_p0_s_1 : Nat) (hn_p0_s_1 : n_p0_s_1 = p0_s.A.length) (A_p0_s_2 : Option Addr) (n_p0_s_2 c_p0_s_2 : Nat) (hn_p0_s_2 : n_p0_s_2 = p0_s.B.length) (A_p0_s_3 : Option Addr) (n_p0_s_3 c_p0_s_3 : Nat) (hn_p0_s_3 : n_p0_s_3 = p0_s.C.length) (p1_t : GSystem) (A_p1_t_1 : Option Addr) (n_p1_t_1 c_p1_t_1 : Nat) (hn_p1_t_1 : n_p1_t_1 = p1_t.A.length) (A_p1_t_2 : Option Addr) (n_p1_t_2 c_p1_t_2 : Nat) (hn_p1_t_2 : n_p1_t_2 = p1_t.B.length) (A_p1_t_3 : Option Addr) (n_p1_t_3 c_p1_t_3 : Nat) (hn_p1_t_3 : n_p1_t_3 = p1_t.C.length) (r : GSystem × Int) (W : World) (hm : spec_ParallelSystem F p0_s p1_t = some r) (h_p0_s_1 : RdM W A_p0_s_1 p0_s.A) (h_p0_s_2 : Rd W A_p0_s_2 (ints p0_s.B)) (h_p0_s_3 : Rd W A_p0_s_3 (ints p0_s.C)) (h_p1_t_1 : RdM W A_p1_t_1 p1_t.A) (h_p1_t_2 : Rd W A_p1_t_2 (ints p1_t.B)) (h_p1_t_3 : Rd W A_p1_t_3 (ints p1_t.C)) :
    Calls Try.prog 20 [.agg #[.slice A_p0_s_1 n_p0_s_1 c_p0_s_1, .slice A_p0_s_2 n_p0_s_2 c_p0_s_2, .slice A_p0_s_3 n_p0_s_3 c_p0_s_3], .agg #[.slice A_p1_t_1 n_p1_t_1 c_p1_t_1, .slice A_p1_t_2 n_p1_t_2 c_p1_t_2, .slice A_p1_t_3 n_p1_t_3 c_p1_t_3]].toArray W fun e w' => ∃ v, e = .returned v ∧ ∃ A86, ∃ n87, ∃ c88, ∃ vs90, ∃ A91, ∃ n92, ∃ c93, ∃ A95, ∃ n96, ∃ c97, v = .tuple #[.agg #[.slice A86 n87 c88, .slice A91 n92 c93, .slice A95 n96 c97], .int .i64 r.2] ∧ n87 = r.1.A.length ∧ n92 = r.1.B.length ∧ n96 = r.1.C.length ∧ St [] W w' [.mat A86 n87 c88 23 2 vs90 r.1.A, .row A91 n92 c93 2 1 (ints r.1.B), .row A95 n96 c97 2 1 (ints r.1.C)] := by
  subst hn_p0_s_1
  subst hn_p0_s_2
  subst hn_p0_s_3
  subst hn_p1_t_1
  subst hn_p1_t_2
  subst hn_p1_t_3
  unfold spec_ParallelSystem at hm
  refine Calls.enter (N := 53) Try.func20 rfl rfl rfl (fun a hf => ?_)
  have hs := St.start W
  obtain ⟨w, hw_⟩ : ∃ w, w = W := ⟨W, rfl⟩
  clear hw_ w
  refine wpL_seq ?_
  refine wpL_region ?_
  refine sBox hf hs rfl rfl rfl rfl rfl (cs := [.slice A_p0_s_1 p0_s.A.length c_p0_s_1, .slice A_p0_s_2 p0_s.B.length c_p0_s_2, .slice A_p0_s_3 p0_s.C.length c_p0_s_3]) rfl ?_; clear hf hs; intro a w b1 hs hf
  have hs : St [] W w [.blk b1 27 [.slice A_p0_s_1 p0_s.A.length c_p0_s_1, .slice A_p0_s_2 p0_s.B.length c_p0_s_2, .slice A_p0_s_3 p0_s.C.length c_p0_s_3]] := hs
  refine sBox hf hs rfl rfl rfl rfl rfl (cs := [.slice A_p1_t_1 p1_t.A.length c_p1_t_1, .slice A_p1_t_2 p1_t.B.length c_p1_t_2, .slice A_p1_t_3 p1_t.C.length c_p1_t_3]) rfl ?_; clear hf hs; intro a w b2 hs hf
  have hs : St [] W w [.blk b1 27 [.slice A_p0_s_1 p0_s.A.length c_p0_s_1, .slice A_p0_s_2 p0_s.B.length c_p0_s_2, .slice A_p0_s_3 p0_s.C.length c_p0_s_3], .blk b2 27 [.slice A_p1_t_1 p1_t.A.length c_p1_t_1, .slice A_p1_t_2 p1_t.B.length c_p1_t_2, .slice A_p1_t_3 p1_t.C.length c_p1_t_3]] := hs
  refine sAlloc hf hs rfl rfl rfl rfl ti27 ?_; clear hf hs; intro a w b3 hs hf
  have hs : St [] W w [.blk b1 27 [.slice A_p0_s_1 p0_s.A.length c_p0_s_1, .slice A_p0_s_2 p0_s.B.length c_p0_s_2, .slice A_p0_s_3 p0_s.C.length c_p0_s_3], .blk b2 27 [.slice A_p1_t_1 p1_t.A.length c_p1_t_1, .slice A_p1_t_2 p1_t.B.length c_p1_t_2, .slice A_p1_t_3 p1_t.C.length c_p1_t_3], .blk b3 27 [.slice none 0 0, .slice none 0 0, .slice none 0 0]] := hs
  refine sY hf hs rfl rfl rfl (Y_assign rfl rfl) ?_; clear hf; intro a hf
  refine wpO_nil ?_
  refine wpL_seq ?_
  refine wpL_block0 ?_
  refine wpL_seq ?_
  obtain ⟨r10, hj11, hm⟩ := bind_some hm
  refine wpL_cut (fun a w => ∃ b9 : Bool, b9 = r10 ∧ Fr a 53 [(2, .pointer (some ⟨b1, 0, none⟩)), (3, .pointer (some ⟨b2, 0, none⟩)), (4, .pointer (some ⟨b3, 0, none⟩)), (7, .bool b9)] ∧ St [] W w [.blk b1 27 [.slice A_p0_s_1 p0_s.A.length c_p0_s_1, .slice A_p0_s_2 p0_s.B.length c_p0_s_2, .slice A_p0_s_3 p0_s.C.length c_p0_s_3], .blk b2 27 [.slice A_p1_t_1 p1_t.A.length c_p1_t_1, .slice A_p1_t_2 p1_t.B.length c_p1_t_2, .slice A_p1_t_3 p1_t.C.length c_p1_t_3], .blk b3 27 [.slice none 0 0, .slice none 0 0, .slice none 0 0]]) ?_ ?_
  · refine wpL_region ?_
    refine sY hf hs rfl rfl rfl (Y_load_blkS rfl rfl (i := 0) rfl ag27 ti27 rfl) ?_; clear hf; intro a hf
    obtain ⟨r12, hc13, hj11⟩ := bind_some hj11
    refine sCall hf rfl rfl rfl rfl (cap := []) rfl rfl en32 (spec_IsSystem_ok F p0_s A_p0_s_1 p0_s.A.length c_p0_s_1 rfl A_p0_s_2 p0_s.B.length c_p0_s_2 rfl A_p0_s_3 p0_s.C.length c_p0_s_3 rfl _ _ hc13 (h_p0_s_1.at hs) (h_p0_s_2.at hs) (h_p0_s_3.at hs)) ?_; clear hf
    rintro _ w ⟨rfl, hs1⟩ a hf
    have hs : St [] W w [.blk b1 27 [.slice A_p0_s_1 p0_s.A.length c_p0_s_1, .slice A_p0_s_2 p0_s.B.length c_p0_s_2, .slice A_p0_s_3 p0_s.C.length c_p0_s_3], .blk b2 27 [.slice A_p1_t_1 p1_t.A.length c_p1_t_1, .slice A_p1_t_2 p1_t.B.length c_p1_t_2, .slice A_p1_t_3 p1_t.C.length c_p1_t_3], .blk b3 27 [.slice none 0 0, .slice none 0 0, .slice none 0 0]] := hs.ext hs1.below
    clear hs1
    refine sY hf hs rfl rfl rfl (Y_not rfl rfl) ?_; clear hf; intro a hf
    refine sY hf hs rfl rfl rfl (Y_move rfl rfl) ?_; clear hf; intro a hf
    refine bsplit (!r12) (fun hb14 => ?_) (fun hb14 => ?_)
    · have hj11 := bif_t hj11 hb14
      refine sNo hf rfl rfl rfl (congrArg (fun b => some (Value.bool b)) hb14) rfl rfl rfl ?_; clear hf; intro a hf
      refine sNo hf rfl rfl rfl (congrArg (fun b => some (Value.bool b)) hb14) rfl rfl rfl ?_; clear hf; intro a hf
      refine sNo hf rfl rfl rfl (congrArg (fun b => some (Value.bool b)) hb14) rfl rfl rfl ?_; clear hf; intro a hf
      refine sY hf hs rfl rfl rfl (Y_pickT rfl (congrArg (fun b => some (Value.bool b)) hb14) rfl) ?_; clear hf; intro a hf
      refine sY hf hs rfl rfl rfl (Y_assign rfl rfl) ?_; clear hf; intro a hf
      refine wpO_nil ?_
      refine wpL_nil (then_normal ?_)
      exact ⟨true, Option.some.inj hj11, (FrD.pick (FrD.pick (FrD.pick (FrD.pick hf.none hf rfl) hf rfl) hf rfl) hf rfl), hs⟩
    · have hj11 := bif_f hj11 hb14
      refine sYg hf hs rfl rfl rfl (congrArg (fun b => some (Value.bool b)) hb14) rfl rfl rfl (Y_load_blkS rfl rfl (i := 1) rfl ag27 ti27 rfl) ?_; clear hf; intro a hf
      obtain ⟨r15, hc16, hj11⟩ := bind_some hj11
      refine sCallg hf rfl rfl rfl (congrArg (fun b => some (Value.bool b)) hb14) rfl rfl rfl rfl (cap := []) rfl rfl en32 (spec_IsSystem_ok F p1_t A_p1_t_1 p1_t.A.length c_p1_t_1 rfl A_p1_t_2 p1_t.B.length c_p1_t_2 rfl A_p1_t_3 p1_t.C.length c_p1_t_3 rfl _ _ hc16 (h_p1_t_1.at hs) (h_p1_t_2.at hs) (h_p1_t_3.at hs)) ?_; clear hf
      rintro _ w ⟨rfl, hs1⟩ a hf
      have hs : St [] W w [.blk b1 27 [.slice A_p0_s_1 p0_s.A.length c_p0_s_1, .slice A_p0_s_2 p0_s.B.length c_p0_s_2, .slice A_p0_s_3 p0_s.C.length c_p0_s_3], .blk b2 27 [.slice A_p1_t_1 p1_t.A.length c_p1_t_1, .slice A_p1_t_2 p1_t.B.length c_p1_t_2, .slice A_p1_t_3 p1_t.C.length c_p1_t_3], .blk b3 27 [.slice none 0 0, .slice none 0 0, .slice none 0 0]] := hs.ext hs1.below
      clear hs1
      refine sYg hf hs rfl rfl rfl (congrArg (fun b => some (Value.bool b)) hb14) rfl rfl rfl (Y_not rfl rfl) ?_; clear hf; intro a hf
      refine sY hf hs rfl rfl rfl (Y_pickF rfl (congrArg (fun b => some (Value.bool b)) hb14) rfl) ?_; clear hf; intro a hf
      refine sY hf hs rfl rfl rfl (Y_assign rfl rfl) ?_; clear hf; intro a hf
      refine wpO_nil ?_
      refine wpL_nil (then_normal ?_)
      exact ⟨(!r15), Option.some.inj hj11, (FrD.pick (FrD.pick (FrD.pick (FrD.pick hf.none hf rfl) hf rfl) hf rfl) hf rfl), hs⟩
  · rintro a w ⟨b9, hr_, hf, hs⟩
    subst hr_
    try dsimp only at hm
    refine wpL_cond hf rfl (fun hb17 => ?_) (fun hb17 => ?_)
    · have hm := bif_t hm hb17
      refine wpL_seq ?_
      refine wpL_region ?_
      refine sY hf hs rfl rfl rfl (Y_build (parts := []) (vs := []) rfl rfl (run_build (parts := []) (cells := [.slice none 0 0, .slice none 0 0, .slice none 0 0]) (places := #[(0, 1), (1, 1), (2, 1)]) ti27 Try.underlying27 (fun w => by simp [go_sem]) rfl)) ?_; clear hf; intro a hf
      refine sStore (i := 2) (us := [.slice none 0 0, .slice none 0 0, .slice none 0 0]) hf hs rfl rfl rfl rfl rfl rfl ti27 rfl rfl rfl (Nat.le_of_ble_eq_true rfl) rfl ?_; clear hs; intro w hs
      have hs : St [] W w [.blk b1 27 [.slice A_p0_s_1 p0_s.A.length c_p0_s_1, .slice A_p0_s_2 p0_s.B.length c_p0_s_2, .slice A_p0_s_3 p0_s.C.length c_p0_s_3], .blk b2 27 [.slice A_p1_t_1 p1_t.A.length c_p1_t_1, .slice A_p1_t_2 p1_t.B.length c_p1_t_2, .slice A_p1_t_3 p1_t.C.length c_p1_t_3], .blk b3 27 [.slice none 0 0, .slice none 0 0, .slice none 0 0]] := hs
      refine sY hf hs rfl rfl rfl (Y_assign rfl rfl) ?_; clear hf; intro a hf
      refine wpO_nil ?_
      have hs : St [] W _ [.blk b1 27 [.slice A_p0_s_1 p0_s.A.length c_p0_s_1, .slice A_p0_s_2 p0_s.B.length c_p0_s_2, .slice A_p0_s_3 p0_s.C.length c_p0_s_3], .blk b2 27 [.slice A_p1_t_1 p1_t.A.length c_p1_t_1, .slice A_p1_t_2 p1_t.B.length c_p1_t_2, .slice A_p1_t_3 p1_t.C.length c_p1_t_3], .blk b3 27 [.slice none 0 0, .slice none 0 0, .slice none 0 0], .mat none 0 0 23 2 [] ([] : List (List Int))] := hs.addNilM 23 2
      have hs : St [] W _ [.blk b1 27 [.slice A_p0_s_1 p0_s.A.length c_p0_s_1, .slice A_p0_s_2 p0_s.B.length c_p0_s_2, .slice A_p0_s_3 p0_s.C.length c_p0_s_3], .blk b2 27 [.slice A_p1_t_1 p1_t.A.length c_p1_t_1, .slice A_p1_t_2 p1_t.B.length c_p1_t_2, .slice A_p1_t_3 p1_t.C.length c_p1_t_3], .blk b3 27 [.slice none 0 0, .slice none 0 0, .slice none 0 0], .mat none 0 0 23 2 [] ([] : List (List Int)), .row none 0 0 2 1 (ints ([] : List Int))] := hs.addNil 2 1
      have hs : St [] W _ [.blk b1 27 [.slice A_p0_s_1 p0_s.A.length c_p0_s_1, .slice A_p0_s_2 p0_s.B.length c_p0_s_2, .slice A_p0_s_3 p0_s.C.length c_p0_s_3], .blk b2 27 [.slice A_p1_t_1 p1_t.A.length c_p1_t_1, .slice A_p1_t_2 p1_t.B.length c_p1_t_2, .slice A_p1_t_3 p1_t.C.length c_p1_t_3], .blk b3 27 [.slice none 0 0, .slice none 0 0, .slice none 0 0], .mat none 0 0 23 2 [] ([] : List (List Int)), .row none 0 0 2 1 (ints ([] : List Int)), .row none 0 0 2 1 (ints ([] : List Int))] := hs.addNil 2 1
      obtain rfl := Option.some.inj hm
      refine wpL_ret (Qb_ret (ret_cell_tmp rfl hf rfl rfl hs (i := 2) rfl ag27 ti27 rfl ?_))
      exact ⟨_, rfl, none, 0, 0, [], none, 0, 0, none, 0, 0, rfl, rfl, rfl, rfl, hs.sel [3, 4, 5] (by decide)⟩
    · have hm := bif_f hm hb17
      refine wpL_seq ?_
      refine wpL_region ?_
      refine sY hf hs rfl rfl rfl (Y_fieldAddr rfl rfl fo27_0) ?_; clear hf; intro a hf
      refine sY hf hs rfl rfl rfl (Y_load_blk rfl rfl (i := 0) rfl rfl ag22) ?_; clear hf; intro a hf
      refine sY hf hs rfl rfl rfl (Y_lenH rfl rfl el22 rfl) ?_; clear hf; intro a hf
      refine sY hf hs rfl rfl rfl (Y_fieldAddr rfl rfl fo27_0) ?_; clear hf; intro a hf
      refine sY hf hs rfl rfl rfl (Y_load_blk rfl rfl (i := 1) rfl rfl ag22) ?_; clear hf; intro a hf
      refine sY hf hs rfl rfl rfl (Y_lenH rfl rfl el22 rfl) ?_; clear hf; intro a hf
      refine sY hf hs rfl rfl rfl (Y_add rfl rfl rfl) ?_; clear hf; intro a hf
      refine sY hf hs rfl rfl rfl (Y_gtr rfl rfl rfl) ?_; clear hf; intro a hf
      refine sY hf hs rfl rfl rfl (Y_assign rfl rfl) ?_; clear hf; intro a hf
      refine wpO_nil ?_
      refine wpL_cond hf rfl (fun hb21 => ?_) (fun hb21 => ?_)
      · have hm := bif_t hm hb21
        refine wpL_seq ?_
        refine wpL_region ?_
        refine sY hf hs rfl rfl rfl (Y_build (parts := []) (vs := []) rfl rfl (run_build (parts := []) (cells := [.slice none 0 0, .slice none 0 0, .slice none 0 0]) (places := #[(0, 1), (1, 1), (2, 1)]) ti27 Try.underlying27 (fun w => by simp [go_sem]) rfl)) ?_; clear hf; intro a hf
        refine sStore (i := 2) (us := [.slice none 0 0, .slice none 0 0, .slice none 0 0]) hf hs rfl rfl rfl rfl rfl rfl ti27 rfl rfl rfl (Nat.le_of_ble_eq_true rfl) rfl ?_; clear hs; intro w hs
        have hs : St [] W w [.blk b1 27 [.slice A_p0_s_1 p0_s.A.length c_p0_s_1, .slice A_p0_s_2 p0_s.B.length c_p0_s_2, .slice A_p0_s_3 p0_s.C.length c_p0_s_3], .blk b2 27 [.slice A_p1_t_1 p1_t.A.length c_p1_t_1, .slice A_p1_t_2 p1_t.B.length c_p1_t_2, .slice A_p1_t_3 p1_t.C.length c_p1_t_3], .blk b3 27 [.slice none 0 0, .slice none 0 0, .slice none 0 0]] := hs
        refine sY hf hs rfl rfl rfl (Y_assign rfl rfl) ?_; clear hf; intro a hf
        refine wpO_nil ?_
        have hs : St [] W _ [.blk b1 27 [.slice A_p0_s_1 p0_s.A.length c_p0_s_1, .slice A_p0_s_2 p0_s.B.length c_p0_s_2, .slice A_p0_s_3 p0_s.C.length c_p0_s_3], .blk b2 27 [.slice A_p1_t_1 p1_t.A.length c_p1_t_1, .slice A_p1_t_2 p1_t.B.length c_p1_t_2, .slice A_p1_t_3 p1_t.C.length c_p1_t_3], .blk b3 27 [.slice none 0 0, .slice none 0 0, .slice none 0 0], .mat none 0 0 23 2 [] ([] : List (List Int))] := hs.addNilM 23 2
        have hs : St [] W _ [.blk b1 27 [.slice A_p0_s_1 p0_s.A.length c_p0_s_1, .slice A_p0_s_2 p0_s.B.length c_p0_s_2, .slice A_p0_s_3 p0_s.C.length c_p0_s_3], .blk b2 27 [.slice A_p1_t_1 p1_t.A.length c_p1_t_1, .slice A_p1_t_2 p1_t.B.length c_p1_t_2, .slice A_p1_t_3 p1_t.C.length c_p1_t_3], .blk b3 27 [.slice none 0 0, .slice none 0 0, .slice none 0 0], .mat none 0 0 23 2 [] ([] : List (List Int)), .row none 0 0 2 1 (ints ([] : List Int))] := hs.addNil 2 1
        have hs : St [] W _ [.blk b1 27 [.slice A_p0_s_1 p0_s.A.length c_p0_s_1, .slice A_p0_s_2 p0_s.B.length c_p0_s_2, .slice A_p0_s_3 p0_s.C.length c_p0_s_3], .blk b2 27 [.slice A_p1_t_1 p1_t.A.length c_p1_t_1, .slice A_p1_t_2 p1_t.B.length c_p1_t_2, .slice A_p1_t_3 p1_t.C.length c_p1_t_3], .blk b3 27 [.slice none 0 0, .slice none 0 0, .slice none 0 0], .mat none 0 0 23 2 [] ([] : List (List Int)), .row none 0 0 2 1 (ints ([] : List Int)), .row none 0 0 2 1 (ints ([] : List Int))] := hs.addNil 2 1
        obtain rfl := Option.some.inj hm
        refine wpL_ret (Qb_ret (ret_cell_tmp rfl hf rfl rfl hs (i := 2) rfl ag27 ti27 rfl ?_))
        exact ⟨_, rfl, none, 0, 0, [], none, 0, 0, none, 0, 0, rfl, rfl, rfl, rfl, hs.sel [3, 4, 5] (by decide)⟩
      · have hm := bif_f hm hb21
        refine wpL_skip ?_
        refine wpL_nil (Qb_normal ?_)
        refine wpL_seq ?_
        refine wpL_region ?_
        refine sY hf hs rfl rfl rfl (Y_fieldAddr rfl rfl fo27_0) ?_; clear hf; intro a hf
        refine sY hf hs rfl rfl rfl (Y_load_blk rfl rfl (i := 1) rfl rfl ag22) ?_; clear hf; intro a hf
        refine sY hf hs rfl rfl rfl (Y_lenH rfl rfl el22 rfl) ?_; clear hf; intro a hf
        refine sY hf hs rfl rfl rfl (Y_fieldAddr rfl rfl fo27_0) ?_; clear hf; intro a hf
        refine sY hf hs rfl rfl rfl (Y_load_blk rfl rfl (i := 0) rfl rfl ag22) ?_; clear hf; intro a hf
        refine sY hf hs rfl rfl rfl (Y_lenH rfl rfl el22 rfl) ?_; clear hf; intro a hf
        obtain ⟨r25, hc26, hm⟩ := bind_some hm
        refine sCall hf rfl rfl rfl rfl (cap := []) rfl rfl en74 (spec_l02Bottom_ok F (p1_t.A.length : Int) (p0_s.A.length : Int) _ _ hc26) ?_; clear hf
        rintro _ w ⟨A27, n28, c29, vs31, rfl, hn30, hs1⟩ a hf
        have hs : St [] W w [.blk b1 27 [.slice A_p0_s_1 p0_s.A.length c_p0_s_1, .slice A_p0_s_2 p0_s.B.length c_p0_s_2, .slice A_p0_s_3 p0_s.C.length c_p0_s_3], .blk b2 27 [.slice A_p1_t_1 p1_t.A.length c_p1_t_1, .slice A_p1_t_2 p1_t.B.length c_p1_t_2, .slice A_p1_t_3 p1_t.C.length c_p1_t_3], .blk b3 27 [.slice none 0 0, .slice none 0 0, .slice none 0 0], .mat A27 n28 c29 23 2 vs31 r25] := hs.join hs1
        clear hs1
        refine sY hf hs rfl rfl rfl (Y_assign rfl rfl) ?_; clear hf; intro a hf
        refine wpO_nil ?_
        refine wpL_seq ?_
        refine wpL_drawM [.blk b1 27 [.slice A_p0_s_1 p0_s.A.length c_p0_s_1, .slice A_p0_s_2 p0_s.B.length c_p0_s_2, .slice A_p0_s_3 p0_s.C.length c_p0_s_3], .blk b2 27 [.slice A_p1_t_1 p1_t.A.length c_p1_t_1, .slice A_p1_t_2 p1_t.B.length c_p1_t_2, .slice A_p1_t_3 p1_t.C.length c_p1_t_3], .blk b3 27 [.slice none 0 0, .slice none 0 0, .slice none 0 0], .mat A27 n28 c29 23 2 vs31 r25] [17, 19] (by kernel_rfl) hs ?_; clear hs; intro w hs
        have hs0 : St [] W w [.blk b1 27 [.slice A_p0_s_1 p0_s.A.length c_p0_s_1, .slice A_p0_s_2 p0_s.B.length c_p0_s_2, .slice A_p0_s_3 p0_s.C.length c_p0_s_3], .blk b2 27 [.slice A_p1_t_1 p1_t.A.length c_p1_t_1, .slice A_p1_t_2 p1_t.B.length c_p1_t_2, .slice A_p1_t_3 p1_t.C.length c_p1_t_3], .blk b3 27 [.slice none 0 0, .slice none 0 0, .slice none 0 0], .mat A27 n28 c29 23 2 vs31 r25] := hs
        refine mYp (i := 0) rfl (by kernel_rfl) (by kernel_rfl) hf rfl rfl rfl (fun _ => Y_fieldAddr rfl rfl fo27_0) ?_; clear hf; intro a hf
        refine mY (i := 1) [[5, 8, 11, 14], []] rfl (by kernel_rfl) (by kernel_rfl) hf hs0 rfl rfl rfl (Y_load_blk rfl rfl (i := 0) rfl rfl ag22) ?_; clear hf; intro a hf
        refine mYp (i := 2) rfl (by kernel_rfl) (by kernel_rfl) hf rfl rfl rfl (fun _ => Y_fieldAddr rfl rfl fo27_0) ?_; clear hf; intro a hf
        refine mY (i := 3) [[5, 8, 11, 14], []] rfl (by kernel_rfl) (by kernel_rfl) hf hs0 rfl rfl rfl (Y_load_blk rfl rfl (i := 1) rfl rfl ag22) ?_; clear hf; intro a hf
        refine mYp (i := 4) rfl (by kernel_rfl) (by kernel_rfl) hf rfl rfl rfl (fun _ => Y_move rfl rfl) ?_; clear hf; intro a hf
        refine mYp (i := 6) rfl (by kernel_rfl) (by kernel_rfl) hf rfl rfl rfl (fun _ => Y_fieldAddr rfl rfl fo27_1) ?_; clear hf; intro a hf
        refine mY (i := 7) [[8, 11, 14], []] rfl (by kernel_rfl) (by kernel_rfl) hf hs0 rfl rfl rfl (Y_load_blk rfl rfl (i := 0) rfl rfl ag23) ?_; clear hf; intro a hf
        refine mYp (i := 9) rfl (by kernel_rfl) (by kernel_rfl) hf rfl rfl rfl (fun _ => Y_fieldAddr rfl rfl fo27_1) ?_; clear hf; intro a hf
        refine mY (i := 10) [[11, 14], []] rfl (by kernel_rfl) (by kernel_rfl) hf hs0 rfl rfl rfl (Y_load_blk rfl rfl (i := 1) rfl rfl ag23) ?_; clear hf; intro a hf
        refine mYp (i := 12) rfl (by kernel_rfl) (by kernel_rfl) hf rfl rfl rfl (fun _ => Y_fieldAddr rfl rfl fo27_2) ?_; clear hf; intro a hf
        refine mY (i := 13) [[14], []] rfl (by kernel_rfl) (by kernel_rfl) hf hs0 rfl rfl rfl (Y_load_blk rfl rfl (i := 0) rfl rfl ag23) ?_; clear hf; intro a hf
        refine mYp (i := 15) rfl (by kernel_rfl) (by kernel_rfl) hf rfl rfl rfl (fun _ => Y_fieldAddr rfl rfl fo27_2) ?_; clear hf; intro a hf
        refine mY (i := 16) [[], []] rfl (by kernel_rfl) (by kernel_rfl) hf hs0 rfl rfl rfl (Y_load_blk rfl rfl (i := 1) rfl rfl ag23) ?_; clear hf; intro a hf
        refine mRun (i := 5) rfl (by kernel_rfl) ?_
        obtain ⟨r59, hc60, hm⟩ := bind_some hm
        refine sCall hf rfl rfl rfl rfl (cap := []) rfl rfl en79 (spec_l24Stack_ok F p0_s.A A_p0_s_1 p0_s.A.length c_p0_s_1 rfl p1_t.A A_p1_t_1 p1_t.A.length c_p1_t_1 rfl r25 A27 n28 c29 hn30 _ _ hc60 (h_p0_s_1.at hs) (h_p1_t_1.at hs) (hs.rdM (i := 3) rfl)) ?_; clear hf
        rintro _ w ⟨A61, n62, c63, vs65, rfl, hn64, hs1⟩ a hf
        have hs : St [] W w [.blk b1 27 [.slice A_p0_s_1 p0_s.A.length c_p0_s_1, .slice A_p0_s_2 p0_s.B.length c_p0_s_2, .slice A_p0_s_3 p0_s.C.length c_p0_s_3], .blk b2 27 [.slice A_p1_t_1 p1_t.A.length c_p1_t_1, .slice A_p1_t_2 p1_t.B.length c_p1_t_2, .slice A_p1_t_3 p1_t.C.length c_p1_t_3], .blk b3 27 [.slice none 0 0, .slice none 0 0, .slice none 0 0], .mat A27 n28 c29 23 2 vs31 r25, .mat A61 n62 c63 23 2 vs65 r59] := hs.join hs1
        clear hs1
        have hs0 : St [] W w [.blk b1 27 [.slice A_p0_s_1 p0_s.A.length c_p0_s_1, .slice A_p0_s_2 p0_s.B.length c_p0_s_2, .slice A_p0_s_3 p0_s.C.length c_p0_s_3], .blk b2 27 [.slice A_p1_t_1 p1_t.A.length c_p1_t_1, .slice A_p1_t_2 p1_t.B.length c_p1_t_2, .slice A_p1_t_3 p1_t.C.length c_p1_t_3], .blk b3 27 [.slice none 0 0, .slice none 0 0, .slice none 0 0], .mat A27 n28 c29 23 2 vs31 r25] := hs.sel [0, 1, 2, 3] (by decide)
        refine wpO_nil ⟨Or.inr (fun _ => hs0), ?_⟩
        refine mRun (i := 8) rfl (by kernel_rfl) ?_
        obtain ⟨r66, hc67, hm⟩ := bind_some hm
        refine sCall hf rfl rfl rfl rfl (cap := []) rfl rfl en80 (spec_l01Own_ok F p0_s.B A_p0_s_2 p0_s.B.length c_p0_s_2 rfl _ _ hc67 (h_p0_s_2.at hs)) ?_; clear hf
        rintro _ w ⟨A68, n69, c70, rfl, hn71, hs1⟩ a hf
        have hs : St [] W w [.blk b1 27 [.slice A_p0_s_1 p0_s.A.length c_p0_s_1, .slice A_p0_s_2 p0_s.B.length c_p0_s_2, .slice A_p0_s_3 p0_s.C.length c_p0_s_3], .blk b2 27 [.slice A_p1_t_1 p1_t.A.length c_p1_t_1, .slice A_p1_t_2 p1_t.B.length c_p1_t_2, .slice A_p1_t_3 p1_t.C.length c_p1_t_3], .blk b3 27 [.slice none 0 0, .slice none 0 0, .slice none 0 0], .mat A27 n28 c29 23 2 vs31 r25, .mat A61 n62 c63 23 2 vs65 r59, .row A68 n69 c70 2 1 (ints r66)] := hs.join hs1
        clear hs1
        have hs0 : St [] W w [.blk b1 27 [.slice A_p0_s_1 p0_s.A.length c_p0_s_1, .slice A_p0_s_2 p0_s.B.length c_p0_s_2, .slice A_p0_s_3 p0_s.C.length c_p0_s_3], .blk b2 27 [.slice A_p1_t_1 p1_t.A.length c_p1_t_1, .slice A_p1_t_2 p1_t.B.length c_p1_t_2, .slice A_p1_t_3 p1_t.C.length c_p1_t_3], .blk b3 27 [.slice none 0 0, .slice none 0 0, .slice none 0 0], .mat A27 n28 c29 23 2 vs31 r25] := hs.sel [0, 1, 2, 3] (by decide)
        refine wpO_nil ⟨Or.inr (fun _ => hs0), ?_⟩
        refine mRun (i := 11) rfl (by kernel_rfl) ?_
        obtain ⟨xs74, ha75, hm⟩ := bind_some hm
        refine sAppendG (i := 5) (xs := r66) (ys := p1_t.B) (enc := ints) hf hs rfl rfl rfl rfl rfl rfl hn71 rfl rfl ha75 el23 ti2 rfl rfl rfl (h_p1_t_2.at hs) ints_len1 ints_append ints_one ?_; clear hf hs; intro a w A72 c73 hs hf
        have hs : St [] W w [.blk b1 27 [.slice A_p0_s_1 p0_s.A.length c_p0_s_1, .slice A_p0_s_2 p0_s.B.length c_p0_s_2, .slice A_p0_s_3 p0_s.C.length c_p0_s_3], .blk b2 27 [.slice A_p1_t_1 p1_t.A.length c_p1_t_1, .slice A_p1_t_2 p1_t.B.length c_p1_t_2, .slice A_p1_t_3 p1_t.C.length c_p1_t_3], .blk b3 27 [.slice none 0 0, .slice none 0 0, .slice none 0 0], .mat A27 n28 c29 23 2 vs31 r25, .mat A61 n62 c63 23 2 vs65 r59, .row A72 xs74.length c73 2 1 (ints xs74)] := hs
        have hs0 : St [] W w [.blk b1 27 [.slice A_p0_s_1 p0_s.A.length c_p0_s_1, .slice A_p0_s_2 p0_s.B.length c_p0_s_2, .slice A_p0_s_3 p0_s.C.length c_p0_s_3], .blk b2 27 [.slice A_p1_t_1 p1_t.A.length c_p1_t_1, .slice A_p1_t_2 p1_t.B.length c_p1_t_2, .slice A_p1_t_3 p1_t.C.length c_p1_t_3], .blk b3 27 [.slice none 0 0, .slice none 0 0, .slice none 0 0], .mat A27 n28 c29 23 2 vs31 r25] := hs.sel [0, 1, 2, 3] (by decide)
        refine wpO_nil ⟨Or.inr (fun _ => hs0), ?_⟩
        refine mRun (i := 14) rfl (by kernel_rfl) ?_
        obtain ⟨r76, hc77, hm⟩ := bind_some hm
        refine sCall hf rfl rfl rfl rfl (cap := []) rfl rfl en80 (spec_l01Own_ok F p0_s.C A_p0_s_3 p0_s.C.length c_p0_s_3 rfl _ _ hc77 (h_p0_s_3.at hs)) ?_; clear hf
        rintro _ w ⟨A78, n79, c80, rfl, hn81, hs1⟩ a hf
        have hs : St [] W w [.blk b1 27 [.slice A_p0_s_1 p0_s.A.length c_p0_s_1, .slice A_p0_s_2 p0_s.B.length c_p0_s_2, .slice A_p0_s_3 p0_s.C.length c_p0_s_3], .blk b2 27 [.slice A_p1_t_1 p1_t.A.length c_p1_t_1, .slice A_p1_t_2 p1_t.B.length c_p1_t_2, .slice A_p1_t_3 p1_t.C.length c_p1_t_3], .blk b3 27 [.slice none 0 0, .slice none 0 0, .slice none 0 0], .mat A27 n28 c29 23 2 vs31 r25, .mat A61 n62 c63 23 2 vs65 r59, .row A72 xs74.length c73 2 1 (ints xs74), .row A78 n79 c80 2 1 (ints r76)] := hs.join hs1
        clear hs1
        have hs0 : St [] W w [.blk b1 27 [.slice A_p0_s_1 p0_s.A.length c_p0_s_1, .slice A_p0_s_2 p0_s.B.length c_p0_s_2, .slice A_p0_s_3 p0_s.C.length c_p0_s_3], .blk b2 27 [.slice A_p1_t_1 p1_t.A.length c_p1_t_1, .slice A_p1_t_2 p1_t.B.length c_p1_t_2, .slice A_p1_t_3 p1_t.C.length c_p1_t_3], .blk b3 27 [.slice none 0 0, .slice none 0 0, .slice none 0 0], .mat A27 n28 c29 23 2 vs31 r25] := hs.sel [0, 1, 2, 3] (by decide)
        refine wpO_nil ⟨Or.inr (fun _ => hs0), ?_⟩
        refine mRun (i := 17) rfl (by kernel_rfl) ?_
        obtain ⟨xs84, ha85, hm⟩ := bind_some hm
        refine sAppendG (i := 6) (xs := r76) (ys := p1_t.C) (enc := ints) hf hs rfl rfl rfl rfl rfl rfl hn81 rfl rfl ha85 el23 ti2 rfl rfl rfl (h_p1_t_3.at hs) ints_len1 ints_append ints_one ?_; clear hf hs; intro a w A82 c83 hs hf
        have hs : St [] W w [.blk b1 27 [.slice A_p0_s_1 p0_s.A.length c_p0_s_1, .slice A_p0_s_2 p0_s.B.length c_p0_s_2, .slice A_p0_s_3 p0_s.C.length c_p0_s_3], .blk b2 27 [.slice A_p1_t_1 p1_t.A.length c_p1_t_1, .slice A_p1_t_2 p1_t.B.length c_p1_t_2, .slice A_p1_t_3 p1_t.C.length c_p1_t_3], .blk b3 27 [.slice none 0 0, .slice none 0 0, .slice none 0 0], .mat A27 n28 c29 23 2 vs31 r25, .mat A61 n62 c63 23 2 vs65 r59, .row A72 xs74.length c73 2 1 (ints xs74), .row A82 xs84.length c83 2 1 (ints xs84)] := hs
        refine wpO_nil ⟨Or.inl (by decide), ?_⟩
        refine mYp (i := 18) rfl (by kernel_rfl) (by kernel_rfl) hf rfl rfl rfl (fun _ => Y_build (parts := [(0, .tmp 39), (1, .tmp 45), (2, .tmp 51)]) (vs := [.slice A61 n62 c63, .slice A72 xs74.length c73, .slice A82 xs84.length c83]) rfl rfl (run_build (parts := [(0, .slice A61 n62 c63), (1, .slice A72 xs74.length c73), (2, .slice A82 xs84.length c83)]) (cells := [.slice A61 n62 c63, .slice A72 xs74.length c73, .slice A82 xs84.length c83]) (places := #[(0, 1), (1, 1), (2, 1)]) ti27 Try.underlying27 (fun w => by simp [go_sem]) rfl)) ?_; clear hf; intro a hf
        refine mRun (i := 19) rfl (by kernel_rfl) ?_
        refine sStore (i := 2) (us := [.slice A61 n62 c63, .slice A72 xs74.length c73, .slice A82 xs84.length c83]) hf hs rfl rfl rfl rfl rfl rfl ti27 rfl rfl rfl (Nat.le_of_ble_eq_true rfl) rfl ?_; clear hs; intro w hs
        have hs : St [] W w [.blk b1 27 [.slice A_p0_s_1 p0_s.A.length c_p0_s_1, .slice A_p0_s_2 p0_s.B.length c_p0_s_2, .slice A_p0_s_3 p0_s.C.length c_p0_s_3], .blk b2 27 [.slice A_p1_t_1 p1_t.A.length c_p1_t_1, .slice A_p1_t_2 p1_t.B.length c_p1_t_2, .slice A_p1_t_3 p1_t.C.length c_p1_t_3], .blk b3 27 [.slice A61 n62 c63, .slice A72 xs74.length c73, .slice A82 xs84.length c83], .mat A27 n28 c29 23 2 vs31 r25, .mat A61 n62 c63 23 2 vs65 r59, .row A72 xs74.length c73 2 1 (ints xs74), .row A82 xs84.length c83 2 1 (ints xs84)] := hs
        refine wpO_nil ⟨Or.inl (by decide), ?_⟩
        refine mYp (i := 20) rfl (by kernel_rfl) (by kernel_rfl) hf rfl rfl rfl (fun _ => Y_assign rfl rfl) ?_; clear hf; intro a hf
        refine mDone (by kernel_rfl) ?_
        clear hs0
        obtain rfl := Option.some.inj hm
        refine wpL_ret (ret_cell_tmp rfl hf rfl rfl hs (i := 2) rfl ag27 ti27 rfl ?_)
        exact ⟨_, rfl, A61, n62, c63, vs65, A72, xs74.length, c73, A82, xs84.length, c83, rfl, hn64, rfl, rfl, hs.sel [4, 5, 6] (by decide)⟩

end Go.Proofs.Ytgkgimglgjfcjaa
