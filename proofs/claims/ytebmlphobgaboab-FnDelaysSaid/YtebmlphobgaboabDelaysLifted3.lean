/- The functions do what their models say. -/
import Derived.Test.YtebmlphobgaboabDelaysLifted2
import Derived.Test.YtebmlphobgaboabRows
namespace Go.Proofs.Ytebmlphobgaboab
open Go.RowKit

set_option maxRecDepth 100000 in
theorem spec_l02Multiply_ok (F : Nat) (p0 : List (List Int)) (au : Option Addr) (aX aw : Nat) (bY : aX = p0.length) (p1 : List (List Int)) (aA : Option Addr) (aS aC : Nat) (cg : aS = p1.length) (r : List (List Int)) (W : World) (hm : spec_l02Multiply F p0 p1 = some r) (aZ : RdM W au p0) (bk : RdM W aA p1) :
  Calls Try.prog 86 [.slice au aX aw, .slice aA aS aC].toArray W fun e w' => ∃ v, e = .returned v ∧ ∃ A6129, ∃ n6130, ∃ c6131, ∃ vs6133, v = .slice A6129 n6130 c6131 ∧ n6130 = r.length ∧ St [] W w' [.mat A6129 n6130 c6131 28 2 vs6133 r] := by
 subst bY
 subst cg
 unfold spec_l02Multiply at hm
 refine Calls.enter (N := 66) Try.func86 rfl rfl rfl (fun a hf => ?_)
 have hs := St.start W
 obtain ⟨w, hw_⟩ : ∃ w, w = W := ⟨W, rfl⟩
 clear hw_ w
 refine wpL_seq <| wpL_region ?_
 refine sY hf hs rfl rfl rfl (Y_assign rfl rfl) ?_; clear hf; intro a hf
 refine wpO_nil <| wpL_seq <| wpL_region ?_
 refine sY hf hs rfl rfl rfl (Y_move rfl rfl) ?_; clear hf; intro a hf
 refine sY hf hs rfl rfl rfl (Y_lenH rfl rfl el40 rfl) ?_; clear hf; intro a hf
 refine sY hf hs rfl rfl rfl (Y_move rfl rfl) ?_; clear hf; intro a hf
 obtain ⟨q1, hi2, hm⟩ := bind_some hm
 obtain ⟨hi2a, hi2b, hi2q⟩ := idx_some hi2
 obtain ⟨vs3, hv4, hr5⟩ := id bk
 obtain ⟨A6, c7, hv8, hR9⟩ := hr5 _ _ hi2q
 refine sY hf hs rfl rfl rfl (Y_index rfl rfl rfl el40 ti28 (Rd.isAt hv4 hv8) hi2a hi2b) ?_; clear hf; intro a hf
 refine sY hf hs rfl rfl rfl (Y_load_rd rfl rfl (fun w hs => hv4.at hs) (at1 hv8) ag28) ?_; clear hf; intro a hf
 refine sY hf hs rfl rfl rfl (Y_lenH rfl rfl el28 rfl) ?_; clear hf; intro a hf
 obtain ⟨r10, hc11, hm⟩ := bind_some hm
 refine sCall hf rfl rfl rfl rfl (cap := []) rfl rfl en154 (spec_l02Bottom_ok F (p0.length : Int) (q1.length : Int) _ _ hc11) ?_; clear hf
 rintro _ w ⟨A12, n13, c14, vs16, rfl, hn15, hs1⟩ a hf
 have hs : St _ W w [.mat A12 n13 c14 28 2 vs16 r10] := hs.join hs1
 clear hs1
 refine sY hf hs rfl rfl rfl (Y_assign rfl rfl) ?_; clear hf; intro a hf
 refine wpO_nil <| wpL_seq <| wpL_seq <| wpL_region ?_
 refine sY hf hs rfl rfl rfl (Y_assign rfl rfl) ?_; clear hf; intro a hf
 refine wpO_nil ?_
 obtain ⟨r4600, hl4601, hm⟩ := bind_some hm
 refine wpL_block (fun a w => ∃ ms4598 : List (List Int), ms4598 = r4600 ∧ n13 = ms4598.length ∧ Fr a 66 [(5, .slice A12 n13 c14)] ∧ St [] W w [.mat A12 n13 c14 28 2 vs16 ms4598]) ?_ ?_
 ·refine wpL_loop (fun n a w => ∃ ms3070 : List (List Int), ∃ x3072 : Int, spec_l02Multiply_L16 F p0 p1 n ms3070 x3072 = some r4600 ∧ n13 = ms3070.length ∧ Fr a 66 [(0, .slice au p0.length aw), (1, .slice aA p1.length aC), (5, .slice A12 n13 c14), (6, .int .i64 x3072)] ∧ St [] W w [.mat A12 n13 c14 28 2 vs16 ms3070]) F ?_ ?_ ?_
  ·exact ⟨r10, 0, hl4601, hn15, (FrD.pick (FrD.pick (FrD.pick (FrD.pick hf.none hf rfl) hf rfl) hf rfl) hf rfl), hs⟩
  ·rintro a w ⟨ms3070, x3072, h0_, -, -, -⟩; simp [spec_l02Multiply_L16] at h0_
  ·rintro n4603 a w ⟨ms3070, x3072, hm4602, hn3071, hf, hs⟩
   rw [spec_l02Multiply_L16] at hm4602
   refine wpL_seq <| wpL_seq <| wpL_region ?_
   refine sY hf hs rfl rfl rfl (Y_move rfl rfl) ?_; clear hf; intro a hf
   refine sY hf hs rfl rfl rfl (Y_move rfl rfl) ?_; clear hf; intro a hf
   refine sY hf hs rfl rfl rfl (Y_lenH rfl rfl el40 rfl) ?_; clear hf; intro a hf
   refine sY hf hs rfl rfl rfl (Y_lss rfl rfl rfl) ?_; clear hf; intro a hf
   refine wpO_nil ?_
   refine wpL_cond hf rfl (fun hb4604 => ?_) (fun hb4604 => ?_)
   ·have hm4602 := bif_t hm4602 hb4604
    refine wpL_skip <| wpL_seq <| wpL_block0 <| wpL_seq <| wpL_region ?_
    refine sY hf hs rfl rfl rfl (Y_assign rfl rfl) ?_; clear hf; intro a hf
    refine wpO_nil ?_
    obtain ⟨r5747, hl5748, hm4602⟩ := bind_some hm4602
    refine wpL_block (fun a w => ∃ ms5745 : List (List Int), ms5745 = r5747 ∧ n13 = ms5745.length ∧ Fr a 66 [(0, .slice au p0.length aw), (1, .slice aA p1.length aC), (5, .slice A12 n13 c14), (6, .int .i64 x3072)] ∧ St [] W w [.mat A12 n13 c14 28 2 vs16 ms5745]) ?_ ?_
    ·refine wpL_loop (fun n a w => ∃ ms5364 : List (List Int), ∃ x5366 : Int, spec_l02Multiply_L20 F p0 p1 x3072 n ms5364 x5366 = some r5747 ∧ n13 = ms5364.length ∧ Fr a 66 [(0, .slice au p0.length aw), (1, .slice aA p1.length aC), (5, .slice A12 n13 c14), (6, .int .i64 x3072), (7, .int .i64 x5366)] ∧ St [] W w [.mat A12 n13 c14 28 2 vs16 ms5364]) F ?_ ?_ ?_
     ·exact ⟨ms3070, 0, hl5748, hn3071, (FrD.pick (FrD.pick (FrD.pick (FrD.pick (FrD.pick hf.none hf rfl) hf rfl) hf rfl) hf rfl) hf rfl), hs⟩
     ·rintro a w ⟨ms5364, x5366, h0_, -, -, -⟩; simp [spec_l02Multiply_L20] at h0_
     ·rintro n5750 a w ⟨ms5364, x5366, hm5749, hn5365, hf, hs⟩
      rw [spec_l02Multiply_L20] at hm5749
      refine wpL_seq <| wpL_seq <| wpL_region ?_
      refine sY hf hs rfl rfl rfl (Y_move rfl rfl) ?_; clear hf; intro a hf
      refine sY hf hs rfl rfl rfl (Y_move rfl rfl) ?_; clear hf; intro a hf
      obtain ⟨q5751, hi5752, hm5749⟩ := bind_some hm5749
      obtain ⟨hi5752a, hi5752b, hi5752q⟩ := idx_some hi5752
      obtain ⟨vs5753, hv5754, hr5755⟩ := id bk
      obtain ⟨A5756, c5757, hv5758, hR5759⟩ := hr5755 _ _ hi5752q
      refine sY hf hs rfl rfl rfl (Y_index rfl rfl rfl el40 ti28 (Rd.isAt hv5754 hv5758) hi5752a hi5752b) ?_; clear hf; intro a hf
      refine sY hf hs rfl rfl rfl (Y_load_rd rfl rfl (fun w hs => hv5754.at hs) (at1 hv5758) ag28) ?_; clear hf; intro a hf
      refine sY hf hs rfl rfl rfl (Y_lenH rfl rfl el28 rfl) ?_; clear hf; intro a hf
      refine sY hf hs rfl rfl rfl (Y_lss rfl rfl rfl) ?_; clear hf; intro a hf
      refine wpO_nil ?_
      refine wpL_cond hf rfl (fun hb5760 => ?_) (fun hb5760 => ?_)
      ·have hm5749 := bif_t hm5749 hb5760
       refine wpL_skip <| wpL_seq <| wpL_block0 <| wpL_seq <| wpL_region ?_
       refine sY hf hs rfl rfl rfl (Y_assign rfl rfl) ?_; clear hf; intro a hf
       refine wpO_nil ?_
       obtain ⟨r6036, hl6037, hm5749⟩ := bind_some hm5749
       refine wpL_block (fun a w => ∃ ms6034 : List (List Int), ms6034 = r6036 ∧ n13 = ms6034.length ∧ Fr a 66 [(0, .slice au p0.length aw), (1, .slice aA p1.length aC), (5, .slice A12 n13 c14), (6, .int .i64 x3072), (7, .int .i64 x5366)] ∧ St [] W w [.mat A12 n13 c14 28 2 vs16 ms6034]) ?_ ?_
       ·refine wpL_loop (fun n a w => ∃ ms5942 : List (List Int), ∃ x5944 : Int, spec_l02Multiply_L21 F p0 p1 x3072 x5366 n ms5942 x5944 = some r6036 ∧ n13 = ms5942.length ∧ Fr a 66 [(0, .slice au p0.length aw), (1, .slice aA p1.length aC), (5, .slice A12 n13 c14), (6, .int .i64 x3072), (7, .int .i64 x5366), (8, .int .i64 x5944)] ∧ St [] W w [.mat A12 n13 c14 28 2 vs16 ms5942]) F ?_ ?_ ?_
        ·exact ⟨ms5364, 0, hl6037, hn5365, (FrD.pick (FrD.pick (FrD.pick (FrD.pick (FrD.pick (FrD.pick hf.none hf rfl) hf rfl) hf rfl) hf rfl) hf rfl) hf rfl), hs⟩
        ·rintro a w ⟨ms5942, x5944, h0_, -, -, -⟩; simp [spec_l02Multiply_L21] at h0_
        ·rintro n6039 a w ⟨ms5942, x5944, hm6038, hn5943, hf, hs⟩
         rw [spec_l02Multiply_L21] at hm6038
         refine wpL_seq <| wpL_seq <| wpL_region ?_
         refine sY hf hs rfl rfl rfl (Y_move rfl rfl) ?_; clear hf; intro a hf
         refine sY hf hs rfl rfl rfl (Y_move rfl rfl) ?_; clear hf; intro a hf
         refine sY hf hs rfl rfl rfl (Y_lenH rfl rfl el40 rfl) ?_; clear hf; intro a hf
         refine sY hf hs rfl rfl rfl (Y_lss rfl rfl rfl) ?_; clear hf; intro a hf
         refine wpO_nil ?_
         refine wpL_cond hf rfl (fun hb6040 => ?_) (fun hb6040 => ?_)
         ·have hm6038 := bif_t hm6038 hb6040
          refine wpL_skip <| wpL_seq <| wpL_block0 ?_
          refine wpL_drawM [.mat A12 n13 c14 28 2 vs16 ms5942] [29] (by kernel_rfl) hs ?_; clear hs; intro w hs
          have hs0 : St _ W w [_] := hs
          refine mYp (i := 0) rfl (by kernel_rfl) (by kernel_rfl) hf rfl rfl rfl (fun _ => Y_move rfl rfl) ?_; clear hf; intro a hf
          refine mYp (i := 1) rfl (by kernel_rfl) (by kernel_rfl) hf rfl rfl rfl (fun _ => Y_move rfl rfl) ?_; clear hf; intro a hf
          obtain ⟨q6085, hi6086, hm6038⟩ := bind_some hm6038
          obtain ⟨hi6086a, hi6086b, hi6086q⟩ := idx_some hi6086
          obtain ⟨A6087, c6088, hv6089⟩ := hs.matRow (i := 0) rfl hi6086q
          refine mYp (i := 2) rfl (by kernel_rfl) (by kernel_rfl) hf rfl rfl rfl (fun _ => Y_index rfl rfl rfl el40 ti28 (Rd.isAt (hs.rdV (i := 0) rfl) hv6089) hi6086a (ltn hn5943 hi6086b)) ?_; clear hf; intro a hf
          refine mY (i := 3) [[]] rfl (by kernel_rfl) (by kernel_rfl) hf hs0 rfl rfl rfl (Y_load_rd rfl rfl (fun w hs => hs.rdV (i := 0) rfl) (at1 hv6089) ag28) ?_; clear hf; intro a hf
          refine mYp (i := 4) rfl (by kernel_rfl) (by kernel_rfl) hf rfl rfl rfl (fun _ => Y_move rfl rfl) ?_; clear hf; intro a hf
          refine mYp (i := 5) rfl (by kernel_rfl) (by kernel_rfl) hf rfl rfl rfl (fun _ => Y_move rfl rfl) ?_; clear hf; intro a hf
          refine mYp (i := 6) rfl (by kernel_rfl) (by kernel_rfl) hf rfl rfl rfl (fun _ => Y_move rfl rfl) ?_; clear hf; intro a hf
          obtain ⟨q6090, hi6091, hm6038⟩ := bind_some hm6038
          obtain ⟨hi6091a, hi6091b, hi6091q⟩ := idx_some hi6091
          obtain ⟨A6092, c6093, hv6094⟩ := hs.matRow (i := 0) rfl hi6091q
          refine mYp (i := 7) rfl (by kernel_rfl) (by kernel_rfl) hf rfl rfl rfl (fun _ => Y_index rfl rfl rfl el40 ti28 (Rd.isAt (hs.rdV (i := 0) rfl) hv6094) hi6091a (ltn hn5943 hi6091b)) ?_; clear hf; intro a hf
          refine mY (i := 8) [[]] rfl (by kernel_rfl) (by kernel_rfl) hf hs0 rfl rfl rfl (Y_load_rd rfl rfl (fun w hs => hs.rdV (i := 0) rfl) (at1 hv6094) ag28) ?_; clear hf; intro a hf
          refine mYp (i := 9) rfl (by kernel_rfl) (by kernel_rfl) hf rfl rfl rfl (fun _ => Y_move rfl rfl) ?_; clear hf; intro a hf
          obtain ⟨q6095, hi6096, hm6038⟩ := bind_some hm6038
          obtain ⟨hi6096a, hi6096b, hi6096q⟩ := idx_some hi6096
          refine mYp (i := 10) rfl (by kernel_rfl) (by kernel_rfl) hf rfl rfl rfl (fun _ => Y_index rfl rfl rfl el28 ti2 (Rd.isAt (hs.rdRow (i := 0) rfl ⟨hi6091q, hv6094⟩) (at1 (ints_at hi6096q))) hi6096a hi6096b) ?_; clear hf; intro a hf
          refine mY (i := 11) [[]] rfl (by kernel_rfl) (by kernel_rfl) hf hs0 rfl rfl rfl (Y_load_rd rfl rfl (fun w hs => hs.rdRow (i := 0) rfl ⟨hi6091q, hv6094⟩) (at1 (ints_at hi6096q)) ag2) ?_; clear hf; intro a hf
          refine mYp (i := 12) rfl (by kernel_rfl) (by kernel_rfl) hf rfl rfl rfl (fun _ => Y_move rfl rfl) ?_; clear hf; intro a hf
          refine mYp (i := 13) rfl (by kernel_rfl) (by kernel_rfl) hf rfl rfl rfl (fun _ => Y_move rfl rfl) ?_; clear hf; intro a hf
          obtain ⟨q6097, hi6098, hm6038⟩ := bind_some hm6038
          obtain ⟨hi6098a, hi6098b, hi6098q⟩ := idx_some hi6098
          obtain ⟨vs6099, hv6100, hr6101⟩ := id aZ
          obtain ⟨A6102, c6103, hv6104, hR6105⟩ := hr6101 _ _ hi6098q
          refine mYp (i := 14) rfl (by kernel_rfl) (by kernel_rfl) hf rfl rfl rfl (fun _ => Y_index rfl rfl rfl el40 ti28 (Rd.isAt hv6100 hv6104) hi6098a hi6098b) ?_; clear hf; intro a hf
          refine mY (i := 15) [[]] rfl (by kernel_rfl) (by kernel_rfl) hf hs0 rfl rfl rfl (Y_load_rd rfl rfl (fun w hs => hv6100.at hs) (at1 hv6104) ag28) ?_; clear hf; intro a hf
          refine mYp (i := 16) rfl (by kernel_rfl) (by kernel_rfl) hf rfl rfl rfl (fun _ => Y_move rfl rfl) ?_; clear hf; intro a hf
          obtain ⟨q6106, hi6107, hm6038⟩ := bind_some hm6038
          obtain ⟨hi6107a, hi6107b, hi6107q⟩ := idx_some hi6107
          refine mYp (i := 17) rfl (by kernel_rfl) (by kernel_rfl) hf rfl rfl rfl (fun _ => Y_index rfl rfl rfl el28 ti2 (Rd.isAt (hR6105.at hs) (at1 (ints_at hi6107q))) hi6107a hi6107b) ?_; clear hf; intro a hf
          refine mY (i := 18) [[]] rfl (by kernel_rfl) (by kernel_rfl) hf hs0 rfl rfl rfl (Y_load_rd rfl rfl (fun w hs => hR6105.at hs) (at1 (ints_at hi6107q)) ag2) ?_; clear hf; intro a hf
          refine mYp (i := 19) rfl (by kernel_rfl) (by kernel_rfl) hf rfl rfl rfl (fun _ => Y_move rfl rfl) ?_; clear hf; intro a hf
          refine mYp (i := 20) rfl (by kernel_rfl) (by kernel_rfl) hf rfl rfl rfl (fun _ => Y_move rfl rfl) ?_; clear hf; intro a hf
          obtain ⟨q6108, hi6109, hm6038⟩ := bind_some hm6038
          obtain ⟨hi6109a, hi6109b, hi6109q⟩ := idx_some hi6109
          obtain ⟨vs6110, hv6111, hr6112⟩ := id bk
          obtain ⟨A6113, c6114, hv6115, hR6116⟩ := hr6112 _ _ hi6109q
          refine mYp (i := 21) rfl (by kernel_rfl) (by kernel_rfl) hf rfl rfl rfl (fun _ => Y_index rfl rfl rfl el40 ti28 (Rd.isAt hv6111 hv6115) hi6109a hi6109b) ?_; clear hf; intro a hf
          refine mY (i := 22) [[]] rfl (by kernel_rfl) (by kernel_rfl) hf hs0 rfl rfl rfl (Y_load_rd rfl rfl (fun w hs => hv6111.at hs) (at1 hv6115) ag28) ?_; clear hf; intro a hf
          refine mYp (i := 23) rfl (by kernel_rfl) (by kernel_rfl) hf rfl rfl rfl (fun _ => Y_move rfl rfl) ?_; clear hf; intro a hf
          obtain ⟨q6117, hi6118, hm6038⟩ := bind_some hm6038
          obtain ⟨hi6118a, hi6118b, hi6118q⟩ := idx_some hi6118
          refine mYp (i := 24) rfl (by kernel_rfl) (by kernel_rfl) hf rfl rfl rfl (fun _ => Y_index rfl rfl rfl el28 ti2 (Rd.isAt (hR6116.at hs) (at1 (ints_at hi6118q))) hi6118a hi6118b) ?_; clear hf; intro a hf
          refine mY (i := 25) [[]] rfl (by kernel_rfl) (by kernel_rfl) hf hs0 rfl rfl rfl (Y_load_rd rfl rfl (fun w hs => hR6116.at hs) (at1 (ints_at hi6118q)) ag2) ?_; clear hf; intro a hf
          refine mRun (i := 26) rfl (by kernel_rfl) ?_
          obtain ⟨r6119, hc6120, hm6038⟩ := bind_some hm6038
          refine sCall hf rfl rfl rfl rfl (cap := []) rfl rfl en155 (spec_l01Times_ok F q6106 q6117 _ _ hc6120) ?_; clear hf
          rintro _ w ⟨rfl, hs1⟩ a hf
          have hs : St _ W w [_] := hs.ext hs1.below
          clear hs1
          have hs0 : St _ W w [_] := hs
          refine wpO_nil ⟨Or.inr (fun _ => hs0), ?_⟩
          refine mYp (i := 27) rfl (by kernel_rfl) (by kernel_rfl) hf rfl rfl rfl (fun _ => Y_max rfl rfl rfl) ?_; clear hf; intro a hf
          obtain ⟨q6121, hi6122, hm6038⟩ := bind_some hm6038
          obtain ⟨hi6122a, hi6122b, hi6122q⟩ := idx_some hi6122
          refine mYp (i := 28) rfl (by kernel_rfl) (by kernel_rfl) hf rfl rfl rfl (fun _ => Y_index rfl rfl rfl el28 ti2 (Rd.isAt (hs.rdRow (i := 0) rfl ⟨hi6086q, hv6089⟩) (at1 (ints_at hi6122q))) hi6122a hi6122b) ?_; clear hf; intro a hf
          refine mRun (i := 29) rfl (by kernel_rfl) ?_
          obtain ⟨xs6123, hu6125, hm6038⟩ := bind_some hm6038
          obtain ⟨ms6124, hu6126, hm6038⟩ := bind_some hm6038
          refine sStoreM (i := 0) (k := x3072) hf hs rfl rfl rfl rfl rfl rfl hi6086q hv6089 rfl hu6125 hu6126 ti2 ?_; clear hs; intro w hs
          obtain ⟨hq6127, hv6128⟩ := rowUpd hu6125 hu6126 hv6089
          have hs : St _ W w [.mat A12 n13 c14 28 2 vs16 ms6124] := hs
          refine wpO_nil ⟨Or.inl (by decide), ?_⟩
          refine mDone (by kernel_rfl) ?_
          clear hs0
          refine wpL_nil (Qb_normal ?_)
          refine wpL_region ?_
          refine sY hf hs rfl rfl rfl (Y_move rfl rfl) ?_; clear hf; intro a hf
          refine sY hf hs rfl rfl rfl (Y_add rfl rfl rfl) ?_; clear hf; intro a hf
          refine sY hf hs rfl rfl rfl (Y_assign rfl rfl) ?_; clear hf; intro a hf
          refine wpO_nil ?_
          refine wpL_nil (Ql_normal ?_)
          exact ⟨ms6124, (IntKind.i64.wrap (x5944 + 1)), hm6038, ((hn5943).trans (upd_len hu6126).symm), (FrD.pick (FrD.pick (FrD.pick (FrD.pick (FrD.pick (FrD.pick hf.none hf rfl) hf rfl) hf rfl) hf rfl) hf rfl) hf rfl), hs⟩
         ·have hm6038 := bif_f hm6038 hb6040
          refine wpL_exit (Ql_exit (Qb_exit ?_))
          exact ⟨ms5942, Option.some.inj hm6038, hn5943, (FrD.pick (FrD.pick (FrD.pick (FrD.pick (FrD.pick hf.none hf rfl) hf rfl) hf rfl) hf rfl) hf rfl), hs⟩
       ·rintro a w ⟨ms6034, hr_, hn6035, hf, hs⟩
        subst hr_
        try dsimp only at hm5749
        refine wpL_nil (Qb_normal ?_)
        refine wpL_region ?_
        refine sY hf hs rfl rfl rfl (Y_move rfl rfl) ?_; clear hf; intro a hf
        refine sY hf hs rfl rfl rfl (Y_add rfl rfl rfl) ?_; clear hf; intro a hf
        refine sY hf hs rfl rfl rfl (Y_assign rfl rfl) ?_; clear hf; intro a hf
        refine wpO_nil ?_
        refine wpL_nil (Ql_normal ?_)
        exact ⟨ms6034, (IntKind.i64.wrap (x5366 + 1)), hm5749, hn6035, (FrD.pick (FrD.pick (FrD.pick (FrD.pick (FrD.pick hf.none hf rfl) hf rfl) hf rfl) hf rfl) hf rfl), hs⟩
      ·have hm5749 := bif_f hm5749 hb5760
       refine wpL_exit (Ql_exit (Qb_exit ?_))
       exact ⟨ms5364, Option.some.inj hm5749, hn5365, (FrD.pick (FrD.pick (FrD.pick (FrD.pick hf.none hf rfl) hf rfl) hf rfl) hf rfl), hs⟩
    ·rintro a w ⟨ms5745, hr_, hn5746, hf, hs⟩
     subst hr_
     try dsimp only at hm4602
     refine wpL_nil (Qb_normal ?_)
     refine wpL_region ?_
     refine sY hf hs rfl rfl rfl (Y_move rfl rfl) ?_; clear hf; intro a hf
     refine sY hf hs rfl rfl rfl (Y_add rfl rfl rfl) ?_; clear hf; intro a hf
     refine sY hf hs rfl rfl rfl (Y_assign rfl rfl) ?_; clear hf; intro a hf
     refine wpO_nil ?_
     refine wpL_nil (Ql_normal ?_)
     exact ⟨ms5745, (IntKind.i64.wrap (x3072 + 1)), hm4602, hn5746, (FrD.pick (FrD.pick (FrD.pick (FrD.pick hf.none hf rfl) hf rfl) hf rfl) hf rfl), hs⟩
   ·have hm4602 := bif_f hm4602 hb4604
    refine wpL_exit (Ql_exit (Qb_exit ?_))
    exact ⟨ms3070, Option.some.inj hm4602, hn3071, (FrD.pick hf.none hf rfl), hs⟩
 ·rintro a w ⟨ms4598, hr_, hn4599, hf, hs⟩
  subst hr_
  try dsimp only at hm
  refine wpL_seq <| wpL_region ?_
  refine sY hf hs rfl rfl rfl (Y_move rfl rfl) ?_; clear hf; intro a hf
  refine sY hf hs rfl rfl rfl (Y_assign rfl rfl) ?_; clear hf; intro a hf
  refine wpO_nil ?_
  obtain rfl := Option.some.inj hm
  refine wpL_ret (ret_tmp rfl hf rfl ?_)
  exact ⟨_, rfl, A12, n13, c14, vs16, rfl, hn4599, hs⟩

set_option maxRecDepth 100000 in
theorem spec_l02Own_ok (F : Nat) (aK : List (List Int)) (aH : Option Addr) (aT aP : Nat) (bj : aT = aK.length) (r : List (List Int)) (W : World) (hm : spec_l02Own F aK = some r) (bb : RdM W aH aK) :
  Calls Try.prog 180 [.slice aH aT aP].toArray W fun e w' => ∃ v, e = .returned v ∧ ∃ A124, ∃ n125, ∃ c126, ∃ vs128, v = .slice A124 n125 c126 ∧ n125 = r.length ∧ St [] W w' [.mat A124 n125 c126 28 2 vs128 r] := by
 subst bj
 unfold spec_l02Own at hm
 refine Calls.enter (N := 21) Try.func180 rfl rfl rfl (fun a hf => ?_)
 have hs := St.start W
 obtain ⟨w, hw_⟩ : ∃ w, w = W := ⟨W, rfl⟩
 clear hw_ w
 refine wpL_seq <| wpL_region ?_
 refine sY hf hs rfl rfl rfl (Y_assign rfl rfl) ?_; clear hf; intro a hf
 refine wpO_nil <| wpL_seq <| wpL_region ?_
 refine sEmptyM 2 hf hs rfl rfl rfl rfl el40 ti28 rfl ?_; clear hf hs; intro a w A1 hs hf
 have hs : St _ W w [.mat A1 0 0 28 2 [] []] := hs
 refine sY hf hs rfl rfl rfl (Y_assign rfl rfl) ?_; clear hf; intro a hf
 refine wpO_nil <| wpL_seq <| wpL_seq <| wpL_region ?_
 refine sY hf hs rfl rfl rfl (Y_assign rfl rfl) ?_; clear hf; intro a hf
 refine wpO_nil ?_
 obtain ⟨r96, hl97, hm⟩ := bind_some hm
 refine wpL_block (fun a w => ∃ ms90 : List (List Int), ∃ A91, ∃ n92, ∃ c93, ∃ vs95, ms90 = r96 ∧ n92 = ms90.length ∧ Fr a 21 [(3, .slice A91 n92 c93)] ∧ St [] W w [.mat A91 n92 c93 28 2 vs95 ms90]) ?_ ?_
 ·refine wpL_loop (fun n a w => ∃ ms59 : List (List Int), ∃ x65 : Int, ∃ A60, ∃ n61, ∃ c62, ∃ vs64, spec_l02Own_L1 F aK n ms59 x65 = some r96 ∧ n61 = ms59.length ∧ Fr a 21 [(0, .slice aH aK.length aP), (3, .slice A60 n61 c62), (4, .int .i64 x65)] ∧ St [] W w [.mat A60 n61 c62 28 2 vs64 ms59]) F ?_ ?_ ?_
  ·exact ⟨[], 0, A1, 0, 0, [], hl97, rfl, (FrD.pick (FrD.pick (FrD.pick hf.none hf rfl) hf rfl) hf rfl), hs⟩
  ·rintro a w ⟨ms59, x65, A60, n61, c62, vs64, h0_, -, -, -⟩; simp [spec_l02Own_L1] at h0_
  ·rintro n99 a w ⟨ms59, x65, A60, n61, c62, vs64, hm98, hn63, hf, hs⟩
   rw [spec_l02Own_L1] at hm98
   refine wpL_seq <| wpL_seq <| wpL_region ?_
   refine sY hf hs rfl rfl rfl (Y_move rfl rfl) ?_; clear hf; intro a hf
   refine sY hf hs rfl rfl rfl (Y_move rfl rfl) ?_; clear hf; intro a hf
   refine sY hf hs rfl rfl rfl (Y_lenH rfl rfl el40 rfl) ?_; clear hf; intro a hf
   refine sY hf hs rfl rfl rfl (Y_lss rfl rfl rfl) ?_; clear hf; intro a hf
   refine wpO_nil ?_
   refine wpL_cond hf rfl (fun hb100 => ?_) (fun hb100 => ?_)
   ·have hm98 := bif_t hm98 hb100
    refine wpL_skip <| wpL_seq <| wpL_block0 <| wpL_region ?_
    refine sY hf hs rfl rfl rfl (Y_move rfl rfl) ?_; clear hf; intro a hf
    refine sY hf hs rfl rfl rfl (Y_move rfl rfl) ?_; clear hf; intro a hf
    refine sY hf hs rfl rfl rfl (Y_move rfl rfl) ?_; clear hf; intro a hf
    obtain ⟨q101, hi102, hm98⟩ := bind_some hm98
    obtain ⟨hi102a, hi102b, hi102q⟩ := idx_some hi102
    obtain ⟨vs103, hv104, hr105⟩ := id bb
    obtain ⟨A106, c107, hv108, hR109⟩ := hr105 _ _ hi102q
    refine sY hf hs rfl rfl rfl (Y_index rfl rfl rfl el40 ti28 (Rd.isAt hv104 hv108) hi102a hi102b) ?_; clear hf; intro a hf
    refine sY hf hs rfl rfl rfl (Y_load_rd rfl rfl (fun w hs => hv104.at hs) (at1 hv108) ag28) ?_; clear hf; intro a hf
    obtain ⟨r110, hc111, hm98⟩ := bind_some hm98
    refine sCall hf rfl rfl rfl rfl (cap := []) rfl rfl en114 (spec_l01Own_ok F q101 A106 q101.length c107 rfl _ _ hc111 (hR109.at hs)) ?_; clear hf
    rintro _ w ⟨A112, n113, c114, rfl, hn115, hs1⟩ a hf
    have hs : St _ W w [_, .row A112 n113 c114 2 1 (ints r110)] := hs.join hs1
    clear hs1
    refine sOneM (j := 1) hf hs rfl rfl rfl rfl rfl rfl hn115 el40 ti28 ?_; clear hf hs; intro a w A116 hs hf
    have hs : St _ W w [_, .mat A116 1 1 28 2 ([Value.slice A112 r110.length c114]) ([r110])] := hs
    obtain ⟨ms120, ha121, hm98⟩ := bind_some hm98
    refine sAppendM (i := 0) (j := 1) hf hs rfl rfl rfl rfl rfl rfl hn63 rfl (by decide) rfl rfl (by decide) ha121 el40 ti28 rfl ?_; clear hf hs; intro a w A118 c119 hs hf
    have hs : St _ W w [.mat A118 ms120.length c119 28 2 (vs64 ++ ([Value.slice A112 r110.length c114])) ms120] := hs
    obtain ⟨hq122, hv123⟩ := hs.appended (i := 0) rfl ha121
    refine sY hf hs rfl rfl rfl (Y_assign rfl rfl) ?_; clear hf; intro a hf
    refine wpO_nil ?_
    refine wpL_nil (Qb_normal ?_)
    refine wpL_region ?_
    refine sY hf hs rfl rfl rfl (Y_move rfl rfl) ?_; clear hf; intro a hf
    refine sY hf hs rfl rfl rfl (Y_add rfl rfl rfl) ?_; clear hf; intro a hf
    refine sY hf hs rfl rfl rfl (Y_assign rfl rfl) ?_; clear hf; intro a hf
    refine wpO_nil ?_
    refine wpL_nil (Ql_normal ?_)
    exact ⟨ms120, (IntKind.i64.wrap (x65 + 1)), A118, ms120.length, c119, (vs64 ++ ([Value.slice A112 r110.length c114])), hm98, rfl, (FrD.pick (FrD.pick (FrD.pick hf.none hf rfl) hf rfl) hf rfl), hs⟩
   ·have hm98 := bif_f hm98 hb100
    refine wpL_exit (Ql_exit (Qb_exit ?_))
    exact ⟨ms59, A60, n61, c62, vs64, Option.some.inj hm98, hn63, (FrD.pick hf.none hf rfl), hs⟩
 ·rintro a w ⟨ms90, A91, n92, c93, vs95, hr_, hn94, hf, hs⟩
  subst hr_
  try dsimp only at hm
  refine wpL_seq <| wpL_region ?_
  refine sY hf hs rfl rfl rfl (Y_move rfl rfl) ?_; clear hf; intro a hf
  refine sY hf hs rfl rfl rfl (Y_assign rfl rfl) ?_; clear hf; intro a hf
  refine wpO_nil ?_
  obtain rfl := Option.some.inj hm
  refine wpL_ret (ret_tmp rfl hf rfl ?_)
  exact ⟨_, rfl, A91, n92, c93, vs95, rfl, hn94, hs⟩

set_option maxRecDepth 100000 in
theorem spec_l02Add_ok (F : Nat) (aK : List (List Int)) (aH : Option Addr) (aT aP : Nat) (bj : aT = aK.length) (aY : List (List Int)) (ba : Option Addr) (bu bp : Nat) (bL : bu = aY.length) (r : List (List Int)) (W : World) (hm : spec_l02Add F aK aY = some r) (bb : RdM W aH aK) (bH : RdM W ba aY) :
  Calls Try.prog 151 [.slice aH aT aP, .slice ba bu bp].toArray W fun e w' => ∃ v, e = .returned v ∧ ∃ A664, ∃ n665, ∃ c666, ∃ vs668, v = .slice A664 n665 c666 ∧ n665 = r.length ∧ St [] W w' [.mat A664 n665 c666 28 2 vs668 r] := by
 subst bj
 subst bL
 unfold spec_l02Add at hm
 refine Calls.enter (N := 47) Try.func151 rfl rfl rfl (fun a hf => ?_)
 have hs := St.start W
 obtain ⟨w, hw_⟩ : ∃ w, w = W := ⟨W, rfl⟩
 clear hw_ w
 refine wpL_seq <| wpL_region ?_
 refine sY hf hs rfl rfl rfl (Y_assign rfl rfl) ?_; clear hf; intro a hf
 refine wpO_nil <| wpL_seq <| wpL_region ?_
 refine sY hf hs rfl rfl rfl (Y_move rfl rfl) ?_; clear hf; intro a hf
 obtain ⟨r1, hc2, hm⟩ := bind_some hm
 refine sCall hf rfl rfl rfl rfl (cap := []) rfl rfl en180 (spec_l02Own_ok F aK aH aK.length aP rfl _ _ hc2 (bb.at hs)) ?_; clear hf
 rintro _ w ⟨A3, n4, c5, vs7, rfl, hn6, hs1⟩ a hf
 have hs : St _ W w [.mat A3 n4 c5 28 2 vs7 r1] := hs.join hs1
 clear hs1
 refine sY hf hs rfl rfl rfl (Y_assign rfl rfl) ?_; clear hf; intro a hf
 refine wpO_nil <| wpL_seq <| wpL_seq <| wpL_region ?_
 refine sY hf hs rfl rfl rfl (Y_assign rfl rfl) ?_; clear hf; intro a hf
 refine wpO_nil ?_
 obtain ⟨r499, hl500, hm⟩ := bind_some hm
 refine wpL_block (fun a w => ∃ ms497 : List (List Int), ms497 = r499 ∧ n4 = ms497.length ∧ Fr a 47 [(5, .slice A3 n4 c5)] ∧ St [] W w [.mat A3 n4 c5 28 2 vs7 ms497]) ?_ ?_
 ·refine wpL_loop (fun n a w => ∃ ms333 : List (List Int), ∃ x335 : Int, spec_l02Add_L4 F aY n ms333 x335 = some r499 ∧ n4 = ms333.length ∧ Fr a 47 [(1, .slice ba aY.length bp), (5, .slice A3 n4 c5), (6, .int .i64 x335)] ∧ St [] W w [.mat A3 n4 c5 28 2 vs7 ms333]) F ?_ ?_ ?_
  ·exact ⟨r1, 0, hl500, hn6, (FrD.pick (FrD.pick (FrD.pick hf.none hf rfl) hf rfl) hf rfl), hs⟩
  ·rintro a w ⟨ms333, x335, h0_, -, -, -⟩; simp [spec_l02Add_L4] at h0_
  ·rintro n502 a w ⟨ms333, x335, hm501, hn334, hf, hs⟩
   rw [spec_l02Add_L4] at hm501
   refine wpL_seq <| wpL_seq <| wpL_region ?_
   refine sY hf hs rfl rfl rfl (Y_move rfl rfl) ?_; clear hf; intro a hf
   refine sY hf hs rfl rfl rfl (Y_move rfl rfl) ?_; clear hf; intro a hf
   refine sY hf hs rfl rfl rfl (Y_lenH rfl rfl el40 hn334) ?_; clear hf; intro a hf
   refine sY hf hs rfl rfl rfl (Y_lss rfl rfl rfl) ?_; clear hf; intro a hf
   refine wpO_nil ?_
   refine wpL_cond hf rfl (fun hb503 => ?_) (fun hb503 => ?_)
   ·have hm501 := bif_t hm501 hb503
    refine wpL_skip <| wpL_seq <| wpL_block0 <| wpL_seq <| wpL_region ?_
    refine sY hf hs rfl rfl rfl (Y_assign rfl rfl) ?_; clear hf; intro a hf
    refine wpO_nil ?_
    obtain ⟨r623, hl624, hm501⟩ := bind_some hm501
    refine wpL_block (fun a w => ∃ ms621 : List (List Int), ms621 = r623 ∧ n4 = ms621.length ∧ Fr a 47 [(1, .slice ba aY.length bp), (5, .slice A3 n4 c5), (6, .int .i64 x335)] ∧ St [] W w [.mat A3 n4 c5 28 2 vs7 ms621]) ?_ ?_
    ·refine wpL_loop (fun n a w => ∃ ms581 : List (List Int), ∃ x583 : Int, spec_l02Add_L5 F aY x335 n ms581 x583 = some r623 ∧ n4 = ms581.length ∧ Fr a 47 [(1, .slice ba aY.length bp), (5, .slice A3 n4 c5), (6, .int .i64 x335), (7, .int .i64 x583)] ∧ St [] W w [.mat A3 n4 c5 28 2 vs7 ms581]) F ?_ ?_ ?_
     ·exact ⟨ms333, 0, hl624, hn334, (FrD.pick (FrD.pick (FrD.pick (FrD.pick hf.none hf rfl) hf rfl) hf rfl) hf rfl), hs⟩
     ·rintro a w ⟨ms581, x583, h0_, -, -, -⟩; simp [spec_l02Add_L5] at h0_
     ·rintro n626 a w ⟨ms581, x583, hm625, hn582, hf, hs⟩
      rw [spec_l02Add_L5] at hm625
      refine wpL_seq <| wpL_seq <| wpL_region ?_
      refine sY hf hs rfl rfl rfl (Y_move rfl rfl) ?_; clear hf; intro a hf
      refine sY hf hs rfl rfl rfl (Y_move rfl rfl) ?_; clear hf; intro a hf
      refine sY hf hs rfl rfl rfl (Y_move rfl rfl) ?_; clear hf; intro a hf
      obtain ⟨q627, hi628, hm625⟩ := bind_some hm625
      obtain ⟨hi628a, hi628b, hi628q⟩ := idx_some hi628
      obtain ⟨A629, c630, hv631⟩ := hs.matRow (i := 0) rfl hi628q
      refine sY hf hs rfl rfl rfl (Y_index rfl rfl rfl el40 ti28 (Rd.isAt (hs.rdV (i := 0) rfl) hv631) hi628a (ltn hn582 hi628b)) ?_; clear hf; intro a hf
      refine sY hf hs rfl rfl rfl (Y_load_rd rfl rfl (fun w hs => hs.rdV (i := 0) rfl) (at1 hv631) ag28) ?_; clear hf; intro a hf
      refine sY hf hs rfl rfl rfl (Y_lenH rfl rfl el28 rfl) ?_; clear hf; intro a hf
      refine sY hf hs rfl rfl rfl (Y_lss rfl rfl rfl) ?_; clear hf; intro a hf
      refine wpO_nil ?_
      refine wpL_cond hf rfl (fun hb632 => ?_) (fun hb632 => ?_)
      ·have hm625 := bif_t hm625 hb632
       refine wpL_skip <| wpL_seq <| wpL_block0 ?_
       refine wpL_drawM [.mat A3 n4 c5 28 2 vs7 ms581] [21] (by kernel_rfl) hs ?_; clear hs; intro w hs
       have hs0 : St _ W w [_] := hs
       refine mYp (i := 0) rfl (by kernel_rfl) (by kernel_rfl) hf rfl rfl rfl (fun _ => Y_move rfl rfl) ?_; clear hf; intro a hf
       refine mYp (i := 1) rfl (by kernel_rfl) (by kernel_rfl) hf rfl rfl rfl (fun _ => Y_move rfl rfl) ?_; clear hf; intro a hf
       obtain ⟨q633, hi634, hm625⟩ := bind_some hm625
       obtain ⟨hi634a, hi634b, hi634q⟩ := idx_some hi634
       obtain ⟨A635, c636, hv637⟩ := hs.matRow (i := 0) rfl hi634q
       refine mYp (i := 2) rfl (by kernel_rfl) (by kernel_rfl) hf rfl rfl rfl (fun _ => Y_index rfl rfl rfl el40 ti28 (Rd.isAt (hs.rdV (i := 0) rfl) hv637) hi634a (ltn hn582 hi634b)) ?_; clear hf; intro a hf
       refine mY (i := 3) [[]] rfl (by kernel_rfl) (by kernel_rfl) hf hs0 rfl rfl rfl (Y_load_rd rfl rfl (fun w hs => hs.rdV (i := 0) rfl) (at1 hv637) ag28) ?_; clear hf; intro a hf
       refine mYp (i := 4) rfl (by kernel_rfl) (by kernel_rfl) hf rfl rfl rfl (fun _ => Y_move rfl rfl) ?_; clear hf; intro a hf
       refine mYp (i := 5) rfl (by kernel_rfl) (by kernel_rfl) hf rfl rfl rfl (fun _ => Y_move rfl rfl) ?_; clear hf; intro a hf
       refine mYp (i := 6) rfl (by kernel_rfl) (by kernel_rfl) hf rfl rfl rfl (fun _ => Y_move rfl rfl) ?_; clear hf; intro a hf
       obtain ⟨q638, hi639, hm625⟩ := bind_some hm625
       obtain ⟨hi639a, hi639b, hi639q⟩ := idx_some hi639
       obtain ⟨A640, c641, hv642⟩ := hs.matRow (i := 0) rfl hi639q
       refine mYp (i := 7) rfl (by kernel_rfl) (by kernel_rfl) hf rfl rfl rfl (fun _ => Y_index rfl rfl rfl el40 ti28 (Rd.isAt (hs.rdV (i := 0) rfl) hv642) hi639a (ltn hn582 hi639b)) ?_; clear hf; intro a hf
       refine mY (i := 8) [[]] rfl (by kernel_rfl) (by kernel_rfl) hf hs0 rfl rfl rfl (Y_load_rd rfl rfl (fun w hs => hs.rdV (i := 0) rfl) (at1 hv642) ag28) ?_; clear hf; intro a hf
       refine mYp (i := 9) rfl (by kernel_rfl) (by kernel_rfl) hf rfl rfl rfl (fun _ => Y_move rfl rfl) ?_; clear hf; intro a hf
       obtain ⟨q643, hi644, hm625⟩ := bind_some hm625
       obtain ⟨hi644a, hi644b, hi644q⟩ := idx_some hi644
       refine mYp (i := 10) rfl (by kernel_rfl) (by kernel_rfl) hf rfl rfl rfl (fun _ => Y_index rfl rfl rfl el28 ti2 (Rd.isAt (hs.rdRow (i := 0) rfl ⟨hi639q, hv642⟩) (at1 (ints_at hi644q))) hi644a hi644b) ?_; clear hf; intro a hf
       refine mY (i := 11) [[]] rfl (by kernel_rfl) (by kernel_rfl) hf hs0 rfl rfl rfl (Y_load_rd rfl rfl (fun w hs => hs.rdRow (i := 0) rfl ⟨hi639q, hv642⟩) (at1 (ints_at hi644q)) ag2) ?_; clear hf; intro a hf
       refine mYp (i := 12) rfl (by kernel_rfl) (by kernel_rfl) hf rfl rfl rfl (fun _ => Y_move rfl rfl) ?_; clear hf; intro a hf
       refine mYp (i := 13) rfl (by kernel_rfl) (by kernel_rfl) hf rfl rfl rfl (fun _ => Y_move rfl rfl) ?_; clear hf; intro a hf
       obtain ⟨q645, hi646, hm625⟩ := bind_some hm625
       obtain ⟨hi646a, hi646b, hi646q⟩ := idx_some hi646
       obtain ⟨vs647, hv648, hr649⟩ := id bH
       obtain ⟨A650, c651, hv652, hR653⟩ := hr649 _ _ hi646q
       refine mYp (i := 14) rfl (by kernel_rfl) (by kernel_rfl) hf rfl rfl rfl (fun _ => Y_index rfl rfl rfl el40 ti28 (Rd.isAt hv648 hv652) hi646a hi646b) ?_; clear hf; intro a hf
       refine mY (i := 15) [[]] rfl (by kernel_rfl) (by kernel_rfl) hf hs0 rfl rfl rfl (Y_load_rd rfl rfl (fun w hs => hv648.at hs) (at1 hv652) ag28) ?_; clear hf; intro a hf
       refine mYp (i := 16) rfl (by kernel_rfl) (by kernel_rfl) hf rfl rfl rfl (fun _ => Y_move rfl rfl) ?_; clear hf; intro a hf
       obtain ⟨q654, hi655, hm625⟩ := bind_some hm625
       obtain ⟨hi655a, hi655b, hi655q⟩ := idx_some hi655
       refine mYp (i := 17) rfl (by kernel_rfl) (by kernel_rfl) hf rfl rfl rfl (fun _ => Y_index rfl rfl rfl el28 ti2 (Rd.isAt (hR653.at hs) (at1 (ints_at hi655q))) hi655a hi655b) ?_; clear hf; intro a hf
       refine mY (i := 18) [[]] rfl (by kernel_rfl) (by kernel_rfl) hf hs0 rfl rfl rfl (Y_load_rd rfl rfl (fun w hs => hR653.at hs) (at1 (ints_at hi655q)) ag2) ?_; clear hf; intro a hf
       refine mYp (i := 19) rfl (by kernel_rfl) (by kernel_rfl) hf rfl rfl rfl (fun _ => Y_max rfl rfl rfl) ?_; clear hf; intro a hf
       obtain ⟨q656, hi657, hm625⟩ := bind_some hm625
       obtain ⟨hi657a, hi657b, hi657q⟩ := idx_some hi657
       refine mYp (i := 20) rfl (by kernel_rfl) (by kernel_rfl) hf rfl rfl rfl (fun _ => Y_index rfl rfl rfl el28 ti2 (Rd.isAt (hs.rdRow (i := 0) rfl ⟨hi634q, hv637⟩) (at1 (ints_at hi657q))) hi657a hi657b) ?_; clear hf; intro a hf
       refine mRun (i := 21) rfl (by kernel_rfl) ?_
       obtain ⟨xs658, hu660, hm625⟩ := bind_some hm625
       obtain ⟨ms659, hu661, hm625⟩ := bind_some hm625
       refine sStoreM (i := 0) (k := x335) hf hs rfl rfl rfl rfl rfl rfl hi634q hv637 rfl hu660 hu661 ti2 ?_; clear hs; intro w hs
       obtain ⟨hq662, hv663⟩ := rowUpd hu660 hu661 hv637
       have hs : St _ W w [.mat A3 n4 c5 28 2 vs7 ms659] := hs
       refine wpO_nil ⟨Or.inl (by decide), ?_⟩
       refine mDone (by kernel_rfl) ?_
       clear hs0
       refine wpL_nil (Qb_normal ?_)
       refine wpL_region ?_
       refine sY hf hs rfl rfl rfl (Y_move rfl rfl) ?_; clear hf; intro a hf
       refine sY hf hs rfl rfl rfl (Y_add rfl rfl rfl) ?_; clear hf; intro a hf
       refine sY hf hs rfl rfl rfl (Y_assign rfl rfl) ?_; clear hf; intro a hf
       refine wpO_nil ?_
       refine wpL_nil (Ql_normal ?_)
       exact ⟨ms659, (IntKind.i64.wrap (x583 + 1)), hm625, ((hn582).trans (upd_len hu661).symm), (FrD.pick (FrD.pick (FrD.pick (FrD.pick hf.none hf rfl) hf rfl) hf rfl) hf rfl), hs⟩
      ·have hm625 := bif_f hm625 hb632
       refine wpL_exit (Ql_exit (Qb_exit ?_))
       exact ⟨ms581, Option.some.inj hm625, hn582, (FrD.pick (FrD.pick (FrD.pick hf.none hf rfl) hf rfl) hf rfl), hs⟩
    ·rintro a w ⟨ms621, hr_, hn622, hf, hs⟩
     subst hr_
     try dsimp only at hm501
     refine wpL_nil (Qb_normal ?_)
     refine wpL_region ?_
     refine sY hf hs rfl rfl rfl (Y_move rfl rfl) ?_; clear hf; intro a hf
     refine sY hf hs rfl rfl rfl (Y_add rfl rfl rfl) ?_; clear hf; intro a hf
     refine sY hf hs rfl rfl rfl (Y_assign rfl rfl) ?_; clear hf; intro a hf
     refine wpO_nil ?_
     refine wpL_nil (Ql_normal ?_)
     exact ⟨ms621, (IntKind.i64.wrap (x335 + 1)), hm501, hn622, (FrD.pick (FrD.pick (FrD.pick hf.none hf rfl) hf rfl) hf rfl), hs⟩
   ·have hm501 := bif_f hm501 hb503
    refine wpL_exit (Ql_exit (Qb_exit ?_))
    exact ⟨ms333, Option.some.inj hm501, hn334, (FrD.pick hf.none hf rfl), hs⟩
 ·rintro a w ⟨ms497, hr_, hn498, hf, hs⟩
  subst hr_
  try dsimp only at hm
  refine wpL_seq <| wpL_region ?_
  refine sY hf hs rfl rfl rfl (Y_move rfl rfl) ?_; clear hf; intro a hf
  refine sY hf hs rfl rfl rfl (Y_assign rfl rfl) ?_; clear hf; intro a hf
  refine wpO_nil ?_
  obtain rfl := Option.some.inj hm
  refine wpL_ret (ret_tmp rfl hf rfl ?_)
  exact ⟨_, rfl, A3, n4, c5, vs7, rfl, hn498, hs⟩

set_option maxRecDepth 100000 in
theorem spec_l01Same_ok (F : Nat) (aK : List Int) (aH : Option Addr) (aT aP : Nat) (bj : aT = aK.length) (aY : List Int) (ba : Option Addr) (bu bp : Nat) (bL : bu = aY.length) (r : Bool) (W : World) (hm : spec_l01Same F aK aY = some r) (bb : Rd W aH (ints aK)) (bH : Rd W ba (ints aY)) :
  Calls Try.prog 205 [.slice aH aT aP, .slice ba bu bp].toArray W fun e w' => ∃ v, e = .returned v ∧ v = .bool r ∧ St [] W w' [] := by
 subst bj
 subst bL
 unfold spec_l01Same at hm
 refine Calls.enter (N := 26) Try.func205 rfl rfl rfl (fun a hf => ?_)
 have hs := St.start W
 obtain ⟨w, hw_⟩ : ∃ w, w = W := ⟨W, rfl⟩
 clear hw_ w
 refine wpL_seq <| wpL_region ?_
 refine sY hf hs rfl rfl rfl (Y_assign rfl rfl) ?_; clear hf; intro a hf
 refine wpO_nil <| wpL_seq <| wpL_seq <| wpL_region ?_
 refine sY hf hs rfl rfl rfl (Y_move rfl rfl) ?_; clear hf; intro a hf
 refine sY hf hs rfl rfl rfl (Y_lenH rfl rfl el28 rfl) ?_; clear hf; intro a hf
 refine sY hf hs rfl rfl rfl (Y_move rfl rfl) ?_; clear hf; intro a hf
 refine sY hf hs rfl rfl rfl (Y_lenH rfl rfl el28 rfl) ?_; clear hf; intro a hf
 refine sY hf hs rfl rfl rfl (Y_neq rfl rfl rfl) ?_; clear hf; intro a hf
 refine wpO_nil ?_
 refine wpL_cond hf rfl (fun hb1 => ?_) (fun hb1 => ?_)
 ·have hm := bif_t hm hb1
  refine wpL_seq <| wpL_region ?_
  refine sY hf hs rfl rfl rfl (Y_assign rfl rfl) ?_; clear hf; intro a hf
  refine wpO_nil ?_
  obtain rfl := Option.some.inj hm
  refine wpL_ret (ret_tmp rfl hf rfl ?_)
  exact ⟨_, rfl, rfl, hs⟩
 ·have hm := bif_f hm hb1
  refine wpL_skip <| wpL_seq <| wpL_seq <| wpL_region ?_
  refine sY hf hs rfl rfl rfl (Y_assign rfl rfl) ?_; clear hf; intro a hf
  refine wpO_nil ?_
  obtain ⟨r22, hl23, hm⟩ := bind_some hm
  refine wpL_block (fun a w => Sum.inr () = r22 ∧ Fr a 26 [] ∧ St [] W w []) ?_ ?_
  ·refine wpL_loop (fun n a w => ∃ x15 : Int, spec_l01Same_L1 F aK aY n x15 = some r22 ∧ Fr a 26 [(0, .slice aH aK.length aP), (1, .slice ba aY.length bp), (5, .int .i64 x15)] ∧ St [] W w []) F ?_ ?_ ?_
   ·exact ⟨0, hl23, (FrD.pick (FrD.pick (FrD.pick hf.none hf rfl) hf rfl) hf rfl), hs⟩
   ·rintro a w ⟨x15, h0_, -, -⟩; simp [spec_l01Same_L1] at h0_
   ·rintro n25 a w ⟨x15, hm24, hf, hs⟩
    rw [spec_l01Same_L1] at hm24
    refine wpL_seq <| wpL_seq <| wpL_region ?_
    refine sY hf hs rfl rfl rfl (Y_move rfl rfl) ?_; clear hf; intro a hf
    refine sY hf hs rfl rfl rfl (Y_move rfl rfl) ?_; clear hf; intro a hf
    refine sY hf hs rfl rfl rfl (Y_lenH rfl rfl el28 rfl) ?_; clear hf; intro a hf
    refine sY hf hs rfl rfl rfl (Y_lss rfl rfl rfl) ?_; clear hf; intro a hf
    refine wpO_nil ?_
    refine wpL_cond hf rfl (fun hb26 => ?_) (fun hb26 => ?_)
    ·have hm24 := bif_t hm24 hb26
     refine wpL_skip <| wpL_seq <| wpL_block0 <| wpL_seq ?_
     refine wpL_draw (by kernel_rfl) (by kernel_rfl) hs ?_
     refine qY hf rfl rfl rfl (Y_move rfl rfl) ?_; clear hf; intro a hf
     refine qY hf rfl rfl rfl (Y_move rfl rfl) ?_; clear hf; intro a hf
     obtain ⟨q27, hi28, hm24⟩ := bind_some hm24
     obtain ⟨hi28a, hi28b, hi28q⟩ := idx_some hi28
     refine qY hf rfl rfl rfl (Y_index rfl rfl rfl el28 ti2 (Rd.isAt (bb.at hs) (at1 (ints_at hi28q))) hi28a hi28b) ?_; clear hf; intro a hf
     refine qY hf rfl rfl rfl (Y_load_rd rfl rfl (fun w hs => bb.at hs) (at1 (ints_at hi28q)) ag2) ?_; clear hf; intro a hf
     refine qY hf rfl rfl rfl (Y_move rfl rfl) ?_; clear hf; intro a hf
     refine qY hf rfl rfl rfl (Y_move rfl rfl) ?_; clear hf; intro a hf
     obtain ⟨q29, hi30, hm24⟩ := bind_some hm24
     obtain ⟨hi30a, hi30b, hi30q⟩ := idx_some hi30
     refine qY hf rfl rfl rfl (Y_index rfl rfl rfl el28 ti2 (Rd.isAt (bH.at hs) (at1 (ints_at hi30q))) hi30a hi30b) ?_; clear hf; intro a hf
     refine qY hf rfl rfl rfl (Y_load_rd rfl rfl (fun w hs => bH.at hs) (at1 (ints_at hi30q)) ag2) ?_; clear hf; intro a hf
     refine qY hf rfl rfl rfl (Y_neq rfl rfl rfl) ?_; clear hf; intro a hf
     refine qNil ?_; clear hs; intro w hs
     refine wpL_cond hf rfl (fun hb31 => ?_) (fun hb31 => ?_)
     ·have hm24 := bif_t hm24 hb31
      refine wpL_seq <| wpL_region ?_
      refine sY hf hs rfl rfl rfl (Y_assign rfl rfl) ?_; clear hf; intro a hf
      refine wpO_nil ?_
      obtain rfl := Option.some.inj hm24
      try dsimp only at hm
      obtain rfl := Option.some.inj hm
      refine wpL_ret (Qb_ret (Ql_ret (Qb_ret (ret_tmp rfl hf rfl ?_))))
      exact ⟨_, rfl, rfl, hs⟩
     ·have hm24 := bif_f hm24 hb31
      refine wpL_skip ?_
      refine wpL_nil (Qb_normal ?_)
      refine wpL_region ?_
      refine sY hf hs rfl rfl rfl (Y_move rfl rfl) ?_; clear hf; intro a hf
      refine sY hf hs rfl rfl rfl (Y_add rfl rfl rfl) ?_; clear hf; intro a hf
      refine sY hf hs rfl rfl rfl (Y_assign rfl rfl) ?_; clear hf; intro a hf
      refine wpO_nil ?_
      refine wpL_nil (Ql_normal ?_)
      exact ⟨(IntKind.i64.wrap (x15 + 1)), hm24, (FrD.pick (FrD.pick (FrD.pick hf.none hf rfl) hf rfl) hf rfl), hs⟩
    ·have hm24 := bif_f hm24 hb26
     refine wpL_exit (Ql_exit (Qb_exit ?_))
     exact ⟨Option.some.inj hm24, hf.none, hs⟩
  ·rintro a w ⟨hr_, hf, hs⟩
   subst hr_
   try dsimp only at hm
   refine wpL_seq <| wpL_region ?_
   refine sY hf hs rfl rfl rfl (Y_assign rfl rfl) ?_; clear hf; intro a hf
   refine wpO_nil ?_
   obtain rfl := Option.some.inj hm
   refine wpL_ret (ret_tmp rfl hf rfl ?_)
   exact ⟨_, rfl, rfl, hs⟩

set_option maxRecDepth 100000 in
theorem spec_l02Same_ok (F : Nat) (aK : List (List Int)) (aH : Option Addr) (aT aP : Nat) (bj : aT = aK.length) (aY : List (List Int)) (ba : Option Addr) (bu bp : Nat) (bL : bu = aY.length) (r : Bool) (W : World) (hm : spec_l02Same F aK aY = some r) (bb : RdM W aH aK) (bH : RdM W ba aY) :
  Calls Try.prog 152 [.slice aH aT aP, .slice ba bu bp].toArray W fun e w' => ∃ v, e = .returned v ∧ v = .bool r ∧ St [] W w' [] := by
 subst bj
 subst bL
 unfold spec_l02Same at hm
 refine Calls.enter (N := 27) Try.func152 rfl rfl rfl (fun a hf => ?_)
 have hs := St.start W
 obtain ⟨w, hw_⟩ : ∃ w, w = W := ⟨W, rfl⟩
 clear hw_ w
 refine wpL_seq <| wpL_region ?_
 refine sY hf hs rfl rfl rfl (Y_assign rfl rfl) ?_; clear hf; intro a hf
 refine wpO_nil <| wpL_seq <| wpL_seq <| wpL_region ?_
 refine sY hf hs rfl rfl rfl (Y_move rfl rfl) ?_; clear hf; intro a hf
 refine sY hf hs rfl rfl rfl (Y_lenH rfl rfl el40 rfl) ?_; clear hf; intro a hf
 refine sY hf hs rfl rfl rfl (Y_move rfl rfl) ?_; clear hf; intro a hf
 refine sY hf hs rfl rfl rfl (Y_lenH rfl rfl el40 rfl) ?_; clear hf; intro a hf
 refine sY hf hs rfl rfl rfl (Y_neq rfl rfl rfl) ?_; clear hf; intro a hf
 refine wpO_nil ?_
 refine wpL_cond hf rfl (fun hb1 => ?_) (fun hb1 => ?_)
 ·have hm := bif_t hm hb1
  refine wpL_seq <| wpL_region ?_
  refine sY hf hs rfl rfl rfl (Y_assign rfl rfl) ?_; clear hf; intro a hf
  refine wpO_nil ?_
  obtain rfl := Option.some.inj hm
  refine wpL_ret (ret_tmp rfl hf rfl ?_)
  exact ⟨_, rfl, rfl, hs⟩
 ·have hm := bif_f hm hb1
  refine wpL_skip <| wpL_seq <| wpL_seq <| wpL_region ?_
  refine sY hf hs rfl rfl rfl (Y_assign rfl rfl) ?_; clear hf; intro a hf
  refine wpO_nil ?_
  obtain ⟨r70, hl71, hm⟩ := bind_some hm
  refine wpL_block (fun a w => Sum.inr () = r70 ∧ Fr a 27 [] ∧ St [] W w []) ?_ ?_
  ·refine wpL_loop (fun n a w => ∃ x47 : Int, spec_l02Same_L1 F aK aY n x47 = some r70 ∧ Fr a 27 [(0, .slice aH aK.length aP), (1, .slice ba aY.length bp), (5, .int .i64 x47)] ∧ St [] W w []) F ?_ ?_ ?_
   ·exact ⟨0, hl71, (FrD.pick (FrD.pick (FrD.pick hf.none hf rfl) hf rfl) hf rfl), hs⟩
   ·rintro a w ⟨x47, h0_, -, -⟩; simp [spec_l02Same_L1] at h0_
   ·rintro n73 a w ⟨x47, hm72, hf, hs⟩
    rw [spec_l02Same_L1] at hm72
    refine wpL_seq <| wpL_seq <| wpL_region ?_
    refine sY hf hs rfl rfl rfl (Y_move rfl rfl) ?_; clear hf; intro a hf
    refine sY hf hs rfl rfl rfl (Y_move rfl rfl) ?_; clear hf; intro a hf
    refine sY hf hs rfl rfl rfl (Y_lenH rfl rfl el40 rfl) ?_; clear hf; intro a hf
    refine sY hf hs rfl rfl rfl (Y_lss rfl rfl rfl) ?_; clear hf; intro a hf
    refine wpO_nil ?_
    refine wpL_cond hf rfl (fun hb74 => ?_) (fun hb74 => ?_)
    ·have hm72 := bif_t hm72 hb74
     refine wpL_skip <| wpL_seq <| wpL_block0 <| wpL_seq ?_
     refine wpL_draw (by kernel_rfl) (by kernel_rfl) hs ?_
     refine qY hf rfl rfl rfl (Y_move rfl rfl) ?_; clear hf; intro a hf
     refine qY hf rfl rfl rfl (Y_move rfl rfl) ?_; clear hf; intro a hf
     obtain ⟨q75, hi76, hm72⟩ := bind_some hm72
     obtain ⟨hi76a, hi76b, hi76q⟩ := idx_some hi76
     obtain ⟨vs77, hv78, hr79⟩ := id bb
     obtain ⟨A80, c81, hv82, hR83⟩ := hr79 _ _ hi76q
     refine qY hf rfl rfl rfl (Y_index rfl rfl rfl el40 ti28 (Rd.isAt hv78 hv82) hi76a hi76b) ?_; clear hf; intro a hf
     refine qY hf rfl rfl rfl (Y_load_rd rfl rfl (fun w hs => hv78.at hs) (at1 hv82) ag28) ?_; clear hf; intro a hf
     refine qY hf rfl rfl rfl (Y_move rfl rfl) ?_; clear hf; intro a hf
     refine qY hf rfl rfl rfl (Y_move rfl rfl) ?_; clear hf; intro a hf
     obtain ⟨q84, hi85, hm72⟩ := bind_some hm72
     obtain ⟨hi85a, hi85b, hi85q⟩ := idx_some hi85
     obtain ⟨vs86, hv87, hr88⟩ := id bH
     obtain ⟨A89, c90, hv91, hR92⟩ := hr88 _ _ hi85q
     refine qY hf rfl rfl rfl (Y_index rfl rfl rfl el40 ti28 (Rd.isAt hv87 hv91) hi85a hi85b) ?_; clear hf; intro a hf
     refine qY hf rfl rfl rfl (Y_load_rd rfl rfl (fun w hs => hv87.at hs) (at1 hv91) ag28) ?_; clear hf; intro a hf
     obtain ⟨r93, hc94, hm72⟩ := bind_some hm72
     refine qCall hf rfl rfl rfl rfl (cap := []) rfl rfl en205 (v := .bool r93) (fun w hs => Calls.scal (spec_l01Same_ok F q75 A80 q75.length c81 rfl q84 A89 q84.length c90 rfl _ _ hc94 (hR83.at hs) (hR92.at hs))) ?_; clear hf; intro a hf
     refine qY hf rfl rfl rfl (Y_not rfl rfl) ?_; clear hf; intro a hf
     refine qNil ?_; clear hs; intro w hs
     refine wpL_cond hf rfl (fun hb95 => ?_) (fun hb95 => ?_)
     ·have hm72 := bif_t hm72 hb95
      refine wpL_seq <| wpL_region ?_
      refine sY hf hs rfl rfl rfl (Y_assign rfl rfl) ?_; clear hf; intro a hf
      refine wpO_nil ?_
      obtain rfl := Option.some.inj hm72
      try dsimp only at hm
      obtain rfl := Option.some.inj hm
      refine wpL_ret (Qb_ret (Ql_ret (Qb_ret (ret_tmp rfl hf rfl ?_))))
      exact ⟨_, rfl, rfl, hs⟩
     ·have hm72 := bif_f hm72 hb95
      refine wpL_skip ?_
      refine wpL_nil (Qb_normal ?_)
      refine wpL_region ?_
      refine sY hf hs rfl rfl rfl (Y_move rfl rfl) ?_; clear hf; intro a hf
      refine sY hf hs rfl rfl rfl (Y_add rfl rfl rfl) ?_; clear hf; intro a hf
      refine sY hf hs rfl rfl rfl (Y_assign rfl rfl) ?_; clear hf; intro a hf
      refine wpO_nil ?_
      refine wpL_nil (Ql_normal ?_)
      exact ⟨(IntKind.i64.wrap (x47 + 1)), hm72, (FrD.pick (FrD.pick (FrD.pick hf.none hf rfl) hf rfl) hf rfl), hs⟩
    ·have hm72 := bif_f hm72 hb74
     refine wpL_exit (Ql_exit (Qb_exit ?_))
     exact ⟨Option.some.inj hm72, hf.none, hs⟩
  ·rintro a w ⟨hr_, hf, hs⟩
   subst hr_
   try dsimp only at hm
   refine wpL_seq <| wpL_region ?_
   refine sY hf hs rfl rfl rfl (Y_assign rfl rfl) ?_; clear hf; intro a hf
   refine wpO_nil ?_
   obtain rfl := Option.some.inj hm
   refine wpL_ret (ret_tmp rfl hf rfl ?_)
   exact ⟨_, rfl, rfl, hs⟩

set_option maxRecDepth 100000 in
theorem spec_l03Star_ok (F : Nat) (aK : List (List Int)) (aH : Option Addr) (aT aP : Nat) (bj : aT = aK.length) (r : List (List Int) × Bool) (W : World) (hm : spec_l03Star F aK = some r) (bb : RdM W aH aK) :
  Calls Try.prog 83 [.slice aH aT aP].toArray W fun e w' => ∃ v, e = .returned v ∧ ∃ A143, ∃ n144, ∃ c145, ∃ vs147, v = .tuple #[.slice A143 n144 c145, .bool r.2] ∧ n144 = r.1.length ∧ St [] W w' [.mat A143 n144 c145 28 2 vs147 r.1] := by
 subst bj
 unfold spec_l03Star at hm
 refine Calls.enter (N := 33) Try.func83 rfl rfl rfl (fun a hf => ?_)
 have hs := St.start W
 obtain ⟨w, hw_⟩ : ∃ w, w = W := ⟨W, rfl⟩
 clear hw_ w
 refine wpL_seq <| wpL_region ?_
 refine sY hf hs rfl rfl rfl (Y_assign rfl rfl) ?_; clear hf; intro a hf
 refine sY hf hs rfl rfl rfl (Y_assign rfl rfl) ?_; clear hf; intro a hf
 refine wpO_nil <| wpL_seq <| wpL_region ?_
 refine sY hf hs rfl rfl rfl (Y_move rfl rfl) ?_; clear hf; intro a hf
 refine sY hf hs rfl rfl rfl (Y_lenH rfl rfl el40 rfl) ?_; clear hf; intro a hf
 refine sY hf hs rfl rfl rfl (Y_assign rfl rfl) ?_; clear hf; intro a hf
 refine wpO_nil <| wpL_seq <| wpL_region ?_
 refine sY hf hs rfl rfl rfl (Y_move rfl rfl) ?_; clear hf; intro a hf
 obtain ⟨r1, hc2, hm⟩ := bind_some hm
 refine sCall hf rfl rfl rfl rfl (cap := []) rfl rfl en150 (spec_l02Unit_ok F (aK.length : Int) _ _ hc2) ?_; clear hf
 rintro _ w ⟨A3, n4, c5, vs7, rfl, hn6, hs1⟩ a hf
 have hs : St _ W w [.mat A3 n4 c5 28 2 vs7 r1] := hs.join hs1
 clear hs1
 refine sY hf hs rfl rfl rfl (Y_assign rfl rfl) ?_; clear hf; intro a hf
 refine wpO_nil <| wpL_seq <| wpL_seq <| wpL_region ?_
 refine sY hf hs rfl rfl rfl (Y_assign rfl rfl) ?_; clear hf; intro a hf
 refine wpO_nil ?_
 obtain ⟨r94, hl95, hm⟩ := bind_some hm
 refine wpL_block (fun a w => ∃ ms88 : List (List Int), ∃ A89, ∃ n90, ∃ c91, ∃ vs93, ms88 = r94 ∧ n90 = ms88.length ∧ Fr a 33 [(0, .slice aH aK.length aP), (4, .int .i64 (aK.length : Int)), (5, .slice A89 n90 c91)] ∧ St [] W w [.mat A89 n90 c91 28 2 vs93 ms88]) ?_ ?_
 ·refine wpL_loop (fun n a w => ∃ ms59 : List (List Int), ∃ x65 : Int, ∃ A60, ∃ n61, ∃ c62, ∃ vs64, spec_l03Star_L1 F aK n ms59 x65 = some r94 ∧ n61 = ms59.length ∧ Fr a 33 [(0, .slice aH aK.length aP), (4, .int .i64 (aK.length : Int)), (5, .slice A60 n61 c62), (6, .int .i64 x65)] ∧ St [] W w [.mat A60 n61 c62 28 2 vs64 ms59]) F ?_ ?_ ?_
  ·exact ⟨r1, 0, A3, n4, c5, vs7, hl95, hn6, (FrD.pick (FrD.pick (FrD.pick (FrD.pick hf.none hf rfl) hf rfl) hf rfl) hf rfl), hs⟩
  ·rintro a w ⟨ms59, x65, A60, n61, c62, vs64, h0_, -, -, -⟩; simp [spec_l03Star_L1] at h0_
  ·rintro n97 a w ⟨ms59, x65, A60, n61, c62, vs64, hm96, hn63, hf, hs⟩
   rw [spec_l03Star_L1] at hm96
   refine wpL_seq <| wpL_seq <| wpL_region ?_
   refine sY hf hs rfl rfl rfl (Y_move rfl rfl) ?_; clear hf; intro a hf
   refine sY hf hs rfl rfl rfl (Y_move rfl rfl) ?_; clear hf; intro a hf
   refine sY hf hs rfl rfl rfl (Y_lss rfl rfl rfl) ?_; clear hf; intro a hf
   refine wpO_nil ?_
   refine wpL_cond hf rfl (fun hb98 => ?_) (fun hb98 => ?_)
   ·have hm96 := bif_t hm96 hb98
    refine wpL_skip <| wpL_seq <| wpL_block0 <| wpL_region ?_
    refine sY hf hs rfl rfl rfl (Y_move rfl rfl) ?_; clear hf; intro a hf
    obtain ⟨r99, hc100, hm96⟩ := bind_some hm96
    refine sCall hf rfl rfl rfl rfl (cap := []) rfl rfl en150 (spec_l02Unit_ok F (aK.length : Int) _ _ hc100) ?_; clear hf
    rintro _ w ⟨A101, n102, c103, vs105, rfl, hn104, hs1⟩ a hf
    have hs : St _ W w [_, .mat A101 n102 c103 28 2 vs105 r99] := hs.join hs1
    clear hs1
    refine sY hf hs rfl rfl rfl (Y_move rfl rfl) ?_; clear hf; intro a hf
    refine sY hf hs rfl rfl rfl (Y_move rfl rfl) ?_; clear hf; intro a hf
    obtain ⟨r106, hc107, hm96⟩ := bind_some hm96
    refine sCall hf rfl rfl rfl rfl (cap := []) rfl rfl en86 (spec_l02Multiply_ok F aK aH aK.length aP rfl ms59 A60 n61 c62 hn63 _ _ hc107 (bb.at hs) (hs.rdM (i := 0) rfl)) ?_; clear hf
    rintro _ w ⟨A108, n109, c110, vs112, rfl, hn111, hs1⟩ a hf
    have hs : St _ W w [_, _, .mat A108 n109 c110 28 2 vs112 r106] := hs.join hs1
    clear hs1
    obtain ⟨r113, hc114, hm96⟩ := bind_some hm96
    refine sCall hf rfl rfl rfl rfl (cap := []) rfl rfl en151 (spec_l02Add_ok F r99 A101 n102 c103 hn104 r106 A108 n109 c110 hn111 _ _ hc114 (hs.rdM (i := 1) rfl) (hs.rdM (i := 2) rfl)) ?_; clear hf
    rintro _ w ⟨A115, n116, c117, vs119, rfl, hn118, hs1⟩ a hf
    have hs : St _ W w [_, _, _, .mat A115 n116 c117 28 2 vs119 r113] := hs.join hs1
    clear hs1
    refine sY hf hs rfl rfl rfl (Y_assign rfl rfl) ?_; clear hf; intro a hf
    refine wpO_nil ?_
    refine wpL_nil (Qb_normal ?_)
    refine wpL_region ?_
    refine sY hf hs rfl rfl rfl (Y_move rfl rfl) ?_; clear hf; intro a hf
    refine sY hf hs rfl rfl rfl (Y_add rfl rfl rfl) ?_; clear hf; intro a hf
    refine sY hf hs rfl rfl rfl (Y_assign rfl rfl) ?_; clear hf; intro a hf
    refine wpO_nil ?_
    refine wpL_nil (Ql_normal ?_)
    exact ⟨r113, (IntKind.i64.wrap (x65 + 1)), A115, n116, c117, vs119, hm96, hn118, (FrD.pick (FrD.pick (FrD.pick (FrD.pick hf.none hf rfl) hf rfl) hf rfl) hf rfl), hs.sel [3] (by decide)⟩
   ·have hm96 := bif_f hm96 hb98
    refine wpL_exit (Ql_exit (Qb_exit ?_))
    exact ⟨ms59, A60, n61, c62, vs64, Option.some.inj hm96, hn63, (FrD.pick (FrD.pick (FrD.pick hf.none hf rfl) hf rfl) hf rfl), hs⟩
 ·rintro a w ⟨ms88, A89, n90, c91, vs93, hr_, hn92, hf, hs⟩
  subst hr_
  try dsimp only at hm
  refine wpL_seq <| wpL_region ?_
  refine sY hf hs rfl rfl rfl (Y_move rfl rfl) ?_; clear hf; intro a hf
  obtain ⟨r120, hc121, hm⟩ := bind_some hm
  refine sCall hf rfl rfl rfl rfl (cap := []) rfl rfl en150 (spec_l02Unit_ok F (aK.length : Int) _ _ hc121) ?_; clear hf
  rintro _ w ⟨A122, n123, c124, vs126, rfl, hn125, hs1⟩ a hf
  have hs : St _ W w [_, .mat A122 n123 c124 28 2 vs126 r120] := hs.join hs1
  clear hs1
  refine sY hf hs rfl rfl rfl (Y_move rfl rfl) ?_; clear hf; intro a hf
  refine sY hf hs rfl rfl rfl (Y_move rfl rfl) ?_; clear hf; intro a hf
  obtain ⟨r127, hc128, hm⟩ := bind_some hm
  refine sCall hf rfl rfl rfl rfl (cap := []) rfl rfl en86 (spec_l02Multiply_ok F aK aH aK.length aP rfl ms88 A89 n90 c91 hn92 _ _ hc128 (bb.at hs) (hs.rdM (i := 0) rfl)) ?_; clear hf
  rintro _ w ⟨A129, n130, c131, vs133, rfl, hn132, hs1⟩ a hf
  have hs : St _ W w [_, _, .mat A129 n130 c131 28 2 vs133 r127] := hs.join hs1
  clear hs1
  obtain ⟨r134, hc135, hm⟩ := bind_some hm
  refine sCall hf rfl rfl rfl rfl (cap := []) rfl rfl en151 (spec_l02Add_ok F r120 A122 n123 c124 hn125 r127 A129 n130 c131 hn132 _ _ hc135 (hs.rdM (i := 1) rfl) (hs.rdM (i := 2) rfl)) ?_; clear hf
  rintro _ w ⟨A136, n137, c138, vs140, rfl, hn139, hs1⟩ a hf
  have hs : St _ W w [_, _, _, .mat A136 n137 c138 28 2 vs140 r134] := hs.join hs1
  clear hs1
  refine sY hf hs rfl rfl rfl (Y_assign rfl rfl) ?_; clear hf; intro a hf
  refine wpO_nil <| wpL_seq <| wpL_region ?_
  refine sY hf hs rfl rfl rfl (Y_move rfl rfl) ?_; clear hf; intro a hf
  refine sY hf hs rfl rfl rfl (Y_move rfl rfl) ?_; clear hf; intro a hf
  refine sY hf hs rfl rfl rfl (Y_move rfl rfl) ?_; clear hf; intro a hf
  obtain ⟨r141, hc142, hm⟩ := bind_some hm
  refine sCall hf rfl rfl rfl rfl (cap := []) rfl rfl en152 (spec_l02Same_ok F r134 A136 n137 c138 hn139 ms88 A89 n90 c91 hn92 _ _ hc142 (hs.rdM (i := 3) rfl) (hs.rdM (i := 0) rfl)) ?_; clear hf
  rintro _ w ⟨rfl, hs1⟩ a hf
  have hs : St _ W w [_, _, _, _] := hs.ext hs1.below
  clear hs1
  refine sY hf hs rfl rfl rfl (Y_assign rfl rfl) ?_; clear hf; intro a hf
  refine sY hf hs rfl rfl rfl (Y_assign rfl rfl) ?_; clear hf; intro a hf
  refine wpO_nil ?_
  obtain rfl := Option.some.inj hm
  refine wpL_ret (ret_tmp2 rfl hf rfl rfl ?_)
  exact ⟨_, rfl, A89, n90, c91, vs93, rfl, hn92, hs.sel [0] (by decide)⟩

set_option maxRecDepth 100000 in
theorem spec_l02Apply_ok (F : Nat) (aK : List (List Int)) (aH : Option Addr) (aT aP : Nat) (bj : aT = aK.length) (cq : List Int) (cv : Option Addr) (cP cD : Nat) (cY : cP = cq.length) (r : List Int) (W : World) (hm : spec_l02Apply F aK cq = some r) (bb : RdM W aH aK) (cQ : Rd W cv (ints cq)) :
  Calls Try.prog 140 [.slice aH aT aP, .slice cv cP cD].toArray W fun e w' => ∃ v, e = .returned v ∧ ∃ A344, ∃ n345, ∃ c346, v = .slice A344 n345 c346 ∧ n345 = r.length ∧ St [] W w' [.row A344 n345 c346 2 1 (ints r)] := by
 subst bj
 subst cY
 unfold spec_l02Apply at hm
 refine Calls.enter (N := 41) Try.func140 rfl rfl rfl (fun a hf => ?_)
 have hs := St.start W
 obtain ⟨w, hw_⟩ : ∃ w, w = W := ⟨W, rfl⟩
 clear hw_ w
 refine wpL_seq <| wpL_region ?_
 refine sY hf hs rfl rfl rfl (Y_assign rfl rfl) ?_; clear hf; intro a hf
 refine wpO_nil <| wpL_seq <| wpL_region ?_
 refine sEmpty hf hs rfl rfl rfl rfl el28 ti2 ?_; clear hf hs; intro a w A1 hs hf
 have hs : St _ W w [.row A1 0 0 2 1 (ints ([] : List Int))] := hs
 refine sY hf hs rfl rfl rfl (Y_assign rfl rfl) ?_; clear hf; intro a hf
 refine wpO_nil <| wpL_seq <| wpL_seq <| wpL_region ?_
 refine sY hf hs rfl rfl rfl (Y_assign rfl rfl) ?_; clear hf; intro a hf
 refine wpO_nil ?_
 obtain ⟨r260, hl261, hm⟩ := bind_some hm
 refine wpL_block (fun a w => ∃ xs255 : List Int, ∃ A256, ∃ n257, ∃ c258, xs255 = r260 ∧ n257 = xs255.length ∧ Fr a 41 [(5, .slice A256 n257 c258)] ∧ St [] W w [.row A256 n257 c258 2 1 (ints xs255)]) ?_ ?_
 ·refine wpL_loop (fun n a w => ∃ xs169 : List Int, ∃ x174 : Int, ∃ A170, ∃ n171, ∃ c172, spec_l02Apply_L4 F aK cq n xs169 x174 = some r260 ∧ n171 = xs169.length ∧ Fr a 41 [(0, .slice aH aK.length aP), (1, .slice cv cq.length cD), (5, .slice A170 n171 c172), (6, .int .i64 x174)] ∧ St [] W w [.row A170 n171 c172 2 1 (ints xs169)]) F ?_ ?_ ?_
  ·exact ⟨([] : List Int), 0, A1, 0, 0, hl261, rfl, (FrD.pick (FrD.pick (FrD.pick (FrD.pick hf.none hf rfl) hf rfl) hf rfl) hf rfl), hs⟩
  ·rintro a w ⟨xs169, x174, A170, n171, c172, h0_, -, -, -⟩; simp [spec_l02Apply_L4] at h0_
  ·rintro n263 a w ⟨xs169, x174, A170, n171, c172, hm262, hn173, hf, hs⟩
   rw [spec_l02Apply_L4] at hm262
   refine wpL_seq <| wpL_seq <| wpL_region ?_
   refine sY hf hs rfl rfl rfl (Y_move rfl rfl) ?_; clear hf; intro a hf
   refine sY hf hs rfl rfl rfl (Y_move rfl rfl) ?_; clear hf; intro a hf
   refine sY hf hs rfl rfl rfl (Y_lenH rfl rfl el40 rfl) ?_; clear hf; intro a hf
   refine sY hf hs rfl rfl rfl (Y_lss rfl rfl rfl) ?_; clear hf; intro a hf
   refine wpO_nil ?_
   refine wpL_cond hf rfl (fun hb264 => ?_) (fun hb264 => ?_)
   ·have hm262 := bif_t hm262 hb264
    refine wpL_skip <| wpL_seq <| wpL_block0 <| wpL_seq <| wpL_region ?_
    refine sY hf hs rfl rfl rfl (Y_assign rfl rfl) ?_; clear hf; intro a hf
    refine wpO_nil <| wpL_seq <| wpL_seq <| wpL_region ?_
    refine sY hf hs rfl rfl rfl (Y_assign rfl rfl) ?_; clear hf; intro a hf
    refine wpO_nil ?_
    obtain ⟨r318, hl319, hm262⟩ := bind_some hm262
    refine wpL_block (fun a w => ∃ x317 : Int, x317 = r318 ∧ Fr a 41 [(0, .slice aH aK.length aP), (1, .slice cv cq.length cD), (5, .slice A170 n171 c172), (6, .int .i64 x174), (7, .int .i64 x317)] ∧ St [] W w [.row A170 n171 c172 2 1 (ints xs169)]) ?_ ?_
    ·refine wpL_loop (fun n a w => ∃ x299 : Int, ∃ x300 : Int, spec_l02Apply_L5 F aK cq x174 n x299 x300 = some r318 ∧ Fr a 41 [(0, .slice aH aK.length aP), (1, .slice cv cq.length cD), (5, .slice A170 n171 c172), (6, .int .i64 x174), (7, .int .i64 x299), (8, .int .i64 x300)] ∧ St [] W w [.row A170 n171 c172 2 1 (ints xs169)]) F ?_ ?_ ?_
     ·exact ⟨(-1000000000000000), 0, hl319, (FrD.pick (FrD.pick (FrD.pick (FrD.pick (FrD.pick (FrD.pick hf.none hf rfl) hf rfl) hf rfl) hf rfl) hf rfl) hf rfl), hs⟩
     ·rintro a w ⟨x299, x300, h0_, -, -⟩; simp [spec_l02Apply_L5] at h0_
     ·rintro n321 a w ⟨x299, x300, hm320, hf, hs⟩
      rw [spec_l02Apply_L5] at hm320
      refine wpL_seq <| wpL_seq <| wpL_region ?_
      refine sY hf hs rfl rfl rfl (Y_move rfl rfl) ?_; clear hf; intro a hf
      refine sY hf hs rfl rfl rfl (Y_move rfl rfl) ?_; clear hf; intro a hf
      refine sY hf hs rfl rfl rfl (Y_lenH rfl rfl el28 rfl) ?_; clear hf; intro a hf
      refine sY hf hs rfl rfl rfl (Y_lss rfl rfl rfl) ?_; clear hf; intro a hf
      refine wpO_nil ?_
      refine wpL_cond hf rfl (fun hb322 => ?_) (fun hb322 => ?_)
      ·have hm320 := bif_t hm320 hb322
       refine wpL_skip <| wpL_seq <| wpL_block0 ?_
       refine wpL_draw (by kernel_rfl) (by kernel_rfl) hs ?_
       refine qY hf rfl rfl rfl (Y_move rfl rfl) ?_; clear hf; intro a hf
       refine qY hf rfl rfl rfl (Y_move rfl rfl) ?_; clear hf; intro a hf
       refine qY hf rfl rfl rfl (Y_move rfl rfl) ?_; clear hf; intro a hf
       obtain ⟨q323, hi324, hm320⟩ := bind_some hm320
       obtain ⟨hi324a, hi324b, hi324q⟩ := idx_some hi324
       obtain ⟨vs325, hv326, hr327⟩ := id bb
       obtain ⟨A328, c329, hv330, hR331⟩ := hr327 _ _ hi324q
       refine qY hf rfl rfl rfl (Y_index rfl rfl rfl el40 ti28 (Rd.isAt hv326 hv330) hi324a hi324b) ?_; clear hf; intro a hf
       refine qY hf rfl rfl rfl (Y_load_rd rfl rfl (fun w hs => hv326.at hs) (at1 hv330) ag28) ?_; clear hf; intro a hf
       refine qY hf rfl rfl rfl (Y_move rfl rfl) ?_; clear hf; intro a hf
       obtain ⟨q332, hi333, hm320⟩ := bind_some hm320
       obtain ⟨hi333a, hi333b, hi333q⟩ := idx_some hi333
       refine qY hf rfl rfl rfl (Y_index rfl rfl rfl el28 ti2 (Rd.isAt (hR331.at hs) (at1 (ints_at hi333q))) hi333a hi333b) ?_; clear hf; intro a hf
       refine qY hf rfl rfl rfl (Y_load_rd rfl rfl (fun w hs => hR331.at hs) (at1 (ints_at hi333q)) ag2) ?_; clear hf; intro a hf
       refine qY hf rfl rfl rfl (Y_move rfl rfl) ?_; clear hf; intro a hf
       refine qY hf rfl rfl rfl (Y_move rfl rfl) ?_; clear hf; intro a hf
       obtain ⟨q334, hi335, hm320⟩ := bind_some hm320
       obtain ⟨hi335a, hi335b, hi335q⟩ := idx_some hi335
       refine qY hf rfl rfl rfl (Y_index rfl rfl rfl el28 ti2 (Rd.isAt (cQ.at hs) (at1 (ints_at hi335q))) hi335a hi335b) ?_; clear hf; intro a hf
       refine qY hf rfl rfl rfl (Y_load_rd rfl rfl (fun w hs => cQ.at hs) (at1 (ints_at hi335q)) ag2) ?_; clear hf; intro a hf
       obtain ⟨r336, hc337, hm320⟩ := bind_some hm320
       refine qCall hf rfl rfl rfl rfl (cap := []) rfl rfl en155 (v := .int .i64 r336) (fun w hs => Calls.scal (spec_l01Times_ok F q332 q334 _ _ hc337)) ?_; clear hf; intro a hf
       refine qY hf rfl rfl rfl (Y_max rfl rfl rfl) ?_; clear hf; intro a hf
       refine qY hf rfl rfl rfl (Y_assign rfl rfl) ?_; clear hf; intro a hf
       refine qNil ?_; clear hs; intro w hs
       refine wpL_nil (Qb_normal ?_)
       refine wpL_region ?_
       refine sY hf hs rfl rfl rfl (Y_move rfl rfl) ?_; clear hf; intro a hf
       refine sY hf hs rfl rfl rfl (Y_add rfl rfl rfl) ?_; clear hf; intro a hf
       refine sY hf hs rfl rfl rfl (Y_assign rfl rfl) ?_; clear hf; intro a hf
       refine wpO_nil ?_
       refine wpL_nil (Ql_normal ?_)
       exact ⟨(max x299 r336), (IntKind.i64.wrap (x300 + 1)), hm320, (FrD.pick (FrD.pick (FrD.pick (FrD.pick (FrD.pick (FrD.pick hf.none hf rfl) hf rfl) hf rfl) hf rfl) hf rfl) hf rfl), hs⟩
      ·have hm320 := bif_f hm320 hb322
       refine wpL_exit (Ql_exit (Qb_exit ?_))
       exact ⟨x299, Option.some.inj hm320, (FrD.pick (FrD.pick (FrD.pick (FrD.pick (FrD.pick hf.none hf rfl) hf rfl) hf rfl) hf rfl) hf rfl), hs⟩
    ·rintro a w ⟨x317, hr_, hf, hs⟩
     subst hr_
     try dsimp only at hm262
     refine wpL_region ?_
     refine sY hf hs rfl rfl rfl (Y_move rfl rfl) ?_; clear hf; intro a hf
     refine sY hf hs rfl rfl rfl (Y_move rfl rfl) ?_; clear hf; intro a hf
     refine sBuildSlice (parts := [(0, .tmp 37)]) (vs := [.int .i64 x317]) (cells := [.int .i64 x317]) hf hs rfl rfl rfl rfl rfl el28 ti2 rfl rfl rfl rfl ?_; clear hf hs; intro a w A338 hs hA339 hf
     have hs : St _ W w [_, .row A338 1 1 2 1 (ints ([x317]))] := hs
     obtain ⟨xs342, ha343, hm262⟩ := bind_some hm262
     refine sAppendL (i := 0) (xs := xs169) (ys := [x317]) (enc := ints) hf hs rfl rfl rfl rfl rfl rfl hn173 rfl rfl ha343 el28 ti2 rfl rfl rfl (hs.rd (i := 1) rfl) (Nat.succ_pos _) ints_len1 ints_append ints_one ?_; clear hf hs; intro a w A340 c341 hs hf
     have hs : St _ W w [.row A340 xs342.length c341 2 1 (ints xs342), _] := hs
     refine sY hf hs rfl rfl rfl (Y_assign rfl rfl) ?_; clear hf; intro a hf
     refine wpO_nil ?_
     refine wpL_nil (Qb_normal ?_)
     refine wpL_region ?_
     refine sY hf hs rfl rfl rfl (Y_move rfl rfl) ?_; clear hf; intro a hf
     refine sY hf hs rfl rfl rfl (Y_add rfl rfl rfl) ?_; clear hf; intro a hf
     refine sY hf hs rfl rfl rfl (Y_assign rfl rfl) ?_; clear hf; intro a hf
     refine wpO_nil ?_
     refine wpL_nil (Ql_normal ?_)
     exact ⟨xs342, (IntKind.i64.wrap (x174 + 1)), A340, xs342.length, c341, hm262, rfl, (FrD.pick (FrD.pick (FrD.pick (FrD.pick hf.none hf rfl) hf rfl) hf rfl) hf rfl), hs.sel [0] (by decide)⟩
   ·have hm262 := bif_f hm262 hb264
    refine wpL_exit (Ql_exit (Qb_exit ?_))
    exact ⟨xs169, A170, n171, c172, Option.some.inj hm262, hn173, (FrD.pick hf.none hf rfl), hs⟩
 ·rintro a w ⟨xs255, A256, n257, c258, hr_, hn259, hf, hs⟩
  subst hr_
  try dsimp only at hm
  refine wpL_seq <| wpL_region ?_
  refine sY hf hs rfl rfl rfl (Y_move rfl rfl) ?_; clear hf; intro a hf
  refine sY hf hs rfl rfl rfl (Y_assign rfl rfl) ?_; clear hf; intro a hf
  refine wpO_nil ?_
  obtain rfl := Option.some.inj hm
  refine wpL_ret (ret_tmp rfl hf rfl ?_)
  exact ⟨_, rfl, A256, n257, c258, rfl, hn259, hs⟩

set_option maxRecDepth 100000 in
theorem spec_EarliestTimetable_ok (F : Nat) (ah : GEventGraph) (ag : Option Addr) (ax ai : Nat) (aB : ax = ah.Places.length) (bt : Int) (r : GTimetable × Int) (W : World) (hm : spec_EarliestTimetable F ah bt = some r) (ay : Rd W ag ((recs GPlace.cells) ah.Places)) :
  Calls Try.prog 218 [.agg #[.int .i64 ah.Events, .slice ag ax ai], .int .i64 bt].toArray W fun e w' => ∃ v, e = .returned v ∧ ∃ A32, ∃ n33, ∃ c34, v = .tuple #[.agg #[.int .i64 r.1.Period, .slice A32 n33 c34], .int .i64 r.2] ∧ n33 = r.1.Starts.length ∧ St [] W w' [.row A32 n33 c34 2 1 (ints r.1.Starts)] := by
 subst aB
 unfold spec_EarliestTimetable at hm
 refine Calls.enter (N := 34) Try.func218 rfl rfl rfl (fun a hf => ?_)
 have hs := St.start W
 obtain ⟨w, hw_⟩ : ∃ w, w = W := ⟨W, rfl⟩
 clear hw_ w
 refine wpL_seq <| wpL_region ?_
 refine sBox hf hs rfl rfl rfl rfl rfl (cs := [.int .i64 ah.Events, .slice ag ah.Places.length ai]) rfl ?_; clear hf hs; intro a w b1 hs hf
 have hs : St _ W w [.blk b1 55 [.int .i64 ah.Events, .slice ag ah.Places.length ai]] := hs
 refine sAlloc hf hs rfl rfl rfl rfl ti66 ?_; clear hf hs; intro a w b2 hs hf
 have hs : St _ W w [_, .blk b2 66 [.int .i64 0, .slice none 0 0]] := hs
 refine sY hf hs rfl rfl rfl (Y_assign rfl rfl) ?_; clear hf; intro a hf
 refine wpO_nil <| wpL_seq <| wpL_region ?_
 refine sY hf hs rfl rfl rfl (Y_load_blkS rfl rfl (i := 0) rfl ag55 ti55 rfl) ?_; clear hf; intro a hf
 refine sY hf hs rfl rfl rfl (Y_move rfl rfl) ?_; clear hf; intro a hf
 obtain ⟨r3, hc4, hm⟩ := bind_some hm
 refine sCall hf rfl rfl rfl rfl (cap := []) rfl rfl en122 (spec_l20Period_ok F ah ag ah.Places.length ai rfl bt _ _ hc4 (ay.at hs)) ?_; clear hf
 rintro _ w ⟨rfl, hs1⟩ a hf
 have hs : St _ W w [_, _] := hs.ext hs1.below
 clear hs1
 refine sY hf hs rfl rfl rfl (Y_assign rfl rfl) ?_; clear hf; intro a hf
 refine wpO_nil <| wpL_seq <| wpL_seq <| wpL_region ?_
 refine sY hf hs rfl rfl rfl (Y_move rfl rfl) ?_; clear hf; intro a hf
 refine sY hf hs rfl rfl rfl (Y_neq rfl rfl rfl) ?_; clear hf; intro a hf
 refine wpO_nil ?_
 refine wpL_cond hf rfl (fun hb5 => ?_) (fun hb5 => ?_)
 ·have hm := bif_t hm hb5
  refine wpL_seq <| wpL_region ?_
  refine sY hf hs rfl rfl rfl (Y_build (parts := []) (vs := []) rfl rfl (run_build (parts := []) (cells := [.int .i64 0, .slice none 0 0]) (places := #[(0, 1), (1, 1)]) ti66 Try.underlying66 (fun w => by simp [go_sem]) rfl)) ?_; clear hf; intro a hf
  refine sY hf hs rfl rfl rfl (Y_move rfl rfl) ?_; clear hf; intro a hf
  refine sStore (i := 1) (us := [.int .i64 0, .slice none 0 0]) hf hs rfl rfl rfl rfl rfl rfl ti66 rfl rfl rfl (Nat.le_of_ble_eq_true rfl) rfl ?_; clear hs; intro w hs
  have hs : St _ W w [_, _] := hs
  refine sY hf hs rfl rfl rfl (Y_assign rfl rfl) ?_; clear hf; intro a hf
  refine wpO_nil ?_
  have hs : St [] W _ [.blk b1 55 [.int .i64 ah.Events, .slice ag ah.Places.length ai], .blk b2 66 [.int .i64 0, .slice none 0 0], .row none 0 0 2 1 (ints ([] : List Int))] := hs.addNil 2 1
  obtain rfl := Option.some.inj hm
  refine wpL_ret (ret_cell_tmp rfl hf rfl rfl hs (i := 1) rfl ag66 ti66 rfl ?_)
  exact ⟨_, rfl, none, 0, 0, rfl, rfl, hs.sel [2] (by decide)⟩
 ·have hm := bif_f hm hb5
  refine wpL_skip <| wpL_seq <| wpL_region ?_
  refine sY hf hs rfl rfl rfl (Y_load_blkS rfl rfl (i := 0) rfl ag55 ti55 rfl) ?_; clear hf; intro a hf
  refine sY hf hs rfl rfl rfl (Y_move rfl rfl) ?_; clear hf; intro a hf
  refine sY hf hs rfl rfl rfl (Y_build (parts := [(0, .tmp 18), (1, .const (.int .i64 1))]) (vs := [.int .i64 bt, .int .i64 1]) rfl rfl (run_build (parts := [(0, .int .i64 bt), (1, .int .i64 1)]) (cells := [.int .i64 bt, .int .i64 1]) (places := #[(0, 1), (1, 1)]) ti129 Try.underlying129 (fun w => by simp [go_sem]) rfl)) ?_; clear hf; intro a hf
  obtain ⟨r7, hc8, hm⟩ := bind_some hm
  refine sCall hf rfl rfl rfl rfl (cap := []) rfl rfl en123 (spec_l15Weights_ok F ah ag ah.Places.length ai rfl (GRatio.mk bt 1) _ _ hc8 (ay.at hs)) ?_; clear hf
  rintro _ w ⟨A9, n10, c11, vs13, rfl, hn12, hs1⟩ a hf
  have hs : St _ W w [_, _, .mat A9 n10 c11 28 2 vs13 r7] := hs.join hs1
  clear hs1
  obtain ⟨r14, hc15, hm⟩ := bind_some hm
  refine sCall hf rfl rfl rfl rfl (cap := []) rfl rfl en83 (spec_l03Star_ok F r7 A9 n10 c11 hn12 _ _ hc15 (hs.rdM (i := 2) rfl)) ?_; clear hf
  rintro _ w ⟨A16, n17, c18, vs20, rfl, hn19, hs1⟩ a hf
  have hs : St _ W w [_, _, _, .mat A16 n17 c18 28 2 vs20 r14.1] := hs.join hs1
  clear hs1
  refine sY hf hs rfl rfl rfl (Y_move rfl rfl) ?_; clear hf; intro a hf
  refine sY hf hs rfl rfl rfl (Y_extract rfl rfl rfl) ?_; clear hf; intro a hf
  refine sY hf hs rfl rfl rfl (Y_extract rfl rfl rfl) ?_; clear hf; intro a hf
  refine sY hf hs rfl rfl rfl (Y_assign rfl rfl) ?_; clear hf; intro a hf
  refine sY hf hs rfl rfl rfl (Y_assign rfl rfl) ?_; clear hf; intro a hf
  refine wpO_nil <| wpL_seq <| wpL_seq <| wpL_region ?_
  refine sY hf hs rfl rfl rfl (Y_move rfl rfl) ?_; clear hf; intro a hf
  refine sY hf hs rfl rfl rfl (Y_not rfl rfl) ?_; clear hf; intro a hf
  refine wpO_nil ?_
  refine wpL_cond hf rfl (fun hb21 => ?_) (fun hb21 => ?_)
  ·have hm := bif_t hm hb21
   refine wpL_seq <| wpL_region ?_
   refine sY hf hs rfl rfl rfl (Y_build (parts := []) (vs := []) rfl rfl (run_build (parts := []) (cells := [.int .i64 0, .slice none 0 0]) (places := #[(0, 1), (1, 1)]) ti66 Try.underlying66 (fun w => by simp [go_sem]) rfl)) ?_; clear hf; intro a hf
   refine sStore (i := 1) (us := [.int .i64 0, .slice none 0 0]) hf hs rfl rfl rfl rfl rfl rfl ti66 rfl rfl rfl (Nat.le_of_ble_eq_true rfl) rfl ?_; clear hs; intro w hs
   have hs : St _ W w [_, _, _, _] := hs
   refine sY hf hs rfl rfl rfl (Y_assign rfl rfl) ?_; clear hf; intro a hf
   refine wpO_nil ?_
   have hs : St [] W _ [.blk b1 55 [.int .i64 ah.Events, .slice ag ah.Places.length ai], .blk b2 66 [.int .i64 0, .slice none 0 0], .mat A9 n10 c11 28 2 vs13 r7, .mat A16 n17 c18 28 2 vs20 r14.1, .row none 0 0 2 1 (ints ([] : List Int))] := hs.addNil 2 1
   obtain rfl := Option.some.inj hm
   refine wpL_ret (ret_cell_tmp rfl hf rfl rfl hs (i := 1) rfl ag66 ti66 rfl ?_)
   exact ⟨_, rfl, none, 0, 0, rfl, rfl, hs.sel [4] (by decide)⟩
  ·have hm := bif_f hm hb21
   refine wpL_skip <| wpL_seq <| wpL_region ?_
   refine sY hf hs rfl rfl rfl (Y_move rfl rfl) ?_; clear hf; intro a hf
   refine sY hf hs rfl rfl rfl (Y_move rfl rfl) ?_; clear hf; intro a hf
   refine sY hf hs rfl rfl rfl (Y_fieldAddr rfl rfl fo55_0) ?_; clear hf; intro a hf
   refine sY hf hs rfl rfl rfl (Y_load_blk rfl rfl (i := 0) rfl rfl ag2) ?_; clear hf; intro a hf
   obtain ⟨xs25, hk24, hm⟩ := bind_some hm
   refine sMakeL (enc := ints) hf hs rfl rfl rfl rfl rfl hk24 el28 ti2 rfl ints_made ?_; clear hf hs; intro a w A23 hs hf
   have hs : St _ W w [_, _, _, _, .row A23 xs25.length xs25.length 2 1 (ints xs25)] := hs
   obtain ⟨r26, hc27, hm⟩ := bind_some hm
   refine sCall hf rfl rfl rfl rfl (cap := []) rfl rfl en140 (spec_l02Apply_ok F r14.1 A16 n17 c18 hn19 xs25 A23 xs25.length xs25.length rfl _ _ hc27 (hs.rdM (i := 3) rfl) (hs.rd (i := 4) rfl)) ?_; clear hf
   rintro _ w ⟨A28, n29, c30, rfl, hn31, hs1⟩ a hf
   have hs : St _ W w [_, _, _, _, _, .row A28 n29 c30 2 1 (ints r26)] := hs.join hs1
   clear hs1
   refine sY hf hs rfl rfl rfl (Y_build (parts := [(0, .tmp 27), (1, .tmp 32)]) (vs := [.int .i64 bt, .slice A28 n29 c30]) rfl rfl (run_build (parts := [(0, .int .i64 bt), (1, .slice A28 n29 c30)]) (cells := [.int .i64 bt, .slice A28 n29 c30]) (places := #[(0, 1), (1, 1)]) ti66 Try.underlying66 (fun w => by simp [go_sem]) rfl)) ?_; clear hf; intro a hf
   refine sStore (i := 1) (us := [.int .i64 bt, .slice A28 n29 c30]) hf hs rfl rfl rfl rfl rfl rfl ti66 rfl rfl rfl (Nat.le_of_ble_eq_true rfl) rfl ?_; clear hs; intro w hs
   have hs : St _ W w [_, .blk b2 66 [.int .i64 bt, .slice A28 n29 c30], _, _, _, _] := hs
   refine sY hf hs rfl rfl rfl (Y_assign rfl rfl) ?_; clear hf; intro a hf
   refine wpO_nil ?_
   obtain rfl := Option.some.inj hm
   refine wpL_ret (ret_cell_tmp rfl hf rfl rfl hs (i := 1) rfl ag66 ti66 rfl ?_)
   exact ⟨_, rfl, A28, n29, c30, rfl, hn31, hs.sel [5] (by decide)⟩

set_option maxHeartbeats 2000000 in
set_option maxRecDepth 100000 in
theorem spec_l20Draw_ok (F : Nat) (b_p0 : Nat) (ad : List Int) (ae : Option Addr) (bg af : Nat) (cn : bg = ad.length) (ar : Int) (am : Int) (r : (GEventGraph × GTimetable) × Int × Int) (W : World) (hm : spec_l20Draw F ad ar am = some r) (aL : KR (muL [.blk b_p0 149 [.slice ae bg af, .int .i64 ar, .int .i64 am]]) W ae (bytes ad)) (hst : St (muL [.blk b_p0 149 [.slice ae bg af, .int .i64 ar, .int .i64 am]]) W W [.blk b_p0 149 [.slice ae bg af, .int .i64 ar, .int .i64 am]]) :
  Calls Try.prog 195 [.pointer (some ⟨b_p0, 0, none⟩)].toArray W fun e w' => ∃ v, e = .returned v ∧ ∃ A137, ∃ n138, ∃ c139, ∃ A141, ∃ n142, ∃ c143, v = .tuple #[.agg #[.int .i64 r.1.1.Events, .slice A137 n138 c139], .agg #[.int .i64 r.1.2.Period, .slice A141 n142 c143]] ∧ n138 = r.1.1.Places.length ∧ n142 = r.1.2.Starts.length ∧ St (muL [.blk b_p0 149 [.slice ae bg af, .int .i64 ar, .int .i64 am]]) W w' [.row A137 n138 c139 64 4 ((recs GPlace.cells) r.1.1.Places), .row A141 n142 c143 2 1 (ints r.1.2.Starts), .blk b_p0 149 [.slice ae bg af, .int .i64 r.2.1, .int .i64 r.2.2]] := by
 subst cn
 unfold spec_l20Draw at hm
 refine Calls.enter (N := 81) Try.func195 rfl rfl rfl (fun a hf => ?_)
 have hs := hst
 obtain ⟨w, hw_⟩ : ∃ w, w = W := ⟨W, rfl⟩
 clear hw_ w
 refine wpL_seq <| wpL_region ?_
 refine sAlloc hf hs rfl rfl rfl rfl ti55 ?_; clear hf hs; intro a w b1 hs hf
 have hs : St _ W w [.blk b_p0 149 [.slice ae ad.length af, .int .i64 ar, .int .i64 am], .blk b1 55 [.int .i64 0, .slice none 0 0]] := hs
 refine sAlloc hf hs rfl rfl rfl rfl ti66 ?_; clear hf hs; intro a w b2 hs hf
 have hs : St _ W w [_, _, _] := hs
 refine wpO_nil <| wpL_seq <| wpL_region ?_
 refine sY hf hs rfl rfl rfl (Y_move rfl rfl) ?_; clear hf; intro a hf
 obtain ⟨r3, hc4, hm⟩ := bind_some hm
 refine sCall hf rfl rfl rfl rfl (cap := []) rfl rfl en117 (spec_l20DrawPeriod_ok F b_p0 ad ae ad.length af rfl ar am _ _ hc4 (aL.pass hs [0]) (hs.sel [0] (by decide)).rebase) ?_; clear hf
 rintro _ w ⟨A5, n6, c7, rfl, hn8, hs1⟩ a hf
 have hs : St _ W w [_, _, .row A5 n6 c7 64 4 ((recs GPlace.cells) r3.1.1.Places), .blk b_p0 149 [.slice ae ad.length af, .int .i64 r3.2.1, .int .i64 r3.2.2]] := St.mutTail (La := [_, _]) (Lb := [_]) (hs.sel [1, 2, 0] (by decide)) hs1
 clear hs1
 refine sY hf hs rfl rfl rfl (Y_move rfl rfl) ?_; clear hf; intro a hf
 refine sY hf hs rfl rfl rfl (Y_extract rfl rfl rfl) ?_; clear hf; intro a hf
 refine sY hf hs rfl rfl rfl (Y_extract rfl rfl rfl) ?_; clear hf; intro a hf
 refine sAlloc hf hs rfl rfl rfl rfl ti55 ?_; clear hf hs; intro a w b9 hs hf
 have hs : St _ W w [_, _, _, _, .blk b9 55 [.int .i64 0, .slice none 0 0]] := hs
 refine sStore (i := 4) (us := [.int .i64 r3.1.1.Events, .slice A5 n6 c7]) hf hs rfl rfl rfl rfl rfl rfl ti55 rfl rfl rfl (Nat.le_of_ble_eq_true rfl) rfl ?_; clear hs; intro w hs
 have hs : St _ W w [_, _, _, _, .blk b9 55 [.int .i64 r3.1.1.Events, .slice A5 n6 c7]] := hs
 refine sY hf hs rfl rfl rfl (Y_assign rfl rfl) ?_; clear hf; intro a hf
 refine wpO_nil <| wpL_seq <| wpL_region ?_
 refine sY hf hs rfl rfl rfl (Y_load_blkS rfl rfl (i := 4) rfl ag55 ti55 rfl) ?_; clear hf; intro a hf
 refine sY hf hs rfl rfl rfl (Y_move rfl rfl) ?_; clear hf; intro a hf
 obtain ⟨r10, hc11, hm⟩ := bind_some hm
 refine sCall hf rfl rfl rfl rfl (cap := []) rfl rfl en218 (spec_EarliestTimetable_ok F (GEventGraph.mk r3.1.1.Events r3.1.1.Places) A5 n6 c7 hn8 r3.1.2 _ _ hc11 (hs.rd (i := 2) rfl)) ?_; clear hf
 rintro _ w ⟨A12, n13, c14, rfl, hn15, hs1⟩ a hf
 have hs : St _ W w [_, _, _, _, _, .row A12 n13 c14 2 1 (ints r10.1.Starts)] := hs.join hs1
 clear hs1
 refine sY hf hs rfl rfl rfl (Y_move rfl rfl) ?_; clear hf; intro a hf
 refine sY hf hs rfl rfl rfl (Y_extract rfl rfl rfl) ?_; clear hf; intro a hf
 refine sY hf hs rfl rfl rfl (Y_extract rfl rfl rfl) ?_; clear hf; intro a hf
 refine sAlloc hf hs rfl rfl rfl rfl ti66 ?_; clear hf hs; intro a w b16 hs hf
 have hs : St _ W w [_, _, _, _, _, _, .blk b16 66 [.int .i64 0, .slice none 0 0]] := hs
 refine sStore (i := 6) (us := [.int .i64 r10.1.Period, .slice A12 n13 c14]) hf hs rfl rfl rfl rfl rfl rfl ti66 rfl rfl rfl (Nat.le_of_ble_eq_true rfl) rfl ?_; clear hs; intro w hs
 have hs : St _ W w [_, _, _, _, _, _, .blk b16 66 [.int .i64 r10.1.Period, .slice A12 n13 c14]] := hs
 refine sY hf hs rfl rfl rfl (Y_assign rfl rfl) ?_; clear hf; intro a hf
 refine wpO_nil <| wpL_seq <| wpL_seq <| wpL_region ?_
 refine sY hf hs rfl rfl rfl (Y_move rfl rfl) ?_; clear hf; intro a hf
 refine sY hf hs rfl rfl rfl (Y_neq rfl rfl rfl) ?_; clear hf; intro a hf
 refine wpO_nil ?_
 obtain ⟨r27, hj28, hm⟩ := bind_some hm
 refine wpL_cut (fun a w => ∃ x21 : Int, ∃ xs22 : List Int, ∃ A23, ∃ n24, ∃ c25, (x21, xs22) = r27 ∧ n24 = xs22.length ∧ Fr a 81 [(0, .pointer (some ⟨b_p0, 0, none⟩)), (2, .pointer (some ⟨b1, 0, none⟩)), (3, .pointer (some ⟨b2, 0, none⟩)), (4, .pointer (some ⟨b9, 0, none⟩)), (6, .pointer (some ⟨b16, 0, none⟩))] ∧ St (muL [.blk b_p0 149 [.slice ae ad.length af, .int .i64 ar, .int .i64 am]]) W w [.blk b_p0 149 [.slice ae ad.length af, .int .i64 r3.2.1, .int .i64 r3.2.2], .blk b1 55 [.int .i64 0, .slice none 0 0], .blk b2 66 [.int .i64 0, .slice none 0 0], .blk b9 55 [.int .i64 r3.1.1.Events, .slice A5 n6 c7], .row A5 n6 c7 64 4 ((recs GPlace.cells) r3.1.1.Places), .blk b16 66 [.int .i64 x21, .slice A23 n24 c25], .row A23 n24 c25 2 1 (ints xs22)]) ?_ ?_
 ·refine wpL_cond hf rfl (fun hb29 => ?_) (fun hb29 => ?_)
  ·have hj28 := bif_t hj28 hb29
   refine wpL_region ?_
   refine sY hf hs rfl rfl rfl (Y_move rfl rfl) ?_; clear hf; intro a hf
   refine sY hf hs rfl rfl rfl (Y_fieldAddr rfl rfl fo55_0) ?_; clear hf; intro a hf
   refine sY hf hs rfl rfl rfl (Y_load_blk rfl rfl (i := 4) rfl rfl ag2) ?_; clear hf; intro a hf
   refine sY hf hs rfl rfl rfl (Y_min rfl rfl rfl) ?_; clear hf; intro a hf
   refine sY hf hs rfl rfl rfl (Y_max rfl rfl rfl) ?_; clear hf; intro a hf
   obtain ⟨xs32, hk31, hj28⟩ := bind_some hj28
   refine sMakeL (enc := ints) hf hs rfl rfl rfl rfl rfl hk31 el28 ti2 rfl ints_made ?_; clear hf hs; intro a w A30 hs hf
   have hs : St _ W w [_, _, _, _, _, _, _, .row A30 xs32.length xs32.length 2 1 (ints xs32)] := hs
   refine sY hf hs rfl rfl rfl (Y_build (parts := [(0, .tmp 22), (1, .tmp 27)]) (vs := [.int .i64 r3.1.2, .slice A30 xs32.length xs32.length]) rfl rfl (run_build (parts := [(0, .int .i64 r3.1.2), (1, .slice A30 xs32.length xs32.length)]) (cells := [.int .i64 r3.1.2, .slice A30 xs32.length xs32.length]) (places := #[(0, 1), (1, 1)]) ti66 Try.underlying66 (fun w => by simp [go_sem]) rfl)) ?_; clear hf; intro a hf
   refine sStore (i := 6) (us := [.int .i64 r3.1.2, .slice A30 xs32.length xs32.length]) hf hs rfl rfl rfl rfl rfl rfl ti66 rfl rfl rfl (Nat.le_of_ble_eq_true rfl) rfl ?_; clear hs; intro w hs
   have hs : St _ W w [_, _, _, _, _, _, .blk b16 66 [.int .i64 r3.1.2, .slice A30 xs32.length xs32.length], _] := hs
   refine wpO_nil ?_
   refine wpL_nil (then_normal ?_)
   exact ⟨r3.1.2, xs32, A30, xs32.length, xs32.length, Option.some.inj hj28, rfl, (FrD.pick (FrD.pick (FrD.pick (FrD.pick (FrD.pick hf.none hf rfl) hf rfl) hf rfl) hf rfl) hf rfl), hs.sel [3, 0, 1, 4, 2, 6, 7] (by decide)⟩
  ·have hj28 := bif_f hj28 hb29
   refine wpL_skip ?_
   refine wpL_nil (then_normal ?_)
   exact ⟨r10.1.Period, r10.1.Starts, A12, n13, c14, Option.some.inj hj28, hn15, (FrD.pick (FrD.pick (FrD.pick (FrD.pick (FrD.pick hf.none hf rfl) hf rfl) hf rfl) hf rfl) hf rfl), hs.sel [3, 0, 1, 4, 2, 6, 5] (by decide)⟩
 ·rintro a w ⟨x21, xs22, A23, n24, c25, hr_, hn26, hf, hs⟩
  subst hr_
  try dsimp only at hm
  refine wpL_seq <| wpL_seq <| wpL_region ?_
  refine sY hf hs rfl rfl rfl (Y_fieldAddr rfl rfl fo66_1) ?_; clear hf; intro a hf
  refine sY hf hs rfl rfl rfl (Y_load_blk rfl rfl (i := 5) rfl rfl ag28) ?_; clear hf; intro a hf
  refine sY hf hs rfl rfl rfl (Y_lenH rfl rfl el28 hn26) ?_; clear hf; intro a hf
  refine sY hf hs rfl rfl rfl (Y_gtr rfl rfl rfl) ?_; clear hf; intro a hf
  refine wpO_nil ?_
  obtain ⟨r86, hj87, hm⟩ := bind_some hm
  refine wpL_cut (fun a w => ∃ x82 : Int, ∃ x83 : Int, ∃ xs84 : List Int, (x82, x83, xs84) = r86 ∧ n24 = xs84.length ∧ Fr a 81 [(2, .pointer (some ⟨b1, 0, none⟩)), (3, .pointer (some ⟨b2, 0, none⟩)), (4, .pointer (some ⟨b9, 0, none⟩)), (6, .pointer (some ⟨b16, 0, none⟩))] ∧ St (muL [.blk b_p0 149 [.slice ae ad.length af, .int .i64 ar, .int .i64 am]]) W w [.blk b_p0 149 [.slice ae ad.length af, .int .i64 x82, .int .i64 x83], .blk b1 55 [.int .i64 0, .slice none 0 0], .blk b2 66 [.int .i64 0, .slice none 0 0], .blk b9 55 [.int .i64 r3.1.1.Events, .slice A5 n6 c7], .row A5 n6 c7 64 4 ((recs GPlace.cells) r3.1.1.Places), .blk b16 66 [.int .i64 x21, .slice A23 n24 c25], .row A23 n24 c25 2 1 (ints xs84)]) ?_ ?_
  ·refine wpL_cond hf rfl (fun hb88 => ?_) (fun hb88 => ?_)
   ·have hj87 := bif_t hj87 hb88
    refine wpL_seq <| wpL_region ?_
    refine sY hf hs rfl rfl rfl (Y_move rfl rfl) ?_; clear hf; intro a hf
    refine sY hf hs rfl rfl rfl (Y_fieldAddr rfl rfl fo66_1) ?_; clear hf; intro a hf
    refine sY hf hs rfl rfl rfl (Y_load_blk rfl rfl (i := 5) rfl rfl ag28) ?_; clear hf; intro a hf
    refine sY hf hs rfl rfl rfl (Y_lenH rfl rfl el28 hn26) ?_; clear hf; intro a hf
    obtain ⟨r89, hc90, hj87⟩ := bind_some hj87
    refine sCall hf rfl rfl rfl rfl (cap := []) rfl rfl en93 (spec_l01Next_ok F b_p0 ad ae ad.length af rfl r3.2.1 r3.2.2 (xs22.length : Int) _ _ hc90 (aL.pass hs [0]) (hs.sel [0] (by decide)).rebase) ?_; clear hf
    rintro _ w ⟨rfl, hs1⟩ a hf
    have hs : St _ W w [_, _, _, _, _, _, .blk b_p0 149 [.slice ae ad.length af, .int .i64 r89.2.1, .int .i64 r89.2.2]] := St.mutTail (La := [_, _, _, _, _, _]) (Lb := [_]) (hs.sel [1, 2, 3, 4, 5, 6, 0] (by decide)) hs1
    clear hs1
    refine sY hf hs rfl rfl rfl (Y_assign rfl rfl) ?_; clear hf; intro a hf
    refine wpO_nil <| wpL_seq <| wpL_region ?_
    refine sY hf hs rfl rfl rfl (Y_move rfl rfl) ?_; clear hf; intro a hf
    obtain ⟨r91, hc92, hj87⟩ := bind_some hj87
    refine sCall hf rfl rfl rfl rfl (cap := []) rfl rfl en93 (spec_l01Next_ok F b_p0 ad ae ad.length af rfl r89.2.1 r89.2.2 6 _ _ hc92 (aL.pass hs [6]) (hs.sel [6] (by decide)).rebase) ?_; clear hf
    rintro _ w ⟨rfl, hs1⟩ a hf
    have hs : St _ W w [_, _, _, _, _, _, .blk b_p0 149 [.slice ae ad.length af, .int .i64 r91.2.1, .int .i64 r91.2.2]] := St.mutTail (La := [_, _, _, _, _, _]) (Lb := [_]) (hs.sel [0, 1, 2, 3, 4, 5, 6] (by decide)) hs1
    clear hs1
    refine wpO_nil <| wpL_block0 <| wpL_seq <| wpL_region ?_
    refine sY hf hs rfl rfl rfl (Y_eql rfl rfl rfl) ?_; clear hf; intro a hf
    refine sY hf hs rfl rfl rfl (Y_assign rfl rfl) ?_; clear hf; intro a hf
    refine wpO_nil ?_
    refine wpL_cond hf rfl (fun hb93 => ?_) (fun hb93 => ?_)
    ·have hj87 := bif_t hj87 hb93
     refine wpL_drawM [.blk b1 55 [.int .i64 0, .slice none 0 0], .blk b2 66 [.int .i64 0, .slice none 0 0], .blk b9 55 [.int .i64 r3.1.1.Events, .slice A5 n6 c7], .row A5 n6 c7 64 4 ((recs GPlace.cells) r3.1.1.Places), .blk b16 66 [.int .i64 x21, .slice A23 n24 c25], .row A23 n24 c25 2 1 (ints xs22)] [12] (by kernel_rfl) hs ?_; clear hs; intro w hs
     have hs0 : St _ W w [_, _, _, _, _, _] := hs.sel [0, 1, 2, 3, 4, 5] (by decide)
     refine mYp (i := 0) rfl (by kernel_rfl) (by kernel_rfl) hf rfl rfl rfl (fun _ => Y_fieldAddr rfl rfl fo66_1) ?_; clear hf; intro a hf
     refine mY (i := 1) [[]] rfl (by kernel_rfl) (by kernel_rfl) hf hs0 rfl rfl rfl (Y_load_blk rfl rfl (i := 4) rfl rfl ag28) ?_; clear hf; intro a hf
     refine mYp (i := 2) rfl (by kernel_rfl) (by kernel_rfl) hf rfl rfl rfl (fun _ => Y_move rfl rfl) ?_; clear hf; intro a hf
     refine mYp (i := 3) rfl (by kernel_rfl) (by kernel_rfl) hf rfl rfl rfl (fun _ => Y_fieldAddr rfl rfl fo66_1) ?_; clear hf; intro a hf
     refine mY (i := 4) [[]] rfl (by kernel_rfl) (by kernel_rfl) hf hs0 rfl rfl rfl (Y_load_blk rfl rfl (i := 4) rfl rfl ag28) ?_; clear hf; intro a hf
     refine mYp (i := 5) rfl (by kernel_rfl) (by kernel_rfl) hf rfl rfl rfl (fun _ => Y_move rfl rfl) ?_; clear hf; intro a hf
     obtain ⟨q102, hi103, hj87⟩ := bind_some hj87
     obtain ⟨hi103a, hi103b, hi103q⟩ := idx_some hi103
     refine mYp (i := 6) rfl (by kernel_rfl) (by kernel_rfl) hf rfl rfl rfl (fun _ => Y_index rfl rfl rfl el28 ti2 (Rd.isAt (hs.rd (i := 5) rfl) (at1 (ints_at hi103q))) hi103a (ltn hn26 hi103b)) ?_; clear hf; intro a hf
     refine mY (i := 7) [[]] rfl (by kernel_rfl) (by kernel_rfl) hf hs0 rfl rfl rfl (Y_load_rd rfl rfl (fun w hs => hs.rd (i := 5) rfl) (at1 (ints_at hi103q)) ag2) ?_; clear hf; intro a hf
     refine mYp (i := 8) rfl (by kernel_rfl) (by kernel_rfl) hf rfl rfl rfl (fun _ => Y_move rfl rfl) ?_; clear hf; intro a hf
     refine mRun (i := 9) rfl (by kernel_rfl) ?_
     obtain ⟨r104, hc105, hj87⟩ := bind_some hj87
     refine sCall hf rfl rfl rfl rfl (cap := []) rfl rfl en93 (spec_l01Next_ok F b_p0 ad ae ad.length af rfl r91.2.1 r91.2.2 5 _ _ hc105 (aL.pass hs [6]) (hs.sel [6] (by decide)).rebase) ?_; clear hf
     rintro _ w ⟨rfl, hs1⟩ a hf
     have hs : St _ W w [_, _, _, _, _, _, .blk b_p0 149 [.slice ae ad.length af, .int .i64 r104.2.1, .int .i64 r104.2.2]] := St.mutTail (La := [_, _, _, _, _, _]) (Lb := [_]) (hs.sel [0, 1, 2, 3, 4, 5, 6] (by decide)) hs1
     clear hs1
     have hs0 : St _ W w [_, _, _, _, _, _] := hs.sel [0, 1, 2, 3, 4, 5] (by decide)
     refine wpO_nil ⟨Or.inr (fun _ => hs0), ?_⟩
     refine mYp (i := 10) rfl (by kernel_rfl) (by kernel_rfl) hf rfl rfl rfl (fun _ => Y_add rfl rfl rfl) ?_; clear hf; intro a hf
     obtain ⟨q106, hi107, hj87⟩ := bind_some hj87
     obtain ⟨hi107a, hi107b, hi107q⟩ := idx_some hi107
     refine mYp (i := 11) rfl (by kernel_rfl) (by kernel_rfl) hf rfl rfl rfl (fun _ => Y_index rfl rfl rfl el28 ti2 (Rd.isAt (hs.rd (i := 5) rfl) (at1 (ints_at hi107q))) hi107a (ltn hn26 hi107b)) ?_; clear hf; intro a hf
     refine mRun (i := 12) rfl (by kernel_rfl) ?_
     obtain ⟨xs108, hu109, hj87⟩ := bind_some hj87
     refine sStoreL (i := 5) (us := [.int .i64 (IntKind.i64.wrap (q102 + r104.1))]) (enc := ints) hf hs rfl rfl rfl rfl rfl rfl hn26 hu109 ti2 rfl rfl rfl rfl rfl ints_len1 (ints_set (IntKind.i64.wrap (q102 + r104.1))) ?_; clear hs; intro w hs
     have hs : St _ W w [_, _, _, _, _, .row A23 n24 c25 2 1 (ints xs108), _] := hs
     refine wpO_nil ⟨Or.inl (by decide), ?_⟩
     refine mDone (by kernel_rfl) ?_
     clear hs0
     refine wpL_nil (Qb_normal ?_)
     refine wpL_nil (then_normal ?_)
     exact ⟨r104.2.1, r104.2.2, xs108, Option.some.inj hj87, ((hn26).trans (upd_len hu109).symm), (FrD.pick (FrD.pick (FrD.pick (FrD.pick hf.none hf rfl) hf rfl) hf rfl) hf rfl), hs.sel [6, 0, 1, 2, 3, 4, 5] (by decide)⟩
    ·have hj87 := bif_f hj87 hb93
     refine wpL_seq <| wpL_region ?_
     refine sY hf hs rfl rfl rfl (Y_eql rfl rfl rfl) ?_; clear hf; intro a hf
     refine sY hf hs rfl rfl rfl (Y_assign rfl rfl) ?_; clear hf; intro a hf
     refine wpO_nil ?_
     refine wpL_cond hf rfl (fun hb110 => ?_) (fun hb110 => ?_)
     ·have hj87 := bif_t hj87 hb110
      refine wpL_drawM [.blk b1 55 [.int .i64 0, .slice none 0 0], .blk b2 66 [.int .i64 0, .slice none 0 0], .blk b9 55 [.int .i64 r3.1.1.Events, .slice A5 n6 c7], .row A5 n6 c7 64 4 ((recs GPlace.cells) r3.1.1.Places), .blk b16 66 [.int .i64 x21, .slice A23 n24 c25], .row A23 n24 c25 2 1 (ints xs22), .blk b_p0 149 [.slice ae ad.length af, .int .i64 r91.2.1, .int .i64 r91.2.2]] [11] (by kernel_rfl) hs ?_; clear hs; intro w hs
      have hs0 : St _ W w [_, _, _, _, _, _, _] := hs
      refine mYp (i := 0) rfl (by kernel_rfl) (by kernel_rfl) hf rfl rfl rfl (fun _ => Y_fieldAddr rfl rfl fo66_1) ?_; clear hf; intro a hf
      refine mY (i := 1) [[]] rfl (by kernel_rfl) (by kernel_rfl) hf hs0 rfl rfl rfl (Y_load_blk rfl rfl (i := 4) rfl rfl ag28) ?_; clear hf; intro a hf
      refine mYp (i := 2) rfl (by kernel_rfl) (by kernel_rfl) hf rfl rfl rfl (fun _ => Y_move rfl rfl) ?_; clear hf; intro a hf
      refine mYp (i := 3) rfl (by kernel_rfl) (by kernel_rfl) hf rfl rfl rfl (fun _ => Y_fieldAddr rfl rfl fo66_1) ?_; clear hf; intro a hf
      refine mY (i := 4) [[]] rfl (by kernel_rfl) (by kernel_rfl) hf hs0 rfl rfl rfl (Y_load_blk rfl rfl (i := 4) rfl rfl ag28) ?_; clear hf; intro a hf
      refine mYp (i := 5) rfl (by kernel_rfl) (by kernel_rfl) hf rfl rfl rfl (fun _ => Y_move rfl rfl) ?_; clear hf; intro a hf
      obtain ⟨q111, hi112, hj87⟩ := bind_some hj87
      obtain ⟨hi112a, hi112b, hi112q⟩ := idx_some hi112
      refine mYp (i := 6) rfl (by kernel_rfl) (by kernel_rfl) hf rfl rfl rfl (fun _ => Y_index rfl rfl rfl el28 ti2 (Rd.isAt (hs.rd (i := 5) rfl) (at1 (ints_at hi112q))) hi112a (ltn hn26 hi112b)) ?_; clear hf; intro a hf
      refine mY (i := 7) [[]] rfl (by kernel_rfl) (by kernel_rfl) hf hs0 rfl rfl rfl (Y_load_rd rfl rfl (fun w hs => hs.rd (i := 5) rfl) (at1 (ints_at hi112q)) ag2) ?_; clear hf; intro a hf
      refine mYp (i := 8) rfl (by kernel_rfl) (by kernel_rfl) hf rfl rfl rfl (fun _ => Y_sub rfl rfl rfl) ?_; clear hf; intro a hf
      refine mYp (i := 9) rfl (by kernel_rfl) (by kernel_rfl) hf rfl rfl rfl (fun _ => Y_max rfl rfl rfl) ?_; clear hf; intro a hf
      obtain ⟨q113, hi114, hj87⟩ := bind_some hj87
      obtain ⟨hi114a, hi114b, hi114q⟩ := idx_some hi114
      refine mYp (i := 10) rfl (by kernel_rfl) (by kernel_rfl) hf rfl rfl rfl (fun _ => Y_index rfl rfl rfl el28 ti2 (Rd.isAt (hs.rd (i := 5) rfl) (at1 (ints_at hi114q))) hi114a (ltn hn26 hi114b)) ?_; clear hf; intro a hf
      refine mRun (i := 11) rfl (by kernel_rfl) ?_
      obtain ⟨xs115, hu116, hj87⟩ := bind_some hj87
      refine sStoreL (i := 5) (us := [.int .i64 (max 0 (IntKind.i64.wrap (q111 - 1)))]) (enc := ints) hf hs rfl rfl rfl rfl rfl rfl hn26 hu116 ti2 rfl rfl rfl rfl rfl ints_len1 (ints_set (max 0 (IntKind.i64.wrap (q111 - 1)))) ?_; clear hs; intro w hs
      have hs : St _ W w [_, _, _, _, _, .row A23 n24 c25 2 1 (ints xs115), _] := hs
      refine wpO_nil ⟨Or.inl (by decide), ?_⟩
      refine mDone (by kernel_rfl) ?_
      clear hs0
      refine wpL_nil (Qb_normal ?_)
      refine wpL_nil (then_normal ?_)
      exact ⟨r91.2.1, r91.2.2, xs115, Option.some.inj hj87, ((hn26).trans (upd_len hu116).symm), (FrD.pick (FrD.pick (FrD.pick (FrD.pick hf.none hf rfl) hf rfl) hf rfl) hf rfl), hs.sel [6, 0, 1, 2, 3, 4, 5] (by decide)⟩
     ·have hj87 := bif_f hj87 hb110
      refine wpL_seq <| wpL_region ?_
      refine sY hf hs rfl rfl rfl (Y_eql rfl rfl rfl) ?_; clear hf; intro a hf
      refine sY hf hs rfl rfl rfl (Y_assign rfl rfl) ?_; clear hf; intro a hf
      refine wpO_nil ?_
      refine wpL_cond hf rfl (fun hb117 => ?_) (fun hb117 => ?_)
      ·have hj87 := bif_t hj87 hb117
       refine wpL_seq <| wpL_region ?_
       refine sY hf hs rfl rfl rfl (Y_move rfl rfl) ?_; clear hf; intro a hf
       obtain ⟨r118, hc119, hj87⟩ := bind_some hj87
       refine sCall hf rfl rfl rfl rfl (cap := []) rfl rfl en93 (spec_l01Next_ok F b_p0 ad ae ad.length af rfl r91.2.1 r91.2.2 8 _ _ hc119 (aL.pass hs [6]) (hs.sel [6] (by decide)).rebase) ?_; clear hf
       rintro _ w ⟨rfl, hs1⟩ a hf
       have hs : St _ W w [_, _, _, _, _, _, .blk b_p0 149 [.slice ae ad.length af, .int .i64 r118.2.1, .int .i64 r118.2.2]] := St.mutTail (La := [_, _, _, _, _, _]) (Lb := [_]) (hs.sel [0, 1, 2, 3, 4, 5, 6] (by decide)) hs1
       clear hs1
       refine sY hf hs rfl rfl rfl (Y_eql rfl rfl rfl) ?_; clear hf; intro a hf
       refine wpO_nil ?_
       refine wpL_cond hf rfl (fun hb120 => ?_) (fun hb120 => ?_)
       ·have hj87 := bif_t hj87 hb120
        refine wpL_drawM [.blk b1 55 [.int .i64 0, .slice none 0 0], .blk b2 66 [.int .i64 0, .slice none 0 0], .blk b9 55 [.int .i64 r3.1.1.Events, .slice A5 n6 c7], .row A5 n6 c7 64 4 ((recs GPlace.cells) r3.1.1.Places), .blk b16 66 [.int .i64 x21, .slice A23 n24 c25], .row A23 n24 c25 2 1 (ints xs22)] [7] (by kernel_rfl) hs ?_; clear hs; intro w hs
        have hs0 : St _ W w [_, _, _, _, _, _] := hs.sel [0, 1, 2, 3, 4, 5] (by decide)
        refine mYp (i := 0) rfl (by kernel_rfl) (by kernel_rfl) hf rfl rfl rfl (fun _ => Y_fieldAddr rfl rfl fo66_1) ?_; clear hf; intro a hf
        refine mY (i := 1) [[]] rfl (by kernel_rfl) (by kernel_rfl) hf hs0 rfl rfl rfl (Y_load_blk rfl rfl (i := 4) rfl rfl ag28) ?_; clear hf; intro a hf
        refine mYp (i := 2) rfl (by kernel_rfl) (by kernel_rfl) hf rfl rfl rfl (fun _ => Y_move rfl rfl) ?_; clear hf; intro a hf
        refine mYp (i := 3) rfl (by kernel_rfl) (by kernel_rfl) hf rfl rfl rfl (fun _ => Y_move rfl rfl) ?_; clear hf; intro a hf
        refine mRun (i := 4) rfl (by kernel_rfl) ?_
        refine sBuildSlice (parts := [(0, .const (.int .i64 (-1))), (1, .const (.int .i64 1000000)), (2, .const (.int .i64 1000001))]) (vs := [.int .i64 (-1), .int .i64 1000000, .int .i64 1000001]) (cells := [.int .i64 (-1), .int .i64 1000000, .int .i64 1000001]) hf hs rfl rfl rfl rfl rfl el28 ti2 rfl rfl rfl rfl ?_; clear hf hs; intro a w A129 hs hA130 hf
        have hs : St _ W w [_, _, _, _, _, _, _, .row A129 3 3 2 1 (ints ([(-1), 1000000, 1000001]))] := hs
        have hs0 : St _ W w [_, _, _, _, _, _] := hs.sel [0, 1, 2, 3, 4, 5] (by decide)
        refine wpO_nil ⟨Or.inr (fun _ => hs0), ?_⟩
        refine mRun (i := 5) rfl (by kernel_rfl) ?_
        obtain ⟨r131, hc132, hj87⟩ := bind_some hj87
        refine sCall hf rfl rfl rfl rfl (cap := []) rfl rfl en109 (spec_l01Pick_ok F b_p0 ad ae ad.length af rfl r118.2.1 r118.2.2 ([(-1), 1000000, 1000001]) A129 3 3 rfl _ _ hc132 (aL.pass hs [6]) (hs.keepR (i := 7) rfl [6] (by decide)) (hs.sel [6] (by decide)).rebase) ?_; clear hf
        rintro _ w ⟨rfl, hs1⟩ a hf
        have hs : St _ W w [_, _, _, _, _, _, _, .blk b_p0 149 [.slice ae ad.length af, .int .i64 r131.2.1, .int .i64 r131.2.2]] := St.mutTail (La := [_, _, _, _, _, _, _]) (Lb := [_]) (hs.sel [0, 1, 2, 3, 4, 5, 7, 6] (by decide)) hs1
        clear hs1
        have hs0 : St _ W w [_, _, _, _, _, _] := hs.sel [0, 1, 2, 3, 4, 5] (by decide)
        refine wpO_nil ⟨Or.inr (fun _ => hs0), ?_⟩
        obtain ⟨q133, hi134, hj87⟩ := bind_some hj87
        obtain ⟨hi134a, hi134b, hi134q⟩ := idx_some hi134
        refine mYp (i := 6) rfl (by kernel_rfl) (by kernel_rfl) hf rfl rfl rfl (fun _ => Y_index rfl rfl rfl el28 ti2 (Rd.isAt (hs.rd (i := 5) rfl) (at1 (ints_at hi134q))) hi134a (ltn hn26 hi134b)) ?_; clear hf; intro a hf
        refine mRun (i := 7) rfl (by kernel_rfl) ?_
        obtain ⟨xs135, hu136, hj87⟩ := bind_some hj87
        refine sStoreL (i := 5) (us := [.int .i64 r131.1]) (enc := ints) hf hs rfl rfl rfl rfl rfl rfl hn26 hu136 ti2 rfl rfl rfl rfl rfl ints_len1 (ints_set r131.1) ?_; clear hs; intro w hs
        have hs : St _ W w [_, _, _, _, _, .row A23 n24 c25 2 1 (ints xs135), _, _] := hs
        refine wpO_nil ⟨Or.inl (by decide), ?_⟩
        refine mDone (by kernel_rfl) ?_
        clear hs0
        refine wpL_nil (Qb_normal ?_)
        refine wpL_nil (then_normal ?_)
        exact ⟨r131.2.1, r131.2.2, xs135, Option.some.inj hj87, ((hn26).trans (upd_len hu136).symm), (FrD.pick (FrD.pick (FrD.pick (FrD.pick hf.none hf rfl) hf rfl) hf rfl) hf rfl), hs.sel [7, 0, 1, 2, 3, 4, 5] (by decide)⟩
       ·have hj87 := bif_f hj87 hb120
        refine wpL_skip ?_
        refine wpL_nil (Qb_normal ?_)
        refine wpL_nil (then_normal ?_)
        exact ⟨r118.2.1, r118.2.2, xs22, Option.some.inj hj87, hn26, (FrD.pick (FrD.pick (FrD.pick (FrD.pick hf.none hf rfl) hf rfl) hf rfl) hf rfl), hs.sel [6, 0, 1, 2, 3, 4, 5] (by decide)⟩
      ·have hj87 := bif_f hj87 hb117
       refine wpL_skip ?_
       refine wpL_nil (Qb_normal ?_)
       refine wpL_nil (then_normal ?_)
       exact ⟨r91.2.1, r91.2.2, xs22, Option.some.inj hj87, hn26, (FrD.pick (FrD.pick (FrD.pick (FrD.pick hf.none hf rfl) hf rfl) hf rfl) hf rfl), hs.sel [6, 0, 1, 2, 3, 4, 5] (by decide)⟩
   ·have hj87 := bif_f hj87 hb88
    refine wpL_skip ?_
    refine wpL_nil (then_normal ?_)
    exact ⟨r3.2.1, r3.2.2, xs22, Option.some.inj hj87, hn26, (FrD.pick (FrD.pick (FrD.pick (FrD.pick hf.none hf rfl) hf rfl) hf rfl) hf rfl), hs⟩
  ·rintro a w ⟨x82, x83, xs84, hr_, hn85, hf, hs⟩
   subst hr_
   try dsimp only at hm
   refine wpL_seq ?_
   refine wpL_drawM [.blk b_p0 149 [.slice ae ad.length af, .int .i64 x82, .int .i64 x83], .blk b2 66 [.int .i64 0, .slice none 0 0], .blk b9 55 [.int .i64 r3.1.1.Events, .slice A5 n6 c7], .row A5 n6 c7 64 4 ((recs GPlace.cells) r3.1.1.Places), .blk b16 66 [.int .i64 x21, .slice A23 n24 c25], .row A23 n24 c25 2 1 (ints xs84)] [3] (by kernel_rfl) hs ?_; clear hs; intro w hs
   have hs0 : St _ W w [_, _, _, _, _, _] := hs.sel [0, 2, 3, 4, 5, 6] (by decide)
   refine mY (i := 0) [[]] rfl (by kernel_rfl) (by kernel_rfl) hf hs0 rfl rfl rfl (Y_load_blkS rfl rfl (i := 2) rfl ag55 ti55 rfl) ?_; clear hf; intro a hf
   refine mY (i := 1) [[]] rfl (by kernel_rfl) (by kernel_rfl) hf hs0 rfl rfl rfl (Y_load_blkS rfl rfl (i := 4) rfl ag66 ti66 rfl) ?_; clear hf; intro a hf
   refine mRun (i := 2) rfl (by kernel_rfl) ?_
   refine sStore (i := 1) (us := [.int .i64 r3.1.1.Events, .slice A5 n6 c7]) hf hs rfl rfl rfl rfl rfl rfl ti55 rfl rfl rfl (Nat.le_of_ble_eq_true rfl) rfl ?_; clear hs; intro w hs
   have hs : St _ W w [_, .blk b1 55 [.int .i64 r3.1.1.Events, .slice A5 n6 c7], _, _, _, _, _] := hs
   have hs0 : St _ W w [_, _, _, _, _, _] := hs.sel [0, 2, 3, 4, 5, 6] (by decide)
   refine wpO_nil ⟨Or.inr (fun _ => hs0), ?_⟩
   refine mRun (i := 3) rfl (by kernel_rfl) ?_
   refine sStore (i := 2) (us := [.int .i64 x21, .slice A23 n24 c25]) hf hs rfl rfl rfl rfl rfl rfl ti66 rfl rfl rfl (Nat.le_of_ble_eq_true rfl) rfl ?_; clear hs; intro w hs
   have hs : St _ W w [_, _, .blk b2 66 [.int .i64 x21, .slice A23 n24 c25], _, _, _, _] := hs
   refine wpO_nil ⟨Or.inl (by decide), ?_⟩
   refine mDone (by kernel_rfl) ?_
   clear hs0
   obtain rfl := Option.some.inj hm
   refine wpL_ret (ret_cell2 rfl hf rfl rfl hs (i := 1) (j := 2) rfl rfl ag55 ti55 ag66 ti66 rfl rfl ?_)
   exact ⟨_, rfl, A5, n6, c7, A23, n24, c25, rfl, hn8, hn85, hs.sel [4, 6, 0] (by decide)⟩

set_option maxHeartbeats 2000000 in
set_option maxRecDepth 100000 in
theorem spec_l21Draw_ok (F : Nat) (aj : Nat) (ac : List Int) (aa : Option Addr) (aF ab : Nat) (bE : aF = ac.length) (al : Int) (ak : Int) (r : (GEventGraph × GTimetable × List Int) × Int × Int) (W : World) (hm : spec_l21Draw F ac al ak = some r) (aG : KR (muL [.blk aj 149 [.slice aa aF ab, .int .i64 al, .int .i64 ak]]) W aa (bytes ac)) (hst : St (muL [.blk aj 149 [.slice aa aF ab, .int .i64 al, .int .i64 ak]]) W W [.blk aj 149 [.slice aa aF ab, .int .i64 al, .int .i64 ak]]) :
  Calls Try.prog 128 [.pointer (some ⟨aj, 0, none⟩)].toArray W fun e w' => ∃ v, e = .returned v ∧ ∃ A135, ∃ n136, ∃ c137, ∃ A139, ∃ n140, ∃ c141, ∃ A143, ∃ n144, ∃ c145, v = .tuple #[.agg #[.int .i64 r.1.1.Events, .slice A135 n136 c137], .agg #[.int .i64 r.1.2.1.Period, .slice A139 n140 c141], .slice A143 n144 c145] ∧ n136 = r.1.1.Places.length ∧ n140 = r.1.2.1.Starts.length ∧ n144 = r.1.2.2.length ∧ St (muL [.blk aj 149 [.slice aa aF ab, .int .i64 al, .int .i64 ak]]) W w' [.row A135 n136 c137 64 4 ((recs GPlace.cells) r.1.1.Places), .row A139 n140 c141 2 1 (ints r.1.2.1.Starts), .row A143 n144 c145 2 1 (ints r.1.2.2), .blk aj 149 [.slice aa aF ab, .int .i64 r.2.1, .int .i64 r.2.2]] := by
 subst bE
 unfold spec_l21Draw at hm
 refine Calls.enter (N := 53) Try.func128 rfl rfl rfl (fun a hf => ?_)
 have hs := hst
 obtain ⟨w, hw_⟩ : ∃ w, w = W := ⟨W, rfl⟩
 clear hw_ w
 refine wpL_seq <| wpL_region ?_
 refine sAlloc hf hs rfl rfl rfl rfl ti55 ?_; clear hf hs; intro a w b1 hs hf
 have hs : St _ W w [.blk aj 149 [.slice aa ac.length ab, .int .i64 al, .int .i64 ak], _] := hs
 refine sAlloc hf hs rfl rfl rfl rfl ti66 ?_; clear hf hs; intro a w b2 hs hf
 have hs : St _ W w [_, _, _] := hs
 refine sY hf hs rfl rfl rfl (Y_assign rfl rfl) ?_; clear hf; intro a hf
 refine wpO_nil <| wpL_seq <| wpL_region ?_
 refine sY hf hs rfl rfl rfl (Y_move rfl rfl) ?_; clear hf; intro a hf
 obtain ⟨r3, hc4, hm⟩ := bind_some hm
 refine sCall hf rfl rfl rfl rfl (cap := []) rfl rfl en195 (spec_l20Draw_ok F aj ac aa ac.length ab rfl al ak _ _ hc4 (aG.pass hs [0]) (hs.sel [0] (by decide)).rebase) ?_; clear hf
 rintro _ w ⟨A5, n6, c7, A9, n10, c11, rfl, hn8, hn12, hs1⟩ a hf
 have hs : St _ W w [_, _, .row A5 n6 c7 64 4 ((recs GPlace.cells) r3.1.1.Places), .row A9 n10 c11 2 1 (ints r3.1.2.Starts), .blk aj 149 [.slice aa ac.length ab, .int .i64 r3.2.1, .int .i64 r3.2.2]] := St.mutTail (La := [_, _]) (Lb := [_]) (hs.sel [1, 2, 0] (by decide)) hs1
 clear hs1
 refine sY hf hs rfl rfl rfl (Y_move rfl rfl) ?_; clear hf; intro a hf
 refine sY hf hs rfl rfl rfl (Y_extract rfl rfl rfl) ?_; clear hf; intro a hf
 refine sY hf hs rfl rfl rfl (Y_extract rfl rfl rfl) ?_; clear hf; intro a hf
 refine sAlloc hf hs rfl rfl rfl rfl ti55 ?_; clear hf hs; intro a w b13 hs hf
 have hs : St _ W w [_, _, _, _, _, .blk b13 55 [.int .i64 0, .slice none 0 0]] := hs
 refine sAlloc hf hs rfl rfl rfl rfl ti66 ?_; clear hf hs; intro a w b14 hs hf
 have hs : St _ W w [_, _, _, _, _, _, .blk b14 66 [.int .i64 0, .slice none 0 0]] := hs
 refine sStore (i := 5) (us := [.int .i64 r3.1.1.Events, .slice A5 n6 c7]) hf hs rfl rfl rfl rfl rfl rfl ti55 rfl rfl rfl (Nat.le_of_ble_eq_true rfl) rfl ?_; clear hs; intro w hs
 have hs : St _ W w [_, _, _, _, _, .blk b13 55 [.int .i64 r3.1.1.Events, .slice A5 n6 c7], _] := hs
 refine sStore (i := 6) (us := [.int .i64 r3.1.2.Period, .slice A9 n10 c11]) hf hs rfl rfl rfl rfl rfl rfl ti66 rfl rfl rfl (Nat.le_of_ble_eq_true rfl) rfl ?_; clear hs; intro w hs
 have hs : St _ W w [_, _, _, _, _, _, .blk b14 66 [.int .i64 r3.1.2.Period, .slice A9 n10 c11]] := hs
 refine wpO_nil <| wpL_seq <| wpL_region ?_
 refine sEmpty hf hs rfl rfl rfl rfl el28 ti2 ?_; clear hf hs; intro a w A15 hs hf
 have hs : St _ W w [_, _, _, _, _, _, _, .row A15 0 0 2 1 (ints ([] : List Int))] := hs
 refine sY hf hs rfl rfl rfl (Y_assign rfl rfl) ?_; clear hf; intro a hf
 refine wpO_nil <| wpL_seq <| wpL_seq <| wpL_region ?_
 refine sY hf hs rfl rfl rfl (Y_assign rfl rfl) ?_; clear hf; intro a hf
 refine wpO_nil ?_
 obtain ⟨r94, hl95, hm⟩ := bind_some hm
 refine wpL_block (fun a w => ∃ x87 : Int, ∃ x88 : Int, ∃ xs89 : List Int, ∃ A90, ∃ n91, ∃ c92, (x87, x88, xs89) = r94 ∧ n91 = xs89.length ∧ Fr a 53 [(0, .pointer (some ⟨aj, 0, none⟩)), (2, .pointer (some ⟨b1, 0, none⟩)), (3, .pointer (some ⟨b2, 0, none⟩)), (5, .pointer (some ⟨b13, 0, none⟩)), (6, .pointer (some ⟨b14, 0, none⟩)), (7, .slice A90 n91 c92)] ∧ St (muL [.blk aj 149 [.slice aa ac.length ab, .int .i64 al, .int .i64 ak]]) W w [.blk aj 149 [.slice aa ac.length ab, .int .i64 x87, .int .i64 x88], .blk b1 55 [.int .i64 0, .slice none 0 0], .blk b2 66 [.int .i64 0, .slice none 0 0], .blk b13 55 [.int .i64 r3.1.1.Events, .slice A5 n6 c7], .row A5 n6 c7 64 4 ((recs GPlace.cells) r3.1.1.Places), .blk b14 66 [.int .i64 r3.1.2.Period, .slice A9 n10 c11], .row A9 n10 c11 2 1 (ints r3.1.2.Starts), .row A90 n91 c92 2 1 (ints xs89)]) ?_ ?_
 ·refine wpL_loop (fun n a w => ∃ x61 : Int, ∃ x62 : Int, ∃ xs63 : List Int, ∃ x68 : Int, ∃ A64, ∃ n65, ∃ c66, spec_l21Draw_L1 F ac r3 n x61 x62 xs63 x68 = some r94 ∧ n65 = xs63.length ∧ Fr a 53 [(0, .pointer (some ⟨aj, 0, none⟩)), (2, .pointer (some ⟨b1, 0, none⟩)), (3, .pointer (some ⟨b2, 0, none⟩)), (5, .pointer (some ⟨b13, 0, none⟩)), (6, .pointer (some ⟨b14, 0, none⟩)), (7, .slice A64 n65 c66), (8, .int .i64 x68)] ∧ St (muL [.blk aj 149 [.slice aa ac.length ab, .int .i64 al, .int .i64 ak]]) W w [.blk aj 149 [.slice aa ac.length ab, .int .i64 x61, .int .i64 x62], .blk b1 55 [.int .i64 0, .slice none 0 0], .blk b2 66 [.int .i64 0, .slice none 0 0], .blk b13 55 [.int .i64 r3.1.1.Events, .slice A5 n6 c7], .row A5 n6 c7 64 4 ((recs GPlace.cells) r3.1.1.Places), .blk b14 66 [.int .i64 r3.1.2.Period, .slice A9 n10 c11], .row A9 n10 c11 2 1 (ints r3.1.2.Starts), .row A64 n65 c66 2 1 (ints xs63)]) F ?_ ?_ ?_
  ·exact ⟨r3.2.1, r3.2.2, ([] : List Int), 0, A15, 0, 0, hl95, rfl, (FrD.pick (FrD.pick (FrD.pick (FrD.pick (FrD.pick (FrD.pick (FrD.pick hf.none hf rfl) hf rfl) hf rfl) hf rfl) hf rfl) hf rfl) hf rfl), hs.sel [4, 0, 1, 5, 2, 6, 3, 7] (by decide)⟩
  ·rintro a w ⟨x61, x62, xs63, x68, A64, n65, c66, h0_, -, -, -⟩; simp [spec_l21Draw_L1] at h0_
  ·rintro n97 a w ⟨x61, x62, xs63, x68, A64, n65, c66, hm96, hn67, hf, hs⟩
   rw [spec_l21Draw_L1] at hm96
   refine wpL_seq <| wpL_seq ?_
   obtain ⟨r100, hj101, hm96⟩ := bind_some hm96
   refine wpL_cut (fun a w => ∃ b99 : Bool, b99 = r100 ∧ Fr a 53 [(0, .pointer (some ⟨aj, 0, none⟩)), (2, .pointer (some ⟨b1, 0, none⟩)), (3, .pointer (some ⟨b2, 0, none⟩)), (5, .pointer (some ⟨b13, 0, none⟩)), (6, .pointer (some ⟨b14, 0, none⟩)), (7, .slice A64 n65 c66), (8, .int .i64 x68), (22, .bool b99)] ∧ St (muL [.blk aj 149 [.slice aa ac.length ab, .int .i64 al, .int .i64 ak]]) W w [.blk aj 149 [.slice aa ac.length ab, .int .i64 x61, .int .i64 x62], .blk b1 55 [.int .i64 0, .slice none 0 0], .blk b2 66 [.int .i64 0, .slice none 0 0], .blk b13 55 [.int .i64 r3.1.1.Events, .slice A5 n6 c7], .row A5 n6 c7 64 4 ((recs GPlace.cells) r3.1.1.Places), .blk b14 66 [.int .i64 r3.1.2.Period, .slice A9 n10 c11], .row A9 n10 c11 2 1 (ints r3.1.2.Starts), .row A64 n65 c66 2 1 (ints xs63)]) ?_ ?_
   ·refine wpL_region ?_
    refine sY hf hs rfl rfl rfl (Y_move rfl rfl) ?_; clear hf; intro a hf
    refine sY hf hs rfl rfl rfl (Y_fieldAddr rfl rfl fo55_0) ?_; clear hf; intro a hf
    refine sY hf hs rfl rfl rfl (Y_load_blk rfl rfl (i := 3) rfl rfl ag2) ?_; clear hf; intro a hf
    refine sY hf hs rfl rfl rfl (Y_lss rfl rfl rfl) ?_; clear hf; intro a hf
    refine sY hf hs rfl rfl rfl (Y_move rfl rfl) ?_; clear hf; intro a hf
    refine bsplit (decide (x68 < r3.1.1.Events)) (fun hb102 => ?_) (fun hb102 => ?_)
    ·have hj101 := bif_t hj101 hb102
     refine sYg hf hs rfl rfl rfl (congrArg (fun b => some (Value.bool b)) hb102) rfl rfl rfl (Y_move rfl rfl) ?_; clear hf; intro a hf
     refine sYg hf hs rfl rfl rfl (congrArg (fun b => some (Value.bool b)) hb102) rfl rfl rfl (Y_lss rfl rfl rfl) ?_; clear hf; intro a hf
     refine sY hf hs rfl rfl rfl (Y_pickT rfl (congrArg (fun b => some (Value.bool b)) hb102) rfl) ?_; clear hf; intro a hf
     refine wpO_nil ?_
     refine wpL_nil (then_normal ?_)
     exact ⟨(decide (x68 < 12)), Option.some.inj hj101, (FrD.pick (FrD.pick (FrD.pick (FrD.pick (FrD.pick (FrD.pick (FrD.pick (FrD.pick hf.none hf rfl) hf rfl) hf rfl) hf rfl) hf rfl) hf rfl) hf rfl) hf rfl), hs⟩
    ·have hj101 := bif_f hj101 hb102
     refine sNo hf rfl rfl rfl (congrArg (fun b => some (Value.bool b)) hb102) rfl rfl rfl ?_; clear hf; intro a hf
     refine sNo hf rfl rfl rfl (congrArg (fun b => some (Value.bool b)) hb102) rfl rfl rfl ?_; clear hf; intro a hf
     refine sY hf hs rfl rfl rfl (Y_pickF rfl (congrArg (fun b => some (Value.bool b)) hb102) rfl) ?_; clear hf; intro a hf
     refine wpO_nil ?_
     refine wpL_nil (then_normal ?_)
     exact ⟨false, Option.some.inj hj101, (FrD.pick (FrD.pick (FrD.pick (FrD.pick (FrD.pick (FrD.pick (FrD.pick (FrD.pick hf.none hf rfl) hf rfl) hf rfl) hf rfl) hf rfl) hf rfl) hf rfl) hf rfl), hs⟩
   ·rintro a w ⟨b99, hr_, hf, hs⟩
    subst hr_
    try dsimp only at hm96
    refine wpL_cond hf rfl (fun hb103 => ?_) (fun hb103 => ?_)
    ·have hm96 := bif_t hm96 hb103
     refine wpL_skip <| wpL_seq <| wpL_block0 <| wpL_region ?_
     refine sY hf hs rfl rfl rfl (Y_move rfl rfl) ?_; clear hf; intro a hf
     refine sY hf hs rfl rfl rfl (Y_move rfl rfl) ?_; clear hf; intro a hf
     refine sY hf hs rfl rfl rfl (Y_move rfl rfl) ?_; clear hf; intro a hf
     obtain ⟨r104, hc105, hm96⟩ := bind_some hm96
     refine sCall hf rfl rfl rfl rfl (cap := []) rfl rfl en93 (spec_l01Next_ok F aj ac aa ac.length ab rfl x61 x62 15 _ _ hc105 (aG.pass hs [0]) (hs.sel [0] (by decide)).rebase) ?_; clear hf
     rintro _ w ⟨rfl, hs1⟩ a hf
     have hs : St _ W w [_, _, _, _, _, _, _, .blk aj 149 [.slice aa ac.length ab, .int .i64 r104.2.1, .int .i64 r104.2.2]] := St.mutTail (La := [_, _, _, _, _, _, _]) (Lb := [_]) (hs.sel [1, 2, 3, 4, 5, 6, 7, 0] (by decide)) hs1
     clear hs1
     refine sBuildSlice (parts := [(0, .const (.int .i64 0)), (1, .const (.int .i64 0)), (2, .tmp 28)]) (vs := [.int .i64 0, .int .i64 0, .int .i64 r104.1]) (cells := [.int .i64 0, .int .i64 0, .int .i64 r104.1]) hf hs rfl rfl rfl rfl rfl el28 ti2 rfl rfl rfl rfl ?_; clear hf hs; intro a w A106 hs hA107 hf
     have hs : St _ W w [_, _, _, _, _, _, _, _, .row A106 3 3 2 1 (ints ([0, 0, r104.1]))] := hs
     obtain ⟨r108, hc109, hm96⟩ := bind_some hm96
     refine sCall hf rfl rfl rfl rfl (cap := []) rfl rfl en109 (spec_l01Pick_ok F aj ac aa ac.length ab rfl r104.2.1 r104.2.2 ([0, 0, r104.1]) A106 3 3 rfl _ _ hc109 (aG.pass hs [7]) (hs.keepR (i := 8) rfl [7] (by decide)) (hs.sel [7] (by decide)).rebase) ?_; clear hf
     rintro _ w ⟨rfl, hs1⟩ a hf
     have hs : St _ W w [_, _, _, _, _, _, _, _, .blk aj 149 [.slice aa ac.length ab, .int .i64 r108.2.1, .int .i64 r108.2.2]] := St.mutTail (La := [_, _, _, _, _, _, _, _]) (Lb := [_]) (hs.sel [0, 1, 2, 3, 4, 5, 6, 8, 7] (by decide)) hs1
     clear hs1
     refine sBuildSlice (parts := [(0, .tmp 30)]) (vs := [.int .i64 r108.1]) (cells := [.int .i64 r108.1]) hf hs rfl rfl rfl rfl rfl el28 ti2 rfl rfl rfl rfl ?_; clear hf hs; intro a w A110 hs hA111 hf
     have hs : St _ W w [_, _, _, _, _, _, _, _, _, .row A110 1 1 2 1 (ints ([r108.1]))] := hs
     obtain ⟨xs114, ha115, hm96⟩ := bind_some hm96
     refine sAppendL (i := 6) (xs := xs63) (ys := [r108.1]) (enc := ints) hf hs rfl rfl rfl rfl rfl rfl hn67 rfl rfl ha115 el28 ti2 rfl rfl rfl (hs.rd (i := 9) rfl) (Nat.succ_pos _) ints_len1 ints_append ints_one ?_; clear hf hs; intro a w A112 c113 hs hf
     have hs : St _ W w [_, _, _, _, _, _, .row A112 xs114.length c113 2 1 (ints xs114), _, _, _] := hs
     refine sY hf hs rfl rfl rfl (Y_assign rfl rfl) ?_; clear hf; intro a hf
     refine wpO_nil ?_
     refine wpL_nil (Qb_normal ?_)
     refine wpL_region ?_
     refine sY hf hs rfl rfl rfl (Y_move rfl rfl) ?_; clear hf; intro a hf
     refine sY hf hs rfl rfl rfl (Y_add rfl rfl rfl) ?_; clear hf; intro a hf
     refine sY hf hs rfl rfl rfl (Y_assign rfl rfl) ?_; clear hf; intro a hf
     refine wpO_nil ?_
     refine wpL_nil (Ql_normal ?_)
     exact ⟨r108.2.1, r108.2.2, xs114, (IntKind.i64.wrap (x68 + 1)), A112, xs114.length, c113, hm96, rfl, (FrD.pick (FrD.pick (FrD.pick (FrD.pick (FrD.pick (FrD.pick (FrD.pick hf.none hf rfl) hf rfl) hf rfl) hf rfl) hf rfl) hf rfl) hf rfl), hs.sel [8, 0, 1, 2, 3, 4, 5, 6] (by decide)⟩
    ·have hm96 := bif_f hm96 hb103
     refine wpL_exit (Ql_exit (Qb_exit ?_))
     exact ⟨x61, x62, xs63, A64, n65, c66, Option.some.inj hm96, hn67, (FrD.pick (FrD.pick (FrD.pick (FrD.pick (FrD.pick (FrD.pick hf.none hf rfl) hf rfl) hf rfl) hf rfl) hf rfl) hf rfl), hs⟩
 ·rintro a w ⟨x87, x88, xs89, A90, n91, c92, hr_, hn93, hf, hs⟩
  subst hr_
  try dsimp only at hm
  refine wpL_seq <| wpL_seq <| wpL_region ?_
  refine sY hf hs rfl rfl rfl (Y_move rfl rfl) ?_; clear hf; intro a hf
  obtain ⟨r116, hc117, hm⟩ := bind_some hm
  refine sCall hf rfl rfl rfl rfl (cap := []) rfl rfl en93 (spec_l01Next_ok F aj ac aa ac.length ab rfl x87 x88 30 _ _ hc117 (aG.pass hs [0]) (hs.sel [0] (by decide)).rebase) ?_; clear hf
  rintro _ w ⟨rfl, hs1⟩ a hf
  have hs : St _ W w [_, _, _, _, _, _, _, .blk aj 149 [.slice aa ac.length ab, .int .i64 r116.2.1, .int .i64 r116.2.2]] := St.mutTail (La := [_, _, _, _, _, _, _]) (Lb := [_]) (hs.sel [1, 2, 3, 4, 5, 6, 7, 0] (by decide)) hs1
  clear hs1
  refine wpO_nil <| wpL_block0 <| wpL_seq <| wpL_region ?_
  refine sY hf hs rfl rfl rfl (Y_eql rfl rfl rfl) ?_; clear hf; intro a hf
  refine sY hf hs rfl rfl rfl (Y_assign rfl rfl) ?_; clear hf; intro a hf
  refine wpO_nil ?_
  refine wpL_cond hf rfl (fun hb118 => ?_) (fun hb118 => ?_)
  ·have hm := bif_t hm hb118
   refine wpL_region ?_
   refine sY hf hs rfl rfl rfl (Y_move rfl rfl) ?_; clear hf; intro a hf
   refine sBuildSlice (parts := [(0, .const (.int .i64 0))]) (vs := [.int .i64 0]) (cells := [.int .i64 0]) hf hs rfl rfl rfl rfl rfl el28 ti2 rfl rfl rfl rfl ?_; clear hf hs; intro a w A119 hs hA120 hf
   have hs : St _ W w [_, _, _, _, _, _, _, _, .row A119 1 1 2 1 (ints ([0]))] := hs
   obtain ⟨xs123, ha124, hm⟩ := bind_some hm
   refine sAppendL (i := 6) (xs := xs89) (ys := [0]) (enc := ints) hf hs rfl rfl rfl rfl rfl rfl hn93 rfl rfl ha124 el28 ti2 rfl rfl rfl (hs.rd (i := 8) rfl) (Nat.succ_pos _) ints_len1 ints_append ints_one ?_; clear hf hs; intro a w A121 c122 hs hf
   have hs : St _ W w [_, _, _, _, _, _, .row A121 xs123.length c122 2 1 (ints xs123), _, _] := hs
   refine sY hf hs rfl rfl rfl (Y_assign rfl rfl) ?_; clear hf; intro a hf
   refine wpO_nil ?_
   refine wpL_nil (Qb_normal ?_)
   refine wpL_seq ?_
   refine wpL_drawM [.blk b2 66 [.int .i64 0, .slice none 0 0], .blk b13 55 [.int .i64 r3.1.1.Events, .slice A5 n6 c7], .row A5 n6 c7 64 4 ((recs GPlace.cells) r3.1.1.Places), .blk b14 66 [.int .i64 r3.1.2.Period, .slice A9 n10 c11], .row A9 n10 c11 2 1 (ints r3.1.2.Starts), .row A121 xs123.length c122 2 1 (ints xs123), .blk aj 149 [.slice aa ac.length ab, .int .i64 r116.2.1, .int .i64 r116.2.2], .row A119 1 1 2 1 (ints ([0]))] [4] (by kernel_rfl) hs ?_; clear hs; intro w hs
   have hs0 : St _ W w [_, _, _, _, _, _, _, _] := hs.sel [1, 2, 3, 4, 5, 6, 7, 8] (by decide)
   refine mY (i := 0) [[]] rfl (by kernel_rfl) (by kernel_rfl) hf hs0 rfl rfl rfl (Y_load_blkS rfl rfl (i := 1) rfl ag55 ti55 rfl) ?_; clear hf; intro a hf
   refine mY (i := 1) [[]] rfl (by kernel_rfl) (by kernel_rfl) hf hs0 rfl rfl rfl (Y_load_blkS rfl rfl (i := 3) rfl ag66 ti66 rfl) ?_; clear hf; intro a hf
   refine mYp (i := 2) rfl (by kernel_rfl) (by kernel_rfl) hf rfl rfl rfl (fun _ => Y_move rfl rfl) ?_; clear hf; intro a hf
   refine mRun (i := 3) rfl (by kernel_rfl) ?_
   refine sStore (i := 0) (us := [.int .i64 r3.1.1.Events, .slice A5 n6 c7]) hf hs rfl rfl rfl rfl rfl rfl ti55 rfl rfl rfl (Nat.le_of_ble_eq_true rfl) rfl ?_; clear hs; intro w hs
   have hs : St _ W w [.blk b1 55 [.int .i64 r3.1.1.Events, .slice A5 n6 c7], _, _, _, _, _, _, _, _] := hs
   have hs0 : St _ W w [_, _, _, _, _, _, _, _] := hs.sel [1, 2, 3, 4, 5, 6, 7, 8] (by decide)
   refine wpO_nil ⟨Or.inr (fun _ => hs0), ?_⟩
   refine mRun (i := 4) rfl (by kernel_rfl) ?_
   refine sStore (i := 1) (us := [.int .i64 r3.1.2.Period, .slice A9 n10 c11]) hf hs rfl rfl rfl rfl rfl rfl ti66 rfl rfl rfl (Nat.le_of_ble_eq_true rfl) rfl ?_; clear hs; intro w hs
   have hs : St _ W w [_, .blk b2 66 [.int .i64 r3.1.2.Period, .slice A9 n10 c11], _, _, _, _, _, _, _] := hs
   refine wpO_nil ⟨Or.inl (by decide), ?_⟩
   refine mYp (i := 5) rfl (by kernel_rfl) (by kernel_rfl) hf rfl rfl rfl (fun _ => Y_assign rfl rfl) ?_; clear hf; intro a hf
   refine mDone (by kernel_rfl) ?_
   clear hs0
   obtain rfl := Option.some.inj hm
   refine wpL_ret (ret_cell2t rfl hf rfl rfl rfl hs (i := 0) (j := 1) rfl rfl ag55 ti55 ag66 ti66 rfl rfl ?_)
   exact ⟨_, rfl, A5, n6, c7, A9, n10, c11, A121, xs123.length, c122, rfl, hn8, hn12, rfl, hs.sel [3, 5, 6, 7] (by decide)⟩
  ·have hm := bif_f hm hb118
   refine wpL_seq <| wpL_region ?_
   refine sY hf hs rfl rfl rfl (Y_eql rfl rfl rfl) ?_; clear hf; intro a hf
   refine sY hf hs rfl rfl rfl (Y_assign rfl rfl) ?_; clear hf; intro a hf
   refine wpO_nil ?_
   refine wpL_cond hf rfl (fun hb125 => ?_) (fun hb125 => ?_)
   ·have hm := bif_t hm hb125
    refine wpL_seq <| wpL_region ?_
    refine sY hf hs rfl rfl rfl (Y_move rfl rfl) ?_; clear hf; intro a hf
    refine sY hf hs rfl rfl rfl (Y_lenH rfl rfl el28 hn93) ?_; clear hf; intro a hf
    refine sY hf hs rfl rfl rfl (Y_gtr rfl rfl rfl) ?_; clear hf; intro a hf
    refine wpO_nil ?_
    refine wpL_cond hf rfl (fun hb126 => ?_) (fun hb126 => ?_)
    ·have hm := bif_t hm hb126
     refine wpL_region ?_
     refine sY hf hs rfl rfl rfl (Y_move rfl rfl) ?_; clear hf; intro a hf
     refine sY hf hs rfl rfl rfl (Y_move rfl rfl) ?_; clear hf; intro a hf
     refine sBuildSlice (parts := [(0, .const (.int .i64 (-1))), (1, .const (.int .i64 1000000)), (2, .const (.int .i64 1000001))]) (vs := [.int .i64 (-1), .int .i64 1000000, .int .i64 1000001]) (cells := [.int .i64 (-1), .int .i64 1000000, .int .i64 1000001]) hf hs rfl rfl rfl rfl rfl el28 ti2 rfl rfl rfl rfl ?_; clear hf hs; intro a w A127 hs hA128 hf
     have hs : St _ W w [_, _, _, _, _, _, _, _, .row A127 3 3 2 1 (ints ([(-1), 1000000, 1000001]))] := hs
     obtain ⟨r129, hc130, hm⟩ := bind_some hm
     refine sCall hf rfl rfl rfl rfl (cap := []) rfl rfl en109 (spec_l01Pick_ok F aj ac aa ac.length ab rfl r116.2.1 r116.2.2 ([(-1), 1000000, 1000001]) A127 3 3 rfl _ _ hc130 (aG.pass hs [7]) (hs.keepR (i := 8) rfl [7] (by decide)) (hs.sel [7] (by decide)).rebase) ?_; clear hf
     rintro _ w ⟨rfl, hs1⟩ a hf
     have hs : St _ W w [_, _, _, _, _, _, _, _, .blk aj 149 [.slice aa ac.length ab, .int .i64 r129.2.1, .int .i64 r129.2.2]] := St.mutTail (La := [_, _, _, _, _, _, _, _]) (Lb := [_]) (hs.sel [0, 1, 2, 3, 4, 5, 6, 8, 7] (by decide)) hs1
     clear hs1
     obtain ⟨q131, hi132, hm⟩ := bind_some hm
     obtain ⟨hi132a, hi132b, hi132q⟩ := idx_some hi132
     refine sY hf hs rfl rfl rfl (Y_index rfl rfl rfl el28 ti2 (Rd.isAt (hs.rd (i := 6) rfl) (at1 (ints_at hi132q))) hi132a (ltn hn93 hi132b)) ?_; clear hf; intro a hf
     obtain ⟨xs133, hu134, hm⟩ := bind_some hm
     refine sStoreL (i := 6) (us := [.int .i64 r129.1]) (enc := ints) hf hs rfl rfl rfl rfl rfl rfl hn93 hu134 ti2 rfl rfl rfl rfl rfl ints_len1 (ints_set r129.1) ?_; clear hs; intro w hs
     have hs : St _ W w [_, _, _, _, _, _, .row A90 n91 c92 2 1 (ints xs133), _, _] := hs
     refine wpO_nil ?_
     refine wpL_nil (Qb_normal ?_)
     refine wpL_seq ?_
     refine wpL_drawM [.blk b2 66 [.int .i64 0, .slice none 0 0], .blk b13 55 [.int .i64 r3.1.1.Events, .slice A5 n6 c7], .row A5 n6 c7 64 4 ((recs GPlace.cells) r3.1.1.Places), .blk b14 66 [.int .i64 r3.1.2.Period, .slice A9 n10 c11], .row A9 n10 c11 2 1 (ints r3.1.2.Starts), .row A90 n91 c92 2 1 (ints xs133), .row A127 3 3 2 1 (ints ([(-1), 1000000, 1000001])), .blk aj 149 [.slice aa ac.length ab, .int .i64 r129.2.1, .int .i64 r129.2.2]] [4] (by kernel_rfl) hs ?_; clear hs; intro w hs
     have hs0 : St _ W w [_, _, _, _, _, _, _, _] := hs.sel [1, 2, 3, 4, 5, 6, 7, 8] (by decide)
     refine mY (i := 0) [[]] rfl (by kernel_rfl) (by kernel_rfl) hf hs0 rfl rfl rfl (Y_load_blkS rfl rfl (i := 1) rfl ag55 ti55 rfl) ?_; clear hf; intro a hf
     refine mY (i := 1) [[]] rfl (by kernel_rfl) (by kernel_rfl) hf hs0 rfl rfl rfl (Y_load_blkS rfl rfl (i := 3) rfl ag66 ti66 rfl) ?_; clear hf; intro a hf
     refine mYp (i := 2) rfl (by kernel_rfl) (by kernel_rfl) hf rfl rfl rfl (fun _ => Y_move rfl rfl) ?_; clear hf; intro a hf
     refine mRun (i := 3) rfl (by kernel_rfl) ?_
     refine sStore (i := 0) (us := [.int .i64 r3.1.1.Events, .slice A5 n6 c7]) hf hs rfl rfl rfl rfl rfl rfl ti55 rfl rfl rfl (Nat.le_of_ble_eq_true rfl) rfl ?_; clear hs; intro w hs
     have hs : St _ W w [_, _, _, _, _, _, _, _, _] := hs
     have hs0 : St _ W w [_, _, _, _, _, _, _, _] := hs.sel [1, 2, 3, 4, 5, 6, 7, 8] (by decide)
     refine wpO_nil ⟨Or.inr (fun _ => hs0), ?_⟩
     refine mRun (i := 4) rfl (by kernel_rfl) ?_
     refine sStore (i := 1) (us := [.int .i64 r3.1.2.Period, .slice A9 n10 c11]) hf hs rfl rfl rfl rfl rfl rfl ti66 rfl rfl rfl (Nat.le_of_ble_eq_true rfl) rfl ?_; clear hs; intro w hs
     have hs : St _ W w [_, _, _, _, _, _, _, _, _] := hs
     refine wpO_nil ⟨Or.inl (by decide), ?_⟩
     refine mYp (i := 5) rfl (by kernel_rfl) (by kernel_rfl) hf rfl rfl rfl (fun _ => Y_assign rfl rfl) ?_; clear hf; intro a hf
     refine mDone (by kernel_rfl) ?_
     clear hs0
     obtain rfl := Option.some.inj hm
     refine wpL_ret (ret_cell2t rfl hf rfl rfl rfl hs (i := 0) (j := 1) rfl rfl ag55 ti55 ag66 ti66 rfl rfl ?_)
     exact ⟨_, rfl, A5, n6, c7, A9, n10, c11, A90, n91, c92, rfl, hn8, hn12, ((hn93).trans (upd_len hu134).symm), hs.sel [3, 5, 6, 8] (by decide)⟩
    ·have hm := bif_f hm hb126
     refine wpL_skip ?_
     refine wpL_nil (Qb_normal ?_)
     refine wpL_seq ?_
     refine wpL_drawM [.blk b2 66 [.int .i64 0, .slice none 0 0], .blk b13 55 [.int .i64 r3.1.1.Events, .slice A5 n6 c7], .row A5 n6 c7 64 4 ((recs GPlace.cells) r3.1.1.Places), .blk b14 66 [.int .i64 r3.1.2.Period, .slice A9 n10 c11], .row A9 n10 c11 2 1 (ints r3.1.2.Starts), .row A90 n91 c92 2 1 (ints xs89), .blk aj 149 [.slice aa ac.length ab, .int .i64 r116.2.1, .int .i64 r116.2.2]] [4] (by kernel_rfl) hs ?_; clear hs; intro w hs
     have hs0 : St _ W w [_, _, _, _, _, _, _] := hs.sel [1, 2, 3, 4, 5, 6, 7] (by decide)
     refine mY (i := 0) [[]] rfl (by kernel_rfl) (by kernel_rfl) hf hs0 rfl rfl rfl (Y_load_blkS rfl rfl (i := 1) rfl ag55 ti55 rfl) ?_; clear hf; intro a hf
     refine mY (i := 1) [[]] rfl (by kernel_rfl) (by kernel_rfl) hf hs0 rfl rfl rfl (Y_load_blkS rfl rfl (i := 3) rfl ag66 ti66 rfl) ?_; clear hf; intro a hf
     refine mYp (i := 2) rfl (by kernel_rfl) (by kernel_rfl) hf rfl rfl rfl (fun _ => Y_move rfl rfl) ?_; clear hf; intro a hf
     refine mRun (i := 3) rfl (by kernel_rfl) ?_
     refine sStore (i := 0) (us := [.int .i64 r3.1.1.Events, .slice A5 n6 c7]) hf hs rfl rfl rfl rfl rfl rfl ti55 rfl rfl rfl (Nat.le_of_ble_eq_true rfl) rfl ?_; clear hs; intro w hs
     have hs : St _ W w [_, _, _, _, _, _, _, _] := hs
     have hs0 : St _ W w [_, _, _, _, _, _, _] := hs.sel [1, 2, 3, 4, 5, 6, 7] (by decide)
     refine wpO_nil ⟨Or.inr (fun _ => hs0), ?_⟩
     refine mRun (i := 4) rfl (by kernel_rfl) ?_
     refine sStore (i := 1) (us := [.int .i64 r3.1.2.Period, .slice A9 n10 c11]) hf hs rfl rfl rfl rfl rfl rfl ti66 rfl rfl rfl (Nat.le_of_ble_eq_true rfl) rfl ?_; clear hs; intro w hs
     have hs : St _ W w [_, _, _, _, _, _, _, _] := hs
     refine wpO_nil ⟨Or.inl (by decide), ?_⟩
     refine mYp (i := 5) rfl (by kernel_rfl) (by kernel_rfl) hf rfl rfl rfl (fun _ => Y_assign rfl rfl) ?_; clear hf; intro a hf
     refine mDone (by kernel_rfl) ?_
     clear hs0
     obtain rfl := Option.some.inj hm
     refine wpL_ret (ret_cell2t rfl hf rfl rfl rfl hs (i := 0) (j := 1) rfl rfl ag55 ti55 ag66 ti66 rfl rfl ?_)
     exact ⟨_, rfl, A5, n6, c7, A9, n10, c11, A90, n91, c92, rfl, hn8, hn12, hn93, hs.sel [3, 5, 6, 7] (by decide)⟩
   ·have hm := bif_f hm hb125
    refine wpL_skip ?_
    refine wpL_nil (Qb_normal ?_)
    refine wpL_seq ?_
    refine wpL_drawM [.blk b2 66 [.int .i64 0, .slice none 0 0], .blk b13 55 [.int .i64 r3.1.1.Events, .slice A5 n6 c7], .row A5 n6 c7 64 4 ((recs GPlace.cells) r3.1.1.Places), .blk b14 66 [.int .i64 r3.1.2.Period, .slice A9 n10 c11], .row A9 n10 c11 2 1 (ints r3.1.2.Starts), .row A90 n91 c92 2 1 (ints xs89), .blk aj 149 [.slice aa ac.length ab, .int .i64 r116.2.1, .int .i64 r116.2.2]] [4] (by kernel_rfl) hs ?_; clear hs; intro w hs
    have hs0 : St _ W w [_, _, _, _, _, _, _] := hs.sel [1, 2, 3, 4, 5, 6, 7] (by decide)
    refine mY (i := 0) [[]] rfl (by kernel_rfl) (by kernel_rfl) hf hs0 rfl rfl rfl (Y_load_blkS rfl rfl (i := 1) rfl ag55 ti55 rfl) ?_; clear hf; intro a hf
    refine mY (i := 1) [[]] rfl (by kernel_rfl) (by kernel_rfl) hf hs0 rfl rfl rfl (Y_load_blkS rfl rfl (i := 3) rfl ag66 ti66 rfl) ?_; clear hf; intro a hf
    refine mYp (i := 2) rfl (by kernel_rfl) (by kernel_rfl) hf rfl rfl rfl (fun _ => Y_move rfl rfl) ?_; clear hf; intro a hf
    refine mRun (i := 3) rfl (by kernel_rfl) ?_
    refine sStore (i := 0) (us := [.int .i64 r3.1.1.Events, .slice A5 n6 c7]) hf hs rfl rfl rfl rfl rfl rfl ti55 rfl rfl rfl (Nat.le_of_ble_eq_true rfl) rfl ?_; clear hs; intro w hs
    have hs : St _ W w [_, _, _, _, _, _, _, _] := hs
    have hs0 : St _ W w [_, _, _, _, _, _, _] := hs.sel [1, 2, 3, 4, 5, 6, 7] (by decide)
    refine wpO_nil ⟨Or.inr (fun _ => hs0), ?_⟩
    refine mRun (i := 4) rfl (by kernel_rfl) ?_
    refine sStore (i := 1) (us := [.int .i64 r3.1.2.Period, .slice A9 n10 c11]) hf hs rfl rfl rfl rfl rfl rfl ti66 rfl rfl rfl (Nat.le_of_ble_eq_true rfl) rfl ?_; clear hs; intro w hs
    have hs : St _ W w [_, _, _, _, _, _, _, _] := hs
    refine wpO_nil ⟨Or.inl (by decide), ?_⟩
    refine mYp (i := 5) rfl (by kernel_rfl) (by kernel_rfl) hf rfl rfl rfl (fun _ => Y_assign rfl rfl) ?_; clear hf; intro a hf
    refine mDone (by kernel_rfl) ?_
    clear hs0
    obtain rfl := Option.some.inj hm
    refine wpL_ret (ret_cell2t rfl hf rfl rfl rfl hs (i := 0) (j := 1) rfl rfl ag55 ti55 ag66 ti66 rfl rfl ?_)
    exact ⟨_, rfl, A5, n6, c7, A9, n10, c11, A90, n91, c92, rfl, hn8, hn12, hn93, hs.sel [3, 5, 6, 7] (by decide)⟩

set_option maxRecDepth 100000 in
theorem spec_DrawDelayTable_ok (F : Nat) (ad : List Int) (av : Option Addr) (bi az : Nat) (bD : bi = ad.length) (r : GEventGraph × GTimetable × List Int × Int) (W : World) (hm : spec_DrawDelayTable F ad = some r) (bl : Rd W av (bytes ad)) :
  Calls Try.prog 56 [.slice av bi az].toArray W fun e w' => ∃ v, e = .returned v ∧ ∃ A37, ∃ n38, ∃ c39, ∃ A41, ∃ n42, ∃ c43, ∃ A45, ∃ n46, ∃ c47, v = .tuple #[.agg #[.int .i64 r.1.Events, .slice A37 n38 c39], .agg #[.int .i64 r.2.1.Period, .slice A41 n42 c43], .slice A45 n46 c47, .int .i64 r.2.2.2] ∧ n38 = r.1.Places.length ∧ n42 = r.2.1.Starts.length ∧ n46 = r.2.2.1.length ∧ St [] W w' [.row A37 n38 c39 64 4 ((recs GPlace.cells) r.1.Places), .row A41 n42 c43 2 1 (ints r.2.1.Starts), .row A45 n46 c47 2 1 (ints r.2.2.1)] := by
 subst bD
 unfold spec_DrawDelayTable at hm
 refine Calls.enter (N := 32) Try.func56 rfl rfl rfl (fun a hf => ?_)
 have hs := St.start W
 obtain ⟨w, hw_⟩ : ∃ w, w = W := ⟨W, rfl⟩
 clear hw_ w
 refine wpL_seq <| wpL_region ?_
 refine sAlloc hf hs rfl rfl rfl rfl ti55 ?_; clear hf hs; intro a w b1 hs hf
 have hs : St _ W w [.blk b1 55 [.int .i64 0, .slice none 0 0]] := hs
 refine sAlloc hf hs rfl rfl rfl rfl ti66 ?_; clear hf hs; intro a w b2 hs hf
 have hs : St _ W w [_, _] := hs
 refine sY hf hs rfl rfl rfl (Y_assign rfl rfl) ?_; clear hf; intro a hf
 refine sY hf hs rfl rfl rfl (Y_assign rfl rfl) ?_; clear hf; intro a hf
 refine wpO_nil <| wpL_seq <| wpL_region ?_
 refine sY hf hs rfl rfl rfl (Y_move rfl rfl) ?_; clear hf; intro a hf
 obtain ⟨r3, hc4, hm⟩ := bind_some hm
 refine sCall hf rfl rfl rfl rfl (cap := []) rfl rfl en65 (spec_l01From_ok F ad av ad.length az rfl _ _ hc4 (bl.at hs)) ?_; clear hf
 rintro _ w ⟨b5, rfl, hs1⟩ a hf
 have hs : St _ W w [_, _, .blk b5 149 [.slice av ad.length az, .int .i64 r3.1, .int .i64 r3.2]] := hs.join hs1
 clear hs1
 refine sY hf hs rfl rfl rfl (Y_assign rfl rfl) ?_; clear hf; intro a hf
 refine wpO_nil <| wpL_seq <| wpL_region ?_
 refine sY hf hs rfl rfl rfl (Y_move rfl rfl) ?_; clear hf; intro a hf
 obtain ⟨r6, hc7, hm⟩ := bind_some hm
 refine sCall hf rfl rfl rfl rfl (cap := []) rfl rfl en128 (spec_l21Draw_ok F b5 ad av ad.length az rfl r3.1 r3.2 _ _ hc7 (bl.pass hs [2]) (hs.sel [2] (by decide)).rebase) ?_; clear hf
 rintro _ w ⟨A8, n9, c10, A12, n13, c14, A16, n17, c18, rfl, hn11, hn15, hn19, hs1⟩ a hf
 have hs : St _ W w [_, _, .row A8 n9 c10 64 4 ((recs GPlace.cells) r6.1.1.Places), .row A12 n13 c14 2 1 (ints r6.1.2.1.Starts), .row A16 n17 c18 2 1 (ints r6.1.2.2), .blk b5 149 [.slice av ad.length az, .int .i64 r6.2.1, .int .i64 r6.2.2]] := St.mutTail (La := [_, _]) (Lb := [_]) (hs.sel [0, 1, 2] (by decide)) hs1
 clear hs1
 refine sY hf hs rfl rfl rfl (Y_move rfl rfl) ?_; clear hf; intro a hf
 refine sY hf hs rfl rfl rfl (Y_extract rfl rfl rfl) ?_; clear hf; intro a hf
 refine sY hf hs rfl rfl rfl (Y_extract rfl rfl rfl) ?_; clear hf; intro a hf
 refine sY hf hs rfl rfl rfl (Y_extract rfl rfl rfl) ?_; clear hf; intro a hf
 refine sAlloc hf hs rfl rfl rfl rfl ti55 ?_; clear hf hs; intro a w b20 hs hf
 have hs : St _ W w [_, _, _, _, _, _, .blk b20 55 [.int .i64 0, .slice none 0 0]] := hs
 refine sAlloc hf hs rfl rfl rfl rfl ti66 ?_; clear hf hs; intro a w b21 hs hf
 have hs : St _ W w [_, _, _, _, _, _, _, .blk b21 66 [.int .i64 0, .slice none 0 0]] := hs
 refine sStore (i := 6) (us := [.int .i64 r6.1.1.Events, .slice A8 n9 c10]) hf hs rfl rfl rfl rfl rfl rfl ti55 rfl rfl rfl (Nat.le_of_ble_eq_true rfl) rfl ?_; clear hs; intro w hs
 have hs : St _ W w [_, _, _, _, _, _, .blk b20 55 [.int .i64 r6.1.1.Events, .slice A8 n9 c10], _] := hs
 refine sStore (i := 7) (us := [.int .i64 r6.1.2.1.Period, .slice A12 n13 c14]) hf hs rfl rfl rfl rfl rfl rfl ti66 rfl rfl rfl (Nat.le_of_ble_eq_true rfl) rfl ?_; clear hs; intro w hs
 have hs : St _ W w [_, _, _, _, _, _, _, .blk b21 66 [.int .i64 r6.1.2.1.Period, .slice A12 n13 c14]] := hs
 refine sY hf hs rfl rfl rfl (Y_assign rfl rfl) ?_; clear hf; intro a hf
 refine wpO_nil <| wpL_seq <| wpL_seq <| wpL_region ?_
 refine sY hf hs rfl rfl rfl (Y_move rfl rfl) ?_; clear hf; intro a hf
 obtain ⟨r22, hc23, hm⟩ := bind_some hm
 refine sCall hf rfl rfl rfl rfl (cap := []) rfl rfl en93 (spec_l01Next_ok F b5 ad av ad.length az rfl r6.2.1 r6.2.2 24 _ _ hc23 (bl.pass hs [5]) (hs.sel [5] (by decide)).rebase) ?_; clear hf
 rintro _ w ⟨rfl, hs1⟩ a hf
 have hs : St _ W w [_, _, _, _, _, _, _, .blk b5 149 [.slice av ad.length az, .int .i64 r22.2.1, .int .i64 r22.2.2]] := St.mutTail (La := [_, _, _, _, _, _, _]) (Lb := [_]) (hs.sel [0, 1, 2, 3, 4, 6, 7, 5] (by decide)) hs1
 clear hs1
 refine sY hf hs rfl rfl rfl (Y_eql rfl rfl rfl) ?_; clear hf; intro a hf
 refine wpO_nil ?_
 refine wpL_cond hf rfl (fun hb24 => ?_) (fun hb24 => ?_)
 ·have hm := bif_t hm hb24
  refine wpL_seq ?_
  refine wpL_drawM [.blk b2 66 [.int .i64 0, .slice none 0 0], .row A8 n9 c10 64 4 ((recs GPlace.cells) r6.1.1.Places), .row A12 n13 c14 2 1 (ints r6.1.2.1.Starts), .row A16 n17 c18 2 1 (ints r6.1.2.2), .blk b20 55 [.int .i64 r6.1.1.Events, .slice A8 n9 c10], .blk b21 66 [.int .i64 r6.1.2.1.Period, .slice A12 n13 c14]] [7] (by kernel_rfl) hs ?_; clear hs; intro w hs
  have hs0 : St _ W w [_, _, _, _, _, _] := hs.sel [1, 2, 3, 4, 5, 6] (by decide)
  refine mY (i := 0) [[]] rfl (by kernel_rfl) (by kernel_rfl) hf hs0 rfl rfl rfl (Y_load_blkS rfl rfl (i := 4) rfl ag55 ti55 rfl) ?_; clear hf; intro a hf
  refine mY (i := 1) [[]] rfl (by kernel_rfl) (by kernel_rfl) hf hs0 rfl rfl rfl (Y_load_blkS rfl rfl (i := 5) rfl ag66 ti66 rfl) ?_; clear hf; intro a hf
  refine mYp (i := 2) rfl (by kernel_rfl) (by kernel_rfl) hf rfl rfl rfl (fun _ => Y_move rfl rfl) ?_; clear hf; intro a hf
  refine mYp (i := 3) rfl (by kernel_rfl) (by kernel_rfl) hf rfl rfl rfl (fun _ => Y_move rfl rfl) ?_; clear hf; intro a hf
  refine mRun (i := 4) rfl (by kernel_rfl) ?_
  refine sBuildSlice (parts := [(0, .const (.int .i64 (-1))), (1, .const (.int .i64 0)), (2, .const (.int .i64 50)), (3, .const (.int .i64 51))]) (vs := [.int .i64 (-1), .int .i64 0, .int .i64 50, .int .i64 51]) (cells := [.int .i64 (-1), .int .i64 0, .int .i64 50, .int .i64 51]) hf hs rfl rfl rfl rfl rfl el28 ti2 rfl rfl rfl rfl ?_; clear hf hs; intro a w A29 hs hA30 hf
  have hs : St _ W w [_, _, _, _, _, _, _, _, .row A29 4 4 2 1 (ints ([(-1), 0, 50, 51]))] := hs
  have hs0 : St _ W w [_, _, _, _, _, _] := hs.sel [1, 2, 3, 4, 5, 6] (by decide)
  refine wpO_nil ⟨Or.inr (fun _ => hs0), ?_⟩
  refine mRun (i := 5) rfl (by kernel_rfl) ?_
  obtain ⟨r31, hc32, hm⟩ := bind_some hm
  refine sCall hf rfl rfl rfl rfl (cap := []) rfl rfl en109 (spec_l01Pick_ok F b5 ad av ad.length az rfl r22.2.1 r22.2.2 ([(-1), 0, 50, 51]) A29 4 4 rfl _ _ hc32 (bl.pass hs [7]) (hs.keepR (i := 8) rfl [7] (by decide)) (hs.sel [7] (by decide)).rebase) ?_; clear hf
  rintro _ w ⟨rfl, hs1⟩ a hf
  have hs : St _ W w [_, _, _, _, _, _, _, _, .blk b5 149 [.slice av ad.length az, .int .i64 r31.2.1, .int .i64 r31.2.2]] := St.mutTail (La := [_, _, _, _, _, _, _, _]) (Lb := [_]) (hs.sel [0, 1, 2, 3, 4, 5, 6, 8, 7] (by decide)) hs1
  clear hs1
  have hs0 : St _ W w [_, _, _, _, _, _] := hs.sel [1, 2, 3, 4, 5, 6] (by decide)
  refine wpO_nil ⟨Or.inr (fun _ => hs0), ?_⟩
  refine mRun (i := 6) rfl (by kernel_rfl) ?_
  refine sStore (i := 0) (us := [.int .i64 r6.1.1.Events, .slice A8 n9 c10]) hf hs rfl rfl rfl rfl rfl rfl ti55 rfl rfl rfl (Nat.le_of_ble_eq_true rfl) rfl ?_; clear hs; intro w hs
  have hs : St _ W w [.blk b1 55 [.int .i64 r6.1.1.Events, .slice A8 n9 c10], _, _, _, _, _, _, _, _] := hs
  have hs0 : St _ W w [_, _, _, _, _, _] := hs.sel [1, 2, 3, 4, 5, 6] (by decide)
  refine wpO_nil ⟨Or.inr (fun _ => hs0), ?_⟩
  refine mRun (i := 7) rfl (by kernel_rfl) ?_
  refine sStore (i := 1) (us := [.int .i64 r6.1.2.1.Period, .slice A12 n13 c14]) hf hs rfl rfl rfl rfl rfl rfl ti66 rfl rfl rfl (Nat.le_of_ble_eq_true rfl) rfl ?_; clear hs; intro w hs
  have hs : St _ W w [_, .blk b2 66 [.int .i64 r6.1.2.1.Period, .slice A12 n13 c14], _, _, _, _, _, _, _] := hs
  refine wpO_nil ⟨Or.inl (by decide), ?_⟩
  refine mYp (i := 8) rfl (by kernel_rfl) (by kernel_rfl) hf rfl rfl rfl (fun _ => Y_assign rfl rfl) ?_; clear hf; intro a hf
  refine mYp (i := 9) rfl (by kernel_rfl) (by kernel_rfl) hf rfl rfl rfl (fun _ => Y_assign rfl rfl) ?_; clear hf; intro a hf
  refine mDone (by kernel_rfl) ?_
  clear hs0
  obtain rfl := Option.some.inj hm
  refine wpL_ret (ret_cell2tt rfl hf rfl rfl rfl rfl hs (i := 0) (j := 1) rfl rfl ag55 ti55 ag66 ti66 rfl rfl ?_)
  exact ⟨_, rfl, A8, n9, c10, A12, n13, c14, A16, n17, c18, rfl, hn11, hn15, hn19, hs.sel [2, 3, 4] (by decide)⟩
 ·have hm := bif_f hm hb24
  refine wpL_skip <| wpL_seq ?_
  refine wpL_drawM [.blk b2 66 [.int .i64 0, .slice none 0 0], .row A8 n9 c10 64 4 ((recs GPlace.cells) r6.1.1.Places), .row A12 n13 c14 2 1 (ints r6.1.2.1.Starts), .row A16 n17 c18 2 1 (ints r6.1.2.2), .blk b20 55 [.int .i64 r6.1.1.Events, .slice A8 n9 c10], .blk b21 66 [.int .i64 r6.1.2.1.Period, .slice A12 n13 c14]] [6] (by kernel_rfl) hs ?_; clear hs; intro w hs
  have hs0 : St _ W w [_, _, _, _, _, _] := hs.sel [1, 2, 3, 4, 5, 6] (by decide)
  refine mY (i := 0) [[]] rfl (by kernel_rfl) (by kernel_rfl) hf hs0 rfl rfl rfl (Y_load_blkS rfl rfl (i := 4) rfl ag55 ti55 rfl) ?_; clear hf; intro a hf
  refine mY (i := 1) [[]] rfl (by kernel_rfl) (by kernel_rfl) hf hs0 rfl rfl rfl (Y_load_blkS rfl rfl (i := 5) rfl ag66 ti66 rfl) ?_; clear hf; intro a hf
  refine mYp (i := 2) rfl (by kernel_rfl) (by kernel_rfl) hf rfl rfl rfl (fun _ => Y_move rfl rfl) ?_; clear hf; intro a hf
  refine mYp (i := 3) rfl (by kernel_rfl) (by kernel_rfl) hf rfl rfl rfl (fun _ => Y_move rfl rfl) ?_; clear hf; intro a hf
  refine mRun (i := 4) rfl (by kernel_rfl) ?_
  obtain ⟨r35, hc36, hm⟩ := bind_some hm
  refine sCall hf rfl rfl rfl rfl (cap := []) rfl rfl en93 (spec_l01Next_ok F b5 ad av ad.length az rfl r22.2.1 r22.2.2 9 _ _ hc36 (bl.pass hs [7]) (hs.sel [7] (by decide)).rebase) ?_; clear hf
  rintro _ w ⟨rfl, hs1⟩ a hf
  have hs : St _ W w [_, _, _, _, _, _, _, .blk b5 149 [.slice av ad.length az, .int .i64 r35.2.1, .int .i64 r35.2.2]] := St.mutTail (La := [_, _, _, _, _, _, _]) (Lb := [_]) (hs.sel [0, 1, 2, 3, 4, 5, 6, 7] (by decide)) hs1
  clear hs1
  have hs0 : St _ W w [_, _, _, _, _, _] := hs.sel [1, 2, 3, 4, 5, 6] (by decide)
  refine wpO_nil ⟨Or.inr (fun _ => hs0), ?_⟩
  refine mRun (i := 5) rfl (by kernel_rfl) ?_
  refine sStore (i := 0) (us := [.int .i64 r6.1.1.Events, .slice A8 n9 c10]) hf hs rfl rfl rfl rfl rfl rfl ti55 rfl rfl rfl (Nat.le_of_ble_eq_true rfl) rfl ?_; clear hs; intro w hs
  have hs : St _ W w [_, _, _, _, _, _, _, _] := hs
  have hs0 : St _ W w [_, _, _, _, _, _] := hs.sel [1, 2, 3, 4, 5, 6] (by decide)
  refine wpO_nil ⟨Or.inr (fun _ => hs0), ?_⟩
  refine mRun (i := 6) rfl (by kernel_rfl) ?_
  refine sStore (i := 1) (us := [.int .i64 r6.1.2.1.Period, .slice A12 n13 c14]) hf hs rfl rfl rfl rfl rfl rfl ti66 rfl rfl rfl (Nat.le_of_ble_eq_true rfl) rfl ?_; clear hs; intro w hs
  have hs : St _ W w [_, _, _, _, _, _, _, _] := hs
  refine wpO_nil ⟨Or.inl (by decide), ?_⟩
  refine mYp (i := 7) rfl (by kernel_rfl) (by kernel_rfl) hf rfl rfl rfl (fun _ => Y_assign rfl rfl) ?_; clear hf; intro a hf
  refine mYp (i := 8) rfl (by kernel_rfl) (by kernel_rfl) hf rfl rfl rfl (fun _ => Y_assign rfl rfl) ?_; clear hf; intro a hf
  refine mDone (by kernel_rfl) ?_
  clear hs0
  obtain rfl := Option.some.inj hm
  refine wpL_ret (ret_cell2tt rfl hf rfl rfl rfl rfl hs (i := 0) (j := 1) rfl rfl ag55 ti55 ag66 ti66 rfl rfl ?_)
  exact ⟨_, rfl, A8, n9, c10, A12, n13, c14, A16, n17, c18, rfl, hn11, hn15, hn19, hs.sel [2, 3, 4] (by decide)⟩

set_option maxRecDepth 100000 in
theorem impl_within_ok (F : Nat) (ci : Int) (bX : Int) (bR : Int) (r : Bool) (W : World) (hm : impl_within F ci bX bR = some r) :
  Calls Try.prog 71 [.int .i64 ci, .int .i64 bX, .int .i64 bR].toArray W fun e w' => ∃ v, e = .returned v ∧ v = .bool r ∧ St [] W w' [] := by
 unfold impl_within at hm
 refine Calls.enter (N := 15) Try.func71 rfl rfl rfl (fun a hf => ?_)
 have hs := St.start W
 obtain ⟨w, hw_⟩ : ∃ w, w = W := ⟨W, rfl⟩
 clear hw_ w
 refine wpL_seq <| wpL_region ?_
 refine sY hf hs rfl rfl rfl (Y_assign rfl rfl) ?_; clear hf; intro a hf
 refine wpO_nil <| wpL_seq ?_
 obtain ⟨r3, hj4, hm⟩ := bind_some hm
 refine wpL_cut (fun a w => ∃ b2 : Bool, b2 = r3 ∧ Fr a 15 [(6, .bool b2)] ∧ St [] W w []) ?_ ?_
 ·refine wpL_region ?_
  refine sY hf hs rfl rfl rfl (Y_move rfl rfl) ?_; clear hf; intro a hf
  refine sY hf hs rfl rfl rfl (Y_move rfl rfl) ?_; clear hf; intro a hf
  refine sY hf hs rfl rfl rfl (Y_geq rfl rfl rfl) ?_; clear hf; intro a hf
  refine sY hf hs rfl rfl rfl (Y_move rfl rfl) ?_; clear hf; intro a hf
  refine bsplit (decide (bX ≤ ci)) (fun hb5 => ?_) (fun hb5 => ?_)
  ·have hj4 := bif_t hj4 hb5
   refine sYg hf hs rfl rfl rfl (congrArg (fun b => some (Value.bool b)) hb5) rfl rfl rfl (Y_move rfl rfl) ?_; clear hf; intro a hf
   refine sYg hf hs rfl rfl rfl (congrArg (fun b => some (Value.bool b)) hb5) rfl rfl rfl (Y_move rfl rfl) ?_; clear hf; intro a hf
   refine sYg hf hs rfl rfl rfl (congrArg (fun b => some (Value.bool b)) hb5) rfl rfl rfl (Y_leq rfl rfl rfl) ?_; clear hf; intro a hf
   refine sY hf hs rfl rfl rfl (Y_pickT rfl (congrArg (fun b => some (Value.bool b)) hb5) rfl) ?_; clear hf; intro a hf
   refine sY hf hs rfl rfl rfl (Y_assign rfl rfl) ?_; clear hf; intro a hf
   refine wpO_nil ?_
   refine wpL_nil (then_normal ?_)
   exact ⟨(decide (ci ≤ bR)), Option.some.inj hj4, (FrD.pick hf.none hf rfl), hs⟩
  ·have hj4 := bif_f hj4 hb5
   refine sNo hf rfl rfl rfl (congrArg (fun b => some (Value.bool b)) hb5) rfl rfl rfl ?_; clear hf; intro a hf
   refine sNo hf rfl rfl rfl (congrArg (fun b => some (Value.bool b)) hb5) rfl rfl rfl ?_; clear hf; intro a hf
   refine sNo hf rfl rfl rfl (congrArg (fun b => some (Value.bool b)) hb5) rfl rfl rfl ?_; clear hf; intro a hf
   refine sY hf hs rfl rfl rfl (Y_pickF rfl (congrArg (fun b => some (Value.bool b)) hb5) rfl) ?_; clear hf; intro a hf
   refine sY hf hs rfl rfl rfl (Y_assign rfl rfl) ?_; clear hf; intro a hf
   refine wpO_nil ?_
   refine wpL_nil (then_normal ?_)
   exact ⟨false, Option.some.inj hj4, (FrD.pick hf.none hf rfl), hs⟩
 ·rintro a w ⟨b2, hr_, hf, hs⟩
  subst hr_
  try dsimp only at hm
  obtain rfl := Option.some.inj hm
  refine wpL_ret (ret_tmp rfl hf rfl ?_)
  exact ⟨_, rfl, rfl, hs⟩

set_option maxRecDepth 100000 in
theorem impl_isEvent_ok (F : Nat) (ah : GEventGraph) (ag : Option Addr) (ax ai : Nat) (aB : ax = ah.Places.length) (cL : Int) (r : Bool) (W : World) (hm : impl_isEvent F ah cL = some r) (_h_p0_g_1 : Rd W ag ((recs GPlace.cells) ah.Places)) :
  Calls Try.prog 213 [.agg #[.int .i64 ah.Events, .slice ag ax ai], .int .i64 cL].toArray W fun e w' => ∃ v, e = .returned v ∧ v = .bool r ∧ St [] W w' [] := by
 subst aB
 unfold impl_isEvent at hm
 refine Calls.enter (N := 10) Try.func213 rfl rfl rfl (fun a hf => ?_)
 have hs := St.start W
 obtain ⟨w, hw_⟩ : ∃ w, w = W := ⟨W, rfl⟩
 clear hw_ w
 refine wpL_seq <| wpL_region ?_
 refine sBox hf hs rfl rfl rfl rfl rfl (cs := [.int .i64 ah.Events, .slice ag ah.Places.length ai]) rfl ?_; clear hf hs; intro a w b1 hs hf
 have hs : St _ W w [.blk b1 55 [.int .i64 ah.Events, .slice ag ah.Places.length ai]] := hs
 refine sY hf hs rfl rfl rfl (Y_assign rfl rfl) ?_; clear hf; intro a hf
 refine wpO_nil <| wpL_seq <| wpL_region ?_
 refine sY hf hs rfl rfl rfl (Y_move rfl rfl) ?_; clear hf; intro a hf
 refine sY hf hs rfl rfl rfl (Y_fieldAddr rfl rfl fo55_0) ?_; clear hf; intro a hf
 refine sY hf hs rfl rfl rfl (Y_load_blk rfl rfl (i := 0) rfl rfl ag2) ?_; clear hf; intro a hf
 refine sY hf hs rfl rfl rfl (Y_sub rfl rfl rfl) ?_; clear hf; intro a hf
 obtain ⟨r2, hc3, hm⟩ := bind_some hm
 refine sCall hf rfl rfl rfl rfl (cap := []) rfl rfl en71 (impl_within_ok F cL 0 (IntKind.i64.wrap (ah.Events - 1)) _ _ hc3) ?_; clear hf
 rintro _ w ⟨rfl, hs1⟩ a hf
 have hs : St _ W w [_] := hs.ext hs1.below
 clear hs1
 refine sY hf hs rfl rfl rfl (Y_assign rfl rfl) ?_; clear hf; intro a hf
 refine wpO_nil ?_
 obtain rfl := Option.some.inj hm
 refine wpL_ret (ret_tmp rfl hf rfl ?_)
 exact ⟨_, rfl, rfl, hs.sel [] (by decide)⟩

end Go.Proofs.Ytebmlphobgaboab
