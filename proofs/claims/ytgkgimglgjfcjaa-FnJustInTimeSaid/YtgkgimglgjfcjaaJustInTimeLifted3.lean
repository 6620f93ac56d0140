/- The functions do what their models say. -/
import Derived.Test.YtgkgimglgjfcjaaJustInTimeLifted2
import Derived.Test.YtgkgimglgjfcjaaRows
namespace Go.Proofs.Ytgkgimglgjfcjaa
open Go.RowKit

set_option maxHeartbeats 2000000 in
set_option maxRecDepth 100000 in
theorem spec_DrawMeetsDue_ok (F : Nat) (p0 : List Int) (A_p0_1 : Option Addr) (n_p0_1 c_p0_1 : Nat) (hn_p0_1 : n_p0_1 = p0.length) (r : GSystem × List Int × List Int × List Int) (W : World) (hm : spec_DrawMeetsDue F p0 = some r) (h_p0_1 : Rd W A_p0_1 (bytes p0)) :
    Calls Try.prog 38 [.slice A_p0_1 n_p0_1 c_p0_1].toArray W fun e w' => ∃ v, e = .returned v ∧ ∃ A136, ∃ n137, ∃ c138, ∃ vs140, ∃ A141, ∃ n142, ∃ c143, ∃ A145, ∃ n146, ∃ c147, ∃ A149, ∃ n150, ∃ c151, ∃ A153, ∃ n154, ∃ c155, ∃ A157, ∃ n158, ∃ c159, v = .tuple #[.agg #[.slice A136 n137 c138, .slice A141 n142 c143, .slice A145 n146 c147], .slice A149 n150 c151, .slice A153 n154 c155, .slice A157 n158 c159] ∧ n137 = r.1.A.length ∧ n142 = r.1.B.length ∧ n146 = r.1.C.length ∧ n150 = r.2.1.length ∧ n154 = r.2.2.1.length ∧ n158 = r.2.2.2.length ∧ St [] W w' [.mat A136 n137 c138 23 2 vs140 r.1.A, .row A141 n142 c143 2 1 (ints r.1.B), .row A145 n146 c147 2 1 (ints r.1.C), .row A149 n150 c151 2 1 (ints r.2.1), .row A153 n154 c155 2 1 (ints r.2.2.1), .row A157 n158 c159 2 1 (ints r.2.2.2)] := by
  subst hn_p0_1
  unfold spec_DrawMeetsDue at hm
  refine Calls.enter (N := 74) Try.func38 rfl rfl rfl (fun a hf => ?_)
  have hs := St.start W
  obtain ⟨w, hw_⟩ : ∃ w, w = W := ⟨W, rfl⟩
  clear hw_ w
  refine wpL_seq ?_
  refine wpL_region ?_
  refine sAlloc hf hs rfl rfl rfl rfl ti27 ?_; clear hf hs; intro a w b1 hs hf
  have hs : St [] W w [.blk b1 27 [.slice none 0 0, .slice none 0 0, .slice none 0 0]] := hs
  refine sY hf hs rfl rfl rfl (Y_assign rfl rfl) ?_; clear hf; intro a hf
  refine sY hf hs rfl rfl rfl (Y_assign rfl rfl) ?_; clear hf; intro a hf
  refine sY hf hs rfl rfl rfl (Y_assign rfl rfl) ?_; clear hf; intro a hf
  refine wpO_nil ?_
  refine wpL_seq ?_
  refine wpL_region ?_
  refine sY hf hs rfl rfl rfl (Y_move rfl rfl) ?_; clear hf; intro a hf
  obtain ⟨r2, hc3, hm⟩ := bind_some hm
  refine sCall hf rfl rfl rfl rfl (cap := []) rfl rfl en101 (spec_l01From_ok F p0 A_p0_1 p0.length c_p0_1 rfl _ _ hc3 (h_p0_1.at hs)) ?_; clear hf
  rintro _ w ⟨b4, rfl, hs1⟩ a hf
  have hs : St [] W w [.blk b1 27 [.slice none 0 0, .slice none 0 0, .slice none 0 0], .blk b4 145 [.slice A_p0_1 p0.length c_p0_1, .int .i64 r2.1, .int .i64 r2.2]] := hs.join hs1
  clear hs1
  refine sY hf hs rfl rfl rfl (Y_assign rfl rfl) ?_; clear hf; intro a hf
  refine wpO_nil ?_
  refine wpL_seq ?_
  refine wpL_region ?_
  refine sY hf hs rfl rfl rfl (Y_move rfl rfl) ?_; clear hf; intro a hf
  obtain ⟨r5, hc6, hm⟩ := bind_some hm
  refine sCall hf rfl rfl rfl rfl (cap := []) rfl rfl en102 (spec_l24DrawSystem_ok F b4 p0 A_p0_1 p0.length c_p0_1 rfl r2.1 r2.2 _ _ hc6 (h_p0_1.pass hs [1]) (hs.sel [1] (by decide)).rebase) ?_; clear hf
  rintro _ w ⟨A7, n8, c9, vs11, A12, n13, c14, A16, n17, c18, rfl, hn10, hn15, hn19, hs1⟩ a hf
  have hs : St [] W w [.blk b1 27 [.slice none 0 0, .slice none 0 0, .slice none 0 0], .mat A7 n8 c9 23 2 vs11 r5.1.A, .row A12 n13 c14 2 1 (ints r5.1.B), .row A16 n17 c18 2 1 (ints r5.1.C), .blk b4 145 [.slice A_p0_1 p0.length c_p0_1, .int .i64 r5.2.1, .int .i64 r5.2.2]] := St.mutTail (La := [.blk b1 27 [.slice none 0 0, .slice none 0 0, .slice none 0 0]]) (Lb := [.blk b4 145 [.slice A_p0_1 p0.length c_p0_1, .int .i64 r2.1, .int .i64 r2.2]]) (hs.sel [0, 1] (by decide)) hs1
  clear hs1
  refine sAlloc hf hs rfl rfl rfl rfl ti27 ?_; clear hf hs; intro a w b20 hs hf
  have hs : St [] W w [.blk b1 27 [.slice none 0 0, .slice none 0 0, .slice none 0 0], .mat A7 n8 c9 23 2 vs11 r5.1.A, .row A12 n13 c14 2 1 (ints r5.1.B), .row A16 n17 c18 2 1 (ints r5.1.C), .blk b4 145 [.slice A_p0_1 p0.length c_p0_1, .int .i64 r5.2.1, .int .i64 r5.2.2], .blk b20 27 [.slice none 0 0, .slice none 0 0, .slice none 0 0]] := hs
  refine sStore (i := 5) (us := [.slice A7 n8 c9, .slice A12 n13 c14, .slice A16 n17 c18]) hf hs rfl rfl rfl rfl rfl rfl ti27 rfl rfl rfl (Nat.le_of_ble_eq_true rfl) rfl ?_; clear hs; intro w hs
  have hs : St [] W w [.blk b1 27 [.slice none 0 0, .slice none 0 0, .slice none 0 0], .mat A7 n8 c9 23 2 vs11 r5.1.A, .row A12 n13 c14 2 1 (ints r5.1.B), .row A16 n17 c18 2 1 (ints r5.1.C), .blk b4 145 [.slice A_p0_1 p0.length c_p0_1, .int .i64 r5.2.1, .int .i64 r5.2.2], .blk b20 27 [.slice A7 n8 c9, .slice A12 n13 c14, .slice A16 n17 c18]] := hs
  refine wpO_nil ?_
  refine wpL_seq ?_
  refine wpL_region ?_
  refine sY hf hs rfl rfl rfl (Y_move rfl rfl) ?_; clear hf; intro a hf
  obtain ⟨r21, hc22, hm⟩ := bind_some hm
  refine sCall hf rfl rfl rfl rfl (cap := []) rfl rfl en109 (spec_l24DrawInputs_ok F b4 p0 A_p0_1 p0.length c_p0_1 rfl r5.2.1 r5.2.2 false _ _ hc22 (h_p0_1.pass hs [4]) (hs.sel [4] (by decide)).rebase) ?_; clear hf
  rintro _ w ⟨A23, n24, c25, rfl, hn26, hs1⟩ a hf
  have hs : St [] W w [.blk b1 27 [.slice none 0 0, .slice none 0 0, .slice none 0 0], .mat A7 n8 c9 23 2 vs11 r5.1.A, .row A12 n13 c14 2 1 (ints r5.1.B), .row A16 n17 c18 2 1 (ints r5.1.C), .blk b20 27 [.slice A7 n8 c9, .slice A12 n13 c14, .slice A16 n17 c18], .row A23 n24 c25 2 1 (ints r21.1), .blk b4 145 [.slice A_p0_1 p0.length c_p0_1, .int .i64 r21.2.1, .int .i64 r21.2.2]] := St.mutTail (La := [.blk b1 27 [.slice none 0 0, .slice none 0 0, .slice none 0 0], .mat A7 n8 c9 23 2 vs11 r5.1.A, .row A12 n13 c14 2 1 (ints r5.1.B), .row A16 n17 c18 2 1 (ints r5.1.C), .blk b20 27 [.slice A7 n8 c9, .slice A12 n13 c14, .slice A16 n17 c18]]) (Lb := [.blk b4 145 [.slice A_p0_1 p0.length c_p0_1, .int .i64 r5.2.1, .int .i64 r5.2.2]]) (hs.sel [0, 1, 2, 3, 5, 4] (by decide)) hs1
  clear hs1
  refine sY hf hs rfl rfl rfl (Y_assign rfl rfl) ?_; clear hf; intro a hf
  refine wpO_nil ?_
  refine wpL_seq ?_
  refine wpL_region ?_
  refine sY hf hs rfl rfl rfl (Y_fieldAddr rfl rfl fo27_0) ?_; clear hf; intro a hf
  refine sY hf hs rfl rfl rfl (Y_load_blk rfl rfl (i := 4) rfl rfl ag22) ?_; clear hf; intro a hf
  refine sY hf hs rfl rfl rfl (Y_lenH rfl rfl el22 hn10) ?_; clear hf; intro a hf
  refine sY hf hs rfl rfl rfl (Y_max rfl rfl rfl) ?_; clear hf; intro a hf
  obtain ⟨r27, hc28, hm⟩ := bind_some hm
  refine sCall hf rfl rfl rfl rfl (cap := []) rfl rfl en74 (spec_l02Bottom_ok F 1 (max 1 (r5.1.A.length : Int)) _ _ hc28) ?_; clear hf
  rintro _ w ⟨A29, n30, c31, vs33, rfl, hn32, hs1⟩ a hf
  have hs : St [] W w [.blk b1 27 [.slice none 0 0, .slice none 0 0, .slice none 0 0], .mat A7 n8 c9 23 2 vs11 r5.1.A, .row A12 n13 c14 2 1 (ints r5.1.B), .row A16 n17 c18 2 1 (ints r5.1.C), .blk b20 27 [.slice A7 n8 c9, .slice A12 n13 c14, .slice A16 n17 c18], .row A23 n24 c25 2 1 (ints r21.1), .blk b4 145 [.slice A_p0_1 p0.length c_p0_1, .int .i64 r21.2.1, .int .i64 r21.2.2], .mat A29 n30 c31 23 2 vs33 r27] := hs.join hs1
  clear hs1
  obtain ⟨q34, hi35, hm⟩ := bind_some hm
  obtain ⟨hi35a, hi35b, hi35q⟩ := idx_some hi35
  obtain ⟨A36, c37, hv38⟩ := hs.matRow (i := 7) rfl hi35q
  refine sY hf hs rfl rfl rfl (Y_index rfl rfl rfl el22 ti23 (Rd.isAt (hs.rdV (i := 7) rfl) hv38) hi35a (ltn hn32 hi35b)) ?_; clear hf; intro a hf
  refine sY hf hs rfl rfl rfl (Y_load_rd rfl rfl (fun w hs => hs.rdV (i := 7) rfl) (at1 hv38) ag23) ?_; clear hf; intro a hf
  refine sY hf hs rfl rfl rfl (Y_assign rfl rfl) ?_; clear hf; intro a hf
  refine wpO_nil ?_
  refine wpL_seq ?_
  refine wpL_seq ?_
  refine wpL_region ?_
  refine sY hf hs rfl rfl rfl (Y_move rfl rfl) ?_; clear hf; intro a hf
  obtain ⟨r39, hc40, hm⟩ := bind_some hm
  refine sCall hf rfl rfl rfl rfl (cap := []) rfl rfl en107 (spec_l01Next_ok F b4 p0 A_p0_1 p0.length c_p0_1 rfl r21.2.1 r21.2.2 4 _ _ hc40 (h_p0_1.pass hs [6]) (hs.sel [6] (by decide)).rebase) ?_; clear hf
  rintro _ w ⟨rfl, hs1⟩ a hf
  have hs : St [] W w [.blk b1 27 [.slice none 0 0, .slice none 0 0, .slice none 0 0], .mat A7 n8 c9 23 2 vs11 r5.1.A, .row A12 n13 c14 2 1 (ints r5.1.B), .row A16 n17 c18 2 1 (ints r5.1.C), .blk b20 27 [.slice A7 n8 c9, .slice A12 n13 c14, .slice A16 n17 c18], .row A23 n24 c25 2 1 (ints r21.1), .mat A29 n30 c31 23 2 vs33 r27, .blk b4 145 [.slice A_p0_1 p0.length c_p0_1, .int .i64 r39.2.1, .int .i64 r39.2.2]] := St.mutTail (La := [.blk b1 27 [.slice none 0 0, .slice none 0 0, .slice none 0 0], .mat A7 n8 c9 23 2 vs11 r5.1.A, .row A12 n13 c14 2 1 (ints r5.1.B), .row A16 n17 c18 2 1 (ints r5.1.C), .blk b20 27 [.slice A7 n8 c9, .slice A12 n13 c14, .slice A16 n17 c18], .row A23 n24 c25 2 1 (ints r21.1), .mat A29 n30 c31 23 2 vs33 r27]) (Lb := [.blk b4 145 [.slice A_p0_1 p0.length c_p0_1, .int .i64 r21.2.1, .int .i64 r21.2.2]]) (hs.sel [0, 1, 2, 3, 4, 5, 7, 6] (by decide)) hs1
  clear hs1
  refine sY hf hs rfl rfl rfl (Y_eql rfl rfl rfl) ?_; clear hf; intro a hf
  refine wpO_nil ?_
  obtain ⟨r55, hj56, hm⟩ := bind_some hm
  refine wpL_cut (fun a w => ∃ x48 : Int, ∃ x49 : Int, ∃ xs50 : List Int, ∃ A51, ∃ n52, ∃ c53, (x48, x49, xs50) = r55 ∧ n52 = xs50.length ∧ Fr a 74 [(2, .pointer (some ⟨b1, 0, none⟩)), (6, .pointer (some ⟨b4, 0, none⟩)), (7, .pointer (some ⟨b20, 0, none⟩)), (8, .slice A23 n24 c25), (9, .slice A51 n52 c53)] ∧ St [] W w [.blk b1 27 [.slice none 0 0, .slice none 0 0, .slice none 0 0], .blk b4 145 [.slice A_p0_1 p0.length c_p0_1, .int .i64 x48, .int .i64 x49], .blk b20 27 [.slice A7 n8 c9, .slice A12 n13 c14, .slice A16 n17 c18], .mat A7 n8 c9 23 2 vs11 r5.1.A, .row A12 n13 c14 2 1 (ints r5.1.B), .row A16 n17 c18 2 1 (ints r5.1.C), .row A23 n24 c25 2 1 (ints r21.1), .row A51 n52 c53 2 1 (ints xs50)]) ?_ ?_
  · refine wpL_cond hf rfl (fun hb57 => ?_) (fun hb57 => ?_)
    · have hj56 := bif_t hj56 hb57
      refine wpL_region ?_
      refine sY hf hs rfl rfl rfl (Y_move rfl rfl) ?_; clear hf; intro a hf
      refine sY hf hs rfl rfl rfl (Y_fieldAddr rfl rfl fo27_0) ?_; clear hf; intro a hf
      refine sY hf hs rfl rfl rfl (Y_load_blk rfl rfl (i := 4) rfl rfl ag22) ?_; clear hf; intro a hf
      refine sY hf hs rfl rfl rfl (Y_lenH rfl rfl el22 hn10) ?_; clear hf; intro a hf
      obtain ⟨r58, hc59, hj56⟩ := bind_some hj56
      refine sCall hf rfl rfl rfl rfl (cap := []) rfl rfl en108 (spec_l02DrawVector_ok F b4 p0 A_p0_1 p0.length c_p0_1 rfl r39.2.1 r39.2.2 (r5.1.A.length : Int) _ _ hc59 (h_p0_1.pass hs [7]) (hs.sel [7] (by decide)).rebase) ?_; clear hf
      rintro _ w ⟨A60, n61, c62, rfl, hn63, hs1⟩ a hf
      have hs : St [] W w [.blk b1 27 [.slice none 0 0, .slice none 0 0, .slice none 0 0], .mat A7 n8 c9 23 2 vs11 r5.1.A, .row A12 n13 c14 2 1 (ints r5.1.B), .row A16 n17 c18 2 1 (ints r5.1.C), .blk b20 27 [.slice A7 n8 c9, .slice A12 n13 c14, .slice A16 n17 c18], .row A23 n24 c25 2 1 (ints r21.1), .mat A29 n30 c31 23 2 vs33 r27, .row A60 n61 c62 2 1 (ints r58.1), .blk b4 145 [.slice A_p0_1 p0.length c_p0_1, .int .i64 r58.2.1, .int .i64 r58.2.2]] := St.mutTail (La := [.blk b1 27 [.slice none 0 0, .slice none 0 0, .slice none 0 0], .mat A7 n8 c9 23 2 vs11 r5.1.A, .row A12 n13 c14 2 1 (ints r5.1.B), .row A16 n17 c18 2 1 (ints r5.1.C), .blk b20 27 [.slice A7 n8 c9, .slice A12 n13 c14, .slice A16 n17 c18], .row A23 n24 c25 2 1 (ints r21.1), .mat A29 n30 c31 23 2 vs33 r27]) (Lb := [.blk b4 145 [.slice A_p0_1 p0.length c_p0_1, .int .i64 r39.2.1, .int .i64 r39.2.2]]) (hs.sel [0, 1, 2, 3, 4, 5, 6, 7] (by decide)) hs1
      clear hs1
      refine sY hf hs rfl rfl rfl (Y_assign rfl rfl) ?_; clear hf; intro a hf
      refine wpO_nil ?_
      refine wpL_nil (then_normal ?_)
      exact ⟨r58.2.1, r58.2.2, r58.1, A60, n61, c62, Option.some.inj hj56, hn63, (FrD.pick (FrD.pick (FrD.pick (FrD.pick (FrD.pick hf.none hf rfl) hf rfl) hf rfl) hf rfl) hf rfl), hs.sel [0, 8, 4, 1, 2, 3, 5, 7] (by decide)⟩
    · have hj56 := bif_f hj56 hb57
      refine wpL_skip ?_
      have hs := hs.takeRow (i := 6) rfl ⟨hi35q, hv38⟩
      have hs : St [] W _ [.blk b1 27 [.slice none 0 0, .slice none 0 0, .slice none 0 0], .mat A7 n8 c9 23 2 vs11 r5.1.A, .row A12 n13 c14 2 1 (ints r5.1.B), .row A16 n17 c18 2 1 (ints r5.1.C), .blk b20 27 [.slice A7 n8 c9, .slice A12 n13 c14, .slice A16 n17 c18], .row A23 n24 c25 2 1 (ints r21.1), .row A36 q34.length c37 2 1 (ints q34), .blk b4 145 [.slice A_p0_1 p0.length c_p0_1, .int .i64 r39.2.1, .int .i64 r39.2.2]] := hs
      refine wpL_nil (then_normal ?_)
      exact ⟨r39.2.1, r39.2.2, q34, A36, q34.length, c37, Option.some.inj hj56, rfl, (FrD.pick (FrD.pick (FrD.pick (FrD.pick (FrD.pick hf.none hf rfl) hf rfl) hf rfl) hf rfl) hf rfl), hs.sel [0, 7, 4, 1, 2, 3, 5, 6] (by decide)⟩
  · rintro a w ⟨x48, x49, xs50, A51, n52, c53, hr_, hn54, hf, hs⟩
    subst hr_
    try dsimp only at hm
    refine wpL_seq ?_
    refine wpL_region ?_
    refine sY hf hs rfl rfl rfl (Y_load_blkS rfl rfl (i := 2) rfl ag27 ti27 rfl) ?_; clear hf; intro a hf
    refine sY hf hs rfl rfl rfl (Y_move rfl rfl) ?_; clear hf; intro a hf
    obtain ⟨r64, hc65, hm⟩ := bind_some hm
    refine sCall hf rfl rfl rfl rfl (cap := []) rfl rfl en37 (spec_LatestInputs_ok F (GSystem.mk r5.1.A r5.1.B r5.1.C) A7 n8 c9 hn10 A12 n13 c14 hn15 A16 n17 c18 hn19 r21.1 A23 n24 c25 hn26 _ _ hc65 (hs.rdM (i := 3) rfl) (hs.rd (i := 4) rfl) (hs.rd (i := 5) rfl) (hs.rd (i := 6) rfl)) ?_; clear hf
    rintro _ w ⟨A66, n67, c68, rfl, hn69, hs1⟩ a hf
    have hs : St [] W w [.blk b1 27 [.slice none 0 0, .slice none 0 0, .slice none 0 0], .blk b4 145 [.slice A_p0_1 p0.length c_p0_1, .int .i64 x48, .int .i64 x49], .blk b20 27 [.slice A7 n8 c9, .slice A12 n13 c14, .slice A16 n17 c18], .mat A7 n8 c9 23 2 vs11 r5.1.A, .row A12 n13 c14 2 1 (ints r5.1.B), .row A16 n17 c18 2 1 (ints r5.1.C), .row A23 n24 c25 2 1 (ints r21.1), .row A51 n52 c53 2 1 (ints xs50), .row A66 n67 c68 2 1 (ints r64.1)] := hs.join hs1
    clear hs1
    refine sY hf hs rfl rfl rfl (Y_move rfl rfl) ?_; clear hf; intro a hf
    refine sY hf hs rfl rfl rfl (Y_extract rfl rfl rfl) ?_; clear hf; intro a hf
    refine sY hf hs rfl rfl rfl (Y_extract rfl rfl rfl) ?_; clear hf; intro a hf
    refine sY hf hs rfl rfl rfl (Y_assign rfl rfl) ?_; clear hf; intro a hf
    refine sY hf hs rfl rfl rfl (Y_assign rfl rfl) ?_; clear hf; intro a hf
    refine wpO_nil ?_
    refine wpL_seq ?_
    refine wpL_seq ?_
    refine wpL_region ?_
    refine sY hf hs rfl rfl rfl (Y_move rfl rfl) ?_; clear hf; intro a hf
    refine sY hf hs rfl rfl rfl (Y_neq rfl rfl rfl) ?_; clear hf; intro a hf
    refine wpO_nil ?_
    refine wpL_cond hf rfl (fun hb70 => ?_) (fun hb70 => ?_)
    · have hm := bif_t hm hb70
      refine wpL_seq ?_
      refine wpL_drawM [.blk b1 27 [.slice none 0 0, .slice none 0 0, .slice none 0 0], .blk b20 27 [.slice A7 n8 c9, .slice A12 n13 c14, .slice A16 n17 c18], .mat A7 n8 c9 23 2 vs11 r5.1.A, .row A12 n13 c14 2 1 (ints r5.1.B), .row A16 n17 c18 2 1 (ints r5.1.C), .row A23 n24 c25 2 1 (ints r21.1), .row A51 n52 c53 2 1 (ints xs50), .row A66 n67 c68 2 1 (ints r64.1)] [5] (by kernel_rfl) hs ?_; clear hs; intro w hs
      have hs0 : St [] W w [.blk b1 27 [.slice none 0 0, .slice none 0 0, .slice none 0 0], .blk b20 27 [.slice A7 n8 c9, .slice A12 n13 c14, .slice A16 n17 c18], .mat A7 n8 c9 23 2 vs11 r5.1.A, .row A12 n13 c14 2 1 (ints r5.1.B), .row A16 n17 c18 2 1 (ints r5.1.C), .row A23 n24 c25 2 1 (ints r21.1), .row A51 n52 c53 2 1 (ints xs50), .row A66 n67 c68 2 1 (ints r64.1)] := hs.sel [0, 2, 3, 4, 5, 6, 7, 8] (by decide)
      refine mY (i := 0) [[]] rfl (by kernel_rfl) (by kernel_rfl) hf hs0 rfl rfl rfl (Y_load_blkS rfl rfl (i := 1) rfl ag27 ti27 rfl) ?_; clear hf; intro a hf
      refine mYp (i := 1) rfl (by kernel_rfl) (by kernel_rfl) hf rfl rfl rfl (fun _ => Y_move rfl rfl) ?_; clear hf; intro a hf
      refine mYp (i := 2) rfl (by kernel_rfl) (by kernel_rfl) hf rfl rfl rfl (fun _ => Y_move rfl rfl) ?_; clear hf; intro a hf
      refine mYp (i := 4) rfl (by kernel_rfl) (by kernel_rfl) hf rfl rfl rfl (fun _ => Y_move rfl rfl) ?_; clear hf; intro a hf
      refine mRun (i := 3) rfl (by kernel_rfl) ?_
      obtain ⟨r77, hc78, hm⟩ := bind_some hm
      refine sCall hf rfl rfl rfl rfl (cap := []) rfl rfl en109 (spec_l24DrawInputs_ok F b4 p0 A_p0_1 p0.length c_p0_1 rfl x48 x49 true _ _ hc78 (h_p0_1.pass hs [1]) (hs.sel [1] (by decide)).rebase) ?_; clear hf
      rintro _ w ⟨A79, n80, c81, rfl, hn82, hs1⟩ a hf
      have hs : St [] W w [.blk b1 27 [.slice none 0 0, .slice none 0 0, .slice none 0 0], .blk b20 27 [.slice A7 n8 c9, .slice A12 n13 c14, .slice A16 n17 c18], .mat A7 n8 c9 23 2 vs11 r5.1.A, .row A12 n13 c14 2 1 (ints r5.1.B), .row A16 n17 c18 2 1 (ints r5.1.C), .row A23 n24 c25 2 1 (ints r21.1), .row A51 n52 c53 2 1 (ints xs50), .row A66 n67 c68 2 1 (ints r64.1), .row A79 n80 c81 2 1 (ints r77.1), .blk b4 145 [.slice A_p0_1 p0.length c_p0_1, .int .i64 r77.2.1, .int .i64 r77.2.2]] := St.mutTail (La := [.blk b1 27 [.slice none 0 0, .slice none 0 0, .slice none 0 0], .blk b20 27 [.slice A7 n8 c9, .slice A12 n13 c14, .slice A16 n17 c18], .mat A7 n8 c9 23 2 vs11 r5.1.A, .row A12 n13 c14 2 1 (ints r5.1.B), .row A16 n17 c18 2 1 (ints r5.1.C), .row A23 n24 c25 2 1 (ints r21.1), .row A51 n52 c53 2 1 (ints xs50), .row A66 n67 c68 2 1 (ints r64.1)]) (Lb := [.blk b4 145 [.slice A_p0_1 p0.length c_p0_1, .int .i64 x48, .int .i64 x49]]) (hs.sel [0, 2, 3, 4, 5, 6, 7, 8, 1] (by decide)) hs1
      clear hs1
      have hs0 : St [] W w [.blk b1 27 [.slice none 0 0, .slice none 0 0, .slice none 0 0], .blk b20 27 [.slice A7 n8 c9, .slice A12 n13 c14, .slice A16 n17 c18], .mat A7 n8 c9 23 2 vs11 r5.1.A, .row A12 n13 c14 2 1 (ints r5.1.B), .row A16 n17 c18 2 1 (ints r5.1.C), .row A23 n24 c25 2 1 (ints r21.1), .row A51 n52 c53 2 1 (ints xs50), .row A66 n67 c68 2 1 (ints r64.1)] := hs.sel [0, 1, 2, 3, 4, 5, 6, 7] (by decide)
      refine wpO_nil ⟨Or.inr (fun _ => hs0), ?_⟩
      refine mRun (i := 5) rfl (by kernel_rfl) ?_
      refine sStore (i := 0) (us := [.slice A7 n8 c9, .slice A12 n13 c14, .slice A16 n17 c18]) hf hs rfl rfl rfl rfl rfl rfl ti27 rfl rfl rfl (Nat.le_of_ble_eq_true rfl) rfl ?_; clear hs; intro w hs
      have hs : St [] W w [.blk b1 27 [.slice A7 n8 c9, .slice A12 n13 c14, .slice A16 n17 c18], .blk b20 27 [.slice A7 n8 c9, .slice A12 n13 c14, .slice A16 n17 c18], .mat A7 n8 c9 23 2 vs11 r5.1.A, .row A12 n13 c14 2 1 (ints r5.1.B), .row A16 n17 c18 2 1 (ints r5.1.C), .row A23 n24 c25 2 1 (ints r21.1), .row A51 n52 c53 2 1 (ints xs50), .row A66 n67 c68 2 1 (ints r64.1), .row A79 n80 c81 2 1 (ints r77.1), .blk b4 145 [.slice A_p0_1 p0.length c_p0_1, .int .i64 r77.2.1, .int .i64 r77.2.2]] := hs
      refine wpO_nil ⟨Or.inl (by decide), ?_⟩
      refine mYp (i := 6) rfl (by kernel_rfl) (by kernel_rfl) hf rfl rfl rfl (fun _ => Y_assign rfl rfl) ?_; clear hf; intro a hf
      refine mYp (i := 7) rfl (by kernel_rfl) (by kernel_rfl) hf rfl rfl rfl (fun _ => Y_assign rfl rfl) ?_; clear hf; intro a hf
      refine mYp (i := 8) rfl (by kernel_rfl) (by kernel_rfl) hf rfl rfl rfl (fun _ => Y_assign rfl rfl) ?_; clear hf; intro a hf
      refine mDone (by kernel_rfl) ?_
      clear hs0
      obtain rfl := Option.some.inj hm
      refine wpL_ret (ret_cell_tmp3 rfl hf rfl rfl rfl rfl hs (i := 0) rfl ag27 ti27 rfl ?_)
      exact ⟨_, rfl, A7, n8, c9, vs11, A12, n13, c14, A16, n17, c18, A51, n52, c53, A79, n80, c81, A23, n24, c25, rfl, hn10, hn15, hn19, hn54, hn82, hn26, hs.sel [2, 3, 4, 6, 8, 5] (by decide)⟩
    · have hm := bif_f hm hb70
      refine wpL_skip ?_
      refine wpL_seq ?_
      refine wpL_seq ?_
      obtain ⟨r89, hj90, hm⟩ := bind_some hm
      refine wpL_cut (fun a w => ∃ x86 : Int, ∃ x87 : Int, ∃ b88 : Bool, (x86, x87, b88) = r89 ∧ Fr a 74 [(2, .pointer (some ⟨b1, 0, none⟩)), (6, .pointer (some ⟨b4, 0, none⟩)), (7, .pointer (some ⟨b20, 0, none⟩)), (8, .slice A23 n24 c25), (9, .slice A51 n52 c53), (10, .slice A66 n67 c68), (54, .bool b88)] ∧ St [] W w [.blk b1 27 [.slice none 0 0, .slice none 0 0, .slice none 0 0], .blk b4 145 [.slice A_p0_1 p0.length c_p0_1, .int .i64 x86, .int .i64 x87], .blk b20 27 [.slice A7 n8 c9, .slice A12 n13 c14, .slice A16 n17 c18], .mat A7 n8 c9 23 2 vs11 r5.1.A, .row A12 n13 c14 2 1 (ints r5.1.B), .row A16 n17 c18 2 1 (ints r5.1.C), .row A23 n24 c25 2 1 (ints r21.1), .row A51 n52 c53 2 1 (ints xs50), .row A66 n67 c68 2 1 (ints r64.1)]) ?_ ?_
      · refine wpL_region ?_
        refine sY hf hs rfl rfl rfl (Y_move rfl rfl) ?_; clear hf; intro a hf
        refine sY hf hs rfl rfl rfl (Y_lenH rfl rfl el23 hn69) ?_; clear hf; intro a hf
        refine sY hf hs rfl rfl rfl (Y_gtr rfl rfl rfl) ?_; clear hf; intro a hf
        refine sY hf hs rfl rfl rfl (Y_move rfl rfl) ?_; clear hf; intro a hf
        refine bsplit (decide (0 < (r64.1.length : Int))) (fun hb91 => ?_) (fun hb91 => ?_)
        · have hj90 := bif_t hj90 hb91
          refine sYg hf hs rfl rfl rfl (congrArg (fun b => some (Value.bool b)) hb91) rfl rfl rfl (Y_move rfl rfl) ?_; clear hf; intro a hf
          obtain ⟨r92, hc93, hj90⟩ := bind_some hj90
          refine sCallg hf rfl rfl rfl (congrArg (fun b => some (Value.bool b)) hb91) rfl rfl rfl rfl (cap := []) rfl rfl en107 (spec_l01Next_ok F b4 p0 A_p0_1 p0.length c_p0_1 rfl x48 x49 2 _ _ hc93 (h_p0_1.pass hs [1]) (hs.sel [1] (by decide)).rebase) ?_; clear hf
          rintro _ w ⟨rfl, hs1⟩ a hf
          have hs : St [] W w [.blk b1 27 [.slice none 0 0, .slice none 0 0, .slice none 0 0], .blk b20 27 [.slice A7 n8 c9, .slice A12 n13 c14, .slice A16 n17 c18], .mat A7 n8 c9 23 2 vs11 r5.1.A, .row A12 n13 c14 2 1 (ints r5.1.B), .row A16 n17 c18 2 1 (ints r5.1.C), .row A23 n24 c25 2 1 (ints r21.1), .row A51 n52 c53 2 1 (ints xs50), .row A66 n67 c68 2 1 (ints r64.1), .blk b4 145 [.slice A_p0_1 p0.length c_p0_1, .int .i64 r92.2.1, .int .i64 r92.2.2]] := St.mutTail (La := [.blk b1 27 [.slice none 0 0, .slice none 0 0, .slice none 0 0], .blk b20 27 [.slice A7 n8 c9, .slice A12 n13 c14, .slice A16 n17 c18], .mat A7 n8 c9 23 2 vs11 r5.1.A, .row A12 n13 c14 2 1 (ints r5.1.B), .row A16 n17 c18 2 1 (ints r5.1.C), .row A23 n24 c25 2 1 (ints r21.1), .row A51 n52 c53 2 1 (ints xs50), .row A66 n67 c68 2 1 (ints r64.1)]) (Lb := [.blk b4 145 [.slice A_p0_1 p0.length c_p0_1, .int .i64 x48, .int .i64 x49]]) (hs.sel [0, 2, 3, 4, 5, 6, 7, 8, 1] (by decide)) hs1
          clear hs1
          refine sYg hf hs rfl rfl rfl (congrArg (fun b => some (Value.bool b)) hb91) rfl rfl rfl (Y_eql rfl rfl rfl) ?_; clear hf; intro a hf
          refine sY hf hs rfl rfl rfl (Y_pickT rfl (congrArg (fun b => some (Value.bool b)) hb91) rfl) ?_; clear hf; intro a hf
          refine wpO_nil ?_
          refine wpL_nil (then_normal ?_)
          exact ⟨r92.2.1, r92.2.2, (r92.1 == 0), Option.some.inj hj90, (FrD.pick (FrD.pick (FrD.pick (FrD.pick (FrD.pick (FrD.pick (FrD.pick hf.none hf rfl) hf rfl) hf rfl) hf rfl) hf rfl) hf rfl) hf rfl), hs.sel [0, 8, 1, 2, 3, 4, 5, 6, 7] (by decide)⟩
        · have hj90 := bif_f hj90 hb91
          refine sNo hf rfl rfl rfl (congrArg (fun b => some (Value.bool b)) hb91) rfl rfl rfl ?_; clear hf; intro a hf
          refine sNo hf rfl rfl rfl (congrArg (fun b => some (Value.bool b)) hb91) rfl rfl rfl ?_; clear hf; intro a hf
          refine sNo hf rfl rfl rfl (congrArg (fun b => some (Value.bool b)) hb91) rfl rfl rfl ?_; clear hf; intro a hf
          refine sY hf hs rfl rfl rfl (Y_pickF rfl (congrArg (fun b => some (Value.bool b)) hb91) rfl) ?_; clear hf; intro a hf
          refine wpO_nil ?_
          refine wpL_nil (then_normal ?_)
          exact ⟨x48, x49, false, Option.some.inj hj90, (FrD.pick (FrD.pick (FrD.pick (FrD.pick (FrD.pick (FrD.pick (FrD.pick hf.none hf rfl) hf rfl) hf rfl) hf rfl) hf rfl) hf rfl) hf rfl), hs⟩
      · rintro a w ⟨x86, x87, b88, hr_, hf, hs⟩
        subst hr_
        try dsimp only at hm
        obtain ⟨r115, hj116, hm⟩ := bind_some hm
        refine wpL_cut (fun a w => ∃ xs113 : List Int, xs113 = r115 ∧ n67 = xs113.length ∧ Fr a 74 [(2, .pointer (some ⟨b1, 0, none⟩)), (7, .pointer (some ⟨b20, 0, none⟩)), (8, .slice A23 n24 c25), (9, .slice A51 n52 c53), (10, .slice A66 n67 c68)] ∧ St [] W w [.blk b1 27 [.slice none 0 0, .slice none 0 0, .slice none 0 0], .blk b20 27 [.slice A7 n8 c9, .slice A12 n13 c14, .slice A16 n17 c18], .mat A7 n8 c9 23 2 vs11 r5.1.A, .row A12 n13 c14 2 1 (ints r5.1.B), .row A16 n17 c18 2 1 (ints r5.1.C), .row A23 n24 c25 2 1 (ints r21.1), .row A51 n52 c53 2 1 (ints xs50), .row A66 n67 c68 2 1 (ints xs113)]) ?_ ?_
        · refine wpL_cond hf rfl (fun hb117 => ?_) (fun hb117 => ?_)
          · have hj116 := bif_t hj116 hb117
            refine wpL_seq ?_
            refine wpL_region ?_
            refine sY hf hs rfl rfl rfl (Y_move rfl rfl) ?_; clear hf; intro a hf
            refine sY hf hs rfl rfl rfl (Y_move rfl rfl) ?_; clear hf; intro a hf
            refine sY hf hs rfl rfl rfl (Y_lenH rfl rfl el23 hn69) ?_; clear hf; intro a hf
            obtain ⟨r118, hc119, hj116⟩ := bind_some hj116
            refine sCall hf rfl rfl rfl rfl (cap := []) rfl rfl en107 (spec_l01Next_ok F b4 p0 A_p0_1 p0.length c_p0_1 rfl x86 x87 (r64.1.length : Int) _ _ hc119 (h_p0_1.pass hs [1]) (hs.sel [1] (by decide)).rebase) ?_; clear hf
            rintro _ w ⟨rfl, hs1⟩ a hf
            have hs : St [] W w [.blk b1 27 [.slice none 0 0, .slice none 0 0, .slice none 0 0], .blk b20 27 [.slice A7 n8 c9, .slice A12 n13 c14, .slice A16 n17 c18], .mat A7 n8 c9 23 2 vs11 r5.1.A, .row A12 n13 c14 2 1 (ints r5.1.B), .row A16 n17 c18 2 1 (ints r5.1.C), .row A23 n24 c25 2 1 (ints r21.1), .row A51 n52 c53 2 1 (ints xs50), .row A66 n67 c68 2 1 (ints r64.1), .blk b4 145 [.slice A_p0_1 p0.length c_p0_1, .int .i64 r118.2.1, .int .i64 r118.2.2]] := St.mutTail (La := [.blk b1 27 [.slice none 0 0, .slice none 0 0, .slice none 0 0], .blk b20 27 [.slice A7 n8 c9, .slice A12 n13 c14, .slice A16 n17 c18], .mat A7 n8 c9 23 2 vs11 r5.1.A, .row A12 n13 c14 2 1 (ints r5.1.B), .row A16 n17 c18 2 1 (ints r5.1.C), .row A23 n24 c25 2 1 (ints r21.1), .row A51 n52 c53 2 1 (ints xs50), .row A66 n67 c68 2 1 (ints r64.1)]) (Lb := [.blk b4 145 [.slice A_p0_1 p0.length c_p0_1, .int .i64 x86, .int .i64 x87]]) (hs.sel [0, 2, 3, 4, 5, 6, 7, 8, 1] (by decide)) hs1
            clear hs1
            refine sY hf hs rfl rfl rfl (Y_assign rfl rfl) ?_; clear hf; intro a hf
            refine wpO_nil ?_
            refine wpL_drawM [.blk b1 27 [.slice none 0 0, .slice none 0 0, .slice none 0 0], .blk b20 27 [.slice A7 n8 c9, .slice A12 n13 c14, .slice A16 n17 c18], .mat A7 n8 c9 23 2 vs11 r5.1.A, .row A12 n13 c14 2 1 (ints r5.1.B), .row A16 n17 c18 2 1 (ints r5.1.C), .row A23 n24 c25 2 1 (ints r21.1), .row A51 n52 c53 2 1 (ints xs50), .row A66 n67 c68 2 1 (ints r64.1)] [11] (by kernel_rfl) hs ?_; clear hs; intro w hs
            have hs0 : St [] W w [.blk b1 27 [.slice none 0 0, .slice none 0 0, .slice none 0 0], .blk b20 27 [.slice A7 n8 c9, .slice A12 n13 c14, .slice A16 n17 c18], .mat A7 n8 c9 23 2 vs11 r5.1.A, .row A12 n13 c14 2 1 (ints r5.1.B), .row A16 n17 c18 2 1 (ints r5.1.C), .row A23 n24 c25 2 1 (ints r21.1), .row A51 n52 c53 2 1 (ints xs50), .row A66 n67 c68 2 1 (ints r64.1)] := hs.sel [0, 1, 2, 3, 4, 5, 6, 7] (by decide)
            refine mYp (i := 0) rfl (by kernel_rfl) (by kernel_rfl) hf rfl rfl rfl (fun _ => Y_move rfl rfl) ?_; clear hf; intro a hf
            refine mYp (i := 1) rfl (by kernel_rfl) (by kernel_rfl) hf rfl rfl rfl (fun _ => Y_move rfl rfl) ?_; clear hf; intro a hf
            refine mYp (i := 2) rfl (by kernel_rfl) (by kernel_rfl) hf rfl rfl rfl (fun _ => Y_move rfl rfl) ?_; clear hf; intro a hf
            refine mYp (i := 3) rfl (by kernel_rfl) (by kernel_rfl) hf rfl rfl rfl (fun _ => Y_move rfl rfl) ?_; clear hf; intro a hf
            obtain ⟨q128, hi129, hj116⟩ := bind_some hj116
            obtain ⟨hi129a, hi129b, hi129q⟩ := idx_some hi129
            refine mYp (i := 4) rfl (by kernel_rfl) (by kernel_rfl) hf rfl rfl rfl (fun _ => Y_index rfl rfl rfl el23 ti2 (Rd.isAt (hs.rd (i := 7) rfl) (at1 (ints_at hi129q))) hi129a (ltn hn69 hi129b)) ?_; clear hf; intro a hf
            refine mY (i := 5) [[]] rfl (by kernel_rfl) (by kernel_rfl) hf hs0 rfl rfl rfl (Y_load_rd rfl rfl (fun w hs => hs.rd (i := 7) rfl) (at1 (ints_at hi129q)) ag2) ?_; clear hf; intro a hf
            refine mYp (i := 6) rfl (by kernel_rfl) (by kernel_rfl) hf rfl rfl rfl (fun _ => Y_move rfl rfl) ?_; clear hf; intro a hf
            refine mRun (i := 7) rfl (by kernel_rfl) ?_
            obtain ⟨r130, hc131, hj116⟩ := bind_some hj116
            refine sCall hf rfl rfl rfl rfl (cap := []) rfl rfl en107 (spec_l01Next_ok F b4 p0 A_p0_1 p0.length c_p0_1 rfl r118.2.1 r118.2.2 4 _ _ hc131 (h_p0_1.pass hs [8]) (hs.sel [8] (by decide)).rebase) ?_; clear hf
            rintro _ w ⟨rfl, hs1⟩ a hf
            have hs : St [] W w [.blk b1 27 [.slice none 0 0, .slice none 0 0, .slice none 0 0], .blk b20 27 [.slice A7 n8 c9, .slice A12 n13 c14, .slice A16 n17 c18], .mat A7 n8 c9 23 2 vs11 r5.1.A, .row A12 n13 c14 2 1 (ints r5.1.B), .row A16 n17 c18 2 1 (ints r5.1.C), .row A23 n24 c25 2 1 (ints r21.1), .row A51 n52 c53 2 1 (ints xs50), .row A66 n67 c68 2 1 (ints r64.1), .blk b4 145 [.slice A_p0_1 p0.length c_p0_1, .int .i64 r130.2.1, .int .i64 r130.2.2]] := St.mutTail (La := [.blk b1 27 [.slice none 0 0, .slice none 0 0, .slice none 0 0], .blk b20 27 [.slice A7 n8 c9, .slice A12 n13 c14, .slice A16 n17 c18], .mat A7 n8 c9 23 2 vs11 r5.1.A, .row A12 n13 c14 2 1 (ints r5.1.B), .row A16 n17 c18 2 1 (ints r5.1.C), .row A23 n24 c25 2 1 (ints r21.1), .row A51 n52 c53 2 1 (ints xs50), .row A66 n67 c68 2 1 (ints r64.1)]) (Lb := [.blk b4 145 [.slice A_p0_1 p0.length c_p0_1, .int .i64 r118.2.1, .int .i64 r118.2.2]]) (hs.sel [0, 1, 2, 3, 4, 5, 6, 7, 8] (by decide)) hs1
            clear hs1
            have hs0 : St [] W w [.blk b1 27 [.slice none 0 0, .slice none 0 0, .slice none 0 0], .blk b20 27 [.slice A7 n8 c9, .slice A12 n13 c14, .slice A16 n17 c18], .mat A7 n8 c9 23 2 vs11 r5.1.A, .row A12 n13 c14 2 1 (ints r5.1.B), .row A16 n17 c18 2 1 (ints r5.1.C), .row A23 n24 c25 2 1 (ints r21.1), .row A51 n52 c53 2 1 (ints xs50), .row A66 n67 c68 2 1 (ints r64.1)] := hs.sel [0, 1, 2, 3, 4, 5, 6, 7] (by decide)
            refine wpO_nil ⟨Or.inr (fun _ => hs0), ?_⟩
            refine mYp (i := 8) rfl (by kernel_rfl) (by kernel_rfl) hf rfl rfl rfl (fun _ => Y_add rfl rfl rfl) ?_; clear hf; intro a hf
            refine mYp (i := 9) rfl (by kernel_rfl) (by kernel_rfl) hf rfl rfl rfl (fun _ => Y_sub rfl rfl rfl) ?_; clear hf; intro a hf
            obtain ⟨q132, hi133, hj116⟩ := bind_some hj116
            obtain ⟨hi133a, hi133b, hi133q⟩ := idx_some hi133
            refine mYp (i := 10) rfl (by kernel_rfl) (by kernel_rfl) hf rfl rfl rfl (fun _ => Y_index rfl rfl rfl el23 ti2 (Rd.isAt (hs.rd (i := 7) rfl) (at1 (ints_at hi133q))) hi133a (ltn hn69 hi133b)) ?_; clear hf; intro a hf
            refine mRun (i := 11) rfl (by kernel_rfl) ?_
            obtain ⟨xs134, hu135, hj116⟩ := bind_some hj116
            refine sStoreL (i := 7) (us := [.int .i64 (IntKind.i64.wrap ((IntKind.i64.wrap (q128 + r130.1)) - 1))]) (enc := ints) hf hs rfl rfl rfl rfl rfl rfl hn69 hu135 ti2 rfl rfl rfl rfl rfl ints_len1 (ints_set (IntKind.i64.wrap ((IntKind.i64.wrap (q128 + r130.1)) - 1))) ?_; clear hs; intro w hs
            have hs : St [] W w [.blk b1 27 [.slice none 0 0, .slice none 0 0, .slice none 0 0], .blk b20 27 [.slice A7 n8 c9, .slice A12 n13 c14, .slice A16 n17 c18], .mat A7 n8 c9 23 2 vs11 r5.1.A, .row A12 n13 c14 2 1 (ints r5.1.B), .row A16 n17 c18 2 1 (ints r5.1.C), .row A23 n24 c25 2 1 (ints r21.1), .row A51 n52 c53 2 1 (ints xs50), .row A66 n67 c68 2 1 (ints xs134), .blk b4 145 [.slice A_p0_1 p0.length c_p0_1, .int .i64 r130.2.1, .int .i64 r130.2.2]] := hs
            refine wpO_nil ⟨Or.inl (by decide), ?_⟩
            refine mDone (by kernel_rfl) ?_
            clear hs0
            refine wpL_nil (then_normal ?_)
            exact ⟨xs134, Option.some.inj hj116, ((hn69).trans (upd_len hu135).symm), (FrD.pick (FrD.pick (FrD.pick (FrD.pick (FrD.pick hf.none hf rfl) hf rfl) hf rfl) hf rfl) hf rfl), hs.sel [0, 1, 2, 3, 4, 5, 6, 7] (by decide)⟩
          · have hj116 := bif_f hj116 hb117
            refine wpL_skip ?_
            refine wpL_nil (then_normal ?_)
            exact ⟨r64.1, Option.some.inj hj116, hn69, (FrD.pick (FrD.pick (FrD.pick (FrD.pick (FrD.pick hf.none hf rfl) hf rfl) hf rfl) hf rfl) hf rfl), hs.sel [0, 2, 3, 4, 5, 6, 7, 8] (by decide)⟩
        · rintro a w ⟨xs113, hr_, hn114, hf, hs⟩
          subst hr_
          try dsimp only at hm
          refine wpL_seq ?_
          refine wpL_region ?_
          refine sY hf hs rfl rfl rfl (Y_load_blkS rfl rfl (i := 1) rfl ag27 ti27 rfl) ?_; clear hf; intro a hf
          refine sY hf hs rfl rfl rfl (Y_move rfl rfl) ?_; clear hf; intro a hf
          refine sY hf hs rfl rfl rfl (Y_move rfl rfl) ?_; clear hf; intro a hf
          refine sY hf hs rfl rfl rfl (Y_move rfl rfl) ?_; clear hf; intro a hf
          refine sStore (i := 0) (us := [.slice A7 n8 c9, .slice A12 n13 c14, .slice A16 n17 c18]) hf hs rfl rfl rfl rfl rfl rfl ti27 rfl rfl rfl (Nat.le_of_ble_eq_true rfl) rfl ?_; clear hs; intro w hs
          have hs : St [] W w [.blk b1 27 [.slice A7 n8 c9, .slice A12 n13 c14, .slice A16 n17 c18], .blk b20 27 [.slice A7 n8 c9, .slice A12 n13 c14, .slice A16 n17 c18], .mat A7 n8 c9 23 2 vs11 r5.1.A, .row A12 n13 c14 2 1 (ints r5.1.B), .row A16 n17 c18 2 1 (ints r5.1.C), .row A23 n24 c25 2 1 (ints r21.1), .row A51 n52 c53 2 1 (ints xs50), .row A66 n67 c68 2 1 (ints xs113)] := hs
          refine sY hf hs rfl rfl rfl (Y_assign rfl rfl) ?_; clear hf; intro a hf
          refine sY hf hs rfl rfl rfl (Y_assign rfl rfl) ?_; clear hf; intro a hf
          refine sY hf hs rfl rfl rfl (Y_assign rfl rfl) ?_; clear hf; intro a hf
          refine wpO_nil ?_
          obtain rfl := Option.some.inj hm
          refine wpL_ret (ret_cell_tmp3 rfl hf rfl rfl rfl rfl hs (i := 0) rfl ag27 ti27 rfl ?_)
          exact ⟨_, rfl, A7, n8, c9, vs11, A12, n13, c14, A16, n17, c18, A51, n52, c53, A66, n67, c68, A23, n24, c25, rfl, hn10, hn15, hn19, hn54, hn114, hn26, hs.sel [2, 3, 4, 6, 7, 5] (by decide)⟩

set_option maxRecDepth 100000 in
theorem impl_checkSystem_ok (F : Nat) (p0_s : GSystem) (A_p0_s_1 : Option Addr) (n_p0_s_1 c_p0_s_1 : Nat) (hn_p0_s_1 : n_p0_s_1 = p0_s.A.length) (A_p0_s_2 : Option Addr) (n_p0_s_2 c_p0_s_2 : Nat) (hn_p0_s_2 : n_p0_s_2 = p0_s.B.length) (A_p0_s_3 : Option Addr) (n_p0_s_3 c_p0_s_3 : Nat) (hn_p0_s_3 : n_p0_s_3 = p0_s.C.length) (p1_x : List Int) (A_p1_x_1 : Option Addr) (n_p1_x_1 c_p1_x_1 : Nat) (hn_p1_x_1 : n_p1_x_1 = p1_x.length) (p2_inputs : List Int) (A_p2_inputs_1 : Option Addr) (n_p2_inputs_1 c_p2_inputs_1 : Nat) (hn_p2_inputs_1 : n_p2_inputs_1 = p2_inputs.length) (r : Int) (W : World) (hm : impl_checkSystem F p0_s p1_x p2_inputs = some r) (h_p0_s_1 : RdM W A_p0_s_1 p0_s.A) (h_p0_s_2 : Rd W A_p0_s_2 (ints p0_s.B)) (h_p0_s_3 : Rd W A_p0_s_3 (ints p0_s.C)) (h_p1_x_1 : Rd W A_p1_x_1 (ints p1_x)) (h_p2_inputs_1 : Rd W A_p2_inputs_1 (ints p2_inputs)) :
    Calls Try.prog 110 [.agg #[.slice A_p0_s_1 n_p0_s_1 c_p0_s_1, .slice A_p0_s_2 n_p0_s_2 c_p0_s_2, .slice A_p0_s_3 n_p0_s_3 c_p0_s_3], .slice A_p1_x_1 n_p1_x_1 c_p1_x_1, .slice A_p2_inputs_1 n_p2_inputs_1 c_p2_inputs_1].toArray W fun e w' => ∃ v, e = .returned v ∧ v = .int .i64 r ∧ St [] W w' [] := by
  subst hn_p0_s_1
  subst hn_p0_s_2
  subst hn_p0_s_3
  subst hn_p1_x_1
  subst hn_p2_inputs_1
  unfold impl_checkSystem at hm
  refine Calls.enter (N := 33) Try.func110 rfl rfl rfl (fun a hf => ?_)
  have hs := St.start W
  obtain ⟨w, hw_⟩ : ∃ w, w = W := ⟨W, rfl⟩
  clear hw_ w
  refine wpL_seq ?_
  refine wpL_region ?_
  refine sBox hf hs rfl rfl rfl rfl rfl (cs := [.slice A_p0_s_1 p0_s.A.length c_p0_s_1, .slice A_p0_s_2 p0_s.B.length c_p0_s_2, .slice A_p0_s_3 p0_s.C.length c_p0_s_3]) rfl ?_; clear hf hs; intro a w b1 hs hf
  have hs : St [] W w [.blk b1 27 [.slice A_p0_s_1 p0_s.A.length c_p0_s_1, .slice A_p0_s_2 p0_s.B.length c_p0_s_2, .slice A_p0_s_3 p0_s.C.length c_p0_s_3]] := hs
  refine sY hf hs rfl rfl rfl (Y_assign rfl rfl) ?_; clear hf; intro a hf
  refine wpO_nil ?_
  refine wpL_seq ?_
  refine wpL_seq ?_
  obtain ⟨r13, hj14, hm⟩ := bind_some hm
  refine wpL_cut (fun a w => ∃ b12 : Bool, b12 = r13 ∧ Fr a 33 [(32, .bool b12)] ∧ St [] W w []) ?_ ?_
  · refine wpL_region ?_
    refine sY hf hs rfl rfl rfl (Y_load_blkS rfl rfl (i := 0) rfl ag27 ti27 rfl) ?_; clear hf; intro a hf
    obtain ⟨r15, hc16, hj14⟩ := bind_some hj14
    refine sCall hf rfl rfl rfl rfl (cap := []) rfl rfl en31 (impl_IsSystem_ok F p0_s A_p0_s_1 p0_s.A.length c_p0_s_1 rfl A_p0_s_2 p0_s.B.length c_p0_s_2 rfl A_p0_s_3 p0_s.C.length c_p0_s_3 rfl _ _ hc16 (h_p0_s_1.at hs) (h_p0_s_2.at hs) (h_p0_s_3.at hs)) ?_; clear hf
    rintro _ w ⟨rfl, hs1⟩ a hf
    have hs : St [] W w [.blk b1 27 [.slice A_p0_s_1 p0_s.A.length c_p0_s_1, .slice A_p0_s_2 p0_s.B.length c_p0_s_2, .slice A_p0_s_3 p0_s.C.length c_p0_s_3]] := hs.ext hs1.below
    clear hs1
    refine sY hf hs rfl rfl rfl (Y_not rfl rfl) ?_; clear hf; intro a hf
    refine sY hf hs rfl rfl rfl (Y_move rfl rfl) ?_; clear hf; intro a hf
    refine bsplit (!r15) (fun hb17 => ?_) (fun hb17 => ?_)
    · have hj14 := bif_t hj14 hb17
      refine sNo hf rfl rfl rfl (congrArg (fun b => some (Value.bool b)) hb17) rfl rfl rfl ?_; clear hf; intro a hf
      refine sNo hf rfl rfl rfl (congrArg (fun b => some (Value.bool b)) hb17) rfl rfl rfl ?_; clear hf; intro a hf
      refine sNo hf rfl rfl rfl (congrArg (fun b => some (Value.bool b)) hb17) rfl rfl rfl ?_; clear hf; intro a hf
      refine sY hf hs rfl rfl rfl (Y_pickT rfl (congrArg (fun b => some (Value.bool b)) hb17) rfl) ?_; clear hf; intro a hf
      refine sY hf hs rfl rfl rfl (Y_move rfl rfl) ?_; clear hf; intro a hf
      refine sNo hf rfl rfl rfl rfl rfl rfl rfl ?_; clear hf; intro a hf
      refine sNo hf rfl rfl rfl rfl rfl rfl rfl ?_; clear hf; intro a hf
      refine sNo hf rfl rfl rfl rfl rfl rfl rfl ?_; clear hf; intro a hf
      refine sNo hf rfl rfl rfl rfl rfl rfl rfl ?_; clear hf; intro a hf
      refine sNo hf rfl rfl rfl rfl rfl rfl rfl ?_; clear hf; intro a hf
      refine sNo hf rfl rfl rfl rfl rfl rfl rfl ?_; clear hf; intro a hf
      refine sY hf hs rfl rfl rfl (Y_pickT rfl rfl rfl) ?_; clear hf; intro a hf
      refine sY hf hs rfl rfl rfl (Y_move rfl rfl) ?_; clear hf; intro a hf
      refine sNo hf rfl rfl rfl rfl rfl rfl rfl ?_; clear hf; intro a hf
      refine sNo hf rfl rfl rfl rfl rfl rfl rfl ?_; clear hf; intro a hf
      refine sNo hf rfl rfl rfl rfl rfl rfl rfl ?_; clear hf; intro a hf
      refine sY hf hs rfl rfl rfl (Y_pickT rfl rfl rfl) ?_; clear hf; intro a hf
      refine sY hf hs rfl rfl rfl (Y_move rfl rfl) ?_; clear hf; intro a hf
      refine sNo hf rfl rfl rfl rfl rfl rfl rfl ?_; clear hf; intro a hf
      refine sNo hf rfl rfl rfl rfl rfl rfl rfl ?_; clear hf; intro a hf
      refine sNo hf rfl rfl rfl rfl rfl rfl rfl ?_; clear hf; intro a hf
      refine sY hf hs rfl rfl rfl (Y_pickT rfl rfl rfl) ?_; clear hf; intro a hf
      refine wpO_nil ?_
      refine wpL_nil (then_normal ?_)
      exact ⟨true, Option.some.inj hj14, (FrD.pick hf.none hf rfl), hs.sel [] (by decide)⟩
    · have hj14 := bif_f hj14 hb17
      refine sYg hf hs rfl rfl rfl (congrArg (fun b => some (Value.bool b)) hb17) rfl rfl rfl (Y_move rfl rfl) ?_; clear hf; intro a hf
      obtain ⟨r18, hc19, hj14⟩ := bind_some hj14
      refine sCallg hf rfl rfl rfl (congrArg (fun b => some (Value.bool b)) hb17) rfl rfl rfl rfl (cap := []) rfl rfl en118 (impl_isVector_ok F p1_x A_p1_x_1 p1_x.length c_p1_x_1 rfl _ _ hc19 (h_p1_x_1.at hs)) ?_; clear hf
      rintro _ w ⟨rfl, hs1⟩ a hf
      have hs : St [] W w [.blk b1 27 [.slice A_p0_s_1 p0_s.A.length c_p0_s_1, .slice A_p0_s_2 p0_s.B.length c_p0_s_2, .slice A_p0_s_3 p0_s.C.length c_p0_s_3]] := hs.ext hs1.below
      clear hs1
      refine sYg hf hs rfl rfl rfl (congrArg (fun b => some (Value.bool b)) hb17) rfl rfl rfl (Y_not rfl rfl) ?_; clear hf; intro a hf
      refine sY hf hs rfl rfl rfl (Y_pickF rfl (congrArg (fun b => some (Value.bool b)) hb17) rfl) ?_; clear hf; intro a hf
      refine sY hf hs rfl rfl rfl (Y_move rfl rfl) ?_; clear hf; intro a hf
      refine bsplit (!r18) (fun hb20 => ?_) (fun hb20 => ?_)
      · have hj14 := bif_t hj14 hb20
        refine sNo hf rfl rfl rfl (congrArg (fun b => some (Value.bool b)) hb20) rfl rfl rfl ?_; clear hf; intro a hf
        refine sNo hf rfl rfl rfl (congrArg (fun b => some (Value.bool b)) hb20) rfl rfl rfl ?_; clear hf; intro a hf
        refine sNo hf rfl rfl rfl (congrArg (fun b => some (Value.bool b)) hb20) rfl rfl rfl ?_; clear hf; intro a hf
        refine sNo hf rfl rfl rfl (congrArg (fun b => some (Value.bool b)) hb20) rfl rfl rfl ?_; clear hf; intro a hf
        refine sNo hf rfl rfl rfl (congrArg (fun b => some (Value.bool b)) hb20) rfl rfl rfl ?_; clear hf; intro a hf
        refine sNo hf rfl rfl rfl (congrArg (fun b => some (Value.bool b)) hb20) rfl rfl rfl ?_; clear hf; intro a hf
        refine sY hf hs rfl rfl rfl (Y_pickT rfl (congrArg (fun b => some (Value.bool b)) hb20) rfl) ?_; clear hf; intro a hf
        refine sY hf hs rfl rfl rfl (Y_move rfl rfl) ?_; clear hf; intro a hf
        refine sNo hf rfl rfl rfl rfl rfl rfl rfl ?_; clear hf; intro a hf
        refine sNo hf rfl rfl rfl rfl rfl rfl rfl ?_; clear hf; intro a hf
        refine sNo hf rfl rfl rfl rfl rfl rfl rfl ?_; clear hf; intro a hf
        refine sY hf hs rfl rfl rfl (Y_pickT rfl rfl rfl) ?_; clear hf; intro a hf
        refine sY hf hs rfl rfl rfl (Y_move rfl rfl) ?_; clear hf; intro a hf
        refine sNo hf rfl rfl rfl rfl rfl rfl rfl ?_; clear hf; intro a hf
        refine sNo hf rfl rfl rfl rfl rfl rfl rfl ?_; clear hf; intro a hf
        refine sNo hf rfl rfl rfl rfl rfl rfl rfl ?_; clear hf; intro a hf
        refine sY hf hs rfl rfl rfl (Y_pickT rfl rfl rfl) ?_; clear hf; intro a hf
        refine wpO_nil ?_
        refine wpL_nil (then_normal ?_)
        exact ⟨true, Option.some.inj hj14, (FrD.pick hf.none hf rfl), hs.sel [] (by decide)⟩
      · have hj14 := bif_f hj14 hb20
        refine sYg hf hs rfl rfl rfl (congrArg (fun b => some (Value.bool b)) hb20) rfl rfl rfl (Y_move rfl rfl) ?_; clear hf; intro a hf
        refine sYg hf hs rfl rfl rfl (congrArg (fun b => some (Value.bool b)) hb20) rfl rfl rfl (Y_lenH rfl rfl el23 rfl) ?_; clear hf; intro a hf
        refine sYg hf hs rfl rfl rfl (congrArg (fun b => some (Value.bool b)) hb20) rfl rfl rfl (Y_fieldAddr rfl rfl fo27_0) ?_; clear hf; intro a hf
        refine sYg hf hs rfl rfl rfl (congrArg (fun b => some (Value.bool b)) hb20) rfl rfl rfl (Y_load_blk rfl rfl (i := 0) rfl rfl ag22) ?_; clear hf; intro a hf
        refine sYg hf hs rfl rfl rfl (congrArg (fun b => some (Value.bool b)) hb20) rfl rfl rfl (Y_lenH rfl rfl el22 rfl) ?_; clear hf; intro a hf
        refine sYg hf hs rfl rfl rfl (congrArg (fun b => some (Value.bool b)) hb20) rfl rfl rfl (Y_neq rfl rfl rfl) ?_; clear hf; intro a hf
        refine sY hf hs rfl rfl rfl (Y_pickF rfl (congrArg (fun b => some (Value.bool b)) hb20) rfl) ?_; clear hf; intro a hf
        refine sY hf hs rfl rfl rfl (Y_move rfl rfl) ?_; clear hf; intro a hf
        refine bsplit ((p1_x.length : Int) != (p0_s.A.length : Int)) (fun hb21 => ?_) (fun hb21 => ?_)
        · have hj14 := bif_t hj14 hb21
          refine sNo hf rfl rfl rfl (congrArg (fun b => some (Value.bool b)) hb21) rfl rfl rfl ?_; clear hf; intro a hf
          refine sNo hf rfl rfl rfl (congrArg (fun b => some (Value.bool b)) hb21) rfl rfl rfl ?_; clear hf; intro a hf
          refine sNo hf rfl rfl rfl (congrArg (fun b => some (Value.bool b)) hb21) rfl rfl rfl ?_; clear hf; intro a hf
          refine sY hf hs rfl rfl rfl (Y_pickT rfl (congrArg (fun b => some (Value.bool b)) hb21) rfl) ?_; clear hf; intro a hf
          refine sY hf hs rfl rfl rfl (Y_move rfl rfl) ?_; clear hf; intro a hf
          refine sNo hf rfl rfl rfl rfl rfl rfl rfl ?_; clear hf; intro a hf
          refine sNo hf rfl rfl rfl rfl rfl rfl rfl ?_; clear hf; intro a hf
          refine sNo hf rfl rfl rfl rfl rfl rfl rfl ?_; clear hf; intro a hf
          refine sY hf hs rfl rfl rfl (Y_pickT rfl rfl rfl) ?_; clear hf; intro a hf
          refine wpO_nil ?_
          refine wpL_nil (then_normal ?_)
          exact ⟨true, Option.some.inj hj14, (FrD.pick hf.none hf rfl), hs.sel [] (by decide)⟩
        · have hj14 := bif_f hj14 hb21
          refine sYg hf hs rfl rfl rfl (congrArg (fun b => some (Value.bool b)) hb21) rfl rfl rfl (Y_move rfl rfl) ?_; clear hf; intro a hf
          refine sYg hf hs rfl rfl rfl (congrArg (fun b => some (Value.bool b)) hb21) rfl rfl rfl (Y_lenH rfl rfl el23 rfl) ?_; clear hf; intro a hf
          refine sYg hf hs rfl rfl rfl (congrArg (fun b => some (Value.bool b)) hb21) rfl rfl rfl (Y_gtr rfl rfl rfl) ?_; clear hf; intro a hf
          refine sY hf hs rfl rfl rfl (Y_pickF rfl (congrArg (fun b => some (Value.bool b)) hb21) rfl) ?_; clear hf; intro a hf
          refine sY hf hs rfl rfl rfl (Y_move rfl rfl) ?_; clear hf; intro a hf
          refine bsplit (decide (50 < (p2_inputs.length : Int))) (fun hb22 => ?_) (fun hb22 => ?_)
          · have hj14 := bif_t hj14 hb22
            refine sNo hf rfl rfl rfl (congrArg (fun b => some (Value.bool b)) hb22) rfl rfl rfl ?_; clear hf; intro a hf
            refine sNo hf rfl rfl rfl (congrArg (fun b => some (Value.bool b)) hb22) rfl rfl rfl ?_; clear hf; intro a hf
            refine sNo hf rfl rfl rfl (congrArg (fun b => some (Value.bool b)) hb22) rfl rfl rfl ?_; clear hf; intro a hf
            refine sY hf hs rfl rfl rfl (Y_pickT rfl (congrArg (fun b => some (Value.bool b)) hb22) rfl) ?_; clear hf; intro a hf
            refine wpO_nil ?_
            refine wpL_nil (then_normal ?_)
            exact ⟨true, Option.some.inj hj14, (FrD.pick hf.none hf rfl), hs.sel [] (by decide)⟩
          · have hj14 := bif_f hj14 hb22
            refine sYg hf hs rfl rfl rfl (congrArg (fun b => some (Value.bool b)) hb22) rfl rfl rfl (Y_move rfl rfl) ?_; clear hf; intro a hf
            obtain ⟨r23, hc24, hj14⟩ := bind_some hj14
            refine sCallg hf rfl rfl rfl (congrArg (fun b => some (Value.bool b)) hb22) rfl rfl rfl rfl (cap := []) rfl rfl en86 (impl_areValues_ok F p2_inputs A_p2_inputs_1 p2_inputs.length c_p2_inputs_1 rfl _ _ hc24 (h_p2_inputs_1.at hs)) ?_; clear hf
            rintro _ w ⟨rfl, hs1⟩ a hf
            have hs : St [] W w [.blk b1 27 [.slice A_p0_s_1 p0_s.A.length c_p0_s_1, .slice A_p0_s_2 p0_s.B.length c_p0_s_2, .slice A_p0_s_3 p0_s.C.length c_p0_s_3]] := hs.ext hs1.below
            clear hs1
            refine sYg hf hs rfl rfl rfl (congrArg (fun b => some (Value.bool b)) hb22) rfl rfl rfl (Y_not rfl rfl) ?_; clear hf; intro a hf
            refine sY hf hs rfl rfl rfl (Y_pickF rfl (congrArg (fun b => some (Value.bool b)) hb22) rfl) ?_; clear hf; intro a hf
            refine wpO_nil ?_
            refine wpL_nil (then_normal ?_)
            exact ⟨(!r23), Option.some.inj hj14, (FrD.pick hf.none hf rfl), hs.sel [] (by decide)⟩
  · rintro a w ⟨b12, hr_, hf, hs⟩
    subst hr_
    try dsimp only at hm
    refine wpL_cond hf rfl (fun hb25 => ?_) (fun hb25 => ?_)
    · have hm := bif_t hm hb25
      refine wpL_seq ?_
      refine wpL_region ?_
      refine sY hf hs rfl rfl rfl (Y_assign rfl rfl) ?_; clear hf; intro a hf
      refine wpO_nil ?_
      obtain rfl := Option.some.inj hm
      refine wpL_ret (ret_tmp rfl hf rfl ?_)
      exact ⟨_, rfl, rfl, hs⟩
    · have hm := bif_f hm hb25
      refine wpL_skip ?_
      refine wpL_seq ?_
      refine wpL_region ?_
      refine sY hf hs rfl rfl rfl (Y_assign rfl rfl) ?_; clear hf; intro a hf
      refine wpO_nil ?_
      obtain rfl := Option.some.inj hm
      refine wpL_ret (ret_tmp rfl hf rfl ?_)
      exact ⟨_, rfl, rfl, hs⟩

set_option maxRecDepth 100000 in
theorem impl_shiftedVector_ok (F : Nat) (p0_x : List Int) (A_p0_x_1 : Option Addr) (n_p0_x_1 c_p0_x_1 : Nat) (hn_p0_x_1 : n_p0_x_1 = p0_x.length) (p1_g : Int) (r : List Int) (W : World) (hm : impl_shiftedVector F p0_x p1_g = some r) (h_p0_x_1 : Rd W A_p0_x_1 (ints p0_x)) :
    Calls Try.prog 167 [.slice A_p0_x_1 n_p0_x_1 c_p0_x_1, .int .i64 p1_g].toArray W fun e w' => ∃ v, e = .returned v ∧ ∃ A52, ∃ n53, ∃ c54, v = .slice A52 n53 c54 ∧ n53 = r.length ∧ St [] W w' [.row A52 n53 c54 2 1 (ints r)] := by
  subst hn_p0_x_1
  unfold impl_shiftedVector at hm
  refine Calls.enter (N := 26) Try.func167 rfl rfl rfl (fun a hf => ?_)
  have hs := St.start W
  obtain ⟨w, hw_⟩ : ∃ w, w = W := ⟨W, rfl⟩
  clear hw_ w
  refine wpL_seq ?_
  refine wpL_region ?_
  refine sY hf hs rfl rfl rfl (Y_assign rfl rfl) ?_; clear hf; intro a hf
  refine wpO_nil ?_
  refine wpL_seq ?_
  refine wpL_region ?_
  refine sY hf hs rfl rfl rfl (Y_move rfl rfl) ?_; clear hf; intro a hf
  refine sY hf hs rfl rfl rfl (Y_lenH rfl rfl el23 rfl) ?_; clear hf; intro a hf
  obtain ⟨xs3, hk2, hm⟩ := bind_some hm
  refine sMakeL (enc := ints) hf hs rfl rfl rfl rfl rfl hk2 el23 ti2 rfl ints_made ?_; clear hf hs; intro a w A1 hs hf
  have hs : St [] W w [.row A1 xs3.length xs3.length 2 1 (ints xs3)] := hs
  refine sY hf hs rfl rfl rfl (Y_assign rfl rfl) ?_; clear hf; intro a hf
  refine wpO_nil ?_
  refine wpL_seq ?_
  refine wpL_seq ?_
  refine wpL_region ?_
  refine sY hf hs rfl rfl rfl (Y_move rfl rfl) ?_; clear hf; intro a hf
  refine sY hf hs rfl rfl rfl (Y_lenH rfl rfl el23 rfl) ?_; clear hf; intro a hf
  refine sY hf hs rfl rfl rfl (Y_move rfl rfl) ?_; clear hf; intro a hf
  refine wpO_nil ?_
  obtain ⟨r39, hl40, hm⟩ := bind_some hm
  refine wpL_block (fun a w => ∃ xs37 : List Int, xs37 = r39 ∧ xs3.length = xs37.length ∧ Fr a 26 [(5, .slice A1 xs3.length xs3.length)] ∧ St [] W w [.row A1 xs3.length xs3.length 2 1 (ints xs37)]) ?_ ?_
  · refine wpL_loop (fun n a w => ∃ xs25 : List Int, ∃ x27 : Int, impl_shiftedVector_L1 F p0_x p1_g n xs25 x27 = some r39 ∧ xs3.length = xs25.length ∧ Fr a 26 [(1, .int .i64 p1_g), (5, .slice A1 xs3.length xs3.length), (11, .slice A_p0_x_1 p0_x.length c_p0_x_1), (12, .int .i64 (p0_x.length : Int)), (13, .int .i64 x27)] ∧ St [] W w [.row A1 xs3.length xs3.length 2 1 (ints xs25)]) F ?_ ?_ ?_
    · exact ⟨xs3, 0, hl40, rfl, (FrD.pick (FrD.pick (FrD.pick (FrD.pick (FrD.pick hf.none hf rfl) hf rfl) hf rfl) hf rfl) hf rfl), hs⟩
    · rintro a w ⟨xs25, x27, h0_, -, -, -⟩; simp [impl_shiftedVector_L1] at h0_
    · rintro n42 a w ⟨xs25, x27, hm41, hn26, hf, hs⟩
      rw [impl_shiftedVector_L1] at hm41
      refine wpL_seq ?_
      refine wpL_region ?_
      refine sY hf hs rfl rfl rfl (Y_lss rfl rfl rfl) ?_; clear hf; intro a hf
      refine wpO_nil ?_
      refine wpL_seq ?_
      refine wpL_cond hf rfl (fun hb43 => ?_) (fun hb43 => ?_)
      · have hm41 := bif_t hm41 hb43
        refine wpL_skip ?_
        refine wpL_seq ?_
        refine wpL_block0 ?_
        refine wpL_seq ?_
        refine wpL_region ?_
        refine sY hf hs rfl rfl rfl (Y_move rfl rfl) ?_; clear hf; intro a hf
        obtain ⟨q44, hi45, hm41⟩ := bind_some hm41
        obtain ⟨hi45a, hi45b, hi45q⟩ := idx_some hi45
        refine sY hf hs rfl rfl rfl (Y_index rfl rfl rfl el23 ti2 (Rd.isAt (h_p0_x_1.at hs) (at1 (ints_at hi45q))) hi45a hi45b) ?_; clear hf; intro a hf
        refine sY hf hs rfl rfl rfl (Y_load_rd rfl rfl (fun w hs => h_p0_x_1.at hs) (at1 (ints_at hi45q)) ag2) ?_; clear hf; intro a hf
        refine sY hf hs rfl rfl rfl (Y_assign rfl rfl) ?_; clear hf; intro a hf
        refine sY hf hs rfl rfl rfl (Y_assign rfl rfl) ?_; clear hf; intro a hf
        refine wpO_nil ?_
        refine wpL_region ?_
        refine sY hf hs rfl rfl rfl (Y_move rfl rfl) ?_; clear hf; intro a hf
        refine sY hf hs rfl rfl rfl (Y_move rfl rfl) ?_; clear hf; intro a hf
        refine sY hf hs rfl rfl rfl (Y_move rfl rfl) ?_; clear hf; intro a hf
        refine sY hf hs rfl rfl rfl (Y_move rfl rfl) ?_; clear hf; intro a hf
        obtain ⟨r46, hc47, hm41⟩ := bind_some hm41
        refine sCall hf rfl rfl rfl rfl (cap := []) rfl rfl en90 (impl_times_ok F q44 p1_g _ _ hc47) ?_; clear hf
        rintro _ w ⟨rfl, hs1⟩ a hf
        have hs : St [] W w [.row A1 xs3.length xs3.length 2 1 (ints xs25)] := hs.ext hs1.below
        clear hs1
        obtain ⟨q48, hi49, hm41⟩ := bind_some hm41
        obtain ⟨hi49a, hi49b, hi49q⟩ := idx_some hi49
        refine sY hf hs rfl rfl rfl (Y_index rfl rfl rfl el23 ti2 (Rd.isAt (hs.rd (i := 0) rfl) (at1 (ints_at hi49q))) hi49a (ltn hn26 hi49b)) ?_; clear hf; intro a hf
        obtain ⟨xs50, hu51, hm41⟩ := bind_some hm41
        refine sStoreL (i := 0) (us := [.int .i64 r46]) (enc := ints) hf hs rfl rfl rfl rfl rfl rfl hn26 hu51 ti2 rfl rfl rfl rfl rfl ints_len1 (ints_set r46) ?_; clear hs; intro w hs
        have hs : St [] W w [.row A1 xs3.length xs3.length 2 1 (ints xs50)] := hs
        refine wpO_nil ?_
        refine wpL_nil (Qb_normal ?_)
        refine wpL_region ?_
        refine sY hf hs rfl rfl rfl (Y_add rfl rfl rfl) ?_; clear hf; intro a hf
        refine sY hf hs rfl rfl rfl (Y_move rfl rfl) ?_; clear hf; intro a hf
        refine wpO_nil ?_
        refine wpL_nil (Ql_normal ?_)
        exact ⟨xs50, (IntKind.i64.wrap (x27 + 1)), hm41, ((hn26).trans (upd_len hu51).symm), (FrD.pick (FrD.pick (FrD.pick (FrD.pick (FrD.pick hf.none hf rfl) hf rfl) hf rfl) hf rfl) hf rfl), hs⟩
      · have hm41 := bif_f hm41 hb43
        refine wpL_exit (Ql_exit (Qb_exit ?_))
        exact ⟨xs25, Option.some.inj hm41, hn26, (FrD.pick hf.none hf rfl), hs⟩
  · rintro a w ⟨xs37, hr_, hn38, hf, hs⟩
    subst hr_
    try dsimp only at hm
    refine wpL_seq ?_
    refine wpL_region ?_
    refine sY hf hs rfl rfl rfl (Y_move rfl rfl) ?_; clear hf; intro a hf
    refine sY hf hs rfl rfl rfl (Y_assign rfl rfl) ?_; clear hf; intro a hf
    refine wpO_nil ?_
    obtain rfl := Option.some.inj hm
    refine wpL_ret (ret_tmp rfl hf rfl ?_)
    exact ⟨_, rfl, A1, xs3.length, xs3.length, rfl, hn38, hs⟩

set_option maxHeartbeats 2000000 in
set_option maxRecDepth 100000 in
theorem impl_runSystem_ok (F : Nat) (p0 : GSystem) (A_p0_1 : Option Addr) (n_p0_1 c_p0_1 : Nat) (hn_p0_1 : n_p0_1 = p0.A.length) (A_p0_2 : Option Addr) (n_p0_2 c_p0_2 : Nat) (hn_p0_2 : n_p0_2 = p0.B.length) (A_p0_3 : Option Addr) (n_p0_3 c_p0_3 : Nat) (hn_p0_3 : n_p0_3 = p0.C.length) (p1 : List Int) (A_p1_1 : Option Addr) (n_p1_1 c_p1_1 : Nat) (hn_p1_1 : n_p1_1 = p1.length) (p2 : List Int) (A_p2_1 : Option Addr) (n_p2_1 c_p2_1 : Nat) (hn_p2_1 : n_p2_1 = p2.length) (r : List Int × List Int × Int) (W : World) (hm : impl_runSystem F p0 p1 p2 = some r) (h_p0_1 : RdM W A_p0_1 p0.A) (h_p0_2 : Rd W A_p0_2 (ints p0.B)) (h_p0_3 : Rd W A_p0_3 (ints p0.C)) (h_p1_1 : Rd W A_p1_1 (ints p1)) (h_p2_1 : Rd W A_p2_1 (ints p2)) :
    Calls Try.prog 111 [.agg #[.slice A_p0_1 n_p0_1 c_p0_1, .slice A_p0_2 n_p0_2 c_p0_2, .slice A_p0_3 n_p0_3 c_p0_3], .slice A_p1_1 n_p1_1 c_p1_1, .slice A_p2_1 n_p2_1 c_p2_1].toArray W fun e w' => ∃ v, e = .returned v ∧ ∃ A395, ∃ n396, ∃ c397, ∃ A399, ∃ n400, ∃ c401, v = .tuple #[.slice A395 n396 c397, .slice A399 n400 c401, .int .i64 r.2.2] ∧ n396 = r.1.length ∧ n400 = r.2.1.length ∧ St [] W w' [.row A395 n396 c397 2 1 (ints r.1), .row A399 n400 c401 2 1 (ints r.2.1)] := by
  subst hn_p0_1
  subst hn_p0_2
  subst hn_p0_3
  subst hn_p1_1
  subst hn_p2_1
  unfold impl_runSystem at hm
  refine Calls.enter (N := 72) Try.func111 rfl rfl rfl (fun a hf => ?_)
  have hs := St.start W
  obtain ⟨w, hw_⟩ : ∃ w, w = W := ⟨W, rfl⟩
  clear hw_ w
  refine wpL_seq ?_
  refine wpL_region ?_
  refine sBox hf hs rfl rfl rfl rfl rfl (cs := [.slice A_p0_1 p0.A.length c_p0_1, .slice A_p0_2 p0.B.length c_p0_2, .slice A_p0_3 p0.C.length c_p0_3]) rfl ?_; clear hf hs; intro a w b1 hs hf
  have hs : St [] W w [.blk b1 27 [.slice A_p0_1 p0.A.length c_p0_1, .slice A_p0_2 p0.B.length c_p0_2, .slice A_p0_3 p0.C.length c_p0_3]] := hs
  refine sY hf hs rfl rfl rfl (Y_assign rfl rfl) ?_; clear hf; intro a hf
  refine sY hf hs rfl rfl rfl (Y_assign rfl rfl) ?_; clear hf; intro a hf
  refine sY hf hs rfl rfl rfl (Y_assign rfl rfl) ?_; clear hf; intro a hf
  refine wpO_nil ?_
  refine wpL_seq ?_
  refine wpL_region ?_
  refine sY hf hs rfl rfl rfl (Y_move rfl rfl) ?_; clear hf; intro a hf
  obtain ⟨r2, hc3, hm⟩ := bind_some hm
  refine sCall hf rfl rfl rfl rfl (cap := []) rfl rfl en91 (slices_Clone_int64_ok F p1 A_p1_1 p1.length c_p1_1 rfl _ _ hc3 (h_p1_1.at hs)) ?_; clear hf
  rintro _ w ⟨A4, n5, c6, rfl, hn7, hs1⟩ a hf
  have hs : St [] W w [.blk b1 27 [.slice A_p0_1 p0.A.length c_p0_1, .slice A_p0_2 p0.B.length c_p0_2, .slice A_p0_3 p0.C.length c_p0_3], .row A4 n5 c6 2 1 (ints r2)] := hs.join hs1
  clear hs1
  refine sY hf hs rfl rfl rfl (Y_assign rfl rfl) ?_; clear hf; intro a hf
  refine wpO_nil ?_
  refine wpL_seq ?_
  refine wpL_region ?_
  refine sY hf hs rfl rfl rfl (Y_assign rfl rfl) ?_; clear hf; intro a hf
  refine wpO_nil ?_
  refine wpL_seq ?_
  refine wpL_seq ?_
  refine wpL_region ?_
  refine sY hf hs rfl rfl rfl (Y_move rfl rfl) ?_; clear hf; intro a hf
  refine sY hf hs rfl rfl rfl (Y_lenH rfl rfl el23 rfl) ?_; clear hf; intro a hf
  refine sY hf hs rfl rfl rfl (Y_move rfl rfl) ?_; clear hf; intro a hf
  refine wpO_nil ?_
  obtain ⟨r298, hl299, hm⟩ := bind_some hm
  have hs : St [] W _ [.blk b1 27 [.slice A_p0_1 p0.A.length c_p0_1, .slice A_p0_2 p0.B.length c_p0_2, .slice A_p0_3 p0.C.length c_p0_3], .row A4 n5 c6 2 1 (ints r2), .row none 0 0 2 1 (ints ([] : List Int))] := hs.addNil 2 1
  refine wpL_block (fun a w => ∃ xs291 : List Int, ∃ xs293 : List Int, ∃ A294, ∃ n295, ∃ c296, Sum.inr (xs291, xs293) = r298 ∧ n5 = xs291.length ∧ n295 = xs293.length ∧ Fr a 72 [(1, .slice A4 n5 c6), (9, .slice A294 n295 c296)] ∧ St [] W w [.row A4 n5 c6 2 1 (ints xs291), .row A294 n295 c296 2 1 (ints xs293)]) ?_ ?_
  · refine wpL_loop (fun n a w => ∃ xs194 : List Int, ∃ xs197 : List Int, ∃ x202 : Int, ∃ A198, ∃ n199, ∃ c200, impl_runSystem_L4 F p0 p2 n xs194 xs197 x202 = some r298 ∧ n5 = xs194.length ∧ n199 = xs197.length ∧ Fr a 72 [(1, .slice A4 n5 c6), (3, .pointer (some ⟨b1, 0, none⟩)), (9, .slice A198 n199 c200), (18, .slice A_p2_1 p2.length c_p2_1), (19, .int .i64 (p2.length : Int)), (20, .int .i64 x202)] ∧ St [] W w [.row A4 n5 c6 2 1 (ints xs194), .blk b1 27 [.slice A_p0_1 p0.A.length c_p0_1, .slice A_p0_2 p0.B.length c_p0_2, .slice A_p0_3 p0.C.length c_p0_3], .row A198 n199 c200 2 1 (ints xs197)]) F ?_ ?_ ?_
    · exact ⟨r2, ([] : List Int), 0, none, 0, 0, hl299, hn7, rfl, (FrD.pick (FrD.pick (FrD.pick (FrD.pick (FrD.pick (FrD.pick hf.none hf rfl) hf rfl) hf rfl) hf rfl) hf rfl) hf rfl), hs.sel [1, 0, 2] (by decide)⟩
    · rintro a w ⟨xs194, xs197, x202, A198, n199, c200, h0_, -, -, -, -⟩; simp [impl_runSystem_L4] at h0_
    · rintro n301 a w ⟨xs194, xs197, x202, A198, n199, c200, hm300, hn195, hn201, hf, hs⟩
      rw [impl_runSystem_L4] at hm300
      refine wpL_seq ?_
      refine wpL_region ?_
      refine sY hf hs rfl rfl rfl (Y_lss rfl rfl rfl) ?_; clear hf; intro a hf
      refine wpO_nil ?_
      refine wpL_seq ?_
      refine wpL_cond hf rfl (fun hb302 => ?_) (fun hb302 => ?_)
      · have hm300 := bif_t hm300 hb302
        refine wpL_skip ?_
        refine wpL_seq ?_
        refine wpL_block0 ?_
        refine wpL_seq ?_
        refine wpL_region ?_
        obtain ⟨q303, hi304, hm300⟩ := bind_some hm300
        obtain ⟨hi304a, hi304b, hi304q⟩ := idx_some hi304
        refine sY hf hs rfl rfl rfl (Y_index rfl rfl rfl el23 ti2 (Rd.isAt (h_p2_1.at hs) (at1 (ints_at hi304q))) hi304a hi304b) ?_; clear hf; intro a hf
        refine sY hf hs rfl rfl rfl (Y_load_rd rfl rfl (fun w hs => h_p2_1.at hs) (at1 (ints_at hi304q)) ag2) ?_; clear hf; intro a hf
        refine sY hf hs rfl rfl rfl (Y_assign rfl rfl) ?_; clear hf; intro a hf
        refine wpO_nil ?_
        refine wpL_seq ?_
        refine wpL_region ?_
        refine sY hf hs rfl rfl rfl (Y_fieldAddr rfl rfl fo27_0) ?_; clear hf; intro a hf
        refine sY hf hs rfl rfl rfl (Y_load_blk rfl rfl (i := 1) rfl rfl ag22) ?_; clear hf; intro a hf
        refine sY hf hs rfl rfl rfl (Y_move rfl rfl) ?_; clear hf; intro a hf
        obtain ⟨r305, hc306, hm300⟩ := bind_some hm300
        refine sCall hf rfl rfl rfl rfl (cap := []) rfl rfl en83 (impl_timesVector_ok F p0.A A_p0_1 p0.A.length c_p0_1 rfl xs194 A4 n5 c6 hn195 _ _ hc306 (h_p0_1.at hs) (hs.rd (i := 0) rfl)) ?_; clear hf
        rintro _ w ⟨A307, n308, c309, rfl, hn310, hs1⟩ a hf
        have hs : St [] W w [.row A4 n5 c6 2 1 (ints xs194), .blk b1 27 [.slice A_p0_1 p0.A.length c_p0_1, .slice A_p0_2 p0.B.length c_p0_2, .slice A_p0_3 p0.C.length c_p0_3], .row A198 n199 c200 2 1 (ints xs197), .row A307 n308 c309 2 1 (ints r305)] := hs.join hs1
        clear hs1
        refine sY hf hs rfl rfl rfl (Y_assign rfl rfl) ?_; clear hf; intro a hf
        refine wpO_nil ?_
        refine wpL_seq ?_
        refine wpL_region ?_
        refine sY hf hs rfl rfl rfl (Y_fieldAddr rfl rfl fo27_1) ?_; clear hf; intro a hf
        refine sY hf hs rfl rfl rfl (Y_load_blk rfl rfl (i := 1) rfl rfl ag23) ?_; clear hf; intro a hf
        refine sY hf hs rfl rfl rfl (Y_move rfl rfl) ?_; clear hf; intro a hf
        obtain ⟨r311, hc312, hm300⟩ := bind_some hm300
        refine sCall hf rfl rfl rfl rfl (cap := []) rfl rfl en167 (impl_shiftedVector_ok F p0.B A_p0_2 p0.B.length c_p0_2 rfl q303 _ _ hc312 (h_p0_2.at hs)) ?_; clear hf
        rintro _ w ⟨A313, n314, c315, rfl, hn316, hs1⟩ a hf
        have hs : St [] W w [.row A4 n5 c6 2 1 (ints xs194), .blk b1 27 [.slice A_p0_1 p0.A.length c_p0_1, .slice A_p0_2 p0.B.length c_p0_2, .slice A_p0_3 p0.C.length c_p0_3], .row A198 n199 c200 2 1 (ints xs197), .row A307 n308 c309 2 1 (ints r305), .row A313 n314 c315 2 1 (ints r311)] := hs.join hs1
        clear hs1
        refine sY hf hs rfl rfl rfl (Y_assign rfl rfl) ?_; clear hf; intro a hf
        refine wpO_nil ?_
        refine wpL_seq ?_
        refine wpL_seq ?_
        obtain ⟨r323, hj324, hm300⟩ := bind_some hm300
        refine wpL_cut (fun a w => ∃ b322 : Bool, b322 = r323 ∧ Fr a 72 [(1, .slice A4 n5 c6), (3, .pointer (some ⟨b1, 0, none⟩)), (9, .slice A198 n199 c200), (12, .slice A307 n308 c309), (13, .slice A313 n314 c315), (18, .slice A_p2_1 p2.length c_p2_1), (19, .int .i64 (p2.length : Int)), (20, .int .i64 x202), (39, .bool b322)] ∧ St [] W w [.row A4 n5 c6 2 1 (ints xs194), .blk b1 27 [.slice A_p0_1 p0.A.length c_p0_1, .slice A_p0_2 p0.B.length c_p0_2, .slice A_p0_3 p0.C.length c_p0_3], .row A198 n199 c200 2 1 (ints xs197), .row A307 n308 c309 2 1 (ints r305), .row A313 n314 c315 2 1 (ints r311)]) ?_ ?_
        · refine wpL_region ?_
          refine sY hf hs rfl rfl rfl (Y_move rfl rfl) ?_; clear hf; intro a hf
          obtain ⟨r325, hc326, hj324⟩ := bind_some hj324
          refine sCall hf rfl rfl rfl rfl (cap := []) rfl rfl en86 (impl_areValues_ok F r305 A307 n308 c309 hn310 _ _ hc326 (hs.rd (i := 3) rfl)) ?_; clear hf
          rintro _ w ⟨rfl, hs1⟩ a hf
          have hs : St [] W w [.row A4 n5 c6 2 1 (ints xs194), .blk b1 27 [.slice A_p0_1 p0.A.length c_p0_1, .slice A_p0_2 p0.B.length c_p0_2, .slice A_p0_3 p0.C.length c_p0_3], .row A198 n199 c200 2 1 (ints xs197), .row A307 n308 c309 2 1 (ints r305), .row A313 n314 c315 2 1 (ints r311)] := hs.ext hs1.below
          clear hs1
          refine sY hf hs rfl rfl rfl (Y_not rfl rfl) ?_; clear hf; intro a hf
          refine sY hf hs rfl rfl rfl (Y_move rfl rfl) ?_; clear hf; intro a hf
          refine bsplit (!r325) (fun hb327 => ?_) (fun hb327 => ?_)
          · have hj324 := bif_t hj324 hb327
            refine sNo hf rfl rfl rfl (congrArg (fun b => some (Value.bool b)) hb327) rfl rfl rfl ?_; clear hf; intro a hf
            refine sNo hf rfl rfl rfl (congrArg (fun b => some (Value.bool b)) hb327) rfl rfl rfl ?_; clear hf; intro a hf
            refine sNo hf rfl rfl rfl (congrArg (fun b => some (Value.bool b)) hb327) rfl rfl rfl ?_; clear hf; intro a hf
            refine sY hf hs rfl rfl rfl (Y_pickT rfl (congrArg (fun b => some (Value.bool b)) hb327) rfl) ?_; clear hf; intro a hf
            refine wpO_nil ?_
            refine wpL_nil (then_normal ?_)
            exact ⟨true, Option.some.inj hj324, (FrD.pick (FrD.pick (FrD.pick (FrD.pick (FrD.pick (FrD.pick (FrD.pick (FrD.pick (FrD.pick hf.none hf rfl) hf rfl) hf rfl) hf rfl) hf rfl) hf rfl) hf rfl) hf rfl) hf rfl), hs⟩
          · have hj324 := bif_f hj324 hb327
            refine sYg hf hs rfl rfl rfl (congrArg (fun b => some (Value.bool b)) hb327) rfl rfl rfl (Y_move rfl rfl) ?_; clear hf; intro a hf
            obtain ⟨r328, hc329, hj324⟩ := bind_some hj324
            refine sCallg hf rfl rfl rfl (congrArg (fun b => some (Value.bool b)) hb327) rfl rfl rfl rfl (cap := []) rfl rfl en86 (impl_areValues_ok F r311 A313 n314 c315 hn316 _ _ hc329 (hs.rd (i := 4) rfl)) ?_; clear hf
            rintro _ w ⟨rfl, hs1⟩ a hf
            have hs : St [] W w [.row A4 n5 c6 2 1 (ints xs194), .blk b1 27 [.slice A_p0_1 p0.A.length c_p0_1, .slice A_p0_2 p0.B.length c_p0_2, .slice A_p0_3 p0.C.length c_p0_3], .row A198 n199 c200 2 1 (ints xs197), .row A307 n308 c309 2 1 (ints r305), .row A313 n314 c315 2 1 (ints r311)] := hs.ext hs1.below
            clear hs1
            refine sYg hf hs rfl rfl rfl (congrArg (fun b => some (Value.bool b)) hb327) rfl rfl rfl (Y_not rfl rfl) ?_; clear hf; intro a hf
            refine sY hf hs rfl rfl rfl (Y_pickF rfl (congrArg (fun b => some (Value.bool b)) hb327) rfl) ?_; clear hf; intro a hf
            refine wpO_nil ?_
            refine wpL_nil (then_normal ?_)
            exact ⟨(!r328), Option.some.inj hj324, (FrD.pick (FrD.pick (FrD.pick (FrD.pick (FrD.pick (FrD.pick (FrD.pick (FrD.pick (FrD.pick hf.none hf rfl) hf rfl) hf rfl) hf rfl) hf rfl) hf rfl) hf rfl) hf rfl) hf rfl), hs⟩
        · rintro a w ⟨b322, hr_, hf, hs⟩
          subst hr_
          try dsimp only at hm300
          refine wpL_cond hf rfl (fun hb330 => ?_) (fun hb330 => ?_)
          · have hm300 := bif_t hm300 hb330
            refine wpL_seq ?_
            refine wpL_region ?_
            refine sY hf hs rfl rfl rfl (Y_assign rfl rfl) ?_; clear hf; intro a hf
            refine sY hf hs rfl rfl rfl (Y_assign rfl rfl) ?_; clear hf; intro a hf
            refine sY hf hs rfl rfl rfl (Y_assign rfl rfl) ?_; clear hf; intro a hf
            refine wpO_nil ?_
            have hs : St [] W _ [.row A4 n5 c6 2 1 (ints xs194), .blk b1 27 [.slice A_p0_1 p0.A.length c_p0_1, .slice A_p0_2 p0.B.length c_p0_2, .slice A_p0_3 p0.C.length c_p0_3], .row A198 n199 c200 2 1 (ints xs197), .row A307 n308 c309 2 1 (ints r305), .row A313 n314 c315 2 1 (ints r311), .row none 0 0 2 1 (ints ([] : List Int))] := hs.addNil 2 1
            have hs : St [] W _ [.row A4 n5 c6 2 1 (ints xs194), .blk b1 27 [.slice A_p0_1 p0.A.length c_p0_1, .slice A_p0_2 p0.B.length c_p0_2, .slice A_p0_3 p0.C.length c_p0_3], .row A198 n199 c200 2 1 (ints xs197), .row A307 n308 c309 2 1 (ints r305), .row A313 n314 c315 2 1 (ints r311), .row none 0 0 2 1 (ints ([] : List Int)), .row none 0 0 2 1 (ints ([] : List Int))] := hs.addNil 2 1
            obtain rfl := Option.some.inj hm300
            try dsimp only at hm
            obtain rfl := Option.some.inj hm
            refine wpL_ret (Qb_ret (Ql_ret (Qb_ret (ret_tmp3 rfl hf rfl rfl rfl ?_))))
            exact ⟨_, rfl, none, 0, 0, none, 0, 0, rfl, rfl, rfl, hs.sel [5, 6] (by decide)⟩
          · have hm300 := bif_f hm300 hb330
            refine wpL_skip ?_
            refine wpL_seq ?_
            refine wpL_seq ?_
            refine wpL_region ?_
            refine sY hf hs rfl rfl rfl (Y_move rfl rfl) ?_; clear hf; intro a hf
            refine sY hf hs rfl rfl rfl (Y_lenH rfl rfl el23 hn310) ?_; clear hf; intro a hf
            refine sY hf hs rfl rfl rfl (Y_move rfl rfl) ?_; clear hf; intro a hf
            refine wpO_nil ?_
            obtain ⟨r368, hl369, hm300⟩ := bind_some hm300
            refine wpL_block (fun a w => ∃ xs366 : List Int, xs366 = r368 ∧ n5 = xs366.length ∧ Fr a 72 [(1, .slice A4 n5 c6), (3, .pointer (some ⟨b1, 0, none⟩)), (9, .slice A198 n199 c200), (18, .slice A_p2_1 p2.length c_p2_1), (19, .int .i64 (p2.length : Int)), (20, .int .i64 x202)] ∧ St [] W w [.row A4 n5 c6 2 1 (ints xs366), .blk b1 27 [.slice A_p0_1 p0.A.length c_p0_1, .slice A_p0_2 p0.B.length c_p0_2, .slice A_p0_3 p0.C.length c_p0_3], .row A198 n199 c200 2 1 (ints xs197)]) ?_ ?_
            · refine wpL_loop (fun n a w => ∃ xs354 : List Int, ∃ x356 : Int, impl_runSystem_L5 F r305 r311 n xs354 x356 = some r368 ∧ n5 = xs354.length ∧ Fr a 72 [(1, .slice A4 n5 c6), (3, .pointer (some ⟨b1, 0, none⟩)), (9, .slice A198 n199 c200), (12, .slice A307 n308 c309), (13, .slice A313 n314 c315), (18, .slice A_p2_1 p2.length c_p2_1), (19, .int .i64 (p2.length : Int)), (20, .int .i64 x202), (41, .int .i64 (r305.length : Int)), (42, .int .i64 x356)] ∧ St [] W w [.row A4 n5 c6 2 1 (ints xs354), .blk b1 27 [.slice A_p0_1 p0.A.length c_p0_1, .slice A_p0_2 p0.B.length c_p0_2, .slice A_p0_3 p0.C.length c_p0_3], .row A198 n199 c200 2 1 (ints xs197), .row A307 n308 c309 2 1 (ints r305), .row A313 n314 c315 2 1 (ints r311)]) F ?_ ?_ ?_
              · exact ⟨xs194, 0, hl369, hn195, (FrD.pick (FrD.pick (FrD.pick (FrD.pick (FrD.pick (FrD.pick (FrD.pick (FrD.pick (FrD.pick (FrD.pick hf.none hf rfl) hf rfl) hf rfl) hf rfl) hf rfl) hf rfl) hf rfl) hf rfl) hf rfl) hf rfl), hs⟩
              · rintro a w ⟨xs354, x356, h0_, -, -, -⟩; simp [impl_runSystem_L5] at h0_
              · rintro n371 a w ⟨xs354, x356, hm370, hn355, hf, hs⟩
                rw [impl_runSystem_L5] at hm370
                refine wpL_seq ?_
                refine wpL_region ?_
                refine sY hf hs rfl rfl rfl (Y_lss rfl rfl rfl) ?_; clear hf; intro a hf
                refine wpO_nil ?_
                refine wpL_seq ?_
                refine wpL_cond hf rfl (fun hb372 => ?_) (fun hb372 => ?_)
                · have hm370 := bif_t hm370 hb372
                  refine wpL_skip ?_
                  refine wpL_seq ?_
                  refine wpL_block0 ?_
                  refine wpL_seq ?_
                  refine wpL_region ?_
                  refine sY hf hs rfl rfl rfl (Y_move rfl rfl) ?_; clear hf; intro a hf
                  refine sY hf hs rfl rfl rfl (Y_assign rfl rfl) ?_; clear hf; intro a hf
                  refine wpO_nil ?_
                  refine wpL_drawM [.row A4 n5 c6 2 1 (ints xs354), .blk b1 27 [.slice A_p0_1 p0.A.length c_p0_1, .slice A_p0_2 p0.B.length c_p0_2, .slice A_p0_3 p0.C.length c_p0_3], .row A198 n199 c200 2 1 (ints xs197), .row A307 n308 c309 2 1 (ints r305), .row A313 n314 c315 2 1 (ints r311)] [12] (by kernel_rfl) hs ?_; clear hs; intro w hs
                  have hs0 : St [] W w [.row A4 n5 c6 2 1 (ints xs354), .blk b1 27 [.slice A_p0_1 p0.A.length c_p0_1, .slice A_p0_2 p0.B.length c_p0_2, .slice A_p0_3 p0.C.length c_p0_3], .row A198 n199 c200 2 1 (ints xs197), .row A307 n308 c309 2 1 (ints r305), .row A313 n314 c315 2 1 (ints r311)] := hs
                  refine mYp (i := 0) rfl (by kernel_rfl) (by kernel_rfl) hf rfl rfl rfl (fun _ => Y_move rfl rfl) ?_; clear hf; intro a hf
                  refine mYp (i := 1) rfl (by kernel_rfl) (by kernel_rfl) hf rfl rfl rfl (fun _ => Y_move rfl rfl) ?_; clear hf; intro a hf
                  refine mYp (i := 2) rfl (by kernel_rfl) (by kernel_rfl) hf rfl rfl rfl (fun _ => Y_move rfl rfl) ?_; clear hf; intro a hf
                  refine mYp (i := 3) rfl (by kernel_rfl) (by kernel_rfl) hf rfl rfl rfl (fun _ => Y_move rfl rfl) ?_; clear hf; intro a hf
                  obtain ⟨q373, hi374, hm370⟩ := bind_some hm370
                  obtain ⟨hi374a, hi374b, hi374q⟩ := idx_some hi374
                  refine mYp (i := 4) rfl (by kernel_rfl) (by kernel_rfl) hf rfl rfl rfl (fun _ => Y_index rfl rfl rfl el23 ti2 (Rd.isAt (hs.rd (i := 3) rfl) (at1 (ints_at hi374q))) hi374a (ltn hn310 hi374b)) ?_; clear hf; intro a hf
                  refine mY (i := 5) [[]] rfl (by kernel_rfl) (by kernel_rfl) hf hs0 rfl rfl rfl (Y_load_rd rfl rfl (fun w hs => hs.rd (i := 3) rfl) (at1 (ints_at hi374q)) ag2) ?_; clear hf; intro a hf
                  refine mYp (i := 6) rfl (by kernel_rfl) (by kernel_rfl) hf rfl rfl rfl (fun _ => Y_move rfl rfl) ?_; clear hf; intro a hf
                  refine mYp (i := 7) rfl (by kernel_rfl) (by kernel_rfl) hf rfl rfl rfl (fun _ => Y_move rfl rfl) ?_; clear hf; intro a hf
                  obtain ⟨q375, hi376, hm370⟩ := bind_some hm370
                  obtain ⟨hi376a, hi376b, hi376q⟩ := idx_some hi376
                  refine mYp (i := 8) rfl (by kernel_rfl) (by kernel_rfl) hf rfl rfl rfl (fun _ => Y_index rfl rfl rfl el23 ti2 (Rd.isAt (hs.rd (i := 4) rfl) (at1 (ints_at hi376q))) hi376a (ltn hn316 hi376b)) ?_; clear hf; intro a hf
                  refine mY (i := 9) [[]] rfl (by kernel_rfl) (by kernel_rfl) hf hs0 rfl rfl rfl (Y_load_rd rfl rfl (fun w hs => hs.rd (i := 4) rfl) (at1 (ints_at hi376q)) ag2) ?_; clear hf; intro a hf
                  refine mYp (i := 10) rfl (by kernel_rfl) (by kernel_rfl) hf rfl rfl rfl (fun _ => Y_max rfl rfl rfl) ?_; clear hf; intro a hf
                  obtain ⟨q377, hi378, hm370⟩ := bind_some hm370
                  obtain ⟨hi378a, hi378b, hi378q⟩ := idx_some hi378
                  refine mYp (i := 11) rfl (by kernel_rfl) (by kernel_rfl) hf rfl rfl rfl (fun _ => Y_index rfl rfl rfl el23 ti2 (Rd.isAt (hs.rd (i := 0) rfl) (at1 (ints_at hi378q))) hi378a (ltn hn355 hi378b)) ?_; clear hf; intro a hf
                  refine mRun (i := 12) rfl (by kernel_rfl) ?_
                  obtain ⟨xs379, hu380, hm370⟩ := bind_some hm370
                  refine sStoreL (i := 0) (us := [.int .i64 (max q373 q375)]) (enc := ints) hf hs rfl rfl rfl rfl rfl rfl hn355 hu380 ti2 rfl rfl rfl rfl rfl ints_len1 (ints_set (max q373 q375)) ?_; clear hs; intro w hs
                  have hs : St [] W w [.row A4 n5 c6 2 1 (ints xs379), .blk b1 27 [.slice A_p0_1 p0.A.length c_p0_1, .slice A_p0_2 p0.B.length c_p0_2, .slice A_p0_3 p0.C.length c_p0_3], .row A198 n199 c200 2 1 (ints xs197), .row A307 n308 c309 2 1 (ints r305), .row A313 n314 c315 2 1 (ints r311)] := hs
                  refine wpO_nil ⟨Or.inl (by decide), ?_⟩
                  refine mDone (by kernel_rfl) ?_
                  clear hs0
                  refine wpL_nil (Qb_normal ?_)
                  refine wpL_region ?_
                  refine sY hf hs rfl rfl rfl (Y_add rfl rfl rfl) ?_; clear hf; intro a hf
                  refine sY hf hs rfl rfl rfl (Y_move rfl rfl) ?_; clear hf; intro a hf
                  refine wpO_nil ?_
                  refine wpL_nil (Ql_normal ?_)
                  exact ⟨xs379, (IntKind.i64.wrap (x356 + 1)), hm370, ((hn355).trans (upd_len hu380).symm), (FrD.pick (FrD.pick (FrD.pick (FrD.pick (FrD.pick (FrD.pick (FrD.pick (FrD.pick (FrD.pick (FrD.pick hf.none hf rfl) hf rfl) hf rfl) hf rfl) hf rfl) hf rfl) hf rfl) hf rfl) hf rfl) hf rfl), hs⟩
                · have hm370 := bif_f hm370 hb372
                  refine wpL_exit (Ql_exit (Qb_exit ?_))
                  exact ⟨xs354, Option.some.inj hm370, hn355, (FrD.pick (FrD.pick (FrD.pick (FrD.pick (FrD.pick (FrD.pick hf.none hf rfl) hf rfl) hf rfl) hf rfl) hf rfl) hf rfl), hs.sel [0, 1, 2] (by decide)⟩
            · rintro a w ⟨xs366, hr_, hn367, hf, hs⟩
              subst hr_
              try dsimp only at hm300
              refine wpL_seq ?_
              refine wpL_region ?_
              refine sY hf hs rfl rfl rfl (Y_fieldAddr rfl rfl fo27_2) ?_; clear hf; intro a hf
              refine sY hf hs rfl rfl rfl (Y_load_blk rfl rfl (i := 1) rfl rfl ag23) ?_; clear hf; intro a hf
              refine sY hf hs rfl rfl rfl (Y_move rfl rfl) ?_; clear hf; intro a hf
              obtain ⟨r381, hc382, hm300⟩ := bind_some hm300
              refine sCall hf rfl rfl rfl rfl (cap := []) rfl rfl en85 (impl_innerProduct_ok F p0.C A_p0_3 p0.C.length c_p0_3 rfl xs366 A4 n5 c6 hn367 _ _ hc382 (h_p0_3.at hs) (hs.rd (i := 0) rfl)) ?_; clear hf
              rintro _ w ⟨rfl, hs1⟩ a hf
              have hs : St [] W w [.row A4 n5 c6 2 1 (ints xs366), .blk b1 27 [.slice A_p0_1 p0.A.length c_p0_1, .slice A_p0_2 p0.B.length c_p0_2, .slice A_p0_3 p0.C.length c_p0_3], .row A198 n199 c200 2 1 (ints xs197)] := hs.ext hs1.below
              clear hs1
              refine sY hf hs rfl rfl rfl (Y_assign rfl rfl) ?_; clear hf; intro a hf
              refine wpO_nil ?_
              refine wpL_seq ?_
              refine wpL_seq ?_
              refine wpL_region ?_
              refine sY hf hs rfl rfl rfl (Y_move rfl rfl) ?_; clear hf; intro a hf
              obtain ⟨r383, hc384, hm300⟩ := bind_some hm300
              refine sCall hf rfl rfl rfl rfl (cap := []) rfl rfl en87 (impl_IsValue_ok F r381 _ _ hc384) ?_; clear hf
              rintro _ w ⟨rfl, hs1⟩ a hf
              have hs : St [] W w [.row A4 n5 c6 2 1 (ints xs366), .blk b1 27 [.slice A_p0_1 p0.A.length c_p0_1, .slice A_p0_2 p0.B.length c_p0_2, .slice A_p0_3 p0.C.length c_p0_3], .row A198 n199 c200 2 1 (ints xs197)] := hs.ext hs1.below
              clear hs1
              refine sY hf hs rfl rfl rfl (Y_not rfl rfl) ?_; clear hf; intro a hf
              refine wpO_nil ?_
              refine wpL_cond hf rfl (fun hb385 => ?_) (fun hb385 => ?_)
              · have hm300 := bif_t hm300 hb385
                refine wpL_seq ?_
                refine wpL_region ?_
                refine sY hf hs rfl rfl rfl (Y_assign rfl rfl) ?_; clear hf; intro a hf
                refine sY hf hs rfl rfl rfl (Y_assign rfl rfl) ?_; clear hf; intro a hf
                refine sY hf hs rfl rfl rfl (Y_assign rfl rfl) ?_; clear hf; intro a hf
                refine wpO_nil ?_
                have hs : St [] W _ [.row A4 n5 c6 2 1 (ints xs366), .blk b1 27 [.slice A_p0_1 p0.A.length c_p0_1, .slice A_p0_2 p0.B.length c_p0_2, .slice A_p0_3 p0.C.length c_p0_3], .row A198 n199 c200 2 1 (ints xs197), .row none 0 0 2 1 (ints ([] : List Int))] := hs.addNil 2 1
                have hs : St [] W _ [.row A4 n5 c6 2 1 (ints xs366), .blk b1 27 [.slice A_p0_1 p0.A.length c_p0_1, .slice A_p0_2 p0.B.length c_p0_2, .slice A_p0_3 p0.C.length c_p0_3], .row A198 n199 c200 2 1 (ints xs197), .row none 0 0 2 1 (ints ([] : List Int)), .row none 0 0 2 1 (ints ([] : List Int))] := hs.addNil 2 1
                obtain rfl := Option.some.inj hm300
                try dsimp only at hm
                obtain rfl := Option.some.inj hm
                refine wpL_ret (Qb_ret (Ql_ret (Qb_ret (ret_tmp3 rfl hf rfl rfl rfl ?_))))
                exact ⟨_, rfl, none, 0, 0, none, 0, 0, rfl, rfl, rfl, hs.sel [3, 4] (by decide)⟩
              · have hm300 := bif_f hm300 hb385
                refine wpL_skip ?_
                refine wpL_region ?_
                refine sY hf hs rfl rfl rfl (Y_move rfl rfl) ?_; clear hf; intro a hf
                refine sY hf hs rfl rfl rfl (Y_move rfl rfl) ?_; clear hf; intro a hf
                refine sBuildSlice (parts := [(0, .tmp 66)]) (vs := [.int .i64 r381]) (cells := [.int .i64 r381]) hf hs rfl rfl rfl rfl rfl el23 ti2 rfl rfl rfl rfl ?_; clear hf hs; intro a w A388 hs hA389 hf
                have hs : St [] W w [.row A4 n5 c6 2 1 (ints xs366), .blk b1 27 [.slice A_p0_1 p0.A.length c_p0_1, .slice A_p0_2 p0.B.length c_p0_2, .slice A_p0_3 p0.C.length c_p0_3], .row A198 n199 c200 2 1 (ints xs197), .row A388 1 1 2 1 (ints ([r381]))] := hs
                obtain ⟨xs392, ha393, hm300⟩ := bind_some hm300
                refine sAppendL (i := 2) (xs := xs197) (ys := [r381]) (enc := ints) hf hs rfl rfl rfl rfl rfl rfl hn201 rfl rfl ha393 el23 ti2 rfl rfl rfl (hs.rd (i := 3) rfl) (Nat.succ_pos _) ints_len1 ints_append ints_one ?_; clear hf hs; intro a w A390 c391 hs hf
                have hs : St [] W w [.row A4 n5 c6 2 1 (ints xs366), .blk b1 27 [.slice A_p0_1 p0.A.length c_p0_1, .slice A_p0_2 p0.B.length c_p0_2, .slice A_p0_3 p0.C.length c_p0_3], .row A390 xs392.length c391 2 1 (ints xs392), .row A388 1 1 2 1 (ints ([r381]))] := hs
                refine sY hf hs rfl rfl rfl (Y_assign rfl rfl) ?_; clear hf; intro a hf
                refine wpO_nil ?_
                refine wpL_nil (Qb_normal ?_)
                refine wpL_region ?_
                refine sY hf hs rfl rfl rfl (Y_add rfl rfl rfl) ?_; clear hf; intro a hf
                refine sY hf hs rfl rfl rfl (Y_move rfl rfl) ?_; clear hf; intro a hf
                refine wpO_nil ?_
                refine wpL_nil (Ql_normal ?_)
                exact ⟨xs366, xs392, (IntKind.i64.wrap (x202 + 1)), A390, xs392.length, c391, hm300, hn367, rfl, (FrD.pick (FrD.pick (FrD.pick (FrD.pick (FrD.pick (FrD.pick hf.none hf rfl) hf rfl) hf rfl) hf rfl) hf rfl) hf rfl), hs.sel [0, 1, 2] (by decide)⟩
      · have hm300 := bif_f hm300 hb302
        refine wpL_exit (Ql_exit (Qb_exit ?_))
        exact ⟨xs194, xs197, A198, n199, c200, Option.some.inj hm300, hn195, hn201, (FrD.pick (FrD.pick hf.none hf rfl) hf rfl), hs.sel [0, 2] (by decide)⟩
  · rintro a w ⟨xs291, xs293, A294, n295, c296, hr_, hn292, hn297, hf, hs⟩
    subst hr_
    try dsimp only at hm
    refine wpL_seq ?_
    refine wpL_region ?_
    refine sY hf hs rfl rfl rfl (Y_move rfl rfl) ?_; clear hf; intro a hf
    refine sY hf hs rfl rfl rfl (Y_move rfl rfl) ?_; clear hf; intro a hf
    refine sY hf hs rfl rfl rfl (Y_assign rfl rfl) ?_; clear hf; intro a hf
    refine sY hf hs rfl rfl rfl (Y_assign rfl rfl) ?_; clear hf; intro a hf
    refine sY hf hs rfl rfl rfl (Y_assign rfl rfl) ?_; clear hf; intro a hf
    refine wpO_nil ?_
    obtain rfl := Option.some.inj hm
    refine wpL_ret (ret_tmp3 rfl hf rfl rfl rfl ?_)
    exact ⟨_, rfl, A294, n295, c296, A4, n5, c6, rfl, hn297, hn292, hs.sel [1, 0] (by decide)⟩

set_option maxRecDepth 100000 in
theorem impl_MeetsDue_ok (F : Nat) (p0_s : GSystem) (A_p0_s_1 : Option Addr) (n_p0_s_1 c_p0_s_1 : Nat) (hn_p0_s_1 : n_p0_s_1 = p0_s.A.length) (A_p0_s_2 : Option Addr) (n_p0_s_2 c_p0_s_2 : Nat) (hn_p0_s_2 : n_p0_s_2 = p0_s.B.length) (A_p0_s_3 : Option Addr) (n_p0_s_3 c_p0_s_3 : Nat) (hn_p0_s_3 : n_p0_s_3 = p0_s.C.length) (p1_x : List Int) (A_p1_x_1 : Option Addr) (n_p1_x_1 c_p1_x_1 : Nat) (hn_p1_x_1 : n_p1_x_1 = p1_x.length) (p2_inputs : List Int) (A_p2_inputs_1 : Option Addr) (n_p2_inputs_1 c_p2_inputs_1 : Nat) (hn_p2_inputs_1 : n_p2_inputs_1 = p2_inputs.length) (p3_due : List Int) (A_p3_due_1 : Option Addr) (n_p3_due_1 c_p3_due_1 : Nat) (hn_p3_due_1 : n_p3_due_1 = p3_due.length) (r : Bool × Int) (W : World) (hm : impl_MeetsDue F p0_s p1_x p2_inputs p3_due = some r) (h_p0_s_1 : RdM W A_p0_s_1 p0_s.A) (h_p0_s_2 : Rd W A_p0_s_2 (ints p0_s.B)) (h_p0_s_3 : Rd W A_p0_s_3 (ints p0_s.C)) (h_p1_x_1 : Rd W A_p1_x_1 (ints p1_x)) (h_p2_inputs_1 : Rd W A_p2_inputs_1 (ints p2_inputs)) (h_p3_due_1 : Rd W A_p3_due_1 (ints p3_due)) :
    Calls Try.prog 39 [.agg #[.slice A_p0_s_1 n_p0_s_1 c_p0_s_1, .slice A_p0_s_2 n_p0_s_2 c_p0_s_2, .slice A_p0_s_3 n_p0_s_3 c_p0_s_3], .slice A_p1_x_1 n_p1_x_1 c_p1_x_1, .slice A_p2_inputs_1 n_p2_inputs_1 c_p2_inputs_1, .slice A_p3_due_1 n_p3_due_1 c_p3_due_1].toArray W fun e w' => ∃ v, e = .returned v ∧ v = .tuple #[.bool r.1, .int .i64 r.2] ∧ St [] W w' [] := by
  subst hn_p0_s_1
  subst hn_p0_s_2
  subst hn_p0_s_3
  subst hn_p1_x_1
  subst hn_p2_inputs_1
  subst hn_p3_due_1
  unfold impl_MeetsDue at hm
  refine Calls.enter (N := 61) Try.func39 rfl rfl rfl (fun a hf => ?_)
  have hs := St.start W
  obtain ⟨w, hw_⟩ : ∃ w, w = W := ⟨W, rfl⟩
  clear hw_ w
  refine wpL_seq ?_
  refine wpL_region ?_
  refine sBox hf hs rfl rfl rfl rfl rfl (cs := [.slice A_p0_s_1 p0_s.A.length c_p0_s_1, .slice A_p0_s_2 p0_s.B.length c_p0_s_2, .slice A_p0_s_3 p0_s.C.length c_p0_s_3]) rfl ?_; clear hf hs; intro a w b1 hs hf
  have hs : St [] W w [.blk b1 27 [.slice A_p0_s_1 p0_s.A.length c_p0_s_1, .slice A_p0_s_2 p0_s.B.length c_p0_s_2, .slice A_p0_s_3 p0_s.C.length c_p0_s_3]] := hs
  refine sY hf hs rfl rfl rfl (Y_assign rfl rfl) ?_; clear hf; intro a hf
  refine sY hf hs rfl rfl rfl (Y_assign rfl rfl) ?_; clear hf; intro a hf
  refine wpO_nil ?_
  refine wpL_seq ?_
  refine wpL_seq ?_
  refine wpL_region ?_
  refine sY hf hs rfl rfl rfl (Y_load_blkS rfl rfl (i := 0) rfl ag27 ti27 rfl) ?_; clear hf; intro a hf
  refine sY hf hs rfl rfl rfl (Y_move rfl rfl) ?_; clear hf; intro a hf
  refine sY hf hs rfl rfl rfl (Y_move rfl rfl) ?_; clear hf; intro a hf
  obtain ⟨r2, hc3, hm⟩ := bind_some hm
  refine sCall hf rfl rfl rfl rfl (cap := []) rfl rfl en110 (impl_checkSystem_ok F p0_s A_p0_s_1 p0_s.A.length c_p0_s_1 rfl A_p0_s_2 p0_s.B.length c_p0_s_2 rfl A_p0_s_3 p0_s.C.length c_p0_s_3 rfl p1_x A_p1_x_1 p1_x.length c_p1_x_1 rfl p2_inputs A_p2_inputs_1 p2_inputs.length c_p2_inputs_1 rfl _ _ hc3 (h_p0_s_1.at hs) (h_p0_s_2.at hs) (h_p0_s_3.at hs) (h_p1_x_1.at hs) (h_p2_inputs_1.at hs)) ?_; clear hf
  rintro _ w ⟨rfl, hs1⟩ a hf
  have hs : St [] W w [.blk b1 27 [.slice A_p0_s_1 p0_s.A.length c_p0_s_1, .slice A_p0_s_2 p0_s.B.length c_p0_s_2, .slice A_p0_s_3 p0_s.C.length c_p0_s_3]] := hs.ext hs1.below
  clear hs1
  refine sY hf hs rfl rfl rfl (Y_assign rfl rfl) ?_; clear hf; intro a hf
  refine wpO_nil ?_
  refine wpL_seq ?_
  refine wpL_region ?_
  refine sY hf hs rfl rfl rfl (Y_move rfl rfl) ?_; clear hf; intro a hf
  refine sY hf hs rfl rfl rfl (Y_neq rfl rfl rfl) ?_; clear hf; intro a hf
  refine wpO_nil ?_
  refine wpL_cond hf rfl (fun hb4 => ?_) (fun hb4 => ?_)
  · have hm := bif_t hm hb4
    refine wpL_seq ?_
    refine wpL_region ?_
    refine sY hf hs rfl rfl rfl (Y_move rfl rfl) ?_; clear hf; intro a hf
    refine sY hf hs rfl rfl rfl (Y_assign rfl rfl) ?_; clear hf; intro a hf
    refine sY hf hs rfl rfl rfl (Y_assign rfl rfl) ?_; clear hf; intro a hf
    refine wpO_nil ?_
    obtain rfl := Option.some.inj hm
    refine wpL_ret (ret_tmp2 rfl hf rfl rfl ?_)
    exact ⟨_, rfl, rfl, hs.sel [] (by decide)⟩
  · have hm := bif_f hm hb4
    refine wpL_skip ?_
    refine wpL_seq ?_
    refine wpL_seq ?_
    obtain ⟨r9, hj10, hm⟩ := bind_some hm
    refine wpL_cut (fun a w => ∃ b8 : Bool, b8 = r9 ∧ Fr a 61 [(1, .slice A_p1_x_1 p1_x.length c_p1_x_1), (2, .slice A_p2_inputs_1 p2_inputs.length c_p2_inputs_1), (3, .slice A_p3_due_1 p3_due.length c_p3_due_1), (4, .pointer (some ⟨b1, 0, none⟩)), (30, .bool b8)] ∧ St [] W w [.blk b1 27 [.slice A_p0_s_1 p0_s.A.length c_p0_s_1, .slice A_p0_s_2 p0_s.B.length c_p0_s_2, .slice A_p0_s_3 p0_s.C.length c_p0_s_3]]) ?_ ?_
    · refine wpL_region ?_
      refine sY hf hs rfl rfl rfl (Y_move rfl rfl) ?_; clear hf; intro a hf
      refine sY hf hs rfl rfl rfl (Y_lenH rfl rfl el23 rfl) ?_; clear hf; intro a hf
      refine sY hf hs rfl rfl rfl (Y_gtr rfl rfl rfl) ?_; clear hf; intro a hf
      refine sY hf hs rfl rfl rfl (Y_move rfl rfl) ?_; clear hf; intro a hf
      refine bsplit (decide (50 < (p3_due.length : Int))) (fun hb11 => ?_) (fun hb11 => ?_)
      · have hj10 := bif_t hj10 hb11
        refine sNo hf rfl rfl rfl (congrArg (fun b => some (Value.bool b)) hb11) rfl rfl rfl ?_; clear hf; intro a hf
        refine sNo hf rfl rfl rfl (congrArg (fun b => some (Value.bool b)) hb11) rfl rfl rfl ?_; clear hf; intro a hf
        refine sNo hf rfl rfl rfl (congrArg (fun b => some (Value.bool b)) hb11) rfl rfl rfl ?_; clear hf; intro a hf
        refine sY hf hs rfl rfl rfl (Y_pickT rfl (congrArg (fun b => some (Value.bool b)) hb11) rfl) ?_; clear hf; intro a hf
        refine wpO_nil ?_
        refine wpL_nil (then_normal ?_)
        exact ⟨true, Option.some.inj hj10, (FrD.pick (FrD.pick (FrD.pick (FrD.pick (FrD.pick hf.none hf rfl) hf rfl) hf rfl) hf rfl) hf rfl), hs⟩
      · have hj10 := bif_f hj10 hb11
        refine sYg hf hs rfl rfl rfl (congrArg (fun b => some (Value.bool b)) hb11) rfl rfl rfl (Y_move rfl rfl) ?_; clear hf; intro a hf
        obtain ⟨r12, hc13, hj10⟩ := bind_some hj10
        refine sCallg hf rfl rfl rfl (congrArg (fun b => some (Value.bool b)) hb11) rfl rfl rfl rfl (cap := []) rfl rfl en121 (impl_allWithin_ok F p3_due A_p3_due_1 p3_due.length c_p3_due_1 rfl (-1000000) 1000000 _ _ hc13 (h_p3_due_1.at hs)) ?_; clear hf
        rintro _ w ⟨rfl, hs1⟩ a hf
        have hs : St [] W w [.blk b1 27 [.slice A_p0_s_1 p0_s.A.length c_p0_s_1, .slice A_p0_s_2 p0_s.B.length c_p0_s_2, .slice A_p0_s_3 p0_s.C.length c_p0_s_3]] := hs.ext hs1.below
        clear hs1
        refine sYg hf hs rfl rfl rfl (congrArg (fun b => some (Value.bool b)) hb11) rfl rfl rfl (Y_not rfl rfl) ?_; clear hf; intro a hf
        refine sY hf hs rfl rfl rfl (Y_pickF rfl (congrArg (fun b => some (Value.bool b)) hb11) rfl) ?_; clear hf; intro a hf
        refine wpO_nil ?_
        refine wpL_nil (then_normal ?_)
        exact ⟨(!r12), Option.some.inj hj10, (FrD.pick (FrD.pick (FrD.pick (FrD.pick (FrD.pick hf.none hf rfl) hf rfl) hf rfl) hf rfl) hf rfl), hs⟩
    · rintro a w ⟨b8, hr_, hf, hs⟩
      subst hr_
      try dsimp only at hm
      refine wpL_cond hf rfl (fun hb14 => ?_) (fun hb14 => ?_)
      · have hm := bif_t hm hb14
        refine wpL_seq ?_
        refine wpL_region ?_
        refine sY hf hs rfl rfl rfl (Y_assign rfl rfl) ?_; clear hf; intro a hf
        refine sY hf hs rfl rfl rfl (Y_assign rfl rfl) ?_; clear hf; intro a hf
        refine wpO_nil ?_
        obtain rfl := Option.some.inj hm
        refine wpL_ret (ret_tmp2 rfl hf rfl rfl ?_)
        exact ⟨_, rfl, rfl, hs.sel [] (by decide)⟩
      · have hm := bif_f hm hb14
        refine wpL_skip ?_
        refine wpL_seq ?_
        refine wpL_seq ?_
        refine wpL_region ?_
        refine sY hf hs rfl rfl rfl (Y_move rfl rfl) ?_; clear hf; intro a hf
        refine sY hf hs rfl rfl rfl (Y_lenH rfl rfl el23 rfl) ?_; clear hf; intro a hf
        refine sY hf hs rfl rfl rfl (Y_move rfl rfl) ?_; clear hf; intro a hf
        refine sY hf hs rfl rfl rfl (Y_lenH rfl rfl el23 rfl) ?_; clear hf; intro a hf
        refine sY hf hs rfl rfl rfl (Y_neq rfl rfl rfl) ?_; clear hf; intro a hf
        refine wpO_nil ?_
        refine wpL_cond hf rfl (fun hb15 => ?_) (fun hb15 => ?_)
        · have hm := bif_t hm hb15
          refine wpL_seq ?_
          refine wpL_region ?_
          refine sY hf hs rfl rfl rfl (Y_assign rfl rfl) ?_; clear hf; intro a hf
          refine sY hf hs rfl rfl rfl (Y_assign rfl rfl) ?_; clear hf; intro a hf
          refine wpO_nil ?_
          obtain rfl := Option.some.inj hm
          refine wpL_ret (ret_tmp2 rfl hf rfl rfl ?_)
          exact ⟨_, rfl, rfl, hs.sel [] (by decide)⟩
        · have hm := bif_f hm hb15
          refine wpL_skip ?_
          refine wpL_seq ?_
          refine wpL_region ?_
          refine sY hf hs rfl rfl rfl (Y_load_blkS rfl rfl (i := 0) rfl ag27 ti27 rfl) ?_; clear hf; intro a hf
          refine sY hf hs rfl rfl rfl (Y_move rfl rfl) ?_; clear hf; intro a hf
          refine sY hf hs rfl rfl rfl (Y_move rfl rfl) ?_; clear hf; intro a hf
          obtain ⟨r16, hc17, hm⟩ := bind_some hm
          refine sCall hf rfl rfl rfl rfl (cap := []) rfl rfl en111 (impl_runSystem_ok F p0_s A_p0_s_1 p0_s.A.length c_p0_s_1 rfl A_p0_s_2 p0_s.B.length c_p0_s_2 rfl A_p0_s_3 p0_s.C.length c_p0_s_3 rfl p1_x A_p1_x_1 p1_x.length c_p1_x_1 rfl p2_inputs A_p2_inputs_1 p2_inputs.length c_p2_inputs_1 rfl _ _ hc17 (h_p0_s_1.at hs) (h_p0_s_2.at hs) (h_p0_s_3.at hs) (h_p1_x_1.at hs) (h_p2_inputs_1.at hs)) ?_; clear hf
          rintro _ w ⟨A18, n19, c20, A22, n23, c24, rfl, hn21, hn25, hs1⟩ a hf
          have hs : St [] W w [.blk b1 27 [.slice A_p0_s_1 p0_s.A.length c_p0_s_1, .slice A_p0_s_2 p0_s.B.length c_p0_s_2, .slice A_p0_s_3 p0_s.C.length c_p0_s_3], .row A18 n19 c20 2 1 (ints r16.1), .row A22 n23 c24 2 1 (ints r16.2.1)] := hs.join hs1
          clear hs1
          refine sY hf hs rfl rfl rfl (Y_move rfl rfl) ?_; clear hf; intro a hf
          refine sY hf hs rfl rfl rfl (Y_extract rfl rfl rfl) ?_; clear hf; intro a hf
          refine sY hf hs rfl rfl rfl (Y_extract rfl rfl rfl) ?_; clear hf; intro a hf
          refine sY hf hs rfl rfl rfl (Y_extract rfl rfl rfl) ?_; clear hf; intro a hf
          refine sY hf hs rfl rfl rfl (Y_assign rfl rfl) ?_; clear hf; intro a hf
          refine sY hf hs rfl rfl rfl (Y_assign rfl rfl) ?_; clear hf; intro a hf
          refine sY hf hs rfl rfl rfl (Y_assign rfl rfl) ?_; clear hf; intro a hf
          refine wpO_nil ?_
          refine wpL_seq ?_
          refine wpL_seq ?_
          refine wpL_region ?_
          refine sY hf hs rfl rfl rfl (Y_move rfl rfl) ?_; clear hf; intro a hf
          refine sY hf hs rfl rfl rfl (Y_neq rfl rfl rfl) ?_; clear hf; intro a hf
          refine wpO_nil ?_
          refine wpL_cond hf rfl (fun hb26 => ?_) (fun hb26 => ?_)
          · have hm := bif_t hm hb26
            refine wpL_seq ?_
            refine wpL_region ?_
            refine sY hf hs rfl rfl rfl (Y_move rfl rfl) ?_; clear hf; intro a hf
            refine sY hf hs rfl rfl rfl (Y_assign rfl rfl) ?_; clear hf; intro a hf
            refine sY hf hs rfl rfl rfl (Y_assign rfl rfl) ?_; clear hf; intro a hf
            refine wpO_nil ?_
            obtain rfl := Option.some.inj hm
            refine wpL_ret (ret_tmp2 rfl hf rfl rfl ?_)
            exact ⟨_, rfl, rfl, hs.sel [] (by decide)⟩
          · have hm := bif_f hm hb26
            refine wpL_skip ?_
            refine wpL_seq ?_
            refine wpL_seq ?_
            refine wpL_region ?_
            refine sY hf hs rfl rfl rfl (Y_move rfl rfl) ?_; clear hf; intro a hf
            refine sY hf hs rfl rfl rfl (Y_lenH rfl rfl el23 hn21) ?_; clear hf; intro a hf
            refine sY hf hs rfl rfl rfl (Y_move rfl rfl) ?_; clear hf; intro a hf
            refine wpO_nil ?_
            obtain ⟨r47, hl48, hm⟩ := bind_some hm
            refine wpL_block (fun a w => Sum.inr () = r47 ∧ Fr a 61 [] ∧ St [] W w []) ?_ ?_
            · refine wpL_loop (fun n a w => ∃ x40 : Int, impl_MeetsDue_L1 F p3_due r16 n x40 = some r47 ∧ Fr a 61 [(3, .slice A_p3_due_1 p3_due.length c_p3_due_1), (47, .slice A18 n19 c20), (48, .int .i64 (r16.1.length : Int)), (49, .int .i64 x40)] ∧ St [] W w [.row A18 n19 c20 2 1 (ints r16.1)]) F ?_ ?_ ?_
              · exact ⟨0, hl48, (FrD.pick (FrD.pick (FrD.pick (FrD.pick hf.none hf rfl) hf rfl) hf rfl) hf rfl), hs.sel [1] (by decide)⟩
              · rintro a w ⟨x40, h0_, -, -⟩; simp [impl_MeetsDue_L1] at h0_
              · rintro n50 a w ⟨x40, hm49, hf, hs⟩
                rw [impl_MeetsDue_L1] at hm49
                refine wpL_seq ?_
                refine wpL_region ?_
                refine sY hf hs rfl rfl rfl (Y_lss rfl rfl rfl) ?_; clear hf; intro a hf
                refine wpO_nil ?_
                refine wpL_seq ?_
                refine wpL_cond hf rfl (fun hb51 => ?_) (fun hb51 => ?_)
                · have hm49 := bif_t hm49 hb51
                  refine wpL_skip ?_
                  refine wpL_seq ?_
                  refine wpL_block0 ?_
                  refine wpL_seq ?_
                  refine wpL_region ?_
                  refine sY hf hs rfl rfl rfl (Y_move rfl rfl) ?_; clear hf; intro a hf
                  obtain ⟨q52, hi53, hm49⟩ := bind_some hm49
                  obtain ⟨hi53a, hi53b, hi53q⟩ := idx_some hi53
                  refine sY hf hs rfl rfl rfl (Y_index rfl rfl rfl el23 ti2 (Rd.isAt (hs.rd (i := 0) rfl) (at1 (ints_at hi53q))) hi53a (ltn hn21 hi53b)) ?_; clear hf; intro a hf
                  refine sY hf hs rfl rfl rfl (Y_load_rd rfl rfl (fun w hs => hs.rd (i := 0) rfl) (at1 (ints_at hi53q)) ag2) ?_; clear hf; intro a hf
                  refine sY hf hs rfl rfl rfl (Y_assign rfl rfl) ?_; clear hf; intro a hf
                  refine sY hf hs rfl rfl rfl (Y_assign rfl rfl) ?_; clear hf; intro a hf
                  refine wpO_nil ?_
                  refine wpL_seq ?_
                  refine wpL_region ?_
                  refine sY hf hs rfl rfl rfl (Y_move rfl rfl) ?_; clear hf; intro a hf
                  refine sY hf hs rfl rfl rfl (Y_move rfl rfl) ?_; clear hf; intro a hf
                  refine sY hf hs rfl rfl rfl (Y_move rfl rfl) ?_; clear hf; intro a hf
                  obtain ⟨q54, hi55, hm49⟩ := bind_some hm49
                  obtain ⟨hi55a, hi55b, hi55q⟩ := idx_some hi55
                  refine sY hf hs rfl rfl rfl (Y_index rfl rfl rfl el23 ti2 (Rd.isAt (h_p3_due_1.at hs) (at1 (ints_at hi55q))) hi55a hi55b) ?_; clear hf; intro a hf
                  refine sY hf hs rfl rfl rfl (Y_load_rd rfl rfl (fun w hs => h_p3_due_1.at hs) (at1 (ints_at hi55q)) ag2) ?_; clear hf; intro a hf
                  refine sY hf hs rfl rfl rfl (Y_gtr rfl rfl rfl) ?_; clear hf; intro a hf
                  refine wpO_nil ?_
                  refine wpL_cond hf rfl (fun hb56 => ?_) (fun hb56 => ?_)
                  · have hm49 := bif_t hm49 hb56
                    refine wpL_seq ?_
                    refine wpL_region ?_
                    refine sY hf hs rfl rfl rfl (Y_assign rfl rfl) ?_; clear hf; intro a hf
                    refine sY hf hs rfl rfl rfl (Y_assign rfl rfl) ?_; clear hf; intro a hf
                    refine wpO_nil ?_
                    obtain rfl := Option.some.inj hm49
                    try dsimp only at hm
                    obtain rfl := Option.some.inj hm
                    refine wpL_ret (Qb_ret (Ql_ret (Qb_ret (ret_tmp2 rfl hf rfl rfl ?_))))
                    exact ⟨_, rfl, rfl, hs.sel [] (by decide)⟩
                  · have hm49 := bif_f hm49 hb56
                    refine wpL_skip ?_
                    refine wpL_nil (Qb_normal ?_)
                    refine wpL_region ?_
                    refine sY hf hs rfl rfl rfl (Y_add rfl rfl rfl) ?_; clear hf; intro a hf
                    refine sY hf hs rfl rfl rfl (Y_move rfl rfl) ?_; clear hf; intro a hf
                    refine wpO_nil ?_
                    refine wpL_nil (Ql_normal ?_)
                    exact ⟨(IntKind.i64.wrap (x40 + 1)), hm49, (FrD.pick (FrD.pick (FrD.pick (FrD.pick hf.none hf rfl) hf rfl) hf rfl) hf rfl), hs⟩
                · have hm49 := bif_f hm49 hb51
                  refine wpL_exit (Ql_exit (Qb_exit ?_))
                  exact ⟨Option.some.inj hm49, hf.none, hs.sel [] (by decide)⟩
            · rintro a w ⟨hr_, hf, hs⟩
              subst hr_
              try dsimp only at hm
              refine wpL_seq ?_
              refine wpL_region ?_
              refine sY hf hs rfl rfl rfl (Y_assign rfl rfl) ?_; clear hf; intro a hf
              refine sY hf hs rfl rfl rfl (Y_assign rfl rfl) ?_; clear hf; intro a hf
              refine wpO_nil ?_
              obtain rfl := Option.some.inj hm
              refine wpL_ret (ret_tmp2 rfl hf rfl rfl ?_)
              exact ⟨_, rfl, rfl, hs⟩

set_option maxRecDepth 100000 in
theorem spec_l24Code_ok (F : Nat) (p0_s : GSystem) (A_p0_s_1 : Option Addr) (n_p0_s_1 c_p0_s_1 : Nat) (hn_p0_s_1 : n_p0_s_1 = p0_s.A.length) (A_p0_s_2 : Option Addr) (n_p0_s_2 c_p0_s_2 : Nat) (hn_p0_s_2 : n_p0_s_2 = p0_s.B.length) (A_p0_s_3 : Option Addr) (n_p0_s_3 c_p0_s_3 : Nat) (hn_p0_s_3 : n_p0_s_3 = p0_s.C.length) (p1_x : List Int) (A_p1_x_1 : Option Addr) (n_p1_x_1 c_p1_x_1 : Nat) (hn_p1_x_1 : n_p1_x_1 = p1_x.length) (p2_inputs : List Int) (A_p2_inputs_1 : Option Addr) (n_p2_inputs_1 c_p2_inputs_1 : Nat) (hn_p2_inputs_1 : n_p2_inputs_1 = p2_inputs.length) (r : Int) (W : World) (hm : spec_l24Code F p0_s p1_x p2_inputs = some r) (h_p0_s_1 : RdM W A_p0_s_1 p0_s.A) (h_p0_s_2 : Rd W A_p0_s_2 (ints p0_s.B)) (h_p0_s_3 : Rd W A_p0_s_3 (ints p0_s.C)) (h_p1_x_1 : Rd W A_p1_x_1 (ints p1_x)) (h_p2_inputs_1 : Rd W A_p2_inputs_1 (ints p2_inputs)) :
    Calls Try.prog 112 [.agg #[.slice A_p0_s_1 n_p0_s_1 c_p0_s_1, .slice A_p0_s_2 n_p0_s_2 c_p0_s_2, .slice A_p0_s_3 n_p0_s_3 c_p0_s_3], .slice A_p1_x_1 n_p1_x_1 c_p1_x_1, .slice A_p2_inputs_1 n_p2_inputs_1 c_p2_inputs_1].toArray W fun e w' => ∃ v, e = .returned v ∧ v = .int .i64 r ∧ St [] W w' [] := by
  subst hn_p0_s_1
  subst hn_p0_s_2
  subst hn_p0_s_3
  subst hn_p1_x_1
  subst hn_p2_inputs_1
  unfold spec_l24Code at hm
  refine Calls.enter (N := 28) Try.func112 rfl rfl rfl (fun a hf => ?_)
  have hs := St.start W
  obtain ⟨w, hw_⟩ : ∃ w, w = W := ⟨W, rfl⟩
  clear hw_ w
  refine wpL_seq ?_
  refine wpL_region ?_
  refine sBox hf hs rfl rfl rfl rfl rfl (cs := [.slice A_p0_s_1 p0_s.A.length c_p0_s_1, .slice A_p0_s_2 p0_s.B.length c_p0_s_2, .slice A_p0_s_3 p0_s.C.length c_p0_s_3]) rfl ?_; clear hf hs; intro a w b1 hs hf
  have hs : St [] W w [.blk b1 27 [.slice A_p0_s_1 p0_s.A.length c_p0_s_1, .slice A_p0_s_2 p0_s.B.length c_p0_s_2, .slice A_p0_s_3 p0_s.C.length c_p0_s_3]] := hs
  refine sY hf hs rfl rfl rfl (Y_assign rfl rfl) ?_; clear hf; intro a hf
  refine wpO_nil ?_
  refine wpL_seq ?_
  refine wpL_seq ?_
  obtain ⟨r12, hj13, hm⟩ := bind_some hm
  refine wpL_cut (fun a w => ∃ b11 : Bool, b11 = r12 ∧ Fr a 28 [(27, .bool b11)] ∧ St [] W w []) ?_ ?_
  · refine wpL_region ?_
    refine sY hf hs rfl rfl rfl (Y_load_blkS rfl rfl (i := 0) rfl ag27 ti27 rfl) ?_; clear hf; intro a hf
    obtain ⟨r14, hc15, hj13⟩ := bind_some hj13
    refine sCall hf rfl rfl rfl rfl (cap := []) rfl rfl en32 (spec_IsSystem_ok F p0_s A_p0_s_1 p0_s.A.length c_p0_s_1 rfl A_p0_s_2 p0_s.B.length c_p0_s_2 rfl A_p0_s_3 p0_s.C.length c_p0_s_3 rfl _ _ hc15 (h_p0_s_1.at hs) (h_p0_s_2.at hs) (h_p0_s_3.at hs)) ?_; clear hf
    rintro _ w ⟨rfl, hs1⟩ a hf
    have hs : St [] W w [.blk b1 27 [.slice A_p0_s_1 p0_s.A.length c_p0_s_1, .slice A_p0_s_2 p0_s.B.length c_p0_s_2, .slice A_p0_s_3 p0_s.C.length c_p0_s_3]] := hs.ext hs1.below
    clear hs1
    refine sY hf hs rfl rfl rfl (Y_not rfl rfl) ?_; clear hf; intro a hf
    refine sY hf hs rfl rfl rfl (Y_move rfl rfl) ?_; clear hf; intro a hf
    refine bsplit (!r14) (fun hb16 => ?_) (fun hb16 => ?_)
    · have hj13 := bif_t hj13 hb16
      refine sNo hf rfl rfl rfl (congrArg (fun b => some (Value.bool b)) hb16) rfl rfl rfl ?_; clear hf; intro a hf
      refine sNo hf rfl rfl rfl (congrArg (fun b => some (Value.bool b)) hb16) rfl rfl rfl ?_; clear hf; intro a hf
      refine sNo hf rfl rfl rfl (congrArg (fun b => some (Value.bool b)) hb16) rfl rfl rfl ?_; clear hf; intro a hf
      refine sY hf hs rfl rfl rfl (Y_pickT rfl (congrArg (fun b => some (Value.bool b)) hb16) rfl) ?_; clear hf; intro a hf
      refine sY hf hs rfl rfl rfl (Y_move rfl rfl) ?_; clear hf; intro a hf
      refine sNo hf rfl rfl rfl rfl rfl rfl rfl ?_; clear hf; intro a hf
      refine sNo hf rfl rfl rfl rfl rfl rfl rfl ?_; clear hf; intro a hf
      refine sNo hf rfl rfl rfl rfl rfl rfl rfl ?_; clear hf; intro a hf
      refine sNo hf rfl rfl rfl rfl rfl rfl rfl ?_; clear hf; intro a hf
      refine sNo hf rfl rfl rfl rfl rfl rfl rfl ?_; clear hf; intro a hf
      refine sNo hf rfl rfl rfl rfl rfl rfl rfl ?_; clear hf; intro a hf
      refine sY hf hs rfl rfl rfl (Y_pickT rfl rfl rfl) ?_; clear hf; intro a hf
      refine sY hf hs rfl rfl rfl (Y_move rfl rfl) ?_; clear hf; intro a hf
      refine sNo hf rfl rfl rfl rfl rfl rfl rfl ?_; clear hf; intro a hf
      refine sNo hf rfl rfl rfl rfl rfl rfl rfl ?_; clear hf; intro a hf
      refine sNo hf rfl rfl rfl rfl rfl rfl rfl ?_; clear hf; intro a hf
      refine sY hf hs rfl rfl rfl (Y_pickT rfl rfl rfl) ?_; clear hf; intro a hf
      refine wpO_nil ?_
      refine wpL_nil (then_normal ?_)
      exact ⟨true, Option.some.inj hj13, (FrD.pick hf.none hf rfl), hs.sel [] (by decide)⟩
    · have hj13 := bif_f hj13 hb16
      refine sYg hf hs rfl rfl rfl (congrArg (fun b => some (Value.bool b)) hb16) rfl rfl rfl (Y_move rfl rfl) ?_; clear hf; intro a hf
      obtain ⟨r17, hc18, hj13⟩ := bind_some hj13
      refine sCallg hf rfl rfl rfl (congrArg (fun b => some (Value.bool b)) hb16) rfl rfl rfl rfl (cap := []) rfl rfl en120 (spec_l02Vector_ok F p1_x A_p1_x_1 p1_x.length c_p1_x_1 rfl _ _ hc18 (h_p1_x_1.at hs)) ?_; clear hf
      rintro _ w ⟨rfl, hs1⟩ a hf
      have hs : St [] W w [.blk b1 27 [.slice A_p0_s_1 p0_s.A.length c_p0_s_1, .slice A_p0_s_2 p0_s.B.length c_p0_s_2, .slice A_p0_s_3 p0_s.C.length c_p0_s_3]] := hs.ext hs1.below
      clear hs1
      refine sYg hf hs rfl rfl rfl (congrArg (fun b => some (Value.bool b)) hb16) rfl rfl rfl (Y_not rfl rfl) ?_; clear hf; intro a hf
      refine sY hf hs rfl rfl rfl (Y_pickF rfl (congrArg (fun b => some (Value.bool b)) hb16) rfl) ?_; clear hf; intro a hf
      refine sY hf hs rfl rfl rfl (Y_move rfl rfl) ?_; clear hf; intro a hf
      refine bsplit (!r17) (fun hb19 => ?_) (fun hb19 => ?_)
      · have hj13 := bif_t hj13 hb19
        refine sNo hf rfl rfl rfl (congrArg (fun b => some (Value.bool b)) hb19) rfl rfl rfl ?_; clear hf; intro a hf
        refine sNo hf rfl rfl rfl (congrArg (fun b => some (Value.bool b)) hb19) rfl rfl rfl ?_; clear hf; intro a hf
        refine sNo hf rfl rfl rfl (congrArg (fun b => some (Value.bool b)) hb19) rfl rfl rfl ?_; clear hf; intro a hf
        refine sNo hf rfl rfl rfl (congrArg (fun b => some (Value.bool b)) hb19) rfl rfl rfl ?_; clear hf; intro a hf
        refine sNo hf rfl rfl rfl (congrArg (fun b => some (Value.bool b)) hb19) rfl rfl rfl ?_; clear hf; intro a hf
        refine sNo hf rfl rfl rfl (congrArg (fun b => some (Value.bool b)) hb19) rfl rfl rfl ?_; clear hf; intro a hf
        refine sY hf hs rfl rfl rfl (Y_pickT rfl (congrArg (fun b => some (Value.bool b)) hb19) rfl) ?_; clear hf; intro a hf
        refine sY hf hs rfl rfl rfl (Y_move rfl rfl) ?_; clear hf; intro a hf
        refine sNo hf rfl rfl rfl rfl rfl rfl rfl ?_; clear hf; intro a hf
        refine sNo hf rfl rfl rfl rfl rfl rfl rfl ?_; clear hf; intro a hf
        refine sNo hf rfl rfl rfl rfl rfl rfl rfl ?_; clear hf; intro a hf
        refine sY hf hs rfl rfl rfl (Y_pickT rfl rfl rfl) ?_; clear hf; intro a hf
        refine wpO_nil ?_
        refine wpL_nil (then_normal ?_)
        exact ⟨true, Option.some.inj hj13, (FrD.pick hf.none hf rfl), hs.sel [] (by decide)⟩
      · have hj13 := bif_f hj13 hb19
        refine sYg hf hs rfl rfl rfl (congrArg (fun b => some (Value.bool b)) hb19) rfl rfl rfl (Y_move rfl rfl) ?_; clear hf; intro a hf
        refine sYg hf hs rfl rfl rfl (congrArg (fun b => some (Value.bool b)) hb19) rfl rfl rfl (Y_lenH rfl rfl el23 rfl) ?_; clear hf; intro a hf
        refine sYg hf hs rfl rfl rfl (congrArg (fun b => some (Value.bool b)) hb19) rfl rfl rfl (Y_fieldAddr rfl rfl fo27_0) ?_; clear hf; intro a hf
        refine sYg hf hs rfl rfl rfl (congrArg (fun b => some (Value.bool b)) hb19) rfl rfl rfl (Y_load_blk rfl rfl (i := 0) rfl rfl ag22) ?_; clear hf; intro a hf
        refine sYg hf hs rfl rfl rfl (congrArg (fun b => some (Value.bool b)) hb19) rfl rfl rfl (Y_lenH rfl rfl el22 rfl) ?_; clear hf; intro a hf
        refine sYg hf hs rfl rfl rfl (congrArg (fun b => some (Value.bool b)) hb19) rfl rfl rfl (Y_neq rfl rfl rfl) ?_; clear hf; intro a hf
        refine sY hf hs rfl rfl rfl (Y_pickF rfl (congrArg (fun b => some (Value.bool b)) hb19) rfl) ?_; clear hf; intro a hf
        refine sY hf hs rfl rfl rfl (Y_move rfl rfl) ?_; clear hf; intro a hf
        refine bsplit ((p1_x.length : Int) != (p0_s.A.length : Int)) (fun hb20 => ?_) (fun hb20 => ?_)
        · have hj13 := bif_t hj13 hb20
          refine sNo hf rfl rfl rfl (congrArg (fun b => some (Value.bool b)) hb20) rfl rfl rfl ?_; clear hf; intro a hf
          refine sNo hf rfl rfl rfl (congrArg (fun b => some (Value.bool b)) hb20) rfl rfl rfl ?_; clear hf; intro a hf
          refine sNo hf rfl rfl rfl (congrArg (fun b => some (Value.bool b)) hb20) rfl rfl rfl ?_; clear hf; intro a hf
          refine sY hf hs rfl rfl rfl (Y_pickT rfl (congrArg (fun b => some (Value.bool b)) hb20) rfl) ?_; clear hf; intro a hf
          refine wpO_nil ?_
          refine wpL_nil (then_normal ?_)
          exact ⟨true, Option.some.inj hj13, (FrD.pick hf.none hf rfl), hs.sel [] (by decide)⟩
        · have hj13 := bif_f hj13 hb20
          refine sYg hf hs rfl rfl rfl (congrArg (fun b => some (Value.bool b)) hb20) rfl rfl rfl (Y_move rfl rfl) ?_; clear hf; intro a hf
          obtain ⟨r21, hc22, hj13⟩ := bind_some hj13
          refine sCallg hf rfl rfl rfl (congrArg (fun b => some (Value.bool b)) hb20) rfl rfl rfl rfl (cap := []) rfl rfl en123 (spec_l24Inputs_ok F p2_inputs A_p2_inputs_1 p2_inputs.length c_p2_inputs_1 rfl false _ _ hc22 (h_p2_inputs_1.at hs)) ?_; clear hf
          rintro _ w ⟨rfl, hs1⟩ a hf
          have hs : St [] W w [.blk b1 27 [.slice A_p0_s_1 p0_s.A.length c_p0_s_1, .slice A_p0_s_2 p0_s.B.length c_p0_s_2, .slice A_p0_s_3 p0_s.C.length c_p0_s_3]] := hs.ext hs1.below
          clear hs1
          refine sYg hf hs rfl rfl rfl (congrArg (fun b => some (Value.bool b)) hb20) rfl rfl rfl (Y_not rfl rfl) ?_; clear hf; intro a hf
          refine sY hf hs rfl rfl rfl (Y_pickF rfl (congrArg (fun b => some (Value.bool b)) hb20) rfl) ?_; clear hf; intro a hf
          refine wpO_nil ?_
          refine wpL_nil (then_normal ?_)
          exact ⟨(!r21), Option.some.inj hj13, (FrD.pick hf.none hf rfl), hs.sel [] (by decide)⟩
  · rintro a w ⟨b11, hr_, hf, hs⟩
    subst hr_
    try dsimp only at hm
    refine wpL_cond hf rfl (fun hb23 => ?_) (fun hb23 => ?_)
    · have hm := bif_t hm hb23
      refine wpL_seq ?_
      refine wpL_region ?_
      refine sY hf hs rfl rfl rfl (Y_assign rfl rfl) ?_; clear hf; intro a hf
      refine wpO_nil ?_
      obtain rfl := Option.some.inj hm
      refine wpL_ret (ret_tmp rfl hf rfl ?_)
      exact ⟨_, rfl, rfl, hs⟩
    · have hm := bif_f hm hb23
      refine wpL_skip ?_
      refine wpL_seq ?_
      refine wpL_region ?_
      refine sY hf hs rfl rfl rfl (Y_assign rfl rfl) ?_; clear hf; intro a hf
      refine wpO_nil ?_
      obtain rfl := Option.some.inj hm
      refine wpL_ret (ret_tmp rfl hf rfl ?_)
      exact ⟨_, rfl, rfl, hs⟩

set_option maxRecDepth 100000 in
theorem spec_l07Shift_ok (F : Nat) (p0_x : List Int) (A_p0_x_1 : Option Addr) (n_p0_x_1 c_p0_x_1 : Nat) (hn_p0_x_1 : n_p0_x_1 = p0_x.length) (p1_g : Int) (r : List Int) (W : World) (hm : spec_l07Shift F p0_x p1_g = some r) (h_p0_x_1 : Rd W A_p0_x_1 (ints p0_x)) :
    Calls Try.prog 75 [.slice A_p0_x_1 n_p0_x_1 c_p0_x_1, .int .i64 p1_g].toArray W fun e w' => ∃ v, e = .returned v ∧ ∃ A68, ∃ n69, ∃ c70, v = .slice A68 n69 c70 ∧ n69 = r.length ∧ St [] W w' [.row A68 n69 c70 2 1 (ints r)] := by
  subst hn_p0_x_1
  unfold spec_l07Shift at hm
  refine Calls.enter (N := 24) Try.func75 rfl rfl rfl (fun a hf => ?_)
  have hs := St.start W
  obtain ⟨w, hw_⟩ : ∃ w, w = W := ⟨W, rfl⟩
  clear hw_ w
  refine wpL_seq ?_
  refine wpL_region ?_
  refine sY hf hs rfl rfl rfl (Y_assign rfl rfl) ?_; clear hf; intro a hf
  refine wpO_nil ?_
  refine wpL_seq ?_
  refine wpL_region ?_
  refine sEmpty hf hs rfl rfl rfl rfl el23 ti2 ?_; clear hf hs; intro a w A1 hs hf
  have hs : St [] W w [.row A1 0 0 2 1 (ints ([] : List Int))] := hs
  refine sY hf hs rfl rfl rfl (Y_assign rfl rfl) ?_; clear hf; intro a hf
  refine wpO_nil ?_
  refine wpL_seq ?_
  refine wpL_seq ?_
  refine wpL_region ?_
  refine sY hf hs rfl rfl rfl (Y_assign rfl rfl) ?_; clear hf; intro a hf
  refine wpO_nil ?_
  obtain ⟨r53, hl54, hm⟩ := bind_some hm
  refine wpL_block (fun a w => ∃ xs48 : List Int, ∃ A49, ∃ n50, ∃ c51, xs48 = r53 ∧ n50 = xs48.length ∧ Fr a 24 [(5, .slice A49 n50 c51)] ∧ St [] W w [.row A49 n50 c51 2 1 (ints xs48)]) ?_ ?_
  · refine wpL_loop (fun n a w => ∃ xs31 : List Int, ∃ x36 : Int, ∃ A32, ∃ n33, ∃ c34, spec_l07Shift_L1 F p0_x p1_g n xs31 x36 = some r53 ∧ n33 = xs31.length ∧ Fr a 24 [(0, .slice A_p0_x_1 p0_x.length c_p0_x_1), (1, .int .i64 p1_g), (5, .slice A32 n33 c34), (6, .int .i64 x36)] ∧ St [] W w [.row A32 n33 c34 2 1 (ints xs31)]) F ?_ ?_ ?_
    · exact ⟨([] : List Int), 0, A1, 0, 0, hl54, rfl, (FrD.pick (FrD.pick (FrD.pick (FrD.pick hf.none hf rfl) hf rfl) hf rfl) hf rfl), hs⟩
    · rintro a w ⟨xs31, x36, A32, n33, c34, h0_, -, -, -⟩; simp [spec_l07Shift_L1] at h0_
    · rintro n56 a w ⟨xs31, x36, A32, n33, c34, hm55, hn35, hf, hs⟩
      rw [spec_l07Shift_L1] at hm55
      refine wpL_seq ?_
      refine wpL_seq ?_
      refine wpL_region ?_
      refine sY hf hs rfl rfl rfl (Y_move rfl rfl) ?_; clear hf; intro a hf
      refine sY hf hs rfl rfl rfl (Y_move rfl rfl) ?_; clear hf; intro a hf
      refine sY hf hs rfl rfl rfl (Y_lenH rfl rfl el23 rfl) ?_; clear hf; intro a hf
      refine sY hf hs rfl rfl rfl (Y_lss rfl rfl rfl) ?_; clear hf; intro a hf
      refine wpO_nil ?_
      refine wpL_cond hf rfl (fun hb57 => ?_) (fun hb57 => ?_)
      · have hm55 := bif_t hm55 hb57
        refine wpL_skip ?_
        refine wpL_seq ?_
        refine wpL_block0 ?_
        refine wpL_region ?_
        refine sY hf hs rfl rfl rfl (Y_move rfl rfl) ?_; clear hf; intro a hf
        refine sY hf hs rfl rfl rfl (Y_move rfl rfl) ?_; clear hf; intro a hf
        refine sY hf hs rfl rfl rfl (Y_move rfl rfl) ?_; clear hf; intro a hf
        obtain ⟨q58, hi59, hm55⟩ := bind_some hm55
        obtain ⟨hi59a, hi59b, hi59q⟩ := idx_some hi59
        refine sY hf hs rfl rfl rfl (Y_index rfl rfl rfl el23 ti2 (Rd.isAt (h_p0_x_1.at hs) (at1 (ints_at hi59q))) hi59a hi59b) ?_; clear hf; intro a hf
        refine sY hf hs rfl rfl rfl (Y_load_rd rfl rfl (fun w hs => h_p0_x_1.at hs) (at1 (ints_at hi59q)) ag2) ?_; clear hf; intro a hf
        refine sY hf hs rfl rfl rfl (Y_move rfl rfl) ?_; clear hf; intro a hf
        obtain ⟨r60, hc61, hm55⟩ := bind_some hm55
        refine sCall hf rfl rfl rfl rfl (cap := []) rfl rfl en154 (spec_l01Times_ok F q58 p1_g _ _ hc61) ?_; clear hf
        rintro _ w ⟨rfl, hs1⟩ a hf
        have hs : St [] W w [.row A32 n33 c34 2 1 (ints xs31)] := hs.ext hs1.below
        clear hs1
        refine sBuildSlice (parts := [(0, .tmp 20)]) (vs := [.int .i64 r60]) (cells := [.int .i64 r60]) hf hs rfl rfl rfl rfl rfl el23 ti2 rfl rfl rfl rfl ?_; clear hf hs; intro a w A62 hs hA63 hf
        have hs : St [] W w [.row A32 n33 c34 2 1 (ints xs31), .row A62 1 1 2 1 (ints ([r60]))] := hs
        obtain ⟨xs66, ha67, hm55⟩ := bind_some hm55
        refine sAppendL (i := 0) (xs := xs31) (ys := [r60]) (enc := ints) hf hs rfl rfl rfl rfl rfl rfl hn35 rfl rfl ha67 el23 ti2 rfl rfl rfl (hs.rd (i := 1) rfl) (Nat.succ_pos _) ints_len1 ints_append ints_one ?_; clear hf hs; intro a w A64 c65 hs hf
        have hs : St [] W w [.row A64 xs66.length c65 2 1 (ints xs66), .row A62 1 1 2 1 (ints ([r60]))] := hs
        refine sY hf hs rfl rfl rfl (Y_assign rfl rfl) ?_; clear hf; intro a hf
        refine wpO_nil ?_
        refine wpL_nil (Qb_normal ?_)
        refine wpL_region ?_
        refine sY hf hs rfl rfl rfl (Y_move rfl rfl) ?_; clear hf; intro a hf
        refine sY hf hs rfl rfl rfl (Y_add rfl rfl rfl) ?_; clear hf; intro a hf
        refine sY hf hs rfl rfl rfl (Y_assign rfl rfl) ?_; clear hf; intro a hf
        refine wpO_nil ?_
        refine wpL_nil (Ql_normal ?_)
        exact ⟨xs66, (IntKind.i64.wrap (x36 + 1)), A64, xs66.length, c65, hm55, rfl, (FrD.pick (FrD.pick (FrD.pick (FrD.pick hf.none hf rfl) hf rfl) hf rfl) hf rfl), hs.sel [0] (by decide)⟩
      · have hm55 := bif_f hm55 hb57
        refine wpL_exit (Ql_exit (Qb_exit ?_))
        exact ⟨xs31, A32, n33, c34, Option.some.inj hm55, hn35, (FrD.pick hf.none hf rfl), hs⟩
  · rintro a w ⟨xs48, A49, n50, c51, hr_, hn52, hf, hs⟩
    subst hr_
    try dsimp only at hm
    refine wpL_seq ?_
    refine wpL_region ?_
    refine sY hf hs rfl rfl rfl (Y_move rfl rfl) ?_; clear hf; intro a hf
    refine sY hf hs rfl rfl rfl (Y_assign rfl rfl) ?_; clear hf; intro a hf
    refine wpO_nil ?_
    obtain rfl := Option.some.inj hm
    refine wpL_ret (ret_tmp rfl hf rfl ?_)
    exact ⟨_, rfl, A49, n50, c51, rfl, hn52, hs⟩

set_option maxRecDepth 100000 in
theorem spec_l01Own_ok (F : Nat) (p0_list : List Int) (A_p0_list_1 : Option Addr) (n_p0_list_1 c_p0_list_1 : Nat) (hn_p0_list_1 : n_p0_list_1 = p0_list.length) (r : List Int) (W : World) (hm : spec_l01Own F p0_list = some r) (h_p0_list_1 : Rd W A_p0_list_1 (ints p0_list)) :
    Calls Try.prog 80 [.slice A_p0_list_1 n_p0_list_1 c_p0_list_1].toArray W fun e w' => ∃ v, e = .returned v ∧ ∃ A7, ∃ n8, ∃ c9, v = .slice A7 n8 c9 ∧ n8 = r.length ∧ St [] W w' [.row A7 n8 c9 2 1 (ints r)] := by
  subst hn_p0_list_1
  unfold spec_l01Own at hm
  refine Calls.enter (N := 6) Try.func80 rfl rfl rfl (fun a hf => ?_)
  have hs := St.start W
  obtain ⟨w, hw_⟩ : ∃ w, w = W := ⟨W, rfl⟩
  clear hw_ w
  refine wpL_seq ?_
  refine wpL_region ?_
  refine sY hf hs rfl rfl rfl (Y_assign rfl rfl) ?_; clear hf; intro a hf
  refine wpO_nil ?_
  refine wpL_seq ?_
  refine wpL_region ?_
  refine sEmpty hf hs rfl rfl rfl rfl el23 ti2 ?_; clear hf hs; intro a w A1 hs hf
  have hs : St [] W w [.row A1 0 0 2 1 (ints ([] : List Int))] := hs
  refine sY hf hs rfl rfl rfl (Y_move rfl rfl) ?_; clear hf; intro a hf
  obtain ⟨xs5, ha6, hm⟩ := bind_some hm
  refine sAppendG (i := 0) (xs := ([] : List Int)) (ys := p0_list) (enc := ints) hf hs rfl rfl rfl rfl rfl rfl rfl rfl rfl ha6 el23 ti2 rfl rfl rfl (h_p0_list_1.at hs) ints_len1 ints_append ints_one ?_; clear hf hs; intro a w A3 c4 hs hf
  have hs : St [] W w [.row A3 xs5.length c4 2 1 (ints xs5)] := hs
  refine sY hf hs rfl rfl rfl (Y_assign rfl rfl) ?_; clear hf; intro a hf
  refine wpO_nil ?_
  obtain rfl := Option.some.inj hm
  refine wpL_ret (ret_tmp rfl hf rfl ?_)
  exact ⟨_, rfl, A3, xs5.length, c4, rfl, rfl, hs⟩

set_option maxRecDepth 100000 in
theorem spec_l02Own_ok (F : Nat) (p0_a : List (List Int)) (A_p0_a_1 : Option Addr) (n_p0_a_1 c_p0_a_1 : Nat) (hn_p0_a_1 : n_p0_a_1 = p0_a.length) (r : List (List Int)) (W : World) (hm : spec_l02Own F p0_a = some r) (h_p0_a_1 : RdM W A_p0_a_1 p0_a) :
    Calls Try.prog 184 [.slice A_p0_a_1 n_p0_a_1 c_p0_a_1].toArray W fun e w' => ∃ v, e = .returned v ∧ ∃ A124, ∃ n125, ∃ c126, ∃ vs128, v = .slice A124 n125 c126 ∧ n125 = r.length ∧ St [] W w' [.mat A124 n125 c126 23 2 vs128 r] := by
  subst hn_p0_a_1
  unfold spec_l02Own at hm
  refine Calls.enter (N := 21) Try.func184 rfl rfl rfl (fun a hf => ?_)
  have hs := St.start W
  obtain ⟨w, hw_⟩ : ∃ w, w = W := ⟨W, rfl⟩
  clear hw_ w
  refine wpL_seq ?_
  refine wpL_region ?_
  refine sY hf hs rfl rfl rfl (Y_assign rfl rfl) ?_; clear hf; intro a hf
  refine wpO_nil ?_
  refine wpL_seq ?_
  refine wpL_region ?_
  refine sEmptyM 2 hf hs rfl rfl rfl rfl el22 ti23 rfl ?_; clear hf hs; intro a w A1 hs hf
  have hs : St [] W w [.mat A1 0 0 23 2 [] []] := hs
  refine sY hf hs rfl rfl rfl (Y_assign rfl rfl) ?_; clear hf; intro a hf
  refine wpO_nil ?_
  refine wpL_seq ?_
  refine wpL_seq ?_
  refine wpL_region ?_
  refine sY hf hs rfl rfl rfl (Y_assign rfl rfl) ?_; clear hf; intro a hf
  refine wpO_nil ?_
  obtain ⟨r96, hl97, hm⟩ := bind_some hm
  refine wpL_block (fun a w => ∃ ms90 : List (List Int), ∃ A91, ∃ n92, ∃ c93, ∃ vs95, ms90 = r96 ∧ n92 = ms90.length ∧ Fr a 21 [(3, .slice A91 n92 c93)] ∧ St [] W w [.mat A91 n92 c93 23 2 vs95 ms90]) ?_ ?_
  · refine wpL_loop (fun n a w => ∃ ms59 : List (List Int), ∃ x65 : Int, ∃ A60, ∃ n61, ∃ c62, ∃ vs64, spec_l02Own_L1 F p0_a n ms59 x65 = some r96 ∧ n61 = ms59.length ∧ Fr a 21 [(0, .slice A_p0_a_1 p0_a.length c_p0_a_1), (3, .slice A60 n61 c62), (4, .int .i64 x65)] ∧ St [] W w [.mat A60 n61 c62 23 2 vs64 ms59]) F ?_ ?_ ?_
    · exact ⟨[], 0, A1, 0, 0, [], hl97, rfl, (FrD.pick (FrD.pick (FrD.pick hf.none hf rfl) hf rfl) hf rfl), hs⟩
    · rintro a w ⟨ms59, x65, A60, n61, c62, vs64, h0_, -, -, -⟩; simp [spec_l02Own_L1] at h0_
    · rintro n99 a w ⟨ms59, x65, A60, n61, c62, vs64, hm98, hn63, hf, hs⟩
      rw [spec_l02Own_L1] at hm98
      refine wpL_seq ?_
      refine wpL_seq ?_
      refine wpL_region ?_
      refine sY hf hs rfl rfl rfl (Y_move rfl rfl) ?_; clear hf; intro a hf
      refine sY hf hs rfl rfl rfl (Y_move rfl rfl) ?_; clear hf; intro a hf
      refine sY hf hs rfl rfl rfl (Y_lenH rfl rfl el22 rfl) ?_; clear hf; intro a hf
      refine sY hf hs rfl rfl rfl (Y_lss rfl rfl rfl) ?_; clear hf; intro a hf
      refine wpO_nil ?_
      refine wpL_cond hf rfl (fun hb100 => ?_) (fun hb100 => ?_)
      · have hm98 := bif_t hm98 hb100
        refine wpL_skip ?_
        refine wpL_seq ?_
        refine wpL_block0 ?_
        refine wpL_region ?_
        refine sY hf hs rfl rfl rfl (Y_move rfl rfl) ?_; clear hf; intro a hf
        refine sY hf hs rfl rfl rfl (Y_move rfl rfl) ?_; clear hf; intro a hf
        refine sY hf hs rfl rfl rfl (Y_move rfl rfl) ?_; clear hf; intro a hf
        obtain ⟨q101, hi102, hm98⟩ := bind_some hm98
        obtain ⟨hi102a, hi102b, hi102q⟩ := idx_some hi102
        obtain ⟨vs103, hv104, hr105⟩ := id h_p0_a_1
        obtain ⟨A106, c107, hv108, hR109⟩ := hr105 _ _ hi102q
        refine sY hf hs rfl rfl rfl (Y_index rfl rfl rfl el22 ti23 (Rd.isAt hv104 hv108) hi102a hi102b) ?_; clear hf; intro a hf
        refine sY hf hs rfl rfl rfl (Y_load_rd rfl rfl (fun w hs => hv104.at hs) (at1 hv108) ag23) ?_; clear hf; intro a hf
        obtain ⟨r110, hc111, hm98⟩ := bind_some hm98
        refine sCall hf rfl rfl rfl rfl (cap := []) rfl rfl en80 (spec_l01Own_ok F q101 A106 q101.length c107 rfl _ _ hc111 (hR109.at hs)) ?_; clear hf
        rintro _ w ⟨A112, n113, c114, rfl, hn115, hs1⟩ a hf
        have hs : St [] W w [.mat A60 n61 c62 23 2 vs64 ms59, .row A112 n113 c114 2 1 (ints r110)] := hs.join hs1
        clear hs1
        refine sOneM (j := 1) hf hs rfl rfl rfl rfl rfl rfl hn115 el22 ti23 ?_; clear hf hs; intro a w A116 hs hf
        have hs : St [] W w [.mat A60 n61 c62 23 2 vs64 ms59, .mat A116 1 1 23 2 ([Value.slice A112 r110.length c114]) ([r110])] := hs
        obtain ⟨ms120, ha121, hm98⟩ := bind_some hm98
        refine sAppendM (i := 0) (j := 1) hf hs rfl rfl rfl rfl rfl rfl hn63 rfl (by decide) rfl rfl (by decide) ha121 el22 ti23 rfl ?_; clear hf hs; intro a w A118 c119 hs hf
        have hs : St [] W w [.mat A118 ms120.length c119 23 2 (vs64 ++ ([Value.slice A112 r110.length c114])) ms120] := hs
        obtain ⟨hq122, hv123⟩ := hs.appended (i := 0) rfl ha121
        refine sY hf hs rfl rfl rfl (Y_assign rfl rfl) ?_; clear hf; intro a hf
        refine wpO_nil ?_
        refine wpL_nil (Qb_normal ?_)
        refine wpL_region ?_
        refine sY hf hs rfl rfl rfl (Y_move rfl rfl) ?_; clear hf; intro a hf
        refine sY hf hs rfl rfl rfl (Y_add rfl rfl rfl) ?_; clear hf; intro a hf
        refine sY hf hs rfl rfl rfl (Y_assign rfl rfl) ?_; clear hf; intro a hf
        refine wpO_nil ?_
        refine wpL_nil (Ql_normal ?_)
        exact ⟨ms120, (IntKind.i64.wrap (x65 + 1)), A118, ms120.length, c119, (vs64 ++ ([Value.slice A112 r110.length c114])), hm98, rfl, (FrD.pick (FrD.pick (FrD.pick hf.none hf rfl) hf rfl) hf rfl), hs⟩
      · have hm98 := bif_f hm98 hb100
        refine wpL_exit (Ql_exit (Qb_exit ?_))
        exact ⟨ms59, A60, n61, c62, vs64, Option.some.inj hm98, hn63, (FrD.pick hf.none hf rfl), hs⟩
  · rintro a w ⟨ms90, A91, n92, c93, vs95, hr_, hn94, hf, hs⟩
    subst hr_
    try dsimp only at hm
    refine wpL_seq ?_
    refine wpL_region ?_
    refine sY hf hs rfl rfl rfl (Y_move rfl rfl) ?_; clear hf; intro a hf
    refine sY hf hs rfl rfl rfl (Y_assign rfl rfl) ?_; clear hf; intro a hf
    refine wpO_nil ?_
    obtain rfl := Option.some.inj hm
    refine wpL_ret (ret_tmp rfl hf rfl ?_)
    exact ⟨_, rfl, A91, n92, c93, vs95, rfl, hn94, hs⟩

set_option maxRecDepth 100000 in
theorem spec_l02Add_ok (F : Nat) (p0_a : List (List Int)) (A_p0_a_1 : Option Addr) (n_p0_a_1 c_p0_a_1 : Nat) (hn_p0_a_1 : n_p0_a_1 = p0_a.length) (p1_b : List (List Int)) (A_p1_b_1 : Option Addr) (n_p1_b_1 c_p1_b_1 : Nat) (hn_p1_b_1 : n_p1_b_1 = p1_b.length) (r : List (List Int)) (W : World) (hm : spec_l02Add F p0_a p1_b = some r) (h_p0_a_1 : RdM W A_p0_a_1 p0_a) (h_p1_b_1 : RdM W A_p1_b_1 p1_b) :
    Calls Try.prog 169 [.slice A_p0_a_1 n_p0_a_1 c_p0_a_1, .slice A_p1_b_1 n_p1_b_1 c_p1_b_1].toArray W fun e w' => ∃ v, e = .returned v ∧ ∃ A664, ∃ n665, ∃ c666, ∃ vs668, v = .slice A664 n665 c666 ∧ n665 = r.length ∧ St [] W w' [.mat A664 n665 c666 23 2 vs668 r] := by
  subst hn_p0_a_1
  subst hn_p1_b_1
  unfold spec_l02Add at hm
  refine Calls.enter (N := 47) Try.func169 rfl rfl rfl (fun a hf => ?_)
  have hs := St.start W
  obtain ⟨w, hw_⟩ : ∃ w, w = W := ⟨W, rfl⟩
  clear hw_ w
  refine wpL_seq ?_
  refine wpL_region ?_
  refine sY hf hs rfl rfl rfl (Y_assign rfl rfl) ?_; clear hf; intro a hf
  refine wpO_nil ?_
  refine wpL_seq ?_
  refine wpL_region ?_
  refine sY hf hs rfl rfl rfl (Y_move rfl rfl) ?_; clear hf; intro a hf
  obtain ⟨r1, hc2, hm⟩ := bind_some hm
  refine sCall hf rfl rfl rfl rfl (cap := []) rfl rfl en184 (spec_l02Own_ok F p0_a A_p0_a_1 p0_a.length c_p0_a_1 rfl _ _ hc2 (h_p0_a_1.at hs)) ?_; clear hf
  rintro _ w ⟨A3, n4, c5, vs7, rfl, hn6, hs1⟩ a hf
  have hs : St [] W w [.mat A3 n4 c5 23 2 vs7 r1] := hs.join hs1
  clear hs1
  refine sY hf hs rfl rfl rfl (Y_assign rfl rfl) ?_; clear hf; intro a hf
  refine wpO_nil ?_
  refine wpL_seq ?_
  refine wpL_seq ?_
  refine wpL_region ?_
  refine sY hf hs rfl rfl rfl (Y_assign rfl rfl) ?_; clear hf; intro a hf
  refine wpO_nil ?_
  obtain ⟨r499, hl500, hm⟩ := bind_some hm
  refine wpL_block (fun a w => ∃ ms497 : List (List Int), ms497 = r499 ∧ n4 = ms497.length ∧ Fr a 47 [(5, .slice A3 n4 c5)] ∧ St [] W w [.mat A3 n4 c5 23 2 vs7 ms497]) ?_ ?_
  · refine wpL_loop (fun n a w => ∃ ms333 : List (List Int), ∃ x335 : Int, spec_l02Add_L4 F p1_b n ms333 x335 = some r499 ∧ n4 = ms333.length ∧ Fr a 47 [(1, .slice A_p1_b_1 p1_b.length c_p1_b_1), (5, .slice A3 n4 c5), (6, .int .i64 x335)] ∧ St [] W w [.mat A3 n4 c5 23 2 vs7 ms333]) F ?_ ?_ ?_
    · exact ⟨r1, 0, hl500, hn6, (FrD.pick (FrD.pick (FrD.pick hf.none hf rfl) hf rfl) hf rfl), hs⟩
    · rintro a w ⟨ms333, x335, h0_, -, -, -⟩; simp [spec_l02Add_L4] at h0_
    · rintro n502 a w ⟨ms333, x335, hm501, hn334, hf, hs⟩
      rw [spec_l02Add_L4] at hm501
      refine wpL_seq ?_
      refine wpL_seq ?_
      refine wpL_region ?_
      refine sY hf hs rfl rfl rfl (Y_move rfl rfl) ?_; clear hf; intro a hf
      refine sY hf hs rfl rfl rfl (Y_move rfl rfl) ?_; clear hf; intro a hf
      refine sY hf hs rfl rfl rfl (Y_lenH rfl rfl el22 hn334) ?_; clear hf; intro a hf
      refine sY hf hs rfl rfl rfl (Y_lss rfl rfl rfl) ?_; clear hf; intro a hf
      refine wpO_nil ?_
      refine wpL_cond hf rfl (fun hb503 => ?_) (fun hb503 => ?_)
      · have hm501 := bif_t hm501 hb503
        refine wpL_skip ?_
        refine wpL_seq ?_
        refine wpL_block0 ?_
        refine wpL_seq ?_
        refine wpL_region ?_
        refine sY hf hs rfl rfl rfl (Y_assign rfl rfl) ?_; clear hf; intro a hf
        refine wpO_nil ?_
        obtain ⟨r623, hl624, hm501⟩ := bind_some hm501
        refine wpL_block (fun a w => ∃ ms621 : List (List Int), ms621 = r623 ∧ n4 = ms621.length ∧ Fr a 47 [(1, .slice A_p1_b_1 p1_b.length c_p1_b_1), (5, .slice A3 n4 c5), (6, .int .i64 x335)] ∧ St [] W w [.mat A3 n4 c5 23 2 vs7 ms621]) ?_ ?_
        · refine wpL_loop (fun n a w => ∃ ms581 : List (List Int), ∃ x583 : Int, spec_l02Add_L5 F p1_b x335 n ms581 x583 = some r623 ∧ n4 = ms581.length ∧ Fr a 47 [(1, .slice A_p1_b_1 p1_b.length c_p1_b_1), (5, .slice A3 n4 c5), (6, .int .i64 x335), (7, .int .i64 x583)] ∧ St [] W w [.mat A3 n4 c5 23 2 vs7 ms581]) F ?_ ?_ ?_
          · exact ⟨ms333, 0, hl624, hn334, (FrD.pick (FrD.pick (FrD.pick (FrD.pick hf.none hf rfl) hf rfl) hf rfl) hf rfl), hs⟩
          · rintro a w ⟨ms581, x583, h0_, -, -, -⟩; simp [spec_l02Add_L5] at h0_
          · rintro n626 a w ⟨ms581, x583, hm625, hn582, hf, hs⟩
            rw [spec_l02Add_L5] at hm625
            refine wpL_seq ?_
            refine wpL_seq ?_
            refine wpL_region ?_
            refine sY hf hs rfl rfl rfl (Y_move rfl rfl) ?_; clear hf; intro a hf
            refine sY hf hs rfl rfl rfl (Y_move rfl rfl) ?_; clear hf; intro a hf
            refine sY hf hs rfl rfl rfl (Y_move rfl rfl) ?_; clear hf; intro a hf
            obtain ⟨q627, hi628, hm625⟩ := bind_some hm625
            obtain ⟨hi628a, hi628b, hi628q⟩ := idx_some hi628
            obtain ⟨A629, c630, hv631⟩ := hs.matRow (i := 0) rfl hi628q
            refine sY hf hs rfl rfl rfl (Y_index rfl rfl rfl el22 ti23 (Rd.isAt (hs.rdV (i := 0) rfl) hv631) hi628a (ltn hn582 hi628b)) ?_; clear hf; intro a hf
            refine sY hf hs rfl rfl rfl (Y_load_rd rfl rfl (fun w hs => hs.rdV (i := 0) rfl) (at1 hv631) ag23) ?_; clear hf; intro a hf
            refine sY hf hs rfl rfl rfl (Y_lenH rfl rfl el23 rfl) ?_; clear hf; intro a hf
            refine sY hf hs rfl rfl rfl (Y_lss rfl rfl rfl) ?_; clear hf; intro a hf
            refine wpO_nil ?_
            refine wpL_cond hf rfl (fun hb632 => ?_) (fun hb632 => ?_)
            · have hm625 := bif_t hm625 hb632
              refine wpL_skip ?_
              refine wpL_seq ?_
              refine wpL_block0 ?_
              refine wpL_drawM [.mat A3 n4 c5 23 2 vs7 ms581] [21] (by kernel_rfl) hs ?_; clear hs; intro w hs
              have hs0 : St [] W w [.mat A3 n4 c5 23 2 vs7 ms581] := hs
              refine mYp (i := 0) rfl (by kernel_rfl) (by kernel_rfl) hf rfl rfl rfl (fun _ => Y_move rfl rfl) ?_; clear hf; intro a hf
              refine mYp (i := 1) rfl (by kernel_rfl) (by kernel_rfl) hf rfl rfl rfl (fun _ => Y_move rfl rfl) ?_; clear hf; intro a hf
              obtain ⟨q633, hi634, hm625⟩ := bind_some hm625
              obtain ⟨hi634a, hi634b, hi634q⟩ := idx_some hi634
              obtain ⟨A635, c636, hv637⟩ := hs.matRow (i := 0) rfl hi634q
              refine mYp (i := 2) rfl (by kernel_rfl) (by kernel_rfl) hf rfl rfl rfl (fun _ => Y_index rfl rfl rfl el22 ti23 (Rd.isAt (hs.rdV (i := 0) rfl) hv637) hi634a (ltn hn582 hi634b)) ?_; clear hf; intro a hf
              refine mY (i := 3) [[]] rfl (by kernel_rfl) (by kernel_rfl) hf hs0 rfl rfl rfl (Y_load_rd rfl rfl (fun w hs => hs.rdV (i := 0) rfl) (at1 hv637) ag23) ?_; clear hf; intro a hf
              refine mYp (i := 4) rfl (by kernel_rfl) (by kernel_rfl) hf rfl rfl rfl (fun _ => Y_move rfl rfl) ?_; clear hf; intro a hf
              refine mYp (i := 5) rfl (by kernel_rfl) (by kernel_rfl) hf rfl rfl rfl (fun _ => Y_move rfl rfl) ?_; clear hf; intro a hf
              refine mYp (i := 6) rfl (by kernel_rfl) (by kernel_rfl) hf rfl rfl rfl (fun _ => Y_move rfl rfl) ?_; clear hf; intro a hf
              obtain ⟨q638, hi639, hm625⟩ := bind_some hm625
              obtain ⟨hi639a, hi639b, hi639q⟩ := idx_some hi639
              obtain ⟨A640, c641, hv642⟩ := hs.matRow (i := 0) rfl hi639q
              refine mYp (i := 7) rfl (by kernel_rfl) (by kernel_rfl) hf rfl rfl rfl (fun _ => Y_index rfl rfl rfl el22 ti23 (Rd.isAt (hs.rdV (i := 0) rfl) hv642) hi639a (ltn hn582 hi639b)) ?_; clear hf; intro a hf
              refine mY (i := 8) [[]] rfl (by kernel_rfl) (by kernel_rfl) hf hs0 rfl rfl rfl (Y_load_rd rfl rfl (fun w hs => hs.rdV (i := 0) rfl) (at1 hv642) ag23) ?_; clear hf; intro a hf
              refine mYp (i := 9) rfl (by kernel_rfl) (by kernel_rfl) hf rfl rfl rfl (fun _ => Y_move rfl rfl) ?_; clear hf; intro a hf
              obtain ⟨q643, hi644, hm625⟩ := bind_some hm625
              obtain ⟨hi644a, hi644b, hi644q⟩ := idx_some hi644
              refine mYp (i := 10) rfl (by kernel_rfl) (by kernel_rfl) hf rfl rfl rfl (fun _ => Y_index rfl rfl rfl el23 ti2 (Rd.isAt (hs.rdRow (i := 0) rfl ⟨hi639q, hv642⟩) (at1 (ints_at hi644q))) hi644a hi644b) ?_; clear hf; intro a hf
              refine mY (i := 11) [[]] rfl (by kernel_rfl) (by kernel_rfl) hf hs0 rfl rfl rfl (Y_load_rd rfl rfl (fun w hs => hs.rdRow (i := 0) rfl ⟨hi639q, hv642⟩) (at1 (ints_at hi644q)) ag2) ?_; clear hf; intro a hf
              refine mYp (i := 12) rfl (by kernel_rfl) (by kernel_rfl) hf rfl rfl rfl (fun _ => Y_move rfl rfl) ?_; clear hf; intro a hf
              refine mYp (i := 13) rfl (by kernel_rfl) (by kernel_rfl) hf rfl rfl rfl (fun _ => Y_move rfl rfl) ?_; clear hf; intro a hf
              obtain ⟨q645, hi646, hm625⟩ := bind_some hm625
              obtain ⟨hi646a, hi646b, hi646q⟩ := idx_some hi646
              obtain ⟨vs647, hv648, hr649⟩ := id h_p1_b_1
              obtain ⟨A650, c651, hv652, hR653⟩ := hr649 _ _ hi646q
              refine mYp (i := 14) rfl (by kernel_rfl) (by kernel_rfl) hf rfl rfl rfl (fun _ => Y_index rfl rfl rfl el22 ti23 (Rd.isAt hv648 hv652) hi646a hi646b) ?_; clear hf; intro a hf
              refine mY (i := 15) [[]] rfl (by kernel_rfl) (by kernel_rfl) hf hs0 rfl rfl rfl (Y_load_rd rfl rfl (fun w hs => hv648.at hs) (at1 hv652) ag23) ?_; clear hf; intro a hf
              refine mYp (i := 16) rfl (by kernel_rfl) (by kernel_rfl) hf rfl rfl rfl (fun _ => Y_move rfl rfl) ?_; clear hf; intro a hf
              obtain ⟨q654, hi655, hm625⟩ := bind_some hm625
              obtain ⟨hi655a, hi655b, hi655q⟩ := idx_some hi655
              refine mYp (i := 17) rfl (by kernel_rfl) (by kernel_rfl) hf rfl rfl rfl (fun _ => Y_index rfl rfl rfl el23 ti2 (Rd.isAt (hR653.at hs) (at1 (ints_at hi655q))) hi655a hi655b) ?_; clear hf; intro a hf
              refine mY (i := 18) [[]] rfl (by kernel_rfl) (by kernel_rfl) hf hs0 rfl rfl rfl (Y_load_rd rfl rfl (fun w hs => hR653.at hs) (at1 (ints_at hi655q)) ag2) ?_; clear hf; intro a hf
              refine mYp (i := 19) rfl (by kernel_rfl) (by kernel_rfl) hf rfl rfl rfl (fun _ => Y_max rfl rfl rfl) ?_; clear hf; intro a hf
              obtain ⟨q656, hi657, hm625⟩ := bind_some hm625
              obtain ⟨hi657a, hi657b, hi657q⟩ := idx_some hi657
              refine mYp (i := 20) rfl (by kernel_rfl) (by kernel_rfl) hf rfl rfl rfl (fun _ => Y_index rfl rfl rfl el23 ti2 (Rd.isAt (hs.rdRow (i := 0) rfl ⟨hi634q, hv637⟩) (at1 (ints_at hi657q))) hi657a hi657b) ?_; clear hf; intro a hf
              refine mRun (i := 21) rfl (by kernel_rfl) ?_
              obtain ⟨xs658, hu660, hm625⟩ := bind_some hm625
              obtain ⟨ms659, hu661, hm625⟩ := bind_some hm625
              refine sStoreM (i := 0) (k := x335) hf hs rfl rfl rfl rfl rfl rfl hi634q hv637 rfl hu660 hu661 ti2 ?_; clear hs; intro w hs
              obtain ⟨hq662, hv663⟩ := rowUpd hu660 hu661 hv637
              have hs : St [] W w [.mat A3 n4 c5 23 2 vs7 ms659] := hs
              refine wpO_nil ⟨Or.inl (by decide), ?_⟩
              refine mDone (by kernel_rfl) ?_
              clear hs0
              refine wpL_nil (Qb_normal ?_)
              refine wpL_region ?_
              refine sY hf hs rfl rfl rfl (Y_move rfl rfl) ?_; clear hf; intro a hf
              refine sY hf hs rfl rfl rfl (Y_add rfl rfl rfl) ?_; clear hf; intro a hf
              refine sY hf hs rfl rfl rfl (Y_assign rfl rfl) ?_; clear hf; intro a hf
              refine wpO_nil ?_
              refine wpL_nil (Ql_normal ?_)
              exact ⟨ms659, (IntKind.i64.wrap (x583 + 1)), hm625, ((hn582).trans (upd_len hu661).symm), (FrD.pick (FrD.pick (FrD.pick (FrD.pick hf.none hf rfl) hf rfl) hf rfl) hf rfl), hs⟩
            · have hm625 := bif_f hm625 hb632
              refine wpL_exit (Ql_exit (Qb_exit ?_))
              exact ⟨ms581, Option.some.inj hm625, hn582, (FrD.pick (FrD.pick (FrD.pick hf.none hf rfl) hf rfl) hf rfl), hs⟩
        · rintro a w ⟨ms621, hr_, hn622, hf, hs⟩
          subst hr_
          try dsimp only at hm501
          refine wpL_nil (Qb_normal ?_)
          refine wpL_region ?_
          refine sY hf hs rfl rfl rfl (Y_move rfl rfl) ?_; clear hf; intro a hf
          refine sY hf hs rfl rfl rfl (Y_add rfl rfl rfl) ?_; clear hf; intro a hf
          refine sY hf hs rfl rfl rfl (Y_assign rfl rfl) ?_; clear hf; intro a hf
          refine wpO_nil ?_
          refine wpL_nil (Ql_normal ?_)
          exact ⟨ms621, (IntKind.i64.wrap (x335 + 1)), hm501, hn622, (FrD.pick (FrD.pick (FrD.pick hf.none hf rfl) hf rfl) hf rfl), hs⟩
      · have hm501 := bif_f hm501 hb503
        refine wpL_exit (Ql_exit (Qb_exit ?_))
        exact ⟨ms333, Option.some.inj hm501, hn334, (FrD.pick hf.none hf rfl), hs⟩
  · rintro a w ⟨ms497, hr_, hn498, hf, hs⟩
    subst hr_
    try dsimp only at hm
    refine wpL_seq ?_
    refine wpL_region ?_
    refine sY hf hs rfl rfl rfl (Y_move rfl rfl) ?_; clear hf; intro a hf
    refine sY hf hs rfl rfl rfl (Y_assign rfl rfl) ?_; clear hf; intro a hf
    refine wpO_nil ?_
    obtain rfl := Option.some.inj hm
    refine wpL_ret (ret_tmp rfl hf rfl ?_)
    exact ⟨_, rfl, A3, n4, c5, vs7, rfl, hn498, hs⟩

set_option maxHeartbeats 2000000 in
set_option maxRecDepth 100000 in
theorem spec_l24Run_ok (F : Nat) (p0_s : GSystem) (A_p0_s_1 : Option Addr) (n_p0_s_1 c_p0_s_1 : Nat) (hn_p0_s_1 : n_p0_s_1 = p0_s.A.length) (A_p0_s_2 : Option Addr) (n_p0_s_2 c_p0_s_2 : Nat) (hn_p0_s_2 : n_p0_s_2 = p0_s.B.length) (A_p0_s_3 : Option Addr) (n_p0_s_3 c_p0_s_3 : Nat) (hn_p0_s_3 : n_p0_s_3 = p0_s.C.length) (p1_x : List Int) (A_p1_x_1 : Option Addr) (n_p1_x_1 c_p1_x_1 : Nat) (hn_p1_x_1 : n_p1_x_1 = p1_x.length) (p2_inputs : List Int) (A_p2_inputs_1 : Option Addr) (n_p2_inputs_1 c_p2_inputs_1 : Nat) (hn_p2_inputs_1 : n_p2_inputs_1 = p2_inputs.length) (r : List Int × List Int × Bool) (W : World) (hm : spec_l24Run F p0_s p1_x p2_inputs = some r) (h_p0_s_1 : RdM W A_p0_s_1 p0_s.A) (h_p0_s_2 : Rd W A_p0_s_2 (ints p0_s.B)) (h_p0_s_3 : Rd W A_p0_s_3 (ints p0_s.C)) (h_p1_x_1 : Rd W A_p1_x_1 (ints p1_x)) (h_p2_inputs_1 : Rd W A_p2_inputs_1 (ints p2_inputs)) :
    Calls Try.prog 113 [.agg #[.slice A_p0_s_1 n_p0_s_1 c_p0_s_1, .slice A_p0_s_2 n_p0_s_2 c_p0_s_2, .slice A_p0_s_3 n_p0_s_3 c_p0_s_3], .slice A_p1_x_1 n_p1_x_1 c_p1_x_1, .slice A_p2_inputs_1 n_p2_inputs_1 c_p2_inputs_1].toArray W fun e w' => ∃ v, e = .returned v ∧ ∃ A343, ∃ n344, ∃ c345, ∃ A347, ∃ n348, ∃ c349, ∃ A350, ∃ n351, ∃ c352, ∃ ys353, v = .tuple #[.slice A343 n344 c345, .slice A347 n348 c349, .bool r.2.2] ∧ n344 = r.1.length ∧ n348 = r.2.1.length ∧ Ei A_p1_x_1 n_p1_x_1 c_p1_x_1 p1_x A350 n351 c352 ys353 A347 n348 c349 r.2.1 ∧ St [] W w' [.row A343 n344 c345 2 1 (ints r.1), .row A350 n351 c352 2 1 (ints ys353)] := by
  subst hn_p0_s_1
  subst hn_p0_s_2
  subst hn_p0_s_3
  subst hn_p1_x_1
  subst hn_p2_inputs_1
  unfold spec_l24Run at hm
  refine Calls.enter (N := 60) Try.func113 rfl rfl rfl (fun a hf => ?_)
  have hs := St.start W
  obtain ⟨w, hw_⟩ : ∃ w, w = W := ⟨W, rfl⟩
  clear hw_ w
  refine wpL_seq ?_
  refine wpL_region ?_
  refine sBox hf hs rfl rfl rfl rfl rfl (cs := [.slice A_p0_s_1 p0_s.A.length c_p0_s_1, .slice A_p0_s_2 p0_s.B.length c_p0_s_2, .slice A_p0_s_3 p0_s.C.length c_p0_s_3]) rfl ?_; clear hf hs; intro a w b1 hs hf
  have hs : St [] W w [.blk b1 27 [.slice A_p0_s_1 p0_s.A.length c_p0_s_1, .slice A_p0_s_2 p0_s.B.length c_p0_s_2, .slice A_p0_s_3 p0_s.C.length c_p0_s_3]] := hs
  refine sY hf hs rfl rfl rfl (Y_assign rfl rfl) ?_; clear hf; intro a hf
  refine sY hf hs rfl rfl rfl (Y_assign rfl rfl) ?_; clear hf; intro a hf
  refine sY hf hs rfl rfl rfl (Y_assign rfl rfl) ?_; clear hf; intro a hf
  refine wpO_nil ?_
  refine wpL_seq ?_
  refine wpL_region ?_
  refine sEmpty hf hs rfl rfl rfl rfl el23 ti2 ?_; clear hf hs; intro a w A2 hs hf
  have hs : St [] W w [.blk b1 27 [.slice A_p0_s_1 p0_s.A.length c_p0_s_1, .slice A_p0_s_2 p0_s.B.length c_p0_s_2, .slice A_p0_s_3 p0_s.C.length c_p0_s_3], .row A2 0 0 2 1 (ints ([] : List Int))] := hs
  refine sY hf hs rfl rfl rfl (Y_assign rfl rfl) ?_; clear hf; intro a hf
  refine wpO_nil ?_
  refine wpL_seq ?_
  refine wpL_seq ?_
  refine wpL_region ?_
  refine sY hf hs rfl rfl rfl (Y_assign rfl rfl) ?_; clear hf; intro a hf
  refine wpO_nil ?_
  obtain ⟨r264, hl265, hm⟩ := bind_some hm
  have hs : St [] W _ [.blk b1 27 [.slice A_p0_s_1 p0_s.A.length c_p0_s_1, .slice A_p0_s_2 p0_s.B.length c_p0_s_2, .slice A_p0_s_3 p0_s.C.length c_p0_s_3], .row A2 0 0 2 1 (ints ([] : List Int)), .row none 0 0 2 1 (ints ([] : List Int))] := hs.addNil 2 1
  refine wpL_block (fun a w => ∃ xs248 : List Int, ∃ xs259 : List Int, ∃ A249, ∃ n250, ∃ c251, ∃ A252, ∃ n253, ∃ c254, ∃ ys255 : List Int, ∃ A260, ∃ n261, ∃ c262, Sum.inr (xs248, xs259) = r264 ∧ n250 = xs248.length ∧ Ei A_p1_x_1 p1_x.length c_p1_x_1 p1_x A252 n253 c254 ys255 A249 n250 c251 xs248 ∧ n261 = xs259.length ∧ Fr a 60 [(1, .slice A249 n250 c251), (9, .slice A260 n261 c262)] ∧ St [] W w [.row A260 n261 c262 2 1 (ints xs259), .row A252 n253 c254 2 1 (ints ys255)]) ?_ ?_
  · refine wpL_loop (fun n a w => ∃ xs161 : List Int, ∃ xs172 : List Int, ∃ x177 : Int, ∃ A162, ∃ n163, ∃ c164, ∃ A165, ∃ n166, ∃ c167, ∃ ys168 : List Int, ∃ A173, ∃ n174, ∃ c175, spec_l24Run_L1 F p0_s p2_inputs n xs161 xs172 x177 = some r264 ∧ n163 = xs161.length ∧ Ei A_p1_x_1 p1_x.length c_p1_x_1 p1_x A165 n166 c167 ys168 A162 n163 c164 xs161 ∧ n174 = xs172.length ∧ Fr a 60 [(1, .slice A162 n163 c164), (2, .slice A_p2_inputs_1 p2_inputs.length c_p2_inputs_1), (3, .pointer (some ⟨b1, 0, none⟩)), (9, .slice A173 n174 c175), (10, .int .i64 x177)] ∧ St [] W w [.blk b1 27 [.slice A_p0_s_1 p0_s.A.length c_p0_s_1, .slice A_p0_s_2 p0_s.B.length c_p0_s_2, .slice A_p0_s_3 p0_s.C.length c_p0_s_3], .row A173 n174 c175 2 1 (ints xs172), .row A165 n166 c167 2 1 (ints ys168)]) F ?_ ?_ ?_
    · exact ⟨p1_x, ([] : List Int), 0, A_p1_x_1, p1_x.length, c_p1_x_1, none, 0, 0, ([] : List Int), A2, 0, 0, hl265, rfl, (.inl ⟨rfl, rfl, rfl, rfl⟩), rfl, (FrD.pick (FrD.pick (FrD.pick (FrD.pick (FrD.pick hf.none hf rfl) hf rfl) hf rfl) hf rfl) hf rfl), hs⟩
    · rintro a w ⟨xs161, xs172, x177, A162, n163, c164, A165, n166, c167, ys168, A173, n174, c175, h0_, -, -, -, -, -⟩; simp [spec_l24Run_L1] at h0_
    · rintro n267 a w ⟨xs161, xs172, x177, A162, n163, c164, A165, n166, c167, ys168, A173, n174, c175, hm266, hn170, hg169, hn176, hf, hs⟩
      rw [spec_l24Run_L1] at hm266
      refine wpL_seq ?_
      refine wpL_seq ?_
      refine wpL_region ?_
      refine sY hf hs rfl rfl rfl (Y_move rfl rfl) ?_; clear hf; intro a hf
      refine sY hf hs rfl rfl rfl (Y_move rfl rfl) ?_; clear hf; intro a hf
      refine sY hf hs rfl rfl rfl (Y_lenH rfl rfl el23 rfl) ?_; clear hf; intro a hf
      refine sY hf hs rfl rfl rfl (Y_lss rfl rfl rfl) ?_; clear hf; intro a hf
      refine wpO_nil ?_
      refine wpL_cond hf rfl (fun hb268 => ?_) (fun hb268 => ?_)
      · have hm266 := bif_t hm266 hb268
        refine wpL_skip ?_
        refine wpL_seq ?_
        refine wpL_block0 ?_
        refine wpL_seq ?_
        refine wpL_drawM [.blk b1 27 [.slice A_p0_s_1 p0_s.A.length c_p0_s_1, .slice A_p0_s_2 p0_s.B.length c_p0_s_2, .slice A_p0_s_3 p0_s.C.length c_p0_s_3], .row A173 n174 c175 2 1 (ints xs172), .row A165 n166 c167 2 1 (ints ys168)] [10] (by kernel_rfl) hs ?_; clear hs; intro w hs
        have hs0 : St [] W w [.blk b1 27 [.slice A_p0_s_1 p0_s.A.length c_p0_s_1, .slice A_p0_s_2 p0_s.B.length c_p0_s_2, .slice A_p0_s_3 p0_s.C.length c_p0_s_3], .row A173 n174 c175 2 1 (ints xs172), .row A165 n166 c167 2 1 (ints ys168)] := hs
        refine mYp (i := 0) rfl (by kernel_rfl) (by kernel_rfl) hf rfl rfl rfl (fun _ => Y_fieldAddr rfl rfl fo27_0) ?_; clear hf; intro a hf
        refine mY (i := 1) [[3]] rfl (by kernel_rfl) (by kernel_rfl) hf hs0 rfl rfl rfl (Y_load_blk rfl rfl (i := 0) rfl rfl ag22) ?_; clear hf; intro a hf
        refine mYp (i := 2) rfl (by kernel_rfl) (by kernel_rfl) hf rfl rfl rfl (fun _ => Y_move rfl rfl) ?_; clear hf; intro a hf
        refine mYp (i := 4) rfl (by kernel_rfl) (by kernel_rfl) hf rfl rfl rfl (fun _ => Y_fieldAddr rfl rfl fo27_1) ?_; clear hf; intro a hf
        refine mY (i := 5) [[]] rfl (by kernel_rfl) (by kernel_rfl) hf hs0 rfl rfl rfl (Y_load_blk rfl rfl (i := 0) rfl rfl ag23) ?_; clear hf; intro a hf
        refine mYp (i := 6) rfl (by kernel_rfl) (by kernel_rfl) hf rfl rfl rfl (fun _ => Y_move rfl rfl) ?_; clear hf; intro a hf
        refine mYp (i := 7) rfl (by kernel_rfl) (by kernel_rfl) hf rfl rfl rfl (fun _ => Y_move rfl rfl) ?_; clear hf; intro a hf
        obtain ⟨q283, hi284, hm266⟩ := bind_some hm266
        obtain ⟨hi284a, hi284b, hi284q⟩ := idx_some hi284
        refine mYp (i := 8) rfl (by kernel_rfl) (by kernel_rfl) hf rfl rfl rfl (fun _ => Y_index rfl rfl rfl el23 ti2 (Rd.isAt (h_p2_inputs_1.at hs) (at1 (ints_at hi284q))) hi284a hi284b) ?_; clear hf; intro a hf
        refine mY (i := 9) [[]] rfl (by kernel_rfl) (by kernel_rfl) hf hs0 rfl rfl rfl (Y_load_rd rfl rfl (fun w hs => h_p2_inputs_1.at hs) (at1 (ints_at hi284q)) ag2) ?_; clear hf; intro a hf
        refine mRun (i := 3) rfl (by kernel_rfl) ?_
        obtain ⟨r285, hc286, hm266⟩ := bind_some hm266
        refine sCall hf rfl rfl rfl rfl (cap := []) rfl rfl en168 (spec_l02Apply_ok F p0_s.A A_p0_s_1 p0_s.A.length c_p0_s_1 rfl xs161 A162 n163 c164 hn170 _ _ hc286 (h_p0_s_1.at hs) (rdEither (Ei.rd (enc := ints) h_p1_x_1 hg169) hs (hs.rd (i := 2) rfl))) ?_; clear hf
        rintro _ w ⟨A287, n288, c289, rfl, hn290, hs1⟩ a hf
        have hs : St [] W w [.blk b1 27 [.slice A_p0_s_1 p0_s.A.length c_p0_s_1, .slice A_p0_s_2 p0_s.B.length c_p0_s_2, .slice A_p0_s_3 p0_s.C.length c_p0_s_3], .row A173 n174 c175 2 1 (ints xs172), .row A165 n166 c167 2 1 (ints ys168), .row A287 n288 c289 2 1 (ints r285)] := hs.join hs1
        clear hs1
        have hs0 : St [] W w [.blk b1 27 [.slice A_p0_s_1 p0_s.A.length c_p0_s_1, .slice A_p0_s_2 p0_s.B.length c_p0_s_2, .slice A_p0_s_3 p0_s.C.length c_p0_s_3], .row A173 n174 c175 2 1 (ints xs172), .row A165 n166 c167 2 1 (ints ys168)] := hs.sel [0, 1, 2] (by decide)
        refine wpO_nil ⟨Or.inr (fun _ => hs0), ?_⟩
        refine mRun (i := 10) rfl (by kernel_rfl) ?_
        obtain ⟨r291, hc292, hm266⟩ := bind_some hm266
        refine sCall hf rfl rfl rfl rfl (cap := []) rfl rfl en75 (spec_l07Shift_ok F p0_s.B A_p0_s_2 p0_s.B.length c_p0_s_2 rfl q283 _ _ hc292 (h_p0_s_2.at hs)) ?_; clear hf
        rintro _ w ⟨A293, n294, c295, rfl, hn296, hs1⟩ a hf
        have hs : St [] W w [.blk b1 27 [.slice A_p0_s_1 p0_s.A.length c_p0_s_1, .slice A_p0_s_2 p0_s.B.length c_p0_s_2, .slice A_p0_s_3 p0_s.C.length c_p0_s_3], .row A173 n174 c175 2 1 (ints xs172), .row A165 n166 c167 2 1 (ints ys168), .row A287 n288 c289 2 1 (ints r285), .row A293 n294 c295 2 1 (ints r291)] := hs.join hs1
        clear hs1
        refine wpO_nil ⟨Or.inl (by decide), ?_⟩
        refine mYp (i := 11) rfl (by kernel_rfl) (by kernel_rfl) hf rfl rfl rfl (fun _ => Y_assign rfl rfl) ?_; clear hf; intro a hf
        refine mYp (i := 12) rfl (by kernel_rfl) (by kernel_rfl) hf rfl rfl rfl (fun _ => Y_assign rfl rfl) ?_; clear hf; intro a hf
        refine mDone (by kernel_rfl) ?_
        clear hs0
        refine wpL_seq ?_
        refine wpL_seq ?_
        obtain ⟨r303, hj304, hm266⟩ := bind_some hm266
        refine wpL_cut (fun a w => ∃ b302 : Bool, b302 = r303 ∧ Fr a 60 [(2, .slice A_p2_inputs_1 p2_inputs.length c_p2_inputs_1), (3, .pointer (some ⟨b1, 0, none⟩)), (9, .slice A173 n174 c175), (10, .int .i64 x177), (11, .slice A287 n288 c289), (12, .slice A293 n294 c295), (39, .bool b302)] ∧ St [] W w [.blk b1 27 [.slice A_p0_s_1 p0_s.A.length c_p0_s_1, .slice A_p0_s_2 p0_s.B.length c_p0_s_2, .slice A_p0_s_3 p0_s.C.length c_p0_s_3], .row A173 n174 c175 2 1 (ints xs172), .row A287 n288 c289 2 1 (ints r285), .row A293 n294 c295 2 1 (ints r291)]) ?_ ?_
        · refine wpL_region ?_
          refine sY hf hs rfl rfl rfl (Y_move rfl rfl) ?_; clear hf; intro a hf
          obtain ⟨r305, hc306, hj304⟩ := bind_some hj304
          refine sCall hf rfl rfl rfl rfl (cap := []) rfl rfl en124 (spec_l01All_ok F r285 A287 n288 c289 hn290 false _ _ hc306 (hs.rd (i := 3) rfl)) ?_; clear hf
          rintro _ w ⟨rfl, hs1⟩ a hf
          have hs : St [] W w [.blk b1 27 [.slice A_p0_s_1 p0_s.A.length c_p0_s_1, .slice A_p0_s_2 p0_s.B.length c_p0_s_2, .slice A_p0_s_3 p0_s.C.length c_p0_s_3], .row A173 n174 c175 2 1 (ints xs172), .row A165 n166 c167 2 1 (ints ys168), .row A287 n288 c289 2 1 (ints r285), .row A293 n294 c295 2 1 (ints r291)] := hs.ext hs1.below
          clear hs1
          refine sY hf hs rfl rfl rfl (Y_not rfl rfl) ?_; clear hf; intro a hf
          refine sY hf hs rfl rfl rfl (Y_move rfl rfl) ?_; clear hf; intro a hf
          refine bsplit (!r305) (fun hb307 => ?_) (fun hb307 => ?_)
          · have hj304 := bif_t hj304 hb307
            refine sNo hf rfl rfl rfl (congrArg (fun b => some (Value.bool b)) hb307) rfl rfl rfl ?_; clear hf; intro a hf
            refine sNo hf rfl rfl rfl (congrArg (fun b => some (Value.bool b)) hb307) rfl rfl rfl ?_; clear hf; intro a hf
            refine sNo hf rfl rfl rfl (congrArg (fun b => some (Value.bool b)) hb307) rfl rfl rfl ?_; clear hf; intro a hf
            refine sY hf hs rfl rfl rfl (Y_pickT rfl (congrArg (fun b => some (Value.bool b)) hb307) rfl) ?_; clear hf; intro a hf
            refine wpO_nil ?_
            refine wpL_nil (then_normal ?_)
            exact ⟨true, Option.some.inj hj304, (FrD.pick (FrD.pick (FrD.pick (FrD.pick (FrD.pick (FrD.pick (FrD.pick hf.none hf rfl) hf rfl) hf rfl) hf rfl) hf rfl) hf rfl) hf rfl), hs.sel [0, 1, 3, 4] (by decide)⟩
          · have hj304 := bif_f hj304 hb307
            refine sYg hf hs rfl rfl rfl (congrArg (fun b => some (Value.bool b)) hb307) rfl rfl rfl (Y_move rfl rfl) ?_; clear hf; intro a hf
            obtain ⟨r308, hc309, hj304⟩ := bind_some hj304
            refine sCallg hf rfl rfl rfl (congrArg (fun b => some (Value.bool b)) hb307) rfl rfl rfl rfl (cap := []) rfl rfl en124 (spec_l01All_ok F r291 A293 n294 c295 hn296 false _ _ hc309 (hs.rd (i := 4) rfl)) ?_; clear hf
            rintro _ w ⟨rfl, hs1⟩ a hf
            have hs : St [] W w [.blk b1 27 [.slice A_p0_s_1 p0_s.A.length c_p0_s_1, .slice A_p0_s_2 p0_s.B.length c_p0_s_2, .slice A_p0_s_3 p0_s.C.length c_p0_s_3], .row A173 n174 c175 2 1 (ints xs172), .row A165 n166 c167 2 1 (ints ys168), .row A287 n288 c289 2 1 (ints r285), .row A293 n294 c295 2 1 (ints r291)] := hs.ext hs1.below
            clear hs1
            refine sYg hf hs rfl rfl rfl (congrArg (fun b => some (Value.bool b)) hb307) rfl rfl rfl (Y_not rfl rfl) ?_; clear hf; intro a hf
            refine sY hf hs rfl rfl rfl (Y_pickF rfl (congrArg (fun b => some (Value.bool b)) hb307) rfl) ?_; clear hf; intro a hf
            refine wpO_nil ?_
            refine wpL_nil (then_normal ?_)
            exact ⟨(!r308), Option.some.inj hj304, (FrD.pick (FrD.pick (FrD.pick (FrD.pick (FrD.pick (FrD.pick (FrD.pick hf.none hf rfl) hf rfl) hf rfl) hf rfl) hf rfl) hf rfl) hf rfl), hs.sel [0, 1, 3, 4] (by decide)⟩
        · rintro a w ⟨b302, hr_, hf, hs⟩
          subst hr_
          try dsimp only at hm266
          refine wpL_cond hf rfl (fun hb310 => ?_) (fun hb310 => ?_)
          · have hm266 := bif_t hm266 hb310
            refine wpL_seq ?_
            refine wpL_region ?_
            refine sY hf hs rfl rfl rfl (Y_assign rfl rfl) ?_; clear hf; intro a hf
            refine sY hf hs rfl rfl rfl (Y_assign rfl rfl) ?_; clear hf; intro a hf
            refine sY hf hs rfl rfl rfl (Y_assign rfl rfl) ?_; clear hf; intro a hf
            refine wpO_nil ?_
            have hs : St [] W _ [.blk b1 27 [.slice A_p0_s_1 p0_s.A.length c_p0_s_1, .slice A_p0_s_2 p0_s.B.length c_p0_s_2, .slice A_p0_s_3 p0_s.C.length c_p0_s_3], .row A173 n174 c175 2 1 (ints xs172), .row A287 n288 c289 2 1 (ints r285), .row A293 n294 c295 2 1 (ints r291), .row none 0 0 2 1 (ints ([] : List Int))] := hs.addNil 2 1
            have hs : St [] W _ [.blk b1 27 [.slice A_p0_s_1 p0_s.A.length c_p0_s_1, .slice A_p0_s_2 p0_s.B.length c_p0_s_2, .slice A_p0_s_3 p0_s.C.length c_p0_s_3], .row A173 n174 c175 2 1 (ints xs172), .row A287 n288 c289 2 1 (ints r285), .row A293 n294 c295 2 1 (ints r291), .row none 0 0 2 1 (ints ([] : List Int)), .row none 0 0 2 1 (ints ([] : List Int))] := hs.addNil 2 1
            obtain rfl := Option.some.inj hm266
            try dsimp only at hm
            obtain rfl := Option.some.inj hm
            refine wpL_ret (Qb_ret (Ql_ret (Qb_ret (ret_tmp3 rfl hf rfl rfl rfl ?_))))
            exact ⟨_, rfl, none, 0, 0, none, 0, 0, none, 0, 0, ([] : List Int), rfl, rfl, rfl, .inr ⟨rfl, rfl, rfl, rfl⟩, hs.sel [4, 5] (by decide)⟩
          · have hm266 := bif_f hm266 hb310
            refine wpL_skip ?_
            refine wpL_seq ?_
            refine wpL_region ?_
            refine sY hf hs rfl rfl rfl (Y_move rfl rfl) ?_; clear hf; intro a hf
            refine sOneM (j := 2) hf hs rfl rfl rfl rfl rfl rfl hn290 el22 ti23 ?_; clear hf hs; intro a w A313 hs hf
            have hs : St [] W w [.blk b1 27 [.slice A_p0_s_1 p0_s.A.length c_p0_s_1, .slice A_p0_s_2 p0_s.B.length c_p0_s_2, .slice A_p0_s_3 p0_s.C.length c_p0_s_3], .row A173 n174 c175 2 1 (ints xs172), .row A293 n294 c295 2 1 (ints r291), .mat A313 1 1 23 2 ([Value.slice A287 r285.length c289]) ([r285])] := hs
            refine sY hf hs rfl rfl rfl (Y_move rfl rfl) ?_; clear hf; intro a hf
            refine sOneM (j := 2) hf hs rfl rfl rfl rfl rfl rfl hn296 el22 ti23 ?_; clear hf hs; intro a w A315 hs hf
            have hs : St [] W w [.blk b1 27 [.slice A_p0_s_1 p0_s.A.length c_p0_s_1, .slice A_p0_s_2 p0_s.B.length c_p0_s_2, .slice A_p0_s_3 p0_s.C.length c_p0_s_3], .row A173 n174 c175 2 1 (ints xs172), .mat A313 1 1 23 2 ([Value.slice A287 r285.length c289]) ([r285]), .mat A315 1 1 23 2 ([Value.slice A293 r291.length c295]) ([r291])] := hs
            obtain ⟨r317, hc318, hm266⟩ := bind_some hm266
            refine sCall hf rfl rfl rfl rfl (cap := []) rfl rfl en169 (spec_l02Add_ok F ([r285]) A313 1 1 rfl ([r291]) A315 1 1 rfl _ _ hc318 (hs.rdM (i := 2) rfl) (hs.rdM (i := 3) rfl)) ?_; clear hf
            rintro _ w ⟨A319, n320, c321, vs323, rfl, hn322, hs1⟩ a hf
            have hs : St [] W w [.blk b1 27 [.slice A_p0_s_1 p0_s.A.length c_p0_s_1, .slice A_p0_s_2 p0_s.B.length c_p0_s_2, .slice A_p0_s_3 p0_s.C.length c_p0_s_3], .row A173 n174 c175 2 1 (ints xs172), .mat A313 1 1 23 2 ([Value.slice A287 r285.length c289]) ([r285]), .mat A315 1 1 23 2 ([Value.slice A293 r291.length c295]) ([r291]), .mat A319 n320 c321 23 2 vs323 r317] := hs.join hs1
            clear hs1
            obtain ⟨q324, hi325, hm266⟩ := bind_some hm266
            obtain ⟨hi325a, hi325b, hi325q⟩ := idx_some hi325
            obtain ⟨A326, c327, hv328⟩ := hs.matRow (i := 4) rfl hi325q
            refine sY hf hs rfl rfl rfl (Y_index rfl rfl rfl el22 ti23 (Rd.isAt (hs.rdV (i := 4) rfl) hv328) hi325a (ltn hn322 hi325b)) ?_; clear hf; intro a hf
            refine sY hf hs rfl rfl rfl (Y_load_rd rfl rfl (fun w hs => hs.rdV (i := 4) rfl) (at1 hv328) ag23) ?_; clear hf; intro a hf
            refine sY hf hs rfl rfl rfl (Y_assign rfl rfl) ?_; clear hf; intro a hf
            refine wpO_nil ?_
            refine wpL_seq ?_
            refine wpL_region ?_
            refine sY hf hs rfl rfl rfl (Y_fieldAddr rfl rfl fo27_2) ?_; clear hf; intro a hf
            refine sY hf hs rfl rfl rfl (Y_load_blk rfl rfl (i := 0) rfl rfl ag23) ?_; clear hf; intro a hf
            refine sY hf hs rfl rfl rfl (Y_move rfl rfl) ?_; clear hf; intro a hf
            obtain ⟨r329, hc330, hm266⟩ := bind_some hm266
            refine sCall hf rfl rfl rfl rfl (cap := []) rfl rfl en73 (spec_l24Dot_ok F p0_s.C A_p0_s_3 p0_s.C.length c_p0_s_3 rfl q324 A326 q324.length c327 rfl _ _ hc330 (h_p0_s_3.at hs) (hs.rdRow (i := 4) rfl ⟨hi325q, hv328⟩)) ?_; clear hf
            rintro _ w ⟨rfl, hs1⟩ a hf
            have hs : St [] W w [.blk b1 27 [.slice A_p0_s_1 p0_s.A.length c_p0_s_1, .slice A_p0_s_2 p0_s.B.length c_p0_s_2, .slice A_p0_s_3 p0_s.C.length c_p0_s_3], .row A173 n174 c175 2 1 (ints xs172), .mat A313 1 1 23 2 ([Value.slice A287 r285.length c289]) ([r285]), .mat A315 1 1 23 2 ([Value.slice A293 r291.length c295]) ([r291]), .mat A319 n320 c321 23 2 vs323 r317] := hs.ext hs1.below
            clear hs1
            refine sY hf hs rfl rfl rfl (Y_assign rfl rfl) ?_; clear hf; intro a hf
            refine wpO_nil ?_
            refine wpL_seq ?_
            refine wpL_seq ?_
            refine wpL_region ?_
            refine sY hf hs rfl rfl rfl (Y_move rfl rfl) ?_; clear hf; intro a hf
            obtain ⟨r331, hc332, hm266⟩ := bind_some hm266
            refine sCall hf rfl rfl rfl rfl (cap := []) rfl rfl en77 (spec_IsValue_ok F r329 _ _ hc332) ?_; clear hf
            rintro _ w ⟨rfl, hs1⟩ a hf
            have hs : St [] W w [.blk b1 27 [.slice A_p0_s_1 p0_s.A.length c_p0_s_1, .slice A_p0_s_2 p0_s.B.length c_p0_s_2, .slice A_p0_s_3 p0_s.C.length c_p0_s_3], .row A173 n174 c175 2 1 (ints xs172), .mat A313 1 1 23 2 ([Value.slice A287 r285.length c289]) ([r285]), .mat A315 1 1 23 2 ([Value.slice A293 r291.length c295]) ([r291]), .mat A319 n320 c321 23 2 vs323 r317] := hs.ext hs1.below
            clear hs1
            refine sY hf hs rfl rfl rfl (Y_not rfl rfl) ?_; clear hf; intro a hf
            refine wpO_nil ?_
            refine wpL_cond hf rfl (fun hb333 => ?_) (fun hb333 => ?_)
            · have hm266 := bif_t hm266 hb333
              refine wpL_seq ?_
              refine wpL_region ?_
              refine sY hf hs rfl rfl rfl (Y_assign rfl rfl) ?_; clear hf; intro a hf
              refine sY hf hs rfl rfl rfl (Y_assign rfl rfl) ?_; clear hf; intro a hf
              refine sY hf hs rfl rfl rfl (Y_assign rfl rfl) ?_; clear hf; intro a hf
              refine wpO_nil ?_
              have hs : St [] W _ [.blk b1 27 [.slice A_p0_s_1 p0_s.A.length c_p0_s_1, .slice A_p0_s_2 p0_s.B.length c_p0_s_2, .slice A_p0_s_3 p0_s.C.length c_p0_s_3], .row A173 n174 c175 2 1 (ints xs172), .mat A313 1 1 23 2 ([Value.slice A287 r285.length c289]) ([r285]), .mat A315 1 1 23 2 ([Value.slice A293 r291.length c295]) ([r291]), .mat A319 n320 c321 23 2 vs323 r317, .row none 0 0 2 1 (ints ([] : List Int))] := hs.addNil 2 1
              have hs : St [] W _ [.blk b1 27 [.slice A_p0_s_1 p0_s.A.length c_p0_s_1, .slice A_p0_s_2 p0_s.B.length c_p0_s_2, .slice A_p0_s_3 p0_s.C.length c_p0_s_3], .row A173 n174 c175 2 1 (ints xs172), .mat A313 1 1 23 2 ([Value.slice A287 r285.length c289]) ([r285]), .mat A315 1 1 23 2 ([Value.slice A293 r291.length c295]) ([r291]), .mat A319 n320 c321 23 2 vs323 r317, .row none 0 0 2 1 (ints ([] : List Int)), .row none 0 0 2 1 (ints ([] : List Int))] := hs.addNil 2 1
              obtain rfl := Option.some.inj hm266
              try dsimp only at hm
              obtain rfl := Option.some.inj hm
              refine wpL_ret (Qb_ret (Ql_ret (Qb_ret (ret_tmp3 rfl hf rfl rfl rfl ?_))))
              exact ⟨_, rfl, none, 0, 0, none, 0, 0, none, 0, 0, ([] : List Int), rfl, rfl, rfl, .inr ⟨rfl, rfl, rfl, rfl⟩, hs.sel [5, 6] (by decide)⟩
            · have hm266 := bif_f hm266 hb333
              refine wpL_skip ?_
              refine wpL_region ?_
              refine sY hf hs rfl rfl rfl (Y_move rfl rfl) ?_; clear hf; intro a hf
              refine sY hf hs rfl rfl rfl (Y_move rfl rfl) ?_; clear hf; intro a hf
              refine sBuildSlice (parts := [(0, .tmp 55)]) (vs := [.int .i64 r329]) (cells := [.int .i64 r329]) hf hs rfl rfl rfl rfl rfl el23 ti2 rfl rfl rfl rfl ?_; clear hf hs; intro a w A336 hs hA337 hf
              have hs : St [] W w [.blk b1 27 [.slice A_p0_s_1 p0_s.A.length c_p0_s_1, .slice A_p0_s_2 p0_s.B.length c_p0_s_2, .slice A_p0_s_3 p0_s.C.length c_p0_s_3], .row A173 n174 c175 2 1 (ints xs172), .mat A313 1 1 23 2 ([Value.slice A287 r285.length c289]) ([r285]), .mat A315 1 1 23 2 ([Value.slice A293 r291.length c295]) ([r291]), .mat A319 n320 c321 23 2 vs323 r317, .row A336 1 1 2 1 (ints ([r329]))] := hs
              obtain ⟨xs340, ha341, hm266⟩ := bind_some hm266
              refine sAppendL (i := 1) (xs := xs172) (ys := [r329]) (enc := ints) hf hs rfl rfl rfl rfl rfl rfl hn176 rfl rfl ha341 el23 ti2 rfl rfl rfl (hs.rd (i := 5) rfl) (Nat.succ_pos _) ints_len1 ints_append ints_one ?_; clear hf hs; intro a w A338 c339 hs hf
              have hs : St [] W w [.blk b1 27 [.slice A_p0_s_1 p0_s.A.length c_p0_s_1, .slice A_p0_s_2 p0_s.B.length c_p0_s_2, .slice A_p0_s_3 p0_s.C.length c_p0_s_3], .row A338 xs340.length c339 2 1 (ints xs340), .mat A313 1 1 23 2 ([Value.slice A287 r285.length c289]) ([r285]), .mat A315 1 1 23 2 ([Value.slice A293 r291.length c295]) ([r291]), .mat A319 n320 c321 23 2 vs323 r317, .row A336 1 1 2 1 (ints ([r329]))] := hs
              refine sY hf hs rfl rfl rfl (Y_assign rfl rfl) ?_; clear hf; intro a hf
              refine wpO_nil ?_
              refine wpL_nil (Qb_normal ?_)
              refine wpL_region ?_
              refine sY hf hs rfl rfl rfl (Y_move rfl rfl) ?_; clear hf; intro a hf
              refine sY hf hs rfl rfl rfl (Y_add rfl rfl rfl) ?_; clear hf; intro a hf
              refine sY hf hs rfl rfl rfl (Y_assign rfl rfl) ?_; clear hf; intro a hf
              refine wpO_nil ?_
              have hs := hs.takeRow (i := 4) rfl ⟨hi325q, hv328⟩
              have hs : St [] W _ [.blk b1 27 [.slice A_p0_s_1 p0_s.A.length c_p0_s_1, .slice A_p0_s_2 p0_s.B.length c_p0_s_2, .slice A_p0_s_3 p0_s.C.length c_p0_s_3], .row A338 xs340.length c339 2 1 (ints xs340), .mat A313 1 1 23 2 ([Value.slice A287 r285.length c289]) ([r285]), .mat A315 1 1 23 2 ([Value.slice A293 r291.length c295]) ([r291]), .row A326 q324.length c327 2 1 (ints q324), .row A336 1 1 2 1 (ints ([r329]))] := hs
              refine wpL_nil (Ql_normal ?_)
              exact ⟨q324, xs340, (IntKind.i64.wrap (x177 + 1)), A326, q324.length, c327, A326, q324.length, c327, q324, A338, xs340.length, c339, hm266, rfl, (.inr ⟨rfl, rfl, rfl, rfl⟩), rfl, (FrD.pick (FrD.pick (FrD.pick (FrD.pick (FrD.pick hf.none hf rfl) hf rfl) hf rfl) hf rfl) hf rfl), hs.sel [0, 1, 4] (by decide)⟩
      · have hm266 := bif_f hm266 hb268
        refine wpL_exit (Ql_exit (Qb_exit ?_))
        exact ⟨xs161, xs172, A162, n163, c164, A165, n166, c167, ys168, A173, n174, c175, Option.some.inj hm266, hn170, hg169, hn176, (FrD.pick (FrD.pick hf.none hf rfl) hf rfl), hs.sel [1, 2] (by decide)⟩
  · rintro a w ⟨xs248, xs259, A249, n250, c251, A252, n253, c254, ys255, A260, n261, c262, hr_, hn257, hg256, hn263, hf, hs⟩
    subst hr_
    try dsimp only at hm
    refine wpL_seq ?_
    refine wpL_region ?_
    refine sY hf hs rfl rfl rfl (Y_move rfl rfl) ?_; clear hf; intro a hf
    refine sY hf hs rfl rfl rfl (Y_move rfl rfl) ?_; clear hf; intro a hf
    refine sY hf hs rfl rfl rfl (Y_assign rfl rfl) ?_; clear hf; intro a hf
    refine sY hf hs rfl rfl rfl (Y_assign rfl rfl) ?_; clear hf; intro a hf
    refine sY hf hs rfl rfl rfl (Y_assign rfl rfl) ?_; clear hf; intro a hf
    refine wpO_nil ?_
    obtain rfl := Option.some.inj hm
    refine wpL_ret (ret_tmp3 rfl hf rfl rfl rfl ?_)
    exact ⟨_, rfl, A260, n261, c262, A249, n250, c251, A252, n253, c254, ys255, rfl, hn263, hn257, hg256, hs⟩

set_option maxRecDepth 100000 in
theorem spec_MeetsDue_ok (F : Nat) (p0_s : GSystem) (A_p0_s_1 : Option Addr) (n_p0_s_1 c_p0_s_1 : Nat) (hn_p0_s_1 : n_p0_s_1 = p0_s.A.length) (A_p0_s_2 : Option Addr) (n_p0_s_2 c_p0_s_2 : Nat) (hn_p0_s_2 : n_p0_s_2 = p0_s.B.length) (A_p0_s_3 : Option Addr) (n_p0_s_3 c_p0_s_3 : Nat) (hn_p0_s_3 : n_p0_s_3 = p0_s.C.length) (p1_x : List Int) (A_p1_x_1 : Option Addr) (n_p1_x_1 c_p1_x_1 : Nat) (hn_p1_x_1 : n_p1_x_1 = p1_x.length) (p2_inputs : List Int) (A_p2_inputs_1 : Option Addr) (n_p2_inputs_1 c_p2_inputs_1 : Nat) (hn_p2_inputs_1 : n_p2_inputs_1 = p2_inputs.length) (p3_due : List Int) (A_p3_due_1 : Option Addr) (n_p3_due_1 c_p3_due_1 : Nat) (hn_p3_due_1 : n_p3_due_1 = p3_due.length) (r : Bool × Int) (W : World) (hm : spec_MeetsDue F p0_s p1_x p2_inputs p3_due = some r) (h_p0_s_1 : RdM W A_p0_s_1 p0_s.A) (h_p0_s_2 : Rd W A_p0_s_2 (ints p0_s.B)) (h_p0_s_3 : Rd W A_p0_s_3 (ints p0_s.C)) (h_p1_x_1 : Rd W A_p1_x_1 (ints p1_x)) (h_p2_inputs_1 : Rd W A_p2_inputs_1 (ints p2_inputs)) (h_p3_due_1 : Rd W A_p3_due_1 (ints p3_due)) :
    Calls Try.prog 40 [.agg #[.slice A_p0_s_1 n_p0_s_1 c_p0_s_1, .slice A_p0_s_2 n_p0_s_2 c_p0_s_2, .slice A_p0_s_3 n_p0_s_3 c_p0_s_3], .slice A_p1_x_1 n_p1_x_1 c_p1_x_1, .slice A_p2_inputs_1 n_p2_inputs_1 c_p2_inputs_1, .slice A_p3_due_1 n_p3_due_1 c_p3_due_1].toArray W fun e w' => ∃ v, e = .returned v ∧ v = .tuple #[.bool r.1, .int .i64 r.2] ∧ St [] W w' [] := by
  subst hn_p0_s_1
  subst hn_p0_s_2
  subst hn_p0_s_3
  subst hn_p1_x_1
  subst hn_p2_inputs_1
  subst hn_p3_due_1
  unfold spec_MeetsDue at hm
  refine Calls.enter (N := 58) Try.func40 rfl rfl rfl (fun a hf => ?_)
  have hs := St.start W
  obtain ⟨w, hw_⟩ : ∃ w, w = W := ⟨W, rfl⟩
  clear hw_ w
  refine wpL_seq ?_
  refine wpL_region ?_
  refine sBox hf hs rfl rfl rfl rfl rfl (cs := [.slice A_p0_s_1 p0_s.A.length c_p0_s_1, .slice A_p0_s_2 p0_s.B.length c_p0_s_2, .slice A_p0_s_3 p0_s.C.length c_p0_s_3]) rfl ?_; clear hf hs; intro a w b1 hs hf
  have hs : St [] W w [.blk b1 27 [.slice A_p0_s_1 p0_s.A.length c_p0_s_1, .slice A_p0_s_2 p0_s.B.length c_p0_s_2, .slice A_p0_s_3 p0_s.C.length c_p0_s_3]] := hs
  refine sY hf hs rfl rfl rfl (Y_assign rfl rfl) ?_; clear hf; intro a hf
  refine sY hf hs rfl rfl rfl (Y_assign rfl rfl) ?_; clear hf; intro a hf
  refine wpO_nil ?_
  refine wpL_seq ?_
  refine wpL_region ?_
  refine sY hf hs rfl rfl rfl (Y_load_blkS rfl rfl (i := 0) rfl ag27 ti27 rfl) ?_; clear hf; intro a hf
  refine sY hf hs rfl rfl rfl (Y_move rfl rfl) ?_; clear hf; intro a hf
  refine sY hf hs rfl rfl rfl (Y_move rfl rfl) ?_; clear hf; intro a hf
  obtain ⟨r2, hc3, hm⟩ := bind_some hm
  refine sCall hf rfl rfl rfl rfl (cap := []) rfl rfl en112 (spec_l24Code_ok F p0_s A_p0_s_1 p0_s.A.length c_p0_s_1 rfl A_p0_s_2 p0_s.B.length c_p0_s_2 rfl A_p0_s_3 p0_s.C.length c_p0_s_3 rfl p1_x A_p1_x_1 p1_x.length c_p1_x_1 rfl p2_inputs A_p2_inputs_1 p2_inputs.length c_p2_inputs_1 rfl _ _ hc3 (h_p0_s_1.at hs) (h_p0_s_2.at hs) (h_p0_s_3.at hs) (h_p1_x_1.at hs) (h_p2_inputs_1.at hs)) ?_; clear hf
  rintro _ w ⟨rfl, hs1⟩ a hf
  have hs : St [] W w [.blk b1 27 [.slice A_p0_s_1 p0_s.A.length c_p0_s_1, .slice A_p0_s_2 p0_s.B.length c_p0_s_2, .slice A_p0_s_3 p0_s.C.length c_p0_s_3]] := hs.ext hs1.below
  clear hs1
  refine sY hf hs rfl rfl rfl (Y_assign rfl rfl) ?_; clear hf; intro a hf
  refine wpO_nil ?_
  refine wpL_seq ?_
  refine wpL_block0 ?_
  refine wpL_seq ?_
  obtain ⟨r8, hj9, hm⟩ := bind_some hm
  refine wpL_cut (fun a w => ∃ b7 : Bool, b7 = r8 ∧ Fr a 58 [(1, .slice A_p1_x_1 p1_x.length c_p1_x_1), (2, .slice A_p2_inputs_1 p2_inputs.length c_p2_inputs_1), (3, .slice A_p3_due_1 p3_due.length c_p3_due_1), (4, .pointer (some ⟨b1, 0, none⟩)), (19, .bool b7)] ∧ St [] W w [.blk b1 27 [.slice A_p0_s_1 p0_s.A.length c_p0_s_1, .slice A_p0_s_2 p0_s.B.length c_p0_s_2, .slice A_p0_s_3 p0_s.C.length c_p0_s_3]]) ?_ ?_
  · refine wpL_region ?_
    refine sY hf hs rfl rfl rfl (Y_move rfl rfl) ?_; clear hf; intro a hf
    refine sY hf hs rfl rfl rfl (Y_neq rfl rfl rfl) ?_; clear hf; intro a hf
    refine sY hf hs rfl rfl rfl (Y_move rfl rfl) ?_; clear hf; intro a hf
    refine bsplit (r2 != 0) (fun hb10 => ?_) (fun hb10 => ?_)
    · have hj9 := bif_t hj9 hb10
      refine sNo hf rfl rfl rfl (congrArg (fun b => some (Value.bool b)) hb10) rfl rfl rfl ?_; clear hf; intro a hf
      refine sNo hf rfl rfl rfl (congrArg (fun b => some (Value.bool b)) hb10) rfl rfl rfl ?_; clear hf; intro a hf
      refine sNo hf rfl rfl rfl (congrArg (fun b => some (Value.bool b)) hb10) rfl rfl rfl ?_; clear hf; intro a hf
      refine sY hf hs rfl rfl rfl (Y_pickT rfl (congrArg (fun b => some (Value.bool b)) hb10) rfl) ?_; clear hf; intro a hf
      refine sY hf hs rfl rfl rfl (Y_assign rfl rfl) ?_; clear hf; intro a hf
      refine wpO_nil ?_
      refine wpL_nil (then_normal ?_)
      exact ⟨true, Option.some.inj hj9, (FrD.pick (FrD.pick (FrD.pick (FrD.pick (FrD.pick hf.none hf rfl) hf rfl) hf rfl) hf rfl) hf rfl), hs⟩
    · have hj9 := bif_f hj9 hb10
      refine sYg hf hs rfl rfl rfl (congrArg (fun b => some (Value.bool b)) hb10) rfl rfl rfl (Y_move rfl rfl) ?_; clear hf; intro a hf
      obtain ⟨r11, hc12, hj9⟩ := bind_some hj9
      refine sCallg hf rfl rfl rfl (congrArg (fun b => some (Value.bool b)) hb10) rfl rfl rfl rfl (cap := []) rfl rfl en123 (spec_l24Inputs_ok F p3_due A_p3_due_1 p3_due.length c_p3_due_1 rfl true _ _ hc12 (h_p3_due_1.at hs)) ?_; clear hf
      rintro _ w ⟨rfl, hs1⟩ a hf
      have hs : St [] W w [.blk b1 27 [.slice A_p0_s_1 p0_s.A.length c_p0_s_1, .slice A_p0_s_2 p0_s.B.length c_p0_s_2, .slice A_p0_s_3 p0_s.C.length c_p0_s_3]] := hs.ext hs1.below
      clear hs1
      refine sYg hf hs rfl rfl rfl (congrArg (fun b => some (Value.bool b)) hb10) rfl rfl rfl (Y_not rfl rfl) ?_; clear hf; intro a hf
      refine sY hf hs rfl rfl rfl (Y_pickF rfl (congrArg (fun b => some (Value.bool b)) hb10) rfl) ?_; clear hf; intro a hf
      refine sY hf hs rfl rfl rfl (Y_assign rfl rfl) ?_; clear hf; intro a hf
      refine wpO_nil ?_
      refine wpL_nil (then_normal ?_)
      exact ⟨(!r11), Option.some.inj hj9, (FrD.pick (FrD.pick (FrD.pick (FrD.pick (FrD.pick hf.none hf rfl) hf rfl) hf rfl) hf rfl) hf rfl), hs⟩
  · rintro a w ⟨b7, hr_, hf, hs⟩
    subst hr_
    try dsimp only at hm
    refine wpL_cond hf rfl (fun hb13 => ?_) (fun hb13 => ?_)
    · have hm := bif_t hm hb13
      refine wpL_seq ?_
      refine wpL_region ?_
      refine sY hf hs rfl rfl rfl (Y_assign rfl rfl) ?_; clear hf; intro a hf
      refine sY hf hs rfl rfl rfl (Y_assign rfl rfl) ?_; clear hf; intro a hf
      refine wpO_nil ?_
      obtain rfl := Option.some.inj hm
      refine wpL_ret (Qb_ret (ret_tmp2 rfl hf rfl rfl ?_))
      exact ⟨_, rfl, rfl, hs.sel [] (by decide)⟩
    · have hm := bif_f hm hb13
      refine wpL_seq ?_
      refine wpL_region ?_
      refine sY hf hs rfl rfl rfl (Y_move rfl rfl) ?_; clear hf; intro a hf
      refine sY hf hs rfl rfl rfl (Y_lenH rfl rfl el23 rfl) ?_; clear hf; intro a hf
      refine sY hf hs rfl rfl rfl (Y_move rfl rfl) ?_; clear hf; intro a hf
      refine sY hf hs rfl rfl rfl (Y_lenH rfl rfl el23 rfl) ?_; clear hf; intro a hf
      refine sY hf hs rfl rfl rfl (Y_neq rfl rfl rfl) ?_; clear hf; intro a hf
      refine sY hf hs rfl rfl rfl (Y_assign rfl rfl) ?_; clear hf; intro a hf
      refine wpO_nil ?_
      refine wpL_cond hf rfl (fun hb14 => ?_) (fun hb14 => ?_)
      · have hm := bif_t hm hb14
        refine wpL_seq ?_
        refine wpL_region ?_
        refine sY hf hs rfl rfl rfl (Y_assign rfl rfl) ?_; clear hf; intro a hf
        refine sY hf hs rfl rfl rfl (Y_assign rfl rfl) ?_; clear hf; intro a hf
        refine wpO_nil ?_
        obtain rfl := Option.some.inj hm
        refine wpL_ret (Qb_ret (ret_tmp2 rfl hf rfl rfl ?_))
        exact ⟨_, rfl, rfl, hs.sel [] (by decide)⟩
      · have hm := bif_f hm hb14
        refine wpL_skip ?_
        refine wpL_nil (Qb_normal ?_)
        refine wpL_seq ?_
        refine wpL_region ?_
        refine sY hf hs rfl rfl rfl (Y_load_blkS rfl rfl (i := 0) rfl ag27 ti27 rfl) ?_; clear hf; intro a hf
        refine sY hf hs rfl rfl rfl (Y_move rfl rfl) ?_; clear hf; intro a hf
        refine sY hf hs rfl rfl rfl (Y_move rfl rfl) ?_; clear hf; intro a hf
        obtain ⟨r15, hc16, hm⟩ := bind_some hm
        refine sCall hf rfl rfl rfl rfl (cap := []) rfl rfl en113 (spec_l24Run_ok F p0_s A_p0_s_1 p0_s.A.length c_p0_s_1 rfl A_p0_s_2 p0_s.B.length c_p0_s_2 rfl A_p0_s_3 p0_s.C.length c_p0_s_3 rfl p1_x A_p1_x_1 p1_x.length c_p1_x_1 rfl p2_inputs A_p2_inputs_1 p2_inputs.length c_p2_inputs_1 rfl _ _ hc16 (h_p0_s_1.at hs) (h_p0_s_2.at hs) (h_p0_s_3.at hs) (h_p1_x_1.at hs) (h_p2_inputs_1.at hs)) ?_; clear hf
        rintro _ w ⟨A17, n18, c19, A21, n22, c23, A24, n25, c26, ys27, rfl, hn20, hn28, he29, hs1⟩ a hf
        have hs : St [] W w [.blk b1 27 [.slice A_p0_s_1 p0_s.A.length c_p0_s_1, .slice A_p0_s_2 p0_s.B.length c_p0_s_2, .slice A_p0_s_3 p0_s.C.length c_p0_s_3], .row A17 n18 c19 2 1 (ints r15.1), .row A24 n25 c26 2 1 (ints ys27)] := hs.join hs1
        clear hs1
        refine sY hf hs rfl rfl rfl (Y_move rfl rfl) ?_; clear hf; intro a hf
        refine sY hf hs rfl rfl rfl (Y_extract rfl rfl rfl) ?_; clear hf; intro a hf
        refine sY hf hs rfl rfl rfl (Y_extract rfl rfl rfl) ?_; clear hf; intro a hf
        refine sY hf hs rfl rfl rfl (Y_extract rfl rfl rfl) ?_; clear hf; intro a hf
        refine sY hf hs rfl rfl rfl (Y_assign rfl rfl) ?_; clear hf; intro a hf
        refine sY hf hs rfl rfl rfl (Y_assign rfl rfl) ?_; clear hf; intro a hf
        refine sY hf hs rfl rfl rfl (Y_assign rfl rfl) ?_; clear hf; intro a hf
        refine wpO_nil ?_
        refine wpL_seq ?_
        refine wpL_seq ?_
        refine wpL_region ?_
        refine sY hf hs rfl rfl rfl (Y_move rfl rfl) ?_; clear hf; intro a hf
        refine sY hf hs rfl rfl rfl (Y_not rfl rfl) ?_; clear hf; intro a hf
        refine wpO_nil ?_
        refine wpL_cond hf rfl (fun hb30 => ?_) (fun hb30 => ?_)
        · have hm := bif_t hm hb30
          refine wpL_seq ?_
          refine wpL_region ?_
          refine sY hf hs rfl rfl rfl (Y_assign rfl rfl) ?_; clear hf; intro a hf
          refine sY hf hs rfl rfl rfl (Y_assign rfl rfl) ?_; clear hf; intro a hf
          refine wpO_nil ?_
          obtain rfl := Option.some.inj hm
          refine wpL_ret (ret_tmp2 rfl hf rfl rfl ?_)
          exact ⟨_, rfl, rfl, hs.sel [] (by decide)⟩
        · have hm := bif_f hm hb30
          refine wpL_skip ?_
          refine wpL_seq ?_
          refine wpL_seq ?_
          refine wpL_region ?_
          refine sY hf hs rfl rfl rfl (Y_assign rfl rfl) ?_; clear hf; intro a hf
          refine wpO_nil ?_
          obtain ⟨r51, hl52, hm⟩ := bind_some hm
          refine wpL_block (fun a w => Sum.inr () = r51 ∧ Fr a 58 [] ∧ St [] W w []) ?_ ?_
          · refine wpL_loop (fun n a w => ∃ x44 : Int, spec_MeetsDue_L1 F p3_due r15 n x44 = some r51 ∧ Fr a 58 [(3, .slice A_p3_due_1 p3_due.length c_p3_due_1), (11, .slice A17 n18 c19), (14, .int .i64 x44)] ∧ St [] W w [.row A17 n18 c19 2 1 (ints r15.1)]) F ?_ ?_ ?_
            · exact ⟨0, hl52, (FrD.pick (FrD.pick (FrD.pick hf.none hf rfl) hf rfl) hf rfl), hs.sel [1] (by decide)⟩
            · rintro a w ⟨x44, h0_, -, -⟩; simp [spec_MeetsDue_L1] at h0_
            · rintro n54 a w ⟨x44, hm53, hf, hs⟩
              rw [spec_MeetsDue_L1] at hm53
              refine wpL_seq ?_
              refine wpL_seq ?_
              refine wpL_region ?_
              refine sY hf hs rfl rfl rfl (Y_move rfl rfl) ?_; clear hf; intro a hf
              refine sY hf hs rfl rfl rfl (Y_move rfl rfl) ?_; clear hf; intro a hf
              refine sY hf hs rfl rfl rfl (Y_lenH rfl rfl el23 hn20) ?_; clear hf; intro a hf
              refine sY hf hs rfl rfl rfl (Y_lss rfl rfl rfl) ?_; clear hf; intro a hf
              refine wpO_nil ?_
              refine wpL_cond hf rfl (fun hb55 => ?_) (fun hb55 => ?_)
              · have hm53 := bif_t hm53 hb55
                refine wpL_skip ?_
                refine wpL_seq ?_
                refine wpL_block0 ?_
                refine wpL_seq ?_
                refine wpL_draw (by kernel_rfl) (by kernel_rfl) hs ?_
                refine qY hf rfl rfl rfl (Y_move rfl rfl) ?_; clear hf; intro a hf
                refine qY hf rfl rfl rfl (Y_move rfl rfl) ?_; clear hf; intro a hf
                obtain ⟨q56, hi57, hm53⟩ := bind_some hm53
                obtain ⟨hi57a, hi57b, hi57q⟩ := idx_some hi57
                refine qY hf rfl rfl rfl (Y_index rfl rfl rfl el23 ti2 (Rd.isAt (hs.rd (i := 0) rfl) (at1 (ints_at hi57q))) hi57a (ltn hn20 hi57b)) ?_; clear hf; intro a hf
                refine qY hf rfl rfl rfl (Y_load_rd rfl rfl (fun w hs => hs.rd (i := 0) rfl) (at1 (ints_at hi57q)) ag2) ?_; clear hf; intro a hf
                refine qY hf rfl rfl rfl (Y_move rfl rfl) ?_; clear hf; intro a hf
                refine qY hf rfl rfl rfl (Y_move rfl rfl) ?_; clear hf; intro a hf
                obtain ⟨q58, hi59, hm53⟩ := bind_some hm53
                obtain ⟨hi59a, hi59b, hi59q⟩ := idx_some hi59
                refine qY hf rfl rfl rfl (Y_index rfl rfl rfl el23 ti2 (Rd.isAt (h_p3_due_1.at hs) (at1 (ints_at hi59q))) hi59a hi59b) ?_; clear hf; intro a hf
                refine qY hf rfl rfl rfl (Y_load_rd rfl rfl (fun w hs => h_p3_due_1.at hs) (at1 (ints_at hi59q)) ag2) ?_; clear hf; intro a hf
                refine qY hf rfl rfl rfl (Y_gtr rfl rfl rfl) ?_; clear hf; intro a hf
                refine qNil ?_; clear hs; intro w hs
                refine wpL_cond hf rfl (fun hb60 => ?_) (fun hb60 => ?_)
                · have hm53 := bif_t hm53 hb60
                  refine wpL_seq ?_
                  refine wpL_region ?_
                  refine sY hf hs rfl rfl rfl (Y_assign rfl rfl) ?_; clear hf; intro a hf
                  refine sY hf hs rfl rfl rfl (Y_assign rfl rfl) ?_; clear hf; intro a hf
                  refine wpO_nil ?_
                  obtain rfl := Option.some.inj hm53
                  try dsimp only at hm
                  obtain rfl := Option.some.inj hm
                  refine wpL_ret (Qb_ret (Ql_ret (Qb_ret (ret_tmp2 rfl hf rfl rfl ?_))))
                  exact ⟨_, rfl, rfl, hs.sel [] (by decide)⟩
                · have hm53 := bif_f hm53 hb60
                  refine wpL_skip ?_
                  refine wpL_nil (Qb_normal ?_)
                  refine wpL_region ?_
                  refine sY hf hs rfl rfl rfl (Y_move rfl rfl) ?_; clear hf; intro a hf
                  refine sY hf hs rfl rfl rfl (Y_add rfl rfl rfl) ?_; clear hf; intro a hf
                  refine sY hf hs rfl rfl rfl (Y_assign rfl rfl) ?_; clear hf; intro a hf
                  refine wpO_nil ?_
                  refine wpL_nil (Ql_normal ?_)
                  exact ⟨(IntKind.i64.wrap (x44 + 1)), hm53, (FrD.pick (FrD.pick (FrD.pick hf.none hf rfl) hf rfl) hf rfl), hs⟩
              · have hm53 := bif_f hm53 hb55
                refine wpL_exit (Ql_exit (Qb_exit ?_))
                exact ⟨Option.some.inj hm53, hf.none, hs.sel [] (by decide)⟩
          · rintro a w ⟨hr_, hf, hs⟩
            subst hr_
            try dsimp only at hm
            refine wpL_seq ?_
            refine wpL_region ?_
            refine sY hf hs rfl rfl rfl (Y_assign rfl rfl) ?_; clear hf; intro a hf
            refine sY hf hs rfl rfl rfl (Y_assign rfl rfl) ?_; clear hf; intro a hf
            refine wpO_nil ?_
            obtain rfl := Option.some.inj hm
            refine wpL_ret (ret_tmp2 rfl hf rfl rfl ?_)
            exact ⟨_, rfl, rfl, hs⟩

set_option maxRecDepth 100000 in
theorem laws_likeInts_ok (F : Nat) (p0_a : List Int) (A_p0_a_1 : Option Addr) (n_p0_a_1 c_p0_a_1 : Nat) (hn_p0_a_1 : n_p0_a_1 = p0_a.length) (p1_b : List Int) (A_p1_b_1 : Option Addr) (n_p1_b_1 c_p1_b_1 : Nat) (hn_p1_b_1 : n_p1_b_1 = p1_b.length) (r : Bool) (W : World) (hm : laws_likeInts F p0_a p1_b = some r) (h_p0_a_1 : Rd W A_p0_a_1 (ints p0_a)) (h_p1_b_1 : Rd W A_p1_b_1 (ints p1_b)) :
    Calls Try.prog 30 [.slice A_p0_a_1 n_p0_a_1 c_p0_a_1, .slice A_p1_b_1 n_p1_b_1 c_p1_b_1].toArray W fun e w' => ∃ v, e = .returned v ∧ v = .bool r ∧ St [] W w' [] := by
  subst hn_p0_a_1
  subst hn_p1_b_1
  unfold laws_likeInts at hm
  refine Calls.enter (N := 26) Try.func30 rfl rfl rfl (fun a hf => ?_)
  have hs := St.start W
  obtain ⟨w, hw_⟩ : ∃ w, w = W := ⟨W, rfl⟩
  clear hw_ w
  refine wpL_seq ?_
  refine wpL_region ?_
  refine sY hf hs rfl rfl rfl (Y_assign rfl rfl) ?_; clear hf; intro a hf
  refine wpO_nil ?_
  refine wpL_seq ?_
  refine wpL_seq ?_
  refine wpL_region ?_
  refine sY hf hs rfl rfl rfl (Y_move rfl rfl) ?_; clear hf; intro a hf
  refine sY hf hs rfl rfl rfl (Y_lenH rfl rfl el23 rfl) ?_; clear hf; intro a hf
  refine sY hf hs rfl rfl rfl (Y_move rfl rfl) ?_; clear hf; intro a hf
  refine sY hf hs rfl rfl rfl (Y_lenH rfl rfl el23 rfl) ?_; clear hf; intro a hf
  refine sY hf hs rfl rfl rfl (Y_neq rfl rfl rfl) ?_; clear hf; intro a hf
  refine wpO_nil ?_
  refine wpL_cond hf rfl (fun hb1 => ?_) (fun hb1 => ?_)
  · have hm := bif_t hm hb1
    refine wpL_seq ?_
    refine wpL_region ?_
    refine sY hf hs rfl rfl rfl (Y_assign rfl rfl) ?_; clear hf; intro a hf
    refine wpO_nil ?_
    obtain rfl := Option.some.inj hm
    refine wpL_ret (ret_tmp rfl hf rfl ?_)
    exact ⟨_, rfl, rfl, hs⟩
  · have hm := bif_f hm hb1
    refine wpL_skip ?_
    refine wpL_seq ?_
    refine wpL_seq ?_
    refine wpL_region ?_
    refine sY hf hs rfl rfl rfl (Y_assign rfl rfl) ?_; clear hf; intro a hf
    refine wpO_nil ?_
    obtain ⟨r22, hl23, hm⟩ := bind_some hm
    refine wpL_block (fun a w => Sum.inr () = r22 ∧ Fr a 26 [] ∧ St [] W w []) ?_ ?_
    · refine wpL_loop (fun n a w => ∃ x15 : Int, laws_likeInts_L1 F p0_a p1_b n x15 = some r22 ∧ Fr a 26 [(0, .slice A_p0_a_1 p0_a.length c_p0_a_1), (1, .slice A_p1_b_1 p1_b.length c_p1_b_1), (5, .int .i64 x15)] ∧ St [] W w []) F ?_ ?_ ?_
      · exact ⟨0, hl23, (FrD.pick (FrD.pick (FrD.pick hf.none hf rfl) hf rfl) hf rfl), hs⟩
      · rintro a w ⟨x15, h0_, -, -⟩; simp [laws_likeInts_L1] at h0_
      · rintro n25 a w ⟨x15, hm24, hf, hs⟩
        rw [laws_likeInts_L1] at hm24
        refine wpL_seq ?_
        refine wpL_seq ?_
        refine wpL_region ?_
        refine sY hf hs rfl rfl rfl (Y_move rfl rfl) ?_; clear hf; intro a hf
        refine sY hf hs rfl rfl rfl (Y_move rfl rfl) ?_; clear hf; intro a hf
        refine sY hf hs rfl rfl rfl (Y_lenH rfl rfl el23 rfl) ?_; clear hf; intro a hf
        refine sY hf hs rfl rfl rfl (Y_lss rfl rfl rfl) ?_; clear hf; intro a hf
        refine wpO_nil ?_
        refine wpL_cond hf rfl (fun hb26 => ?_) (fun hb26 => ?_)
        · have hm24 := bif_t hm24 hb26
          refine wpL_skip ?_
          refine wpL_seq ?_
          refine wpL_block0 ?_
          refine wpL_seq ?_
          refine wpL_draw (by kernel_rfl) (by kernel_rfl) hs ?_
          refine qY hf rfl rfl rfl (Y_move rfl rfl) ?_; clear hf; intro a hf
          refine qY hf rfl rfl rfl (Y_move rfl rfl) ?_; clear hf; intro a hf
          obtain ⟨q27, hi28, hm24⟩ := bind_some hm24
          obtain ⟨hi28a, hi28b, hi28q⟩ := idx_some hi28
          refine qY hf rfl rfl rfl (Y_index rfl rfl rfl el23 ti2 (Rd.isAt (h_p0_a_1.at hs) (at1 (ints_at hi28q))) hi28a hi28b) ?_; clear hf; intro a hf
          refine qY hf rfl rfl rfl (Y_load_rd rfl rfl (fun w hs => h_p0_a_1.at hs) (at1 (ints_at hi28q)) ag2) ?_; clear hf; intro a hf
          refine qY hf rfl rfl rfl (Y_move rfl rfl) ?_; clear hf; intro a hf
          refine qY hf rfl rfl rfl (Y_move rfl rfl) ?_; clear hf; intro a hf
          obtain ⟨q29, hi30, hm24⟩ := bind_some hm24
          obtain ⟨hi30a, hi30b, hi30q⟩ := idx_some hi30
          refine qY hf rfl rfl rfl (Y_index rfl rfl rfl el23 ti2 (Rd.isAt (h_p1_b_1.at hs) (at1 (ints_at hi30q))) hi30a hi30b) ?_; clear hf; intro a hf
          refine qY hf rfl rfl rfl (Y_load_rd rfl rfl (fun w hs => h_p1_b_1.at hs) (at1 (ints_at hi30q)) ag2) ?_; clear hf; intro a hf
          refine qY hf rfl rfl rfl (Y_neq rfl rfl rfl) ?_; clear hf; intro a hf
          refine qNil ?_; clear hs; intro w hs
          refine wpL_cond hf rfl (fun hb31 => ?_) (fun hb31 => ?_)
          · have hm24 := bif_t hm24 hb31
            refine wpL_seq ?_
            refine wpL_region ?_
            refine sY hf hs rfl rfl rfl (Y_assign rfl rfl) ?_; clear hf; intro a hf
            refine wpO_nil ?_
            obtain rfl := Option.some.inj hm24
            try dsimp only at hm
            obtain rfl := Option.some.inj hm
            refine wpL_ret (Qb_ret (Ql_ret (Qb_ret (ret_tmp rfl hf rfl ?_))))
            exact ⟨_, rfl, rfl, hs⟩
          · have hm24 := bif_f hm24 hb31
            refine wpL_skip ?_
            refine wpL_nil (Qb_normal ?_)
            refine wpL_region ?_
            refine sY hf hs rfl rfl rfl (Y_move rfl rfl) ?_; clear hf; intro a hf
            refine sY hf hs rfl rfl rfl (Y_add rfl rfl rfl) ?_; clear hf; intro a hf
            refine sY hf hs rfl rfl rfl (Y_assign rfl rfl) ?_; clear hf; intro a hf
            refine wpO_nil ?_
            refine wpL_nil (Ql_normal ?_)
            exact ⟨(IntKind.i64.wrap (x15 + 1)), hm24, (FrD.pick (FrD.pick (FrD.pick hf.none hf rfl) hf rfl) hf rfl), hs⟩
        · have hm24 := bif_f hm24 hb26
          refine wpL_exit (Ql_exit (Qb_exit ?_))
          exact ⟨Option.some.inj hm24, hf.none, hs⟩
    · rintro a w ⟨hr_, hf, hs⟩
      subst hr_
      try dsimp only at hm
      refine wpL_seq ?_
      refine wpL_region ?_
      refine sY hf hs rfl rfl rfl (Y_assign rfl rfl) ?_; clear hf; intro a hf
      refine wpO_nil ?_
      obtain rfl := Option.some.inj hm
      refine wpL_ret (ret_tmp rfl hf rfl ?_)
      exact ⟨_, rfl, rfl, hs⟩

set_option maxRecDepth 100000 in
theorem laws_roll_ok (F : Nat) (p0_code : List Int) (A_p0_code_1 : Option Addr) (n_p0_code_1 c_p0_code_1 : Nat) (hn_p0_code_1 : n_p0_code_1 = p0_code.length) (p1_seed : Int) (r : (Int × Int)) (W : World) (hm : laws_roll F p0_code p1_seed = some r) (h_p0_code_1 : Rd W A_p0_code_1 (bytes p0_code)) :
    Calls Try.prog 33 [.slice A_p0_code_1 n_p0_code_1 c_p0_code_1, .int .u64 p1_seed].toArray W fun e w' => ∃ v, e = .returned v ∧ ∃ b23, v = .pointer (some ⟨b23, 0, none⟩) ∧ St [] W w' [.blk b23 119 [.slice A_p0_code_1 n_p0_code_1 c_p0_code_1, .int .i64 r.1, .int .u64 r.2]] := by
  subst hn_p0_code_1
  unfold laws_roll at hm
  refine Calls.enter (N := 38) Try.func33 rfl rfl rfl (fun a hf => ?_)
  have hs := St.start W
  obtain ⟨w, hw_⟩ : ∃ w, w = W := ⟨W, rfl⟩
  clear hw_ w
  refine wpL_seq ?_
  refine wpL_region ?_
  refine sY hf hs rfl rfl rfl (Y_assign rfl rfl) ?_; clear hf; intro a hf
  refine wpO_nil ?_
  refine wpL_seq ?_
  refine wpL_region ?_
  refine sY hf hs rfl rfl rfl (Y_move rfl rfl) ?_; clear hf; intro a hf
  refine sY hf hs rfl rfl rfl (Y_move rfl rfl) ?_; clear hf; intro a hf
  refine sY hf hs rfl rfl rfl (Y_mul rfl rfl rfl) ?_; clear hf; intro a hf
  refine sY hf hs rfl rfl rfl (Y_move rfl rfl) ?_; clear hf; intro a hf
  refine sY hf hs rfl rfl rfl (Y_lenH rfl rfl el34 rfl) ?_; clear hf; intro a hf
  refine sY hf hs rfl rfl rfl (Y_convert rfl rfl un3 un48) ?_; clear hf; intro a hf
  refine sY hf hs rfl rfl rfl (Y_add rfl rfl rfl) ?_; clear hf; intro a hf
  refine sY hf hs rfl rfl rfl (Y_build (parts := [(0, .tmp 7), (2, .tmp 13)]) (vs := [.slice A_p0_code_1 p0_code.length c_p0_code_1, .int .u64 (IntKind.u64.wrap ((IntKind.u64.wrap (p1_seed * 9103)) + (IntKind.u64.wrap (p0_code.length : Int))))]) rfl rfl (run_build (parts := [(0, .slice A_p0_code_1 p0_code.length c_p0_code_1), (2, .int .u64 (IntKind.u64.wrap ((IntKind.u64.wrap (p1_seed * 9103)) + (IntKind.u64.wrap (p0_code.length : Int)))))]) (cells := [.slice A_p0_code_1 p0_code.length c_p0_code_1, .int .i64 0, .int .u64 (IntKind.u64.wrap ((IntKind.u64.wrap (p1_seed * 9103)) + (IntKind.u64.wrap (p0_code.length : Int))))]) (places := #[(0, 1), (1, 1), (2, 1)]) ti119 Try.underlying119 (fun w => by simp [go_sem]) rfl)) ?_; clear hf; intro a hf
  refine sBox hf hs rfl rfl rfl rfl rfl (cs := [.slice A_p0_code_1 p0_code.length c_p0_code_1, .int .i64 0, .int .u64 (IntKind.u64.wrap ((IntKind.u64.wrap (p1_seed * 9103)) + (IntKind.u64.wrap (p0_code.length : Int))))]) rfl ?_; clear hf hs; intro a w b1 hs hf
  have hs : St [] W w [.blk b1 119 [.slice A_p0_code_1 p0_code.length c_p0_code_1, .int .i64 0, .int .u64 (IntKind.u64.wrap ((IntKind.u64.wrap (p1_seed * 9103)) + (IntKind.u64.wrap (p0_code.length : Int))))]] := hs
  refine sY hf hs rfl rfl rfl (Y_assign rfl rfl) ?_; clear hf; intro a hf
  refine wpO_nil ?_
  refine wpL_seq ?_
  refine wpL_seq ?_
  refine wpL_region ?_
  refine sY hf hs rfl rfl rfl (Y_assign rfl rfl) ?_; clear hf; intro a hf
  refine wpO_nil ?_
  obtain ⟨r16, hl17, hm⟩ := bind_some hm
  refine wpL_block (fun a w => ∃ x15 : Int, x15 = r16 ∧ Fr a 38 [(5, .pointer (some ⟨b1, 0, none⟩))] ∧ St [] W w [.blk b1 119 [.slice A_p0_code_1 p0_code.length c_p0_code_1, .int .i64 0, .int .u64 x15]]) ?_ ?_
  · refine wpL_loop (fun n a w => ∃ x10 : Int, ∃ x11 : Int, laws_roll_L1 F p0_code n x10 x11 = some r16 ∧ Fr a 38 [(0, .slice A_p0_code_1 p0_code.length c_p0_code_1), (5, .pointer (some ⟨b1, 0, none⟩)), (6, .int .i64 x11)] ∧ St [] W w [.blk b1 119 [.slice A_p0_code_1 p0_code.length c_p0_code_1, .int .i64 0, .int .u64 x10]]) F ?_ ?_ ?_
    · exact ⟨(IntKind.u64.wrap ((IntKind.u64.wrap (p1_seed * 9103)) + (IntKind.u64.wrap (p0_code.length : Int)))), 0, hl17, (FrD.pick (FrD.pick (FrD.pick hf.none hf rfl) hf rfl) hf rfl), hs⟩
    · rintro a w ⟨x10, x11, h0_, -, -⟩; simp [laws_roll_L1] at h0_
    · rintro n19 a w ⟨x10, x11, hm18, hf, hs⟩
      rw [laws_roll_L1] at hm18
      refine wpL_seq ?_
      refine wpL_seq ?_
      refine wpL_region ?_
      refine sY hf hs rfl rfl rfl (Y_move rfl rfl) ?_; clear hf; intro a hf
      refine sY hf hs rfl rfl rfl (Y_move rfl rfl) ?_; clear hf; intro a hf
      refine sY hf hs rfl rfl rfl (Y_lenH rfl rfl el34 rfl) ?_; clear hf; intro a hf
      refine sY hf hs rfl rfl rfl (Y_lss rfl rfl rfl) ?_; clear hf; intro a hf
      refine wpO_nil ?_
      refine wpL_cond hf rfl (fun hb20 => ?_) (fun hb20 => ?_)
      · have hm18 := bif_t hm18 hb20
        refine wpL_skip ?_
        refine wpL_seq ?_
        refine wpL_block0 ?_
        refine wpL_drawM [.blk b1 119 [.slice A_p0_code_1 p0_code.length c_p0_code_1, .int .i64 0, .int .u64 x10]] [15] (by kernel_rfl) hs ?_; clear hs; intro w hs
        have hs0 : St [] W w [.blk b1 119 [.slice A_p0_code_1 p0_code.length c_p0_code_1, .int .i64 0, .int .u64 x10]] := hs
        refine mYp (i := 0) rfl (by kernel_rfl) (by kernel_rfl) hf rfl rfl rfl (fun _ => Y_move rfl rfl) ?_; clear hf; intro a hf
        refine mYp (i := 1) rfl (by kernel_rfl) (by kernel_rfl) hf rfl rfl rfl (fun _ => Y_move rfl rfl) ?_; clear hf; intro a hf
        refine mYp (i := 2) rfl (by kernel_rfl) (by kernel_rfl) hf rfl rfl rfl (fun _ => Y_nilCheck rfl rfl) ?_; clear hf; intro a hf
        refine mYp (i := 3) rfl (by kernel_rfl) (by kernel_rfl) hf rfl rfl rfl (fun _ => Y_fieldAddr rfl rfl fo119_2) ?_; clear hf; intro a hf
        refine mY (i := 4) [[]] rfl (by kernel_rfl) (by kernel_rfl) hf hs0 rfl rfl rfl (Y_load_blk rfl rfl (i := 0) rfl rfl ag48) ?_; clear hf; intro a hf
        refine mYp (i := 5) rfl (by kernel_rfl) (by kernel_rfl) hf rfl rfl rfl (fun _ => Y_mul rfl rfl rfl) ?_; clear hf; intro a hf
        refine mYp (i := 6) rfl (by kernel_rfl) (by kernel_rfl) hf rfl rfl rfl (fun _ => Y_move rfl rfl) ?_; clear hf; intro a hf
        refine mYp (i := 7) rfl (by kernel_rfl) (by kernel_rfl) hf rfl rfl rfl (fun _ => Y_move rfl rfl) ?_; clear hf; intro a hf
        obtain ⟨q21, hi22, hm18⟩ := bind_some hm18
        obtain ⟨hi22a, hi22b, hi22q⟩ := idx_some hi22
        refine mYp (i := 8) rfl (by kernel_rfl) (by kernel_rfl) hf rfl rfl rfl (fun _ => Y_index rfl rfl rfl el34 ti5 (Rd.isAt (h_p0_code_1.at hs) (at1 (bytes_at hi22q))) hi22a hi22b) ?_; clear hf; intro a hf
        refine mY (i := 9) [[]] rfl (by kernel_rfl) (by kernel_rfl) hf hs0 rfl rfl rfl (Y_load_rd rfl rfl (fun w hs => h_p0_code_1.at hs) (at1 (bytes_at hi22q)) ag5) ?_; clear hf; intro a hf
        refine mY (i := 10) [[]] rfl (by kernel_rfl) (by kernel_rfl) hf hs0 rfl rfl rfl (Y_convert rfl rfl un5 un48) ?_; clear hf; intro a hf
        refine mYp (i := 11) rfl (by kernel_rfl) (by kernel_rfl) hf rfl rfl rfl (fun _ => Y_add rfl rfl rfl) ?_; clear hf; intro a hf
        refine mYp (i := 12) rfl (by kernel_rfl) (by kernel_rfl) hf rfl rfl rfl (fun _ => Y_add rfl rfl rfl) ?_; clear hf; intro a hf
        refine mYp (i := 13) rfl (by kernel_rfl) (by kernel_rfl) hf rfl rfl rfl (fun _ => Y_nilCheck rfl rfl) ?_; clear hf; intro a hf
        refine mYp (i := 14) rfl (by kernel_rfl) (by kernel_rfl) hf rfl rfl rfl (fun _ => Y_fieldAddr rfl rfl fo119_2) ?_; clear hf; intro a hf
        refine mRun (i := 15) rfl (by kernel_rfl) ?_
        refine sStore (i := 0) (us := [.int .u64 (IntKind.u64.wrap ((IntKind.u64.wrap ((IntKind.u64.wrap (x10 * 1099511628211)) + (IntKind.u64.wrap q21))) + 5))]) hf hs rfl rfl rfl rfl rfl rfl ti48 rfl rfl rfl (Nat.le_of_ble_eq_true rfl) rfl ?_; clear hs; intro w hs
        have hs : St [] W w [.blk b1 119 [.slice A_p0_code_1 p0_code.length c_p0_code_1, .int .i64 0, .int .u64 (IntKind.u64.wrap ((IntKind.u64.wrap ((IntKind.u64.wrap (x10 * 1099511628211)) + (IntKind.u64.wrap q21))) + 5))]] := hs
        refine wpO_nil ⟨Or.inl (by decide), ?_⟩
        refine mDone (by kernel_rfl) ?_
        clear hs0
        refine wpL_nil (Qb_normal ?_)
        refine wpL_region ?_
        refine sY hf hs rfl rfl rfl (Y_move rfl rfl) ?_; clear hf; intro a hf
        refine sY hf hs rfl rfl rfl (Y_add rfl rfl rfl) ?_; clear hf; intro a hf
        refine sY hf hs rfl rfl rfl (Y_assign rfl rfl) ?_; clear hf; intro a hf
        refine wpO_nil ?_
        refine wpL_nil (Ql_normal ?_)
        exact ⟨(IntKind.u64.wrap ((IntKind.u64.wrap ((IntKind.u64.wrap (x10 * 1099511628211)) + (IntKind.u64.wrap q21))) + 5)), (IntKind.i64.wrap (x11 + 1)), hm18, (FrD.pick (FrD.pick (FrD.pick hf.none hf rfl) hf rfl) hf rfl), hs⟩
      · have hm18 := bif_f hm18 hb20
        refine wpL_exit (Ql_exit (Qb_exit ?_))
        exact ⟨x10, Option.some.inj hm18, (FrD.pick hf.none hf rfl), hs⟩
  · rintro a w ⟨x15, hr_, hf, hs⟩
    subst hr_
    try dsimp only at hm
    refine wpL_seq ?_
    refine wpL_region ?_
    refine sY hf hs rfl rfl rfl (Y_move rfl rfl) ?_; clear hf; intro a hf
    refine sY hf hs rfl rfl rfl (Y_assign rfl rfl) ?_; clear hf; intro a hf
    refine wpO_nil ?_
    obtain rfl := Option.some.inj hm
    refine wpL_ret (ret_tmp rfl hf rfl ?_)
    exact ⟨_, rfl, b1, rfl, hs⟩

end Go.Proofs.Ytgkgimglgjfcjaa
