/- The functions do what their models say. -/
import Derived.Test.YtcpfhonmmpbadaaMeetsDueLifted2
import Derived.Test.YtcpfhonmmpbadaaRows
namespace Go.Proofs.Ytcpfhonmmpbadaa
open Go.RowKit

set_option maxRecDepth 100000 in
theorem laws_FnExactMeetsDue_ok (F : Nat) (p0 : LSystem) (A_p0_1 : Option Addr) (n_p0_1 c_p0_1 : Nat) (hn_p0_1 : n_p0_1 = p0.A.length) (A_p0_2 : Option Addr) (n_p0_2 c_p0_2 : Nat) (hn_p0_2 : n_p0_2 = p0.B.length) (A_p0_3 : Option Addr) (n_p0_3 c_p0_3 : Nat) (hn_p0_3 : n_p0_3 = p0.C.length) (p1 : List Int) (A_p1_1 : Option Addr) (n_p1_1 c_p1_1 : Nat) (hn_p1_1 : n_p1_1 = p1.length) (p2 : List Int) (A_p2_1 : Option Addr) (n_p2_1 c_p2_1 : Nat) (hn_p2_1 : n_p2_1 = p2.length) (p3 : List Int) (A_p3_1 : Option Addr) (n_p3_1 c_p3_1 : Nat) (hn_p3_1 : n_p3_1 = p3.length) (r : Bool) (W : World) (hm : laws_FnExactMeetsDue F p0 p1 p2 p3 = some r) (h_p0_1 : RdM W A_p0_1 p0.A) (h_p0_2 : Rd W A_p0_2 (ints p0.B)) (h_p0_3 : Rd W A_p0_3 (ints p0.C)) (h_p1_1 : Rd W A_p1_1 (ints p1)) (h_p2_1 : Rd W A_p2_1 (ints p2)) (h_p3_1 : Rd W A_p3_1 (ints p3)) :
    Calls Try.prog 4 [.agg #[.slice A_p0_1 n_p0_1 c_p0_1, .slice A_p0_2 n_p0_2 c_p0_2, .slice A_p0_3 n_p0_3 c_p0_3], .slice A_p1_1 n_p1_1 c_p1_1, .slice A_p2_1 n_p2_1 c_p2_1, .slice A_p3_1 n_p3_1 c_p3_1].toArray W fun e w' => ∃ v, e = .returned v ∧ v = .bool r ∧ St [] W w' [] := by
  subst hn_p0_1
  subst hn_p0_2
  subst hn_p0_3
  subst hn_p1_1
  subst hn_p2_1
  subst hn_p3_1
  unfold laws_FnExactMeetsDue at hm
  refine Calls.enter (N := 88) Try.func4 rfl rfl rfl (fun a hf => ?_)
  have hs := St.start W
  obtain ⟨w, hw_⟩ : ∃ w, w = W := ⟨W, rfl⟩
  clear hw_ w
  refine wpL_seq ?_
  refine wpL_region ?_
  refine sBox hf hs rfl rfl rfl rfl rfl (cs := [.slice A_p0_1 p0.A.length c_p0_1, .slice A_p0_2 p0.B.length c_p0_2, .slice A_p0_3 p0.C.length c_p0_3]) rfl ?_; clear hf hs; intro a w b1 hs hf
  have hs : St [] W w [.blk b1 25 [.slice A_p0_1 p0.A.length c_p0_1, .slice A_p0_2 p0.B.length c_p0_2, .slice A_p0_3 p0.C.length c_p0_3]] := hs
  refine sY hf hs rfl rfl rfl (Y_assign rfl rfl) ?_; clear hf; intro a hf
  refine wpO_nil ?_
  refine wpL_seq ?_
  refine wpL_seq ?_
  refine wpL_region ?_
  refine sY hf hs rfl rfl rfl (Y_move rfl rfl) ?_; clear hf; intro a hf
  refine sY hf hs rfl rfl rfl (Y_lenH rfl rfl el23 rfl) ?_; clear hf; intro a hf
  refine sY hf hs rfl rfl rfl (Y_gtr rfl rfl rfl) ?_; clear hf; intro a hf
  refine wpO_nil ?_
  refine wpL_cond hf rfl (fun hb2 => ?_) (fun hb2 => ?_)
  · have hm := bif_t hm hb2
    refine wpL_seq ?_
    refine wpL_region ?_
    refine sY hf hs rfl rfl rfl (Y_assign rfl rfl) ?_; clear hf; intro a hf
    refine wpO_nil ?_
    obtain rfl := Option.some.inj hm
    refine wpL_ret (ret_tmp rfl hf rfl ?_)
    exact ⟨_, rfl, rfl, hs.sel [] (by decide)⟩
  · have hm := bif_f hm hb2
    refine wpL_skip ?_
    refine wpL_seq ?_
    refine wpL_seq ?_
    refine wpL_region ?_
    refine sY hf hs rfl rfl rfl (Y_move rfl rfl) ?_; clear hf; intro a hf
    refine sY hf hs rfl rfl rfl (Y_lenH rfl rfl el23 rfl) ?_; clear hf; intro a hf
    refine sY hf hs rfl rfl rfl (Y_gtr rfl rfl rfl) ?_; clear hf; intro a hf
    refine wpO_nil ?_
    refine wpL_cond hf rfl (fun hb3 => ?_) (fun hb3 => ?_)
    · have hm := bif_t hm hb3
      refine wpL_seq ?_
      refine wpL_region ?_
      refine sY hf hs rfl rfl rfl (Y_assign rfl rfl) ?_; clear hf; intro a hf
      refine wpO_nil ?_
      obtain rfl := Option.some.inj hm
      refine wpL_ret (ret_tmp rfl hf rfl ?_)
      exact ⟨_, rfl, rfl, hs.sel [] (by decide)⟩
    · have hm := bif_f hm hb3
      refine wpL_skip ?_
      refine wpL_seq ?_
      refine wpL_seq ?_
      refine wpL_region ?_
      refine sY hf hs rfl rfl rfl (Y_move rfl rfl) ?_; clear hf; intro a hf
      refine sY hf hs rfl rfl rfl (Y_lenH rfl rfl el23 rfl) ?_; clear hf; intro a hf
      refine sY hf hs rfl rfl rfl (Y_gtr rfl rfl rfl) ?_; clear hf; intro a hf
      refine wpO_nil ?_
      refine wpL_cond hf rfl (fun hb4 => ?_) (fun hb4 => ?_)
      · have hm := bif_t hm hb4
        refine wpL_seq ?_
        refine wpL_region ?_
        refine sY hf hs rfl rfl rfl (Y_assign rfl rfl) ?_; clear hf; intro a hf
        refine wpO_nil ?_
        obtain rfl := Option.some.inj hm
        refine wpL_ret (ret_tmp rfl hf rfl ?_)
        exact ⟨_, rfl, rfl, hs.sel [] (by decide)⟩
      · have hm := bif_f hm hb4
        refine wpL_skip ?_
        refine wpL_seq ?_
        refine wpL_region ?_
        refine sY hf hs rfl rfl rfl (Y_assign rfl rfl) ?_; clear hf; intro a hf
        refine wpO_nil ?_
        refine wpL_seq ?_
        refine wpL_region ?_
        refine sY hf hs rfl rfl rfl (Y_load_blkS rfl rfl (i := 0) rfl ag25 ti25 rfl) ?_; clear hf; intro a hf
        refine sY hf hs rfl rfl rfl (Y_move rfl rfl) ?_; clear hf; intro a hf
        obtain ⟨r5, hc6, hm⟩ := bind_some hm
        refine sCall hf rfl rfl rfl rfl (cap := []) rfl rfl en15 (laws_szSystem_ok F p0 A_p0_1 p0.A.length c_p0_1 rfl A_p0_2 p0.B.length c_p0_2 rfl A_p0_3 p0.C.length c_p0_3 rfl 1048576 _ _ hc6 (h_p0_1.at hs) (h_p0_2.at hs) (h_p0_3.at hs)) ?_; clear hf
        rintro _ w ⟨rfl, hs1⟩ a hf
        have hs : St [] W w [.blk b1 25 [.slice A_p0_1 p0.A.length c_p0_1, .slice A_p0_2 p0.B.length c_p0_2, .slice A_p0_3 p0.C.length c_p0_3]] := hs.ext hs1.below
        clear hs1
        refine sY hf hs rfl rfl rfl (Y_assign rfl rfl) ?_; clear hf; intro a hf
        refine wpO_nil ?_
        refine wpL_seq ?_
        refine wpL_seq ?_
        refine wpL_region ?_
        refine sY hf hs rfl rfl rfl (Y_move rfl rfl) ?_; clear hf; intro a hf
        refine sY hf hs rfl rfl rfl (Y_lss rfl rfl rfl) ?_; clear hf; intro a hf
        refine wpO_nil ?_
        refine wpL_cond hf rfl (fun hb7 => ?_) (fun hb7 => ?_)
        · have hm := bif_t hm hb7
          refine wpL_seq ?_
          refine wpL_region ?_
          refine sY hf hs rfl rfl rfl (Y_assign rfl rfl) ?_; clear hf; intro a hf
          refine wpO_nil ?_
          obtain rfl := Option.some.inj hm
          refine wpL_ret (ret_tmp rfl hf rfl ?_)
          exact ⟨_, rfl, rfl, hs.sel [] (by decide)⟩
        · have hm := bif_f hm hb7
          refine wpL_skip ?_
          refine wpL_seq ?_
          refine wpL_region ?_
          refine sY hf hs rfl rfl rfl (Y_load_blkS rfl rfl (i := 0) rfl ag25 ti25 rfl) ?_; clear hf; intro a hf
          obtain ⟨r8, hc9, hm⟩ := bind_some hm
          refine sCall hf rfl rfl rfl rfl (cap := []) rfl rfl en17 (laws_toSystem_ok F p0 A_p0_1 p0.A.length c_p0_1 rfl A_p0_2 p0.B.length c_p0_2 rfl A_p0_3 p0.C.length c_p0_3 rfl _ _ hc9 (h_p0_1.at hs) (h_p0_2.at hs) (h_p0_3.at hs)) ?_; clear hf
          rintro _ w ⟨A10, n11, c12, vs14, A15, n16, c17, A19, n20, c21, rfl, hn13, hn18, hn22, hs1⟩ a hf
          have hs : St [] W w [.blk b1 25 [.slice A_p0_1 p0.A.length c_p0_1, .slice A_p0_2 p0.B.length c_p0_2, .slice A_p0_3 p0.C.length c_p0_3], .mat A10 n11 c12 23 2 vs14 r8.A, .row A15 n16 c17 2 1 (ints r8.B), .row A19 n20 c21 2 1 (ints r8.C)] := hs.join hs1
          clear hs1
          refine sY hf hs rfl rfl rfl (Y_move rfl rfl) ?_; clear hf; intro a hf
          obtain ⟨r23, hc24, hm⟩ := bind_some hm
          refine sCall hf rfl rfl rfl rfl (cap := []) rfl rfl en18 (laws_toInt64S_ok F p1 A_p1_1 p1.length c_p1_1 rfl _ _ hc24 (h_p1_1.at hs)) ?_; clear hf
          rintro _ w ⟨A25, n26, c27, rfl, hn28, hs1⟩ a hf
          have hs : St [] W w [.blk b1 25 [.slice A_p0_1 p0.A.length c_p0_1, .slice A_p0_2 p0.B.length c_p0_2, .slice A_p0_3 p0.C.length c_p0_3], .mat A10 n11 c12 23 2 vs14 r8.A, .row A15 n16 c17 2 1 (ints r8.B), .row A19 n20 c21 2 1 (ints r8.C), .row A25 n26 c27 2 1 (ints r23)] := hs.join hs1
          clear hs1
          refine sY hf hs rfl rfl rfl (Y_move rfl rfl) ?_; clear hf; intro a hf
          obtain ⟨r29, hc30, hm⟩ := bind_some hm
          refine sCall hf rfl rfl rfl rfl (cap := []) rfl rfl en18 (laws_toInt64S_ok F p2 A_p2_1 p2.length c_p2_1 rfl _ _ hc30 (h_p2_1.at hs)) ?_; clear hf
          rintro _ w ⟨A31, n32, c33, rfl, hn34, hs1⟩ a hf
          have hs : St [] W w [.blk b1 25 [.slice A_p0_1 p0.A.length c_p0_1, .slice A_p0_2 p0.B.length c_p0_2, .slice A_p0_3 p0.C.length c_p0_3], .mat A10 n11 c12 23 2 vs14 r8.A, .row A15 n16 c17 2 1 (ints r8.B), .row A19 n20 c21 2 1 (ints r8.C), .row A25 n26 c27 2 1 (ints r23), .row A31 n32 c33 2 1 (ints r29)] := hs.join hs1
          clear hs1
          refine sY hf hs rfl rfl rfl (Y_move rfl rfl) ?_; clear hf; intro a hf
          obtain ⟨r35, hc36, hm⟩ := bind_some hm
          refine sCall hf rfl rfl rfl rfl (cap := []) rfl rfl en18 (laws_toInt64S_ok F p3 A_p3_1 p3.length c_p3_1 rfl _ _ hc36 (h_p3_1.at hs)) ?_; clear hf
          rintro _ w ⟨A37, n38, c39, rfl, hn40, hs1⟩ a hf
          have hs : St [] W w [.blk b1 25 [.slice A_p0_1 p0.A.length c_p0_1, .slice A_p0_2 p0.B.length c_p0_2, .slice A_p0_3 p0.C.length c_p0_3], .mat A10 n11 c12 23 2 vs14 r8.A, .row A15 n16 c17 2 1 (ints r8.B), .row A19 n20 c21 2 1 (ints r8.C), .row A25 n26 c27 2 1 (ints r23), .row A31 n32 c33 2 1 (ints r29), .row A37 n38 c39 2 1 (ints r35)] := hs.join hs1
          clear hs1
          obtain ⟨r41, hc42, hm⟩ := bind_some hm
          refine sCall hf rfl rfl rfl rfl (cap := []) rfl rfl en25 (spec_MeetsDue_ok F r8 A10 n11 c12 hn13 A15 n16 c17 hn18 A19 n20 c21 hn22 r23 A25 n26 c27 hn28 r29 A31 n32 c33 hn34 r35 A37 n38 c39 hn40 _ _ hc42 (hs.rdM (i := 1) rfl) (hs.rd (i := 2) rfl) (hs.rd (i := 3) rfl) (hs.rd (i := 4) rfl) (hs.rd (i := 5) rfl) (hs.rd (i := 6) rfl)) ?_; clear hf
          rintro _ w ⟨rfl, hs1⟩ a hf
          have hs : St [] W w [.blk b1 25 [.slice A_p0_1 p0.A.length c_p0_1, .slice A_p0_2 p0.B.length c_p0_2, .slice A_p0_3 p0.C.length c_p0_3], .mat A10 n11 c12 23 2 vs14 r8.A, .row A15 n16 c17 2 1 (ints r8.B), .row A19 n20 c21 2 1 (ints r8.C), .row A25 n26 c27 2 1 (ints r23), .row A31 n32 c33 2 1 (ints r29), .row A37 n38 c39 2 1 (ints r35)] := hs.ext hs1.below
          clear hs1
          refine sY hf hs rfl rfl rfl (Y_move rfl rfl) ?_; clear hf; intro a hf
          refine sY hf hs rfl rfl rfl (Y_extract rfl rfl rfl) ?_; clear hf; intro a hf
          refine sY hf hs rfl rfl rfl (Y_extract rfl rfl rfl) ?_; clear hf; intro a hf
          refine sY hf hs rfl rfl rfl (Y_assign rfl rfl) ?_; clear hf; intro a hf
          refine sY hf hs rfl rfl rfl (Y_assign rfl rfl) ?_; clear hf; intro a hf
          refine wpO_nil ?_
          refine wpL_seq ?_
          refine wpL_region ?_
          refine sY hf hs rfl rfl rfl (Y_load_blkS rfl rfl (i := 0) rfl ag25 ti25 rfl) ?_; clear hf; intro a hf
          obtain ⟨r43, hc44, hm⟩ := bind_some hm
          refine sCall hf rfl rfl rfl rfl (cap := []) rfl rfl en17 (laws_toSystem_ok F p0 A_p0_1 p0.A.length c_p0_1 rfl A_p0_2 p0.B.length c_p0_2 rfl A_p0_3 p0.C.length c_p0_3 rfl _ _ hc44 (h_p0_1.at hs) (h_p0_2.at hs) (h_p0_3.at hs)) ?_; clear hf
          rintro _ w ⟨A45, n46, c47, vs49, A50, n51, c52, A54, n55, c56, rfl, hn48, hn53, hn57, hs1⟩ a hf
          have hs : St [] W w [.blk b1 25 [.slice A_p0_1 p0.A.length c_p0_1, .slice A_p0_2 p0.B.length c_p0_2, .slice A_p0_3 p0.C.length c_p0_3], .mat A10 n11 c12 23 2 vs14 r8.A, .row A15 n16 c17 2 1 (ints r8.B), .row A19 n20 c21 2 1 (ints r8.C), .row A25 n26 c27 2 1 (ints r23), .row A31 n32 c33 2 1 (ints r29), .row A37 n38 c39 2 1 (ints r35), .mat A45 n46 c47 23 2 vs49 r43.A, .row A50 n51 c52 2 1 (ints r43.B), .row A54 n55 c56 2 1 (ints r43.C)] := hs.join hs1
          clear hs1
          refine sAlloc hf hs rfl rfl rfl rfl ti29 ?_; clear hf hs; intro a w b58 hs hf
          have hs : St [] W w [.blk b1 25 [.slice A_p0_1 p0.A.length c_p0_1, .slice A_p0_2 p0.B.length c_p0_2, .slice A_p0_3 p0.C.length c_p0_3], .mat A10 n11 c12 23 2 vs14 r8.A, .row A15 n16 c17 2 1 (ints r8.B), .row A19 n20 c21 2 1 (ints r8.C), .row A25 n26 c27 2 1 (ints r23), .row A31 n32 c33 2 1 (ints r29), .row A37 n38 c39 2 1 (ints r35), .mat A45 n46 c47 23 2 vs49 r43.A, .row A50 n51 c52 2 1 (ints r43.B), .row A54 n55 c56 2 1 (ints r43.C), .blk b58 29 [.slice none 0 0, .slice none 0 0, .slice none 0 0]] := hs
          refine sStore (i := 10) (us := [.slice A45 n46 c47, .slice A50 n51 c52, .slice A54 n55 c56]) hf hs rfl rfl rfl rfl rfl rfl ti29 rfl rfl rfl (Nat.le_of_ble_eq_true rfl) rfl ?_; clear hs; intro w hs
          have hs : St [] W w [.blk b1 25 [.slice A_p0_1 p0.A.length c_p0_1, .slice A_p0_2 p0.B.length c_p0_2, .slice A_p0_3 p0.C.length c_p0_3], .mat A10 n11 c12 23 2 vs14 r8.A, .row A15 n16 c17 2 1 (ints r8.B), .row A19 n20 c21 2 1 (ints r8.C), .row A25 n26 c27 2 1 (ints r23), .row A31 n32 c33 2 1 (ints r29), .row A37 n38 c39 2 1 (ints r35), .mat A45 n46 c47 23 2 vs49 r43.A, .row A50 n51 c52 2 1 (ints r43.B), .row A54 n55 c56 2 1 (ints r43.C), .blk b58 29 [.slice A45 n46 c47, .slice A50 n51 c52, .slice A54 n55 c56]] := hs
          refine wpO_nil ?_
          refine wpL_seq ?_
          refine wpL_region ?_
          refine sY hf hs rfl rfl rfl (Y_move rfl rfl) ?_; clear hf; intro a hf
          obtain ⟨r59, hc60, hm⟩ := bind_some hm
          refine sCall hf rfl rfl rfl rfl (cap := []) rfl rfl en18 (laws_toInt64S_ok F p1 A_p1_1 p1.length c_p1_1 rfl _ _ hc60 (h_p1_1.at hs)) ?_; clear hf
          rintro _ w ⟨A61, n62, c63, rfl, hn64, hs1⟩ a hf
          have hs : St [] W w [.blk b1 25 [.slice A_p0_1 p0.A.length c_p0_1, .slice A_p0_2 p0.B.length c_p0_2, .slice A_p0_3 p0.C.length c_p0_3], .mat A10 n11 c12 23 2 vs14 r8.A, .row A15 n16 c17 2 1 (ints r8.B), .row A19 n20 c21 2 1 (ints r8.C), .row A25 n26 c27 2 1 (ints r23), .row A31 n32 c33 2 1 (ints r29), .row A37 n38 c39 2 1 (ints r35), .mat A45 n46 c47 23 2 vs49 r43.A, .row A50 n51 c52 2 1 (ints r43.B), .row A54 n55 c56 2 1 (ints r43.C), .blk b58 29 [.slice A45 n46 c47, .slice A50 n51 c52, .slice A54 n55 c56], .row A61 n62 c63 2 1 (ints r59)] := hs.join hs1
          clear hs1
          refine sY hf hs rfl rfl rfl (Y_assign rfl rfl) ?_; clear hf; intro a hf
          refine wpO_nil ?_
          refine wpL_seq ?_
          refine wpL_region ?_
          refine sY hf hs rfl rfl rfl (Y_move rfl rfl) ?_; clear hf; intro a hf
          obtain ⟨r65, hc66, hm⟩ := bind_some hm
          refine sCall hf rfl rfl rfl rfl (cap := []) rfl rfl en18 (laws_toInt64S_ok F p2 A_p2_1 p2.length c_p2_1 rfl _ _ hc66 (h_p2_1.at hs)) ?_; clear hf
          rintro _ w ⟨A67, n68, c69, rfl, hn70, hs1⟩ a hf
          have hs : St [] W w [.blk b1 25 [.slice A_p0_1 p0.A.length c_p0_1, .slice A_p0_2 p0.B.length c_p0_2, .slice A_p0_3 p0.C.length c_p0_3], .mat A10 n11 c12 23 2 vs14 r8.A, .row A15 n16 c17 2 1 (ints r8.B), .row A19 n20 c21 2 1 (ints r8.C), .row A25 n26 c27 2 1 (ints r23), .row A31 n32 c33 2 1 (ints r29), .row A37 n38 c39 2 1 (ints r35), .mat A45 n46 c47 23 2 vs49 r43.A, .row A50 n51 c52 2 1 (ints r43.B), .row A54 n55 c56 2 1 (ints r43.C), .blk b58 29 [.slice A45 n46 c47, .slice A50 n51 c52, .slice A54 n55 c56], .row A61 n62 c63 2 1 (ints r59), .row A67 n68 c69 2 1 (ints r65)] := hs.join hs1
          clear hs1
          refine sY hf hs rfl rfl rfl (Y_assign rfl rfl) ?_; clear hf; intro a hf
          refine wpO_nil ?_
          refine wpL_seq ?_
          refine wpL_region ?_
          refine sY hf hs rfl rfl rfl (Y_move rfl rfl) ?_; clear hf; intro a hf
          obtain ⟨r71, hc72, hm⟩ := bind_some hm
          refine sCall hf rfl rfl rfl rfl (cap := []) rfl rfl en18 (laws_toInt64S_ok F p3 A_p3_1 p3.length c_p3_1 rfl _ _ hc72 (h_p3_1.at hs)) ?_; clear hf
          rintro _ w ⟨A73, n74, c75, rfl, hn76, hs1⟩ a hf
          have hs : St [] W w [.blk b1 25 [.slice A_p0_1 p0.A.length c_p0_1, .slice A_p0_2 p0.B.length c_p0_2, .slice A_p0_3 p0.C.length c_p0_3], .mat A10 n11 c12 23 2 vs14 r8.A, .row A15 n16 c17 2 1 (ints r8.B), .row A19 n20 c21 2 1 (ints r8.C), .row A25 n26 c27 2 1 (ints r23), .row A31 n32 c33 2 1 (ints r29), .row A37 n38 c39 2 1 (ints r35), .mat A45 n46 c47 23 2 vs49 r43.A, .row A50 n51 c52 2 1 (ints r43.B), .row A54 n55 c56 2 1 (ints r43.C), .blk b58 29 [.slice A45 n46 c47, .slice A50 n51 c52, .slice A54 n55 c56], .row A61 n62 c63 2 1 (ints r59), .row A67 n68 c69 2 1 (ints r65), .row A73 n74 c75 2 1 (ints r71)] := hs.join hs1
          clear hs1
          refine sY hf hs rfl rfl rfl (Y_assign rfl rfl) ?_; clear hf; intro a hf
          refine wpO_nil ?_
          refine wpL_seq ?_
          refine wpL_region ?_
          refine sY hf hs rfl rfl rfl (Y_load_blkS rfl rfl (i := 10) rfl ag29 ti29 rfl) ?_; clear hf; intro a hf
          refine sY hf hs rfl rfl rfl (Y_move rfl rfl) ?_; clear hf; intro a hf
          refine sY hf hs rfl rfl rfl (Y_move rfl rfl) ?_; clear hf; intro a hf
          refine sY hf hs rfl rfl rfl (Y_move rfl rfl) ?_; clear hf; intro a hf
          obtain ⟨r77, hc78, hm⟩ := bind_some hm
          refine sCall hf rfl rfl rfl rfl (cap := []) rfl rfl en26 (impl_MeetsDue_ok F r43 A45 n46 c47 hn48 A50 n51 c52 hn53 A54 n55 c56 hn57 r59 A61 n62 c63 hn64 r65 A67 n68 c69 hn70 r71 A73 n74 c75 hn76 _ _ hc78 (hs.rdM (i := 7) rfl) (hs.rd (i := 8) rfl) (hs.rd (i := 9) rfl) (hs.rd (i := 11) rfl) (hs.rd (i := 12) rfl) (hs.rd (i := 13) rfl)) ?_; clear hf
          rintro _ w ⟨rfl, hs1⟩ a hf
          have hs : St [] W w [.blk b1 25 [.slice A_p0_1 p0.A.length c_p0_1, .slice A_p0_2 p0.B.length c_p0_2, .slice A_p0_3 p0.C.length c_p0_3], .mat A10 n11 c12 23 2 vs14 r8.A, .row A15 n16 c17 2 1 (ints r8.B), .row A19 n20 c21 2 1 (ints r8.C), .row A25 n26 c27 2 1 (ints r23), .row A31 n32 c33 2 1 (ints r29), .row A37 n38 c39 2 1 (ints r35), .mat A45 n46 c47 23 2 vs49 r43.A, .row A50 n51 c52 2 1 (ints r43.B), .row A54 n55 c56 2 1 (ints r43.C), .blk b58 29 [.slice A45 n46 c47, .slice A50 n51 c52, .slice A54 n55 c56], .row A61 n62 c63 2 1 (ints r59), .row A67 n68 c69 2 1 (ints r65), .row A73 n74 c75 2 1 (ints r71)] := hs.ext hs1.below
          clear hs1
          refine sY hf hs rfl rfl rfl (Y_move rfl rfl) ?_; clear hf; intro a hf
          refine sY hf hs rfl rfl rfl (Y_extract rfl rfl rfl) ?_; clear hf; intro a hf
          refine sY hf hs rfl rfl rfl (Y_extract rfl rfl rfl) ?_; clear hf; intro a hf
          refine sY hf hs rfl rfl rfl (Y_assign rfl rfl) ?_; clear hf; intro a hf
          refine sY hf hs rfl rfl rfl (Y_assign rfl rfl) ?_; clear hf; intro a hf
          refine wpO_nil ?_
          refine wpL_seq ?_
          refine wpL_seq ?_
          obtain ⟨r81, hj82, hm⟩ := bind_some hm
          refine wpL_cut (fun a w => ∃ b80 : Bool, b80 = r81 ∧ Fr a 88 [(1, .slice A_p1_1 p1.length c_p1_1), (2, .slice A_p2_1 p2.length c_p2_1), (3, .slice A_p3_1 p3.length c_p3_1), (4, .pointer (some ⟨b1, 0, none⟩)), (12, .pointer (some ⟨b58, 0, none⟩)), (13, .slice A61 n62 c63), (14, .slice A67 n68 c69), (15, .slice A73 n74 c75), (67, .bool b80)] ∧ St [] W w [.blk b1 25 [.slice A_p0_1 p0.A.length c_p0_1, .slice A_p0_2 p0.B.length c_p0_2, .slice A_p0_3 p0.C.length c_p0_3], .blk b58 29 [.slice A45 n46 c47, .slice A50 n51 c52, .slice A54 n55 c56], .mat A45 n46 c47 23 2 vs49 r43.A, .row A50 n51 c52 2 1 (ints r43.B), .row A54 n55 c56 2 1 (ints r43.C), .row A61 n62 c63 2 1 (ints r59), .row A67 n68 c69 2 1 (ints r65), .row A73 n74 c75 2 1 (ints r71)]) ?_ ?_
          · refine wpL_region ?_
            refine sY hf hs rfl rfl rfl (Y_move rfl rfl) ?_; clear hf; intro a hf
            refine sY hf hs rfl rfl rfl (Y_move rfl rfl) ?_; clear hf; intro a hf
            refine sY hf hs rfl rfl rfl (Y_neqB rfl rfl rfl Try.underlying4) ?_; clear hf; intro a hf
            refine sY hf hs rfl rfl rfl (Y_move rfl rfl) ?_; clear hf; intro a hf
            refine bsplit (r77.1 != r41.1) (fun hb83 => ?_) (fun hb83 => ?_)
            · have hj82 := bif_t hj82 hb83
              refine sNo hf rfl rfl rfl (congrArg (fun b => some (Value.bool b)) hb83) rfl rfl rfl ?_; clear hf; intro a hf
              refine sNo hf rfl rfl rfl (congrArg (fun b => some (Value.bool b)) hb83) rfl rfl rfl ?_; clear hf; intro a hf
              refine sNo hf rfl rfl rfl (congrArg (fun b => some (Value.bool b)) hb83) rfl rfl rfl ?_; clear hf; intro a hf
              refine sY hf hs rfl rfl rfl (Y_pickT rfl (congrArg (fun b => some (Value.bool b)) hb83) rfl) ?_; clear hf; intro a hf
              refine wpO_nil ?_
              refine wpL_nil (then_normal ?_)
              exact ⟨true, Option.some.inj hj82, (Fr.pick (Fr.pick (Fr.pick (Fr.pick (Fr.pick (Fr.pick (Fr.pick (Fr.pick (Fr.pick hf.none hf rfl) hf rfl) hf rfl) hf rfl) hf rfl) hf rfl) hf rfl) hf rfl) hf rfl), hs.sel [0, 10, 7, 8, 9, 11, 12, 13] (by decide)⟩
            · have hj82 := bif_f hj82 hb83
              refine sYg hf hs rfl rfl rfl (congrArg (fun b => some (Value.bool b)) hb83) rfl rfl rfl (Y_move rfl rfl) ?_; clear hf; intro a hf
              refine sYg hf hs rfl rfl rfl (congrArg (fun b => some (Value.bool b)) hb83) rfl rfl rfl (Y_move rfl rfl) ?_; clear hf; intro a hf
              refine sYg hf hs rfl rfl rfl (congrArg (fun b => some (Value.bool b)) hb83) rfl rfl rfl (Y_neq rfl rfl rfl) ?_; clear hf; intro a hf
              refine sY hf hs rfl rfl rfl (Y_pickF rfl (congrArg (fun b => some (Value.bool b)) hb83) rfl) ?_; clear hf; intro a hf
              refine wpO_nil ?_
              refine wpL_nil (then_normal ?_)
              exact ⟨(r77.2 != r41.2), Option.some.inj hj82, (Fr.pick (Fr.pick (Fr.pick (Fr.pick (Fr.pick (Fr.pick (Fr.pick (Fr.pick (Fr.pick hf.none hf rfl) hf rfl) hf rfl) hf rfl) hf rfl) hf rfl) hf rfl) hf rfl) hf rfl), hs.sel [0, 10, 7, 8, 9, 11, 12, 13] (by decide)⟩
          · rintro a w ⟨b80, hr_, hf, hs⟩
            subst hr_
            try dsimp only at hm
            refine wpL_cond hf rfl (fun hb84 => ?_) (fun hb84 => ?_)
            · have hm := bif_t hm hb84
              refine wpL_seq ?_
              refine wpL_region ?_
              refine sY hf hs rfl rfl rfl (Y_assign rfl rfl) ?_; clear hf; intro a hf
              refine wpO_nil ?_
              obtain rfl := Option.some.inj hm
              refine wpL_ret (ret_tmp rfl hf rfl ?_)
              exact ⟨_, rfl, rfl, hs.sel [] (by decide)⟩
            · have hm := bif_f hm hb84
              refine wpL_skip ?_
              refine wpL_seq ?_
              refine wpL_seq ?_
              refine wpL_drawG [.blk b1 25 [.slice A_p0_1 p0.A.length c_p0_1, .slice A_p0_2 p0.B.length c_p0_2, .slice A_p0_3 p0.C.length c_p0_3], .blk b58 29 [.slice A45 n46 c47, .slice A50 n51 c52, .slice A54 n55 c56], .mat A45 n46 c47 23 2 vs49 r43.A, .row A50 n51 c52 2 1 (ints r43.B), .row A54 n55 c56 2 1 (ints r43.C), .row A61 n62 c63 2 1 (ints r59), .row A67 n68 c69 2 1 (ints r65), .row A73 n74 c75 2 1 (ints r71)] 5 (by kernel_rfl) hs ?_; clear hs; intro w hs
              have hs0 : St [] W w [.blk b1 25 [.slice A_p0_1 p0.A.length c_p0_1, .slice A_p0_2 p0.B.length c_p0_2, .slice A_p0_3 p0.C.length c_p0_3], .blk b58 29 [.slice A45 n46 c47, .slice A50 n51 c52, .slice A54 n55 c56], .mat A45 n46 c47 23 2 vs49 r43.A, .row A50 n51 c52 2 1 (ints r43.B), .row A54 n55 c56 2 1 (ints r43.C), .row A61 n62 c63 2 1 (ints r59), .row A67 n68 c69 2 1 (ints r65), .row A73 n74 c75 2 1 (ints r71)] := hs
              refine gY (i := 0) [] rfl (by kernel_rfl) (by kernel_rfl) hf hs0 rfl rfl rfl (Y_load_blkS rfl rfl (i := 1) rfl ag29 ti29 rfl) ?_; clear hf; intro a hf
              refine gY (i := 1) [] rfl (by kernel_rfl) (by kernel_rfl) hf hs0 rfl rfl rfl (Y_load_blkS rfl rfl (i := 0) rfl ag25 ti25 rfl) ?_; clear hf; intro a hf
              refine gRun (i := 2) rfl (by kernel_rfl) ?_
              obtain ⟨r102, hc103, hm⟩ := bind_some hm
              refine sCall hf rfl rfl rfl rfl (cap := []) rfl rfl en17 (laws_toSystem_ok F p0 A_p0_1 p0.A.length c_p0_1 rfl A_p0_2 p0.B.length c_p0_2 rfl A_p0_3 p0.C.length c_p0_3 rfl _ _ hc103 (h_p0_1.at hs) (h_p0_2.at hs) (h_p0_3.at hs)) ?_; clear hf
              rintro _ w ⟨A104, n105, c106, vs108, A109, n110, c111, A113, n114, c115, rfl, hn107, hn112, hn116, hs1⟩ a hf
              have hs : St [] W w [.blk b1 25 [.slice A_p0_1 p0.A.length c_p0_1, .slice A_p0_2 p0.B.length c_p0_2, .slice A_p0_3 p0.C.length c_p0_3], .blk b58 29 [.slice A45 n46 c47, .slice A50 n51 c52, .slice A54 n55 c56], .mat A45 n46 c47 23 2 vs49 r43.A, .row A50 n51 c52 2 1 (ints r43.B), .row A54 n55 c56 2 1 (ints r43.C), .row A61 n62 c63 2 1 (ints r59), .row A67 n68 c69 2 1 (ints r65), .row A73 n74 c75 2 1 (ints r71), .mat A104 n105 c106 23 2 vs108 r102.A, .row A109 n110 c111 2 1 (ints r102.B), .row A113 n114 c115 2 1 (ints r102.C)] := hs.join hs1
              clear hs1
              have hs0 : St [] W w [.blk b1 25 [.slice A_p0_1 p0.A.length c_p0_1, .slice A_p0_2 p0.B.length c_p0_2, .slice A_p0_3 p0.C.length c_p0_3], .blk b58 29 [.slice A45 n46 c47, .slice A50 n51 c52, .slice A54 n55 c56], .mat A45 n46 c47 23 2 vs49 r43.A, .row A50 n51 c52 2 1 (ints r43.B), .row A54 n55 c56 2 1 (ints r43.C), .row A61 n62 c63 2 1 (ints r59), .row A67 n68 c69 2 1 (ints r65), .row A73 n74 c75 2 1 (ints r71)] := hs.sel [0, 1, 2, 3, 4, 5, 6, 7] (by decide)
              refine wpO_nil ⟨Or.inr hs0, ?_⟩
              refine gRun (i := 3) rfl (by kernel_rfl) ?_
              obtain ⟨r117, hc118, hm⟩ := bind_some hm
              refine sCall hf rfl rfl rfl rfl (cap := []) rfl rfl en21 (laws_eqSystem_ok F r43 A45 n46 c47 hn48 A50 n51 c52 hn53 A54 n55 c56 hn57 r102 A104 n105 c106 hn107 A109 n110 c111 hn112 A113 n114 c115 hn116 _ _ hc118 (hs.rdM (i := 2) rfl) (hs.rd (i := 3) rfl) (hs.rd (i := 4) rfl) (hs.rdM (i := 8) rfl) (hs.rd (i := 9) rfl) (hs.rd (i := 10) rfl)) ?_; clear hf
              rintro _ w ⟨rfl, hs1⟩ a hf
              have hs : St [] W w [.blk b1 25 [.slice A_p0_1 p0.A.length c_p0_1, .slice A_p0_2 p0.B.length c_p0_2, .slice A_p0_3 p0.C.length c_p0_3], .blk b58 29 [.slice A45 n46 c47, .slice A50 n51 c52, .slice A54 n55 c56], .mat A45 n46 c47 23 2 vs49 r43.A, .row A50 n51 c52 2 1 (ints r43.B), .row A54 n55 c56 2 1 (ints r43.C), .row A61 n62 c63 2 1 (ints r59), .row A67 n68 c69 2 1 (ints r65), .row A73 n74 c75 2 1 (ints r71), .mat A104 n105 c106 23 2 vs108 r102.A, .row A109 n110 c111 2 1 (ints r102.B), .row A113 n114 c115 2 1 (ints r102.C)] := hs.ext hs1.below
              clear hs1
              have hs0 : St [] W w [.blk b1 25 [.slice A_p0_1 p0.A.length c_p0_1, .slice A_p0_2 p0.B.length c_p0_2, .slice A_p0_3 p0.C.length c_p0_3], .blk b58 29 [.slice A45 n46 c47, .slice A50 n51 c52, .slice A54 n55 c56], .mat A45 n46 c47 23 2 vs49 r43.A, .row A50 n51 c52 2 1 (ints r43.B), .row A54 n55 c56 2 1 (ints r43.C), .row A61 n62 c63 2 1 (ints r59), .row A67 n68 c69 2 1 (ints r65), .row A73 n74 c75 2 1 (ints r71)] := hs.sel [0, 1, 2, 3, 4, 5, 6, 7] (by decide)
              refine wpO_nil ⟨Or.inr hs0, ?_⟩
              refine gY (i := 4) [] rfl (by kernel_rfl) (by kernel_rfl) hf hs0 rfl rfl rfl (Y_not rfl rfl) ?_; clear hf; intro a hf
              refine gDone (by kernel_rfl) ?_
              clear hs0
              refine wpL_cond hf rfl (fun hb119 => ?_) (fun hb119 => ?_)
              · have hm := bif_t hm hb119
                refine wpL_seq ?_
                refine wpL_region ?_
                refine sY hf hs rfl rfl rfl (Y_assign rfl rfl) ?_; clear hf; intro a hf
                refine wpO_nil ?_
                obtain rfl := Option.some.inj hm
                refine wpL_ret (ret_tmp rfl hf rfl ?_)
                exact ⟨_, rfl, rfl, hs.sel [] (by decide)⟩
              · have hm := bif_f hm hb119
                refine wpL_skip ?_
                refine wpL_seq ?_
                refine wpL_seq ?_
                refine wpL_region ?_
                refine sY hf hs rfl rfl rfl (Y_move rfl rfl) ?_; clear hf; intro a hf
                refine sY hf hs rfl rfl rfl (Y_move rfl rfl) ?_; clear hf; intro a hf
                obtain ⟨r120, hc121, hm⟩ := bind_some hm
                refine sCall hf rfl rfl rfl rfl (cap := []) rfl rfl en18 (laws_toInt64S_ok F p1 A_p1_1 p1.length c_p1_1 rfl _ _ hc121 (h_p1_1.at hs)) ?_; clear hf
                rintro _ w ⟨A122, n123, c124, rfl, hn125, hs1⟩ a hf
                have hs : St [] W w [.blk b1 25 [.slice A_p0_1 p0.A.length c_p0_1, .slice A_p0_2 p0.B.length c_p0_2, .slice A_p0_3 p0.C.length c_p0_3], .blk b58 29 [.slice A45 n46 c47, .slice A50 n51 c52, .slice A54 n55 c56], .mat A45 n46 c47 23 2 vs49 r43.A, .row A50 n51 c52 2 1 (ints r43.B), .row A54 n55 c56 2 1 (ints r43.C), .row A61 n62 c63 2 1 (ints r59), .row A67 n68 c69 2 1 (ints r65), .row A73 n74 c75 2 1 (ints r71), .mat A104 n105 c106 23 2 vs108 r102.A, .row A109 n110 c111 2 1 (ints r102.B), .row A113 n114 c115 2 1 (ints r102.C), .row A122 n123 c124 2 1 (ints r120)] := hs.join hs1
                clear hs1
                obtain ⟨r126, hc127, hm⟩ := bind_some hm
                refine sCall hf rfl rfl rfl rfl (cap := []) rfl rfl en20 (laws_eqInt64S_ok F r59 A61 n62 c63 hn64 r120 A122 n123 c124 hn125 _ _ hc127 (hs.rd (i := 5) rfl) (hs.rd (i := 11) rfl)) ?_; clear hf
                rintro _ w ⟨rfl, hs1⟩ a hf
                have hs : St [] W w [.blk b1 25 [.slice A_p0_1 p0.A.length c_p0_1, .slice A_p0_2 p0.B.length c_p0_2, .slice A_p0_3 p0.C.length c_p0_3], .blk b58 29 [.slice A45 n46 c47, .slice A50 n51 c52, .slice A54 n55 c56], .mat A45 n46 c47 23 2 vs49 r43.A, .row A50 n51 c52 2 1 (ints r43.B), .row A54 n55 c56 2 1 (ints r43.C), .row A61 n62 c63 2 1 (ints r59), .row A67 n68 c69 2 1 (ints r65), .row A73 n74 c75 2 1 (ints r71), .mat A104 n105 c106 23 2 vs108 r102.A, .row A109 n110 c111 2 1 (ints r102.B), .row A113 n114 c115 2 1 (ints r102.C), .row A122 n123 c124 2 1 (ints r120)] := hs.ext hs1.below
                clear hs1
                refine sY hf hs rfl rfl rfl (Y_not rfl rfl) ?_; clear hf; intro a hf
                refine wpO_nil ?_
                refine wpL_cond hf rfl (fun hb128 => ?_) (fun hb128 => ?_)
                · have hm := bif_t hm hb128
                  refine wpL_seq ?_
                  refine wpL_region ?_
                  refine sY hf hs rfl rfl rfl (Y_assign rfl rfl) ?_; clear hf; intro a hf
                  refine wpO_nil ?_
                  obtain rfl := Option.some.inj hm
                  refine wpL_ret (ret_tmp rfl hf rfl ?_)
                  exact ⟨_, rfl, rfl, hs.sel [] (by decide)⟩
                · have hm := bif_f hm hb128
                  refine wpL_skip ?_
                  refine wpL_seq ?_
                  refine wpL_seq ?_
                  refine wpL_region ?_
                  refine sY hf hs rfl rfl rfl (Y_move rfl rfl) ?_; clear hf; intro a hf
                  refine sY hf hs rfl rfl rfl (Y_move rfl rfl) ?_; clear hf; intro a hf
                  obtain ⟨r129, hc130, hm⟩ := bind_some hm
                  refine sCall hf rfl rfl rfl rfl (cap := []) rfl rfl en18 (laws_toInt64S_ok F p2 A_p2_1 p2.length c_p2_1 rfl _ _ hc130 (h_p2_1.at hs)) ?_; clear hf
                  rintro _ w ⟨A131, n132, c133, rfl, hn134, hs1⟩ a hf
                  have hs : St [] W w [.blk b1 25 [.slice A_p0_1 p0.A.length c_p0_1, .slice A_p0_2 p0.B.length c_p0_2, .slice A_p0_3 p0.C.length c_p0_3], .blk b58 29 [.slice A45 n46 c47, .slice A50 n51 c52, .slice A54 n55 c56], .mat A45 n46 c47 23 2 vs49 r43.A, .row A50 n51 c52 2 1 (ints r43.B), .row A54 n55 c56 2 1 (ints r43.C), .row A61 n62 c63 2 1 (ints r59), .row A67 n68 c69 2 1 (ints r65), .row A73 n74 c75 2 1 (ints r71), .mat A104 n105 c106 23 2 vs108 r102.A, .row A109 n110 c111 2 1 (ints r102.B), .row A113 n114 c115 2 1 (ints r102.C), .row A122 n123 c124 2 1 (ints r120), .row A131 n132 c133 2 1 (ints r129)] := hs.join hs1
                  clear hs1
                  obtain ⟨r135, hc136, hm⟩ := bind_some hm
                  refine sCall hf rfl rfl rfl rfl (cap := []) rfl rfl en20 (laws_eqInt64S_ok F r65 A67 n68 c69 hn70 r129 A131 n132 c133 hn134 _ _ hc136 (hs.rd (i := 6) rfl) (hs.rd (i := 12) rfl)) ?_; clear hf
                  rintro _ w ⟨rfl, hs1⟩ a hf
                  have hs : St [] W w [.blk b1 25 [.slice A_p0_1 p0.A.length c_p0_1, .slice A_p0_2 p0.B.length c_p0_2, .slice A_p0_3 p0.C.length c_p0_3], .blk b58 29 [.slice A45 n46 c47, .slice A50 n51 c52, .slice A54 n55 c56], .mat A45 n46 c47 23 2 vs49 r43.A, .row A50 n51 c52 2 1 (ints r43.B), .row A54 n55 c56 2 1 (ints r43.C), .row A61 n62 c63 2 1 (ints r59), .row A67 n68 c69 2 1 (ints r65), .row A73 n74 c75 2 1 (ints r71), .mat A104 n105 c106 23 2 vs108 r102.A, .row A109 n110 c111 2 1 (ints r102.B), .row A113 n114 c115 2 1 (ints r102.C), .row A122 n123 c124 2 1 (ints r120), .row A131 n132 c133 2 1 (ints r129)] := hs.ext hs1.below
                  clear hs1
                  refine sY hf hs rfl rfl rfl (Y_not rfl rfl) ?_; clear hf; intro a hf
                  refine wpO_nil ?_
                  refine wpL_cond hf rfl (fun hb137 => ?_) (fun hb137 => ?_)
                  · have hm := bif_t hm hb137
                    refine wpL_seq ?_
                    refine wpL_region ?_
                    refine sY hf hs rfl rfl rfl (Y_assign rfl rfl) ?_; clear hf; intro a hf
                    refine wpO_nil ?_
                    obtain rfl := Option.some.inj hm
                    refine wpL_ret (ret_tmp rfl hf rfl ?_)
                    exact ⟨_, rfl, rfl, hs.sel [] (by decide)⟩
                  · have hm := bif_f hm hb137
                    refine wpL_skip ?_
                    refine wpL_seq ?_
                    refine wpL_seq ?_
                    refine wpL_region ?_
                    refine sY hf hs rfl rfl rfl (Y_move rfl rfl) ?_; clear hf; intro a hf
                    refine sY hf hs rfl rfl rfl (Y_move rfl rfl) ?_; clear hf; intro a hf
                    obtain ⟨r138, hc139, hm⟩ := bind_some hm
                    refine sCall hf rfl rfl rfl rfl (cap := []) rfl rfl en18 (laws_toInt64S_ok F p3 A_p3_1 p3.length c_p3_1 rfl _ _ hc139 (h_p3_1.at hs)) ?_; clear hf
                    rintro _ w ⟨A140, n141, c142, rfl, hn143, hs1⟩ a hf
                    have hs : St [] W w [.blk b1 25 [.slice A_p0_1 p0.A.length c_p0_1, .slice A_p0_2 p0.B.length c_p0_2, .slice A_p0_3 p0.C.length c_p0_3], .blk b58 29 [.slice A45 n46 c47, .slice A50 n51 c52, .slice A54 n55 c56], .mat A45 n46 c47 23 2 vs49 r43.A, .row A50 n51 c52 2 1 (ints r43.B), .row A54 n55 c56 2 1 (ints r43.C), .row A61 n62 c63 2 1 (ints r59), .row A67 n68 c69 2 1 (ints r65), .row A73 n74 c75 2 1 (ints r71), .mat A104 n105 c106 23 2 vs108 r102.A, .row A109 n110 c111 2 1 (ints r102.B), .row A113 n114 c115 2 1 (ints r102.C), .row A122 n123 c124 2 1 (ints r120), .row A131 n132 c133 2 1 (ints r129), .row A140 n141 c142 2 1 (ints r138)] := hs.join hs1
                    clear hs1
                    obtain ⟨r144, hc145, hm⟩ := bind_some hm
                    refine sCall hf rfl rfl rfl rfl (cap := []) rfl rfl en20 (laws_eqInt64S_ok F r71 A73 n74 c75 hn76 r138 A140 n141 c142 hn143 _ _ hc145 (hs.rd (i := 7) rfl) (hs.rd (i := 13) rfl)) ?_; clear hf
                    rintro _ w ⟨rfl, hs1⟩ a hf
                    have hs : St [] W w [.blk b1 25 [.slice A_p0_1 p0.A.length c_p0_1, .slice A_p0_2 p0.B.length c_p0_2, .slice A_p0_3 p0.C.length c_p0_3], .blk b58 29 [.slice A45 n46 c47, .slice A50 n51 c52, .slice A54 n55 c56], .mat A45 n46 c47 23 2 vs49 r43.A, .row A50 n51 c52 2 1 (ints r43.B), .row A54 n55 c56 2 1 (ints r43.C), .row A61 n62 c63 2 1 (ints r59), .row A67 n68 c69 2 1 (ints r65), .row A73 n74 c75 2 1 (ints r71), .mat A104 n105 c106 23 2 vs108 r102.A, .row A109 n110 c111 2 1 (ints r102.B), .row A113 n114 c115 2 1 (ints r102.C), .row A122 n123 c124 2 1 (ints r120), .row A131 n132 c133 2 1 (ints r129), .row A140 n141 c142 2 1 (ints r138)] := hs.ext hs1.below
                    clear hs1
                    refine sY hf hs rfl rfl rfl (Y_not rfl rfl) ?_; clear hf; intro a hf
                    refine wpO_nil ?_
                    refine wpL_cond hf rfl (fun hb146 => ?_) (fun hb146 => ?_)
                    · have hm := bif_t hm hb146
                      refine wpL_seq ?_
                      refine wpL_region ?_
                      refine sY hf hs rfl rfl rfl (Y_assign rfl rfl) ?_; clear hf; intro a hf
                      refine wpO_nil ?_
                      obtain rfl := Option.some.inj hm
                      refine wpL_ret (ret_tmp rfl hf rfl ?_)
                      exact ⟨_, rfl, rfl, hs.sel [] (by decide)⟩
                    · have hm := bif_f hm hb146
                      refine wpL_skip ?_
                      refine wpL_seq ?_
                      refine wpL_region ?_
                      refine sY hf hs rfl rfl rfl (Y_assign rfl rfl) ?_; clear hf; intro a hf
                      refine wpO_nil ?_
                      obtain rfl := Option.some.inj hm
                      refine wpL_ret (ret_tmp rfl hf rfl ?_)
                      exact ⟨_, rfl, rfl, hs.sel [] (by decide)⟩

end Go.Proofs.Ytcpfhonmmpbadaa
