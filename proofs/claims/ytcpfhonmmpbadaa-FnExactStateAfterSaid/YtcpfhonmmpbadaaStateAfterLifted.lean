/- The functions do what their models say. -/
import Derived.Test.YtcpfhonmmpbadaaStateAfterLifted2
import Derived.Test.YtcpfhonmmpbadaaRows
namespace Go.Proofs.Ytcpfhonmmpbadaa
open Go.RowKit

set_option maxRecDepth 100000 in
theorem laws_FnExactStateAfter_ok (F : Nat) (p0 : LSystem) (A_p0_1 : Option Addr) (n_p0_1 c_p0_1 : Nat) (hn_p0_1 : n_p0_1 = p0.A.length) (A_p0_2 : Option Addr) (n_p0_2 c_p0_2 : Nat) (hn_p0_2 : n_p0_2 = p0.B.length) (A_p0_3 : Option Addr) (n_p0_3 c_p0_3 : Nat) (hn_p0_3 : n_p0_3 = p0.C.length) (p1 : List Int) (A_p1_1 : Option Addr) (n_p1_1 c_p1_1 : Nat) (hn_p1_1 : n_p1_1 = p1.length) (p2 : List Int) (A_p2_1 : Option Addr) (n_p2_1 c_p2_1 : Nat) (hn_p2_1 : n_p2_1 = p2.length) (r : Bool) (W : World) (hm : laws_FnExactStateAfter F p0 p1 p2 = some r) (h_p0_1 : RdM W A_p0_1 p0.A) (h_p0_2 : Rd W A_p0_2 (ints p0.B)) (h_p0_3 : Rd W A_p0_3 (ints p0.C)) (h_p1_1 : Rd W A_p1_1 (ints p1)) (h_p2_1 : Rd W A_p2_1 (ints p2)) :
    Calls Try.prog 6 [.agg #[.slice A_p0_1 n_p0_1 c_p0_1, .slice A_p0_2 n_p0_2 c_p0_2, .slice A_p0_3 n_p0_3 c_p0_3], .slice A_p1_1 n_p1_1 c_p1_1, .slice A_p2_1 n_p2_1 c_p2_1].toArray W fun e w' => ∃ v, e = .returned v ∧ v = .bool r ∧ St [] W w' [] := by
  subst hn_p0_1
  subst hn_p0_2
  subst hn_p0_3
  subst hn_p1_1
  subst hn_p2_1
  unfold laws_FnExactStateAfter at hm
  refine Calls.enter (N := 138) Try.func6 rfl rfl rfl (fun a hf => ?_)
  have hs := St.start W
  obtain ⟨w, hw_⟩ : ∃ w, w = W := ⟨W, rfl⟩
  clear hw_ w
  refine wpL_seq ?_
  refine wpL_region ?_
  refine sBox hf hs rfl rfl rfl rfl rfl (cs := [.slice A_p0_1 p0.A.length c_p0_1, .slice A_p0_2 p0.B.length c_p0_2, .slice A_p0_3 p0.C.length c_p0_3]) rfl ?_; clear hf hs; intro a w b1 hs hf
  have hs : St [] W w [.blk b1 25 [.slice A_p0_1 p0.A.length c_p0_1, .slice A_p0_2 p0.B.length c_p0_2, .slice A_p0_3 p0.C.length c_p0_3]] := hs
  refine sY hf hs rfl rfl rfl (Y_assign rfl rfl) ?_; clear hf; intro a hf
  refine wpO_nil ?_
  refine wpL_seq ?_
  refine wpL_seq ?_
  refine wpL_region ?_
  refine sY hf hs rfl rfl rfl (Y_move rfl rfl) ?_; clear hf; intro a hf
  refine sY hf hs rfl rfl rfl (Y_lenH rfl rfl el23 rfl) ?_; clear hf; intro a hf
  refine sY hf hs rfl rfl rfl (Y_gtr rfl rfl rfl) ?_; clear hf; intro a hf
  refine wpO_nil ?_
  refine wpL_cond hf rfl (fun hb2 => ?_) (fun hb2 => ?_)
  · have hm := bif_t hm hb2
    refine wpL_seq ?_
    refine wpL_region ?_
    refine sY hf hs rfl rfl rfl (Y_assign rfl rfl) ?_; clear hf; intro a hf
    refine wpO_nil ?_
    obtain rfl := Option.some.inj hm
    refine wpL_ret (ret_tmp rfl hf rfl ?_)
    exact ⟨_, rfl, rfl, hs.sel [] (by decide)⟩
  · have hm := bif_f hm hb2
    refine wpL_skip ?_
    refine wpL_seq ?_
    refine wpL_seq ?_
    refine wpL_region ?_
    refine sY hf hs rfl rfl rfl (Y_move rfl rfl) ?_; clear hf; intro a hf
    refine sY hf hs rfl rfl rfl (Y_lenH rfl rfl el23 rfl) ?_; clear hf; intro a hf
    refine sY hf hs rfl rfl rfl (Y_gtr rfl rfl rfl) ?_; clear hf; intro a hf
    refine wpO_nil ?_
    refine wpL_cond hf rfl (fun hb3 => ?_) (fun hb3 => ?_)
    · have hm := bif_t hm hb3
      refine wpL_seq ?_
      refine wpL_region ?_
      refine sY hf hs rfl rfl rfl (Y_assign rfl rfl) ?_; clear hf; intro a hf
      refine wpO_nil ?_
      obtain rfl := Option.some.inj hm
      refine wpL_ret (ret_tmp rfl hf rfl ?_)
      exact ⟨_, rfl, rfl, hs.sel [] (by decide)⟩
    · have hm := bif_f hm hb3
      refine wpL_skip ?_
      refine wpL_seq ?_
      refine wpL_region ?_
      refine sY hf hs rfl rfl rfl (Y_assign rfl rfl) ?_; clear hf; intro a hf
      refine wpO_nil ?_
      refine wpL_seq ?_
      refine wpL_region ?_
      refine sY hf hs rfl rfl rfl (Y_load_blkS rfl rfl (i := 0) rfl ag25 ti25 rfl) ?_; clear hf; intro a hf
      refine sY hf hs rfl rfl rfl (Y_move rfl rfl) ?_; clear hf; intro a hf
      obtain ⟨r4, hc5, hm⟩ := bind_some hm
      refine sCall hf rfl rfl rfl rfl (cap := []) rfl rfl en15 (laws_szSystem_ok F p0 A_p0_1 p0.A.length c_p0_1 rfl A_p0_2 p0.B.length c_p0_2 rfl A_p0_3 p0.C.length c_p0_3 rfl 1048576 _ _ hc5 (h_p0_1.at hs) (h_p0_2.at hs) (h_p0_3.at hs)) ?_; clear hf
      rintro _ w ⟨rfl, hs1⟩ a hf
      have hs : St [] W w [.blk b1 25 [.slice A_p0_1 p0.A.length c_p0_1, .slice A_p0_2 p0.B.length c_p0_2, .slice A_p0_3 p0.C.length c_p0_3]] := hs.ext hs1.below
      clear hs1
      refine sY hf hs rfl rfl rfl (Y_assign rfl rfl) ?_; clear hf; intro a hf
      refine wpO_nil ?_
      refine wpL_seq ?_
      refine wpL_seq ?_
      refine wpL_region ?_
      refine sY hf hs rfl rfl rfl (Y_move rfl rfl) ?_; clear hf; intro a hf
      refine sY hf hs rfl rfl rfl (Y_lss rfl rfl rfl) ?_; clear hf; intro a hf
      refine wpO_nil ?_
      refine wpL_cond hf rfl (fun hb6 => ?_) (fun hb6 => ?_)
      · have hm := bif_t hm hb6
        refine wpL_seq ?_
        refine wpL_region ?_
        refine sY hf hs rfl rfl rfl (Y_assign rfl rfl) ?_; clear hf; intro a hf
        refine wpO_nil ?_
        obtain rfl := Option.some.inj hm
        refine wpL_ret (ret_tmp rfl hf rfl ?_)
        exact ⟨_, rfl, rfl, hs.sel [] (by decide)⟩
      · have hm := bif_f hm hb6
        refine wpL_skip ?_
        refine wpL_seq ?_
        refine wpL_region ?_
        refine sY hf hs rfl rfl rfl (Y_load_blkS rfl rfl (i := 0) rfl ag25 ti25 rfl) ?_; clear hf; intro a hf
        obtain ⟨r7, hc8, hm⟩ := bind_some hm
        refine sCall hf rfl rfl rfl rfl (cap := []) rfl rfl en17 (laws_toSystem_ok F p0 A_p0_1 p0.A.length c_p0_1 rfl A_p0_2 p0.B.length c_p0_2 rfl A_p0_3 p0.C.length c_p0_3 rfl _ _ hc8 (h_p0_1.at hs) (h_p0_2.at hs) (h_p0_3.at hs)) ?_; clear hf
        rintro _ w ⟨A9, n10, c11, vs13, A14, n15, c16, A18, n19, c20, rfl, hn12, hn17, hn21, hs1⟩ a hf
        have hs : St [] W w [.blk b1 25 [.slice A_p0_1 p0.A.length c_p0_1, .slice A_p0_2 p0.B.length c_p0_2, .slice A_p0_3 p0.C.length c_p0_3], .mat A9 n10 c11 23 2 vs13 r7.A, .row A14 n15 c16 2 1 (ints r7.B), .row A18 n19 c20 2 1 (ints r7.C)] := hs.join hs1
        clear hs1
        refine sY hf hs rfl rfl rfl (Y_move rfl rfl) ?_; clear hf; intro a hf
        obtain ⟨r22, hc23, hm⟩ := bind_some hm
        refine sCall hf rfl rfl rfl rfl (cap := []) rfl rfl en18 (laws_toInt64S_ok F p1 A_p1_1 p1.length c_p1_1 rfl _ _ hc23 (h_p1_1.at hs)) ?_; clear hf
        rintro _ w ⟨A24, n25, c26, rfl, hn27, hs1⟩ a hf
        have hs : St [] W w [.blk b1 25 [.slice A_p0_1 p0.A.length c_p0_1, .slice A_p0_2 p0.B.length c_p0_2, .slice A_p0_3 p0.C.length c_p0_3], .mat A9 n10 c11 23 2 vs13 r7.A, .row A14 n15 c16 2 1 (ints r7.B), .row A18 n19 c20 2 1 (ints r7.C), .row A24 n25 c26 2 1 (ints r22)] := hs.join hs1
        clear hs1
        refine sY hf hs rfl rfl rfl (Y_move rfl rfl) ?_; clear hf; intro a hf
        obtain ⟨r28, hc29, hm⟩ := bind_some hm
        refine sCall hf rfl rfl rfl rfl (cap := []) rfl rfl en18 (laws_toInt64S_ok F p2 A_p2_1 p2.length c_p2_1 rfl _ _ hc29 (h_p2_1.at hs)) ?_; clear hf
        rintro _ w ⟨A30, n31, c32, rfl, hn33, hs1⟩ a hf
        have hs : St [] W w [.blk b1 25 [.slice A_p0_1 p0.A.length c_p0_1, .slice A_p0_2 p0.B.length c_p0_2, .slice A_p0_3 p0.C.length c_p0_3], .mat A9 n10 c11 23 2 vs13 r7.A, .row A14 n15 c16 2 1 (ints r7.B), .row A18 n19 c20 2 1 (ints r7.C), .row A24 n25 c26 2 1 (ints r22), .row A30 n31 c32 2 1 (ints r28)] := hs.join hs1
        clear hs1
        obtain ⟨r34, hc35, hm⟩ := bind_some hm
        refine sCall hf rfl rfl rfl rfl (cap := []) rfl rfl en29 (spec_StateAfter_ok F r7 A9 n10 c11 hn12 A14 n15 c16 hn17 A18 n19 c20 hn21 r22 A24 n25 c26 hn27 r28 A30 n31 c32 hn33 _ _ hc35 (hs.rdM (i := 1) rfl) (hs.rd (i := 2) rfl) (hs.rd (i := 3) rfl) (hs.rd (i := 4) rfl) (hs.rd (i := 5) rfl)) ?_; clear hf
        rintro _ w ⟨A36, n37, c38, rfl, hn39, hs1⟩ a hf
        have hs : St [] W w [.blk b1 25 [.slice A_p0_1 p0.A.length c_p0_1, .slice A_p0_2 p0.B.length c_p0_2, .slice A_p0_3 p0.C.length c_p0_3], .mat A9 n10 c11 23 2 vs13 r7.A, .row A14 n15 c16 2 1 (ints r7.B), .row A18 n19 c20 2 1 (ints r7.C), .row A24 n25 c26 2 1 (ints r22), .row A30 n31 c32 2 1 (ints r28), .row A36 n37 c38 2 1 (ints r34.1)] := hs.join hs1
        clear hs1
        refine sY hf hs rfl rfl rfl (Y_move rfl rfl) ?_; clear hf; intro a hf
        refine sY hf hs rfl rfl rfl (Y_extract rfl rfl rfl) ?_; clear hf; intro a hf
        refine sY hf hs rfl rfl rfl (Y_extract rfl rfl rfl) ?_; clear hf; intro a hf
        refine sY hf hs rfl rfl rfl (Y_assign rfl rfl) ?_; clear hf; intro a hf
        refine sY hf hs rfl rfl rfl (Y_assign rfl rfl) ?_; clear hf; intro a hf
        refine wpO_nil ?_
        refine wpL_seq ?_
        refine wpL_region ?_
        refine sY hf hs rfl rfl rfl (Y_load_blkS rfl rfl (i := 0) rfl ag25 ti25 rfl) ?_; clear hf; intro a hf
        obtain ⟨r40, hc41, hm⟩ := bind_some hm
        refine sCall hf rfl rfl rfl rfl (cap := []) rfl rfl en17 (laws_toSystem_ok F p0 A_p0_1 p0.A.length c_p0_1 rfl A_p0_2 p0.B.length c_p0_2 rfl A_p0_3 p0.C.length c_p0_3 rfl _ _ hc41 (h_p0_1.at hs) (h_p0_2.at hs) (h_p0_3.at hs)) ?_; clear hf
        rintro _ w ⟨A42, n43, c44, vs46, A47, n48, c49, A51, n52, c53, rfl, hn45, hn50, hn54, hs1⟩ a hf
        have hs : St [] W w [.blk b1 25 [.slice A_p0_1 p0.A.length c_p0_1, .slice A_p0_2 p0.B.length c_p0_2, .slice A_p0_3 p0.C.length c_p0_3], .mat A9 n10 c11 23 2 vs13 r7.A, .row A14 n15 c16 2 1 (ints r7.B), .row A18 n19 c20 2 1 (ints r7.C), .row A24 n25 c26 2 1 (ints r22), .row A30 n31 c32 2 1 (ints r28), .row A36 n37 c38 2 1 (ints r34.1), .mat A42 n43 c44 23 2 vs46 r40.A, .row A47 n48 c49 2 1 (ints r40.B), .row A51 n52 c53 2 1 (ints r40.C)] := hs.join hs1
        clear hs1
        refine sAlloc hf hs rfl rfl rfl rfl ti29 ?_; clear hf hs; intro a w b55 hs hf
        have hs : St [] W w [.blk b1 25 [.slice A_p0_1 p0.A.length c_p0_1, .slice A_p0_2 p0.B.length c_p0_2, .slice A_p0_3 p0.C.length c_p0_3], .mat A9 n10 c11 23 2 vs13 r7.A, .row A14 n15 c16 2 1 (ints r7.B), .row A18 n19 c20 2 1 (ints r7.C), .row A24 n25 c26 2 1 (ints r22), .row A30 n31 c32 2 1 (ints r28), .row A36 n37 c38 2 1 (ints r34.1), .mat A42 n43 c44 23 2 vs46 r40.A, .row A47 n48 c49 2 1 (ints r40.B), .row A51 n52 c53 2 1 (ints r40.C), .blk b55 29 [.slice none 0 0, .slice none 0 0, .slice none 0 0]] := hs
        refine sStore (i := 10) (us := [.slice A42 n43 c44, .slice A47 n48 c49, .slice A51 n52 c53]) hf hs rfl rfl rfl rfl rfl rfl ti29 rfl rfl rfl (Nat.le_of_ble_eq_true rfl) rfl ?_; clear hs; intro w hs
        have hs : St [] W w [.blk b1 25 [.slice A_p0_1 p0.A.length c_p0_1, .slice A_p0_2 p0.B.length c_p0_2, .slice A_p0_3 p0.C.length c_p0_3], .mat A9 n10 c11 23 2 vs13 r7.A, .row A14 n15 c16 2 1 (ints r7.B), .row A18 n19 c20 2 1 (ints r7.C), .row A24 n25 c26 2 1 (ints r22), .row A30 n31 c32 2 1 (ints r28), .row A36 n37 c38 2 1 (ints r34.1), .mat A42 n43 c44 23 2 vs46 r40.A, .row A47 n48 c49 2 1 (ints r40.B), .row A51 n52 c53 2 1 (ints r40.C), .blk b55 29 [.slice A42 n43 c44, .slice A47 n48 c49, .slice A51 n52 c53]] := hs
        refine wpO_nil ?_
        refine wpL_seq ?_
        refine wpL_region ?_
        refine sY hf hs rfl rfl rfl (Y_move rfl rfl) ?_; clear hf; intro a hf
        obtain ⟨r56, hc57, hm⟩ := bind_some hm
        refine sCall hf rfl rfl rfl rfl (cap := []) rfl rfl en18 (laws_toInt64S_ok F p1 A_p1_1 p1.length c_p1_1 rfl _ _ hc57 (h_p1_1.at hs)) ?_; clear hf
        rintro _ w ⟨A58, n59, c60, rfl, hn61, hs1⟩ a hf
        have hs : St [] W w [.blk b1 25 [.slice A_p0_1 p0.A.length c_p0_1, .slice A_p0_2 p0.B.length c_p0_2, .slice A_p0_3 p0.C.length c_p0_3], .mat A9 n10 c11 23 2 vs13 r7.A, .row A14 n15 c16 2 1 (ints r7.B), .row A18 n19 c20 2 1 (ints r7.C), .row A24 n25 c26 2 1 (ints r22), .row A30 n31 c32 2 1 (ints r28), .row A36 n37 c38 2 1 (ints r34.1), .mat A42 n43 c44 23 2 vs46 r40.A, .row A47 n48 c49 2 1 (ints r40.B), .row A51 n52 c53 2 1 (ints r40.C), .blk b55 29 [.slice A42 n43 c44, .slice A47 n48 c49, .slice A51 n52 c53], .row A58 n59 c60 2 1 (ints r56)] := hs.join hs1
        clear hs1
        refine sY hf hs rfl rfl rfl (Y_assign rfl rfl) ?_; clear hf; intro a hf
        refine wpO_nil ?_
        refine wpL_seq ?_
        refine wpL_region ?_
        refine sY hf hs rfl rfl rfl (Y_move rfl rfl) ?_; clear hf; intro a hf
        obtain ⟨r62, hc63, hm⟩ := bind_some hm
        refine sCall hf rfl rfl rfl rfl (cap := []) rfl rfl en18 (laws_toInt64S_ok F p2 A_p2_1 p2.length c_p2_1 rfl _ _ hc63 (h_p2_1.at hs)) ?_; clear hf
        rintro _ w ⟨A64, n65, c66, rfl, hn67, hs1⟩ a hf
        have hs : St [] W w [.blk b1 25 [.slice A_p0_1 p0.A.length c_p0_1, .slice A_p0_2 p0.B.length c_p0_2, .slice A_p0_3 p0.C.length c_p0_3], .mat A9 n10 c11 23 2 vs13 r7.A, .row A14 n15 c16 2 1 (ints r7.B), .row A18 n19 c20 2 1 (ints r7.C), .row A24 n25 c26 2 1 (ints r22), .row A30 n31 c32 2 1 (ints r28), .row A36 n37 c38 2 1 (ints r34.1), .mat A42 n43 c44 23 2 vs46 r40.A, .row A47 n48 c49 2 1 (ints r40.B), .row A51 n52 c53 2 1 (ints r40.C), .blk b55 29 [.slice A42 n43 c44, .slice A47 n48 c49, .slice A51 n52 c53], .row A58 n59 c60 2 1 (ints r56), .row A64 n65 c66 2 1 (ints r62)] := hs.join hs1
        clear hs1
        refine sY hf hs rfl rfl rfl (Y_assign rfl rfl) ?_; clear hf; intro a hf
        refine wpO_nil ?_
        refine wpL_seq ?_
        refine wpL_region ?_
        refine sY hf hs rfl rfl rfl (Y_load_blkS rfl rfl (i := 10) rfl ag29 ti29 rfl) ?_; clear hf; intro a hf
        refine sY hf hs rfl rfl rfl (Y_move rfl rfl) ?_; clear hf; intro a hf
        refine sY hf hs rfl rfl rfl (Y_move rfl rfl) ?_; clear hf; intro a hf
        obtain ⟨r68, hc69, hm⟩ := bind_some hm
        refine sCall hf rfl rfl rfl rfl (cap := []) rfl rfl en30 (impl_StateAfter_ok F r40 A42 n43 c44 hn45 A47 n48 c49 hn50 A51 n52 c53 hn54 r56 A58 n59 c60 hn61 r62 A64 n65 c66 hn67 _ _ hc69 (hs.rdM (i := 7) rfl) (hs.rd (i := 8) rfl) (hs.rd (i := 9) rfl) (hs.rd (i := 11) rfl) (hs.rd (i := 12) rfl)) ?_; clear hf
        rintro _ w ⟨A70, n71, c72, rfl, hn73, hs1⟩ a hf
        have hs : St [] W w [.blk b1 25 [.slice A_p0_1 p0.A.length c_p0_1, .slice A_p0_2 p0.B.length c_p0_2, .slice A_p0_3 p0.C.length c_p0_3], .mat A9 n10 c11 23 2 vs13 r7.A, .row A14 n15 c16 2 1 (ints r7.B), .row A18 n19 c20 2 1 (ints r7.C), .row A24 n25 c26 2 1 (ints r22), .row A30 n31 c32 2 1 (ints r28), .row A36 n37 c38 2 1 (ints r34.1), .mat A42 n43 c44 23 2 vs46 r40.A, .row A47 n48 c49 2 1 (ints r40.B), .row A51 n52 c53 2 1 (ints r40.C), .blk b55 29 [.slice A42 n43 c44, .slice A47 n48 c49, .slice A51 n52 c53], .row A58 n59 c60 2 1 (ints r56), .row A64 n65 c66 2 1 (ints r62), .row A70 n71 c72 2 1 (ints r68.1)] := hs.join hs1
        clear hs1
        refine sY hf hs rfl rfl rfl (Y_move rfl rfl) ?_; clear hf; intro a hf
        refine sY hf hs rfl rfl rfl (Y_extract rfl rfl rfl) ?_; clear hf; intro a hf
        refine sY hf hs rfl rfl rfl (Y_extract rfl rfl rfl) ?_; clear hf; intro a hf
        refine sY hf hs rfl rfl rfl (Y_assign rfl rfl) ?_; clear hf; intro a hf
        refine sY hf hs rfl rfl rfl (Y_assign rfl rfl) ?_; clear hf; intro a hf
        refine wpO_nil ?_
        refine wpL_seq ?_
        refine wpL_seq ?_
        obtain ⟨r78, hj79, hm⟩ := bind_some hm
        refine wpL_cut (fun a w => ∃ b77 : Bool, b77 = r78 ∧ Fr a 138 [(1, .slice A_p1_1 p1.length c_p1_1), (2, .slice A_p2_1 p2.length c_p2_1), (3, .pointer (some ⟨b1, 0, none⟩)), (8, .slice A36 n37 c38), (9, .int .i64 r34.2), (10, .pointer (some ⟨b55, 0, none⟩)), (11, .slice A58 n59 c60), (12, .slice A64 n65 c66), (13, .slice A70 n71 c72), (14, .int .i64 r68.2), (62, .bool b77)] ∧ St [] W w [.blk b1 25 [.slice A_p0_1 p0.A.length c_p0_1, .slice A_p0_2 p0.B.length c_p0_2, .slice A_p0_3 p0.C.length c_p0_3], .row A36 n37 c38 2 1 (ints r34.1), .blk b55 29 [.slice A42 n43 c44, .slice A47 n48 c49, .slice A51 n52 c53], .mat A42 n43 c44 23 2 vs46 r40.A, .row A47 n48 c49 2 1 (ints r40.B), .row A51 n52 c53 2 1 (ints r40.C), .row A58 n59 c60 2 1 (ints r56), .row A64 n65 c66 2 1 (ints r62), .row A70 n71 c72 2 1 (ints r68.1)]) ?_ ?_
        · refine wpL_region ?_
          refine sY hf hs rfl rfl rfl (Y_move rfl rfl) ?_; clear hf; intro a hf
          refine sY hf hs rfl rfl rfl (Y_move rfl rfl) ?_; clear hf; intro a hf
          obtain ⟨r80, hc81, hj79⟩ := bind_some hj79
          refine sCall hf rfl rfl rfl rfl (cap := []) rfl rfl en20 (laws_eqInt64S_ok F r68.1 A70 n71 c72 hn73 r34.1 A36 n37 c38 hn39 _ _ hc81 (hs.rd (i := 13) rfl) (hs.rd (i := 6) rfl)) ?_; clear hf
          rintro _ w ⟨rfl, hs1⟩ a hf
          have hs : St [] W w [.blk b1 25 [.slice A_p0_1 p0.A.length c_p0_1, .slice A_p0_2 p0.B.length c_p0_2, .slice A_p0_3 p0.C.length c_p0_3], .mat A9 n10 c11 23 2 vs13 r7.A, .row A14 n15 c16 2 1 (ints r7.B), .row A18 n19 c20 2 1 (ints r7.C), .row A24 n25 c26 2 1 (ints r22), .row A30 n31 c32 2 1 (ints r28), .row A36 n37 c38 2 1 (ints r34.1), .mat A42 n43 c44 23 2 vs46 r40.A, .row A47 n48 c49 2 1 (ints r40.B), .row A51 n52 c53 2 1 (ints r40.C), .blk b55 29 [.slice A42 n43 c44, .slice A47 n48 c49, .slice A51 n52 c53], .row A58 n59 c60 2 1 (ints r56), .row A64 n65 c66 2 1 (ints r62), .row A70 n71 c72 2 1 (ints r68.1)] := hs.ext hs1.below
          clear hs1
          refine sY hf hs rfl rfl rfl (Y_not rfl rfl) ?_; clear hf; intro a hf
          refine sY hf hs rfl rfl rfl (Y_move rfl rfl) ?_; clear hf; intro a hf
          refine bsplit (!r80) (fun hb82 => ?_) (fun hb82 => ?_)
          · have hj79 := bif_t hj79 hb82
            refine sNo hf rfl rfl rfl (congrArg (fun b => some (Value.bool b)) hb82) rfl rfl rfl ?_; clear hf; intro a hf
            refine sNo hf rfl rfl rfl (congrArg (fun b => some (Value.bool b)) hb82) rfl rfl rfl ?_; clear hf; intro a hf
            refine sNo hf rfl rfl rfl (congrArg (fun b => some (Value.bool b)) hb82) rfl rfl rfl ?_; clear hf; intro a hf
            refine sY hf hs rfl rfl rfl (Y_pickT rfl (congrArg (fun b => some (Value.bool b)) hb82) rfl) ?_; clear hf; intro a hf
            refine wpO_nil ?_
            refine wpL_nil (then_normal ?_)
            exact ⟨true, Option.some.inj hj79, (Fr.pick (Fr.pick (Fr.pick (Fr.pick (Fr.pick (Fr.pick (Fr.pick (Fr.pick (Fr.pick (Fr.pick (Fr.pick hf.none hf rfl) hf rfl) hf rfl) hf rfl) hf rfl) hf rfl) hf rfl) hf rfl) hf rfl) hf rfl) hf rfl), hs.sel [0, 6, 10, 7, 8, 9, 11, 12, 13] (by decide)⟩
          · have hj79 := bif_f hj79 hb82
            refine sYg hf hs rfl rfl rfl (congrArg (fun b => some (Value.bool b)) hb82) rfl rfl rfl (Y_move rfl rfl) ?_; clear hf; intro a hf
            refine sYg hf hs rfl rfl rfl (congrArg (fun b => some (Value.bool b)) hb82) rfl rfl rfl (Y_move rfl rfl) ?_; clear hf; intro a hf
            refine sYg hf hs rfl rfl rfl (congrArg (fun b => some (Value.bool b)) hb82) rfl rfl rfl (Y_neq rfl rfl rfl) ?_; clear hf; intro a hf
            refine sY hf hs rfl rfl rfl (Y_pickF rfl (congrArg (fun b => some (Value.bool b)) hb82) rfl) ?_; clear hf; intro a hf
            refine wpO_nil ?_
            refine wpL_nil (then_normal ?_)
            exact ⟨(r68.2 != r34.2), Option.some.inj hj79, (Fr.pick (Fr.pick (Fr.pick (Fr.pick (Fr.pick (Fr.pick (Fr.pick (Fr.pick (Fr.pick (Fr.pick (Fr.pick hf.none hf rfl) hf rfl) hf rfl) hf rfl) hf rfl) hf rfl) hf rfl) hf rfl) hf rfl) hf rfl) hf rfl), hs.sel [0, 6, 10, 7, 8, 9, 11, 12, 13] (by decide)⟩
        · rintro a w ⟨b77, hr_, hf, hs⟩
          subst hr_
          try dsimp only at hm
          refine wpL_cond hf rfl (fun hb83 => ?_) (fun hb83 => ?_)
          · have hm := bif_t hm hb83
            refine wpL_seq ?_
            refine wpL_region ?_
            refine sY hf hs rfl rfl rfl (Y_assign rfl rfl) ?_; clear hf; intro a hf
            refine wpO_nil ?_
            obtain rfl := Option.some.inj hm
            refine wpL_ret (ret_tmp rfl hf rfl ?_)
            exact ⟨_, rfl, rfl, hs.sel [] (by decide)⟩
          · have hm := bif_f hm hb83
            refine wpL_skip ?_
            refine wpL_seq ?_
            refine wpL_seq ?_
            refine wpL_drawG [.blk b1 25 [.slice A_p0_1 p0.A.length c_p0_1, .slice A_p0_2 p0.B.length c_p0_2, .slice A_p0_3 p0.C.length c_p0_3], .row A36 n37 c38 2 1 (ints r34.1), .blk b55 29 [.slice A42 n43 c44, .slice A47 n48 c49, .slice A51 n52 c53], .mat A42 n43 c44 23 2 vs46 r40.A, .row A47 n48 c49 2 1 (ints r40.B), .row A51 n52 c53 2 1 (ints r40.C), .row A58 n59 c60 2 1 (ints r56), .row A64 n65 c66 2 1 (ints r62), .row A70 n71 c72 2 1 (ints r68.1)] 5 (by kernel_rfl) hs ?_; clear hs; intro w hs
            have hs0 : St [] W w [.blk b1 25 [.slice A_p0_1 p0.A.length c_p0_1, .slice A_p0_2 p0.B.length c_p0_2, .slice A_p0_3 p0.C.length c_p0_3], .row A36 n37 c38 2 1 (ints r34.1), .blk b55 29 [.slice A42 n43 c44, .slice A47 n48 c49, .slice A51 n52 c53], .mat A42 n43 c44 23 2 vs46 r40.A, .row A47 n48 c49 2 1 (ints r40.B), .row A51 n52 c53 2 1 (ints r40.C), .row A58 n59 c60 2 1 (ints r56), .row A64 n65 c66 2 1 (ints r62), .row A70 n71 c72 2 1 (ints r68.1)] := hs
            refine gY (i := 0) [] rfl (by kernel_rfl) (by kernel_rfl) hf hs0 rfl rfl rfl (Y_load_blkS rfl rfl (i := 2) rfl ag29 ti29 rfl) ?_; clear hf; intro a hf
            refine gY (i := 1) [] rfl (by kernel_rfl) (by kernel_rfl) hf hs0 rfl rfl rfl (Y_load_blkS rfl rfl (i := 0) rfl ag25 ti25 rfl) ?_; clear hf; intro a hf
            refine gRun (i := 2) rfl (by kernel_rfl) ?_
            obtain ⟨r101, hc102, hm⟩ := bind_some hm
            refine sCall hf rfl rfl rfl rfl (cap := []) rfl rfl en17 (laws_toSystem_ok F p0 A_p0_1 p0.A.length c_p0_1 rfl A_p0_2 p0.B.length c_p0_2 rfl A_p0_3 p0.C.length c_p0_3 rfl _ _ hc102 (h_p0_1.at hs) (h_p0_2.at hs) (h_p0_3.at hs)) ?_; clear hf
            rintro _ w ⟨A103, n104, c105, vs107, A108, n109, c110, A112, n113, c114, rfl, hn106, hn111, hn115, hs1⟩ a hf
            have hs : St [] W w [.blk b1 25 [.slice A_p0_1 p0.A.length c_p0_1, .slice A_p0_2 p0.B.length c_p0_2, .slice A_p0_3 p0.C.length c_p0_3], .row A36 n37 c38 2 1 (ints r34.1), .blk b55 29 [.slice A42 n43 c44, .slice A47 n48 c49, .slice A51 n52 c53], .mat A42 n43 c44 23 2 vs46 r40.A, .row A47 n48 c49 2 1 (ints r40.B), .row A51 n52 c53 2 1 (ints r40.C), .row A58 n59 c60 2 1 (ints r56), .row A64 n65 c66 2 1 (ints r62), .row A70 n71 c72 2 1 (ints r68.1), .mat A103 n104 c105 23 2 vs107 r101.A, .row A108 n109 c110 2 1 (ints r101.B), .row A112 n113 c114 2 1 (ints r101.C)] := hs.join hs1
            clear hs1
            have hs0 : St [] W w [.blk b1 25 [.slice A_p0_1 p0.A.length c_p0_1, .slice A_p0_2 p0.B.length c_p0_2, .slice A_p0_3 p0.C.length c_p0_3], .row A36 n37 c38 2 1 (ints r34.1), .blk b55 29 [.slice A42 n43 c44, .slice A47 n48 c49, .slice A51 n52 c53], .mat A42 n43 c44 23 2 vs46 r40.A, .row A47 n48 c49 2 1 (ints r40.B), .row A51 n52 c53 2 1 (ints r40.C), .row A58 n59 c60 2 1 (ints r56), .row A64 n65 c66 2 1 (ints r62), .row A70 n71 c72 2 1 (ints r68.1)] := hs.sel [0, 1, 2, 3, 4, 5, 6, 7, 8] (by decide)
            refine wpO_nil ⟨Or.inr hs0, ?_⟩
            refine gRun (i := 3) rfl (by kernel_rfl) ?_
            obtain ⟨r116, hc117, hm⟩ := bind_some hm
            refine sCall hf rfl rfl rfl rfl (cap := []) rfl rfl en21 (laws_eqSystem_ok F r40 A42 n43 c44 hn45 A47 n48 c49 hn50 A51 n52 c53 hn54 r101 A103 n104 c105 hn106 A108 n109 c110 hn111 A112 n113 c114 hn115 _ _ hc117 (hs.rdM (i := 3) rfl) (hs.rd (i := 4) rfl) (hs.rd (i := 5) rfl) (hs.rdM (i := 9) rfl) (hs.rd (i := 10) rfl) (hs.rd (i := 11) rfl)) ?_; clear hf
            rintro _ w ⟨rfl, hs1⟩ a hf
            have hs : St [] W w [.blk b1 25 [.slice A_p0_1 p0.A.length c_p0_1, .slice A_p0_2 p0.B.length c_p0_2, .slice A_p0_3 p0.C.length c_p0_3], .row A36 n37 c38 2 1 (ints r34.1), .blk b55 29 [.slice A42 n43 c44, .slice A47 n48 c49, .slice A51 n52 c53], .mat A42 n43 c44 23 2 vs46 r40.A, .row A47 n48 c49 2 1 (ints r40.B), .row A51 n52 c53 2 1 (ints r40.C), .row A58 n59 c60 2 1 (ints r56), .row A64 n65 c66 2 1 (ints r62), .row A70 n71 c72 2 1 (ints r68.1), .mat A103 n104 c105 23 2 vs107 r101.A, .row A108 n109 c110 2 1 (ints r101.B), .row A112 n113 c114 2 1 (ints r101.C)] := hs.ext hs1.below
            clear hs1
            have hs0 : St [] W w [.blk b1 25 [.slice A_p0_1 p0.A.length c_p0_1, .slice A_p0_2 p0.B.length c_p0_2, .slice A_p0_3 p0.C.length c_p0_3], .row A36 n37 c38 2 1 (ints r34.1), .blk b55 29 [.slice A42 n43 c44, .slice A47 n48 c49, .slice A51 n52 c53], .mat A42 n43 c44 23 2 vs46 r40.A, .row A47 n48 c49 2 1 (ints r40.B), .row A51 n52 c53 2 1 (ints r40.C), .row A58 n59 c60 2 1 (ints r56), .row A64 n65 c66 2 1 (ints r62), .row A70 n71 c72 2 1 (ints r68.1)] := hs.sel [0, 1, 2, 3, 4, 5, 6, 7, 8] (by decide)
            refine wpO_nil ⟨Or.inr hs0, ?_⟩
            refine gY (i := 4) [] rfl (by kernel_rfl) (by kernel_rfl) hf hs0 rfl rfl rfl (Y_not rfl rfl) ?_; clear hf; intro a hf
            refine gDone (by kernel_rfl) ?_
            clear hs0
            refine wpL_cond hf rfl (fun hb118 => ?_) (fun hb118 => ?_)
            · have hm := bif_t hm hb118
              refine wpL_seq ?_
              refine wpL_region ?_
              refine sY hf hs rfl rfl rfl (Y_assign rfl rfl) ?_; clear hf; intro a hf
              refine wpO_nil ?_
              obtain rfl := Option.some.inj hm
              refine wpL_ret (ret_tmp rfl hf rfl ?_)
              exact ⟨_, rfl, rfl, hs.sel [] (by decide)⟩
            · have hm := bif_f hm hb118
              refine wpL_skip ?_
              refine wpL_seq ?_
              refine wpL_seq ?_
              refine wpL_region ?_
              refine sY hf hs rfl rfl rfl (Y_move rfl rfl) ?_; clear hf; intro a hf
              refine sY hf hs rfl rfl rfl (Y_move rfl rfl) ?_; clear hf; intro a hf
              obtain ⟨r119, hc120, hm⟩ := bind_some hm
              refine sCall hf rfl rfl rfl rfl (cap := []) rfl rfl en18 (laws_toInt64S_ok F p1 A_p1_1 p1.length c_p1_1 rfl _ _ hc120 (h_p1_1.at hs)) ?_; clear hf
              rintro _ w ⟨A121, n122, c123, rfl, hn124, hs1⟩ a hf
              have hs : St [] W w [.blk b1 25 [.slice A_p0_1 p0.A.length c_p0_1, .slice A_p0_2 p0.B.length c_p0_2, .slice A_p0_3 p0.C.length c_p0_3], .row A36 n37 c38 2 1 (ints r34.1), .blk b55 29 [.slice A42 n43 c44, .slice A47 n48 c49, .slice A51 n52 c53], .mat A42 n43 c44 23 2 vs46 r40.A, .row A47 n48 c49 2 1 (ints r40.B), .row A51 n52 c53 2 1 (ints r40.C), .row A58 n59 c60 2 1 (ints r56), .row A64 n65 c66 2 1 (ints r62), .row A70 n71 c72 2 1 (ints r68.1), .mat A103 n104 c105 23 2 vs107 r101.A, .row A108 n109 c110 2 1 (ints r101.B), .row A112 n113 c114 2 1 (ints r101.C), .row A121 n122 c123 2 1 (ints r119)] := hs.join hs1
              clear hs1
              obtain ⟨r125, hc126, hm⟩ := bind_some hm
              refine sCall hf rfl rfl rfl rfl (cap := []) rfl rfl en20 (laws_eqInt64S_ok F r56 A58 n59 c60 hn61 r119 A121 n122 c123 hn124 _ _ hc126 (hs.rd (i := 6) rfl) (hs.rd (i := 12) rfl)) ?_; clear hf
              rintro _ w ⟨rfl, hs1⟩ a hf
              have hs : St [] W w [.blk b1 25 [.slice A_p0_1 p0.A.length c_p0_1, .slice A_p0_2 p0.B.length c_p0_2, .slice A_p0_3 p0.C.length c_p0_3], .row A36 n37 c38 2 1 (ints r34.1), .blk b55 29 [.slice A42 n43 c44, .slice A47 n48 c49, .slice A51 n52 c53], .mat A42 n43 c44 23 2 vs46 r40.A, .row A47 n48 c49 2 1 (ints r40.B), .row A51 n52 c53 2 1 (ints r40.C), .row A58 n59 c60 2 1 (ints r56), .row A64 n65 c66 2 1 (ints r62), .row A70 n71 c72 2 1 (ints r68.1), .mat A103 n104 c105 23 2 vs107 r101.A, .row A108 n109 c110 2 1 (ints r101.B), .row A112 n113 c114 2 1 (ints r101.C), .row A121 n122 c123 2 1 (ints r119)] := hs.ext hs1.below
              clear hs1
              refine sY hf hs rfl rfl rfl (Y_not rfl rfl) ?_; clear hf; intro a hf
              refine wpO_nil ?_
              refine wpL_cond hf rfl (fun hb127 => ?_) (fun hb127 => ?_)
              · have hm := bif_t hm hb127
                refine wpL_seq ?_
                refine wpL_region ?_
                refine sY hf hs rfl rfl rfl (Y_assign rfl rfl) ?_; clear hf; intro a hf
                refine wpO_nil ?_
                obtain rfl := Option.some.inj hm
                refine wpL_ret (ret_tmp rfl hf rfl ?_)
                exact ⟨_, rfl, rfl, hs.sel [] (by decide)⟩
              · have hm := bif_f hm hb127
                refine wpL_skip ?_
                refine wpL_seq ?_
                refine wpL_seq ?_
                refine wpL_region ?_
                refine sY hf hs rfl rfl rfl (Y_move rfl rfl) ?_; clear hf; intro a hf
                refine sY hf hs rfl rfl rfl (Y_move rfl rfl) ?_; clear hf; intro a hf
                obtain ⟨r128, hc129, hm⟩ := bind_some hm
                refine sCall hf rfl rfl rfl rfl (cap := []) rfl rfl en18 (laws_toInt64S_ok F p2 A_p2_1 p2.length c_p2_1 rfl _ _ hc129 (h_p2_1.at hs)) ?_; clear hf
                rintro _ w ⟨A130, n131, c132, rfl, hn133, hs1⟩ a hf
                have hs : St [] W w [.blk b1 25 [.slice A_p0_1 p0.A.length c_p0_1, .slice A_p0_2 p0.B.length c_p0_2, .slice A_p0_3 p0.C.length c_p0_3], .row A36 n37 c38 2 1 (ints r34.1), .blk b55 29 [.slice A42 n43 c44, .slice A47 n48 c49, .slice A51 n52 c53], .mat A42 n43 c44 23 2 vs46 r40.A, .row A47 n48 c49 2 1 (ints r40.B), .row A51 n52 c53 2 1 (ints r40.C), .row A58 n59 c60 2 1 (ints r56), .row A64 n65 c66 2 1 (ints r62), .row A70 n71 c72 2 1 (ints r68.1), .mat A103 n104 c105 23 2 vs107 r101.A, .row A108 n109 c110 2 1 (ints r101.B), .row A112 n113 c114 2 1 (ints r101.C), .row A121 n122 c123 2 1 (ints r119), .row A130 n131 c132 2 1 (ints r128)] := hs.join hs1
                clear hs1
                obtain ⟨r134, hc135, hm⟩ := bind_some hm
                refine sCall hf rfl rfl rfl rfl (cap := []) rfl rfl en20 (laws_eqInt64S_ok F r62 A64 n65 c66 hn67 r128 A130 n131 c132 hn133 _ _ hc135 (hs.rd (i := 7) rfl) (hs.rd (i := 13) rfl)) ?_; clear hf
                rintro _ w ⟨rfl, hs1⟩ a hf
                have hs : St [] W w [.blk b1 25 [.slice A_p0_1 p0.A.length c_p0_1, .slice A_p0_2 p0.B.length c_p0_2, .slice A_p0_3 p0.C.length c_p0_3], .row A36 n37 c38 2 1 (ints r34.1), .blk b55 29 [.slice A42 n43 c44, .slice A47 n48 c49, .slice A51 n52 c53], .mat A42 n43 c44 23 2 vs46 r40.A, .row A47 n48 c49 2 1 (ints r40.B), .row A51 n52 c53 2 1 (ints r40.C), .row A58 n59 c60 2 1 (ints r56), .row A64 n65 c66 2 1 (ints r62), .row A70 n71 c72 2 1 (ints r68.1), .mat A103 n104 c105 23 2 vs107 r101.A, .row A108 n109 c110 2 1 (ints r101.B), .row A112 n113 c114 2 1 (ints r101.C), .row A121 n122 c123 2 1 (ints r119), .row A130 n131 c132 2 1 (ints r128)] := hs.ext hs1.below
                clear hs1
                refine sY hf hs rfl rfl rfl (Y_not rfl rfl) ?_; clear hf; intro a hf
                refine wpO_nil ?_
                refine wpL_cond hf rfl (fun hb136 => ?_) (fun hb136 => ?_)
                · have hm := bif_t hm hb136
                  refine wpL_seq ?_
                  refine wpL_region ?_
                  refine sY hf hs rfl rfl rfl (Y_assign rfl rfl) ?_; clear hf; intro a hf
                  refine wpO_nil ?_
                  obtain rfl := Option.some.inj hm
                  refine wpL_ret (ret_tmp rfl hf rfl ?_)
                  exact ⟨_, rfl, rfl, hs.sel [] (by decide)⟩
                · have hm := bif_f hm hb136
                  refine wpL_skip ?_
                  refine wpL_seq ?_
                  refine wpL_region ?_
                  refine sY hf hs rfl rfl rfl (Y_assign rfl rfl) ?_; clear hf; intro a hf
                  refine wpO_nil ?_
                  refine wpL_seq ?_
                  refine wpL_region ?_
                  refine sY hf hs rfl rfl rfl (Y_load_blkS rfl rfl (i := 2) rfl ag29 ti29 rfl) ?_; clear hf; intro a hf
                  refine sY hf hs rfl rfl rfl (Y_move rfl rfl) ?_; clear hf; intro a hf
                  obtain ⟨r137, hc138, hm⟩ := bind_some hm
                  refine sCall hf rfl rfl rfl rfl (cap := []) rfl rfl en22 (laws_markSystem_ok F r40 A42 n43 c44 hn45 vs46 A47 n48 c49 hn50 A51 n52 c53 hn54 1 _ _ hc138 (hs.sel [3, 4, 5] (by decide)).rebase) ?_; clear hf
                  rintro _ w ⟨rfl, hn139, hn140, hn141, hs1⟩ a hf
                  have hs : St [] W w [.blk b1 25 [.slice A_p0_1 p0.A.length c_p0_1, .slice A_p0_2 p0.B.length c_p0_2, .slice A_p0_3 p0.C.length c_p0_3], .row A36 n37 c38 2 1 (ints r34.1), .blk b55 29 [.slice A42 n43 c44, .slice A47 n48 c49, .slice A51 n52 c53], .row A58 n59 c60 2 1 (ints r56), .row A64 n65 c66 2 1 (ints r62), .row A70 n71 c72 2 1 (ints r68.1), .mat A103 n104 c105 23 2 vs107 r101.A, .row A108 n109 c110 2 1 (ints r101.B), .row A112 n113 c114 2 1 (ints r101.C), .row A121 n122 c123 2 1 (ints r119), .row A130 n131 c132 2 1 (ints r128), .mat A42 n43 c44 23 2 vs46 r137.2.1, .row A47 n48 c49 2 1 (ints r137.2.2.1), .row A51 n52 c53 2 1 (ints r137.2.2.2)] := St.mutTail (La := [.blk b1 25 [.slice A_p0_1 p0.A.length c_p0_1, .slice A_p0_2 p0.B.length c_p0_2, .slice A_p0_3 p0.C.length c_p0_3], .row A36 n37 c38 2 1 (ints r34.1), .blk b55 29 [.slice A42 n43 c44, .slice A47 n48 c49, .slice A51 n52 c53], .row A58 n59 c60 2 1 (ints r56), .row A64 n65 c66 2 1 (ints r62), .row A70 n71 c72 2 1 (ints r68.1), .mat A103 n104 c105 23 2 vs107 r101.A, .row A108 n109 c110 2 1 (ints r101.B), .row A112 n113 c114 2 1 (ints r101.C), .row A121 n122 c123 2 1 (ints r119), .row A130 n131 c132 2 1 (ints r128)]) (Lb := [.mat A42 n43 c44 23 2 vs46 r40.A, .row A47 n48 c49 2 1 (ints r40.B), .row A51 n52 c53 2 1 (ints r40.C)]) (hs.sel [0, 1, 2, 6, 7, 8, 9, 10, 11, 12, 13, 3, 4, 5] (by decide)) hs1
                  clear hs1
                  refine sY hf hs rfl rfl rfl (Y_assign rfl rfl) ?_; clear hf; intro a hf
                  refine wpO_nil ?_
                  refine wpL_seq ?_
                  refine wpL_region ?_
                  refine sY hf hs rfl rfl rfl (Y_move rfl rfl) ?_; clear hf; intro a hf
                  refine sY hf hs rfl rfl rfl (Y_move rfl rfl) ?_; clear hf; intro a hf
                  obtain ⟨r142, hc143, hm⟩ := bind_some hm
                  refine sCall hf rfl rfl rfl rfl (cap := []) rfl rfl en23 (laws_markInt64S_ok F r56 A58 n59 c60 hn61 r137.1 _ _ hc143 (hs.res _ _ (show _[3]? = some _ from rfl))) ?_; clear hf
                  rintro _ w ⟨rfl, hn144, hs1⟩ a hf
                  have hs : St [] W w [.blk b1 25 [.slice A_p0_1 p0.A.length c_p0_1, .slice A_p0_2 p0.B.length c_p0_2, .slice A_p0_3 p0.C.length c_p0_3], .row A36 n37 c38 2 1 (ints r34.1), .blk b55 29 [.slice A42 n43 c44, .slice A47 n48 c49, .slice A51 n52 c53], .row A58 n59 c60 2 1 (ints r142.2), .row A64 n65 c66 2 1 (ints r62), .row A70 n71 c72 2 1 (ints r68.1), .mat A103 n104 c105 23 2 vs107 r101.A, .row A108 n109 c110 2 1 (ints r101.B), .row A112 n113 c114 2 1 (ints r101.C), .row A121 n122 c123 2 1 (ints r119), .row A130 n131 c132 2 1 (ints r128), .mat A42 n43 c44 23 2 vs46 r137.2.1, .row A47 n48 c49 2 1 (ints r137.2.2.1), .row A51 n52 c53 2 1 (ints r137.2.2.2)] := hs.mut (i := 3) rfl (fun b hb => muA_mem hb) hs1
                  clear hs1
                  refine sY hf hs rfl rfl rfl (Y_assign rfl rfl) ?_; clear hf; intro a hf
                  refine wpO_nil ?_
                  refine wpL_seq ?_
                  refine wpL_region ?_
                  refine sY hf hs rfl rfl rfl (Y_move rfl rfl) ?_; clear hf; intro a hf
                  refine sY hf hs rfl rfl rfl (Y_move rfl rfl) ?_; clear hf; intro a hf
                  obtain ⟨r145, hc146, hm⟩ := bind_some hm
                  refine sCall hf rfl rfl rfl rfl (cap := []) rfl rfl en23 (laws_markInt64S_ok F r62 A64 n65 c66 hn67 r142.1 _ _ hc146 (hs.res _ _ (show _[4]? = some _ from rfl))) ?_; clear hf
                  rintro _ w ⟨rfl, hn147, hs1⟩ a hf
                  have hs : St [] W w [.blk b1 25 [.slice A_p0_1 p0.A.length c_p0_1, .slice A_p0_2 p0.B.length c_p0_2, .slice A_p0_3 p0.C.length c_p0_3], .row A36 n37 c38 2 1 (ints r34.1), .blk b55 29 [.slice A42 n43 c44, .slice A47 n48 c49, .slice A51 n52 c53], .row A58 n59 c60 2 1 (ints r142.2), .row A64 n65 c66 2 1 (ints r145.2), .row A70 n71 c72 2 1 (ints r68.1), .mat A103 n104 c105 23 2 vs107 r101.A, .row A108 n109 c110 2 1 (ints r101.B), .row A112 n113 c114 2 1 (ints r101.C), .row A121 n122 c123 2 1 (ints r119), .row A130 n131 c132 2 1 (ints r128), .mat A42 n43 c44 23 2 vs46 r137.2.1, .row A47 n48 c49 2 1 (ints r137.2.2.1), .row A51 n52 c53 2 1 (ints r137.2.2.2)] := hs.mut (i := 4) rfl (fun b hb => muA_mem hb) hs1
                  clear hs1
                  refine sY hf hs rfl rfl rfl (Y_assign rfl rfl) ?_; clear hf; intro a hf
                  refine wpO_nil ?_
                  refine wpL_seq ?_
                  refine wpL_seq ?_
                  obtain ⟨r153, hj154, hm⟩ := bind_some hm
                  refine wpL_cut (fun a w => ∃ b152 : Bool, b152 = r153 ∧ Fr a 138 [(1, .slice A_p1_1 p1.length c_p1_1), (2, .slice A_p2_1 p2.length c_p2_1), (3, .pointer (some ⟨b1, 0, none⟩)), (8, .slice A36 n37 c38), (9, .int .i64 r34.2), (13, .slice A70 n71 c72), (99, .bool b152)] ∧ St [] W w [.blk b1 25 [.slice A_p0_1 p0.A.length c_p0_1, .slice A_p0_2 p0.B.length c_p0_2, .slice A_p0_3 p0.C.length c_p0_3], .row A36 n37 c38 2 1 (ints r34.1), .row A70 n71 c72 2 1 (ints r68.1)]) ?_ ?_
                  · refine wpL_region ?_
                    refine sY hf hs rfl rfl rfl (Y_move rfl rfl) ?_; clear hf; intro a hf
                    refine sY hf hs rfl rfl rfl (Y_lss rfl rfl rfl) ?_; clear hf; intro a hf
                    refine sY hf hs rfl rfl rfl (Y_move rfl rfl) ?_; clear hf; intro a hf
                    refine bsplit (decide (r145.1 < 0)) (fun hb155 => ?_) (fun hb155 => ?_)
                    · have hj154 := bif_t hj154 hb155
                      refine sNo hf rfl rfl rfl (congrArg (fun b => some (Value.bool b)) hb155) rfl rfl rfl ?_; clear hf; intro a hf
                      refine sNo hf rfl rfl rfl (congrArg (fun b => some (Value.bool b)) hb155) rfl rfl rfl ?_; clear hf; intro a hf
                      refine sNo hf rfl rfl rfl (congrArg (fun b => some (Value.bool b)) hb155) rfl rfl rfl ?_; clear hf; intro a hf
                      refine sNo hf rfl rfl rfl (congrArg (fun b => some (Value.bool b)) hb155) rfl rfl rfl ?_; clear hf; intro a hf
                      refine sY hf hs rfl rfl rfl (Y_pickT rfl (congrArg (fun b => some (Value.bool b)) hb155) rfl) ?_; clear hf; intro a hf
                      refine sY hf hs rfl rfl rfl (Y_move rfl rfl) ?_; clear hf; intro a hf
                      refine sNo hf rfl rfl rfl rfl rfl rfl rfl ?_; clear hf; intro a hf
                      refine sNo hf rfl rfl rfl rfl rfl rfl rfl ?_; clear hf; intro a hf
                      refine sNo hf rfl rfl rfl rfl rfl rfl rfl ?_; clear hf; intro a hf
                      refine sY hf hs rfl rfl rfl (Y_pickT rfl rfl rfl) ?_; clear hf; intro a hf
                      refine wpO_nil ?_
                      refine wpL_nil (then_normal ?_)
                      exact ⟨true, Option.some.inj hj154, (Fr.pick (Fr.pick (Fr.pick (Fr.pick (Fr.pick (Fr.pick (Fr.pick hf.none hf rfl) hf rfl) hf rfl) hf rfl) hf rfl) hf rfl) hf rfl), hs.sel [0, 1, 5] (by decide)⟩
                    · have hj154 := bif_f hj154 hb155
                      refine sYg hf hs rfl rfl rfl (congrArg (fun b => some (Value.bool b)) hb155) rfl rfl rfl (Y_move rfl rfl) ?_; clear hf; intro a hf
                      refine sYg hf hs rfl rfl rfl (congrArg (fun b => some (Value.bool b)) hb155) rfl rfl rfl (Y_move rfl rfl) ?_; clear hf; intro a hf
                      obtain ⟨r156, hc157, hj154⟩ := bind_some hj154
                      refine sCallg hf rfl rfl rfl (congrArg (fun b => some (Value.bool b)) hb155) rfl rfl rfl rfl (cap := []) rfl rfl en20 (laws_eqInt64S_ok F r68.1 A70 n71 c72 hn73 r34.1 A36 n37 c38 hn39 _ _ hc157 (hs.rd (i := 5) rfl) (hs.rd (i := 1) rfl)) ?_; clear hf
                      rintro _ w ⟨rfl, hs1⟩ a hf
                      have hs : St [] W w [.blk b1 25 [.slice A_p0_1 p0.A.length c_p0_1, .slice A_p0_2 p0.B.length c_p0_2, .slice A_p0_3 p0.C.length c_p0_3], .row A36 n37 c38 2 1 (ints r34.1), .blk b55 29 [.slice A42 n43 c44, .slice A47 n48 c49, .slice A51 n52 c53], .row A58 n59 c60 2 1 (ints r142.2), .row A64 n65 c66 2 1 (ints r145.2), .row A70 n71 c72 2 1 (ints r68.1), .mat A103 n104 c105 23 2 vs107 r101.A, .row A108 n109 c110 2 1 (ints r101.B), .row A112 n113 c114 2 1 (ints r101.C), .row A121 n122 c123 2 1 (ints r119), .row A130 n131 c132 2 1 (ints r128), .mat A42 n43 c44 23 2 vs46 r137.2.1, .row A47 n48 c49 2 1 (ints r137.2.2.1), .row A51 n52 c53 2 1 (ints r137.2.2.2)] := hs.ext hs1.below
                      clear hs1
                      refine sYg hf hs rfl rfl rfl (congrArg (fun b => some (Value.bool b)) hb155) rfl rfl rfl (Y_not rfl rfl) ?_; clear hf; intro a hf
                      refine sY hf hs rfl rfl rfl (Y_pickF rfl (congrArg (fun b => some (Value.bool b)) hb155) rfl) ?_; clear hf; intro a hf
                      refine sY hf hs rfl rfl rfl (Y_move rfl rfl) ?_; clear hf; intro a hf
                      refine bsplit (!r156) (fun hb158 => ?_) (fun hb158 => ?_)
                      · have hj154 := bif_t hj154 hb158
                        refine sNo hf rfl rfl rfl (congrArg (fun b => some (Value.bool b)) hb158) rfl rfl rfl ?_; clear hf; intro a hf
                        refine sNo hf rfl rfl rfl (congrArg (fun b => some (Value.bool b)) hb158) rfl rfl rfl ?_; clear hf; intro a hf
                        refine sNo hf rfl rfl rfl (congrArg (fun b => some (Value.bool b)) hb158) rfl rfl rfl ?_; clear hf; intro a hf
                        refine sY hf hs rfl rfl rfl (Y_pickT rfl (congrArg (fun b => some (Value.bool b)) hb158) rfl) ?_; clear hf; intro a hf
                        refine wpO_nil ?_
                        refine wpL_nil (then_normal ?_)
                        exact ⟨true, Option.some.inj hj154, (Fr.pick (Fr.pick (Fr.pick (Fr.pick (Fr.pick (Fr.pick (Fr.pick hf.none hf rfl) hf rfl) hf rfl) hf rfl) hf rfl) hf rfl) hf rfl), hs.sel [0, 1, 5] (by decide)⟩
                      · have hj154 := bif_f hj154 hb158
                        refine sYg hf hs rfl rfl rfl (congrArg (fun b => some (Value.bool b)) hb158) rfl rfl rfl (Y_move rfl rfl) ?_; clear hf; intro a hf
                        refine sYg hf hs rfl rfl rfl (congrArg (fun b => some (Value.bool b)) hb158) rfl rfl rfl (Y_move rfl rfl) ?_; clear hf; intro a hf
                        refine sYg hf hs rfl rfl rfl (congrArg (fun b => some (Value.bool b)) hb158) rfl rfl rfl (Y_neq rfl rfl rfl) ?_; clear hf; intro a hf
                        refine sY hf hs rfl rfl rfl (Y_pickF rfl (congrArg (fun b => some (Value.bool b)) hb158) rfl) ?_; clear hf; intro a hf
                        refine wpO_nil ?_
                        refine wpL_nil (then_normal ?_)
                        exact ⟨(r68.2 != r34.2), Option.some.inj hj154, (Fr.pick (Fr.pick (Fr.pick (Fr.pick (Fr.pick (Fr.pick (Fr.pick hf.none hf rfl) hf rfl) hf rfl) hf rfl) hf rfl) hf rfl) hf rfl), hs.sel [0, 1, 5] (by decide)⟩
                  · rintro a w ⟨b152, hr_, hf, hs⟩
                    subst hr_
                    try dsimp only at hm
                    refine wpL_cond hf rfl (fun hb159 => ?_) (fun hb159 => ?_)
                    · have hm := bif_t hm hb159
                      refine wpL_seq ?_
                      refine wpL_region ?_
                      refine sY hf hs rfl rfl rfl (Y_assign rfl rfl) ?_; clear hf; intro a hf
                      refine wpO_nil ?_
                      obtain rfl := Option.some.inj hm
                      refine wpL_ret (ret_tmp rfl hf rfl ?_)
                      exact ⟨_, rfl, rfl, hs.sel [] (by decide)⟩
                    · have hm := bif_f hm hb159
                      refine wpL_skip ?_
                      refine wpL_seq ?_
                      refine wpL_region ?_
                      refine sY hf hs rfl rfl rfl (Y_assign rfl rfl) ?_; clear hf; intro a hf
                      refine wpO_nil ?_
                      refine wpL_seq ?_
                      refine wpL_region ?_
                      refine sY hf hs rfl rfl rfl (Y_move rfl rfl) ?_; clear hf; intro a hf
                      refine sY hf hs rfl rfl rfl (Y_move rfl rfl) ?_; clear hf; intro a hf
                      obtain ⟨r160, hc161, hm⟩ := bind_some hm
                      refine sCall hf rfl rfl rfl rfl (cap := []) rfl rfl en23 (laws_markInt64S_ok F r68.1 A70 n71 c72 hn73 1 _ _ hc161 (hs.res _ _ (show _[2]? = some _ from rfl))) ?_; clear hf
                      rintro _ w ⟨rfl, hn162, hs1⟩ a hf
                      have hs : St [] W w [.blk b1 25 [.slice A_p0_1 p0.A.length c_p0_1, .slice A_p0_2 p0.B.length c_p0_2, .slice A_p0_3 p0.C.length c_p0_3], .row A36 n37 c38 2 1 (ints r34.1), .row A70 n71 c72 2 1 (ints r160.2)] := hs.mut (i := 2) rfl (fun b hb => muA_mem hb) hs1
                      clear hs1
                      refine sY hf hs rfl rfl rfl (Y_assign rfl rfl) ?_; clear hf; intro a hf
                      refine wpO_nil ?_
                      refine wpL_seq ?_
                      refine wpL_region ?_
                      refine sY hf hs rfl rfl rfl (Y_assign rfl rfl) ?_; clear hf; intro a hf
                      refine wpO_nil ?_
                      refine wpL_seq ?_
                      refine wpL_region ?_
                      refine sY hf hs rfl rfl rfl (Y_move rfl rfl) ?_; clear hf; intro a hf
                      refine sY hf hs rfl rfl rfl (Y_move rfl rfl) ?_; clear hf; intro a hf
                      obtain ⟨r163, hc164, hm⟩ := bind_some hm
                      refine sCall hf rfl rfl rfl rfl (cap := []) rfl rfl en24 (laws_heldInt64S_ok F r160.2 A70 n71 c72 hn162 1 _ _ hc164 (hs.rd (i := 2) rfl)) ?_; clear hf
                      rintro _ w ⟨rfl, hs1⟩ a hf
                      have hs : St [] W w [.blk b1 25 [.slice A_p0_1 p0.A.length c_p0_1, .slice A_p0_2 p0.B.length c_p0_2, .slice A_p0_3 p0.C.length c_p0_3], .row A36 n37 c38 2 1 (ints r34.1), .row A70 n71 c72 2 1 (ints r160.2)] := hs.ext hs1.below
                      clear hs1
                      refine sY hf hs rfl rfl rfl (Y_assign rfl rfl) ?_; clear hf; intro a hf
                      refine wpO_nil ?_
                      refine wpL_seq ?_
                      refine wpL_seq ?_
                      refine wpL_region ?_
                      refine sY hf hs rfl rfl rfl (Y_move rfl rfl) ?_; clear hf; intro a hf
                      refine sY hf hs rfl rfl rfl (Y_lss rfl rfl rfl) ?_; clear hf; intro a hf
                      refine wpO_nil ?_
                      refine wpL_cond hf rfl (fun hb165 => ?_) (fun hb165 => ?_)
                      · have hm := bif_t hm hb165
                        refine wpL_seq ?_
                        refine wpL_region ?_
                        refine sY hf hs rfl rfl rfl (Y_assign rfl rfl) ?_; clear hf; intro a hf
                        refine wpO_nil ?_
                        obtain rfl := Option.some.inj hm
                        refine wpL_ret (ret_tmp rfl hf rfl ?_)
                        exact ⟨_, rfl, rfl, hs.sel [] (by decide)⟩
                      · have hm := bif_f hm hb165
                        refine wpL_skip ?_
                        refine wpL_seq ?_
                        refine wpL_seq ?_
                        refine wpL_region ?_
                        refine sY hf hs rfl rfl rfl (Y_move rfl rfl) ?_; clear hf; intro a hf
                        refine sY hf hs rfl rfl rfl (Y_move rfl rfl) ?_; clear hf; intro a hf
                        refine sY hf hs rfl rfl rfl (Y_neq rfl rfl rfl) ?_; clear hf; intro a hf
                        refine wpO_nil ?_
                        refine wpL_cond hf rfl (fun hb166 => ?_) (fun hb166 => ?_)
                        · have hm := bif_t hm hb166
                          refine wpL_seq ?_
                          refine wpL_region ?_
                          refine sY hf hs rfl rfl rfl (Y_assign rfl rfl) ?_; clear hf; intro a hf
                          refine wpO_nil ?_
                          obtain rfl := Option.some.inj hm
                          refine wpL_ret (ret_tmp rfl hf rfl ?_)
                          exact ⟨_, rfl, rfl, hs.sel [] (by decide)⟩
                        · have hm := bif_f hm hb166
                          refine wpL_skip ?_
                          refine wpL_seq ?_
                          refine wpL_region ?_
                          refine sY hf hs rfl rfl rfl (Y_load_blkS rfl rfl (i := 0) rfl ag25 ti25 rfl) ?_; clear hf; intro a hf
                          obtain ⟨r167, hc168, hm⟩ := bind_some hm
                          refine sCall hf rfl rfl rfl rfl (cap := []) rfl rfl en17 (laws_toSystem_ok F p0 A_p0_1 p0.A.length c_p0_1 rfl A_p0_2 p0.B.length c_p0_2 rfl A_p0_3 p0.C.length c_p0_3 rfl _ _ hc168 (h_p0_1.at hs) (h_p0_2.at hs) (h_p0_3.at hs)) ?_; clear hf
                          rintro _ w ⟨A169, n170, c171, vs173, A174, n175, c176, A178, n179, c180, rfl, hn172, hn177, hn181, hs1⟩ a hf
                          have hs : St [] W w [.blk b1 25 [.slice A_p0_1 p0.A.length c_p0_1, .slice A_p0_2 p0.B.length c_p0_2, .slice A_p0_3 p0.C.length c_p0_3], .row A36 n37 c38 2 1 (ints r34.1), .row A70 n71 c72 2 1 (ints r160.2), .mat A169 n170 c171 23 2 vs173 r167.A, .row A174 n175 c176 2 1 (ints r167.B), .row A178 n179 c180 2 1 (ints r167.C)] := hs.join hs1
                          clear hs1
                          refine sY hf hs rfl rfl rfl (Y_move rfl rfl) ?_; clear hf; intro a hf
                          obtain ⟨r182, hc183, hm⟩ := bind_some hm
                          refine sCall hf rfl rfl rfl rfl (cap := []) rfl rfl en18 (laws_toInt64S_ok F p1 A_p1_1 p1.length c_p1_1 rfl _ _ hc183 (h_p1_1.at hs)) ?_; clear hf
                          rintro _ w ⟨A184, n185, c186, rfl, hn187, hs1⟩ a hf
                          have hs : St [] W w [.blk b1 25 [.slice A_p0_1 p0.A.length c_p0_1, .slice A_p0_2 p0.B.length c_p0_2, .slice A_p0_3 p0.C.length c_p0_3], .row A36 n37 c38 2 1 (ints r34.1), .row A70 n71 c72 2 1 (ints r160.2), .mat A169 n170 c171 23 2 vs173 r167.A, .row A174 n175 c176 2 1 (ints r167.B), .row A178 n179 c180 2 1 (ints r167.C), .row A184 n185 c186 2 1 (ints r182)] := hs.join hs1
                          clear hs1
                          refine sY hf hs rfl rfl rfl (Y_move rfl rfl) ?_; clear hf; intro a hf
                          obtain ⟨r188, hc189, hm⟩ := bind_some hm
                          refine sCall hf rfl rfl rfl rfl (cap := []) rfl rfl en18 (laws_toInt64S_ok F p2 A_p2_1 p2.length c_p2_1 rfl _ _ hc189 (h_p2_1.at hs)) ?_; clear hf
                          rintro _ w ⟨A190, n191, c192, rfl, hn193, hs1⟩ a hf
                          have hs : St [] W w [.blk b1 25 [.slice A_p0_1 p0.A.length c_p0_1, .slice A_p0_2 p0.B.length c_p0_2, .slice A_p0_3 p0.C.length c_p0_3], .row A36 n37 c38 2 1 (ints r34.1), .row A70 n71 c72 2 1 (ints r160.2), .mat A169 n170 c171 23 2 vs173 r167.A, .row A174 n175 c176 2 1 (ints r167.B), .row A178 n179 c180 2 1 (ints r167.C), .row A184 n185 c186 2 1 (ints r182), .row A190 n191 c192 2 1 (ints r188)] := hs.join hs1
                          clear hs1
                          obtain ⟨r194, hc195, hm⟩ := bind_some hm
                          refine sCall hf rfl rfl rfl rfl (cap := []) rfl rfl en30 (impl_StateAfter_ok F r167 A169 n170 c171 hn172 A174 n175 c176 hn177 A178 n179 c180 hn181 r182 A184 n185 c186 hn187 r188 A190 n191 c192 hn193 _ _ hc195 (hs.rdM (i := 3) rfl) (hs.rd (i := 4) rfl) (hs.rd (i := 5) rfl) (hs.rd (i := 6) rfl) (hs.rd (i := 7) rfl)) ?_; clear hf
                          rintro _ w ⟨A196, n197, c198, rfl, hn199, hs1⟩ a hf
                          have hs : St [] W w [.blk b1 25 [.slice A_p0_1 p0.A.length c_p0_1, .slice A_p0_2 p0.B.length c_p0_2, .slice A_p0_3 p0.C.length c_p0_3], .row A36 n37 c38 2 1 (ints r34.1), .row A70 n71 c72 2 1 (ints r160.2), .mat A169 n170 c171 23 2 vs173 r167.A, .row A174 n175 c176 2 1 (ints r167.B), .row A178 n179 c180 2 1 (ints r167.C), .row A184 n185 c186 2 1 (ints r182), .row A190 n191 c192 2 1 (ints r188), .row A196 n197 c198 2 1 (ints r194.1)] := hs.join hs1
                          clear hs1
                          refine sY hf hs rfl rfl rfl (Y_move rfl rfl) ?_; clear hf; intro a hf
                          refine sY hf hs rfl rfl rfl (Y_extract rfl rfl rfl) ?_; clear hf; intro a hf
                          refine sY hf hs rfl rfl rfl (Y_extract rfl rfl rfl) ?_; clear hf; intro a hf
                          refine sY hf hs rfl rfl rfl (Y_assign rfl rfl) ?_; clear hf; intro a hf
                          refine sY hf hs rfl rfl rfl (Y_assign rfl rfl) ?_; clear hf; intro a hf
                          refine wpO_nil ?_
                          refine wpL_seq ?_
                          refine wpL_seq ?_
                          obtain ⟨r204, hj205, hm⟩ := bind_some hm
                          refine wpL_cut (fun a w => ∃ b203 : Bool, b203 = r204 ∧ Fr a 138 [(13, .slice A70 n71 c72), (16, .int .i64 r160.1), (129, .bool b203)] ∧ St [] W w [.row A70 n71 c72 2 1 (ints r160.2)]) ?_ ?_
                          · refine wpL_region ?_
                            refine sY hf hs rfl rfl rfl (Y_move rfl rfl) ?_; clear hf; intro a hf
                            refine sY hf hs rfl rfl rfl (Y_move rfl rfl) ?_; clear hf; intro a hf
                            obtain ⟨r206, hc207, hj205⟩ := bind_some hj205
                            refine sCall hf rfl rfl rfl rfl (cap := []) rfl rfl en20 (laws_eqInt64S_ok F r194.1 A196 n197 c198 hn199 r34.1 A36 n37 c38 hn39 _ _ hc207 (hs.rd (i := 8) rfl) (hs.rd (i := 1) rfl)) ?_; clear hf
                            rintro _ w ⟨rfl, hs1⟩ a hf
                            have hs : St [] W w [.blk b1 25 [.slice A_p0_1 p0.A.length c_p0_1, .slice A_p0_2 p0.B.length c_p0_2, .slice A_p0_3 p0.C.length c_p0_3], .row A36 n37 c38 2 1 (ints r34.1), .row A70 n71 c72 2 1 (ints r160.2), .mat A169 n170 c171 23 2 vs173 r167.A, .row A174 n175 c176 2 1 (ints r167.B), .row A178 n179 c180 2 1 (ints r167.C), .row A184 n185 c186 2 1 (ints r182), .row A190 n191 c192 2 1 (ints r188), .row A196 n197 c198 2 1 (ints r194.1)] := hs.ext hs1.below
                            clear hs1
                            refine sY hf hs rfl rfl rfl (Y_not rfl rfl) ?_; clear hf; intro a hf
                            refine sY hf hs rfl rfl rfl (Y_move rfl rfl) ?_; clear hf; intro a hf
                            refine bsplit (!r206) (fun hb208 => ?_) (fun hb208 => ?_)
                            · have hj205 := bif_t hj205 hb208
                              refine sNo hf rfl rfl rfl (congrArg (fun b => some (Value.bool b)) hb208) rfl rfl rfl ?_; clear hf; intro a hf
                              refine sNo hf rfl rfl rfl (congrArg (fun b => some (Value.bool b)) hb208) rfl rfl rfl ?_; clear hf; intro a hf
                              refine sNo hf rfl rfl rfl (congrArg (fun b => some (Value.bool b)) hb208) rfl rfl rfl ?_; clear hf; intro a hf
                              refine sY hf hs rfl rfl rfl (Y_pickT rfl (congrArg (fun b => some (Value.bool b)) hb208) rfl) ?_; clear hf; intro a hf
                              refine wpO_nil ?_
                              refine wpL_nil (then_normal ?_)
                              exact ⟨true, Option.some.inj hj205, (Fr.pick (Fr.pick (Fr.pick hf.none hf rfl) hf rfl) hf rfl), hs.sel [2] (by decide)⟩
                            · have hj205 := bif_f hj205 hb208
                              refine sYg hf hs rfl rfl rfl (congrArg (fun b => some (Value.bool b)) hb208) rfl rfl rfl (Y_move rfl rfl) ?_; clear hf; intro a hf
                              refine sYg hf hs rfl rfl rfl (congrArg (fun b => some (Value.bool b)) hb208) rfl rfl rfl (Y_move rfl rfl) ?_; clear hf; intro a hf
                              refine sYg hf hs rfl rfl rfl (congrArg (fun b => some (Value.bool b)) hb208) rfl rfl rfl (Y_neq rfl rfl rfl) ?_; clear hf; intro a hf
                              refine sY hf hs rfl rfl rfl (Y_pickF rfl (congrArg (fun b => some (Value.bool b)) hb208) rfl) ?_; clear hf; intro a hf
                              refine wpO_nil ?_
                              refine wpL_nil (then_normal ?_)
                              exact ⟨(r194.2 != r34.2), Option.some.inj hj205, (Fr.pick (Fr.pick (Fr.pick hf.none hf rfl) hf rfl) hf rfl), hs.sel [2] (by decide)⟩
                          · rintro a w ⟨b203, hr_, hf, hs⟩
                            subst hr_
                            try dsimp only at hm
                            refine wpL_cond hf rfl (fun hb209 => ?_) (fun hb209 => ?_)
                            · have hm := bif_t hm hb209
                              refine wpL_seq ?_
                              refine wpL_region ?_
                              refine sY hf hs rfl rfl rfl (Y_assign rfl rfl) ?_; clear hf; intro a hf
                              refine wpO_nil ?_
                              obtain rfl := Option.some.inj hm
                              refine wpL_ret (ret_tmp rfl hf rfl ?_)
                              exact ⟨_, rfl, rfl, hs.sel [] (by decide)⟩
                            · have hm := bif_f hm hb209
                              refine wpL_skip ?_
                              refine wpL_seq ?_
                              refine wpL_region ?_
                              refine sY hf hs rfl rfl rfl (Y_assign rfl rfl) ?_; clear hf; intro a hf
                              refine wpO_nil ?_
                              refine wpL_seq ?_
                              refine wpL_region ?_
                              refine sY hf hs rfl rfl rfl (Y_move rfl rfl) ?_; clear hf; intro a hf
                              refine sY hf hs rfl rfl rfl (Y_move rfl rfl) ?_; clear hf; intro a hf
                              obtain ⟨r210, hc211, hm⟩ := bind_some hm
                              refine sCall hf rfl rfl rfl rfl (cap := []) rfl rfl en24 (laws_heldInt64S_ok F r160.2 A70 n71 c72 hn162 1 _ _ hc211 (hs.rd (i := 0) rfl)) ?_; clear hf
                              rintro _ w ⟨rfl, hs1⟩ a hf
                              have hs : St [] W w [.row A70 n71 c72 2 1 (ints r160.2)] := hs.ext hs1.below
                              clear hs1
                              refine sY hf hs rfl rfl rfl (Y_assign rfl rfl) ?_; clear hf; intro a hf
                              refine wpO_nil ?_
                              refine wpL_seq ?_
                              refine wpL_seq ?_
                              refine wpL_region ?_
                              refine sY hf hs rfl rfl rfl (Y_move rfl rfl) ?_; clear hf; intro a hf
                              refine sY hf hs rfl rfl rfl (Y_lss rfl rfl rfl) ?_; clear hf; intro a hf
                              refine wpO_nil ?_
                              refine wpL_cond hf rfl (fun hb212 => ?_) (fun hb212 => ?_)
                              · have hm := bif_t hm hb212
                                refine wpL_seq ?_
                                refine wpL_region ?_
                                refine sY hf hs rfl rfl rfl (Y_assign rfl rfl) ?_; clear hf; intro a hf
                                refine wpO_nil ?_
                                obtain rfl := Option.some.inj hm
                                refine wpL_ret (ret_tmp rfl hf rfl ?_)
                                exact ⟨_, rfl, rfl, hs.sel [] (by decide)⟩
                              · have hm := bif_f hm hb212
                                refine wpL_skip ?_
                                refine wpL_seq ?_
                                refine wpL_seq ?_
                                refine wpL_region ?_
                                refine sY hf hs rfl rfl rfl (Y_move rfl rfl) ?_; clear hf; intro a hf
                                refine sY hf hs rfl rfl rfl (Y_move rfl rfl) ?_; clear hf; intro a hf
                                refine sY hf hs rfl rfl rfl (Y_neq rfl rfl rfl) ?_; clear hf; intro a hf
                                refine wpO_nil ?_
                                refine wpL_cond hf rfl (fun hb213 => ?_) (fun hb213 => ?_)
                                · have hm := bif_t hm hb213
                                  refine wpL_seq ?_
                                  refine wpL_region ?_
                                  refine sY hf hs rfl rfl rfl (Y_assign rfl rfl) ?_; clear hf; intro a hf
                                  refine wpO_nil ?_
                                  obtain rfl := Option.some.inj hm
                                  refine wpL_ret (ret_tmp rfl hf rfl ?_)
                                  exact ⟨_, rfl, rfl, hs.sel [] (by decide)⟩
                                · have hm := bif_f hm hb213
                                  refine wpL_skip ?_
                                  refine wpL_seq ?_
                                  refine wpL_region ?_
                                  refine sY hf hs rfl rfl rfl (Y_assign rfl rfl) ?_; clear hf; intro a hf
                                  refine wpO_nil ?_
                                  obtain rfl := Option.some.inj hm
                                  refine wpL_ret (ret_tmp rfl hf rfl ?_)
                                  exact ⟨_, rfl, rfl, hs.sel [] (by decide)⟩

end Go.Proofs.Ytcpfhonmmpbadaa
