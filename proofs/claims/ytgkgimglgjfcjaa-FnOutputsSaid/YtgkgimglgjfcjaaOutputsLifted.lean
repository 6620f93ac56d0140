/- The functions do what their models say. -/
import Derived.Test.YtgkgimglgjfcjaaOutputsLifted3
import Derived.Test.YtgkgimglgjfcjaaRows
namespace Go.Proofs.Ytgkgimglgjfcjaa
open Go.RowKit

set_option maxHeartbeats 2000000 in
set_option maxRecDepth 100000 in
theorem laws_FnOutputs_ok (F : Nat) (p0 : List Int) (A_p0_1 : Option Addr) (n_p0_1 c_p0_1 : Nat) (hn_p0_1 : n_p0_1 = p0.length) (r : Bool) (W : World) (hm : laws_FnOutputs F p0 = some r) (h_p0_1 : Rd W A_p0_1 (bytes p0)) :
    Calls Try.prog 5 [.slice A_p0_1 n_p0_1 c_p0_1].toArray W fun e w' => ∃ v, e = .returned v ∧ v = .bool r ∧ St [] W w' [] := by
  subst hn_p0_1
  unfold laws_FnOutputs at hm
  refine Calls.enter (N := 255) Try.func5 rfl rfl rfl (fun a hf => ?_)
  have hs := St.start W
  obtain ⟨w, hw_⟩ : ∃ w, w = W := ⟨W, rfl⟩
  clear hw_ w
  refine wpL_seq ?_
  refine wpL_region ?_
  refine sY hf hs rfl rfl rfl (Y_assign rfl rfl) ?_; clear hf; intro a hf
  refine wpO_nil ?_
  refine wpL_seq ?_
  refine wpL_seq ?_
  refine wpL_region ?_
  refine sY hf hs rfl rfl rfl (Y_move rfl rfl) ?_; clear hf; intro a hf
  obtain ⟨r1, hc2, hm⟩ := bind_some hm
  refine sCall hf rfl rfl rfl rfl (cap := []) rfl rfl en17 (laws_big_ok F p0 A_p0_1 p0.length c_p0_1 rfl _ _ hc2 (h_p0_1.at hs)) ?_; clear hf
  rintro _ w ⟨rfl, hs1⟩ a hf
  have hs : St [] W w [] := hs.ext hs1.below
  clear hs1
  refine wpO_nil ?_
  refine wpL_cond hf rfl (fun hb3 => ?_) (fun hb3 => ?_)
  · have hm := bif_t hm hb3
    refine wpL_seq ?_
    refine wpL_region ?_
    refine sY hf hs rfl rfl rfl (Y_assign rfl rfl) ?_; clear hf; intro a hf
    refine wpO_nil ?_
    obtain rfl := Option.some.inj hm
    refine wpL_ret (ret_tmp rfl hf rfl ?_)
    exact ⟨_, rfl, rfl, hs⟩
  · have hm := bif_f hm hb3
    refine wpL_skip ?_
    refine wpL_seq ?_
    refine wpL_region ?_
    refine sY hf hs rfl rfl rfl (Y_move rfl rfl) ?_; clear hf; intro a hf
    obtain ⟨r4, hc5, hm⟩ := bind_some hm
    refine sCall hf rfl rfl rfl rfl (cap := []) rfl rfl en23 (spec_DrawOutputsOf_ok F p0 A_p0_1 p0.length c_p0_1 rfl _ _ hc5 (h_p0_1.at hs)) ?_; clear hf
    rintro _ w ⟨A6, n7, c8, vs10, A11, n12, c13, A15, n16, c17, A19, n20, c21, A23, n24, c25, rfl, hn9, hn14, hn18, hn22, hn26, hs1⟩ a hf
    have hs : St [] W w [.mat A6 n7 c8 23 2 vs10 r4.1.A, .row A11 n12 c13 2 1 (ints r4.1.B), .row A15 n16 c17 2 1 (ints r4.1.C), .row A19 n20 c21 2 1 (ints r4.2.1), .row A23 n24 c25 2 1 (ints r4.2.2)] := hs.join hs1
    clear hs1
    refine sY hf hs rfl rfl rfl (Y_move rfl rfl) ?_; clear hf; intro a hf
    refine sY hf hs rfl rfl rfl (Y_extract rfl rfl rfl) ?_; clear hf; intro a hf
    refine sY hf hs rfl rfl rfl (Y_extract rfl rfl rfl) ?_; clear hf; intro a hf
    refine sY hf hs rfl rfl rfl (Y_extract rfl rfl rfl) ?_; clear hf; intro a hf
    refine sAlloc hf hs rfl rfl rfl rfl ti27 ?_; clear hf hs; intro a w b27 hs hf
    have hs : St [] W w [.mat A6 n7 c8 23 2 vs10 r4.1.A, .row A11 n12 c13 2 1 (ints r4.1.B), .row A15 n16 c17 2 1 (ints r4.1.C), .row A19 n20 c21 2 1 (ints r4.2.1), .row A23 n24 c25 2 1 (ints r4.2.2), .blk b27 27 [.slice none 0 0, .slice none 0 0, .slice none 0 0]] := hs
    refine sStore (i := 5) (us := [.slice A6 n7 c8, .slice A11 n12 c13, .slice A15 n16 c17]) hf hs rfl rfl rfl rfl rfl rfl ti27 rfl rfl rfl (Nat.le_of_ble_eq_true rfl) rfl ?_; clear hs; intro w hs
    have hs : St [] W w [.mat A6 n7 c8 23 2 vs10 r4.1.A, .row A11 n12 c13 2 1 (ints r4.1.B), .row A15 n16 c17 2 1 (ints r4.1.C), .row A19 n20 c21 2 1 (ints r4.2.1), .row A23 n24 c25 2 1 (ints r4.2.2), .blk b27 27 [.slice A6 n7 c8, .slice A11 n12 c13, .slice A15 n16 c17]] := hs
    refine sY hf hs rfl rfl rfl (Y_assign rfl rfl) ?_; clear hf; intro a hf
    refine sY hf hs rfl rfl rfl (Y_assign rfl rfl) ?_; clear hf; intro a hf
    refine wpO_nil ?_
    refine wpL_seq ?_
    refine wpL_region ?_
    refine sY hf hs rfl rfl rfl (Y_load_blkS rfl rfl (i := 5) rfl ag27 ti27 rfl) ?_; clear hf; intro a hf
    refine sY hf hs rfl rfl rfl (Y_move rfl rfl) ?_; clear hf; intro a hf
    refine sY hf hs rfl rfl rfl (Y_move rfl rfl) ?_; clear hf; intro a hf
    obtain ⟨r28, hc29, hm⟩ := bind_some hm
    refine sCall hf rfl rfl rfl rfl (cap := []) rfl rfl en24 (impl_OutputsOf_ok F (GSystem.mk r4.1.A r4.1.B r4.1.C) A6 n7 c8 hn9 A11 n12 c13 hn14 A15 n16 c17 hn18 r4.2.1 A19 n20 c21 hn22 r4.2.2 A23 n24 c25 hn26 _ _ hc29 (hs.rdM (i := 0) rfl) (hs.rd (i := 1) rfl) (hs.rd (i := 2) rfl) (hs.rd (i := 3) rfl) (hs.rd (i := 4) rfl)) ?_; clear hf
    rintro _ w ⟨A30, n31, c32, rfl, hn33, hs1⟩ a hf
    have hs : St [] W w [.mat A6 n7 c8 23 2 vs10 r4.1.A, .row A11 n12 c13 2 1 (ints r4.1.B), .row A15 n16 c17 2 1 (ints r4.1.C), .row A19 n20 c21 2 1 (ints r4.2.1), .row A23 n24 c25 2 1 (ints r4.2.2), .blk b27 27 [.slice A6 n7 c8, .slice A11 n12 c13, .slice A15 n16 c17], .row A30 n31 c32 2 1 (ints r28.1)] := hs.join hs1
    clear hs1
    refine sY hf hs rfl rfl rfl (Y_move rfl rfl) ?_; clear hf; intro a hf
    refine sY hf hs rfl rfl rfl (Y_extract rfl rfl rfl) ?_; clear hf; intro a hf
    refine sY hf hs rfl rfl rfl (Y_extract rfl rfl rfl) ?_; clear hf; intro a hf
    refine sY hf hs rfl rfl rfl (Y_assign rfl rfl) ?_; clear hf; intro a hf
    refine sY hf hs rfl rfl rfl (Y_assign rfl rfl) ?_; clear hf; intro a hf
    refine wpO_nil ?_
    refine wpL_seq ?_
    refine wpL_region ?_
    refine sY hf hs rfl rfl rfl (Y_load_blkS rfl rfl (i := 5) rfl ag27 ti27 rfl) ?_; clear hf; intro a hf
    refine sY hf hs rfl rfl rfl (Y_move rfl rfl) ?_; clear hf; intro a hf
    refine sY hf hs rfl rfl rfl (Y_move rfl rfl) ?_; clear hf; intro a hf
    obtain ⟨r34, hc35, hm⟩ := bind_some hm
    refine sCall hf rfl rfl rfl rfl (cap := []) rfl rfl en25 (spec_OutputsOf_ok F (GSystem.mk r4.1.A r4.1.B r4.1.C) A6 n7 c8 hn9 A11 n12 c13 hn14 A15 n16 c17 hn18 r4.2.1 A19 n20 c21 hn22 r4.2.2 A23 n24 c25 hn26 _ _ hc35 (hs.rdM (i := 0) rfl) (hs.rd (i := 1) rfl) (hs.rd (i := 2) rfl) (hs.rd (i := 3) rfl) (hs.rd (i := 4) rfl)) ?_; clear hf
    rintro _ w ⟨A36, n37, c38, rfl, hn39, hs1⟩ a hf
    have hs : St [] W w [.mat A6 n7 c8 23 2 vs10 r4.1.A, .row A11 n12 c13 2 1 (ints r4.1.B), .row A15 n16 c17 2 1 (ints r4.1.C), .row A19 n20 c21 2 1 (ints r4.2.1), .row A23 n24 c25 2 1 (ints r4.2.2), .blk b27 27 [.slice A6 n7 c8, .slice A11 n12 c13, .slice A15 n16 c17], .row A30 n31 c32 2 1 (ints r28.1), .row A36 n37 c38 2 1 (ints r34.1)] := hs.join hs1
    clear hs1
    refine sY hf hs rfl rfl rfl (Y_move rfl rfl) ?_; clear hf; intro a hf
    refine sY hf hs rfl rfl rfl (Y_extract rfl rfl rfl) ?_; clear hf; intro a hf
    refine sY hf hs rfl rfl rfl (Y_extract rfl rfl rfl) ?_; clear hf; intro a hf
    refine sY hf hs rfl rfl rfl (Y_assign rfl rfl) ?_; clear hf; intro a hf
    refine sY hf hs rfl rfl rfl (Y_assign rfl rfl) ?_; clear hf; intro a hf
    refine wpO_nil ?_
    refine wpL_seq ?_
    refine wpL_region ?_
    refine sY hf hs rfl rfl rfl (Y_load_blkS rfl rfl (i := 5) rfl ag27 ti27 rfl) ?_; clear hf; intro a hf
    refine sY hf hs rfl rfl rfl (Y_move rfl rfl) ?_; clear hf; intro a hf
    refine sY hf hs rfl rfl rfl (Y_move rfl rfl) ?_; clear hf; intro a hf
    obtain ⟨r40, hc41, hm⟩ := bind_some hm
    refine sCall hf rfl rfl rfl rfl (cap := []) rfl rfl en26 (impl_StateAfter_ok F (GSystem.mk r4.1.A r4.1.B r4.1.C) A6 n7 c8 hn9 A11 n12 c13 hn14 A15 n16 c17 hn18 r4.2.1 A19 n20 c21 hn22 r4.2.2 A23 n24 c25 hn26 _ _ hc41 (hs.rdM (i := 0) rfl) (hs.rd (i := 1) rfl) (hs.rd (i := 2) rfl) (hs.rd (i := 3) rfl) (hs.rd (i := 4) rfl)) ?_; clear hf
    rintro _ w ⟨A42, n43, c44, rfl, hn45, hs1⟩ a hf
    have hs : St [] W w [.mat A6 n7 c8 23 2 vs10 r4.1.A, .row A11 n12 c13 2 1 (ints r4.1.B), .row A15 n16 c17 2 1 (ints r4.1.C), .row A19 n20 c21 2 1 (ints r4.2.1), .row A23 n24 c25 2 1 (ints r4.2.2), .blk b27 27 [.slice A6 n7 c8, .slice A11 n12 c13, .slice A15 n16 c17], .row A30 n31 c32 2 1 (ints r28.1), .row A36 n37 c38 2 1 (ints r34.1), .row A42 n43 c44 2 1 (ints r40.1)] := hs.join hs1
    clear hs1
    refine sY hf hs rfl rfl rfl (Y_move rfl rfl) ?_; clear hf; intro a hf
    refine sY hf hs rfl rfl rfl (Y_extract rfl rfl rfl) ?_; clear hf; intro a hf
    refine sY hf hs rfl rfl rfl (Y_extract rfl rfl rfl) ?_; clear hf; intro a hf
    refine sY hf hs rfl rfl rfl (Y_assign rfl rfl) ?_; clear hf; intro a hf
    refine sY hf hs rfl rfl rfl (Y_assign rfl rfl) ?_; clear hf; intro a hf
    refine wpO_nil ?_
    refine wpL_seq ?_
    refine wpL_region ?_
    refine sY hf hs rfl rfl rfl (Y_load_blkS rfl rfl (i := 5) rfl ag27 ti27 rfl) ?_; clear hf; intro a hf
    refine sY hf hs rfl rfl rfl (Y_move rfl rfl) ?_; clear hf; intro a hf
    refine sY hf hs rfl rfl rfl (Y_move rfl rfl) ?_; clear hf; intro a hf
    obtain ⟨r46, hc47, hm⟩ := bind_some hm
    refine sCall hf rfl rfl rfl rfl (cap := []) rfl rfl en27 (spec_StateAfter_ok F (GSystem.mk r4.1.A r4.1.B r4.1.C) A6 n7 c8 hn9 A11 n12 c13 hn14 A15 n16 c17 hn18 r4.2.1 A19 n20 c21 hn22 r4.2.2 A23 n24 c25 hn26 _ _ hc47 (hs.rdM (i := 0) rfl) (hs.rd (i := 1) rfl) (hs.rd (i := 2) rfl) (hs.rd (i := 3) rfl) (hs.rd (i := 4) rfl)) ?_; clear hf
    rintro _ w ⟨A48, n49, c50, rfl, hn51, hs1⟩ a hf
    have hs : St [] W w [.mat A6 n7 c8 23 2 vs10 r4.1.A, .row A11 n12 c13 2 1 (ints r4.1.B), .row A15 n16 c17 2 1 (ints r4.1.C), .row A19 n20 c21 2 1 (ints r4.2.1), .row A23 n24 c25 2 1 (ints r4.2.2), .blk b27 27 [.slice A6 n7 c8, .slice A11 n12 c13, .slice A15 n16 c17], .row A30 n31 c32 2 1 (ints r28.1), .row A36 n37 c38 2 1 (ints r34.1), .row A42 n43 c44 2 1 (ints r40.1), .row A48 n49 c50 2 1 (ints r46.1)] := hs.join hs1
    clear hs1
    refine sY hf hs rfl rfl rfl (Y_move rfl rfl) ?_; clear hf; intro a hf
    refine sY hf hs rfl rfl rfl (Y_extract rfl rfl rfl) ?_; clear hf; intro a hf
    refine sY hf hs rfl rfl rfl (Y_extract rfl rfl rfl) ?_; clear hf; intro a hf
    refine sY hf hs rfl rfl rfl (Y_assign rfl rfl) ?_; clear hf; intro a hf
    refine sY hf hs rfl rfl rfl (Y_assign rfl rfl) ?_; clear hf; intro a hf
    refine wpO_nil ?_
    refine wpL_seq ?_
    refine wpL_region ?_
    refine sY hf hs rfl rfl rfl (Y_move rfl rfl) ?_; clear hf; intro a hf
    obtain ⟨r52, hc53, hm⟩ := bind_some hm
    refine sCall hf rfl rfl rfl rfl (cap := []) rfl rfl en28 (spec_DrawResponseOf_ok F p0 A_p0_1 p0.length c_p0_1 rfl _ _ hc53 (h_p0_1.at hs)) ?_; clear hf
    rintro _ w ⟨A54, n55, c56, vs58, A59, n60, c61, A63, n64, c65, rfl, hn57, hn62, hn66, hs1⟩ a hf
    have hs : St [] W w [.mat A6 n7 c8 23 2 vs10 r4.1.A, .row A11 n12 c13 2 1 (ints r4.1.B), .row A15 n16 c17 2 1 (ints r4.1.C), .row A19 n20 c21 2 1 (ints r4.2.1), .row A23 n24 c25 2 1 (ints r4.2.2), .blk b27 27 [.slice A6 n7 c8, .slice A11 n12 c13, .slice A15 n16 c17], .row A30 n31 c32 2 1 (ints r28.1), .row A36 n37 c38 2 1 (ints r34.1), .row A42 n43 c44 2 1 (ints r40.1), .row A48 n49 c50 2 1 (ints r46.1), .mat A54 n55 c56 23 2 vs58 r52.1.A, .row A59 n60 c61 2 1 (ints r52.1.B), .row A63 n64 c65 2 1 (ints r52.1.C)] := hs.join hs1
    clear hs1
    refine sY hf hs rfl rfl rfl (Y_move rfl rfl) ?_; clear hf; intro a hf
    refine sY hf hs rfl rfl rfl (Y_extract rfl rfl rfl) ?_; clear hf; intro a hf
    refine sY hf hs rfl rfl rfl (Y_extract rfl rfl rfl) ?_; clear hf; intro a hf
    refine sAlloc hf hs rfl rfl rfl rfl ti27 ?_; clear hf hs; intro a w b67 hs hf
    have hs : St [] W w [.mat A6 n7 c8 23 2 vs10 r4.1.A, .row A11 n12 c13 2 1 (ints r4.1.B), .row A15 n16 c17 2 1 (ints r4.1.C), .row A19 n20 c21 2 1 (ints r4.2.1), .row A23 n24 c25 2 1 (ints r4.2.2), .blk b27 27 [.slice A6 n7 c8, .slice A11 n12 c13, .slice A15 n16 c17], .row A30 n31 c32 2 1 (ints r28.1), .row A36 n37 c38 2 1 (ints r34.1), .row A42 n43 c44 2 1 (ints r40.1), .row A48 n49 c50 2 1 (ints r46.1), .mat A54 n55 c56 23 2 vs58 r52.1.A, .row A59 n60 c61 2 1 (ints r52.1.B), .row A63 n64 c65 2 1 (ints r52.1.C), .blk b67 27 [.slice none 0 0, .slice none 0 0, .slice none 0 0]] := hs
    refine sStore (i := 13) (us := [.slice A54 n55 c56, .slice A59 n60 c61, .slice A63 n64 c65]) hf hs rfl rfl rfl rfl rfl rfl ti27 rfl rfl rfl (Nat.le_of_ble_eq_true rfl) rfl ?_; clear hs; intro w hs
    have hs : St [] W w [.mat A6 n7 c8 23 2 vs10 r4.1.A, .row A11 n12 c13 2 1 (ints r4.1.B), .row A15 n16 c17 2 1 (ints r4.1.C), .row A19 n20 c21 2 1 (ints r4.2.1), .row A23 n24 c25 2 1 (ints r4.2.2), .blk b27 27 [.slice A6 n7 c8, .slice A11 n12 c13, .slice A15 n16 c17], .row A30 n31 c32 2 1 (ints r28.1), .row A36 n37 c38 2 1 (ints r34.1), .row A42 n43 c44 2 1 (ints r40.1), .row A48 n49 c50 2 1 (ints r46.1), .mat A54 n55 c56 23 2 vs58 r52.1.A, .row A59 n60 c61 2 1 (ints r52.1.B), .row A63 n64 c65 2 1 (ints r52.1.C), .blk b67 27 [.slice A54 n55 c56, .slice A59 n60 c61, .slice A63 n64 c65]] := hs
    refine sY hf hs rfl rfl rfl (Y_assign rfl rfl) ?_; clear hf; intro a hf
    refine wpO_nil ?_
    refine wpL_seq ?_
    refine wpL_region ?_
    refine sY hf hs rfl rfl rfl (Y_load_blkS rfl rfl (i := 13) rfl ag27 ti27 rfl) ?_; clear hf; intro a hf
    refine sY hf hs rfl rfl rfl (Y_move rfl rfl) ?_; clear hf; intro a hf
    obtain ⟨r68, hc69, hm⟩ := bind_some hm
    refine sCall hf rfl rfl rfl rfl (cap := []) rfl rfl en22 (impl_ResponseOf_ok F (GSystem.mk r52.1.A r52.1.B r52.1.C) A54 n55 c56 hn57 A59 n60 c61 hn62 A63 n64 c65 hn66 r52.2 _ _ hc69 (hs.rdM (i := 10) rfl) (hs.rd (i := 11) rfl) (hs.rd (i := 12) rfl)) ?_; clear hf
    rintro _ w ⟨A70, n71, c72, rfl, hn73, hs1⟩ a hf
    have hs : St [] W w [.mat A6 n7 c8 23 2 vs10 r4.1.A, .row A11 n12 c13 2 1 (ints r4.1.B), .row A15 n16 c17 2 1 (ints r4.1.C), .row A19 n20 c21 2 1 (ints r4.2.1), .row A23 n24 c25 2 1 (ints r4.2.2), .blk b27 27 [.slice A6 n7 c8, .slice A11 n12 c13, .slice A15 n16 c17], .row A30 n31 c32 2 1 (ints r28.1), .row A36 n37 c38 2 1 (ints r34.1), .row A42 n43 c44 2 1 (ints r40.1), .row A48 n49 c50 2 1 (ints r46.1), .mat A54 n55 c56 23 2 vs58 r52.1.A, .row A59 n60 c61 2 1 (ints r52.1.B), .row A63 n64 c65 2 1 (ints r52.1.C), .blk b67 27 [.slice A54 n55 c56, .slice A59 n60 c61, .slice A63 n64 c65], .row A70 n71 c72 2 1 (ints r68.1)] := hs.join hs1
    clear hs1
    refine sY hf hs rfl rfl rfl (Y_move rfl rfl) ?_; clear hf; intro a hf
    refine sY hf hs rfl rfl rfl (Y_extract rfl rfl rfl) ?_; clear hf; intro a hf
    refine sY hf hs rfl rfl rfl (Y_extract rfl rfl rfl) ?_; clear hf; intro a hf
    refine sY hf hs rfl rfl rfl (Y_assign rfl rfl) ?_; clear hf; intro a hf
    refine sY hf hs rfl rfl rfl (Y_assign rfl rfl) ?_; clear hf; intro a hf
    refine wpO_nil ?_
    refine wpL_seq ?_
    refine wpL_region ?_
    refine sY hf hs rfl rfl rfl (Y_load_blkS rfl rfl (i := 13) rfl ag27 ti27 rfl) ?_; clear hf; intro a hf
    refine sY hf hs rfl rfl rfl (Y_move rfl rfl) ?_; clear hf; intro a hf
    obtain ⟨r74, hc75, hm⟩ := bind_some hm
    refine sCall hf rfl rfl rfl rfl (cap := []) rfl rfl en29 (spec_ResponseOf_ok F (GSystem.mk r52.1.A r52.1.B r52.1.C) A54 n55 c56 hn57 A59 n60 c61 hn62 A63 n64 c65 hn66 r52.2 _ _ hc75 (hs.rdM (i := 10) rfl) (hs.rd (i := 11) rfl) (hs.rd (i := 12) rfl)) ?_; clear hf
    rintro _ w ⟨A76, n77, c78, rfl, hn79, hs1⟩ a hf
    have hs : St [] W w [.mat A6 n7 c8 23 2 vs10 r4.1.A, .row A11 n12 c13 2 1 (ints r4.1.B), .row A15 n16 c17 2 1 (ints r4.1.C), .row A19 n20 c21 2 1 (ints r4.2.1), .row A23 n24 c25 2 1 (ints r4.2.2), .blk b27 27 [.slice A6 n7 c8, .slice A11 n12 c13, .slice A15 n16 c17], .row A30 n31 c32 2 1 (ints r28.1), .row A36 n37 c38 2 1 (ints r34.1), .row A42 n43 c44 2 1 (ints r40.1), .row A48 n49 c50 2 1 (ints r46.1), .mat A54 n55 c56 23 2 vs58 r52.1.A, .row A59 n60 c61 2 1 (ints r52.1.B), .row A63 n64 c65 2 1 (ints r52.1.C), .blk b67 27 [.slice A54 n55 c56, .slice A59 n60 c61, .slice A63 n64 c65], .row A70 n71 c72 2 1 (ints r68.1), .row A76 n77 c78 2 1 (ints r74.1)] := hs.join hs1
    clear hs1
    refine sY hf hs rfl rfl rfl (Y_move rfl rfl) ?_; clear hf; intro a hf
    refine sY hf hs rfl rfl rfl (Y_extract rfl rfl rfl) ?_; clear hf; intro a hf
    refine sY hf hs rfl rfl rfl (Y_extract rfl rfl rfl) ?_; clear hf; intro a hf
    refine sY hf hs rfl rfl rfl (Y_assign rfl rfl) ?_; clear hf; intro a hf
    refine sY hf hs rfl rfl rfl (Y_assign rfl rfl) ?_; clear hf; intro a hf
    refine wpO_nil ?_
    refine wpL_seq ?_
    refine wpL_seq ?_
    obtain ⟨r97, hj98, hm⟩ := bind_some hm
    refine wpL_cut (fun a w => ∃ b96 : Bool, b96 = r97 ∧ Fr a 255 [(0, .slice A_p0_1 p0.length c_p0_1), (3, .pointer (some ⟨b27, 0, none⟩)), (4, .slice A19 n20 c21), (5, .slice A23 n24 c25), (7, .int .i64 r28.2), (10, .slice A42 n43 c44), (11, .int .i64 r40.2), (124, .bool b96)] ∧ St [] W w [.blk b27 27 [.slice A6 n7 c8, .slice A11 n12 c13, .slice A15 n16 c17], .mat A6 n7 c8 23 2 vs10 r4.1.A, .row A11 n12 c13 2 1 (ints r4.1.B), .row A15 n16 c17 2 1 (ints r4.1.C), .row A19 n20 c21 2 1 (ints r4.2.1), .row A23 n24 c25 2 1 (ints r4.2.2), .row A42 n43 c44 2 1 (ints r40.1)]) ?_ ?_
    · refine wpL_draw (by kernel_rfl) (by kernel_rfl) hs ?_
      refine qY hf rfl rfl rfl (Y_move rfl rfl) ?_; clear hf; intro a hf
      refine qY hf rfl rfl rfl (Y_move rfl rfl) ?_; clear hf; intro a hf
      refine qY hf rfl rfl rfl (Y_neq rfl rfl rfl) ?_; clear hf; intro a hf
      refine qY hf rfl rfl rfl (Y_move rfl rfl) ?_; clear hf; intro a hf
      refine bsplit (r28.2 != r34.2) (fun hb99 => ?_) (fun hb99 => ?_)
      · have hj98 := bif_t hj98 hb99
        refine qNo hf rfl rfl rfl (congrArg (fun b => some (Value.bool b)) hb99) rfl rfl rfl ?_; clear hf; intro a hf
        refine qNo hf rfl rfl rfl (congrArg (fun b => some (Value.bool b)) hb99) rfl rfl rfl ?_; clear hf; intro a hf
        refine qNo hf rfl rfl rfl (congrArg (fun b => some (Value.bool b)) hb99) rfl rfl rfl ?_; clear hf; intro a hf
        refine qNo hf rfl rfl rfl (congrArg (fun b => some (Value.bool b)) hb99) rfl rfl rfl ?_; clear hf; intro a hf
        refine qY hf rfl rfl rfl (Y_pickT rfl (congrArg (fun b => some (Value.bool b)) hb99) rfl) ?_; clear hf; intro a hf
        refine qY hf rfl rfl rfl (Y_move rfl rfl) ?_; clear hf; intro a hf
        refine qNo hf rfl rfl rfl rfl rfl rfl rfl ?_; clear hf; intro a hf
        refine qNo hf rfl rfl rfl rfl rfl rfl rfl ?_; clear hf; intro a hf
        refine qNo hf rfl rfl rfl rfl rfl rfl rfl ?_; clear hf; intro a hf
        refine qY hf rfl rfl rfl (Y_pickT rfl rfl rfl) ?_; clear hf; intro a hf
        refine qY hf rfl rfl rfl (Y_move rfl rfl) ?_; clear hf; intro a hf
        refine qNo hf rfl rfl rfl rfl rfl rfl rfl ?_; clear hf; intro a hf
        refine qNo hf rfl rfl rfl rfl rfl rfl rfl ?_; clear hf; intro a hf
        refine qNo hf rfl rfl rfl rfl rfl rfl rfl ?_; clear hf; intro a hf
        refine qNo hf rfl rfl rfl rfl rfl rfl rfl ?_; clear hf; intro a hf
        refine qY hf rfl rfl rfl (Y_pickT rfl rfl rfl) ?_; clear hf; intro a hf
        refine qY hf rfl rfl rfl (Y_move rfl rfl) ?_; clear hf; intro a hf
        refine qNo hf rfl rfl rfl rfl rfl rfl rfl ?_; clear hf; intro a hf
        refine qNo hf rfl rfl rfl rfl rfl rfl rfl ?_; clear hf; intro a hf
        refine qNo hf rfl rfl rfl rfl rfl rfl rfl ?_; clear hf; intro a hf
        refine qY hf rfl rfl rfl (Y_pickT rfl rfl rfl) ?_; clear hf; intro a hf
        refine qY hf rfl rfl rfl (Y_move rfl rfl) ?_; clear hf; intro a hf
        refine qNo hf rfl rfl rfl rfl rfl rfl rfl ?_; clear hf; intro a hf
        refine qNo hf rfl rfl rfl rfl rfl rfl rfl ?_; clear hf; intro a hf
        refine qNo hf rfl rfl rfl rfl rfl rfl rfl ?_; clear hf; intro a hf
        refine qNo hf rfl rfl rfl rfl rfl rfl rfl ?_; clear hf; intro a hf
        refine qY hf rfl rfl rfl (Y_pickT rfl rfl rfl) ?_; clear hf; intro a hf
        refine qY hf rfl rfl rfl (Y_move rfl rfl) ?_; clear hf; intro a hf
        refine qNo hf rfl rfl rfl rfl rfl rfl rfl ?_; clear hf; intro a hf
        refine qNo hf rfl rfl rfl rfl rfl rfl rfl ?_; clear hf; intro a hf
        refine qNo hf rfl rfl rfl rfl rfl rfl rfl ?_; clear hf; intro a hf
        refine qNo hf rfl rfl rfl rfl rfl rfl rfl ?_; clear hf; intro a hf
        refine qNo hf rfl rfl rfl rfl rfl rfl rfl ?_; clear hf; intro a hf
        refine qY hf rfl rfl rfl (Y_pickT rfl rfl rfl) ?_; clear hf; intro a hf
        refine qNil ?_; clear hs; intro w hs
        refine wpL_nil (then_normal ?_)
        exact ⟨true, Option.some.inj hj98, (FrD.pick (FrD.pick (FrD.pick (FrD.pick (FrD.pick (FrD.pick (FrD.pick (FrD.pick hf.none hf rfl) hf rfl) hf rfl) hf rfl) hf rfl) hf rfl) hf rfl) hf rfl), hs.sel [5, 0, 1, 2, 3, 4, 8] (by decide)⟩
      · have hj98 := bif_f hj98 hb99
        refine qYg hf rfl rfl rfl (congrArg (fun b => some (Value.bool b)) hb99) rfl rfl rfl (Y_move rfl rfl) ?_; clear hf; intro a hf
        refine qYg hf rfl rfl rfl (congrArg (fun b => some (Value.bool b)) hb99) rfl rfl rfl (Y_move rfl rfl) ?_; clear hf; intro a hf
        obtain ⟨r100, hc101, hj98⟩ := bind_some hj98
        refine qCallg hf rfl rfl rfl (congrArg (fun b => some (Value.bool b)) hb99) rfl rfl rfl rfl (cap := []) rfl rfl en30 (v := .bool r100) (fun w hs => Calls.scal (laws_likeInts_ok F r28.1 A30 n31 c32 hn33 r34.1 A36 n37 c38 hn39 _ _ hc101 (hs.rd (i := 6) rfl) (hs.rd (i := 7) rfl))) ?_; clear hf; intro a hf
        refine qYg hf rfl rfl rfl (congrArg (fun b => some (Value.bool b)) hb99) rfl rfl rfl (Y_not rfl rfl) ?_; clear hf; intro a hf
        refine qY hf rfl rfl rfl (Y_pickF rfl (congrArg (fun b => some (Value.bool b)) hb99) rfl) ?_; clear hf; intro a hf
        refine qY hf rfl rfl rfl (Y_move rfl rfl) ?_; clear hf; intro a hf
        refine bsplit (!r100) (fun hb102 => ?_) (fun hb102 => ?_)
        · have hj98 := bif_t hj98 hb102
          refine qNo hf rfl rfl rfl (congrArg (fun b => some (Value.bool b)) hb102) rfl rfl rfl ?_; clear hf; intro a hf
          refine qNo hf rfl rfl rfl (congrArg (fun b => some (Value.bool b)) hb102) rfl rfl rfl ?_; clear hf; intro a hf
          refine qNo hf rfl rfl rfl (congrArg (fun b => some (Value.bool b)) hb102) rfl rfl rfl ?_; clear hf; intro a hf
          refine qY hf rfl rfl rfl (Y_pickT rfl (congrArg (fun b => some (Value.bool b)) hb102) rfl) ?_; clear hf; intro a hf
          refine qY hf rfl rfl rfl (Y_move rfl rfl) ?_; clear hf; intro a hf
          refine qNo hf rfl rfl rfl rfl rfl rfl rfl ?_; clear hf; intro a hf
          refine qNo hf rfl rfl rfl rfl rfl rfl rfl ?_; clear hf; intro a hf
          refine qNo hf rfl rfl rfl rfl rfl rfl rfl ?_; clear hf; intro a hf
          refine qNo hf rfl rfl rfl rfl rfl rfl rfl ?_; clear hf; intro a hf
          refine qY hf rfl rfl rfl (Y_pickT rfl rfl rfl) ?_; clear hf; intro a hf
          refine qY hf rfl rfl rfl (Y_move rfl rfl) ?_; clear hf; intro a hf
          refine qNo hf rfl rfl rfl rfl rfl rfl rfl ?_; clear hf; intro a hf
          refine qNo hf rfl rfl rfl rfl rfl rfl rfl ?_; clear hf; intro a hf
          refine qNo hf rfl rfl rfl rfl rfl rfl rfl ?_; clear hf; intro a hf
          refine qY hf rfl rfl rfl (Y_pickT rfl rfl rfl) ?_; clear hf; intro a hf
          refine qY hf rfl rfl rfl (Y_move rfl rfl) ?_; clear hf; intro a hf
          refine qNo hf rfl rfl rfl rfl rfl rfl rfl ?_; clear hf; intro a hf
          refine qNo hf rfl rfl rfl rfl rfl rfl rfl ?_; clear hf; intro a hf
          refine qNo hf rfl rfl rfl rfl rfl rfl rfl ?_; clear hf; intro a hf
          refine qNo hf rfl rfl rfl rfl rfl rfl rfl ?_; clear hf; intro a hf
          refine qY hf rfl rfl rfl (Y_pickT rfl rfl rfl) ?_; clear hf; intro a hf
          refine qY hf rfl rfl rfl (Y_move rfl rfl) ?_; clear hf; intro a hf
          refine qNo hf rfl rfl rfl rfl rfl rfl rfl ?_; clear hf; intro a hf
          refine qNo hf rfl rfl rfl rfl rfl rfl rfl ?_; clear hf; intro a hf
          refine qNo hf rfl rfl rfl rfl rfl rfl rfl ?_; clear hf; intro a hf
          refine qNo hf rfl rfl rfl rfl rfl rfl rfl ?_; clear hf; intro a hf
          refine qNo hf rfl rfl rfl rfl rfl rfl rfl ?_; clear hf; intro a hf
          refine qY hf rfl rfl rfl (Y_pickT rfl rfl rfl) ?_; clear hf; intro a hf
          refine qNil ?_; clear hs; intro w hs
          refine wpL_nil (then_normal ?_)
          exact ⟨true, Option.some.inj hj98, (FrD.pick (FrD.pick (FrD.pick (FrD.pick (FrD.pick (FrD.pick (FrD.pick (FrD.pick hf.none hf rfl) hf rfl) hf rfl) hf rfl) hf rfl) hf rfl) hf rfl) hf rfl), hs.sel [5, 0, 1, 2, 3, 4, 8] (by decide)⟩
        · have hj98 := bif_f hj98 hb102
          refine qYg hf rfl rfl rfl (congrArg (fun b => some (Value.bool b)) hb102) rfl rfl rfl (Y_move rfl rfl) ?_; clear hf; intro a hf
          refine qYg hf rfl rfl rfl (congrArg (fun b => some (Value.bool b)) hb102) rfl rfl rfl (Y_move rfl rfl) ?_; clear hf; intro a hf
          refine qYg hf rfl rfl rfl (congrArg (fun b => some (Value.bool b)) hb102) rfl rfl rfl (Y_neq rfl rfl rfl) ?_; clear hf; intro a hf
          refine qY hf rfl rfl rfl (Y_pickF rfl (congrArg (fun b => some (Value.bool b)) hb102) rfl) ?_; clear hf; intro a hf
          refine qY hf rfl rfl rfl (Y_move rfl rfl) ?_; clear hf; intro a hf
          refine bsplit (r40.2 != r46.2) (fun hb103 => ?_) (fun hb103 => ?_)
          · have hj98 := bif_t hj98 hb103
            refine qNo hf rfl rfl rfl (congrArg (fun b => some (Value.bool b)) hb103) rfl rfl rfl ?_; clear hf; intro a hf
            refine qNo hf rfl rfl rfl (congrArg (fun b => some (Value.bool b)) hb103) rfl rfl rfl ?_; clear hf; intro a hf
            refine qNo hf rfl rfl rfl (congrArg (fun b => some (Value.bool b)) hb103) rfl rfl rfl ?_; clear hf; intro a hf
            refine qNo hf rfl rfl rfl (congrArg (fun b => some (Value.bool b)) hb103) rfl rfl rfl ?_; clear hf; intro a hf
            refine qY hf rfl rfl rfl (Y_pickT rfl (congrArg (fun b => some (Value.bool b)) hb103) rfl) ?_; clear hf; intro a hf
            refine qY hf rfl rfl rfl (Y_move rfl rfl) ?_; clear hf; intro a hf
            refine qNo hf rfl rfl rfl rfl rfl rfl rfl ?_; clear hf; intro a hf
            refine qNo hf rfl rfl rfl rfl rfl rfl rfl ?_; clear hf; intro a hf
            refine qNo hf rfl rfl rfl rfl rfl rfl rfl ?_; clear hf; intro a hf
            refine qY hf rfl rfl rfl (Y_pickT rfl rfl rfl) ?_; clear hf; intro a hf
            refine qY hf rfl rfl rfl (Y_move rfl rfl) ?_; clear hf; intro a hf
            refine qNo hf rfl rfl rfl rfl rfl rfl rfl ?_; clear hf; intro a hf
            refine qNo hf rfl rfl rfl rfl rfl rfl rfl ?_; clear hf; intro a hf
            refine qNo hf rfl rfl rfl rfl rfl rfl rfl ?_; clear hf; intro a hf
            refine qNo hf rfl rfl rfl rfl rfl rfl rfl ?_; clear hf; intro a hf
            refine qY hf rfl rfl rfl (Y_pickT rfl rfl rfl) ?_; clear hf; intro a hf
            refine qY hf rfl rfl rfl (Y_move rfl rfl) ?_; clear hf; intro a hf
            refine qNo hf rfl rfl rfl rfl rfl rfl rfl ?_; clear hf; intro a hf
            refine qNo hf rfl rfl rfl rfl rfl rfl rfl ?_; clear hf; intro a hf
            refine qNo hf rfl rfl rfl rfl rfl rfl rfl ?_; clear hf; intro a hf
            refine qNo hf rfl rfl rfl rfl rfl rfl rfl ?_; clear hf; intro a hf
            refine qNo hf rfl rfl rfl rfl rfl rfl rfl ?_; clear hf; intro a hf
            refine qY hf rfl rfl rfl (Y_pickT rfl rfl rfl) ?_; clear hf; intro a hf
            refine qNil ?_; clear hs; intro w hs
            refine wpL_nil (then_normal ?_)
            exact ⟨true, Option.some.inj hj98, (FrD.pick (FrD.pick (FrD.pick (FrD.pick (FrD.pick (FrD.pick (FrD.pick (FrD.pick hf.none hf rfl) hf rfl) hf rfl) hf rfl) hf rfl) hf rfl) hf rfl) hf rfl), hs.sel [5, 0, 1, 2, 3, 4, 8] (by decide)⟩
          · have hj98 := bif_f hj98 hb103
            refine qYg hf rfl rfl rfl (congrArg (fun b => some (Value.bool b)) hb103) rfl rfl rfl (Y_move rfl rfl) ?_; clear hf; intro a hf
            refine qYg hf rfl rfl rfl (congrArg (fun b => some (Value.bool b)) hb103) rfl rfl rfl (Y_move rfl rfl) ?_; clear hf; intro a hf
            obtain ⟨r104, hc105, hj98⟩ := bind_some hj98
            refine qCallg hf rfl rfl rfl (congrArg (fun b => some (Value.bool b)) hb103) rfl rfl rfl rfl (cap := []) rfl rfl en30 (v := .bool r104) (fun w hs => Calls.scal (laws_likeInts_ok F r40.1 A42 n43 c44 hn45 r46.1 A48 n49 c50 hn51 _ _ hc105 (hs.rd (i := 8) rfl) (hs.rd (i := 9) rfl))) ?_; clear hf; intro a hf
            refine qYg hf rfl rfl rfl (congrArg (fun b => some (Value.bool b)) hb103) rfl rfl rfl (Y_not rfl rfl) ?_; clear hf; intro a hf
            refine qY hf rfl rfl rfl (Y_pickF rfl (congrArg (fun b => some (Value.bool b)) hb103) rfl) ?_; clear hf; intro a hf
            refine qY hf rfl rfl rfl (Y_move rfl rfl) ?_; clear hf; intro a hf
            refine bsplit (!r104) (fun hb106 => ?_) (fun hb106 => ?_)
            · have hj98 := bif_t hj98 hb106
              refine qNo hf rfl rfl rfl (congrArg (fun b => some (Value.bool b)) hb106) rfl rfl rfl ?_; clear hf; intro a hf
              refine qNo hf rfl rfl rfl (congrArg (fun b => some (Value.bool b)) hb106) rfl rfl rfl ?_; clear hf; intro a hf
              refine qNo hf rfl rfl rfl (congrArg (fun b => some (Value.bool b)) hb106) rfl rfl rfl ?_; clear hf; intro a hf
              refine qY hf rfl rfl rfl (Y_pickT rfl (congrArg (fun b => some (Value.bool b)) hb106) rfl) ?_; clear hf; intro a hf
              refine qY hf rfl rfl rfl (Y_move rfl rfl) ?_; clear hf; intro a hf
              refine qNo hf rfl rfl rfl rfl rfl rfl rfl ?_; clear hf; intro a hf
              refine qNo hf rfl rfl rfl rfl rfl rfl rfl ?_; clear hf; intro a hf
              refine qNo hf rfl rfl rfl rfl rfl rfl rfl ?_; clear hf; intro a hf
              refine qNo hf rfl rfl rfl rfl rfl rfl rfl ?_; clear hf; intro a hf
              refine qY hf rfl rfl rfl (Y_pickT rfl rfl rfl) ?_; clear hf; intro a hf
              refine qY hf rfl rfl rfl (Y_move rfl rfl) ?_; clear hf; intro a hf
              refine qNo hf rfl rfl rfl rfl rfl rfl rfl ?_; clear hf; intro a hf
              refine qNo hf rfl rfl rfl rfl rfl rfl rfl ?_; clear hf; intro a hf
              refine qNo hf rfl rfl rfl rfl rfl rfl rfl ?_; clear hf; intro a hf
              refine qNo hf rfl rfl rfl rfl rfl rfl rfl ?_; clear hf; intro a hf
              refine qNo hf rfl rfl rfl rfl rfl rfl rfl ?_; clear hf; intro a hf
              refine qY hf rfl rfl rfl (Y_pickT rfl rfl rfl) ?_; clear hf; intro a hf
              refine qNil ?_; clear hs; intro w hs
              refine wpL_nil (then_normal ?_)
              exact ⟨true, Option.some.inj hj98, (FrD.pick (FrD.pick (FrD.pick (FrD.pick (FrD.pick (FrD.pick (FrD.pick (FrD.pick hf.none hf rfl) hf rfl) hf rfl) hf rfl) hf rfl) hf rfl) hf rfl) hf rfl), hs.sel [5, 0, 1, 2, 3, 4, 8] (by decide)⟩
            · have hj98 := bif_f hj98 hb106
              refine qYg hf rfl rfl rfl (congrArg (fun b => some (Value.bool b)) hb106) rfl rfl rfl (Y_move rfl rfl) ?_; clear hf; intro a hf
              refine qYg hf rfl rfl rfl (congrArg (fun b => some (Value.bool b)) hb106) rfl rfl rfl (Y_move rfl rfl) ?_; clear hf; intro a hf
              refine qYg hf rfl rfl rfl (congrArg (fun b => some (Value.bool b)) hb106) rfl rfl rfl (Y_neq rfl rfl rfl) ?_; clear hf; intro a hf
              refine qY hf rfl rfl rfl (Y_pickF rfl (congrArg (fun b => some (Value.bool b)) hb106) rfl) ?_; clear hf; intro a hf
              refine qY hf rfl rfl rfl (Y_move rfl rfl) ?_; clear hf; intro a hf
              refine bsplit (r68.2 != r74.2) (fun hb107 => ?_) (fun hb107 => ?_)
              · have hj98 := bif_t hj98 hb107
                refine qNo hf rfl rfl rfl (congrArg (fun b => some (Value.bool b)) hb107) rfl rfl rfl ?_; clear hf; intro a hf
                refine qNo hf rfl rfl rfl (congrArg (fun b => some (Value.bool b)) hb107) rfl rfl rfl ?_; clear hf; intro a hf
                refine qNo hf rfl rfl rfl (congrArg (fun b => some (Value.bool b)) hb107) rfl rfl rfl ?_; clear hf; intro a hf
                refine qNo hf rfl rfl rfl (congrArg (fun b => some (Value.bool b)) hb107) rfl rfl rfl ?_; clear hf; intro a hf
                refine qY hf rfl rfl rfl (Y_pickT rfl (congrArg (fun b => some (Value.bool b)) hb107) rfl) ?_; clear hf; intro a hf
                refine qY hf rfl rfl rfl (Y_move rfl rfl) ?_; clear hf; intro a hf
                refine qNo hf rfl rfl rfl rfl rfl rfl rfl ?_; clear hf; intro a hf
                refine qNo hf rfl rfl rfl rfl rfl rfl rfl ?_; clear hf; intro a hf
                refine qNo hf rfl rfl rfl rfl rfl rfl rfl ?_; clear hf; intro a hf
                refine qNo hf rfl rfl rfl rfl rfl rfl rfl ?_; clear hf; intro a hf
                refine qNo hf rfl rfl rfl rfl rfl rfl rfl ?_; clear hf; intro a hf
                refine qY hf rfl rfl rfl (Y_pickT rfl rfl rfl) ?_; clear hf; intro a hf
                refine qNil ?_; clear hs; intro w hs
                refine wpL_nil (then_normal ?_)
                exact ⟨true, Option.some.inj hj98, (FrD.pick (FrD.pick (FrD.pick (FrD.pick (FrD.pick (FrD.pick (FrD.pick (FrD.pick hf.none hf rfl) hf rfl) hf rfl) hf rfl) hf rfl) hf rfl) hf rfl) hf rfl), hs.sel [5, 0, 1, 2, 3, 4, 8] (by decide)⟩
              · have hj98 := bif_f hj98 hb107
                refine qYg hf rfl rfl rfl (congrArg (fun b => some (Value.bool b)) hb107) rfl rfl rfl (Y_move rfl rfl) ?_; clear hf; intro a hf
                refine qYg hf rfl rfl rfl (congrArg (fun b => some (Value.bool b)) hb107) rfl rfl rfl (Y_move rfl rfl) ?_; clear hf; intro a hf
                obtain ⟨r108, hc109, hj98⟩ := bind_some hj98
                refine qCallg hf rfl rfl rfl (congrArg (fun b => some (Value.bool b)) hb107) rfl rfl rfl rfl (cap := []) rfl rfl en30 (v := .bool r108) (fun w hs => Calls.scal (laws_likeInts_ok F r68.1 A70 n71 c72 hn73 r74.1 A76 n77 c78 hn79 _ _ hc109 (hs.rd (i := 14) rfl) (hs.rd (i := 15) rfl))) ?_; clear hf; intro a hf
                refine qYg hf rfl rfl rfl (congrArg (fun b => some (Value.bool b)) hb107) rfl rfl rfl (Y_not rfl rfl) ?_; clear hf; intro a hf
                refine qY hf rfl rfl rfl (Y_pickF rfl (congrArg (fun b => some (Value.bool b)) hb107) rfl) ?_; clear hf; intro a hf
                refine qY hf rfl rfl rfl (Y_move rfl rfl) ?_; clear hf; intro a hf
                refine bsplit (!r108) (fun hb110 => ?_) (fun hb110 => ?_)
                · have hj98 := bif_t hj98 hb110
                  refine qNo hf rfl rfl rfl (congrArg (fun b => some (Value.bool b)) hb110) rfl rfl rfl ?_; clear hf; intro a hf
                  refine qNo hf rfl rfl rfl (congrArg (fun b => some (Value.bool b)) hb110) rfl rfl rfl ?_; clear hf; intro a hf
                  refine qNo hf rfl rfl rfl (congrArg (fun b => some (Value.bool b)) hb110) rfl rfl rfl ?_; clear hf; intro a hf
                  refine qNo hf rfl rfl rfl (congrArg (fun b => some (Value.bool b)) hb110) rfl rfl rfl ?_; clear hf; intro a hf
                  refine qNo hf rfl rfl rfl (congrArg (fun b => some (Value.bool b)) hb110) rfl rfl rfl ?_; clear hf; intro a hf
                  refine qY hf rfl rfl rfl (Y_pickT rfl (congrArg (fun b => some (Value.bool b)) hb110) rfl) ?_; clear hf; intro a hf
                  refine qNil ?_; clear hs; intro w hs
                  refine wpL_nil (then_normal ?_)
                  exact ⟨true, Option.some.inj hj98, (FrD.pick (FrD.pick (FrD.pick (FrD.pick (FrD.pick (FrD.pick (FrD.pick (FrD.pick hf.none hf rfl) hf rfl) hf rfl) hf rfl) hf rfl) hf rfl) hf rfl) hf rfl), hs.sel [5, 0, 1, 2, 3, 4, 8] (by decide)⟩
                · have hj98 := bif_f hj98 hb110
                  refine qYg hf rfl rfl rfl (congrArg (fun b => some (Value.bool b)) hb110) rfl rfl rfl (Y_load_blkS rfl rfl (i := 5) rfl ag27 ti27 rfl) ?_; clear hf; intro a hf
                  obtain ⟨r111, hc112, hj98⟩ := bind_some hj98
                  refine qCallg hf rfl rfl rfl (congrArg (fun b => some (Value.bool b)) hb110) rfl rfl rfl rfl (cap := []) rfl rfl en31 (v := .bool r111) (fun w hs => Calls.scal (impl_IsSystem_ok F (GSystem.mk r4.1.A r4.1.B r4.1.C) A6 n7 c8 hn9 A11 n12 c13 hn14 A15 n16 c17 hn18 _ _ hc112 (hs.rdM (i := 0) rfl) (hs.rd (i := 1) rfl) (hs.rd (i := 2) rfl))) ?_; clear hf; intro a hf
                  refine qYg hf rfl rfl rfl (congrArg (fun b => some (Value.bool b)) hb110) rfl rfl rfl (Y_load_blkS rfl rfl (i := 5) rfl ag27 ti27 rfl) ?_; clear hf; intro a hf
                  obtain ⟨r113, hc114, hj98⟩ := bind_some hj98
                  refine qCallg hf rfl rfl rfl (congrArg (fun b => some (Value.bool b)) hb110) rfl rfl rfl rfl (cap := []) rfl rfl en32 (v := .bool r113) (fun w hs => Calls.scal (spec_IsSystem_ok F (GSystem.mk r4.1.A r4.1.B r4.1.C) A6 n7 c8 hn9 A11 n12 c13 hn14 A15 n16 c17 hn18 _ _ hc114 (hs.rdM (i := 0) rfl) (hs.rd (i := 1) rfl) (hs.rd (i := 2) rfl))) ?_; clear hf; intro a hf
                  refine qYg hf rfl rfl rfl (congrArg (fun b => some (Value.bool b)) hb110) rfl rfl rfl (Y_neqB rfl rfl rfl Try.underlying4) ?_; clear hf; intro a hf
                  refine qY hf rfl rfl rfl (Y_pickF rfl (congrArg (fun b => some (Value.bool b)) hb110) rfl) ?_; clear hf; intro a hf
                  refine qNil ?_; clear hs; intro w hs
                  refine wpL_nil (then_normal ?_)
                  exact ⟨(r111 != r113), Option.some.inj hj98, (FrD.pick (FrD.pick (FrD.pick (FrD.pick (FrD.pick (FrD.pick (FrD.pick (FrD.pick hf.none hf rfl) hf rfl) hf rfl) hf rfl) hf rfl) hf rfl) hf rfl) hf rfl), hs.sel [5, 0, 1, 2, 3, 4, 8] (by decide)⟩
    · rintro a w ⟨b96, hr_, hf, hs⟩
      subst hr_
      try dsimp only at hm
      refine wpL_cond hf rfl (fun hb115 => ?_) (fun hb115 => ?_)
      · have hm := bif_t hm hb115
        refine wpL_seq ?_
        refine wpL_region ?_
        refine sY hf hs rfl rfl rfl (Y_assign rfl rfl) ?_; clear hf; intro a hf
        refine wpO_nil ?_
        obtain rfl := Option.some.inj hm
        refine wpL_ret (ret_tmp rfl hf rfl ?_)
        exact ⟨_, rfl, rfl, hs.sel [] (by decide)⟩
      · have hm := bif_f hm hb115
        refine wpL_skip ?_
        refine wpL_seq ?_
        refine wpL_seq ?_
        obtain ⟨r118, hj119, hm⟩ := bind_some hm
        refine wpL_cut (fun a w => ∃ b117 : Bool, b117 = r118 ∧ Fr a 255 [(0, .slice A_p0_1 p0.length c_p0_1), (3, .pointer (some ⟨b27, 0, none⟩)), (4, .slice A19 n20 c21), (5, .slice A23 n24 c25), (10, .slice A42 n43 c44), (130, .bool b117)] ∧ St [] W w [.blk b27 27 [.slice A6 n7 c8, .slice A11 n12 c13, .slice A15 n16 c17], .mat A6 n7 c8 23 2 vs10 r4.1.A, .row A11 n12 c13 2 1 (ints r4.1.B), .row A15 n16 c17 2 1 (ints r4.1.C), .row A19 n20 c21 2 1 (ints r4.2.1), .row A23 n24 c25 2 1 (ints r4.2.2), .row A42 n43 c44 2 1 (ints r40.1)]) ?_ ?_
        · refine wpL_region ?_
          refine sY hf hs rfl rfl rfl (Y_move rfl rfl) ?_; clear hf; intro a hf
          refine sY hf hs rfl rfl rfl (Y_neq rfl rfl rfl) ?_; clear hf; intro a hf
          refine sY hf hs rfl rfl rfl (Y_move rfl rfl) ?_; clear hf; intro a hf
          refine bsplit (r28.2 != 0) (fun hb120 => ?_) (fun hb120 => ?_)
          · have hj119 := bif_t hj119 hb120
            refine sNo hf rfl rfl rfl (congrArg (fun b => some (Value.bool b)) hb120) rfl rfl rfl ?_; clear hf; intro a hf
            refine sNo hf rfl rfl rfl (congrArg (fun b => some (Value.bool b)) hb120) rfl rfl rfl ?_; clear hf; intro a hf
            refine sY hf hs rfl rfl rfl (Y_pickT rfl (congrArg (fun b => some (Value.bool b)) hb120) rfl) ?_; clear hf; intro a hf
            refine wpO_nil ?_
            refine wpL_nil (then_normal ?_)
            exact ⟨true, Option.some.inj hj119, (FrD.pick (FrD.pick (FrD.pick (FrD.pick (FrD.pick (FrD.pick hf.none hf rfl) hf rfl) hf rfl) hf rfl) hf rfl) hf rfl), hs⟩
          · have hj119 := bif_f hj119 hb120
            refine sYg hf hs rfl rfl rfl (congrArg (fun b => some (Value.bool b)) hb120) rfl rfl rfl (Y_move rfl rfl) ?_; clear hf; intro a hf
            refine sYg hf hs rfl rfl rfl (congrArg (fun b => some (Value.bool b)) hb120) rfl rfl rfl (Y_neq rfl rfl rfl) ?_; clear hf; intro a hf
            refine sY hf hs rfl rfl rfl (Y_pickF rfl (congrArg (fun b => some (Value.bool b)) hb120) rfl) ?_; clear hf; intro a hf
            refine wpO_nil ?_
            refine wpL_nil (then_normal ?_)
            exact ⟨(r40.2 != 0), Option.some.inj hj119, (FrD.pick (FrD.pick (FrD.pick (FrD.pick (FrD.pick (FrD.pick hf.none hf rfl) hf rfl) hf rfl) hf rfl) hf rfl) hf rfl), hs⟩
        · rintro a w ⟨b117, hr_, hf, hs⟩
          subst hr_
          try dsimp only at hm
          refine wpL_cond hf rfl (fun hb121 => ?_) (fun hb121 => ?_)
          · have hm := bif_t hm hb121
            refine wpL_seq ?_
            refine wpL_region ?_
            refine sY hf hs rfl rfl rfl (Y_assign rfl rfl) ?_; clear hf; intro a hf
            refine wpO_nil ?_
            obtain rfl := Option.some.inj hm
            refine wpL_ret (ret_tmp rfl hf rfl ?_)
            exact ⟨_, rfl, rfl, hs.sel [] (by decide)⟩
          · have hm := bif_f hm hb121
            refine wpL_skip ?_
            refine wpL_seq ?_
            refine wpL_region ?_
            refine sY hf hs rfl rfl rfl (Y_move rfl rfl) ?_; clear hf; intro a hf
            obtain ⟨r122, hc123, hm⟩ := bind_some hm
            refine sCall hf rfl rfl rfl rfl (cap := []) rfl rfl en33 (laws_roll_ok F p0 A_p0_1 p0.length c_p0_1 rfl 2401 _ _ hc123 (h_p0_1.at hs)) ?_; clear hf
            rintro _ w ⟨b124, rfl, hs1⟩ a hf
            have hs : St [] W w [.blk b27 27 [.slice A6 n7 c8, .slice A11 n12 c13, .slice A15 n16 c17], .mat A6 n7 c8 23 2 vs10 r4.1.A, .row A11 n12 c13 2 1 (ints r4.1.B), .row A15 n16 c17 2 1 (ints r4.1.C), .row A19 n20 c21 2 1 (ints r4.2.1), .row A23 n24 c25 2 1 (ints r4.2.2), .row A42 n43 c44 2 1 (ints r40.1), .blk b124 119 [.slice A_p0_1 p0.length c_p0_1, .int .i64 r122.1, .int .u64 r122.2]] := hs.join hs1
            clear hs1
            refine sY hf hs rfl rfl rfl (Y_move rfl rfl) ?_; clear hf; intro a hf
            refine sY hf hs rfl rfl rfl (Y_lenH rfl rfl el23 hn26) ?_; clear hf; intro a hf
            refine sY hf hs rfl rfl rfl (Y_add rfl rfl rfl) ?_; clear hf; intro a hf
            obtain ⟨r125, hc126, hm⟩ := bind_some hm
            refine sCall hf rfl rfl rfl rfl (cap := []) rfl rfl en34 (laws_dice_below_ok F b124 p0 A_p0_1 p0.length c_p0_1 rfl r122.1 r122.2 (IntKind.i64.wrap ((r4.2.2.length : Int) + 1)) _ _ hc126 (h_p0_1.pass hs [7]) (hs.sel [7] (by decide)).rebase) ?_; clear hf
            rintro _ w ⟨rfl, hs1⟩ a hf
            have hs : St [] W w [.blk b27 27 [.slice A6 n7 c8, .slice A11 n12 c13, .slice A15 n16 c17], .mat A6 n7 c8 23 2 vs10 r4.1.A, .row A11 n12 c13 2 1 (ints r4.1.B), .row A15 n16 c17 2 1 (ints r4.1.C), .row A19 n20 c21 2 1 (ints r4.2.1), .row A23 n24 c25 2 1 (ints r4.2.2), .row A42 n43 c44 2 1 (ints r40.1), .blk b124 119 [.slice A_p0_1 p0.length c_p0_1, .int .i64 r125.2.1, .int .u64 r125.2.2]] := St.mutTail (La := [.blk b27 27 [.slice A6 n7 c8, .slice A11 n12 c13, .slice A15 n16 c17], .mat A6 n7 c8 23 2 vs10 r4.1.A, .row A11 n12 c13 2 1 (ints r4.1.B), .row A15 n16 c17 2 1 (ints r4.1.C), .row A19 n20 c21 2 1 (ints r4.2.1), .row A23 n24 c25 2 1 (ints r4.2.2), .row A42 n43 c44 2 1 (ints r40.1)]) (Lb := [.blk b124 119 [.slice A_p0_1 p0.length c_p0_1, .int .i64 r122.1, .int .u64 r122.2]]) (hs.sel [0, 1, 2, 3, 4, 5, 6, 7] (by decide)) hs1
            clear hs1
            refine sY hf hs rfl rfl rfl (Y_assign rfl rfl) ?_; clear hf; intro a hf
            refine wpO_nil ?_
            refine wpL_seq ?_
            refine wpL_drawM [.blk b27 27 [.slice A6 n7 c8, .slice A11 n12 c13, .slice A15 n16 c17], .mat A6 n7 c8 23 2 vs10 r4.1.A, .row A11 n12 c13 2 1 (ints r4.1.B), .row A15 n16 c17 2 1 (ints r4.1.C), .row A19 n20 c21 2 1 (ints r4.2.1), .row A23 n24 c25 2 1 (ints r4.2.2), .row A42 n43 c44 2 1 (ints r40.1), .blk b124 119 [.slice A_p0_1 p0.length c_p0_1, .int .i64 r125.2.1, .int .u64 r125.2.2]] [5] (by kernel_rfl) hs ?_; clear hs; intro w hs
            have hs0 : St [] W w [.blk b27 27 [.slice A6 n7 c8, .slice A11 n12 c13, .slice A15 n16 c17], .mat A6 n7 c8 23 2 vs10 r4.1.A, .row A11 n12 c13 2 1 (ints r4.1.B), .row A15 n16 c17 2 1 (ints r4.1.C), .row A19 n20 c21 2 1 (ints r4.2.1), .row A23 n24 c25 2 1 (ints r4.2.2), .row A42 n43 c44 2 1 (ints r40.1), .blk b124 119 [.slice A_p0_1 p0.length c_p0_1, .int .i64 r125.2.1, .int .u64 r125.2.2]] := hs
            refine mY (i := 0) [[]] rfl (by kernel_rfl) (by kernel_rfl) hf hs0 rfl rfl rfl (Y_load_blkS rfl rfl (i := 0) rfl ag27 ti27 rfl) ?_; clear hf; intro a hf
            refine mYp (i := 1) rfl (by kernel_rfl) (by kernel_rfl) hf rfl rfl rfl (fun _ => Y_move rfl rfl) ?_; clear hf; intro a hf
            refine mYp (i := 2) rfl (by kernel_rfl) (by kernel_rfl) hf rfl rfl rfl (fun _ => Y_move rfl rfl) ?_; clear hf; intro a hf
            refine mYp (i := 3) rfl (by kernel_rfl) (by kernel_rfl) hf rfl rfl rfl (fun _ => Y_move rfl rfl) ?_; clear hf; intro a hf
            obtain ⟨xs128, hk127, hm⟩ := bind_some hm
            refine mY (i := 4) [[]] rfl (by kernel_rfl) (by kernel_rfl) hf hs0 rfl rfl rfl (Y_sliceH rfl rfl rfl (cutTo_some hk127).1 (leC hn26 (hs0.capR (i := 5) rfl) hk127) el23 ti2) ?_; clear hf; intro a hf
            refine mRun (i := 5) rfl (by kernel_rfl) ?_
            obtain ⟨r129, hc130, hm⟩ := bind_some hm
            refine sCall hf rfl rfl rfl rfl (cap := []) rfl rfl en26 (impl_StateAfter_ok F (GSystem.mk r4.1.A r4.1.B r4.1.C) A6 n7 c8 hn9 A11 n12 c13 hn14 A15 n16 c17 hn18 r4.2.1 A19 n20 c21 hn22 xs128 A23 ((r125.1 : Int).toNat) c25 (pre_len hk127) _ _ hc130 (hs.rdM (i := 1) rfl) (hs.rd (i := 2) rfl) (hs.rd (i := 3) rfl) (hs.rd (i := 4) rfl) (Rd.preInts (hs.rd (i := 5) rfl) hk127)) ?_; clear hf
            rintro _ w ⟨A131, n132, c133, rfl, hn134, hs1⟩ a hf
            have hs : St [] W w [.blk b27 27 [.slice A6 n7 c8, .slice A11 n12 c13, .slice A15 n16 c17], .mat A6 n7 c8 23 2 vs10 r4.1.A, .row A11 n12 c13 2 1 (ints r4.1.B), .row A15 n16 c17 2 1 (ints r4.1.C), .row A19 n20 c21 2 1 (ints r4.2.1), .row A23 n24 c25 2 1 (ints r4.2.2), .row A42 n43 c44 2 1 (ints r40.1), .blk b124 119 [.slice A_p0_1 p0.length c_p0_1, .int .i64 r125.2.1, .int .u64 r125.2.2], .row A131 n132 c133 2 1 (ints r129.1)] := hs.join hs1
            clear hs1
            refine wpO_nil ⟨Or.inl (by decide), ?_⟩
            refine mYp (i := 6) rfl (by kernel_rfl) (by kernel_rfl) hf rfl rfl rfl (fun _ => Y_move rfl rfl) ?_; clear hf; intro a hf
            refine mYp (i := 7) rfl (by kernel_rfl) (by kernel_rfl) hf rfl rfl rfl (fun _ => Y_extract rfl rfl rfl) ?_; clear hf; intro a hf
            refine mYp (i := 8) rfl (by kernel_rfl) (by kernel_rfl) hf rfl rfl rfl (fun _ => Y_extract rfl rfl rfl) ?_; clear hf; intro a hf
            refine mYp (i := 9) rfl (by kernel_rfl) (by kernel_rfl) hf rfl rfl rfl (fun _ => Y_assign rfl rfl) ?_; clear hf; intro a hf
            refine mYp (i := 10) rfl (by kernel_rfl) (by kernel_rfl) hf rfl rfl rfl (fun _ => Y_assign rfl rfl) ?_; clear hf; intro a hf
            refine mDone (by kernel_rfl) ?_
            clear hs0
            refine wpL_seq ?_
            refine wpL_drawM [.blk b27 27 [.slice A6 n7 c8, .slice A11 n12 c13, .slice A15 n16 c17], .mat A6 n7 c8 23 2 vs10 r4.1.A, .row A11 n12 c13 2 1 (ints r4.1.B), .row A15 n16 c17 2 1 (ints r4.1.C), .row A19 n20 c21 2 1 (ints r4.2.1), .row A23 n24 c25 2 1 (ints r4.2.2), .row A42 n43 c44 2 1 (ints r40.1), .blk b124 119 [.slice A_p0_1 p0.length c_p0_1, .int .i64 r125.2.1, .int .u64 r125.2.2], .row A131 n132 c133 2 1 (ints r129.1)] [5] (by kernel_rfl) hs ?_; clear hs; intro w hs
            have hs0 : St [] W w [.blk b27 27 [.slice A6 n7 c8, .slice A11 n12 c13, .slice A15 n16 c17], .mat A6 n7 c8 23 2 vs10 r4.1.A, .row A11 n12 c13 2 1 (ints r4.1.B), .row A15 n16 c17 2 1 (ints r4.1.C), .row A19 n20 c21 2 1 (ints r4.2.1), .row A23 n24 c25 2 1 (ints r4.2.2), .row A42 n43 c44 2 1 (ints r40.1), .blk b124 119 [.slice A_p0_1 p0.length c_p0_1, .int .i64 r125.2.1, .int .u64 r125.2.2], .row A131 n132 c133 2 1 (ints r129.1)] := hs
            refine mY (i := 0) [[]] rfl (by kernel_rfl) (by kernel_rfl) hf hs0 rfl rfl rfl (Y_load_blkS rfl rfl (i := 0) rfl ag27 ti27 rfl) ?_; clear hf; intro a hf
            refine mYp (i := 1) rfl (by kernel_rfl) (by kernel_rfl) hf rfl rfl rfl (fun _ => Y_move rfl rfl) ?_; clear hf; intro a hf
            refine mYp (i := 2) rfl (by kernel_rfl) (by kernel_rfl) hf rfl rfl rfl (fun _ => Y_move rfl rfl) ?_; clear hf; intro a hf
            refine mYp (i := 3) rfl (by kernel_rfl) (by kernel_rfl) hf rfl rfl rfl (fun _ => Y_move rfl rfl) ?_; clear hf; intro a hf
            obtain ⟨xs136, hk135, hm⟩ := bind_some hm
            refine mY (i := 4) [[]] rfl (by kernel_rfl) (by kernel_rfl) hf hs0 rfl rfl rfl (Y_sliceL rfl rfl rfl (cutFrom_some hk135).1 (leN hn26 (cutFrom_some hk135).2.1) el23 ti2) ?_; clear hf; intro a hf
            refine mRun (i := 5) rfl (by kernel_rfl) ?_
            obtain ⟨r137, hc138, hm⟩ := bind_some hm
            refine sCall hf rfl rfl rfl rfl (cap := []) rfl rfl en26 (impl_StateAfter_ok F (GSystem.mk r4.1.A r4.1.B r4.1.C) A6 n7 c8 hn9 A11 n12 c13 hn14 A15 n16 c17 hn18 r129.1 A131 n132 c133 hn134 xs136 (cutA A23 c25 (r125.1 : Int).toNat 1) (n24 - (r125.1 : Int).toNat) (c25 - (r125.1 : Int).toNat) (cut_len hn26 hk135) _ _ hc138 (hs.rdM (i := 1) rfl) (hs.rd (i := 2) rfl) (hs.rd (i := 3) rfl) (hs.rd (i := 8) rfl) (Rd.cutInts (hs.rd (i := 5) rfl) hn26 (hs.capR (i := 5) rfl) hk135)) ?_; clear hf
            rintro _ w ⟨A139, n140, c141, rfl, hn142, hs1⟩ a hf
            have hs : St [] W w [.blk b27 27 [.slice A6 n7 c8, .slice A11 n12 c13, .slice A15 n16 c17], .mat A6 n7 c8 23 2 vs10 r4.1.A, .row A11 n12 c13 2 1 (ints r4.1.B), .row A15 n16 c17 2 1 (ints r4.1.C), .row A19 n20 c21 2 1 (ints r4.2.1), .row A23 n24 c25 2 1 (ints r4.2.2), .row A42 n43 c44 2 1 (ints r40.1), .blk b124 119 [.slice A_p0_1 p0.length c_p0_1, .int .i64 r125.2.1, .int .u64 r125.2.2], .row A131 n132 c133 2 1 (ints r129.1), .row A139 n140 c141 2 1 (ints r137.1)] := hs.join hs1
            clear hs1
            refine wpO_nil ⟨Or.inl (by decide), ?_⟩
            refine mYp (i := 6) rfl (by kernel_rfl) (by kernel_rfl) hf rfl rfl rfl (fun _ => Y_move rfl rfl) ?_; clear hf; intro a hf
            refine mYp (i := 7) rfl (by kernel_rfl) (by kernel_rfl) hf rfl rfl rfl (fun _ => Y_extract rfl rfl rfl) ?_; clear hf; intro a hf
            refine mYp (i := 8) rfl (by kernel_rfl) (by kernel_rfl) hf rfl rfl rfl (fun _ => Y_extract rfl rfl rfl) ?_; clear hf; intro a hf
            refine mYp (i := 9) rfl (by kernel_rfl) (by kernel_rfl) hf rfl rfl rfl (fun _ => Y_assign rfl rfl) ?_; clear hf; intro a hf
            refine mYp (i := 10) rfl (by kernel_rfl) (by kernel_rfl) hf rfl rfl rfl (fun _ => Y_assign rfl rfl) ?_; clear hf; intro a hf
            refine mDone (by kernel_rfl) ?_
            clear hs0
            refine wpL_seq ?_
            refine wpL_seq ?_
            obtain ⟨r148, hj149, hm⟩ := bind_some hm
            refine wpL_cut (fun a w => ∃ b147 : Bool, b147 = r148 ∧ Fr a 255 [(3, .pointer (some ⟨b27, 0, none⟩)), (4, .slice A19 n20 c21), (5, .slice A23 n24 c25), (166, .bool b147)] ∧ St [] W w [.blk b27 27 [.slice A6 n7 c8, .slice A11 n12 c13, .slice A15 n16 c17], .mat A6 n7 c8 23 2 vs10 r4.1.A, .row A11 n12 c13 2 1 (ints r4.1.B), .row A15 n16 c17 2 1 (ints r4.1.C), .row A19 n20 c21 2 1 (ints r4.2.1), .row A23 n24 c25 2 1 (ints r4.2.2)]) ?_ ?_
            · refine wpL_region ?_
              refine sY hf hs rfl rfl rfl (Y_move rfl rfl) ?_; clear hf; intro a hf
              refine sY hf hs rfl rfl rfl (Y_neq rfl rfl rfl) ?_; clear hf; intro a hf
              refine sY hf hs rfl rfl rfl (Y_move rfl rfl) ?_; clear hf; intro a hf
              refine bsplit (r129.2 != 0) (fun hb150 => ?_) (fun hb150 => ?_)
              · have hj149 := bif_t hj149 hb150
                refine sNo hf rfl rfl rfl (congrArg (fun b => some (Value.bool b)) hb150) rfl rfl rfl ?_; clear hf; intro a hf
                refine sNo hf rfl rfl rfl (congrArg (fun b => some (Value.bool b)) hb150) rfl rfl rfl ?_; clear hf; intro a hf
                refine sY hf hs rfl rfl rfl (Y_pickT rfl (congrArg (fun b => some (Value.bool b)) hb150) rfl) ?_; clear hf; intro a hf
                refine sY hf hs rfl rfl rfl (Y_move rfl rfl) ?_; clear hf; intro a hf
                refine sNo hf rfl rfl rfl rfl rfl rfl rfl ?_; clear hf; intro a hf
                refine sNo hf rfl rfl rfl rfl rfl rfl rfl ?_; clear hf; intro a hf
                refine sNo hf rfl rfl rfl rfl rfl rfl rfl ?_; clear hf; intro a hf
                refine sNo hf rfl rfl rfl rfl rfl rfl rfl ?_; clear hf; intro a hf
                refine sY hf hs rfl rfl rfl (Y_pickT rfl rfl rfl) ?_; clear hf; intro a hf
                refine wpO_nil ?_
                refine wpL_nil (then_normal ?_)
                exact ⟨true, Option.some.inj hj149, (FrD.pick (FrD.pick (FrD.pick (FrD.pick hf.none hf rfl) hf rfl) hf rfl) hf rfl), hs.sel [0, 1, 2, 3, 4, 5] (by decide)⟩
              · have hj149 := bif_f hj149 hb150
                refine sYg hf hs rfl rfl rfl (congrArg (fun b => some (Value.bool b)) hb150) rfl rfl rfl (Y_move rfl rfl) ?_; clear hf; intro a hf
                refine sYg hf hs rfl rfl rfl (congrArg (fun b => some (Value.bool b)) hb150) rfl rfl rfl (Y_neq rfl rfl rfl) ?_; clear hf; intro a hf
                refine sY hf hs rfl rfl rfl (Y_pickF rfl (congrArg (fun b => some (Value.bool b)) hb150) rfl) ?_; clear hf; intro a hf
                refine sY hf hs rfl rfl rfl (Y_move rfl rfl) ?_; clear hf; intro a hf
                refine bsplit (r137.2 != 0) (fun hb151 => ?_) (fun hb151 => ?_)
                · have hj149 := bif_t hj149 hb151
                  refine sNo hf rfl rfl rfl (congrArg (fun b => some (Value.bool b)) hb151) rfl rfl rfl ?_; clear hf; intro a hf
                  refine sNo hf rfl rfl rfl (congrArg (fun b => some (Value.bool b)) hb151) rfl rfl rfl ?_; clear hf; intro a hf
                  refine sNo hf rfl rfl rfl (congrArg (fun b => some (Value.bool b)) hb151) rfl rfl rfl ?_; clear hf; intro a hf
                  refine sNo hf rfl rfl rfl (congrArg (fun b => some (Value.bool b)) hb151) rfl rfl rfl ?_; clear hf; intro a hf
                  refine sY hf hs rfl rfl rfl (Y_pickT rfl (congrArg (fun b => some (Value.bool b)) hb151) rfl) ?_; clear hf; intro a hf
                  refine wpO_nil ?_
                  refine wpL_nil (then_normal ?_)
                  exact ⟨true, Option.some.inj hj149, (FrD.pick (FrD.pick (FrD.pick (FrD.pick hf.none hf rfl) hf rfl) hf rfl) hf rfl), hs.sel [0, 1, 2, 3, 4, 5] (by decide)⟩
                · have hj149 := bif_f hj149 hb151
                  refine sYg hf hs rfl rfl rfl (congrArg (fun b => some (Value.bool b)) hb151) rfl rfl rfl (Y_move rfl rfl) ?_; clear hf; intro a hf
                  refine sYg hf hs rfl rfl rfl (congrArg (fun b => some (Value.bool b)) hb151) rfl rfl rfl (Y_move rfl rfl) ?_; clear hf; intro a hf
                  obtain ⟨r152, hc153, hj149⟩ := bind_some hj149
                  refine sCallg hf rfl rfl rfl (congrArg (fun b => some (Value.bool b)) hb151) rfl rfl rfl rfl (cap := []) rfl rfl en30 (laws_likeInts_ok F r137.1 A139 n140 c141 hn142 r40.1 A42 n43 c44 hn45 _ _ hc153 (hs.rd (i := 9) rfl) (hs.rd (i := 6) rfl)) ?_; clear hf
                  rintro _ w ⟨rfl, hs1⟩ a hf
                  have hs : St [] W w [.blk b27 27 [.slice A6 n7 c8, .slice A11 n12 c13, .slice A15 n16 c17], .mat A6 n7 c8 23 2 vs10 r4.1.A, .row A11 n12 c13 2 1 (ints r4.1.B), .row A15 n16 c17 2 1 (ints r4.1.C), .row A19 n20 c21 2 1 (ints r4.2.1), .row A23 n24 c25 2 1 (ints r4.2.2), .row A42 n43 c44 2 1 (ints r40.1), .blk b124 119 [.slice A_p0_1 p0.length c_p0_1, .int .i64 r125.2.1, .int .u64 r125.2.2], .row A131 n132 c133 2 1 (ints r129.1), .row A139 n140 c141 2 1 (ints r137.1)] := hs.ext hs1.below
                  clear hs1
                  refine sYg hf hs rfl rfl rfl (congrArg (fun b => some (Value.bool b)) hb151) rfl rfl rfl (Y_not rfl rfl) ?_; clear hf; intro a hf
                  refine sY hf hs rfl rfl rfl (Y_pickF rfl (congrArg (fun b => some (Value.bool b)) hb151) rfl) ?_; clear hf; intro a hf
                  refine wpO_nil ?_
                  refine wpL_nil (then_normal ?_)
                  exact ⟨(!r152), Option.some.inj hj149, (FrD.pick (FrD.pick (FrD.pick (FrD.pick hf.none hf rfl) hf rfl) hf rfl) hf rfl), hs.sel [0, 1, 2, 3, 4, 5] (by decide)⟩
            · rintro a w ⟨b147, hr_, hf, hs⟩
              subst hr_
              try dsimp only at hm
              refine wpL_cond hf rfl (fun hb154 => ?_) (fun hb154 => ?_)
              · have hm := bif_t hm hb154
                refine wpL_seq ?_
                refine wpL_region ?_
                refine sY hf hs rfl rfl rfl (Y_assign rfl rfl) ?_; clear hf; intro a hf
                refine wpO_nil ?_
                obtain rfl := Option.some.inj hm
                refine wpL_ret (ret_tmp rfl hf rfl ?_)
                exact ⟨_, rfl, rfl, hs.sel [] (by decide)⟩
              · have hm := bif_f hm hb154
                refine wpL_skip ?_
                refine wpL_seq ?_
                refine wpL_region ?_
                refine sEmpty hf hs rfl rfl rfl rfl el23 ti2 ?_; clear hf hs; intro a w A155 hs hf
                have hs : St [] W w [.blk b27 27 [.slice A6 n7 c8, .slice A11 n12 c13, .slice A15 n16 c17], .mat A6 n7 c8 23 2 vs10 r4.1.A, .row A11 n12 c13 2 1 (ints r4.1.B), .row A15 n16 c17 2 1 (ints r4.1.C), .row A19 n20 c21 2 1 (ints r4.2.1), .row A23 n24 c25 2 1 (ints r4.2.2), .row A155 0 0 2 1 (ints ([] : List Int))] := hs
                refine sY hf hs rfl rfl rfl (Y_assign rfl rfl) ?_; clear hf; intro a hf
                refine wpO_nil ?_
                refine wpL_seq ?_
                refine wpL_seq ?_
                refine wpL_region ?_
                refine sY hf hs rfl rfl rfl (Y_assign rfl rfl) ?_; clear hf; intro a hf
                refine wpO_nil ?_
                obtain ⟨r195, hl196, hm⟩ := bind_some hm
                refine wpL_block (fun a w => ∃ xs190 : List Int, ∃ A191, ∃ n192, ∃ c193, xs190 = r195 ∧ n192 = xs190.length ∧ Fr a 255 [(3, .pointer (some ⟨b27, 0, none⟩)), (5, .slice A23 n24 c25), (25, .slice A191 n192 c193)] ∧ St [] W w [.blk b27 27 [.slice A6 n7 c8, .slice A11 n12 c13, .slice A15 n16 c17], .mat A6 n7 c8 23 2 vs10 r4.1.A, .row A11 n12 c13 2 1 (ints r4.1.B), .row A15 n16 c17 2 1 (ints r4.1.C), .row A23 n24 c25 2 1 (ints r4.2.2), .row A191 n192 c193 2 1 (ints xs190)]) ?_ ?_
                · refine wpL_loop (fun n a w => ∃ xs177 : List Int, ∃ x182 : Int, ∃ A178, ∃ n179, ∃ c180, laws_FnOutputs_L1 F r4 n xs177 x182 = some r195 ∧ n179 = xs177.length ∧ Fr a 255 [(3, .pointer (some ⟨b27, 0, none⟩)), (4, .slice A19 n20 c21), (5, .slice A23 n24 c25), (25, .slice A178 n179 c180), (26, .int .i64 x182)] ∧ St [] W w [.blk b27 27 [.slice A6 n7 c8, .slice A11 n12 c13, .slice A15 n16 c17], .mat A6 n7 c8 23 2 vs10 r4.1.A, .row A11 n12 c13 2 1 (ints r4.1.B), .row A15 n16 c17 2 1 (ints r4.1.C), .row A19 n20 c21 2 1 (ints r4.2.1), .row A23 n24 c25 2 1 (ints r4.2.2), .row A178 n179 c180 2 1 (ints xs177)]) F ?_ ?_ ?_
                  · exact ⟨([] : List Int), 0, A155, 0, 0, hl196, rfl, (FrD.pick (FrD.pick (FrD.pick (FrD.pick (FrD.pick hf.none hf rfl) hf rfl) hf rfl) hf rfl) hf rfl), hs⟩
                  · rintro a w ⟨xs177, x182, A178, n179, c180, h0_, -, -, -⟩; simp [laws_FnOutputs_L1] at h0_
                  · rintro n198 a w ⟨xs177, x182, A178, n179, c180, hm197, hn181, hf, hs⟩
                    rw [laws_FnOutputs_L1] at hm197
                    refine wpL_seq ?_
                    refine wpL_seq ?_
                    refine wpL_region ?_
                    refine sY hf hs rfl rfl rfl (Y_move rfl rfl) ?_; clear hf; intro a hf
                    refine sY hf hs rfl rfl rfl (Y_move rfl rfl) ?_; clear hf; intro a hf
                    refine sY hf hs rfl rfl rfl (Y_lenH rfl rfl el23 hn22) ?_; clear hf; intro a hf
                    refine sY hf hs rfl rfl rfl (Y_lss rfl rfl rfl) ?_; clear hf; intro a hf
                    refine wpO_nil ?_
                    refine wpL_cond hf rfl (fun hb199 => ?_) (fun hb199 => ?_)
                    · have hm197 := bif_t hm197 hb199
                      refine wpL_skip ?_
                      refine wpL_seq ?_
                      refine wpL_block0 ?_
                      refine wpL_region ?_
                      refine sY hf hs rfl rfl rfl (Y_move rfl rfl) ?_; clear hf; intro a hf
                      refine sBuildSlice (parts := [(0, .const (.int .i64 (-1000000000000000)))]) (vs := [.int .i64 (-1000000000000000)]) (cells := [.int .i64 (-1000000000000000)]) hf hs rfl rfl rfl rfl rfl el23 ti2 rfl rfl rfl rfl ?_; clear hf hs; intro a w A200 hs hA201 hf
                      have hs : St [] W w [.blk b27 27 [.slice A6 n7 c8, .slice A11 n12 c13, .slice A15 n16 c17], .mat A6 n7 c8 23 2 vs10 r4.1.A, .row A11 n12 c13 2 1 (ints r4.1.B), .row A15 n16 c17 2 1 (ints r4.1.C), .row A19 n20 c21 2 1 (ints r4.2.1), .row A23 n24 c25 2 1 (ints r4.2.2), .row A178 n179 c180 2 1 (ints xs177), .row A200 1 1 2 1 (ints ([(-1000000000000000)]))] := hs
                      obtain ⟨xs204, ha205, hm197⟩ := bind_some hm197
                      refine sAppendL (i := 6) (xs := xs177) (ys := [(-1000000000000000)]) (enc := ints) hf hs rfl rfl rfl rfl rfl rfl hn181 rfl rfl ha205 el23 ti2 rfl rfl rfl (hs.rd (i := 7) rfl) (Nat.succ_pos _) ints_len1 ints_append ints_one ?_; clear hf hs; intro a w A202 c203 hs hf
                      have hs : St [] W w [.blk b27 27 [.slice A6 n7 c8, .slice A11 n12 c13, .slice A15 n16 c17], .mat A6 n7 c8 23 2 vs10 r4.1.A, .row A11 n12 c13 2 1 (ints r4.1.B), .row A15 n16 c17 2 1 (ints r4.1.C), .row A19 n20 c21 2 1 (ints r4.2.1), .row A23 n24 c25 2 1 (ints r4.2.2), .row A202 xs204.length c203 2 1 (ints xs204), .row A200 1 1 2 1 (ints ([(-1000000000000000)]))] := hs
                      refine sY hf hs rfl rfl rfl (Y_assign rfl rfl) ?_; clear hf; intro a hf
                      refine wpO_nil ?_
                      refine wpL_nil (Qb_normal ?_)
                      refine wpL_region ?_
                      refine sY hf hs rfl rfl rfl (Y_move rfl rfl) ?_; clear hf; intro a hf
                      refine sY hf hs rfl rfl rfl (Y_add rfl rfl rfl) ?_; clear hf; intro a hf
                      refine sY hf hs rfl rfl rfl (Y_assign rfl rfl) ?_; clear hf; intro a hf
                      refine wpO_nil ?_
                      refine wpL_nil (Ql_normal ?_)
                      exact ⟨xs204, (IntKind.i64.wrap (x182 + 1)), A202, xs204.length, c203, hm197, rfl, (FrD.pick (FrD.pick (FrD.pick (FrD.pick (FrD.pick hf.none hf rfl) hf rfl) hf rfl) hf rfl) hf rfl), hs.sel [0, 1, 2, 3, 4, 5, 6] (by decide)⟩
                    · have hm197 := bif_f hm197 hb199
                      refine wpL_exit (Ql_exit (Qb_exit ?_))
                      exact ⟨xs177, A178, n179, c180, Option.some.inj hm197, hn181, (FrD.pick (FrD.pick (FrD.pick hf.none hf rfl) hf rfl) hf rfl), hs.sel [0, 1, 2, 3, 5, 6] (by decide)⟩
                · rintro a w ⟨xs190, A191, n192, c193, hr_, hn194, hf, hs⟩
                  subst hr_
                  try dsimp only at hm
                  refine wpL_seq ?_
                  refine wpL_region ?_
                  refine sY hf hs rfl rfl rfl (Y_load_blkS rfl rfl (i := 0) rfl ag27 ti27 rfl) ?_; clear hf; intro a hf
                  refine sY hf hs rfl rfl rfl (Y_move rfl rfl) ?_; clear hf; intro a hf
                  refine sY hf hs rfl rfl rfl (Y_move rfl rfl) ?_; clear hf; intro a hf
                  obtain ⟨r206, hc207, hm⟩ := bind_some hm
                  refine sCall hf rfl rfl rfl rfl (cap := []) rfl rfl en24 (impl_OutputsOf_ok F (GSystem.mk r4.1.A r4.1.B r4.1.C) A6 n7 c8 hn9 A11 n12 c13 hn14 A15 n16 c17 hn18 xs190 A191 n192 c193 hn194 r4.2.2 A23 n24 c25 hn26 _ _ hc207 (hs.rdM (i := 1) rfl) (hs.rd (i := 2) rfl) (hs.rd (i := 3) rfl) (hs.rd (i := 5) rfl) (hs.rd (i := 4) rfl)) ?_; clear hf
                  rintro _ w ⟨A208, n209, c210, rfl, hn211, hs1⟩ a hf
                  have hs : St [] W w [.blk b27 27 [.slice A6 n7 c8, .slice A11 n12 c13, .slice A15 n16 c17], .mat A6 n7 c8 23 2 vs10 r4.1.A, .row A11 n12 c13 2 1 (ints r4.1.B), .row A15 n16 c17 2 1 (ints r4.1.C), .row A23 n24 c25 2 1 (ints r4.2.2), .row A191 n192 c193 2 1 (ints xs190), .row A208 n209 c210 2 1 (ints r206.1)] := hs.join hs1
                  clear hs1
                  refine sY hf hs rfl rfl rfl (Y_move rfl rfl) ?_; clear hf; intro a hf
                  refine sY hf hs rfl rfl rfl (Y_extract rfl rfl rfl) ?_; clear hf; intro a hf
                  refine sY hf hs rfl rfl rfl (Y_extract rfl rfl rfl) ?_; clear hf; intro a hf
                  refine sY hf hs rfl rfl rfl (Y_assign rfl rfl) ?_; clear hf; intro a hf
                  refine sY hf hs rfl rfl rfl (Y_assign rfl rfl) ?_; clear hf; intro a hf
                  refine wpO_nil ?_
                  refine wpL_seq ?_
                  refine wpL_region ?_
                  refine sY hf hs rfl rfl rfl (Y_load_blkS rfl rfl (i := 0) rfl ag27 ti27 rfl) ?_; clear hf; intro a hf
                  refine sY hf hs rfl rfl rfl (Y_move rfl rfl) ?_; clear hf; intro a hf
                  refine sY hf hs rfl rfl rfl (Y_lenH rfl rfl el23 hn26) ?_; clear hf; intro a hf
                  obtain ⟨r212, hc213, hm⟩ := bind_some hm
                  refine sCall hf rfl rfl rfl rfl (cap := []) rfl rfl en22 (impl_ResponseOf_ok F (GSystem.mk r4.1.A r4.1.B r4.1.C) A6 n7 c8 hn9 A11 n12 c13 hn14 A15 n16 c17 hn18 (r4.2.2.length : Int) _ _ hc213 (hs.rdM (i := 1) rfl) (hs.rd (i := 2) rfl) (hs.rd (i := 3) rfl)) ?_; clear hf
                  rintro _ w ⟨A214, n215, c216, rfl, hn217, hs1⟩ a hf
                  have hs : St [] W w [.blk b27 27 [.slice A6 n7 c8, .slice A11 n12 c13, .slice A15 n16 c17], .mat A6 n7 c8 23 2 vs10 r4.1.A, .row A11 n12 c13 2 1 (ints r4.1.B), .row A15 n16 c17 2 1 (ints r4.1.C), .row A23 n24 c25 2 1 (ints r4.2.2), .row A191 n192 c193 2 1 (ints xs190), .row A208 n209 c210 2 1 (ints r206.1), .row A214 n215 c216 2 1 (ints r212.1)] := hs.join hs1
                  clear hs1
                  refine sY hf hs rfl rfl rfl (Y_move rfl rfl) ?_; clear hf; intro a hf
                  refine sY hf hs rfl rfl rfl (Y_extract rfl rfl rfl) ?_; clear hf; intro a hf
                  refine sY hf hs rfl rfl rfl (Y_extract rfl rfl rfl) ?_; clear hf; intro a hf
                  refine sY hf hs rfl rfl rfl (Y_assign rfl rfl) ?_; clear hf; intro a hf
                  refine sY hf hs rfl rfl rfl (Y_assign rfl rfl) ?_; clear hf; intro a hf
                  refine wpO_nil ?_
                  refine wpL_seq ?_
                  refine wpL_seq ?_
                  obtain ⟨r220, hj221, hm⟩ := bind_some hm
                  refine wpL_cut (fun a w => ∃ b219 : Bool, b219 = r220 ∧ Fr a 255 [(5, .slice A23 n24 c25), (27, .slice A208 n209 c210), (28, .int .i64 r206.2), (29, .slice A214 n215 c216), (30, .int .i64 r212.2), (196, .bool b219)] ∧ St [] W w [.row A23 n24 c25 2 1 (ints r4.2.2), .row A208 n209 c210 2 1 (ints r206.1), .row A214 n215 c216 2 1 (ints r212.1)]) ?_ ?_
                  · refine wpL_region ?_
                    refine sY hf hs rfl rfl rfl (Y_move rfl rfl) ?_; clear hf; intro a hf
                    refine sY hf hs rfl rfl rfl (Y_neq rfl rfl rfl) ?_; clear hf; intro a hf
                    refine sY hf hs rfl rfl rfl (Y_move rfl rfl) ?_; clear hf; intro a hf
                    refine bsplit (r206.2 != 0) (fun hb222 => ?_) (fun hb222 => ?_)
                    · have hj221 := bif_t hj221 hb222
                      refine sNo hf rfl rfl rfl (congrArg (fun b => some (Value.bool b)) hb222) rfl rfl rfl ?_; clear hf; intro a hf
                      refine sNo hf rfl rfl rfl (congrArg (fun b => some (Value.bool b)) hb222) rfl rfl rfl ?_; clear hf; intro a hf
                      refine sY hf hs rfl rfl rfl (Y_pickT rfl (congrArg (fun b => some (Value.bool b)) hb222) rfl) ?_; clear hf; intro a hf
                      refine wpO_nil ?_
                      refine wpL_nil (then_normal ?_)
                      exact ⟨true, Option.some.inj hj221, (FrD.pick (FrD.pick (FrD.pick (FrD.pick (FrD.pick (FrD.pick hf.none hf rfl) hf rfl) hf rfl) hf rfl) hf rfl) hf rfl), hs.sel [4, 6, 7] (by decide)⟩
                    · have hj221 := bif_f hj221 hb222
                      refine sYg hf hs rfl rfl rfl (congrArg (fun b => some (Value.bool b)) hb222) rfl rfl rfl (Y_move rfl rfl) ?_; clear hf; intro a hf
                      refine sYg hf hs rfl rfl rfl (congrArg (fun b => some (Value.bool b)) hb222) rfl rfl rfl (Y_neq rfl rfl rfl) ?_; clear hf; intro a hf
                      refine sY hf hs rfl rfl rfl (Y_pickF rfl (congrArg (fun b => some (Value.bool b)) hb222) rfl) ?_; clear hf; intro a hf
                      refine wpO_nil ?_
                      refine wpL_nil (then_normal ?_)
                      exact ⟨(r212.2 != 0), Option.some.inj hj221, (FrD.pick (FrD.pick (FrD.pick (FrD.pick (FrD.pick (FrD.pick hf.none hf rfl) hf rfl) hf rfl) hf rfl) hf rfl) hf rfl), hs.sel [4, 6, 7] (by decide)⟩
                  · rintro a w ⟨b219, hr_, hf, hs⟩
                    subst hr_
                    try dsimp only at hm
                    refine wpL_cond hf rfl (fun hb223 => ?_) (fun hb223 => ?_)
                    · have hm := bif_t hm hb223
                      refine wpL_seq ?_
                      obtain ⟨r229, hj230, hm⟩ := bind_some hm
                      refine wpL_cut (fun a w => ∃ b228 : Bool, b228 = r229 ∧ Fr a 255 [(2, .bool b228)] ∧ St [] W w []) ?_ ?_
                      · refine wpL_region ?_
                        refine sY hf hs rfl rfl rfl (Y_move rfl rfl) ?_; clear hf; intro a hf
                        refine sY hf hs rfl rfl rfl (Y_eql rfl rfl rfl) ?_; clear hf; intro a hf
                        refine sY hf hs rfl rfl rfl (Y_move rfl rfl) ?_; clear hf; intro a hf
                        refine bsplit (r206.2 == 0) (fun hb231 => ?_) (fun hb231 => ?_)
                        · have hj230 := bif_t hj230 hb231
                          refine sNo hf rfl rfl rfl (congrArg (fun b => some (Value.bool b)) hb231) rfl rfl rfl ?_; clear hf; intro a hf
                          refine sNo hf rfl rfl rfl (congrArg (fun b => some (Value.bool b)) hb231) rfl rfl rfl ?_; clear hf; intro a hf
                          refine sY hf hs rfl rfl rfl (Y_pickT rfl (congrArg (fun b => some (Value.bool b)) hb231) rfl) ?_; clear hf; intro a hf
                          refine sY hf hs rfl rfl rfl (Y_move rfl rfl) ?_; clear hf; intro a hf
                          refine sYg hf hs rfl rfl rfl rfl rfl rfl rfl (Y_move rfl rfl) ?_; clear hf; intro a hf
                          refine sYg hf hs rfl rfl rfl rfl rfl rfl rfl (Y_eql rfl rfl rfl) ?_; clear hf; intro a hf
                          refine sYg hf hs rfl rfl rfl rfl rfl rfl rfl (Y_move rfl rfl) ?_; clear hf; intro a hf
                          refine bsplit (r212.2 == 0) (fun hb232 => ?_) (fun hb232 => ?_)
                          · have hj230 := bif_t hj230 hb232
                            refine sNo hf rfl rfl rfl (congrArg (fun b => some (Value.bool b)) hb232) rfl rfl rfl ?_; clear hf; intro a hf
                            refine sNo hf rfl rfl rfl (congrArg (fun b => some (Value.bool b)) hb232) rfl rfl rfl ?_; clear hf; intro a hf
                            refine sYg hf hs rfl rfl rfl rfl rfl rfl rfl (Y_pickT rfl (congrArg (fun b => some (Value.bool b)) hb232) rfl) ?_; clear hf; intro a hf
                            refine sY hf hs rfl rfl rfl (Y_pickT rfl rfl rfl) ?_; clear hf; intro a hf
                            refine sY hf hs rfl rfl rfl (Y_assign rfl rfl) ?_; clear hf; intro a hf
                            refine wpO_nil ?_
                            refine wpL_nil (then_normal ?_)
                            exact ⟨true, Option.some.inj hj230, (FrD.pick hf.none hf rfl), hs.sel [] (by decide)⟩
                          · have hj230 := bif_f hj230 hb232
                            refine sYg hf hs rfl rfl rfl (congrArg (fun b => some (Value.bool b)) hb232) rfl rfl rfl (Y_move rfl rfl) ?_; clear hf; intro a hf
                            refine sYg hf hs rfl rfl rfl (congrArg (fun b => some (Value.bool b)) hb232) rfl rfl rfl (Y_eql rfl rfl rfl) ?_; clear hf; intro a hf
                            refine sYg hf hs rfl rfl rfl rfl rfl rfl rfl (Y_pickF rfl (congrArg (fun b => some (Value.bool b)) hb232) rfl) ?_; clear hf; intro a hf
                            refine sY hf hs rfl rfl rfl (Y_pickT rfl rfl rfl) ?_; clear hf; intro a hf
                            refine sY hf hs rfl rfl rfl (Y_assign rfl rfl) ?_; clear hf; intro a hf
                            refine wpO_nil ?_
                            refine wpL_nil (then_normal ?_)
                            exact ⟨(r212.2 == 3), Option.some.inj hj230, (FrD.pick hf.none hf rfl), hs.sel [] (by decide)⟩
                        · have hj230 := bif_f hj230 hb231
                          refine sYg hf hs rfl rfl rfl (congrArg (fun b => some (Value.bool b)) hb231) rfl rfl rfl (Y_move rfl rfl) ?_; clear hf; intro a hf
                          refine sYg hf hs rfl rfl rfl (congrArg (fun b => some (Value.bool b)) hb231) rfl rfl rfl (Y_eql rfl rfl rfl) ?_; clear hf; intro a hf
                          refine sY hf hs rfl rfl rfl (Y_pickF rfl (congrArg (fun b => some (Value.bool b)) hb231) rfl) ?_; clear hf; intro a hf
                          refine sY hf hs rfl rfl rfl (Y_move rfl rfl) ?_; clear hf; intro a hf
                          refine bsplit (r206.2 == 3) (fun hb233 => ?_) (fun hb233 => ?_)
                          · have hj230 := bif_t hj230 hb233
                            refine sYg hf hs rfl rfl rfl (congrArg (fun b => some (Value.bool b)) hb233) rfl rfl rfl (Y_move rfl rfl) ?_; clear hf; intro a hf
                            refine sYg hf hs rfl rfl rfl (congrArg (fun b => some (Value.bool b)) hb233) rfl rfl rfl (Y_eql rfl rfl rfl) ?_; clear hf; intro a hf
                            refine sYg hf hs rfl rfl rfl (congrArg (fun b => some (Value.bool b)) hb233) rfl rfl rfl (Y_move rfl rfl) ?_; clear hf; intro a hf
                            refine bsplit (r212.2 == 0) (fun hb234 => ?_) (fun hb234 => ?_)
                            · have hj230 := bif_t hj230 hb234
                              refine sNo hf rfl rfl rfl (congrArg (fun b => some (Value.bool b)) hb234) rfl rfl rfl ?_; clear hf; intro a hf
                              refine sNo hf rfl rfl rfl (congrArg (fun b => some (Value.bool b)) hb234) rfl rfl rfl ?_; clear hf; intro a hf
                              refine sYg hf hs rfl rfl rfl (congrArg (fun b => some (Value.bool b)) hb233) rfl rfl rfl (Y_pickT rfl (congrArg (fun b => some (Value.bool b)) hb234) rfl) ?_; clear hf; intro a hf
                              refine sY hf hs rfl rfl rfl (Y_pickT rfl (congrArg (fun b => some (Value.bool b)) hb233) rfl) ?_; clear hf; intro a hf
                              refine sY hf hs rfl rfl rfl (Y_assign rfl rfl) ?_; clear hf; intro a hf
                              refine wpO_nil ?_
                              refine wpL_nil (then_normal ?_)
                              exact ⟨true, Option.some.inj hj230, (FrD.pick hf.none hf rfl), hs.sel [] (by decide)⟩
                            · have hj230 := bif_f hj230 hb234
                              refine sYg hf hs rfl rfl rfl (congrArg (fun b => some (Value.bool b)) hb234) rfl rfl rfl (Y_move rfl rfl) ?_; clear hf; intro a hf
                              refine sYg hf hs rfl rfl rfl (congrArg (fun b => some (Value.bool b)) hb234) rfl rfl rfl (Y_eql rfl rfl rfl) ?_; clear hf; intro a hf
                              refine sYg hf hs rfl rfl rfl (congrArg (fun b => some (Value.bool b)) hb233) rfl rfl rfl (Y_pickF rfl (congrArg (fun b => some (Value.bool b)) hb234) rfl) ?_; clear hf; intro a hf
                              refine sY hf hs rfl rfl rfl (Y_pickT rfl (congrArg (fun b => some (Value.bool b)) hb233) rfl) ?_; clear hf; intro a hf
                              refine sY hf hs rfl rfl rfl (Y_assign rfl rfl) ?_; clear hf; intro a hf
                              refine wpO_nil ?_
                              refine wpL_nil (then_normal ?_)
                              exact ⟨(r212.2 == 3), Option.some.inj hj230, (FrD.pick hf.none hf rfl), hs.sel [] (by decide)⟩
                          · have hj230 := bif_f hj230 hb233
                            refine sNo hf rfl rfl rfl (congrArg (fun b => some (Value.bool b)) hb233) rfl rfl rfl ?_; clear hf; intro a hf
                            refine sNo hf rfl rfl rfl (congrArg (fun b => some (Value.bool b)) hb233) rfl rfl rfl ?_; clear hf; intro a hf
                            refine sNo hf rfl rfl rfl (congrArg (fun b => some (Value.bool b)) hb233) rfl rfl rfl ?_; clear hf; intro a hf
                            refine sNoU hf rfl rfl rfl rfl rfl rfl rfl ?_; clear hf; intro a hf
                            refine sNoU hf rfl rfl rfl rfl rfl rfl rfl ?_; clear hf; intro a hf
                            refine sNo hf rfl rfl rfl (congrArg (fun b => some (Value.bool b)) hb233) rfl rfl rfl ?_; clear hf; intro a hf
                            refine sY hf hs rfl rfl rfl (Y_pickF rfl (congrArg (fun b => some (Value.bool b)) hb233) rfl) ?_; clear hf; intro a hf
                            refine sY hf hs rfl rfl rfl (Y_assign rfl rfl) ?_; clear hf; intro a hf
                            refine wpO_nil ?_
                            refine wpL_nil (then_normal ?_)
                            exact ⟨false, Option.some.inj hj230, (FrD.pick hf.none hf rfl), hs.sel [] (by decide)⟩
                      · rintro a w ⟨b228, hr_, hf, hs⟩
                        subst hr_
                        try dsimp only at hm
                        obtain rfl := Option.some.inj hm
                        refine wpL_ret (ret_tmp rfl hf rfl ?_)
                        exact ⟨_, rfl, rfl, hs⟩
                    · have hm := bif_f hm hb223
                      refine wpL_skip ?_
                      refine wpL_seq ?_
                      refine wpL_seq ?_
                      refine wpL_region ?_
                      refine sY hf hs rfl rfl rfl (Y_assign rfl rfl) ?_; clear hf; intro a hf
                      refine wpO_nil ?_
                      obtain ⟨r504, hl505, hm⟩ := bind_some hm
                      refine wpL_block (fun a w => Sum.inr () = r504 ∧ Fr a 255 [] ∧ St [] W w []) ?_ ?_
                      · refine wpL_loop (fun n a w => ∃ x414 : Int, laws_FnOutputs_L5 F r4 r206 r212 n x414 = some r504 ∧ Fr a 255 [(5, .slice A23 n24 c25), (27, .slice A208 n209 c210), (29, .slice A214 n215 c216), (31, .int .i64 x414)] ∧ St [] W w [.row A23 n24 c25 2 1 (ints r4.2.2), .row A208 n209 c210 2 1 (ints r206.1), .row A214 n215 c216 2 1 (ints r212.1)]) F ?_ ?_ ?_
                        · exact ⟨0, hl505, (FrD.pick (FrD.pick (FrD.pick (FrD.pick hf.none hf rfl) hf rfl) hf rfl) hf rfl), hs⟩
                        · rintro a w ⟨x414, h0_, -, -⟩; simp [laws_FnOutputs_L5] at h0_
                        · rintro n507 a w ⟨x414, hm506, hf, hs⟩
                          rw [laws_FnOutputs_L5] at hm506
                          refine wpL_seq ?_
                          refine wpL_seq ?_
                          refine wpL_region ?_
                          refine sY hf hs rfl rfl rfl (Y_move rfl rfl) ?_; clear hf; intro a hf
                          refine sY hf hs rfl rfl rfl (Y_move rfl rfl) ?_; clear hf; intro a hf
                          refine sY hf hs rfl rfl rfl (Y_lenH rfl rfl el23 hn211) ?_; clear hf; intro a hf
                          refine sY hf hs rfl rfl rfl (Y_lss rfl rfl rfl) ?_; clear hf; intro a hf
                          refine wpO_nil ?_
                          refine wpL_cond hf rfl (fun hb508 => ?_) (fun hb508 => ?_)
                          · have hm506 := bif_t hm506 hb508
                            refine wpL_skip ?_
                            refine wpL_seq ?_
                            refine wpL_block0 ?_
                            refine wpL_seq ?_
                            refine wpL_region ?_
                            refine sY hf hs rfl rfl rfl (Y_assign rfl rfl) ?_; clear hf; intro a hf
                            refine wpO_nil ?_
                            refine wpL_seq ?_
                            refine wpL_seq ?_
                            refine wpL_region ?_
                            refine sY hf hs rfl rfl rfl (Y_assign rfl rfl) ?_; clear hf; intro a hf
                            refine wpO_nil ?_
                            obtain ⟨r571, hl572, hm506⟩ := bind_some hm506
                            refine wpL_block (fun a w => ∃ x570 : Int, x570 = r571 ∧ Fr a 255 [(5, .slice A23 n24 c25), (27, .slice A208 n209 c210), (29, .slice A214 n215 c216), (31, .int .i64 x414), (32, .int .i64 x570)] ∧ St [] W w [.row A23 n24 c25 2 1 (ints r4.2.2), .row A208 n209 c210 2 1 (ints r206.1), .row A214 n215 c216 2 1 (ints r212.1)]) ?_ ?_
                            · refine wpL_loop (fun n a w => ∃ x549 : Int, ∃ x550 : Int, laws_FnOutputs_L6 F r4 r212 x414 n x549 x550 = some r571 ∧ Fr a 255 [(5, .slice A23 n24 c25), (27, .slice A208 n209 c210), (29, .slice A214 n215 c216), (31, .int .i64 x414), (32, .int .i64 x549), (33, .int .i64 x550)] ∧ St [] W w [.row A23 n24 c25 2 1 (ints r4.2.2), .row A208 n209 c210 2 1 (ints r206.1), .row A214 n215 c216 2 1 (ints r212.1)]) F ?_ ?_ ?_
                              · exact ⟨(-1000000000000000), 0, hl572, (FrD.pick (FrD.pick (FrD.pick (FrD.pick (FrD.pick (FrD.pick hf.none hf rfl) hf rfl) hf rfl) hf rfl) hf rfl) hf rfl), hs⟩
                              · rintro a w ⟨x549, x550, h0_, -, -⟩; simp [laws_FnOutputs_L6] at h0_
                              · rintro n574 a w ⟨x549, x550, hm573, hf, hs⟩
                                rw [laws_FnOutputs_L6] at hm573
                                refine wpL_seq ?_
                                refine wpL_seq ?_
                                refine wpL_region ?_
                                refine sY hf hs rfl rfl rfl (Y_move rfl rfl) ?_; clear hf; intro a hf
                                refine sY hf hs rfl rfl rfl (Y_move rfl rfl) ?_; clear hf; intro a hf
                                refine sY hf hs rfl rfl rfl (Y_leq rfl rfl rfl) ?_; clear hf; intro a hf
                                refine wpO_nil ?_
                                refine wpL_cond hf rfl (fun hb575 => ?_) (fun hb575 => ?_)
                                · have hm573 := bif_t hm573 hb575
                                  refine wpL_skip ?_
                                  refine wpL_seq ?_
                                  refine wpL_block0 ?_
                                  refine wpL_seq ?_
                                  obtain ⟨r582, hj583, hm573⟩ := bind_some hm573
                                  refine wpL_cut (fun a w => ∃ b581 : Bool, b581 = r582 ∧ Fr a 255 [(5, .slice A23 n24 c25), (27, .slice A208 n209 c210), (29, .slice A214 n215 c216), (31, .int .i64 x414), (32, .int .i64 x549), (33, .int .i64 x550), (235, .bool b581)] ∧ St [] W w [.row A23 n24 c25 2 1 (ints r4.2.2), .row A208 n209 c210 2 1 (ints r206.1), .row A214 n215 c216 2 1 (ints r212.1)]) ?_ ?_
                                  · refine wpL_region ?_
                                    refine sY hf hs rfl rfl rfl (Y_move rfl rfl) ?_; clear hf; intro a hf
                                    refine sY hf hs rfl rfl rfl (Y_move rfl rfl) ?_; clear hf; intro a hf
                                    obtain ⟨q584, hi585, hj583⟩ := bind_some hj583
                                    obtain ⟨hi585a, hi585b, hi585q⟩ := idx_some hi585
                                    refine sY hf hs rfl rfl rfl (Y_index rfl rfl rfl el23 ti2 (Rd.isAt (hs.rd (i := 2) rfl) (at1 (ints_at hi585q))) hi585a (ltn hn217 hi585b)) ?_; clear hf; intro a hf
                                    refine sY hf hs rfl rfl rfl (Y_load_rd rfl rfl (fun w hs => hs.rd (i := 2) rfl) (at1 (ints_at hi585q)) ag2) ?_; clear hf; intro a hf
                                    refine sY hf hs rfl rfl rfl (Y_neq rfl rfl rfl) ?_; clear hf; intro a hf
                                    refine sY hf hs rfl rfl rfl (Y_move rfl rfl) ?_; clear hf; intro a hf
                                    refine bsplit (q584 != (-1000000000000000)) (fun hb586 => ?_) (fun hb586 => ?_)
                                    · have hj583 := bif_t hj583 hb586
                                      refine sYg hf hs rfl rfl rfl (congrArg (fun b => some (Value.bool b)) hb586) rfl rfl rfl (Y_move rfl rfl) ?_; clear hf; intro a hf
                                      refine sYg hf hs rfl rfl rfl (congrArg (fun b => some (Value.bool b)) hb586) rfl rfl rfl (Y_move rfl rfl) ?_; clear hf; intro a hf
                                      refine sYg hf hs rfl rfl rfl (congrArg (fun b => some (Value.bool b)) hb586) rfl rfl rfl (Y_move rfl rfl) ?_; clear hf; intro a hf
                                      refine sYg hf hs rfl rfl rfl (congrArg (fun b => some (Value.bool b)) hb586) rfl rfl rfl (Y_sub rfl rfl rfl) ?_; clear hf; intro a hf
                                      obtain ⟨q587, hi588, hj583⟩ := bind_some hj583
                                      obtain ⟨hi588a, hi588b, hi588q⟩ := idx_some hi588
                                      refine sYg hf hs rfl rfl rfl (congrArg (fun b => some (Value.bool b)) hb586) rfl rfl rfl (Y_index rfl rfl rfl el23 ti2 (Rd.isAt (hs.rd (i := 0) rfl) (at1 (ints_at hi588q))) hi588a (ltn hn26 hi588b)) ?_; clear hf; intro a hf
                                      refine sYg hf hs rfl rfl rfl (congrArg (fun b => some (Value.bool b)) hb586) rfl rfl rfl (Y_load_rd rfl rfl (fun w hs => hs.rd (i := 0) rfl) (at1 (ints_at hi588q)) ag2) ?_; clear hf; intro a hf
                                      refine sYg hf hs rfl rfl rfl (congrArg (fun b => some (Value.bool b)) hb586) rfl rfl rfl (Y_neq rfl rfl rfl) ?_; clear hf; intro a hf
                                      refine sY hf hs rfl rfl rfl (Y_pickT rfl (congrArg (fun b => some (Value.bool b)) hb586) rfl) ?_; clear hf; intro a hf
                                      refine wpO_nil ?_
                                      refine wpL_nil (then_normal ?_)
                                      exact ⟨(q587 != (-1000000000000000)), Option.some.inj hj583, (FrD.pick (FrD.pick (FrD.pick (FrD.pick (FrD.pick (FrD.pick (FrD.pick hf.none hf rfl) hf rfl) hf rfl) hf rfl) hf rfl) hf rfl) hf rfl), hs⟩
                                    · have hj583 := bif_f hj583 hb586
                                      refine sNo hf rfl rfl rfl (congrArg (fun b => some (Value.bool b)) hb586) rfl rfl rfl ?_; clear hf; intro a hf
                                      refine sNo hf rfl rfl rfl (congrArg (fun b => some (Value.bool b)) hb586) rfl rfl rfl ?_; clear hf; intro a hf
                                      refine sNo hf rfl rfl rfl (congrArg (fun b => some (Value.bool b)) hb586) rfl rfl rfl ?_; clear hf; intro a hf
                                      refine sNo hf rfl rfl rfl (congrArg (fun b => some (Value.bool b)) hb586) rfl rfl rfl ?_; clear hf; intro a hf
                                      refine sNo hf rfl rfl rfl (congrArg (fun b => some (Value.bool b)) hb586) rfl rfl rfl ?_; clear hf; intro a hf
                                      refine sNo hf rfl rfl rfl (congrArg (fun b => some (Value.bool b)) hb586) rfl rfl rfl ?_; clear hf; intro a hf
                                      refine sNo hf rfl rfl rfl (congrArg (fun b => some (Value.bool b)) hb586) rfl rfl rfl ?_; clear hf; intro a hf
                                      refine sY hf hs rfl rfl rfl (Y_pickF rfl (congrArg (fun b => some (Value.bool b)) hb586) rfl) ?_; clear hf; intro a hf
                                      refine wpO_nil ?_
                                      refine wpL_nil (then_normal ?_)
                                      exact ⟨false, Option.some.inj hj583, (FrD.pick (FrD.pick (FrD.pick (FrD.pick (FrD.pick (FrD.pick (FrD.pick hf.none hf rfl) hf rfl) hf rfl) hf rfl) hf rfl) hf rfl) hf rfl), hs⟩
                                  · rintro a w ⟨b581, hr_, hf, hs⟩
                                    subst hr_
                                    try dsimp only at hm573
                                    refine wpL_cond hf rfl (fun hb589 => ?_) (fun hb589 => ?_)
                                    · have hm573 := bif_t hm573 hb589
                                      refine wpL_draw (by kernel_rfl) (by kernel_rfl) hs ?_
                                      refine qY hf rfl rfl rfl (Y_move rfl rfl) ?_; clear hf; intro a hf
                                      refine qY hf rfl rfl rfl (Y_move rfl rfl) ?_; clear hf; intro a hf
                                      refine qY hf rfl rfl rfl (Y_move rfl rfl) ?_; clear hf; intro a hf
                                      obtain ⟨q590, hi591, hm573⟩ := bind_some hm573
                                      obtain ⟨hi591a, hi591b, hi591q⟩ := idx_some hi591
                                      refine qY hf rfl rfl rfl (Y_index rfl rfl rfl el23 ti2 (Rd.isAt (hs.rd (i := 2) rfl) (at1 (ints_at hi591q))) hi591a (ltn hn217 hi591b)) ?_; clear hf; intro a hf
                                      refine qY hf rfl rfl rfl (Y_load_rd rfl rfl (fun w hs => hs.rd (i := 2) rfl) (at1 (ints_at hi591q)) ag2) ?_; clear hf; intro a hf
                                      refine qY hf rfl rfl rfl (Y_move rfl rfl) ?_; clear hf; intro a hf
                                      refine qY hf rfl rfl rfl (Y_move rfl rfl) ?_; clear hf; intro a hf
                                      refine qY hf rfl rfl rfl (Y_move rfl rfl) ?_; clear hf; intro a hf
                                      refine qY hf rfl rfl rfl (Y_sub rfl rfl rfl) ?_; clear hf; intro a hf
                                      obtain ⟨q592, hi593, hm573⟩ := bind_some hm573
                                      obtain ⟨hi593a, hi593b, hi593q⟩ := idx_some hi593
                                      refine qY hf rfl rfl rfl (Y_index rfl rfl rfl el23 ti2 (Rd.isAt (hs.rd (i := 0) rfl) (at1 (ints_at hi593q))) hi593a (ltn hn26 hi593b)) ?_; clear hf; intro a hf
                                      refine qY hf rfl rfl rfl (Y_load_rd rfl rfl (fun w hs => hs.rd (i := 0) rfl) (at1 (ints_at hi593q)) ag2) ?_; clear hf; intro a hf
                                      refine qY hf rfl rfl rfl (Y_add rfl rfl rfl) ?_; clear hf; intro a hf
                                      refine qY hf rfl rfl rfl (Y_max rfl rfl rfl) ?_; clear hf; intro a hf
                                      refine qY hf rfl rfl rfl (Y_assign rfl rfl) ?_; clear hf; intro a hf
                                      refine qNil ?_; clear hs; intro w hs
                                      refine wpL_nil (Qb_normal ?_)
                                      refine wpL_region ?_
                                      refine sY hf hs rfl rfl rfl (Y_move rfl rfl) ?_; clear hf; intro a hf
                                      refine sY hf hs rfl rfl rfl (Y_add rfl rfl rfl) ?_; clear hf; intro a hf
                                      refine sY hf hs rfl rfl rfl (Y_assign rfl rfl) ?_; clear hf; intro a hf
                                      refine wpO_nil ?_
                                      refine wpL_nil (Ql_normal ?_)
                                      exact ⟨(max x549 (IntKind.i64.wrap (q590 + q592))), (IntKind.i64.wrap (x550 + 1)), hm573, (FrD.pick (FrD.pick (FrD.pick (FrD.pick (FrD.pick (FrD.pick hf.none hf rfl) hf rfl) hf rfl) hf rfl) hf rfl) hf rfl), hs⟩
                                    · have hm573 := bif_f hm573 hb589
                                      refine wpL_skip ?_
                                      refine wpL_nil (Qb_normal ?_)
                                      refine wpL_region ?_
                                      refine sY hf hs rfl rfl rfl (Y_move rfl rfl) ?_; clear hf; intro a hf
                                      refine sY hf hs rfl rfl rfl (Y_add rfl rfl rfl) ?_; clear hf; intro a hf
                                      refine sY hf hs rfl rfl rfl (Y_assign rfl rfl) ?_; clear hf; intro a hf
                                      refine wpO_nil ?_
                                      refine wpL_nil (Ql_normal ?_)
                                      exact ⟨x549, (IntKind.i64.wrap (x550 + 1)), hm573, (FrD.pick (FrD.pick (FrD.pick (FrD.pick (FrD.pick (FrD.pick hf.none hf rfl) hf rfl) hf rfl) hf rfl) hf rfl) hf rfl), hs⟩
                                · have hm573 := bif_f hm573 hb575
                                  refine wpL_exit (Ql_exit (Qb_exit ?_))
                                  exact ⟨x549, Option.some.inj hm573, (FrD.pick (FrD.pick (FrD.pick (FrD.pick (FrD.pick hf.none hf rfl) hf rfl) hf rfl) hf rfl) hf rfl), hs⟩
                            · rintro a w ⟨x570, hr_, hf, hs⟩
                              subst hr_
                              try dsimp only at hm506
                              refine wpL_seq ?_
                              refine wpL_region ?_
                              refine sY hf hs rfl rfl rfl (Y_move rfl rfl) ?_; clear hf; intro a hf
                              refine sY hf hs rfl rfl rfl (Y_move rfl rfl) ?_; clear hf; intro a hf
                              obtain ⟨q594, hi595, hm506⟩ := bind_some hm506
                              obtain ⟨hi595a, hi595b, hi595q⟩ := idx_some hi595
                              refine sY hf hs rfl rfl rfl (Y_index rfl rfl rfl el23 ti2 (Rd.isAt (hs.rd (i := 1) rfl) (at1 (ints_at hi595q))) hi595a (ltn hn211 hi595b)) ?_; clear hf; intro a hf
                              refine sY hf hs rfl rfl rfl (Y_load_rd rfl rfl (fun w hs => hs.rd (i := 1) rfl) (at1 (ints_at hi595q)) ag2) ?_; clear hf; intro a hf
                              refine sY hf hs rfl rfl rfl (Y_move rfl rfl) ?_; clear hf; intro a hf
                              refine sY hf hs rfl rfl rfl (Y_neq rfl rfl rfl) ?_; clear hf; intro a hf
                              refine wpO_nil ?_
                              refine wpL_cond hf rfl (fun hb596 => ?_) (fun hb596 => ?_)
                              · have hm506 := bif_t hm506 hb596
                                refine wpL_seq ?_
                                refine wpL_region ?_
                                refine sY hf hs rfl rfl rfl (Y_assign rfl rfl) ?_; clear hf; intro a hf
                                refine wpO_nil ?_
                                obtain rfl := Option.some.inj hm506
                                try dsimp only at hm
                                obtain rfl := Option.some.inj hm
                                refine wpL_ret (Qb_ret (Ql_ret (Qb_ret (ret_tmp rfl hf rfl ?_))))
                                exact ⟨_, rfl, rfl, hs.sel [] (by decide)⟩
                              · have hm506 := bif_f hm506 hb596
                                refine wpL_skip ?_
                                refine wpL_nil (Qb_normal ?_)
                                refine wpL_region ?_
                                refine sY hf hs rfl rfl rfl (Y_move rfl rfl) ?_; clear hf; intro a hf
                                refine sY hf hs rfl rfl rfl (Y_add rfl rfl rfl) ?_; clear hf; intro a hf
                                refine sY hf hs rfl rfl rfl (Y_assign rfl rfl) ?_; clear hf; intro a hf
                                refine wpO_nil ?_
                                refine wpL_nil (Ql_normal ?_)
                                exact ⟨(IntKind.i64.wrap (x414 + 1)), hm506, (FrD.pick (FrD.pick (FrD.pick (FrD.pick hf.none hf rfl) hf rfl) hf rfl) hf rfl), hs⟩
                          · have hm506 := bif_f hm506 hb508
                            refine wpL_exit (Ql_exit (Qb_exit ?_))
                            exact ⟨Option.some.inj hm506, hf.none, hs.sel [] (by decide)⟩
                      · rintro a w ⟨hr_, hf, hs⟩
                        subst hr_
                        try dsimp only at hm
                        refine wpL_seq ?_
                        refine wpL_region ?_
                        refine sY hf hs rfl rfl rfl (Y_assign rfl rfl) ?_; clear hf; intro a hf
                        refine wpO_nil ?_
                        obtain rfl := Option.some.inj hm
                        refine wpL_ret (ret_tmp rfl hf rfl ?_)
                        exact ⟨_, rfl, rfl, hs⟩

end Go.Proofs.Ytgkgimglgjfcjaa
