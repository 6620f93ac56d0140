/- The functions do what their models say. -/
import Derived.Test.YtgkgimglgjfcjaaSeriesSystemLifted3
import Derived.Test.YtgkgimglgjfcjaaRows
namespace Go.Proofs.Ytgkgimglgjfcjaa
open Go.RowKit

set_option maxHeartbeats 2000000 in
set_option maxRecDepth 100000 in
theorem laws_FnExactSeriesSystem_ok (F : Nat) (p0 : LSystem) (A_p0_1 : Option Addr) (n_p0_1 c_p0_1 : Nat) (hn_p0_1 : n_p0_1 = p0.A.length) (A_p0_2 : Option Addr) (n_p0_2 c_p0_2 : Nat) (hn_p0_2 : n_p0_2 = p0.B.length) (A_p0_3 : Option Addr) (n_p0_3 c_p0_3 : Nat) (hn_p0_3 : n_p0_3 = p0.C.length) (p1 : LSystem) (A_p1_1 : Option Addr) (n_p1_1 c_p1_1 : Nat) (hn_p1_1 : n_p1_1 = p1.A.length) (A_p1_2 : Option Addr) (n_p1_2 c_p1_2 : Nat) (hn_p1_2 : n_p1_2 = p1.B.length) (A_p1_3 : Option Addr) (n_p1_3 c_p1_3 : Nat) (hn_p1_3 : n_p1_3 = p1.C.length) (r : Bool) (W : World) (hm : laws_FnExactSeriesSystem F p0 p1 = some r) (h_p0_1 : RdM W A_p0_1 p0.A) (h_p0_2 : Rd W A_p0_2 (ints p0.B)) (h_p0_3 : Rd W A_p0_3 (ints p0.C)) (h_p1_1 : RdM W A_p1_1 p1.A) (h_p1_2 : Rd W A_p1_2 (ints p1.B)) (h_p1_3 : Rd W A_p1_3 (ints p1.C)) :
    Calls Try.prog 3 [.agg #[.slice A_p0_1 n_p0_1 c_p0_1, .slice A_p0_2 n_p0_2 c_p0_2, .slice A_p0_3 n_p0_3 c_p0_3], .agg #[.slice A_p1_1 n_p1_1 c_p1_1, .slice A_p1_2 n_p1_2 c_p1_2, .slice A_p1_3 n_p1_3 c_p1_3]].toArray W fun e w' => ∃ v, e = .returned v ∧ v = .bool r ∧ St [] W w' [] := by
  subst hn_p0_1
  subst hn_p0_2
  subst hn_p0_3
  subst hn_p1_1
  subst hn_p1_2
  subst hn_p1_3
  unfold laws_FnExactSeriesSystem at hm
  refine Calls.enter (N := 119) Try.func3 rfl rfl rfl (fun a hf => ?_)
  have hs := St.start W
  obtain ⟨w, hw_⟩ : ∃ w, w = W := ⟨W, rfl⟩
  clear hw_ w
  refine wpL_seq ?_
  refine wpL_region ?_
  refine sBox hf hs rfl rfl rfl rfl rfl (cs := [.slice A_p0_1 p0.A.length c_p0_1, .slice A_p0_2 p0.B.length c_p0_2, .slice A_p0_3 p0.C.length c_p0_3]) rfl ?_; clear hf hs; intro a w b1 hs hf
  have hs : St [] W w [.blk b1 25 [.slice A_p0_1 p0.A.length c_p0_1, .slice A_p0_2 p0.B.length c_p0_2, .slice A_p0_3 p0.C.length c_p0_3]] := hs
  refine sBox hf hs rfl rfl rfl rfl rfl (cs := [.slice A_p1_1 p1.A.length c_p1_1, .slice A_p1_2 p1.B.length c_p1_2, .slice A_p1_3 p1.C.length c_p1_3]) rfl ?_; clear hf hs; intro a w b2 hs hf
  have hs : St [] W w [.blk b1 25 [.slice A_p0_1 p0.A.length c_p0_1, .slice A_p0_2 p0.B.length c_p0_2, .slice A_p0_3 p0.C.length c_p0_3], .blk b2 25 [.slice A_p1_1 p1.A.length c_p1_1, .slice A_p1_2 p1.B.length c_p1_2, .slice A_p1_3 p1.C.length c_p1_3]] := hs
  refine sY hf hs rfl rfl rfl (Y_assign rfl rfl) ?_; clear hf; intro a hf
  refine wpO_nil ?_
  refine wpL_seq ?_
  refine wpL_region ?_
  refine sY hf hs rfl rfl rfl (Y_assign rfl rfl) ?_; clear hf; intro a hf
  refine wpO_nil ?_
  refine wpL_seq ?_
  refine wpL_region ?_
  refine sY hf hs rfl rfl rfl (Y_load_blkS rfl rfl (i := 0) rfl ag25 ti25 rfl) ?_; clear hf; intro a hf
  refine sY hf hs rfl rfl rfl (Y_move rfl rfl) ?_; clear hf; intro a hf
  obtain ⟨r3, hc4, hm⟩ := bind_some hm
  refine sCall hf rfl rfl rfl rfl (cap := []) rfl rfl en10 (laws_szSystem_ok F p0 A_p0_1 p0.A.length c_p0_1 rfl A_p0_2 p0.B.length c_p0_2 rfl A_p0_3 p0.C.length c_p0_3 rfl 1048576 _ _ hc4 (h_p0_1.at hs) (h_p0_2.at hs) (h_p0_3.at hs)) ?_; clear hf
  rintro _ w ⟨rfl, hs1⟩ a hf
  have hs : St [] W w [.blk b1 25 [.slice A_p0_1 p0.A.length c_p0_1, .slice A_p0_2 p0.B.length c_p0_2, .slice A_p0_3 p0.C.length c_p0_3], .blk b2 25 [.slice A_p1_1 p1.A.length c_p1_1, .slice A_p1_2 p1.B.length c_p1_2, .slice A_p1_3 p1.C.length c_p1_3]] := hs.ext hs1.below
  clear hs1
  refine sY hf hs rfl rfl rfl (Y_assign rfl rfl) ?_; clear hf; intro a hf
  refine wpO_nil ?_
  refine wpL_seq ?_
  refine wpL_seq ?_
  refine wpL_region ?_
  refine sY hf hs rfl rfl rfl (Y_move rfl rfl) ?_; clear hf; intro a hf
  refine sY hf hs rfl rfl rfl (Y_lss rfl rfl rfl) ?_; clear hf; intro a hf
  refine wpO_nil ?_
  refine wpL_cond hf rfl (fun hb5 => ?_) (fun hb5 => ?_)
  · have hm := bif_t hm hb5
    refine wpL_seq ?_
    refine wpL_region ?_
    refine sY hf hs rfl rfl rfl (Y_assign rfl rfl) ?_; clear hf; intro a hf
    refine wpO_nil ?_
    obtain rfl := Option.some.inj hm
    refine wpL_ret (ret_tmp rfl hf rfl ?_)
    exact ⟨_, rfl, rfl, hs.sel [] (by decide)⟩
  · have hm := bif_f hm hb5
    refine wpL_skip ?_
    refine wpL_seq ?_
    refine wpL_region ?_
    refine sY hf hs rfl rfl rfl (Y_load_blkS rfl rfl (i := 1) rfl ag25 ti25 rfl) ?_; clear hf; intro a hf
    refine sY hf hs rfl rfl rfl (Y_move rfl rfl) ?_; clear hf; intro a hf
    obtain ⟨r6, hc7, hm⟩ := bind_some hm
    refine sCall hf rfl rfl rfl rfl (cap := []) rfl rfl en10 (laws_szSystem_ok F p1 A_p1_1 p1.A.length c_p1_1 rfl A_p1_2 p1.B.length c_p1_2 rfl A_p1_3 p1.C.length c_p1_3 rfl r3 _ _ hc7 (h_p1_1.at hs) (h_p1_2.at hs) (h_p1_3.at hs)) ?_; clear hf
    rintro _ w ⟨rfl, hs1⟩ a hf
    have hs : St [] W w [.blk b1 25 [.slice A_p0_1 p0.A.length c_p0_1, .slice A_p0_2 p0.B.length c_p0_2, .slice A_p0_3 p0.C.length c_p0_3], .blk b2 25 [.slice A_p1_1 p1.A.length c_p1_1, .slice A_p1_2 p1.B.length c_p1_2, .slice A_p1_3 p1.C.length c_p1_3]] := hs.ext hs1.below
    clear hs1
    refine sY hf hs rfl rfl rfl (Y_assign rfl rfl) ?_; clear hf; intro a hf
    refine wpO_nil ?_
    refine wpL_seq ?_
    refine wpL_seq ?_
    refine wpL_region ?_
    refine sY hf hs rfl rfl rfl (Y_move rfl rfl) ?_; clear hf; intro a hf
    refine sY hf hs rfl rfl rfl (Y_lss rfl rfl rfl) ?_; clear hf; intro a hf
    refine wpO_nil ?_
    refine wpL_cond hf rfl (fun hb8 => ?_) (fun hb8 => ?_)
    · have hm := bif_t hm hb8
      refine wpL_seq ?_
      refine wpL_region ?_
      refine sY hf hs rfl rfl rfl (Y_assign rfl rfl) ?_; clear hf; intro a hf
      refine wpO_nil ?_
      obtain rfl := Option.some.inj hm
      refine wpL_ret (ret_tmp rfl hf rfl ?_)
      exact ⟨_, rfl, rfl, hs.sel [] (by decide)⟩
    · have hm := bif_f hm hb8
      refine wpL_skip ?_
      refine wpL_seq ?_
      obtain ⟨r212, hj213, hm⟩ := bind_some hm
      refine wpL_cut (fun a w => ∃ ms195 : List (List Int), ∃ xs201 : List Int, ∃ xs206 : List Int, ∃ x211 : Int, ∃ b194, ∃ A196, ∃ n197, ∃ c198, ∃ vs200, ∃ A202, ∃ n203, ∃ c204, ∃ A207, ∃ n208, ∃ c209, (ms195, xs201, xs206, x211) = r212 ∧ n197 = ms195.length ∧ n203 = xs201.length ∧ n208 = xs206.length ∧ Fr a 119 [(2, .pointer (some ⟨b1, 0, none⟩)), (3, .pointer (some ⟨b2, 0, none⟩)), (6, .pointer (some ⟨b194, 0, none⟩)), (7, .int .i64 x211)] ∧ St [] W w [.blk b1 25 [.slice A_p0_1 p0.A.length c_p0_1, .slice A_p0_2 p0.B.length c_p0_2, .slice A_p0_3 p0.C.length c_p0_3], .blk b2 25 [.slice A_p1_1 p1.A.length c_p1_1, .slice A_p1_2 p1.B.length c_p1_2, .slice A_p1_3 p1.C.length c_p1_3], .blk b194 27 [.slice A196 n197 c198, .slice A202 n203 c204, .slice A207 n208 c209], .mat A196 n197 c198 23 2 vs200 ms195, .row A202 n203 c204 2 1 (ints xs201), .row A207 n208 c209 2 1 (ints xs206)]) ?_ ?_
      · refine wpL_drawM [.blk b1 25 [.slice A_p0_1 p0.A.length c_p0_1, .slice A_p0_2 p0.B.length c_p0_2, .slice A_p0_3 p0.C.length c_p0_3], .blk b2 25 [.slice A_p1_1 p1.A.length c_p1_1, .slice A_p1_2 p1.B.length c_p1_2, .slice A_p1_3 p1.C.length c_p1_3]] [3, 4, 9] (by kernel_rfl) hs ?_; clear hs; intro w hs
        have hs0 : St [] W w [.blk b1 25 [.slice A_p0_1 p0.A.length c_p0_1, .slice A_p0_2 p0.B.length c_p0_2, .slice A_p0_3 p0.C.length c_p0_3], .blk b2 25 [.slice A_p1_1 p1.A.length c_p1_1, .slice A_p1_2 p1.B.length c_p1_2, .slice A_p1_3 p1.C.length c_p1_3]] := hs
        refine mY (i := 0) [[1], [1], []] rfl (by kernel_rfl) (by kernel_rfl) hf hs0 rfl rfl rfl (Y_load_blkS rfl rfl (i := 0) rfl ag25 ti25 rfl) ?_; clear hf; intro a hf
        refine mY (i := 2) [[], [3], []] rfl (by kernel_rfl) (by kernel_rfl) hf hs0 rfl rfl rfl (Y_load_blkS rfl rfl (i := 1) rfl ag25 ti25 rfl) ?_; clear hf; intro a hf
        refine mRun2 (i := 1) (j := 8) rfl rfl (by kernel_rfl) ?_ ?_
        · obtain ⟨r260, hc261, hj213⟩ := bind_some hj213
          refine sCall hf rfl rfl rfl rfl (cap := []) rfl rfl en12 (laws_toSystem_ok F p0 A_p0_1 p0.A.length c_p0_1 rfl A_p0_2 p0.B.length c_p0_2 rfl A_p0_3 p0.C.length c_p0_3 rfl _ _ hc261 (h_p0_1.at hs) (h_p0_2.at hs) (h_p0_3.at hs)) ?_; clear hf
          rintro _ w ⟨A262, n263, c264, vs266, A267, n268, c269, A271, n272, c273, rfl, hn265, hn270, hn274, hs1⟩ a hf
          have hs : St [] W w [.blk b1 25 [.slice A_p0_1 p0.A.length c_p0_1, .slice A_p0_2 p0.B.length c_p0_2, .slice A_p0_3 p0.C.length c_p0_3], .blk b2 25 [.slice A_p1_1 p1.A.length c_p1_1, .slice A_p1_2 p1.B.length c_p1_2, .slice A_p1_3 p1.C.length c_p1_3], .mat A262 n263 c264 23 2 vs266 r260.A, .row A267 n268 c269 2 1 (ints r260.B), .row A271 n272 c273 2 1 (ints r260.C)] := hs.join hs1
          clear hs1
          have hs0 : St [] W w [.blk b1 25 [.slice A_p0_1 p0.A.length c_p0_1, .slice A_p0_2 p0.B.length c_p0_2, .slice A_p0_3 p0.C.length c_p0_3], .blk b2 25 [.slice A_p1_1 p1.A.length c_p1_1, .slice A_p1_2 p1.B.length c_p1_2, .slice A_p1_3 p1.C.length c_p1_3]] := hs.sel [0, 1] (by decide)
          refine wpO_nil ⟨Or.inr (fun _ => hs0), ?_⟩
          refine mRun2 (i := 3) (j := 8) rfl rfl (by kernel_rfl) ?_ ?_
          · obtain ⟨r275, hc276, hj213⟩ := bind_some hj213
            refine sCall hf rfl rfl rfl rfl (cap := []) rfl rfl en12 (laws_toSystem_ok F p1 A_p1_1 p1.A.length c_p1_1 rfl A_p1_2 p1.B.length c_p1_2 rfl A_p1_3 p1.C.length c_p1_3 rfl _ _ hc276 (h_p1_1.at hs) (h_p1_2.at hs) (h_p1_3.at hs)) ?_; clear hf
            rintro _ w ⟨A277, n278, c279, vs281, A282, n283, c284, A286, n287, c288, rfl, hn280, hn285, hn289, hs1⟩ a hf
            have hs : St [] W w [.blk b1 25 [.slice A_p0_1 p0.A.length c_p0_1, .slice A_p0_2 p0.B.length c_p0_2, .slice A_p0_3 p0.C.length c_p0_3], .blk b2 25 [.slice A_p1_1 p1.A.length c_p1_1, .slice A_p1_2 p1.B.length c_p1_2, .slice A_p1_3 p1.C.length c_p1_3], .mat A262 n263 c264 23 2 vs266 r260.A, .row A267 n268 c269 2 1 (ints r260.B), .row A271 n272 c273 2 1 (ints r260.C), .mat A277 n278 c279 23 2 vs281 r275.A, .row A282 n283 c284 2 1 (ints r275.B), .row A286 n287 c288 2 1 (ints r275.C)] := hs.join hs1
            clear hs1
            refine wpO_nil ⟨Or.inl (by decide), ?_⟩
            refine mRun2 (i := 4) (j := 8) rfl rfl (by kernel_rfl) ?_ ?_
            · obtain ⟨r290, hc291, hj213⟩ := bind_some hj213
              refine sCall hf rfl rfl rfl rfl (cap := []) rfl rfl en11 (spec_SeriesSystem_ok F r260 A262 n263 c264 hn265 A267 n268 c269 hn270 A271 n272 c273 hn274 r275 A277 n278 c279 hn280 A282 n283 c284 hn285 A286 n287 c288 hn289 _ _ hc291 (hs.rdM (i := 2) rfl) (hs.rd (i := 3) rfl) (hs.rd (i := 4) rfl) (hs.rdM (i := 5) rfl) (hs.rd (i := 6) rfl) (hs.rd (i := 7) rfl)) ?_; clear hf
              rintro _ w ⟨A292, n293, c294, vs296, A297, n298, c299, A301, n302, c303, rfl, hn295, hn300, hn304, hs1⟩ a hf
              have hs : St [] W w [.blk b1 25 [.slice A_p0_1 p0.A.length c_p0_1, .slice A_p0_2 p0.B.length c_p0_2, .slice A_p0_3 p0.C.length c_p0_3], .blk b2 25 [.slice A_p1_1 p1.A.length c_p1_1, .slice A_p1_2 p1.B.length c_p1_2, .slice A_p1_3 p1.C.length c_p1_3], .mat A262 n263 c264 23 2 vs266 r260.A, .row A267 n268 c269 2 1 (ints r260.B), .row A271 n272 c273 2 1 (ints r260.C), .mat A277 n278 c279 23 2 vs281 r275.A, .row A282 n283 c284 2 1 (ints r275.B), .row A286 n287 c288 2 1 (ints r275.C), .mat A292 n293 c294 23 2 vs296 r290.1.A, .row A297 n298 c299 2 1 (ints r290.1.B), .row A301 n302 c303 2 1 (ints r290.1.C)] := hs.join hs1
              clear hs1
              refine wpO_nil ⟨Or.inl (by decide), ?_⟩
              refine mYp (i := 5) rfl (by kernel_rfl) (by kernel_rfl) hf rfl rfl rfl (fun _ => Y_move rfl rfl) ?_; clear hf; intro a hf
              refine mYp (i := 6) rfl (by kernel_rfl) (by kernel_rfl) hf rfl rfl rfl (fun _ => Y_extract rfl rfl rfl) ?_; clear hf; intro a hf
              refine mYp (i := 7) rfl (by kernel_rfl) (by kernel_rfl) hf rfl rfl rfl (fun _ => Y_extract rfl rfl rfl) ?_; clear hf; intro a hf
              refine mRun (i := 8) rfl (by kernel_rfl) ?_
              refine sAlloc hf hs rfl rfl rfl rfl ti27 ?_; clear hf hs; intro a w b305 hs hf
              have hs : St [] W w [.blk b1 25 [.slice A_p0_1 p0.A.length c_p0_1, .slice A_p0_2 p0.B.length c_p0_2, .slice A_p0_3 p0.C.length c_p0_3], .blk b2 25 [.slice A_p1_1 p1.A.length c_p1_1, .slice A_p1_2 p1.B.length c_p1_2, .slice A_p1_3 p1.C.length c_p1_3], .mat A262 n263 c264 23 2 vs266 r260.A, .row A267 n268 c269 2 1 (ints r260.B), .row A271 n272 c273 2 1 (ints r260.C), .mat A277 n278 c279 23 2 vs281 r275.A, .row A282 n283 c284 2 1 (ints r275.B), .row A286 n287 c288 2 1 (ints r275.C), .mat A292 n293 c294 23 2 vs296 r290.1.A, .row A297 n298 c299 2 1 (ints r290.1.B), .row A301 n302 c303 2 1 (ints r290.1.C), .blk b305 27 [.slice none 0 0, .slice none 0 0, .slice none 0 0]] := hs
              have hs0 : St [] W w [.blk b1 25 [.slice A_p0_1 p0.A.length c_p0_1, .slice A_p0_2 p0.B.length c_p0_2, .slice A_p0_3 p0.C.length c_p0_3], .blk b2 25 [.slice A_p1_1 p1.A.length c_p1_1, .slice A_p1_2 p1.B.length c_p1_2, .slice A_p1_3 p1.C.length c_p1_3]] := hs.sel [0, 1] (by decide)
              refine wpO_nil ⟨Or.inr (fun _ => hs0), ?_⟩
              refine mRun (i := 9) rfl (by kernel_rfl) ?_
              refine sStore (i := 11) (us := [.slice A292 n293 c294, .slice A297 n298 c299, .slice A301 n302 c303]) hf hs rfl rfl rfl rfl rfl rfl ti27 rfl rfl rfl (Nat.le_of_ble_eq_true rfl) rfl ?_; clear hs; intro w hs
              have hs : St [] W w [.blk b1 25 [.slice A_p0_1 p0.A.length c_p0_1, .slice A_p0_2 p0.B.length c_p0_2, .slice A_p0_3 p0.C.length c_p0_3], .blk b2 25 [.slice A_p1_1 p1.A.length c_p1_1, .slice A_p1_2 p1.B.length c_p1_2, .slice A_p1_3 p1.C.length c_p1_3], .mat A262 n263 c264 23 2 vs266 r260.A, .row A267 n268 c269 2 1 (ints r260.B), .row A271 n272 c273 2 1 (ints r260.C), .mat A277 n278 c279 23 2 vs281 r275.A, .row A282 n283 c284 2 1 (ints r275.B), .row A286 n287 c288 2 1 (ints r275.C), .mat A292 n293 c294 23 2 vs296 r290.1.A, .row A297 n298 c299 2 1 (ints r290.1.B), .row A301 n302 c303 2 1 (ints r290.1.C), .blk b305 27 [.slice A292 n293 c294, .slice A297 n298 c299, .slice A301 n302 c303]] := hs
              refine wpO_nil ⟨Or.inl (by decide), ?_⟩
              refine mYp (i := 10) rfl (by kernel_rfl) (by kernel_rfl) hf rfl rfl rfl (fun _ => Y_assign rfl rfl) ?_; clear hf; intro a hf
              refine mDone (by kernel_rfl) ?_
              clear hs0
              refine wpL_nil (then_normal ?_)
              exact ⟨r290.1.A, r290.1.B, r290.1.C, r290.2, b305, A292, n293, c294, vs296, A297, n298, c299, A301, n302, c303, Option.some.inj hj213, hn295, hn300, hn304, (FrD.pick (FrD.pick (FrD.pick (FrD.pick hf.none hf rfl) hf rfl) hf rfl) hf rfl), hs.sel [0, 1, 11, 8, 9, 10] (by decide)⟩
            · refine sAlloc hf hs rfl rfl rfl rfl ti27 ?_; clear hf hs; intro a w b306 hs hf
              have hs : St [] W w [.blk b1 25 [.slice A_p0_1 p0.A.length c_p0_1, .slice A_p0_2 p0.B.length c_p0_2, .slice A_p0_3 p0.C.length c_p0_3], .blk b2 25 [.slice A_p1_1 p1.A.length c_p1_1, .slice A_p1_2 p1.B.length c_p1_2, .slice A_p1_3 p1.C.length c_p1_3], .mat A262 n263 c264 23 2 vs266 r260.A, .row A267 n268 c269 2 1 (ints r260.B), .row A271 n272 c273 2 1 (ints r260.C), .mat A277 n278 c279 23 2 vs281 r275.A, .row A282 n283 c284 2 1 (ints r275.B), .row A286 n287 c288 2 1 (ints r275.C), .blk b306 27 [.slice none 0 0, .slice none 0 0, .slice none 0 0]] := hs
              have hs0 : St [] W w [.blk b1 25 [.slice A_p0_1 p0.A.length c_p0_1, .slice A_p0_2 p0.B.length c_p0_2, .slice A_p0_3 p0.C.length c_p0_3], .blk b2 25 [.slice A_p1_1 p1.A.length c_p1_1, .slice A_p1_2 p1.B.length c_p1_2, .slice A_p1_3 p1.C.length c_p1_3]] := hs.sel [0, 1] (by decide)
              refine wpO_nil ⟨Or.inr (fun _ => hs0), ?_⟩
              refine mRun (i := 4) rfl (by kernel_rfl) ?_
              obtain ⟨r307, hc308, hj213⟩ := bind_some hj213
              refine sCall hf rfl rfl rfl rfl (cap := []) rfl rfl en11 (spec_SeriesSystem_ok F r260 A262 n263 c264 hn265 A267 n268 c269 hn270 A271 n272 c273 hn274 r275 A277 n278 c279 hn280 A282 n283 c284 hn285 A286 n287 c288 hn289 _ _ hc308 (hs.rdM (i := 2) rfl) (hs.rd (i := 3) rfl) (hs.rd (i := 4) rfl) (hs.rdM (i := 5) rfl) (hs.rd (i := 6) rfl) (hs.rd (i := 7) rfl)) ?_; clear hf
              rintro _ w ⟨A309, n310, c311, vs313, A314, n315, c316, A318, n319, c320, rfl, hn312, hn317, hn321, hs1⟩ a hf
              have hs : St [] W w [.blk b1 25 [.slice A_p0_1 p0.A.length c_p0_1, .slice A_p0_2 p0.B.length c_p0_2, .slice A_p0_3 p0.C.length c_p0_3], .blk b2 25 [.slice A_p1_1 p1.A.length c_p1_1, .slice A_p1_2 p1.B.length c_p1_2, .slice A_p1_3 p1.C.length c_p1_3], .mat A262 n263 c264 23 2 vs266 r260.A, .row A267 n268 c269 2 1 (ints r260.B), .row A271 n272 c273 2 1 (ints r260.C), .mat A277 n278 c279 23 2 vs281 r275.A, .row A282 n283 c284 2 1 (ints r275.B), .row A286 n287 c288 2 1 (ints r275.C), .blk b306 27 [.slice none 0 0, .slice none 0 0, .slice none 0 0], .mat A309 n310 c311 23 2 vs313 r307.1.A, .row A314 n315 c316 2 1 (ints r307.1.B), .row A318 n319 c320 2 1 (ints r307.1.C)] := hs.join hs1
              clear hs1
              refine wpO_nil ⟨Or.inl (by decide), ?_⟩
              refine mYp (i := 5) rfl (by kernel_rfl) (by kernel_rfl) hf rfl rfl rfl (fun _ => Y_move rfl rfl) ?_; clear hf; intro a hf
              refine mYp (i := 6) rfl (by kernel_rfl) (by kernel_rfl) hf rfl rfl rfl (fun _ => Y_extract rfl rfl rfl) ?_; clear hf; intro a hf
              refine mYp (i := 7) rfl (by kernel_rfl) (by kernel_rfl) hf rfl rfl rfl (fun _ => Y_extract rfl rfl rfl) ?_; clear hf; intro a hf
              refine mRun (i := 9) rfl (by kernel_rfl) ?_
              refine sStore (i := 8) (us := [.slice A309 n310 c311, .slice A314 n315 c316, .slice A318 n319 c320]) hf hs rfl rfl rfl rfl rfl rfl ti27 rfl rfl rfl (Nat.le_of_ble_eq_true rfl) rfl ?_; clear hs; intro w hs
              have hs : St [] W w [.blk b1 25 [.slice A_p0_1 p0.A.length c_p0_1, .slice A_p0_2 p0.B.length c_p0_2, .slice A_p0_3 p0.C.length c_p0_3], .blk b2 25 [.slice A_p1_1 p1.A.length c_p1_1, .slice A_p1_2 p1.B.length c_p1_2, .slice A_p1_3 p1.C.length c_p1_3], .mat A262 n263 c264 23 2 vs266 r260.A, .row A267 n268 c269 2 1 (ints r260.B), .row A271 n272 c273 2 1 (ints r260.C), .mat A277 n278 c279 23 2 vs281 r275.A, .row A282 n283 c284 2 1 (ints r275.B), .row A286 n287 c288 2 1 (ints r275.C), .blk b306 27 [.slice A309 n310 c311, .slice A314 n315 c316, .slice A318 n319 c320], .mat A309 n310 c311 23 2 vs313 r307.1.A, .row A314 n315 c316 2 1 (ints r307.1.B), .row A318 n319 c320 2 1 (ints r307.1.C)] := hs
              refine wpO_nil ⟨Or.inl (by decide), ?_⟩
              refine mYp (i := 10) rfl (by kernel_rfl) (by kernel_rfl) hf rfl rfl rfl (fun _ => Y_assign rfl rfl) ?_; clear hf; intro a hf
              refine mDone (by kernel_rfl) ?_
              clear hs0
              refine wpL_nil (then_normal ?_)
              exact ⟨r307.1.A, r307.1.B, r307.1.C, r307.2, b306, A309, n310, c311, vs313, A314, n315, c316, A318, n319, c320, Option.some.inj hj213, hn312, hn317, hn321, (FrD.pick (FrD.pick (FrD.pick (FrD.pick hf.none hf rfl) hf rfl) hf rfl) hf rfl), hs.sel [0, 1, 8, 9, 10, 11] (by decide)⟩
          · refine sAlloc hf hs rfl rfl rfl rfl ti27 ?_; clear hf hs; intro a w b322 hs hf
            have hs : St [] W w [.blk b1 25 [.slice A_p0_1 p0.A.length c_p0_1, .slice A_p0_2 p0.B.length c_p0_2, .slice A_p0_3 p0.C.length c_p0_3], .blk b2 25 [.slice A_p1_1 p1.A.length c_p1_1, .slice A_p1_2 p1.B.length c_p1_2, .slice A_p1_3 p1.C.length c_p1_3], .mat A262 n263 c264 23 2 vs266 r260.A, .row A267 n268 c269 2 1 (ints r260.B), .row A271 n272 c273 2 1 (ints r260.C), .blk b322 27 [.slice none 0 0, .slice none 0 0, .slice none 0 0]] := hs
            have hs0 : St [] W w [.blk b1 25 [.slice A_p0_1 p0.A.length c_p0_1, .slice A_p0_2 p0.B.length c_p0_2, .slice A_p0_3 p0.C.length c_p0_3], .blk b2 25 [.slice A_p1_1 p1.A.length c_p1_1, .slice A_p1_2 p1.B.length c_p1_2, .slice A_p1_3 p1.C.length c_p1_3]] := hs.sel [0, 1] (by decide)
            refine wpO_nil ⟨Or.inr (fun _ => hs0), ?_⟩
            refine mRun (i := 3) rfl (by kernel_rfl) ?_
            obtain ⟨r323, hc324, hj213⟩ := bind_some hj213
            refine sCall hf rfl rfl rfl rfl (cap := []) rfl rfl en12 (laws_toSystem_ok F p1 A_p1_1 p1.A.length c_p1_1 rfl A_p1_2 p1.B.length c_p1_2 rfl A_p1_3 p1.C.length c_p1_3 rfl _ _ hc324 (h_p1_1.at hs) (h_p1_2.at hs) (h_p1_3.at hs)) ?_; clear hf
            rintro _ w ⟨A325, n326, c327, vs329, A330, n331, c332, A334, n335, c336, rfl, hn328, hn333, hn337, hs1⟩ a hf
            have hs : St [] W w [.blk b1 25 [.slice A_p0_1 p0.A.length c_p0_1, .slice A_p0_2 p0.B.length c_p0_2, .slice A_p0_3 p0.C.length c_p0_3], .blk b2 25 [.slice A_p1_1 p1.A.length c_p1_1, .slice A_p1_2 p1.B.length c_p1_2, .slice A_p1_3 p1.C.length c_p1_3], .mat A262 n263 c264 23 2 vs266 r260.A, .row A267 n268 c269 2 1 (ints r260.B), .row A271 n272 c273 2 1 (ints r260.C), .blk b322 27 [.slice none 0 0, .slice none 0 0, .slice none 0 0], .mat A325 n326 c327 23 2 vs329 r323.A, .row A330 n331 c332 2 1 (ints r323.B), .row A334 n335 c336 2 1 (ints r323.C)] := hs.join hs1
            clear hs1
            refine wpO_nil ⟨Or.inl (by decide), ?_⟩
            refine mRun (i := 4) rfl (by kernel_rfl) ?_
            obtain ⟨r338, hc339, hj213⟩ := bind_some hj213
            refine sCall hf rfl rfl rfl rfl (cap := []) rfl rfl en11 (spec_SeriesSystem_ok F r260 A262 n263 c264 hn265 A267 n268 c269 hn270 A271 n272 c273 hn274 r323 A325 n326 c327 hn328 A330 n331 c332 hn333 A334 n335 c336 hn337 _ _ hc339 (hs.rdM (i := 2) rfl) (hs.rd (i := 3) rfl) (hs.rd (i := 4) rfl) (hs.rdM (i := 6) rfl) (hs.rd (i := 7) rfl) (hs.rd (i := 8) rfl)) ?_; clear hf
            rintro _ w ⟨A340, n341, c342, vs344, A345, n346, c347, A349, n350, c351, rfl, hn343, hn348, hn352, hs1⟩ a hf
            have hs : St [] W w [.blk b1 25 [.slice A_p0_1 p0.A.length c_p0_1, .slice A_p0_2 p0.B.length c_p0_2, .slice A_p0_3 p0.C.length c_p0_3], .blk b2 25 [.slice A_p1_1 p1.A.length c_p1_1, .slice A_p1_2 p1.B.length c_p1_2, .slice A_p1_3 p1.C.length c_p1_3], .mat A262 n263 c264 23 2 vs266 r260.A, .row A267 n268 c269 2 1 (ints r260.B), .row A271 n272 c273 2 1 (ints r260.C), .blk b322 27 [.slice none 0 0, .slice none 0 0, .slice none 0 0], .mat A325 n326 c327 23 2 vs329 r323.A, .row A330 n331 c332 2 1 (ints r323.B), .row A334 n335 c336 2 1 (ints r323.C), .mat A340 n341 c342 23 2 vs344 r338.1.A, .row A345 n346 c347 2 1 (ints r338.1.B), .row A349 n350 c351 2 1 (ints r338.1.C)] := hs.join hs1
            clear hs1
            refine wpO_nil ⟨Or.inl (by decide), ?_⟩
            refine mYp (i := 5) rfl (by kernel_rfl) (by kernel_rfl) hf rfl rfl rfl (fun _ => Y_move rfl rfl) ?_; clear hf; intro a hf
            refine mYp (i := 6) rfl (by kernel_rfl) (by kernel_rfl) hf rfl rfl rfl (fun _ => Y_extract rfl rfl rfl) ?_; clear hf; intro a hf
            refine mYp (i := 7) rfl (by kernel_rfl) (by kernel_rfl) hf rfl rfl rfl (fun _ => Y_extract rfl rfl rfl) ?_; clear hf; intro a hf
            refine mRun (i := 9) rfl (by kernel_rfl) ?_
            refine sStore (i := 5) (us := [.slice A340 n341 c342, .slice A345 n346 c347, .slice A349 n350 c351]) hf hs rfl rfl rfl rfl rfl rfl ti27 rfl rfl rfl (Nat.le_of_ble_eq_true rfl) rfl ?_; clear hs; intro w hs
            have hs : St [] W w [.blk b1 25 [.slice A_p0_1 p0.A.length c_p0_1, .slice A_p0_2 p0.B.length c_p0_2, .slice A_p0_3 p0.C.length c_p0_3], .blk b2 25 [.slice A_p1_1 p1.A.length c_p1_1, .slice A_p1_2 p1.B.length c_p1_2, .slice A_p1_3 p1.C.length c_p1_3], .mat A262 n263 c264 23 2 vs266 r260.A, .row A267 n268 c269 2 1 (ints r260.B), .row A271 n272 c273 2 1 (ints r260.C), .blk b322 27 [.slice A340 n341 c342, .slice A345 n346 c347, .slice A349 n350 c351], .mat A325 n326 c327 23 2 vs329 r323.A, .row A330 n331 c332 2 1 (ints r323.B), .row A334 n335 c336 2 1 (ints r323.C), .mat A340 n341 c342 23 2 vs344 r338.1.A, .row A345 n346 c347 2 1 (ints r338.1.B), .row A349 n350 c351 2 1 (ints r338.1.C)] := hs
            refine wpO_nil ⟨Or.inl (by decide), ?_⟩
            refine mYp (i := 10) rfl (by kernel_rfl) (by kernel_rfl) hf rfl rfl rfl (fun _ => Y_assign rfl rfl) ?_; clear hf; intro a hf
            refine mDone (by kernel_rfl) ?_
            clear hs0
            refine wpL_nil (then_normal ?_)
            exact ⟨r338.1.A, r338.1.B, r338.1.C, r338.2, b322, A340, n341, c342, vs344, A345, n346, c347, A349, n350, c351, Option.some.inj hj213, hn343, hn348, hn352, (FrD.pick (FrD.pick (FrD.pick (FrD.pick hf.none hf rfl) hf rfl) hf rfl) hf rfl), hs.sel [0, 1, 5, 9, 10, 11] (by decide)⟩
        · refine sAlloc hf hs rfl rfl rfl rfl ti27 ?_; clear hf hs; intro a w b353 hs hf
          have hs : St [] W w [.blk b1 25 [.slice A_p0_1 p0.A.length c_p0_1, .slice A_p0_2 p0.B.length c_p0_2, .slice A_p0_3 p0.C.length c_p0_3], .blk b2 25 [.slice A_p1_1 p1.A.length c_p1_1, .slice A_p1_2 p1.B.length c_p1_2, .slice A_p1_3 p1.C.length c_p1_3], .blk b353 27 [.slice none 0 0, .slice none 0 0, .slice none 0 0]] := hs
          have hs0 : St [] W w [.blk b1 25 [.slice A_p0_1 p0.A.length c_p0_1, .slice A_p0_2 p0.B.length c_p0_2, .slice A_p0_3 p0.C.length c_p0_3], .blk b2 25 [.slice A_p1_1 p1.A.length c_p1_1, .slice A_p1_2 p1.B.length c_p1_2, .slice A_p1_3 p1.C.length c_p1_3]] := hs.sel [0, 1] (by decide)
          refine wpO_nil ⟨Or.inr (fun _ => hs0), ?_⟩
          refine mRun (i := 1) rfl (by kernel_rfl) ?_
          obtain ⟨r354, hc355, hj213⟩ := bind_some hj213
          refine sCall hf rfl rfl rfl rfl (cap := []) rfl rfl en12 (laws_toSystem_ok F p0 A_p0_1 p0.A.length c_p0_1 rfl A_p0_2 p0.B.length c_p0_2 rfl A_p0_3 p0.C.length c_p0_3 rfl _ _ hc355 (h_p0_1.at hs) (h_p0_2.at hs) (h_p0_3.at hs)) ?_; clear hf
          rintro _ w ⟨A356, n357, c358, vs360, A361, n362, c363, A365, n366, c367, rfl, hn359, hn364, hn368, hs1⟩ a hf
          have hs : St [] W w [.blk b1 25 [.slice A_p0_1 p0.A.length c_p0_1, .slice A_p0_2 p0.B.length c_p0_2, .slice A_p0_3 p0.C.length c_p0_3], .blk b2 25 [.slice A_p1_1 p1.A.length c_p1_1, .slice A_p1_2 p1.B.length c_p1_2, .slice A_p1_3 p1.C.length c_p1_3], .blk b353 27 [.slice none 0 0, .slice none 0 0, .slice none 0 0], .mat A356 n357 c358 23 2 vs360 r354.A, .row A361 n362 c363 2 1 (ints r354.B), .row A365 n366 c367 2 1 (ints r354.C)] := hs.join hs1
          clear hs1
          have hs0 : St [] W w [.blk b1 25 [.slice A_p0_1 p0.A.length c_p0_1, .slice A_p0_2 p0.B.length c_p0_2, .slice A_p0_3 p0.C.length c_p0_3], .blk b2 25 [.slice A_p1_1 p1.A.length c_p1_1, .slice A_p1_2 p1.B.length c_p1_2, .slice A_p1_3 p1.C.length c_p1_3]] := hs.sel [0, 1] (by decide)
          refine wpO_nil ⟨Or.inr (fun _ => hs0), ?_⟩
          refine mRun (i := 3) rfl (by kernel_rfl) ?_
          obtain ⟨r369, hc370, hj213⟩ := bind_some hj213
          refine sCall hf rfl rfl rfl rfl (cap := []) rfl rfl en12 (laws_toSystem_ok F p1 A_p1_1 p1.A.length c_p1_1 rfl A_p1_2 p1.B.length c_p1_2 rfl A_p1_3 p1.C.length c_p1_3 rfl _ _ hc370 (h_p1_1.at hs) (h_p1_2.at hs) (h_p1_3.at hs)) ?_; clear hf
          rintro _ w ⟨A371, n372, c373, vs375, A376, n377, c378, A380, n381, c382, rfl, hn374, hn379, hn383, hs1⟩ a hf
          have hs : St [] W w [.blk b1 25 [.slice A_p0_1 p0.A.length c_p0_1, .slice A_p0_2 p0.B.length c_p0_2, .slice A_p0_3 p0.C.length c_p0_3], .blk b2 25 [.slice A_p1_1 p1.A.length c_p1_1, .slice A_p1_2 p1.B.length c_p1_2, .slice A_p1_3 p1.C.length c_p1_3], .blk b353 27 [.slice none 0 0, .slice none 0 0, .slice none 0 0], .mat A356 n357 c358 23 2 vs360 r354.A, .row A361 n362 c363 2 1 (ints r354.B), .row A365 n366 c367 2 1 (ints r354.C), .mat A371 n372 c373 23 2 vs375 r369.A, .row A376 n377 c378 2 1 (ints r369.B), .row A380 n381 c382 2 1 (ints r369.C)] := hs.join hs1
          clear hs1
          refine wpO_nil ⟨Or.inl (by decide), ?_⟩
          refine mRun (i := 4) rfl (by kernel_rfl) ?_
          obtain ⟨r384, hc385, hj213⟩ := bind_some hj213
          refine sCall hf rfl rfl rfl rfl (cap := []) rfl rfl en11 (spec_SeriesSystem_ok F r354 A356 n357 c358 hn359 A361 n362 c363 hn364 A365 n366 c367 hn368 r369 A371 n372 c373 hn374 A376 n377 c378 hn379 A380 n381 c382 hn383 _ _ hc385 (hs.rdM (i := 3) rfl) (hs.rd (i := 4) rfl) (hs.rd (i := 5) rfl) (hs.rdM (i := 6) rfl) (hs.rd (i := 7) rfl) (hs.rd (i := 8) rfl)) ?_; clear hf
          rintro _ w ⟨A386, n387, c388, vs390, A391, n392, c393, A395, n396, c397, rfl, hn389, hn394, hn398, hs1⟩ a hf
          have hs : St [] W w [.blk b1 25 [.slice A_p0_1 p0.A.length c_p0_1, .slice A_p0_2 p0.B.length c_p0_2, .slice A_p0_3 p0.C.length c_p0_3], .blk b2 25 [.slice A_p1_1 p1.A.length c_p1_1, .slice A_p1_2 p1.B.length c_p1_2, .slice A_p1_3 p1.C.length c_p1_3], .blk b353 27 [.slice none 0 0, .slice none 0 0, .slice none 0 0], .mat A356 n357 c358 23 2 vs360 r354.A, .row A361 n362 c363 2 1 (ints r354.B), .row A365 n366 c367 2 1 (ints r354.C), .mat A371 n372 c373 23 2 vs375 r369.A, .row A376 n377 c378 2 1 (ints r369.B), .row A380 n381 c382 2 1 (ints r369.C), .mat A386 n387 c388 23 2 vs390 r384.1.A, .row A391 n392 c393 2 1 (ints r384.1.B), .row A395 n396 c397 2 1 (ints r384.1.C)] := hs.join hs1
          clear hs1
          refine wpO_nil ⟨Or.inl (by decide), ?_⟩
          refine mYp (i := 5) rfl (by kernel_rfl) (by kernel_rfl) hf rfl rfl rfl (fun _ => Y_move rfl rfl) ?_; clear hf; intro a hf
          refine mYp (i := 6) rfl (by kernel_rfl) (by kernel_rfl) hf rfl rfl rfl (fun _ => Y_extract rfl rfl rfl) ?_; clear hf; intro a hf
          refine mYp (i := 7) rfl (by kernel_rfl) (by kernel_rfl) hf rfl rfl rfl (fun _ => Y_extract rfl rfl rfl) ?_; clear hf; intro a hf
          refine mRun (i := 9) rfl (by kernel_rfl) ?_
          refine sStore (i := 2) (us := [.slice A386 n387 c388, .slice A391 n392 c393, .slice A395 n396 c397]) hf hs rfl rfl rfl rfl rfl rfl ti27 rfl rfl rfl (Nat.le_of_ble_eq_true rfl) rfl ?_; clear hs; intro w hs
          have hs : St [] W w [.blk b1 25 [.slice A_p0_1 p0.A.length c_p0_1, .slice A_p0_2 p0.B.length c_p0_2, .slice A_p0_3 p0.C.length c_p0_3], .blk b2 25 [.slice A_p1_1 p1.A.length c_p1_1, .slice A_p1_2 p1.B.length c_p1_2, .slice A_p1_3 p1.C.length c_p1_3], .blk b353 27 [.slice A386 n387 c388, .slice A391 n392 c393, .slice A395 n396 c397], .mat A356 n357 c358 23 2 vs360 r354.A, .row A361 n362 c363 2 1 (ints r354.B), .row A365 n366 c367 2 1 (ints r354.C), .mat A371 n372 c373 23 2 vs375 r369.A, .row A376 n377 c378 2 1 (ints r369.B), .row A380 n381 c382 2 1 (ints r369.C), .mat A386 n387 c388 23 2 vs390 r384.1.A, .row A391 n392 c393 2 1 (ints r384.1.B), .row A395 n396 c397 2 1 (ints r384.1.C)] := hs
          refine wpO_nil ⟨Or.inl (by decide), ?_⟩
          refine mYp (i := 10) rfl (by kernel_rfl) (by kernel_rfl) hf rfl rfl rfl (fun _ => Y_assign rfl rfl) ?_; clear hf; intro a hf
          refine mDone (by kernel_rfl) ?_
          clear hs0
          refine wpL_nil (then_normal ?_)
          exact ⟨r384.1.A, r384.1.B, r384.1.C, r384.2, b353, A386, n387, c388, vs390, A391, n392, c393, A395, n396, c397, Option.some.inj hj213, hn389, hn394, hn398, (FrD.pick (FrD.pick (FrD.pick (FrD.pick hf.none hf rfl) hf rfl) hf rfl) hf rfl), hs.sel [0, 1, 2, 9, 10, 11] (by decide)⟩
      · rintro a w ⟨ms195, xs201, xs206, x211, b194, A196, n197, c198, vs200, A202, n203, c204, A207, n208, c209, hr_, hn199, hn205, hn210, hf, hs⟩
        subst hr_
        try dsimp only at hm
        refine wpL_seq ?_
        refine wpL_region ?_
        refine sY hf hs rfl rfl rfl (Y_load_blkS rfl rfl (i := 0) rfl ag25 ti25 rfl) ?_; clear hf; intro a hf
        obtain ⟨r399, hc400, hm⟩ := bind_some hm
        refine sCall hf rfl rfl rfl rfl (cap := []) rfl rfl en12 (laws_toSystem_ok F p0 A_p0_1 p0.A.length c_p0_1 rfl A_p0_2 p0.B.length c_p0_2 rfl A_p0_3 p0.C.length c_p0_3 rfl _ _ hc400 (h_p0_1.at hs) (h_p0_2.at hs) (h_p0_3.at hs)) ?_; clear hf
        rintro _ w ⟨A401, n402, c403, vs405, A406, n407, c408, A410, n411, c412, rfl, hn404, hn409, hn413, hs1⟩ a hf
        have hs : St [] W w [.blk b1 25 [.slice A_p0_1 p0.A.length c_p0_1, .slice A_p0_2 p0.B.length c_p0_2, .slice A_p0_3 p0.C.length c_p0_3], .blk b2 25 [.slice A_p1_1 p1.A.length c_p1_1, .slice A_p1_2 p1.B.length c_p1_2, .slice A_p1_3 p1.C.length c_p1_3], .blk b194 27 [.slice A196 n197 c198, .slice A202 n203 c204, .slice A207 n208 c209], .mat A196 n197 c198 23 2 vs200 ms195, .row A202 n203 c204 2 1 (ints xs201), .row A207 n208 c209 2 1 (ints xs206), .mat A401 n402 c403 23 2 vs405 r399.A, .row A406 n407 c408 2 1 (ints r399.B), .row A410 n411 c412 2 1 (ints r399.C)] := hs.join hs1
        clear hs1
        refine sAlloc hf hs rfl rfl rfl rfl ti27 ?_; clear hf hs; intro a w b414 hs hf
        have hs : St [] W w [.blk b1 25 [.slice A_p0_1 p0.A.length c_p0_1, .slice A_p0_2 p0.B.length c_p0_2, .slice A_p0_3 p0.C.length c_p0_3], .blk b2 25 [.slice A_p1_1 p1.A.length c_p1_1, .slice A_p1_2 p1.B.length c_p1_2, .slice A_p1_3 p1.C.length c_p1_3], .blk b194 27 [.slice A196 n197 c198, .slice A202 n203 c204, .slice A207 n208 c209], .mat A196 n197 c198 23 2 vs200 ms195, .row A202 n203 c204 2 1 (ints xs201), .row A207 n208 c209 2 1 (ints xs206), .mat A401 n402 c403 23 2 vs405 r399.A, .row A406 n407 c408 2 1 (ints r399.B), .row A410 n411 c412 2 1 (ints r399.C), .blk b414 27 [.slice none 0 0, .slice none 0 0, .slice none 0 0]] := hs
        refine sStore (i := 9) (us := [.slice A401 n402 c403, .slice A406 n407 c408, .slice A410 n411 c412]) hf hs rfl rfl rfl rfl rfl rfl ti27 rfl rfl rfl (Nat.le_of_ble_eq_true rfl) rfl ?_; clear hs; intro w hs
        have hs : St [] W w [.blk b1 25 [.slice A_p0_1 p0.A.length c_p0_1, .slice A_p0_2 p0.B.length c_p0_2, .slice A_p0_3 p0.C.length c_p0_3], .blk b2 25 [.slice A_p1_1 p1.A.length c_p1_1, .slice A_p1_2 p1.B.length c_p1_2, .slice A_p1_3 p1.C.length c_p1_3], .blk b194 27 [.slice A196 n197 c198, .slice A202 n203 c204, .slice A207 n208 c209], .mat A196 n197 c198 23 2 vs200 ms195, .row A202 n203 c204 2 1 (ints xs201), .row A207 n208 c209 2 1 (ints xs206), .mat A401 n402 c403 23 2 vs405 r399.A, .row A406 n407 c408 2 1 (ints r399.B), .row A410 n411 c412 2 1 (ints r399.C), .blk b414 27 [.slice A401 n402 c403, .slice A406 n407 c408, .slice A410 n411 c412]] := hs
        refine wpO_nil ?_
        refine wpL_seq ?_
        refine wpL_region ?_
        refine sY hf hs rfl rfl rfl (Y_load_blkS rfl rfl (i := 1) rfl ag25 ti25 rfl) ?_; clear hf; intro a hf
        obtain ⟨r415, hc416, hm⟩ := bind_some hm
        refine sCall hf rfl rfl rfl rfl (cap := []) rfl rfl en12 (laws_toSystem_ok F p1 A_p1_1 p1.A.length c_p1_1 rfl A_p1_2 p1.B.length c_p1_2 rfl A_p1_3 p1.C.length c_p1_3 rfl _ _ hc416 (h_p1_1.at hs) (h_p1_2.at hs) (h_p1_3.at hs)) ?_; clear hf
        rintro _ w ⟨A417, n418, c419, vs421, A422, n423, c424, A426, n427, c428, rfl, hn420, hn425, hn429, hs1⟩ a hf
        have hs : St [] W w [.blk b1 25 [.slice A_p0_1 p0.A.length c_p0_1, .slice A_p0_2 p0.B.length c_p0_2, .slice A_p0_3 p0.C.length c_p0_3], .blk b2 25 [.slice A_p1_1 p1.A.length c_p1_1, .slice A_p1_2 p1.B.length c_p1_2, .slice A_p1_3 p1.C.length c_p1_3], .blk b194 27 [.slice A196 n197 c198, .slice A202 n203 c204, .slice A207 n208 c209], .mat A196 n197 c198 23 2 vs200 ms195, .row A202 n203 c204 2 1 (ints xs201), .row A207 n208 c209 2 1 (ints xs206), .mat A401 n402 c403 23 2 vs405 r399.A, .row A406 n407 c408 2 1 (ints r399.B), .row A410 n411 c412 2 1 (ints r399.C), .blk b414 27 [.slice A401 n402 c403, .slice A406 n407 c408, .slice A410 n411 c412], .mat A417 n418 c419 23 2 vs421 r415.A, .row A422 n423 c424 2 1 (ints r415.B), .row A426 n427 c428 2 1 (ints r415.C)] := hs.join hs1
        clear hs1
        refine sAlloc hf hs rfl rfl rfl rfl ti27 ?_; clear hf hs; intro a w b430 hs hf
        have hs : St [] W w [.blk b1 25 [.slice A_p0_1 p0.A.length c_p0_1, .slice A_p0_2 p0.B.length c_p0_2, .slice A_p0_3 p0.C.length c_p0_3], .blk b2 25 [.slice A_p1_1 p1.A.length c_p1_1, .slice A_p1_2 p1.B.length c_p1_2, .slice A_p1_3 p1.C.length c_p1_3], .blk b194 27 [.slice A196 n197 c198, .slice A202 n203 c204, .slice A207 n208 c209], .mat A196 n197 c198 23 2 vs200 ms195, .row A202 n203 c204 2 1 (ints xs201), .row A207 n208 c209 2 1 (ints xs206), .mat A401 n402 c403 23 2 vs405 r399.A, .row A406 n407 c408 2 1 (ints r399.B), .row A410 n411 c412 2 1 (ints r399.C), .blk b414 27 [.slice A401 n402 c403, .slice A406 n407 c408, .slice A410 n411 c412], .mat A417 n418 c419 23 2 vs421 r415.A, .row A422 n423 c424 2 1 (ints r415.B), .row A426 n427 c428 2 1 (ints r415.C), .blk b430 27 [.slice none 0 0, .slice none 0 0, .slice none 0 0]] := hs
        refine sStore (i := 13) (us := [.slice A417 n418 c419, .slice A422 n423 c424, .slice A426 n427 c428]) hf hs rfl rfl rfl rfl rfl rfl ti27 rfl rfl rfl (Nat.le_of_ble_eq_true rfl) rfl ?_; clear hs; intro w hs
        have hs : St [] W w [.blk b1 25 [.slice A_p0_1 p0.A.length c_p0_1, .slice A_p0_2 p0.B.length c_p0_2, .slice A_p0_3 p0.C.length c_p0_3], .blk b2 25 [.slice A_p1_1 p1.A.length c_p1_1, .slice A_p1_2 p1.B.length c_p1_2, .slice A_p1_3 p1.C.length c_p1_3], .blk b194 27 [.slice A196 n197 c198, .slice A202 n203 c204, .slice A207 n208 c209], .mat A196 n197 c198 23 2 vs200 ms195, .row A202 n203 c204 2 1 (ints xs201), .row A207 n208 c209 2 1 (ints xs206), .mat A401 n402 c403 23 2 vs405 r399.A, .row A406 n407 c408 2 1 (ints r399.B), .row A410 n411 c412 2 1 (ints r399.C), .blk b414 27 [.slice A401 n402 c403, .slice A406 n407 c408, .slice A410 n411 c412], .mat A417 n418 c419 23 2 vs421 r415.A, .row A422 n423 c424 2 1 (ints r415.B), .row A426 n427 c428 2 1 (ints r415.C), .blk b430 27 [.slice A417 n418 c419, .slice A422 n423 c424, .slice A426 n427 c428]] := hs
        refine wpO_nil ?_
        refine wpL_seq ?_
        refine wpL_region ?_
        refine sY hf hs rfl rfl rfl (Y_load_blkS rfl rfl (i := 9) rfl ag27 ti27 rfl) ?_; clear hf; intro a hf
        refine sY hf hs rfl rfl rfl (Y_load_blkS rfl rfl (i := 13) rfl ag27 ti27 rfl) ?_; clear hf; intro a hf
        obtain ⟨r431, hc432, hm⟩ := bind_some hm
        refine sCall hf rfl rfl rfl rfl (cap := []) rfl rfl en13 (impl_SeriesSystem_ok F r399 A401 n402 c403 hn404 A406 n407 c408 hn409 A410 n411 c412 hn413 r415 A417 n418 c419 hn420 A422 n423 c424 hn425 A426 n427 c428 hn429 _ _ hc432 (hs.rdM (i := 6) rfl) (hs.rd (i := 7) rfl) (hs.rd (i := 8) rfl) (hs.rdM (i := 10) rfl) (hs.rd (i := 11) rfl) (hs.rd (i := 12) rfl)) ?_; clear hf
        rintro _ w ⟨A433, n434, c435, vs437, A438, n439, c440, A442, n443, c444, rfl, hn436, hn441, hn445, hs1⟩ a hf
        have hs : St [] W w [.blk b1 25 [.slice A_p0_1 p0.A.length c_p0_1, .slice A_p0_2 p0.B.length c_p0_2, .slice A_p0_3 p0.C.length c_p0_3], .blk b2 25 [.slice A_p1_1 p1.A.length c_p1_1, .slice A_p1_2 p1.B.length c_p1_2, .slice A_p1_3 p1.C.length c_p1_3], .blk b194 27 [.slice A196 n197 c198, .slice A202 n203 c204, .slice A207 n208 c209], .mat A196 n197 c198 23 2 vs200 ms195, .row A202 n203 c204 2 1 (ints xs201), .row A207 n208 c209 2 1 (ints xs206), .mat A401 n402 c403 23 2 vs405 r399.A, .row A406 n407 c408 2 1 (ints r399.B), .row A410 n411 c412 2 1 (ints r399.C), .blk b414 27 [.slice A401 n402 c403, .slice A406 n407 c408, .slice A410 n411 c412], .mat A417 n418 c419 23 2 vs421 r415.A, .row A422 n423 c424 2 1 (ints r415.B), .row A426 n427 c428 2 1 (ints r415.C), .blk b430 27 [.slice A417 n418 c419, .slice A422 n423 c424, .slice A426 n427 c428], .mat A433 n434 c435 23 2 vs437 r431.1.A, .row A438 n439 c440 2 1 (ints r431.1.B), .row A442 n443 c444 2 1 (ints r431.1.C)] := hs.join hs1
        clear hs1
        refine sY hf hs rfl rfl rfl (Y_move rfl rfl) ?_; clear hf; intro a hf
        refine sY hf hs rfl rfl rfl (Y_extract rfl rfl rfl) ?_; clear hf; intro a hf
        refine sY hf hs rfl rfl rfl (Y_extract rfl rfl rfl) ?_; clear hf; intro a hf
        refine sAlloc hf hs rfl rfl rfl rfl ti27 ?_; clear hf hs; intro a w b446 hs hf
        have hs : St [] W w [.blk b1 25 [.slice A_p0_1 p0.A.length c_p0_1, .slice A_p0_2 p0.B.length c_p0_2, .slice A_p0_3 p0.C.length c_p0_3], .blk b2 25 [.slice A_p1_1 p1.A.length c_p1_1, .slice A_p1_2 p1.B.length c_p1_2, .slice A_p1_3 p1.C.length c_p1_3], .blk b194 27 [.slice A196 n197 c198, .slice A202 n203 c204, .slice A207 n208 c209], .mat A196 n197 c198 23 2 vs200 ms195, .row A202 n203 c204 2 1 (ints xs201), .row A207 n208 c209 2 1 (ints xs206), .mat A401 n402 c403 23 2 vs405 r399.A, .row A406 n407 c408 2 1 (ints r399.B), .row A410 n411 c412 2 1 (ints r399.C), .blk b414 27 [.slice A401 n402 c403, .slice A406 n407 c408, .slice A410 n411 c412], .mat A417 n418 c419 23 2 vs421 r415.A, .row A422 n423 c424 2 1 (ints r415.B), .row A426 n427 c428 2 1 (ints r415.C), .blk b430 27 [.slice A417 n418 c419, .slice A422 n423 c424, .slice A426 n427 c428], .mat A433 n434 c435 23 2 vs437 r431.1.A, .row A438 n439 c440 2 1 (ints r431.1.B), .row A442 n443 c444 2 1 (ints r431.1.C), .blk b446 27 [.slice none 0 0, .slice none 0 0, .slice none 0 0]] := hs
        refine sStore (i := 17) (us := [.slice A433 n434 c435, .slice A438 n439 c440, .slice A442 n443 c444]) hf hs rfl rfl rfl rfl rfl rfl ti27 rfl rfl rfl (Nat.le_of_ble_eq_true rfl) rfl ?_; clear hs; intro w hs
        have hs : St [] W w [.blk b1 25 [.slice A_p0_1 p0.A.length c_p0_1, .slice A_p0_2 p0.B.length c_p0_2, .slice A_p0_3 p0.C.length c_p0_3], .blk b2 25 [.slice A_p1_1 p1.A.length c_p1_1, .slice A_p1_2 p1.B.length c_p1_2, .slice A_p1_3 p1.C.length c_p1_3], .blk b194 27 [.slice A196 n197 c198, .slice A202 n203 c204, .slice A207 n208 c209], .mat A196 n197 c198 23 2 vs200 ms195, .row A202 n203 c204 2 1 (ints xs201), .row A207 n208 c209 2 1 (ints xs206), .mat A401 n402 c403 23 2 vs405 r399.A, .row A406 n407 c408 2 1 (ints r399.B), .row A410 n411 c412 2 1 (ints r399.C), .blk b414 27 [.slice A401 n402 c403, .slice A406 n407 c408, .slice A410 n411 c412], .mat A417 n418 c419 23 2 vs421 r415.A, .row A422 n423 c424 2 1 (ints r415.B), .row A426 n427 c428 2 1 (ints r415.C), .blk b430 27 [.slice A417 n418 c419, .slice A422 n423 c424, .slice A426 n427 c428], .mat A433 n434 c435 23 2 vs437 r431.1.A, .row A438 n439 c440 2 1 (ints r431.1.B), .row A442 n443 c444 2 1 (ints r431.1.C), .blk b446 27 [.slice A433 n434 c435, .slice A438 n439 c440, .slice A442 n443 c444]] := hs
        refine sY hf hs rfl rfl rfl (Y_assign rfl rfl) ?_; clear hf; intro a hf
        refine wpO_nil ?_
        refine wpL_seq ?_
        refine wpL_seq ?_
        obtain ⟨r451, hj452, hm⟩ := bind_some hm
        refine wpL_cut (fun a w => ∃ b450 : Bool, b450 = r451 ∧ Fr a 119 [(2, .pointer (some ⟨b1, 0, none⟩)), (3, .pointer (some ⟨b2, 0, none⟩)), (6, .pointer (some ⟨b194, 0, none⟩)), (7, .int .i64 x211), (8, .pointer (some ⟨b414, 0, none⟩)), (9, .pointer (some ⟨b430, 0, none⟩)), (10, .pointer (some ⟨b446, 0, none⟩)), (11, .int .i64 r431.2), (53, .bool b450)] ∧ St [] W w [.blk b1 25 [.slice A_p0_1 p0.A.length c_p0_1, .slice A_p0_2 p0.B.length c_p0_2, .slice A_p0_3 p0.C.length c_p0_3], .blk b2 25 [.slice A_p1_1 p1.A.length c_p1_1, .slice A_p1_2 p1.B.length c_p1_2, .slice A_p1_3 p1.C.length c_p1_3], .blk b194 27 [.slice A196 n197 c198, .slice A202 n203 c204, .slice A207 n208 c209], .mat A196 n197 c198 23 2 vs200 ms195, .row A202 n203 c204 2 1 (ints xs201), .row A207 n208 c209 2 1 (ints xs206), .blk b414 27 [.slice A401 n402 c403, .slice A406 n407 c408, .slice A410 n411 c412], .mat A401 n402 c403 23 2 vs405 r399.A, .row A406 n407 c408 2 1 (ints r399.B), .row A410 n411 c412 2 1 (ints r399.C), .blk b430 27 [.slice A417 n418 c419, .slice A422 n423 c424, .slice A426 n427 c428], .mat A417 n418 c419 23 2 vs421 r415.A, .row A422 n423 c424 2 1 (ints r415.B), .row A426 n427 c428 2 1 (ints r415.C), .blk b446 27 [.slice A433 n434 c435, .slice A438 n439 c440, .slice A442 n443 c444], .mat A433 n434 c435 23 2 vs437 r431.1.A, .row A438 n439 c440 2 1 (ints r431.1.B), .row A442 n443 c444 2 1 (ints r431.1.C)]) ?_ ?_
        · refine wpL_region ?_
          refine sY hf hs rfl rfl rfl (Y_load_blkS rfl rfl (i := 17) rfl ag27 ti27 rfl) ?_; clear hf; intro a hf
          refine sY hf hs rfl rfl rfl (Y_load_blkS rfl rfl (i := 2) rfl ag27 ti27 rfl) ?_; clear hf; intro a hf
          obtain ⟨r453, hc454, hj452⟩ := bind_some hj452
          refine sCall hf rfl rfl rfl rfl (cap := []) rfl rfl en14 (laws_eqSystem_ok F (GSystem.mk r431.1.A r431.1.B r431.1.C) A433 n434 c435 hn436 A438 n439 c440 hn441 A442 n443 c444 hn445 (GSystem.mk ms195 xs201 xs206) A196 n197 c198 hn199 A202 n203 c204 hn205 A207 n208 c209 hn210 _ _ hc454 (hs.rdM (i := 14) rfl) (hs.rd (i := 15) rfl) (hs.rd (i := 16) rfl) (hs.rdM (i := 3) rfl) (hs.rd (i := 4) rfl) (hs.rd (i := 5) rfl)) ?_; clear hf
          rintro _ w ⟨rfl, hs1⟩ a hf
          have hs : St [] W w [.blk b1 25 [.slice A_p0_1 p0.A.length c_p0_1, .slice A_p0_2 p0.B.length c_p0_2, .slice A_p0_3 p0.C.length c_p0_3], .blk b2 25 [.slice A_p1_1 p1.A.length c_p1_1, .slice A_p1_2 p1.B.length c_p1_2, .slice A_p1_3 p1.C.length c_p1_3], .blk b194 27 [.slice A196 n197 c198, .slice A202 n203 c204, .slice A207 n208 c209], .mat A196 n197 c198 23 2 vs200 ms195, .row A202 n203 c204 2 1 (ints xs201), .row A207 n208 c209 2 1 (ints xs206), .mat A401 n402 c403 23 2 vs405 r399.A, .row A406 n407 c408 2 1 (ints r399.B), .row A410 n411 c412 2 1 (ints r399.C), .blk b414 27 [.slice A401 n402 c403, .slice A406 n407 c408, .slice A410 n411 c412], .mat A417 n418 c419 23 2 vs421 r415.A, .row A422 n423 c424 2 1 (ints r415.B), .row A426 n427 c428 2 1 (ints r415.C), .blk b430 27 [.slice A417 n418 c419, .slice A422 n423 c424, .slice A426 n427 c428], .mat A433 n434 c435 23 2 vs437 r431.1.A, .row A438 n439 c440 2 1 (ints r431.1.B), .row A442 n443 c444 2 1 (ints r431.1.C), .blk b446 27 [.slice A433 n434 c435, .slice A438 n439 c440, .slice A442 n443 c444]] := hs.ext hs1.below
          clear hs1
          refine sY hf hs rfl rfl rfl (Y_not rfl rfl) ?_; clear hf; intro a hf
          refine sY hf hs rfl rfl rfl (Y_move rfl rfl) ?_; clear hf; intro a hf
          refine bsplit (!r453) (fun hb455 => ?_) (fun hb455 => ?_)
          · have hj452 := bif_t hj452 hb455
            refine sNo hf rfl rfl rfl (congrArg (fun b => some (Value.bool b)) hb455) rfl rfl rfl ?_; clear hf; intro a hf
            refine sNo hf rfl rfl rfl (congrArg (fun b => some (Value.bool b)) hb455) rfl rfl rfl ?_; clear hf; intro a hf
            refine sNo hf rfl rfl rfl (congrArg (fun b => some (Value.bool b)) hb455) rfl rfl rfl ?_; clear hf; intro a hf
            refine sY hf hs rfl rfl rfl (Y_pickT rfl (congrArg (fun b => some (Value.bool b)) hb455) rfl) ?_; clear hf; intro a hf
            refine wpO_nil ?_
            refine wpL_nil (then_normal ?_)
            exact ⟨true, Option.some.inj hj452, (FrD.pick (FrD.pick (FrD.pick (FrD.pick (FrD.pick (FrD.pick (FrD.pick (FrD.pick (FrD.pick hf.none hf rfl) hf rfl) hf rfl) hf rfl) hf rfl) hf rfl) hf rfl) hf rfl) hf rfl), hs.sel [0, 1, 2, 3, 4, 5, 9, 6, 7, 8, 13, 10, 11, 12, 17, 14, 15, 16] (by decide)⟩
          · have hj452 := bif_f hj452 hb455
            refine sYg hf hs rfl rfl rfl (congrArg (fun b => some (Value.bool b)) hb455) rfl rfl rfl (Y_move rfl rfl) ?_; clear hf; intro a hf
            refine sYg hf hs rfl rfl rfl (congrArg (fun b => some (Value.bool b)) hb455) rfl rfl rfl (Y_move rfl rfl) ?_; clear hf; intro a hf
            refine sYg hf hs rfl rfl rfl (congrArg (fun b => some (Value.bool b)) hb455) rfl rfl rfl (Y_neq rfl rfl rfl) ?_; clear hf; intro a hf
            refine sY hf hs rfl rfl rfl (Y_pickF rfl (congrArg (fun b => some (Value.bool b)) hb455) rfl) ?_; clear hf; intro a hf
            refine wpO_nil ?_
            refine wpL_nil (then_normal ?_)
            exact ⟨(r431.2 != x211), Option.some.inj hj452, (FrD.pick (FrD.pick (FrD.pick (FrD.pick (FrD.pick (FrD.pick (FrD.pick (FrD.pick (FrD.pick hf.none hf rfl) hf rfl) hf rfl) hf rfl) hf rfl) hf rfl) hf rfl) hf rfl) hf rfl), hs.sel [0, 1, 2, 3, 4, 5, 9, 6, 7, 8, 13, 10, 11, 12, 17, 14, 15, 16] (by decide)⟩
        · rintro a w ⟨b450, hr_, hf, hs⟩
          subst hr_
          try dsimp only at hm
          refine wpL_cond hf rfl (fun hb456 => ?_) (fun hb456 => ?_)
          · have hm := bif_t hm hb456
            refine wpL_seq ?_
            refine wpL_region ?_
            refine sY hf hs rfl rfl rfl (Y_assign rfl rfl) ?_; clear hf; intro a hf
            refine wpO_nil ?_
            obtain rfl := Option.some.inj hm
            refine wpL_ret (ret_tmp rfl hf rfl ?_)
            exact ⟨_, rfl, rfl, hs.sel [] (by decide)⟩
          · have hm := bif_f hm hb456
            refine wpL_skip ?_
            refine wpL_seq ?_
            refine wpL_seq ?_
            refine wpL_drawM [.blk b1 25 [.slice A_p0_1 p0.A.length c_p0_1, .slice A_p0_2 p0.B.length c_p0_2, .slice A_p0_3 p0.C.length c_p0_3], .blk b2 25 [.slice A_p1_1 p1.A.length c_p1_1, .slice A_p1_2 p1.B.length c_p1_2, .slice A_p1_3 p1.C.length c_p1_3], .blk b194 27 [.slice A196 n197 c198, .slice A202 n203 c204, .slice A207 n208 c209], .mat A196 n197 c198 23 2 vs200 ms195, .row A202 n203 c204 2 1 (ints xs201), .row A207 n208 c209 2 1 (ints xs206), .blk b414 27 [.slice A401 n402 c403, .slice A406 n407 c408, .slice A410 n411 c412], .mat A401 n402 c403 23 2 vs405 r399.A, .row A406 n407 c408 2 1 (ints r399.B), .row A410 n411 c412 2 1 (ints r399.C), .blk b430 27 [.slice A417 n418 c419, .slice A422 n423 c424, .slice A426 n427 c428], .mat A417 n418 c419 23 2 vs421 r415.A, .row A422 n423 c424 2 1 (ints r415.B), .row A426 n427 c428 2 1 (ints r415.C), .blk b446 27 [.slice A433 n434 c435, .slice A438 n439 c440, .slice A442 n443 c444], .mat A433 n434 c435 23 2 vs437 r431.1.A, .row A438 n439 c440 2 1 (ints r431.1.B), .row A442 n443 c444 2 1 (ints r431.1.C)] [3] (by kernel_rfl) hs ?_; clear hs; intro w hs
            have hs0 : St [] W w [.blk b1 25 [.slice A_p0_1 p0.A.length c_p0_1, .slice A_p0_2 p0.B.length c_p0_2, .slice A_p0_3 p0.C.length c_p0_3], .blk b2 25 [.slice A_p1_1 p1.A.length c_p1_1, .slice A_p1_2 p1.B.length c_p1_2, .slice A_p1_3 p1.C.length c_p1_3], .blk b194 27 [.slice A196 n197 c198, .slice A202 n203 c204, .slice A207 n208 c209], .mat A196 n197 c198 23 2 vs200 ms195, .row A202 n203 c204 2 1 (ints xs201), .row A207 n208 c209 2 1 (ints xs206), .blk b414 27 [.slice A401 n402 c403, .slice A406 n407 c408, .slice A410 n411 c412], .mat A401 n402 c403 23 2 vs405 r399.A, .row A406 n407 c408 2 1 (ints r399.B), .row A410 n411 c412 2 1 (ints r399.C), .blk b430 27 [.slice A417 n418 c419, .slice A422 n423 c424, .slice A426 n427 c428], .mat A417 n418 c419 23 2 vs421 r415.A, .row A422 n423 c424 2 1 (ints r415.B), .row A426 n427 c428 2 1 (ints r415.C), .blk b446 27 [.slice A433 n434 c435, .slice A438 n439 c440, .slice A442 n443 c444], .mat A433 n434 c435 23 2 vs437 r431.1.A, .row A438 n439 c440 2 1 (ints r431.1.B), .row A442 n443 c444 2 1 (ints r431.1.C)] := hs
            refine mY (i := 0) [[]] rfl (by kernel_rfl) (by kernel_rfl) hf hs0 rfl rfl rfl (Y_load_blkS rfl rfl (i := 6) rfl ag27 ti27 rfl) ?_; clear hf; intro a hf
            refine mY (i := 1) [[2]] rfl (by kernel_rfl) (by kernel_rfl) hf hs0 rfl rfl rfl (Y_load_blkS rfl rfl (i := 0) rfl ag25 ti25 rfl) ?_; clear hf; intro a hf
            refine mRun (i := 2) rfl (by kernel_rfl) ?_
            obtain ⟨r474, hc475, hm⟩ := bind_some hm
            refine sCall hf rfl rfl rfl rfl (cap := []) rfl rfl en12 (laws_toSystem_ok F p0 A_p0_1 p0.A.length c_p0_1 rfl A_p0_2 p0.B.length c_p0_2 rfl A_p0_3 p0.C.length c_p0_3 rfl _ _ hc475 (h_p0_1.at hs) (h_p0_2.at hs) (h_p0_3.at hs)) ?_; clear hf
            rintro _ w ⟨A476, n477, c478, vs480, A481, n482, c483, A485, n486, c487, rfl, hn479, hn484, hn488, hs1⟩ a hf
            have hs : St [] W w [.blk b1 25 [.slice A_p0_1 p0.A.length c_p0_1, .slice A_p0_2 p0.B.length c_p0_2, .slice A_p0_3 p0.C.length c_p0_3], .blk b2 25 [.slice A_p1_1 p1.A.length c_p1_1, .slice A_p1_2 p1.B.length c_p1_2, .slice A_p1_3 p1.C.length c_p1_3], .blk b194 27 [.slice A196 n197 c198, .slice A202 n203 c204, .slice A207 n208 c209], .mat A196 n197 c198 23 2 vs200 ms195, .row A202 n203 c204 2 1 (ints xs201), .row A207 n208 c209 2 1 (ints xs206), .blk b414 27 [.slice A401 n402 c403, .slice A406 n407 c408, .slice A410 n411 c412], .mat A401 n402 c403 23 2 vs405 r399.A, .row A406 n407 c408 2 1 (ints r399.B), .row A410 n411 c412 2 1 (ints r399.C), .blk b430 27 [.slice A417 n418 c419, .slice A422 n423 c424, .slice A426 n427 c428], .mat A417 n418 c419 23 2 vs421 r415.A, .row A422 n423 c424 2 1 (ints r415.B), .row A426 n427 c428 2 1 (ints r415.C), .blk b446 27 [.slice A433 n434 c435, .slice A438 n439 c440, .slice A442 n443 c444], .mat A433 n434 c435 23 2 vs437 r431.1.A, .row A438 n439 c440 2 1 (ints r431.1.B), .row A442 n443 c444 2 1 (ints r431.1.C), .mat A476 n477 c478 23 2 vs480 r474.A, .row A481 n482 c483 2 1 (ints r474.B), .row A485 n486 c487 2 1 (ints r474.C)] := hs.join hs1
            clear hs1
            have hs0 : St [] W w [.blk b1 25 [.slice A_p0_1 p0.A.length c_p0_1, .slice A_p0_2 p0.B.length c_p0_2, .slice A_p0_3 p0.C.length c_p0_3], .blk b2 25 [.slice A_p1_1 p1.A.length c_p1_1, .slice A_p1_2 p1.B.length c_p1_2, .slice A_p1_3 p1.C.length c_p1_3], .blk b194 27 [.slice A196 n197 c198, .slice A202 n203 c204, .slice A207 n208 c209], .mat A196 n197 c198 23 2 vs200 ms195, .row A202 n203 c204 2 1 (ints xs201), .row A207 n208 c209 2 1 (ints xs206), .blk b414 27 [.slice A401 n402 c403, .slice A406 n407 c408, .slice A410 n411 c412], .mat A401 n402 c403 23 2 vs405 r399.A, .row A406 n407 c408 2 1 (ints r399.B), .row A410 n411 c412 2 1 (ints r399.C), .blk b430 27 [.slice A417 n418 c419, .slice A422 n423 c424, .slice A426 n427 c428], .mat A417 n418 c419 23 2 vs421 r415.A, .row A422 n423 c424 2 1 (ints r415.B), .row A426 n427 c428 2 1 (ints r415.C), .blk b446 27 [.slice A433 n434 c435, .slice A438 n439 c440, .slice A442 n443 c444], .mat A433 n434 c435 23 2 vs437 r431.1.A, .row A438 n439 c440 2 1 (ints r431.1.B), .row A442 n443 c444 2 1 (ints r431.1.C)] := hs.sel [0, 1, 2, 3, 4, 5, 6, 7, 8, 9, 10, 11, 12, 13, 14, 15, 16, 17] (by decide)
            refine wpO_nil ⟨Or.inr (fun _ => hs0), ?_⟩
            refine mRun (i := 3) rfl (by kernel_rfl) ?_
            obtain ⟨r489, hc490, hm⟩ := bind_some hm
            refine sCall hf rfl rfl rfl rfl (cap := []) rfl rfl en14 (laws_eqSystem_ok F r399 A401 n402 c403 hn404 A406 n407 c408 hn409 A410 n411 c412 hn413 r474 A476 n477 c478 hn479 A481 n482 c483 hn484 A485 n486 c487 hn488 _ _ hc490 (hs.rdM (i := 7) rfl) (hs.rd (i := 8) rfl) (hs.rd (i := 9) rfl) (hs.rdM (i := 18) rfl) (hs.rd (i := 19) rfl) (hs.rd (i := 20) rfl)) ?_; clear hf
            rintro _ w ⟨rfl, hs1⟩ a hf
            have hs : St [] W w [.blk b1 25 [.slice A_p0_1 p0.A.length c_p0_1, .slice A_p0_2 p0.B.length c_p0_2, .slice A_p0_3 p0.C.length c_p0_3], .blk b2 25 [.slice A_p1_1 p1.A.length c_p1_1, .slice A_p1_2 p1.B.length c_p1_2, .slice A_p1_3 p1.C.length c_p1_3], .blk b194 27 [.slice A196 n197 c198, .slice A202 n203 c204, .slice A207 n208 c209], .mat A196 n197 c198 23 2 vs200 ms195, .row A202 n203 c204 2 1 (ints xs201), .row A207 n208 c209 2 1 (ints xs206), .blk b414 27 [.slice A401 n402 c403, .slice A406 n407 c408, .slice A410 n411 c412], .mat A401 n402 c403 23 2 vs405 r399.A, .row A406 n407 c408 2 1 (ints r399.B), .row A410 n411 c412 2 1 (ints r399.C), .blk b430 27 [.slice A417 n418 c419, .slice A422 n423 c424, .slice A426 n427 c428], .mat A417 n418 c419 23 2 vs421 r415.A, .row A422 n423 c424 2 1 (ints r415.B), .row A426 n427 c428 2 1 (ints r415.C), .blk b446 27 [.slice A433 n434 c435, .slice A438 n439 c440, .slice A442 n443 c444], .mat A433 n434 c435 23 2 vs437 r431.1.A, .row A438 n439 c440 2 1 (ints r431.1.B), .row A442 n443 c444 2 1 (ints r431.1.C), .mat A476 n477 c478 23 2 vs480 r474.A, .row A481 n482 c483 2 1 (ints r474.B), .row A485 n486 c487 2 1 (ints r474.C)] := hs.ext hs1.below
            clear hs1
            refine wpO_nil ⟨Or.inl (by decide), ?_⟩
            refine mYp (i := 4) rfl (by kernel_rfl) (by kernel_rfl) hf rfl rfl rfl (fun _ => Y_not rfl rfl) ?_; clear hf; intro a hf
            refine mDone (by kernel_rfl) ?_
            clear hs0
            refine wpL_cond hf rfl (fun hb491 => ?_) (fun hb491 => ?_)
            · have hm := bif_t hm hb491
              refine wpL_seq ?_
              refine wpL_region ?_
              refine sY hf hs rfl rfl rfl (Y_assign rfl rfl) ?_; clear hf; intro a hf
              refine wpO_nil ?_
              obtain rfl := Option.some.inj hm
              refine wpL_ret (ret_tmp rfl hf rfl ?_)
              exact ⟨_, rfl, rfl, hs.sel [] (by decide)⟩
            · have hm := bif_f hm hb491
              refine wpL_skip ?_
              refine wpL_seq ?_
              refine wpL_seq ?_
              refine wpL_drawM [.blk b1 25 [.slice A_p0_1 p0.A.length c_p0_1, .slice A_p0_2 p0.B.length c_p0_2, .slice A_p0_3 p0.C.length c_p0_3], .blk b2 25 [.slice A_p1_1 p1.A.length c_p1_1, .slice A_p1_2 p1.B.length c_p1_2, .slice A_p1_3 p1.C.length c_p1_3], .blk b194 27 [.slice A196 n197 c198, .slice A202 n203 c204, .slice A207 n208 c209], .mat A196 n197 c198 23 2 vs200 ms195, .row A202 n203 c204 2 1 (ints xs201), .row A207 n208 c209 2 1 (ints xs206), .blk b414 27 [.slice A401 n402 c403, .slice A406 n407 c408, .slice A410 n411 c412], .mat A401 n402 c403 23 2 vs405 r399.A, .row A406 n407 c408 2 1 (ints r399.B), .row A410 n411 c412 2 1 (ints r399.C), .blk b430 27 [.slice A417 n418 c419, .slice A422 n423 c424, .slice A426 n427 c428], .mat A417 n418 c419 23 2 vs421 r415.A, .row A422 n423 c424 2 1 (ints r415.B), .row A426 n427 c428 2 1 (ints r415.C), .blk b446 27 [.slice A433 n434 c435, .slice A438 n439 c440, .slice A442 n443 c444], .mat A433 n434 c435 23 2 vs437 r431.1.A, .row A438 n439 c440 2 1 (ints r431.1.B), .row A442 n443 c444 2 1 (ints r431.1.C), .mat A476 n477 c478 23 2 vs480 r474.A, .row A481 n482 c483 2 1 (ints r474.B), .row A485 n486 c487 2 1 (ints r474.C)] [3] (by kernel_rfl) hs ?_; clear hs; intro w hs
              have hs0 : St [] W w [.blk b1 25 [.slice A_p0_1 p0.A.length c_p0_1, .slice A_p0_2 p0.B.length c_p0_2, .slice A_p0_3 p0.C.length c_p0_3], .blk b2 25 [.slice A_p1_1 p1.A.length c_p1_1, .slice A_p1_2 p1.B.length c_p1_2, .slice A_p1_3 p1.C.length c_p1_3], .blk b194 27 [.slice A196 n197 c198, .slice A202 n203 c204, .slice A207 n208 c209], .mat A196 n197 c198 23 2 vs200 ms195, .row A202 n203 c204 2 1 (ints xs201), .row A207 n208 c209 2 1 (ints xs206), .blk b414 27 [.slice A401 n402 c403, .slice A406 n407 c408, .slice A410 n411 c412], .mat A401 n402 c403 23 2 vs405 r399.A, .row A406 n407 c408 2 1 (ints r399.B), .row A410 n411 c412 2 1 (ints r399.C), .blk b430 27 [.slice A417 n418 c419, .slice A422 n423 c424, .slice A426 n427 c428], .mat A417 n418 c419 23 2 vs421 r415.A, .row A422 n423 c424 2 1 (ints r415.B), .row A426 n427 c428 2 1 (ints r415.C), .blk b446 27 [.slice A433 n434 c435, .slice A438 n439 c440, .slice A442 n443 c444], .mat A433 n434 c435 23 2 vs437 r431.1.A, .row A438 n439 c440 2 1 (ints r431.1.B), .row A442 n443 c444 2 1 (ints r431.1.C), .mat A476 n477 c478 23 2 vs480 r474.A, .row A481 n482 c483 2 1 (ints r474.B), .row A485 n486 c487 2 1 (ints r474.C)] := hs
              refine mY (i := 0) [[]] rfl (by kernel_rfl) (by kernel_rfl) hf hs0 rfl rfl rfl (Y_load_blkS rfl rfl (i := 10) rfl ag27 ti27 rfl) ?_; clear hf; intro a hf
              refine mY (i := 1) [[2]] rfl (by kernel_rfl) (by kernel_rfl) hf hs0 rfl rfl rfl (Y_load_blkS rfl rfl (i := 1) rfl ag25 ti25 rfl) ?_; clear hf; intro a hf
              refine mRun (i := 2) rfl (by kernel_rfl) ?_
              obtain ⟨r509, hc510, hm⟩ := bind_some hm
              refine sCall hf rfl rfl rfl rfl (cap := []) rfl rfl en12 (laws_toSystem_ok F p1 A_p1_1 p1.A.length c_p1_1 rfl A_p1_2 p1.B.length c_p1_2 rfl A_p1_3 p1.C.length c_p1_3 rfl _ _ hc510 (h_p1_1.at hs) (h_p1_2.at hs) (h_p1_3.at hs)) ?_; clear hf
              rintro _ w ⟨A511, n512, c513, vs515, A516, n517, c518, A520, n521, c522, rfl, hn514, hn519, hn523, hs1⟩ a hf
              have hs : St [] W w [.blk b1 25 [.slice A_p0_1 p0.A.length c_p0_1, .slice A_p0_2 p0.B.length c_p0_2, .slice A_p0_3 p0.C.length c_p0_3], .blk b2 25 [.slice A_p1_1 p1.A.length c_p1_1, .slice A_p1_2 p1.B.length c_p1_2, .slice A_p1_3 p1.C.length c_p1_3], .blk b194 27 [.slice A196 n197 c198, .slice A202 n203 c204, .slice A207 n208 c209], .mat A196 n197 c198 23 2 vs200 ms195, .row A202 n203 c204 2 1 (ints xs201), .row A207 n208 c209 2 1 (ints xs206), .blk b414 27 [.slice A401 n402 c403, .slice A406 n407 c408, .slice A410 n411 c412], .mat A401 n402 c403 23 2 vs405 r399.A, .row A406 n407 c408 2 1 (ints r399.B), .row A410 n411 c412 2 1 (ints r399.C), .blk b430 27 [.slice A417 n418 c419, .slice A422 n423 c424, .slice A426 n427 c428], .mat A417 n418 c419 23 2 vs421 r415.A, .row A422 n423 c424 2 1 (ints r415.B), .row A426 n427 c428 2 1 (ints r415.C), .blk b446 27 [.slice A433 n434 c435, .slice A438 n439 c440, .slice A442 n443 c444], .mat A433 n434 c435 23 2 vs437 r431.1.A, .row A438 n439 c440 2 1 (ints r431.1.B), .row A442 n443 c444 2 1 (ints r431.1.C), .mat A476 n477 c478 23 2 vs480 r474.A, .row A481 n482 c483 2 1 (ints r474.B), .row A485 n486 c487 2 1 (ints r474.C), .mat A511 n512 c513 23 2 vs515 r509.A, .row A516 n517 c518 2 1 (ints r509.B), .row A520 n521 c522 2 1 (ints r509.C)] := hs.join hs1
              clear hs1
              have hs0 : St [] W w [.blk b1 25 [.slice A_p0_1 p0.A.length c_p0_1, .slice A_p0_2 p0.B.length c_p0_2, .slice A_p0_3 p0.C.length c_p0_3], .blk b2 25 [.slice A_p1_1 p1.A.length c_p1_1, .slice A_p1_2 p1.B.length c_p1_2, .slice A_p1_3 p1.C.length c_p1_3], .blk b194 27 [.slice A196 n197 c198, .slice A202 n203 c204, .slice A207 n208 c209], .mat A196 n197 c198 23 2 vs200 ms195, .row A202 n203 c204 2 1 (ints xs201), .row A207 n208 c209 2 1 (ints xs206), .blk b414 27 [.slice A401 n402 c403, .slice A406 n407 c408, .slice A410 n411 c412], .mat A401 n402 c403 23 2 vs405 r399.A, .row A406 n407 c408 2 1 (ints r399.B), .row A410 n411 c412 2 1 (ints r399.C), .blk b430 27 [.slice A417 n418 c419, .slice A422 n423 c424, .slice A426 n427 c428], .mat A417 n418 c419 23 2 vs421 r415.A, .row A422 n423 c424 2 1 (ints r415.B), .row A426 n427 c428 2 1 (ints r415.C), .blk b446 27 [.slice A433 n434 c435, .slice A438 n439 c440, .slice A442 n443 c444], .mat A433 n434 c435 23 2 vs437 r431.1.A, .row A438 n439 c440 2 1 (ints r431.1.B), .row A442 n443 c444 2 1 (ints r431.1.C), .mat A476 n477 c478 23 2 vs480 r474.A, .row A481 n482 c483 2 1 (ints r474.B), .row A485 n486 c487 2 1 (ints r474.C)] := hs.sel [0, 1, 2, 3, 4, 5, 6, 7, 8, 9, 10, 11, 12, 13, 14, 15, 16, 17, 18, 19, 20] (by decide)
              refine wpO_nil ⟨Or.inr (fun _ => hs0), ?_⟩
              refine mRun (i := 3) rfl (by kernel_rfl) ?_
              obtain ⟨r524, hc525, hm⟩ := bind_some hm
              refine sCall hf rfl rfl rfl rfl (cap := []) rfl rfl en14 (laws_eqSystem_ok F r415 A417 n418 c419 hn420 A422 n423 c424 hn425 A426 n427 c428 hn429 r509 A511 n512 c513 hn514 A516 n517 c518 hn519 A520 n521 c522 hn523 _ _ hc525 (hs.rdM (i := 11) rfl) (hs.rd (i := 12) rfl) (hs.rd (i := 13) rfl) (hs.rdM (i := 21) rfl) (hs.rd (i := 22) rfl) (hs.rd (i := 23) rfl)) ?_; clear hf
              rintro _ w ⟨rfl, hs1⟩ a hf
              have hs : St [] W w [.blk b1 25 [.slice A_p0_1 p0.A.length c_p0_1, .slice A_p0_2 p0.B.length c_p0_2, .slice A_p0_3 p0.C.length c_p0_3], .blk b2 25 [.slice A_p1_1 p1.A.length c_p1_1, .slice A_p1_2 p1.B.length c_p1_2, .slice A_p1_3 p1.C.length c_p1_3], .blk b194 27 [.slice A196 n197 c198, .slice A202 n203 c204, .slice A207 n208 c209], .mat A196 n197 c198 23 2 vs200 ms195, .row A202 n203 c204 2 1 (ints xs201), .row A207 n208 c209 2 1 (ints xs206), .blk b414 27 [.slice A401 n402 c403, .slice A406 n407 c408, .slice A410 n411 c412], .mat A401 n402 c403 23 2 vs405 r399.A, .row A406 n407 c408 2 1 (ints r399.B), .row A410 n411 c412 2 1 (ints r399.C), .blk b430 27 [.slice A417 n418 c419, .slice A422 n423 c424, .slice A426 n427 c428], .mat A417 n418 c419 23 2 vs421 r415.A, .row A422 n423 c424 2 1 (ints r415.B), .row A426 n427 c428 2 1 (ints r415.C), .blk b446 27 [.slice A433 n434 c435, .slice A438 n439 c440, .slice A442 n443 c444], .mat A433 n434 c435 23 2 vs437 r431.1.A, .row A438 n439 c440 2 1 (ints r431.1.B), .row A442 n443 c444 2 1 (ints r431.1.C), .mat A476 n477 c478 23 2 vs480 r474.A, .row A481 n482 c483 2 1 (ints r474.B), .row A485 n486 c487 2 1 (ints r474.C), .mat A511 n512 c513 23 2 vs515 r509.A, .row A516 n517 c518 2 1 (ints r509.B), .row A520 n521 c522 2 1 (ints r509.C)] := hs.ext hs1.below
              clear hs1
              refine wpO_nil ⟨Or.inl (by decide), ?_⟩
              refine mYp (i := 4) rfl (by kernel_rfl) (by kernel_rfl) hf rfl rfl rfl (fun _ => Y_not rfl rfl) ?_; clear hf; intro a hf
              refine mDone (by kernel_rfl) ?_
              clear hs0
              refine wpL_cond hf rfl (fun hb526 => ?_) (fun hb526 => ?_)
              · have hm := bif_t hm hb526
                refine wpL_seq ?_
                refine wpL_region ?_
                refine sY hf hs rfl rfl rfl (Y_assign rfl rfl) ?_; clear hf; intro a hf
                refine wpO_nil ?_
                obtain rfl := Option.some.inj hm
                refine wpL_ret (ret_tmp rfl hf rfl ?_)
                exact ⟨_, rfl, rfl, hs.sel [] (by decide)⟩
              · have hm := bif_f hm hb526
                refine wpL_skip ?_
                refine wpL_seq ?_
                refine wpL_region ?_
                refine sY hf hs rfl rfl rfl (Y_assign rfl rfl) ?_; clear hf; intro a hf
                refine wpO_nil ?_
                refine wpL_seq ?_
                refine wpL_region ?_
                refine sY hf hs rfl rfl rfl (Y_load_blkS rfl rfl (i := 6) rfl ag27 ti27 rfl) ?_; clear hf; intro a hf
                refine sY hf hs rfl rfl rfl (Y_move rfl rfl) ?_; clear hf; intro a hf
                obtain ⟨r527, hc528, hm⟩ := bind_some hm
                refine sCall hf rfl rfl rfl rfl (cap := []) rfl rfl en15 (laws_markSystem_ok F r399 A401 n402 c403 hn404 vs405 A406 n407 c408 hn409 A410 n411 c412 hn413 1 _ _ hc528 (hs.sel [7, 8, 9] (by decide)).rebase) ?_; clear hf
                rintro _ w ⟨rfl, hn529, hn530, hn531, hs1⟩ a hf
                have hs : St [] W w [.blk b1 25 [.slice A_p0_1 p0.A.length c_p0_1, .slice A_p0_2 p0.B.length c_p0_2, .slice A_p0_3 p0.C.length c_p0_3], .blk b2 25 [.slice A_p1_1 p1.A.length c_p1_1, .slice A_p1_2 p1.B.length c_p1_2, .slice A_p1_3 p1.C.length c_p1_3], .blk b194 27 [.slice A196 n197 c198, .slice A202 n203 c204, .slice A207 n208 c209], .mat A196 n197 c198 23 2 vs200 ms195, .row A202 n203 c204 2 1 (ints xs201), .row A207 n208 c209 2 1 (ints xs206), .blk b414 27 [.slice A401 n402 c403, .slice A406 n407 c408, .slice A410 n411 c412], .blk b430 27 [.slice A417 n418 c419, .slice A422 n423 c424, .slice A426 n427 c428], .mat A417 n418 c419 23 2 vs421 r415.A, .row A422 n423 c424 2 1 (ints r415.B), .row A426 n427 c428 2 1 (ints r415.C), .blk b446 27 [.slice A433 n434 c435, .slice A438 n439 c440, .slice A442 n443 c444], .mat A433 n434 c435 23 2 vs437 r431.1.A, .row A438 n439 c440 2 1 (ints r431.1.B), .row A442 n443 c444 2 1 (ints r431.1.C), .mat A476 n477 c478 23 2 vs480 r474.A, .row A481 n482 c483 2 1 (ints r474.B), .row A485 n486 c487 2 1 (ints r474.C), .mat A511 n512 c513 23 2 vs515 r509.A, .row A516 n517 c518 2 1 (ints r509.B), .row A520 n521 c522 2 1 (ints r509.C), .mat A401 n402 c403 23 2 vs405 r527.2.1, .row A406 n407 c408 2 1 (ints r527.2.2.1), .row A410 n411 c412 2 1 (ints r527.2.2.2)] := St.mutTail (La := [.blk b1 25 [.slice A_p0_1 p0.A.length c_p0_1, .slice A_p0_2 p0.B.length c_p0_2, .slice A_p0_3 p0.C.length c_p0_3], .blk b2 25 [.slice A_p1_1 p1.A.length c_p1_1, .slice A_p1_2 p1.B.length c_p1_2, .slice A_p1_3 p1.C.length c_p1_3], .blk b194 27 [.slice A196 n197 c198, .slice A202 n203 c204, .slice A207 n208 c209], .mat A196 n197 c198 23 2 vs200 ms195, .row A202 n203 c204 2 1 (ints xs201), .row A207 n208 c209 2 1 (ints xs206), .blk b414 27 [.slice A401 n402 c403, .slice A406 n407 c408, .slice A410 n411 c412], .blk b430 27 [.slice A417 n418 c419, .slice A422 n423 c424, .slice A426 n427 c428], .mat A417 n418 c419 23 2 vs421 r415.A, .row A422 n423 c424 2 1 (ints r415.B), .row A426 n427 c428 2 1 (ints r415.C), .blk b446 27 [.slice A433 n434 c435, .slice A438 n439 c440, .slice A442 n443 c444], .mat A433 n434 c435 23 2 vs437 r431.1.A, .row A438 n439 c440 2 1 (ints r431.1.B), .row A442 n443 c444 2 1 (ints r431.1.C), .mat A476 n477 c478 23 2 vs480 r474.A, .row A481 n482 c483 2 1 (ints r474.B), .row A485 n486 c487 2 1 (ints r474.C), .mat A511 n512 c513 23 2 vs515 r509.A, .row A516 n517 c518 2 1 (ints r509.B), .row A520 n521 c522 2 1 (ints r509.C)]) (Lb := [.mat A401 n402 c403 23 2 vs405 r399.A, .row A406 n407 c408 2 1 (ints r399.B), .row A410 n411 c412 2 1 (ints r399.C)]) (hs.sel [0, 1, 2, 3, 4, 5, 6, 10, 11, 12, 13, 14, 15, 16, 17, 18, 19, 20, 21, 22, 23, 7, 8, 9] (by decide)) hs1
                clear hs1
                refine sY hf hs rfl rfl rfl (Y_assign rfl rfl) ?_; clear hf; intro a hf
                refine wpO_nil ?_
                refine wpL_seq ?_
                refine wpL_region ?_
                refine sY hf hs rfl rfl rfl (Y_load_blkS rfl rfl (i := 7) rfl ag27 ti27 rfl) ?_; clear hf; intro a hf
                refine sY hf hs rfl rfl rfl (Y_move rfl rfl) ?_; clear hf; intro a hf
                obtain ⟨r532, hc533, hm⟩ := bind_some hm
                refine sCall hf rfl rfl rfl rfl (cap := []) rfl rfl en15 (laws_markSystem_ok F r415 A417 n418 c419 hn420 vs421 A422 n423 c424 hn425 A426 n427 c428 hn429 r527.1 _ _ hc533 (hs.sel [8, 9, 10] (by decide)).rebase) ?_; clear hf
                rintro _ w ⟨rfl, hn534, hn535, hn536, hs1⟩ a hf
                have hs : St [] W w [.blk b1 25 [.slice A_p0_1 p0.A.length c_p0_1, .slice A_p0_2 p0.B.length c_p0_2, .slice A_p0_3 p0.C.length c_p0_3], .blk b2 25 [.slice A_p1_1 p1.A.length c_p1_1, .slice A_p1_2 p1.B.length c_p1_2, .slice A_p1_3 p1.C.length c_p1_3], .blk b194 27 [.slice A196 n197 c198, .slice A202 n203 c204, .slice A207 n208 c209], .mat A196 n197 c198 23 2 vs200 ms195, .row A202 n203 c204 2 1 (ints xs201), .row A207 n208 c209 2 1 (ints xs206), .blk b414 27 [.slice A401 n402 c403, .slice A406 n407 c408, .slice A410 n411 c412], .blk b430 27 [.slice A417 n418 c419, .slice A422 n423 c424, .slice A426 n427 c428], .blk b446 27 [.slice A433 n434 c435, .slice A438 n439 c440, .slice A442 n443 c444], .mat A433 n434 c435 23 2 vs437 r431.1.A, .row A438 n439 c440 2 1 (ints r431.1.B), .row A442 n443 c444 2 1 (ints r431.1.C), .mat A476 n477 c478 23 2 vs480 r474.A, .row A481 n482 c483 2 1 (ints r474.B), .row A485 n486 c487 2 1 (ints r474.C), .mat A511 n512 c513 23 2 vs515 r509.A, .row A516 n517 c518 2 1 (ints r509.B), .row A520 n521 c522 2 1 (ints r509.C), .mat A401 n402 c403 23 2 vs405 r527.2.1, .row A406 n407 c408 2 1 (ints r527.2.2.1), .row A410 n411 c412 2 1 (ints r527.2.2.2), .mat A417 n418 c419 23 2 vs421 r532.2.1, .row A422 n423 c424 2 1 (ints r532.2.2.1), .row A426 n427 c428 2 1 (ints r532.2.2.2)] := St.mutTail (La := [.blk b1 25 [.slice A_p0_1 p0.A.length c_p0_1, .slice A_p0_2 p0.B.length c_p0_2, .slice A_p0_3 p0.C.length c_p0_3], .blk b2 25 [.slice A_p1_1 p1.A.length c_p1_1, .slice A_p1_2 p1.B.length c_p1_2, .slice A_p1_3 p1.C.length c_p1_3], .blk b194 27 [.slice A196 n197 c198, .slice A202 n203 c204, .slice A207 n208 c209], .mat A196 n197 c198 23 2 vs200 ms195, .row A202 n203 c204 2 1 (ints xs201), .row A207 n208 c209 2 1 (ints xs206), .blk b414 27 [.slice A401 n402 c403, .slice A406 n407 c408, .slice A410 n411 c412], .blk b430 27 [.slice A417 n418 c419, .slice A422 n423 c424, .slice A426 n427 c428], .blk b446 27 [.slice A433 n434 c435, .slice A438 n439 c440, .slice A442 n443 c444], .mat A433 n434 c435 23 2 vs437 r431.1.A, .row A438 n439 c440 2 1 (ints r431.1.B), .row A442 n443 c444 2 1 (ints r431.1.C), .mat A476 n477 c478 23 2 vs480 r474.A, .row A481 n482 c483 2 1 (ints r474.B), .row A485 n486 c487 2 1 (ints r474.C), .mat A511 n512 c513 23 2 vs515 r509.A, .row A516 n517 c518 2 1 (ints r509.B), .row A520 n521 c522 2 1 (ints r509.C), .mat A401 n402 c403 23 2 vs405 r527.2.1, .row A406 n407 c408 2 1 (ints r527.2.2.1), .row A410 n411 c412 2 1 (ints r527.2.2.2)]) (Lb := [.mat A417 n418 c419 23 2 vs421 r415.A, .row A422 n423 c424 2 1 (ints r415.B), .row A426 n427 c428 2 1 (ints r415.C)]) (hs.sel [0, 1, 2, 3, 4, 5, 6, 7, 11, 12, 13, 14, 15, 16, 17, 18, 19, 20, 21, 22, 23, 8, 9, 10] (by decide)) hs1
                clear hs1
                refine sY hf hs rfl rfl rfl (Y_assign rfl rfl) ?_; clear hf; intro a hf
                refine wpO_nil ?_
                refine wpL_seq ?_
                refine wpL_seq ?_
                obtain ⟨r542, hj543, hm⟩ := bind_some hm
                refine wpL_cut (fun a w => ∃ b541 : Bool, b541 = r542 ∧ Fr a 119 [(2, .pointer (some ⟨b1, 0, none⟩)), (3, .pointer (some ⟨b2, 0, none⟩)), (6, .pointer (some ⟨b194, 0, none⟩)), (7, .int .i64 x211), (10, .pointer (some ⟨b446, 0, none⟩)), (82, .bool b541)] ∧ St [] W w [.blk b1 25 [.slice A_p0_1 p0.A.length c_p0_1, .slice A_p0_2 p0.B.length c_p0_2, .slice A_p0_3 p0.C.length c_p0_3], .blk b2 25 [.slice A_p1_1 p1.A.length c_p1_1, .slice A_p1_2 p1.B.length c_p1_2, .slice A_p1_3 p1.C.length c_p1_3], .blk b194 27 [.slice A196 n197 c198, .slice A202 n203 c204, .slice A207 n208 c209], .mat A196 n197 c198 23 2 vs200 ms195, .row A202 n203 c204 2 1 (ints xs201), .row A207 n208 c209 2 1 (ints xs206), .blk b446 27 [.slice A433 n434 c435, .slice A438 n439 c440, .slice A442 n443 c444], .mat A433 n434 c435 23 2 vs437 r431.1.A, .row A438 n439 c440 2 1 (ints r431.1.B), .row A442 n443 c444 2 1 (ints r431.1.C)]) ?_ ?_
                · refine wpL_region ?_
                  refine sY hf hs rfl rfl rfl (Y_move rfl rfl) ?_; clear hf; intro a hf
                  refine sY hf hs rfl rfl rfl (Y_lss rfl rfl rfl) ?_; clear hf; intro a hf
                  refine sY hf hs rfl rfl rfl (Y_move rfl rfl) ?_; clear hf; intro a hf
                  refine bsplit (decide (r532.1 < 0)) (fun hb544 => ?_) (fun hb544 => ?_)
                  · have hj543 := bif_t hj543 hb544
                    refine sNo hf rfl rfl rfl (congrArg (fun b => some (Value.bool b)) hb544) rfl rfl rfl ?_; clear hf; intro a hf
                    refine sNo hf rfl rfl rfl (congrArg (fun b => some (Value.bool b)) hb544) rfl rfl rfl ?_; clear hf; intro a hf
                    refine sNo hf rfl rfl rfl (congrArg (fun b => some (Value.bool b)) hb544) rfl rfl rfl ?_; clear hf; intro a hf
                    refine sNo hf rfl rfl rfl (congrArg (fun b => some (Value.bool b)) hb544) rfl rfl rfl ?_; clear hf; intro a hf
                    refine sY hf hs rfl rfl rfl (Y_pickT rfl (congrArg (fun b => some (Value.bool b)) hb544) rfl) ?_; clear hf; intro a hf
                    refine sY hf hs rfl rfl rfl (Y_move rfl rfl) ?_; clear hf; intro a hf
                    refine sNo hf rfl rfl rfl rfl rfl rfl rfl ?_; clear hf; intro a hf
                    refine sNo hf rfl rfl rfl rfl rfl rfl rfl ?_; clear hf; intro a hf
                    refine sNo hf rfl rfl rfl rfl rfl rfl rfl ?_; clear hf; intro a hf
                    refine sY hf hs rfl rfl rfl (Y_pickT rfl rfl rfl) ?_; clear hf; intro a hf
                    refine wpO_nil ?_
                    refine wpL_nil (then_normal ?_)
                    exact ⟨true, Option.some.inj hj543, (FrD.pick (FrD.pick (FrD.pick (FrD.pick (FrD.pick (FrD.pick hf.none hf rfl) hf rfl) hf rfl) hf rfl) hf rfl) hf rfl), hs.sel [0, 1, 2, 3, 4, 5, 8, 9, 10, 11] (by decide)⟩
                  · have hj543 := bif_f hj543 hb544
                    refine sYg hf hs rfl rfl rfl (congrArg (fun b => some (Value.bool b)) hb544) rfl rfl rfl (Y_load_blkS rfl rfl (i := 8) rfl ag27 ti27 rfl) ?_; clear hf; intro a hf
                    refine sYg hf hs rfl rfl rfl (congrArg (fun b => some (Value.bool b)) hb544) rfl rfl rfl (Y_load_blkS rfl rfl (i := 2) rfl ag27 ti27 rfl) ?_; clear hf; intro a hf
                    obtain ⟨r545, hc546, hj543⟩ := bind_some hj543
                    refine sCallg hf rfl rfl rfl (congrArg (fun b => some (Value.bool b)) hb544) rfl rfl rfl rfl (cap := []) rfl rfl en14 (laws_eqSystem_ok F (GSystem.mk r431.1.A r431.1.B r431.1.C) A433 n434 c435 hn436 A438 n439 c440 hn441 A442 n443 c444 hn445 (GSystem.mk ms195 xs201 xs206) A196 n197 c198 hn199 A202 n203 c204 hn205 A207 n208 c209 hn210 _ _ hc546 (hs.rdM (i := 9) rfl) (hs.rd (i := 10) rfl) (hs.rd (i := 11) rfl) (hs.rdM (i := 3) rfl) (hs.rd (i := 4) rfl) (hs.rd (i := 5) rfl)) ?_; clear hf
                    rintro _ w ⟨rfl, hs1⟩ a hf
                    have hs : St [] W w [.blk b1 25 [.slice A_p0_1 p0.A.length c_p0_1, .slice A_p0_2 p0.B.length c_p0_2, .slice A_p0_3 p0.C.length c_p0_3], .blk b2 25 [.slice A_p1_1 p1.A.length c_p1_1, .slice A_p1_2 p1.B.length c_p1_2, .slice A_p1_3 p1.C.length c_p1_3], .blk b194 27 [.slice A196 n197 c198, .slice A202 n203 c204, .slice A207 n208 c209], .mat A196 n197 c198 23 2 vs200 ms195, .row A202 n203 c204 2 1 (ints xs201), .row A207 n208 c209 2 1 (ints xs206), .blk b414 27 [.slice A401 n402 c403, .slice A406 n407 c408, .slice A410 n411 c412], .blk b430 27 [.slice A417 n418 c419, .slice A422 n423 c424, .slice A426 n427 c428], .blk b446 27 [.slice A433 n434 c435, .slice A438 n439 c440, .slice A442 n443 c444], .mat A433 n434 c435 23 2 vs437 r431.1.A, .row A438 n439 c440 2 1 (ints r431.1.B), .row A442 n443 c444 2 1 (ints r431.1.C), .mat A476 n477 c478 23 2 vs480 r474.A, .row A481 n482 c483 2 1 (ints r474.B), .row A485 n486 c487 2 1 (ints r474.C), .mat A511 n512 c513 23 2 vs515 r509.A, .row A516 n517 c518 2 1 (ints r509.B), .row A520 n521 c522 2 1 (ints r509.C), .mat A401 n402 c403 23 2 vs405 r527.2.1, .row A406 n407 c408 2 1 (ints r527.2.2.1), .row A410 n411 c412 2 1 (ints r527.2.2.2), .mat A417 n418 c419 23 2 vs421 r532.2.1, .row A422 n423 c424 2 1 (ints r532.2.2.1), .row A426 n427 c428 2 1 (ints r532.2.2.2)] := hs.ext hs1.below
                    clear hs1
                    refine sYg hf hs rfl rfl rfl (congrArg (fun b => some (Value.bool b)) hb544) rfl rfl rfl (Y_not rfl rfl) ?_; clear hf; intro a hf
                    refine sY hf hs rfl rfl rfl (Y_pickF rfl (congrArg (fun b => some (Value.bool b)) hb544) rfl) ?_; clear hf; intro a hf
                    refine sY hf hs rfl rfl rfl (Y_move rfl rfl) ?_; clear hf; intro a hf
                    refine bsplit (!r545) (fun hb547 => ?_) (fun hb547 => ?_)
                    · have hj543 := bif_t hj543 hb547
                      refine sNo hf rfl rfl rfl (congrArg (fun b => some (Value.bool b)) hb547) rfl rfl rfl ?_; clear hf; intro a hf
                      refine sNo hf rfl rfl rfl (congrArg (fun b => some (Value.bool b)) hb547) rfl rfl rfl ?_; clear hf; intro a hf
                      refine sNo hf rfl rfl rfl (congrArg (fun b => some (Value.bool b)) hb547) rfl rfl rfl ?_; clear hf; intro a hf
                      refine sY hf hs rfl rfl rfl (Y_pickT rfl (congrArg (fun b => some (Value.bool b)) hb547) rfl) ?_; clear hf; intro a hf
                      refine wpO_nil ?_
                      refine wpL_nil (then_normal ?_)
                      exact ⟨true, Option.some.inj hj543, (FrD.pick (FrD.pick (FrD.pick (FrD.pick (FrD.pick (FrD.pick hf.none hf rfl) hf rfl) hf rfl) hf rfl) hf rfl) hf rfl), hs.sel [0, 1, 2, 3, 4, 5, 8, 9, 10, 11] (by decide)⟩
                    · have hj543 := bif_f hj543 hb547
                      refine sYg hf hs rfl rfl rfl (congrArg (fun b => some (Value.bool b)) hb547) rfl rfl rfl (Y_move rfl rfl) ?_; clear hf; intro a hf
                      refine sYg hf hs rfl rfl rfl (congrArg (fun b => some (Value.bool b)) hb547) rfl rfl rfl (Y_move rfl rfl) ?_; clear hf; intro a hf
                      refine sYg hf hs rfl rfl rfl (congrArg (fun b => some (Value.bool b)) hb547) rfl rfl rfl (Y_neq rfl rfl rfl) ?_; clear hf; intro a hf
                      refine sY hf hs rfl rfl rfl (Y_pickF rfl (congrArg (fun b => some (Value.bool b)) hb547) rfl) ?_; clear hf; intro a hf
                      refine wpO_nil ?_
                      refine wpL_nil (then_normal ?_)
                      exact ⟨(r431.2 != x211), Option.some.inj hj543, (FrD.pick (FrD.pick (FrD.pick (FrD.pick (FrD.pick (FrD.pick hf.none hf rfl) hf rfl) hf rfl) hf rfl) hf rfl) hf rfl), hs.sel [0, 1, 2, 3, 4, 5, 8, 9, 10, 11] (by decide)⟩
                · rintro a w ⟨b541, hr_, hf, hs⟩
                  subst hr_
                  try dsimp only at hm
                  refine wpL_cond hf rfl (fun hb548 => ?_) (fun hb548 => ?_)
                  · have hm := bif_t hm hb548
                    refine wpL_seq ?_
                    refine wpL_region ?_
                    refine sY hf hs rfl rfl rfl (Y_assign rfl rfl) ?_; clear hf; intro a hf
                    refine wpO_nil ?_
                    obtain rfl := Option.some.inj hm
                    refine wpL_ret (ret_tmp rfl hf rfl ?_)
                    exact ⟨_, rfl, rfl, hs.sel [] (by decide)⟩
                  · have hm := bif_f hm hb548
                    refine wpL_skip ?_
                    refine wpL_seq ?_
                    refine wpL_region ?_
                    refine sY hf hs rfl rfl rfl (Y_assign rfl rfl) ?_; clear hf; intro a hf
                    refine wpO_nil ?_
                    refine wpL_seq ?_
                    refine wpL_region ?_
                    refine sY hf hs rfl rfl rfl (Y_load_blkS rfl rfl (i := 6) rfl ag27 ti27 rfl) ?_; clear hf; intro a hf
                    refine sY hf hs rfl rfl rfl (Y_move rfl rfl) ?_; clear hf; intro a hf
                    obtain ⟨r549, hc550, hm⟩ := bind_some hm
                    refine sCall hf rfl rfl rfl rfl (cap := []) rfl rfl en15 (laws_markSystem_ok F (GSystem.mk r431.1.A r431.1.B r431.1.C) A433 n434 c435 hn436 vs437 A438 n439 c440 hn441 A442 n443 c444 hn445 1 _ _ hc550 (hs.sel [7, 8, 9] (by decide)).rebase) ?_; clear hf
                    rintro _ w ⟨rfl, hn551, hn552, hn553, hs1⟩ a hf
                    have hs : St [] W w [.blk b1 25 [.slice A_p0_1 p0.A.length c_p0_1, .slice A_p0_2 p0.B.length c_p0_2, .slice A_p0_3 p0.C.length c_p0_3], .blk b2 25 [.slice A_p1_1 p1.A.length c_p1_1, .slice A_p1_2 p1.B.length c_p1_2, .slice A_p1_3 p1.C.length c_p1_3], .blk b194 27 [.slice A196 n197 c198, .slice A202 n203 c204, .slice A207 n208 c209], .mat A196 n197 c198 23 2 vs200 ms195, .row A202 n203 c204 2 1 (ints xs201), .row A207 n208 c209 2 1 (ints xs206), .blk b446 27 [.slice A433 n434 c435, .slice A438 n439 c440, .slice A442 n443 c444], .mat A433 n434 c435 23 2 vs437 r549.2.1, .row A438 n439 c440 2 1 (ints r549.2.2.1), .row A442 n443 c444 2 1 (ints r549.2.2.2)] := St.mutTail (La := [.blk b1 25 [.slice A_p0_1 p0.A.length c_p0_1, .slice A_p0_2 p0.B.length c_p0_2, .slice A_p0_3 p0.C.length c_p0_3], .blk b2 25 [.slice A_p1_1 p1.A.length c_p1_1, .slice A_p1_2 p1.B.length c_p1_2, .slice A_p1_3 p1.C.length c_p1_3], .blk b194 27 [.slice A196 n197 c198, .slice A202 n203 c204, .slice A207 n208 c209], .mat A196 n197 c198 23 2 vs200 ms195, .row A202 n203 c204 2 1 (ints xs201), .row A207 n208 c209 2 1 (ints xs206), .blk b446 27 [.slice A433 n434 c435, .slice A438 n439 c440, .slice A442 n443 c444]]) (Lb := [.mat A433 n434 c435 23 2 vs437 r431.1.A, .row A438 n439 c440 2 1 (ints r431.1.B), .row A442 n443 c444 2 1 (ints r431.1.C)]) (hs.sel [0, 1, 2, 3, 4, 5, 6, 7, 8, 9] (by decide)) hs1
                    clear hs1
                    refine sY hf hs rfl rfl rfl (Y_assign rfl rfl) ?_; clear hf; intro a hf
                    refine wpO_nil ?_
                    refine wpL_seq ?_
                    refine wpL_region ?_
                    refine sY hf hs rfl rfl rfl (Y_assign rfl rfl) ?_; clear hf; intro a hf
                    refine wpO_nil ?_
                    refine wpL_seq ?_
                    refine wpL_region ?_
                    refine sY hf hs rfl rfl rfl (Y_load_blkS rfl rfl (i := 6) rfl ag27 ti27 rfl) ?_; clear hf; intro a hf
                    refine sY hf hs rfl rfl rfl (Y_move rfl rfl) ?_; clear hf; intro a hf
                    obtain ⟨r554, hc555, hm⟩ := bind_some hm
                    refine sCall hf rfl rfl rfl rfl (cap := []) rfl rfl en16 (laws_heldSystem_ok F (GSystem.mk r549.2.1 r549.2.2.1 r549.2.2.2) A433 n434 c435 hn551 A438 n439 c440 hn552 A442 n443 c444 hn553 1 _ _ hc555 (hs.rdM (i := 7) rfl) (hs.rd (i := 8) rfl) (hs.rd (i := 9) rfl)) ?_; clear hf
                    rintro _ w ⟨rfl, hs1⟩ a hf
                    have hs : St [] W w [.blk b1 25 [.slice A_p0_1 p0.A.length c_p0_1, .slice A_p0_2 p0.B.length c_p0_2, .slice A_p0_3 p0.C.length c_p0_3], .blk b2 25 [.slice A_p1_1 p1.A.length c_p1_1, .slice A_p1_2 p1.B.length c_p1_2, .slice A_p1_3 p1.C.length c_p1_3], .blk b194 27 [.slice A196 n197 c198, .slice A202 n203 c204, .slice A207 n208 c209], .mat A196 n197 c198 23 2 vs200 ms195, .row A202 n203 c204 2 1 (ints xs201), .row A207 n208 c209 2 1 (ints xs206), .blk b446 27 [.slice A433 n434 c435, .slice A438 n439 c440, .slice A442 n443 c444], .mat A433 n434 c435 23 2 vs437 r549.2.1, .row A438 n439 c440 2 1 (ints r549.2.2.1), .row A442 n443 c444 2 1 (ints r549.2.2.2)] := hs.ext hs1.below
                    clear hs1
                    refine sY hf hs rfl rfl rfl (Y_assign rfl rfl) ?_; clear hf; intro a hf
                    refine wpO_nil ?_
                    refine wpL_seq ?_
                    refine wpL_seq ?_
                    refine wpL_region ?_
                    refine sY hf hs rfl rfl rfl (Y_move rfl rfl) ?_; clear hf; intro a hf
                    refine sY hf hs rfl rfl rfl (Y_lss rfl rfl rfl) ?_; clear hf; intro a hf
                    refine wpO_nil ?_
                    refine wpL_cond hf rfl (fun hb556 => ?_) (fun hb556 => ?_)
                    · have hm := bif_t hm hb556
                      refine wpL_seq ?_
                      refine wpL_region ?_
                      refine sY hf hs rfl rfl rfl (Y_assign rfl rfl) ?_; clear hf; intro a hf
                      refine wpO_nil ?_
                      obtain rfl := Option.some.inj hm
                      refine wpL_ret (ret_tmp rfl hf rfl ?_)
                      exact ⟨_, rfl, rfl, hs.sel [] (by decide)⟩
                    · have hm := bif_f hm hb556
                      refine wpL_skip ?_
                      refine wpL_seq ?_
                      refine wpL_seq ?_
                      refine wpL_region ?_
                      refine sY hf hs rfl rfl rfl (Y_move rfl rfl) ?_; clear hf; intro a hf
                      refine sY hf hs rfl rfl rfl (Y_move rfl rfl) ?_; clear hf; intro a hf
                      refine sY hf hs rfl rfl rfl (Y_neq rfl rfl rfl) ?_; clear hf; intro a hf
                      refine wpO_nil ?_
                      refine wpL_cond hf rfl (fun hb557 => ?_) (fun hb557 => ?_)
                      · have hm := bif_t hm hb557
                        refine wpL_seq ?_
                        refine wpL_region ?_
                        refine sY hf hs rfl rfl rfl (Y_assign rfl rfl) ?_; clear hf; intro a hf
                        refine wpO_nil ?_
                        obtain rfl := Option.some.inj hm
                        refine wpL_ret (ret_tmp rfl hf rfl ?_)
                        exact ⟨_, rfl, rfl, hs.sel [] (by decide)⟩
                      · have hm := bif_f hm hb557
                        refine wpL_skip ?_
                        refine wpL_seq ?_
                        obtain ⟨r761, hj762, hm⟩ := bind_some hm
                        refine wpL_cut (fun a w => ∃ ms744 : List (List Int), ∃ xs750 : List Int, ∃ xs755 : List Int, ∃ x760 : Int, ∃ b743, ∃ A745, ∃ n746, ∃ c747, ∃ vs749, ∃ A751, ∃ n752, ∃ c753, ∃ A756, ∃ n757, ∃ c758, (ms744, xs750, xs755, x760) = r761 ∧ n746 = ms744.length ∧ n752 = xs750.length ∧ n757 = xs755.length ∧ Fr a 119 [(6, .pointer (some ⟨b194, 0, none⟩)), (7, .int .i64 x211), (10, .pointer (some ⟨b446, 0, none⟩)), (13, .int .i64 r549.1), (15, .pointer (some ⟨b743, 0, none⟩)), (16, .int .i64 x760)] ∧ St [] W w [.blk b194 27 [.slice A196 n197 c198, .slice A202 n203 c204, .slice A207 n208 c209], .mat A196 n197 c198 23 2 vs200 ms195, .row A202 n203 c204 2 1 (ints xs201), .row A207 n208 c209 2 1 (ints xs206), .blk b446 27 [.slice A433 n434 c435, .slice A438 n439 c440, .slice A442 n443 c444], .mat A433 n434 c435 23 2 vs437 r549.2.1, .row A438 n439 c440 2 1 (ints r549.2.2.1), .row A442 n443 c444 2 1 (ints r549.2.2.2), .blk b743 27 [.slice A745 n746 c747, .slice A751 n752 c753, .slice A756 n757 c758], .mat A745 n746 c747 23 2 vs749 ms744, .row A751 n752 c753 2 1 (ints xs750), .row A756 n757 c758 2 1 (ints xs755)]) ?_ ?_
                        · refine wpL_drawM [.blk b1 25 [.slice A_p0_1 p0.A.length c_p0_1, .slice A_p0_2 p0.B.length c_p0_2, .slice A_p0_3 p0.C.length c_p0_3], .blk b2 25 [.slice A_p1_1 p1.A.length c_p1_1, .slice A_p1_2 p1.B.length c_p1_2, .slice A_p1_3 p1.C.length c_p1_3], .blk b194 27 [.slice A196 n197 c198, .slice A202 n203 c204, .slice A207 n208 c209], .mat A196 n197 c198 23 2 vs200 ms195, .row A202 n203 c204 2 1 (ints xs201), .row A207 n208 c209 2 1 (ints xs206), .blk b446 27 [.slice A433 n434 c435, .slice A438 n439 c440, .slice A442 n443 c444], .mat A433 n434 c435 23 2 vs437 r549.2.1, .row A438 n439 c440 2 1 (ints r549.2.2.1), .row A442 n443 c444 2 1 (ints r549.2.2.2)] [3, 4, 9] (by kernel_rfl) hs ?_; clear hs; intro w hs
                          have hs0 : St [] W w [.blk b1 25 [.slice A_p0_1 p0.A.length c_p0_1, .slice A_p0_2 p0.B.length c_p0_2, .slice A_p0_3 p0.C.length c_p0_3], .blk b2 25 [.slice A_p1_1 p1.A.length c_p1_1, .slice A_p1_2 p1.B.length c_p1_2, .slice A_p1_3 p1.C.length c_p1_3], .blk b194 27 [.slice A196 n197 c198, .slice A202 n203 c204, .slice A207 n208 c209], .mat A196 n197 c198 23 2 vs200 ms195, .row A202 n203 c204 2 1 (ints xs201), .row A207 n208 c209 2 1 (ints xs206), .blk b446 27 [.slice A433 n434 c435, .slice A438 n439 c440, .slice A442 n443 c444], .mat A433 n434 c435 23 2 vs437 r549.2.1, .row A438 n439 c440 2 1 (ints r549.2.2.1), .row A442 n443 c444 2 1 (ints r549.2.2.2)] := hs
                          refine mY (i := 0) [[1], [1], []] rfl (by kernel_rfl) (by kernel_rfl) hf hs0 rfl rfl rfl (Y_load_blkS rfl rfl (i := 0) rfl ag25 ti25 rfl) ?_; clear hf; intro a hf
                          refine mY (i := 2) [[], [3], []] rfl (by kernel_rfl) (by kernel_rfl) hf hs0 rfl rfl rfl (Y_load_blkS rfl rfl (i := 1) rfl ag25 ti25 rfl) ?_; clear hf; intro a hf
                          refine mRun2 (i := 1) (j := 8) rfl rfl (by kernel_rfl) ?_ ?_
                          · obtain ⟨r809, hc810, hj762⟩ := bind_some hj762
                            refine sCall hf rfl rfl rfl rfl (cap := []) rfl rfl en12 (laws_toSystem_ok F p0 A_p0_1 p0.A.length c_p0_1 rfl A_p0_2 p0.B.length c_p0_2 rfl A_p0_3 p0.C.length c_p0_3 rfl _ _ hc810 (h_p0_1.at hs) (h_p0_2.at hs) (h_p0_3.at hs)) ?_; clear hf
                            rintro _ w ⟨A811, n812, c813, vs815, A816, n817, c818, A820, n821, c822, rfl, hn814, hn819, hn823, hs1⟩ a hf
                            have hs : St [] W w [.blk b1 25 [.slice A_p0_1 p0.A.length c_p0_1, .slice A_p0_2 p0.B.length c_p0_2, .slice A_p0_3 p0.C.length c_p0_3], .blk b2 25 [.slice A_p1_1 p1.A.length c_p1_1, .slice A_p1_2 p1.B.length c_p1_2, .slice A_p1_3 p1.C.length c_p1_3], .blk b194 27 [.slice A196 n197 c198, .slice A202 n203 c204, .slice A207 n208 c209], .mat A196 n197 c198 23 2 vs200 ms195, .row A202 n203 c204 2 1 (ints xs201), .row A207 n208 c209 2 1 (ints xs206), .blk b446 27 [.slice A433 n434 c435, .slice A438 n439 c440, .slice A442 n443 c444], .mat A433 n434 c435 23 2 vs437 r549.2.1, .row A438 n439 c440 2 1 (ints r549.2.2.1), .row A442 n443 c444 2 1 (ints r549.2.2.2), .mat A811 n812 c813 23 2 vs815 r809.A, .row A816 n817 c818 2 1 (ints r809.B), .row A820 n821 c822 2 1 (ints r809.C)] := hs.join hs1
                            clear hs1
                            have hs0 : St [] W w [.blk b1 25 [.slice A_p0_1 p0.A.length c_p0_1, .slice A_p0_2 p0.B.length c_p0_2, .slice A_p0_3 p0.C.length c_p0_3], .blk b2 25 [.slice A_p1_1 p1.A.length c_p1_1, .slice A_p1_2 p1.B.length c_p1_2, .slice A_p1_3 p1.C.length c_p1_3], .blk b194 27 [.slice A196 n197 c198, .slice A202 n203 c204, .slice A207 n208 c209], .mat A196 n197 c198 23 2 vs200 ms195, .row A202 n203 c204 2 1 (ints xs201), .row A207 n208 c209 2 1 (ints xs206), .blk b446 27 [.slice A433 n434 c435, .slice A438 n439 c440, .slice A442 n443 c444], .mat A433 n434 c435 23 2 vs437 r549.2.1, .row A438 n439 c440 2 1 (ints r549.2.2.1), .row A442 n443 c444 2 1 (ints r549.2.2.2)] := hs.sel [0, 1, 2, 3, 4, 5, 6, 7, 8, 9] (by decide)
                            refine wpO_nil ⟨Or.inr (fun _ => hs0), ?_⟩
                            refine mRun2 (i := 3) (j := 8) rfl rfl (by kernel_rfl) ?_ ?_
                            · obtain ⟨r824, hc825, hj762⟩ := bind_some hj762
                              refine sCall hf rfl rfl rfl rfl (cap := []) rfl rfl en12 (laws_toSystem_ok F p1 A_p1_1 p1.A.length c_p1_1 rfl A_p1_2 p1.B.length c_p1_2 rfl A_p1_3 p1.C.length c_p1_3 rfl _ _ hc825 (h_p1_1.at hs) (h_p1_2.at hs) (h_p1_3.at hs)) ?_; clear hf
                              rintro _ w ⟨A826, n827, c828, vs830, A831, n832, c833, A835, n836, c837, rfl, hn829, hn834, hn838, hs1⟩ a hf
                              have hs : St [] W w [.blk b1 25 [.slice A_p0_1 p0.A.length c_p0_1, .slice A_p0_2 p0.B.length c_p0_2, .slice A_p0_3 p0.C.length c_p0_3], .blk b2 25 [.slice A_p1_1 p1.A.length c_p1_1, .slice A_p1_2 p1.B.length c_p1_2, .slice A_p1_3 p1.C.length c_p1_3], .blk b194 27 [.slice A196 n197 c198, .slice A202 n203 c204, .slice A207 n208 c209], .mat A196 n197 c198 23 2 vs200 ms195, .row A202 n203 c204 2 1 (ints xs201), .row A207 n208 c209 2 1 (ints xs206), .blk b446 27 [.slice A433 n434 c435, .slice A438 n439 c440, .slice A442 n443 c444], .mat A433 n434 c435 23 2 vs437 r549.2.1, .row A438 n439 c440 2 1 (ints r549.2.2.1), .row A442 n443 c444 2 1 (ints r549.2.2.2), .mat A811 n812 c813 23 2 vs815 r809.A, .row A816 n817 c818 2 1 (ints r809.B), .row A820 n821 c822 2 1 (ints r809.C), .mat A826 n827 c828 23 2 vs830 r824.A, .row A831 n832 c833 2 1 (ints r824.B), .row A835 n836 c837 2 1 (ints r824.C)] := hs.join hs1
                              clear hs1
                              refine wpO_nil ⟨Or.inl (by decide), ?_⟩
                              refine mRun2 (i := 4) (j := 8) rfl rfl (by kernel_rfl) ?_ ?_
                              · obtain ⟨r839, hc840, hj762⟩ := bind_some hj762
                                refine sCall hf rfl rfl rfl rfl (cap := []) rfl rfl en13 (impl_SeriesSystem_ok F r809 A811 n812 c813 hn814 A816 n817 c818 hn819 A820 n821 c822 hn823 r824 A826 n827 c828 hn829 A831 n832 c833 hn834 A835 n836 c837 hn838 _ _ hc840 (hs.rdM (i := 10) rfl) (hs.rd (i := 11) rfl) (hs.rd (i := 12) rfl) (hs.rdM (i := 13) rfl) (hs.rd (i := 14) rfl) (hs.rd (i := 15) rfl)) ?_; clear hf
                                rintro _ w ⟨A841, n842, c843, vs845, A846, n847, c848, A850, n851, c852, rfl, hn844, hn849, hn853, hs1⟩ a hf
                                have hs : St [] W w [.blk b1 25 [.slice A_p0_1 p0.A.length c_p0_1, .slice A_p0_2 p0.B.length c_p0_2, .slice A_p0_3 p0.C.length c_p0_3], .blk b2 25 [.slice A_p1_1 p1.A.length c_p1_1, .slice A_p1_2 p1.B.length c_p1_2, .slice A_p1_3 p1.C.length c_p1_3], .blk b194 27 [.slice A196 n197 c198, .slice A202 n203 c204, .slice A207 n208 c209], .mat A196 n197 c198 23 2 vs200 ms195, .row A202 n203 c204 2 1 (ints xs201), .row A207 n208 c209 2 1 (ints xs206), .blk b446 27 [.slice A433 n434 c435, .slice A438 n439 c440, .slice A442 n443 c444], .mat A433 n434 c435 23 2 vs437 r549.2.1, .row A438 n439 c440 2 1 (ints r549.2.2.1), .row A442 n443 c444 2 1 (ints r549.2.2.2), .mat A811 n812 c813 23 2 vs815 r809.A, .row A816 n817 c818 2 1 (ints r809.B), .row A820 n821 c822 2 1 (ints r809.C), .mat A826 n827 c828 23 2 vs830 r824.A, .row A831 n832 c833 2 1 (ints r824.B), .row A835 n836 c837 2 1 (ints r824.C), .mat A841 n842 c843 23 2 vs845 r839.1.A, .row A846 n847 c848 2 1 (ints r839.1.B), .row A850 n851 c852 2 1 (ints r839.1.C)] := hs.join hs1
                                clear hs1
                                refine wpO_nil ⟨Or.inl (by decide), ?_⟩
                                refine mYp (i := 5) rfl (by kernel_rfl) (by kernel_rfl) hf rfl rfl rfl (fun _ => Y_move rfl rfl) ?_; clear hf; intro a hf
                                refine mYp (i := 6) rfl (by kernel_rfl) (by kernel_rfl) hf rfl rfl rfl (fun _ => Y_extract rfl rfl rfl) ?_; clear hf; intro a hf
                                refine mYp (i := 7) rfl (by kernel_rfl) (by kernel_rfl) hf rfl rfl rfl (fun _ => Y_extract rfl rfl rfl) ?_; clear hf; intro a hf
                                refine mRun (i := 8) rfl (by kernel_rfl) ?_
                                refine sAlloc hf hs rfl rfl rfl rfl ti27 ?_; clear hf hs; intro a w b854 hs hf
                                have hs : St [] W w [.blk b1 25 [.slice A_p0_1 p0.A.length c_p0_1, .slice A_p0_2 p0.B.length c_p0_2, .slice A_p0_3 p0.C.length c_p0_3], .blk b2 25 [.slice A_p1_1 p1.A.length c_p1_1, .slice A_p1_2 p1.B.length c_p1_2, .slice A_p1_3 p1.C.length c_p1_3], .blk b194 27 [.slice A196 n197 c198, .slice A202 n203 c204, .slice A207 n208 c209], .mat A196 n197 c198 23 2 vs200 ms195, .row A202 n203 c204 2 1 (ints xs201), .row A207 n208 c209 2 1 (ints xs206), .blk b446 27 [.slice A433 n434 c435, .slice A438 n439 c440, .slice A442 n443 c444], .mat A433 n434 c435 23 2 vs437 r549.2.1, .row A438 n439 c440 2 1 (ints r549.2.2.1), .row A442 n443 c444 2 1 (ints r549.2.2.2), .mat A811 n812 c813 23 2 vs815 r809.A, .row A816 n817 c818 2 1 (ints r809.B), .row A820 n821 c822 2 1 (ints r809.C), .mat A826 n827 c828 23 2 vs830 r824.A, .row A831 n832 c833 2 1 (ints r824.B), .row A835 n836 c837 2 1 (ints r824.C), .mat A841 n842 c843 23 2 vs845 r839.1.A, .row A846 n847 c848 2 1 (ints r839.1.B), .row A850 n851 c852 2 1 (ints r839.1.C), .blk b854 27 [.slice none 0 0, .slice none 0 0, .slice none 0 0]] := hs
                                have hs0 : St [] W w [.blk b1 25 [.slice A_p0_1 p0.A.length c_p0_1, .slice A_p0_2 p0.B.length c_p0_2, .slice A_p0_3 p0.C.length c_p0_3], .blk b2 25 [.slice A_p1_1 p1.A.length c_p1_1, .slice A_p1_2 p1.B.length c_p1_2, .slice A_p1_3 p1.C.length c_p1_3], .blk b194 27 [.slice A196 n197 c198, .slice A202 n203 c204, .slice A207 n208 c209], .mat A196 n197 c198 23 2 vs200 ms195, .row A202 n203 c204 2 1 (ints xs201), .row A207 n208 c209 2 1 (ints xs206), .blk b446 27 [.slice A433 n434 c435, .slice A438 n439 c440, .slice A442 n443 c444], .mat A433 n434 c435 23 2 vs437 r549.2.1, .row A438 n439 c440 2 1 (ints r549.2.2.1), .row A442 n443 c444 2 1 (ints r549.2.2.2)] := hs.sel [0, 1, 2, 3, 4, 5, 6, 7, 8, 9] (by decide)
                                refine wpO_nil ⟨Or.inr (fun _ => hs0), ?_⟩
                                refine mRun (i := 9) rfl (by kernel_rfl) ?_
                                refine sStore (i := 19) (us := [.slice A841 n842 c843, .slice A846 n847 c848, .slice A850 n851 c852]) hf hs rfl rfl rfl rfl rfl rfl ti27 rfl rfl rfl (Nat.le_of_ble_eq_true rfl) rfl ?_; clear hs; intro w hs
                                have hs : St [] W w [.blk b1 25 [.slice A_p0_1 p0.A.length c_p0_1, .slice A_p0_2 p0.B.length c_p0_2, .slice A_p0_3 p0.C.length c_p0_3], .blk b2 25 [.slice A_p1_1 p1.A.length c_p1_1, .slice A_p1_2 p1.B.length c_p1_2, .slice A_p1_3 p1.C.length c_p1_3], .blk b194 27 [.slice A196 n197 c198, .slice A202 n203 c204, .slice A207 n208 c209], .mat A196 n197 c198 23 2 vs200 ms195, .row A202 n203 c204 2 1 (ints xs201), .row A207 n208 c209 2 1 (ints xs206), .blk b446 27 [.slice A433 n434 c435, .slice A438 n439 c440, .slice A442 n443 c444], .mat A433 n434 c435 23 2 vs437 r549.2.1, .row A438 n439 c440 2 1 (ints r549.2.2.1), .row A442 n443 c444 2 1 (ints r549.2.2.2), .mat A811 n812 c813 23 2 vs815 r809.A, .row A816 n817 c818 2 1 (ints r809.B), .row A820 n821 c822 2 1 (ints r809.C), .mat A826 n827 c828 23 2 vs830 r824.A, .row A831 n832 c833 2 1 (ints r824.B), .row A835 n836 c837 2 1 (ints r824.C), .mat A841 n842 c843 23 2 vs845 r839.1.A, .row A846 n847 c848 2 1 (ints r839.1.B), .row A850 n851 c852 2 1 (ints r839.1.C), .blk b854 27 [.slice A841 n842 c843, .slice A846 n847 c848, .slice A850 n851 c852]] := hs
                                refine wpO_nil ⟨Or.inl (by decide), ?_⟩
                                refine mYp (i := 10) rfl (by kernel_rfl) (by kernel_rfl) hf rfl rfl rfl (fun _ => Y_assign rfl rfl) ?_; clear hf; intro a hf
                                refine mDone (by kernel_rfl) ?_
                                clear hs0
                                refine wpL_nil (then_normal ?_)
                                exact ⟨r839.1.A, r839.1.B, r839.1.C, r839.2, b854, A841, n842, c843, vs845, A846, n847, c848, A850, n851, c852, Option.some.inj hj762, hn844, hn849, hn853, (FrD.pick (FrD.pick (FrD.pick (FrD.pick (FrD.pick (FrD.pick hf.none hf rfl) hf rfl) hf rfl) hf rfl) hf rfl) hf rfl), hs.sel [2, 3, 4, 5, 6, 7, 8, 9, 19, 16, 17, 18] (by decide)⟩
                              · refine sAlloc hf hs rfl rfl rfl rfl ti27 ?_; clear hf hs; intro a w b855 hs hf
                                have hs : St [] W w [.blk b1 25 [.slice A_p0_1 p0.A.length c_p0_1, .slice A_p0_2 p0.B.length c_p0_2, .slice A_p0_3 p0.C.length c_p0_3], .blk b2 25 [.slice A_p1_1 p1.A.length c_p1_1, .slice A_p1_2 p1.B.length c_p1_2, .slice A_p1_3 p1.C.length c_p1_3], .blk b194 27 [.slice A196 n197 c198, .slice A202 n203 c204, .slice A207 n208 c209], .mat A196 n197 c198 23 2 vs200 ms195, .row A202 n203 c204 2 1 (ints xs201), .row A207 n208 c209 2 1 (ints xs206), .blk b446 27 [.slice A433 n434 c435, .slice A438 n439 c440, .slice A442 n443 c444], .mat A433 n434 c435 23 2 vs437 r549.2.1, .row A438 n439 c440 2 1 (ints r549.2.2.1), .row A442 n443 c444 2 1 (ints r549.2.2.2), .mat A811 n812 c813 23 2 vs815 r809.A, .row A816 n817 c818 2 1 (ints r809.B), .row A820 n821 c822 2 1 (ints r809.C), .mat A826 n827 c828 23 2 vs830 r824.A, .row A831 n832 c833 2 1 (ints r824.B), .row A835 n836 c837 2 1 (ints r824.C), .blk b855 27 [.slice none 0 0, .slice none 0 0, .slice none 0 0]] := hs
                                have hs0 : St [] W w [.blk b1 25 [.slice A_p0_1 p0.A.length c_p0_1, .slice A_p0_2 p0.B.length c_p0_2, .slice A_p0_3 p0.C.length c_p0_3], .blk b2 25 [.slice A_p1_1 p1.A.length c_p1_1, .slice A_p1_2 p1.B.length c_p1_2, .slice A_p1_3 p1.C.length c_p1_3], .blk b194 27 [.slice A196 n197 c198, .slice A202 n203 c204, .slice A207 n208 c209], .mat A196 n197 c198 23 2 vs200 ms195, .row A202 n203 c204 2 1 (ints xs201), .row A207 n208 c209 2 1 (ints xs206), .blk b446 27 [.slice A433 n434 c435, .slice A438 n439 c440, .slice A442 n443 c444], .mat A433 n434 c435 23 2 vs437 r549.2.1, .row A438 n439 c440 2 1 (ints r549.2.2.1), .row A442 n443 c444 2 1 (ints r549.2.2.2)] := hs.sel [0, 1, 2, 3, 4, 5, 6, 7, 8, 9] (by decide)
                                refine wpO_nil ⟨Or.inr (fun _ => hs0), ?_⟩
                                refine mRun (i := 4) rfl (by kernel_rfl) ?_
                                obtain ⟨r856, hc857, hj762⟩ := bind_some hj762
                                refine sCall hf rfl rfl rfl rfl (cap := []) rfl rfl en13 (impl_SeriesSystem_ok F r809 A811 n812 c813 hn814 A816 n817 c818 hn819 A820 n821 c822 hn823 r824 A826 n827 c828 hn829 A831 n832 c833 hn834 A835 n836 c837 hn838 _ _ hc857 (hs.rdM (i := 10) rfl) (hs.rd (i := 11) rfl) (hs.rd (i := 12) rfl) (hs.rdM (i := 13) rfl) (hs.rd (i := 14) rfl) (hs.rd (i := 15) rfl)) ?_; clear hf
                                rintro _ w ⟨A858, n859, c860, vs862, A863, n864, c865, A867, n868, c869, rfl, hn861, hn866, hn870, hs1⟩ a hf
                                have hs : St [] W w [.blk b1 25 [.slice A_p0_1 p0.A.length c_p0_1, .slice A_p0_2 p0.B.length c_p0_2, .slice A_p0_3 p0.C.length c_p0_3], .blk b2 25 [.slice A_p1_1 p1.A.length c_p1_1, .slice A_p1_2 p1.B.length c_p1_2, .slice A_p1_3 p1.C.length c_p1_3], .blk b194 27 [.slice A196 n197 c198, .slice A202 n203 c204, .slice A207 n208 c209], .mat A196 n197 c198 23 2 vs200 ms195, .row A202 n203 c204 2 1 (ints xs201), .row A207 n208 c209 2 1 (ints xs206), .blk b446 27 [.slice A433 n434 c435, .slice A438 n439 c440, .slice A442 n443 c444], .mat A433 n434 c435 23 2 vs437 r549.2.1, .row A438 n439 c440 2 1 (ints r549.2.2.1), .row A442 n443 c444 2 1 (ints r549.2.2.2), .mat A811 n812 c813 23 2 vs815 r809.A, .row A816 n817 c818 2 1 (ints r809.B), .row A820 n821 c822 2 1 (ints r809.C), .mat A826 n827 c828 23 2 vs830 r824.A, .row A831 n832 c833 2 1 (ints r824.B), .row A835 n836 c837 2 1 (ints r824.C), .blk b855 27 [.slice none 0 0, .slice none 0 0, .slice none 0 0], .mat A858 n859 c860 23 2 vs862 r856.1.A, .row A863 n864 c865 2 1 (ints r856.1.B), .row A867 n868 c869 2 1 (ints r856.1.C)] := hs.join hs1
                                clear hs1
                                refine wpO_nil ⟨Or.inl (by decide), ?_⟩
                                refine mYp (i := 5) rfl (by kernel_rfl) (by kernel_rfl) hf rfl rfl rfl (fun _ => Y_move rfl rfl) ?_; clear hf; intro a hf
                                refine mYp (i := 6) rfl (by kernel_rfl) (by kernel_rfl) hf rfl rfl rfl (fun _ => Y_extract rfl rfl rfl) ?_; clear hf; intro a hf
                                refine mYp (i := 7) rfl (by kernel_rfl) (by kernel_rfl) hf rfl rfl rfl (fun _ => Y_extract rfl rfl rfl) ?_; clear hf; intro a hf
                                refine mRun (i := 9) rfl (by kernel_rfl) ?_
                                refine sStore (i := 16) (us := [.slice A858 n859 c860, .slice A863 n864 c865, .slice A867 n868 c869]) hf hs rfl rfl rfl rfl rfl rfl ti27 rfl rfl rfl (Nat.le_of_ble_eq_true rfl) rfl ?_; clear hs; intro w hs
                                have hs : St [] W w [.blk b1 25 [.slice A_p0_1 p0.A.length c_p0_1, .slice A_p0_2 p0.B.length c_p0_2, .slice A_p0_3 p0.C.length c_p0_3], .blk b2 25 [.slice A_p1_1 p1.A.length c_p1_1, .slice A_p1_2 p1.B.length c_p1_2, .slice A_p1_3 p1.C.length c_p1_3], .blk b194 27 [.slice A196 n197 c198, .slice A202 n203 c204, .slice A207 n208 c209], .mat A196 n197 c198 23 2 vs200 ms195, .row A202 n203 c204 2 1 (ints xs201), .row A207 n208 c209 2 1 (ints xs206), .blk b446 27 [.slice A433 n434 c435, .slice A438 n439 c440, .slice A442 n443 c444], .mat A433 n434 c435 23 2 vs437 r549.2.1, .row A438 n439 c440 2 1 (ints r549.2.2.1), .row A442 n443 c444 2 1 (ints r549.2.2.2), .mat A811 n812 c813 23 2 vs815 r809.A, .row A816 n817 c818 2 1 (ints r809.B), .row A820 n821 c822 2 1 (ints r809.C), .mat A826 n827 c828 23 2 vs830 r824.A, .row A831 n832 c833 2 1 (ints r824.B), .row A835 n836 c837 2 1 (ints r824.C), .blk b855 27 [.slice A858 n859 c860, .slice A863 n864 c865, .slice A867 n868 c869], .mat A858 n859 c860 23 2 vs862 r856.1.A, .row A863 n864 c865 2 1 (ints r856.1.B), .row A867 n868 c869 2 1 (ints r856.1.C)] := hs
                                refine wpO_nil ⟨Or.inl (by decide), ?_⟩
                                refine mYp (i := 10) rfl (by kernel_rfl) (by kernel_rfl) hf rfl rfl rfl (fun _ => Y_assign rfl rfl) ?_; clear hf; intro a hf
                                refine mDone (by kernel_rfl) ?_
                                clear hs0
                                refine wpL_nil (then_normal ?_)
                                exact ⟨r856.1.A, r856.1.B, r856.1.C, r856.2, b855, A858, n859, c860, vs862, A863, n864, c865, A867, n868, c869, Option.some.inj hj762, hn861, hn866, hn870, (FrD.pick (FrD.pick (FrD.pick (FrD.pick (FrD.pick (FrD.pick hf.none hf rfl) hf rfl) hf rfl) hf rfl) hf rfl) hf rfl), hs.sel [2, 3, 4, 5, 6, 7, 8, 9, 16, 17, 18, 19] (by decide)⟩
                            · refine sAlloc hf hs rfl rfl rfl rfl ti27 ?_; clear hf hs; intro a w b871 hs hf
                              have hs : St [] W w [.blk b1 25 [.slice A_p0_1 p0.A.length c_p0_1, .slice A_p0_2 p0.B.length c_p0_2, .slice A_p0_3 p0.C.length c_p0_3], .blk b2 25 [.slice A_p1_1 p1.A.length c_p1_1, .slice A_p1_2 p1.B.length c_p1_2, .slice A_p1_3 p1.C.length c_p1_3], .blk b194 27 [.slice A196 n197 c198, .slice A202 n203 c204, .slice A207 n208 c209], .mat A196 n197 c198 23 2 vs200 ms195, .row A202 n203 c204 2 1 (ints xs201), .row A207 n208 c209 2 1 (ints xs206), .blk b446 27 [.slice A433 n434 c435, .slice A438 n439 c440, .slice A442 n443 c444], .mat A433 n434 c435 23 2 vs437 r549.2.1, .row A438 n439 c440 2 1 (ints r549.2.2.1), .row A442 n443 c444 2 1 (ints r549.2.2.2), .mat A811 n812 c813 23 2 vs815 r809.A, .row A816 n817 c818 2 1 (ints r809.B), .row A820 n821 c822 2 1 (ints r809.C), .blk b871 27 [.slice none 0 0, .slice none 0 0, .slice none 0 0]] := hs
                              have hs0 : St [] W w [.blk b1 25 [.slice A_p0_1 p0.A.length c_p0_1, .slice A_p0_2 p0.B.length c_p0_2, .slice A_p0_3 p0.C.length c_p0_3], .blk b2 25 [.slice A_p1_1 p1.A.length c_p1_1, .slice A_p1_2 p1.B.length c_p1_2, .slice A_p1_3 p1.C.length c_p1_3], .blk b194 27 [.slice A196 n197 c198, .slice A202 n203 c204, .slice A207 n208 c209], .mat A196 n197 c198 23 2 vs200 ms195, .row A202 n203 c204 2 1 (ints xs201), .row A207 n208 c209 2 1 (ints xs206), .blk b446 27 [.slice A433 n434 c435, .slice A438 n439 c440, .slice A442 n443 c444], .mat A433 n434 c435 23 2 vs437 r549.2.1, .row A438 n439 c440 2 1 (ints r549.2.2.1), .row A442 n443 c444 2 1 (ints r549.2.2.2)] := hs.sel [0, 1, 2, 3, 4, 5, 6, 7, 8, 9] (by decide)
                              refine wpO_nil ⟨Or.inr (fun _ => hs0), ?_⟩
                              refine mRun (i := 3) rfl (by kernel_rfl) ?_
                              obtain ⟨r872, hc873, hj762⟩ := bind_some hj762
                              refine sCall hf rfl rfl rfl rfl (cap := []) rfl rfl en12 (laws_toSystem_ok F p1 A_p1_1 p1.A.length c_p1_1 rfl A_p1_2 p1.B.length c_p1_2 rfl A_p1_3 p1.C.length c_p1_3 rfl _ _ hc873 (h_p1_1.at hs) (h_p1_2.at hs) (h_p1_3.at hs)) ?_; clear hf
                              rintro _ w ⟨A874, n875, c876, vs878, A879, n880, c881, A883, n884, c885, rfl, hn877, hn882, hn886, hs1⟩ a hf
                              have hs : St [] W w [.blk b1 25 [.slice A_p0_1 p0.A.length c_p0_1, .slice A_p0_2 p0.B.length c_p0_2, .slice A_p0_3 p0.C.length c_p0_3], .blk b2 25 [.slice A_p1_1 p1.A.length c_p1_1, .slice A_p1_2 p1.B.length c_p1_2, .slice A_p1_3 p1.C.length c_p1_3], .blk b194 27 [.slice A196 n197 c198, .slice A202 n203 c204, .slice A207 n208 c209], .mat A196 n197 c198 23 2 vs200 ms195, .row A202 n203 c204 2 1 (ints xs201), .row A207 n208 c209 2 1 (ints xs206), .blk b446 27 [.slice A433 n434 c435, .slice A438 n439 c440, .slice A442 n443 c444], .mat A433 n434 c435 23 2 vs437 r549.2.1, .row A438 n439 c440 2 1 (ints r549.2.2.1), .row A442 n443 c444 2 1 (ints r549.2.2.2), .mat A811 n812 c813 23 2 vs815 r809.A, .row A816 n817 c818 2 1 (ints r809.B), .row A820 n821 c822 2 1 (ints r809.C), .blk b871 27 [.slice none 0 0, .slice none 0 0, .slice none 0 0], .mat A874 n875 c876 23 2 vs878 r872.A, .row A879 n880 c881 2 1 (ints r872.B), .row A883 n884 c885 2 1 (ints r872.C)] := hs.join hs1
                              clear hs1
                              refine wpO_nil ⟨Or.inl (by decide), ?_⟩
                              refine mRun (i := 4) rfl (by kernel_rfl) ?_
                              obtain ⟨r887, hc888, hj762⟩ := bind_some hj762
                              refine sCall hf rfl rfl rfl rfl (cap := []) rfl rfl en13 (impl_SeriesSystem_ok F r809 A811 n812 c813 hn814 A816 n817 c818 hn819 A820 n821 c822 hn823 r872 A874 n875 c876 hn877 A879 n880 c881 hn882 A883 n884 c885 hn886 _ _ hc888 (hs.rdM (i := 10) rfl) (hs.rd (i := 11) rfl) (hs.rd (i := 12) rfl) (hs.rdM (i := 14) rfl) (hs.rd (i := 15) rfl) (hs.rd (i := 16) rfl)) ?_; clear hf
                              rintro _ w ⟨A889, n890, c891, vs893, A894, n895, c896, A898, n899, c900, rfl, hn892, hn897, hn901, hs1⟩ a hf
                              have hs : St [] W w [.blk b1 25 [.slice A_p0_1 p0.A.length c_p0_1, .slice A_p0_2 p0.B.length c_p0_2, .slice A_p0_3 p0.C.length c_p0_3], .blk b2 25 [.slice A_p1_1 p1.A.length c_p1_1, .slice A_p1_2 p1.B.length c_p1_2, .slice A_p1_3 p1.C.length c_p1_3], .blk b194 27 [.slice A196 n197 c198, .slice A202 n203 c204, .slice A207 n208 c209], .mat A196 n197 c198 23 2 vs200 ms195, .row A202 n203 c204 2 1 (ints xs201), .row A207 n208 c209 2 1 (ints xs206), .blk b446 27 [.slice A433 n434 c435, .slice A438 n439 c440, .slice A442 n443 c444], .mat A433 n434 c435 23 2 vs437 r549.2.1, .row A438 n439 c440 2 1 (ints r549.2.2.1), .row A442 n443 c444 2 1 (ints r549.2.2.2), .mat A811 n812 c813 23 2 vs815 r809.A, .row A816 n817 c818 2 1 (ints r809.B), .row A820 n821 c822 2 1 (ints r809.C), .blk b871 27 [.slice none 0 0, .slice none 0 0, .slice none 0 0], .mat A874 n875 c876 23 2 vs878 r872.A, .row A879 n880 c881 2 1 (ints r872.B), .row A883 n884 c885 2 1 (ints r872.C), .mat A889 n890 c891 23 2 vs893 r887.1.A, .row A894 n895 c896 2 1 (ints r887.1.B), .row A898 n899 c900 2 1 (ints r887.1.C)] := hs.join hs1
                              clear hs1
                              refine wpO_nil ⟨Or.inl (by decide), ?_⟩
                              refine mYp (i := 5) rfl (by kernel_rfl) (by kernel_rfl) hf rfl rfl rfl (fun _ => Y_move rfl rfl) ?_; clear hf; intro a hf
                              refine mYp (i := 6) rfl (by kernel_rfl) (by kernel_rfl) hf rfl rfl rfl (fun _ => Y_extract rfl rfl rfl) ?_; clear hf; intro a hf
                              refine mYp (i := 7) rfl (by kernel_rfl) (by kernel_rfl) hf rfl rfl rfl (fun _ => Y_extract rfl rfl rfl) ?_; clear hf; intro a hf
                              refine mRun (i := 9) rfl (by kernel_rfl) ?_
                              refine sStore (i := 13) (us := [.slice A889 n890 c891, .slice A894 n895 c896, .slice A898 n899 c900]) hf hs rfl rfl rfl rfl rfl rfl ti27 rfl rfl rfl (Nat.le_of_ble_eq_true rfl) rfl ?_; clear hs; intro w hs
                              have hs : St [] W w [.blk b1 25 [.slice A_p0_1 p0.A.length c_p0_1, .slice A_p0_2 p0.B.length c_p0_2, .slice A_p0_3 p0.C.length c_p0_3], .blk b2 25 [.slice A_p1_1 p1.A.length c_p1_1, .slice A_p1_2 p1.B.length c_p1_2, .slice A_p1_3 p1.C.length c_p1_3], .blk b194 27 [.slice A196 n197 c198, .slice A202 n203 c204, .slice A207 n208 c209], .mat A196 n197 c198 23 2 vs200 ms195, .row A202 n203 c204 2 1 (ints xs201), .row A207 n208 c209 2 1 (ints xs206), .blk b446 27 [.slice A433 n434 c435, .slice A438 n439 c440, .slice A442 n443 c444], .mat A433 n434 c435 23 2 vs437 r549.2.1, .row A438 n439 c440 2 1 (ints r549.2.2.1), .row A442 n443 c444 2 1 (ints r549.2.2.2), .mat A811 n812 c813 23 2 vs815 r809.A, .row A816 n817 c818 2 1 (ints r809.B), .row A820 n821 c822 2 1 (ints r809.C), .blk b871 27 [.slice A889 n890 c891, .slice A894 n895 c896, .slice A898 n899 c900], .mat A874 n875 c876 23 2 vs878 r872.A, .row A879 n880 c881 2 1 (ints r872.B), .row A883 n884 c885 2 1 (ints r872.C), .mat A889 n890 c891 23 2 vs893 r887.1.A, .row A894 n895 c896 2 1 (ints r887.1.B), .row A898 n899 c900 2 1 (ints r887.1.C)] := hs
                              refine wpO_nil ⟨Or.inl (by decide), ?_⟩
                              refine mYp (i := 10) rfl (by kernel_rfl) (by kernel_rfl) hf rfl rfl rfl (fun _ => Y_assign rfl rfl) ?_; clear hf; intro a hf
                              refine mDone (by kernel_rfl) ?_
                              clear hs0
                              refine wpL_nil (then_normal ?_)
                              exact ⟨r887.1.A, r887.1.B, r887.1.C, r887.2, b871, A889, n890, c891, vs893, A894, n895, c896, A898, n899, c900, Option.some.inj hj762, hn892, hn897, hn901, (FrD.pick (FrD.pick (FrD.pick (FrD.pick (FrD.pick (FrD.pick hf.none hf rfl) hf rfl) hf rfl) hf rfl) hf rfl) hf rfl), hs.sel [2, 3, 4, 5, 6, 7, 8, 9, 13, 17, 18, 19] (by decide)⟩
                          · refine sAlloc hf hs rfl rfl rfl rfl ti27 ?_; clear hf hs; intro a w b902 hs hf
                            have hs : St [] W w [.blk b1 25 [.slice A_p0_1 p0.A.length c_p0_1, .slice A_p0_2 p0.B.length c_p0_2, .slice A_p0_3 p0.C.length c_p0_3], .blk b2 25 [.slice A_p1_1 p1.A.length c_p1_1, .slice A_p1_2 p1.B.length c_p1_2, .slice A_p1_3 p1.C.length c_p1_3], .blk b194 27 [.slice A196 n197 c198, .slice A202 n203 c204, .slice A207 n208 c209], .mat A196 n197 c198 23 2 vs200 ms195, .row A202 n203 c204 2 1 (ints xs201), .row A207 n208 c209 2 1 (ints xs206), .blk b446 27 [.slice A433 n434 c435, .slice A438 n439 c440, .slice A442 n443 c444], .mat A433 n434 c435 23 2 vs437 r549.2.1, .row A438 n439 c440 2 1 (ints r549.2.2.1), .row A442 n443 c444 2 1 (ints r549.2.2.2), .blk b902 27 [.slice none 0 0, .slice none 0 0, .slice none 0 0]] := hs
                            have hs0 : St [] W w [.blk b1 25 [.slice A_p0_1 p0.A.length c_p0_1, .slice A_p0_2 p0.B.length c_p0_2, .slice A_p0_3 p0.C.length c_p0_3], .blk b2 25 [.slice A_p1_1 p1.A.length c_p1_1, .slice A_p1_2 p1.B.length c_p1_2, .slice A_p1_3 p1.C.length c_p1_3], .blk b194 27 [.slice A196 n197 c198, .slice A202 n203 c204, .slice A207 n208 c209], .mat A196 n197 c198 23 2 vs200 ms195, .row A202 n203 c204 2 1 (ints xs201), .row A207 n208 c209 2 1 (ints xs206), .blk b446 27 [.slice A433 n434 c435, .slice A438 n439 c440, .slice A442 n443 c444], .mat A433 n434 c435 23 2 vs437 r549.2.1, .row A438 n439 c440 2 1 (ints r549.2.2.1), .row A442 n443 c444 2 1 (ints r549.2.2.2)] := hs.sel [0, 1, 2, 3, 4, 5, 6, 7, 8, 9] (by decide)
                            refine wpO_nil ⟨Or.inr (fun _ => hs0), ?_⟩
                            refine mRun (i := 1) rfl (by kernel_rfl) ?_
                            obtain ⟨r903, hc904, hj762⟩ := bind_some hj762
                            refine sCall hf rfl rfl rfl rfl (cap := []) rfl rfl en12 (laws_toSystem_ok F p0 A_p0_1 p0.A.length c_p0_1 rfl A_p0_2 p0.B.length c_p0_2 rfl A_p0_3 p0.C.length c_p0_3 rfl _ _ hc904 (h_p0_1.at hs) (h_p0_2.at hs) (h_p0_3.at hs)) ?_; clear hf
                            rintro _ w ⟨A905, n906, c907, vs909, A910, n911, c912, A914, n915, c916, rfl, hn908, hn913, hn917, hs1⟩ a hf
                            have hs : St [] W w [.blk b1 25 [.slice A_p0_1 p0.A.length c_p0_1, .slice A_p0_2 p0.B.length c_p0_2, .slice A_p0_3 p0.C.length c_p0_3], .blk b2 25 [.slice A_p1_1 p1.A.length c_p1_1, .slice A_p1_2 p1.B.length c_p1_2, .slice A_p1_3 p1.C.length c_p1_3], .blk b194 27 [.slice A196 n197 c198, .slice A202 n203 c204, .slice A207 n208 c209], .mat A196 n197 c198 23 2 vs200 ms195, .row A202 n203 c204 2 1 (ints xs201), .row A207 n208 c209 2 1 (ints xs206), .blk b446 27 [.slice A433 n434 c435, .slice A438 n439 c440, .slice A442 n443 c444], .mat A433 n434 c435 23 2 vs437 r549.2.1, .row A438 n439 c440 2 1 (ints r549.2.2.1), .row A442 n443 c444 2 1 (ints r549.2.2.2), .blk b902 27 [.slice none 0 0, .slice none 0 0, .slice none 0 0], .mat A905 n906 c907 23 2 vs909 r903.A, .row A910 n911 c912 2 1 (ints r903.B), .row A914 n915 c916 2 1 (ints r903.C)] := hs.join hs1
                            clear hs1
                            have hs0 : St [] W w [.blk b1 25 [.slice A_p0_1 p0.A.length c_p0_1, .slice A_p0_2 p0.B.length c_p0_2, .slice A_p0_3 p0.C.length c_p0_3], .blk b2 25 [.slice A_p1_1 p1.A.length c_p1_1, .slice A_p1_2 p1.B.length c_p1_2, .slice A_p1_3 p1.C.length c_p1_3], .blk b194 27 [.slice A196 n197 c198, .slice A202 n203 c204, .slice A207 n208 c209], .mat A196 n197 c198 23 2 vs200 ms195, .row A202 n203 c204 2 1 (ints xs201), .row A207 n208 c209 2 1 (ints xs206), .blk b446 27 [.slice A433 n434 c435, .slice A438 n439 c440, .slice A442 n443 c444], .mat A433 n434 c435 23 2 vs437 r549.2.1, .row A438 n439 c440 2 1 (ints r549.2.2.1), .row A442 n443 c444 2 1 (ints r549.2.2.2)] := hs.sel [0, 1, 2, 3, 4, 5, 6, 7, 8, 9] (by decide)
                            refine wpO_nil ⟨Or.inr (fun _ => hs0), ?_⟩
                            refine mRun (i := 3) rfl (by kernel_rfl) ?_
                            obtain ⟨r918, hc919, hj762⟩ := bind_some hj762
                            refine sCall hf rfl rfl rfl rfl (cap := []) rfl rfl en12 (laws_toSystem_ok F p1 A_p1_1 p1.A.length c_p1_1 rfl A_p1_2 p1.B.length c_p1_2 rfl A_p1_3 p1.C.length c_p1_3 rfl _ _ hc919 (h_p1_1.at hs) (h_p1_2.at hs) (h_p1_3.at hs)) ?_; clear hf
                            rintro _ w ⟨A920, n921, c922, vs924, A925, n926, c927, A929, n930, c931, rfl, hn923, hn928, hn932, hs1⟩ a hf
                            have hs : St [] W w [.blk b1 25 [.slice A_p0_1 p0.A.length c_p0_1, .slice A_p0_2 p0.B.length c_p0_2, .slice A_p0_3 p0.C.length c_p0_3], .blk b2 25 [.slice A_p1_1 p1.A.length c_p1_1, .slice A_p1_2 p1.B.length c_p1_2, .slice A_p1_3 p1.C.length c_p1_3], .blk b194 27 [.slice A196 n197 c198, .slice A202 n203 c204, .slice A207 n208 c209], .mat A196 n197 c198 23 2 vs200 ms195, .row A202 n203 c204 2 1 (ints xs201), .row A207 n208 c209 2 1 (ints xs206), .blk b446 27 [.slice A433 n434 c435, .slice A438 n439 c440, .slice A442 n443 c444], .mat A433 n434 c435 23 2 vs437 r549.2.1, .row A438 n439 c440 2 1 (ints r549.2.2.1), .row A442 n443 c444 2 1 (ints r549.2.2.2), .blk b902 27 [.slice none 0 0, .slice none 0 0, .slice none 0 0], .mat A905 n906 c907 23 2 vs909 r903.A, .row A910 n911 c912 2 1 (ints r903.B), .row A914 n915 c916 2 1 (ints r903.C), .mat A920 n921 c922 23 2 vs924 r918.A, .row A925 n926 c927 2 1 (ints r918.B), .row A929 n930 c931 2 1 (ints r918.C)] := hs.join hs1
                            clear hs1
                            refine wpO_nil ⟨Or.inl (by decide), ?_⟩
                            refine mRun (i := 4) rfl (by kernel_rfl) ?_
                            obtain ⟨r933, hc934, hj762⟩ := bind_some hj762
                            refine sCall hf rfl rfl rfl rfl (cap := []) rfl rfl en13 (impl_SeriesSystem_ok F r903 A905 n906 c907 hn908 A910 n911 c912 hn913 A914 n915 c916 hn917 r918 A920 n921 c922 hn923 A925 n926 c927 hn928 A929 n930 c931 hn932 _ _ hc934 (hs.rdM (i := 11) rfl) (hs.rd (i := 12) rfl) (hs.rd (i := 13) rfl) (hs.rdM (i := 14) rfl) (hs.rd (i := 15) rfl) (hs.rd (i := 16) rfl)) ?_; clear hf
                            rintro _ w ⟨A935, n936, c937, vs939, A940, n941, c942, A944, n945, c946, rfl, hn938, hn943, hn947, hs1⟩ a hf
                            have hs : St [] W w [.blk b1 25 [.slice A_p0_1 p0.A.length c_p0_1, .slice A_p0_2 p0.B.length c_p0_2, .slice A_p0_3 p0.C.length c_p0_3], .blk b2 25 [.slice A_p1_1 p1.A.length c_p1_1, .slice A_p1_2 p1.B.length c_p1_2, .slice A_p1_3 p1.C.length c_p1_3], .blk b194 27 [.slice A196 n197 c198, .slice A202 n203 c204, .slice A207 n208 c209], .mat A196 n197 c198 23 2 vs200 ms195, .row A202 n203 c204 2 1 (ints xs201), .row A207 n208 c209 2 1 (ints xs206), .blk b446 27 [.slice A433 n434 c435, .slice A438 n439 c440, .slice A442 n443 c444], .mat A433 n434 c435 23 2 vs437 r549.2.1, .row A438 n439 c440 2 1 (ints r549.2.2.1), .row A442 n443 c444 2 1 (ints r549.2.2.2), .blk b902 27 [.slice none 0 0, .slice none 0 0, .slice none 0 0], .mat A905 n906 c907 23 2 vs909 r903.A, .row A910 n911 c912 2 1 (ints r903.B), .row A914 n915 c916 2 1 (ints r903.C), .mat A920 n921 c922 23 2 vs924 r918.A, .row A925 n926 c927 2 1 (ints r918.B), .row A929 n930 c931 2 1 (ints r918.C), .mat A935 n936 c937 23 2 vs939 r933.1.A, .row A940 n941 c942 2 1 (ints r933.1.B), .row A944 n945 c946 2 1 (ints r933.1.C)] := hs.join hs1
                            clear hs1
                            refine wpO_nil ⟨Or.inl (by decide), ?_⟩
                            refine mYp (i := 5) rfl (by kernel_rfl) (by kernel_rfl) hf rfl rfl rfl (fun _ => Y_move rfl rfl) ?_; clear hf; intro a hf
                            refine mYp (i := 6) rfl (by kernel_rfl) (by kernel_rfl) hf rfl rfl rfl (fun _ => Y_extract rfl rfl rfl) ?_; clear hf; intro a hf
                            refine mYp (i := 7) rfl (by kernel_rfl) (by kernel_rfl) hf rfl rfl rfl (fun _ => Y_extract rfl rfl rfl) ?_; clear hf; intro a hf
                            refine mRun (i := 9) rfl (by kernel_rfl) ?_
                            refine sStore (i := 10) (us := [.slice A935 n936 c937, .slice A940 n941 c942, .slice A944 n945 c946]) hf hs rfl rfl rfl rfl rfl rfl ti27 rfl rfl rfl (Nat.le_of_ble_eq_true rfl) rfl ?_; clear hs; intro w hs
                            have hs : St [] W w [.blk b1 25 [.slice A_p0_1 p0.A.length c_p0_1, .slice A_p0_2 p0.B.length c_p0_2, .slice A_p0_3 p0.C.length c_p0_3], .blk b2 25 [.slice A_p1_1 p1.A.length c_p1_1, .slice A_p1_2 p1.B.length c_p1_2, .slice A_p1_3 p1.C.length c_p1_3], .blk b194 27 [.slice A196 n197 c198, .slice A202 n203 c204, .slice A207 n208 c209], .mat A196 n197 c198 23 2 vs200 ms195, .row A202 n203 c204 2 1 (ints xs201), .row A207 n208 c209 2 1 (ints xs206), .blk b446 27 [.slice A433 n434 c435, .slice A438 n439 c440, .slice A442 n443 c444], .mat A433 n434 c435 23 2 vs437 r549.2.1, .row A438 n439 c440 2 1 (ints r549.2.2.1), .row A442 n443 c444 2 1 (ints r549.2.2.2), .blk b902 27 [.slice A935 n936 c937, .slice A940 n941 c942, .slice A944 n945 c946], .mat A905 n906 c907 23 2 vs909 r903.A, .row A910 n911 c912 2 1 (ints r903.B), .row A914 n915 c916 2 1 (ints r903.C), .mat A920 n921 c922 23 2 vs924 r918.A, .row A925 n926 c927 2 1 (ints r918.B), .row A929 n930 c931 2 1 (ints r918.C), .mat A935 n936 c937 23 2 vs939 r933.1.A, .row A940 n941 c942 2 1 (ints r933.1.B), .row A944 n945 c946 2 1 (ints r933.1.C)] := hs
                            refine wpO_nil ⟨Or.inl (by decide), ?_⟩
                            refine mYp (i := 10) rfl (by kernel_rfl) (by kernel_rfl) hf rfl rfl rfl (fun _ => Y_assign rfl rfl) ?_; clear hf; intro a hf
                            refine mDone (by kernel_rfl) ?_
                            clear hs0
                            refine wpL_nil (then_normal ?_)
                            exact ⟨r933.1.A, r933.1.B, r933.1.C, r933.2, b902, A935, n936, c937, vs939, A940, n941, c942, A944, n945, c946, Option.some.inj hj762, hn938, hn943, hn947, (FrD.pick (FrD.pick (FrD.pick (FrD.pick (FrD.pick (FrD.pick hf.none hf rfl) hf rfl) hf rfl) hf rfl) hf rfl) hf rfl), hs.sel [2, 3, 4, 5, 6, 7, 8, 9, 10, 17, 18, 19] (by decide)⟩
                        · rintro a w ⟨ms744, xs750, xs755, x760, b743, A745, n746, c747, vs749, A751, n752, c753, A756, n757, c758, hr_, hn748, hn754, hn759, hf, hs⟩
                          subst hr_
                          try dsimp only at hm
                          refine wpL_seq ?_
                          refine wpL_seq ?_
                          obtain ⟨r952, hj953, hm⟩ := bind_some hm
                          refine wpL_cut (fun a w => ∃ b951 : Bool, b951 = r952 ∧ Fr a 119 [(10, .pointer (some ⟨b446, 0, none⟩)), (13, .int .i64 r549.1), (110, .bool b951)] ∧ St [] W w [.blk b446 27 [.slice A433 n434 c435, .slice A438 n439 c440, .slice A442 n443 c444], .mat A433 n434 c435 23 2 vs437 r549.2.1, .row A438 n439 c440 2 1 (ints r549.2.2.1), .row A442 n443 c444 2 1 (ints r549.2.2.2)]) ?_ ?_
                          · refine wpL_region ?_
                            refine sY hf hs rfl rfl rfl (Y_load_blkS rfl rfl (i := 8) rfl ag27 ti27 rfl) ?_; clear hf; intro a hf
                            refine sY hf hs rfl rfl rfl (Y_load_blkS rfl rfl (i := 0) rfl ag27 ti27 rfl) ?_; clear hf; intro a hf
                            obtain ⟨r954, hc955, hj953⟩ := bind_some hj953
                            refine sCall hf rfl rfl rfl rfl (cap := []) rfl rfl en14 (laws_eqSystem_ok F (GSystem.mk ms744 xs750 xs755) A745 n746 c747 hn748 A751 n752 c753 hn754 A756 n757 c758 hn759 (GSystem.mk ms195 xs201 xs206) A196 n197 c198 hn199 A202 n203 c204 hn205 A207 n208 c209 hn210 _ _ hc955 (hs.rdM (i := 9) rfl) (hs.rd (i := 10) rfl) (hs.rd (i := 11) rfl) (hs.rdM (i := 1) rfl) (hs.rd (i := 2) rfl) (hs.rd (i := 3) rfl)) ?_; clear hf
                            rintro _ w ⟨rfl, hs1⟩ a hf
                            have hs : St [] W w [.blk b194 27 [.slice A196 n197 c198, .slice A202 n203 c204, .slice A207 n208 c209], .mat A196 n197 c198 23 2 vs200 ms195, .row A202 n203 c204 2 1 (ints xs201), .row A207 n208 c209 2 1 (ints xs206), .blk b446 27 [.slice A433 n434 c435, .slice A438 n439 c440, .slice A442 n443 c444], .mat A433 n434 c435 23 2 vs437 r549.2.1, .row A438 n439 c440 2 1 (ints r549.2.2.1), .row A442 n443 c444 2 1 (ints r549.2.2.2), .blk b743 27 [.slice A745 n746 c747, .slice A751 n752 c753, .slice A756 n757 c758], .mat A745 n746 c747 23 2 vs749 ms744, .row A751 n752 c753 2 1 (ints xs750), .row A756 n757 c758 2 1 (ints xs755)] := hs.ext hs1.below
                            clear hs1
                            refine sY hf hs rfl rfl rfl (Y_not rfl rfl) ?_; clear hf; intro a hf
                            refine sY hf hs rfl rfl rfl (Y_move rfl rfl) ?_; clear hf; intro a hf
                            refine bsplit (!r954) (fun hb956 => ?_) (fun hb956 => ?_)
                            · have hj953 := bif_t hj953 hb956
                              refine sNo hf rfl rfl rfl (congrArg (fun b => some (Value.bool b)) hb956) rfl rfl rfl ?_; clear hf; intro a hf
                              refine sNo hf rfl rfl rfl (congrArg (fun b => some (Value.bool b)) hb956) rfl rfl rfl ?_; clear hf; intro a hf
                              refine sNo hf rfl rfl rfl (congrArg (fun b => some (Value.bool b)) hb956) rfl rfl rfl ?_; clear hf; intro a hf
                              refine sY hf hs rfl rfl rfl (Y_pickT rfl (congrArg (fun b => some (Value.bool b)) hb956) rfl) ?_; clear hf; intro a hf
                              refine wpO_nil ?_
                              refine wpL_nil (then_normal ?_)
                              exact ⟨true, Option.some.inj hj953, (FrD.pick (FrD.pick (FrD.pick hf.none hf rfl) hf rfl) hf rfl), hs.sel [4, 5, 6, 7] (by decide)⟩
                            · have hj953 := bif_f hj953 hb956
                              refine sYg hf hs rfl rfl rfl (congrArg (fun b => some (Value.bool b)) hb956) rfl rfl rfl (Y_move rfl rfl) ?_; clear hf; intro a hf
                              refine sYg hf hs rfl rfl rfl (congrArg (fun b => some (Value.bool b)) hb956) rfl rfl rfl (Y_move rfl rfl) ?_; clear hf; intro a hf
                              refine sYg hf hs rfl rfl rfl (congrArg (fun b => some (Value.bool b)) hb956) rfl rfl rfl (Y_neq rfl rfl rfl) ?_; clear hf; intro a hf
                              refine sY hf hs rfl rfl rfl (Y_pickF rfl (congrArg (fun b => some (Value.bool b)) hb956) rfl) ?_; clear hf; intro a hf
                              refine wpO_nil ?_
                              refine wpL_nil (then_normal ?_)
                              exact ⟨(x760 != x211), Option.some.inj hj953, (FrD.pick (FrD.pick (FrD.pick hf.none hf rfl) hf rfl) hf rfl), hs.sel [4, 5, 6, 7] (by decide)⟩
                          · rintro a w ⟨b951, hr_, hf, hs⟩
                            subst hr_
                            try dsimp only at hm
                            refine wpL_cond hf rfl (fun hb957 => ?_) (fun hb957 => ?_)
                            · have hm := bif_t hm hb957
                              refine wpL_seq ?_
                              refine wpL_region ?_
                              refine sY hf hs rfl rfl rfl (Y_assign rfl rfl) ?_; clear hf; intro a hf
                              refine wpO_nil ?_
                              obtain rfl := Option.some.inj hm
                              refine wpL_ret (ret_tmp rfl hf rfl ?_)
                              exact ⟨_, rfl, rfl, hs.sel [] (by decide)⟩
                            · have hm := bif_f hm hb957
                              refine wpL_skip ?_
                              refine wpL_seq ?_
                              refine wpL_region ?_
                              refine sY hf hs rfl rfl rfl (Y_assign rfl rfl) ?_; clear hf; intro a hf
                              refine wpO_nil ?_
                              refine wpL_seq ?_
                              refine wpL_region ?_
                              refine sY hf hs rfl rfl rfl (Y_load_blkS rfl rfl (i := 0) rfl ag27 ti27 rfl) ?_; clear hf; intro a hf
                              refine sY hf hs rfl rfl rfl (Y_move rfl rfl) ?_; clear hf; intro a hf
                              obtain ⟨r958, hc959, hm⟩ := bind_some hm
                              refine sCall hf rfl rfl rfl rfl (cap := []) rfl rfl en16 (laws_heldSystem_ok F (GSystem.mk r549.2.1 r549.2.2.1 r549.2.2.2) A433 n434 c435 hn551 A438 n439 c440 hn552 A442 n443 c444 hn553 1 _ _ hc959 (hs.rdM (i := 1) rfl) (hs.rd (i := 2) rfl) (hs.rd (i := 3) rfl)) ?_; clear hf
                              rintro _ w ⟨rfl, hs1⟩ a hf
                              have hs : St [] W w [.blk b446 27 [.slice A433 n434 c435, .slice A438 n439 c440, .slice A442 n443 c444], .mat A433 n434 c435 23 2 vs437 r549.2.1, .row A438 n439 c440 2 1 (ints r549.2.2.1), .row A442 n443 c444 2 1 (ints r549.2.2.2)] := hs.ext hs1.below
                              clear hs1
                              refine sY hf hs rfl rfl rfl (Y_assign rfl rfl) ?_; clear hf; intro a hf
                              refine wpO_nil ?_
                              refine wpL_seq ?_
                              refine wpL_seq ?_
                              refine wpL_region ?_
                              refine sY hf hs rfl rfl rfl (Y_move rfl rfl) ?_; clear hf; intro a hf
                              refine sY hf hs rfl rfl rfl (Y_lss rfl rfl rfl) ?_; clear hf; intro a hf
                              refine wpO_nil ?_
                              refine wpL_cond hf rfl (fun hb960 => ?_) (fun hb960 => ?_)
                              · have hm := bif_t hm hb960
                                refine wpL_seq ?_
                                refine wpL_region ?_
                                refine sY hf hs rfl rfl rfl (Y_assign rfl rfl) ?_; clear hf; intro a hf
                                refine wpO_nil ?_
                                obtain rfl := Option.some.inj hm
                                refine wpL_ret (ret_tmp rfl hf rfl ?_)
                                exact ⟨_, rfl, rfl, hs.sel [] (by decide)⟩
                              · have hm := bif_f hm hb960
                                refine wpL_skip ?_
                                refine wpL_seq ?_
                                refine wpL_seq ?_
                                refine wpL_region ?_
                                refine sY hf hs rfl rfl rfl (Y_move rfl rfl) ?_; clear hf; intro a hf
                                refine sY hf hs rfl rfl rfl (Y_move rfl rfl) ?_; clear hf; intro a hf
                                refine sY hf hs rfl rfl rfl (Y_neq rfl rfl rfl) ?_; clear hf; intro a hf
                                refine wpO_nil ?_
                                refine wpL_cond hf rfl (fun hb961 => ?_) (fun hb961 => ?_)
                                · have hm := bif_t hm hb961
                                  refine wpL_seq ?_
                                  refine wpL_region ?_
                                  refine sY hf hs rfl rfl rfl (Y_assign rfl rfl) ?_; clear hf; intro a hf
                                  refine wpO_nil ?_
                                  obtain rfl := Option.some.inj hm
                                  refine wpL_ret (ret_tmp rfl hf rfl ?_)
                                  exact ⟨_, rfl, rfl, hs.sel [] (by decide)⟩
                                · have hm := bif_f hm hb961
                                  refine wpL_skip ?_
                                  refine wpL_seq ?_
                                  refine wpL_region ?_
                                  refine sY hf hs rfl rfl rfl (Y_assign rfl rfl) ?_; clear hf; intro a hf
                                  refine wpO_nil ?_
                                  obtain rfl := Option.some.inj hm
                                  refine wpL_ret (ret_tmp rfl hf rfl ?_)
                                  exact ⟨_, rfl, rfl, hs.sel [] (by decide)⟩

end Go.Proofs.Ytgkgimglgjfcjaa
