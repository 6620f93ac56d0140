/- The functions do what their models say. -/
import Derived.Test.YtgkgimglgjfcjaaSeriesLifted3
import Derived.Test.YtgkgimglgjfcjaaRows
namespace Go.Proofs.Ytgkgimglgjfcjaa
open Go.RowKit

set_option maxRecDepth 100000 in
theorem laws_likeInts_ok (F : Nat) (p0_a : List Int) (A_p0_a_1 : Option Addr) (n_p0_a_1 c_p0_a_1 : Nat) (hn_p0_a_1 : n_p0_a_1 = p0_a.length) (p1_b : List Int) (A_p1_b_1 : Option Addr) (n_p1_b_1 c_p1_b_1 : Nat) (hn_p1_b_1 : n_p1_b_1 = p1_b.length) (r : Bool) (W : World) (hm : laws_likeInts F p0_a p1_b = some r) (h_p0_a_1 : Rd W A_p0_a_1 (ints p0_a)) (h_p1_b_1 : Rd W A_p1_b_1 (ints p1_b)) :
    Calls Try.prog 30 [.slice A_p0_a_1 n_p0_a_1 c_p0_a_1, .slice A_p1_b_1 n_p1_b_1 c_p1_b_1].toArray W fun e w' => ∃ v, e = .returned v ∧ v = .bool r ∧ St [] W w' [] := by
  subst hn_p0_a_1
  subst hn_p1_b_1
  unfold laws_likeInts at hm
  refine Calls.enter (N := 26) Try.func30 rfl rfl rfl (fun a hf => ?_)
  have hs := St.start W
  obtain ⟨w, hw_⟩ : ∃ w, w = W := ⟨W, rfl⟩
  clear hw_ w
  refine wpL_seq ?_
  refine wpL_region ?_
  refine sY hf hs rfl rfl rfl (Y_assign rfl rfl) ?_; clear hf; intro a hf
  refine wpO_nil ?_
  refine wpL_seq ?_
  refine wpL_seq ?_
  refine wpL_region ?_
  refine sY hf hs rfl rfl rfl (Y_move rfl rfl) ?_; clear hf; intro a hf
  refine sY hf hs rfl rfl rfl (Y_lenH rfl rfl el23 rfl) ?_; clear hf; intro a hf
  refine sY hf hs rfl rfl rfl (Y_move rfl rfl) ?_; clear hf; intro a hf
  refine sY hf hs rfl rfl rfl (Y_lenH rfl rfl el23 rfl) ?_; clear hf; intro a hf
  refine sY hf hs rfl rfl rfl (Y_neq rfl rfl rfl) ?_; clear hf; intro a hf
  refine wpO_nil ?_
  refine wpL_cond hf rfl (fun hb1 => ?_) (fun hb1 => ?_)
  · have hm := bif_t hm hb1
    refine wpL_seq ?_
    refine wpL_region ?_
    refine sY hf hs rfl rfl rfl (Y_assign rfl rfl) ?_; clear hf; intro a hf
    refine wpO_nil ?_
    obtain rfl := Option.some.inj hm
    refine wpL_ret (ret_tmp rfl hf rfl ?_)
    exact ⟨_, rfl, rfl, hs⟩
  · have hm := bif_f hm hb1
    refine wpL_skip ?_
    refine wpL_seq ?_
    refine wpL_seq ?_
    refine wpL_region ?_
    refine sY hf hs rfl rfl rfl (Y_assign rfl rfl) ?_; clear hf; intro a hf
    refine wpO_nil ?_
    obtain ⟨r22, hl23, hm⟩ := bind_some hm
    refine wpL_block (fun a w => Sum.inr () = r22 ∧ Fr a 26 [] ∧ St [] W w []) ?_ ?_
    · refine wpL_loop (fun n a w => ∃ x15 : Int, laws_likeInts_L1 F p0_a p1_b n x15 = some r22 ∧ Fr a 26 [(0, .slice A_p0_a_1 p0_a.length c_p0_a_1), (1, .slice A_p1_b_1 p1_b.length c_p1_b_1), (5, .int .i64 x15)] ∧ St [] W w []) F ?_ ?_ ?_
      · exact ⟨0, hl23, (FrD.pick (FrD.pick (FrD.pick hf.none hf rfl) hf rfl) hf rfl), hs⟩
      · rintro a w ⟨x15, h0_, -, -⟩; simp [laws_likeInts_L1] at h0_
      · rintro n25 a w ⟨x15, hm24, hf, hs⟩
        rw [laws_likeInts_L1] at hm24
        refine wpL_seq ?_
        refine wpL_seq ?_
        refine wpL_region ?_
        refine sY hf hs rfl rfl rfl (Y_move rfl rfl) ?_; clear hf; intro a hf
        refine sY hf hs rfl rfl rfl (Y_move rfl rfl) ?_; clear hf; intro a hf
        refine sY hf hs rfl rfl rfl (Y_lenH rfl rfl el23 rfl) ?_; clear hf; intro a hf
        refine sY hf hs rfl rfl rfl (Y_lss rfl rfl rfl) ?_; clear hf; intro a hf
        refine wpO_nil ?_
        refine wpL_cond hf rfl (fun hb26 => ?_) (fun hb26 => ?_)
        · have hm24 := bif_t hm24 hb26
          refine wpL_skip ?_
          refine wpL_seq ?_
          refine wpL_block0 ?_
          refine wpL_seq ?_
          refine wpL_draw (by kernel_rfl) (by kernel_rfl) hs ?_
          refine qY hf rfl rfl rfl (Y_move rfl rfl) ?_; clear hf; intro a hf
          refine qY hf rfl rfl rfl (Y_move rfl rfl) ?_; clear hf; intro a hf
          obtain ⟨q27, hi28, hm24⟩ := bind_some hm24
          obtain ⟨hi28a, hi28b, hi28q⟩ := idx_some hi28
          refine qY hf rfl rfl rfl (Y_index rfl rfl rfl el23 ti2 (Rd.isAt (h_p0_a_1.at hs) (at1 (ints_at hi28q))) hi28a hi28b) ?_; clear hf; intro a hf
          refine qY hf rfl rfl rfl (Y_load_rd rfl rfl (fun w hs => h_p0_a_1.at hs) (at1 (ints_at hi28q)) ag2) ?_; clear hf; intro a hf
          refine qY hf rfl rfl rfl (Y_move rfl rfl) ?_; clear hf; intro a hf
          refine qY hf rfl rfl rfl (Y_move rfl rfl) ?_; clear hf; intro a hf
          obtain ⟨q29, hi30, hm24⟩ := bind_some hm24
          obtain ⟨hi30a, hi30b, hi30q⟩ := idx_some hi30
          refine qY hf rfl rfl rfl (Y_index rfl rfl rfl el23 ti2 (Rd.isAt (h_p1_b_1.at hs) (at1 (ints_at hi30q))) hi30a hi30b) ?_; clear hf; intro a hf
          refine qY hf rfl rfl rfl (Y_load_rd rfl rfl (fun w hs => h_p1_b_1.at hs) (at1 (ints_at hi30q)) ag2) ?_; clear hf; intro a hf
          refine qY hf rfl rfl rfl (Y_neq rfl rfl rfl) ?_; clear hf; intro a hf
          refine qNil ?_; clear hs; intro w hs
          refine wpL_cond hf rfl (fun hb31 => ?_) (fun hb31 => ?_)
          · have hm24 := bif_t hm24 hb31
            refine wpL_seq ?_
            refine wpL_region ?_
            refine sY hf hs rfl rfl rfl (Y_assign rfl rfl) ?_; clear hf; intro a hf
            refine wpO_nil ?_
            obtain rfl := Option.some.inj hm24
            try dsimp only at hm
            obtain rfl := Option.some.inj hm
            refine wpL_ret (Qb_ret (Ql_ret (Qb_ret (ret_tmp rfl hf rfl ?_))))
            exact ⟨_, rfl, rfl, hs⟩
          · have hm24 := bif_f hm24 hb31
            refine wpL_skip ?_
            refine wpL_nil (Qb_normal ?_)
            refine wpL_region ?_
            refine sY hf hs rfl rfl rfl (Y_move rfl rfl) ?_; clear hf; intro a hf
            refine sY hf hs rfl rfl rfl (Y_add rfl rfl rfl) ?_; clear hf; intro a hf
            refine sY hf hs rfl rfl rfl (Y_assign rfl rfl) ?_; clear hf; intro a hf
            refine wpO_nil ?_
            refine wpL_nil (Ql_normal ?_)
            exact ⟨(IntKind.i64.wrap (x15 + 1)), hm24, (FrD.pick (FrD.pick (FrD.pick hf.none hf rfl) hf rfl) hf rfl), hs⟩
        · have hm24 := bif_f hm24 hb26
          refine wpL_exit (Ql_exit (Qb_exit ?_))
          exact ⟨Option.some.inj hm24, hf.none, hs⟩
    · rintro a w ⟨hr_, hf, hs⟩
      subst hr_
      try dsimp only at hm
      refine wpL_seq ?_
      refine wpL_region ?_
      refine sY hf hs rfl rfl rfl (Y_assign rfl rfl) ?_; clear hf; intro a hf
      refine wpO_nil ?_
      obtain rfl := Option.some.inj hm
      refine wpL_ret (ret_tmp rfl hf rfl ?_)
      exact ⟨_, rfl, rfl, hs⟩

set_option maxRecDepth 100000 in
theorem laws_likeTables9_ok (F : Nat) (p0_a : List (List Int)) (A_p0_a_1 : Option Addr) (n_p0_a_1 c_p0_a_1 : Nat) (hn_p0_a_1 : n_p0_a_1 = p0_a.length) (p1_b : List (List Int)) (A_p1_b_1 : Option Addr) (n_p1_b_1 c_p1_b_1 : Nat) (hn_p1_b_1 : n_p1_b_1 = p1_b.length) (r : Bool) (W : World) (hm : laws_likeTables9 F p0_a p1_b = some r) (h_p0_a_1 : RdM W A_p0_a_1 p0_a) (h_p1_b_1 : RdM W A_p1_b_1 p1_b) :
    Calls Try.prog 104 [.slice A_p0_a_1 n_p0_a_1 c_p0_a_1, .slice A_p1_b_1 n_p1_b_1 c_p1_b_1].toArray W fun e w' => ∃ v, e = .returned v ∧ v = .bool r ∧ St [] W w' [] := by
  subst hn_p0_a_1
  subst hn_p1_b_1
  unfold laws_likeTables9 at hm
  refine Calls.enter (N := 27) Try.func104 rfl rfl rfl (fun a hf => ?_)
  have hs := St.start W
  obtain ⟨w, hw_⟩ : ∃ w, w = W := ⟨W, rfl⟩
  clear hw_ w
  refine wpL_seq ?_
  refine wpL_region ?_
  refine sY hf hs rfl rfl rfl (Y_assign rfl rfl) ?_; clear hf; intro a hf
  refine wpO_nil ?_
  refine wpL_seq ?_
  refine wpL_seq ?_
  refine wpL_region ?_
  refine sY hf hs rfl rfl rfl (Y_move rfl rfl) ?_; clear hf; intro a hf
  refine sY hf hs rfl rfl rfl (Y_lenH rfl rfl el22 rfl) ?_; clear hf; intro a hf
  refine sY hf hs rfl rfl rfl (Y_move rfl rfl) ?_; clear hf; intro a hf
  refine sY hf hs rfl rfl rfl (Y_lenH rfl rfl el22 rfl) ?_; clear hf; intro a hf
  refine sY hf hs rfl rfl rfl (Y_neq rfl rfl rfl) ?_; clear hf; intro a hf
  refine wpO_nil ?_
  refine wpL_cond hf rfl (fun hb1 => ?_) (fun hb1 => ?_)
  · have hm := bif_t hm hb1
    refine wpL_seq ?_
    refine wpL_region ?_
    refine sY hf hs rfl rfl rfl (Y_assign rfl rfl) ?_; clear hf; intro a hf
    refine wpO_nil ?_
    obtain rfl := Option.some.inj hm
    refine wpL_ret (ret_tmp rfl hf rfl ?_)
    exact ⟨_, rfl, rfl, hs⟩
  · have hm := bif_f hm hb1
    refine wpL_skip ?_
    refine wpL_seq ?_
    refine wpL_seq ?_
    refine wpL_region ?_
    refine sY hf hs rfl rfl rfl (Y_assign rfl rfl) ?_; clear hf; intro a hf
    refine wpO_nil ?_
    obtain ⟨r70, hl71, hm⟩ := bind_some hm
    refine wpL_block (fun a w => Sum.inr () = r70 ∧ Fr a 27 [] ∧ St [] W w []) ?_ ?_
    · refine wpL_loop (fun n a w => ∃ x47 : Int, laws_likeTables9_L1 F p0_a p1_b n x47 = some r70 ∧ Fr a 27 [(0, .slice A_p0_a_1 p0_a.length c_p0_a_1), (1, .slice A_p1_b_1 p1_b.length c_p1_b_1), (5, .int .i64 x47)] ∧ St [] W w []) F ?_ ?_ ?_
      · exact ⟨0, hl71, (FrD.pick (FrD.pick (FrD.pick hf.none hf rfl) hf rfl) hf rfl), hs⟩
      · rintro a w ⟨x47, h0_, -, -⟩; simp [laws_likeTables9_L1] at h0_
      · rintro n73 a w ⟨x47, hm72, hf, hs⟩
        rw [laws_likeTables9_L1] at hm72
        refine wpL_seq ?_
        refine wpL_seq ?_
        refine wpL_region ?_
        refine sY hf hs rfl rfl rfl (Y_move rfl rfl) ?_; clear hf; intro a hf
        refine sY hf hs rfl rfl rfl (Y_move rfl rfl) ?_; clear hf; intro a hf
        refine sY hf hs rfl rfl rfl (Y_lenH rfl rfl el22 rfl) ?_; clear hf; intro a hf
        refine sY hf hs rfl rfl rfl (Y_lss rfl rfl rfl) ?_; clear hf; intro a hf
        refine wpO_nil ?_
        refine wpL_cond hf rfl (fun hb74 => ?_) (fun hb74 => ?_)
        · have hm72 := bif_t hm72 hb74
          refine wpL_skip ?_
          refine wpL_seq ?_
          refine wpL_block0 ?_
          refine wpL_seq ?_
          refine wpL_draw (by kernel_rfl) (by kernel_rfl) hs ?_
          refine qY hf rfl rfl rfl (Y_move rfl rfl) ?_; clear hf; intro a hf
          refine qY hf rfl rfl rfl (Y_move rfl rfl) ?_; clear hf; intro a hf
          obtain ⟨q75, hi76, hm72⟩ := bind_some hm72
          obtain ⟨hi76a, hi76b, hi76q⟩ := idx_some hi76
          obtain ⟨vs77, hv78, hr79⟩ := id h_p0_a_1
          obtain ⟨A80, c81, hv82, hR83⟩ := hr79 _ _ hi76q
          refine qY hf rfl rfl rfl (Y_index rfl rfl rfl el22 ti23 (Rd.isAt hv78 hv82) hi76a hi76b) ?_; clear hf; intro a hf
          refine qY hf rfl rfl rfl (Y_load_rd rfl rfl (fun w hs => hv78.at hs) (at1 hv82) ag23) ?_; clear hf; intro a hf
          refine qY hf rfl rfl rfl (Y_move rfl rfl) ?_; clear hf; intro a hf
          refine qY hf rfl rfl rfl (Y_move rfl rfl) ?_; clear hf; intro a hf
          obtain ⟨q84, hi85, hm72⟩ := bind_some hm72
          obtain ⟨hi85a, hi85b, hi85q⟩ := idx_some hi85
          obtain ⟨vs86, hv87, hr88⟩ := id h_p1_b_1
          obtain ⟨A89, c90, hv91, hR92⟩ := hr88 _ _ hi85q
          refine qY hf rfl rfl rfl (Y_index rfl rfl rfl el22 ti23 (Rd.isAt hv87 hv91) hi85a hi85b) ?_; clear hf; intro a hf
          refine qY hf rfl rfl rfl (Y_load_rd rfl rfl (fun w hs => hv87.at hs) (at1 hv91) ag23) ?_; clear hf; intro a hf
          obtain ⟨r93, hc94, hm72⟩ := bind_some hm72
          refine qCall hf rfl rfl rfl rfl (cap := []) rfl rfl en30 (v := .bool r93) (fun w hs => Calls.scal (laws_likeInts_ok F q75 A80 q75.length c81 rfl q84 A89 q84.length c90 rfl _ _ hc94 (hR83.at hs) (hR92.at hs))) ?_; clear hf; intro a hf
          refine qY hf rfl rfl rfl (Y_not rfl rfl) ?_; clear hf; intro a hf
          refine qNil ?_; clear hs; intro w hs
          refine wpL_cond hf rfl (fun hb95 => ?_) (fun hb95 => ?_)
          · have hm72 := bif_t hm72 hb95
            refine wpL_seq ?_
            refine wpL_region ?_
            refine sY hf hs rfl rfl rfl (Y_assign rfl rfl) ?_; clear hf; intro a hf
            refine wpO_nil ?_
            obtain rfl := Option.some.inj hm72
            try dsimp only at hm
            obtain rfl := Option.some.inj hm
            refine wpL_ret (Qb_ret (Ql_ret (Qb_ret (ret_tmp rfl hf rfl ?_))))
            exact ⟨_, rfl, rfl, hs⟩
          · have hm72 := bif_f hm72 hb95
            refine wpL_skip ?_
            refine wpL_nil (Qb_normal ?_)
            refine wpL_region ?_
            refine sY hf hs rfl rfl rfl (Y_move rfl rfl) ?_; clear hf; intro a hf
            refine sY hf hs rfl rfl rfl (Y_add rfl rfl rfl) ?_; clear hf; intro a hf
            refine sY hf hs rfl rfl rfl (Y_assign rfl rfl) ?_; clear hf; intro a hf
            refine wpO_nil ?_
            refine wpL_nil (Ql_normal ?_)
            exact ⟨(IntKind.i64.wrap (x47 + 1)), hm72, (FrD.pick (FrD.pick (FrD.pick hf.none hf rfl) hf rfl) hf rfl), hs⟩
        · have hm72 := bif_f hm72 hb74
          refine wpL_exit (Ql_exit (Qb_exit ?_))
          exact ⟨Option.some.inj hm72, hf.none, hs⟩
    · rintro a w ⟨hr_, hf, hs⟩
      subst hr_
      try dsimp only at hm
      refine wpL_seq ?_
      refine wpL_region ?_
      refine sY hf hs rfl rfl rfl (Y_assign rfl rfl) ?_; clear hf; intro a hf
      refine wpO_nil ?_
      obtain rfl := Option.some.inj hm
      refine wpL_ret (ret_tmp rfl hf rfl ?_)
      exact ⟨_, rfl, rfl, hs⟩

set_option maxRecDepth 100000 in
theorem laws_likeSystems9_ok (F : Nat) (p0_a : GSystem) (A_p0_a_1 : Option Addr) (n_p0_a_1 c_p0_a_1 : Nat) (hn_p0_a_1 : n_p0_a_1 = p0_a.A.length) (A_p0_a_2 : Option Addr) (n_p0_a_2 c_p0_a_2 : Nat) (hn_p0_a_2 : n_p0_a_2 = p0_a.B.length) (A_p0_a_3 : Option Addr) (n_p0_a_3 c_p0_a_3 : Nat) (hn_p0_a_3 : n_p0_a_3 = p0_a.C.length) (p1_b : GSystem) (A_p1_b_1 : Option Addr) (n_p1_b_1 c_p1_b_1 : Nat) (hn_p1_b_1 : n_p1_b_1 = p1_b.A.length) (A_p1_b_2 : Option Addr) (n_p1_b_2 c_p1_b_2 : Nat) (hn_p1_b_2 : n_p1_b_2 = p1_b.B.length) (A_p1_b_3 : Option Addr) (n_p1_b_3 c_p1_b_3 : Nat) (hn_p1_b_3 : n_p1_b_3 = p1_b.C.length) (r : Bool) (W : World) (hm : laws_likeSystems9 F p0_a p1_b = some r) (h_p0_a_1 : RdM W A_p0_a_1 p0_a.A) (h_p0_a_2 : Rd W A_p0_a_2 (ints p0_a.B)) (h_p0_a_3 : Rd W A_p0_a_3 (ints p0_a.C)) (h_p1_b_1 : RdM W A_p1_b_1 p1_b.A) (h_p1_b_2 : Rd W A_p1_b_2 (ints p1_b.B)) (h_p1_b_3 : Rd W A_p1_b_3 (ints p1_b.C)) :
    Calls Try.prog 21 [.agg #[.slice A_p0_a_1 n_p0_a_1 c_p0_a_1, .slice A_p0_a_2 n_p0_a_2 c_p0_a_2, .slice A_p0_a_3 n_p0_a_3 c_p0_a_3], .agg #[.slice A_p1_b_1 n_p1_b_1 c_p1_b_1, .slice A_p1_b_2 n_p1_b_2 c_p1_b_2, .slice A_p1_b_3 n_p1_b_3 c_p1_b_3]].toArray W fun e w' => ∃ v, e = .returned v ∧ v = .bool r ∧ St [] W w' [] := by
  subst hn_p0_a_1
  subst hn_p0_a_2
  subst hn_p0_a_3
  subst hn_p1_b_1
  subst hn_p1_b_2
  subst hn_p1_b_3
  unfold laws_likeSystems9 at hm
  refine Calls.enter (N := 24) Try.func21 rfl rfl rfl (fun a hf => ?_)
  have hs := St.start W
  obtain ⟨w, hw_⟩ : ∃ w, w = W := ⟨W, rfl⟩
  clear hw_ w
  refine wpL_seq ?_
  refine wpL_region ?_
  refine sBox hf hs rfl rfl rfl rfl rfl (cs := [.slice A_p0_a_1 p0_a.A.length c_p0_a_1, .slice A_p0_a_2 p0_a.B.length c_p0_a_2, .slice A_p0_a_3 p0_a.C.length c_p0_a_3]) rfl ?_; clear hf hs; intro a w b1 hs hf
  have hs : St [] W w [.blk b1 27 [.slice A_p0_a_1 p0_a.A.length c_p0_a_1, .slice A_p0_a_2 p0_a.B.length c_p0_a_2, .slice A_p0_a_3 p0_a.C.length c_p0_a_3]] := hs
  refine sBox hf hs rfl rfl rfl rfl rfl (cs := [.slice A_p1_b_1 p1_b.A.length c_p1_b_1, .slice A_p1_b_2 p1_b.B.length c_p1_b_2, .slice A_p1_b_3 p1_b.C.length c_p1_b_3]) rfl ?_; clear hf hs; intro a w b2 hs hf
  have hs : St [] W w [.blk b1 27 [.slice A_p0_a_1 p0_a.A.length c_p0_a_1, .slice A_p0_a_2 p0_a.B.length c_p0_a_2, .slice A_p0_a_3 p0_a.C.length c_p0_a_3], .blk b2 27 [.slice A_p1_b_1 p1_b.A.length c_p1_b_1, .slice A_p1_b_2 p1_b.B.length c_p1_b_2, .slice A_p1_b_3 p1_b.C.length c_p1_b_3]] := hs
  refine sY hf hs rfl rfl rfl (Y_assign rfl rfl) ?_; clear hf; intro a hf
  refine wpO_nil ?_
  refine wpL_seq ?_
  obtain ⟨r12, hj13, hm⟩ := bind_some hm
  refine wpL_cut (fun a w => ∃ b11 : Bool, b11 = r12 ∧ Fr a 24 [(4, .bool b11)] ∧ St [] W w []) ?_ ?_
  · refine wpL_region ?_
    refine sY hf hs rfl rfl rfl (Y_fieldAddr rfl rfl fo27_0) ?_; clear hf; intro a hf
    refine sY hf hs rfl rfl rfl (Y_load_blk rfl rfl (i := 0) rfl rfl ag22) ?_; clear hf; intro a hf
    refine sY hf hs rfl rfl rfl (Y_fieldAddr rfl rfl fo27_0) ?_; clear hf; intro a hf
    refine sY hf hs rfl rfl rfl (Y_load_blk rfl rfl (i := 1) rfl rfl ag22) ?_; clear hf; intro a hf
    obtain ⟨r14, hc15, hj13⟩ := bind_some hj13
    refine sCall hf rfl rfl rfl rfl (cap := []) rfl rfl en104 (laws_likeTables9_ok F p0_a.A A_p0_a_1 p0_a.A.length c_p0_a_1 rfl p1_b.A A_p1_b_1 p1_b.A.length c_p1_b_1 rfl _ _ hc15 (h_p0_a_1.at hs) (h_p1_b_1.at hs)) ?_; clear hf
    rintro _ w ⟨rfl, hs1⟩ a hf
    have hs : St [] W w [.blk b1 27 [.slice A_p0_a_1 p0_a.A.length c_p0_a_1, .slice A_p0_a_2 p0_a.B.length c_p0_a_2, .slice A_p0_a_3 p0_a.C.length c_p0_a_3], .blk b2 27 [.slice A_p1_b_1 p1_b.A.length c_p1_b_1, .slice A_p1_b_2 p1_b.B.length c_p1_b_2, .slice A_p1_b_3 p1_b.C.length c_p1_b_3]] := hs.ext hs1.below
    clear hs1
    refine sY hf hs rfl rfl rfl (Y_move rfl rfl) ?_; clear hf; intro a hf
    refine bsplit r14 (fun hb16 => ?_) (fun hb16 => ?_)
    · have hj13 := bif_t hj13 hb16
      refine sYg hf hs rfl rfl rfl (congrArg (fun b => some (Value.bool b)) hb16) rfl rfl rfl (Y_fieldAddr rfl rfl fo27_1) ?_; clear hf; intro a hf
      refine sYg hf hs rfl rfl rfl (congrArg (fun b => some (Value.bool b)) hb16) rfl rfl rfl (Y_load_blk rfl rfl (i := 0) rfl rfl ag23) ?_; clear hf; intro a hf
      refine sYg hf hs rfl rfl rfl (congrArg (fun b => some (Value.bool b)) hb16) rfl rfl rfl (Y_fieldAddr rfl rfl fo27_1) ?_; clear hf; intro a hf
      refine sYg hf hs rfl rfl rfl (congrArg (fun b => some (Value.bool b)) hb16) rfl rfl rfl (Y_load_blk rfl rfl (i := 1) rfl rfl ag23) ?_; clear hf; intro a hf
      obtain ⟨r17, hc18, hj13⟩ := bind_some hj13
      refine sCallg hf rfl rfl rfl (congrArg (fun b => some (Value.bool b)) hb16) rfl rfl rfl rfl (cap := []) rfl rfl en30 (laws_likeInts_ok F p0_a.B A_p0_a_2 p0_a.B.length c_p0_a_2 rfl p1_b.B A_p1_b_2 p1_b.B.length c_p1_b_2 rfl _ _ hc18 (h_p0_a_2.at hs) (h_p1_b_2.at hs)) ?_; clear hf
      rintro _ w ⟨rfl, hs1⟩ a hf
      have hs : St [] W w [.blk b1 27 [.slice A_p0_a_1 p0_a.A.length c_p0_a_1, .slice A_p0_a_2 p0_a.B.length c_p0_a_2, .slice A_p0_a_3 p0_a.C.length c_p0_a_3], .blk b2 27 [.slice A_p1_b_1 p1_b.A.length c_p1_b_1, .slice A_p1_b_2 p1_b.B.length c_p1_b_2, .slice A_p1_b_3 p1_b.C.length c_p1_b_3]] := hs.ext hs1.below
      clear hs1
      refine sY hf hs rfl rfl rfl (Y_pickT rfl (congrArg (fun b => some (Value.bool b)) hb16) rfl) ?_; clear hf; intro a hf
      refine sY hf hs rfl rfl rfl (Y_move rfl rfl) ?_; clear hf; intro a hf
      refine bsplit r17 (fun hb19 => ?_) (fun hb19 => ?_)
      · have hj13 := bif_t hj13 hb19
        refine sYg hf hs rfl rfl rfl (congrArg (fun b => some (Value.bool b)) hb19) rfl rfl rfl (Y_fieldAddr rfl rfl fo27_2) ?_; clear hf; intro a hf
        refine sYg hf hs rfl rfl rfl (congrArg (fun b => some (Value.bool b)) hb19) rfl rfl rfl (Y_load_blk rfl rfl (i := 0) rfl rfl ag23) ?_; clear hf; intro a hf
        refine sYg hf hs rfl rfl rfl (congrArg (fun b => some (Value.bool b)) hb19) rfl rfl rfl (Y_fieldAddr rfl rfl fo27_2) ?_; clear hf; intro a hf
        refine sYg hf hs rfl rfl rfl (congrArg (fun b => some (Value.bool b)) hb19) rfl rfl rfl (Y_load_blk rfl rfl (i := 1) rfl rfl ag23) ?_; clear hf; intro a hf
        obtain ⟨r20, hc21, hj13⟩ := bind_some hj13
        refine sCallg hf rfl rfl rfl (congrArg (fun b => some (Value.bool b)) hb19) rfl rfl rfl rfl (cap := []) rfl rfl en30 (laws_likeInts_ok F p0_a.C A_p0_a_3 p0_a.C.length c_p0_a_3 rfl p1_b.C A_p1_b_3 p1_b.C.length c_p1_b_3 rfl _ _ hc21 (h_p0_a_3.at hs) (h_p1_b_3.at hs)) ?_; clear hf
        rintro _ w ⟨rfl, hs1⟩ a hf
        have hs : St [] W w [.blk b1 27 [.slice A_p0_a_1 p0_a.A.length c_p0_a_1, .slice A_p0_a_2 p0_a.B.length c_p0_a_2, .slice A_p0_a_3 p0_a.C.length c_p0_a_3], .blk b2 27 [.slice A_p1_b_1 p1_b.A.length c_p1_b_1, .slice A_p1_b_2 p1_b.B.length c_p1_b_2, .slice A_p1_b_3 p1_b.C.length c_p1_b_3]] := hs.ext hs1.below
        clear hs1
        refine sY hf hs rfl rfl rfl (Y_pickT rfl (congrArg (fun b => some (Value.bool b)) hb19) rfl) ?_; clear hf; intro a hf
        refine sY hf hs rfl rfl rfl (Y_assign rfl rfl) ?_; clear hf; intro a hf
        refine wpO_nil ?_
        refine wpL_nil (then_normal ?_)
        exact ⟨r20, Option.some.inj hj13, (FrD.pick hf.none hf rfl), hs.sel [] (by decide)⟩
      · have hj13 := bif_f hj13 hb19
        refine sNo hf rfl rfl rfl (congrArg (fun b => some (Value.bool b)) hb19) rfl rfl rfl ?_; clear hf; intro a hf
        refine sNo hf rfl rfl rfl (congrArg (fun b => some (Value.bool b)) hb19) rfl rfl rfl ?_; clear hf; intro a hf
        refine sNo hf rfl rfl rfl (congrArg (fun b => some (Value.bool b)) hb19) rfl rfl rfl ?_; clear hf; intro a hf
        refine sNo hf rfl rfl rfl (congrArg (fun b => some (Value.bool b)) hb19) rfl rfl rfl ?_; clear hf; intro a hf
        refine sNo hf rfl rfl rfl (congrArg (fun b => some (Value.bool b)) hb19) rfl rfl rfl ?_; clear hf; intro a hf
        refine sY hf hs rfl rfl rfl (Y_pickF rfl (congrArg (fun b => some (Value.bool b)) hb19) rfl) ?_; clear hf; intro a hf
        refine sY hf hs rfl rfl rfl (Y_assign rfl rfl) ?_; clear hf; intro a hf
        refine wpO_nil ?_
        refine wpL_nil (then_normal ?_)
        exact ⟨false, Option.some.inj hj13, (FrD.pick hf.none hf rfl), hs.sel [] (by decide)⟩
    · have hj13 := bif_f hj13 hb16
      refine sNo hf rfl rfl rfl (congrArg (fun b => some (Value.bool b)) hb16) rfl rfl rfl ?_; clear hf; intro a hf
      refine sNo hf rfl rfl rfl (congrArg (fun b => some (Value.bool b)) hb16) rfl rfl rfl ?_; clear hf; intro a hf
      refine sNo hf rfl rfl rfl (congrArg (fun b => some (Value.bool b)) hb16) rfl rfl rfl ?_; clear hf; intro a hf
      refine sNo hf rfl rfl rfl (congrArg (fun b => some (Value.bool b)) hb16) rfl rfl rfl ?_; clear hf; intro a hf
      refine sNo hf rfl rfl rfl (congrArg (fun b => some (Value.bool b)) hb16) rfl rfl rfl ?_; clear hf; intro a hf
      refine sY hf hs rfl rfl rfl (Y_pickF rfl (congrArg (fun b => some (Value.bool b)) hb16) rfl) ?_; clear hf; intro a hf
      refine sY hf hs rfl rfl rfl (Y_move rfl rfl) ?_; clear hf; intro a hf
      refine sNo hf rfl rfl rfl rfl rfl rfl rfl ?_; clear hf; intro a hf
      refine sNo hf rfl rfl rfl rfl rfl rfl rfl ?_; clear hf; intro a hf
      refine sNo hf rfl rfl rfl rfl rfl rfl rfl ?_; clear hf; intro a hf
      refine sNo hf rfl rfl rfl rfl rfl rfl rfl ?_; clear hf; intro a hf
      refine sNo hf rfl rfl rfl rfl rfl rfl rfl ?_; clear hf; intro a hf
      refine sY hf hs rfl rfl rfl (Y_pickF rfl rfl rfl) ?_; clear hf; intro a hf
      refine sY hf hs rfl rfl rfl (Y_assign rfl rfl) ?_; clear hf; intro a hf
      refine wpO_nil ?_
      refine wpL_nil (then_normal ?_)
      exact ⟨false, Option.some.inj hj13, (FrD.pick hf.none hf rfl), hs.sel [] (by decide)⟩
  · rintro a w ⟨b11, hr_, hf, hs⟩
    subst hr_
    try dsimp only at hm
    obtain rfl := Option.some.inj hm
    refine wpL_ret (ret_tmp rfl hf rfl ?_)
    exact ⟨_, rfl, rfl, hs⟩

set_option maxRecDepth 100000 in
theorem impl_responseOf_ok (F : Nat) (p0_s : GSystem) (A_p0_s_1 : Option Addr) (n_p0_s_1 c_p0_s_1 : Nat) (hn_p0_s_1 : n_p0_s_1 = p0_s.A.length) (A_p0_s_2 : Option Addr) (n_p0_s_2 c_p0_s_2 : Nat) (hn_p0_s_2 : n_p0_s_2 = p0_s.B.length) (A_p0_s_3 : Option Addr) (n_p0_s_3 c_p0_s_3 : Nat) (hn_p0_s_3 : n_p0_s_3 = p0_s.C.length) (p1_n : Int) (r : List Int × Int) (W : World) (hm : impl_responseOf F p0_s p1_n = some r) (h_p0_s_1 : RdM W A_p0_s_1 p0_s.A) (h_p0_s_2 : Rd W A_p0_s_2 (ints p0_s.B)) (h_p0_s_3 : Rd W A_p0_s_3 (ints p0_s.C)) :
    Calls Try.prog 106 [.agg #[.slice A_p0_s_1 n_p0_s_1 c_p0_s_1, .slice A_p0_s_2 n_p0_s_2 c_p0_s_2, .slice A_p0_s_3 n_p0_s_3 c_p0_s_3], .int .i64 p1_n].toArray W fun e w' => ∃ v, e = .returned v ∧ ∃ A220, ∃ n221, ∃ c222, v = .tuple #[.slice A220 n221 c222, .int .i64 r.2] ∧ n221 = r.1.length ∧ St [] W w' [.row A220 n221 c222 2 1 (ints r.1)] := by
  subst hn_p0_s_1
  subst hn_p0_s_2
  subst hn_p0_s_3
  unfold impl_responseOf at hm
  refine Calls.enter (N := 41) Try.func106 rfl rfl rfl (fun a hf => ?_)
  have hs := St.start W
  obtain ⟨w, hw_⟩ : ∃ w, w = W := ⟨W, rfl⟩
  clear hw_ w
  refine wpL_seq ?_
  refine wpL_region ?_
  refine sBox hf hs rfl rfl rfl rfl rfl (cs := [.slice A_p0_s_1 p0_s.A.length c_p0_s_1, .slice A_p0_s_2 p0_s.B.length c_p0_s_2, .slice A_p0_s_3 p0_s.C.length c_p0_s_3]) rfl ?_; clear hf hs; intro a w b1 hs hf
  have hs : St [] W w [.blk b1 27 [.slice A_p0_s_1 p0_s.A.length c_p0_s_1, .slice A_p0_s_2 p0_s.B.length c_p0_s_2, .slice A_p0_s_3 p0_s.C.length c_p0_s_3]] := hs
  refine sY hf hs rfl rfl rfl (Y_assign rfl rfl) ?_; clear hf; intro a hf
  refine sY hf hs rfl rfl rfl (Y_assign rfl rfl) ?_; clear hf; intro a hf
  refine wpO_nil ?_
  refine wpL_seq ?_
  refine wpL_region ?_
  refine sY hf hs rfl rfl rfl (Y_fieldAddr rfl rfl fo27_1) ?_; clear hf; intro a hf
  refine sY hf hs rfl rfl rfl (Y_load_blk rfl rfl (i := 0) rfl rfl ag23) ?_; clear hf; intro a hf
  obtain ⟨r2, hc3, hm⟩ := bind_some hm
  refine sCall hf rfl rfl rfl rfl (cap := []) rfl rfl en91 (slices_Clone_int64_ok F p0_s.B A_p0_s_2 p0_s.B.length c_p0_s_2 rfl _ _ hc3 (h_p0_s_2.at hs)) ?_; clear hf
  rintro _ w ⟨A4, n5, c6, rfl, hn7, hs1⟩ a hf
  have hs : St [] W w [.blk b1 27 [.slice A_p0_s_1 p0_s.A.length c_p0_s_1, .slice A_p0_s_2 p0_s.B.length c_p0_s_2, .slice A_p0_s_3 p0_s.C.length c_p0_s_3], .row A4 n5 c6 2 1 (ints r2)] := hs.join hs1
  clear hs1
  refine sY hf hs rfl rfl rfl (Y_assign rfl rfl) ?_; clear hf; intro a hf
  refine wpO_nil ?_
  refine wpL_seq ?_
  refine wpL_region ?_
  refine sY hf hs rfl rfl rfl (Y_assign rfl rfl) ?_; clear hf; intro a hf
  refine wpO_nil ?_
  refine wpL_seq ?_
  refine wpL_seq ?_
  refine wpL_region ?_
  refine sY hf hs rfl rfl rfl (Y_move rfl rfl) ?_; clear hf; intro a hf
  refine sY hf hs rfl rfl rfl (Y_move rfl rfl) ?_; clear hf; intro a hf
  refine wpO_nil ?_
  obtain ⟨r170, hl171, hm⟩ := bind_some hm
  have hs : St [] W _ [.blk b1 27 [.slice A_p0_s_1 p0_s.A.length c_p0_s_1, .slice A_p0_s_2 p0_s.B.length c_p0_s_2, .slice A_p0_s_3 p0_s.C.length c_p0_s_3], .row A4 n5 c6 2 1 (ints r2), .row none 0 0 2 1 (ints ([] : List Int))] := hs.addNil 2 1
  refine wpL_block (fun a w => ∃ xs165 : List Int, ∃ A166, ∃ n167, ∃ c168, Sum.inr xs165 = r170 ∧ n167 = xs165.length ∧ Fr a 41 [(7, .slice A166 n167 c168)] ∧ St [] W w [.row A166 n167 c168 2 1 (ints xs165)]) ?_ ?_
  · refine wpL_loop (fun n a w => ∃ xs109 : List Int, ∃ xs115 : List Int, ∃ x120 : Int, ∃ A110, ∃ n111, ∃ c112, ∃ A116, ∃ n117, ∃ c118, impl_responseOf_L1 F p0_s p1_n n xs109 xs115 x120 = some r170 ∧ n111 = xs109.length ∧ n117 = xs115.length ∧ Fr a 41 [(2, .pointer (some ⟨b1, 0, none⟩)), (6, .slice A110 n111 c112), (7, .slice A116 n117 c118), (13, .int .i64 p1_n), (14, .int .i64 x120)] ∧ St [] W w [.blk b1 27 [.slice A_p0_s_1 p0_s.A.length c_p0_s_1, .slice A_p0_s_2 p0_s.B.length c_p0_s_2, .slice A_p0_s_3 p0_s.C.length c_p0_s_3], .row A110 n111 c112 2 1 (ints xs109), .row A116 n117 c118 2 1 (ints xs115)]) F ?_ ?_ ?_
    · exact ⟨r2, ([] : List Int), 0, A4, n5, c6, none, 0, 0, hl171, hn7, rfl, (FrD.pick (FrD.pick (FrD.pick (FrD.pick (FrD.pick hf.none hf rfl) hf rfl) hf rfl) hf rfl) hf rfl), hs⟩
    · rintro a w ⟨xs109, xs115, x120, A110, n111, c112, A116, n117, c118, h0_, -, -, -, -⟩; simp [impl_responseOf_L1] at h0_
    · rintro n173 a w ⟨xs109, xs115, x120, A110, n111, c112, A116, n117, c118, hm172, hn113, hn119, hf, hs⟩
      rw [impl_responseOf_L1] at hm172
      refine wpL_seq ?_
      refine wpL_region ?_
      refine sY hf hs rfl rfl rfl (Y_lss rfl rfl rfl) ?_; clear hf; intro a hf
      refine wpO_nil ?_
      refine wpL_seq ?_
      refine wpL_cond hf rfl (fun hb174 => ?_) (fun hb174 => ?_)
      · have hm172 := bif_t hm172 hb174
        refine wpL_skip ?_
        refine wpL_seq ?_
        refine wpL_block0 ?_
        refine wpL_seq ?_
        refine wpL_region ?_
        refine sY hf hs rfl rfl rfl (Y_move rfl rfl) ?_; clear hf; intro a hf
        refine sY hf hs rfl rfl rfl (Y_assign rfl rfl) ?_; clear hf; intro a hf
        refine wpO_nil ?_
        refine wpL_seq ?_
        refine wpL_seq ?_
        refine wpL_region ?_
        refine sY hf hs rfl rfl rfl (Y_move rfl rfl) ?_; clear hf; intro a hf
        refine sY hf hs rfl rfl rfl (Y_gtr rfl rfl rfl) ?_; clear hf; intro a hf
        refine wpO_nil ?_
        obtain ⟨r187, hj188, hm172⟩ := bind_some hm172
        refine wpL_cut (fun a w => ∃ xs182 : List Int, ∃ A183, ∃ n184, ∃ c185, xs182 = r187 ∧ n184 = xs182.length ∧ Fr a 41 [(2, .pointer (some ⟨b1, 0, none⟩)), (6, .slice A183 n184 c185), (7, .slice A116 n117 c118), (13, .int .i64 p1_n), (14, .int .i64 x120)] ∧ St [] W w [.blk b1 27 [.slice A_p0_s_1 p0_s.A.length c_p0_s_1, .slice A_p0_s_2 p0_s.B.length c_p0_s_2, .slice A_p0_s_3 p0_s.C.length c_p0_s_3], .row A183 n184 c185 2 1 (ints xs182), .row A116 n117 c118 2 1 (ints xs115)]) ?_ ?_
        · refine wpL_cond hf rfl (fun hb189 => ?_) (fun hb189 => ?_)
          · have hj188 := bif_t hj188 hb189
            refine wpL_region ?_
            refine sY hf hs rfl rfl rfl (Y_fieldAddr rfl rfl fo27_0) ?_; clear hf; intro a hf
            refine sY hf hs rfl rfl rfl (Y_load_blk rfl rfl (i := 0) rfl rfl ag22) ?_; clear hf; intro a hf
            refine sY hf hs rfl rfl rfl (Y_move rfl rfl) ?_; clear hf; intro a hf
            obtain ⟨r190, hc191, hj188⟩ := bind_some hj188
            refine sCall hf rfl rfl rfl rfl (cap := []) rfl rfl en83 (impl_timesVector_ok F p0_s.A A_p0_s_1 p0_s.A.length c_p0_s_1 rfl xs109 A110 n111 c112 hn113 _ _ hc191 (h_p0_s_1.at hs) (hs.rd (i := 1) rfl)) ?_; clear hf
            rintro _ w ⟨A192, n193, c194, rfl, hn195, hs1⟩ a hf
            have hs : St [] W w [.blk b1 27 [.slice A_p0_s_1 p0_s.A.length c_p0_s_1, .slice A_p0_s_2 p0_s.B.length c_p0_s_2, .slice A_p0_s_3 p0_s.C.length c_p0_s_3], .row A110 n111 c112 2 1 (ints xs109), .row A116 n117 c118 2 1 (ints xs115), .row A192 n193 c194 2 1 (ints r190)] := hs.join hs1
            clear hs1
            refine sY hf hs rfl rfl rfl (Y_assign rfl rfl) ?_; clear hf; intro a hf
            refine wpO_nil ?_
            refine wpL_nil (then_normal ?_)
            exact ⟨r190, A192, n193, c194, Option.some.inj hj188, hn195, (FrD.pick (FrD.pick (FrD.pick (FrD.pick (FrD.pick hf.none hf rfl) hf rfl) hf rfl) hf rfl) hf rfl), hs.sel [0, 3, 2] (by decide)⟩
          · have hj188 := bif_f hj188 hb189
            refine wpL_skip ?_
            refine wpL_nil (then_normal ?_)
            exact ⟨xs109, A110, n111, c112, Option.some.inj hj188, hn113, (FrD.pick (FrD.pick (FrD.pick (FrD.pick (FrD.pick hf.none hf rfl) hf rfl) hf rfl) hf rfl) hf rfl), hs⟩
        · rintro a w ⟨xs182, A183, n184, c185, hr_, hn186, hf, hs⟩
          subst hr_
          try dsimp only at hm172
          refine wpL_seq ?_
          refine wpL_region ?_
          refine sY hf hs rfl rfl rfl (Y_fieldAddr rfl rfl fo27_2) ?_; clear hf; intro a hf
          refine sY hf hs rfl rfl rfl (Y_load_blk rfl rfl (i := 0) rfl rfl ag23) ?_; clear hf; intro a hf
          refine sY hf hs rfl rfl rfl (Y_move rfl rfl) ?_; clear hf; intro a hf
          obtain ⟨r196, hc197, hm172⟩ := bind_some hm172
          refine sCall hf rfl rfl rfl rfl (cap := []) rfl rfl en85 (impl_innerProduct_ok F p0_s.C A_p0_s_3 p0_s.C.length c_p0_s_3 rfl xs182 A183 n184 c185 hn186 _ _ hc197 (h_p0_s_3.at hs) (hs.rd (i := 1) rfl)) ?_; clear hf
          rintro _ w ⟨rfl, hs1⟩ a hf
          have hs : St [] W w [.blk b1 27 [.slice A_p0_s_1 p0_s.A.length c_p0_s_1, .slice A_p0_s_2 p0_s.B.length c_p0_s_2, .slice A_p0_s_3 p0_s.C.length c_p0_s_3], .row A183 n184 c185 2 1 (ints xs182), .row A116 n117 c118 2 1 (ints xs115)] := hs.ext hs1.below
          clear hs1
          refine sY hf hs rfl rfl rfl (Y_assign rfl rfl) ?_; clear hf; intro a hf
          refine wpO_nil ?_
          refine wpL_seq ?_
          refine wpL_seq ?_
          obtain ⟨r204, hj205, hm172⟩ := bind_some hm172
          refine wpL_cut (fun a w => ∃ b203 : Bool, b203 = r204 ∧ Fr a 41 [(2, .pointer (some ⟨b1, 0, none⟩)), (6, .slice A183 n184 c185), (7, .slice A116 n117 c118), (9, .int .i64 r196), (13, .int .i64 p1_n), (14, .int .i64 x120), (34, .bool b203)] ∧ St [] W w [.blk b1 27 [.slice A_p0_s_1 p0_s.A.length c_p0_s_1, .slice A_p0_s_2 p0_s.B.length c_p0_s_2, .slice A_p0_s_3 p0_s.C.length c_p0_s_3], .row A183 n184 c185 2 1 (ints xs182), .row A116 n117 c118 2 1 (ints xs115)]) ?_ ?_
          · refine wpL_region ?_
            refine sY hf hs rfl rfl rfl (Y_move rfl rfl) ?_; clear hf; intro a hf
            obtain ⟨r206, hc207, hj205⟩ := bind_some hj205
            refine sCall hf rfl rfl rfl rfl (cap := []) rfl rfl en86 (impl_areValues_ok F xs182 A183 n184 c185 hn186 _ _ hc207 (hs.rd (i := 1) rfl)) ?_; clear hf
            rintro _ w ⟨rfl, hs1⟩ a hf
            have hs : St [] W w [.blk b1 27 [.slice A_p0_s_1 p0_s.A.length c_p0_s_1, .slice A_p0_s_2 p0_s.B.length c_p0_s_2, .slice A_p0_s_3 p0_s.C.length c_p0_s_3], .row A183 n184 c185 2 1 (ints xs182), .row A116 n117 c118 2 1 (ints xs115)] := hs.ext hs1.below
            clear hs1
            refine sY hf hs rfl rfl rfl (Y_not rfl rfl) ?_; clear hf; intro a hf
            refine sY hf hs rfl rfl rfl (Y_move rfl rfl) ?_; clear hf; intro a hf
            refine bsplit (!r206) (fun hb208 => ?_) (fun hb208 => ?_)
            · have hj205 := bif_t hj205 hb208
              refine sNo hf rfl rfl rfl (congrArg (fun b => some (Value.bool b)) hb208) rfl rfl rfl ?_; clear hf; intro a hf
              refine sNo hf rfl rfl rfl (congrArg (fun b => some (Value.bool b)) hb208) rfl rfl rfl ?_; clear hf; intro a hf
              refine sNo hf rfl rfl rfl (congrArg (fun b => some (Value.bool b)) hb208) rfl rfl rfl ?_; clear hf; intro a hf
              refine sY hf hs rfl rfl rfl (Y_pickT rfl (congrArg (fun b => some (Value.bool b)) hb208) rfl) ?_; clear hf; intro a hf
              refine wpO_nil ?_
              refine wpL_nil (then_normal ?_)
              exact ⟨true, Option.some.inj hj205, (FrD.pick (FrD.pick (FrD.pick (FrD.pick (FrD.pick (FrD.pick (FrD.pick hf.none hf rfl) hf rfl) hf rfl) hf rfl) hf rfl) hf rfl) hf rfl), hs⟩
            · have hj205 := bif_f hj205 hb208
              refine sYg hf hs rfl rfl rfl (congrArg (fun b => some (Value.bool b)) hb208) rfl rfl rfl (Y_move rfl rfl) ?_; clear hf; intro a hf
              obtain ⟨r209, hc210, hj205⟩ := bind_some hj205
              refine sCallg hf rfl rfl rfl (congrArg (fun b => some (Value.bool b)) hb208) rfl rfl rfl rfl (cap := []) rfl rfl en87 (impl_IsValue_ok F r196 _ _ hc210) ?_; clear hf
              rintro _ w ⟨rfl, hs1⟩ a hf
              have hs : St [] W w [.blk b1 27 [.slice A_p0_s_1 p0_s.A.length c_p0_s_1, .slice A_p0_s_2 p0_s.B.length c_p0_s_2, .slice A_p0_s_3 p0_s.C.length c_p0_s_3], .row A183 n184 c185 2 1 (ints xs182), .row A116 n117 c118 2 1 (ints xs115)] := hs.ext hs1.below
              clear hs1
              refine sYg hf hs rfl rfl rfl (congrArg (fun b => some (Value.bool b)) hb208) rfl rfl rfl (Y_not rfl rfl) ?_; clear hf; intro a hf
              refine sY hf hs rfl rfl rfl (Y_pickF rfl (congrArg (fun b => some (Value.bool b)) hb208) rfl) ?_; clear hf; intro a hf
              refine wpO_nil ?_
              refine wpL_nil (then_normal ?_)
              exact ⟨(!r209), Option.some.inj hj205, (FrD.pick (FrD.pick (FrD.pick (FrD.pick (FrD.pick (FrD.pick (FrD.pick hf.none hf rfl) hf rfl) hf rfl) hf rfl) hf rfl) hf rfl) hf rfl), hs⟩
          · rintro a w ⟨b203, hr_, hf, hs⟩
            subst hr_
            try dsimp only at hm172
            refine wpL_cond hf rfl (fun hb211 => ?_) (fun hb211 => ?_)
            · have hm172 := bif_t hm172 hb211
              refine wpL_seq ?_
              refine wpL_region ?_
              refine sY hf hs rfl rfl rfl (Y_assign rfl rfl) ?_; clear hf; intro a hf
              refine sY hf hs rfl rfl rfl (Y_assign rfl rfl) ?_; clear hf; intro a hf
              refine wpO_nil ?_
              have hs : St [] W _ [.blk b1 27 [.slice A_p0_s_1 p0_s.A.length c_p0_s_1, .slice A_p0_s_2 p0_s.B.length c_p0_s_2, .slice A_p0_s_3 p0_s.C.length c_p0_s_3], .row A183 n184 c185 2 1 (ints xs182), .row A116 n117 c118 2 1 (ints xs115), .row none 0 0 2 1 (ints ([] : List Int))] := hs.addNil 2 1
              obtain rfl := Option.some.inj hm172
              try dsimp only at hm
              obtain rfl := Option.some.inj hm
              refine wpL_ret (Qb_ret (Ql_ret (Qb_ret (ret_tmp2 rfl hf rfl rfl ?_))))
              exact ⟨_, rfl, none, 0, 0, rfl, rfl, hs.sel [3] (by decide)⟩
            · have hm172 := bif_f hm172 hb211
              refine wpL_skip ?_
              refine wpL_region ?_
              refine sY hf hs rfl rfl rfl (Y_move rfl rfl) ?_; clear hf; intro a hf
              refine sY hf hs rfl rfl rfl (Y_move rfl rfl) ?_; clear hf; intro a hf
              refine sBuildSlice (parts := [(0, .tmp 36)]) (vs := [.int .i64 r196]) (cells := [.int .i64 r196]) hf hs rfl rfl rfl rfl rfl el23 ti2 rfl rfl rfl rfl ?_; clear hf hs; intro a w A213 hs hA214 hf
              have hs : St [] W w [.blk b1 27 [.slice A_p0_s_1 p0_s.A.length c_p0_s_1, .slice A_p0_s_2 p0_s.B.length c_p0_s_2, .slice A_p0_s_3 p0_s.C.length c_p0_s_3], .row A183 n184 c185 2 1 (ints xs182), .row A116 n117 c118 2 1 (ints xs115), .row A213 1 1 2 1 (ints ([r196]))] := hs
              obtain ⟨xs217, ha218, hm172⟩ := bind_some hm172
              refine sAppendL (i := 2) (xs := xs115) (ys := [r196]) (enc := ints) hf hs rfl rfl rfl rfl rfl rfl hn119 rfl rfl ha218 el23 ti2 rfl rfl rfl (hs.rd (i := 3) rfl) (Nat.succ_pos _) ints_len1 ints_append ints_one ?_; clear hf hs; intro a w A215 c216 hs hf
              have hs : St [] W w [.blk b1 27 [.slice A_p0_s_1 p0_s.A.length c_p0_s_1, .slice A_p0_s_2 p0_s.B.length c_p0_s_2, .slice A_p0_s_3 p0_s.C.length c_p0_s_3], .row A183 n184 c185 2 1 (ints xs182), .row A215 xs217.length c216 2 1 (ints xs217), .row A213 1 1 2 1 (ints ([r196]))] := hs
              refine sY hf hs rfl rfl rfl (Y_assign rfl rfl) ?_; clear hf; intro a hf
              refine wpO_nil ?_
              refine wpL_nil (Qb_normal ?_)
              refine wpL_region ?_
              refine sY hf hs rfl rfl rfl (Y_add rfl rfl rfl) ?_; clear hf; intro a hf
              refine sY hf hs rfl rfl rfl (Y_move rfl rfl) ?_; clear hf; intro a hf
              refine wpO_nil ?_
              refine wpL_nil (Ql_normal ?_)
              exact ⟨xs182, xs217, (IntKind.i64.wrap (x120 + 1)), A183, n184, c185, A215, xs217.length, c216, hm172, hn186, rfl, (FrD.pick (FrD.pick (FrD.pick (FrD.pick (FrD.pick hf.none hf rfl) hf rfl) hf rfl) hf rfl) hf rfl), hs.sel [0, 1, 2] (by decide)⟩
      · have hm172 := bif_f hm172 hb174
        refine wpL_exit (Ql_exit (Qb_exit ?_))
        exact ⟨xs115, A116, n117, c118, Option.some.inj hm172, hn119, (FrD.pick hf.none hf rfl), hs.sel [2] (by decide)⟩
  · rintro a w ⟨xs165, A166, n167, c168, hr_, hn169, hf, hs⟩
    subst hr_
    try dsimp only at hm
    refine wpL_seq ?_
    refine wpL_region ?_
    refine sY hf hs rfl rfl rfl (Y_move rfl rfl) ?_; clear hf; intro a hf
    refine sY hf hs rfl rfl rfl (Y_assign rfl rfl) ?_; clear hf; intro a hf
    refine sY hf hs rfl rfl rfl (Y_assign rfl rfl) ?_; clear hf; intro a hf
    refine wpO_nil ?_
    obtain rfl := Option.some.inj hm
    refine wpL_ret (ret_tmp2 rfl hf rfl rfl ?_)
    exact ⟨_, rfl, A166, n167, c168, rfl, hn169, hs⟩

set_option maxRecDepth 100000 in
theorem impl_ResponseOf_ok (F : Nat) (p0_s : GSystem) (A_p0_s_1 : Option Addr) (n_p0_s_1 c_p0_s_1 : Nat) (hn_p0_s_1 : n_p0_s_1 = p0_s.A.length) (A_p0_s_2 : Option Addr) (n_p0_s_2 c_p0_s_2 : Nat) (hn_p0_s_2 : n_p0_s_2 = p0_s.B.length) (A_p0_s_3 : Option Addr) (n_p0_s_3 c_p0_s_3 : Nat) (hn_p0_s_3 : n_p0_s_3 = p0_s.C.length) (p1_n : Int) (r : List Int × Int) (W : World) (hm : impl_ResponseOf F p0_s p1_n = some r) (h_p0_s_1 : RdM W A_p0_s_1 p0_s.A) (h_p0_s_2 : Rd W A_p0_s_2 (ints p0_s.B)) (h_p0_s_3 : Rd W A_p0_s_3 (ints p0_s.C)) :
    Calls Try.prog 22 [.agg #[.slice A_p0_s_1 n_p0_s_1 c_p0_s_1, .slice A_p0_s_2 n_p0_s_2 c_p0_s_2, .slice A_p0_s_3 n_p0_s_3 c_p0_s_3], .int .i64 p1_n].toArray W fun e w' => ∃ v, e = .returned v ∧ ∃ A16, ∃ n17, ∃ c18, v = .tuple #[.slice A16 n17 c18, .int .i64 r.2] ∧ n17 = r.1.length ∧ St [] W w' [.row A16 n17 c18 2 1 (ints r.1)] := by
  subst hn_p0_s_1
  subst hn_p0_s_2
  subst hn_p0_s_3
  unfold impl_ResponseOf at hm
  refine Calls.enter (N := 17) Try.func22 rfl rfl rfl (fun a hf => ?_)
  have hs := St.start W
  obtain ⟨w, hw_⟩ : ∃ w, w = W := ⟨W, rfl⟩
  clear hw_ w
  refine wpL_seq ?_
  refine wpL_region ?_
  refine sBox hf hs rfl rfl rfl rfl rfl (cs := [.slice A_p0_s_1 p0_s.A.length c_p0_s_1, .slice A_p0_s_2 p0_s.B.length c_p0_s_2, .slice A_p0_s_3 p0_s.C.length c_p0_s_3]) rfl ?_; clear hf hs; intro a w b1 hs hf
  have hs : St [] W w [.blk b1 27 [.slice A_p0_s_1 p0_s.A.length c_p0_s_1, .slice A_p0_s_2 p0_s.B.length c_p0_s_2, .slice A_p0_s_3 p0_s.C.length c_p0_s_3]] := hs
  refine sY hf hs rfl rfl rfl (Y_assign rfl rfl) ?_; clear hf; intro a hf
  refine sY hf hs rfl rfl rfl (Y_assign rfl rfl) ?_; clear hf; intro a hf
  refine wpO_nil ?_
  refine wpL_seq ?_
  refine wpL_seq ?_
  refine wpL_region ?_
  refine sY hf hs rfl rfl rfl (Y_load_blkS rfl rfl (i := 0) rfl ag27 ti27 rfl) ?_; clear hf; intro a hf
  obtain ⟨r2, hc3, hm⟩ := bind_some hm
  refine sCall hf rfl rfl rfl rfl (cap := []) rfl rfl en31 (impl_IsSystem_ok F p0_s A_p0_s_1 p0_s.A.length c_p0_s_1 rfl A_p0_s_2 p0_s.B.length c_p0_s_2 rfl A_p0_s_3 p0_s.C.length c_p0_s_3 rfl _ _ hc3 (h_p0_s_1.at hs) (h_p0_s_2.at hs) (h_p0_s_3.at hs)) ?_; clear hf
  rintro _ w ⟨rfl, hs1⟩ a hf
  have hs : St [] W w [.blk b1 27 [.slice A_p0_s_1 p0_s.A.length c_p0_s_1, .slice A_p0_s_2 p0_s.B.length c_p0_s_2, .slice A_p0_s_3 p0_s.C.length c_p0_s_3]] := hs.ext hs1.below
  clear hs1
  refine sY hf hs rfl rfl rfl (Y_not rfl rfl) ?_; clear hf; intro a hf
  refine wpO_nil ?_
  refine wpL_cond hf rfl (fun hb4 => ?_) (fun hb4 => ?_)
  · have hm := bif_t hm hb4
    refine wpL_seq ?_
    refine wpL_region ?_
    refine sY hf hs rfl rfl rfl (Y_assign rfl rfl) ?_; clear hf; intro a hf
    refine sY hf hs rfl rfl rfl (Y_assign rfl rfl) ?_; clear hf; intro a hf
    refine wpO_nil ?_
    have hs : St [] W _ [.blk b1 27 [.slice A_p0_s_1 p0_s.A.length c_p0_s_1, .slice A_p0_s_2 p0_s.B.length c_p0_s_2, .slice A_p0_s_3 p0_s.C.length c_p0_s_3], .row none 0 0 2 1 (ints ([] : List Int))] := hs.addNil 2 1
    obtain rfl := Option.some.inj hm
    refine wpL_ret (ret_tmp2 rfl hf rfl rfl ?_)
    exact ⟨_, rfl, none, 0, 0, rfl, rfl, hs.sel [1] (by decide)⟩
  · have hm := bif_f hm hb4
    refine wpL_skip ?_
    refine wpL_seq ?_
    refine wpL_seq ?_
    refine wpL_region ?_
    refine sY hf hs rfl rfl rfl (Y_move rfl rfl) ?_; clear hf; intro a hf
    obtain ⟨r6, hc7, hm⟩ := bind_some hm
    refine sCall hf rfl rfl rfl rfl (cap := []) rfl rfl en105 (impl_within_ok F p1_n 0 50 _ _ hc7) ?_; clear hf
    rintro _ w ⟨rfl, hs1⟩ a hf
    have hs : St [] W w [.blk b1 27 [.slice A_p0_s_1 p0_s.A.length c_p0_s_1, .slice A_p0_s_2 p0_s.B.length c_p0_s_2, .slice A_p0_s_3 p0_s.C.length c_p0_s_3]] := hs.ext hs1.below
    clear hs1
    refine sY hf hs rfl rfl rfl (Y_not rfl rfl) ?_; clear hf; intro a hf
    refine wpO_nil ?_
    refine wpL_cond hf rfl (fun hb8 => ?_) (fun hb8 => ?_)
    · have hm := bif_t hm hb8
      refine wpL_seq ?_
      refine wpL_region ?_
      refine sY hf hs rfl rfl rfl (Y_assign rfl rfl) ?_; clear hf; intro a hf
      refine sY hf hs rfl rfl rfl (Y_assign rfl rfl) ?_; clear hf; intro a hf
      refine wpO_nil ?_
      have hs : St [] W _ [.blk b1 27 [.slice A_p0_s_1 p0_s.A.length c_p0_s_1, .slice A_p0_s_2 p0_s.B.length c_p0_s_2, .slice A_p0_s_3 p0_s.C.length c_p0_s_3], .row none 0 0 2 1 (ints ([] : List Int))] := hs.addNil 2 1
      obtain rfl := Option.some.inj hm
      refine wpL_ret (ret_tmp2 rfl hf rfl rfl ?_)
      exact ⟨_, rfl, none, 0, 0, rfl, rfl, hs.sel [1] (by decide)⟩
    · have hm := bif_f hm hb8
      refine wpL_skip ?_
      refine wpL_seq ?_
      refine wpL_region ?_
      refine sY hf hs rfl rfl rfl (Y_load_blkS rfl rfl (i := 0) rfl ag27 ti27 rfl) ?_; clear hf; intro a hf
      refine sY hf hs rfl rfl rfl (Y_move rfl rfl) ?_; clear hf; intro a hf
      obtain ⟨r10, hc11, hm⟩ := bind_some hm
      refine sCall hf rfl rfl rfl rfl (cap := []) rfl rfl en106 (impl_responseOf_ok F p0_s A_p0_s_1 p0_s.A.length c_p0_s_1 rfl A_p0_s_2 p0_s.B.length c_p0_s_2 rfl A_p0_s_3 p0_s.C.length c_p0_s_3 rfl p1_n _ _ hc11 (h_p0_s_1.at hs) (h_p0_s_2.at hs) (h_p0_s_3.at hs)) ?_; clear hf
      rintro _ w ⟨A12, n13, c14, rfl, hn15, hs1⟩ a hf
      have hs : St [] W w [.blk b1 27 [.slice A_p0_s_1 p0_s.A.length c_p0_s_1, .slice A_p0_s_2 p0_s.B.length c_p0_s_2, .slice A_p0_s_3 p0_s.C.length c_p0_s_3], .row A12 n13 c14 2 1 (ints r10.1)] := hs.join hs1
      clear hs1
      refine sY hf hs rfl rfl rfl (Y_extract rfl rfl rfl) ?_; clear hf; intro a hf
      refine sY hf hs rfl rfl rfl (Y_extract rfl rfl rfl) ?_; clear hf; intro a hf
      refine sY hf hs rfl rfl rfl (Y_assign rfl rfl) ?_; clear hf; intro a hf
      refine sY hf hs rfl rfl rfl (Y_assign rfl rfl) ?_; clear hf; intro a hf
      refine wpO_nil ?_
      obtain rfl := Option.some.inj hm
      refine wpL_ret (ret_tmp2 rfl hf rfl rfl ?_)
      exact ⟨_, rfl, A12, n13, c14, rfl, hn15, hs.sel [1] (by decide)⟩

set_option maxHeartbeats 2000000 in
set_option maxRecDepth 100000 in
theorem laws_FnSeries_ok (F : Nat) (p0 : List Int) (A_p0_1 : Option Addr) (n_p0_1 c_p0_1 : Nat) (hn_p0_1 : n_p0_1 = p0.length) (r : Bool) (W : World) (hm : laws_FnSeries F p0 = some r) (h_p0_1 : Rd W A_p0_1 (bytes p0)) :
    Calls Try.prog 4 [.slice A_p0_1 n_p0_1 c_p0_1].toArray W fun e w' => ∃ v, e = .returned v ∧ v = .bool r ∧ St [] W w' [] := by
  subst hn_p0_1
  unfold laws_FnSeries at hm
  refine Calls.enter (N := 187) Try.func4 rfl rfl rfl (fun a hf => ?_)
  have hs := St.start W
  obtain ⟨w, hw_⟩ : ∃ w, w = W := ⟨W, rfl⟩
  clear hw_ w
  refine wpL_seq ?_
  refine wpL_region ?_
  refine sY hf hs rfl rfl rfl (Y_assign rfl rfl) ?_; clear hf; intro a hf
  refine wpO_nil ?_
  refine wpL_seq ?_
  refine wpL_seq ?_
  refine wpL_region ?_
  refine sY hf hs rfl rfl rfl (Y_move rfl rfl) ?_; clear hf; intro a hf
  obtain ⟨r1, hc2, hm⟩ := bind_some hm
  refine sCall hf rfl rfl rfl rfl (cap := []) rfl rfl en17 (laws_big_ok F p0 A_p0_1 p0.length c_p0_1 rfl _ _ hc2 (h_p0_1.at hs)) ?_; clear hf
  rintro _ w ⟨rfl, hs1⟩ a hf
  have hs : St [] W w [] := hs.ext hs1.below
  clear hs1
  refine wpO_nil ?_
  refine wpL_cond hf rfl (fun hb3 => ?_) (fun hb3 => ?_)
  · have hm := bif_t hm hb3
    refine wpL_seq ?_
    refine wpL_region ?_
    refine sY hf hs rfl rfl rfl (Y_assign rfl rfl) ?_; clear hf; intro a hf
    refine wpO_nil ?_
    obtain rfl := Option.some.inj hm
    refine wpL_ret (ret_tmp rfl hf rfl ?_)
    exact ⟨_, rfl, rfl, hs⟩
  · have hm := bif_f hm hb3
    refine wpL_skip ?_
    refine wpL_seq ?_
    refine wpL_region ?_
    refine sY hf hs rfl rfl rfl (Y_move rfl rfl) ?_; clear hf; intro a hf
    obtain ⟨r4, hc5, hm⟩ := bind_some hm
    refine sCall hf rfl rfl rfl rfl (cap := []) rfl rfl en18 (spec_DrawSeriesSystem_ok F p0 A_p0_1 p0.length c_p0_1 rfl _ _ hc5 (h_p0_1.at hs)) ?_; clear hf
    rintro _ w ⟨A6, n7, c8, vs10, A11, n12, c13, A15, n16, c17, A19, n20, c21, vs23, A24, n25, c26, A28, n29, c30, rfl, hn9, hn14, hn18, hn22, hn27, hn31, hs1⟩ a hf
    have hs : St [] W w [.mat A6 n7 c8 23 2 vs10 r4.1.A, .row A11 n12 c13 2 1 (ints r4.1.B), .row A15 n16 c17 2 1 (ints r4.1.C), .mat A19 n20 c21 23 2 vs23 r4.2.A, .row A24 n25 c26 2 1 (ints r4.2.B), .row A28 n29 c30 2 1 (ints r4.2.C)] := hs.join hs1
    clear hs1
    refine sY hf hs rfl rfl rfl (Y_move rfl rfl) ?_; clear hf; intro a hf
    refine sY hf hs rfl rfl rfl (Y_extract rfl rfl rfl) ?_; clear hf; intro a hf
    refine sY hf hs rfl rfl rfl (Y_extract rfl rfl rfl) ?_; clear hf; intro a hf
    refine sAlloc hf hs rfl rfl rfl rfl ti27 ?_; clear hf hs; intro a w b32 hs hf
    have hs : St [] W w [.mat A6 n7 c8 23 2 vs10 r4.1.A, .row A11 n12 c13 2 1 (ints r4.1.B), .row A15 n16 c17 2 1 (ints r4.1.C), .mat A19 n20 c21 23 2 vs23 r4.2.A, .row A24 n25 c26 2 1 (ints r4.2.B), .row A28 n29 c30 2 1 (ints r4.2.C), .blk b32 27 [.slice none 0 0, .slice none 0 0, .slice none 0 0]] := hs
    refine sAlloc hf hs rfl rfl rfl rfl ti27 ?_; clear hf hs; intro a w b33 hs hf
    have hs : St [] W w [.mat A6 n7 c8 23 2 vs10 r4.1.A, .row A11 n12 c13 2 1 (ints r4.1.B), .row A15 n16 c17 2 1 (ints r4.1.C), .mat A19 n20 c21 23 2 vs23 r4.2.A, .row A24 n25 c26 2 1 (ints r4.2.B), .row A28 n29 c30 2 1 (ints r4.2.C), .blk b32 27 [.slice none 0 0, .slice none 0 0, .slice none 0 0], .blk b33 27 [.slice none 0 0, .slice none 0 0, .slice none 0 0]] := hs
    refine sStore (i := 6) (us := [.slice A6 n7 c8, .slice A11 n12 c13, .slice A15 n16 c17]) hf hs rfl rfl rfl rfl rfl rfl ti27 rfl rfl rfl (Nat.le_of_ble_eq_true rfl) rfl ?_; clear hs; intro w hs
    have hs : St [] W w [.mat A6 n7 c8 23 2 vs10 r4.1.A, .row A11 n12 c13 2 1 (ints r4.1.B), .row A15 n16 c17 2 1 (ints r4.1.C), .mat A19 n20 c21 23 2 vs23 r4.2.A, .row A24 n25 c26 2 1 (ints r4.2.B), .row A28 n29 c30 2 1 (ints r4.2.C), .blk b32 27 [.slice A6 n7 c8, .slice A11 n12 c13, .slice A15 n16 c17], .blk b33 27 [.slice none 0 0, .slice none 0 0, .slice none 0 0]] := hs
    refine sStore (i := 7) (us := [.slice A19 n20 c21, .slice A24 n25 c26, .slice A28 n29 c30]) hf hs rfl rfl rfl rfl rfl rfl ti27 rfl rfl rfl (Nat.le_of_ble_eq_true rfl) rfl ?_; clear hs; intro w hs
    have hs : St [] W w [.mat A6 n7 c8 23 2 vs10 r4.1.A, .row A11 n12 c13 2 1 (ints r4.1.B), .row A15 n16 c17 2 1 (ints r4.1.C), .mat A19 n20 c21 23 2 vs23 r4.2.A, .row A24 n25 c26 2 1 (ints r4.2.B), .row A28 n29 c30 2 1 (ints r4.2.C), .blk b32 27 [.slice A6 n7 c8, .slice A11 n12 c13, .slice A15 n16 c17], .blk b33 27 [.slice A19 n20 c21, .slice A24 n25 c26, .slice A28 n29 c30]] := hs
    refine wpO_nil ?_
    refine wpL_seq ?_
    refine wpL_region ?_
    refine sY hf hs rfl rfl rfl (Y_load_blkS rfl rfl (i := 6) rfl ag27 ti27 rfl) ?_; clear hf; intro a hf
    refine sY hf hs rfl rfl rfl (Y_load_blkS rfl rfl (i := 7) rfl ag27 ti27 rfl) ?_; clear hf; intro a hf
    obtain ⟨r34, hc35, hm⟩ := bind_some hm
    refine sCall hf rfl rfl rfl rfl (cap := []) rfl rfl en13 (impl_SeriesSystem_ok F (GSystem.mk r4.1.A r4.1.B r4.1.C) A6 n7 c8 hn9 A11 n12 c13 hn14 A15 n16 c17 hn18 (GSystem.mk r4.2.A r4.2.B r4.2.C) A19 n20 c21 hn22 A24 n25 c26 hn27 A28 n29 c30 hn31 _ _ hc35 (hs.rdM (i := 0) rfl) (hs.rd (i := 1) rfl) (hs.rd (i := 2) rfl) (hs.rdM (i := 3) rfl) (hs.rd (i := 4) rfl) (hs.rd (i := 5) rfl)) ?_; clear hf
    rintro _ w ⟨A36, n37, c38, vs40, A41, n42, c43, A45, n46, c47, rfl, hn39, hn44, hn48, hs1⟩ a hf
    have hs : St [] W w [.mat A6 n7 c8 23 2 vs10 r4.1.A, .row A11 n12 c13 2 1 (ints r4.1.B), .row A15 n16 c17 2 1 (ints r4.1.C), .mat A19 n20 c21 23 2 vs23 r4.2.A, .row A24 n25 c26 2 1 (ints r4.2.B), .row A28 n29 c30 2 1 (ints r4.2.C), .blk b32 27 [.slice A6 n7 c8, .slice A11 n12 c13, .slice A15 n16 c17], .blk b33 27 [.slice A19 n20 c21, .slice A24 n25 c26, .slice A28 n29 c30], .mat A36 n37 c38 23 2 vs40 r34.1.A, .row A41 n42 c43 2 1 (ints r34.1.B), .row A45 n46 c47 2 1 (ints r34.1.C)] := hs.join hs1
    clear hs1
    refine sY hf hs rfl rfl rfl (Y_move rfl rfl) ?_; clear hf; intro a hf
    refine sY hf hs rfl rfl rfl (Y_extract rfl rfl rfl) ?_; clear hf; intro a hf
    refine sY hf hs rfl rfl rfl (Y_extract rfl rfl rfl) ?_; clear hf; intro a hf
    refine sAlloc hf hs rfl rfl rfl rfl ti27 ?_; clear hf hs; intro a w b49 hs hf
    have hs : St [] W w [.mat A6 n7 c8 23 2 vs10 r4.1.A, .row A11 n12 c13 2 1 (ints r4.1.B), .row A15 n16 c17 2 1 (ints r4.1.C), .mat A19 n20 c21 23 2 vs23 r4.2.A, .row A24 n25 c26 2 1 (ints r4.2.B), .row A28 n29 c30 2 1 (ints r4.2.C), .blk b32 27 [.slice A6 n7 c8, .slice A11 n12 c13, .slice A15 n16 c17], .blk b33 27 [.slice A19 n20 c21, .slice A24 n25 c26, .slice A28 n29 c30], .mat A36 n37 c38 23 2 vs40 r34.1.A, .row A41 n42 c43 2 1 (ints r34.1.B), .row A45 n46 c47 2 1 (ints r34.1.C), .blk b49 27 [.slice none 0 0, .slice none 0 0, .slice none 0 0]] := hs
    refine sStore (i := 11) (us := [.slice A36 n37 c38, .slice A41 n42 c43, .slice A45 n46 c47]) hf hs rfl rfl rfl rfl rfl rfl ti27 rfl rfl rfl (Nat.le_of_ble_eq_true rfl) rfl ?_; clear hs; intro w hs
    have hs : St [] W w [.mat A6 n7 c8 23 2 vs10 r4.1.A, .row A11 n12 c13 2 1 (ints r4.1.B), .row A15 n16 c17 2 1 (ints r4.1.C), .mat A19 n20 c21 23 2 vs23 r4.2.A, .row A24 n25 c26 2 1 (ints r4.2.B), .row A28 n29 c30 2 1 (ints r4.2.C), .blk b32 27 [.slice A6 n7 c8, .slice A11 n12 c13, .slice A15 n16 c17], .blk b33 27 [.slice A19 n20 c21, .slice A24 n25 c26, .slice A28 n29 c30], .mat A36 n37 c38 23 2 vs40 r34.1.A, .row A41 n42 c43 2 1 (ints r34.1.B), .row A45 n46 c47 2 1 (ints r34.1.C), .blk b49 27 [.slice A36 n37 c38, .slice A41 n42 c43, .slice A45 n46 c47]] := hs
    refine sY hf hs rfl rfl rfl (Y_assign rfl rfl) ?_; clear hf; intro a hf
    refine wpO_nil ?_
    refine wpL_seq ?_
    refine wpL_region ?_
    refine sY hf hs rfl rfl rfl (Y_load_blkS rfl rfl (i := 6) rfl ag27 ti27 rfl) ?_; clear hf; intro a hf
    refine sY hf hs rfl rfl rfl (Y_load_blkS rfl rfl (i := 7) rfl ag27 ti27 rfl) ?_; clear hf; intro a hf
    obtain ⟨r50, hc51, hm⟩ := bind_some hm
    refine sCall hf rfl rfl rfl rfl (cap := []) rfl rfl en11 (spec_SeriesSystem_ok F (GSystem.mk r4.1.A r4.1.B r4.1.C) A6 n7 c8 hn9 A11 n12 c13 hn14 A15 n16 c17 hn18 (GSystem.mk r4.2.A r4.2.B r4.2.C) A19 n20 c21 hn22 A24 n25 c26 hn27 A28 n29 c30 hn31 _ _ hc51 (hs.rdM (i := 0) rfl) (hs.rd (i := 1) rfl) (hs.rd (i := 2) rfl) (hs.rdM (i := 3) rfl) (hs.rd (i := 4) rfl) (hs.rd (i := 5) rfl)) ?_; clear hf
    rintro _ w ⟨A52, n53, c54, vs56, A57, n58, c59, A61, n62, c63, rfl, hn55, hn60, hn64, hs1⟩ a hf
    have hs : St [] W w [.mat A6 n7 c8 23 2 vs10 r4.1.A, .row A11 n12 c13 2 1 (ints r4.1.B), .row A15 n16 c17 2 1 (ints r4.1.C), .mat A19 n20 c21 23 2 vs23 r4.2.A, .row A24 n25 c26 2 1 (ints r4.2.B), .row A28 n29 c30 2 1 (ints r4.2.C), .blk b32 27 [.slice A6 n7 c8, .slice A11 n12 c13, .slice A15 n16 c17], .blk b33 27 [.slice A19 n20 c21, .slice A24 n25 c26, .slice A28 n29 c30], .mat A36 n37 c38 23 2 vs40 r34.1.A, .row A41 n42 c43 2 1 (ints r34.1.B), .row A45 n46 c47 2 1 (ints r34.1.C), .blk b49 27 [.slice A36 n37 c38, .slice A41 n42 c43, .slice A45 n46 c47], .mat A52 n53 c54 23 2 vs56 r50.1.A, .row A57 n58 c59 2 1 (ints r50.1.B), .row A61 n62 c63 2 1 (ints r50.1.C)] := hs.join hs1
    clear hs1
    refine sY hf hs rfl rfl rfl (Y_move rfl rfl) ?_; clear hf; intro a hf
    refine sY hf hs rfl rfl rfl (Y_extract rfl rfl rfl) ?_; clear hf; intro a hf
    refine sY hf hs rfl rfl rfl (Y_extract rfl rfl rfl) ?_; clear hf; intro a hf
    refine sAlloc hf hs rfl rfl rfl rfl ti27 ?_; clear hf hs; intro a w b65 hs hf
    have hs : St [] W w [.mat A6 n7 c8 23 2 vs10 r4.1.A, .row A11 n12 c13 2 1 (ints r4.1.B), .row A15 n16 c17 2 1 (ints r4.1.C), .mat A19 n20 c21 23 2 vs23 r4.2.A, .row A24 n25 c26 2 1 (ints r4.2.B), .row A28 n29 c30 2 1 (ints r4.2.C), .blk b32 27 [.slice A6 n7 c8, .slice A11 n12 c13, .slice A15 n16 c17], .blk b33 27 [.slice A19 n20 c21, .slice A24 n25 c26, .slice A28 n29 c30], .mat A36 n37 c38 23 2 vs40 r34.1.A, .row A41 n42 c43 2 1 (ints r34.1.B), .row A45 n46 c47 2 1 (ints r34.1.C), .blk b49 27 [.slice A36 n37 c38, .slice A41 n42 c43, .slice A45 n46 c47], .mat A52 n53 c54 23 2 vs56 r50.1.A, .row A57 n58 c59 2 1 (ints r50.1.B), .row A61 n62 c63 2 1 (ints r50.1.C), .blk b65 27 [.slice none 0 0, .slice none 0 0, .slice none 0 0]] := hs
    refine sStore (i := 15) (us := [.slice A52 n53 c54, .slice A57 n58 c59, .slice A61 n62 c63]) hf hs rfl rfl rfl rfl rfl rfl ti27 rfl rfl rfl (Nat.le_of_ble_eq_true rfl) rfl ?_; clear hs; intro w hs
    have hs : St [] W w [.mat A6 n7 c8 23 2 vs10 r4.1.A, .row A11 n12 c13 2 1 (ints r4.1.B), .row A15 n16 c17 2 1 (ints r4.1.C), .mat A19 n20 c21 23 2 vs23 r4.2.A, .row A24 n25 c26 2 1 (ints r4.2.B), .row A28 n29 c30 2 1 (ints r4.2.C), .blk b32 27 [.slice A6 n7 c8, .slice A11 n12 c13, .slice A15 n16 c17], .blk b33 27 [.slice A19 n20 c21, .slice A24 n25 c26, .slice A28 n29 c30], .mat A36 n37 c38 23 2 vs40 r34.1.A, .row A41 n42 c43 2 1 (ints r34.1.B), .row A45 n46 c47 2 1 (ints r34.1.C), .blk b49 27 [.slice A36 n37 c38, .slice A41 n42 c43, .slice A45 n46 c47], .mat A52 n53 c54 23 2 vs56 r50.1.A, .row A57 n58 c59 2 1 (ints r50.1.B), .row A61 n62 c63 2 1 (ints r50.1.C), .blk b65 27 [.slice A52 n53 c54, .slice A57 n58 c59, .slice A61 n62 c63]] := hs
    refine sY hf hs rfl rfl rfl (Y_assign rfl rfl) ?_; clear hf; intro a hf
    refine wpO_nil ?_
    refine wpL_seq ?_
    refine wpL_region ?_
    refine sY hf hs rfl rfl rfl (Y_load_blkS rfl rfl (i := 6) rfl ag27 ti27 rfl) ?_; clear hf; intro a hf
    refine sY hf hs rfl rfl rfl (Y_load_blkS rfl rfl (i := 7) rfl ag27 ti27 rfl) ?_; clear hf; intro a hf
    obtain ⟨r66, hc67, hm⟩ := bind_some hm
    refine sCall hf rfl rfl rfl rfl (cap := []) rfl rfl en19 (impl_ParallelSystem_ok F (GSystem.mk r4.1.A r4.1.B r4.1.C) A6 n7 c8 hn9 A11 n12 c13 hn14 A15 n16 c17 hn18 (GSystem.mk r4.2.A r4.2.B r4.2.C) A19 n20 c21 hn22 A24 n25 c26 hn27 A28 n29 c30 hn31 _ _ hc67 (hs.rdM (i := 0) rfl) (hs.rd (i := 1) rfl) (hs.rd (i := 2) rfl) (hs.rdM (i := 3) rfl) (hs.rd (i := 4) rfl) (hs.rd (i := 5) rfl)) ?_; clear hf
    rintro _ w ⟨A68, n69, c70, vs72, A73, n74, c75, A77, n78, c79, rfl, hn71, hn76, hn80, hs1⟩ a hf
    have hs : St [] W w [.mat A6 n7 c8 23 2 vs10 r4.1.A, .row A11 n12 c13 2 1 (ints r4.1.B), .row A15 n16 c17 2 1 (ints r4.1.C), .mat A19 n20 c21 23 2 vs23 r4.2.A, .row A24 n25 c26 2 1 (ints r4.2.B), .row A28 n29 c30 2 1 (ints r4.2.C), .blk b32 27 [.slice A6 n7 c8, .slice A11 n12 c13, .slice A15 n16 c17], .blk b33 27 [.slice A19 n20 c21, .slice A24 n25 c26, .slice A28 n29 c30], .mat A36 n37 c38 23 2 vs40 r34.1.A, .row A41 n42 c43 2 1 (ints r34.1.B), .row A45 n46 c47 2 1 (ints r34.1.C), .blk b49 27 [.slice A36 n37 c38, .slice A41 n42 c43, .slice A45 n46 c47], .mat A52 n53 c54 23 2 vs56 r50.1.A, .row A57 n58 c59 2 1 (ints r50.1.B), .row A61 n62 c63 2 1 (ints r50.1.C), .blk b65 27 [.slice A52 n53 c54, .slice A57 n58 c59, .slice A61 n62 c63], .mat A68 n69 c70 23 2 vs72 r66.1.A, .row A73 n74 c75 2 1 (ints r66.1.B), .row A77 n78 c79 2 1 (ints r66.1.C)] := hs.join hs1
    clear hs1
    refine sY hf hs rfl rfl rfl (Y_move rfl rfl) ?_; clear hf; intro a hf
    refine sY hf hs rfl rfl rfl (Y_extract rfl rfl rfl) ?_; clear hf; intro a hf
    refine sY hf hs rfl rfl rfl (Y_extract rfl rfl rfl) ?_; clear hf; intro a hf
    refine sAlloc hf hs rfl rfl rfl rfl ti27 ?_; clear hf hs; intro a w b81 hs hf
    have hs : St [] W w [.mat A6 n7 c8 23 2 vs10 r4.1.A, .row A11 n12 c13 2 1 (ints r4.1.B), .row A15 n16 c17 2 1 (ints r4.1.C), .mat A19 n20 c21 23 2 vs23 r4.2.A, .row A24 n25 c26 2 1 (ints r4.2.B), .row A28 n29 c30 2 1 (ints r4.2.C), .blk b32 27 [.slice A6 n7 c8, .slice A11 n12 c13, .slice A15 n16 c17], .blk b33 27 [.slice A19 n20 c21, .slice A24 n25 c26, .slice A28 n29 c30], .mat A36 n37 c38 23 2 vs40 r34.1.A, .row A41 n42 c43 2 1 (ints r34.1.B), .row A45 n46 c47 2 1 (ints r34.1.C), .blk b49 27 [.slice A36 n37 c38, .slice A41 n42 c43, .slice A45 n46 c47], .mat A52 n53 c54 23 2 vs56 r50.1.A, .row A57 n58 c59 2 1 (ints r50.1.B), .row A61 n62 c63 2 1 (ints r50.1.C), .blk b65 27 [.slice A52 n53 c54, .slice A57 n58 c59, .slice A61 n62 c63], .mat A68 n69 c70 23 2 vs72 r66.1.A, .row A73 n74 c75 2 1 (ints r66.1.B), .row A77 n78 c79 2 1 (ints r66.1.C), .blk b81 27 [.slice none 0 0, .slice none 0 0, .slice none 0 0]] := hs
    refine sStore (i := 19) (us := [.slice A68 n69 c70, .slice A73 n74 c75, .slice A77 n78 c79]) hf hs rfl rfl rfl rfl rfl rfl ti27 rfl rfl rfl (Nat.le_of_ble_eq_true rfl) rfl ?_; clear hs; intro w hs
    have hs : St [] W w [.mat A6 n7 c8 23 2 vs10 r4.1.A, .row A11 n12 c13 2 1 (ints r4.1.B), .row A15 n16 c17 2 1 (ints r4.1.C), .mat A19 n20 c21 23 2 vs23 r4.2.A, .row A24 n25 c26 2 1 (ints r4.2.B), .row A28 n29 c30 2 1 (ints r4.2.C), .blk b32 27 [.slice A6 n7 c8, .slice A11 n12 c13, .slice A15 n16 c17], .blk b33 27 [.slice A19 n20 c21, .slice A24 n25 c26, .slice A28 n29 c30], .mat A36 n37 c38 23 2 vs40 r34.1.A, .row A41 n42 c43 2 1 (ints r34.1.B), .row A45 n46 c47 2 1 (ints r34.1.C), .blk b49 27 [.slice A36 n37 c38, .slice A41 n42 c43, .slice A45 n46 c47], .mat A52 n53 c54 23 2 vs56 r50.1.A, .row A57 n58 c59 2 1 (ints r50.1.B), .row A61 n62 c63 2 1 (ints r50.1.C), .blk b65 27 [.slice A52 n53 c54, .slice A57 n58 c59, .slice A61 n62 c63], .mat A68 n69 c70 23 2 vs72 r66.1.A, .row A73 n74 c75 2 1 (ints r66.1.B), .row A77 n78 c79 2 1 (ints r66.1.C), .blk b81 27 [.slice A68 n69 c70, .slice A73 n74 c75, .slice A77 n78 c79]] := hs
    refine sY hf hs rfl rfl rfl (Y_assign rfl rfl) ?_; clear hf; intro a hf
    refine wpO_nil ?_
    refine wpL_seq ?_
    refine wpL_region ?_
    refine sY hf hs rfl rfl rfl (Y_load_blkS rfl rfl (i := 6) rfl ag27 ti27 rfl) ?_; clear hf; intro a hf
    refine sY hf hs rfl rfl rfl (Y_load_blkS rfl rfl (i := 7) rfl ag27 ti27 rfl) ?_; clear hf; intro a hf
    obtain ⟨r82, hc83, hm⟩ := bind_some hm
    refine sCall hf rfl rfl rfl rfl (cap := []) rfl rfl en20 (spec_ParallelSystem_ok F (GSystem.mk r4.1.A r4.1.B r4.1.C) A6 n7 c8 hn9 A11 n12 c13 hn14 A15 n16 c17 hn18 (GSystem.mk r4.2.A r4.2.B r4.2.C) A19 n20 c21 hn22 A24 n25 c26 hn27 A28 n29 c30 hn31 _ _ hc83 (hs.rdM (i := 0) rfl) (hs.rd (i := 1) rfl) (hs.rd (i := 2) rfl) (hs.rdM (i := 3) rfl) (hs.rd (i := 4) rfl) (hs.rd (i := 5) rfl)) ?_; clear hf
    rintro _ w ⟨A84, n85, c86, vs88, A89, n90, c91, A93, n94, c95, rfl, hn87, hn92, hn96, hs1⟩ a hf
    have hs : St [] W w [.mat A6 n7 c8 23 2 vs10 r4.1.A, .row A11 n12 c13 2 1 (ints r4.1.B), .row A15 n16 c17 2 1 (ints r4.1.C), .mat A19 n20 c21 23 2 vs23 r4.2.A, .row A24 n25 c26 2 1 (ints r4.2.B), .row A28 n29 c30 2 1 (ints r4.2.C), .blk b32 27 [.slice A6 n7 c8, .slice A11 n12 c13, .slice A15 n16 c17], .blk b33 27 [.slice A19 n20 c21, .slice A24 n25 c26, .slice A28 n29 c30], .mat A36 n37 c38 23 2 vs40 r34.1.A, .row A41 n42 c43 2 1 (ints r34.1.B), .row A45 n46 c47 2 1 (ints r34.1.C), .blk b49 27 [.slice A36 n37 c38, .slice A41 n42 c43, .slice A45 n46 c47], .mat A52 n53 c54 23 2 vs56 r50.1.A, .row A57 n58 c59 2 1 (ints r50.1.B), .row A61 n62 c63 2 1 (ints r50.1.C), .blk b65 27 [.slice A52 n53 c54, .slice A57 n58 c59, .slice A61 n62 c63], .mat A68 n69 c70 23 2 vs72 r66.1.A, .row A73 n74 c75 2 1 (ints r66.1.B), .row A77 n78 c79 2 1 (ints r66.1.C), .blk b81 27 [.slice A68 n69 c70, .slice A73 n74 c75, .slice A77 n78 c79], .mat A84 n85 c86 23 2 vs88 r82.1.A, .row A89 n90 c91 2 1 (ints r82.1.B), .row A93 n94 c95 2 1 (ints r82.1.C)] := hs.join hs1
    clear hs1
    refine sY hf hs rfl rfl rfl (Y_move rfl rfl) ?_; clear hf; intro a hf
    refine sY hf hs rfl rfl rfl (Y_extract rfl rfl rfl) ?_; clear hf; intro a hf
    refine sY hf hs rfl rfl rfl (Y_extract rfl rfl rfl) ?_; clear hf; intro a hf
    refine sAlloc hf hs rfl rfl rfl rfl ti27 ?_; clear hf hs; intro a w b97 hs hf
    have hs : St [] W w [.mat A6 n7 c8 23 2 vs10 r4.1.A, .row A11 n12 c13 2 1 (ints r4.1.B), .row A15 n16 c17 2 1 (ints r4.1.C), .mat A19 n20 c21 23 2 vs23 r4.2.A, .row A24 n25 c26 2 1 (ints r4.2.B), .row A28 n29 c30 2 1 (ints r4.2.C), .blk b32 27 [.slice A6 n7 c8, .slice A11 n12 c13, .slice A15 n16 c17], .blk b33 27 [.slice A19 n20 c21, .slice A24 n25 c26, .slice A28 n29 c30], .mat A36 n37 c38 23 2 vs40 r34.1.A, .row A41 n42 c43 2 1 (ints r34.1.B), .row A45 n46 c47 2 1 (ints r34.1.C), .blk b49 27 [.slice A36 n37 c38, .slice A41 n42 c43, .slice A45 n46 c47], .mat A52 n53 c54 23 2 vs56 r50.1.A, .row A57 n58 c59 2 1 (ints r50.1.B), .row A61 n62 c63 2 1 (ints r50.1.C), .blk b65 27 [.slice A52 n53 c54, .slice A57 n58 c59, .slice A61 n62 c63], .mat A68 n69 c70 23 2 vs72 r66.1.A, .row A73 n74 c75 2 1 (ints r66.1.B), .row A77 n78 c79 2 1 (ints r66.1.C), .blk b81 27 [.slice A68 n69 c70, .slice A73 n74 c75, .slice A77 n78 c79], .mat A84 n85 c86 23 2 vs88 r82.1.A, .row A89 n90 c91 2 1 (ints r82.1.B), .row A93 n94 c95 2 1 (ints r82.1.C), .blk b97 27 [.slice none 0 0, .slice none 0 0, .slice none 0 0]] := hs
    refine sStore (i := 23) (us := [.slice A84 n85 c86, .slice A89 n90 c91, .slice A93 n94 c95]) hf hs rfl rfl rfl rfl rfl rfl ti27 rfl rfl rfl (Nat.le_of_ble_eq_true rfl) rfl ?_; clear hs; intro w hs
    have hs : St [] W w [.mat A6 n7 c8 23 2 vs10 r4.1.A, .row A11 n12 c13 2 1 (ints r4.1.B), .row A15 n16 c17 2 1 (ints r4.1.C), .mat A19 n20 c21 23 2 vs23 r4.2.A, .row A24 n25 c26 2 1 (ints r4.2.B), .row A28 n29 c30 2 1 (ints r4.2.C), .blk b32 27 [.slice A6 n7 c8, .slice A11 n12 c13, .slice A15 n16 c17], .blk b33 27 [.slice A19 n20 c21, .slice A24 n25 c26, .slice A28 n29 c30], .mat A36 n37 c38 23 2 vs40 r34.1.A, .row A41 n42 c43 2 1 (ints r34.1.B), .row A45 n46 c47 2 1 (ints r34.1.C), .blk b49 27 [.slice A36 n37 c38, .slice A41 n42 c43, .slice A45 n46 c47], .mat A52 n53 c54 23 2 vs56 r50.1.A, .row A57 n58 c59 2 1 (ints r50.1.B), .row A61 n62 c63 2 1 (ints r50.1.C), .blk b65 27 [.slice A52 n53 c54, .slice A57 n58 c59, .slice A61 n62 c63], .mat A68 n69 c70 23 2 vs72 r66.1.A, .row A73 n74 c75 2 1 (ints r66.1.B), .row A77 n78 c79 2 1 (ints r66.1.C), .blk b81 27 [.slice A68 n69 c70, .slice A73 n74 c75, .slice A77 n78 c79], .mat A84 n85 c86 23 2 vs88 r82.1.A, .row A89 n90 c91 2 1 (ints r82.1.B), .row A93 n94 c95 2 1 (ints r82.1.C), .blk b97 27 [.slice A84 n85 c86, .slice A89 n90 c91, .slice A93 n94 c95]] := hs
    refine sY hf hs rfl rfl rfl (Y_assign rfl rfl) ?_; clear hf; intro a hf
    refine wpO_nil ?_
    refine wpL_seq ?_
    refine wpL_seq ?_
    obtain ⟨r106, hj107, hm⟩ := bind_some hm
    refine wpL_cut (fun a w => ∃ b105 : Bool, b105 = r106 ∧ Fr a 187 [(3, .pointer (some ⟨b32, 0, none⟩)), (4, .pointer (some ⟨b33, 0, none⟩)), (5, .pointer (some ⟨b49, 0, none⟩)), (6, .int .i64 r34.2), (9, .pointer (some ⟨b81, 0, none⟩)), (10, .int .i64 r66.2), (74, .bool b105)] ∧ St [] W w [.blk b32 27 [.slice A6 n7 c8, .slice A11 n12 c13, .slice A15 n16 c17], .mat A6 n7 c8 23 2 vs10 r4.1.A, .row A11 n12 c13 2 1 (ints r4.1.B), .row A15 n16 c17 2 1 (ints r4.1.C), .blk b33 27 [.slice A19 n20 c21, .slice A24 n25 c26, .slice A28 n29 c30], .mat A19 n20 c21 23 2 vs23 r4.2.A, .row A24 n25 c26 2 1 (ints r4.2.B), .row A28 n29 c30 2 1 (ints r4.2.C), .blk b49 27 [.slice A36 n37 c38, .slice A41 n42 c43, .slice A45 n46 c47], .mat A36 n37 c38 23 2 vs40 r34.1.A, .row A41 n42 c43 2 1 (ints r34.1.B), .row A45 n46 c47 2 1 (ints r34.1.C), .blk b81 27 [.slice A68 n69 c70, .slice A73 n74 c75, .slice A77 n78 c79], .mat A68 n69 c70 23 2 vs72 r66.1.A, .row A73 n74 c75 2 1 (ints r66.1.B), .row A77 n78 c79 2 1 (ints r66.1.C)]) ?_ ?_
    · refine wpL_region ?_
      refine sY hf hs rfl rfl rfl (Y_move rfl rfl) ?_; clear hf; intro a hf
      refine sY hf hs rfl rfl rfl (Y_move rfl rfl) ?_; clear hf; intro a hf
      refine sY hf hs rfl rfl rfl (Y_neq rfl rfl rfl) ?_; clear hf; intro a hf
      refine sY hf hs rfl rfl rfl (Y_move rfl rfl) ?_; clear hf; intro a hf
      refine bsplit (r34.2 != r50.2) (fun hb108 => ?_) (fun hb108 => ?_)
      · have hj107 := bif_t hj107 hb108
        refine sNo hf rfl rfl rfl (congrArg (fun b => some (Value.bool b)) hb108) rfl rfl rfl ?_; clear hf; intro a hf
        refine sNo hf rfl rfl rfl (congrArg (fun b => some (Value.bool b)) hb108) rfl rfl rfl ?_; clear hf; intro a hf
        refine sNo hf rfl rfl rfl (congrArg (fun b => some (Value.bool b)) hb108) rfl rfl rfl ?_; clear hf; intro a hf
        refine sNo hf rfl rfl rfl (congrArg (fun b => some (Value.bool b)) hb108) rfl rfl rfl ?_; clear hf; intro a hf
        refine sY hf hs rfl rfl rfl (Y_pickT rfl (congrArg (fun b => some (Value.bool b)) hb108) rfl) ?_; clear hf; intro a hf
        refine sY hf hs rfl rfl rfl (Y_move rfl rfl) ?_; clear hf; intro a hf
        refine sNo hf rfl rfl rfl rfl rfl rfl rfl ?_; clear hf; intro a hf
        refine sNo hf rfl rfl rfl rfl rfl rfl rfl ?_; clear hf; intro a hf
        refine sNo hf rfl rfl rfl rfl rfl rfl rfl ?_; clear hf; intro a hf
        refine sY hf hs rfl rfl rfl (Y_pickT rfl rfl rfl) ?_; clear hf; intro a hf
        refine sY hf hs rfl rfl rfl (Y_move rfl rfl) ?_; clear hf; intro a hf
        refine sNo hf rfl rfl rfl rfl rfl rfl rfl ?_; clear hf; intro a hf
        refine sNo hf rfl rfl rfl rfl rfl rfl rfl ?_; clear hf; intro a hf
        refine sNo hf rfl rfl rfl rfl rfl rfl rfl ?_; clear hf; intro a hf
        refine sNo hf rfl rfl rfl rfl rfl rfl rfl ?_; clear hf; intro a hf
        refine sY hf hs rfl rfl rfl (Y_pickT rfl rfl rfl) ?_; clear hf; intro a hf
        refine wpO_nil ?_
        refine wpL_nil (then_normal ?_)
        exact ⟨true, Option.some.inj hj107, (FrD.pick (FrD.pick (FrD.pick (FrD.pick (FrD.pick (FrD.pick (FrD.pick hf.none hf rfl) hf rfl) hf rfl) hf rfl) hf rfl) hf rfl) hf rfl), hs.sel [6, 0, 1, 2, 7, 3, 4, 5, 11, 8, 9, 10, 19, 16, 17, 18] (by decide)⟩
      · have hj107 := bif_f hj107 hb108
        refine sYg hf hs rfl rfl rfl (congrArg (fun b => some (Value.bool b)) hb108) rfl rfl rfl (Y_load_blkS rfl rfl (i := 11) rfl ag27 ti27 rfl) ?_; clear hf; intro a hf
        refine sYg hf hs rfl rfl rfl (congrArg (fun b => some (Value.bool b)) hb108) rfl rfl rfl (Y_load_blkS rfl rfl (i := 15) rfl ag27 ti27 rfl) ?_; clear hf; intro a hf
        obtain ⟨r109, hc110, hj107⟩ := bind_some hj107
        refine sCallg hf rfl rfl rfl (congrArg (fun b => some (Value.bool b)) hb108) rfl rfl rfl rfl (cap := []) rfl rfl en21 (laws_likeSystems9_ok F (GSystem.mk r34.1.A r34.1.B r34.1.C) A36 n37 c38 hn39 A41 n42 c43 hn44 A45 n46 c47 hn48 (GSystem.mk r50.1.A r50.1.B r50.1.C) A52 n53 c54 hn55 A57 n58 c59 hn60 A61 n62 c63 hn64 _ _ hc110 (hs.rdM (i := 8) rfl) (hs.rd (i := 9) rfl) (hs.rd (i := 10) rfl) (hs.rdM (i := 12) rfl) (hs.rd (i := 13) rfl) (hs.rd (i := 14) rfl)) ?_; clear hf
        rintro _ w ⟨rfl, hs1⟩ a hf
        have hs : St [] W w [.mat A6 n7 c8 23 2 vs10 r4.1.A, .row A11 n12 c13 2 1 (ints r4.1.B), .row A15 n16 c17 2 1 (ints r4.1.C), .mat A19 n20 c21 23 2 vs23 r4.2.A, .row A24 n25 c26 2 1 (ints r4.2.B), .row A28 n29 c30 2 1 (ints r4.2.C), .blk b32 27 [.slice A6 n7 c8, .slice A11 n12 c13, .slice A15 n16 c17], .blk b33 27 [.slice A19 n20 c21, .slice A24 n25 c26, .slice A28 n29 c30], .mat A36 n37 c38 23 2 vs40 r34.1.A, .row A41 n42 c43 2 1 (ints r34.1.B), .row A45 n46 c47 2 1 (ints r34.1.C), .blk b49 27 [.slice A36 n37 c38, .slice A41 n42 c43, .slice A45 n46 c47], .mat A52 n53 c54 23 2 vs56 r50.1.A, .row A57 n58 c59 2 1 (ints r50.1.B), .row A61 n62 c63 2 1 (ints r50.1.C), .blk b65 27 [.slice A52 n53 c54, .slice A57 n58 c59, .slice A61 n62 c63], .mat A68 n69 c70 23 2 vs72 r66.1.A, .row A73 n74 c75 2 1 (ints r66.1.B), .row A77 n78 c79 2 1 (ints r66.1.C), .blk b81 27 [.slice A68 n69 c70, .slice A73 n74 c75, .slice A77 n78 c79], .mat A84 n85 c86 23 2 vs88 r82.1.A, .row A89 n90 c91 2 1 (ints r82.1.B), .row A93 n94 c95 2 1 (ints r82.1.C), .blk b97 27 [.slice A84 n85 c86, .slice A89 n90 c91, .slice A93 n94 c95]] := hs.ext hs1.below
        clear hs1
        refine sYg hf hs rfl rfl rfl (congrArg (fun b => some (Value.bool b)) hb108) rfl rfl rfl (Y_not rfl rfl) ?_; clear hf; intro a hf
        refine sY hf hs rfl rfl rfl (Y_pickF rfl (congrArg (fun b => some (Value.bool b)) hb108) rfl) ?_; clear hf; intro a hf
        refine sY hf hs rfl rfl rfl (Y_move rfl rfl) ?_; clear hf; intro a hf
        refine bsplit (!r109) (fun hb111 => ?_) (fun hb111 => ?_)
        · have hj107 := bif_t hj107 hb111
          refine sNo hf rfl rfl rfl (congrArg (fun b => some (Value.bool b)) hb111) rfl rfl rfl ?_; clear hf; intro a hf
          refine sNo hf rfl rfl rfl (congrArg (fun b => some (Value.bool b)) hb111) rfl rfl rfl ?_; clear hf; intro a hf
          refine sNo hf rfl rfl rfl (congrArg (fun b => some (Value.bool b)) hb111) rfl rfl rfl ?_; clear hf; intro a hf
          refine sY hf hs rfl rfl rfl (Y_pickT rfl (congrArg (fun b => some (Value.bool b)) hb111) rfl) ?_; clear hf; intro a hf
          refine sY hf hs rfl rfl rfl (Y_move rfl rfl) ?_; clear hf; intro a hf
          refine sNo hf rfl rfl rfl rfl rfl rfl rfl ?_; clear hf; intro a hf
          refine sNo hf rfl rfl rfl rfl rfl rfl rfl ?_; clear hf; intro a hf
          refine sNo hf rfl rfl rfl rfl rfl rfl rfl ?_; clear hf; intro a hf
          refine sNo hf rfl rfl rfl rfl rfl rfl rfl ?_; clear hf; intro a hf
          refine sY hf hs rfl rfl rfl (Y_pickT rfl rfl rfl) ?_; clear hf; intro a hf
          refine wpO_nil ?_
          refine wpL_nil (then_normal ?_)
          exact ⟨true, Option.some.inj hj107, (FrD.pick (FrD.pick (FrD.pick (FrD.pick (FrD.pick (FrD.pick (FrD.pick hf.none hf rfl) hf rfl) hf rfl) hf rfl) hf rfl) hf rfl) hf rfl), hs.sel [6, 0, 1, 2, 7, 3, 4, 5, 11, 8, 9, 10, 19, 16, 17, 18] (by decide)⟩
        · have hj107 := bif_f hj107 hb111
          refine sYg hf hs rfl rfl rfl (congrArg (fun b => some (Value.bool b)) hb111) rfl rfl rfl (Y_move rfl rfl) ?_; clear hf; intro a hf
          refine sYg hf hs rfl rfl rfl (congrArg (fun b => some (Value.bool b)) hb111) rfl rfl rfl (Y_move rfl rfl) ?_; clear hf; intro a hf
          refine sYg hf hs rfl rfl rfl (congrArg (fun b => some (Value.bool b)) hb111) rfl rfl rfl (Y_neq rfl rfl rfl) ?_; clear hf; intro a hf
          refine sY hf hs rfl rfl rfl (Y_pickF rfl (congrArg (fun b => some (Value.bool b)) hb111) rfl) ?_; clear hf; intro a hf
          refine sY hf hs rfl rfl rfl (Y_move rfl rfl) ?_; clear hf; intro a hf
          refine bsplit (r66.2 != r82.2) (fun hb112 => ?_) (fun hb112 => ?_)
          · have hj107 := bif_t hj107 hb112
            refine sNo hf rfl rfl rfl (congrArg (fun b => some (Value.bool b)) hb112) rfl rfl rfl ?_; clear hf; intro a hf
            refine sNo hf rfl rfl rfl (congrArg (fun b => some (Value.bool b)) hb112) rfl rfl rfl ?_; clear hf; intro a hf
            refine sNo hf rfl rfl rfl (congrArg (fun b => some (Value.bool b)) hb112) rfl rfl rfl ?_; clear hf; intro a hf
            refine sNo hf rfl rfl rfl (congrArg (fun b => some (Value.bool b)) hb112) rfl rfl rfl ?_; clear hf; intro a hf
            refine sY hf hs rfl rfl rfl (Y_pickT rfl (congrArg (fun b => some (Value.bool b)) hb112) rfl) ?_; clear hf; intro a hf
            refine wpO_nil ?_
            refine wpL_nil (then_normal ?_)
            exact ⟨true, Option.some.inj hj107, (FrD.pick (FrD.pick (FrD.pick (FrD.pick (FrD.pick (FrD.pick (FrD.pick hf.none hf rfl) hf rfl) hf rfl) hf rfl) hf rfl) hf rfl) hf rfl), hs.sel [6, 0, 1, 2, 7, 3, 4, 5, 11, 8, 9, 10, 19, 16, 17, 18] (by decide)⟩
          · have hj107 := bif_f hj107 hb112
            refine sYg hf hs rfl rfl rfl (congrArg (fun b => some (Value.bool b)) hb112) rfl rfl rfl (Y_load_blkS rfl rfl (i := 19) rfl ag27 ti27 rfl) ?_; clear hf; intro a hf
            refine sYg hf hs rfl rfl rfl (congrArg (fun b => some (Value.bool b)) hb112) rfl rfl rfl (Y_load_blkS rfl rfl (i := 23) rfl ag27 ti27 rfl) ?_; clear hf; intro a hf
            obtain ⟨r113, hc114, hj107⟩ := bind_some hj107
            refine sCallg hf rfl rfl rfl (congrArg (fun b => some (Value.bool b)) hb112) rfl rfl rfl rfl (cap := []) rfl rfl en21 (laws_likeSystems9_ok F (GSystem.mk r66.1.A r66.1.B r66.1.C) A68 n69 c70 hn71 A73 n74 c75 hn76 A77 n78 c79 hn80 (GSystem.mk r82.1.A r82.1.B r82.1.C) A84 n85 c86 hn87 A89 n90 c91 hn92 A93 n94 c95 hn96 _ _ hc114 (hs.rdM (i := 16) rfl) (hs.rd (i := 17) rfl) (hs.rd (i := 18) rfl) (hs.rdM (i := 20) rfl) (hs.rd (i := 21) rfl) (hs.rd (i := 22) rfl)) ?_; clear hf
            rintro _ w ⟨rfl, hs1⟩ a hf
            have hs : St [] W w [.mat A6 n7 c8 23 2 vs10 r4.1.A, .row A11 n12 c13 2 1 (ints r4.1.B), .row A15 n16 c17 2 1 (ints r4.1.C), .mat A19 n20 c21 23 2 vs23 r4.2.A, .row A24 n25 c26 2 1 (ints r4.2.B), .row A28 n29 c30 2 1 (ints r4.2.C), .blk b32 27 [.slice A6 n7 c8, .slice A11 n12 c13, .slice A15 n16 c17], .blk b33 27 [.slice A19 n20 c21, .slice A24 n25 c26, .slice A28 n29 c30], .mat A36 n37 c38 23 2 vs40 r34.1.A, .row A41 n42 c43 2 1 (ints r34.1.B), .row A45 n46 c47 2 1 (ints r34.1.C), .blk b49 27 [.slice A36 n37 c38, .slice A41 n42 c43, .slice A45 n46 c47], .mat A52 n53 c54 23 2 vs56 r50.1.A, .row A57 n58 c59 2 1 (ints r50.1.B), .row A61 n62 c63 2 1 (ints r50.1.C), .blk b65 27 [.slice A52 n53 c54, .slice A57 n58 c59, .slice A61 n62 c63], .mat A68 n69 c70 23 2 vs72 r66.1.A, .row A73 n74 c75 2 1 (ints r66.1.B), .row A77 n78 c79 2 1 (ints r66.1.C), .blk b81 27 [.slice A68 n69 c70, .slice A73 n74 c75, .slice A77 n78 c79], .mat A84 n85 c86 23 2 vs88 r82.1.A, .row A89 n90 c91 2 1 (ints r82.1.B), .row A93 n94 c95 2 1 (ints r82.1.C), .blk b97 27 [.slice A84 n85 c86, .slice A89 n90 c91, .slice A93 n94 c95]] := hs.ext hs1.below
            clear hs1
            refine sYg hf hs rfl rfl rfl (congrArg (fun b => some (Value.bool b)) hb112) rfl rfl rfl (Y_not rfl rfl) ?_; clear hf; intro a hf
            refine sY hf hs rfl rfl rfl (Y_pickF rfl (congrArg (fun b => some (Value.bool b)) hb112) rfl) ?_; clear hf; intro a hf
            refine wpO_nil ?_
            refine wpL_nil (then_normal ?_)
            exact ⟨(!r113), Option.some.inj hj107, (FrD.pick (FrD.pick (FrD.pick (FrD.pick (FrD.pick (FrD.pick (FrD.pick hf.none hf rfl) hf rfl) hf rfl) hf rfl) hf rfl) hf rfl) hf rfl), hs.sel [6, 0, 1, 2, 7, 3, 4, 5, 11, 8, 9, 10, 19, 16, 17, 18] (by decide)⟩
    · rintro a w ⟨b105, hr_, hf, hs⟩
      subst hr_
      try dsimp only at hm
      refine wpL_cond hf rfl (fun hb115 => ?_) (fun hb115 => ?_)
      · have hm := bif_t hm hb115
        refine wpL_seq ?_
        refine wpL_region ?_
        refine sY hf hs rfl rfl rfl (Y_assign rfl rfl) ?_; clear hf; intro a hf
        refine wpO_nil ?_
        obtain rfl := Option.some.inj hm
        refine wpL_ret (ret_tmp rfl hf rfl ?_)
        exact ⟨_, rfl, rfl, hs.sel [] (by decide)⟩
      · have hm := bif_f hm hb115
        refine wpL_skip ?_
        refine wpL_seq ?_
        refine wpL_seq ?_
        obtain ⟨r118, hj119, hm⟩ := bind_some hm
        refine wpL_cut (fun a w => ∃ b117 : Bool, b117 = r118 ∧ Fr a 187 [(3, .pointer (some ⟨b32, 0, none⟩)), (4, .pointer (some ⟨b33, 0, none⟩)), (5, .pointer (some ⟨b49, 0, none⟩)), (9, .pointer (some ⟨b81, 0, none⟩)), (80, .bool b117)] ∧ St [] W w [.blk b32 27 [.slice A6 n7 c8, .slice A11 n12 c13, .slice A15 n16 c17], .mat A6 n7 c8 23 2 vs10 r4.1.A, .row A11 n12 c13 2 1 (ints r4.1.B), .row A15 n16 c17 2 1 (ints r4.1.C), .blk b33 27 [.slice A19 n20 c21, .slice A24 n25 c26, .slice A28 n29 c30], .mat A19 n20 c21 23 2 vs23 r4.2.A, .row A24 n25 c26 2 1 (ints r4.2.B), .row A28 n29 c30 2 1 (ints r4.2.C), .blk b49 27 [.slice A36 n37 c38, .slice A41 n42 c43, .slice A45 n46 c47], .mat A36 n37 c38 23 2 vs40 r34.1.A, .row A41 n42 c43 2 1 (ints r34.1.B), .row A45 n46 c47 2 1 (ints r34.1.C), .blk b81 27 [.slice A68 n69 c70, .slice A73 n74 c75, .slice A77 n78 c79], .mat A68 n69 c70 23 2 vs72 r66.1.A, .row A73 n74 c75 2 1 (ints r66.1.B), .row A77 n78 c79 2 1 (ints r66.1.C)]) ?_ ?_
        · refine wpL_region ?_
          refine sY hf hs rfl rfl rfl (Y_move rfl rfl) ?_; clear hf; intro a hf
          refine sY hf hs rfl rfl rfl (Y_neq rfl rfl rfl) ?_; clear hf; intro a hf
          refine sY hf hs rfl rfl rfl (Y_move rfl rfl) ?_; clear hf; intro a hf
          refine bsplit (r34.2 != 0) (fun hb120 => ?_) (fun hb120 => ?_)
          · have hj119 := bif_t hj119 hb120
            refine sNo hf rfl rfl rfl (congrArg (fun b => some (Value.bool b)) hb120) rfl rfl rfl ?_; clear hf; intro a hf
            refine sNo hf rfl rfl rfl (congrArg (fun b => some (Value.bool b)) hb120) rfl rfl rfl ?_; clear hf; intro a hf
            refine sY hf hs rfl rfl rfl (Y_pickT rfl (congrArg (fun b => some (Value.bool b)) hb120) rfl) ?_; clear hf; intro a hf
            refine wpO_nil ?_
            refine wpL_nil (then_normal ?_)
            exact ⟨true, Option.some.inj hj119, (FrD.pick (FrD.pick (FrD.pick (FrD.pick (FrD.pick hf.none hf rfl) hf rfl) hf rfl) hf rfl) hf rfl), hs⟩
          · have hj119 := bif_f hj119 hb120
            refine sYg hf hs rfl rfl rfl (congrArg (fun b => some (Value.bool b)) hb120) rfl rfl rfl (Y_move rfl rfl) ?_; clear hf; intro a hf
            refine sYg hf hs rfl rfl rfl (congrArg (fun b => some (Value.bool b)) hb120) rfl rfl rfl (Y_neq rfl rfl rfl) ?_; clear hf; intro a hf
            refine sY hf hs rfl rfl rfl (Y_pickF rfl (congrArg (fun b => some (Value.bool b)) hb120) rfl) ?_; clear hf; intro a hf
            refine wpO_nil ?_
            refine wpL_nil (then_normal ?_)
            exact ⟨(r66.2 != 0), Option.some.inj hj119, (FrD.pick (FrD.pick (FrD.pick (FrD.pick (FrD.pick hf.none hf rfl) hf rfl) hf rfl) hf rfl) hf rfl), hs⟩
        · rintro a w ⟨b117, hr_, hf, hs⟩
          subst hr_
          try dsimp only at hm
          refine wpL_cond hf rfl (fun hb121 => ?_) (fun hb121 => ?_)
          · have hm := bif_t hm hb121
            refine wpL_seq ?_
            refine wpL_region ?_
            refine sY hf hs rfl rfl rfl (Y_assign rfl rfl) ?_; clear hf; intro a hf
            refine wpO_nil ?_
            obtain rfl := Option.some.inj hm
            refine wpL_ret (ret_tmp rfl hf rfl ?_)
            exact ⟨_, rfl, rfl, hs.sel [] (by decide)⟩
          · have hm := bif_f hm hb121
            refine wpL_skip ?_
            refine wpL_seq ?_
            refine wpL_region ?_
            refine sY hf hs rfl rfl rfl (Y_load_blkS rfl rfl (i := 0) rfl ag27 ti27 rfl) ?_; clear hf; intro a hf
            obtain ⟨r122, hc123, hm⟩ := bind_some hm
            refine sCall hf rfl rfl rfl rfl (cap := []) rfl rfl en22 (impl_ResponseOf_ok F (GSystem.mk r4.1.A r4.1.B r4.1.C) A6 n7 c8 hn9 A11 n12 c13 hn14 A15 n16 c17 hn18 5 _ _ hc123 (hs.rdM (i := 1) rfl) (hs.rd (i := 2) rfl) (hs.rd (i := 3) rfl)) ?_; clear hf
            rintro _ w ⟨A124, n125, c126, rfl, hn127, hs1⟩ a hf
            have hs : St [] W w [.blk b32 27 [.slice A6 n7 c8, .slice A11 n12 c13, .slice A15 n16 c17], .mat A6 n7 c8 23 2 vs10 r4.1.A, .row A11 n12 c13 2 1 (ints r4.1.B), .row A15 n16 c17 2 1 (ints r4.1.C), .blk b33 27 [.slice A19 n20 c21, .slice A24 n25 c26, .slice A28 n29 c30], .mat A19 n20 c21 23 2 vs23 r4.2.A, .row A24 n25 c26 2 1 (ints r4.2.B), .row A28 n29 c30 2 1 (ints r4.2.C), .blk b49 27 [.slice A36 n37 c38, .slice A41 n42 c43, .slice A45 n46 c47], .mat A36 n37 c38 23 2 vs40 r34.1.A, .row A41 n42 c43 2 1 (ints r34.1.B), .row A45 n46 c47 2 1 (ints r34.1.C), .blk b81 27 [.slice A68 n69 c70, .slice A73 n74 c75, .slice A77 n78 c79], .mat A68 n69 c70 23 2 vs72 r66.1.A, .row A73 n74 c75 2 1 (ints r66.1.B), .row A77 n78 c79 2 1 (ints r66.1.C), .row A124 n125 c126 2 1 (ints r122.1)] := hs.join hs1
            clear hs1
            refine sY hf hs rfl rfl rfl (Y_move rfl rfl) ?_; clear hf; intro a hf
            refine sY hf hs rfl rfl rfl (Y_extract rfl rfl rfl) ?_; clear hf; intro a hf
            refine sY hf hs rfl rfl rfl (Y_extract rfl rfl rfl) ?_; clear hf; intro a hf
            refine sY hf hs rfl rfl rfl (Y_assign rfl rfl) ?_; clear hf; intro a hf
            refine sY hf hs rfl rfl rfl (Y_assign rfl rfl) ?_; clear hf; intro a hf
            refine wpO_nil ?_
            refine wpL_seq ?_
            refine wpL_region ?_
            refine sY hf hs rfl rfl rfl (Y_load_blkS rfl rfl (i := 4) rfl ag27 ti27 rfl) ?_; clear hf; intro a hf
            obtain ⟨r128, hc129, hm⟩ := bind_some hm
            refine sCall hf rfl rfl rfl rfl (cap := []) rfl rfl en22 (impl_ResponseOf_ok F (GSystem.mk r4.2.A r4.2.B r4.2.C) A19 n20 c21 hn22 A24 n25 c26 hn27 A28 n29 c30 hn31 5 _ _ hc129 (hs.rdM (i := 5) rfl) (hs.rd (i := 6) rfl) (hs.rd (i := 7) rfl)) ?_; clear hf
            rintro _ w ⟨A130, n131, c132, rfl, hn133, hs1⟩ a hf
            have hs : St [] W w [.blk b32 27 [.slice A6 n7 c8, .slice A11 n12 c13, .slice A15 n16 c17], .mat A6 n7 c8 23 2 vs10 r4.1.A, .row A11 n12 c13 2 1 (ints r4.1.B), .row A15 n16 c17 2 1 (ints r4.1.C), .blk b33 27 [.slice A19 n20 c21, .slice A24 n25 c26, .slice A28 n29 c30], .mat A19 n20 c21 23 2 vs23 r4.2.A, .row A24 n25 c26 2 1 (ints r4.2.B), .row A28 n29 c30 2 1 (ints r4.2.C), .blk b49 27 [.slice A36 n37 c38, .slice A41 n42 c43, .slice A45 n46 c47], .mat A36 n37 c38 23 2 vs40 r34.1.A, .row A41 n42 c43 2 1 (ints r34.1.B), .row A45 n46 c47 2 1 (ints r34.1.C), .blk b81 27 [.slice A68 n69 c70, .slice A73 n74 c75, .slice A77 n78 c79], .mat A68 n69 c70 23 2 vs72 r66.1.A, .row A73 n74 c75 2 1 (ints r66.1.B), .row A77 n78 c79 2 1 (ints r66.1.C), .row A124 n125 c126 2 1 (ints r122.1), .row A130 n131 c132 2 1 (ints r128.1)] := hs.join hs1
            clear hs1
            refine sY hf hs rfl rfl rfl (Y_move rfl rfl) ?_; clear hf; intro a hf
            refine sY hf hs rfl rfl rfl (Y_extract rfl rfl rfl) ?_; clear hf; intro a hf
            refine sY hf hs rfl rfl rfl (Y_extract rfl rfl rfl) ?_; clear hf; intro a hf
            refine sY hf hs rfl rfl rfl (Y_assign rfl rfl) ?_; clear hf; intro a hf
            refine sY hf hs rfl rfl rfl (Y_assign rfl rfl) ?_; clear hf; intro a hf
            refine wpO_nil ?_
            refine wpL_seq ?_
            refine wpL_region ?_
            refine sY hf hs rfl rfl rfl (Y_load_blkS rfl rfl (i := 8) rfl ag27 ti27 rfl) ?_; clear hf; intro a hf
            obtain ⟨r134, hc135, hm⟩ := bind_some hm
            refine sCall hf rfl rfl rfl rfl (cap := []) rfl rfl en22 (impl_ResponseOf_ok F (GSystem.mk r34.1.A r34.1.B r34.1.C) A36 n37 c38 hn39 A41 n42 c43 hn44 A45 n46 c47 hn48 5 _ _ hc135 (hs.rdM (i := 9) rfl) (hs.rd (i := 10) rfl) (hs.rd (i := 11) rfl)) ?_; clear hf
            rintro _ w ⟨A136, n137, c138, rfl, hn139, hs1⟩ a hf
            have hs : St [] W w [.blk b32 27 [.slice A6 n7 c8, .slice A11 n12 c13, .slice A15 n16 c17], .mat A6 n7 c8 23 2 vs10 r4.1.A, .row A11 n12 c13 2 1 (ints r4.1.B), .row A15 n16 c17 2 1 (ints r4.1.C), .blk b33 27 [.slice A19 n20 c21, .slice A24 n25 c26, .slice A28 n29 c30], .mat A19 n20 c21 23 2 vs23 r4.2.A, .row A24 n25 c26 2 1 (ints r4.2.B), .row A28 n29 c30 2 1 (ints r4.2.C), .blk b49 27 [.slice A36 n37 c38, .slice A41 n42 c43, .slice A45 n46 c47], .mat A36 n37 c38 23 2 vs40 r34.1.A, .row A41 n42 c43 2 1 (ints r34.1.B), .row A45 n46 c47 2 1 (ints r34.1.C), .blk b81 27 [.slice A68 n69 c70, .slice A73 n74 c75, .slice A77 n78 c79], .mat A68 n69 c70 23 2 vs72 r66.1.A, .row A73 n74 c75 2 1 (ints r66.1.B), .row A77 n78 c79 2 1 (ints r66.1.C), .row A124 n125 c126 2 1 (ints r122.1), .row A130 n131 c132 2 1 (ints r128.1), .row A136 n137 c138 2 1 (ints r134.1)] := hs.join hs1
            clear hs1
            refine sY hf hs rfl rfl rfl (Y_move rfl rfl) ?_; clear hf; intro a hf
            refine sY hf hs rfl rfl rfl (Y_extract rfl rfl rfl) ?_; clear hf; intro a hf
            refine sY hf hs rfl rfl rfl (Y_extract rfl rfl rfl) ?_; clear hf; intro a hf
            refine sY hf hs rfl rfl rfl (Y_assign rfl rfl) ?_; clear hf; intro a hf
            refine sY hf hs rfl rfl rfl (Y_assign rfl rfl) ?_; clear hf; intro a hf
            refine wpO_nil ?_
            refine wpL_seq ?_
            refine wpL_region ?_
            refine sY hf hs rfl rfl rfl (Y_load_blkS rfl rfl (i := 12) rfl ag27 ti27 rfl) ?_; clear hf; intro a hf
            obtain ⟨r140, hc141, hm⟩ := bind_some hm
            refine sCall hf rfl rfl rfl rfl (cap := []) rfl rfl en22 (impl_ResponseOf_ok F (GSystem.mk r66.1.A r66.1.B r66.1.C) A68 n69 c70 hn71 A73 n74 c75 hn76 A77 n78 c79 hn80 5 _ _ hc141 (hs.rdM (i := 13) rfl) (hs.rd (i := 14) rfl) (hs.rd (i := 15) rfl)) ?_; clear hf
            rintro _ w ⟨A142, n143, c144, rfl, hn145, hs1⟩ a hf
            have hs : St [] W w [.blk b32 27 [.slice A6 n7 c8, .slice A11 n12 c13, .slice A15 n16 c17], .mat A6 n7 c8 23 2 vs10 r4.1.A, .row A11 n12 c13 2 1 (ints r4.1.B), .row A15 n16 c17 2 1 (ints r4.1.C), .blk b33 27 [.slice A19 n20 c21, .slice A24 n25 c26, .slice A28 n29 c30], .mat A19 n20 c21 23 2 vs23 r4.2.A, .row A24 n25 c26 2 1 (ints r4.2.B), .row A28 n29 c30 2 1 (ints r4.2.C), .blk b49 27 [.slice A36 n37 c38, .slice A41 n42 c43, .slice A45 n46 c47], .mat A36 n37 c38 23 2 vs40 r34.1.A, .row A41 n42 c43 2 1 (ints r34.1.B), .row A45 n46 c47 2 1 (ints r34.1.C), .blk b81 27 [.slice A68 n69 c70, .slice A73 n74 c75, .slice A77 n78 c79], .mat A68 n69 c70 23 2 vs72 r66.1.A, .row A73 n74 c75 2 1 (ints r66.1.B), .row A77 n78 c79 2 1 (ints r66.1.C), .row A124 n125 c126 2 1 (ints r122.1), .row A130 n131 c132 2 1 (ints r128.1), .row A136 n137 c138 2 1 (ints r134.1), .row A142 n143 c144 2 1 (ints r140.1)] := hs.join hs1
            clear hs1
            refine sY hf hs rfl rfl rfl (Y_move rfl rfl) ?_; clear hf; intro a hf
            refine sY hf hs rfl rfl rfl (Y_extract rfl rfl rfl) ?_; clear hf; intro a hf
            refine sY hf hs rfl rfl rfl (Y_extract rfl rfl rfl) ?_; clear hf; intro a hf
            refine sY hf hs rfl rfl rfl (Y_assign rfl rfl) ?_; clear hf; intro a hf
            refine sY hf hs rfl rfl rfl (Y_assign rfl rfl) ?_; clear hf; intro a hf
            refine wpO_nil ?_
            refine wpL_seq ?_
            refine wpL_seq ?_
            obtain ⟨r150, hj151, hm⟩ := bind_some hm
            refine wpL_cut (fun a w => ∃ b149 : Bool, b149 = r150 ∧ Fr a 187 [(13, .slice A124 n125 c126), (14, .int .i64 r122.2), (15, .slice A130 n131 c132), (16, .int .i64 r128.2), (17, .slice A136 n137 c138), (18, .int .i64 r134.2), (19, .slice A142 n143 c144), (20, .int .i64 r140.2), (114, .bool b149)] ∧ St [] W w [.row A124 n125 c126 2 1 (ints r122.1), .row A130 n131 c132 2 1 (ints r128.1), .row A136 n137 c138 2 1 (ints r134.1), .row A142 n143 c144 2 1 (ints r140.1)]) ?_ ?_
            · refine wpL_region ?_
              refine sY hf hs rfl rfl rfl (Y_move rfl rfl) ?_; clear hf; intro a hf
              refine sY hf hs rfl rfl rfl (Y_neq rfl rfl rfl) ?_; clear hf; intro a hf
              refine sY hf hs rfl rfl rfl (Y_move rfl rfl) ?_; clear hf; intro a hf
              refine bsplit (r122.2 != 0) (fun hb152 => ?_) (fun hb152 => ?_)
              · have hj151 := bif_t hj151 hb152
                refine sNo hf rfl rfl rfl (congrArg (fun b => some (Value.bool b)) hb152) rfl rfl rfl ?_; clear hf; intro a hf
                refine sNo hf rfl rfl rfl (congrArg (fun b => some (Value.bool b)) hb152) rfl rfl rfl ?_; clear hf; intro a hf
                refine sY hf hs rfl rfl rfl (Y_pickT rfl (congrArg (fun b => some (Value.bool b)) hb152) rfl) ?_; clear hf; intro a hf
                refine sY hf hs rfl rfl rfl (Y_move rfl rfl) ?_; clear hf; intro a hf
                refine sNo hf rfl rfl rfl rfl rfl rfl rfl ?_; clear hf; intro a hf
                refine sNo hf rfl rfl rfl rfl rfl rfl rfl ?_; clear hf; intro a hf
                refine sY hf hs rfl rfl rfl (Y_pickT rfl rfl rfl) ?_; clear hf; intro a hf
                refine sY hf hs rfl rfl rfl (Y_move rfl rfl) ?_; clear hf; intro a hf
                refine sNo hf rfl rfl rfl rfl rfl rfl rfl ?_; clear hf; intro a hf
                refine sNo hf rfl rfl rfl rfl rfl rfl rfl ?_; clear hf; intro a hf
                refine sY hf hs rfl rfl rfl (Y_pickT rfl rfl rfl) ?_; clear hf; intro a hf
                refine wpO_nil ?_
                refine wpL_nil (then_normal ?_)
                exact ⟨true, Option.some.inj hj151, (FrD.pick (FrD.pick (FrD.pick (FrD.pick (FrD.pick (FrD.pick (FrD.pick (FrD.pick (FrD.pick hf.none hf rfl) hf rfl) hf rfl) hf rfl) hf rfl) hf rfl) hf rfl) hf rfl) hf rfl), hs.sel [16, 17, 18, 19] (by decide)⟩
              · have hj151 := bif_f hj151 hb152
                refine sYg hf hs rfl rfl rfl (congrArg (fun b => some (Value.bool b)) hb152) rfl rfl rfl (Y_move rfl rfl) ?_; clear hf; intro a hf
                refine sYg hf hs rfl rfl rfl (congrArg (fun b => some (Value.bool b)) hb152) rfl rfl rfl (Y_neq rfl rfl rfl) ?_; clear hf; intro a hf
                refine sY hf hs rfl rfl rfl (Y_pickF rfl (congrArg (fun b => some (Value.bool b)) hb152) rfl) ?_; clear hf; intro a hf
                refine sY hf hs rfl rfl rfl (Y_move rfl rfl) ?_; clear hf; intro a hf
                refine bsplit (r128.2 != 0) (fun hb153 => ?_) (fun hb153 => ?_)
                · have hj151 := bif_t hj151 hb153
                  refine sNo hf rfl rfl rfl (congrArg (fun b => some (Value.bool b)) hb153) rfl rfl rfl ?_; clear hf; intro a hf
                  refine sNo hf rfl rfl rfl (congrArg (fun b => some (Value.bool b)) hb153) rfl rfl rfl ?_; clear hf; intro a hf
                  refine sY hf hs rfl rfl rfl (Y_pickT rfl (congrArg (fun b => some (Value.bool b)) hb153) rfl) ?_; clear hf; intro a hf
                  refine sY hf hs rfl rfl rfl (Y_move rfl rfl) ?_; clear hf; intro a hf
                  refine sNo hf rfl rfl rfl rfl rfl rfl rfl ?_; clear hf; intro a hf
                  refine sNo hf rfl rfl rfl rfl rfl rfl rfl ?_; clear hf; intro a hf
                  refine sY hf hs rfl rfl rfl (Y_pickT rfl rfl rfl) ?_; clear hf; intro a hf
                  refine wpO_nil ?_
                  refine wpL_nil (then_normal ?_)
                  exact ⟨true, Option.some.inj hj151, (FrD.pick (FrD.pick (FrD.pick (FrD.pick (FrD.pick (FrD.pick (FrD.pick (FrD.pick (FrD.pick hf.none hf rfl) hf rfl) hf rfl) hf rfl) hf rfl) hf rfl) hf rfl) hf rfl) hf rfl), hs.sel [16, 17, 18, 19] (by decide)⟩
                · have hj151 := bif_f hj151 hb153
                  refine sYg hf hs rfl rfl rfl (congrArg (fun b => some (Value.bool b)) hb153) rfl rfl rfl (Y_move rfl rfl) ?_; clear hf; intro a hf
                  refine sYg hf hs rfl rfl rfl (congrArg (fun b => some (Value.bool b)) hb153) rfl rfl rfl (Y_neq rfl rfl rfl) ?_; clear hf; intro a hf
                  refine sY hf hs rfl rfl rfl (Y_pickF rfl (congrArg (fun b => some (Value.bool b)) hb153) rfl) ?_; clear hf; intro a hf
                  refine sY hf hs rfl rfl rfl (Y_move rfl rfl) ?_; clear hf; intro a hf
                  refine bsplit (r134.2 != 0) (fun hb154 => ?_) (fun hb154 => ?_)
                  · have hj151 := bif_t hj151 hb154
                    refine sNo hf rfl rfl rfl (congrArg (fun b => some (Value.bool b)) hb154) rfl rfl rfl ?_; clear hf; intro a hf
                    refine sNo hf rfl rfl rfl (congrArg (fun b => some (Value.bool b)) hb154) rfl rfl rfl ?_; clear hf; intro a hf
                    refine sY hf hs rfl rfl rfl (Y_pickT rfl (congrArg (fun b => some (Value.bool b)) hb154) rfl) ?_; clear hf; intro a hf
                    refine wpO_nil ?_
                    refine wpL_nil (then_normal ?_)
                    exact ⟨true, Option.some.inj hj151, (FrD.pick (FrD.pick (FrD.pick (FrD.pick (FrD.pick (FrD.pick (FrD.pick (FrD.pick (FrD.pick hf.none hf rfl) hf rfl) hf rfl) hf rfl) hf rfl) hf rfl) hf rfl) hf rfl) hf rfl), hs.sel [16, 17, 18, 19] (by decide)⟩
                  · have hj151 := bif_f hj151 hb154
                    refine sYg hf hs rfl rfl rfl (congrArg (fun b => some (Value.bool b)) hb154) rfl rfl rfl (Y_move rfl rfl) ?_; clear hf; intro a hf
                    refine sYg hf hs rfl rfl rfl (congrArg (fun b => some (Value.bool b)) hb154) rfl rfl rfl (Y_neq rfl rfl rfl) ?_; clear hf; intro a hf
                    refine sY hf hs rfl rfl rfl (Y_pickF rfl (congrArg (fun b => some (Value.bool b)) hb154) rfl) ?_; clear hf; intro a hf
                    refine wpO_nil ?_
                    refine wpL_nil (then_normal ?_)
                    exact ⟨(r140.2 != 0), Option.some.inj hj151, (FrD.pick (FrD.pick (FrD.pick (FrD.pick (FrD.pick (FrD.pick (FrD.pick (FrD.pick (FrD.pick hf.none hf rfl) hf rfl) hf rfl) hf rfl) hf rfl) hf rfl) hf rfl) hf rfl) hf rfl), hs.sel [16, 17, 18, 19] (by decide)⟩
            · rintro a w ⟨b149, hr_, hf, hs⟩
              subst hr_
              try dsimp only at hm
              refine wpL_cond hf rfl (fun hb155 => ?_) (fun hb155 => ?_)
              · have hm := bif_t hm hb155
                refine wpL_seq ?_
                obtain ⟨r160, hj161, hm⟩ := bind_some hm
                refine wpL_cut (fun a w => ∃ b159 : Bool, b159 = r160 ∧ Fr a 187 [(2, .bool b159)] ∧ St [] W w []) ?_ ?_
                · refine wpL_region ?_
                  refine sY hf hs rfl rfl rfl (Y_move rfl rfl) ?_; clear hf; intro a hf
                  refine sY hf hs rfl rfl rfl (Y_eql rfl rfl rfl) ?_; clear hf; intro a hf
                  refine sY hf hs rfl rfl rfl (Y_move rfl rfl) ?_; clear hf; intro a hf
                  refine bsplit (r122.2 == 3) (fun hb162 => ?_) (fun hb162 => ?_)
                  · have hj161 := bif_t hj161 hb162
                    refine sNo hf rfl rfl rfl (congrArg (fun b => some (Value.bool b)) hb162) rfl rfl rfl ?_; clear hf; intro a hf
                    refine sNo hf rfl rfl rfl (congrArg (fun b => some (Value.bool b)) hb162) rfl rfl rfl ?_; clear hf; intro a hf
                    refine sY hf hs rfl rfl rfl (Y_pickT rfl (congrArg (fun b => some (Value.bool b)) hb162) rfl) ?_; clear hf; intro a hf
                    refine sY hf hs rfl rfl rfl (Y_move rfl rfl) ?_; clear hf; intro a hf
                    refine sNo hf rfl rfl rfl rfl rfl rfl rfl ?_; clear hf; intro a hf
                    refine sNo hf rfl rfl rfl rfl rfl rfl rfl ?_; clear hf; intro a hf
                    refine sY hf hs rfl rfl rfl (Y_pickT rfl rfl rfl) ?_; clear hf; intro a hf
                    refine sY hf hs rfl rfl rfl (Y_move rfl rfl) ?_; clear hf; intro a hf
                    refine sNo hf rfl rfl rfl rfl rfl rfl rfl ?_; clear hf; intro a hf
                    refine sNo hf rfl rfl rfl rfl rfl rfl rfl ?_; clear hf; intro a hf
                    refine sY hf hs rfl rfl rfl (Y_pickT rfl rfl rfl) ?_; clear hf; intro a hf
                    refine sY hf hs rfl rfl rfl (Y_assign rfl rfl) ?_; clear hf; intro a hf
                    refine wpO_nil ?_
                    refine wpL_nil (then_normal ?_)
                    exact ⟨true, Option.some.inj hj161, (FrD.pick hf.none hf rfl), hs.sel [] (by decide)⟩
                  · have hj161 := bif_f hj161 hb162
                    refine sYg hf hs rfl rfl rfl (congrArg (fun b => some (Value.bool b)) hb162) rfl rfl rfl (Y_move rfl rfl) ?_; clear hf; intro a hf
                    refine sYg hf hs rfl rfl rfl (congrArg (fun b => some (Value.bool b)) hb162) rfl rfl rfl (Y_eql rfl rfl rfl) ?_; clear hf; intro a hf
                    refine sY hf hs rfl rfl rfl (Y_pickF rfl (congrArg (fun b => some (Value.bool b)) hb162) rfl) ?_; clear hf; intro a hf
                    refine sY hf hs rfl rfl rfl (Y_move rfl rfl) ?_; clear hf; intro a hf
                    refine bsplit (r128.2 == 3) (fun hb163 => ?_) (fun hb163 => ?_)
                    · have hj161 := bif_t hj161 hb163
                      refine sNo hf rfl rfl rfl (congrArg (fun b => some (Value.bool b)) hb163) rfl rfl rfl ?_; clear hf; intro a hf
                      refine sNo hf rfl rfl rfl (congrArg (fun b => some (Value.bool b)) hb163) rfl rfl rfl ?_; clear hf; intro a hf
                      refine sY hf hs rfl rfl rfl (Y_pickT rfl (congrArg (fun b => some (Value.bool b)) hb163) rfl) ?_; clear hf; intro a hf
                      refine sY hf hs rfl rfl rfl (Y_move rfl rfl) ?_; clear hf; intro a hf
                      refine sNo hf rfl rfl rfl rfl rfl rfl rfl ?_; clear hf; intro a hf
                      refine sNo hf rfl rfl rfl rfl rfl rfl rfl ?_; clear hf; intro a hf
                      refine sY hf hs rfl rfl rfl (Y_pickT rfl rfl rfl) ?_; clear hf; intro a hf
                      refine sY hf hs rfl rfl rfl (Y_assign rfl rfl) ?_; clear hf; intro a hf
                      refine wpO_nil ?_
                      refine wpL_nil (then_normal ?_)
                      exact ⟨true, Option.some.inj hj161, (FrD.pick hf.none hf rfl), hs.sel [] (by decide)⟩
                    · have hj161 := bif_f hj161 hb163
                      refine sYg hf hs rfl rfl rfl (congrArg (fun b => some (Value.bool b)) hb163) rfl rfl rfl (Y_move rfl rfl) ?_; clear hf; intro a hf
                      refine sYg hf hs rfl rfl rfl (congrArg (fun b => some (Value.bool b)) hb163) rfl rfl rfl (Y_eql rfl rfl rfl) ?_; clear hf; intro a hf
                      refine sY hf hs rfl rfl rfl (Y_pickF rfl (congrArg (fun b => some (Value.bool b)) hb163) rfl) ?_; clear hf; intro a hf
                      refine sY hf hs rfl rfl rfl (Y_move rfl rfl) ?_; clear hf; intro a hf
                      refine bsplit (r134.2 == 3) (fun hb164 => ?_) (fun hb164 => ?_)
                      · have hj161 := bif_t hj161 hb164
                        refine sNo hf rfl rfl rfl (congrArg (fun b => some (Value.bool b)) hb164) rfl rfl rfl ?_; clear hf; intro a hf
                        refine sNo hf rfl rfl rfl (congrArg (fun b => some (Value.bool b)) hb164) rfl rfl rfl ?_; clear hf; intro a hf
                        refine sY hf hs rfl rfl rfl (Y_pickT rfl (congrArg (fun b => some (Value.bool b)) hb164) rfl) ?_; clear hf; intro a hf
                        refine sY hf hs rfl rfl rfl (Y_assign rfl rfl) ?_; clear hf; intro a hf
                        refine wpO_nil ?_
                        refine wpL_nil (then_normal ?_)
                        exact ⟨true, Option.some.inj hj161, (FrD.pick hf.none hf rfl), hs.sel [] (by decide)⟩
                      · have hj161 := bif_f hj161 hb164
                        refine sYg hf hs rfl rfl rfl (congrArg (fun b => some (Value.bool b)) hb164) rfl rfl rfl (Y_move rfl rfl) ?_; clear hf; intro a hf
                        refine sYg hf hs rfl rfl rfl (congrArg (fun b => some (Value.bool b)) hb164) rfl rfl rfl (Y_eql rfl rfl rfl) ?_; clear hf; intro a hf
                        refine sY hf hs rfl rfl rfl (Y_pickF rfl (congrArg (fun b => some (Value.bool b)) hb164) rfl) ?_; clear hf; intro a hf
                        refine sY hf hs rfl rfl rfl (Y_assign rfl rfl) ?_; clear hf; intro a hf
                        refine wpO_nil ?_
                        refine wpL_nil (then_normal ?_)
                        exact ⟨(r140.2 == 3), Option.some.inj hj161, (FrD.pick hf.none hf rfl), hs.sel [] (by decide)⟩
                · rintro a w ⟨b159, hr_, hf, hs⟩
                  subst hr_
                  try dsimp only at hm
                  obtain rfl := Option.some.inj hm
                  refine wpL_ret (ret_tmp rfl hf rfl ?_)
                  exact ⟨_, rfl, rfl, hs⟩
              · have hm := bif_f hm hb155
                refine wpL_skip ?_
                refine wpL_seq ?_
                refine wpL_seq ?_
                refine wpL_region ?_
                refine sY hf hs rfl rfl rfl (Y_assign rfl rfl) ?_; clear hf; intro a hf
                refine wpO_nil ?_
                obtain ⟨r491, hl492, hm⟩ := bind_some hm
                refine wpL_block (fun a w => Sum.inr () = r491 ∧ Fr a 187 [] ∧ St [] W w []) ?_ ?_
                · refine wpL_loop (fun n a w => ∃ x382 : Int, laws_FnSeries_L4 F r122 r128 r134 r140 n x382 = some r491 ∧ Fr a 187 [(13, .slice A124 n125 c126), (15, .slice A130 n131 c132), (17, .slice A136 n137 c138), (19, .slice A142 n143 c144), (21, .int .i64 x382)] ∧ St [] W w [.row A124 n125 c126 2 1 (ints r122.1), .row A130 n131 c132 2 1 (ints r128.1), .row A136 n137 c138 2 1 (ints r134.1), .row A142 n143 c144 2 1 (ints r140.1)]) F ?_ ?_ ?_
                  · exact ⟨0, hl492, (FrD.pick (FrD.pick (FrD.pick (FrD.pick (FrD.pick hf.none hf rfl) hf rfl) hf rfl) hf rfl) hf rfl), hs⟩
                  · rintro a w ⟨x382, h0_, -, -⟩; simp [laws_FnSeries_L4] at h0_
                  · rintro n494 a w ⟨x382, hm493, hf, hs⟩
                    rw [laws_FnSeries_L4] at hm493
                    refine wpL_seq ?_
                    refine wpL_seq ?_
                    refine wpL_region ?_
                    refine sY hf hs rfl rfl rfl (Y_move rfl rfl) ?_; clear hf; intro a hf
                    refine sY hf hs rfl rfl rfl (Y_lss rfl rfl rfl) ?_; clear hf; intro a hf
                    refine wpO_nil ?_
                    refine wpL_cond hf rfl (fun hb495 => ?_) (fun hb495 => ?_)
                    · have hm493 := bif_t hm493 hb495
                      refine wpL_skip ?_
                      refine wpL_seq ?_
                      refine wpL_block0 ?_
                      refine wpL_seq ?_
                      refine wpL_region ?_
                      refine sY hf hs rfl rfl rfl (Y_assign rfl rfl) ?_; clear hf; intro a hf
                      refine wpO_nil ?_
                      refine wpL_seq ?_
                      refine wpL_seq ?_
                      refine wpL_region ?_
                      refine sY hf hs rfl rfl rfl (Y_assign rfl rfl) ?_; clear hf; intro a hf
                      refine wpO_nil ?_
                      obtain ⟨r558, hl559, hm493⟩ := bind_some hm493
                      refine wpL_block (fun a w => ∃ x557 : Int, x557 = r558 ∧ Fr a 187 [(13, .slice A124 n125 c126), (15, .slice A130 n131 c132), (17, .slice A136 n137 c138), (19, .slice A142 n143 c144), (21, .int .i64 x382), (22, .int .i64 x557)] ∧ St [] W w [.row A124 n125 c126 2 1 (ints r122.1), .row A130 n131 c132 2 1 (ints r128.1), .row A136 n137 c138 2 1 (ints r134.1), .row A142 n143 c144 2 1 (ints r140.1)]) ?_ ?_
                      · refine wpL_loop (fun n a w => ∃ x536 : Int, ∃ x537 : Int, laws_FnSeries_L5 F r122 r128 x382 n x536 x537 = some r558 ∧ Fr a 187 [(13, .slice A124 n125 c126), (15, .slice A130 n131 c132), (17, .slice A136 n137 c138), (19, .slice A142 n143 c144), (21, .int .i64 x382), (22, .int .i64 x536), (23, .int .i64 x537)] ∧ St [] W w [.row A124 n125 c126 2 1 (ints r122.1), .row A130 n131 c132 2 1 (ints r128.1), .row A136 n137 c138 2 1 (ints r134.1), .row A142 n143 c144 2 1 (ints r140.1)]) F ?_ ?_ ?_
                        · exact ⟨(-1000000000000000), 0, hl559, (FrD.pick (FrD.pick (FrD.pick (FrD.pick (FrD.pick (FrD.pick (FrD.pick hf.none hf rfl) hf rfl) hf rfl) hf rfl) hf rfl) hf rfl) hf rfl), hs⟩
                        · rintro a w ⟨x536, x537, h0_, -, -⟩; simp [laws_FnSeries_L5] at h0_
                        · rintro n561 a w ⟨x536, x537, hm560, hf, hs⟩
                          rw [laws_FnSeries_L5] at hm560
                          refine wpL_seq ?_
                          refine wpL_seq ?_
                          refine wpL_region ?_
                          refine sY hf hs rfl rfl rfl (Y_move rfl rfl) ?_; clear hf; intro a hf
                          refine sY hf hs rfl rfl rfl (Y_move rfl rfl) ?_; clear hf; intro a hf
                          refine sY hf hs rfl rfl rfl (Y_leq rfl rfl rfl) ?_; clear hf; intro a hf
                          refine wpO_nil ?_
                          refine wpL_cond hf rfl (fun hb562 => ?_) (fun hb562 => ?_)
                          · have hm560 := bif_t hm560 hb562
                            refine wpL_skip ?_
                            refine wpL_seq ?_
                            refine wpL_block0 ?_
                            refine wpL_seq ?_
                            obtain ⟨r569, hj570, hm560⟩ := bind_some hm560
                            refine wpL_cut (fun a w => ∃ b568 : Bool, b568 = r569 ∧ Fr a 187 [(13, .slice A124 n125 c126), (15, .slice A130 n131 c132), (17, .slice A136 n137 c138), (19, .slice A142 n143 c144), (21, .int .i64 x382), (22, .int .i64 x536), (23, .int .i64 x537), (151, .bool b568)] ∧ St [] W w [.row A124 n125 c126 2 1 (ints r122.1), .row A130 n131 c132 2 1 (ints r128.1), .row A136 n137 c138 2 1 (ints r134.1), .row A142 n143 c144 2 1 (ints r140.1)]) ?_ ?_
                            · refine wpL_region ?_
                              refine sY hf hs rfl rfl rfl (Y_move rfl rfl) ?_; clear hf; intro a hf
                              refine sY hf hs rfl rfl rfl (Y_move rfl rfl) ?_; clear hf; intro a hf
                              obtain ⟨q571, hi572, hj570⟩ := bind_some hj570
                              obtain ⟨hi572a, hi572b, hi572q⟩ := idx_some hi572
                              refine sY hf hs rfl rfl rfl (Y_index rfl rfl rfl el23 ti2 (Rd.isAt (hs.rd (i := 0) rfl) (at1 (ints_at hi572q))) hi572a (ltn hn127 hi572b)) ?_; clear hf; intro a hf
                              refine sY hf hs rfl rfl rfl (Y_load_rd rfl rfl (fun w hs => hs.rd (i := 0) rfl) (at1 (ints_at hi572q)) ag2) ?_; clear hf; intro a hf
                              refine sY hf hs rfl rfl rfl (Y_neq rfl rfl rfl) ?_; clear hf; intro a hf
                              refine sY hf hs rfl rfl rfl (Y_move rfl rfl) ?_; clear hf; intro a hf
                              refine bsplit (q571 != (-1000000000000000)) (fun hb573 => ?_) (fun hb573 => ?_)
                              · have hj570 := bif_t hj570 hb573
                                refine sYg hf hs rfl rfl rfl (congrArg (fun b => some (Value.bool b)) hb573) rfl rfl rfl (Y_move rfl rfl) ?_; clear hf; intro a hf
                                refine sYg hf hs rfl rfl rfl (congrArg (fun b => some (Value.bool b)) hb573) rfl rfl rfl (Y_move rfl rfl) ?_; clear hf; intro a hf
                                refine sYg hf hs rfl rfl rfl (congrArg (fun b => some (Value.bool b)) hb573) rfl rfl rfl (Y_move rfl rfl) ?_; clear hf; intro a hf
                                refine sYg hf hs rfl rfl rfl (congrArg (fun b => some (Value.bool b)) hb573) rfl rfl rfl (Y_sub rfl rfl rfl) ?_; clear hf; intro a hf
                                obtain ⟨q574, hi575, hj570⟩ := bind_some hj570
                                obtain ⟨hi575a, hi575b, hi575q⟩ := idx_some hi575
                                refine sYg hf hs rfl rfl rfl (congrArg (fun b => some (Value.bool b)) hb573) rfl rfl rfl (Y_index rfl rfl rfl el23 ti2 (Rd.isAt (hs.rd (i := 1) rfl) (at1 (ints_at hi575q))) hi575a (ltn hn133 hi575b)) ?_; clear hf; intro a hf
                                refine sYg hf hs rfl rfl rfl (congrArg (fun b => some (Value.bool b)) hb573) rfl rfl rfl (Y_load_rd rfl rfl (fun w hs => hs.rd (i := 1) rfl) (at1 (ints_at hi575q)) ag2) ?_; clear hf; intro a hf
                                refine sYg hf hs rfl rfl rfl (congrArg (fun b => some (Value.bool b)) hb573) rfl rfl rfl (Y_neq rfl rfl rfl) ?_; clear hf; intro a hf
                                refine sY hf hs rfl rfl rfl (Y_pickT rfl (congrArg (fun b => some (Value.bool b)) hb573) rfl) ?_; clear hf; intro a hf
                                refine wpO_nil ?_
                                refine wpL_nil (then_normal ?_)
                                exact ⟨(q574 != (-1000000000000000)), Option.some.inj hj570, (FrD.pick (FrD.pick (FrD.pick (FrD.pick (FrD.pick (FrD.pick (FrD.pick (FrD.pick hf.none hf rfl) hf rfl) hf rfl) hf rfl) hf rfl) hf rfl) hf rfl) hf rfl), hs⟩
                              · have hj570 := bif_f hj570 hb573
                                refine sNo hf rfl rfl rfl (congrArg (fun b => some (Value.bool b)) hb573) rfl rfl rfl ?_; clear hf; intro a hf
                                refine sNo hf rfl rfl rfl (congrArg (fun b => some (Value.bool b)) hb573) rfl rfl rfl ?_; clear hf; intro a hf
                                refine sNo hf rfl rfl rfl (congrArg (fun b => some (Value.bool b)) hb573) rfl rfl rfl ?_; clear hf; intro a hf
                                refine sNo hf rfl rfl rfl (congrArg (fun b => some (Value.bool b)) hb573) rfl rfl rfl ?_; clear hf; intro a hf
                                refine sNo hf rfl rfl rfl (congrArg (fun b => some (Value.bool b)) hb573) rfl rfl rfl ?_; clear hf; intro a hf
                                refine sNo hf rfl rfl rfl (congrArg (fun b => some (Value.bool b)) hb573) rfl rfl rfl ?_; clear hf; intro a hf
                                refine sNo hf rfl rfl rfl (congrArg (fun b => some (Value.bool b)) hb573) rfl rfl rfl ?_; clear hf; intro a hf
                                refine sY hf hs rfl rfl rfl (Y_pickF rfl (congrArg (fun b => some (Value.bool b)) hb573) rfl) ?_; clear hf; intro a hf
                                refine wpO_nil ?_
                                refine wpL_nil (then_normal ?_)
                                exact ⟨false, Option.some.inj hj570, (FrD.pick (FrD.pick (FrD.pick (FrD.pick (FrD.pick (FrD.pick (FrD.pick (FrD.pick hf.none hf rfl) hf rfl) hf rfl) hf rfl) hf rfl) hf rfl) hf rfl) hf rfl), hs⟩
                            · rintro a w ⟨b568, hr_, hf, hs⟩
                              subst hr_
                              try dsimp only at hm560
                              refine wpL_cond hf rfl (fun hb576 => ?_) (fun hb576 => ?_)
                              · have hm560 := bif_t hm560 hb576
                                refine wpL_draw (by kernel_rfl) (by kernel_rfl) hs ?_
                                refine qY hf rfl rfl rfl (Y_move rfl rfl) ?_; clear hf; intro a hf
                                refine qY hf rfl rfl rfl (Y_move rfl rfl) ?_; clear hf; intro a hf
                                refine qY hf rfl rfl rfl (Y_move rfl rfl) ?_; clear hf; intro a hf
                                obtain ⟨q577, hi578, hm560⟩ := bind_some hm560
                                obtain ⟨hi578a, hi578b, hi578q⟩ := idx_some hi578
                                refine qY hf rfl rfl rfl (Y_index rfl rfl rfl el23 ti2 (Rd.isAt (hs.rd (i := 0) rfl) (at1 (ints_at hi578q))) hi578a (ltn hn127 hi578b)) ?_; clear hf; intro a hf
                                refine qY hf rfl rfl rfl (Y_load_rd rfl rfl (fun w hs => hs.rd (i := 0) rfl) (at1 (ints_at hi578q)) ag2) ?_; clear hf; intro a hf
                                refine qY hf rfl rfl rfl (Y_move rfl rfl) ?_; clear hf; intro a hf
                                refine qY hf rfl rfl rfl (Y_move rfl rfl) ?_; clear hf; intro a hf
                                refine qY hf rfl rfl rfl (Y_move rfl rfl) ?_; clear hf; intro a hf
                                refine qY hf rfl rfl rfl (Y_sub rfl rfl rfl) ?_; clear hf; intro a hf
                                obtain ⟨q579, hi580, hm560⟩ := bind_some hm560
                                obtain ⟨hi580a, hi580b, hi580q⟩ := idx_some hi580
                                refine qY hf rfl rfl rfl (Y_index rfl rfl rfl el23 ti2 (Rd.isAt (hs.rd (i := 1) rfl) (at1 (ints_at hi580q))) hi580a (ltn hn133 hi580b)) ?_; clear hf; intro a hf
                                refine qY hf rfl rfl rfl (Y_load_rd rfl rfl (fun w hs => hs.rd (i := 1) rfl) (at1 (ints_at hi580q)) ag2) ?_; clear hf; intro a hf
                                refine qY hf rfl rfl rfl (Y_add rfl rfl rfl) ?_; clear hf; intro a hf
                                refine qY hf rfl rfl rfl (Y_max rfl rfl rfl) ?_; clear hf; intro a hf
                                refine qY hf rfl rfl rfl (Y_assign rfl rfl) ?_; clear hf; intro a hf
                                refine qNil ?_; clear hs; intro w hs
                                refine wpL_nil (Qb_normal ?_)
                                refine wpL_region ?_
                                refine sY hf hs rfl rfl rfl (Y_move rfl rfl) ?_; clear hf; intro a hf
                                refine sY hf hs rfl rfl rfl (Y_add rfl rfl rfl) ?_; clear hf; intro a hf
                                refine sY hf hs rfl rfl rfl (Y_assign rfl rfl) ?_; clear hf; intro a hf
                                refine wpO_nil ?_
                                refine wpL_nil (Ql_normal ?_)
                                exact ⟨(max x536 (IntKind.i64.wrap (q577 + q579))), (IntKind.i64.wrap (x537 + 1)), hm560, (FrD.pick (FrD.pick (FrD.pick (FrD.pick (FrD.pick (FrD.pick (FrD.pick hf.none hf rfl) hf rfl) hf rfl) hf rfl) hf rfl) hf rfl) hf rfl), hs⟩
                              · have hm560 := bif_f hm560 hb576
                                refine wpL_skip ?_
                                refine wpL_nil (Qb_normal ?_)
                                refine wpL_region ?_
                                refine sY hf hs rfl rfl rfl (Y_move rfl rfl) ?_; clear hf; intro a hf
                                refine sY hf hs rfl rfl rfl (Y_add rfl rfl rfl) ?_; clear hf; intro a hf
                                refine sY hf hs rfl rfl rfl (Y_assign rfl rfl) ?_; clear hf; intro a hf
                                refine wpO_nil ?_
                                refine wpL_nil (Ql_normal ?_)
                                exact ⟨x536, (IntKind.i64.wrap (x537 + 1)), hm560, (FrD.pick (FrD.pick (FrD.pick (FrD.pick (FrD.pick (FrD.pick (FrD.pick hf.none hf rfl) hf rfl) hf rfl) hf rfl) hf rfl) hf rfl) hf rfl), hs⟩
                          · have hm560 := bif_f hm560 hb562
                            refine wpL_exit (Ql_exit (Qb_exit ?_))
                            exact ⟨x536, Option.some.inj hm560, (FrD.pick (FrD.pick (FrD.pick (FrD.pick (FrD.pick (FrD.pick hf.none hf rfl) hf rfl) hf rfl) hf rfl) hf rfl) hf rfl), hs⟩
                      · rintro a w ⟨x557, hr_, hf, hs⟩
                        subst hr_
                        try dsimp only at hm493
                        refine wpL_seq ?_
                        obtain ⟨r591, hj592, hm493⟩ := bind_some hm493
                        refine wpL_cut (fun a w => ∃ b590 : Bool, b590 = r591 ∧ Fr a 187 [(13, .slice A124 n125 c126), (15, .slice A130 n131 c132), (17, .slice A136 n137 c138), (19, .slice A142 n143 c144), (21, .int .i64 x382), (186, .bool b590)] ∧ St [] W w [.row A124 n125 c126 2 1 (ints r122.1), .row A130 n131 c132 2 1 (ints r128.1), .row A136 n137 c138 2 1 (ints r134.1), .row A142 n143 c144 2 1 (ints r140.1)]) ?_ ?_
                        · refine wpL_draw (by kernel_rfl) (by kernel_rfl) hs ?_
                          refine qY hf rfl rfl rfl (Y_move rfl rfl) ?_; clear hf; intro a hf
                          refine qY hf rfl rfl rfl (Y_move rfl rfl) ?_; clear hf; intro a hf
                          obtain ⟨q593, hi594, hj592⟩ := bind_some hj592
                          obtain ⟨hi594a, hi594b, hi594q⟩ := idx_some hi594
                          refine qY hf rfl rfl rfl (Y_index rfl rfl rfl el23 ti2 (Rd.isAt (hs.rd (i := 2) rfl) (at1 (ints_at hi594q))) hi594a (ltn hn139 hi594b)) ?_; clear hf; intro a hf
                          refine qY hf rfl rfl rfl (Y_load_rd rfl rfl (fun w hs => hs.rd (i := 2) rfl) (at1 (ints_at hi594q)) ag2) ?_; clear hf; intro a hf
                          refine qY hf rfl rfl rfl (Y_move rfl rfl) ?_; clear hf; intro a hf
                          refine qY hf rfl rfl rfl (Y_neq rfl rfl rfl) ?_; clear hf; intro a hf
                          refine qY hf rfl rfl rfl (Y_move rfl rfl) ?_; clear hf; intro a hf
                          refine bsplit (q593 != x557) (fun hb595 => ?_) (fun hb595 => ?_)
                          · have hj592 := bif_t hj592 hb595
                            refine qNo hf rfl rfl rfl (congrArg (fun b => some (Value.bool b)) hb595) rfl rfl rfl ?_; clear hf; intro a hf
                            refine qNo hf rfl rfl rfl (congrArg (fun b => some (Value.bool b)) hb595) rfl rfl rfl ?_; clear hf; intro a hf
                            refine qNo hf rfl rfl rfl (congrArg (fun b => some (Value.bool b)) hb595) rfl rfl rfl ?_; clear hf; intro a hf
                            refine qNo hf rfl rfl rfl (congrArg (fun b => some (Value.bool b)) hb595) rfl rfl rfl ?_; clear hf; intro a hf
                            refine qNo hf rfl rfl rfl (congrArg (fun b => some (Value.bool b)) hb595) rfl rfl rfl ?_; clear hf; intro a hf
                            refine qNo hf rfl rfl rfl (congrArg (fun b => some (Value.bool b)) hb595) rfl rfl rfl ?_; clear hf; intro a hf
                            refine qNo hf rfl rfl rfl (congrArg (fun b => some (Value.bool b)) hb595) rfl rfl rfl ?_; clear hf; intro a hf
                            refine qNo hf rfl rfl rfl (congrArg (fun b => some (Value.bool b)) hb595) rfl rfl rfl ?_; clear hf; intro a hf
                            refine qNo hf rfl rfl rfl (congrArg (fun b => some (Value.bool b)) hb595) rfl rfl rfl ?_; clear hf; intro a hf
                            refine qNo hf rfl rfl rfl (congrArg (fun b => some (Value.bool b)) hb595) rfl rfl rfl ?_; clear hf; intro a hf
                            refine qNo hf rfl rfl rfl (congrArg (fun b => some (Value.bool b)) hb595) rfl rfl rfl ?_; clear hf; intro a hf
                            refine qNo hf rfl rfl rfl (congrArg (fun b => some (Value.bool b)) hb595) rfl rfl rfl ?_; clear hf; intro a hf
                            refine qNo hf rfl rfl rfl (congrArg (fun b => some (Value.bool b)) hb595) rfl rfl rfl ?_; clear hf; intro a hf
                            refine qNo hf rfl rfl rfl (congrArg (fun b => some (Value.bool b)) hb595) rfl rfl rfl ?_; clear hf; intro a hf
                            refine qY hf rfl rfl rfl (Y_pickT rfl (congrArg (fun b => some (Value.bool b)) hb595) rfl) ?_; clear hf; intro a hf
                            refine qNil ?_; clear hs; intro w hs
                            refine wpL_nil (then_normal ?_)
                            exact ⟨true, Option.some.inj hj592, (FrD.pick (FrD.pick (FrD.pick (FrD.pick (FrD.pick (FrD.pick hf.none hf rfl) hf rfl) hf rfl) hf rfl) hf rfl) hf rfl), hs⟩
                          · have hj592 := bif_f hj592 hb595
                            refine qYg hf rfl rfl rfl (congrArg (fun b => some (Value.bool b)) hb595) rfl rfl rfl (Y_move rfl rfl) ?_; clear hf; intro a hf
                            refine qYg hf rfl rfl rfl (congrArg (fun b => some (Value.bool b)) hb595) rfl rfl rfl (Y_move rfl rfl) ?_; clear hf; intro a hf
                            obtain ⟨q596, hi597, hj592⟩ := bind_some hj592
                            obtain ⟨hi597a, hi597b, hi597q⟩ := idx_some hi597
                            refine qYg hf rfl rfl rfl (congrArg (fun b => some (Value.bool b)) hb595) rfl rfl rfl (Y_index rfl rfl rfl el23 ti2 (Rd.isAt (hs.rd (i := 3) rfl) (at1 (ints_at hi597q))) hi597a (ltn hn145 hi597b)) ?_; clear hf; intro a hf
                            refine qYg hf rfl rfl rfl (congrArg (fun b => some (Value.bool b)) hb595) rfl rfl rfl (Y_load_rd rfl rfl (fun w hs => hs.rd (i := 3) rfl) (at1 (ints_at hi597q)) ag2) ?_; clear hf; intro a hf
                            refine qYg hf rfl rfl rfl (congrArg (fun b => some (Value.bool b)) hb595) rfl rfl rfl (Y_move rfl rfl) ?_; clear hf; intro a hf
                            refine qYg hf rfl rfl rfl (congrArg (fun b => some (Value.bool b)) hb595) rfl rfl rfl (Y_move rfl rfl) ?_; clear hf; intro a hf
                            obtain ⟨q598, hi599, hj592⟩ := bind_some hj592
                            obtain ⟨hi599a, hi599b, hi599q⟩ := idx_some hi599
                            refine qYg hf rfl rfl rfl (congrArg (fun b => some (Value.bool b)) hb595) rfl rfl rfl (Y_index rfl rfl rfl el23 ti2 (Rd.isAt (hs.rd (i := 0) rfl) (at1 (ints_at hi599q))) hi599a (ltn hn127 hi599b)) ?_; clear hf; intro a hf
                            refine qYg hf rfl rfl rfl (congrArg (fun b => some (Value.bool b)) hb595) rfl rfl rfl (Y_load_rd rfl rfl (fun w hs => hs.rd (i := 0) rfl) (at1 (ints_at hi599q)) ag2) ?_; clear hf; intro a hf
                            refine qYg hf rfl rfl rfl (congrArg (fun b => some (Value.bool b)) hb595) rfl rfl rfl (Y_move rfl rfl) ?_; clear hf; intro a hf
                            refine qYg hf rfl rfl rfl (congrArg (fun b => some (Value.bool b)) hb595) rfl rfl rfl (Y_move rfl rfl) ?_; clear hf; intro a hf
                            obtain ⟨q600, hi601, hj592⟩ := bind_some hj592
                            obtain ⟨hi601a, hi601b, hi601q⟩ := idx_some hi601
                            refine qYg hf rfl rfl rfl (congrArg (fun b => some (Value.bool b)) hb595) rfl rfl rfl (Y_index rfl rfl rfl el23 ti2 (Rd.isAt (hs.rd (i := 1) rfl) (at1 (ints_at hi601q))) hi601a (ltn hn133 hi601b)) ?_; clear hf; intro a hf
                            refine qYg hf rfl rfl rfl (congrArg (fun b => some (Value.bool b)) hb595) rfl rfl rfl (Y_load_rd rfl rfl (fun w hs => hs.rd (i := 1) rfl) (at1 (ints_at hi601q)) ag2) ?_; clear hf; intro a hf
                            refine qYg hf rfl rfl rfl (congrArg (fun b => some (Value.bool b)) hb595) rfl rfl rfl (Y_max rfl rfl rfl) ?_; clear hf; intro a hf
                            refine qYg hf rfl rfl rfl (congrArg (fun b => some (Value.bool b)) hb595) rfl rfl rfl (Y_neq rfl rfl rfl) ?_; clear hf; intro a hf
                            refine qY hf rfl rfl rfl (Y_pickF rfl (congrArg (fun b => some (Value.bool b)) hb595) rfl) ?_; clear hf; intro a hf
                            refine qNil ?_; clear hs; intro w hs
                            refine wpL_nil (then_normal ?_)
                            exact ⟨(q596 != (max q598 q600)), Option.some.inj hj592, (FrD.pick (FrD.pick (FrD.pick (FrD.pick (FrD.pick (FrD.pick hf.none hf rfl) hf rfl) hf rfl) hf rfl) hf rfl) hf rfl), hs⟩
                        · rintro a w ⟨b590, hr_, hf, hs⟩
                          subst hr_
                          try dsimp only at hm493
                          refine wpL_cond hf rfl (fun hb602 => ?_) (fun hb602 => ?_)
                          · have hm493 := bif_t hm493 hb602
                            refine wpL_seq ?_
                            refine wpL_region ?_
                            refine sY hf hs rfl rfl rfl (Y_assign rfl rfl) ?_; clear hf; intro a hf
                            refine wpO_nil ?_
                            obtain rfl := Option.some.inj hm493
                            try dsimp only at hm
                            obtain rfl := Option.some.inj hm
                            refine wpL_ret (Qb_ret (Ql_ret (Qb_ret (ret_tmp rfl hf rfl ?_))))
                            exact ⟨_, rfl, rfl, hs.sel [] (by decide)⟩
                          · have hm493 := bif_f hm493 hb602
                            refine wpL_skip ?_
                            refine wpL_nil (Qb_normal ?_)
                            refine wpL_region ?_
                            refine sY hf hs rfl rfl rfl (Y_move rfl rfl) ?_; clear hf; intro a hf
                            refine sY hf hs rfl rfl rfl (Y_add rfl rfl rfl) ?_; clear hf; intro a hf
                            refine sY hf hs rfl rfl rfl (Y_assign rfl rfl) ?_; clear hf; intro a hf
                            refine wpO_nil ?_
                            refine wpL_nil (Ql_normal ?_)
                            exact ⟨(IntKind.i64.wrap (x382 + 1)), hm493, (FrD.pick (FrD.pick (FrD.pick (FrD.pick (FrD.pick hf.none hf rfl) hf rfl) hf rfl) hf rfl) hf rfl), hs⟩
                    · have hm493 := bif_f hm493 hb495
                      refine wpL_exit (Ql_exit (Qb_exit ?_))
                      exact ⟨Option.some.inj hm493, hf.none, hs.sel [] (by decide)⟩
                · rintro a w ⟨hr_, hf, hs⟩
                  subst hr_
                  try dsimp only at hm
                  refine wpL_seq ?_
                  refine wpL_region ?_
                  refine sY hf hs rfl rfl rfl (Y_assign rfl rfl) ?_; clear hf; intro a hf
                  refine wpO_nil ?_
                  obtain rfl := Option.some.inj hm
                  refine wpL_ret (ret_tmp rfl hf rfl ?_)
                  exact ⟨_, rfl, rfl, hs⟩

end Go.Proofs.Ytgkgimglgjfcjaa
