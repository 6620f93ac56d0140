/- The functions do what their models say. -/
import Derived.Test.YtpmebacdmilecaaDueOfLastLifted1
import Derived.Test.YtpmebacdmilecaaRows
namespace Go.Proofs.Ytpmebacdmilecaa
open Go.RowKit

set_option maxRecDepth 100000 in
theorem laws_markInt64SS_ok (F : Nat) (p0_a : List (List Int)) (A_p0_a_1 : Option Addr) (n_p0_a_1 c_p0_a_1 : Nat) (hn_p0_a_1 : n_p0_a_1 = p0_a.length) (vs_p0_a : List Value) (p1_k : Int) (r : (Int) × List (List Int)) (W : World) (hm : laws_markInt64SS F p0_a p1_k = some r) (h_p0_a_1 : (Res.mat A_p0_a_1 n_p0_a_1 c_p0_a_1 23 2 vs_p0_a p0_a : Res).holds 0 W) :
    Calls Try.prog 36 [.slice A_p0_a_1 n_p0_a_1 c_p0_a_1, .int .i64 p1_k].toArray W fun e w' => ∃ v, e = .returned v ∧ v = .int .i64 r.1 ∧ n_p0_a_1 = r.2.length ∧ St (muM A_p0_a_1 vs_p0_a) W w' [.mat A_p0_a_1 n_p0_a_1 c_p0_a_1 23 2 vs_p0_a r.2] := by
  subst hn_p0_a_1
  unfold laws_markInt64SS at hm
  refine Calls.enter (N := 19) Try.func36 rfl rfl rfl (fun a hf => ?_)
  have hs : St (muM A_p0_a_1 vs_p0_a) W W [.mat A_p0_a_1 p0_a.length c_p0_a_1 23 2 vs_p0_a p0_a] := St.startMut h_p0_a_1 (fun b hb => muM_mem.2 hb)
  obtain ⟨w, hw_⟩ : ∃ w, w = W := ⟨W, rfl⟩
  clear hw_ w
  refine wpL_seq ?_
  refine wpL_region ?_
  refine sY hf hs rfl rfl rfl (Y_assign rfl rfl) ?_; clear hf; intro a hf
  refine wpO_nil ?_
  refine wpL_seq ?_
  refine wpL_seq ?_
  refine wpL_region ?_
  refine sY hf hs rfl rfl rfl (Y_assign rfl rfl) ?_; clear hf; intro a hf
  refine wpO_nil ?_
  obtain ⟨r45, hl46, hm⟩ := bind_some hm
  refine wpL_block (fun a w => ∃ ms42 : List (List Int), ∃ x44 : Int, (ms42, x44) = r45 ∧ p0_a.length = ms42.length ∧ Fr a 19 [(1, .int .i64 x44)] ∧ St (muM A_p0_a_1 vs_p0_a) W w [.mat A_p0_a_1 p0_a.length c_p0_a_1 23 2 vs_p0_a ms42]) ?_ ?_
  · refine wpL_loop (fun n a w => ∃ ms27 : List (List Int), ∃ x29 : Int, ∃ x30 : Int, laws_markInt64SS_L1 F n ms27 x29 x30 = some r45 ∧ p0_a.length = ms27.length ∧ Fr a 19 [(0, .slice A_p0_a_1 p0_a.length c_p0_a_1), (1, .int .i64 x29), (5, .int .i64 x30)] ∧ St (muM A_p0_a_1 vs_p0_a) W w [.mat A_p0_a_1 p0_a.length c_p0_a_1 23 2 vs_p0_a ms27]) F ?_ ?_ ?_
    · exact ⟨p0_a, p1_k, 0, hl46, rfl, (FrD.pick (FrD.pick (FrD.pick hf.none hf rfl) hf rfl) hf rfl), hs⟩
    · rintro a w ⟨ms27, x29, x30, h0_, -, -, -⟩; simp [laws_markInt64SS_L1] at h0_
    · rintro n48 a w ⟨ms27, x29, x30, hm47, hn28, hf, hs⟩
      rw [laws_markInt64SS_L1] at hm47
      refine wpL_seq ?_
      refine wpL_seq ?_
      refine wpL_region ?_
      refine sY hf hs rfl rfl rfl (Y_move rfl rfl) ?_; clear hf; intro a hf
      refine sY hf hs rfl rfl rfl (Y_move rfl rfl) ?_; clear hf; intro a hf
      refine sY hf hs rfl rfl rfl (Y_lenH rfl rfl el46 hn28) ?_; clear hf; intro a hf
      refine sY hf hs rfl rfl rfl (Y_lss rfl rfl rfl) ?_; clear hf; intro a hf
      refine wpO_nil ?_
      refine wpL_cond hf rfl (fun hb49 => ?_) (fun hb49 => ?_)
      · have hm47 := bif_t hm47 hb49
        refine wpL_skip ?_
        refine wpL_seq ?_
        refine wpL_block0 ?_
        refine wpL_region ?_
        refine sY hf hs rfl rfl rfl (Y_move rfl rfl) ?_; clear hf; intro a hf
        refine sY hf hs rfl rfl rfl (Y_move rfl rfl) ?_; clear hf; intro a hf
        obtain ⟨q50, hi51, hm47⟩ := bind_some hm47
        obtain ⟨hi51a, hi51b, hi51q⟩ := idx_some hi51
        obtain ⟨A52, c53, hv54⟩ := hs.matRow (i := 0) rfl hi51q
        refine sY hf hs rfl rfl rfl (Y_index rfl rfl rfl el46 ti23 (Rd.isAt (hs.rdV (i := 0) rfl) hv54) hi51a (ltn hn28 hi51b)) ?_; clear hf; intro a hf
        refine sY hf hs rfl rfl rfl (Y_load_rd rfl rfl (fun w hs => hs.rdV (i := 0) rfl) (at1 hv54) ag23) ?_; clear hf; intro a hf
        refine sY hf hs rfl rfl rfl (Y_move rfl rfl) ?_; clear hf; intro a hf
        obtain ⟨r55, hc56, hm47⟩ := bind_some hm47
        refine sCall hf rfl rfl rfl rfl (cap := []) rfl rfl en22 (laws_markInt64S_ok F q50 A52 q50.length c53 rfl x29 _ _ hc56 (hs.rowHolds (i := 0) rfl ⟨hi51q, hv54⟩)) ?_; clear hf
        obtain ⟨ms59, hu58, hm47⟩ := bind_some hm47
        rintro _ w ⟨rfl, hn57, hs1⟩ a hf
        have hs : St (muM A_p0_a_1 vs_p0_a) W w [.mat A_p0_a_1 p0_a.length c_p0_a_1 23 2 vs_p0_a ms59] := hs.mutRow (i := 0) rfl ⟨hi51q, hv54⟩ hs1 hn57 hu58
        clear hs1
        refine sY hf hs rfl rfl rfl (Y_assign rfl rfl) ?_; clear hf; intro a hf
        refine wpO_nil ?_
        refine wpL_nil (Qb_normal ?_)
        refine wpL_region ?_
        refine sY hf hs rfl rfl rfl (Y_move rfl rfl) ?_; clear hf; intro a hf
        refine sY hf hs rfl rfl rfl (Y_add rfl rfl rfl) ?_; clear hf; intro a hf
        refine sY hf hs rfl rfl rfl (Y_assign rfl rfl) ?_; clear hf; intro a hf
        refine wpO_nil ?_
        refine wpL_nil (Ql_normal ?_)
        exact ⟨ms59, r55.1, (IntKind.i64.wrap (x30 + 1)), hm47, ((hn28).trans (upd_len hu58).symm), (FrD.pick (FrD.pick (FrD.pick hf.none hf rfl) hf rfl) hf rfl), hs⟩
      · have hm47 := bif_f hm47 hb49
        refine wpL_exit (Ql_exit (Qb_exit ?_))
        exact ⟨ms27, x29, Option.some.inj hm47, hn28, (FrD.pick hf.none hf rfl), hs⟩
  · rintro a w ⟨ms42, x44, hr_, hn43, hf, hs⟩
    subst hr_
    try dsimp only at hm
    refine wpL_seq ?_
    refine wpL_region ?_
    refine sY hf hs rfl rfl rfl (Y_move rfl rfl) ?_; clear hf; intro a hf
    refine sY hf hs rfl rfl rfl (Y_assign rfl rfl) ?_; clear hf; intro a hf
    refine wpO_nil ?_
    obtain rfl := Option.some.inj hm
    refine wpL_ret (ret_tmp rfl hf rfl ?_)
    exact ⟨_, rfl, rfl, hn43, hs⟩

set_option maxRecDepth 100000 in
theorem laws_heldInt64S_ok (F : Nat) (p0_a : List Int) (A_p0_a_1 : Option Addr) (n_p0_a_1 c_p0_a_1 : Nat) (hn_p0_a_1 : n_p0_a_1 = p0_a.length) (p1_k : Int) (r : Int) (W : World) (hm : laws_heldInt64S F p0_a p1_k = some r) (h_p0_a_1 : Rd W A_p0_a_1 (ints p0_a)) :
    Calls Try.prog 23 [.slice A_p0_a_1 n_p0_a_1 c_p0_a_1, .int .i64 p1_k].toArray W fun e w' => ∃ v, e = .returned v ∧ v = .int .i64 r ∧ St [] W w' [] := by
  subst hn_p0_a_1
  unfold laws_heldInt64S at hm
  refine Calls.enter (N := 21) Try.func23 rfl rfl rfl (fun a hf => ?_)
  have hs := St.start W
  obtain ⟨w, hw_⟩ : ∃ w, w = W := ⟨W, rfl⟩
  clear hw_ w
  refine wpL_seq ?_
  refine wpL_region ?_
  refine sY hf hs rfl rfl rfl (Y_assign rfl rfl) ?_; clear hf; intro a hf
  refine wpO_nil ?_
  refine wpL_seq ?_
  refine wpL_seq ?_
  refine wpL_region ?_
  refine sY hf hs rfl rfl rfl (Y_assign rfl rfl) ?_; clear hf; intro a hf
  refine wpO_nil ?_
  obtain ⟨r18, hl19, hm⟩ := bind_some hm
  refine wpL_block (fun a w => ∃ x17 : Int, Sum.inr x17 = r18 ∧ Fr a 21 [(1, .int .i64 x17)] ∧ St [] W w []) ?_ ?_
  · refine wpL_loop (fun n a w => ∃ x11 : Int, ∃ x12 : Int, laws_heldInt64S_L1 F p0_a n x11 x12 = some r18 ∧ Fr a 21 [(0, .slice A_p0_a_1 p0_a.length c_p0_a_1), (1, .int .i64 x11), (5, .int .i64 x12)] ∧ St [] W w []) F ?_ ?_ ?_
    · exact ⟨p1_k, 0, hl19, (FrD.pick (FrD.pick (FrD.pick hf.none hf rfl) hf rfl) hf rfl), hs⟩
    · rintro a w ⟨x11, x12, h0_, -, -⟩; simp [laws_heldInt64S_L1] at h0_
    · rintro n21 a w ⟨x11, x12, hm20, hf, hs⟩
      rw [laws_heldInt64S_L1] at hm20
      refine wpL_seq ?_
      refine wpL_seq ?_
      refine wpL_region ?_
      refine sY hf hs rfl rfl rfl (Y_move rfl rfl) ?_; clear hf; intro a hf
      refine sY hf hs rfl rfl rfl (Y_move rfl rfl) ?_; clear hf; intro a hf
      refine sY hf hs rfl rfl rfl (Y_lenH rfl rfl el23 rfl) ?_; clear hf; intro a hf
      refine sY hf hs rfl rfl rfl (Y_lss rfl rfl rfl) ?_; clear hf; intro a hf
      refine wpO_nil ?_
      refine wpL_cond hf rfl (fun hb22 => ?_) (fun hb22 => ?_)
      · have hm20 := bif_t hm20 hb22
        refine wpL_skip ?_
        refine wpL_seq ?_
        refine wpL_block0 ?_
        refine wpL_seq ?_
        refine wpL_seq ?_
        refine wpL_region ?_
        refine sY hf hs rfl rfl rfl (Y_move rfl rfl) ?_; clear hf; intro a hf
        refine sY hf hs rfl rfl rfl (Y_move rfl rfl) ?_; clear hf; intro a hf
        obtain ⟨q23, hi24, hm20⟩ := bind_some hm20
        obtain ⟨hi24a, hi24b, hi24q⟩ := idx_some hi24
        refine sY hf hs rfl rfl rfl (Y_index rfl rfl rfl el23 ti2 (Rd.isAt (h_p0_a_1.at hs) (at1 (ints_at hi24q))) hi24a hi24b) ?_; clear hf; intro a hf
        refine sY hf hs rfl rfl rfl (Y_load_rd rfl rfl (fun w hs => h_p0_a_1.at hs) (at1 (ints_at hi24q)) ag2) ?_; clear hf; intro a hf
        refine sY hf hs rfl rfl rfl (Y_move rfl rfl) ?_; clear hf; intro a hf
        refine sY hf hs rfl rfl rfl (Y_neq rfl rfl rfl) ?_; clear hf; intro a hf
        refine wpO_nil ?_
        refine wpL_cond hf rfl (fun hb25 => ?_) (fun hb25 => ?_)
        · have hm20 := bif_t hm20 hb25
          refine wpL_seq ?_
          refine wpL_region ?_
          refine sY hf hs rfl rfl rfl (Y_assign rfl rfl) ?_; clear hf; intro a hf
          refine wpO_nil ?_
          obtain rfl := Option.some.inj hm20
          try dsimp only at hm
          obtain rfl := Option.some.inj hm
          refine wpL_ret (Qb_ret (Ql_ret (Qb_ret (ret_tmp rfl hf rfl ?_))))
          exact ⟨_, rfl, rfl, hs⟩
        · have hm20 := bif_f hm20 hb25
          refine wpL_skip ?_
          refine wpL_region ?_
          refine sY hf hs rfl rfl rfl (Y_move rfl rfl) ?_; clear hf; intro a hf
          refine sY hf hs rfl rfl rfl (Y_add rfl rfl rfl) ?_; clear hf; intro a hf
          refine sY hf hs rfl rfl rfl (Y_assign rfl rfl) ?_; clear hf; intro a hf
          refine wpO_nil ?_
          refine wpL_nil (Qb_normal ?_)
          refine wpL_region ?_
          refine sY hf hs rfl rfl rfl (Y_move rfl rfl) ?_; clear hf; intro a hf
          refine sY hf hs rfl rfl rfl (Y_add rfl rfl rfl) ?_; clear hf; intro a hf
          refine sY hf hs rfl rfl rfl (Y_assign rfl rfl) ?_; clear hf; intro a hf
          refine wpO_nil ?_
          refine wpL_nil (Ql_normal ?_)
          exact ⟨(IntKind.i64.wrap (x11 + 1)), (IntKind.i64.wrap (x12 + 1)), hm20, (FrD.pick (FrD.pick (FrD.pick hf.none hf rfl) hf rfl) hf rfl), hs⟩
      · have hm20 := bif_f hm20 hb22
        refine wpL_exit (Ql_exit (Qb_exit ?_))
        exact ⟨x11, Option.some.inj hm20, (FrD.pick hf.none hf rfl), hs⟩
  · rintro a w ⟨x17, hr_, hf, hs⟩
    subst hr_
    try dsimp only at hm
    refine wpL_seq ?_
    refine wpL_region ?_
    refine sY hf hs rfl rfl rfl (Y_move rfl rfl) ?_; clear hf; intro a hf
    refine sY hf hs rfl rfl rfl (Y_assign rfl rfl) ?_; clear hf; intro a hf
    refine wpO_nil ?_
    obtain rfl := Option.some.inj hm
    refine wpL_ret (ret_tmp rfl hf rfl ?_)
    exact ⟨_, rfl, rfl, hs⟩

set_option maxRecDepth 100000 in
theorem laws_heldInt64SS_ok (F : Nat) (p0_a : List (List Int)) (A_p0_a_1 : Option Addr) (n_p0_a_1 c_p0_a_1 : Nat) (hn_p0_a_1 : n_p0_a_1 = p0_a.length) (p1_k : Int) (r : Int) (W : World) (hm : laws_heldInt64SS F p0_a p1_k = some r) (h_p0_a_1 : RdM W A_p0_a_1 p0_a) :
    Calls Try.prog 37 [.slice A_p0_a_1 n_p0_a_1 c_p0_a_1, .int .i64 p1_k].toArray W fun e w' => ∃ v, e = .returned v ∧ v = .int .i64 r ∧ St [] W w' [] := by
  subst hn_p0_a_1
  unfold laws_heldInt64SS at hm
  refine Calls.enter (N := 21) Try.func37 rfl rfl rfl (fun a hf => ?_)
  have hs := St.start W
  obtain ⟨w, hw_⟩ : ∃ w, w = W := ⟨W, rfl⟩
  clear hw_ w
  refine wpL_seq ?_
  refine wpL_region ?_
  refine sY hf hs rfl rfl rfl (Y_assign rfl rfl) ?_; clear hf; intro a hf
  refine wpO_nil ?_
  refine wpL_seq ?_
  refine wpL_seq ?_
  refine wpL_region ?_
  refine sY hf hs rfl rfl rfl (Y_assign rfl rfl) ?_; clear hf; intro a hf
  refine wpO_nil ?_
  obtain ⟨r45, hl46, hm⟩ := bind_some hm
  refine wpL_block (fun a w => ∃ x44 : Int, Sum.inr x44 = r45 ∧ Fr a 21 [(1, .int .i64 x44)] ∧ St [] W w []) ?_ ?_
  · refine wpL_loop (fun n a w => ∃ x29 : Int, ∃ x30 : Int, laws_heldInt64SS_L1 F p0_a n x29 x30 = some r45 ∧ Fr a 21 [(0, .slice A_p0_a_1 p0_a.length c_p0_a_1), (1, .int .i64 x29), (5, .int .i64 x30)] ∧ St [] W w []) F ?_ ?_ ?_
    · exact ⟨p1_k, 0, hl46, (FrD.pick (FrD.pick (FrD.pick hf.none hf rfl) hf rfl) hf rfl), hs⟩
    · rintro a w ⟨x29, x30, h0_, -, -⟩; simp [laws_heldInt64SS_L1] at h0_
    · rintro n48 a w ⟨x29, x30, hm47, hf, hs⟩
      rw [laws_heldInt64SS_L1] at hm47
      refine wpL_seq ?_
      refine wpL_seq ?_
      refine wpL_region ?_
      refine sY hf hs rfl rfl rfl (Y_move rfl rfl) ?_; clear hf; intro a hf
      refine sY hf hs rfl rfl rfl (Y_move rfl rfl) ?_; clear hf; intro a hf
      refine sY hf hs rfl rfl rfl (Y_lenH rfl rfl el46 rfl) ?_; clear hf; intro a hf
      refine sY hf hs rfl rfl rfl (Y_lss rfl rfl rfl) ?_; clear hf; intro a hf
      refine wpO_nil ?_
      refine wpL_cond hf rfl (fun hb49 => ?_) (fun hb49 => ?_)
      · have hm47 := bif_t hm47 hb49
        refine wpL_skip ?_
        refine wpL_seq ?_
        refine wpL_block0 ?_
        refine wpL_seq ?_
        refine wpL_region ?_
        refine sY hf hs rfl rfl rfl (Y_move rfl rfl) ?_; clear hf; intro a hf
        refine sY hf hs rfl rfl rfl (Y_move rfl rfl) ?_; clear hf; intro a hf
        obtain ⟨q50, hi51, hm47⟩ := bind_some hm47
        obtain ⟨hi51a, hi51b, hi51q⟩ := idx_some hi51
        obtain ⟨vs52, hv53, hr54⟩ := id h_p0_a_1
        obtain ⟨A55, c56, hv57, hR58⟩ := hr54 _ _ hi51q
        refine sY hf hs rfl rfl rfl (Y_index rfl rfl rfl el46 ti23 (Rd.isAt hv53 hv57) hi51a hi51b) ?_; clear hf; intro a hf
        refine sY hf hs rfl rfl rfl (Y_load_rd rfl rfl (fun w hs => hv53.at hs) (at1 hv57) ag23) ?_; clear hf; intro a hf
        refine sY hf hs rfl rfl rfl (Y_move rfl rfl) ?_; clear hf; intro a hf
        obtain ⟨r59, hc60, hm47⟩ := bind_some hm47
        refine sCall hf rfl rfl rfl rfl (cap := []) rfl rfl en23 (laws_heldInt64S_ok F q50 A55 q50.length c56 rfl x29 _ _ hc60 (hR58.at hs)) ?_; clear hf
        rintro _ w ⟨rfl, hs1⟩ a hf
        have hs : St [] W w [] := hs.ext hs1.below
        clear hs1
        refine sY hf hs rfl rfl rfl (Y_assign rfl rfl) ?_; clear hf; intro a hf
        refine wpO_nil ?_
        refine wpL_seq ?_
        refine wpL_region ?_
        refine sY hf hs rfl rfl rfl (Y_move rfl rfl) ?_; clear hf; intro a hf
        refine sY hf hs rfl rfl rfl (Y_lss rfl rfl rfl) ?_; clear hf; intro a hf
        refine wpO_nil ?_
        refine wpL_cond hf rfl (fun hb61 => ?_) (fun hb61 => ?_)
        · have hm47 := bif_t hm47 hb61
          refine wpL_seq ?_
          refine wpL_region ?_
          refine sY hf hs rfl rfl rfl (Y_assign rfl rfl) ?_; clear hf; intro a hf
          refine wpO_nil ?_
          obtain rfl := Option.some.inj hm47
          try dsimp only at hm
          obtain rfl := Option.some.inj hm
          refine wpL_ret (Qb_ret (Ql_ret (Qb_ret (ret_tmp rfl hf rfl ?_))))
          exact ⟨_, rfl, rfl, hs⟩
        · have hm47 := bif_f hm47 hb61
          refine wpL_skip ?_
          refine wpL_nil (Qb_normal ?_)
          refine wpL_region ?_
          refine sY hf hs rfl rfl rfl (Y_move rfl rfl) ?_; clear hf; intro a hf
          refine sY hf hs rfl rfl rfl (Y_add rfl rfl rfl) ?_; clear hf; intro a hf
          refine sY hf hs rfl rfl rfl (Y_assign rfl rfl) ?_; clear hf; intro a hf
          refine wpO_nil ?_
          refine wpL_nil (Ql_normal ?_)
          exact ⟨r59, (IntKind.i64.wrap (x30 + 1)), hm47, (FrD.pick (FrD.pick (FrD.pick hf.none hf rfl) hf rfl) hf rfl), hs⟩
      · have hm47 := bif_f hm47 hb49
        refine wpL_exit (Ql_exit (Qb_exit ?_))
        exact ⟨x29, Option.some.inj hm47, (FrD.pick hf.none hf rfl), hs⟩
  · rintro a w ⟨x44, hr_, hf, hs⟩
    subst hr_
    try dsimp only at hm
    refine wpL_seq ?_
    refine wpL_region ?_
    refine sY hf hs rfl rfl rfl (Y_move rfl rfl) ?_; clear hf; intro a hf
    refine sY hf hs rfl rfl rfl (Y_assign rfl rfl) ?_; clear hf; intro a hf
    refine wpO_nil ?_
    obtain rfl := Option.some.inj hm
    refine wpL_ret (ret_tmp rfl hf rfl ?_)
    exact ⟨_, rfl, rfl, hs⟩

set_option maxHeartbeats 2000000 in
set_option maxRecDepth 100000 in
theorem laws_FnExactDueOfLast_ok (F : Nat) (p0 : LEventGraph) (A_p0_1 : Option Addr) (n_p0_1 c_p0_1 : Nat) (hn_p0_1 : n_p0_1 = p0.Places.length) (p1 : Int) (p2 : List Int) (A_p2_1 : Option Addr) (n_p2_1 c_p2_1 : Nat) (hn_p2_1 : n_p2_1 = p2.length) (r : Bool) (W : World) (hm : laws_FnExactDueOfLast F p0 p1 p2 = some r) (h_p0_1 : Rd W A_p0_1 ((recs LPlace.cells) p0.Places)) (h_p2_1 : Rd W A_p2_1 (ints p2)) :
    Calls Try.prog 6 [.agg #[.int .i64 p0.Events, .slice A_p0_1 n_p0_1 c_p0_1], .int .i64 p1, .slice A_p2_1 n_p2_1 c_p2_1].toArray W fun e w' => ∃ v, e = .returned v ∧ v = .bool r ∧ St [] W w' [] := by
  subst hn_p0_1
  subst hn_p2_1
  unfold laws_FnExactDueOfLast at hm
  refine Calls.enter (N := 122) Try.func6 rfl rfl rfl (fun a hf => ?_)
  have hs := St.start W
  obtain ⟨w, hw_⟩ : ∃ w, w = W := ⟨W, rfl⟩
  clear hw_ w
  refine wpL_seq ?_
  refine wpL_region ?_
  refine sBox hf hs rfl rfl rfl rfl rfl (cs := [.int .i64 p0.Events, .slice A_p0_1 p0.Places.length c_p0_1]) rfl ?_; clear hf hs; intro a w b1 hs hf
  have hs : St [] W w [.blk b1 35 [.int .i64 p0.Events, .slice A_p0_1 p0.Places.length c_p0_1]] := hs
  refine sY hf hs rfl rfl rfl (Y_assign rfl rfl) ?_; clear hf; intro a hf
  refine wpO_nil ?_
  refine wpL_seq ?_
  refine wpL_seq ?_
  refine wpL_region ?_
  refine sY hf hs rfl rfl rfl (Y_move rfl rfl) ?_; clear hf; intro a hf
  refine sY hf hs rfl rfl rfl (Y_lenH rfl rfl el23 rfl) ?_; clear hf; intro a hf
  refine sY hf hs rfl rfl rfl (Y_gtr rfl rfl rfl) ?_; clear hf; intro a hf
  refine wpO_nil ?_
  refine wpL_cond hf rfl (fun hb2 => ?_) (fun hb2 => ?_)
  · have hm := bif_t hm hb2
    refine wpL_seq ?_
    refine wpL_region ?_
    refine sY hf hs rfl rfl rfl (Y_assign rfl rfl) ?_; clear hf; intro a hf
    refine wpO_nil ?_
    obtain rfl := Option.some.inj hm
    refine wpL_ret (ret_tmp rfl hf rfl ?_)
    exact ⟨_, rfl, rfl, hs.sel [] (by decide)⟩
  · have hm := bif_f hm hb2
    refine wpL_skip ?_
    refine wpL_seq ?_
    refine wpL_region ?_
    refine sY hf hs rfl rfl rfl (Y_assign rfl rfl) ?_; clear hf; intro a hf
    refine wpO_nil ?_
    refine wpL_seq ?_
    refine wpL_region ?_
    refine sY hf hs rfl rfl rfl (Y_load_blkS rfl rfl (i := 0) rfl ag35 ti35 rfl) ?_; clear hf; intro a hf
    refine sY hf hs rfl rfl rfl (Y_move rfl rfl) ?_; clear hf; intro a hf
    obtain ⟨r3, hc4, hm⟩ := bind_some hm
    refine sCall hf rfl rfl rfl rfl (cap := []) rfl rfl en24 (laws_szEventGraph_ok F p0 A_p0_1 p0.Places.length c_p0_1 rfl 1048576 _ _ hc4 (h_p0_1.at hs)) ?_; clear hf
    rintro _ w ⟨rfl, hs1⟩ a hf
    have hs : St [] W w [.blk b1 35 [.int .i64 p0.Events, .slice A_p0_1 p0.Places.length c_p0_1]] := hs.ext hs1.below
    clear hs1
    refine sY hf hs rfl rfl rfl (Y_assign rfl rfl) ?_; clear hf; intro a hf
    refine wpO_nil ?_
    refine wpL_seq ?_
    refine wpL_seq ?_
    refine wpL_region ?_
    refine sY hf hs rfl rfl rfl (Y_move rfl rfl) ?_; clear hf; intro a hf
    refine sY hf hs rfl rfl rfl (Y_lss rfl rfl rfl) ?_; clear hf; intro a hf
    refine wpO_nil ?_
    refine wpL_cond hf rfl (fun hb5 => ?_) (fun hb5 => ?_)
    · have hm := bif_t hm hb5
      refine wpL_seq ?_
      refine wpL_region ?_
      refine sY hf hs rfl rfl rfl (Y_assign rfl rfl) ?_; clear hf; intro a hf
      refine wpO_nil ?_
      obtain rfl := Option.some.inj hm
      refine wpL_ret (ret_tmp rfl hf rfl ?_)
      exact ⟨_, rfl, rfl, hs.sel [] (by decide)⟩
    · have hm := bif_f hm hb5
      refine wpL_skip ?_
      refine wpL_seq ?_
      refine wpL_region ?_
      refine sY hf hs rfl rfl rfl (Y_load_blkS rfl rfl (i := 0) rfl ag35 ti35 rfl) ?_; clear hf; intro a hf
      obtain ⟨r6, hc7, hm⟩ := bind_some hm
      refine sCall hf rfl rfl rfl rfl (cap := []) rfl rfl en26 (laws_toEventGraph_ok F p0 A_p0_1 p0.Places.length c_p0_1 rfl _ _ hc7 (h_p0_1.at hs)) ?_; clear hf
      rintro _ w ⟨A8, n9, c10, rfl, hn11, hs1⟩ a hf
      have hs : St [] W w [.blk b1 35 [.int .i64 p0.Events, .slice A_p0_1 p0.Places.length c_p0_1], .row A8 n9 c10 96 4 ((recs GPlace.cells) r6.Places)] := hs.join hs1
      clear hs1
      refine sY hf hs rfl rfl rfl (Y_move rfl rfl) ?_; clear hf; intro a hf
      refine sY hf hs rfl rfl rfl (Y_move rfl rfl) ?_; clear hf; intro a hf
      obtain ⟨r12, hc13, hm⟩ := bind_some hm
      refine sCall hf rfl rfl rfl rfl (cap := []) rfl rfl en17 (laws_toInt64S_ok F p2 A_p2_1 p2.length c_p2_1 rfl _ _ hc13 (h_p2_1.at hs)) ?_; clear hf
      rintro _ w ⟨A14, n15, c16, rfl, hn17, hs1⟩ a hf
      have hs : St [] W w [.blk b1 35 [.int .i64 p0.Events, .slice A_p0_1 p0.Places.length c_p0_1], .row A8 n9 c10 96 4 ((recs GPlace.cells) r6.Places), .row A14 n15 c16 2 1 (ints r12)] := hs.join hs1
      clear hs1
      obtain ⟨r18, hc19, hm⟩ := bind_some hm
      refine sCall hf rfl rfl rfl rfl (cap := []) rfl rfl en33 (spec_DueOfLast_ok F r6 A8 n9 c10 hn11 p1 r12 A14 n15 c16 hn17 _ _ hc19 (hs.rd (i := 1) rfl) (hs.rd (i := 2) rfl)) ?_; clear hf
      rintro _ w ⟨A20, n21, c22, vs24, rfl, hn23, hs1⟩ a hf
      have hs : St [] W w [.blk b1 35 [.int .i64 p0.Events, .slice A_p0_1 p0.Places.length c_p0_1], .row A8 n9 c10 96 4 ((recs GPlace.cells) r6.Places), .row A14 n15 c16 2 1 (ints r12), .mat A20 n21 c22 23 2 vs24 r18.1] := hs.join hs1
      clear hs1
      refine sY hf hs rfl rfl rfl (Y_move rfl rfl) ?_; clear hf; intro a hf
      refine sY hf hs rfl rfl rfl (Y_extract rfl rfl rfl) ?_; clear hf; intro a hf
      refine sY hf hs rfl rfl rfl (Y_extract rfl rfl rfl) ?_; clear hf; intro a hf
      refine sY hf hs rfl rfl rfl (Y_assign rfl rfl) ?_; clear hf; intro a hf
      refine sY hf hs rfl rfl rfl (Y_assign rfl rfl) ?_; clear hf; intro a hf
      refine wpO_nil ?_
      refine wpL_seq ?_
      refine wpL_region ?_
      refine sY hf hs rfl rfl rfl (Y_load_blkS rfl rfl (i := 0) rfl ag35 ti35 rfl) ?_; clear hf; intro a hf
      obtain ⟨r25, hc26, hm⟩ := bind_some hm
      refine sCall hf rfl rfl rfl rfl (cap := []) rfl rfl en26 (laws_toEventGraph_ok F p0 A_p0_1 p0.Places.length c_p0_1 rfl _ _ hc26 (h_p0_1.at hs)) ?_; clear hf
      rintro _ w ⟨A27, n28, c29, rfl, hn30, hs1⟩ a hf
      have hs : St [] W w [.blk b1 35 [.int .i64 p0.Events, .slice A_p0_1 p0.Places.length c_p0_1], .row A8 n9 c10 96 4 ((recs GPlace.cells) r6.Places), .row A14 n15 c16 2 1 (ints r12), .mat A20 n21 c22 23 2 vs24 r18.1, .row A27 n28 c29 96 4 ((recs GPlace.cells) r25.Places)] := hs.join hs1
      clear hs1
      refine sAlloc hf hs rfl rfl rfl rfl ti39 ?_; clear hf hs; intro a w b31 hs hf
      have hs : St [] W w [.blk b1 35 [.int .i64 p0.Events, .slice A_p0_1 p0.Places.length c_p0_1], .row A8 n9 c10 96 4 ((recs GPlace.cells) r6.Places), .row A14 n15 c16 2 1 (ints r12), .mat A20 n21 c22 23 2 vs24 r18.1, .row A27 n28 c29 96 4 ((recs GPlace.cells) r25.Places), .blk b31 39 [.int .i64 0, .slice none 0 0]] := hs
      refine sStore (i := 5) (us := [.int .i64 r25.Events, .slice A27 n28 c29]) hf hs rfl rfl rfl rfl rfl rfl ti39 rfl rfl rfl (Nat.le_of_ble_eq_true rfl) rfl ?_; clear hs; intro w hs
      have hs : St [] W w [.blk b1 35 [.int .i64 p0.Events, .slice A_p0_1 p0.Places.length c_p0_1], .row A8 n9 c10 96 4 ((recs GPlace.cells) r6.Places), .row A14 n15 c16 2 1 (ints r12), .mat A20 n21 c22 23 2 vs24 r18.1, .row A27 n28 c29 96 4 ((recs GPlace.cells) r25.Places), .blk b31 39 [.int .i64 r25.Events, .slice A27 n28 c29]] := hs
      refine wpO_nil ?_
      refine wpL_seq ?_
      refine wpL_region ?_
      refine sY hf hs rfl rfl rfl (Y_move rfl rfl) ?_; clear hf; intro a hf
      obtain ⟨r32, hc33, hm⟩ := bind_some hm
      refine sCall hf rfl rfl rfl rfl (cap := []) rfl rfl en17 (laws_toInt64S_ok F p2 A_p2_1 p2.length c_p2_1 rfl _ _ hc33 (h_p2_1.at hs)) ?_; clear hf
      rintro _ w ⟨A34, n35, c36, rfl, hn37, hs1⟩ a hf
      have hs : St [] W w [.blk b1 35 [.int .i64 p0.Events, .slice A_p0_1 p0.Places.length c_p0_1], .row A8 n9 c10 96 4 ((recs GPlace.cells) r6.Places), .row A14 n15 c16 2 1 (ints r12), .mat A20 n21 c22 23 2 vs24 r18.1, .row A27 n28 c29 96 4 ((recs GPlace.cells) r25.Places), .blk b31 39 [.int .i64 r25.Events, .slice A27 n28 c29], .row A34 n35 c36 2 1 (ints r32)] := hs.join hs1
      clear hs1
      refine sY hf hs rfl rfl rfl (Y_assign rfl rfl) ?_; clear hf; intro a hf
      refine wpO_nil ?_
      refine wpL_seq ?_
      refine wpL_region ?_
      refine sY hf hs rfl rfl rfl (Y_load_blkS rfl rfl (i := 5) rfl ag39 ti39 rfl) ?_; clear hf; intro a hf
      refine sY hf hs rfl rfl rfl (Y_move rfl rfl) ?_; clear hf; intro a hf
      refine sY hf hs rfl rfl rfl (Y_move rfl rfl) ?_; clear hf; intro a hf
      obtain ⟨r38, hc39, hm⟩ := bind_some hm
      refine sCall hf rfl rfl rfl rfl (cap := []) rfl rfl en34 (impl_DueOfLast_ok F r25 A27 n28 c29 hn30 p1 r32 A34 n35 c36 hn37 _ _ hc39 (hs.rd (i := 4) rfl) (hs.rd (i := 6) rfl)) ?_; clear hf
      rintro _ w ⟨A40, n41, c42, vs44, rfl, hn43, hs1⟩ a hf
      have hs : St [] W w [.blk b1 35 [.int .i64 p0.Events, .slice A_p0_1 p0.Places.length c_p0_1], .row A8 n9 c10 96 4 ((recs GPlace.cells) r6.Places), .row A14 n15 c16 2 1 (ints r12), .mat A20 n21 c22 23 2 vs24 r18.1, .row A27 n28 c29 96 4 ((recs GPlace.cells) r25.Places), .blk b31 39 [.int .i64 r25.Events, .slice A27 n28 c29], .row A34 n35 c36 2 1 (ints r32), .mat A40 n41 c42 23 2 vs44 r38.1] := hs.join hs1
      clear hs1
      refine sY hf hs rfl rfl rfl (Y_move rfl rfl) ?_; clear hf; intro a hf
      refine sY hf hs rfl rfl rfl (Y_extract rfl rfl rfl) ?_; clear hf; intro a hf
      refine sY hf hs rfl rfl rfl (Y_extract rfl rfl rfl) ?_; clear hf; intro a hf
      refine sY hf hs rfl rfl rfl (Y_assign rfl rfl) ?_; clear hf; intro a hf
      refine sY hf hs rfl rfl rfl (Y_assign rfl rfl) ?_; clear hf; intro a hf
      refine wpO_nil ?_
      refine wpL_seq ?_
      refine wpL_seq ?_
      obtain ⟨r49, hj50, hm⟩ := bind_some hm
      refine wpL_cut (fun a w => ∃ b48 : Bool, b48 = r49 ∧ Fr a 122 [(1, .int .i64 p1), (2, .slice A_p2_1 p2.length c_p2_1), (3, .pointer (some ⟨b1, 0, none⟩)), (8, .slice A20 n21 c22), (9, .int .i64 r18.2), (10, .pointer (some ⟨b31, 0, none⟩)), (11, .slice A34 n35 c36), (12, .slice A40 n41 c42), (13, .int .i64 r38.2), (55, .bool b48)] ∧ St [] W w [.blk b1 35 [.int .i64 p0.Events, .slice A_p0_1 p0.Places.length c_p0_1], .mat A20 n21 c22 23 2 vs24 r18.1, .blk b31 39 [.int .i64 r25.Events, .slice A27 n28 c29], .row A27 n28 c29 96 4 ((recs GPlace.cells) r25.Places), .row A34 n35 c36 2 1 (ints r32), .mat A40 n41 c42 23 2 vs44 r38.1]) ?_ ?_
      · refine wpL_region ?_
        refine sY hf hs rfl rfl rfl (Y_move rfl rfl) ?_; clear hf; intro a hf
        refine sY hf hs rfl rfl rfl (Y_move rfl rfl) ?_; clear hf; intro a hf
        obtain ⟨r51, hc52, hj50⟩ := bind_some hj50
        refine sCall hf rfl rfl rfl rfl (cap := []) rfl rfl en35 (laws_eqInt64SS_ok F r38.1 A40 n41 c42 hn43 r18.1 A20 n21 c22 hn23 _ _ hc52 (hs.rdM (i := 7) rfl) (hs.rdM (i := 3) rfl)) ?_; clear hf
        rintro _ w ⟨rfl, hs1⟩ a hf
        have hs : St [] W w [.blk b1 35 [.int .i64 p0.Events, .slice A_p0_1 p0.Places.length c_p0_1], .row A8 n9 c10 96 4 ((recs GPlace.cells) r6.Places), .row A14 n15 c16 2 1 (ints r12), .mat A20 n21 c22 23 2 vs24 r18.1, .row A27 n28 c29 96 4 ((recs GPlace.cells) r25.Places), .blk b31 39 [.int .i64 r25.Events, .slice A27 n28 c29], .row A34 n35 c36 2 1 (ints r32), .mat A40 n41 c42 23 2 vs44 r38.1] := hs.ext hs1.below
        clear hs1
        refine sY hf hs rfl rfl rfl (Y_not rfl rfl) ?_; clear hf; intro a hf
        refine sY hf hs rfl rfl rfl (Y_move rfl rfl) ?_; clear hf; intro a hf
        refine bsplit (!r51) (fun hb53 => ?_) (fun hb53 => ?_)
        · have hj50 := bif_t hj50 hb53
          refine sNo hf rfl rfl rfl (congrArg (fun b => some (Value.bool b)) hb53) rfl rfl rfl ?_; clear hf; intro a hf
          refine sNo hf rfl rfl rfl (congrArg (fun b => some (Value.bool b)) hb53) rfl rfl rfl ?_; clear hf; intro a hf
          refine sNo hf rfl rfl rfl (congrArg (fun b => some (Value.bool b)) hb53) rfl rfl rfl ?_; clear hf; intro a hf
          refine sY hf hs rfl rfl rfl (Y_pickT rfl (congrArg (fun b => some (Value.bool b)) hb53) rfl) ?_; clear hf; intro a hf
          refine wpO_nil ?_
          refine wpL_nil (then_normal ?_)
          exact ⟨true, Option.some.inj hj50, (FrD.pick (FrD.pick (FrD.pick (FrD.pick (FrD.pick (FrD.pick (FrD.pick (FrD.pick (FrD.pick (FrD.pick hf.none hf rfl) hf rfl) hf rfl) hf rfl) hf rfl) hf rfl) hf rfl) hf rfl) hf rfl) hf rfl), hs.sel [0, 3, 5, 4, 6, 7] (by decide)⟩
        · have hj50 := bif_f hj50 hb53
          refine sYg hf hs rfl rfl rfl (congrArg (fun b => some (Value.bool b)) hb53) rfl rfl rfl (Y_move rfl rfl) ?_; clear hf; intro a hf
          refine sYg hf hs rfl rfl rfl (congrArg (fun b => some (Value.bool b)) hb53) rfl rfl rfl (Y_move rfl rfl) ?_; clear hf; intro a hf
          refine sYg hf hs rfl rfl rfl (congrArg (fun b => some (Value.bool b)) hb53) rfl rfl rfl (Y_neq rfl rfl rfl) ?_; clear hf; intro a hf
          refine sY hf hs rfl rfl rfl (Y_pickF rfl (congrArg (fun b => some (Value.bool b)) hb53) rfl) ?_; clear hf; intro a hf
          refine wpO_nil ?_
          refine wpL_nil (then_normal ?_)
          exact ⟨(r38.2 != r18.2), Option.some.inj hj50, (FrD.pick (FrD.pick (FrD.pick (FrD.pick (FrD.pick (FrD.pick (FrD.pick (FrD.pick (FrD.pick (FrD.pick hf.none hf rfl) hf rfl) hf rfl) hf rfl) hf rfl) hf rfl) hf rfl) hf rfl) hf rfl) hf rfl), hs.sel [0, 3, 5, 4, 6, 7] (by decide)⟩
      · rintro a w ⟨b48, hr_, hf, hs⟩
        subst hr_
        try dsimp only at hm
        refine wpL_cond hf rfl (fun hb54 => ?_) (fun hb54 => ?_)
        · have hm := bif_t hm hb54
          refine wpL_seq ?_
          refine wpL_region ?_
          refine sY hf hs rfl rfl rfl (Y_assign rfl rfl) ?_; clear hf; intro a hf
          refine wpO_nil ?_
          obtain rfl := Option.some.inj hm
          refine wpL_ret (ret_tmp rfl hf rfl ?_)
          exact ⟨_, rfl, rfl, hs.sel [] (by decide)⟩
        · have hm := bif_f hm hb54
          refine wpL_skip ?_
          refine wpL_seq ?_
          refine wpL_seq ?_
          refine wpL_drawM [.blk b1 35 [.int .i64 p0.Events, .slice A_p0_1 p0.Places.length c_p0_1], .mat A20 n21 c22 23 2 vs24 r18.1, .blk b31 39 [.int .i64 r25.Events, .slice A27 n28 c29], .row A27 n28 c29 96 4 ((recs GPlace.cells) r25.Places), .row A34 n35 c36 2 1 (ints r32), .mat A40 n41 c42 23 2 vs44 r38.1] [3] (by kernel_rfl) hs ?_; clear hs; intro w hs
          have hs0 : St [] W w [.blk b1 35 [.int .i64 p0.Events, .slice A_p0_1 p0.Places.length c_p0_1], .mat A20 n21 c22 23 2 vs24 r18.1, .blk b31 39 [.int .i64 r25.Events, .slice A27 n28 c29], .row A27 n28 c29 96 4 ((recs GPlace.cells) r25.Places), .row A34 n35 c36 2 1 (ints r32), .mat A40 n41 c42 23 2 vs44 r38.1] := hs
          refine mY (i := 0) [[]] rfl (by kernel_rfl) (by kernel_rfl) hf hs0 rfl rfl rfl (Y_load_blkS rfl rfl (i := 2) rfl ag39 ti39 rfl) ?_; clear hf; intro a hf
          refine mY (i := 1) [[2]] rfl (by kernel_rfl) (by kernel_rfl) hf hs0 rfl rfl rfl (Y_load_blkS rfl rfl (i := 0) rfl ag35 ti35 rfl) ?_; clear hf; intro a hf
          refine mRun (i := 2) rfl (by kernel_rfl) ?_
          obtain ⟨r63, hc64, hm⟩ := bind_some hm
          refine sCall hf rfl rfl rfl rfl (cap := []) rfl rfl en26 (laws_toEventGraph_ok F p0 A_p0_1 p0.Places.length c_p0_1 rfl _ _ hc64 (h_p0_1.at hs)) ?_; clear hf
          rintro _ w ⟨A65, n66, c67, rfl, hn68, hs1⟩ a hf
          have hs : St [] W w [.blk b1 35 [.int .i64 p0.Events, .slice A_p0_1 p0.Places.length c_p0_1], .mat A20 n21 c22 23 2 vs24 r18.1, .blk b31 39 [.int .i64 r25.Events, .slice A27 n28 c29], .row A27 n28 c29 96 4 ((recs GPlace.cells) r25.Places), .row A34 n35 c36 2 1 (ints r32), .mat A40 n41 c42 23 2 vs44 r38.1, .row A65 n66 c67 96 4 ((recs GPlace.cells) r63.Places)] := hs.join hs1
          clear hs1
          have hs0 : St [] W w [.blk b1 35 [.int .i64 p0.Events, .slice A_p0_1 p0.Places.length c_p0_1], .mat A20 n21 c22 23 2 vs24 r18.1, .blk b31 39 [.int .i64 r25.Events, .slice A27 n28 c29], .row A27 n28 c29 96 4 ((recs GPlace.cells) r25.Places), .row A34 n35 c36 2 1 (ints r32), .mat A40 n41 c42 23 2 vs44 r38.1] := hs.sel [0, 1, 2, 3, 4, 5] (by decide)
          refine wpO_nil ⟨Or.inr (fun _ => hs0), ?_⟩
          refine mRun (i := 3) rfl (by kernel_rfl) ?_
          obtain ⟨r69, hc70, hm⟩ := bind_some hm
          refine sCall hf rfl rfl rfl rfl (cap := []) rfl rfl en28 (laws_eqEventGraph_ok F r25 A27 n28 c29 hn30 r63 A65 n66 c67 hn68 _ _ hc70 (hs.rd (i := 3) rfl) (hs.rd (i := 6) rfl)) ?_; clear hf
          rintro _ w ⟨rfl, hs1⟩ a hf
          have hs : St [] W w [.blk b1 35 [.int .i64 p0.Events, .slice A_p0_1 p0.Places.length c_p0_1], .mat A20 n21 c22 23 2 vs24 r18.1, .blk b31 39 [.int .i64 r25.Events, .slice A27 n28 c29], .row A27 n28 c29 96 4 ((recs GPlace.cells) r25.Places), .row A34 n35 c36 2 1 (ints r32), .mat A40 n41 c42 23 2 vs44 r38.1, .row A65 n66 c67 96 4 ((recs GPlace.cells) r63.Places)] := hs.ext hs1.below
          clear hs1
          refine wpO_nil ⟨Or.inl (by decide), ?_⟩
          refine mYp (i := 4) rfl (by kernel_rfl) (by kernel_rfl) hf rfl rfl rfl (fun _ => Y_not rfl rfl) ?_; clear hf; intro a hf
          refine mDone (by kernel_rfl) ?_
          clear hs0
          refine wpL_cond hf rfl (fun hb71 => ?_) (fun hb71 => ?_)
          · have hm := bif_t hm hb71
            refine wpL_seq ?_
            refine wpL_region ?_
            refine sY hf hs rfl rfl rfl (Y_assign rfl rfl) ?_; clear hf; intro a hf
            refine wpO_nil ?_
            obtain rfl := Option.some.inj hm
            refine wpL_ret (ret_tmp rfl hf rfl ?_)
            exact ⟨_, rfl, rfl, hs.sel [] (by decide)⟩
          · have hm := bif_f hm hb71
            refine wpL_skip ?_
            refine wpL_seq ?_
            refine wpL_seq ?_
            refine wpL_region ?_
            refine sY hf hs rfl rfl rfl (Y_move rfl rfl) ?_; clear hf; intro a hf
            refine sY hf hs rfl rfl rfl (Y_move rfl rfl) ?_; clear hf; intro a hf
            obtain ⟨r72, hc73, hm⟩ := bind_some hm
            refine sCall hf rfl rfl rfl rfl (cap := []) rfl rfl en17 (laws_toInt64S_ok F p2 A_p2_1 p2.length c_p2_1 rfl _ _ hc73 (h_p2_1.at hs)) ?_; clear hf
            rintro _ w ⟨A74, n75, c76, rfl, hn77, hs1⟩ a hf
            have hs : St [] W w [.blk b1 35 [.int .i64 p0.Events, .slice A_p0_1 p0.Places.length c_p0_1], .mat A20 n21 c22 23 2 vs24 r18.1, .blk b31 39 [.int .i64 r25.Events, .slice A27 n28 c29], .row A27 n28 c29 96 4 ((recs GPlace.cells) r25.Places), .row A34 n35 c36 2 1 (ints r32), .mat A40 n41 c42 23 2 vs44 r38.1, .row A65 n66 c67 96 4 ((recs GPlace.cells) r63.Places), .row A74 n75 c76 2 1 (ints r72)] := hs.join hs1
            clear hs1
            obtain ⟨r78, hc79, hm⟩ := bind_some hm
            refine sCall hf rfl rfl rfl rfl (cap := []) rfl rfl en19 (laws_eqInt64S_ok F r32 A34 n35 c36 hn37 r72 A74 n75 c76 hn77 _ _ hc79 (hs.rd (i := 4) rfl) (hs.rd (i := 7) rfl)) ?_; clear hf
            rintro _ w ⟨rfl, hs1⟩ a hf
            have hs : St [] W w [.blk b1 35 [.int .i64 p0.Events, .slice A_p0_1 p0.Places.length c_p0_1], .mat A20 n21 c22 23 2 vs24 r18.1, .blk b31 39 [.int .i64 r25.Events, .slice A27 n28 c29], .row A27 n28 c29 96 4 ((recs GPlace.cells) r25.Places), .row A34 n35 c36 2 1 (ints r32), .mat A40 n41 c42 23 2 vs44 r38.1, .row A65 n66 c67 96 4 ((recs GPlace.cells) r63.Places), .row A74 n75 c76 2 1 (ints r72)] := hs.ext hs1.below
            clear hs1
            refine sY hf hs rfl rfl rfl (Y_not rfl rfl) ?_; clear hf; intro a hf
            refine wpO_nil ?_
            refine wpL_cond hf rfl (fun hb80 => ?_) (fun hb80 => ?_)
            · have hm := bif_t hm hb80
              refine wpL_seq ?_
              refine wpL_region ?_
              refine sY hf hs rfl rfl rfl (Y_assign rfl rfl) ?_; clear hf; intro a hf
              refine wpO_nil ?_
              obtain rfl := Option.some.inj hm
              refine wpL_ret (ret_tmp rfl hf rfl ?_)
              exact ⟨_, rfl, rfl, hs.sel [] (by decide)⟩
            · have hm := bif_f hm hb80
              refine wpL_skip ?_
              refine wpL_seq ?_
              refine wpL_region ?_
              refine sY hf hs rfl rfl rfl (Y_assign rfl rfl) ?_; clear hf; intro a hf
              refine wpO_nil ?_
              refine wpL_seq ?_
              refine wpL_region ?_
              refine sY hf hs rfl rfl rfl (Y_load_blkS rfl rfl (i := 2) rfl ag39 ti39 rfl) ?_; clear hf; intro a hf
              refine sY hf hs rfl rfl rfl (Y_move rfl rfl) ?_; clear hf; intro a hf
              obtain ⟨r81, hc82, hm⟩ := bind_some hm
              refine sCall hf rfl rfl rfl rfl (cap := []) rfl rfl en29 (laws_markEventGraph_ok F r25 A27 n28 c29 hn30 1 _ _ hc82 (hs.res _ _ (show _[3]? = some _ from rfl))) ?_; clear hf
              rintro _ w ⟨rfl, hn83, hs1⟩ a hf
              have hs : St [] W w [.blk b1 35 [.int .i64 p0.Events, .slice A_p0_1 p0.Places.length c_p0_1], .mat A20 n21 c22 23 2 vs24 r18.1, .blk b31 39 [.int .i64 r25.Events, .slice A27 n28 c29], .row A27 n28 c29 96 4 ((recs GPlace.cells) r81.2), .row A34 n35 c36 2 1 (ints r32), .mat A40 n41 c42 23 2 vs44 r38.1, .row A65 n66 c67 96 4 ((recs GPlace.cells) r63.Places), .row A74 n75 c76 2 1 (ints r72)] := hs.mut (i := 3) rfl (fun b hb => muA_mem hb) hs1
              clear hs1
              refine sY hf hs rfl rfl rfl (Y_assign rfl rfl) ?_; clear hf; intro a hf
              refine wpO_nil ?_
              refine wpL_seq ?_
              refine wpL_region ?_
              refine sY hf hs rfl rfl rfl (Y_move rfl rfl) ?_; clear hf; intro a hf
              refine sY hf hs rfl rfl rfl (Y_move rfl rfl) ?_; clear hf; intro a hf
              obtain ⟨r84, hc85, hm⟩ := bind_some hm
              refine sCall hf rfl rfl rfl rfl (cap := []) rfl rfl en22 (laws_markInt64S_ok F r32 A34 n35 c36 hn37 r81.1 _ _ hc85 (hs.res _ _ (show _[4]? = some _ from rfl))) ?_; clear hf
              rintro _ w ⟨rfl, hn86, hs1⟩ a hf
              have hs : St [] W w [.blk b1 35 [.int .i64 p0.Events, .slice A_p0_1 p0.Places.length c_p0_1], .mat A20 n21 c22 23 2 vs24 r18.1, .blk b31 39 [.int .i64 r25.Events, .slice A27 n28 c29], .row A27 n28 c29 96 4 ((recs GPlace.cells) r81.2), .row A34 n35 c36 2 1 (ints r84.2), .mat A40 n41 c42 23 2 vs44 r38.1, .row A65 n66 c67 96 4 ((recs GPlace.cells) r63.Places), .row A74 n75 c76 2 1 (ints r72)] := hs.mut (i := 4) rfl (fun b hb => muA_mem hb) hs1
              clear hs1
              refine sY hf hs rfl rfl rfl (Y_assign rfl rfl) ?_; clear hf; intro a hf
              refine wpO_nil ?_
              refine wpL_seq ?_
              refine wpL_seq ?_
              obtain ⟨r92, hj93, hm⟩ := bind_some hm
              refine wpL_cut (fun a w => ∃ b91 : Bool, b91 = r92 ∧ Fr a 122 [(1, .int .i64 p1), (2, .slice A_p2_1 p2.length c_p2_1), (3, .pointer (some ⟨b1, 0, none⟩)), (8, .slice A20 n21 c22), (9, .int .i64 r18.2), (12, .slice A40 n41 c42), (84, .bool b91)] ∧ St [] W w [.blk b1 35 [.int .i64 p0.Events, .slice A_p0_1 p0.Places.length c_p0_1], .mat A20 n21 c22 23 2 vs24 r18.1, .mat A40 n41 c42 23 2 vs44 r38.1]) ?_ ?_
              · refine wpL_region ?_
                refine sY hf hs rfl rfl rfl (Y_move rfl rfl) ?_; clear hf; intro a hf
                refine sY hf hs rfl rfl rfl (Y_lss rfl rfl rfl) ?_; clear hf; intro a hf
                refine sY hf hs rfl rfl rfl (Y_move rfl rfl) ?_; clear hf; intro a hf
                refine bsplit (decide (r84.1 < 0)) (fun hb94 => ?_) (fun hb94 => ?_)
                · have hj93 := bif_t hj93 hb94
                  refine sNo hf rfl rfl rfl (congrArg (fun b => some (Value.bool b)) hb94) rfl rfl rfl ?_; clear hf; intro a hf
                  refine sNo hf rfl rfl rfl (congrArg (fun b => some (Value.bool b)) hb94) rfl rfl rfl ?_; clear hf; intro a hf
                  refine sNo hf rfl rfl rfl (congrArg (fun b => some (Value.bool b)) hb94) rfl rfl rfl ?_; clear hf; intro a hf
                  refine sNo hf rfl rfl rfl (congrArg (fun b => some (Value.bool b)) hb94) rfl rfl rfl ?_; clear hf; intro a hf
                  refine sY hf hs rfl rfl rfl (Y_pickT rfl (congrArg (fun b => some (Value.bool b)) hb94) rfl) ?_; clear hf; intro a hf
                  refine sY hf hs rfl rfl rfl (Y_move rfl rfl) ?_; clear hf; intro a hf
                  refine sNo hf rfl rfl rfl rfl rfl rfl rfl ?_; clear hf; intro a hf
                  refine sNo hf rfl rfl rfl rfl rfl rfl rfl ?_; clear hf; intro a hf
                  refine sNo hf rfl rfl rfl rfl rfl rfl rfl ?_; clear hf; intro a hf
                  refine sY hf hs rfl rfl rfl (Y_pickT rfl rfl rfl) ?_; clear hf; intro a hf
                  refine wpO_nil ?_
                  refine wpL_nil (then_normal ?_)
                  exact ⟨true, Option.some.inj hj93, (FrD.pick (FrD.pick (FrD.pick (FrD.pick (FrD.pick (FrD.pick (FrD.pick hf.none hf rfl) hf rfl) hf rfl) hf rfl) hf rfl) hf rfl) hf rfl), hs.sel [0, 1, 5] (by decide)⟩
                · have hj93 := bif_f hj93 hb94
                  refine sYg hf hs rfl rfl rfl (congrArg (fun b => some (Value.bool b)) hb94) rfl rfl rfl (Y_move rfl rfl) ?_; clear hf; intro a hf
                  refine sYg hf hs rfl rfl rfl (congrArg (fun b => some (Value.bool b)) hb94) rfl rfl rfl (Y_move rfl rfl) ?_; clear hf; intro a hf
                  obtain ⟨r95, hc96, hj93⟩ := bind_some hj93
                  refine sCallg hf rfl rfl rfl (congrArg (fun b => some (Value.bool b)) hb94) rfl rfl rfl rfl (cap := []) rfl rfl en35 (laws_eqInt64SS_ok F r38.1 A40 n41 c42 hn43 r18.1 A20 n21 c22 hn23 _ _ hc96 (hs.rdM (i := 5) rfl) (hs.rdM (i := 1) rfl)) ?_; clear hf
                  rintro _ w ⟨rfl, hs1⟩ a hf
                  have hs : St [] W w [.blk b1 35 [.int .i64 p0.Events, .slice A_p0_1 p0.Places.length c_p0_1], .mat A20 n21 c22 23 2 vs24 r18.1, .blk b31 39 [.int .i64 r25.Events, .slice A27 n28 c29], .row A27 n28 c29 96 4 ((recs GPlace.cells) r81.2), .row A34 n35 c36 2 1 (ints r84.2), .mat A40 n41 c42 23 2 vs44 r38.1, .row A65 n66 c67 96 4 ((recs GPlace.cells) r63.Places), .row A74 n75 c76 2 1 (ints r72)] := hs.ext hs1.below
                  clear hs1
                  refine sYg hf hs rfl rfl rfl (congrArg (fun b => some (Value.bool b)) hb94) rfl rfl rfl (Y_not rfl rfl) ?_; clear hf; intro a hf
                  refine sY hf hs rfl rfl rfl (Y_pickF rfl (congrArg (fun b => some (Value.bool b)) hb94) rfl) ?_; clear hf; intro a hf
                  refine sY hf hs rfl rfl rfl (Y_move rfl rfl) ?_; clear hf; intro a hf
                  refine bsplit (!r95) (fun hb97 => ?_) (fun hb97 => ?_)
                  · have hj93 := bif_t hj93 hb97
                    refine sNo hf rfl rfl rfl (congrArg (fun b => some (Value.bool b)) hb97) rfl rfl rfl ?_; clear hf; intro a hf
                    refine sNo hf rfl rfl rfl (congrArg (fun b => some (Value.bool b)) hb97) rfl rfl rfl ?_; clear hf; intro a hf
                    refine sNo hf rfl rfl rfl (congrArg (fun b => some (Value.bool b)) hb97) rfl rfl rfl ?_; clear hf; intro a hf
                    refine sY hf hs rfl rfl rfl (Y_pickT rfl (congrArg (fun b => some (Value.bool b)) hb97) rfl) ?_; clear hf; intro a hf
                    refine wpO_nil ?_
                    refine wpL_nil (then_normal ?_)
                    exact ⟨true, Option.some.inj hj93, (FrD.pick (FrD.pick (FrD.pick (FrD.pick (FrD.pick (FrD.pick (FrD.pick hf.none hf rfl) hf rfl) hf rfl) hf rfl) hf rfl) hf rfl) hf rfl), hs.sel [0, 1, 5] (by decide)⟩
                  · have hj93 := bif_f hj93 hb97
                    refine sYg hf hs rfl rfl rfl (congrArg (fun b => some (Value.bool b)) hb97) rfl rfl rfl (Y_move rfl rfl) ?_; clear hf; intro a hf
                    refine sYg hf hs rfl rfl rfl (congrArg (fun b => some (Value.bool b)) hb97) rfl rfl rfl (Y_move rfl rfl) ?_; clear hf; intro a hf
                    refine sYg hf hs rfl rfl rfl (congrArg (fun b => some (Value.bool b)) hb97) rfl rfl rfl (Y_neq rfl rfl rfl) ?_; clear hf; intro a hf
                    refine sY hf hs rfl rfl rfl (Y_pickF rfl (congrArg (fun b => some (Value.bool b)) hb97) rfl) ?_; clear hf; intro a hf
                    refine wpO_nil ?_
                    refine wpL_nil (then_normal ?_)
                    exact ⟨(r38.2 != r18.2), Option.some.inj hj93, (FrD.pick (FrD.pick (FrD.pick (FrD.pick (FrD.pick (FrD.pick (FrD.pick hf.none hf rfl) hf rfl) hf rfl) hf rfl) hf rfl) hf rfl) hf rfl), hs.sel [0, 1, 5] (by decide)⟩
              · rintro a w ⟨b91, hr_, hf, hs⟩
                subst hr_
                try dsimp only at hm
                refine wpL_cond hf rfl (fun hb98 => ?_) (fun hb98 => ?_)
                · have hm := bif_t hm hb98
                  refine wpL_seq ?_
                  refine wpL_region ?_
                  refine sY hf hs rfl rfl rfl (Y_assign rfl rfl) ?_; clear hf; intro a hf
                  refine wpO_nil ?_
                  obtain rfl := Option.some.inj hm
                  refine wpL_ret (ret_tmp rfl hf rfl ?_)
                  exact ⟨_, rfl, rfl, hs.sel [] (by decide)⟩
                · have hm := bif_f hm hb98
                  refine wpL_skip ?_
                  refine wpL_seq ?_
                  refine wpL_region ?_
                  refine sY hf hs rfl rfl rfl (Y_assign rfl rfl) ?_; clear hf; intro a hf
                  refine wpO_nil ?_
                  refine wpL_seq ?_
                  refine wpL_region ?_
                  refine sY hf hs rfl rfl rfl (Y_move rfl rfl) ?_; clear hf; intro a hf
                  refine sY hf hs rfl rfl rfl (Y_move rfl rfl) ?_; clear hf; intro a hf
                  obtain ⟨r99, hc100, hm⟩ := bind_some hm
                  refine sCall hf rfl rfl rfl rfl (cap := []) rfl rfl en36 (laws_markInt64SS_ok F r38.1 A40 n41 c42 hn43 vs44 1 _ _ hc100 (hs.res _ _ (show _[2]? = some _ from rfl))) ?_; clear hf
                  rintro _ w ⟨rfl, hn101, hs1⟩ a hf
                  have hs : St [] W w [.blk b1 35 [.int .i64 p0.Events, .slice A_p0_1 p0.Places.length c_p0_1], .mat A20 n21 c22 23 2 vs24 r18.1, .mat A40 n41 c42 23 2 vs44 r99.2] := hs.mut (i := 2) rfl (fun b hb => muM_mem.1 hb) hs1
                  clear hs1
                  refine sY hf hs rfl rfl rfl (Y_assign rfl rfl) ?_; clear hf; intro a hf
                  refine wpO_nil ?_
                  refine wpL_seq ?_
                  refine wpL_region ?_
                  refine sY hf hs rfl rfl rfl (Y_assign rfl rfl) ?_; clear hf; intro a hf
                  refine wpO_nil ?_
                  refine wpL_seq ?_
                  refine wpL_region ?_
                  refine sY hf hs rfl rfl rfl (Y_move rfl rfl) ?_; clear hf; intro a hf
                  refine sY hf hs rfl rfl rfl (Y_move rfl rfl) ?_; clear hf; intro a hf
                  obtain ⟨r102, hc103, hm⟩ := bind_some hm
                  refine sCall hf rfl rfl rfl rfl (cap := []) rfl rfl en37 (laws_heldInt64SS_ok F r99.2 A40 n41 c42 hn101 1 _ _ hc103 (hs.rdM (i := 2) rfl)) ?_; clear hf
                  rintro _ w ⟨rfl, hs1⟩ a hf
                  have hs : St [] W w [.blk b1 35 [.int .i64 p0.Events, .slice A_p0_1 p0.Places.length c_p0_1], .mat A20 n21 c22 23 2 vs24 r18.1, .mat A40 n41 c42 23 2 vs44 r99.2] := hs.ext hs1.below
                  clear hs1
                  refine sY hf hs rfl rfl rfl (Y_assign rfl rfl) ?_; clear hf; intro a hf
                  refine wpO_nil ?_
                  refine wpL_seq ?_
                  refine wpL_seq ?_
                  refine wpL_region ?_
                  refine sY hf hs rfl rfl rfl (Y_move rfl rfl) ?_; clear hf; intro a hf
                  refine sY hf hs rfl rfl rfl (Y_lss rfl rfl rfl) ?_; clear hf; intro a hf
                  refine wpO_nil ?_
                  refine wpL_cond hf rfl (fun hb104 => ?_) (fun hb104 => ?_)
                  · have hm := bif_t hm hb104
                    refine wpL_seq ?_
                    refine wpL_region ?_
                    refine sY hf hs rfl rfl rfl (Y_assign rfl rfl) ?_; clear hf; intro a hf
                    refine wpO_nil ?_
                    obtain rfl := Option.some.inj hm
                    refine wpL_ret (ret_tmp rfl hf rfl ?_)
                    exact ⟨_, rfl, rfl, hs.sel [] (by decide)⟩
                  · have hm := bif_f hm hb104
                    refine wpL_skip ?_
                    refine wpL_seq ?_
                    refine wpL_seq ?_
                    refine wpL_region ?_
                    refine sY hf hs rfl rfl rfl (Y_move rfl rfl) ?_; clear hf; intro a hf
                    refine sY hf hs rfl rfl rfl (Y_move rfl rfl) ?_; clear hf; intro a hf
                    refine sY hf hs rfl rfl rfl (Y_neq rfl rfl rfl) ?_; clear hf; intro a hf
                    refine wpO_nil ?_
                    refine wpL_cond hf rfl (fun hb105 => ?_) (fun hb105 => ?_)
                    · have hm := bif_t hm hb105
                      refine wpL_seq ?_
                      refine wpL_region ?_
                      refine sY hf hs rfl rfl rfl (Y_assign rfl rfl) ?_; clear hf; intro a hf
                      refine wpO_nil ?_
                      obtain rfl := Option.some.inj hm
                      refine wpL_ret (ret_tmp rfl hf rfl ?_)
                      exact ⟨_, rfl, rfl, hs.sel [] (by decide)⟩
                    · have hm := bif_f hm hb105
                      refine wpL_skip ?_
                      refine wpL_seq ?_
                      refine wpL_region ?_
                      refine sY hf hs rfl rfl rfl (Y_load_blkS rfl rfl (i := 0) rfl ag35 ti35 rfl) ?_; clear hf; intro a hf
                      obtain ⟨r106, hc107, hm⟩ := bind_some hm
                      refine sCall hf rfl rfl rfl rfl (cap := []) rfl rfl en26 (laws_toEventGraph_ok F p0 A_p0_1 p0.Places.length c_p0_1 rfl _ _ hc107 (h_p0_1.at hs)) ?_; clear hf
                      rintro _ w ⟨A108, n109, c110, rfl, hn111, hs1⟩ a hf
                      have hs : St [] W w [.blk b1 35 [.int .i64 p0.Events, .slice A_p0_1 p0.Places.length c_p0_1], .mat A20 n21 c22 23 2 vs24 r18.1, .mat A40 n41 c42 23 2 vs44 r99.2, .row A108 n109 c110 96 4 ((recs GPlace.cells) r106.Places)] := hs.join hs1
                      clear hs1
                      refine sY hf hs rfl rfl rfl (Y_move rfl rfl) ?_; clear hf; intro a hf
                      refine sY hf hs rfl rfl rfl (Y_move rfl rfl) ?_; clear hf; intro a hf
                      obtain ⟨r112, hc113, hm⟩ := bind_some hm
                      refine sCall hf rfl rfl rfl rfl (cap := []) rfl rfl en17 (laws_toInt64S_ok F p2 A_p2_1 p2.length c_p2_1 rfl _ _ hc113 (h_p2_1.at hs)) ?_; clear hf
                      rintro _ w ⟨A114, n115, c116, rfl, hn117, hs1⟩ a hf
                      have hs : St [] W w [.blk b1 35 [.int .i64 p0.Events, .slice A_p0_1 p0.Places.length c_p0_1], .mat A20 n21 c22 23 2 vs24 r18.1, .mat A40 n41 c42 23 2 vs44 r99.2, .row A108 n109 c110 96 4 ((recs GPlace.cells) r106.Places), .row A114 n115 c116 2 1 (ints r112)] := hs.join hs1
                      clear hs1
                      obtain ⟨r118, hc119, hm⟩ := bind_some hm
                      refine sCall hf rfl rfl rfl rfl (cap := []) rfl rfl en34 (impl_DueOfLast_ok F r106 A108 n109 c110 hn111 p1 r112 A114 n115 c116 hn117 _ _ hc119 (hs.rd (i := 3) rfl) (hs.rd (i := 4) rfl)) ?_; clear hf
                      rintro _ w ⟨A120, n121, c122, vs124, rfl, hn123, hs1⟩ a hf
                      have hs : St [] W w [.blk b1 35 [.int .i64 p0.Events, .slice A_p0_1 p0.Places.length c_p0_1], .mat A20 n21 c22 23 2 vs24 r18.1, .mat A40 n41 c42 23 2 vs44 r99.2, .row A108 n109 c110 96 4 ((recs GPlace.cells) r106.Places), .row A114 n115 c116 2 1 (ints r112), .mat A120 n121 c122 23 2 vs124 r118.1] := hs.join hs1
                      clear hs1
                      refine sY hf hs rfl rfl rfl (Y_move rfl rfl) ?_; clear hf; intro a hf
                      refine sY hf hs rfl rfl rfl (Y_extract rfl rfl rfl) ?_; clear hf; intro a hf
                      refine sY hf hs rfl rfl rfl (Y_extract rfl rfl rfl) ?_; clear hf; intro a hf
                      refine sY hf hs rfl rfl rfl (Y_assign rfl rfl) ?_; clear hf; intro a hf
                      refine sY hf hs rfl rfl rfl (Y_assign rfl rfl) ?_; clear hf; intro a hf
                      refine wpO_nil ?_
                      refine wpL_seq ?_
                      refine wpL_seq ?_
                      obtain ⟨r129, hj130, hm⟩ := bind_some hm
                      refine wpL_cut (fun a w => ∃ b128 : Bool, b128 = r129 ∧ Fr a 122 [(12, .slice A40 n41 c42), (15, .int .i64 r99.1), (113, .bool b128)] ∧ St [] W w [.mat A40 n41 c42 23 2 vs44 r99.2]) ?_ ?_
                      · refine wpL_region ?_
                        refine sY hf hs rfl rfl rfl (Y_move rfl rfl) ?_; clear hf; intro a hf
                        refine sY hf hs rfl rfl rfl (Y_move rfl rfl) ?_; clear hf; intro a hf
                        obtain ⟨r131, hc132, hj130⟩ := bind_some hj130
                        refine sCall hf rfl rfl rfl rfl (cap := []) rfl rfl en35 (laws_eqInt64SS_ok F r118.1 A120 n121 c122 hn123 r18.1 A20 n21 c22 hn23 _ _ hc132 (hs.rdM (i := 5) rfl) (hs.rdM (i := 1) rfl)) ?_; clear hf
                        rintro _ w ⟨rfl, hs1⟩ a hf
                        have hs : St [] W w [.blk b1 35 [.int .i64 p0.Events, .slice A_p0_1 p0.Places.length c_p0_1], .mat A20 n21 c22 23 2 vs24 r18.1, .mat A40 n41 c42 23 2 vs44 r99.2, .row A108 n109 c110 96 4 ((recs GPlace.cells) r106.Places), .row A114 n115 c116 2 1 (ints r112), .mat A120 n121 c122 23 2 vs124 r118.1] := hs.ext hs1.below
                        clear hs1
                        refine sY hf hs rfl rfl rfl (Y_not rfl rfl) ?_; clear hf; intro a hf
                        refine sY hf hs rfl rfl rfl (Y_move rfl rfl) ?_; clear hf; intro a hf
                        refine bsplit (!r131) (fun hb133 => ?_) (fun hb133 => ?_)
                        · have hj130 := bif_t hj130 hb133
                          refine sNo hf rfl rfl rfl (congrArg (fun b => some (Value.bool b)) hb133) rfl rfl rfl ?_; clear hf; intro a hf
                          refine sNo hf rfl rfl rfl (congrArg (fun b => some (Value.bool b)) hb133) rfl rfl rfl ?_; clear hf; intro a hf
                          refine sNo hf rfl rfl rfl (congrArg (fun b => some (Value.bool b)) hb133) rfl rfl rfl ?_; clear hf; intro a hf
                          refine sY hf hs rfl rfl rfl (Y_pickT rfl (congrArg (fun b => some (Value.bool b)) hb133) rfl) ?_; clear hf; intro a hf
                          refine wpO_nil ?_
                          refine wpL_nil (then_normal ?_)
                          exact ⟨true, Option.some.inj hj130, (FrD.pick (FrD.pick (FrD.pick hf.none hf rfl) hf rfl) hf rfl), hs.sel [2] (by decide)⟩
                        · have hj130 := bif_f hj130 hb133
                          refine sYg hf hs rfl rfl rfl (congrArg (fun b => some (Value.bool b)) hb133) rfl rfl rfl (Y_move rfl rfl) ?_; clear hf; intro a hf
                          refine sYg hf hs rfl rfl rfl (congrArg (fun b => some (Value.bool b)) hb133) rfl rfl rfl (Y_move rfl rfl) ?_; clear hf; intro a hf
                          refine sYg hf hs rfl rfl rfl (congrArg (fun b => some (Value.bool b)) hb133) rfl rfl rfl (Y_neq rfl rfl rfl) ?_; clear hf; intro a hf
                          refine sY hf hs rfl rfl rfl (Y_pickF rfl (congrArg (fun b => some (Value.bool b)) hb133) rfl) ?_; clear hf; intro a hf
                          refine wpO_nil ?_
                          refine wpL_nil (then_normal ?_)
                          exact ⟨(r118.2 != r18.2), Option.some.inj hj130, (FrD.pick (FrD.pick (FrD.pick hf.none hf rfl) hf rfl) hf rfl), hs.sel [2] (by decide)⟩
                      · rintro a w ⟨b128, hr_, hf, hs⟩
                        subst hr_
                        try dsimp only at hm
                        refine wpL_cond hf rfl (fun hb134 => ?_) (fun hb134 => ?_)
                        · have hm := bif_t hm hb134
                          refine wpL_seq ?_
                          refine wpL_region ?_
                          refine sY hf hs rfl rfl rfl (Y_assign rfl rfl) ?_; clear hf; intro a hf
                          refine wpO_nil ?_
                          obtain rfl := Option.some.inj hm
                          refine wpL_ret (ret_tmp rfl hf rfl ?_)
                          exact ⟨_, rfl, rfl, hs.sel [] (by decide)⟩
                        · have hm := bif_f hm hb134
                          refine wpL_skip ?_
                          refine wpL_seq ?_
                          refine wpL_region ?_
                          refine sY hf hs rfl rfl rfl (Y_assign rfl rfl) ?_; clear hf; intro a hf
                          refine wpO_nil ?_
                          refine wpL_seq ?_
                          refine wpL_region ?_
                          refine sY hf hs rfl rfl rfl (Y_move rfl rfl) ?_; clear hf; intro a hf
                          refine sY hf hs rfl rfl rfl (Y_move rfl rfl) ?_; clear hf; intro a hf
                          obtain ⟨r135, hc136, hm⟩ := bind_some hm
                          refine sCall hf rfl rfl rfl rfl (cap := []) rfl rfl en37 (laws_heldInt64SS_ok F r99.2 A40 n41 c42 hn101 1 _ _ hc136 (hs.rdM (i := 0) rfl)) ?_; clear hf
                          rintro _ w ⟨rfl, hs1⟩ a hf
                          have hs : St [] W w [.mat A40 n41 c42 23 2 vs44 r99.2] := hs.ext hs1.below
                          clear hs1
                          refine sY hf hs rfl rfl rfl (Y_assign rfl rfl) ?_; clear hf; intro a hf
                          refine wpO_nil ?_
                          refine wpL_seq ?_
                          refine wpL_seq ?_
                          refine wpL_region ?_
                          refine sY hf hs rfl rfl rfl (Y_move rfl rfl) ?_; clear hf; intro a hf
                          refine sY hf hs rfl rfl rfl (Y_lss rfl rfl rfl) ?_; clear hf; intro a hf
                          refine wpO_nil ?_
                          refine wpL_cond hf rfl (fun hb137 => ?_) (fun hb137 => ?_)
                          · have hm := bif_t hm hb137
                            refine wpL_seq ?_
                            refine wpL_region ?_
                            refine sY hf hs rfl rfl rfl (Y_assign rfl rfl) ?_; clear hf; intro a hf
                            refine wpO_nil ?_
                            obtain rfl := Option.some.inj hm
                            refine wpL_ret (ret_tmp rfl hf rfl ?_)
                            exact ⟨_, rfl, rfl, hs.sel [] (by decide)⟩
                          · have hm := bif_f hm hb137
                            refine wpL_skip ?_
                            refine wpL_seq ?_
                            refine wpL_seq ?_
                            refine wpL_region ?_
                            refine sY hf hs rfl rfl rfl (Y_move rfl rfl) ?_; clear hf; intro a hf
                            refine sY hf hs rfl rfl rfl (Y_move rfl rfl) ?_; clear hf; intro a hf
                            refine sY hf hs rfl rfl rfl (Y_neq rfl rfl rfl) ?_; clear hf; intro a hf
                            refine wpO_nil ?_
                            refine wpL_cond hf rfl (fun hb138 => ?_) (fun hb138 => ?_)
                            · have hm := bif_t hm hb138
                              refine wpL_seq ?_
                              refine wpL_region ?_
                              refine sY hf hs rfl rfl rfl (Y_assign rfl rfl) ?_; clear hf; intro a hf
                              refine wpO_nil ?_
                              obtain rfl := Option.some.inj hm
                              refine wpL_ret (ret_tmp rfl hf rfl ?_)
                              exact ⟨_, rfl, rfl, hs.sel [] (by decide)⟩
                            · have hm := bif_f hm hb138
                              refine wpL_skip ?_
                              refine wpL_seq ?_
                              refine wpL_region ?_
                              refine sY hf hs rfl rfl rfl (Y_assign rfl rfl) ?_; clear hf; intro a hf
                              refine wpO_nil ?_
                              obtain rfl := Option.some.inj hm
                              refine wpL_ret (ret_tmp rfl hf rfl ?_)
                              exact ⟨_, rfl, rfl, hs.sel [] (by decide)⟩

end Go.Proofs.Ytpmebacdmilecaa
