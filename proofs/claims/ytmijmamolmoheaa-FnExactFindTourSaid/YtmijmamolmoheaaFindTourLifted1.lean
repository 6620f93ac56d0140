/- The functions do what their models say. -/
import Derived.Test.YtmijmamolmoheaaFindTourFacts
import Derived.Test.YtmijmamolmoheaaRows
namespace Go.Proofs.Ytmijmamolmoheaa
open Go.RowKit

set_option maxRecDepth 100000 in
theorem laws_szWindowS_ok (F : Nat) (p0_a : List LWindow) (A_p0_a_1 : Option Addr) (n_p0_a_1 c_p0_a_1 : Nat) (hn_p0_a_1 : n_p0_a_1 = p0_a.length) (p1_left : Int) (r : Int) (W : World) (hm : laws_szWindowS F p0_a p1_left = some r) (_h_p0_a_1 : Rd W A_p0_a_1 ((recs LWindow.cells) p0_a)) :
    Calls Try.prog 35 [.slice A_p0_a_1 n_p0_a_1 c_p0_a_1, .int .i64 p1_left].toArray W fun e w' => ∃ v, e = .returned v ∧ v = .int .i64 r ∧ St [] W w' [] := by
  subst hn_p0_a_1
  unfold laws_szWindowS at hm
  refine Calls.enter (N := 12) Try.func35 rfl rfl rfl (fun a hf => ?_)
  have hs := St.start W
  obtain ⟨w, hw_⟩ : ∃ w, w = W := ⟨W, rfl⟩
  clear hw_ w
  refine wpL_seq ?_
  refine wpL_region ?_
  refine sY hf hs rfl rfl rfl (Y_assign rfl rfl) ?_; clear hf; intro a hf
  refine wpO_nil ?_
  refine wpL_seq ?_
  refine wpL_region ?_
  refine sY hf hs rfl rfl rfl (Y_move rfl rfl) ?_; clear hf; intro a hf
  refine sY hf hs rfl rfl rfl (Y_move rfl rfl) ?_; clear hf; intro a hf
  refine sY hf hs rfl rfl rfl (Y_lenH rfl rfl el48 rfl) ?_; clear hf; intro a hf
  refine sY hf hs rfl rfl rfl (Y_sub rfl rfl rfl) ?_; clear hf; intro a hf
  refine sY hf hs rfl rfl rfl (Y_assign rfl rfl) ?_; clear hf; intro a hf
  refine wpO_nil ?_
  refine wpL_seq ?_
  refine wpL_seq ?_
  refine wpL_region ?_
  refine sY hf hs rfl rfl rfl (Y_move rfl rfl) ?_; clear hf; intro a hf
  refine sY hf hs rfl rfl rfl (Y_lss rfl rfl rfl) ?_; clear hf; intro a hf
  refine wpO_nil ?_
  refine wpL_cond hf rfl (fun hb1 => ?_) (fun hb1 => ?_)
  · have hm := bif_t hm hb1
    refine wpL_seq ?_
    refine wpL_region ?_
    refine sY hf hs rfl rfl rfl (Y_assign rfl rfl) ?_; clear hf; intro a hf
    refine wpO_nil ?_
    obtain rfl := Option.some.inj hm
    refine wpL_ret (ret_tmp rfl hf rfl ?_)
    exact ⟨_, rfl, rfl, hs⟩
  · have hm := bif_f hm hb1
    refine wpL_skip ?_
    refine wpL_seq ?_
    refine wpL_region ?_
    refine sY hf hs rfl rfl rfl (Y_move rfl rfl) ?_; clear hf; intro a hf
    refine sY hf hs rfl rfl rfl (Y_assign rfl rfl) ?_; clear hf; intro a hf
    refine wpO_nil ?_
    obtain rfl := Option.some.inj hm
    refine wpL_ret (ret_tmp rfl hf rfl ?_)
    exact ⟨_, rfl, rfl, hs⟩

set_option maxRecDepth 100000 in
theorem laws_szBondS_ok (F : Nat) (p0_a : List LBond) (A_p0_a_1 : Option Addr) (n_p0_a_1 c_p0_a_1 : Nat) (hn_p0_a_1 : n_p0_a_1 = p0_a.length) (p1_left : Int) (r : Int) (W : World) (hm : laws_szBondS F p0_a p1_left = some r) (_h_p0_a_1 : Rd W A_p0_a_1 ((recs LBond.cells) p0_a)) :
    Calls Try.prog 36 [.slice A_p0_a_1 n_p0_a_1 c_p0_a_1, .int .i64 p1_left].toArray W fun e w' => ∃ v, e = .returned v ∧ v = .int .i64 r ∧ St [] W w' [] := by
  subst hn_p0_a_1
  unfold laws_szBondS at hm
  refine Calls.enter (N := 12) Try.func36 rfl rfl rfl (fun a hf => ?_)
  have hs := St.start W
  obtain ⟨w, hw_⟩ : ∃ w, w = W := ⟨W, rfl⟩
  clear hw_ w
  refine wpL_seq ?_
  refine wpL_region ?_
  refine sY hf hs rfl rfl rfl (Y_assign rfl rfl) ?_; clear hf; intro a hf
  refine wpO_nil ?_
  refine wpL_seq ?_
  refine wpL_region ?_
  refine sY hf hs rfl rfl rfl (Y_move rfl rfl) ?_; clear hf; intro a hf
  refine sY hf hs rfl rfl rfl (Y_move rfl rfl) ?_; clear hf; intro a hf
  refine sY hf hs rfl rfl rfl (Y_lenH rfl rfl el49 rfl) ?_; clear hf; intro a hf
  refine sY hf hs rfl rfl rfl (Y_sub rfl rfl rfl) ?_; clear hf; intro a hf
  refine sY hf hs rfl rfl rfl (Y_assign rfl rfl) ?_; clear hf; intro a hf
  refine wpO_nil ?_
  refine wpL_seq ?_
  refine wpL_seq ?_
  refine wpL_region ?_
  refine sY hf hs rfl rfl rfl (Y_move rfl rfl) ?_; clear hf; intro a hf
  refine sY hf hs rfl rfl rfl (Y_lss rfl rfl rfl) ?_; clear hf; intro a hf
  refine wpO_nil ?_
  refine wpL_cond hf rfl (fun hb1 => ?_) (fun hb1 => ?_)
  · have hm := bif_t hm hb1
    refine wpL_seq ?_
    refine wpL_region ?_
    refine sY hf hs rfl rfl rfl (Y_assign rfl rfl) ?_; clear hf; intro a hf
    refine wpO_nil ?_
    obtain rfl := Option.some.inj hm
    refine wpL_ret (ret_tmp rfl hf rfl ?_)
    exact ⟨_, rfl, rfl, hs⟩
  · have hm := bif_f hm hb1
    refine wpL_skip ?_
    refine wpL_seq ?_
    refine wpL_region ?_
    refine sY hf hs rfl rfl rfl (Y_move rfl rfl) ?_; clear hf; intro a hf
    refine sY hf hs rfl rfl rfl (Y_assign rfl rfl) ?_; clear hf; intro a hf
    refine wpO_nil ?_
    obtain rfl := Option.some.inj hm
    refine wpL_ret (ret_tmp rfl hf rfl ?_)
    exact ⟨_, rfl, rfl, hs⟩

set_option maxRecDepth 100000 in
theorem laws_toWindow_ok (F : Nat) (p0_a : LWindow) (r : GWindow) (W : World) (hm : laws_toWindow F p0_a = some r) :
    Calls Try.prog 95 [.agg #[.int .i64 p0_a.Low, .int .i64 p0_a.High]].toArray W fun e w' => ∃ v, e = .returned v ∧ v = .agg #[.int .i64 r.Low, .int .i64 r.High] ∧ St [] W w' [] := by
  unfold laws_toWindow at hm
  refine Calls.enter (N := 11) Try.func95 rfl rfl rfl (fun a hf => ?_)
  have hs := St.start W
  obtain ⟨w, hw_⟩ : ∃ w, w = W := ⟨W, rfl⟩
  clear hw_ w
  refine wpL_seq ?_
  refine wpL_region ?_
  refine sBox hf hs rfl rfl rfl rfl rfl (cs := [.int .i64 p0_a.Low, .int .i64 p0_a.High]) rfl ?_; clear hf hs; intro a w b1 hs hf
  have hs : St [] W w [.blk b1 105 [.int .i64 p0_a.Low, .int .i64 p0_a.High]] := hs
  refine sAlloc hf hs rfl rfl rfl rfl ti103 ?_; clear hf hs; intro a w b2 hs hf
  have hs : St [] W w [.blk b1 105 [.int .i64 p0_a.Low, .int .i64 p0_a.High], .blk b2 103 [.int .i64 0, .int .i64 0]] := hs
  refine wpO_nil ?_
  refine wpL_seq ?_
  refine wpL_region ?_
  refine sAlloc hf hs rfl rfl rfl rfl ti103 ?_; clear hf hs; intro a w b3 hs hf
  have hs : St [] W w [.blk b1 105 [.int .i64 p0_a.Low, .int .i64 p0_a.High], .blk b2 103 [.int .i64 0, .int .i64 0], .blk b3 103 [.int .i64 0, .int .i64 0]] := hs
  refine wpO_nil ?_
  refine wpL_seq ?_
  refine wpL_region ?_
  refine sY hf hs rfl rfl rfl (Y_fieldAddr rfl rfl fo105_0) ?_; clear hf; intro a hf
  refine sY hf hs rfl rfl rfl (Y_load_blk rfl rfl (i := 0) rfl rfl ag2) ?_; clear hf; intro a hf
  refine sY hf hs rfl rfl rfl (Y_fieldAddr rfl rfl fo103_0) ?_; clear hf; intro a hf
  refine sStore (i := 2) (us := [.int .i64 p0_a.Low]) hf hs rfl rfl rfl rfl rfl rfl ti2 rfl rfl rfl (Nat.le_of_ble_eq_true rfl) rfl ?_; clear hs; intro w hs
  have hs : St [] W w [.blk b1 105 [.int .i64 p0_a.Low, .int .i64 p0_a.High], .blk b2 103 [.int .i64 0, .int .i64 0], .blk b3 103 [.int .i64 p0_a.Low, .int .i64 0]] := hs
  refine wpO_nil ?_
  refine wpL_seq ?_
  refine wpL_region ?_
  refine sY hf hs rfl rfl rfl (Y_fieldAddr rfl rfl fo105_1) ?_; clear hf; intro a hf
  refine sY hf hs rfl rfl rfl (Y_load_blk rfl rfl (i := 0) rfl rfl ag2) ?_; clear hf; intro a hf
  refine sY hf hs rfl rfl rfl (Y_fieldAddr rfl rfl fo103_1) ?_; clear hf; intro a hf
  refine sStore (i := 2) (us := [.int .i64 p0_a.High]) hf hs rfl rfl rfl rfl rfl rfl ti2 rfl rfl rfl (Nat.le_of_ble_eq_true rfl) rfl ?_; clear hs; intro w hs
  have hs : St [] W w [.blk b1 105 [.int .i64 p0_a.Low, .int .i64 p0_a.High], .blk b2 103 [.int .i64 0, .int .i64 0], .blk b3 103 [.int .i64 p0_a.Low, .int .i64 p0_a.High]] := hs
  refine wpO_nil ?_
  refine wpL_seq ?_
  refine wpL_region ?_
  refine sY hf hs rfl rfl rfl (Y_load_blkS rfl rfl (i := 2) rfl ag103 ti103 rfl) ?_; clear hf; intro a hf
  refine sStore (i := 1) (us := [.int .i64 p0_a.Low, .int .i64 p0_a.High]) hf hs rfl rfl rfl rfl rfl rfl ti103 rfl rfl rfl (Nat.le_of_ble_eq_true rfl) rfl ?_; clear hs; intro w hs
  have hs : St [] W w [.blk b1 105 [.int .i64 p0_a.Low, .int .i64 p0_a.High], .blk b2 103 [.int .i64 p0_a.Low, .int .i64 p0_a.High], .blk b3 103 [.int .i64 p0_a.Low, .int .i64 p0_a.High]] := hs
  refine wpO_nil ?_
  obtain rfl := Option.some.inj hm
  refine wpL_ret (ret_cell rfl hf rfl hs (i := 1) rfl ag103 ti103 rfl ?_)
  exact ⟨_, rfl, rfl, hs.sel [] (by decide)⟩

set_option maxRecDepth 100000 in
theorem laws_toWindowS_ok (F : Nat) (p0_a : List LWindow) (A_p0_a_1 : Option Addr) (n_p0_a_1 c_p0_a_1 : Nat) (hn_p0_a_1 : n_p0_a_1 = p0_a.length) (r : List GWindow) (W : World) (hm : laws_toWindowS F p0_a = some r) (h_p0_a_1 : Rd W A_p0_a_1 ((recs LWindow.cells) p0_a)) :
    Calls Try.prog 38 [.slice A_p0_a_1 n_p0_a_1 c_p0_a_1].toArray W fun e w' => ∃ v, e = .returned v ∧ ∃ A52, ∃ n53, ∃ c54, v = .slice A52 n53 c54 ∧ n53 = r.length ∧ St [] W w' [.row A52 n53 c54 103 2 ((recs GWindow.cells) r)] := by
  subst hn_p0_a_1
  unfold laws_toWindowS at hm
  refine Calls.enter (N := 23) Try.func38 rfl rfl rfl (fun a hf => ?_)
  have hs := St.start W
  obtain ⟨w, hw_⟩ : ∃ w, w = W := ⟨W, rfl⟩
  clear hw_ w
  refine wpL_seq ?_
  refine wpL_region ?_
  refine sY hf hs rfl rfl rfl (Y_assign rfl rfl) ?_; clear hf; intro a hf
  refine wpO_nil ?_
  refine wpL_seq ?_
  refine wpL_region ?_
  refine sY hf hs rfl rfl rfl (Y_move rfl rfl) ?_; clear hf; intro a hf
  refine sY hf hs rfl rfl rfl (Y_lenH rfl rfl el48 rfl) ?_; clear hf; intro a hf
  obtain ⟨xs3, hk2, hm⟩ := bind_some hm
  refine sMakeL (enc := (recs GWindow.cells)) hf hs rfl rfl rfl rfl rfl hk2 el53 ti103 rfl (recs_made (f := GWindow.cells) (z0 := (GWindow.mk 0 0)) rfl) ?_; clear hf hs; intro a w A1 hs hf
  have hs : St [] W w [.row A1 xs3.length xs3.length 103 2 ((recs GWindow.cells) xs3)] := hs
  refine sY hf hs rfl rfl rfl (Y_assign rfl rfl) ?_; clear hf; intro a hf
  refine wpO_nil ?_
  refine wpL_seq ?_
  refine wpL_seq ?_
  refine wpL_region ?_
  refine sY hf hs rfl rfl rfl (Y_assign rfl rfl) ?_; clear hf; intro a hf
  refine wpO_nil ?_
  obtain ⟨r39, hl40, hm⟩ := bind_some hm
  refine wpL_block (fun a w => ∃ xs37 : List GWindow, xs37 = r39 ∧ xs3.length = xs37.length ∧ Fr a 23 [(3, .slice A1 xs3.length xs3.length)] ∧ St [] W w [.row A1 xs3.length xs3.length 103 2 ((recs GWindow.cells) xs37)]) ?_ ?_
  · refine wpL_loop (fun n a w => ∃ xs25 : List GWindow, ∃ x27 : Int, laws_toWindowS_L1 F p0_a n xs25 x27 = some r39 ∧ xs3.length = xs25.length ∧ Fr a 23 [(0, .slice A_p0_a_1 p0_a.length c_p0_a_1), (3, .slice A1 xs3.length xs3.length), (4, .int .i64 x27)] ∧ St [] W w [.row A1 xs3.length xs3.length 103 2 ((recs GWindow.cells) xs25)]) F ?_ ?_ ?_
    · exact ⟨xs3, 0, hl40, rfl, (Fr.pick (Fr.pick (Fr.pick hf.none hf rfl) hf rfl) hf rfl), hs⟩
    · rintro a w ⟨xs25, x27, h0_, -, -, -⟩; simp [laws_toWindowS_L1] at h0_
    · rintro n42 a w ⟨xs25, x27, hm41, hn26, hf, hs⟩
      rw [laws_toWindowS_L1] at hm41
      refine wpL_seq ?_
      refine wpL_seq ?_
      refine wpL_region ?_
      refine sY hf hs rfl rfl rfl (Y_move rfl rfl) ?_; clear hf; intro a hf
      refine sY hf hs rfl rfl rfl (Y_move rfl rfl) ?_; clear hf; intro a hf
      refine sY hf hs rfl rfl rfl (Y_lenH rfl rfl el48 rfl) ?_; clear hf; intro a hf
      refine sY hf hs rfl rfl rfl (Y_lss rfl rfl rfl) ?_; clear hf; intro a hf
      refine wpO_nil ?_
      refine wpL_cond hf rfl (fun hb43 => ?_) (fun hb43 => ?_)
      · have hm41 := bif_t hm41 hb43
        refine wpL_skip ?_
        refine wpL_seq ?_
        refine wpL_block0 ?_
        refine wpL_region ?_
        refine sY hf hs rfl rfl rfl (Y_move rfl rfl) ?_; clear hf; intro a hf
        refine sY hf hs rfl rfl rfl (Y_move rfl rfl) ?_; clear hf; intro a hf
        refine sY hf hs rfl rfl rfl (Y_move rfl rfl) ?_; clear hf; intro a hf
        refine sY hf hs rfl rfl rfl (Y_move rfl rfl) ?_; clear hf; intro a hf
        obtain ⟨q44, hi45, hm41⟩ := bind_some hm41
        obtain ⟨hi45a, hi45b, hi45q⟩ := idx_some hi45
        refine sY hf hs rfl rfl rfl (Y_index rfl rfl rfl el48 ti105 (Rd.isAt (h_p0_a_1.at hs) (recs_at (s := 2) LWindow.len hi45q (j := 0) rfl)) hi45a hi45b) ?_; clear hf; intro a hf
        refine sY hf hs rfl rfl rfl (Y_load_rdS rfl rfl (us := [.int .i64 q44.Low, .int .i64 q44.High]) (fun w hs => h_p0_a_1.at hs) (fun j u hj => recs_at (s := 2) LWindow.len hi45q hj) (Nat.succ_pos _) ag105 ti105 rfl) ?_; clear hf; intro a hf
        obtain ⟨r46, hc47, hm41⟩ := bind_some hm41
        refine sCall hf rfl rfl rfl rfl (cap := []) rfl rfl en95 (laws_toWindow_ok F q44 _ _ hc47) ?_; clear hf
        rintro _ w ⟨rfl, hs1⟩ a hf
        have hs : St [] W w [.row A1 xs3.length xs3.length 103 2 ((recs GWindow.cells) xs25)] := hs.ext hs1.below
        clear hs1
        obtain ⟨q48, hi49, hm41⟩ := bind_some hm41
        obtain ⟨hi49a, hi49b, hi49q⟩ := idx_some hi49
        refine sY hf hs rfl rfl rfl (Y_index rfl rfl rfl el53 ti103 (Rd.isAt (hs.rd (i := 0) rfl) (recs_at (s := 2) GWindow.len hi49q (j := 0) rfl)) hi49a (ltn hn26 hi49b)) ?_; clear hf; intro a hf
        obtain ⟨xs50, hu51, hm41⟩ := bind_some hm41
        refine sStoreL (i := 0) (us := [.int .i64 r46.Low, .int .i64 r46.High]) (enc := (recs GWindow.cells)) hf hs rfl rfl rfl rfl rfl rfl hn26 hu51 ti103 rfl rfl rfl rfl rfl (recs_length GWindow.len) (recs_set (s := 2) GWindow.len r46) ?_; clear hs; intro w hs
        have hs : St [] W w [.row A1 xs3.length xs3.length 103 2 ((recs GWindow.cells) xs50)] := hs
        refine wpO_nil ?_
        refine wpL_nil (Qb_normal ?_)
        refine wpL_region ?_
        refine sY hf hs rfl rfl rfl (Y_move rfl rfl) ?_; clear hf; intro a hf
        refine sY hf hs rfl rfl rfl (Y_add rfl rfl rfl) ?_; clear hf; intro a hf
        refine sY hf hs rfl rfl rfl (Y_assign rfl rfl) ?_; clear hf; intro a hf
        refine wpO_nil ?_
        refine wpL_nil (Ql_normal ?_)
        exact ⟨xs50, (IntKind.i64.wrap (x27 + 1)), hm41, ((hn26).trans (upd_len hu51).symm), (Fr.pick (Fr.pick (Fr.pick hf.none hf rfl) hf rfl) hf rfl), hs⟩
      · have hm41 := bif_f hm41 hb43
        refine wpL_exit (Ql_exit (Qb_exit ?_))
        exact ⟨xs25, Option.some.inj hm41, hn26, (Fr.pick hf.none hf rfl), hs⟩
  · rintro a w ⟨xs37, hr_, hn38, hf, hs⟩
    subst hr_
    try dsimp only at hm
    refine wpL_seq ?_
    refine wpL_region ?_
    refine sY hf hs rfl rfl rfl (Y_move rfl rfl) ?_; clear hf; intro a hf
    refine sY hf hs rfl rfl rfl (Y_assign rfl rfl) ?_; clear hf; intro a hf
    refine wpO_nil ?_
    obtain rfl := Option.some.inj hm
    refine wpL_ret (ret_tmp rfl hf rfl ?_)
    exact ⟨_, rfl, A1, xs3.length, xs3.length, rfl, hn38, hs⟩

set_option maxRecDepth 100000 in
theorem laws_toBond_ok (F : Nat) (p0_a : LBond) (r : GBond) (W : World) (hm : laws_toBond F p0_a = some r) :
    Calls Try.prog 96 [.agg #[.int .i64 p0_a.From, .int .i64 p0_a.To, .int .i64 p0_a.Least]].toArray W fun e w' => ∃ v, e = .returned v ∧ v = .agg #[.int .i64 r.From, .int .i64 r.To, .int .i64 r.Least] ∧ St [] W w' [] := by
  unfold laws_toBond at hm
  refine Calls.enter (N := 14) Try.func96 rfl rfl rfl (fun a hf => ?_)
  have hs := St.start W
  obtain ⟨w, hw_⟩ : ∃ w, w = W := ⟨W, rfl⟩
  clear hw_ w
  refine wpL_seq ?_
  refine wpL_region ?_
  refine sBox hf hs rfl rfl rfl rfl rfl (cs := [.int .i64 p0_a.From, .int .i64 p0_a.To, .int .i64 p0_a.Least]) rfl ?_; clear hf hs; intro a w b1 hs hf
  have hs : St [] W w [.blk b1 109 [.int .i64 p0_a.From, .int .i64 p0_a.To, .int .i64 p0_a.Least]] := hs
  refine sAlloc hf hs rfl rfl rfl rfl ti107 ?_; clear hf hs; intro a w b2 hs hf
  have hs : St [] W w [.blk b1 109 [.int .i64 p0_a.From, .int .i64 p0_a.To, .int .i64 p0_a.Least], .blk b2 107 [.int .i64 0, .int .i64 0, .int .i64 0]] := hs
  refine wpO_nil ?_
  refine wpL_seq ?_
  refine wpL_region ?_
  refine sAlloc hf hs rfl rfl rfl rfl ti107 ?_; clear hf hs; intro a w b3 hs hf
  have hs : St [] W w [.blk b1 109 [.int .i64 p0_a.From, .int .i64 p0_a.To, .int .i64 p0_a.Least], .blk b2 107 [.int .i64 0, .int .i64 0, .int .i64 0], .blk b3 107 [.int .i64 0, .int .i64 0, .int .i64 0]] := hs
  refine wpO_nil ?_
  refine wpL_seq ?_
  refine wpL_region ?_
  refine sY hf hs rfl rfl rfl (Y_fieldAddr rfl rfl fo109_0) ?_; clear hf; intro a hf
  refine sY hf hs rfl rfl rfl (Y_load_blk rfl rfl (i := 0) rfl rfl ag2) ?_; clear hf; intro a hf
  refine sY hf hs rfl rfl rfl (Y_fieldAddr rfl rfl fo107_0) ?_; clear hf; intro a hf
  refine sStore (i := 2) (us := [.int .i64 p0_a.From]) hf hs rfl rfl rfl rfl rfl rfl ti2 rfl rfl rfl (Nat.le_of_ble_eq_true rfl) rfl ?_; clear hs; intro w hs
  have hs : St [] W w [.blk b1 109 [.int .i64 p0_a.From, .int .i64 p0_a.To, .int .i64 p0_a.Least], .blk b2 107 [.int .i64 0, .int .i64 0, .int .i64 0], .blk b3 107 [.int .i64 p0_a.From, .int .i64 0, .int .i64 0]] := hs
  refine wpO_nil ?_
  refine wpL_seq ?_
  refine wpL_region ?_
  refine sY hf hs rfl rfl rfl (Y_fieldAddr rfl rfl fo109_1) ?_; clear hf; intro a hf
  refine sY hf hs rfl rfl rfl (Y_load_blk rfl rfl (i := 0) rfl rfl ag2) ?_; clear hf; intro a hf
  refine sY hf hs rfl rfl rfl (Y_fieldAddr rfl rfl fo107_1) ?_; clear hf; intro a hf
  refine sStore (i := 2) (us := [.int .i64 p0_a.To]) hf hs rfl rfl rfl rfl rfl rfl ti2 rfl rfl rfl (Nat.le_of_ble_eq_true rfl) rfl ?_; clear hs; intro w hs
  have hs : St [] W w [.blk b1 109 [.int .i64 p0_a.From, .int .i64 p0_a.To, .int .i64 p0_a.Least], .blk b2 107 [.int .i64 0, .int .i64 0, .int .i64 0], .blk b3 107 [.int .i64 p0_a.From, .int .i64 p0_a.To, .int .i64 0]] := hs
  refine wpO_nil ?_
  refine wpL_seq ?_
  refine wpL_region ?_
  refine sY hf hs rfl rfl rfl (Y_fieldAddr rfl rfl fo109_2) ?_; clear hf; intro a hf
  refine sY hf hs rfl rfl rfl (Y_load_blk rfl rfl (i := 0) rfl rfl ag2) ?_; clear hf; intro a hf
  refine sY hf hs rfl rfl rfl (Y_fieldAddr rfl rfl fo107_2) ?_; clear hf; intro a hf
  refine sStore (i := 2) (us := [.int .i64 p0_a.Least]) hf hs rfl rfl rfl rfl rfl rfl ti2 rfl rfl rfl (Nat.le_of_ble_eq_true rfl) rfl ?_; clear hs; intro w hs
  have hs : St [] W w [.blk b1 109 [.int .i64 p0_a.From, .int .i64 p0_a.To, .int .i64 p0_a.Least], .blk b2 107 [.int .i64 0, .int .i64 0, .int .i64 0], .blk b3 107 [.int .i64 p0_a.From, .int .i64 p0_a.To, .int .i64 p0_a.Least]] := hs
  refine wpO_nil ?_
  refine wpL_seq ?_
  refine wpL_region ?_
  refine sY hf hs rfl rfl rfl (Y_load_blkS rfl rfl (i := 2) rfl ag107 ti107 rfl) ?_; clear hf; intro a hf
  refine sStore (i := 1) (us := [.int .i64 p0_a.From, .int .i64 p0_a.To, .int .i64 p0_a.Least]) hf hs rfl rfl rfl rfl rfl rfl ti107 rfl rfl rfl (Nat.le_of_ble_eq_true rfl) rfl ?_; clear hs; intro w hs
  have hs : St [] W w [.blk b1 109 [.int .i64 p0_a.From, .int .i64 p0_a.To, .int .i64 p0_a.Least], .blk b2 107 [.int .i64 p0_a.From, .int .i64 p0_a.To, .int .i64 p0_a.Least], .blk b3 107 [.int .i64 p0_a.From, .int .i64 p0_a.To, .int .i64 p0_a.Least]] := hs
  refine wpO_nil ?_
  obtain rfl := Option.some.inj hm
  refine wpL_ret (ret_cell rfl hf rfl hs (i := 1) rfl ag107 ti107 rfl ?_)
  exact ⟨_, rfl, rfl, hs.sel [] (by decide)⟩

set_option maxRecDepth 100000 in
theorem laws_toBondS_ok (F : Nat) (p0_a : List LBond) (A_p0_a_1 : Option Addr) (n_p0_a_1 c_p0_a_1 : Nat) (hn_p0_a_1 : n_p0_a_1 = p0_a.length) (r : List GBond) (W : World) (hm : laws_toBondS F p0_a = some r) (h_p0_a_1 : Rd W A_p0_a_1 ((recs LBond.cells) p0_a)) :
    Calls Try.prog 39 [.slice A_p0_a_1 n_p0_a_1 c_p0_a_1].toArray W fun e w' => ∃ v, e = .returned v ∧ ∃ A52, ∃ n53, ∃ c54, v = .slice A52 n53 c54 ∧ n53 = r.length ∧ St [] W w' [.row A52 n53 c54 107 3 ((recs GBond.cells) r)] := by
  subst hn_p0_a_1
  unfold laws_toBondS at hm
  refine Calls.enter (N := 23) Try.func39 rfl rfl rfl (fun a hf => ?_)
  have hs := St.start W
  obtain ⟨w, hw_⟩ : ∃ w, w = W := ⟨W, rfl⟩
  clear hw_ w
  refine wpL_seq ?_
  refine wpL_region ?_
  refine sY hf hs rfl rfl rfl (Y_assign rfl rfl) ?_; clear hf; intro a hf
  refine wpO_nil ?_
  refine wpL_seq ?_
  refine wpL_region ?_
  refine sY hf hs rfl rfl rfl (Y_move rfl rfl) ?_; clear hf; intro a hf
  refine sY hf hs rfl rfl rfl (Y_lenH rfl rfl el49 rfl) ?_; clear hf; intro a hf
  obtain ⟨xs3, hk2, hm⟩ := bind_some hm
  refine sMakeL (enc := (recs GBond.cells)) hf hs rfl rfl rfl rfl rfl hk2 el55 ti107 rfl (recs_made (f := GBond.cells) (z0 := (GBond.mk 0 0 0)) rfl) ?_; clear hf hs; intro a w A1 hs hf
  have hs : St [] W w [.row A1 xs3.length xs3.length 107 3 ((recs GBond.cells) xs3)] := hs
  refine sY hf hs rfl rfl rfl (Y_assign rfl rfl) ?_; clear hf; intro a hf
  refine wpO_nil ?_
  refine wpL_seq ?_
  refine wpL_seq ?_
  refine wpL_region ?_
  refine sY hf hs rfl rfl rfl (Y_assign rfl rfl) ?_; clear hf; intro a hf
  refine wpO_nil ?_
  obtain ⟨r39, hl40, hm⟩ := bind_some hm
  refine wpL_block (fun a w => ∃ xs37 : List GBond, xs37 = r39 ∧ xs3.length = xs37.length ∧ Fr a 23 [(3, .slice A1 xs3.length xs3.length)] ∧ St [] W w [.row A1 xs3.length xs3.length 107 3 ((recs GBond.cells) xs37)]) ?_ ?_
  · refine wpL_loop (fun n a w => ∃ xs25 : List GBond, ∃ x27 : Int, laws_toBondS_L1 F p0_a n xs25 x27 = some r39 ∧ xs3.length = xs25.length ∧ Fr a 23 [(0, .slice A_p0_a_1 p0_a.length c_p0_a_1), (3, .slice A1 xs3.length xs3.length), (4, .int .i64 x27)] ∧ St [] W w [.row A1 xs3.length xs3.length 107 3 ((recs GBond.cells) xs25)]) F ?_ ?_ ?_
    · exact ⟨xs3, 0, hl40, rfl, (Fr.pick (Fr.pick (Fr.pick hf.none hf rfl) hf rfl) hf rfl), hs⟩
    · rintro a w ⟨xs25, x27, h0_, -, -, -⟩; simp [laws_toBondS_L1] at h0_
    · rintro n42 a w ⟨xs25, x27, hm41, hn26, hf, hs⟩
      rw [laws_toBondS_L1] at hm41
      refine wpL_seq ?_
      refine wpL_seq ?_
      refine wpL_region ?_
      refine sY hf hs rfl rfl rfl (Y_move rfl rfl) ?_; clear hf; intro a hf
      refine sY hf hs rfl rfl rfl (Y_move rfl rfl) ?_; clear hf; intro a hf
      refine sY hf hs rfl rfl rfl (Y_lenH rfl rfl el49 rfl) ?_; clear hf; intro a hf
      refine sY hf hs rfl rfl rfl (Y_lss rfl rfl rfl) ?_; clear hf; intro a hf
      refine wpO_nil ?_
      refine wpL_cond hf rfl (fun hb43 => ?_) (fun hb43 => ?_)
      · have hm41 := bif_t hm41 hb43
        refine wpL_skip ?_
        refine wpL_seq ?_
        refine wpL_block0 ?_
        refine wpL_region ?_
        refine sY hf hs rfl rfl rfl (Y_move rfl rfl) ?_; clear hf; intro a hf
        refine sY hf hs rfl rfl rfl (Y_move rfl rfl) ?_; clear hf; intro a hf
        refine sY hf hs rfl rfl rfl (Y_move rfl rfl) ?_; clear hf; intro a hf
        refine sY hf hs rfl rfl rfl (Y_move rfl rfl) ?_; clear hf; intro a hf
        obtain ⟨q44, hi45, hm41⟩ := bind_some hm41
        obtain ⟨hi45a, hi45b, hi45q⟩ := idx_some hi45
        refine sY hf hs rfl rfl rfl (Y_index rfl rfl rfl el49 ti109 (Rd.isAt (h_p0_a_1.at hs) (recs_at (s := 3) LBond.len hi45q (j := 0) rfl)) hi45a hi45b) ?_; clear hf; intro a hf
        refine sY hf hs rfl rfl rfl (Y_load_rdS rfl rfl (us := [.int .i64 q44.From, .int .i64 q44.To, .int .i64 q44.Least]) (fun w hs => h_p0_a_1.at hs) (fun j u hj => recs_at (s := 3) LBond.len hi45q hj) (Nat.succ_pos _) ag109 ti109 rfl) ?_; clear hf; intro a hf
        obtain ⟨r46, hc47, hm41⟩ := bind_some hm41
        refine sCall hf rfl rfl rfl rfl (cap := []) rfl rfl en96 (laws_toBond_ok F q44 _ _ hc47) ?_; clear hf
        rintro _ w ⟨rfl, hs1⟩ a hf
        have hs : St [] W w [.row A1 xs3.length xs3.length 107 3 ((recs GBond.cells) xs25)] := hs.ext hs1.below
        clear hs1
        obtain ⟨q48, hi49, hm41⟩ := bind_some hm41
        obtain ⟨hi49a, hi49b, hi49q⟩ := idx_some hi49
        refine sY hf hs rfl rfl rfl (Y_index rfl rfl rfl el55 ti107 (Rd.isAt (hs.rd (i := 0) rfl) (recs_at (s := 3) GBond.len hi49q (j := 0) rfl)) hi49a (ltn hn26 hi49b)) ?_; clear hf; intro a hf
        obtain ⟨xs50, hu51, hm41⟩ := bind_some hm41
        refine sStoreL (i := 0) (us := [.int .i64 r46.From, .int .i64 r46.To, .int .i64 r46.Least]) (enc := (recs GBond.cells)) hf hs rfl rfl rfl rfl rfl rfl hn26 hu51 ti107 rfl rfl rfl rfl rfl (recs_length GBond.len) (recs_set (s := 3) GBond.len r46) ?_; clear hs; intro w hs
        have hs : St [] W w [.row A1 xs3.length xs3.length 107 3 ((recs GBond.cells) xs50)] := hs
        refine wpO_nil ?_
        refine wpL_nil (Qb_normal ?_)
        refine wpL_region ?_
        refine sY hf hs rfl rfl rfl (Y_move rfl rfl) ?_; clear hf; intro a hf
        refine sY hf hs rfl rfl rfl (Y_add rfl rfl rfl) ?_; clear hf; intro a hf
        refine sY hf hs rfl rfl rfl (Y_assign rfl rfl) ?_; clear hf; intro a hf
        refine wpO_nil ?_
        refine wpL_nil (Ql_normal ?_)
        exact ⟨xs50, (IntKind.i64.wrap (x27 + 1)), hm41, ((hn26).trans (upd_len hu51).symm), (Fr.pick (Fr.pick (Fr.pick hf.none hf rfl) hf rfl) hf rfl), hs⟩
      · have hm41 := bif_f hm41 hb43
        refine wpL_exit (Ql_exit (Qb_exit ?_))
        exact ⟨xs25, Option.some.inj hm41, hn26, (Fr.pick hf.none hf rfl), hs⟩
  · rintro a w ⟨xs37, hr_, hn38, hf, hs⟩
    subst hr_
    try dsimp only at hm
    refine wpL_seq ?_
    refine wpL_region ?_
    refine sY hf hs rfl rfl rfl (Y_move rfl rfl) ?_; clear hf; intro a hf
    refine sY hf hs rfl rfl rfl (Y_assign rfl rfl) ?_; clear hf; intro a hf
    refine wpO_nil ?_
    obtain rfl := Option.some.inj hm
    refine wpL_ret (ret_tmp rfl hf rfl ?_)
    exact ⟨_, rfl, A1, xs3.length, xs3.length, rfl, hn38, hs⟩

set_option maxRecDepth 100000 in
theorem spec_l01In_ok (F : Nat) (p0_n : Int) (p1_low : Int) (p2_high : Int) (r : Bool) (W : World) (hm : spec_l01In F p0_n p1_low p2_high = some r) :
    Calls Try.prog 119 [.int .i64 p0_n, .int .i64 p1_low, .int .i64 p2_high].toArray W fun e w' => ∃ v, e = .returned v ∧ v = .bool r ∧ St [] W w' [] := by
  unfold spec_l01In at hm
  refine Calls.enter (N := 15) Try.func119 rfl rfl rfl (fun a hf => ?_)
  have hs := St.start W
  obtain ⟨w, hw_⟩ : ∃ w, w = W := ⟨W, rfl⟩
  clear hw_ w
  refine wpL_seq ?_
  refine wpL_region ?_
  refine sY hf hs rfl rfl rfl (Y_assign rfl rfl) ?_; clear hf; intro a hf
  refine wpO_nil ?_
  refine wpL_seq ?_
  obtain ⟨r3, hj4, hm⟩ := bind_some hm
  refine wpL_cut (fun a w => ∃ b2 : Bool, b2 = r3 ∧ Fr a 15 [(6, .bool b2)] ∧ St [] W w []) ?_ ?_
  · refine wpL_region ?_
    refine sY hf hs rfl rfl rfl (Y_move rfl rfl) ?_; clear hf; intro a hf
    refine sY hf hs rfl rfl rfl (Y_move rfl rfl) ?_; clear hf; intro a hf
    refine sY hf hs rfl rfl rfl (Y_geq rfl rfl rfl) ?_; clear hf; intro a hf
    refine sY hf hs rfl rfl rfl (Y_move rfl rfl) ?_; clear hf; intro a hf
    refine bsplit (decide (p1_low ≤ p0_n)) (fun hb5 => ?_) (fun hb5 => ?_)
    · have hj4 := bif_t hj4 hb5
      refine sYg hf hs rfl rfl rfl (congrArg (fun b => some (Value.bool b)) hb5) rfl rfl rfl (Y_move rfl rfl) ?_; clear hf; intro a hf
      refine sYg hf hs rfl rfl rfl (congrArg (fun b => some (Value.bool b)) hb5) rfl rfl rfl (Y_move rfl rfl) ?_; clear hf; intro a hf
      refine sYg hf hs rfl rfl rfl (congrArg (fun b => some (Value.bool b)) hb5) rfl rfl rfl (Y_leq rfl rfl rfl) ?_; clear hf; intro a hf
      refine sY hf hs rfl rfl rfl (Y_pickT rfl (congrArg (fun b => some (Value.bool b)) hb5) rfl) ?_; clear hf; intro a hf
      refine sY hf hs rfl rfl rfl (Y_assign rfl rfl) ?_; clear hf; intro a hf
      refine wpO_nil ?_
      refine wpL_nil (then_normal ?_)
      exact ⟨(decide (p0_n ≤ p2_high)), Option.some.inj hj4, (Fr.pick hf.none hf rfl), hs⟩
    · have hj4 := bif_f hj4 hb5
      refine sNo hf rfl rfl rfl (congrArg (fun b => some (Value.bool b)) hb5) rfl rfl rfl ?_; clear hf; intro a hf
      refine sNo hf rfl rfl rfl (congrArg (fun b => some (Value.bool b)) hb5) rfl rfl rfl ?_; clear hf; intro a hf
      refine sNo hf rfl rfl rfl (congrArg (fun b => some (Value.bool b)) hb5) rfl rfl rfl ?_; clear hf; intro a hf
      refine sY hf hs rfl rfl rfl (Y_pickF rfl (congrArg (fun b => some (Value.bool b)) hb5) rfl) ?_; clear hf; intro a hf
      refine sY hf hs rfl rfl rfl (Y_assign rfl rfl) ?_; clear hf; intro a hf
      refine wpO_nil ?_
      refine wpL_nil (then_normal ?_)
      exact ⟨false, Option.some.inj hj4, (Fr.pick hf.none hf rfl), hs⟩
  · rintro a w ⟨b2, hr_, hf, hs⟩
    subst hr_
    try dsimp only at hm
    obtain rfl := Option.some.inj hm
    refine wpL_ret (ret_tmp rfl hf rfl ?_)
    exact ⟨_, rfl, rfl, hs⟩

set_option maxRecDepth 100000 in
theorem spec_l01Finite_ok (F : Nat) (p0_a : Int) (r : Bool) (W : World) (hm : spec_l01Finite F p0_a = some r) :
    Calls Try.prog 140 [.int .i64 p0_a].toArray W fun e w' => ∃ v, e = .returned v ∧ v = .bool r ∧ St [] W w' [] := by
  unfold spec_l01Finite at hm
  refine Calls.enter (N := 5) Try.func140 rfl rfl rfl (fun a hf => ?_)
  have hs := St.start W
  obtain ⟨w, hw_⟩ : ∃ w, w = W := ⟨W, rfl⟩
  clear hw_ w
  refine wpL_seq ?_
  refine wpL_region ?_
  refine sY hf hs rfl rfl rfl (Y_assign rfl rfl) ?_; clear hf; intro a hf
  refine wpO_nil ?_
  refine wpL_seq ?_
  refine wpL_region ?_
  refine sY hf hs rfl rfl rfl (Y_move rfl rfl) ?_; clear hf; intro a hf
  obtain ⟨r1, hc2, hm⟩ := bind_some hm
  refine sCall hf rfl rfl rfl rfl (cap := []) rfl rfl en119 (spec_l01In_ok F p0_a (-1000000) 1000000 _ _ hc2) ?_; clear hf
  rintro _ w ⟨rfl, hs1⟩ a hf
  have hs : St [] W w [] := hs.ext hs1.below
  clear hs1
  refine sY hf hs rfl rfl rfl (Y_assign rfl rfl) ?_; clear hf; intro a hf
  refine wpO_nil ?_
  obtain rfl := Option.some.inj hm
  refine wpL_ret (ret_tmp rfl hf rfl ?_)
  exact ⟨_, rfl, rfl, hs⟩

set_option maxRecDepth 100000 in
theorem spec_IsTask_ok (F : Nat) (p0 : List GWindow) (A_p0_1 : Option Addr) (n_p0_1 c_p0_1 : Nat) (hn_p0_1 : n_p0_1 = p0.length) (p1 : List GBond) (A_p1_1 : Option Addr) (n_p1_1 c_p1_1 : Nat) (hn_p1_1 : n_p1_1 = p1.length) (r : Bool) (W : World) (hm : spec_IsTask F p0 p1 = some r) (h_p0_1 : Rd W A_p0_1 ((recs GWindow.cells) p0)) (h_p1_1 : Rd W A_p1_1 ((recs GBond.cells) p1)) :
    Calls Try.prog 93 [.slice A_p0_1 n_p0_1 c_p0_1, .slice A_p1_1 n_p1_1 c_p1_1].toArray W fun e w' => ∃ v, e = .returned v ∧ v = .bool r ∧ St [] W w' [] := by
  subst hn_p0_1
  subst hn_p1_1
  unfold spec_IsTask at hm
  refine Calls.enter (N := 86) Try.func93 rfl rfl rfl (fun a hf => ?_)
  have hs := St.start W
  obtain ⟨w, hw_⟩ : ∃ w, w = W := ⟨W, rfl⟩
  clear hw_ w
  refine wpL_seq ?_
  refine wpL_region ?_
  refine sY hf hs rfl rfl rfl (Y_assign rfl rfl) ?_; clear hf; intro a hf
  refine wpO_nil ?_
  refine wpL_seq ?_
  refine wpL_region ?_
  refine sY hf hs rfl rfl rfl (Y_move rfl rfl) ?_; clear hf; intro a hf
  refine sY hf hs rfl rfl rfl (Y_lenH rfl rfl el53 rfl) ?_; clear hf; intro a hf
  refine sY hf hs rfl rfl rfl (Y_assign rfl rfl) ?_; clear hf; intro a hf
  refine wpO_nil ?_
  refine wpL_seq ?_
  refine wpL_seq ?_
  obtain ⟨r5, hj6, hm⟩ := bind_some hm
  refine wpL_cut (fun a w => ∃ b4 : Bool, b4 = r5 ∧ Fr a 86 [(0, .slice A_p0_1 p0.length c_p0_1), (1, .slice A_p1_1 p1.length c_p1_1), (5, .int .i64 (p0.length : Int)), (17, .bool b4)] ∧ St [] W w []) ?_ ?_
  · refine wpL_region ?_
    refine sY hf hs rfl rfl rfl (Y_move rfl rfl) ?_; clear hf; intro a hf
    obtain ⟨r7, hc8, hj6⟩ := bind_some hj6
    refine sCall hf rfl rfl rfl rfl (cap := []) rfl rfl en119 (spec_l01In_ok F (p0.length : Int) 1 10 _ _ hc8) ?_; clear hf
    rintro _ w ⟨rfl, hs1⟩ a hf
    have hs : St [] W w [] := hs.ext hs1.below
    clear hs1
    refine sY hf hs rfl rfl rfl (Y_not rfl rfl) ?_; clear hf; intro a hf
    refine sY hf hs rfl rfl rfl (Y_move rfl rfl) ?_; clear hf; intro a hf
    refine bsplit (!r7) (fun hb9 => ?_) (fun hb9 => ?_)
    · have hj6 := bif_t hj6 hb9
      refine sNo hf rfl rfl rfl (congrArg (fun b => some (Value.bool b)) hb9) rfl rfl rfl ?_; clear hf; intro a hf
      refine sNo hf rfl rfl rfl (congrArg (fun b => some (Value.bool b)) hb9) rfl rfl rfl ?_; clear hf; intro a hf
      refine sNo hf rfl rfl rfl (congrArg (fun b => some (Value.bool b)) hb9) rfl rfl rfl ?_; clear hf; intro a hf
      refine sY hf hs rfl rfl rfl (Y_pickT rfl (congrArg (fun b => some (Value.bool b)) hb9) rfl) ?_; clear hf; intro a hf
      refine wpO_nil ?_
      refine wpL_nil (then_normal ?_)
      exact ⟨true, Option.some.inj hj6, (Fr.pick (Fr.pick (Fr.pick (Fr.pick hf.none hf rfl) hf rfl) hf rfl) hf rfl), hs⟩
    · have hj6 := bif_f hj6 hb9
      refine sYg hf hs rfl rfl rfl (congrArg (fun b => some (Value.bool b)) hb9) rfl rfl rfl (Y_move rfl rfl) ?_; clear hf; intro a hf
      refine sYg hf hs rfl rfl rfl (congrArg (fun b => some (Value.bool b)) hb9) rfl rfl rfl (Y_lenH rfl rfl el55 rfl) ?_; clear hf; intro a hf
      refine sYg hf hs rfl rfl rfl (congrArg (fun b => some (Value.bool b)) hb9) rfl rfl rfl (Y_gtr rfl rfl rfl) ?_; clear hf; intro a hf
      refine sY hf hs rfl rfl rfl (Y_pickF rfl (congrArg (fun b => some (Value.bool b)) hb9) rfl) ?_; clear hf; intro a hf
      refine wpO_nil ?_
      refine wpL_nil (then_normal ?_)
      exact ⟨(decide (30 < (p1.length : Int))), Option.some.inj hj6, (Fr.pick (Fr.pick (Fr.pick (Fr.pick hf.none hf rfl) hf rfl) hf rfl) hf rfl), hs⟩
  · rintro a w ⟨b4, hr_, hf, hs⟩
    subst hr_
    try dsimp only at hm
    refine wpL_cond hf rfl (fun hb10 => ?_) (fun hb10 => ?_)
    · have hm := bif_t hm hb10
      refine wpL_seq ?_
      refine wpL_region ?_
      refine sY hf hs rfl rfl rfl (Y_assign rfl rfl) ?_; clear hf; intro a hf
      refine wpO_nil ?_
      obtain rfl := Option.some.inj hm
      refine wpL_ret (ret_tmp rfl hf rfl ?_)
      exact ⟨_, rfl, rfl, hs⟩
    · have hm := bif_f hm hb10
      refine wpL_skip ?_
      refine wpL_seq ?_
      refine wpL_seq ?_
      refine wpL_region ?_
      refine sY hf hs rfl rfl rfl (Y_assign rfl rfl) ?_; clear hf; intro a hf
      refine wpO_nil ?_
      obtain ⟨r88, hl89, hm⟩ := bind_some hm
      refine wpL_block (fun a w => Sum.inr () = r88 ∧ Fr a 86 [(1, .slice A_p1_1 p1.length c_p1_1), (5, .int .i64 (p0.length : Int))] ∧ St [] W w []) ?_ ?_
      · refine wpL_loop (fun n a w => ∃ x62 : Int, spec_IsTask_L1 F p0 n x62 = some r88 ∧ Fr a 86 [(0, .slice A_p0_1 p0.length c_p0_1), (1, .slice A_p1_1 p1.length c_p1_1), (5, .int .i64 (p0.length : Int)), (6, .int .i64 x62)] ∧ St [] W w []) F ?_ ?_ ?_
        · exact ⟨0, hl89, (Fr.pick (Fr.pick (Fr.pick (Fr.pick hf.none hf rfl) hf rfl) hf rfl) hf rfl), hs⟩
        · rintro a w ⟨x62, h0_, -, -⟩; simp [spec_IsTask_L1] at h0_
        · rintro n91 a w ⟨x62, hm90, hf, hs⟩
          rw [spec_IsTask_L1] at hm90
          refine wpL_seq ?_
          refine wpL_seq ?_
          refine wpL_region ?_
          refine sY hf hs rfl rfl rfl (Y_move rfl rfl) ?_; clear hf; intro a hf
          refine sY hf hs rfl rfl rfl (Y_move rfl rfl) ?_; clear hf; intro a hf
          refine sY hf hs rfl rfl rfl (Y_lenH rfl rfl el53 rfl) ?_; clear hf; intro a hf
          refine sY hf hs rfl rfl rfl (Y_lss rfl rfl rfl) ?_; clear hf; intro a hf
          refine wpO_nil ?_
          refine wpL_cond hf rfl (fun hb92 => ?_) (fun hb92 => ?_)
          · have hm90 := bif_t hm90 hb92
            refine wpL_skip ?_
            refine wpL_seq ?_
            refine wpL_block0 ?_
            refine wpL_seq ?_
            obtain ⟨r104, hj105, hm90⟩ := bind_some hm90
            refine wpL_cut (fun a w => ∃ b103 : Bool, b103 = r104 ∧ Fr a 86 [(0, .slice A_p0_1 p0.length c_p0_1), (1, .slice A_p1_1 p1.length c_p1_1), (5, .int .i64 (p0.length : Int)), (6, .int .i64 x62), (50, .bool b103)] ∧ St [] W w []) ?_ ?_
            · refine wpL_draw (by kernel_rfl) (by kernel_rfl) hs ?_
              refine qY hf rfl rfl rfl (Y_move rfl rfl) ?_; clear hf; intro a hf
              refine qY hf rfl rfl rfl (Y_move rfl rfl) ?_; clear hf; intro a hf
              obtain ⟨q106, hi107, hj105⟩ := bind_some hj105
              obtain ⟨hi107a, hi107b, hi107q⟩ := idx_some hi107
              refine qY hf rfl rfl rfl (Y_index rfl rfl rfl el53 ti103 (Rd.isAt (h_p0_1.at hs) (recs_at (s := 2) GWindow.len hi107q (j := 0) rfl)) hi107a hi107b) ?_; clear hf; intro a hf
              refine qY hf rfl rfl rfl (Y_fieldAddrE rfl rfl fo103_0) ?_; clear hf; intro a hf
              refine qY hf rfl rfl rfl (Y_load_rd rfl rfl (fun w hs => h_p0_1.at hs) (recs_at (s := 2) GWindow.len hi107q (j := 0) rfl) ag2) ?_; clear hf; intro a hf
              refine qY hf rfl rfl rfl (Y_lss rfl rfl rfl) ?_; clear hf; intro a hf
              refine qY hf rfl rfl rfl (Y_move rfl rfl) ?_; clear hf; intro a hf
              refine bsplit (decide (q106.Low < 0)) (fun hb108 => ?_) (fun hb108 => ?_)
              · have hj105 := bif_t hj105 hb108
                refine qNo hf rfl rfl rfl (congrArg (fun b => some (Value.bool b)) hb108) rfl rfl rfl ?_; clear hf; intro a hf
                refine qNo hf rfl rfl rfl (congrArg (fun b => some (Value.bool b)) hb108) rfl rfl rfl ?_; clear hf; intro a hf
                refine qNo hf rfl rfl rfl (congrArg (fun b => some (Value.bool b)) hb108) rfl rfl rfl ?_; clear hf; intro a hf
                refine qNo hf rfl rfl rfl (congrArg (fun b => some (Value.bool b)) hb108) rfl rfl rfl ?_; clear hf; intro a hf
                refine qNo hf rfl rfl rfl (congrArg (fun b => some (Value.bool b)) hb108) rfl rfl rfl ?_; clear hf; intro a hf
                refine qNo hf rfl rfl rfl (congrArg (fun b => some (Value.bool b)) hb108) rfl rfl rfl ?_; clear hf; intro a hf
                refine qY hf rfl rfl rfl (Y_pickT rfl (congrArg (fun b => some (Value.bool b)) hb108) rfl) ?_; clear hf; intro a hf
                refine qY hf rfl rfl rfl (Y_move rfl rfl) ?_; clear hf; intro a hf
                refine qNo hf rfl rfl rfl rfl rfl rfl rfl ?_; clear hf; intro a hf
                refine qNo hf rfl rfl rfl rfl rfl rfl rfl ?_; clear hf; intro a hf
                refine qNo hf rfl rfl rfl rfl rfl rfl rfl ?_; clear hf; intro a hf
                refine qNo hf rfl rfl rfl rfl rfl rfl rfl ?_; clear hf; intro a hf
                refine qNo hf rfl rfl rfl rfl rfl rfl rfl ?_; clear hf; intro a hf
                refine qNo hf rfl rfl rfl rfl rfl rfl rfl ?_; clear hf; intro a hf
                refine qNo hf rfl rfl rfl rfl rfl rfl rfl ?_; clear hf; intro a hf
                refine qNo hf rfl rfl rfl rfl rfl rfl rfl ?_; clear hf; intro a hf
                refine qNo hf rfl rfl rfl rfl rfl rfl rfl ?_; clear hf; intro a hf
                refine qNo hf rfl rfl rfl rfl rfl rfl rfl ?_; clear hf; intro a hf
                refine qNo hf rfl rfl rfl rfl rfl rfl rfl ?_; clear hf; intro a hf
                refine qY hf rfl rfl rfl (Y_pickT rfl rfl rfl) ?_; clear hf; intro a hf
                refine qNil ?_; clear hs; intro w hs
                refine wpL_nil (then_normal ?_)
                exact ⟨true, Option.some.inj hj105, (Fr.pick (Fr.pick (Fr.pick (Fr.pick (Fr.pick hf.none hf rfl) hf rfl) hf rfl) hf rfl) hf rfl), hs⟩
              · have hj105 := bif_f hj105 hb108
                refine qYg hf rfl rfl rfl (congrArg (fun b => some (Value.bool b)) hb108) rfl rfl rfl (Y_move rfl rfl) ?_; clear hf; intro a hf
                refine qYg hf rfl rfl rfl (congrArg (fun b => some (Value.bool b)) hb108) rfl rfl rfl (Y_move rfl rfl) ?_; clear hf; intro a hf
                obtain ⟨q109, hi110, hj105⟩ := bind_some hj105
                obtain ⟨hi110a, hi110b, hi110q⟩ := idx_some hi110
                refine qYg hf rfl rfl rfl (congrArg (fun b => some (Value.bool b)) hb108) rfl rfl rfl (Y_index rfl rfl rfl el53 ti103 (Rd.isAt (h_p0_1.at hs) (recs_at (s := 2) GWindow.len hi110q (j := 0) rfl)) hi110a hi110b) ?_; clear hf; intro a hf
                refine qYg hf rfl rfl rfl (congrArg (fun b => some (Value.bool b)) hb108) rfl rfl rfl (Y_fieldAddrE rfl rfl fo103_1) ?_; clear hf; intro a hf
                refine qYg hf rfl rfl rfl (congrArg (fun b => some (Value.bool b)) hb108) rfl rfl rfl (Y_load_rd rfl rfl (fun w hs => h_p0_1.at hs) (recs_at (s := 2) GWindow.len hi110q (j := 1) rfl) ag2) ?_; clear hf; intro a hf
                refine qYg hf rfl rfl rfl (congrArg (fun b => some (Value.bool b)) hb108) rfl rfl rfl (Y_gtr rfl rfl rfl) ?_; clear hf; intro a hf
                refine qY hf rfl rfl rfl (Y_pickF rfl (congrArg (fun b => some (Value.bool b)) hb108) rfl) ?_; clear hf; intro a hf
                refine qY hf rfl rfl rfl (Y_move rfl rfl) ?_; clear hf; intro a hf
                refine bsplit (decide (1000000 < q109.High)) (fun hb111 => ?_) (fun hb111 => ?_)
                · have hj105 := bif_t hj105 hb111
                  refine qNo hf rfl rfl rfl (congrArg (fun b => some (Value.bool b)) hb111) rfl rfl rfl ?_; clear hf; intro a hf
                  refine qNo hf rfl rfl rfl (congrArg (fun b => some (Value.bool b)) hb111) rfl rfl rfl ?_; clear hf; intro a hf
                  refine qNo hf rfl rfl rfl (congrArg (fun b => some (Value.bool b)) hb111) rfl rfl rfl ?_; clear hf; intro a hf
                  refine qNo hf rfl rfl rfl (congrArg (fun b => some (Value.bool b)) hb111) rfl rfl rfl ?_; clear hf; intro a hf
                  refine qNo hf rfl rfl rfl (congrArg (fun b => some (Value.bool b)) hb111) rfl rfl rfl ?_; clear hf; intro a hf
                  refine qNo hf rfl rfl rfl (congrArg (fun b => some (Value.bool b)) hb111) rfl rfl rfl ?_; clear hf; intro a hf
                  refine qNo hf rfl rfl rfl (congrArg (fun b => some (Value.bool b)) hb111) rfl rfl rfl ?_; clear hf; intro a hf
                  refine qNo hf rfl rfl rfl (congrArg (fun b => some (Value.bool b)) hb111) rfl rfl rfl ?_; clear hf; intro a hf
                  refine qNo hf rfl rfl rfl (congrArg (fun b => some (Value.bool b)) hb111) rfl rfl rfl ?_; clear hf; intro a hf
                  refine qNo hf rfl rfl rfl (congrArg (fun b => some (Value.bool b)) hb111) rfl rfl rfl ?_; clear hf; intro a hf
                  refine qNo hf rfl rfl rfl (congrArg (fun b => some (Value.bool b)) hb111) rfl rfl rfl ?_; clear hf; intro a hf
                  refine qY hf rfl rfl rfl (Y_pickT rfl (congrArg (fun b => some (Value.bool b)) hb111) rfl) ?_; clear hf; intro a hf
                  refine qNil ?_; clear hs; intro w hs
                  refine wpL_nil (then_normal ?_)
                  exact ⟨true, Option.some.inj hj105, (Fr.pick (Fr.pick (Fr.pick (Fr.pick (Fr.pick hf.none hf rfl) hf rfl) hf rfl) hf rfl) hf rfl), hs⟩
                · have hj105 := bif_f hj105 hb111
                  refine qYg hf rfl rfl rfl (congrArg (fun b => some (Value.bool b)) hb111) rfl rfl rfl (Y_move rfl rfl) ?_; clear hf; intro a hf
                  refine qYg hf rfl rfl rfl (congrArg (fun b => some (Value.bool b)) hb111) rfl rfl rfl (Y_move rfl rfl) ?_; clear hf; intro a hf
                  obtain ⟨q112, hi113, hj105⟩ := bind_some hj105
                  obtain ⟨hi113a, hi113b, hi113q⟩ := idx_some hi113
                  refine qYg hf rfl rfl rfl (congrArg (fun b => some (Value.bool b)) hb111) rfl rfl rfl (Y_index rfl rfl rfl el53 ti103 (Rd.isAt (h_p0_1.at hs) (recs_at (s := 2) GWindow.len hi113q (j := 0) rfl)) hi113a hi113b) ?_; clear hf; intro a hf
                  refine qYg hf rfl rfl rfl (congrArg (fun b => some (Value.bool b)) hb111) rfl rfl rfl (Y_fieldAddrE rfl rfl fo103_0) ?_; clear hf; intro a hf
                  refine qYg hf rfl rfl rfl (congrArg (fun b => some (Value.bool b)) hb111) rfl rfl rfl (Y_load_rd rfl rfl (fun w hs => h_p0_1.at hs) (recs_at (s := 2) GWindow.len hi113q (j := 0) rfl) ag2) ?_; clear hf; intro a hf
                  refine qYg hf rfl rfl rfl (congrArg (fun b => some (Value.bool b)) hb111) rfl rfl rfl (Y_move rfl rfl) ?_; clear hf; intro a hf
                  refine qYg hf rfl rfl rfl (congrArg (fun b => some (Value.bool b)) hb111) rfl rfl rfl (Y_move rfl rfl) ?_; clear hf; intro a hf
                  obtain ⟨q114, hi115, hj105⟩ := bind_some hj105
                  obtain ⟨hi115a, hi115b, hi115q⟩ := idx_some hi115
                  refine qYg hf rfl rfl rfl (congrArg (fun b => some (Value.bool b)) hb111) rfl rfl rfl (Y_index rfl rfl rfl el53 ti103 (Rd.isAt (h_p0_1.at hs) (recs_at (s := 2) GWindow.len hi115q (j := 0) rfl)) hi115a hi115b) ?_; clear hf; intro a hf
                  refine qYg hf rfl rfl rfl (congrArg (fun b => some (Value.bool b)) hb111) rfl rfl rfl (Y_fieldAddrE rfl rfl fo103_1) ?_; clear hf; intro a hf
                  refine qYg hf rfl rfl rfl (congrArg (fun b => some (Value.bool b)) hb111) rfl rfl rfl (Y_load_rd rfl rfl (fun w hs => h_p0_1.at hs) (recs_at (s := 2) GWindow.len hi115q (j := 1) rfl) ag2) ?_; clear hf; intro a hf
                  refine qYg hf rfl rfl rfl (congrArg (fun b => some (Value.bool b)) hb111) rfl rfl rfl (Y_gtr rfl rfl rfl) ?_; clear hf; intro a hf
                  refine qY hf rfl rfl rfl (Y_pickF rfl (congrArg (fun b => some (Value.bool b)) hb111) rfl) ?_; clear hf; intro a hf
                  refine qNil ?_; clear hs; intro w hs
                  refine wpL_nil (then_normal ?_)
                  exact ⟨(decide (q114.High < q112.Low)), Option.some.inj hj105, (Fr.pick (Fr.pick (Fr.pick (Fr.pick (Fr.pick hf.none hf rfl) hf rfl) hf rfl) hf rfl) hf rfl), hs⟩
            · rintro a w ⟨b103, hr_, hf, hs⟩
              subst hr_
              try dsimp only at hm90
              refine wpL_cond hf rfl (fun hb116 => ?_) (fun hb116 => ?_)
              · have hm90 := bif_t hm90 hb116
                refine wpL_seq ?_
                refine wpL_region ?_
                refine sY hf hs rfl rfl rfl (Y_assign rfl rfl) ?_; clear hf; intro a hf
                refine wpO_nil ?_
                obtain rfl := Option.some.inj hm90
                try dsimp only at hm
                obtain rfl := Option.some.inj hm
                refine wpL_ret (Qb_ret (Ql_ret (Qb_ret (ret_tmp rfl hf rfl ?_))))
                exact ⟨_, rfl, rfl, hs⟩
              · have hm90 := bif_f hm90 hb116
                refine wpL_skip ?_
                refine wpL_nil (Qb_normal ?_)
                refine wpL_region ?_
                refine sY hf hs rfl rfl rfl (Y_move rfl rfl) ?_; clear hf; intro a hf
                refine sY hf hs rfl rfl rfl (Y_add rfl rfl rfl) ?_; clear hf; intro a hf
                refine sY hf hs rfl rfl rfl (Y_assign rfl rfl) ?_; clear hf; intro a hf
                refine wpO_nil ?_
                refine wpL_nil (Ql_normal ?_)
                exact ⟨(IntKind.i64.wrap (x62 + 1)), hm90, (Fr.pick (Fr.pick (Fr.pick (Fr.pick hf.none hf rfl) hf rfl) hf rfl) hf rfl), hs⟩
          · have hm90 := bif_f hm90 hb92
            refine wpL_exit (Ql_exit (Qb_exit ?_))
            exact ⟨Option.some.inj hm90, (Fr.pick (Fr.pick hf.none hf rfl) hf rfl), hs⟩
      · rintro a w ⟨hr_, hf, hs⟩
        subst hr_
        try dsimp only at hm
        refine wpL_seq ?_
        refine wpL_seq ?_
        refine wpL_region ?_
        refine sY hf hs rfl rfl rfl (Y_assign rfl rfl) ?_; clear hf; intro a hf
        refine wpO_nil ?_
        obtain ⟨r218, hl219, hm⟩ := bind_some hm
        refine wpL_block (fun a w => Sum.inr () = r218 ∧ Fr a 86 [] ∧ St [] W w []) ?_ ?_
        · refine wpL_loop (fun n a w => ∃ x184 : Int, spec_IsTask_L2 F p0 p1 n x184 = some r218 ∧ Fr a 86 [(1, .slice A_p1_1 p1.length c_p1_1), (5, .int .i64 (p0.length : Int)), (7, .int .i64 x184)] ∧ St [] W w []) F ?_ ?_ ?_
          · exact ⟨0, hl219, (Fr.pick (Fr.pick (Fr.pick hf.none hf rfl) hf rfl) hf rfl), hs⟩
          · rintro a w ⟨x184, h0_, -, -⟩; simp [spec_IsTask_L2] at h0_
          · rintro n221 a w ⟨x184, hm220, hf, hs⟩
            rw [spec_IsTask_L2] at hm220
            refine wpL_seq ?_
            refine wpL_seq ?_
            refine wpL_region ?_
            refine sY hf hs rfl rfl rfl (Y_move rfl rfl) ?_; clear hf; intro a hf
            refine sY hf hs rfl rfl rfl (Y_move rfl rfl) ?_; clear hf; intro a hf
            refine sY hf hs rfl rfl rfl (Y_lenH rfl rfl el55 rfl) ?_; clear hf; intro a hf
            refine sY hf hs rfl rfl rfl (Y_lss rfl rfl rfl) ?_; clear hf; intro a hf
            refine wpO_nil ?_
            refine wpL_cond hf rfl (fun hb222 => ?_) (fun hb222 => ?_)
            · have hm220 := bif_t hm220 hb222
              refine wpL_skip ?_
              refine wpL_seq ?_
              refine wpL_block0 ?_
              refine wpL_seq ?_
              obtain ⟨r238, hj239, hm220⟩ := bind_some hm220
              refine wpL_cut (fun a w => ∃ b237 : Bool, b237 = r238 ∧ Fr a 86 [(1, .slice A_p1_1 p1.length c_p1_1), (5, .int .i64 (p0.length : Int)), (7, .int .i64 x184), (85, .bool b237)] ∧ St [] W w []) ?_ ?_
              · refine wpL_region ?_
                refine sY hf hs rfl rfl rfl (Y_move rfl rfl) ?_; clear hf; intro a hf
                refine sY hf hs rfl rfl rfl (Y_move rfl rfl) ?_; clear hf; intro a hf
                obtain ⟨q240, hi241, hj239⟩ := bind_some hj239
                obtain ⟨hi241a, hi241b, hi241q⟩ := idx_some hi241
                refine sY hf hs rfl rfl rfl (Y_index rfl rfl rfl el55 ti107 (Rd.isAt (h_p1_1.at hs) (recs_at (s := 3) GBond.len hi241q (j := 0) rfl)) hi241a hi241b) ?_; clear hf; intro a hf
                refine sY hf hs rfl rfl rfl (Y_fieldAddrE rfl rfl fo107_0) ?_; clear hf; intro a hf
                refine sY hf hs rfl rfl rfl (Y_load_rd rfl rfl (fun w hs => h_p1_1.at hs) (recs_at (s := 3) GBond.len hi241q (j := 0) rfl) ag2) ?_; clear hf; intro a hf
                refine sY hf hs rfl rfl rfl (Y_move rfl rfl) ?_; clear hf; intro a hf
                refine sY hf hs rfl rfl rfl (Y_sub rfl rfl rfl) ?_; clear hf; intro a hf
                obtain ⟨r242, hc243, hj239⟩ := bind_some hj239
                refine sCall hf rfl rfl rfl rfl (cap := []) rfl rfl en119 (spec_l01In_ok F q240.From 0 (IntKind.i64.wrap ((p0.length : Int) - 1)) _ _ hc243) ?_; clear hf
                rintro _ w ⟨rfl, hs1⟩ a hf
                have hs : St [] W w [] := hs.ext hs1.below
                clear hs1
                refine sY hf hs rfl rfl rfl (Y_not rfl rfl) ?_; clear hf; intro a hf
                refine sY hf hs rfl rfl rfl (Y_move rfl rfl) ?_; clear hf; intro a hf
                refine bsplit (!r242) (fun hb244 => ?_) (fun hb244 => ?_)
                · have hj239 := bif_t hj239 hb244
                  refine sNo hf rfl rfl rfl (congrArg (fun b => some (Value.bool b)) hb244) rfl rfl rfl ?_; clear hf; intro a hf
                  refine sNo hf rfl rfl rfl (congrArg (fun b => some (Value.bool b)) hb244) rfl rfl rfl ?_; clear hf; intro a hf
                  refine sNo hf rfl rfl rfl (congrArg (fun b => some (Value.bool b)) hb244) rfl rfl rfl ?_; clear hf; intro a hf
                  refine sNo hf rfl rfl rfl (congrArg (fun b => some (Value.bool b)) hb244) rfl rfl rfl ?_; clear hf; intro a hf
                  refine sNo hf rfl rfl rfl (congrArg (fun b => some (Value.bool b)) hb244) rfl rfl rfl ?_; clear hf; intro a hf
                  refine sNo hf rfl rfl rfl (congrArg (fun b => some (Value.bool b)) hb244) rfl rfl rfl ?_; clear hf; intro a hf
                  refine sNo hf rfl rfl rfl (congrArg (fun b => some (Value.bool b)) hb244) rfl rfl rfl ?_; clear hf; intro a hf
                  refine sNo hf rfl rfl rfl (congrArg (fun b => some (Value.bool b)) hb244) rfl rfl rfl ?_; clear hf; intro a hf
                  refine sNo hf rfl rfl rfl (congrArg (fun b => some (Value.bool b)) hb244) rfl rfl rfl ?_; clear hf; intro a hf
                  refine sY hf hs rfl rfl rfl (Y_pickT rfl (congrArg (fun b => some (Value.bool b)) hb244) rfl) ?_; clear hf; intro a hf
                  refine sY hf hs rfl rfl rfl (Y_move rfl rfl) ?_; clear hf; intro a hf
                  refine sNo hf rfl rfl rfl rfl rfl rfl rfl ?_; clear hf; intro a hf
                  refine sNo hf rfl rfl rfl rfl rfl rfl rfl ?_; clear hf; intro a hf
                  refine sNo hf rfl rfl rfl rfl rfl rfl rfl ?_; clear hf; intro a hf
                  refine sNo hf rfl rfl rfl rfl rfl rfl rfl ?_; clear hf; intro a hf
                  refine sNo hf rfl rfl rfl rfl rfl rfl rfl ?_; clear hf; intro a hf
                  refine sNo hf rfl rfl rfl rfl rfl rfl rfl ?_; clear hf; intro a hf
                  refine sNo hf rfl rfl rfl rfl rfl rfl rfl ?_; clear hf; intro a hf
                  refine sY hf hs rfl rfl rfl (Y_pickT rfl rfl rfl) ?_; clear hf; intro a hf
                  refine wpO_nil ?_
                  refine wpL_nil (then_normal ?_)
                  exact ⟨true, Option.some.inj hj239, (Fr.pick (Fr.pick (Fr.pick (Fr.pick hf.none hf rfl) hf rfl) hf rfl) hf rfl), hs⟩
                · have hj239 := bif_f hj239 hb244
                  refine sYg hf hs rfl rfl rfl (congrArg (fun b => some (Value.bool b)) hb244) rfl rfl rfl (Y_move rfl rfl) ?_; clear hf; intro a hf
                  refine sYg hf hs rfl rfl rfl (congrArg (fun b => some (Value.bool b)) hb244) rfl rfl rfl (Y_move rfl rfl) ?_; clear hf; intro a hf
                  obtain ⟨q245, hi246, hj239⟩ := bind_some hj239
                  obtain ⟨hi246a, hi246b, hi246q⟩ := idx_some hi246
                  refine sYg hf hs rfl rfl rfl (congrArg (fun b => some (Value.bool b)) hb244) rfl rfl rfl (Y_index rfl rfl rfl el55 ti107 (Rd.isAt (h_p1_1.at hs) (recs_at (s := 3) GBond.len hi246q (j := 0) rfl)) hi246a hi246b) ?_; clear hf; intro a hf
                  refine sYg hf hs rfl rfl rfl (congrArg (fun b => some (Value.bool b)) hb244) rfl rfl rfl (Y_fieldAddrE rfl rfl fo107_1) ?_; clear hf; intro a hf
                  refine sYg hf hs rfl rfl rfl (congrArg (fun b => some (Value.bool b)) hb244) rfl rfl rfl (Y_load_rd rfl rfl (fun w hs => h_p1_1.at hs) (recs_at (s := 3) GBond.len hi246q (j := 1) rfl) ag2) ?_; clear hf; intro a hf
                  refine sYg hf hs rfl rfl rfl (congrArg (fun b => some (Value.bool b)) hb244) rfl rfl rfl (Y_move rfl rfl) ?_; clear hf; intro a hf
                  refine sYg hf hs rfl rfl rfl (congrArg (fun b => some (Value.bool b)) hb244) rfl rfl rfl (Y_sub rfl rfl rfl) ?_; clear hf; intro a hf
                  obtain ⟨r247, hc248, hj239⟩ := bind_some hj239
                  refine sCallg hf rfl rfl rfl (congrArg (fun b => some (Value.bool b)) hb244) rfl rfl rfl rfl (cap := []) rfl rfl en119 (spec_l01In_ok F q245.To 0 (IntKind.i64.wrap ((p0.length : Int) - 1)) _ _ hc248) ?_; clear hf
                  rintro _ w ⟨rfl, hs1⟩ a hf
                  have hs : St [] W w [] := hs.ext hs1.below
                  clear hs1
                  refine sYg hf hs rfl rfl rfl (congrArg (fun b => some (Value.bool b)) hb244) rfl rfl rfl (Y_not rfl rfl) ?_; clear hf; intro a hf
                  refine sY hf hs rfl rfl rfl (Y_pickF rfl (congrArg (fun b => some (Value.bool b)) hb244) rfl) ?_; clear hf; intro a hf
                  refine sY hf hs rfl rfl rfl (Y_move rfl rfl) ?_; clear hf; intro a hf
                  refine bsplit (!r247) (fun hb249 => ?_) (fun hb249 => ?_)
                  · have hj239 := bif_t hj239 hb249
                    refine sNo hf rfl rfl rfl (congrArg (fun b => some (Value.bool b)) hb249) rfl rfl rfl ?_; clear hf; intro a hf
                    refine sNo hf rfl rfl rfl (congrArg (fun b => some (Value.bool b)) hb249) rfl rfl rfl ?_; clear hf; intro a hf
                    refine sNo hf rfl rfl rfl (congrArg (fun b => some (Value.bool b)) hb249) rfl rfl rfl ?_; clear hf; intro a hf
                    refine sNo hf rfl rfl rfl (congrArg (fun b => some (Value.bool b)) hb249) rfl rfl rfl ?_; clear hf; intro a hf
                    refine sNo hf rfl rfl rfl (congrArg (fun b => some (Value.bool b)) hb249) rfl rfl rfl ?_; clear hf; intro a hf
                    refine sNo hf rfl rfl rfl (congrArg (fun b => some (Value.bool b)) hb249) rfl rfl rfl ?_; clear hf; intro a hf
                    refine sNo hf rfl rfl rfl (congrArg (fun b => some (Value.bool b)) hb249) rfl rfl rfl ?_; clear hf; intro a hf
                    refine sY hf hs rfl rfl rfl (Y_pickT rfl (congrArg (fun b => some (Value.bool b)) hb249) rfl) ?_; clear hf; intro a hf
                    refine wpO_nil ?_
                    refine wpL_nil (then_normal ?_)
                    exact ⟨true, Option.some.inj hj239, (Fr.pick (Fr.pick (Fr.pick (Fr.pick hf.none hf rfl) hf rfl) hf rfl) hf rfl), hs⟩
                  · have hj239 := bif_f hj239 hb249
                    refine sYg hf hs rfl rfl rfl (congrArg (fun b => some (Value.bool b)) hb249) rfl rfl rfl (Y_move rfl rfl) ?_; clear hf; intro a hf
                    refine sYg hf hs rfl rfl rfl (congrArg (fun b => some (Value.bool b)) hb249) rfl rfl rfl (Y_move rfl rfl) ?_; clear hf; intro a hf
                    obtain ⟨q250, hi251, hj239⟩ := bind_some hj239
                    obtain ⟨hi251a, hi251b, hi251q⟩ := idx_some hi251
                    refine sYg hf hs rfl rfl rfl (congrArg (fun b => some (Value.bool b)) hb249) rfl rfl rfl (Y_index rfl rfl rfl el55 ti107 (Rd.isAt (h_p1_1.at hs) (recs_at (s := 3) GBond.len hi251q (j := 0) rfl)) hi251a hi251b) ?_; clear hf; intro a hf
                    refine sYg hf hs rfl rfl rfl (congrArg (fun b => some (Value.bool b)) hb249) rfl rfl rfl (Y_fieldAddrE rfl rfl fo107_2) ?_; clear hf; intro a hf
                    refine sYg hf hs rfl rfl rfl (congrArg (fun b => some (Value.bool b)) hb249) rfl rfl rfl (Y_load_rd rfl rfl (fun w hs => h_p1_1.at hs) (recs_at (s := 3) GBond.len hi251q (j := 2) rfl) ag2) ?_; clear hf; intro a hf
                    obtain ⟨r252, hc253, hj239⟩ := bind_some hj239
                    refine sCallg hf rfl rfl rfl (congrArg (fun b => some (Value.bool b)) hb249) rfl rfl rfl rfl (cap := []) rfl rfl en140 (spec_l01Finite_ok F q250.Least _ _ hc253) ?_; clear hf
                    rintro _ w ⟨rfl, hs1⟩ a hf
                    have hs : St [] W w [] := hs.ext hs1.below
                    clear hs1
                    refine sYg hf hs rfl rfl rfl (congrArg (fun b => some (Value.bool b)) hb249) rfl rfl rfl (Y_not rfl rfl) ?_; clear hf; intro a hf
                    refine sY hf hs rfl rfl rfl (Y_pickF rfl (congrArg (fun b => some (Value.bool b)) hb249) rfl) ?_; clear hf; intro a hf
                    refine wpO_nil ?_
                    refine wpL_nil (then_normal ?_)
                    exact ⟨(!r252), Option.some.inj hj239, (Fr.pick (Fr.pick (Fr.pick (Fr.pick hf.none hf rfl) hf rfl) hf rfl) hf rfl), hs⟩
              · rintro a w ⟨b237, hr_, hf, hs⟩
                subst hr_
                try dsimp only at hm220
                refine wpL_cond hf rfl (fun hb254 => ?_) (fun hb254 => ?_)
                · have hm220 := bif_t hm220 hb254
                  refine wpL_seq ?_
                  refine wpL_region ?_
                  refine sY hf hs rfl rfl rfl (Y_assign rfl rfl) ?_; clear hf; intro a hf
                  refine wpO_nil ?_
                  obtain rfl := Option.some.inj hm220
                  try dsimp only at hm
                  obtain rfl := Option.some.inj hm
                  refine wpL_ret (Qb_ret (Ql_ret (Qb_ret (ret_tmp rfl hf rfl ?_))))
                  exact ⟨_, rfl, rfl, hs⟩
                · have hm220 := bif_f hm220 hb254
                  refine wpL_skip ?_
                  refine wpL_nil (Qb_normal ?_)
                  refine wpL_region ?_
                  refine sY hf hs rfl rfl rfl (Y_move rfl rfl) ?_; clear hf; intro a hf
                  refine sY hf hs rfl rfl rfl (Y_add rfl rfl rfl) ?_; clear hf; intro a hf
                  refine sY hf hs rfl rfl rfl (Y_assign rfl rfl) ?_; clear hf; intro a hf
                  refine wpO_nil ?_
                  refine wpL_nil (Ql_normal ?_)
                  exact ⟨(IntKind.i64.wrap (x184 + 1)), hm220, (Fr.pick (Fr.pick (Fr.pick hf.none hf rfl) hf rfl) hf rfl), hs⟩
            · have hm220 := bif_f hm220 hb222
              refine wpL_exit (Ql_exit (Qb_exit ?_))
              exact ⟨Option.some.inj hm220, hf.none, hs⟩
        · rintro a w ⟨hr_, hf, hs⟩
          subst hr_
          try dsimp only at hm
          refine wpL_seq ?_
          refine wpL_region ?_
          refine sY hf hs rfl rfl rfl (Y_assign rfl rfl) ?_; clear hf; intro a hf
          refine wpO_nil ?_
          obtain rfl := Option.some.inj hm
          refine wpL_ret (ret_tmp rfl hf rfl ?_)
          exact ⟨_, rfl, rfl, hs⟩

set_option maxRecDepth 100000 in
theorem spec_l02Bottom_ok (F : Nat) (p0_m : Int) (p1_n : Int) (r : List (List Int)) (W : World) (hm : spec_l02Bottom F p0_m p1_n = some r) :
    Calls Try.prog 141 [.int .i64 p0_m, .int .i64 p1_n].toArray W fun e w' => ∃ v, e = .returned v ∧ ∃ A268, ∃ n269, ∃ c270, ∃ vs272, v = .slice A268 n269 c270 ∧ n269 = r.length ∧ St [] W w' [.mat A268 n269 c270 36 2 vs272 r] := by
  unfold spec_l02Bottom at hm
  refine Calls.enter (N := 29) Try.func141 rfl rfl rfl (fun a hf => ?_)
  have hs := St.start W
  obtain ⟨w, hw_⟩ : ∃ w, w = W := ⟨W, rfl⟩
  clear hw_ w
  refine wpL_seq ?_
  refine wpL_region ?_
  refine sY hf hs rfl rfl rfl (Y_assign rfl rfl) ?_; clear hf; intro a hf
  refine wpO_nil ?_
  refine wpL_seq ?_
  refine wpL_region ?_
  refine sEmptyM 2 hf hs rfl rfl rfl rfl el34 ti36 rfl ?_; clear hf hs; intro a w A1 hs hf
  have hs : St [] W w [.mat A1 0 0 36 2 [] []] := hs
  refine sY hf hs rfl rfl rfl (Y_assign rfl rfl) ?_; clear hf; intro a hf
  refine wpO_nil ?_
  refine wpL_seq ?_
  refine wpL_seq ?_
  refine wpL_region ?_
  refine sY hf hs rfl rfl rfl (Y_assign rfl rfl) ?_; clear hf; intro a hf
  refine wpO_nil ?_
  obtain ⟨r204, hl205, hm⟩ := bind_some hm
  refine wpL_block (fun a w => ∃ ms198 : List (List Int), ∃ A199, ∃ n200, ∃ c201, ∃ vs203, ms198 = r204 ∧ n200 = ms198.length ∧ Fr a 29 [(5, .slice A199 n200 c201)] ∧ St [] W w [.mat A199 n200 c201 36 2 vs203 ms198]) ?_ ?_
  · refine wpL_loop (fun n a w => ∃ ms131 : List (List Int), ∃ x137 : Int, ∃ A132, ∃ n133, ∃ c134, ∃ vs136, spec_l02Bottom_L4 F p0_m p1_n n ms131 x137 = some r204 ∧ n133 = ms131.length ∧ Fr a 29 [(0, .int .i64 p0_m), (1, .int .i64 p1_n), (5, .slice A132 n133 c134), (6, .int .i64 x137)] ∧ St [] W w [.mat A132 n133 c134 36 2 vs136 ms131]) F ?_ ?_ ?_
    · exact ⟨[], 0, A1, 0, 0, [], hl205, rfl, (Fr.pick (Fr.pick (Fr.pick (Fr.pick hf.none hf rfl) hf rfl) hf rfl) hf rfl), hs⟩
    · rintro a w ⟨ms131, x137, A132, n133, c134, vs136, h0_, -, -, -⟩; simp [spec_l02Bottom_L4] at h0_
    · rintro n207 a w ⟨ms131, x137, A132, n133, c134, vs136, hm206, hn135, hf, hs⟩
      rw [spec_l02Bottom_L4] at hm206
      refine wpL_seq ?_
      refine wpL_seq ?_
      refine wpL_region ?_
      refine sY hf hs rfl rfl rfl (Y_move rfl rfl) ?_; clear hf; intro a hf
      refine sY hf hs rfl rfl rfl (Y_move rfl rfl) ?_; clear hf; intro a hf
      refine sY hf hs rfl rfl rfl (Y_lss rfl rfl rfl) ?_; clear hf; intro a hf
      refine wpO_nil ?_
      refine wpL_cond hf rfl (fun hb208 => ?_) (fun hb208 => ?_)
      · have hm206 := bif_t hm206 hb208
        refine wpL_skip ?_
        refine wpL_seq ?_
        refine wpL_block0 ?_
        refine wpL_seq ?_
        refine wpL_region ?_
        refine sEmpty hf hs rfl rfl rfl rfl el36 ti2 ?_; clear hf hs; intro a w A209 hs hf
        have hs : St [] W w [.mat A132 n133 c134 36 2 vs136 ms131, .row A209 0 0 2 1 (ints ([] : List Int))] := hs
        refine sY hf hs rfl rfl rfl (Y_assign rfl rfl) ?_; clear hf; intro a hf
        refine wpO_nil ?_
        refine wpL_seq ?_
        refine wpL_seq ?_
        refine wpL_region ?_
        refine sY hf hs rfl rfl rfl (Y_assign rfl rfl) ?_; clear hf; intro a hf
        refine wpO_nil ?_
        obtain ⟨r249, hl250, hm206⟩ := bind_some hm206
        refine wpL_block (fun a w => ∃ xs244 : List Int, ∃ A245, ∃ n246, ∃ c247, xs244 = r249 ∧ n246 = xs244.length ∧ Fr a 29 [(0, .int .i64 p0_m), (1, .int .i64 p1_n), (5, .slice A132 n133 c134), (6, .int .i64 x137), (7, .slice A245 n246 c247)] ∧ St [] W w [.mat A132 n133 c134 36 2 vs136 ms131, .row A245 n246 c247 2 1 (ints xs244)]) ?_ ?_
        · refine wpL_loop (fun n a w => ∃ xs231 : List Int, ∃ x236 : Int, ∃ A232, ∃ n233, ∃ c234, spec_l02Bottom_L5 F p1_n n xs231 x236 = some r249 ∧ n233 = xs231.length ∧ Fr a 29 [(0, .int .i64 p0_m), (1, .int .i64 p1_n), (5, .slice A132 n133 c134), (6, .int .i64 x137), (7, .slice A232 n233 c234), (8, .int .i64 x236)] ∧ St [] W w [.mat A132 n133 c134 36 2 vs136 ms131, .row A232 n233 c234 2 1 (ints xs231)]) F ?_ ?_ ?_
          · exact ⟨([] : List Int), 0, A209, 0, 0, hl250, rfl, (Fr.pick (Fr.pick (Fr.pick (Fr.pick (Fr.pick (Fr.pick hf.none hf rfl) hf rfl) hf rfl) hf rfl) hf rfl) hf rfl), hs⟩
          · rintro a w ⟨xs231, x236, A232, n233, c234, h0_, -, -, -⟩; simp [spec_l02Bottom_L5] at h0_
          · rintro n252 a w ⟨xs231, x236, A232, n233, c234, hm251, hn235, hf, hs⟩
            rw [spec_l02Bottom_L5] at hm251
            refine wpL_seq ?_
            refine wpL_seq ?_
            refine wpL_region ?_
            refine sY hf hs rfl rfl rfl (Y_move rfl rfl) ?_; clear hf; intro a hf
            refine sY hf hs rfl rfl rfl (Y_move rfl rfl) ?_; clear hf; intro a hf
            refine sY hf hs rfl rfl rfl (Y_lss rfl rfl rfl) ?_; clear hf; intro a hf
            refine wpO_nil ?_
            refine wpL_cond hf rfl (fun hb253 => ?_) (fun hb253 => ?_)
            · have hm251 := bif_t hm251 hb253
              refine wpL_skip ?_
              refine wpL_seq ?_
              refine wpL_block0 ?_
              refine wpL_region ?_
              refine sY hf hs rfl rfl rfl (Y_move rfl rfl) ?_; clear hf; intro a hf
              refine sBuildSlice (parts := [(0, .const (.int .i64 (-1000000000000000)))]) (vs := [.int .i64 (-1000000000000000)]) (cells := [.int .i64 (-1000000000000000)]) hf hs rfl rfl rfl rfl rfl el36 ti2 rfl rfl rfl rfl ?_; clear hf hs; intro a w A254 hs hA255 hf
              have hs : St [] W w [.mat A132 n133 c134 36 2 vs136 ms131, .row A232 n233 c234 2 1 (ints xs231), .row A254 1 1 2 1 (ints ([(-1000000000000000)]))] := hs
              obtain ⟨xs258, ha259, hm251⟩ := bind_some hm251
              refine sAppendL (i := 1) (xs := xs231) (ys := [(-1000000000000000)]) (enc := ints) hf hs rfl rfl rfl rfl rfl rfl hn235 rfl rfl ha259 el36 ti2 rfl rfl rfl (hs.rd (i := 2) rfl) (Nat.succ_pos _) ints_len1 ints_append ints_one ?_; clear hf hs; intro a w A256 c257 hs hf
              have hs : St [] W w [.mat A132 n133 c134 36 2 vs136 ms131, .row A256 xs258.length c257 2 1 (ints xs258), .row A254 1 1 2 1 (ints ([(-1000000000000000)]))] := hs
              refine sY hf hs rfl rfl rfl (Y_assign rfl rfl) ?_; clear hf; intro a hf
              refine wpO_nil ?_
              refine wpL_nil (Qb_normal ?_)
              refine wpL_region ?_
              refine sY hf hs rfl rfl rfl (Y_move rfl rfl) ?_; clear hf; intro a hf
              refine sY hf hs rfl rfl rfl (Y_add rfl rfl rfl) ?_; clear hf; intro a hf
              refine sY hf hs rfl rfl rfl (Y_assign rfl rfl) ?_; clear hf; intro a hf
              refine wpO_nil ?_
              refine wpL_nil (Ql_normal ?_)
              exact ⟨xs258, (IntKind.i64.wrap (x236 + 1)), A256, xs258.length, c257, hm251, rfl, (Fr.pick (Fr.pick (Fr.pick (Fr.pick (Fr.pick (Fr.pick hf.none hf rfl) hf rfl) hf rfl) hf rfl) hf rfl) hf rfl), hs.sel [0, 1] (by decide)⟩
            · have hm251 := bif_f hm251 hb253
              refine wpL_exit (Ql_exit (Qb_exit ?_))
              exact ⟨xs231, A232, n233, c234, Option.some.inj hm251, hn235, (Fr.pick (Fr.pick (Fr.pick (Fr.pick (Fr.pick hf.none hf rfl) hf rfl) hf rfl) hf rfl) hf rfl), hs⟩
        · rintro a w ⟨xs244, A245, n246, c247, hr_, hn248, hf, hs⟩
          subst hr_
          try dsimp only at hm206
          refine wpL_region ?_
          refine sY hf hs rfl rfl rfl (Y_move rfl rfl) ?_; clear hf; intro a hf
          refine sY hf hs rfl rfl rfl (Y_move rfl rfl) ?_; clear hf; intro a hf
          refine sOneM (j := 1) hf hs rfl rfl rfl rfl rfl rfl hn248 el34 ti36 ?_; clear hf hs; intro a w A260 hs hf
          have hs : St [] W w [.mat A132 n133 c134 36 2 vs136 ms131, .mat A260 1 1 36 2 ([.slice A245 xs244.length c247]) ([xs244])] := hs
          obtain ⟨ms264, ha265, hm206⟩ := bind_some hm206
          refine sAppendM (i := 0) (j := 1) hf hs rfl rfl rfl rfl rfl rfl hn135 rfl (by decide) rfl rfl (by decide) ha265 el34 ti36 rfl ?_; clear hf hs; intro a w A262 c263 hs hf
          have hs : St [] W w [.mat A262 ms264.length c263 36 2 (vs136 ++ ([.slice A245 xs244.length c247])) ms264] := hs
          obtain ⟨hq266, hv267⟩ := hs.appended (i := 0) rfl ha265
          refine sY hf hs rfl rfl rfl (Y_assign rfl rfl) ?_; clear hf; intro a hf
          refine wpO_nil ?_
          refine wpL_nil (Qb_normal ?_)
          refine wpL_region ?_
          refine sY hf hs rfl rfl rfl (Y_move rfl rfl) ?_; clear hf; intro a hf
          refine sY hf hs rfl rfl rfl (Y_add rfl rfl rfl) ?_; clear hf; intro a hf
          refine sY hf hs rfl rfl rfl (Y_assign rfl rfl) ?_; clear hf; intro a hf
          refine wpO_nil ?_
          refine wpL_nil (Ql_normal ?_)
          exact ⟨ms264, (IntKind.i64.wrap (x137 + 1)), A262, ms264.length, c263, (vs136 ++ ([.slice A245 xs244.length c247])), hm206, rfl, (Fr.pick (Fr.pick (Fr.pick (Fr.pick hf.none hf rfl) hf rfl) hf rfl) hf rfl), hs⟩
      · have hm206 := bif_f hm206 hb208
        refine wpL_exit (Ql_exit (Qb_exit ?_))
        exact ⟨ms131, A132, n133, c134, vs136, Option.some.inj hm206, hn135, (Fr.pick hf.none hf rfl), hs⟩
  · rintro a w ⟨ms198, A199, n200, c201, vs203, hr_, hn202, hf, hs⟩
    subst hr_
    try dsimp only at hm
    refine wpL_seq ?_
    refine wpL_region ?_
    refine sY hf hs rfl rfl rfl (Y_move rfl rfl) ?_; clear hf; intro a hf
    refine sY hf hs rfl rfl rfl (Y_assign rfl rfl) ?_; clear hf; intro a hf
    refine wpO_nil ?_
    obtain rfl := Option.some.inj hm
    refine wpL_ret (ret_tmp rfl hf rfl ?_)
    exact ⟨_, rfl, A199, n200, c201, vs203, rfl, hn202, hs⟩

set_option maxRecDepth 100000 in
theorem spec_l23Matrix_ok (F : Nat) (p0_n : Int) (p1_bonds : List GBond) (A_p1_bonds_1 : Option Addr) (n_p1_bonds_1 c_p1_bonds_1 : Nat) (hn_p1_bonds_1 : n_p1_bonds_1 = p1_bonds.length) (r : List (List Int)) (W : World) (hm : spec_l23Matrix F p0_n p1_bonds = some r) (h_p1_bonds_1 : Rd W A_p1_bonds_1 ((recs GBond.cells) p1_bonds)) :
    Calls Try.prog 94 [.int .i64 p0_n, .slice A_p1_bonds_1 n_p1_bonds_1 c_p1_bonds_1].toArray W fun e w' => ∃ v, e = .returned v ∧ ∃ A196, ∃ n197, ∃ c198, ∃ vs200, v = .slice A196 n197 c198 ∧ n197 = r.length ∧ St [] W w' [.mat A196 n197 c198 36 2 vs200 r] := by
  subst hn_p1_bonds_1
  unfold spec_l23Matrix at hm
  refine Calls.enter (N := 42) Try.func94 rfl rfl rfl (fun a hf => ?_)
  have hs := St.start W
  obtain ⟨w, hw_⟩ : ∃ w, w = W := ⟨W, rfl⟩
  clear hw_ w
  refine wpL_seq ?_
  refine wpL_region ?_
  refine sY hf hs rfl rfl rfl (Y_assign rfl rfl) ?_; clear hf; intro a hf
  refine wpO_nil ?_
  refine wpL_seq ?_
  refine wpL_region ?_
  refine sY hf hs rfl rfl rfl (Y_move rfl rfl) ?_; clear hf; intro a hf
  refine sY hf hs rfl rfl rfl (Y_move rfl rfl) ?_; clear hf; intro a hf
  obtain ⟨r1, hc2, hm⟩ := bind_some hm
  refine sCall hf rfl rfl rfl rfl (cap := []) rfl rfl en141 (spec_l02Bottom_ok F p0_n p0_n _ _ hc2) ?_; clear hf
  rintro _ w ⟨A3, n4, c5, vs7, rfl, hn6, hs1⟩ a hf
  have hs : St [] W w [.mat A3 n4 c5 36 2 vs7 r1] := hs.join hs1
  clear hs1
  refine sY hf hs rfl rfl rfl (Y_assign rfl rfl) ?_; clear hf; intro a hf
  refine wpO_nil ?_
  refine wpL_seq ?_
  refine wpL_seq ?_
  refine wpL_region ?_
  refine sY hf hs rfl rfl rfl (Y_assign rfl rfl) ?_; clear hf; intro a hf
  refine wpO_nil ?_
  obtain ⟨r148, hl149, hm⟩ := bind_some hm
  refine wpL_block (fun a w => ∃ ms146 : List (List Int), ms146 = r148 ∧ n4 = ms146.length ∧ Fr a 42 [(5, .slice A3 n4 c5)] ∧ St [] W w [.mat A3 n4 c5 36 2 vs7 ms146]) ?_ ?_
  · refine wpL_loop (fun n a w => ∃ ms99 : List (List Int), ∃ x101 : Int, spec_l23Matrix_L1 F p1_bonds n ms99 x101 = some r148 ∧ n4 = ms99.length ∧ Fr a 42 [(1, .slice A_p1_bonds_1 p1_bonds.length c_p1_bonds_1), (5, .slice A3 n4 c5), (6, .int .i64 x101)] ∧ St [] W w [.mat A3 n4 c5 36 2 vs7 ms99]) F ?_ ?_ ?_
    · exact ⟨r1, 0, hl149, hn6, (Fr.pick (Fr.pick (Fr.pick hf.none hf rfl) hf rfl) hf rfl), hs⟩
    · rintro a w ⟨ms99, x101, h0_, -, -, -⟩; simp [spec_l23Matrix_L1] at h0_
    · rintro n151 a w ⟨ms99, x101, hm150, hn100, hf, hs⟩
      rw [spec_l23Matrix_L1] at hm150
      refine wpL_seq ?_
      refine wpL_seq ?_
      refine wpL_region ?_
      refine sY hf hs rfl rfl rfl (Y_move rfl rfl) ?_; clear hf; intro a hf
      refine sY hf hs rfl rfl rfl (Y_move rfl rfl) ?_; clear hf; intro a hf
      refine sY hf hs rfl rfl rfl (Y_lenH rfl rfl el55 rfl) ?_; clear hf; intro a hf
      refine sY hf hs rfl rfl rfl (Y_lss rfl rfl rfl) ?_; clear hf; intro a hf
      refine wpO_nil ?_
      refine wpL_cond hf rfl (fun hb152 => ?_) (fun hb152 => ?_)
      · have hm150 := bif_t hm150 hb152
        refine wpL_skip ?_
        refine wpL_seq ?_
        refine wpL_block0 ?_
        refine wpL_seq ?_
        refine wpL_region ?_
        refine sY hf hs rfl rfl rfl (Y_move rfl rfl) ?_; clear hf; intro a hf
        refine sY hf hs rfl rfl rfl (Y_move rfl rfl) ?_; clear hf; intro a hf
        obtain ⟨q153, hi154, hm150⟩ := bind_some hm150
        obtain ⟨hi154a, hi154b, hi154q⟩ := idx_some hi154
        refine sY hf hs rfl rfl rfl (Y_index rfl rfl rfl el55 ti107 (Rd.isAt (h_p1_bonds_1.at hs) (recs_at (s := 3) GBond.len hi154q (j := 0) rfl)) hi154a hi154b) ?_; clear hf; intro a hf
        refine sY hf hs rfl rfl rfl (Y_load_rdS rfl rfl (us := [.int .i64 q153.From, .int .i64 q153.To, .int .i64 q153.Least]) (fun w hs => h_p1_bonds_1.at hs) (fun j u hj => recs_at (s := 3) GBond.len hi154q hj) (Nat.succ_pos _) ag107 ti107 rfl) ?_; clear hf; intro a hf
        refine sAlloc hf hs rfl rfl rfl rfl ti107 ?_; clear hf hs; intro a w b155 hs hf
        have hs : St [] W w [.mat A3 n4 c5 36 2 vs7 ms99, .blk b155 107 [.int .i64 0, .int .i64 0, .int .i64 0]] := hs
        refine sStore (i := 1) (us := [.int .i64 q153.From, .int .i64 q153.To, .int .i64 q153.Least]) hf hs rfl rfl rfl rfl rfl rfl ti107 rfl rfl rfl (Nat.le_of_ble_eq_true rfl) rfl ?_; clear hs; intro w hs
        have hs : St [] W w [.mat A3 n4 c5 36 2 vs7 ms99, .blk b155 107 [.int .i64 q153.From, .int .i64 q153.To, .int .i64 q153.Least]] := hs
        refine wpO_nil ?_
        refine wpL_drawG [.mat A3 n4 c5 36 2 vs7 ms99, .blk b155 107 [.int .i64 q153.From, .int .i64 q153.To, .int .i64 q153.Least]] 20 (by kernel_rfl) hs ?_; clear hs; intro w hs
        have hs0 : St [] W w [.mat A3 n4 c5 36 2 vs7 ms99, .blk b155 107 [.int .i64 q153.From, .int .i64 q153.To, .int .i64 q153.Least]] := hs
        refine gY (i := 0) [] rfl (by kernel_rfl) (by kernel_rfl) hf hs0 rfl rfl rfl (Y_move rfl rfl) ?_; clear hf; intro a hf
        refine gY (i := 1) [] rfl (by kernel_rfl) (by kernel_rfl) hf hs0 rfl rfl rfl (Y_fieldAddr rfl rfl fo107_1) ?_; clear hf; intro a hf
        refine gY (i := 2) [] rfl (by kernel_rfl) (by kernel_rfl) hf hs0 rfl rfl rfl (Y_load_blk rfl rfl (i := 1) rfl rfl ag2) ?_; clear hf; intro a hf
        obtain ⟨q176, hi177, hm150⟩ := bind_some hm150
        obtain ⟨hi177a, hi177b, hi177q⟩ := idx_some hi177
        obtain ⟨A178, c179, hv180⟩ := hs0.matRow (i := 0) rfl hi177q
        refine gY (i := 3) [] rfl (by kernel_rfl) (by kernel_rfl) hf hs0 rfl rfl rfl (Y_index rfl rfl rfl el34 ti36 (Rd.isAt (hs0.rdV (i := 0) rfl) hv180) hi177a (ltn hn100 hi177b)) ?_; clear hf; intro a hf
        refine gY (i := 4) [] rfl (by kernel_rfl) (by kernel_rfl) hf hs0 rfl rfl rfl (Y_load_rd rfl rfl (fun w hs => hs.rdV (i := 0) rfl) (at1 hv180) ag36) ?_; clear hf; intro a hf
        refine gY (i := 5) [] rfl (by kernel_rfl) (by kernel_rfl) hf hs0 rfl rfl rfl (Y_fieldAddr rfl rfl fo107_0) ?_; clear hf; intro a hf
        refine gY (i := 6) [] rfl (by kernel_rfl) (by kernel_rfl) hf hs0 rfl rfl rfl (Y_load_blk rfl rfl (i := 1) rfl rfl ag2) ?_; clear hf; intro a hf
        refine gY (i := 7) [] rfl (by kernel_rfl) (by kernel_rfl) hf hs0 rfl rfl rfl (Y_move rfl rfl) ?_; clear hf; intro a hf
        refine gY (i := 8) [] rfl (by kernel_rfl) (by kernel_rfl) hf hs0 rfl rfl rfl (Y_fieldAddr rfl rfl fo107_1) ?_; clear hf; intro a hf
        refine gY (i := 9) [] rfl (by kernel_rfl) (by kernel_rfl) hf hs0 rfl rfl rfl (Y_load_blk rfl rfl (i := 1) rfl rfl ag2) ?_; clear hf; intro a hf
        obtain ⟨q181, hi182, hm150⟩ := bind_some hm150
        obtain ⟨hi182a, hi182b, hi182q⟩ := idx_some hi182
        obtain ⟨A183, c184, hv185⟩ := hs0.matRow (i := 0) rfl hi182q
        refine gY (i := 10) [] rfl (by kernel_rfl) (by kernel_rfl) hf hs0 rfl rfl rfl (Y_index rfl rfl rfl el34 ti36 (Rd.isAt (hs0.rdV (i := 0) rfl) hv185) hi182a (ltn hn100 hi182b)) ?_; clear hf; intro a hf
        refine gY (i := 11) [] rfl (by kernel_rfl) (by kernel_rfl) hf hs0 rfl rfl rfl (Y_load_rd rfl rfl (fun w hs => hs.rdV (i := 0) rfl) (at1 hv185) ag36) ?_; clear hf; intro a hf
        refine gY (i := 12) [] rfl (by kernel_rfl) (by kernel_rfl) hf hs0 rfl rfl rfl (Y_fieldAddr rfl rfl fo107_0) ?_; clear hf; intro a hf
        refine gY (i := 13) [] rfl (by kernel_rfl) (by kernel_rfl) hf hs0 rfl rfl rfl (Y_load_blk rfl rfl (i := 1) rfl rfl ag2) ?_; clear hf; intro a hf
        obtain ⟨q186, hi187, hm150⟩ := bind_some hm150
        obtain ⟨hi187a, hi187b, hi187q⟩ := idx_some hi187
        refine gY (i := 14) [] rfl (by kernel_rfl) (by kernel_rfl) hf hs0 rfl rfl rfl (Y_index rfl rfl rfl el36 ti2 (Rd.isAt (hs0.rdRow (i := 0) rfl ⟨hi182q, hv185⟩) (at1 (ints_at hi187q))) hi187a hi187b) ?_; clear hf; intro a hf
        refine gY (i := 15) [] rfl (by kernel_rfl) (by kernel_rfl) hf hs0 rfl rfl rfl (Y_load_rd rfl rfl (fun w hs => hs.rdRow (i := 0) rfl ⟨hi182q, hv185⟩) (at1 (ints_at hi187q)) ag2) ?_; clear hf; intro a hf
        refine gY (i := 16) [] rfl (by kernel_rfl) (by kernel_rfl) hf hs0 rfl rfl rfl (Y_fieldAddr rfl rfl fo107_2) ?_; clear hf; intro a hf
        refine gY (i := 17) [] rfl (by kernel_rfl) (by kernel_rfl) hf hs0 rfl rfl rfl (Y_load_blk rfl rfl (i := 1) rfl rfl ag2) ?_; clear hf; intro a hf
        refine gY (i := 18) [] rfl (by kernel_rfl) (by kernel_rfl) hf hs0 rfl rfl rfl (Y_max rfl rfl rfl) ?_; clear hf; intro a hf
        obtain ⟨q188, hi189, hm150⟩ := bind_some hm150
        obtain ⟨hi189a, hi189b, hi189q⟩ := idx_some hi189
        refine gY (i := 19) [] rfl (by kernel_rfl) (by kernel_rfl) hf hs0 rfl rfl rfl (Y_index rfl rfl rfl el36 ti2 (Rd.isAt (hs0.rdRow (i := 0) rfl ⟨hi177q, hv180⟩) (at1 (ints_at hi189q))) hi189a hi189b) ?_; clear hf; intro a hf
        refine gRun (i := 20) rfl (by kernel_rfl) ?_
        obtain ⟨xs190, hu192, hm150⟩ := bind_some hm150
        obtain ⟨ms191, hu193, hm150⟩ := bind_some hm150
        refine sStoreM (i := 0) (k := q153.To) hf hs rfl rfl rfl rfl rfl rfl hi177q hv180 rfl hu192 hu193 ti2 ?_; clear hs; intro w hs
        obtain ⟨hq194, hv195⟩ := rowUpd hu192 hu193 hv180
        have hs : St [] W w [.mat A3 n4 c5 36 2 vs7 ms191, .blk b155 107 [.int .i64 q153.From, .int .i64 q153.To, .int .i64 q153.Least]] := hs
        refine wpO_nil ⟨Or.inl rfl, ?_⟩
        refine gDone (by kernel_rfl) ?_
        clear hs0
        refine wpL_nil (Qb_normal ?_)
        refine wpL_region ?_
        refine sY hf hs rfl rfl rfl (Y_move rfl rfl) ?_; clear hf; intro a hf
        refine sY hf hs rfl rfl rfl (Y_add rfl rfl rfl) ?_; clear hf; intro a hf
        refine sY hf hs rfl rfl rfl (Y_assign rfl rfl) ?_; clear hf; intro a hf
        refine wpO_nil ?_
        refine wpL_nil (Ql_normal ?_)
        exact ⟨ms191, (IntKind.i64.wrap (x101 + 1)), hm150, ((hn100).trans (upd_len hu193).symm), (Fr.pick (Fr.pick (Fr.pick hf.none hf rfl) hf rfl) hf rfl), hs.sel [0] (by decide)⟩
      · have hm150 := bif_f hm150 hb152
        refine wpL_exit (Ql_exit (Qb_exit ?_))
        exact ⟨ms99, Option.some.inj hm150, hn100, (Fr.pick hf.none hf rfl), hs⟩
  · rintro a w ⟨ms146, hr_, hn147, hf, hs⟩
    subst hr_
    try dsimp only at hm
    refine wpL_seq ?_
    refine wpL_region ?_
    refine sY hf hs rfl rfl rfl (Y_move rfl rfl) ?_; clear hf; intro a hf
    refine sY hf hs rfl rfl rfl (Y_assign rfl rfl) ?_; clear hf; intro a hf
    refine wpO_nil ?_
    obtain rfl := Option.some.inj hm
    refine wpL_ret (ret_tmp rfl hf rfl ?_)
    exact ⟨_, rfl, A3, n4, c5, vs7, rfl, hn147, hs⟩

set_option maxRecDepth 100000 in
theorem spec_l01Has_ok (F : Nat) (p0_list : List Int) (A_p0_list_1 : Option Addr) (n_p0_list_1 c_p0_list_1 : Nat) (hn_p0_list_1 : n_p0_list_1 = p0_list.length) (p1_x : Int) (r : Bool) (W : World) (hm : spec_l01Has F p0_list p1_x = some r) (h_p0_list_1 : Rd W A_p0_list_1 (ints p0_list)) :
    Calls Try.prog 164 [.slice A_p0_list_1 n_p0_list_1 c_p0_list_1, .int .i64 p1_x].toArray W fun e w' => ∃ v, e = .returned v ∧ v = .bool r ∧ St [] W w' [] := by
  subst hn_p0_list_1
  unfold spec_l01Has at hm
  refine Calls.enter (N := 18) Try.func164 rfl rfl rfl (fun a hf => ?_)
  have hs := St.start W
  obtain ⟨w, hw_⟩ : ∃ w, w = W := ⟨W, rfl⟩
  clear hw_ w
  refine wpL_seq ?_
  refine wpL_region ?_
  refine sY hf hs rfl rfl rfl (Y_assign rfl rfl) ?_; clear hf; intro a hf
  refine wpO_nil ?_
  refine wpL_seq ?_
  refine wpL_seq ?_
  refine wpL_region ?_
  refine sY hf hs rfl rfl rfl (Y_assign rfl rfl) ?_; clear hf; intro a hf
  refine wpO_nil ?_
  obtain ⟨r15, hl16, hm⟩ := bind_some hm
  refine wpL_block (fun a w => Sum.inr () = r15 ∧ Fr a 18 [] ∧ St [] W w []) ?_ ?_
  · refine wpL_loop (fun n a w => ∃ x10 : Int, spec_l01Has_L1 F p0_list p1_x n x10 = some r15 ∧ Fr a 18 [(0, .slice A_p0_list_1 p0_list.length c_p0_list_1), (1, .int .i64 p1_x), (5, .int .i64 x10)] ∧ St [] W w []) F ?_ ?_ ?_
    · exact ⟨0, hl16, (Fr.pick (Fr.pick (Fr.pick hf.none hf rfl) hf rfl) hf rfl), hs⟩
    · rintro a w ⟨x10, h0_, -, -⟩; simp [spec_l01Has_L1] at h0_
    · rintro n18 a w ⟨x10, hm17, hf, hs⟩
      rw [spec_l01Has_L1] at hm17
      refine wpL_seq ?_
      refine wpL_seq ?_
      refine wpL_region ?_
      refine sY hf hs rfl rfl rfl (Y_move rfl rfl) ?_; clear hf; intro a hf
      refine sY hf hs rfl rfl rfl (Y_move rfl rfl) ?_; clear hf; intro a hf
      refine sY hf hs rfl rfl rfl (Y_lenH rfl rfl el36 rfl) ?_; clear hf; intro a hf
      refine sY hf hs rfl rfl rfl (Y_lss rfl rfl rfl) ?_; clear hf; intro a hf
      refine wpO_nil ?_
      refine wpL_cond hf rfl (fun hb19 => ?_) (fun hb19 => ?_)
      · have hm17 := bif_t hm17 hb19
        refine wpL_skip ?_
        refine wpL_seq ?_
        refine wpL_block0 ?_
        refine wpL_seq ?_
        refine wpL_region ?_
        refine sY hf hs rfl rfl rfl (Y_move rfl rfl) ?_; clear hf; intro a hf
        refine sY hf hs rfl rfl rfl (Y_move rfl rfl) ?_; clear hf; intro a hf
        obtain ⟨q20, hi21, hm17⟩ := bind_some hm17
        obtain ⟨hi21a, hi21b, hi21q⟩ := idx_some hi21
        refine sY hf hs rfl rfl rfl (Y_index rfl rfl rfl el36 ti2 (Rd.isAt (h_p0_list_1.at hs) (at1 (ints_at hi21q))) hi21a hi21b) ?_; clear hf; intro a hf
        refine sY hf hs rfl rfl rfl (Y_load_rd rfl rfl (fun w hs => h_p0_list_1.at hs) (at1 (ints_at hi21q)) ag2) ?_; clear hf; intro a hf
        refine sY hf hs rfl rfl rfl (Y_move rfl rfl) ?_; clear hf; intro a hf
        refine sY hf hs rfl rfl rfl (Y_eql rfl rfl rfl) ?_; clear hf; intro a hf
        refine wpO_nil ?_
        refine wpL_cond hf rfl (fun hb22 => ?_) (fun hb22 => ?_)
        · have hm17 := bif_t hm17 hb22
          refine wpL_seq ?_
          refine wpL_region ?_
          refine sY hf hs rfl rfl rfl (Y_assign rfl rfl) ?_; clear hf; intro a hf
          refine wpO_nil ?_
          obtain rfl := Option.some.inj hm17
          try dsimp only at hm
          obtain rfl := Option.some.inj hm
          refine wpL_ret (Qb_ret (Ql_ret (Qb_ret (ret_tmp rfl hf rfl ?_))))
          exact ⟨_, rfl, rfl, hs⟩
        · have hm17 := bif_f hm17 hb22
          refine wpL_skip ?_
          refine wpL_nil (Qb_normal ?_)
          refine wpL_region ?_
          refine sY hf hs rfl rfl rfl (Y_move rfl rfl) ?_; clear hf; intro a hf
          refine sY hf hs rfl rfl rfl (Y_add rfl rfl rfl) ?_; clear hf; intro a hf
          refine sY hf hs rfl rfl rfl (Y_assign rfl rfl) ?_; clear hf; intro a hf
          refine wpO_nil ?_
          refine wpL_nil (Ql_normal ?_)
          exact ⟨(IntKind.i64.wrap (x10 + 1)), hm17, (Fr.pick (Fr.pick (Fr.pick hf.none hf rfl) hf rfl) hf rfl), hs⟩
      · have hm17 := bif_f hm17 hb19
        refine wpL_exit (Ql_exit (Qb_exit ?_))
        exact ⟨Option.some.inj hm17, hf.none, hs⟩
  · rintro a w ⟨hr_, hf, hs⟩
    subst hr_
    try dsimp only at hm
    refine wpL_seq ?_
    refine wpL_region ?_
    refine sY hf hs rfl rfl rfl (Y_assign rfl rfl) ?_; clear hf; intro a hf
    refine wpO_nil ?_
    obtain rfl := Option.some.inj hm
    refine wpL_ret (ret_tmp rfl hf rfl ?_)
    exact ⟨_, rfl, rfl, hs⟩

set_option maxRecDepth 100000 in
theorem spec_l01Own_ok (F : Nat) (p0_list : List Int) (A_p0_list_1 : Option Addr) (n_p0_list_1 c_p0_list_1 : Nat) (hn_p0_list_1 : n_p0_list_1 = p0_list.length) (r : List Int) (W : World) (hm : spec_l01Own F p0_list = some r) (h_p0_list_1 : Rd W A_p0_list_1 (ints p0_list)) :
    Calls Try.prog 160 [.slice A_p0_list_1 n_p0_list_1 c_p0_list_1].toArray W fun e w' => ∃ v, e = .returned v ∧ ∃ A7, ∃ n8, ∃ c9, v = .slice A7 n8 c9 ∧ n8 = r.length ∧ St [] W w' [.row A7 n8 c9 2 1 (ints r)] := by
  subst hn_p0_list_1
  unfold spec_l01Own at hm
  refine Calls.enter (N := 6) Try.func160 rfl rfl rfl (fun a hf => ?_)
  have hs := St.start W
  obtain ⟨w, hw_⟩ : ∃ w, w = W := ⟨W, rfl⟩
  clear hw_ w
  refine wpL_seq ?_
  refine wpL_region ?_
  refine sY hf hs rfl rfl rfl (Y_assign rfl rfl) ?_; clear hf; intro a hf
  refine wpO_nil ?_
  refine wpL_seq ?_
  refine wpL_region ?_
  refine sEmpty hf hs rfl rfl rfl rfl el36 ti2 ?_; clear hf hs; intro a w A1 hs hf
  have hs : St [] W w [.row A1 0 0 2 1 (ints ([] : List Int))] := hs
  refine sY hf hs rfl rfl rfl (Y_move rfl rfl) ?_; clear hf; intro a hf
  obtain ⟨xs5, ha6, hm⟩ := bind_some hm
  refine sAppendG (i := 0) (xs := ([] : List Int)) (ys := p0_list) (enc := ints) hf hs rfl rfl rfl rfl rfl rfl rfl rfl rfl ha6 el36 ti2 rfl rfl rfl (h_p0_list_1.at hs) ints_len1 ints_append ints_one ?_; clear hf hs; intro a w A3 c4 hs hf
  have hs : St [] W w [.row A3 xs5.length c4 2 1 (ints xs5)] := hs
  refine sY hf hs rfl rfl rfl (Y_assign rfl rfl) ?_; clear hf; intro a hf
  refine wpO_nil ?_
  obtain rfl := Option.some.inj hm
  refine wpL_ret (ret_tmp rfl hf rfl ?_)
  exact ⟨_, rfl, A3, xs5.length, c4, rfl, rfl, hs⟩

set_option maxRecDepth 100000 in
theorem spec_l03Grow_step (F k_ : Nat) (ih_ : ∀ (p0 : List (List Int)) (A_p0_1 : Option Addr) (n_p0_1 c_p0_1 : Nat) (_hn_p0_1 : n_p0_1 = p0.length) (p1 : List Int) (A_p1_1 : Option Addr) (n_p1_1 c_p1_1 : Nat) (_hn_p1_1 : n_p1_1 = p1.length) (p2 : Int) (p3 : Int) (r : List Int) (W : World) (_hm : spec_l03Grow_rec F k_ p0 p1 p2 p3 = some r) (_h_p0_1 : RdM W A_p0_1 p0) (_h_p1_1 : Rd W A_p1_1 (ints p1)), Calls Try.prog 131 [.slice A_p0_1 n_p0_1 c_p0_1, .slice A_p1_1 n_p1_1 c_p1_1, .int .i64 p2, .int .i64 p3].toArray W fun e w' => ∃ v, e = .returned v ∧ ∃ A1851, ∃ n1852, ∃ c1853, ∃ A1854, ∃ n1855, ∃ c1856, ∃ ys1857, v = .slice A1851 n1852 c1853 ∧ n1852 = r.length ∧ Ei A_p1_1 n_p1_1 c_p1_1 p1 A1854 n1855 c1856 ys1857 A1851 n1852 c1853 r ∧ St [] W w' [.row A1854 n1855 c1856 2 1 (ints ys1857)]) (p0 : List (List Int)) (A_p0_1 : Option Addr) (n_p0_1 c_p0_1 : Nat) (hn_p0_1 : n_p0_1 = p0.length) (p1 : List Int) (A_p1_1 : Option Addr) (n_p1_1 c_p1_1 : Nat) (hn_p1_1 : n_p1_1 = p1.length) (p2 : Int) (p3 : Int) (r : List Int) (W : World) (hm : spec_l03Grow_rec F (k_ + 1) p0 p1 p2 p3 = some r) (h_p0_1 : RdM W A_p0_1 p0) (h_p1_1 : Rd W A_p1_1 (ints p1)) :
    Calls Try.prog 131 [.slice A_p0_1 n_p0_1 c_p0_1, .slice A_p1_1 n_p1_1 c_p1_1, .int .i64 p2, .int .i64 p3].toArray W fun e w' => ∃ v, e = .returned v ∧ ∃ A1851, ∃ n1852, ∃ c1853, ∃ A1854, ∃ n1855, ∃ c1856, ∃ ys1857, v = .slice A1851 n1852 c1853 ∧ n1852 = r.length ∧ Ei A_p1_1 n_p1_1 c_p1_1 p1 A1854 n1855 c1856 ys1857 A1851 n1852 c1853 r ∧ St [] W w' [.row A1854 n1855 c1856 2 1 (ints ys1857)] := by
  subst hn_p0_1
  subst hn_p1_1
  unfold spec_l03Grow_rec at hm
  refine Calls.enter (N := 86) Try.func131 rfl rfl rfl (fun a hf => ?_)
  have hs := St.start W
  obtain ⟨w, hw_⟩ : ∃ w, w = W := ⟨W, rfl⟩
  clear hw_ w
  refine wpL_seq ?_
  refine wpL_region ?_
  refine sY hf hs rfl rfl rfl (Y_assign rfl rfl) ?_; clear hf; intro a hf
  refine wpO_nil ?_
  refine wpL_seq ?_
  refine wpL_draw (by kernel_rfl) (by kernel_rfl) hs ?_
  refine qY hf rfl rfl rfl (Y_move rfl rfl) ?_; clear hf; intro a hf
  obtain ⟨q1, hi2, hm⟩ := bind_some hm
  obtain ⟨hi2a, hi2b, hi2q⟩ := idx_some hi2
  refine qY hf rfl rfl rfl (Y_index rfl rfl rfl el36 ti2 (Rd.isAt (h_p1_1.at hs) (at1 (ints_at hi2q))) hi2a hi2b) ?_; clear hf; intro a hf
  refine qY hf rfl rfl rfl (Y_load_rd rfl rfl (fun w hs => h_p1_1.at hs) (at1 (ints_at hi2q)) ag2) ?_; clear hf; intro a hf
  refine qY hf rfl rfl rfl (Y_move rfl rfl) ?_; clear hf; intro a hf
  refine qY hf rfl rfl rfl (Y_move rfl rfl) ?_; clear hf; intro a hf
  refine qY hf rfl rfl rfl (Y_lenH rfl rfl el36 rfl) ?_; clear hf; intro a hf
  refine qY hf rfl rfl rfl (Y_sub rfl rfl rfl) ?_; clear hf; intro a hf
  obtain ⟨q3, hi4, hm⟩ := bind_some hm
  obtain ⟨hi4a, hi4b, hi4q⟩ := idx_some hi4
  refine qY hf rfl rfl rfl (Y_index rfl rfl rfl el36 ti2 (Rd.isAt (h_p1_1.at hs) (at1 (ints_at hi4q))) hi4a hi4b) ?_; clear hf; intro a hf
  refine qY hf rfl rfl rfl (Y_load_rd rfl rfl (fun w hs => h_p1_1.at hs) (at1 (ints_at hi4q)) ag2) ?_; clear hf; intro a hf
  refine qY hf rfl rfl rfl (Y_assign rfl rfl) ?_; clear hf; intro a hf
  refine qY hf rfl rfl rfl (Y_assign rfl rfl) ?_; clear hf; intro a hf
  refine qNil ?_; clear hs; intro w hs
  refine wpL_seq ?_
  refine wpL_seq ?_
  obtain ⟨r29, hj30, hm⟩ := bind_some hm
  refine wpL_cut (fun a w => ∃ b28 : Bool, b28 = r29 ∧ Fr a 86 [(0, .slice A_p0_1 p0.length c_p0_1), (1, .slice A_p1_1 p1.length c_p1_1), (2, .int .i64 p2), (3, .int .i64 p3), (9, .int .i64 q1), (10, .int .i64 q3), (42, .bool b28)] ∧ St [] W w []) ?_ ?_
  · refine wpL_region ?_
    refine sY hf hs rfl rfl rfl (Y_move rfl rfl) ?_; clear hf; intro a hf
    refine sY hf hs rfl rfl rfl (Y_move rfl rfl) ?_; clear hf; intro a hf
    obtain ⟨q31, hi32, hj30⟩ := bind_some hj30
    obtain ⟨hi32a, hi32b, hi32q⟩ := idx_some hi32
    obtain ⟨vs33, hv34, hr35⟩ := id h_p0_1
    obtain ⟨A36, c37, hv38, hR39⟩ := hr35 _ _ hi32q
    refine sY hf hs rfl rfl rfl (Y_index rfl rfl rfl el34 ti36 (Rd.isAt hv34 hv38) hi32a hi32b) ?_; clear hf; intro a hf
    refine sY hf hs rfl rfl rfl (Y_load_rd rfl rfl (fun w hs => hv34.at hs) (at1 hv38) ag36) ?_; clear hf; intro a hf
    refine sY hf hs rfl rfl rfl (Y_move rfl rfl) ?_; clear hf; intro a hf
    obtain ⟨q40, hi41, hj30⟩ := bind_some hj30
    obtain ⟨hi41a, hi41b, hi41q⟩ := idx_some hi41
    refine sY hf hs rfl rfl rfl (Y_index rfl rfl rfl el36 ti2 (Rd.isAt (hR39.at hs) (at1 (ints_at hi41q))) hi41a hi41b) ?_; clear hf; intro a hf
    refine sY hf hs rfl rfl rfl (Y_load_rd rfl rfl (fun w hs => hR39.at hs) (at1 (ints_at hi41q)) ag2) ?_; clear hf; intro a hf
    refine sY hf hs rfl rfl rfl (Y_neq rfl rfl rfl) ?_; clear hf; intro a hf
    refine sY hf hs rfl rfl rfl (Y_move rfl rfl) ?_; clear hf; intro a hf
    refine bsplit (q40 != (-1000000000000000)) (fun hb42 => ?_) (fun hb42 => ?_)
    · have hj30 := bif_t hj30 hb42
      refine sYg hf hs rfl rfl rfl (congrArg (fun b => some (Value.bool b)) hb42) rfl rfl rfl (Y_move rfl rfl) ?_; clear hf; intro a hf
      refine sYg hf hs rfl rfl rfl (congrArg (fun b => some (Value.bool b)) hb42) rfl rfl rfl (Y_move rfl rfl) ?_; clear hf; intro a hf
      refine sYg hf hs rfl rfl rfl (congrArg (fun b => some (Value.bool b)) hb42) rfl rfl rfl (Y_move rfl rfl) ?_; clear hf; intro a hf
      obtain ⟨q43, hi44, hj30⟩ := bind_some hj30
      obtain ⟨hi44a, hi44b, hi44q⟩ := idx_some hi44
      obtain ⟨vs45, hv46, hr47⟩ := id h_p0_1
      obtain ⟨A48, c49, hv50, hR51⟩ := hr47 _ _ hi44q
      refine sYg hf hs rfl rfl rfl (congrArg (fun b => some (Value.bool b)) hb42) rfl rfl rfl (Y_index rfl rfl rfl el34 ti36 (Rd.isAt hv46 hv50) hi44a hi44b) ?_; clear hf; intro a hf
      refine sYg hf hs rfl rfl rfl (congrArg (fun b => some (Value.bool b)) hb42) rfl rfl rfl (Y_load_rd rfl rfl (fun w hs => hv46.at hs) (at1 hv50) ag36) ?_; clear hf; intro a hf
      refine sYg hf hs rfl rfl rfl (congrArg (fun b => some (Value.bool b)) hb42) rfl rfl rfl (Y_move rfl rfl) ?_; clear hf; intro a hf
      obtain ⟨q52, hi53, hj30⟩ := bind_some hj30
      obtain ⟨hi53a, hi53b, hi53q⟩ := idx_some hi53
      refine sYg hf hs rfl rfl rfl (congrArg (fun b => some (Value.bool b)) hb42) rfl rfl rfl (Y_index rfl rfl rfl el36 ti2 (Rd.isAt (hR51.at hs) (at1 (ints_at hi53q))) hi53a hi53b) ?_; clear hf; intro a hf
      refine sYg hf hs rfl rfl rfl (congrArg (fun b => some (Value.bool b)) hb42) rfl rfl rfl (Y_load_rd rfl rfl (fun w hs => hR51.at hs) (at1 (ints_at hi53q)) ag2) ?_; clear hf; intro a hf
      refine sYg hf hs rfl rfl rfl (congrArg (fun b => some (Value.bool b)) hb42) rfl rfl rfl (Y_add rfl rfl rfl) ?_; clear hf; intro a hf
      refine sYg hf hs rfl rfl rfl (congrArg (fun b => some (Value.bool b)) hb42) rfl rfl rfl (Y_move rfl rfl) ?_; clear hf; intro a hf
      refine sYg hf hs rfl rfl rfl (congrArg (fun b => some (Value.bool b)) hb42) rfl rfl rfl (Y_gtr rfl rfl rfl) ?_; clear hf; intro a hf
      refine sY hf hs rfl rfl rfl (Y_pickT rfl (congrArg (fun b => some (Value.bool b)) hb42) rfl) ?_; clear hf; intro a hf
      refine wpO_nil ?_
      refine wpL_nil (then_normal ?_)
      exact ⟨(decide (p3 < (IntKind.i64.wrap (p2 + q52)))), Option.some.inj hj30, (Fr.pick (Fr.pick (Fr.pick (Fr.pick (Fr.pick (Fr.pick (Fr.pick hf.none hf rfl) hf rfl) hf rfl) hf rfl) hf rfl) hf rfl) hf rfl), hs⟩
    · have hj30 := bif_f hj30 hb42
      refine sNo hf rfl rfl rfl (congrArg (fun b => some (Value.bool b)) hb42) rfl rfl rfl ?_; clear hf; intro a hf
      refine sNo hf rfl rfl rfl (congrArg (fun b => some (Value.bool b)) hb42) rfl rfl rfl ?_; clear hf; intro a hf
      refine sNo hf rfl rfl rfl (congrArg (fun b => some (Value.bool b)) hb42) rfl rfl rfl ?_; clear hf; intro a hf
      refine sNo hf rfl rfl rfl (congrArg (fun b => some (Value.bool b)) hb42) rfl rfl rfl ?_; clear hf; intro a hf
      refine sNo hf rfl rfl rfl (congrArg (fun b => some (Value.bool b)) hb42) rfl rfl rfl ?_; clear hf; intro a hf
      refine sNo hf rfl rfl rfl (congrArg (fun b => some (Value.bool b)) hb42) rfl rfl rfl ?_; clear hf; intro a hf
      refine sNo hf rfl rfl rfl (congrArg (fun b => some (Value.bool b)) hb42) rfl rfl rfl ?_; clear hf; intro a hf
      refine sNo hf rfl rfl rfl (congrArg (fun b => some (Value.bool b)) hb42) rfl rfl rfl ?_; clear hf; intro a hf
      refine sNo hf rfl rfl rfl (congrArg (fun b => some (Value.bool b)) hb42) rfl rfl rfl ?_; clear hf; intro a hf
      refine sNo hf rfl rfl rfl (congrArg (fun b => some (Value.bool b)) hb42) rfl rfl rfl ?_; clear hf; intro a hf
      refine sNo hf rfl rfl rfl (congrArg (fun b => some (Value.bool b)) hb42) rfl rfl rfl ?_; clear hf; intro a hf
      refine sY hf hs rfl rfl rfl (Y_pickF rfl (congrArg (fun b => some (Value.bool b)) hb42) rfl) ?_; clear hf; intro a hf
      refine wpO_nil ?_
      refine wpL_nil (then_normal ?_)
      exact ⟨false, Option.some.inj hj30, (Fr.pick (Fr.pick (Fr.pick (Fr.pick (Fr.pick (Fr.pick (Fr.pick hf.none hf rfl) hf rfl) hf rfl) hf rfl) hf rfl) hf rfl) hf rfl), hs⟩
  · rintro a w ⟨b28, hr_, hf, hs⟩
    subst hr_
    try dsimp only at hm
    refine wpL_cond hf rfl (fun hb54 => ?_) (fun hb54 => ?_)
    · have hm := bif_t hm hb54
      refine wpL_seq ?_
      refine wpL_region ?_
      refine sY hf hs rfl rfl rfl (Y_move rfl rfl) ?_; clear hf; intro a hf
      refine sY hf hs rfl rfl rfl (Y_assign rfl rfl) ?_; clear hf; intro a hf
      refine wpO_nil ?_
      have hs : St [] W _ [.row none 0 0 2 1 (ints ([] : List Int))] := hs.addNil 2 1
      obtain rfl := Option.some.inj hm
      refine wpL_ret (ret_tmp rfl hf rfl ?_)
      exact ⟨_, rfl, A_p1_1, p1.length, c_p1_1, none, 0, 0, ([] : List Int), rfl, rfl, .inl ⟨rfl, rfl, rfl, rfl⟩, hs⟩
    · have hm := bif_f hm hb54
      refine wpL_skip ?_
      refine wpL_seq ?_
      refine wpL_seq ?_
      refine wpL_region ?_
      refine sY hf hs rfl rfl rfl (Y_move rfl rfl) ?_; clear hf; intro a hf
      refine sY hf hs rfl rfl rfl (Y_add rfl rfl rfl) ?_; clear hf; intro a hf
      refine sY hf hs rfl rfl rfl (Y_assign rfl rfl) ?_; clear hf; intro a hf
      refine wpO_nil ?_
      obtain ⟨r1399, hl1400, hm⟩ := bind_some hm
      refine wpL_block (fun a w => Sum.inr () = r1399 ∧ Fr a 86 [] ∧ St [] W w []) ?_ ?_
      · refine wpL_loop (fun n a w => ∃ x951 : Int, spec_l03Grow_L1 F p0 p1 p2 p3 q3 (spec_l03Grow_rec F k_) n x951 = some r1399 ∧ Fr a 86 [(0, .slice A_p0_1 p0.length c_p0_1), (1, .slice A_p1_1 p1.length c_p1_1), (2, .int .i64 p2), (3, .int .i64 p3), (10, .int .i64 q3), (11, .int .i64 x951)] ∧ St [] W w []) F ?_ ?_ ?_
        · exact ⟨(IntKind.i64.wrap (q1 + 1)), hl1400, (Fr.pick (Fr.pick (Fr.pick (Fr.pick (Fr.pick (Fr.pick hf.none hf rfl) hf rfl) hf rfl) hf rfl) hf rfl) hf rfl), hs⟩
        · rintro a w ⟨x951, h0_, -, -⟩; simp [spec_l03Grow_L1] at h0_
        · rintro n1402 a w ⟨x951, hm1401, hf, hs⟩
          rw [spec_l03Grow_L1] at hm1401
          refine wpL_seq ?_
          refine wpL_seq ?_
          refine wpL_region ?_
          refine sY hf hs rfl rfl rfl (Y_move rfl rfl) ?_; clear hf; intro a hf
          refine sY hf hs rfl rfl rfl (Y_move rfl rfl) ?_; clear hf; intro a hf
          refine sY hf hs rfl rfl rfl (Y_lenH rfl rfl el34 rfl) ?_; clear hf; intro a hf
          refine sY hf hs rfl rfl rfl (Y_lss rfl rfl rfl) ?_; clear hf; intro a hf
          refine wpO_nil ?_
          refine wpL_cond hf rfl (fun hb1403 => ?_) (fun hb1403 => ?_)
          · have hm1401 := bif_t hm1401 hb1403
            refine wpL_skip ?_
            refine wpL_seq ?_
            obtain ⟨r1626, hj1627, hm1401⟩ := bind_some hm1401
            refine wpL_block (fun a w => Sum.inr () = r1626 ∧ Fr a 86 [(0, .slice A_p0_1 p0.length c_p0_1), (1, .slice A_p1_1 p1.length c_p1_1), (2, .int .i64 p2), (3, .int .i64 p3), (10, .int .i64 q3), (11, .int .i64 x951)] ∧ St [] W w []) ?_ ?_
            · refine wpL_seq ?_
              refine wpL_seq ?_
              obtain ⟨r1643, hj1644, hj1627⟩ := bind_some hj1627
              refine wpL_cut (fun a w => ∃ b1642 : Bool, b1642 = r1643 ∧ Fr a 86 [(0, .slice A_p0_1 p0.length c_p0_1), (1, .slice A_p1_1 p1.length c_p1_1), (2, .int .i64 p2), (3, .int .i64 p3), (10, .int .i64 q3), (11, .int .i64 x951), (64, .bool b1642)] ∧ St [] W w []) ?_ ?_
              · refine wpL_region ?_
                refine sY hf hs rfl rfl rfl (Y_move rfl rfl) ?_; clear hf; intro a hf
                refine sY hf hs rfl rfl rfl (Y_move rfl rfl) ?_; clear hf; intro a hf
                obtain ⟨q1645, hi1646, hj1644⟩ := bind_some hj1644
                obtain ⟨hi1646a, hi1646b, hi1646q⟩ := idx_some hi1646
                obtain ⟨vs1647, hv1648, hr1649⟩ := id h_p0_1
                obtain ⟨A1650, c1651, hv1652, hR1653⟩ := hr1649 _ _ hi1646q
                refine sY hf hs rfl rfl rfl (Y_index rfl rfl rfl el34 ti36 (Rd.isAt hv1648 hv1652) hi1646a hi1646b) ?_; clear hf; intro a hf
                refine sY hf hs rfl rfl rfl (Y_load_rd rfl rfl (fun w hs => hv1648.at hs) (at1 hv1652) ag36) ?_; clear hf; intro a hf
                refine sY hf hs rfl rfl rfl (Y_move rfl rfl) ?_; clear hf; intro a hf
                obtain ⟨q1654, hi1655, hj1644⟩ := bind_some hj1644
                obtain ⟨hi1655a, hi1655b, hi1655q⟩ := idx_some hi1655
                refine sY hf hs rfl rfl rfl (Y_index rfl rfl rfl el36 ti2 (Rd.isAt (hR1653.at hs) (at1 (ints_at hi1655q))) hi1655a hi1655b) ?_; clear hf; intro a hf
                refine sY hf hs rfl rfl rfl (Y_load_rd rfl rfl (fun w hs => hR1653.at hs) (at1 (ints_at hi1655q)) ag2) ?_; clear hf; intro a hf
                refine sY hf hs rfl rfl rfl (Y_eql rfl rfl rfl) ?_; clear hf; intro a hf
                refine sY hf hs rfl rfl rfl (Y_move rfl rfl) ?_; clear hf; intro a hf
                refine bsplit (q1654 == (-1000000000000000)) (fun hb1656 => ?_) (fun hb1656 => ?_)
                · have hj1644 := bif_t hj1644 hb1656
                  refine sNo hf rfl rfl rfl (congrArg (fun b => some (Value.bool b)) hb1656) rfl rfl rfl ?_; clear hf; intro a hf
                  refine sNo hf rfl rfl rfl (congrArg (fun b => some (Value.bool b)) hb1656) rfl rfl rfl ?_; clear hf; intro a hf
                  refine sNo hf rfl rfl rfl (congrArg (fun b => some (Value.bool b)) hb1656) rfl rfl rfl ?_; clear hf; intro a hf
                  refine sY hf hs rfl rfl rfl (Y_pickT rfl (congrArg (fun b => some (Value.bool b)) hb1656) rfl) ?_; clear hf; intro a hf
                  refine wpO_nil ?_
                  refine wpL_nil (then_normal ?_)
                  exact ⟨true, Option.some.inj hj1644, (Fr.pick (Fr.pick (Fr.pick (Fr.pick (Fr.pick (Fr.pick (Fr.pick hf.none hf rfl) hf rfl) hf rfl) hf rfl) hf rfl) hf rfl) hf rfl), hs⟩
                · have hj1644 := bif_f hj1644 hb1656
                  refine sYg hf hs rfl rfl rfl (congrArg (fun b => some (Value.bool b)) hb1656) rfl rfl rfl (Y_move rfl rfl) ?_; clear hf; intro a hf
                  refine sYg hf hs rfl rfl rfl (congrArg (fun b => some (Value.bool b)) hb1656) rfl rfl rfl (Y_move rfl rfl) ?_; clear hf; intro a hf
                  obtain ⟨r1657, hc1658, hj1644⟩ := bind_some hj1644
                  refine sCallg hf rfl rfl rfl (congrArg (fun b => some (Value.bool b)) hb1656) rfl rfl rfl rfl (cap := []) rfl rfl en164 (spec_l01Has_ok F p1 A_p1_1 p1.length c_p1_1 rfl x951 _ _ hc1658 (h_p1_1.at hs)) ?_; clear hf
                  rintro _ w ⟨rfl, hs1⟩ a hf
                  have hs : St [] W w [] := hs.ext hs1.below
                  clear hs1
                  refine sY hf hs rfl rfl rfl (Y_pickF rfl (congrArg (fun b => some (Value.bool b)) hb1656) rfl) ?_; clear hf; intro a hf
                  refine wpO_nil ?_
                  refine wpL_nil (then_normal ?_)
                  exact ⟨r1657, Option.some.inj hj1644, (Fr.pick (Fr.pick (Fr.pick (Fr.pick (Fr.pick (Fr.pick (Fr.pick hf.none hf rfl) hf rfl) hf rfl) hf rfl) hf rfl) hf rfl) hf rfl), hs⟩
              · rintro a w ⟨b1642, hr_, hf, hs⟩
                subst hr_
                try dsimp only at hj1627
                refine wpL_cond hf rfl (fun hb1659 => ?_) (fun hb1659 => ?_)
                · have hj1627 := bif_t hj1627 hb1659
                  refine wpL_exit (Qb_exit ?_)
                  exact ⟨Option.some.inj hj1627, (Fr.pick (Fr.pick (Fr.pick (Fr.pick (Fr.pick (Fr.pick hf.none hf rfl) hf rfl) hf rfl) hf rfl) hf rfl) hf rfl), hs⟩
                · have hj1627 := bif_f hj1627 hb1659
                  refine wpL_skip ?_
                  refine wpL_seq ?_
                  obtain ⟨r1756, hj1757, hj1627⟩ := bind_some hj1627
                  refine wpL_cut (fun a w => ∃ xs1751 : List Int, ∃ A1752, ∃ n1753, ∃ c1754, xs1751 = r1756 ∧ n1753 = xs1751.length ∧ Fr a 86 [(0, .slice A_p0_1 p0.length c_p0_1), (1, .slice A_p1_1 p1.length c_p1_1), (2, .int .i64 p2), (3, .int .i64 p3), (10, .int .i64 q3), (11, .int .i64 x951), (12, .slice A1752 n1753 c1754)] ∧ St [] W w [.row A1752 n1753 c1754 2 1 (ints xs1751)]) ?_ ?_
                  · refine wpL_drawG [] 18 (by kernel_rfl) hs ?_; clear hs; intro w hs
                    have hs0 : St [] W w [] := hs
                    refine gY (i := 0) [] rfl (by kernel_rfl) (by kernel_rfl) hf hs0 rfl rfl rfl (Y_move rfl rfl) ?_; clear hf; intro a hf
                    refine gY (i := 1) [] rfl (by kernel_rfl) (by kernel_rfl) hf hs0 rfl rfl rfl (Y_move rfl rfl) ?_; clear hf; intro a hf
                    refine gY (i := 3) [] rfl (by kernel_rfl) (by kernel_rfl) hf hs0 rfl rfl rfl (Y_move rfl rfl) ?_; clear hf; intro a hf
                    refine gY (i := 6) [] rfl (by kernel_rfl) (by kernel_rfl) hf hs0 rfl rfl rfl (Y_move rfl rfl) ?_; clear hf; intro a hf
                    refine gY (i := 7) [] rfl (by kernel_rfl) (by kernel_rfl) hf hs0 rfl rfl rfl (Y_move rfl rfl) ?_; clear hf; intro a hf
                    refine gY (i := 8) [] rfl (by kernel_rfl) (by kernel_rfl) hf hs0 rfl rfl rfl (Y_move rfl rfl) ?_; clear hf; intro a hf
                    obtain ⟨q1792, hi1793, hj1757⟩ := bind_some hj1757
                    obtain ⟨hi1793a, hi1793b, hi1793q⟩ := idx_some hi1793
                    obtain ⟨vs1794, hv1795, hr1796⟩ := id h_p0_1
                    obtain ⟨A1797, c1798, hv1799, hR1800⟩ := hr1796 _ _ hi1793q
                    refine gY (i := 9) [] rfl (by kernel_rfl) (by kernel_rfl) hf hs0 rfl rfl rfl (Y_index rfl rfl rfl el34 ti36 (Rd.isAt hv1795 hv1799) hi1793a hi1793b) ?_; clear hf; intro a hf
                    refine gY (i := 10) [] rfl (by kernel_rfl) (by kernel_rfl) hf hs0 rfl rfl rfl (Y_load_rd rfl rfl (fun w hs => hv1795.at hs) (at1 hv1799) ag36) ?_; clear hf; intro a hf
                    refine gY (i := 11) [] rfl (by kernel_rfl) (by kernel_rfl) hf hs0 rfl rfl rfl (Y_move rfl rfl) ?_; clear hf; intro a hf
                    obtain ⟨q1801, hi1802, hj1757⟩ := bind_some hj1757
                    obtain ⟨hi1802a, hi1802b, hi1802q⟩ := idx_some hi1802
                    refine gY (i := 12) [] rfl (by kernel_rfl) (by kernel_rfl) hf hs0 rfl rfl rfl (Y_index rfl rfl rfl el36 ti2 (Rd.isAt (hR1800.at hs0) (at1 (ints_at hi1802q))) hi1802a hi1802b) ?_; clear hf; intro a hf
                    refine gY (i := 13) [] rfl (by kernel_rfl) (by kernel_rfl) hf hs0 rfl rfl rfl (Y_load_rd rfl rfl (fun w hs => hR1800.at hs) (at1 (ints_at hi1802q)) ag2) ?_; clear hf; intro a hf
                    refine gY (i := 14) [] rfl (by kernel_rfl) (by kernel_rfl) hf hs0 rfl rfl rfl (Y_add rfl rfl rfl) ?_; clear hf; intro a hf
                    refine gY (i := 15) [] rfl (by kernel_rfl) (by kernel_rfl) hf hs0 rfl rfl rfl (Y_move rfl rfl) ?_; clear hf; intro a hf
                    refine gRun2 (i := 2) (j := 4) rfl rfl (by kernel_rfl) ?_ ?_
                    · obtain ⟨r1803, hc1804, hj1757⟩ := bind_some hj1757
                      refine sCall hf rfl rfl rfl rfl (cap := []) rfl rfl en160 (spec_l01Own_ok F p1 A_p1_1 p1.length c_p1_1 rfl _ _ hc1804 (h_p1_1.at hs)) ?_; clear hf
                      rintro _ w ⟨A1805, n1806, c1807, rfl, hn1808, hs1⟩ a hf
                      have hs : St [] W w [.row A1805 n1806 c1807 2 1 (ints r1803)] := hs.join hs1
                      clear hs1
                      have hs0 : St [] W w [] := hs.sel [] (by decide)
                      refine wpO_nil ⟨Or.inr hs0, ?_⟩
                      refine gRun (i := 4) rfl (by kernel_rfl) ?_
                      refine sBuildSlice (parts := [(0, .tmp 68)]) (vs := [.int .i64 x951]) (cells := [.int .i64 x951]) hf hs rfl rfl rfl rfl rfl el36 ti2 rfl rfl rfl rfl ?_; clear hf hs; intro a w A1809 hs hA1810 hf
                      have hs : St [] W w [.row A1805 n1806 c1807 2 1 (ints r1803), .row A1809 1 1 2 1 (ints ([x951]))] := hs
                      have hs0 : St [] W w [] := hs.sel [] (by decide)
                      refine wpO_nil ⟨Or.inr hs0, ?_⟩
                      refine gRun (i := 5) rfl (by kernel_rfl) ?_
                      obtain ⟨xs1813, ha1814, hj1757⟩ := bind_some hj1757
                      refine sAppendL (i := 0) (xs := r1803) (ys := [x951]) (enc := ints) hf hs rfl rfl rfl rfl rfl rfl hn1808 rfl rfl ha1814 el36 ti2 rfl rfl rfl (hs.rd (i := 1) rfl) (Nat.succ_pos _) ints_len1 ints_append ints_one ?_; clear hf hs; intro a w A1811 c1812 hs hf
                      have hs : St [] W w [.row A1811 xs1813.length c1812 2 1 (ints xs1813), .row A1809 1 1 2 1 (ints ([x951]))] := hs
                      have hs0 : St [] W w [] := hs.sel [] (by decide)
                      refine wpO_nil ⟨Or.inr hs0, ?_⟩
                      refine gRun (i := 16) rfl (by kernel_rfl) ?_
                      obtain ⟨r1815, hc1816, hj1757⟩ := bind_some hj1757
                      refine sCall hf rfl rfl rfl rfl (cap := []) rfl rfl en131 (ih_ p0 A_p0_1 p0.length c_p0_1 rfl xs1813 A1811 xs1813.length c1812 rfl (IntKind.i64.wrap (p2 + q1801)) p3 _ _ hc1816 (h_p0_1.at hs) (hs.rd (i := 0) rfl)) ?_; clear hf
                      rintro _ w ⟨A1817, n1818, c1819, A1820, n1821, c1822, ys1823, rfl, hn1824, he1825, hs1⟩ a hf
                      have hs : St [] W w [.row A1811 xs1813.length c1812 2 1 (ints xs1813), .row A1809 1 1 2 1 (ints ([x951])), .row A1820 n1821 c1822 2 1 (ints ys1823)] := hs.join hs1
                      clear hs1
                      have hs := hs.eiOwn (i := 0) (j := 2) (enc := ints) rfl rfl (by decide) he1825
                      have hs : St [] W w [.row A1817 n1818 c1819 2 1 (ints r1815), .row A1809 1 1 2 1 (ints ([x951]))] := hs
                      have hs0 : St [] W w [] := hs.sel [] (by decide)
                      refine wpO_nil ⟨Or.inr hs0, ?_⟩
                      refine gY (i := 17) [] rfl (by kernel_rfl) (by kernel_rfl) hf hs0 rfl rfl rfl (Y_assign rfl rfl) ?_; clear hf; intro a hf
                      refine gDone (by kernel_rfl) ?_
                      clear hs0
                      refine wpL_nil (then_normal ?_)
                      exact ⟨r1815, A1817, n1818, c1819, Option.some.inj hj1757, hn1824, (Fr.pick (Fr.pick (Fr.pick (Fr.pick (Fr.pick (Fr.pick (Fr.pick hf.none hf rfl) hf rfl) hf rfl) hf rfl) hf rfl) hf rfl) hf rfl), hs.sel [0] (by decide)⟩
                    · refine sBuildSlice (parts := [(0, .tmp 68)]) (vs := [.int .i64 x951]) (cells := [.int .i64 x951]) hf hs rfl rfl rfl rfl rfl el36 ti2 rfl rfl rfl rfl ?_; clear hf hs; intro a w A1826 hs hA1827 hf
                      have hs : St [] W w [.row A1826 1 1 2 1 (ints ([x951]))] := hs
                      have hs0 : St [] W w [] := hs.sel [] (by decide)
                      refine wpO_nil ⟨Or.inr hs0, ?_⟩
                      refine gRun (i := 2) rfl (by kernel_rfl) ?_
                      obtain ⟨r1828, hc1829, hj1757⟩ := bind_some hj1757
                      refine sCall hf rfl rfl rfl rfl (cap := []) rfl rfl en160 (spec_l01Own_ok F p1 A_p1_1 p1.length c_p1_1 rfl _ _ hc1829 (h_p1_1.at hs)) ?_; clear hf
                      rintro _ w ⟨A1830, n1831, c1832, rfl, hn1833, hs1⟩ a hf
                      have hs : St [] W w [.row A1826 1 1 2 1 (ints ([x951])), .row A1830 n1831 c1832 2 1 (ints r1828)] := hs.join hs1
                      clear hs1
                      have hs0 : St [] W w [] := hs.sel [] (by decide)
                      refine wpO_nil ⟨Or.inr hs0, ?_⟩
                      refine gRun (i := 5) rfl (by kernel_rfl) ?_
                      obtain ⟨xs1836, ha1837, hj1757⟩ := bind_some hj1757
                      refine sAppendL (i := 1) (xs := r1828) (ys := [x951]) (enc := ints) hf hs rfl rfl rfl rfl rfl rfl hn1833 rfl rfl ha1837 el36 ti2 rfl rfl rfl (hs.rd (i := 0) rfl) (Nat.succ_pos _) ints_len1 ints_append ints_one ?_; clear hf hs; intro a w A1834 c1835 hs hf
                      have hs : St [] W w [.row A1826 1 1 2 1 (ints ([x951])), .row A1834 xs1836.length c1835 2 1 (ints xs1836)] := hs
                      have hs0 : St [] W w [] := hs.sel [] (by decide)
                      refine wpO_nil ⟨Or.inr hs0, ?_⟩
                      refine gRun (i := 16) rfl (by kernel_rfl) ?_
                      obtain ⟨r1838, hc1839, hj1757⟩ := bind_some hj1757
                      refine sCall hf rfl rfl rfl rfl (cap := []) rfl rfl en131 (ih_ p0 A_p0_1 p0.length c_p0_1 rfl xs1836 A1834 xs1836.length c1835 rfl (IntKind.i64.wrap (p2 + q1801)) p3 _ _ hc1839 (h_p0_1.at hs) (hs.rd (i := 1) rfl)) ?_; clear hf
                      rintro _ w ⟨A1840, n1841, c1842, A1843, n1844, c1845, ys1846, rfl, hn1847, he1848, hs1⟩ a hf
                      have hs : St [] W w [.row A1826 1 1 2 1 (ints ([x951])), .row A1834 xs1836.length c1835 2 1 (ints xs1836), .row A1843 n1844 c1845 2 1 (ints ys1846)] := hs.join hs1
                      clear hs1
                      have hs := hs.eiOwn (i := 1) (j := 2) (enc := ints) rfl rfl (by decide) he1848
                      have hs : St [] W w [.row A1826 1 1 2 1 (ints ([x951])), .row A1840 n1841 c1842 2 1 (ints r1838)] := hs
                      have hs0 : St [] W w [] := hs.sel [] (by decide)
                      refine wpO_nil ⟨Or.inr hs0, ?_⟩
                      refine gY (i := 17) [] rfl (by kernel_rfl) (by kernel_rfl) hf hs0 rfl rfl rfl (Y_assign rfl rfl) ?_; clear hf; intro a hf
                      refine gDone (by kernel_rfl) ?_
                      clear hs0
                      refine wpL_nil (then_normal ?_)
                      exact ⟨r1838, A1840, n1841, c1842, Option.some.inj hj1757, hn1847, (Fr.pick (Fr.pick (Fr.pick (Fr.pick (Fr.pick (Fr.pick (Fr.pick hf.none hf rfl) hf rfl) hf rfl) hf rfl) hf rfl) hf rfl) hf rfl), hs.sel [1] (by decide)⟩
                  · rintro a w ⟨xs1751, A1752, n1753, c1754, hr_, hn1755, hf, hs⟩
                    subst hr_
                    try dsimp only at hj1627
                    refine wpL_seq ?_
                    refine wpL_region ?_
                    refine sY hf hs rfl rfl rfl (Y_move rfl rfl) ?_; clear hf; intro a hf
                    refine sY hf hs rfl rfl rfl (Y_lenH rfl rfl el36 hn1755) ?_; clear hf; intro a hf
                    refine sY hf hs rfl rfl rfl (Y_gtr rfl rfl rfl) ?_; clear hf; intro a hf
                    refine wpO_nil ?_
                    refine wpL_cond hf rfl (fun hb1849 => ?_) (fun hb1849 => ?_)
                    · have hj1627 := bif_t hj1627 hb1849
                      refine wpL_seq ?_
                      refine wpL_region ?_
                      refine sY hf hs rfl rfl rfl (Y_move rfl rfl) ?_; clear hf; intro a hf
                      refine sY hf hs rfl rfl rfl (Y_assign rfl rfl) ?_; clear hf; intro a hf
                      refine wpO_nil ?_
                      obtain rfl := Option.some.inj hj1627
                      try dsimp only at hm1401
                      obtain rfl := Option.some.inj hm1401
                      try dsimp only at hm
                      obtain rfl := Option.some.inj hm
                      refine wpL_ret (Qb_ret (Ql_ret (Qb_ret (ret_tmp rfl hf rfl ?_))))
                      exact ⟨_, rfl, A1752, n1753, c1754, A1752, n1753, c1754, xs1751, rfl, hn1755, .inr ⟨rfl, rfl, rfl, rfl⟩, hs⟩
                    · have hj1627 := bif_f hj1627 hb1849
                      refine wpL_skip ?_
                      refine wpL_nil (Qb_normal ?_)
                      exact ⟨Option.some.inj hj1627, (Fr.pick (Fr.pick (Fr.pick (Fr.pick (Fr.pick (Fr.pick hf.none hf rfl) hf rfl) hf rfl) hf rfl) hf rfl) hf rfl), hs.sel [] (by decide)⟩
            · rintro a w ⟨hr_, hf, hs⟩
              subst hr_
              try dsimp only at hm1401
              refine wpL_region ?_
              refine sY hf hs rfl rfl rfl (Y_move rfl rfl) ?_; clear hf; intro a hf
              refine sY hf hs rfl rfl rfl (Y_add rfl rfl rfl) ?_; clear hf; intro a hf
              refine sY hf hs rfl rfl rfl (Y_assign rfl rfl) ?_; clear hf; intro a hf
              refine wpO_nil ?_
              refine wpL_nil (Ql_normal ?_)
              exact ⟨(IntKind.i64.wrap (x951 + 1)), hm1401, (Fr.pick (Fr.pick (Fr.pick (Fr.pick (Fr.pick (Fr.pick hf.none hf rfl) hf rfl) hf rfl) hf rfl) hf rfl) hf rfl), hs⟩
          · have hm1401 := bif_f hm1401 hb1403
            refine wpL_exit (Ql_exit (Qb_exit ?_))
            exact ⟨Option.some.inj hm1401, hf.none, hs⟩
      · rintro a w ⟨hr_, hf, hs⟩
        subst hr_
        try dsimp only at hm
        refine wpL_seq ?_
        refine wpL_region ?_
        refine sY hf hs rfl rfl rfl (Y_assign rfl rfl) ?_; clear hf; intro a hf
        refine wpO_nil ?_
        have hs : St [] W _ [.row none 0 0 2 1 (ints ([] : List Int))] := hs.addNil 2 1
        obtain rfl := Option.some.inj hm
        refine wpL_ret (ret_tmp rfl hf rfl ?_)
        exact ⟨_, rfl, none, 0, 0, none, 0, 0, ([] : List Int), rfl, rfl, .inr ⟨rfl, rfl, rfl, rfl⟩, hs⟩
theorem spec_l03Grow_rec_ok (F : Nat) : ∀ (k_ : Nat) (p0 : List (List Int)) (A_p0_1 : Option Addr) (n_p0_1 c_p0_1 : Nat) (_hn_p0_1 : n_p0_1 = p0.length) (p1 : List Int) (A_p1_1 : Option Addr) (n_p1_1 c_p1_1 : Nat) (_hn_p1_1 : n_p1_1 = p1.length) (p2 : Int) (p3 : Int) (r : List Int) (W : World) (_hm : spec_l03Grow_rec F k_ p0 p1 p2 p3 = some r) (_h_p0_1 : RdM W A_p0_1 p0) (_h_p1_1 : Rd W A_p1_1 (ints p1)), Calls Try.prog 131 [.slice A_p0_1 n_p0_1 c_p0_1, .slice A_p1_1 n_p1_1 c_p1_1, .int .i64 p2, .int .i64 p3].toArray W fun e w' => ∃ v, e = .returned v ∧ ∃ A1851, ∃ n1852, ∃ c1853, ∃ A1854, ∃ n1855, ∃ c1856, ∃ ys1857, v = .slice A1851 n1852 c1853 ∧ n1852 = r.length ∧ Ei A_p1_1 n_p1_1 c_p1_1 p1 A1854 n1855 c1856 ys1857 A1851 n1852 c1853 r ∧ St [] W w' [.row A1854 n1855 c1856 2 1 (ints ys1857)]
  | 0 => by intros; simp [spec_l03Grow_rec] at *
  | k_ + 1 => spec_l03Grow_step F k_ (spec_l03Grow_rec_ok F k_)
theorem spec_l03Grow_ok (F : Nat) : ∀ (p0 : List (List Int)) (A_p0_1 : Option Addr) (n_p0_1 c_p0_1 : Nat) (_hn_p0_1 : n_p0_1 = p0.length) (p1 : List Int) (A_p1_1 : Option Addr) (n_p1_1 c_p1_1 : Nat) (_hn_p1_1 : n_p1_1 = p1.length) (p2 : Int) (p3 : Int) (r : List Int) (W : World) (_hm : spec_l03Grow F p0 p1 p2 p3 = some r) (_h_p0_1 : RdM W A_p0_1 p0) (_h_p1_1 : Rd W A_p1_1 (ints p1)), Calls Try.prog 131 [.slice A_p0_1 n_p0_1 c_p0_1, .slice A_p1_1 n_p1_1 c_p1_1, .int .i64 p2, .int .i64 p3].toArray W fun e w' => ∃ v, e = .returned v ∧ ∃ A1851, ∃ n1852, ∃ c1853, ∃ A1854, ∃ n1855, ∃ c1856, ∃ ys1857, v = .slice A1851 n1852 c1853 ∧ n1852 = r.length ∧ Ei A_p1_1 n_p1_1 c_p1_1 p1 A1854 n1855 c1856 ys1857 A1851 n1852 c1853 r ∧ St [] W w' [.row A1854 n1855 c1856 2 1 (ints ys1857)] := spec_l03Grow_rec_ok F F

set_option maxRecDepth 100000 in
theorem spec_l03Over_ok (F : Nat) (p0_a : List (List Int)) (A_p0_a_1 : Option Addr) (n_p0_a_1 c_p0_a_1 : Nat) (hn_p0_a_1 : n_p0_a_1 = p0_a.length) (p1_over : Int) (r : List Int) (W : World) (hm : spec_l03Over F p0_a p1_over = some r) (h_p0_a_1 : RdM W A_p0_a_1 p0_a) :
    Calls Try.prog 81 [.slice A_p0_a_1 n_p0_a_1 c_p0_a_1, .int .i64 p1_over].toArray W fun e w' => ∃ v, e = .returned v ∧ ∃ A68, ∃ n69, ∃ c70, v = .slice A68 n69 c70 ∧ n69 = r.length ∧ St [] W w' [.row A68 n69 c70 2 1 (ints r)] := by
  subst hn_p0_a_1
  unfold spec_l03Over at hm
  refine Calls.enter (N := 22) Try.func81 rfl rfl rfl (fun a hf => ?_)
  have hs := St.start W
  obtain ⟨w, hw_⟩ : ∃ w, w = W := ⟨W, rfl⟩
  clear hw_ w
  refine wpL_seq ?_
  refine wpL_region ?_
  refine sY hf hs rfl rfl rfl (Y_assign rfl rfl) ?_; clear hf; intro a hf
  refine wpO_nil ?_
  refine wpL_seq ?_
  refine wpL_seq ?_
  refine wpL_region ?_
  refine sY hf hs rfl rfl rfl (Y_assign rfl rfl) ?_; clear hf; intro a hf
  refine wpO_nil ?_
  obtain ⟨r48, hl49, hm⟩ := bind_some hm
  refine wpL_block (fun a w => Sum.inr () = r48 ∧ Fr a 22 [] ∧ St [] W w []) ?_ ?_
  · refine wpL_loop (fun n a w => ∃ x32 : Int, spec_l03Over_L1 F p0_a p1_over n x32 = some r48 ∧ Fr a 22 [(0, .slice A_p0_a_1 p0_a.length c_p0_a_1), (1, .int .i64 p1_over), (5, .int .i64 x32)] ∧ St [] W w []) F ?_ ?_ ?_
    · exact ⟨0, hl49, (Fr.pick (Fr.pick (Fr.pick hf.none hf rfl) hf rfl) hf rfl), hs⟩
    · rintro a w ⟨x32, h0_, -, -⟩; simp [spec_l03Over_L1] at h0_
    · rintro n51 a w ⟨x32, hm50, hf, hs⟩
      rw [spec_l03Over_L1] at hm50
      refine wpL_seq ?_
      refine wpL_seq ?_
      refine wpL_region ?_
      refine sY hf hs rfl rfl rfl (Y_move rfl rfl) ?_; clear hf; intro a hf
      refine sY hf hs rfl rfl rfl (Y_move rfl rfl) ?_; clear hf; intro a hf
      refine sY hf hs rfl rfl rfl (Y_lenH rfl rfl el34 rfl) ?_; clear hf; intro a hf
      refine sY hf hs rfl rfl rfl (Y_lss rfl rfl rfl) ?_; clear hf; intro a hf
      refine wpO_nil ?_
      refine wpL_cond hf rfl (fun hb52 => ?_) (fun hb52 => ?_)
      · have hm50 := bif_t hm50 hb52
        refine wpL_skip ?_
        refine wpL_seq ?_
        refine wpL_block0 ?_
        refine wpL_seq ?_
        refine wpL_region ?_
        refine sY hf hs rfl rfl rfl (Y_move rfl rfl) ?_; clear hf; intro a hf
        refine sY hf hs rfl rfl rfl (Y_move rfl rfl) ?_; clear hf; intro a hf
        refine sBuildSlice (parts := [(0, .tmp 14)]) (vs := [.int .i64 x32]) (cells := [.int .i64 x32]) hf hs rfl rfl rfl rfl rfl el36 ti2 rfl rfl rfl rfl ?_; clear hf hs; intro a w A53 hs hA54 hf
        have hs : St [] W w [.row A53 1 1 2 1 (ints ([x32]))] := hs
        refine sY hf hs rfl rfl rfl (Y_move rfl rfl) ?_; clear hf; intro a hf
        obtain ⟨r55, hc56, hm50⟩ := bind_some hm50
        refine sCall hf rfl rfl rfl rfl (cap := []) rfl rfl en131 (spec_l03Grow_ok F p0_a A_p0_a_1 p0_a.length c_p0_a_1 rfl ([x32]) A53 1 1 rfl 0 p1_over _ _ hc56 (h_p0_a_1.at hs) (hs.rd (i := 0) rfl)) ?_; clear hf
        rintro _ w ⟨A57, n58, c59, A60, n61, c62, ys63, rfl, hn64, he65, hs1⟩ a hf
        have hs : St [] W w [.row A53 1 1 2 1 (ints ([x32])), .row A60 n61 c62 2 1 (ints ys63)] := hs.join hs1
        clear hs1
        have hs := hs.eiOwn (i := 0) (j := 1) (enc := ints) rfl rfl (by decide) he65
        have hs : St [] W w [.row A57 n58 c59 2 1 (ints r55)] := hs
        refine sY hf hs rfl rfl rfl (Y_assign rfl rfl) ?_; clear hf; intro a hf
        refine wpO_nil ?_
        refine wpL_seq ?_
        refine wpL_region ?_
        refine sY hf hs rfl rfl rfl (Y_move rfl rfl) ?_; clear hf; intro a hf
        refine sY hf hs rfl rfl rfl (Y_lenH rfl rfl el36 hn64) ?_; clear hf; intro a hf
        refine sY hf hs rfl rfl rfl (Y_gtr rfl rfl rfl) ?_; clear hf; intro a hf
        refine wpO_nil ?_
        refine wpL_cond hf rfl (fun hb66 => ?_) (fun hb66 => ?_)
        · have hm50 := bif_t hm50 hb66
          refine wpL_seq ?_
          refine wpL_region ?_
          refine sY hf hs rfl rfl rfl (Y_move rfl rfl) ?_; clear hf; intro a hf
          refine sY hf hs rfl rfl rfl (Y_assign rfl rfl) ?_; clear hf; intro a hf
          refine wpO_nil ?_
          obtain rfl := Option.some.inj hm50
          try dsimp only at hm
          obtain rfl := Option.some.inj hm
          refine wpL_ret (Qb_ret (Ql_ret (Qb_ret (ret_tmp rfl hf rfl ?_))))
          exact ⟨_, rfl, A57, n58, c59, rfl, hn64, hs⟩
        · have hm50 := bif_f hm50 hb66
          refine wpL_skip ?_
          refine wpL_nil (Qb_normal ?_)
          refine wpL_region ?_
          refine sY hf hs rfl rfl rfl (Y_move rfl rfl) ?_; clear hf; intro a hf
          refine sY hf hs rfl rfl rfl (Y_add rfl rfl rfl) ?_; clear hf; intro a hf
          refine sY hf hs rfl rfl rfl (Y_assign rfl rfl) ?_; clear hf; intro a hf
          refine wpO_nil ?_
          refine wpL_nil (Ql_normal ?_)
          exact ⟨(IntKind.i64.wrap (x32 + 1)), hm50, (Fr.pick (Fr.pick (Fr.pick hf.none hf rfl) hf rfl) hf rfl), hs.sel [] (by decide)⟩
      · have hm50 := bif_f hm50 hb52
        refine wpL_exit (Ql_exit (Qb_exit ?_))
        exact ⟨Option.some.inj hm50, hf.none, hs⟩
  · rintro a w ⟨hr_, hf, hs⟩
    subst hr_
    try dsimp only at hm
    refine wpL_seq ?_
    refine wpL_region ?_
    refine sY hf hs rfl rfl rfl (Y_assign rfl rfl) ?_; clear hf; intro a hf
    refine wpO_nil ?_
    have hs : St [] W _ [.row none 0 0 2 1 (ints ([] : List Int))] := hs.addNil 2 1
    obtain rfl := Option.some.inj hm
    refine wpL_ret (ret_tmp rfl hf rfl ?_)
    exact ⟨_, rfl, none, 0, 0, rfl, rfl, hs⟩

set_option maxRecDepth 100000 in
theorem spec_FindTour_ok (F : Nat) (p0_windows : List GWindow) (A_p0_windows_1 : Option Addr) (n_p0_windows_1 c_p0_windows_1 : Nat) (hn_p0_windows_1 : n_p0_windows_1 = p0_windows.length) (p1_bonds : List GBond) (A_p1_bonds_1 : Option Addr) (n_p1_bonds_1 c_p1_bonds_1 : Nat) (hn_p1_bonds_1 : n_p1_bonds_1 = p1_bonds.length) (r : List Int × Int) (W : World) (hm : spec_FindTour F p0_windows p1_bonds = some r) (h_p0_windows_1 : Rd W A_p0_windows_1 ((recs GWindow.cells) p0_windows)) (h_p1_bonds_1 : Rd W A_p1_bonds_1 ((recs GBond.cells) p1_bonds)) :
    Calls Try.prog 37 [.slice A_p0_windows_1 n_p0_windows_1 c_p0_windows_1, .slice A_p1_bonds_1 n_p1_bonds_1 c_p1_bonds_1].toArray W fun e w' => ∃ v, e = .returned v ∧ ∃ A20, ∃ n21, ∃ c22, v = .tuple #[.slice A20 n21 c22, .int .i64 r.2] ∧ n21 = r.1.length ∧ St [] W w' [.row A20 n21 c22 2 1 (ints r.1)] := by
  subst hn_p0_windows_1
  subst hn_p1_bonds_1
  unfold spec_FindTour at hm
  refine Calls.enter (N := 20) Try.func37 rfl rfl rfl (fun a hf => ?_)
  have hs := St.start W
  obtain ⟨w, hw_⟩ : ∃ w, w = W := ⟨W, rfl⟩
  clear hw_ w
  refine wpL_seq ?_
  refine wpL_region ?_
  refine sY hf hs rfl rfl rfl (Y_assign rfl rfl) ?_; clear hf; intro a hf
  refine sY hf hs rfl rfl rfl (Y_assign rfl rfl) ?_; clear hf; intro a hf
  refine wpO_nil ?_
  refine wpL_seq ?_
  refine wpL_seq ?_
  refine wpL_region ?_
  refine sY hf hs rfl rfl rfl (Y_move rfl rfl) ?_; clear hf; intro a hf
  refine sY hf hs rfl rfl rfl (Y_move rfl rfl) ?_; clear hf; intro a hf
  obtain ⟨r1, hc2, hm⟩ := bind_some hm
  refine sCall hf rfl rfl rfl rfl (cap := []) rfl rfl en93 (spec_IsTask_ok F p0_windows A_p0_windows_1 p0_windows.length c_p0_windows_1 rfl p1_bonds A_p1_bonds_1 p1_bonds.length c_p1_bonds_1 rfl _ _ hc2 (h_p0_windows_1.at hs) (h_p1_bonds_1.at hs)) ?_; clear hf
  rintro _ w ⟨rfl, hs1⟩ a hf
  have hs : St [] W w [] := hs.ext hs1.below
  clear hs1
  refine sY hf hs rfl rfl rfl (Y_not rfl rfl) ?_; clear hf; intro a hf
  refine wpO_nil ?_
  refine wpL_cond hf rfl (fun hb3 => ?_) (fun hb3 => ?_)
  · have hm := bif_t hm hb3
    refine wpL_seq ?_
    refine wpL_region ?_
    refine sY hf hs rfl rfl rfl (Y_assign rfl rfl) ?_; clear hf; intro a hf
    refine sY hf hs rfl rfl rfl (Y_assign rfl rfl) ?_; clear hf; intro a hf
    refine wpO_nil ?_
    have hs : St [] W _ [.row none 0 0 2 1 (ints ([] : List Int))] := hs.addNil 2 1
    obtain rfl := Option.some.inj hm
    refine wpL_ret (ret_tmp2 rfl hf rfl rfl ?_)
    exact ⟨_, rfl, none, 0, 0, rfl, rfl, hs⟩
  · have hm := bif_f hm hb3
    refine wpL_skip ?_
    refine wpL_seq ?_
    refine wpL_region ?_
    refine sY hf hs rfl rfl rfl (Y_move rfl rfl) ?_; clear hf; intro a hf
    refine sY hf hs rfl rfl rfl (Y_lenH rfl rfl el53 rfl) ?_; clear hf; intro a hf
    refine sY hf hs rfl rfl rfl (Y_move rfl rfl) ?_; clear hf; intro a hf
    obtain ⟨r5, hc6, hm⟩ := bind_some hm
    refine sCall hf rfl rfl rfl rfl (cap := []) rfl rfl en94 (spec_l23Matrix_ok F (p0_windows.length : Int) p1_bonds A_p1_bonds_1 p1_bonds.length c_p1_bonds_1 rfl _ _ hc6 (h_p1_bonds_1.at hs)) ?_; clear hf
    rintro _ w ⟨A7, n8, c9, vs11, rfl, hn10, hs1⟩ a hf
    have hs : St [] W w [.mat A7 n8 c9 36 2 vs11 r5] := hs.join hs1
    clear hs1
    obtain ⟨r12, hc13, hm⟩ := bind_some hm
    refine sCall hf rfl rfl rfl rfl (cap := []) rfl rfl en81 (spec_l03Over_ok F r5 A7 n8 c9 hn10 0 _ _ hc13 (hs.rdM (i := 0) rfl)) ?_; clear hf
    rintro _ w ⟨A14, n15, c16, rfl, hn17, hs1⟩ a hf
    have hs : St [] W w [.mat A7 n8 c9 36 2 vs11 r5, .row A14 n15 c16 2 1 (ints r12)] := hs.join hs1
    clear hs1
    refine sY hf hs rfl rfl rfl (Y_assign rfl rfl) ?_; clear hf; intro a hf
    refine wpO_nil ?_
    refine wpL_seq ?_
    refine wpL_seq ?_
    refine wpL_region ?_
    refine sY hf hs rfl rfl rfl (Y_move rfl rfl) ?_; clear hf; intro a hf
    refine sY hf hs rfl rfl rfl (Y_lenH rfl rfl el36 hn17) ?_; clear hf; intro a hf
    refine sY hf hs rfl rfl rfl (Y_eql rfl rfl rfl) ?_; clear hf; intro a hf
    refine wpO_nil ?_
    refine wpL_cond hf rfl (fun hb18 => ?_) (fun hb18 => ?_)
    · have hm := bif_t hm hb18
      refine wpL_seq ?_
      refine wpL_region ?_
      refine sY hf hs rfl rfl rfl (Y_assign rfl rfl) ?_; clear hf; intro a hf
      refine sY hf hs rfl rfl rfl (Y_assign rfl rfl) ?_; clear hf; intro a hf
      refine wpO_nil ?_
      have hs : St [] W _ [.mat A7 n8 c9 36 2 vs11 r5, .row A14 n15 c16 2 1 (ints r12), .row none 0 0 2 1 (ints ([] : List Int))] := hs.addNil 2 1
      obtain rfl := Option.some.inj hm
      refine wpL_ret (ret_tmp2 rfl hf rfl rfl ?_)
      exact ⟨_, rfl, none, 0, 0, rfl, rfl, hs.sel [2] (by decide)⟩
    · have hm := bif_f hm hb18
      refine wpL_skip ?_
      refine wpL_seq ?_
      refine wpL_region ?_
      refine sY hf hs rfl rfl rfl (Y_move rfl rfl) ?_; clear hf; intro a hf
      refine sY hf hs rfl rfl rfl (Y_assign rfl rfl) ?_; clear hf; intro a hf
      refine sY hf hs rfl rfl rfl (Y_assign rfl rfl) ?_; clear hf; intro a hf
      refine wpO_nil ?_
      obtain rfl := Option.some.inj hm
      refine wpL_ret (ret_tmp2 rfl hf rfl rfl ?_)
      exact ⟨_, rfl, A14, n15, c16, rfl, hn17, hs.sel [1] (by decide)⟩

set_option maxRecDepth 100000 in
theorem impl_within_ok (F : Nat) (p0_n : Int) (p1_low : Int) (p2_high : Int) (r : Bool) (W : World) (hm : impl_within F p0_n p1_low p2_high = some r) :
    Calls Try.prog 123 [.int .i64 p0_n, .int .i64 p1_low, .int .i64 p2_high].toArray W fun e w' => ∃ v, e = .returned v ∧ v = .bool r ∧ St [] W w' [] := by
  unfold impl_within at hm
  refine Calls.enter (N := 15) Try.func123 rfl rfl rfl (fun a hf => ?_)
  have hs := St.start W
  obtain ⟨w, hw_⟩ : ∃ w, w = W := ⟨W, rfl⟩
  clear hw_ w
  refine wpL_seq ?_
  refine wpL_region ?_
  refine sY hf hs rfl rfl rfl (Y_assign rfl rfl) ?_; clear hf; intro a hf
  refine wpO_nil ?_
  refine wpL_seq ?_
  obtain ⟨r3, hj4, hm⟩ := bind_some hm
  refine wpL_cut (fun a w => ∃ b2 : Bool, b2 = r3 ∧ Fr a 15 [(6, .bool b2)] ∧ St [] W w []) ?_ ?_
  · refine wpL_region ?_
    refine sY hf hs rfl rfl rfl (Y_move rfl rfl) ?_; clear hf; intro a hf
    refine sY hf hs rfl rfl rfl (Y_move rfl rfl) ?_; clear hf; intro a hf
    refine sY hf hs rfl rfl rfl (Y_geq rfl rfl rfl) ?_; clear hf; intro a hf
    refine sY hf hs rfl rfl rfl (Y_move rfl rfl) ?_; clear hf; intro a hf
    refine bsplit (decide (p1_low ≤ p0_n)) (fun hb5 => ?_) (fun hb5 => ?_)
    · have hj4 := bif_t hj4 hb5
      refine sYg hf hs rfl rfl rfl (congrArg (fun b => some (Value.bool b)) hb5) rfl rfl rfl (Y_move rfl rfl) ?_; clear hf; intro a hf
      refine sYg hf hs rfl rfl rfl (congrArg (fun b => some (Value.bool b)) hb5) rfl rfl rfl (Y_move rfl rfl) ?_; clear hf; intro a hf
      refine sYg hf hs rfl rfl rfl (congrArg (fun b => some (Value.bool b)) hb5) rfl rfl rfl (Y_leq rfl rfl rfl) ?_; clear hf; intro a hf
      refine sY hf hs rfl rfl rfl (Y_pickT rfl (congrArg (fun b => some (Value.bool b)) hb5) rfl) ?_; clear hf; intro a hf
      refine sY hf hs rfl rfl rfl (Y_assign rfl rfl) ?_; clear hf; intro a hf
      refine wpO_nil ?_
      refine wpL_nil (then_normal ?_)
      exact ⟨(decide (p0_n ≤ p2_high)), Option.some.inj hj4, (Fr.pick hf.none hf rfl), hs⟩
    · have hj4 := bif_f hj4 hb5
      refine sNo hf rfl rfl rfl (congrArg (fun b => some (Value.bool b)) hb5) rfl rfl rfl ?_; clear hf; intro a hf
      refine sNo hf rfl rfl rfl (congrArg (fun b => some (Value.bool b)) hb5) rfl rfl rfl ?_; clear hf; intro a hf
      refine sNo hf rfl rfl rfl (congrArg (fun b => some (Value.bool b)) hb5) rfl rfl rfl ?_; clear hf; intro a hf
      refine sY hf hs rfl rfl rfl (Y_pickF rfl (congrArg (fun b => some (Value.bool b)) hb5) rfl) ?_; clear hf; intro a hf
      refine sY hf hs rfl rfl rfl (Y_assign rfl rfl) ?_; clear hf; intro a hf
      refine wpO_nil ?_
      refine wpL_nil (then_normal ?_)
      exact ⟨false, Option.some.inj hj4, (Fr.pick hf.none hf rfl), hs⟩
  · rintro a w ⟨b2, hr_, hf, hs⟩
    subst hr_
    try dsimp only at hm
    obtain rfl := Option.some.inj hm
    refine wpL_ret (ret_tmp rfl hf rfl ?_)
    exact ⟨_, rfl, rfl, hs⟩

set_option maxRecDepth 100000 in
theorem impl_isFinite_ok (F : Nat) (p0_n : Int) (r : Bool) (W : World) (hm : impl_isFinite F p0_n = some r) :
    Calls Try.prog 144 [.int .i64 p0_n].toArray W fun e w' => ∃ v, e = .returned v ∧ v = .bool r ∧ St [] W w' [] := by
  unfold impl_isFinite at hm
  refine Calls.enter (N := 5) Try.func144 rfl rfl rfl (fun a hf => ?_)
  have hs := St.start W
  obtain ⟨w, hw_⟩ : ∃ w, w = W := ⟨W, rfl⟩
  clear hw_ w
  refine wpL_seq ?_
  refine wpL_region ?_
  refine sY hf hs rfl rfl rfl (Y_assign rfl rfl) ?_; clear hf; intro a hf
  refine wpO_nil ?_
  refine wpL_seq ?_
  refine wpL_region ?_
  refine sY hf hs rfl rfl rfl (Y_move rfl rfl) ?_; clear hf; intro a hf
  obtain ⟨r1, hc2, hm⟩ := bind_some hm
  refine sCall hf rfl rfl rfl rfl (cap := []) rfl rfl en123 (impl_within_ok F p0_n (-1000000) 1000000 _ _ hc2) ?_; clear hf
  rintro _ w ⟨rfl, hs1⟩ a hf
  have hs : St [] W w [] := hs.ext hs1.below
  clear hs1
  refine sY hf hs rfl rfl rfl (Y_assign rfl rfl) ?_; clear hf; intro a hf
  refine wpO_nil ?_
  obtain rfl := Option.some.inj hm
  refine wpL_ret (ret_tmp rfl hf rfl ?_)
  exact ⟨_, rfl, rfl, hs⟩

set_option maxRecDepth 100000 in
theorem impl_IsTask_c1_ok (F : Nat) (p0_b : GBond) (b_z0 : Nat) (z0 : Int) (r : Bool) (W : World) (hm : impl_IsTask_c1 F p0_b z0 = some r) (h_z0 : PB W b_z0 2 [.int .i64 z0]) :
    Calls Try.prog 143 [.agg #[.int .i64 p0_b.From, .int .i64 p0_b.To, .int .i64 p0_b.Least], .pointer (some ⟨b_z0, 0, none⟩)].toArray W fun e w' => ∃ v, e = .returned v ∧ v = .bool r ∧ St [] W w' [] := by
  unfold impl_IsTask_c1 at hm
  refine Calls.enter (N := 22) Try.func143 rfl rfl rfl (fun a hf => ?_)
  have hs := St.start W
  obtain ⟨w, hw_⟩ : ∃ w, w = W := ⟨W, rfl⟩
  clear hw_ w
  refine wpL_seq ?_
  refine wpL_region ?_
  refine sBox hf hs rfl rfl rfl rfl rfl (cs := [.int .i64 p0_b.From, .int .i64 p0_b.To, .int .i64 p0_b.Least]) rfl ?_; clear hf hs; intro a w b1 hs hf
  have hs : St [] W w [.blk b1 107 [.int .i64 p0_b.From, .int .i64 p0_b.To, .int .i64 p0_b.Least]] := hs
  refine sY hf hs rfl rfl rfl (Y_assign rfl rfl) ?_; clear hf; intro a hf
  refine wpO_nil ?_
  refine wpL_seq ?_
  obtain ⟨r11, hj12, hm⟩ := bind_some hm
  refine wpL_cut (fun a w => ∃ b10 : Bool, b10 = r11 ∧ Fr a 22 [(3, .bool b10)] ∧ St [] W w []) ?_ ?_
  · refine wpL_region ?_
    refine sY hf hs rfl rfl rfl (Y_fieldAddr rfl rfl fo107_0) ?_; clear hf; intro a hf
    refine sY hf hs rfl rfl rfl (Y_load_blk rfl rfl (i := 0) rfl rfl ag2) ?_; clear hf; intro a hf
    refine sY hf hs rfl rfl rfl (Y_load_pb rfl rfl h_z0 rfl ag2) ?_; clear hf; intro a hf
    obtain ⟨r13, hc14, hj12⟩ := bind_some hj12
    refine sCall hf rfl rfl rfl rfl (cap := []) rfl rfl en123 (impl_within_ok F p0_b.From 0 z0 _ _ hc14) ?_; clear hf
    rintro _ w ⟨rfl, hs1⟩ a hf
    have hs : St [] W w [.blk b1 107 [.int .i64 p0_b.From, .int .i64 p0_b.To, .int .i64 p0_b.Least]] := hs.ext hs1.below
    clear hs1
    refine sY hf hs rfl rfl rfl (Y_not rfl rfl) ?_; clear hf; intro a hf
    refine sY hf hs rfl rfl rfl (Y_move rfl rfl) ?_; clear hf; intro a hf
    refine bsplit (!r13) (fun hb15 => ?_) (fun hb15 => ?_)
    · have hj12 := bif_t hj12 hb15
      refine sNo hf rfl rfl rfl (congrArg (fun b => some (Value.bool b)) hb15) rfl rfl rfl ?_; clear hf; intro a hf
      refine sNo hf rfl rfl rfl (congrArg (fun b => some (Value.bool b)) hb15) rfl rfl rfl ?_; clear hf; intro a hf
      refine sNo hf rfl rfl rfl (congrArg (fun b => some (Value.bool b)) hb15) rfl rfl rfl ?_; clear hf; intro a hf
      refine sNo hf rfl rfl rfl (congrArg (fun b => some (Value.bool b)) hb15) rfl rfl rfl ?_; clear hf; intro a hf
      refine sNo hf rfl rfl rfl (congrArg (fun b => some (Value.bool b)) hb15) rfl rfl rfl ?_; clear hf; intro a hf
      refine sY hf hs rfl rfl rfl (Y_pickT rfl (congrArg (fun b => some (Value.bool b)) hb15) rfl) ?_; clear hf; intro a hf
      refine sY hf hs rfl rfl rfl (Y_move rfl rfl) ?_; clear hf; intro a hf
      refine sNo hf rfl rfl rfl rfl rfl rfl rfl ?_; clear hf; intro a hf
      refine sNo hf rfl rfl rfl rfl rfl rfl rfl ?_; clear hf; intro a hf
      refine sNo hf rfl rfl rfl rfl rfl rfl rfl ?_; clear hf; intro a hf
      refine sNo hf rfl rfl rfl rfl rfl rfl rfl ?_; clear hf; intro a hf
      refine sY hf hs rfl rfl rfl (Y_pickT rfl rfl rfl) ?_; clear hf; intro a hf
      refine sY hf hs rfl rfl rfl (Y_assign rfl rfl) ?_; clear hf; intro a hf
      refine wpO_nil ?_
      refine wpL_nil (then_normal ?_)
      exact ⟨true, Option.some.inj hj12, (Fr.pick hf.none hf rfl), hs.sel [] (by decide)⟩
    · have hj12 := bif_f hj12 hb15
      refine sYg hf hs rfl rfl rfl (congrArg (fun b => some (Value.bool b)) hb15) rfl rfl rfl (Y_fieldAddr rfl rfl fo107_1) ?_; clear hf; intro a hf
      refine sYg hf hs rfl rfl rfl (congrArg (fun b => some (Value.bool b)) hb15) rfl rfl rfl (Y_load_blk rfl rfl (i := 0) rfl rfl ag2) ?_; clear hf; intro a hf
      refine sYg hf hs rfl rfl rfl (congrArg (fun b => some (Value.bool b)) hb15) rfl rfl rfl (Y_load_pb rfl rfl h_z0 rfl ag2) ?_; clear hf; intro a hf
      obtain ⟨r16, hc17, hj12⟩ := bind_some hj12
      refine sCallg hf rfl rfl rfl (congrArg (fun b => some (Value.bool b)) hb15) rfl rfl rfl rfl (cap := []) rfl rfl en123 (impl_within_ok F p0_b.To 0 z0 _ _ hc17) ?_; clear hf
      rintro _ w ⟨rfl, hs1⟩ a hf
      have hs : St [] W w [.blk b1 107 [.int .i64 p0_b.From, .int .i64 p0_b.To, .int .i64 p0_b.Least]] := hs.ext hs1.below
      clear hs1
      refine sYg hf hs rfl rfl rfl (congrArg (fun b => some (Value.bool b)) hb15) rfl rfl rfl (Y_not rfl rfl) ?_; clear hf; intro a hf
      refine sY hf hs rfl rfl rfl (Y_pickF rfl (congrArg (fun b => some (Value.bool b)) hb15) rfl) ?_; clear hf; intro a hf
      refine sY hf hs rfl rfl rfl (Y_move rfl rfl) ?_; clear hf; intro a hf
      refine bsplit (!r16) (fun hb18 => ?_) (fun hb18 => ?_)
      · have hj12 := bif_t hj12 hb18
        refine sNo hf rfl rfl rfl (congrArg (fun b => some (Value.bool b)) hb18) rfl rfl rfl ?_; clear hf; intro a hf
        refine sNo hf rfl rfl rfl (congrArg (fun b => some (Value.bool b)) hb18) rfl rfl rfl ?_; clear hf; intro a hf
        refine sNo hf rfl rfl rfl (congrArg (fun b => some (Value.bool b)) hb18) rfl rfl rfl ?_; clear hf; intro a hf
        refine sNo hf rfl rfl rfl (congrArg (fun b => some (Value.bool b)) hb18) rfl rfl rfl ?_; clear hf; intro a hf
        refine sY hf hs rfl rfl rfl (Y_pickT rfl (congrArg (fun b => some (Value.bool b)) hb18) rfl) ?_; clear hf; intro a hf
        refine sY hf hs rfl rfl rfl (Y_assign rfl rfl) ?_; clear hf; intro a hf
        refine wpO_nil ?_
        refine wpL_nil (then_normal ?_)
        exact ⟨true, Option.some.inj hj12, (Fr.pick hf.none hf rfl), hs.sel [] (by decide)⟩
      · have hj12 := bif_f hj12 hb18
        refine sYg hf hs rfl rfl rfl (congrArg (fun b => some (Value.bool b)) hb18) rfl rfl rfl (Y_fieldAddr rfl rfl fo107_2) ?_; clear hf; intro a hf
        refine sYg hf hs rfl rfl rfl (congrArg (fun b => some (Value.bool b)) hb18) rfl rfl rfl (Y_load_blk rfl rfl (i := 0) rfl rfl ag2) ?_; clear hf; intro a hf
        obtain ⟨r19, hc20, hj12⟩ := bind_some hj12
        refine sCallg hf rfl rfl rfl (congrArg (fun b => some (Value.bool b)) hb18) rfl rfl rfl rfl (cap := []) rfl rfl en144 (impl_isFinite_ok F p0_b.Least _ _ hc20) ?_; clear hf
        rintro _ w ⟨rfl, hs1⟩ a hf
        have hs : St [] W w [.blk b1 107 [.int .i64 p0_b.From, .int .i64 p0_b.To, .int .i64 p0_b.Least]] := hs.ext hs1.below
        clear hs1
        refine sYg hf hs rfl rfl rfl (congrArg (fun b => some (Value.bool b)) hb18) rfl rfl rfl (Y_not rfl rfl) ?_; clear hf; intro a hf
        refine sY hf hs rfl rfl rfl (Y_pickF rfl (congrArg (fun b => some (Value.bool b)) hb18) rfl) ?_; clear hf; intro a hf
        refine sY hf hs rfl rfl rfl (Y_assign rfl rfl) ?_; clear hf; intro a hf
        refine wpO_nil ?_
        refine wpL_nil (then_normal ?_)
        exact ⟨(!r19), Option.some.inj hj12, (Fr.pick hf.none hf rfl), hs.sel [] (by decide)⟩
  · rintro a w ⟨b10, hr_, hf, hs⟩
    subst hr_
    try dsimp only at hm
    obtain rfl := Option.some.inj hm
    refine wpL_ret (ret_tmp rfl hf rfl ?_)
    exact ⟨_, rfl, rfl, hs⟩

set_option maxRecDepth 100000 in
theorem slices_IndexFunc_Bond_ok (F : Nat) (p0_s : List GBond) (A_p0_s_1 : Option Addr) (n_p0_s_1 c_p0_s_1 : Nat) (hn_p0_s_1 : n_p0_s_1 = p0_s.length) (m_p1_f : GBond → Option Bool) (f_p1_f : FuncId) (k_p1_f : List Value) (r : Int) (W : World) (hm : slices_IndexFunc_Bond F p0_s m_p1_f = some r) (h_p0_s_1 : Rd W A_p0_s_1 ((recs GBond.cells) p0_s)) (h_p1_f : ∀ (x0 : GBond) (r : Bool) (w : World), m_p1_f x0 = some r → Below W.heap.size W w → Calls Try.prog f_p1_f (([.agg #[.int .i64 x0.From, .int .i64 x0.To, .int .i64 x0.Least]] : List Value) ++ k_p1_f).toArray w fun e w' => ∃ v, e = .returned v ∧ v = .bool r ∧ St [] w w' []) (e_p1_f : En Try.prog f_p1_f) :
    Calls Try.prog 172 [.slice A_p0_s_1 n_p0_s_1 c_p0_s_1, .func (.func f_p1_f) #[] k_p1_f.toArray].toArray W fun e w' => ∃ v, e = .returned v ∧ v = .int .i64 r ∧ St [] W w' [] := by
  subst hn_p0_s_1
  unfold slices_IndexFunc_Bond at hm
  refine Calls.enter (N := 19) Try.func172 rfl rfl rfl (fun a hf => ?_)
  have hs := St.start W
  obtain ⟨w, hw_⟩ : ∃ w, w = W := ⟨W, rfl⟩
  clear hw_ w
  refine wpL_seq ?_
  refine wpL_region ?_
  refine sY hf hs rfl rfl rfl (Y_assign rfl rfl) ?_; clear hf; intro a hf
  refine wpO_nil ?_
  refine wpL_seq ?_
  refine wpL_seq ?_
  refine wpL_region ?_
  refine sY hf hs rfl rfl rfl (Y_move rfl rfl) ?_; clear hf; intro a hf
  refine sY hf hs rfl rfl rfl (Y_lenH rfl rfl el55 rfl) ?_; clear hf; intro a hf
  refine sY hf hs rfl rfl rfl (Y_move rfl rfl) ?_; clear hf; intro a hf
  refine wpO_nil ?_
  obtain ⟨r21, hl22, hm⟩ := bind_some hm
  refine wpL_block (fun a w => Sum.inr () = r21 ∧ Fr a 19 [] ∧ St [] W w []) ?_ ?_
  · refine wpL_loop (fun n a w => ∃ x14 : Int, slices_IndexFunc_Bond_L1 F p0_s m_p1_f n x14 = some r21 ∧ Fr a 19 [(0, .slice A_p0_s_1 p0_s.length c_p0_s_1), (1, .func (.func f_p1_f) #[] k_p1_f.toArray), (7, .int .i64 (p0_s.length : Int)), (8, .int .i64 x14)] ∧ St [] W w []) F ?_ ?_ ?_
    · exact ⟨0, hl22, (Fr.pick (Fr.pick (Fr.pick (Fr.pick hf.none hf rfl) hf rfl) hf rfl) hf rfl), hs⟩
    · rintro a w ⟨x14, h0_, -, -⟩; simp [slices_IndexFunc_Bond_L1] at h0_
    · rintro n24 a w ⟨x14, hm23, hf, hs⟩
      rw [slices_IndexFunc_Bond_L1] at hm23
      refine wpL_seq ?_
      refine wpL_region ?_
      refine sY hf hs rfl rfl rfl (Y_lss rfl rfl rfl) ?_; clear hf; intro a hf
      refine wpO_nil ?_
      refine wpL_seq ?_
      refine wpL_cond hf rfl (fun hb25 => ?_) (fun hb25 => ?_)
      · have hm23 := bif_t hm23 hb25
        refine wpL_skip ?_
        refine wpL_seq ?_
        refine wpL_block0 ?_
        refine wpL_seq ?_
        refine wpL_region ?_
        refine sY hf hs rfl rfl rfl (Y_move rfl rfl) ?_; clear hf; intro a hf
        refine sY hf hs rfl rfl rfl (Y_assign rfl rfl) ?_; clear hf; intro a hf
        refine wpO_nil ?_
        refine wpL_seq ?_
        refine wpL_region ?_
        refine sY hf hs rfl rfl rfl (Y_move rfl rfl) ?_; clear hf; intro a hf
        refine sY hf hs rfl rfl rfl (Y_move rfl rfl) ?_; clear hf; intro a hf
        refine sY hf hs rfl rfl rfl (Y_move rfl rfl) ?_; clear hf; intro a hf
        obtain ⟨q26, hi27, hm23⟩ := bind_some hm23
        obtain ⟨hi27a, hi27b, hi27q⟩ := idx_some hi27
        refine sY hf hs rfl rfl rfl (Y_index rfl rfl rfl el55 ti107 (Rd.isAt (h_p0_s_1.at hs) (recs_at (s := 3) GBond.len hi27q (j := 0) rfl)) hi27a hi27b) ?_; clear hf; intro a hf
        refine sY hf hs rfl rfl rfl (Y_load_rdS rfl rfl (us := [.int .i64 q26.From, .int .i64 q26.To, .int .i64 q26.Least]) (fun w hs => h_p0_s_1.at hs) (fun j u hj => recs_at (s := 3) GBond.len hi27q hj) (Nat.succ_pos _) ag107 ti107 rfl) ?_; clear hf; intro a hf
        obtain ⟨r28, hc29, hm23⟩ := bind_some hm23
        refine sCall hf rfl rfl rfl rfl (cap := k_p1_f) rfl rfl e_p1_f (h_p1_f q26 _ _ hc29 hs.below) ?_; clear hf; rintro _ w ⟨rfl, hs1⟩ a hf; have hs := hs.ext hs1.below; clear hs1
        refine wpO_nil ?_
        refine wpL_cond hf rfl (fun hb30 => ?_) (fun hb30 => ?_)
        · have hm23 := bif_t hm23 hb30
          refine wpL_seq ?_
          refine wpL_region ?_
          refine sY hf hs rfl rfl rfl (Y_move rfl rfl) ?_; clear hf; intro a hf
          refine sY hf hs rfl rfl rfl (Y_assign rfl rfl) ?_; clear hf; intro a hf
          refine wpO_nil ?_
          obtain rfl := Option.some.inj hm23
          try dsimp only at hm
          obtain rfl := Option.some.inj hm
          refine wpL_ret (Qb_ret (Ql_ret (Qb_ret (ret_tmp rfl hf rfl ?_))))
          exact ⟨_, rfl, rfl, hs⟩
        · have hm23 := bif_f hm23 hb30
          refine wpL_skip ?_
          refine wpL_nil (Qb_normal ?_)
          refine wpL_region ?_
          refine sY hf hs rfl rfl rfl (Y_add rfl rfl rfl) ?_; clear hf; intro a hf
          refine sY hf hs rfl rfl rfl (Y_move rfl rfl) ?_; clear hf; intro a hf
          refine wpO_nil ?_
          refine wpL_nil (Ql_normal ?_)
          exact ⟨(IntKind.i64.wrap (x14 + 1)), hm23, (Fr.pick (Fr.pick (Fr.pick (Fr.pick hf.none hf rfl) hf rfl) hf rfl) hf rfl), hs⟩
      · have hm23 := bif_f hm23 hb25
        refine wpL_exit (Ql_exit (Qb_exit ?_))
        exact ⟨Option.some.inj hm23, hf.none, hs⟩
  · rintro a w ⟨hr_, hf, hs⟩
    subst hr_
    try dsimp only at hm
    refine wpL_seq ?_
    refine wpL_region ?_
    refine sY hf hs rfl rfl rfl (Y_assign rfl rfl) ?_; clear hf; intro a hf
    refine wpO_nil ?_
    obtain rfl := Option.some.inj hm
    refine wpL_ret (ret_tmp rfl hf rfl ?_)
    exact ⟨_, rfl, rfl, hs⟩

set_option maxRecDepth 100000 in
theorem slices_ContainsFunc_Bond_ok (F : Nat) (p0_s : List GBond) (A_p0_s_1 : Option Addr) (n_p0_s_1 c_p0_s_1 : Nat) (hn_p0_s_1 : n_p0_s_1 = p0_s.length) (m_p1_f : GBond → Option Bool) (f_p1_f : FuncId) (k_p1_f : List Value) (r : Bool) (W : World) (hm : slices_ContainsFunc_Bond F p0_s m_p1_f = some r) (h_p0_s_1 : Rd W A_p0_s_1 ((recs GBond.cells) p0_s)) (h_p1_f : ∀ (x0 : GBond) (r : Bool) (w : World), m_p1_f x0 = some r → Below W.heap.size W w → Calls Try.prog f_p1_f (([.agg #[.int .i64 x0.From, .int .i64 x0.To, .int .i64 x0.Least]] : List Value) ++ k_p1_f).toArray w fun e w' => ∃ v, e = .returned v ∧ v = .bool r ∧ St [] w w' []) (e_p1_f : En Try.prog f_p1_f) :
    Calls Try.prog 142 [.slice A_p0_s_1 n_p0_s_1 c_p0_s_1, .func (.func f_p1_f) #[] k_p1_f.toArray].toArray W fun e w' => ∃ v, e = .returned v ∧ v = .bool r ∧ St [] W w' [] := by
  subst hn_p0_s_1
  unfold slices_ContainsFunc_Bond at hm
  refine Calls.enter (N := 9) Try.func142 rfl rfl rfl (fun a hf => ?_)
  have hs := St.start W
  obtain ⟨w, hw_⟩ : ∃ w, w = W := ⟨W, rfl⟩
  clear hw_ w
  refine wpL_seq ?_
  refine wpL_region ?_
  refine sY hf hs rfl rfl rfl (Y_assign rfl rfl) ?_; clear hf; intro a hf
  refine wpO_nil ?_
  refine wpL_seq ?_
  refine wpL_region ?_
  refine sY hf hs rfl rfl rfl (Y_move rfl rfl) ?_; clear hf; intro a hf
  refine sY hf hs rfl rfl rfl (Y_move rfl rfl) ?_; clear hf; intro a hf
  obtain ⟨r1, hc2, hm⟩ := bind_some hm
  refine sCall hf rfl rfl rfl rfl (cap := []) rfl rfl en172 (slices_IndexFunc_Bond_ok F p0_s A_p0_s_1 p0_s.length c_p0_s_1 rfl m_p1_f f_p1_f k_p1_f _ _ hc2 (h_p0_s_1.at hs) (fun x0 r w' hm_ hb => h_p1_f x0 r w' hm_ (hs.below.trans (hb.mono hs.below.size))) e_p1_f) ?_; clear hf
  rintro _ w ⟨rfl, hs1⟩ a hf
  have hs : St [] W w [] := hs.ext hs1.below
  clear hs1
  refine sY hf hs rfl rfl rfl (Y_geq rfl rfl rfl) ?_; clear hf; intro a hf
  refine sY hf hs rfl rfl rfl (Y_assign rfl rfl) ?_; clear hf; intro a hf
  refine wpO_nil ?_
  obtain rfl := Option.some.inj hm
  refine wpL_ret (ret_tmp rfl hf rfl ?_)
  exact ⟨_, rfl, rfl, hs⟩

set_option maxRecDepth 100000 in
theorem impl_IsTask_ok (F : Nat) (p0_windows : List GWindow) (A_p0_windows_1 : Option Addr) (n_p0_windows_1 c_p0_windows_1 : Nat) (hn_p0_windows_1 : n_p0_windows_1 = p0_windows.length) (p1_bonds : List GBond) (A_p1_bonds_1 : Option Addr) (n_p1_bonds_1 c_p1_bonds_1 : Nat) (hn_p1_bonds_1 : n_p1_bonds_1 = p1_bonds.length) (r : Bool) (W : World) (hm : impl_IsTask F p0_windows p1_bonds = some r) (h_p0_windows_1 : Rd W A_p0_windows_1 ((recs GWindow.cells) p0_windows)) (h_p1_bonds_1 : Rd W A_p1_bonds_1 ((recs GBond.cells) p1_bonds)) :
    Calls Try.prog 97 [.slice A_p0_windows_1 n_p0_windows_1 c_p0_windows_1, .slice A_p1_bonds_1 n_p1_bonds_1 c_p1_bonds_1].toArray W fun e w' => ∃ v, e = .returned v ∧ v = .bool r ∧ St [] W w' [] := by
  subst hn_p0_windows_1
  subst hn_p1_bonds_1
  unfold impl_IsTask at hm
  refine Calls.enter (N := 46) Try.func97 rfl rfl rfl (fun a hf => ?_)
  have hs := St.start W
  obtain ⟨w, hw_⟩ : ∃ w, w = W := ⟨W, rfl⟩
  clear hw_ w
  refine wpL_seq ?_
  refine wpL_region ?_
  refine sY hf hs rfl rfl rfl (Y_assign rfl rfl) ?_; clear hf; intro a hf
  refine wpO_nil ?_
  refine wpL_seq ?_
  refine wpL_seq ?_
  obtain ⟨r5, hj6, hm⟩ := bind_some hm
  refine wpL_cut (fun a w => ∃ b4 : Bool, b4 = r5 ∧ Fr a 46 [(0, .slice A_p0_windows_1 p0_windows.length c_p0_windows_1), (1, .slice A_p1_bonds_1 p1_bonds.length c_p1_bonds_1), (16, .bool b4)] ∧ St [] W w []) ?_ ?_
  · refine wpL_region ?_
    refine sY hf hs rfl rfl rfl (Y_move rfl rfl) ?_; clear hf; intro a hf
    refine sY hf hs rfl rfl rfl (Y_lenH rfl rfl el53 rfl) ?_; clear hf; intro a hf
    obtain ⟨r7, hc8, hj6⟩ := bind_some hj6
    refine sCall hf rfl rfl rfl rfl (cap := []) rfl rfl en123 (impl_within_ok F (p0_windows.length : Int) 1 10 _ _ hc8) ?_; clear hf
    rintro _ w ⟨rfl, hs1⟩ a hf
    have hs : St [] W w [] := hs.ext hs1.below
    clear hs1
    refine sY hf hs rfl rfl rfl (Y_not rfl rfl) ?_; clear hf; intro a hf
    refine sY hf hs rfl rfl rfl (Y_move rfl rfl) ?_; clear hf; intro a hf
    refine bsplit (!r7) (fun hb9 => ?_) (fun hb9 => ?_)
    · have hj6 := bif_t hj6 hb9
      refine sNo hf rfl rfl rfl (congrArg (fun b => some (Value.bool b)) hb9) rfl rfl rfl ?_; clear hf; intro a hf
      refine sNo hf rfl rfl rfl (congrArg (fun b => some (Value.bool b)) hb9) rfl rfl rfl ?_; clear hf; intro a hf
      refine sNo hf rfl rfl rfl (congrArg (fun b => some (Value.bool b)) hb9) rfl rfl rfl ?_; clear hf; intro a hf
      refine sY hf hs rfl rfl rfl (Y_pickT rfl (congrArg (fun b => some (Value.bool b)) hb9) rfl) ?_; clear hf; intro a hf
      refine wpO_nil ?_
      refine wpL_nil (then_normal ?_)
      exact ⟨true, Option.some.inj hj6, (Fr.pick (Fr.pick (Fr.pick hf.none hf rfl) hf rfl) hf rfl), hs⟩
    · have hj6 := bif_f hj6 hb9
      refine sYg hf hs rfl rfl rfl (congrArg (fun b => some (Value.bool b)) hb9) rfl rfl rfl (Y_move rfl rfl) ?_; clear hf; intro a hf
      refine sYg hf hs rfl rfl rfl (congrArg (fun b => some (Value.bool b)) hb9) rfl rfl rfl (Y_lenH rfl rfl el55 rfl) ?_; clear hf; intro a hf
      refine sYg hf hs rfl rfl rfl (congrArg (fun b => some (Value.bool b)) hb9) rfl rfl rfl (Y_gtr rfl rfl rfl) ?_; clear hf; intro a hf
      refine sY hf hs rfl rfl rfl (Y_pickF rfl (congrArg (fun b => some (Value.bool b)) hb9) rfl) ?_; clear hf; intro a hf
      refine wpO_nil ?_
      refine wpL_nil (then_normal ?_)
      exact ⟨(decide (30 < (p1_bonds.length : Int))), Option.some.inj hj6, (Fr.pick (Fr.pick (Fr.pick hf.none hf rfl) hf rfl) hf rfl), hs⟩
  · rintro a w ⟨b4, hr_, hf, hs⟩
    subst hr_
    try dsimp only at hm
    refine wpL_cond hf rfl (fun hb10 => ?_) (fun hb10 => ?_)
    · have hm := bif_t hm hb10
      refine wpL_seq ?_
      refine wpL_region ?_
      refine sY hf hs rfl rfl rfl (Y_assign rfl rfl) ?_; clear hf; intro a hf
      refine wpO_nil ?_
      obtain rfl := Option.some.inj hm
      refine wpL_ret (ret_tmp rfl hf rfl ?_)
      exact ⟨_, rfl, rfl, hs⟩
    · have hm := bif_f hm hb10
      refine wpL_skip ?_
      refine wpL_seq ?_
      refine wpL_seq ?_
      refine wpL_region ?_
      refine sY hf hs rfl rfl rfl (Y_move rfl rfl) ?_; clear hf; intro a hf
      refine sY hf hs rfl rfl rfl (Y_lenH rfl rfl el53 rfl) ?_; clear hf; intro a hf
      refine sY hf hs rfl rfl rfl (Y_move rfl rfl) ?_; clear hf; intro a hf
      refine wpO_nil ?_
      obtain ⟨r49, hl50, hm⟩ := bind_some hm
      refine wpL_block (fun a w => Sum.inr () = r49 ∧ Fr a 46 [(0, .slice A_p0_windows_1 p0_windows.length c_p0_windows_1), (1, .slice A_p1_bonds_1 p1_bonds.length c_p1_bonds_1)] ∧ St [] W w []) ?_ ?_
      · refine wpL_loop (fun n a w => ∃ x36 : Int, impl_IsTask_L1 F p0_windows n x36 = some r49 ∧ Fr a 46 [(0, .slice A_p0_windows_1 p0_windows.length c_p0_windows_1), (1, .slice A_p1_bonds_1 p1_bonds.length c_p1_bonds_1), (17, .slice A_p0_windows_1 p0_windows.length c_p0_windows_1), (18, .int .i64 (p0_windows.length : Int)), (19, .int .i64 x36)] ∧ St [] W w []) F ?_ ?_ ?_
        · exact ⟨0, hl50, (Fr.pick (Fr.pick (Fr.pick (Fr.pick (Fr.pick hf.none hf rfl) hf rfl) hf rfl) hf rfl) hf rfl), hs⟩
        · rintro a w ⟨x36, h0_, -, -⟩; simp [impl_IsTask_L1] at h0_
        · rintro n52 a w ⟨x36, hm51, hf, hs⟩
          rw [impl_IsTask_L1] at hm51
          refine wpL_seq ?_
          refine wpL_region ?_
          refine sY hf hs rfl rfl rfl (Y_lss rfl rfl rfl) ?_; clear hf; intro a hf
          refine wpO_nil ?_
          refine wpL_seq ?_
          refine wpL_cond hf rfl (fun hb53 => ?_) (fun hb53 => ?_)
          · have hm51 := bif_t hm51 hb53
            refine wpL_skip ?_
            refine wpL_seq ?_
            refine wpL_block0 ?_
            refine wpL_seq ?_
            refine wpL_region ?_
            obtain ⟨q54, hi55, hm51⟩ := bind_some hm51
            obtain ⟨hi55a, hi55b, hi55q⟩ := idx_some hi55
            refine sY hf hs rfl rfl rfl (Y_index rfl rfl rfl el53 ti103 (Rd.isAt (h_p0_windows_1.at hs) (recs_at (s := 2) GWindow.len hi55q (j := 0) rfl)) hi55a hi55b) ?_; clear hf; intro a hf
            refine sY hf hs rfl rfl rfl (Y_load_rdS rfl rfl (us := [.int .i64 q54.Low, .int .i64 q54.High]) (fun w hs => h_p0_windows_1.at hs) (fun j u hj => recs_at (s := 2) GWindow.len hi55q hj) (Nat.succ_pos _) ag103 ti103 rfl) ?_; clear hf; intro a hf
            refine sAlloc hf hs rfl rfl rfl rfl ti103 ?_; clear hf hs; intro a w b56 hs hf
            have hs : St [] W w [.blk b56 103 [.int .i64 0, .int .i64 0]] := hs
            refine sStore (i := 0) (us := [.int .i64 q54.Low, .int .i64 q54.High]) hf hs rfl rfl rfl rfl rfl rfl ti103 rfl rfl rfl (Nat.le_of_ble_eq_true rfl) rfl ?_; clear hs; intro w hs
            have hs : St [] W w [.blk b56 103 [.int .i64 q54.Low, .int .i64 q54.High]] := hs
            refine wpO_nil ?_
            refine wpL_seq ?_
            obtain ⟨r60, hj61, hm51⟩ := bind_some hm51
            refine wpL_cut (fun a w => ∃ b59 : Bool, b59 = r60 ∧ Fr a 46 [(0, .slice A_p0_windows_1 p0_windows.length c_p0_windows_1), (1, .slice A_p1_bonds_1 p1_bonds.length c_p1_bonds_1), (17, .slice A_p0_windows_1 p0_windows.length c_p0_windows_1), (18, .int .i64 (p0_windows.length : Int)), (19, .int .i64 x36), (37, .bool b59)] ∧ St [] W w []) ?_ ?_
            · refine wpL_region ?_
              refine sY hf hs rfl rfl rfl (Y_fieldAddr rfl rfl fo103_0) ?_; clear hf; intro a hf
              refine sY hf hs rfl rfl rfl (Y_load_blk rfl rfl (i := 0) rfl rfl ag2) ?_; clear hf; intro a hf
              refine sY hf hs rfl rfl rfl (Y_lss rfl rfl rfl) ?_; clear hf; intro a hf
              refine sY hf hs rfl rfl rfl (Y_move rfl rfl) ?_; clear hf; intro a hf
              refine bsplit (decide (q54.Low < 0)) (fun hb62 => ?_) (fun hb62 => ?_)
              · have hj61 := bif_t hj61 hb62
                refine sNo hf rfl rfl rfl (congrArg (fun b => some (Value.bool b)) hb62) rfl rfl rfl ?_; clear hf; intro a hf
                refine sNo hf rfl rfl rfl (congrArg (fun b => some (Value.bool b)) hb62) rfl rfl rfl ?_; clear hf; intro a hf
                refine sNo hf rfl rfl rfl (congrArg (fun b => some (Value.bool b)) hb62) rfl rfl rfl ?_; clear hf; intro a hf
                refine sNo hf rfl rfl rfl (congrArg (fun b => some (Value.bool b)) hb62) rfl rfl rfl ?_; clear hf; intro a hf
                refine sNo hf rfl rfl rfl (congrArg (fun b => some (Value.bool b)) hb62) rfl rfl rfl ?_; clear hf; intro a hf
                refine sY hf hs rfl rfl rfl (Y_pickT rfl (congrArg (fun b => some (Value.bool b)) hb62) rfl) ?_; clear hf; intro a hf
                refine sY hf hs rfl rfl rfl (Y_move rfl rfl) ?_; clear hf; intro a hf
                refine sNo hf rfl rfl rfl rfl rfl rfl rfl ?_; clear hf; intro a hf
                refine sNo hf rfl rfl rfl rfl rfl rfl rfl ?_; clear hf; intro a hf
                refine sNo hf rfl rfl rfl rfl rfl rfl rfl ?_; clear hf; intro a hf
                refine sY hf hs rfl rfl rfl (Y_pickT rfl rfl rfl) ?_; clear hf; intro a hf
                refine wpO_nil ?_
                refine wpL_nil (then_normal ?_)
                exact ⟨true, Option.some.inj hj61, (Fr.pick (Fr.pick (Fr.pick (Fr.pick (Fr.pick (Fr.pick hf.none hf rfl) hf rfl) hf rfl) hf rfl) hf rfl) hf rfl), hs.sel [] (by decide)⟩
              · have hj61 := bif_f hj61 hb62
                refine sYg hf hs rfl rfl rfl (congrArg (fun b => some (Value.bool b)) hb62) rfl rfl rfl (Y_fieldAddr rfl rfl fo103_0) ?_; clear hf; intro a hf
                refine sYg hf hs rfl rfl rfl (congrArg (fun b => some (Value.bool b)) hb62) rfl rfl rfl (Y_load_blk rfl rfl (i := 0) rfl rfl ag2) ?_; clear hf; intro a hf
                refine sYg hf hs rfl rfl rfl (congrArg (fun b => some (Value.bool b)) hb62) rfl rfl rfl (Y_fieldAddr rfl rfl fo103_1) ?_; clear hf; intro a hf
                refine sYg hf hs rfl rfl rfl (congrArg (fun b => some (Value.bool b)) hb62) rfl rfl rfl (Y_load_blk rfl rfl (i := 0) rfl rfl ag2) ?_; clear hf; intro a hf
                refine sYg hf hs rfl rfl rfl (congrArg (fun b => some (Value.bool b)) hb62) rfl rfl rfl (Y_gtr rfl rfl rfl) ?_; clear hf; intro a hf
                refine sY hf hs rfl rfl rfl (Y_pickF rfl (congrArg (fun b => some (Value.bool b)) hb62) rfl) ?_; clear hf; intro a hf
                refine sY hf hs rfl rfl rfl (Y_move rfl rfl) ?_; clear hf; intro a hf
                refine bsplit (decide (q54.High < q54.Low)) (fun hb63 => ?_) (fun hb63 => ?_)
                · have hj61 := bif_t hj61 hb63
                  refine sNo hf rfl rfl rfl (congrArg (fun b => some (Value.bool b)) hb63) rfl rfl rfl ?_; clear hf; intro a hf
                  refine sNo hf rfl rfl rfl (congrArg (fun b => some (Value.bool b)) hb63) rfl rfl rfl ?_; clear hf; intro a hf
                  refine sNo hf rfl rfl rfl (congrArg (fun b => some (Value.bool b)) hb63) rfl rfl rfl ?_; clear hf; intro a hf
                  refine sY hf hs rfl rfl rfl (Y_pickT rfl (congrArg (fun b => some (Value.bool b)) hb63) rfl) ?_; clear hf; intro a hf
                  refine wpO_nil ?_
                  refine wpL_nil (then_normal ?_)
                  exact ⟨true, Option.some.inj hj61, (Fr.pick (Fr.pick (Fr.pick (Fr.pick (Fr.pick (Fr.pick hf.none hf rfl) hf rfl) hf rfl) hf rfl) hf rfl) hf rfl), hs.sel [] (by decide)⟩
                · have hj61 := bif_f hj61 hb63
                  refine sYg hf hs rfl rfl rfl (congrArg (fun b => some (Value.bool b)) hb63) rfl rfl rfl (Y_fieldAddr rfl rfl fo103_1) ?_; clear hf; intro a hf
                  refine sYg hf hs rfl rfl rfl (congrArg (fun b => some (Value.bool b)) hb63) rfl rfl rfl (Y_load_blk rfl rfl (i := 0) rfl rfl ag2) ?_; clear hf; intro a hf
                  refine sYg hf hs rfl rfl rfl (congrArg (fun b => some (Value.bool b)) hb63) rfl rfl rfl (Y_gtr rfl rfl rfl) ?_; clear hf; intro a hf
                  refine sY hf hs rfl rfl rfl (Y_pickF rfl (congrArg (fun b => some (Value.bool b)) hb63) rfl) ?_; clear hf; intro a hf
                  refine wpO_nil ?_
                  refine wpL_nil (then_normal ?_)
                  exact ⟨(decide (1000000 < q54.High)), Option.some.inj hj61, (Fr.pick (Fr.pick (Fr.pick (Fr.pick (Fr.pick (Fr.pick hf.none hf rfl) hf rfl) hf rfl) hf rfl) hf rfl) hf rfl), hs.sel [] (by decide)⟩
            · rintro a w ⟨b59, hr_, hf, hs⟩
              subst hr_
              try dsimp only at hm51
              refine wpL_cond hf rfl (fun hb64 => ?_) (fun hb64 => ?_)
              · have hm51 := bif_t hm51 hb64
                refine wpL_seq ?_
                refine wpL_region ?_
                refine sY hf hs rfl rfl rfl (Y_assign rfl rfl) ?_; clear hf; intro a hf
                refine wpO_nil ?_
                obtain rfl := Option.some.inj hm51
                try dsimp only at hm
                obtain rfl := Option.some.inj hm
                refine wpL_ret (Qb_ret (Ql_ret (Qb_ret (ret_tmp rfl hf rfl ?_))))
                exact ⟨_, rfl, rfl, hs⟩
              · have hm51 := bif_f hm51 hb64
                refine wpL_skip ?_
                refine wpL_nil (Qb_normal ?_)
                refine wpL_region ?_
                refine sY hf hs rfl rfl rfl (Y_add rfl rfl rfl) ?_; clear hf; intro a hf
                refine sY hf hs rfl rfl rfl (Y_move rfl rfl) ?_; clear hf; intro a hf
                refine wpO_nil ?_
                refine wpL_nil (Ql_normal ?_)
                exact ⟨(IntKind.i64.wrap (x36 + 1)), hm51, (Fr.pick (Fr.pick (Fr.pick (Fr.pick (Fr.pick hf.none hf rfl) hf rfl) hf rfl) hf rfl) hf rfl), hs⟩
          · have hm51 := bif_f hm51 hb53
            refine wpL_exit (Ql_exit (Qb_exit ?_))
            exact ⟨Option.some.inj hm51, (Fr.pick (Fr.pick hf.none hf rfl) hf rfl), hs⟩
      · rintro a w ⟨hr_, hf, hs⟩
        subst hr_
        try dsimp only at hm
        refine wpL_seq ?_
        refine wpL_region ?_
        refine sY hf hs rfl rfl rfl (Y_move rfl rfl) ?_; clear hf; intro a hf
        refine sY hf hs rfl rfl rfl (Y_lenH rfl rfl el53 rfl) ?_; clear hf; intro a hf
        refine sY hf hs rfl rfl rfl (Y_sub rfl rfl rfl) ?_; clear hf; intro a hf
        refine sAlloc hf hs rfl rfl rfl rfl ti2 ?_; clear hf hs; intro a w b65 hs hf
        have hs : St [] W w [.blk b65 2 [.int .i64 0]] := hs
        refine sStore (i := 0) (us := [.int .i64 (IntKind.i64.wrap ((p0_windows.length : Int) - 1))]) hf hs rfl rfl rfl rfl rfl rfl ti2 rfl rfl rfl (Nat.le_of_ble_eq_true rfl) rfl ?_; clear hs; intro w hs
        have hs : St [] W w [.blk b65 2 [.int .i64 (IntKind.i64.wrap ((p0_windows.length : Int) - 1))]] := hs
        refine wpO_nil ?_
        refine wpL_seq ?_
        refine wpL_region ?_
        refine sY hf hs rfl rfl rfl (Y_move rfl rfl) ?_; clear hf; intro a hf
        refine sY hf hs rfl rfl rfl (Y_makeFunc (us := []) (vs := [.pointer (some ⟨b65, 0, none⟩)]) rfl rfl rfl) ?_; clear hf; intro a hf
        obtain ⟨r66, hc67, hm⟩ := bind_some hm
        refine sCall hf rfl rfl rfl rfl (cap := []) rfl rfl en142 (slices_ContainsFunc_Bond_ok F p1_bonds A_p1_bonds_1 p1_bonds.length c_p1_bonds_1 rfl (fun x0 => impl_IsTask_c1 F x0 (IntKind.i64.wrap ((p0_windows.length : Int) - 1))) 143 ([.pointer (some ⟨b65, 0, none⟩)]) _ _ hc67 (h_p1_bonds_1.at hs) (fun x0 r w' hm_ hb => impl_IsTask_c1_ok F x0 b65 (IntKind.i64.wrap ((p0_windows.length : Int) - 1)) r w' hm_ ((hs.pb (i := 0) rfl).below hb (Nat.le_refl _))) en143) ?_; clear hf
        rintro _ w ⟨rfl, hs1⟩ a hf
        have hs : St [] W w [.blk b65 2 [.int .i64 (IntKind.i64.wrap ((p0_windows.length : Int) - 1))]] := hs.ext hs1.below
        clear hs1
        refine sY hf hs rfl rfl rfl (Y_not rfl rfl) ?_; clear hf; intro a hf
        refine sY hf hs rfl rfl rfl (Y_assign rfl rfl) ?_; clear hf; intro a hf
        refine wpO_nil ?_
        obtain rfl := Option.some.inj hm
        refine wpL_ret (ret_tmp rfl hf rfl ?_)
        exact ⟨_, rfl, rfl, hs.sel [] (by decide)⟩

set_option maxRecDepth 100000 in
theorem impl_matrixBy_ok (F : Nat) (p0_m : Int) (p1_n : Int) (m_p2_entry : Int → Int → Option Int) (f_p2_entry : FuncId) (k_p2_entry : List Value) (r : List (List Int)) (W : World) (hm : impl_matrixBy F p0_m p1_n m_p2_entry = some r) (h_p2_entry : ∀ (x0 : Int) (x1 : Int) (r : Int) (w : World), m_p2_entry x0 x1 = some r → Below W.heap.size W w → Calls Try.prog f_p2_entry (([.int .i64 x0, .int .i64 x1] : List Value) ++ k_p2_entry).toArray w fun e w' => ∃ v, e = .returned v ∧ v = .int .i64 r ∧ St [] w w' []) (e_p2_entry : En Try.prog f_p2_entry) :
    Calls Try.prog 168 [.int .i64 p0_m, .int .i64 p1_n, .func (.func f_p2_entry) #[] k_p2_entry.toArray].toArray W fun e w' => ∃ v, e = .returned v ∧ ∃ A641, ∃ n642, ∃ c643, ∃ vs645, v = .slice A641 n642 c643 ∧ n642 = r.length ∧ St [] W w' [.mat A641 n642 c643 36 2 vs645 r] := by
  unfold impl_matrixBy at hm
  refine Calls.enter (N := 43) Try.func168 rfl rfl rfl (fun a hf => ?_)
  have hs := St.start W
  obtain ⟨w, hw_⟩ : ∃ w, w = W := ⟨W, rfl⟩
  clear hw_ w
  refine wpL_seq ?_
  refine wpL_region ?_
  refine sY hf hs rfl rfl rfl (Y_assign rfl rfl) ?_; clear hf; intro a hf
  refine wpO_nil ?_
  refine wpL_seq ?_
  refine wpL_region ?_
  refine sY hf hs rfl rfl rfl (Y_move rfl rfl) ?_; clear hf; intro a hf
  obtain ⟨ms3, hk2, hm⟩ := bind_some hm
  refine sMakeM 2 hf hs rfl rfl rfl rfl rfl hk2 el34 ti36 rfl ?_; clear hf hs; intro a w A1 vs4 hs hf
  have hs : St [] W w [.mat A1 ms3.length ms3.length 36 2 vs4 ms3] := hs
  refine sY hf hs rfl rfl rfl (Y_assign rfl rfl) ?_; clear hf; intro a hf
  refine wpO_nil ?_
  refine wpL_seq ?_
  refine wpL_seq ?_
  refine wpL_region ?_
  refine sY hf hs rfl rfl rfl (Y_move rfl rfl) ?_; clear hf; intro a hf
  refine sY hf hs rfl rfl rfl (Y_lenH rfl rfl el34 rfl) ?_; clear hf; intro a hf
  refine sY hf hs rfl rfl rfl (Y_move rfl rfl) ?_; clear hf; intro a hf
  refine wpO_nil ?_
  obtain ⟨r484, hl485, hm⟩ := bind_some hm
  refine wpL_block (fun a w => ∃ ms478 : List (List Int), ∃ A479, ∃ n480, ∃ c481, ∃ vs483, ms478 = r484 ∧ n480 = ms478.length ∧ Fr a 43 [(7, .slice A479 n480 c481)] ∧ St [] W w [.mat A479 n480 c481 36 2 vs483 ms478]) ?_ ?_
  · refine wpL_loop (fun n a w => ∃ ms318 : List (List Int), ∃ x324 : Int, ∃ A319, ∃ n320, ∃ c321, ∃ vs323, impl_matrixBy_L4 F p1_n m_p2_entry ms3 n ms318 x324 = some r484 ∧ n320 = ms318.length ∧ Fr a 43 [(1, .int .i64 p1_n), (2, .func (.func f_p2_entry) #[] k_p2_entry.toArray), (7, .slice A319 n320 c321), (13, .int .i64 (ms3.length : Int)), (14, .int .i64 x324)] ∧ St [] W w [.mat A319 n320 c321 36 2 vs323 ms318]) F ?_ ?_ ?_
    · exact ⟨ms3, 0, A1, ms3.length, ms3.length, vs4, hl485, rfl, (Fr.pick (Fr.pick (Fr.pick (Fr.pick (Fr.pick hf.none hf rfl) hf rfl) hf rfl) hf rfl) hf rfl), hs⟩
    · rintro a w ⟨ms318, x324, A319, n320, c321, vs323, h0_, -, -, -⟩; simp [impl_matrixBy_L4] at h0_
    · rintro n487 a w ⟨ms318, x324, A319, n320, c321, vs323, hm486, hn322, hf, hs⟩
      rw [impl_matrixBy_L4] at hm486
      refine wpL_seq ?_
      refine wpL_region ?_
      refine sY hf hs rfl rfl rfl (Y_lss rfl rfl rfl) ?_; clear hf; intro a hf
      refine wpO_nil ?_
      refine wpL_seq ?_
      refine wpL_cond hf rfl (fun hb488 => ?_) (fun hb488 => ?_)
      · have hm486 := bif_t hm486 hb488
        refine wpL_skip ?_
        refine wpL_seq ?_
        refine wpL_block0 ?_
        refine wpL_seq ?_
        refine wpL_region ?_
        refine sY hf hs rfl rfl rfl (Y_move rfl rfl) ?_; clear hf; intro a hf
        refine sY hf hs rfl rfl rfl (Y_assign rfl rfl) ?_; clear hf; intro a hf
        refine wpO_nil ?_
        refine wpL_seq ?_
        refine wpL_region ?_
        refine sY hf hs rfl rfl rfl (Y_move rfl rfl) ?_; clear hf; intro a hf
        refine sY hf hs rfl rfl rfl (Y_move rfl rfl) ?_; clear hf; intro a hf
        refine sY hf hs rfl rfl rfl (Y_move rfl rfl) ?_; clear hf; intro a hf
        obtain ⟨xs491, hk490, hm486⟩ := bind_some hm486
        refine sMakeL (enc := ints) hf hs rfl rfl rfl rfl rfl hk490 el36 ti2 rfl ints_made ?_; clear hf hs; intro a w A489 hs hf
        have hs : St [] W w [.mat A319 n320 c321 36 2 vs323 ms318, .row A489 xs491.length xs491.length 2 1 (ints xs491)] := hs
        obtain ⟨q492, hi493, hm486⟩ := bind_some hm486
        obtain ⟨hi493a, hi493b, hi493q⟩ := idx_some hi493
        obtain ⟨A494, c495, hv496⟩ := hs.matRow (i := 0) rfl hi493q
        refine sY hf hs rfl rfl rfl (Y_index rfl rfl rfl el34 ti36 (Rd.isAt (hs.rdV (i := 0) rfl) hv496) hi493a (ltn hn322 hi493b)) ?_; clear hf; intro a hf
        obtain ⟨ms497, hu498, hm486⟩ := bind_some hm486
        refine sStoreRowM (i := 0) (j := 1) (k := x324) hf hs rfl rfl rfl rfl rfl rfl rfl (by decide) rfl hu498 ti36 ?_; clear hs; intro w vs499 hs
        have hs : St [] W w [.mat A319 n320 c321 36 2 vs499 ms497] := hs
        refine wpO_nil ?_
        refine wpL_seq ?_
        refine wpL_region ?_
        refine sY hf hs rfl rfl rfl (Y_move rfl rfl) ?_; clear hf; intro a hf
        refine sY hf hs rfl rfl rfl (Y_move rfl rfl) ?_; clear hf; intro a hf
        obtain ⟨q500, hi501, hm486⟩ := bind_some hm486
        obtain ⟨hi501a, hi501b, hi501q⟩ := idx_some hi501
        obtain ⟨A502, c503, hv504⟩ := hs.matRow (i := 0) rfl hi501q
        refine sY hf hs rfl rfl rfl (Y_index rfl rfl rfl el34 ti36 (Rd.isAt (hs.rdV (i := 0) rfl) hv504) hi501a (ltn ((hn322).trans (upd_len hu498).symm) hi501b)) ?_; clear hf; intro a hf
        refine sY hf hs rfl rfl rfl (Y_load_rd rfl rfl (fun w hs => hs.rdV (i := 0) rfl) (at1 hv504) ag36) ?_; clear hf; intro a hf
        refine sY hf hs rfl rfl rfl (Y_lenH rfl rfl el36 rfl) ?_; clear hf; intro a hf
        refine sY hf hs rfl rfl rfl (Y_move rfl rfl) ?_; clear hf; intro a hf
        refine wpO_nil ?_
        obtain ⟨r606, hl607, hm486⟩ := bind_some hm486
        refine wpL_block (fun a w => ∃ ms604 : List (List Int), ms604 = r606 ∧ n320 = ms604.length ∧ Fr a 43 [(1, .int .i64 p1_n), (2, .func (.func f_p2_entry) #[] k_p2_entry.toArray), (7, .slice A319 n320 c321), (13, .int .i64 (ms3.length : Int)), (14, .int .i64 x324)] ∧ St [] W w [.mat A319 n320 c321 36 2 vs499 ms604]) ?_ ?_
        · refine wpL_loop (fun n a w => ∃ ms570 : List (List Int), ∃ x572 : Int, impl_matrixBy_L5 F m_p2_entry x324 q500 n ms570 x572 = some r606 ∧ n320 = ms570.length ∧ Fr a 43 [(1, .int .i64 p1_n), (2, .func (.func f_p2_entry) #[] k_p2_entry.toArray), (7, .slice A319 n320 c321), (8, .int .i64 x324), (13, .int .i64 (ms3.length : Int)), (14, .int .i64 x324), (26, .int .i64 (q500.length : Int)), (27, .int .i64 x572)] ∧ St [] W w [.mat A319 n320 c321 36 2 vs499 ms570]) F ?_ ?_ ?_
          · exact ⟨ms497, 0, hl607, ((hn322).trans (upd_len hu498).symm), (Fr.pick (Fr.pick (Fr.pick (Fr.pick (Fr.pick (Fr.pick (Fr.pick (Fr.pick hf.none hf rfl) hf rfl) hf rfl) hf rfl) hf rfl) hf rfl) hf rfl) hf rfl), hs⟩
          · rintro a w ⟨ms570, x572, h0_, -, -, -⟩; simp [impl_matrixBy_L5] at h0_
          · rintro n609 a w ⟨ms570, x572, hm608, hn571, hf, hs⟩
            rw [impl_matrixBy_L5] at hm608
            refine wpL_seq ?_
            refine wpL_region ?_
            refine sY hf hs rfl rfl rfl (Y_lss rfl rfl rfl) ?_; clear hf; intro a hf
            refine wpO_nil ?_
            refine wpL_seq ?_
            refine wpL_cond hf rfl (fun hb610 => ?_) (fun hb610 => ?_)
            · have hm608 := bif_t hm608 hb610
              refine wpL_skip ?_
              refine wpL_seq ?_
              refine wpL_block0 ?_
              refine wpL_seq ?_
              refine wpL_region ?_
              refine sY hf hs rfl rfl rfl (Y_move rfl rfl) ?_; clear hf; intro a hf
              refine sY hf hs rfl rfl rfl (Y_assign rfl rfl) ?_; clear hf; intro a hf
              refine wpO_nil ?_
              refine wpL_drawG [.mat A319 n320 c321 36 2 vs499 ms570] 10 (by kernel_rfl) hs ?_; clear hs; intro w hs
              have hs0 : St [] W w [.mat A319 n320 c321 36 2 vs499 ms570] := hs
              refine gY (i := 0) [] rfl (by kernel_rfl) (by kernel_rfl) hf hs0 rfl rfl rfl (Y_move rfl rfl) ?_; clear hf; intro a hf
              refine gY (i := 1) [] rfl (by kernel_rfl) (by kernel_rfl) hf hs0 rfl rfl rfl (Y_move rfl rfl) ?_; clear hf; intro a hf
              obtain ⟨q626, hi627, hm608⟩ := bind_some hm608
              obtain ⟨hi627a, hi627b, hi627q⟩ := idx_some hi627
              obtain ⟨A628, c629, hv630⟩ := hs0.matRow (i := 0) rfl hi627q
              refine gY (i := 2) [] rfl (by kernel_rfl) (by kernel_rfl) hf hs0 rfl rfl rfl (Y_index rfl rfl rfl el34 ti36 (Rd.isAt (hs0.rdV (i := 0) rfl) hv630) hi627a (ltn hn571 hi627b)) ?_; clear hf; intro a hf
              refine gY (i := 3) [] rfl (by kernel_rfl) (by kernel_rfl) hf hs0 rfl rfl rfl (Y_load_rd rfl rfl (fun w hs => hs.rdV (i := 0) rfl) (at1 hv630) ag36) ?_; clear hf; intro a hf
              refine gY (i := 4) [] rfl (by kernel_rfl) (by kernel_rfl) hf hs0 rfl rfl rfl (Y_move rfl rfl) ?_; clear hf; intro a hf
              refine gY (i := 5) [] rfl (by kernel_rfl) (by kernel_rfl) hf hs0 rfl rfl rfl (Y_move rfl rfl) ?_; clear hf; intro a hf
              refine gY (i := 6) [] rfl (by kernel_rfl) (by kernel_rfl) hf hs0 rfl rfl rfl (Y_move rfl rfl) ?_; clear hf; intro a hf
              refine gY (i := 7) [] rfl (by kernel_rfl) (by kernel_rfl) hf hs0 rfl rfl rfl (Y_move rfl rfl) ?_; clear hf; intro a hf
              refine gRun (i := 8) rfl (by kernel_rfl) ?_
              obtain ⟨r631, hc632, hm608⟩ := bind_some hm608
              refine sCall hf rfl rfl rfl rfl (cap := k_p2_entry) rfl rfl e_p2_entry (h_p2_entry x324 x572 _ _ hc632 hs.below) ?_; clear hf; rintro _ w ⟨rfl, hs1⟩ a hf; have hs := hs.ext hs1.below; clear hs1
              have hs0 : St [] W w [.mat A319 n320 c321 36 2 vs499 ms570] := hs
              refine wpO_nil ⟨Or.inr hs0, ?_⟩
              obtain ⟨q633, hi634, hm608⟩ := bind_some hm608
              obtain ⟨hi634a, hi634b, hi634q⟩ := idx_some hi634
              refine gY (i := 9) [] rfl (by kernel_rfl) (by kernel_rfl) hf hs0 rfl rfl rfl (Y_index rfl rfl rfl el36 ti2 (Rd.isAt (hs0.rdRow (i := 0) rfl ⟨hi627q, hv630⟩) (at1 (ints_at hi634q))) hi634a hi634b) ?_; clear hf; intro a hf
              refine gRun (i := 10) rfl (by kernel_rfl) ?_
              obtain ⟨xs635, hu637, hm608⟩ := bind_some hm608
              obtain ⟨ms636, hu638, hm608⟩ := bind_some hm608
              refine sStoreM (i := 0) (k := x324) hf hs rfl rfl rfl rfl rfl rfl hi627q hv630 rfl hu637 hu638 ti2 ?_; clear hs; intro w hs
              obtain ⟨hq639, hv640⟩ := rowUpd hu637 hu638 hv630
              have hs : St [] W w [.mat A319 n320 c321 36 2 vs499 ms636] := hs
              refine wpO_nil ⟨Or.inl rfl, ?_⟩
              refine gDone (by kernel_rfl) ?_
              clear hs0
              refine wpL_nil (Qb_normal ?_)
              refine wpL_region ?_
              refine sY hf hs rfl rfl rfl (Y_add rfl rfl rfl) ?_; clear hf; intro a hf
              refine sY hf hs rfl rfl rfl (Y_move rfl rfl) ?_; clear hf; intro a hf
              refine wpO_nil ?_
              refine wpL_nil (Ql_normal ?_)
              exact ⟨ms636, (IntKind.i64.wrap (x572 + 1)), hm608, ((hn571).trans (upd_len hu638).symm), (Fr.pick (Fr.pick (Fr.pick (Fr.pick (Fr.pick (Fr.pick (Fr.pick (Fr.pick hf.none hf rfl) hf rfl) hf rfl) hf rfl) hf rfl) hf rfl) hf rfl) hf rfl), hs⟩
            · have hm608 := bif_f hm608 hb610
              refine wpL_exit (Ql_exit (Qb_exit ?_))
              exact ⟨ms570, Option.some.inj hm608, hn571, (Fr.pick (Fr.pick (Fr.pick (Fr.pick (Fr.pick hf.none hf rfl) hf rfl) hf rfl) hf rfl) hf rfl), hs⟩
        · rintro a w ⟨ms604, hr_, hn605, hf, hs⟩
          subst hr_
          try dsimp only at hm486
          refine wpL_nil (Qb_normal ?_)
          refine wpL_region ?_
          refine sY hf hs rfl rfl rfl (Y_add rfl rfl rfl) ?_; clear hf; intro a hf
          refine sY hf hs rfl rfl rfl (Y_move rfl rfl) ?_; clear hf; intro a hf
          refine wpO_nil ?_
          refine wpL_nil (Ql_normal ?_)
          exact ⟨ms604, (IntKind.i64.wrap (x324 + 1)), A319, n320, c321, vs499, hm486, hn605, (Fr.pick (Fr.pick (Fr.pick (Fr.pick (Fr.pick hf.none hf rfl) hf rfl) hf rfl) hf rfl) hf rfl), hs⟩
      · have hm486 := bif_f hm486 hb488
        refine wpL_exit (Ql_exit (Qb_exit ?_))
        exact ⟨ms318, A319, n320, c321, vs323, Option.some.inj hm486, hn322, (Fr.pick hf.none hf rfl), hs⟩
  · rintro a w ⟨ms478, A479, n480, c481, vs483, hr_, hn482, hf, hs⟩
    subst hr_
    try dsimp only at hm
    refine wpL_seq ?_
    refine wpL_region ?_
    refine sY hf hs rfl rfl rfl (Y_move rfl rfl) ?_; clear hf; intro a hf
    refine sY hf hs rfl rfl rfl (Y_assign rfl rfl) ?_; clear hf; intro a hf
    refine wpO_nil ?_
    obtain rfl := Option.some.inj hm
    refine wpL_ret (ret_tmp rfl hf rfl ?_)
    exact ⟨_, rfl, A479, n480, c481, vs483, rfl, hn482, hs⟩

set_option maxRecDepth 100000 in
theorem impl_bottomMatrix_c1_ok (F : Nat) (p0 : Int) (p1 : Int) (r : Int) (W : World) (hm : impl_bottomMatrix_c1 F p0 p1 = some r) :
    Calls Try.prog 171 [.int .i64 p0, .int .i64 p1].toArray W fun e w' => ∃ v, e = .returned v ∧ v = .int .i64 r ∧ St [] W w' [] := by
  unfold impl_bottomMatrix_c1 at hm
  refine Calls.enter (N := 5) Try.func171 rfl rfl rfl (fun a hf => ?_)
  have hs := St.start W
  obtain ⟨w, hw_⟩ : ∃ w, w = W := ⟨W, rfl⟩
  clear hw_ w
  refine wpL_seq ?_
  refine wpL_region ?_
  refine sY hf hs rfl rfl rfl (Y_assign rfl rfl) ?_; clear hf; intro a hf
  refine wpO_nil ?_
  refine wpL_seq ?_
  refine wpL_region ?_
  refine sY hf hs rfl rfl rfl (Y_assign rfl rfl) ?_; clear hf; intro a hf
  refine wpO_nil ?_
  obtain rfl := Option.some.inj hm
  refine wpL_ret (ret_tmp rfl hf rfl ?_)
  exact ⟨_, rfl, rfl, hs⟩

set_option maxRecDepth 100000 in
theorem impl_bottomMatrix_ok (F : Nat) (p0_m : Int) (p1_n : Int) (r : List (List Int)) (W : World) (hm : impl_bottomMatrix F p0_m p1_n = some r) :
    Calls Try.prog 138 [.int .i64 p0_m, .int .i64 p1_n].toArray W fun e w' => ∃ v, e = .returned v ∧ ∃ A8, ∃ n9, ∃ c10, ∃ vs12, v = .slice A8 n9 c10 ∧ n9 = r.length ∧ St [] W w' [.mat A8 n9 c10 36 2 vs12 r] := by
  unfold impl_bottomMatrix at hm
  refine Calls.enter (N := 8) Try.func138 rfl rfl rfl (fun a hf => ?_)
  have hs := St.start W
  obtain ⟨w, hw_⟩ : ∃ w, w = W := ⟨W, rfl⟩
  clear hw_ w
  refine wpL_seq ?_
  refine wpL_region ?_
  refine sY hf hs rfl rfl rfl (Y_assign rfl rfl) ?_; clear hf; intro a hf
  refine wpO_nil ?_
  refine wpL_seq ?_
  refine wpL_region ?_
  refine sY hf hs rfl rfl rfl (Y_move rfl rfl) ?_; clear hf; intro a hf
  refine sY hf hs rfl rfl rfl (Y_move rfl rfl) ?_; clear hf; intro a hf
  obtain ⟨r1, hc2, hm⟩ := bind_some hm
  refine sCall hf rfl rfl rfl rfl (cap := []) rfl rfl en168 (impl_matrixBy_ok F p0_m p1_n (fun x0 x1 => impl_bottomMatrix_c1 F x0 x1) 171 [] _ _ hc2 (fun x0 x1 r w' hm_ hb => impl_bottomMatrix_c1_ok F x0 x1 r w' hm_ ) en171) ?_; clear hf
  rintro _ w ⟨A3, n4, c5, vs7, rfl, hn6, hs1⟩ a hf
  have hs : St [] W w [.mat A3 n4 c5 36 2 vs7 r1] := hs.join hs1
  clear hs1
  refine sY hf hs rfl rfl rfl (Y_assign rfl rfl) ?_; clear hf; intro a hf
  refine wpO_nil ?_
  obtain rfl := Option.some.inj hm
  refine wpL_ret (ret_tmp rfl hf rfl ?_)
  exact ⟨_, rfl, A3, n4, c5, vs7, rfl, hn6, hs⟩

set_option maxRecDepth 100000 in
theorem impl_bondMatrix_ok (F : Nat) (p0_windows : List GWindow) (A_p0_windows_1 : Option Addr) (n_p0_windows_1 c_p0_windows_1 : Nat) (hn_p0_windows_1 : n_p0_windows_1 = p0_windows.length) (p1_bonds : List GBond) (A_p1_bonds_1 : Option Addr) (n_p1_bonds_1 c_p1_bonds_1 : Nat) (hn_p1_bonds_1 : n_p1_bonds_1 = p1_bonds.length) (r : List (List Int)) (W : World) (hm : impl_bondMatrix F p0_windows p1_bonds = some r) (_h_p0_windows_1 : Rd W A_p0_windows_1 ((recs GWindow.cells) p0_windows)) (h_p1_bonds_1 : Rd W A_p1_bonds_1 ((recs GBond.cells) p1_bonds)) :
    Calls Try.prog 98 [.slice A_p0_windows_1 n_p0_windows_1 c_p0_windows_1, .slice A_p1_bonds_1 n_p1_bonds_1 c_p1_bonds_1].toArray W fun e w' => ∃ v, e = .returned v ∧ ∃ A196, ∃ n197, ∃ c198, ∃ vs200, v = .slice A196 n197 c198 ∧ n197 = r.length ∧ St [] W w' [.mat A196 n197 c198 36 2 vs200 r] := by
  subst hn_p0_windows_1
  subst hn_p1_bonds_1
  unfold impl_bondMatrix at hm
  refine Calls.enter (N := 41) Try.func98 rfl rfl rfl (fun a hf => ?_)
  have hs := St.start W
  obtain ⟨w, hw_⟩ : ∃ w, w = W := ⟨W, rfl⟩
  clear hw_ w
  refine wpL_seq ?_
  refine wpL_region ?_
  refine sY hf hs rfl rfl rfl (Y_assign rfl rfl) ?_; clear hf; intro a hf
  refine wpO_nil ?_
  refine wpL_seq ?_
  refine wpL_region ?_
  refine sY hf hs rfl rfl rfl (Y_move rfl rfl) ?_; clear hf; intro a hf
  refine sY hf hs rfl rfl rfl (Y_lenH rfl rfl el53 rfl) ?_; clear hf; intro a hf
  refine sY hf hs rfl rfl rfl (Y_move rfl rfl) ?_; clear hf; intro a hf
  refine sY hf hs rfl rfl rfl (Y_lenH rfl rfl el53 rfl) ?_; clear hf; intro a hf
  obtain ⟨r1, hc2, hm⟩ := bind_some hm
  refine sCall hf rfl rfl rfl rfl (cap := []) rfl rfl en138 (impl_bottomMatrix_ok F (p0_windows.length : Int) (p0_windows.length : Int) _ _ hc2) ?_; clear hf
  rintro _ w ⟨A3, n4, c5, vs7, rfl, hn6, hs1⟩ a hf
  have hs : St [] W w [.mat A3 n4 c5 36 2 vs7 r1] := hs.join hs1
  clear hs1
  refine sY hf hs rfl rfl rfl (Y_assign rfl rfl) ?_; clear hf; intro a hf
  refine wpO_nil ?_
  refine wpL_seq ?_
  refine wpL_seq ?_
  refine wpL_region ?_
  refine sY hf hs rfl rfl rfl (Y_move rfl rfl) ?_; clear hf; intro a hf
  refine sY hf hs rfl rfl rfl (Y_lenH rfl rfl el55 rfl) ?_; clear hf; intro a hf
  refine sY hf hs rfl rfl rfl (Y_move rfl rfl) ?_; clear hf; intro a hf
  refine wpO_nil ?_
  obtain ⟨r148, hl149, hm⟩ := bind_some hm
  refine wpL_block (fun a w => ∃ ms146 : List (List Int), ms146 = r148 ∧ n4 = ms146.length ∧ Fr a 41 [(5, .slice A3 n4 c5)] ∧ St [] W w [.mat A3 n4 c5 36 2 vs7 ms146]) ?_ ?_
  · refine wpL_loop (fun n a w => ∃ ms99 : List (List Int), ∃ x101 : Int, impl_bondMatrix_L1 F p1_bonds n ms99 x101 = some r148 ∧ n4 = ms99.length ∧ Fr a 41 [(5, .slice A3 n4 c5), (13, .slice A_p1_bonds_1 p1_bonds.length c_p1_bonds_1), (14, .int .i64 (p1_bonds.length : Int)), (15, .int .i64 x101)] ∧ St [] W w [.mat A3 n4 c5 36 2 vs7 ms99]) F ?_ ?_ ?_
    · exact ⟨r1, 0, hl149, hn6, (Fr.pick (Fr.pick (Fr.pick (Fr.pick hf.none hf rfl) hf rfl) hf rfl) hf rfl), hs⟩
    · rintro a w ⟨ms99, x101, h0_, -, -, -⟩; simp [impl_bondMatrix_L1] at h0_
    · rintro n151 a w ⟨ms99, x101, hm150, hn100, hf, hs⟩
      rw [impl_bondMatrix_L1] at hm150
      refine wpL_seq ?_
      refine wpL_region ?_
      refine sY hf hs rfl rfl rfl (Y_lss rfl rfl rfl) ?_; clear hf; intro a hf
      refine wpO_nil ?_
      refine wpL_seq ?_
      refine wpL_cond hf rfl (fun hb152 => ?_) (fun hb152 => ?_)
      · have hm150 := bif_t hm150 hb152
        refine wpL_skip ?_
        refine wpL_seq ?_
        refine wpL_block0 ?_
        refine wpL_seq ?_
        refine wpL_region ?_
        obtain ⟨q153, hi154, hm150⟩ := bind_some hm150
        obtain ⟨hi154a, hi154b, hi154q⟩ := idx_some hi154
        refine sY hf hs rfl rfl rfl (Y_index rfl rfl rfl el55 ti107 (Rd.isAt (h_p1_bonds_1.at hs) (recs_at (s := 3) GBond.len hi154q (j := 0) rfl)) hi154a hi154b) ?_; clear hf; intro a hf
        refine sY hf hs rfl rfl rfl (Y_load_rdS rfl rfl (us := [.int .i64 q153.From, .int .i64 q153.To, .int .i64 q153.Least]) (fun w hs => h_p1_bonds_1.at hs) (fun j u hj => recs_at (s := 3) GBond.len hi154q hj) (Nat.succ_pos _) ag107 ti107 rfl) ?_; clear hf; intro a hf
        refine sAlloc hf hs rfl rfl rfl rfl ti107 ?_; clear hf hs; intro a w b155 hs hf
        have hs : St [] W w [.mat A3 n4 c5 36 2 vs7 ms99, .blk b155 107 [.int .i64 0, .int .i64 0, .int .i64 0]] := hs
        refine sStore (i := 1) (us := [.int .i64 q153.From, .int .i64 q153.To, .int .i64 q153.Least]) hf hs rfl rfl rfl rfl rfl rfl ti107 rfl rfl rfl (Nat.le_of_ble_eq_true rfl) rfl ?_; clear hs; intro w hs
        have hs : St [] W w [.mat A3 n4 c5 36 2 vs7 ms99, .blk b155 107 [.int .i64 q153.From, .int .i64 q153.To, .int .i64 q153.Least]] := hs
        refine wpO_nil ?_
        refine wpL_drawG [.mat A3 n4 c5 36 2 vs7 ms99, .blk b155 107 [.int .i64 q153.From, .int .i64 q153.To, .int .i64 q153.Least]] 20 (by kernel_rfl) hs ?_; clear hs; intro w hs
        have hs0 : St [] W w [.mat A3 n4 c5 36 2 vs7 ms99, .blk b155 107 [.int .i64 q153.From, .int .i64 q153.To, .int .i64 q153.Least]] := hs
        refine gY (i := 0) [] rfl (by kernel_rfl) (by kernel_rfl) hf hs0 rfl rfl rfl (Y_move rfl rfl) ?_; clear hf; intro a hf
        refine gY (i := 1) [] rfl (by kernel_rfl) (by kernel_rfl) hf hs0 rfl rfl rfl (Y_fieldAddr rfl rfl fo107_1) ?_; clear hf; intro a hf
        refine gY (i := 2) [] rfl (by kernel_rfl) (by kernel_rfl) hf hs0 rfl rfl rfl (Y_load_blk rfl rfl (i := 1) rfl rfl ag2) ?_; clear hf; intro a hf
        obtain ⟨q176, hi177, hm150⟩ := bind_some hm150
        obtain ⟨hi177a, hi177b, hi177q⟩ := idx_some hi177
        obtain ⟨A178, c179, hv180⟩ := hs0.matRow (i := 0) rfl hi177q
        refine gY (i := 3) [] rfl (by kernel_rfl) (by kernel_rfl) hf hs0 rfl rfl rfl (Y_index rfl rfl rfl el34 ti36 (Rd.isAt (hs0.rdV (i := 0) rfl) hv180) hi177a (ltn hn100 hi177b)) ?_; clear hf; intro a hf
        refine gY (i := 4) [] rfl (by kernel_rfl) (by kernel_rfl) hf hs0 rfl rfl rfl (Y_load_rd rfl rfl (fun w hs => hs.rdV (i := 0) rfl) (at1 hv180) ag36) ?_; clear hf; intro a hf
        refine gY (i := 5) [] rfl (by kernel_rfl) (by kernel_rfl) hf hs0 rfl rfl rfl (Y_fieldAddr rfl rfl fo107_0) ?_; clear hf; intro a hf
        refine gY (i := 6) [] rfl (by kernel_rfl) (by kernel_rfl) hf hs0 rfl rfl rfl (Y_load_blk rfl rfl (i := 1) rfl rfl ag2) ?_; clear hf; intro a hf
        refine gY (i := 7) [] rfl (by kernel_rfl) (by kernel_rfl) hf hs0 rfl rfl rfl (Y_move rfl rfl) ?_; clear hf; intro a hf
        refine gY (i := 8) [] rfl (by kernel_rfl) (by kernel_rfl) hf hs0 rfl rfl rfl (Y_fieldAddr rfl rfl fo107_1) ?_; clear hf; intro a hf
        refine gY (i := 9) [] rfl (by kernel_rfl) (by kernel_rfl) hf hs0 rfl rfl rfl (Y_load_blk rfl rfl (i := 1) rfl rfl ag2) ?_; clear hf; intro a hf
        obtain ⟨q181, hi182, hm150⟩ := bind_some hm150
        obtain ⟨hi182a, hi182b, hi182q⟩ := idx_some hi182
        obtain ⟨A183, c184, hv185⟩ := hs0.matRow (i := 0) rfl hi182q
        refine gY (i := 10) [] rfl (by kernel_rfl) (by kernel_rfl) hf hs0 rfl rfl rfl (Y_index rfl rfl rfl el34 ti36 (Rd.isAt (hs0.rdV (i := 0) rfl) hv185) hi182a (ltn hn100 hi182b)) ?_; clear hf; intro a hf
        refine gY (i := 11) [] rfl (by kernel_rfl) (by kernel_rfl) hf hs0 rfl rfl rfl (Y_load_rd rfl rfl (fun w hs => hs.rdV (i := 0) rfl) (at1 hv185) ag36) ?_; clear hf; intro a hf
        refine gY (i := 12) [] rfl (by kernel_rfl) (by kernel_rfl) hf hs0 rfl rfl rfl (Y_fieldAddr rfl rfl fo107_0) ?_; clear hf; intro a hf
        refine gY (i := 13) [] rfl (by kernel_rfl) (by kernel_rfl) hf hs0 rfl rfl rfl (Y_load_blk rfl rfl (i := 1) rfl rfl ag2) ?_; clear hf; intro a hf
        obtain ⟨q186, hi187, hm150⟩ := bind_some hm150
        obtain ⟨hi187a, hi187b, hi187q⟩ := idx_some hi187
        refine gY (i := 14) [] rfl (by kernel_rfl) (by kernel_rfl) hf hs0 rfl rfl rfl (Y_index rfl rfl rfl el36 ti2 (Rd.isAt (hs0.rdRow (i := 0) rfl ⟨hi182q, hv185⟩) (at1 (ints_at hi187q))) hi187a hi187b) ?_; clear hf; intro a hf
        refine gY (i := 15) [] rfl (by kernel_rfl) (by kernel_rfl) hf hs0 rfl rfl rfl (Y_load_rd rfl rfl (fun w hs => hs.rdRow (i := 0) rfl ⟨hi182q, hv185⟩) (at1 (ints_at hi187q)) ag2) ?_; clear hf; intro a hf
        refine gY (i := 16) [] rfl (by kernel_rfl) (by kernel_rfl) hf hs0 rfl rfl rfl (Y_fieldAddr rfl rfl fo107_2) ?_; clear hf; intro a hf
        refine gY (i := 17) [] rfl (by kernel_rfl) (by kernel_rfl) hf hs0 rfl rfl rfl (Y_load_blk rfl rfl (i := 1) rfl rfl ag2) ?_; clear hf; intro a hf
        refine gY (i := 18) [] rfl (by kernel_rfl) (by kernel_rfl) hf hs0 rfl rfl rfl (Y_max rfl rfl rfl) ?_; clear hf; intro a hf
        obtain ⟨q188, hi189, hm150⟩ := bind_some hm150
        obtain ⟨hi189a, hi189b, hi189q⟩ := idx_some hi189
        refine gY (i := 19) [] rfl (by kernel_rfl) (by kernel_rfl) hf hs0 rfl rfl rfl (Y_index rfl rfl rfl el36 ti2 (Rd.isAt (hs0.rdRow (i := 0) rfl ⟨hi177q, hv180⟩) (at1 (ints_at hi189q))) hi189a hi189b) ?_; clear hf; intro a hf
        refine gRun (i := 20) rfl (by kernel_rfl) ?_
        obtain ⟨xs190, hu192, hm150⟩ := bind_some hm150
        obtain ⟨ms191, hu193, hm150⟩ := bind_some hm150
        refine sStoreM (i := 0) (k := q153.To) hf hs rfl rfl rfl rfl rfl rfl hi177q hv180 rfl hu192 hu193 ti2 ?_; clear hs; intro w hs
        obtain ⟨hq194, hv195⟩ := rowUpd hu192 hu193 hv180
        have hs : St [] W w [.mat A3 n4 c5 36 2 vs7 ms191, .blk b155 107 [.int .i64 q153.From, .int .i64 q153.To, .int .i64 q153.Least]] := hs
        refine wpO_nil ⟨Or.inl rfl, ?_⟩
        refine gDone (by kernel_rfl) ?_
        clear hs0
        refine wpL_nil (Qb_normal ?_)
        refine wpL_region ?_
        refine sY hf hs rfl rfl rfl (Y_add rfl rfl rfl) ?_; clear hf; intro a hf
        refine sY hf hs rfl rfl rfl (Y_move rfl rfl) ?_; clear hf; intro a hf
        refine wpO_nil ?_
        refine wpL_nil (Ql_normal ?_)
        exact ⟨ms191, (IntKind.i64.wrap (x101 + 1)), hm150, ((hn100).trans (upd_len hu193).symm), (Fr.pick (Fr.pick (Fr.pick (Fr.pick hf.none hf rfl) hf rfl) hf rfl) hf rfl), hs.sel [0] (by decide)⟩
      · have hm150 := bif_f hm150 hb152
        refine wpL_exit (Ql_exit (Qb_exit ?_))
        exact ⟨ms99, Option.some.inj hm150, hn100, (Fr.pick hf.none hf rfl), hs⟩
  · rintro a w ⟨ms146, hr_, hn147, hf, hs⟩
    subst hr_
    try dsimp only at hm
    refine wpL_seq ?_
    refine wpL_region ?_
    refine sY hf hs rfl rfl rfl (Y_move rfl rfl) ?_; clear hf; intro a hf
    refine sY hf hs rfl rfl rfl (Y_assign rfl rfl) ?_; clear hf; intro a hf
    refine wpO_nil ?_
    obtain rfl := Option.some.inj hm
    refine wpL_ret (ret_tmp rfl hf rfl ?_)
    exact ⟨_, rfl, A3, n4, c5, vs7, rfl, hn147, hs⟩

set_option maxRecDepth 100000 in
theorem slices_IndexFunc_int64_ok (F : Nat) (p0_s : List Int) (A_p0_s_1 : Option Addr) (n_p0_s_1 c_p0_s_1 : Nat) (hn_p0_s_1 : n_p0_s_1 = p0_s.length) (m_p1_f : Int → Option Bool) (f_p1_f : FuncId) (k_p1_f : List Value) (r : Int) (W : World) (hm : slices_IndexFunc_int64 F p0_s m_p1_f = some r) (h_p0_s_1 : Rd W A_p0_s_1 (ints p0_s)) (h_p1_f : ∀ (x0 : Int) (r : Bool) (w : World), m_p1_f x0 = some r → Below W.heap.size W w → Calls Try.prog f_p1_f (([.int .i64 x0] : List Value) ++ k_p1_f).toArray w fun e w' => ∃ v, e = .returned v ∧ v = .bool r ∧ St [] w w' []) (e_p1_f : En Try.prog f_p1_f) :
    Calls Try.prog 189 [.slice A_p0_s_1 n_p0_s_1 c_p0_s_1, .func (.func f_p1_f) #[] k_p1_f.toArray].toArray W fun e w' => ∃ v, e = .returned v ∧ v = .int .i64 r ∧ St [] W w' [] := by
  subst hn_p0_s_1
  unfold slices_IndexFunc_int64 at hm
  refine Calls.enter (N := 19) Try.func189 rfl rfl rfl (fun a hf => ?_)
  have hs := St.start W
  obtain ⟨w, hw_⟩ : ∃ w, w = W := ⟨W, rfl⟩
  clear hw_ w
  refine wpL_seq ?_
  refine wpL_region ?_
  refine sY hf hs rfl rfl rfl (Y_assign rfl rfl) ?_; clear hf; intro a hf
  refine wpO_nil ?_
  refine wpL_seq ?_
  refine wpL_seq ?_
  refine wpL_region ?_
  refine sY hf hs rfl rfl rfl (Y_move rfl rfl) ?_; clear hf; intro a hf
  refine sY hf hs rfl rfl rfl (Y_lenH rfl rfl el36 rfl) ?_; clear hf; intro a hf
  refine sY hf hs rfl rfl rfl (Y_move rfl rfl) ?_; clear hf; intro a hf
  refine wpO_nil ?_
  obtain ⟨r21, hl22, hm⟩ := bind_some hm
  refine wpL_block (fun a w => Sum.inr () = r21 ∧ Fr a 19 [] ∧ St [] W w []) ?_ ?_
  · refine wpL_loop (fun n a w => ∃ x14 : Int, slices_IndexFunc_int64_L1 F p0_s m_p1_f n x14 = some r21 ∧ Fr a 19 [(0, .slice A_p0_s_1 p0_s.length c_p0_s_1), (1, .func (.func f_p1_f) #[] k_p1_f.toArray), (7, .int .i64 (p0_s.length : Int)), (8, .int .i64 x14)] ∧ St [] W w []) F ?_ ?_ ?_
    · exact ⟨0, hl22, (Fr.pick (Fr.pick (Fr.pick (Fr.pick hf.none hf rfl) hf rfl) hf rfl) hf rfl), hs⟩
    · rintro a w ⟨x14, h0_, -, -⟩; simp [slices_IndexFunc_int64_L1] at h0_
    · rintro n24 a w ⟨x14, hm23, hf, hs⟩
      rw [slices_IndexFunc_int64_L1] at hm23
      refine wpL_seq ?_
      refine wpL_region ?_
      refine sY hf hs rfl rfl rfl (Y_lss rfl rfl rfl) ?_; clear hf; intro a hf
      refine wpO_nil ?_
      refine wpL_seq ?_
      refine wpL_cond hf rfl (fun hb25 => ?_) (fun hb25 => ?_)
      · have hm23 := bif_t hm23 hb25
        refine wpL_skip ?_
        refine wpL_seq ?_
        refine wpL_block0 ?_
        refine wpL_seq ?_
        refine wpL_region ?_
        refine sY hf hs rfl rfl rfl (Y_move rfl rfl) ?_; clear hf; intro a hf
        refine sY hf hs rfl rfl rfl (Y_assign rfl rfl) ?_; clear hf; intro a hf
        refine wpO_nil ?_
        refine wpL_seq ?_
        refine wpL_region ?_
        refine sY hf hs rfl rfl rfl (Y_move rfl rfl) ?_; clear hf; intro a hf
        refine sY hf hs rfl rfl rfl (Y_move rfl rfl) ?_; clear hf; intro a hf
        refine sY hf hs rfl rfl rfl (Y_move rfl rfl) ?_; clear hf; intro a hf
        obtain ⟨q26, hi27, hm23⟩ := bind_some hm23
        obtain ⟨hi27a, hi27b, hi27q⟩ := idx_some hi27
        refine sY hf hs rfl rfl rfl (Y_index rfl rfl rfl el36 ti2 (Rd.isAt (h_p0_s_1.at hs) (at1 (ints_at hi27q))) hi27a hi27b) ?_; clear hf; intro a hf
        refine sY hf hs rfl rfl rfl (Y_load_rd rfl rfl (fun w hs => h_p0_s_1.at hs) (at1 (ints_at hi27q)) ag2) ?_; clear hf; intro a hf
        obtain ⟨r28, hc29, hm23⟩ := bind_some hm23
        refine sCall hf rfl rfl rfl rfl (cap := k_p1_f) rfl rfl e_p1_f (h_p1_f q26 _ _ hc29 hs.below) ?_; clear hf; rintro _ w ⟨rfl, hs1⟩ a hf; have hs := hs.ext hs1.below; clear hs1
        refine wpO_nil ?_
        refine wpL_cond hf rfl (fun hb30 => ?_) (fun hb30 => ?_)
        · have hm23 := bif_t hm23 hb30
          refine wpL_seq ?_
          refine wpL_region ?_
          refine sY hf hs rfl rfl rfl (Y_move rfl rfl) ?_; clear hf; intro a hf
          refine sY hf hs rfl rfl rfl (Y_assign rfl rfl) ?_; clear hf; intro a hf
          refine wpO_nil ?_
          obtain rfl := Option.some.inj hm23
          try dsimp only at hm
          obtain rfl := Option.some.inj hm
          refine wpL_ret (Qb_ret (Ql_ret (Qb_ret (ret_tmp rfl hf rfl ?_))))
          exact ⟨_, rfl, rfl, hs⟩
        · have hm23 := bif_f hm23 hb30
          refine wpL_skip ?_
          refine wpL_nil (Qb_normal ?_)
          refine wpL_region ?_
          refine sY hf hs rfl rfl rfl (Y_add rfl rfl rfl) ?_; clear hf; intro a hf
          refine sY hf hs rfl rfl rfl (Y_move rfl rfl) ?_; clear hf; intro a hf
          refine wpO_nil ?_
          refine wpL_nil (Ql_normal ?_)
          exact ⟨(IntKind.i64.wrap (x14 + 1)), hm23, (Fr.pick (Fr.pick (Fr.pick (Fr.pick hf.none hf rfl) hf rfl) hf rfl) hf rfl), hs⟩
      · have hm23 := bif_f hm23 hb25
        refine wpL_exit (Ql_exit (Qb_exit ?_))
        exact ⟨Option.some.inj hm23, hf.none, hs⟩
  · rintro a w ⟨hr_, hf, hs⟩
    subst hr_
    try dsimp only at hm
    refine wpL_seq ?_
    refine wpL_region ?_
    refine sY hf hs rfl rfl rfl (Y_assign rfl rfl) ?_; clear hf; intro a hf
    refine wpO_nil ?_
    obtain rfl := Option.some.inj hm
    refine wpL_ret (ret_tmp rfl hf rfl ?_)
    exact ⟨_, rfl, rfl, hs⟩

set_option maxRecDepth 100000 in
theorem slices_ContainsFunc_int64_ok (F : Nat) (p0_s : List Int) (A_p0_s_1 : Option Addr) (n_p0_s_1 c_p0_s_1 : Nat) (hn_p0_s_1 : n_p0_s_1 = p0_s.length) (m_p1_f : Int → Option Bool) (f_p1_f : FuncId) (k_p1_f : List Value) (r : Bool) (W : World) (hm : slices_ContainsFunc_int64 F p0_s m_p1_f = some r) (h_p0_s_1 : Rd W A_p0_s_1 (ints p0_s)) (h_p1_f : ∀ (x0 : Int) (r : Bool) (w : World), m_p1_f x0 = some r → Below W.heap.size W w → Calls Try.prog f_p1_f (([.int .i64 x0] : List Value) ++ k_p1_f).toArray w fun e w' => ∃ v, e = .returned v ∧ v = .bool r ∧ St [] w w' []) (e_p1_f : En Try.prog f_p1_f) :
    Calls Try.prog 183 [.slice A_p0_s_1 n_p0_s_1 c_p0_s_1, .func (.func f_p1_f) #[] k_p1_f.toArray].toArray W fun e w' => ∃ v, e = .returned v ∧ v = .bool r ∧ St [] W w' [] := by
  subst hn_p0_s_1
  unfold slices_ContainsFunc_int64 at hm
  refine Calls.enter (N := 9) Try.func183 rfl rfl rfl (fun a hf => ?_)
  have hs := St.start W
  obtain ⟨w, hw_⟩ : ∃ w, w = W := ⟨W, rfl⟩
  clear hw_ w
  refine wpL_seq ?_
  refine wpL_region ?_
  refine sY hf hs rfl rfl rfl (Y_assign rfl rfl) ?_; clear hf; intro a hf
  refine wpO_nil ?_
  refine wpL_seq ?_
  refine wpL_region ?_
  refine sY hf hs rfl rfl rfl (Y_move rfl rfl) ?_; clear hf; intro a hf
  refine sY hf hs rfl rfl rfl (Y_move rfl rfl) ?_; clear hf; intro a hf
  obtain ⟨r1, hc2, hm⟩ := bind_some hm
  refine sCall hf rfl rfl rfl rfl (cap := []) rfl rfl en189 (slices_IndexFunc_int64_ok F p0_s A_p0_s_1 p0_s.length c_p0_s_1 rfl m_p1_f f_p1_f k_p1_f _ _ hc2 (h_p0_s_1.at hs) (fun x0 r w' hm_ hb => h_p1_f x0 r w' hm_ (hs.below.trans (hb.mono hs.below.size))) e_p1_f) ?_; clear hf
  rintro _ w ⟨rfl, hs1⟩ a hf
  have hs : St [] W w [] := hs.ext hs1.below
  clear hs1
  refine sY hf hs rfl rfl rfl (Y_geq rfl rfl rfl) ?_; clear hf; intro a hf
  refine sY hf hs rfl rfl rfl (Y_assign rfl rfl) ?_; clear hf; intro a hf
  refine wpO_nil ?_
  obtain rfl := Option.some.inj hm
  refine wpL_ret (ret_tmp rfl hf rfl ?_)
  exact ⟨_, rfl, rfl, hs⟩

set_option maxRecDepth 100000 in
theorem impl_IsValue_ok (F : Nat) (p0_a : Int) (r : Bool) (W : World) (hm : impl_IsValue F p0_a = some r) :
    Calls Try.prog 185 [.int .i64 p0_a].toArray W fun e w' => ∃ v, e = .returned v ∧ v = .bool r ∧ St [] W w' [] := by
  unfold impl_IsValue at hm
  refine Calls.enter (N := 9) Try.func185 rfl rfl rfl (fun a hf => ?_)
  have hs := St.start W
  obtain ⟨w, hw_⟩ : ∃ w, w = W := ⟨W, rfl⟩
  clear hw_ w
  refine wpL_seq ?_
  refine wpL_region ?_
  refine sY hf hs rfl rfl rfl (Y_assign rfl rfl) ?_; clear hf; intro a hf
  refine wpO_nil ?_
  refine wpL_seq ?_
  obtain ⟨r5, hj6, hm⟩ := bind_some hm
  refine wpL_cut (fun a w => ∃ b4 : Bool, b4 = r5 ∧ Fr a 9 [(2, .bool b4)] ∧ St [] W w []) ?_ ?_
  · refine wpL_region ?_
    refine sY hf hs rfl rfl rfl (Y_move rfl rfl) ?_; clear hf; intro a hf
    refine sY hf hs rfl rfl rfl (Y_eql rfl rfl rfl) ?_; clear hf; intro a hf
    refine sY hf hs rfl rfl rfl (Y_move rfl rfl) ?_; clear hf; intro a hf
    refine bsplit (p0_a == (-1000000000000000)) (fun hb7 => ?_) (fun hb7 => ?_)
    · have hj6 := bif_t hj6 hb7
      refine sNo hf rfl rfl rfl (congrArg (fun b => some (Value.bool b)) hb7) rfl rfl rfl ?_; clear hf; intro a hf
      refine sNo hf rfl rfl rfl (congrArg (fun b => some (Value.bool b)) hb7) rfl rfl rfl ?_; clear hf; intro a hf
      refine sY hf hs rfl rfl rfl (Y_pickT rfl (congrArg (fun b => some (Value.bool b)) hb7) rfl) ?_; clear hf; intro a hf
      refine sY hf hs rfl rfl rfl (Y_assign rfl rfl) ?_; clear hf; intro a hf
      refine wpO_nil ?_
      refine wpL_nil (then_normal ?_)
      exact ⟨true, Option.some.inj hj6, (Fr.pick hf.none hf rfl), hs⟩
    · have hj6 := bif_f hj6 hb7
      refine sYg hf hs rfl rfl rfl (congrArg (fun b => some (Value.bool b)) hb7) rfl rfl rfl (Y_move rfl rfl) ?_; clear hf; intro a hf
      obtain ⟨r8, hc9, hj6⟩ := bind_some hj6
      refine sCallg hf rfl rfl rfl (congrArg (fun b => some (Value.bool b)) hb7) rfl rfl rfl rfl (cap := []) rfl rfl en144 (impl_isFinite_ok F p0_a _ _ hc9) ?_; clear hf
      rintro _ w ⟨rfl, hs1⟩ a hf
      have hs : St [] W w [] := hs.ext hs1.below
      clear hs1
      refine sY hf hs rfl rfl rfl (Y_pickF rfl (congrArg (fun b => some (Value.bool b)) hb7) rfl) ?_; clear hf; intro a hf
      refine sY hf hs rfl rfl rfl (Y_assign rfl rfl) ?_; clear hf; intro a hf
      refine wpO_nil ?_
      refine wpL_nil (then_normal ?_)
      exact ⟨r8, Option.some.inj hj6, (Fr.pick hf.none hf rfl), hs⟩
  · rintro a w ⟨b4, hr_, hf, hs⟩
    subst hr_
    try dsimp only at hm
    obtain rfl := Option.some.inj hm
    refine wpL_ret (ret_tmp rfl hf rfl ?_)
    exact ⟨_, rfl, rfl, hs⟩

end Go.Proofs.Ytmijmamolmoheaa
