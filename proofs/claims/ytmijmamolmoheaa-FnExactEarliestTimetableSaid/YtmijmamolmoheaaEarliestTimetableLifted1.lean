/- The functions do what their models say. -/
import Derived.Test.YtmijmamolmoheaaEarliestTimetableFacts
import Derived.Test.YtmijmamolmoheaaRows
namespace Go.Proofs.Ytmijmamolmoheaa
open Go.RowKit

set_option maxRecDepth 100000 in
theorem laws_szPlaceS_ok (F : Nat) (p0_a : List LPlace) (A_p0_a_1 : Option Addr) (n_p0_a_1 c_p0_a_1 : Nat) (hn_p0_a_1 : n_p0_a_1 = p0_a.length) (p1_left : Int) (r : Int) (W : World) (hm : laws_szPlaceS F p0_a p1_left = some r) (_h_p0_a_1 : Rd W A_p0_a_1 ((recs LPlace.cells) p0_a)) :
    Calls Try.prog 70 [.slice A_p0_a_1 n_p0_a_1 c_p0_a_1, .int .i64 p1_left].toArray W fun e w' => ∃ v, e = .returned v ∧ v = .int .i64 r ∧ St [] W w' [] := by
  subst hn_p0_a_1
  unfold laws_szPlaceS at hm
  refine Calls.enter (N := 12) Try.func70 rfl rfl rfl (fun a hf => ?_)
  have hs := St.start W
  obtain ⟨w, hw_⟩ : ∃ w, w = W := ⟨W, rfl⟩
  clear hw_ w
  refine wpL_seq ?_
  refine wpL_region ?_
  refine sY hf hs rfl rfl rfl (Y_assign rfl rfl) ?_; clear hf; intro a hf
  refine wpO_nil ?_
  refine wpL_seq ?_
  refine wpL_region ?_
  refine sY hf hs rfl rfl rfl (Y_move rfl rfl) ?_; clear hf; intro a hf
  refine sY hf hs rfl rfl rfl (Y_move rfl rfl) ?_; clear hf; intro a hf
  refine sY hf hs rfl rfl rfl (Y_lenH rfl rfl el22 rfl) ?_; clear hf; intro a hf
  refine sY hf hs rfl rfl rfl (Y_sub rfl rfl rfl) ?_; clear hf; intro a hf
  refine sY hf hs rfl rfl rfl (Y_assign rfl rfl) ?_; clear hf; intro a hf
  refine wpO_nil ?_
  refine wpL_seq ?_
  refine wpL_seq ?_
  refine wpL_region ?_
  refine sY hf hs rfl rfl rfl (Y_move rfl rfl) ?_; clear hf; intro a hf
  refine sY hf hs rfl rfl rfl (Y_lss rfl rfl rfl) ?_; clear hf; intro a hf
  refine wpO_nil ?_
  refine wpL_cond hf rfl (fun hb1 => ?_) (fun hb1 => ?_)
  · have hm := bif_t hm hb1
    refine wpL_seq ?_
    refine wpL_region ?_
    refine sY hf hs rfl rfl rfl (Y_assign rfl rfl) ?_; clear hf; intro a hf
    refine wpO_nil ?_
    obtain rfl := Option.some.inj hm
    refine wpL_ret (ret_tmp rfl hf rfl ?_)
    exact ⟨_, rfl, rfl, hs⟩
  · have hm := bif_f hm hb1
    refine wpL_skip ?_
    refine wpL_seq ?_
    refine wpL_region ?_
    refine sY hf hs rfl rfl rfl (Y_move rfl rfl) ?_; clear hf; intro a hf
    refine sY hf hs rfl rfl rfl (Y_assign rfl rfl) ?_; clear hf; intro a hf
    refine wpO_nil ?_
    obtain rfl := Option.some.inj hm
    refine wpL_ret (ret_tmp rfl hf rfl ?_)
    exact ⟨_, rfl, rfl, hs⟩

set_option maxRecDepth 100000 in
theorem laws_szEventGraph_ok (F : Nat) (p0_a : LEventGraph) (A_p0_a_1 : Option Addr) (n_p0_a_1 c_p0_a_1 : Nat) (hn_p0_a_1 : n_p0_a_1 = p0_a.Places.length) (p1_left : Int) (r : Int) (W : World) (hm : laws_szEventGraph F p0_a p1_left = some r) (h_p0_a_1 : Rd W A_p0_a_1 ((recs LPlace.cells) p0_a.Places)) :
    Calls Try.prog 16 [.agg #[.int .i64 p0_a.Events, .slice A_p0_a_1 n_p0_a_1 c_p0_a_1], .int .i64 p1_left].toArray W fun e w' => ∃ v, e = .returned v ∧ v = .int .i64 r ∧ St [] W w' [] := by
  subst hn_p0_a_1
  unfold laws_szEventGraph at hm
  refine Calls.enter (N := 12) Try.func16 rfl rfl rfl (fun a hf => ?_)
  have hs := St.start W
  obtain ⟨w, hw_⟩ : ∃ w, w = W := ⟨W, rfl⟩
  clear hw_ w
  refine wpL_seq ?_
  refine wpL_region ?_
  refine sBox hf hs rfl rfl rfl rfl rfl (cs := [.int .i64 p0_a.Events, .slice A_p0_a_1 p0_a.Places.length c_p0_a_1]) rfl ?_; clear hf hs; intro a w b1 hs hf
  have hs : St [] W w [.blk b1 24 [.int .i64 p0_a.Events, .slice A_p0_a_1 p0_a.Places.length c_p0_a_1]] := hs
  refine sY hf hs rfl rfl rfl (Y_assign rfl rfl) ?_; clear hf; intro a hf
  refine wpO_nil ?_
  refine wpL_seq ?_
  refine wpL_region ?_
  refine sY hf hs rfl rfl rfl (Y_fieldAddr rfl rfl fo24_1) ?_; clear hf; intro a hf
  refine sY hf hs rfl rfl rfl (Y_load_blk rfl rfl (i := 0) rfl rfl ag22) ?_; clear hf; intro a hf
  refine sY hf hs rfl rfl rfl (Y_move rfl rfl) ?_; clear hf; intro a hf
  obtain ⟨r2, hc3, hm⟩ := bind_some hm
  refine sCall hf rfl rfl rfl rfl (cap := []) rfl rfl en70 (laws_szPlaceS_ok F p0_a.Places A_p0_a_1 p0_a.Places.length c_p0_a_1 rfl p1_left _ _ hc3 (h_p0_a_1.at hs)) ?_; clear hf
  rintro _ w ⟨rfl, hs1⟩ a hf
  have hs : St [] W w [.blk b1 24 [.int .i64 p0_a.Events, .slice A_p0_a_1 p0_a.Places.length c_p0_a_1]] := hs.ext hs1.below
  clear hs1
  refine sY hf hs rfl rfl rfl (Y_assign rfl rfl) ?_; clear hf; intro a hf
  refine wpO_nil ?_
  refine wpL_seq ?_
  refine wpL_seq ?_
  refine wpL_region ?_
  refine sY hf hs rfl rfl rfl (Y_move rfl rfl) ?_; clear hf; intro a hf
  refine sY hf hs rfl rfl rfl (Y_lss rfl rfl rfl) ?_; clear hf; intro a hf
  refine wpO_nil ?_
  refine wpL_cond hf rfl (fun hb4 => ?_) (fun hb4 => ?_)
  · have hm := bif_t hm hb4
    refine wpL_seq ?_
    refine wpL_region ?_
    refine sY hf hs rfl rfl rfl (Y_assign rfl rfl) ?_; clear hf; intro a hf
    refine wpO_nil ?_
    obtain rfl := Option.some.inj hm
    refine wpL_ret (ret_tmp rfl hf rfl ?_)
    exact ⟨_, rfl, rfl, hs.sel [] (by decide)⟩
  · have hm := bif_f hm hb4
    refine wpL_skip ?_
    refine wpL_seq ?_
    refine wpL_region ?_
    refine sY hf hs rfl rfl rfl (Y_move rfl rfl) ?_; clear hf; intro a hf
    refine sY hf hs rfl rfl rfl (Y_assign rfl rfl) ?_; clear hf; intro a hf
    refine wpO_nil ?_
    obtain rfl := Option.some.inj hm
    refine wpL_ret (ret_tmp rfl hf rfl ?_)
    exact ⟨_, rfl, rfl, hs.sel [] (by decide)⟩

set_option maxRecDepth 100000 in
theorem laws_toPlace_ok (F : Nat) (p0_a : LPlace) (r : GPlace) (W : World) (hm : laws_toPlace F p0_a = some r) :
    Calls Try.prog 122 [.agg #[.int .i64 p0_a.From, .int .i64 p0_a.To, .int .i64 p0_a.Delay, .int .i64 p0_a.Tokens]].toArray W fun e w' => ∃ v, e = .returned v ∧ v = .agg #[.int .i64 r.From, .int .i64 r.To, .int .i64 r.Delay, .int .i64 r.Tokens] ∧ St [] W w' [] := by
  unfold laws_toPlace at hm
  refine Calls.enter (N := 17) Try.func122 rfl rfl rfl (fun a hf => ?_)
  have hs := St.start W
  obtain ⟨w, hw_⟩ : ∃ w, w = W := ⟨W, rfl⟩
  clear hw_ w
  refine wpL_seq ?_
  refine wpL_region ?_
  refine sBox hf hs rfl rfl rfl rfl rfl (cs := [.int .i64 p0_a.From, .int .i64 p0_a.To, .int .i64 p0_a.Delay, .int .i64 p0_a.Tokens]) rfl ?_; clear hf hs; intro a w b1 hs hf
  have hs : St [] W w [.blk b1 134 [.int .i64 p0_a.From, .int .i64 p0_a.To, .int .i64 p0_a.Delay, .int .i64 p0_a.Tokens]] := hs
  refine sAlloc hf hs rfl rfl rfl rfl ti120 ?_; clear hf hs; intro a w b2 hs hf
  have hs : St [] W w [.blk b1 134 [.int .i64 p0_a.From, .int .i64 p0_a.To, .int .i64 p0_a.Delay, .int .i64 p0_a.Tokens], .blk b2 120 [.int .i64 0, .int .i64 0, .int .i64 0, .int .i64 0]] := hs
  refine wpO_nil ?_
  refine wpL_seq ?_
  refine wpL_region ?_
  refine sAlloc hf hs rfl rfl rfl rfl ti120 ?_; clear hf hs; intro a w b3 hs hf
  have hs : St [] W w [.blk b1 134 [.int .i64 p0_a.From, .int .i64 p0_a.To, .int .i64 p0_a.Delay, .int .i64 p0_a.Tokens], .blk b2 120 [.int .i64 0, .int .i64 0, .int .i64 0, .int .i64 0], .blk b3 120 [.int .i64 0, .int .i64 0, .int .i64 0, .int .i64 0]] := hs
  refine wpO_nil ?_
  refine wpL_seq ?_
  refine wpL_region ?_
  refine sY hf hs rfl rfl rfl (Y_fieldAddr rfl rfl fo134_0) ?_; clear hf; intro a hf
  refine sY hf hs rfl rfl rfl (Y_load_blk rfl rfl (i := 0) rfl rfl ag2) ?_; clear hf; intro a hf
  refine sY hf hs rfl rfl rfl (Y_fieldAddr rfl rfl fo120_0) ?_; clear hf; intro a hf
  refine sStore (i := 2) (us := [.int .i64 p0_a.From]) hf hs rfl rfl rfl rfl rfl rfl ti2 rfl rfl rfl (Nat.le_of_ble_eq_true rfl) rfl ?_; clear hs; intro w hs
  have hs : St [] W w [.blk b1 134 [.int .i64 p0_a.From, .int .i64 p0_a.To, .int .i64 p0_a.Delay, .int .i64 p0_a.Tokens], .blk b2 120 [.int .i64 0, .int .i64 0, .int .i64 0, .int .i64 0], .blk b3 120 [.int .i64 p0_a.From, .int .i64 0, .int .i64 0, .int .i64 0]] := hs
  refine wpO_nil ?_
  refine wpL_seq ?_
  refine wpL_region ?_
  refine sY hf hs rfl rfl rfl (Y_fieldAddr rfl rfl fo134_1) ?_; clear hf; intro a hf
  refine sY hf hs rfl rfl rfl (Y_load_blk rfl rfl (i := 0) rfl rfl ag2) ?_; clear hf; intro a hf
  refine sY hf hs rfl rfl rfl (Y_fieldAddr rfl rfl fo120_1) ?_; clear hf; intro a hf
  refine sStore (i := 2) (us := [.int .i64 p0_a.To]) hf hs rfl rfl rfl rfl rfl rfl ti2 rfl rfl rfl (Nat.le_of_ble_eq_true rfl) rfl ?_; clear hs; intro w hs
  have hs : St [] W w [.blk b1 134 [.int .i64 p0_a.From, .int .i64 p0_a.To, .int .i64 p0_a.Delay, .int .i64 p0_a.Tokens], .blk b2 120 [.int .i64 0, .int .i64 0, .int .i64 0, .int .i64 0], .blk b3 120 [.int .i64 p0_a.From, .int .i64 p0_a.To, .int .i64 0, .int .i64 0]] := hs
  refine wpO_nil ?_
  refine wpL_seq ?_
  refine wpL_region ?_
  refine sY hf hs rfl rfl rfl (Y_fieldAddr rfl rfl fo134_2) ?_; clear hf; intro a hf
  refine sY hf hs rfl rfl rfl (Y_load_blk rfl rfl (i := 0) rfl rfl ag2) ?_; clear hf; intro a hf
  refine sY hf hs rfl rfl rfl (Y_fieldAddr rfl rfl fo120_2) ?_; clear hf; intro a hf
  refine sStore (i := 2) (us := [.int .i64 p0_a.Delay]) hf hs rfl rfl rfl rfl rfl rfl ti2 rfl rfl rfl (Nat.le_of_ble_eq_true rfl) rfl ?_; clear hs; intro w hs
  have hs : St [] W w [.blk b1 134 [.int .i64 p0_a.From, .int .i64 p0_a.To, .int .i64 p0_a.Delay, .int .i64 p0_a.Tokens], .blk b2 120 [.int .i64 0, .int .i64 0, .int .i64 0, .int .i64 0], .blk b3 120 [.int .i64 p0_a.From, .int .i64 p0_a.To, .int .i64 p0_a.Delay, .int .i64 0]] := hs
  refine wpO_nil ?_
  refine wpL_seq ?_
  refine wpL_region ?_
  refine sY hf hs rfl rfl rfl (Y_fieldAddr rfl rfl fo134_3) ?_; clear hf; intro a hf
  refine sY hf hs rfl rfl rfl (Y_load_blk rfl rfl (i := 0) rfl rfl ag2) ?_; clear hf; intro a hf
  refine sY hf hs rfl rfl rfl (Y_fieldAddr rfl rfl fo120_3) ?_; clear hf; intro a hf
  refine sStore (i := 2) (us := [.int .i64 p0_a.Tokens]) hf hs rfl rfl rfl rfl rfl rfl ti2 rfl rfl rfl (Nat.le_of_ble_eq_true rfl) rfl ?_; clear hs; intro w hs
  have hs : St [] W w [.blk b1 134 [.int .i64 p0_a.From, .int .i64 p0_a.To, .int .i64 p0_a.Delay, .int .i64 p0_a.Tokens], .blk b2 120 [.int .i64 0, .int .i64 0, .int .i64 0, .int .i64 0], .blk b3 120 [.int .i64 p0_a.From, .int .i64 p0_a.To, .int .i64 p0_a.Delay, .int .i64 p0_a.Tokens]] := hs
  refine wpO_nil ?_
  refine wpL_seq ?_
  refine wpL_region ?_
  refine sY hf hs rfl rfl rfl (Y_load_blkS rfl rfl (i := 2) rfl ag120 ti120 rfl) ?_; clear hf; intro a hf
  refine sStore (i := 1) (us := [.int .i64 p0_a.From, .int .i64 p0_a.To, .int .i64 p0_a.Delay, .int .i64 p0_a.Tokens]) hf hs rfl rfl rfl rfl rfl rfl ti120 rfl rfl rfl (Nat.le_of_ble_eq_true rfl) rfl ?_; clear hs; intro w hs
  have hs : St [] W w [.blk b1 134 [.int .i64 p0_a.From, .int .i64 p0_a.To, .int .i64 p0_a.Delay, .int .i64 p0_a.Tokens], .blk b2 120 [.int .i64 p0_a.From, .int .i64 p0_a.To, .int .i64 p0_a.Delay, .int .i64 p0_a.Tokens], .blk b3 120 [.int .i64 p0_a.From, .int .i64 p0_a.To, .int .i64 p0_a.Delay, .int .i64 p0_a.Tokens]] := hs
  refine wpO_nil ?_
  obtain rfl := Option.some.inj hm
  refine wpL_ret (ret_cell rfl hf rfl hs (i := 1) rfl ag120 ti120 rfl ?_)
  exact ⟨_, rfl, rfl, hs.sel [] (by decide)⟩

set_option maxRecDepth 100000 in
theorem laws_toPlaceS_ok (F : Nat) (p0_a : List LPlace) (A_p0_a_1 : Option Addr) (n_p0_a_1 c_p0_a_1 : Nat) (hn_p0_a_1 : n_p0_a_1 = p0_a.length) (r : List GPlace) (W : World) (hm : laws_toPlaceS F p0_a = some r) (h_p0_a_1 : Rd W A_p0_a_1 ((recs LPlace.cells) p0_a)) :
    Calls Try.prog 75 [.slice A_p0_a_1 n_p0_a_1 c_p0_a_1].toArray W fun e w' => ∃ v, e = .returned v ∧ ∃ A52, ∃ n53, ∃ c54, v = .slice A52 n53 c54 ∧ n53 = r.length ∧ St [] W w' [.row A52 n53 c54 120 4 ((recs GPlace.cells) r)] := by
  subst hn_p0_a_1
  unfold laws_toPlaceS at hm
  refine Calls.enter (N := 23) Try.func75 rfl rfl rfl (fun a hf => ?_)
  have hs := St.start W
  obtain ⟨w, hw_⟩ : ∃ w, w = W := ⟨W, rfl⟩
  clear hw_ w
  refine wpL_seq ?_
  refine wpL_region ?_
  refine sY hf hs rfl rfl rfl (Y_assign rfl rfl) ?_; clear hf; intro a hf
  refine wpO_nil ?_
  refine wpL_seq ?_
  refine wpL_region ?_
  refine sY hf hs rfl rfl rfl (Y_move rfl rfl) ?_; clear hf; intro a hf
  refine sY hf hs rfl rfl rfl (Y_lenH rfl rfl el22 rfl) ?_; clear hf; intro a hf
  obtain ⟨xs3, hk2, hm⟩ := bind_some hm
  refine sMakeL (enc := (recs GPlace.cells)) hf hs rfl rfl rfl rfl rfl hk2 el28 ti120 rfl (recs_made (f := GPlace.cells) (z0 := (GPlace.mk 0 0 0 0)) rfl) ?_; clear hf hs; intro a w A1 hs hf
  have hs : St [] W w [.row A1 xs3.length xs3.length 120 4 ((recs GPlace.cells) xs3)] := hs
  refine sY hf hs rfl rfl rfl (Y_assign rfl rfl) ?_; clear hf; intro a hf
  refine wpO_nil ?_
  refine wpL_seq ?_
  refine wpL_seq ?_
  refine wpL_region ?_
  refine sY hf hs rfl rfl rfl (Y_assign rfl rfl) ?_; clear hf; intro a hf
  refine wpO_nil ?_
  obtain ⟨r39, hl40, hm⟩ := bind_some hm
  refine wpL_block (fun a w => ∃ xs37 : List GPlace, xs37 = r39 ∧ xs3.length = xs37.length ∧ Fr a 23 [(3, .slice A1 xs3.length xs3.length)] ∧ St [] W w [.row A1 xs3.length xs3.length 120 4 ((recs GPlace.cells) xs37)]) ?_ ?_
  · refine wpL_loop (fun n a w => ∃ xs25 : List GPlace, ∃ x27 : Int, laws_toPlaceS_L1 F p0_a n xs25 x27 = some r39 ∧ xs3.length = xs25.length ∧ Fr a 23 [(0, .slice A_p0_a_1 p0_a.length c_p0_a_1), (3, .slice A1 xs3.length xs3.length), (4, .int .i64 x27)] ∧ St [] W w [.row A1 xs3.length xs3.length 120 4 ((recs GPlace.cells) xs25)]) F ?_ ?_ ?_
    · exact ⟨xs3, 0, hl40, rfl, (Fr.pick (Fr.pick (Fr.pick hf.none hf rfl) hf rfl) hf rfl), hs⟩
    · rintro a w ⟨xs25, x27, h0_, -, -, -⟩; simp [laws_toPlaceS_L1] at h0_
    · rintro n42 a w ⟨xs25, x27, hm41, hn26, hf, hs⟩
      rw [laws_toPlaceS_L1] at hm41
      refine wpL_seq ?_
      refine wpL_seq ?_
      refine wpL_region ?_
      refine sY hf hs rfl rfl rfl (Y_move rfl rfl) ?_; clear hf; intro a hf
      refine sY hf hs rfl rfl rfl (Y_move rfl rfl) ?_; clear hf; intro a hf
      refine sY hf hs rfl rfl rfl (Y_lenH rfl rfl el22 rfl) ?_; clear hf; intro a hf
      refine sY hf hs rfl rfl rfl (Y_lss rfl rfl rfl) ?_; clear hf; intro a hf
      refine wpO_nil ?_
      refine wpL_cond hf rfl (fun hb43 => ?_) (fun hb43 => ?_)
      · have hm41 := bif_t hm41 hb43
        refine wpL_skip ?_
        refine wpL_seq ?_
        refine wpL_block0 ?_
        refine wpL_region ?_
        refine sY hf hs rfl rfl rfl (Y_move rfl rfl) ?_; clear hf; intro a hf
        refine sY hf hs rfl rfl rfl (Y_move rfl rfl) ?_; clear hf; intro a hf
        refine sY hf hs rfl rfl rfl (Y_move rfl rfl) ?_; clear hf; intro a hf
        refine sY hf hs rfl rfl rfl (Y_move rfl rfl) ?_; clear hf; intro a hf
        obtain ⟨q44, hi45, hm41⟩ := bind_some hm41
        obtain ⟨hi45a, hi45b, hi45q⟩ := idx_some hi45
        refine sY hf hs rfl rfl rfl (Y_index rfl rfl rfl el22 ti134 (Rd.isAt (h_p0_a_1.at hs) (recs_at (s := 4) LPlace.len hi45q (j := 0) rfl)) hi45a hi45b) ?_; clear hf; intro a hf
        refine sY hf hs rfl rfl rfl (Y_load_rdS rfl rfl (us := [.int .i64 q44.From, .int .i64 q44.To, .int .i64 q44.Delay, .int .i64 q44.Tokens]) (fun w hs => h_p0_a_1.at hs) (fun j u hj => recs_at (s := 4) LPlace.len hi45q hj) (Nat.succ_pos _) ag134 ti134 rfl) ?_; clear hf; intro a hf
        obtain ⟨r46, hc47, hm41⟩ := bind_some hm41
        refine sCall hf rfl rfl rfl rfl (cap := []) rfl rfl en122 (laws_toPlace_ok F q44 _ _ hc47) ?_; clear hf
        rintro _ w ⟨rfl, hs1⟩ a hf
        have hs : St [] W w [.row A1 xs3.length xs3.length 120 4 ((recs GPlace.cells) xs25)] := hs.ext hs1.below
        clear hs1
        obtain ⟨q48, hi49, hm41⟩ := bind_some hm41
        obtain ⟨hi49a, hi49b, hi49q⟩ := idx_some hi49
        refine sY hf hs rfl rfl rfl (Y_index rfl rfl rfl el28 ti120 (Rd.isAt (hs.rd (i := 0) rfl) (recs_at (s := 4) GPlace.len hi49q (j := 0) rfl)) hi49a (ltn hn26 hi49b)) ?_; clear hf; intro a hf
        obtain ⟨xs50, hu51, hm41⟩ := bind_some hm41
        refine sStoreL (i := 0) (us := [.int .i64 r46.From, .int .i64 r46.To, .int .i64 r46.Delay, .int .i64 r46.Tokens]) (enc := (recs GPlace.cells)) hf hs rfl rfl rfl rfl rfl rfl hn26 hu51 ti120 rfl rfl rfl rfl rfl (recs_length GPlace.len) (recs_set (s := 4) GPlace.len r46) ?_; clear hs; intro w hs
        have hs : St [] W w [.row A1 xs3.length xs3.length 120 4 ((recs GPlace.cells) xs50)] := hs
        refine wpO_nil ?_
        refine wpL_nil (Qb_normal ?_)
        refine wpL_region ?_
        refine sY hf hs rfl rfl rfl (Y_move rfl rfl) ?_; clear hf; intro a hf
        refine sY hf hs rfl rfl rfl (Y_add rfl rfl rfl) ?_; clear hf; intro a hf
        refine sY hf hs rfl rfl rfl (Y_assign rfl rfl) ?_; clear hf; intro a hf
        refine wpO_nil ?_
        refine wpL_nil (Ql_normal ?_)
        exact ⟨xs50, (IntKind.i64.wrap (x27 + 1)), hm41, ((hn26).trans (upd_len hu51).symm), (Fr.pick (Fr.pick (Fr.pick hf.none hf rfl) hf rfl) hf rfl), hs⟩
      · have hm41 := bif_f hm41 hb43
        refine wpL_exit (Ql_exit (Qb_exit ?_))
        exact ⟨xs25, Option.some.inj hm41, hn26, (Fr.pick hf.none hf rfl), hs⟩
  · rintro a w ⟨xs37, hr_, hn38, hf, hs⟩
    subst hr_
    try dsimp only at hm
    refine wpL_seq ?_
    refine wpL_region ?_
    refine sY hf hs rfl rfl rfl (Y_move rfl rfl) ?_; clear hf; intro a hf
    refine sY hf hs rfl rfl rfl (Y_assign rfl rfl) ?_; clear hf; intro a hf
    refine wpO_nil ?_
    obtain rfl := Option.some.inj hm
    refine wpL_ret (ret_tmp rfl hf rfl ?_)
    exact ⟨_, rfl, A1, xs3.length, xs3.length, rfl, hn38, hs⟩

set_option maxRecDepth 100000 in
theorem laws_toEventGraph_ok (F : Nat) (p0_a : LEventGraph) (A_p0_a_1 : Option Addr) (n_p0_a_1 c_p0_a_1 : Nat) (hn_p0_a_1 : n_p0_a_1 = p0_a.Places.length) (r : GEventGraph) (W : World) (hm : laws_toEventGraph F p0_a = some r) (h_p0_a_1 : Rd W A_p0_a_1 ((recs LPlace.cells) p0_a.Places)) :
    Calls Try.prog 18 [.agg #[.int .i64 p0_a.Events, .slice A_p0_a_1 n_p0_a_1 c_p0_a_1]].toArray W fun e w' => ∃ v, e = .returned v ∧ ∃ A10, ∃ n11, ∃ c12, v = .agg #[.int .i64 r.Events, .slice A10 n11 c12] ∧ n11 = r.Places.length ∧ St [] W w' [.row A10 n11 c12 120 4 ((recs GPlace.cells) r.Places)] := by
  subst hn_p0_a_1
  unfold laws_toEventGraph at hm
  refine Calls.enter (N := 12) Try.func18 rfl rfl rfl (fun a hf => ?_)
  have hs := St.start W
  obtain ⟨w, hw_⟩ : ∃ w, w = W := ⟨W, rfl⟩
  clear hw_ w
  refine wpL_seq ?_
  refine wpL_region ?_
  refine sBox hf hs rfl rfl rfl rfl rfl (cs := [.int .i64 p0_a.Events, .slice A_p0_a_1 p0_a.Places.length c_p0_a_1]) rfl ?_; clear hf hs; intro a w b1 hs hf
  have hs : St [] W w [.blk b1 24 [.int .i64 p0_a.Events, .slice A_p0_a_1 p0_a.Places.length c_p0_a_1]] := hs
  refine sAlloc hf hs rfl rfl rfl rfl ti30 ?_; clear hf hs; intro a w b2 hs hf
  have hs : St [] W w [.blk b1 24 [.int .i64 p0_a.Events, .slice A_p0_a_1 p0_a.Places.length c_p0_a_1], .blk b2 30 [.int .i64 0, .slice none 0 0]] := hs
  refine wpO_nil ?_
  refine wpL_seq ?_
  refine wpL_region ?_
  refine sAlloc hf hs rfl rfl rfl rfl ti30 ?_; clear hf hs; intro a w b3 hs hf
  have hs : St [] W w [.blk b1 24 [.int .i64 p0_a.Events, .slice A_p0_a_1 p0_a.Places.length c_p0_a_1], .blk b2 30 [.int .i64 0, .slice none 0 0], .blk b3 30 [.int .i64 0, .slice none 0 0]] := hs
  refine wpO_nil ?_
  refine wpL_seq ?_
  refine wpL_region ?_
  refine sY hf hs rfl rfl rfl (Y_fieldAddr rfl rfl fo24_0) ?_; clear hf; intro a hf
  refine sY hf hs rfl rfl rfl (Y_load_blk rfl rfl (i := 0) rfl rfl ag2) ?_; clear hf; intro a hf
  refine sY hf hs rfl rfl rfl (Y_fieldAddr rfl rfl fo30_0) ?_; clear hf; intro a hf
  refine sStore (i := 2) (us := [.int .i64 p0_a.Events]) hf hs rfl rfl rfl rfl rfl rfl ti2 rfl rfl rfl (Nat.le_of_ble_eq_true rfl) rfl ?_; clear hs; intro w hs
  have hs : St [] W w [.blk b1 24 [.int .i64 p0_a.Events, .slice A_p0_a_1 p0_a.Places.length c_p0_a_1], .blk b2 30 [.int .i64 0, .slice none 0 0], .blk b3 30 [.int .i64 p0_a.Events, .slice none 0 0]] := hs
  refine wpO_nil ?_
  refine wpL_seq ?_
  refine wpL_region ?_
  refine sY hf hs rfl rfl rfl (Y_fieldAddr rfl rfl fo24_1) ?_; clear hf; intro a hf
  refine sY hf hs rfl rfl rfl (Y_load_blk rfl rfl (i := 0) rfl rfl ag22) ?_; clear hf; intro a hf
  obtain ⟨r4, hc5, hm⟩ := bind_some hm
  refine sCall hf rfl rfl rfl rfl (cap := []) rfl rfl en75 (laws_toPlaceS_ok F p0_a.Places A_p0_a_1 p0_a.Places.length c_p0_a_1 rfl _ _ hc5 (h_p0_a_1.at hs)) ?_; clear hf
  rintro _ w ⟨A6, n7, c8, rfl, hn9, hs1⟩ a hf
  have hs : St [] W w [.blk b1 24 [.int .i64 p0_a.Events, .slice A_p0_a_1 p0_a.Places.length c_p0_a_1], .blk b2 30 [.int .i64 0, .slice none 0 0], .blk b3 30 [.int .i64 p0_a.Events, .slice none 0 0], .row A6 n7 c8 120 4 ((recs GPlace.cells) r4)] := hs.join hs1
  clear hs1
  refine sY hf hs rfl rfl rfl (Y_fieldAddr rfl rfl fo30_1) ?_; clear hf; intro a hf
  refine sStore (i := 2) (us := [.slice A6 n7 c8]) hf hs rfl rfl rfl rfl rfl rfl ti28 rfl rfl rfl (Nat.le_of_ble_eq_true rfl) rfl ?_; clear hs; intro w hs
  have hs : St [] W w [.blk b1 24 [.int .i64 p0_a.Events, .slice A_p0_a_1 p0_a.Places.length c_p0_a_1], .blk b2 30 [.int .i64 0, .slice none 0 0], .blk b3 30 [.int .i64 p0_a.Events, .slice A6 n7 c8], .row A6 n7 c8 120 4 ((recs GPlace.cells) r4)] := hs
  refine wpO_nil ?_
  refine wpL_seq ?_
  refine wpL_region ?_
  refine sY hf hs rfl rfl rfl (Y_load_blkS rfl rfl (i := 2) rfl ag30 ti30 rfl) ?_; clear hf; intro a hf
  refine sStore (i := 1) (us := [.int .i64 p0_a.Events, .slice A6 n7 c8]) hf hs rfl rfl rfl rfl rfl rfl ti30 rfl rfl rfl (Nat.le_of_ble_eq_true rfl) rfl ?_; clear hs; intro w hs
  have hs : St [] W w [.blk b1 24 [.int .i64 p0_a.Events, .slice A_p0_a_1 p0_a.Places.length c_p0_a_1], .blk b2 30 [.int .i64 p0_a.Events, .slice A6 n7 c8], .blk b3 30 [.int .i64 p0_a.Events, .slice A6 n7 c8], .row A6 n7 c8 120 4 ((recs GPlace.cells) r4)] := hs
  refine wpO_nil ?_
  obtain rfl := Option.some.inj hm
  refine wpL_ret (ret_cell rfl hf rfl hs (i := 1) rfl ag30 ti30 rfl ?_)
  exact ⟨_, rfl, A6, n7, c8, rfl, hn9, hs.sel [3] (by decide)⟩

set_option maxRecDepth 100000 in
theorem spec_l01In_ok (F : Nat) (p0_n : Int) (p1_low : Int) (p2_high : Int) (r : Bool) (W : World) (hm : spec_l01In F p0_n p1_low p2_high = some r) :
    Calls Try.prog 119 [.int .i64 p0_n, .int .i64 p1_low, .int .i64 p2_high].toArray W fun e w' => ∃ v, e = .returned v ∧ v = .bool r ∧ St [] W w' [] := by
  unfold spec_l01In at hm
  refine Calls.enter (N := 15) Try.func119 rfl rfl rfl (fun a hf => ?_)
  have hs := St.start W
  obtain ⟨w, hw_⟩ : ∃ w, w = W := ⟨W, rfl⟩
  clear hw_ w
  refine wpL_seq ?_
  refine wpL_region ?_
  refine sY hf hs rfl rfl rfl (Y_assign rfl rfl) ?_; clear hf; intro a hf
  refine wpO_nil ?_
  refine wpL_seq ?_
  obtain ⟨r3, hj4, hm⟩ := bind_some hm
  refine wpL_cut (fun a w => ∃ b2 : Bool, b2 = r3 ∧ Fr a 15 [(6, .bool b2)] ∧ St [] W w []) ?_ ?_
  · refine wpL_region ?_
    refine sY hf hs rfl rfl rfl (Y_move rfl rfl) ?_; clear hf; intro a hf
    refine sY hf hs rfl rfl rfl (Y_move rfl rfl) ?_; clear hf; intro a hf
    refine sY hf hs rfl rfl rfl (Y_geq rfl rfl rfl) ?_; clear hf; intro a hf
    refine sY hf hs rfl rfl rfl (Y_move rfl rfl) ?_; clear hf; intro a hf
    refine bsplit (decide (p1_low ≤ p0_n)) (fun hb5 => ?_) (fun hb5 => ?_)
    · have hj4 := bif_t hj4 hb5
      refine sYg hf hs rfl rfl rfl (congrArg (fun b => some (Value.bool b)) hb5) rfl rfl rfl (Y_move rfl rfl) ?_; clear hf; intro a hf
      refine sYg hf hs rfl rfl rfl (congrArg (fun b => some (Value.bool b)) hb5) rfl rfl rfl (Y_move rfl rfl) ?_; clear hf; intro a hf
      refine sYg hf hs rfl rfl rfl (congrArg (fun b => some (Value.bool b)) hb5) rfl rfl rfl (Y_leq rfl rfl rfl) ?_; clear hf; intro a hf
      refine sY hf hs rfl rfl rfl (Y_pickT rfl (congrArg (fun b => some (Value.bool b)) hb5) rfl) ?_; clear hf; intro a hf
      refine sY hf hs rfl rfl rfl (Y_assign rfl rfl) ?_; clear hf; intro a hf
      refine wpO_nil ?_
      refine wpL_nil (then_normal ?_)
      exact ⟨(decide (p0_n ≤ p2_high)), Option.some.inj hj4, (Fr.pick hf.none hf rfl), hs⟩
    · have hj4 := bif_f hj4 hb5
      refine sNo hf rfl rfl rfl (congrArg (fun b => some (Value.bool b)) hb5) rfl rfl rfl ?_; clear hf; intro a hf
      refine sNo hf rfl rfl rfl (congrArg (fun b => some (Value.bool b)) hb5) rfl rfl rfl ?_; clear hf; intro a hf
      refine sNo hf rfl rfl rfl (congrArg (fun b => some (Value.bool b)) hb5) rfl rfl rfl ?_; clear hf; intro a hf
      refine sY hf hs rfl rfl rfl (Y_pickF rfl (congrArg (fun b => some (Value.bool b)) hb5) rfl) ?_; clear hf; intro a hf
      refine sY hf hs rfl rfl rfl (Y_assign rfl rfl) ?_; clear hf; intro a hf
      refine wpO_nil ?_
      refine wpL_nil (then_normal ?_)
      exact ⟨false, Option.some.inj hj4, (Fr.pick hf.none hf rfl), hs⟩
  · rintro a w ⟨b2, hr_, hf, hs⟩
    subst hr_
    try dsimp only at hm
    obtain rfl := Option.some.inj hm
    refine wpL_ret (ret_tmp rfl hf rfl ?_)
    exact ⟨_, rfl, rfl, hs⟩

set_option maxRecDepth 100000 in
theorem spec_l11Place_ok (F : Nat) (p0_p : GPlace) (p1_events : Int) (r : Bool) (W : World) (hm : spec_l11Place F p0_p p1_events = some r) :
    Calls Try.prog 118 [.agg #[.int .i64 p0_p.From, .int .i64 p0_p.To, .int .i64 p0_p.Delay, .int .i64 p0_p.Tokens], .int .i64 p1_events].toArray W fun e w' => ∃ v, e = .returned v ∧ v = .bool r ∧ St [] W w' [] := by
  unfold spec_l11Place at hm
  refine Calls.enter (N := 27) Try.func118 rfl rfl rfl (fun a hf => ?_)
  have hs := St.start W
  obtain ⟨w, hw_⟩ : ∃ w, w = W := ⟨W, rfl⟩
  clear hw_ w
  refine wpL_seq ?_
  refine wpL_region ?_
  refine sBox hf hs rfl rfl rfl rfl rfl (cs := [.int .i64 p0_p.From, .int .i64 p0_p.To, .int .i64 p0_p.Delay, .int .i64 p0_p.Tokens]) rfl ?_; clear hf hs; intro a w b1 hs hf
  have hs : St [] W w [.blk b1 120 [.int .i64 p0_p.From, .int .i64 p0_p.To, .int .i64 p0_p.Delay, .int .i64 p0_p.Tokens]] := hs
  refine sY hf hs rfl rfl rfl (Y_assign rfl rfl) ?_; clear hf; intro a hf
  refine wpO_nil ?_
  refine wpL_seq ?_
  obtain ⟨r14, hj15, hm⟩ := bind_some hm
  refine wpL_cut (fun a w => ∃ b13 : Bool, b13 = r14 ∧ Fr a 27 [(4, .bool b13)] ∧ St [] W w []) ?_ ?_
  · refine wpL_region ?_
    refine sY hf hs rfl rfl rfl (Y_fieldAddr rfl rfl fo120_0) ?_; clear hf; intro a hf
    refine sY hf hs rfl rfl rfl (Y_load_blk rfl rfl (i := 0) rfl rfl ag2) ?_; clear hf; intro a hf
    refine sY hf hs rfl rfl rfl (Y_move rfl rfl) ?_; clear hf; intro a hf
    refine sY hf hs rfl rfl rfl (Y_sub rfl rfl rfl) ?_; clear hf; intro a hf
    obtain ⟨r16, hc17, hj15⟩ := bind_some hj15
    refine sCall hf rfl rfl rfl rfl (cap := []) rfl rfl en119 (spec_l01In_ok F p0_p.From 0 (IntKind.i64.wrap (p1_events - 1)) _ _ hc17) ?_; clear hf
    rintro _ w ⟨rfl, hs1⟩ a hf
    have hs : St [] W w [.blk b1 120 [.int .i64 p0_p.From, .int .i64 p0_p.To, .int .i64 p0_p.Delay, .int .i64 p0_p.Tokens]] := hs.ext hs1.below
    clear hs1
    refine sY hf hs rfl rfl rfl (Y_move rfl rfl) ?_; clear hf; intro a hf
    refine bsplit r16 (fun hb18 => ?_) (fun hb18 => ?_)
    · have hj15 := bif_t hj15 hb18
      refine sYg hf hs rfl rfl rfl (congrArg (fun b => some (Value.bool b)) hb18) rfl rfl rfl (Y_fieldAddr rfl rfl fo120_1) ?_; clear hf; intro a hf
      refine sYg hf hs rfl rfl rfl (congrArg (fun b => some (Value.bool b)) hb18) rfl rfl rfl (Y_load_blk rfl rfl (i := 0) rfl rfl ag2) ?_; clear hf; intro a hf
      refine sYg hf hs rfl rfl rfl (congrArg (fun b => some (Value.bool b)) hb18) rfl rfl rfl (Y_move rfl rfl) ?_; clear hf; intro a hf
      refine sYg hf hs rfl rfl rfl (congrArg (fun b => some (Value.bool b)) hb18) rfl rfl rfl (Y_sub rfl rfl rfl) ?_; clear hf; intro a hf
      obtain ⟨r19, hc20, hj15⟩ := bind_some hj15
      refine sCallg hf rfl rfl rfl (congrArg (fun b => some (Value.bool b)) hb18) rfl rfl rfl rfl (cap := []) rfl rfl en119 (spec_l01In_ok F p0_p.To 0 (IntKind.i64.wrap (p1_events - 1)) _ _ hc20) ?_; clear hf
      rintro _ w ⟨rfl, hs1⟩ a hf
      have hs : St [] W w [.blk b1 120 [.int .i64 p0_p.From, .int .i64 p0_p.To, .int .i64 p0_p.Delay, .int .i64 p0_p.Tokens]] := hs.ext hs1.below
      clear hs1
      refine sY hf hs rfl rfl rfl (Y_pickT rfl (congrArg (fun b => some (Value.bool b)) hb18) rfl) ?_; clear hf; intro a hf
      refine sY hf hs rfl rfl rfl (Y_move rfl rfl) ?_; clear hf; intro a hf
      refine bsplit r19 (fun hb21 => ?_) (fun hb21 => ?_)
      · have hj15 := bif_t hj15 hb21
        refine sYg hf hs rfl rfl rfl (congrArg (fun b => some (Value.bool b)) hb21) rfl rfl rfl (Y_fieldAddr rfl rfl fo120_2) ?_; clear hf; intro a hf
        refine sYg hf hs rfl rfl rfl (congrArg (fun b => some (Value.bool b)) hb21) rfl rfl rfl (Y_load_blk rfl rfl (i := 0) rfl rfl ag2) ?_; clear hf; intro a hf
        obtain ⟨r22, hc23, hj15⟩ := bind_some hj15
        refine sCallg hf rfl rfl rfl (congrArg (fun b => some (Value.bool b)) hb21) rfl rfl rfl rfl (cap := []) rfl rfl en119 (spec_l01In_ok F p0_p.Delay 0 1000 _ _ hc23) ?_; clear hf
        rintro _ w ⟨rfl, hs1⟩ a hf
        have hs : St [] W w [.blk b1 120 [.int .i64 p0_p.From, .int .i64 p0_p.To, .int .i64 p0_p.Delay, .int .i64 p0_p.Tokens]] := hs.ext hs1.below
        clear hs1
        refine sY hf hs rfl rfl rfl (Y_pickT rfl (congrArg (fun b => some (Value.bool b)) hb21) rfl) ?_; clear hf; intro a hf
        refine sY hf hs rfl rfl rfl (Y_move rfl rfl) ?_; clear hf; intro a hf
        refine bsplit r22 (fun hb24 => ?_) (fun hb24 => ?_)
        · have hj15 := bif_t hj15 hb24
          refine sYg hf hs rfl rfl rfl (congrArg (fun b => some (Value.bool b)) hb24) rfl rfl rfl (Y_fieldAddr rfl rfl fo120_3) ?_; clear hf; intro a hf
          refine sYg hf hs rfl rfl rfl (congrArg (fun b => some (Value.bool b)) hb24) rfl rfl rfl (Y_load_blk rfl rfl (i := 0) rfl rfl ag2) ?_; clear hf; intro a hf
          obtain ⟨r25, hc26, hj15⟩ := bind_some hj15
          refine sCallg hf rfl rfl rfl (congrArg (fun b => some (Value.bool b)) hb24) rfl rfl rfl rfl (cap := []) rfl rfl en119 (spec_l01In_ok F p0_p.Tokens 0 5 _ _ hc26) ?_; clear hf
          rintro _ w ⟨rfl, hs1⟩ a hf
          have hs : St [] W w [.blk b1 120 [.int .i64 p0_p.From, .int .i64 p0_p.To, .int .i64 p0_p.Delay, .int .i64 p0_p.Tokens]] := hs.ext hs1.below
          clear hs1
          refine sY hf hs rfl rfl rfl (Y_pickT rfl (congrArg (fun b => some (Value.bool b)) hb24) rfl) ?_; clear hf; intro a hf
          refine sY hf hs rfl rfl rfl (Y_assign rfl rfl) ?_; clear hf; intro a hf
          refine wpO_nil ?_
          refine wpL_nil (then_normal ?_)
          exact ⟨r25, Option.some.inj hj15, (Fr.pick hf.none hf rfl), hs.sel [] (by decide)⟩
        · have hj15 := bif_f hj15 hb24
          refine sNo hf rfl rfl rfl (congrArg (fun b => some (Value.bool b)) hb24) rfl rfl rfl ?_; clear hf; intro a hf
          refine sNo hf rfl rfl rfl (congrArg (fun b => some (Value.bool b)) hb24) rfl rfl rfl ?_; clear hf; intro a hf
          refine sNo hf rfl rfl rfl (congrArg (fun b => some (Value.bool b)) hb24) rfl rfl rfl ?_; clear hf; intro a hf
          refine sY hf hs rfl rfl rfl (Y_pickF rfl (congrArg (fun b => some (Value.bool b)) hb24) rfl) ?_; clear hf; intro a hf
          refine sY hf hs rfl rfl rfl (Y_assign rfl rfl) ?_; clear hf; intro a hf
          refine wpO_nil ?_
          refine wpL_nil (then_normal ?_)
          exact ⟨false, Option.some.inj hj15, (Fr.pick hf.none hf rfl), hs.sel [] (by decide)⟩
      · have hj15 := bif_f hj15 hb21
        refine sNo hf rfl rfl rfl (congrArg (fun b => some (Value.bool b)) hb21) rfl rfl rfl ?_; clear hf; intro a hf
        refine sNo hf rfl rfl rfl (congrArg (fun b => some (Value.bool b)) hb21) rfl rfl rfl ?_; clear hf; intro a hf
        refine sNo hf rfl rfl rfl (congrArg (fun b => some (Value.bool b)) hb21) rfl rfl rfl ?_; clear hf; intro a hf
        refine sY hf hs rfl rfl rfl (Y_pickF rfl (congrArg (fun b => some (Value.bool b)) hb21) rfl) ?_; clear hf; intro a hf
        refine sY hf hs rfl rfl rfl (Y_move rfl rfl) ?_; clear hf; intro a hf
        refine sNo hf rfl rfl rfl rfl rfl rfl rfl ?_; clear hf; intro a hf
        refine sNo hf rfl rfl rfl rfl rfl rfl rfl ?_; clear hf; intro a hf
        refine sNo hf rfl rfl rfl rfl rfl rfl rfl ?_; clear hf; intro a hf
        refine sY hf hs rfl rfl rfl (Y_pickF rfl rfl rfl) ?_; clear hf; intro a hf
        refine sY hf hs rfl rfl rfl (Y_assign rfl rfl) ?_; clear hf; intro a hf
        refine wpO_nil ?_
        refine wpL_nil (then_normal ?_)
        exact ⟨false, Option.some.inj hj15, (Fr.pick hf.none hf rfl), hs.sel [] (by decide)⟩
    · have hj15 := bif_f hj15 hb18
      refine sNo hf rfl rfl rfl (congrArg (fun b => some (Value.bool b)) hb18) rfl rfl rfl ?_; clear hf; intro a hf
      refine sNo hf rfl rfl rfl (congrArg (fun b => some (Value.bool b)) hb18) rfl rfl rfl ?_; clear hf; intro a hf
      refine sNo hf rfl rfl rfl (congrArg (fun b => some (Value.bool b)) hb18) rfl rfl rfl ?_; clear hf; intro a hf
      refine sNo hf rfl rfl rfl (congrArg (fun b => some (Value.bool b)) hb18) rfl rfl rfl ?_; clear hf; intro a hf
      refine sNo hf rfl rfl rfl (congrArg (fun b => some (Value.bool b)) hb18) rfl rfl rfl ?_; clear hf; intro a hf
      refine sY hf hs rfl rfl rfl (Y_pickF rfl (congrArg (fun b => some (Value.bool b)) hb18) rfl) ?_; clear hf; intro a hf
      refine sY hf hs rfl rfl rfl (Y_move rfl rfl) ?_; clear hf; intro a hf
      refine sNo hf rfl rfl rfl rfl rfl rfl rfl ?_; clear hf; intro a hf
      refine sNo hf rfl rfl rfl rfl rfl rfl rfl ?_; clear hf; intro a hf
      refine sNo hf rfl rfl rfl rfl rfl rfl rfl ?_; clear hf; intro a hf
      refine sY hf hs rfl rfl rfl (Y_pickF rfl rfl rfl) ?_; clear hf; intro a hf
      refine sY hf hs rfl rfl rfl (Y_move rfl rfl) ?_; clear hf; intro a hf
      refine sNo hf rfl rfl rfl rfl rfl rfl rfl ?_; clear hf; intro a hf
      refine sNo hf rfl rfl rfl rfl rfl rfl rfl ?_; clear hf; intro a hf
      refine sNo hf rfl rfl rfl rfl rfl rfl rfl ?_; clear hf; intro a hf
      refine sY hf hs rfl rfl rfl (Y_pickF rfl rfl rfl) ?_; clear hf; intro a hf
      refine sY hf hs rfl rfl rfl (Y_assign rfl rfl) ?_; clear hf; intro a hf
      refine wpO_nil ?_
      refine wpL_nil (then_normal ?_)
      exact ⟨false, Option.some.inj hj15, (Fr.pick hf.none hf rfl), hs.sel [] (by decide)⟩
  · rintro a w ⟨b13, hr_, hf, hs⟩
    subst hr_
    try dsimp only at hm
    obtain rfl := Option.some.inj hm
    refine wpL_ret (ret_tmp rfl hf rfl ?_)
    exact ⟨_, rfl, rfl, hs⟩

set_option maxRecDepth 100000 in
theorem spec_IsEventGraph_ok (F : Nat) (p0_g : GEventGraph) (A_p0_g_1 : Option Addr) (n_p0_g_1 c_p0_g_1 : Nat) (hn_p0_g_1 : n_p0_g_1 = p0_g.Places.length) (r : Bool) (W : World) (hm : spec_IsEventGraph F p0_g = some r) (h_p0_g_1 : Rd W A_p0_g_1 ((recs GPlace.cells) p0_g.Places)) :
    Calls Try.prog 71 [.agg #[.int .i64 p0_g.Events, .slice A_p0_g_1 n_p0_g_1 c_p0_g_1]].toArray W fun e w' => ∃ v, e = .returned v ∧ v = .bool r ∧ St [] W w' [] := by
  subst hn_p0_g_1
  unfold spec_IsEventGraph at hm
  refine Calls.enter (N := 29) Try.func71 rfl rfl rfl (fun a hf => ?_)
  have hs := St.start W
  obtain ⟨w, hw_⟩ : ∃ w, w = W := ⟨W, rfl⟩
  clear hw_ w
  refine wpL_seq ?_
  refine wpL_region ?_
  refine sBox hf hs rfl rfl rfl rfl rfl (cs := [.int .i64 p0_g.Events, .slice A_p0_g_1 p0_g.Places.length c_p0_g_1]) rfl ?_; clear hf hs; intro a w b1 hs hf
  have hs : St [] W w [.blk b1 30 [.int .i64 p0_g.Events, .slice A_p0_g_1 p0_g.Places.length c_p0_g_1]] := hs
  refine sY hf hs rfl rfl rfl (Y_assign rfl rfl) ?_; clear hf; intro a hf
  refine wpO_nil ?_
  refine wpL_seq ?_
  refine wpL_seq ?_
  refine wpL_region ?_
  refine sY hf hs rfl rfl rfl (Y_assign rfl rfl) ?_; clear hf; intro a hf
  refine wpO_nil ?_
  obtain ⟨r22, hl23, hm⟩ := bind_some hm
  refine wpL_block (fun a w => Sum.inr () = r22 ∧ Fr a 29 [(1, .pointer (some ⟨b1, 0, none⟩))] ∧ St [] W w [.blk b1 30 [.int .i64 p0_g.Events, .slice A_p0_g_1 p0_g.Places.length c_p0_g_1]]) ?_ ?_
  · refine wpL_loop (fun n a w => ∃ x15 : Int, spec_IsEventGraph_L1 F p0_g n x15 = some r22 ∧ Fr a 29 [(1, .pointer (some ⟨b1, 0, none⟩)), (3, .int .i64 x15)] ∧ St [] W w [.blk b1 30 [.int .i64 p0_g.Events, .slice A_p0_g_1 p0_g.Places.length c_p0_g_1]]) F ?_ ?_ ?_
    · exact ⟨0, hl23, (Fr.pick (Fr.pick hf.none hf rfl) hf rfl), hs⟩
    · rintro a w ⟨x15, h0_, -, -⟩; simp [spec_IsEventGraph_L1] at h0_
    · rintro n25 a w ⟨x15, hm24, hf, hs⟩
      rw [spec_IsEventGraph_L1] at hm24
      refine wpL_seq ?_
      refine wpL_seq ?_
      refine wpL_region ?_
      refine sY hf hs rfl rfl rfl (Y_move rfl rfl) ?_; clear hf; intro a hf
      refine sY hf hs rfl rfl rfl (Y_fieldAddr rfl rfl fo30_1) ?_; clear hf; intro a hf
      refine sY hf hs rfl rfl rfl (Y_load_blk rfl rfl (i := 0) rfl rfl ag28) ?_; clear hf; intro a hf
      refine sY hf hs rfl rfl rfl (Y_lenH rfl rfl el28 rfl) ?_; clear hf; intro a hf
      refine sY hf hs rfl rfl rfl (Y_lss rfl rfl rfl) ?_; clear hf; intro a hf
      refine wpO_nil ?_
      refine wpL_cond hf rfl (fun hb26 => ?_) (fun hb26 => ?_)
      · have hm24 := bif_t hm24 hb26
        refine wpL_skip ?_
        refine wpL_seq ?_
        refine wpL_block0 ?_
        refine wpL_seq ?_
        refine wpL_draw (by kernel_rfl) (by kernel_rfl) hs ?_
        refine qY hf rfl rfl rfl (Y_fieldAddr rfl rfl fo30_1) ?_; clear hf; intro a hf
        refine qY hf rfl rfl rfl (Y_load_blk rfl rfl (i := 0) rfl rfl ag28) ?_; clear hf; intro a hf
        refine qY hf rfl rfl rfl (Y_move rfl rfl) ?_; clear hf; intro a hf
        obtain ⟨q27, hi28, hm24⟩ := bind_some hm24
        obtain ⟨hi28a, hi28b, hi28q⟩ := idx_some hi28
        refine qY hf rfl rfl rfl (Y_index rfl rfl rfl el28 ti120 (Rd.isAt (h_p0_g_1.at hs) (recs_at (s := 4) GPlace.len hi28q (j := 0) rfl)) hi28a hi28b) ?_; clear hf; intro a hf
        refine qY hf rfl rfl rfl (Y_load_rdS rfl rfl (us := [.int .i64 q27.From, .int .i64 q27.To, .int .i64 q27.Delay, .int .i64 q27.Tokens]) (fun w hs => h_p0_g_1.at hs) (fun j u hj => recs_at (s := 4) GPlace.len hi28q hj) (Nat.succ_pos _) ag120 ti120 rfl) ?_; clear hf; intro a hf
        refine qY hf rfl rfl rfl (Y_fieldAddr rfl rfl fo30_0) ?_; clear hf; intro a hf
        refine qY hf rfl rfl rfl (Y_load_blk rfl rfl (i := 0) rfl rfl ag2) ?_; clear hf; intro a hf
        obtain ⟨r29, hc30, hm24⟩ := bind_some hm24
        refine qCall hf rfl rfl rfl rfl (cap := []) rfl rfl en118 (v := .bool r29) (fun w hs => Calls.scal (spec_l11Place_ok F q27 p0_g.Events _ _ hc30)) ?_; clear hf; intro a hf
        refine qY hf rfl rfl rfl (Y_not rfl rfl) ?_; clear hf; intro a hf
        refine qNil ?_; clear hs; intro w hs
        refine wpL_cond hf rfl (fun hb31 => ?_) (fun hb31 => ?_)
        · have hm24 := bif_t hm24 hb31
          refine wpL_seq ?_
          refine wpL_region ?_
          refine sY hf hs rfl rfl rfl (Y_assign rfl rfl) ?_; clear hf; intro a hf
          refine wpO_nil ?_
          obtain rfl := Option.some.inj hm24
          try dsimp only at hm
          obtain rfl := Option.some.inj hm
          refine wpL_ret (Qb_ret (Ql_ret (Qb_ret (ret_tmp rfl hf rfl ?_))))
          exact ⟨_, rfl, rfl, hs.sel [] (by decide)⟩
        · have hm24 := bif_f hm24 hb31
          refine wpL_skip ?_
          refine wpL_nil (Qb_normal ?_)
          refine wpL_region ?_
          refine sY hf hs rfl rfl rfl (Y_move rfl rfl) ?_; clear hf; intro a hf
          refine sY hf hs rfl rfl rfl (Y_add rfl rfl rfl) ?_; clear hf; intro a hf
          refine sY hf hs rfl rfl rfl (Y_assign rfl rfl) ?_; clear hf; intro a hf
          refine wpO_nil ?_
          refine wpL_nil (Ql_normal ?_)
          exact ⟨(IntKind.i64.wrap (x15 + 1)), hm24, (Fr.pick (Fr.pick hf.none hf rfl) hf rfl), hs⟩
      · have hm24 := bif_f hm24 hb26
        refine wpL_exit (Ql_exit (Qb_exit ?_))
        exact ⟨Option.some.inj hm24, (Fr.pick hf.none hf rfl), hs⟩
  · rintro a w ⟨hr_, hf, hs⟩
    subst hr_
    try dsimp only at hm
    refine wpL_seq ?_
    obtain ⟨r36, hj37, hm⟩ := bind_some hm
    refine wpL_cut (fun a w => ∃ b35 : Bool, b35 = r36 ∧ Fr a 29 [(2, .bool b35)] ∧ St [] W w []) ?_ ?_
    · refine wpL_region ?_
      refine sY hf hs rfl rfl rfl (Y_fieldAddr rfl rfl fo30_0) ?_; clear hf; intro a hf
      refine sY hf hs rfl rfl rfl (Y_load_blk rfl rfl (i := 0) rfl rfl ag2) ?_; clear hf; intro a hf
      obtain ⟨r38, hc39, hj37⟩ := bind_some hj37
      refine sCall hf rfl rfl rfl rfl (cap := []) rfl rfl en119 (spec_l01In_ok F p0_g.Events 1 10 _ _ hc39) ?_; clear hf
      rintro _ w ⟨rfl, hs1⟩ a hf
      have hs : St [] W w [.blk b1 30 [.int .i64 p0_g.Events, .slice A_p0_g_1 p0_g.Places.length c_p0_g_1]] := hs.ext hs1.below
      clear hs1
      refine sY hf hs rfl rfl rfl (Y_move rfl rfl) ?_; clear hf; intro a hf
      refine bsplit r38 (fun hb40 => ?_) (fun hb40 => ?_)
      · have hj37 := bif_t hj37 hb40
        refine sYg hf hs rfl rfl rfl (congrArg (fun b => some (Value.bool b)) hb40) rfl rfl rfl (Y_fieldAddr rfl rfl fo30_1) ?_; clear hf; intro a hf
        refine sYg hf hs rfl rfl rfl (congrArg (fun b => some (Value.bool b)) hb40) rfl rfl rfl (Y_load_blk rfl rfl (i := 0) rfl rfl ag28) ?_; clear hf; intro a hf
        refine sYg hf hs rfl rfl rfl (congrArg (fun b => some (Value.bool b)) hb40) rfl rfl rfl (Y_lenH rfl rfl el28 rfl) ?_; clear hf; intro a hf
        refine sYg hf hs rfl rfl rfl (congrArg (fun b => some (Value.bool b)) hb40) rfl rfl rfl (Y_leq rfl rfl rfl) ?_; clear hf; intro a hf
        refine sY hf hs rfl rfl rfl (Y_pickT rfl (congrArg (fun b => some (Value.bool b)) hb40) rfl) ?_; clear hf; intro a hf
        refine sY hf hs rfl rfl rfl (Y_assign rfl rfl) ?_; clear hf; intro a hf
        refine wpO_nil ?_
        refine wpL_nil (then_normal ?_)
        exact ⟨(decide ((p0_g.Places.length : Int) ≤ 30)), Option.some.inj hj37, (Fr.pick hf.none hf rfl), hs.sel [] (by decide)⟩
      · have hj37 := bif_f hj37 hb40
        refine sNo hf rfl rfl rfl (congrArg (fun b => some (Value.bool b)) hb40) rfl rfl rfl ?_; clear hf; intro a hf
        refine sNo hf rfl rfl rfl (congrArg (fun b => some (Value.bool b)) hb40) rfl rfl rfl ?_; clear hf; intro a hf
        refine sNo hf rfl rfl rfl (congrArg (fun b => some (Value.bool b)) hb40) rfl rfl rfl ?_; clear hf; intro a hf
        refine sNo hf rfl rfl rfl (congrArg (fun b => some (Value.bool b)) hb40) rfl rfl rfl ?_; clear hf; intro a hf
        refine sY hf hs rfl rfl rfl (Y_pickF rfl (congrArg (fun b => some (Value.bool b)) hb40) rfl) ?_; clear hf; intro a hf
        refine sY hf hs rfl rfl rfl (Y_assign rfl rfl) ?_; clear hf; intro a hf
        refine wpO_nil ?_
        refine wpL_nil (then_normal ?_)
        exact ⟨false, Option.some.inj hj37, (Fr.pick hf.none hf rfl), hs.sel [] (by decide)⟩
    · rintro a w ⟨b35, hr_, hf, hs⟩
      subst hr_
      try dsimp only at hm
      obtain rfl := Option.some.inj hm
      refine wpL_ret (ret_tmp rfl hf rfl ?_)
      exact ⟨_, rfl, rfl, hs⟩

set_option maxRecDepth 100000 in
theorem spec_l20Period_ok (F : Nat) (p0_g : GEventGraph) (A_p0_g_1 : Option Addr) (n_p0_g_1 c_p0_g_1 : Nat) (hn_p0_g_1 : n_p0_g_1 = p0_g.Places.length) (p1_period : Int) (r : Int) (W : World) (hm : spec_l20Period F p0_g p1_period = some r) (h_p0_g_1 : Rd W A_p0_g_1 ((recs GPlace.cells) p0_g.Places)) :
    Calls Try.prog 90 [.agg #[.int .i64 p0_g.Events, .slice A_p0_g_1 n_p0_g_1 c_p0_g_1], .int .i64 p1_period].toArray W fun e w' => ∃ v, e = .returned v ∧ v = .int .i64 r ∧ St [] W w' [] := by
  subst hn_p0_g_1
  unfold spec_l20Period at hm
  refine Calls.enter (N := 13) Try.func90 rfl rfl rfl (fun a hf => ?_)
  have hs := St.start W
  obtain ⟨w, hw_⟩ : ∃ w, w = W := ⟨W, rfl⟩
  clear hw_ w
  refine wpL_seq ?_
  refine wpL_region ?_
  refine sBox hf hs rfl rfl rfl rfl rfl (cs := [.int .i64 p0_g.Events, .slice A_p0_g_1 p0_g.Places.length c_p0_g_1]) rfl ?_; clear hf hs; intro a w b1 hs hf
  have hs : St [] W w [.blk b1 30 [.int .i64 p0_g.Events, .slice A_p0_g_1 p0_g.Places.length c_p0_g_1]] := hs
  refine sY hf hs rfl rfl rfl (Y_assign rfl rfl) ?_; clear hf; intro a hf
  refine wpO_nil ?_
  refine wpL_seq ?_
  refine wpL_block0 ?_
  refine wpL_seq ?_
  refine wpL_region ?_
  refine sY hf hs rfl rfl rfl (Y_load_blkS rfl rfl (i := 0) rfl ag30 ti30 rfl) ?_; clear hf; intro a hf
  obtain ⟨r2, hc3, hm⟩ := bind_some hm
  refine sCall hf rfl rfl rfl rfl (cap := []) rfl rfl en71 (spec_IsEventGraph_ok F p0_g A_p0_g_1 p0_g.Places.length c_p0_g_1 rfl _ _ hc3 (h_p0_g_1.at hs)) ?_; clear hf
  rintro _ w ⟨rfl, hs1⟩ a hf
  have hs : St [] W w [.blk b1 30 [.int .i64 p0_g.Events, .slice A_p0_g_1 p0_g.Places.length c_p0_g_1]] := hs.ext hs1.below
  clear hs1
  refine sY hf hs rfl rfl rfl (Y_not rfl rfl) ?_; clear hf; intro a hf
  refine sY hf hs rfl rfl rfl (Y_assign rfl rfl) ?_; clear hf; intro a hf
  refine wpO_nil ?_
  refine wpL_cond hf rfl (fun hb4 => ?_) (fun hb4 => ?_)
  · have hm := bif_t hm hb4
    refine wpL_seq ?_
    refine wpL_region ?_
    refine sY hf hs rfl rfl rfl (Y_assign rfl rfl) ?_; clear hf; intro a hf
    refine wpO_nil ?_
    obtain rfl := Option.some.inj hm
    refine wpL_ret (Qb_ret (ret_tmp rfl hf rfl ?_))
    exact ⟨_, rfl, rfl, hs.sel [] (by decide)⟩
  · have hm := bif_f hm hb4
    refine wpL_seq ?_
    refine wpL_region ?_
    refine sY hf hs rfl rfl rfl (Y_move rfl rfl) ?_; clear hf; intro a hf
    obtain ⟨r5, hc6, hm⟩ := bind_some hm
    refine sCall hf rfl rfl rfl rfl (cap := []) rfl rfl en119 (spec_l01In_ok F p1_period 0 100000 _ _ hc6) ?_; clear hf
    rintro _ w ⟨rfl, hs1⟩ a hf
    have hs : St [] W w [.blk b1 30 [.int .i64 p0_g.Events, .slice A_p0_g_1 p0_g.Places.length c_p0_g_1]] := hs.ext hs1.below
    clear hs1
    refine sY hf hs rfl rfl rfl (Y_not rfl rfl) ?_; clear hf; intro a hf
    refine sY hf hs rfl rfl rfl (Y_assign rfl rfl) ?_; clear hf; intro a hf
    refine wpO_nil ?_
    refine wpL_cond hf rfl (fun hb7 => ?_) (fun hb7 => ?_)
    · have hm := bif_t hm hb7
      refine wpL_seq ?_
      refine wpL_region ?_
      refine sY hf hs rfl rfl rfl (Y_assign rfl rfl) ?_; clear hf; intro a hf
      refine wpO_nil ?_
      obtain rfl := Option.some.inj hm
      refine wpL_ret (Qb_ret (ret_tmp rfl hf rfl ?_))
      exact ⟨_, rfl, rfl, hs.sel [] (by decide)⟩
    · have hm := bif_f hm hb7
      refine wpL_skip ?_
      refine wpL_nil (Qb_normal ?_)
      refine wpL_seq ?_
      refine wpL_region ?_
      refine sY hf hs rfl rfl rfl (Y_assign rfl rfl) ?_; clear hf; intro a hf
      refine wpO_nil ?_
      obtain rfl := Option.some.inj hm
      refine wpL_ret (ret_tmp rfl hf rfl ?_)
      exact ⟨_, rfl, rfl, hs.sel [] (by decide)⟩

set_option maxRecDepth 100000 in
theorem spec_l02Bottom_ok (F : Nat) (p0_m : Int) (p1_n : Int) (r : List (List Int)) (W : World) (hm : spec_l02Bottom F p0_m p1_n = some r) :
    Calls Try.prog 141 [.int .i64 p0_m, .int .i64 p1_n].toArray W fun e w' => ∃ v, e = .returned v ∧ ∃ A268, ∃ n269, ∃ c270, ∃ vs272, v = .slice A268 n269 c270 ∧ n269 = r.length ∧ St [] W w' [.mat A268 n269 c270 36 2 vs272 r] := by
  unfold spec_l02Bottom at hm
  refine Calls.enter (N := 29) Try.func141 rfl rfl rfl (fun a hf => ?_)
  have hs := St.start W
  obtain ⟨w, hw_⟩ : ∃ w, w = W := ⟨W, rfl⟩
  clear hw_ w
  refine wpL_seq ?_
  refine wpL_region ?_
  refine sY hf hs rfl rfl rfl (Y_assign rfl rfl) ?_; clear hf; intro a hf
  refine wpO_nil ?_
  refine wpL_seq ?_
  refine wpL_region ?_
  refine sEmptyM 2 hf hs rfl rfl rfl rfl el34 ti36 rfl ?_; clear hf hs; intro a w A1 hs hf
  have hs : St [] W w [.mat A1 0 0 36 2 [] []] := hs
  refine sY hf hs rfl rfl rfl (Y_assign rfl rfl) ?_; clear hf; intro a hf
  refine wpO_nil ?_
  refine wpL_seq ?_
  refine wpL_seq ?_
  refine wpL_region ?_
  refine sY hf hs rfl rfl rfl (Y_assign rfl rfl) ?_; clear hf; intro a hf
  refine wpO_nil ?_
  obtain ⟨r204, hl205, hm⟩ := bind_some hm
  refine wpL_block (fun a w => ∃ ms198 : List (List Int), ∃ A199, ∃ n200, ∃ c201, ∃ vs203, ms198 = r204 ∧ n200 = ms198.length ∧ Fr a 29 [(5, .slice A199 n200 c201)] ∧ St [] W w [.mat A199 n200 c201 36 2 vs203 ms198]) ?_ ?_
  · refine wpL_loop (fun n a w => ∃ ms131 : List (List Int), ∃ x137 : Int, ∃ A132, ∃ n133, ∃ c134, ∃ vs136, spec_l02Bottom_L4 F p0_m p1_n n ms131 x137 = some r204 ∧ n133 = ms131.length ∧ Fr a 29 [(0, .int .i64 p0_m), (1, .int .i64 p1_n), (5, .slice A132 n133 c134), (6, .int .i64 x137)] ∧ St [] W w [.mat A132 n133 c134 36 2 vs136 ms131]) F ?_ ?_ ?_
    · exact ⟨[], 0, A1, 0, 0, [], hl205, rfl, (Fr.pick (Fr.pick (Fr.pick (Fr.pick hf.none hf rfl) hf rfl) hf rfl) hf rfl), hs⟩
    · rintro a w ⟨ms131, x137, A132, n133, c134, vs136, h0_, -, -, -⟩; simp [spec_l02Bottom_L4] at h0_
    · rintro n207 a w ⟨ms131, x137, A132, n133, c134, vs136, hm206, hn135, hf, hs⟩
      rw [spec_l02Bottom_L4] at hm206
      refine wpL_seq ?_
      refine wpL_seq ?_
      refine wpL_region ?_
      refine sY hf hs rfl rfl rfl (Y_move rfl rfl) ?_; clear hf; intro a hf
      refine sY hf hs rfl rfl rfl (Y_move rfl rfl) ?_; clear hf; intro a hf
      refine sY hf hs rfl rfl rfl (Y_lss rfl rfl rfl) ?_; clear hf; intro a hf
      refine wpO_nil ?_
      refine wpL_cond hf rfl (fun hb208 => ?_) (fun hb208 => ?_)
      · have hm206 := bif_t hm206 hb208
        refine wpL_skip ?_
        refine wpL_seq ?_
        refine wpL_block0 ?_
        refine wpL_seq ?_
        refine wpL_region ?_
        refine sEmpty hf hs rfl rfl rfl rfl el36 ti2 ?_; clear hf hs; intro a w A209 hs hf
        have hs : St [] W w [.mat A132 n133 c134 36 2 vs136 ms131, .row A209 0 0 2 1 (ints ([] : List Int))] := hs
        refine sY hf hs rfl rfl rfl (Y_assign rfl rfl) ?_; clear hf; intro a hf
        refine wpO_nil ?_
        refine wpL_seq ?_
        refine wpL_seq ?_
        refine wpL_region ?_
        refine sY hf hs rfl rfl rfl (Y_assign rfl rfl) ?_; clear hf; intro a hf
        refine wpO_nil ?_
        obtain ⟨r249, hl250, hm206⟩ := bind_some hm206
        refine wpL_block (fun a w => ∃ xs244 : List Int, ∃ A245, ∃ n246, ∃ c247, xs244 = r249 ∧ n246 = xs244.length ∧ Fr a 29 [(0, .int .i64 p0_m), (1, .int .i64 p1_n), (5, .slice A132 n133 c134), (6, .int .i64 x137), (7, .slice A245 n246 c247)] ∧ St [] W w [.mat A132 n133 c134 36 2 vs136 ms131, .row A245 n246 c247 2 1 (ints xs244)]) ?_ ?_
        · refine wpL_loop (fun n a w => ∃ xs231 : List Int, ∃ x236 : Int, ∃ A232, ∃ n233, ∃ c234, spec_l02Bottom_L5 F p1_n n xs231 x236 = some r249 ∧ n233 = xs231.length ∧ Fr a 29 [(0, .int .i64 p0_m), (1, .int .i64 p1_n), (5, .slice A132 n133 c134), (6, .int .i64 x137), (7, .slice A232 n233 c234), (8, .int .i64 x236)] ∧ St [] W w [.mat A132 n133 c134 36 2 vs136 ms131, .row A232 n233 c234 2 1 (ints xs231)]) F ?_ ?_ ?_
          · exact ⟨([] : List Int), 0, A209, 0, 0, hl250, rfl, (Fr.pick (Fr.pick (Fr.pick (Fr.pick (Fr.pick (Fr.pick hf.none hf rfl) hf rfl) hf rfl) hf rfl) hf rfl) hf rfl), hs⟩
          · rintro a w ⟨xs231, x236, A232, n233, c234, h0_, -, -, -⟩; simp [spec_l02Bottom_L5] at h0_
          · rintro n252 a w ⟨xs231, x236, A232, n233, c234, hm251, hn235, hf, hs⟩
            rw [spec_l02Bottom_L5] at hm251
            refine wpL_seq ?_
            refine wpL_seq ?_
            refine wpL_region ?_
            refine sY hf hs rfl rfl rfl (Y_move rfl rfl) ?_; clear hf; intro a hf
            refine sY hf hs rfl rfl rfl (Y_move rfl rfl) ?_; clear hf; intro a hf
            refine sY hf hs rfl rfl rfl (Y_lss rfl rfl rfl) ?_; clear hf; intro a hf
            refine wpO_nil ?_
            refine wpL_cond hf rfl (fun hb253 => ?_) (fun hb253 => ?_)
            · have hm251 := bif_t hm251 hb253
              refine wpL_skip ?_
              refine wpL_seq ?_
              refine wpL_block0 ?_
              refine wpL_region ?_
              refine sY hf hs rfl rfl rfl (Y_move rfl rfl) ?_; clear hf; intro a hf
              refine sBuildSlice (parts := [(0, .const (.int .i64 (-1000000000000000)))]) (vs := [.int .i64 (-1000000000000000)]) (cells := [.int .i64 (-1000000000000000)]) hf hs rfl rfl rfl rfl rfl el36 ti2 rfl rfl rfl rfl ?_; clear hf hs; intro a w A254 hs hA255 hf
              have hs : St [] W w [.mat A132 n133 c134 36 2 vs136 ms131, .row A232 n233 c234 2 1 (ints xs231), .row A254 1 1 2 1 (ints ([(-1000000000000000)]))] := hs
              obtain ⟨xs258, ha259, hm251⟩ := bind_some hm251
              refine sAppendL (i := 1) (xs := xs231) (ys := [(-1000000000000000)]) (enc := ints) hf hs rfl rfl rfl rfl rfl rfl hn235 rfl rfl ha259 el36 ti2 rfl rfl rfl (hs.rd (i := 2) rfl) (Nat.succ_pos _) ints_len1 ints_append ints_one ?_; clear hf hs; intro a w A256 c257 hs hf
              have hs : St [] W w [.mat A132 n133 c134 36 2 vs136 ms131, .row A256 xs258.length c257 2 1 (ints xs258), .row A254 1 1 2 1 (ints ([(-1000000000000000)]))] := hs
              refine sY hf hs rfl rfl rfl (Y_assign rfl rfl) ?_; clear hf; intro a hf
              refine wpO_nil ?_
              refine wpL_nil (Qb_normal ?_)
              refine wpL_region ?_
              refine sY hf hs rfl rfl rfl (Y_move rfl rfl) ?_; clear hf; intro a hf
              refine sY hf hs rfl rfl rfl (Y_add rfl rfl rfl) ?_; clear hf; intro a hf
              refine sY hf hs rfl rfl rfl (Y_assign rfl rfl) ?_; clear hf; intro a hf
              refine wpO_nil ?_
              refine wpL_nil (Ql_normal ?_)
              exact ⟨xs258, (IntKind.i64.wrap (x236 + 1)), A256, xs258.length, c257, hm251, rfl, (Fr.pick (Fr.pick (Fr.pick (Fr.pick (Fr.pick (Fr.pick hf.none hf rfl) hf rfl) hf rfl) hf rfl) hf rfl) hf rfl), hs.sel [0, 1] (by decide)⟩
            · have hm251 := bif_f hm251 hb253
              refine wpL_exit (Ql_exit (Qb_exit ?_))
              exact ⟨xs231, A232, n233, c234, Option.some.inj hm251, hn235, (Fr.pick (Fr.pick (Fr.pick (Fr.pick (Fr.pick hf.none hf rfl) hf rfl) hf rfl) hf rfl) hf rfl), hs⟩
        · rintro a w ⟨xs244, A245, n246, c247, hr_, hn248, hf, hs⟩
          subst hr_
          try dsimp only at hm206
          refine wpL_region ?_
          refine sY hf hs rfl rfl rfl (Y_move rfl rfl) ?_; clear hf; intro a hf
          refine sY hf hs rfl rfl rfl (Y_move rfl rfl) ?_; clear hf; intro a hf
          refine sOneM (j := 1) hf hs rfl rfl rfl rfl rfl rfl hn248 el34 ti36 ?_; clear hf hs; intro a w A260 hs hf
          have hs : St [] W w [.mat A132 n133 c134 36 2 vs136 ms131, .mat A260 1 1 36 2 ([.slice A245 xs244.length c247]) ([xs244])] := hs
          obtain ⟨ms264, ha265, hm206⟩ := bind_some hm206
          refine sAppendM (i := 0) (j := 1) hf hs rfl rfl rfl rfl rfl rfl hn135 rfl (by decide) rfl rfl (by decide) ha265 el34 ti36 rfl ?_; clear hf hs; intro a w A262 c263 hs hf
          have hs : St [] W w [.mat A262 ms264.length c263 36 2 (vs136 ++ ([.slice A245 xs244.length c247])) ms264] := hs
          obtain ⟨hq266, hv267⟩ := hs.appended (i := 0) rfl ha265
          refine sY hf hs rfl rfl rfl (Y_assign rfl rfl) ?_; clear hf; intro a hf
          refine wpO_nil ?_
          refine wpL_nil (Qb_normal ?_)
          refine wpL_region ?_
          refine sY hf hs rfl rfl rfl (Y_move rfl rfl) ?_; clear hf; intro a hf
          refine sY hf hs rfl rfl rfl (Y_add rfl rfl rfl) ?_; clear hf; intro a hf
          refine sY hf hs rfl rfl rfl (Y_assign rfl rfl) ?_; clear hf; intro a hf
          refine wpO_nil ?_
          refine wpL_nil (Ql_normal ?_)
          exact ⟨ms264, (IntKind.i64.wrap (x137 + 1)), A262, ms264.length, c263, (vs136 ++ ([.slice A245 xs244.length c247])), hm206, rfl, (Fr.pick (Fr.pick (Fr.pick (Fr.pick hf.none hf rfl) hf rfl) hf rfl) hf rfl), hs⟩
      · have hm206 := bif_f hm206 hb208
        refine wpL_exit (Ql_exit (Qb_exit ?_))
        exact ⟨ms131, A132, n133, c134, vs136, Option.some.inj hm206, hn135, (Fr.pick hf.none hf rfl), hs⟩
  · rintro a w ⟨ms198, A199, n200, c201, vs203, hr_, hn202, hf, hs⟩
    subst hr_
    try dsimp only at hm
    refine wpL_seq ?_
    refine wpL_region ?_
    refine sY hf hs rfl rfl rfl (Y_move rfl rfl) ?_; clear hf; intro a hf
    refine sY hf hs rfl rfl rfl (Y_assign rfl rfl) ?_; clear hf; intro a hf
    refine wpO_nil ?_
    obtain rfl := Option.some.inj hm
    refine wpL_ret (ret_tmp rfl hf rfl ?_)
    exact ⟨_, rfl, A199, n200, c201, vs203, rfl, hn202, hs⟩

set_option maxRecDepth 100000 in
theorem spec_l15Weights_ok (F : Nat) (p0_g : GEventGraph) (A_p0_g_1 : Option Addr) (n_p0_g_1 c_p0_g_1 : Nat) (hn_p0_g_1 : n_p0_g_1 = p0_g.Places.length) (p1_r : GRatio) (r : List (List Int)) (W : World) (hm : spec_l15Weights F p0_g p1_r = some r) (h_p0_g_1 : Rd W A_p0_g_1 ((recs GPlace.cells) p0_g.Places)) :
    Calls Try.prog 102 [.agg #[.int .i64 p0_g.Events, .slice A_p0_g_1 n_p0_g_1 c_p0_g_1], .agg #[.int .i64 p1_r.Num, .int .i64 p1_r.Den]].toArray W fun e w' => ∃ v, e = .returned v ∧ ∃ A198, ∃ n199, ∃ c200, ∃ vs202, v = .slice A198 n199 c200 ∧ n199 = r.length ∧ St [] W w' [.mat A198 n199 c200 36 2 vs202 r] := by
  subst hn_p0_g_1
  unfold spec_l15Weights at hm
  refine Calls.enter (N := 55) Try.func102 rfl rfl rfl (fun a hf => ?_)
  have hs := St.start W
  obtain ⟨w, hw_⟩ : ∃ w, w = W := ⟨W, rfl⟩
  clear hw_ w
  refine wpL_seq ?_
  refine wpL_region ?_
  refine sBox hf hs rfl rfl rfl rfl rfl (cs := [.int .i64 p0_g.Events, .slice A_p0_g_1 p0_g.Places.length c_p0_g_1]) rfl ?_; clear hf hs; intro a w b1 hs hf
  have hs : St [] W w [.blk b1 30 [.int .i64 p0_g.Events, .slice A_p0_g_1 p0_g.Places.length c_p0_g_1]] := hs
  refine sBox hf hs rfl rfl rfl rfl rfl (cs := [.int .i64 p1_r.Num, .int .i64 p1_r.Den]) rfl ?_; clear hf hs; intro a w b2 hs hf
  have hs : St [] W w [.blk b1 30 [.int .i64 p0_g.Events, .slice A_p0_g_1 p0_g.Places.length c_p0_g_1], .blk b2 84 [.int .i64 p1_r.Num, .int .i64 p1_r.Den]] := hs
  refine sY hf hs rfl rfl rfl (Y_assign rfl rfl) ?_; clear hf; intro a hf
  refine wpO_nil ?_
  refine wpL_seq ?_
  refine wpL_region ?_
  refine sY hf hs rfl rfl rfl (Y_fieldAddr rfl rfl fo30_0) ?_; clear hf; intro a hf
  refine sY hf hs rfl rfl rfl (Y_load_blk rfl rfl (i := 0) rfl rfl ag2) ?_; clear hf; intro a hf
  refine sY hf hs rfl rfl rfl (Y_fieldAddr rfl rfl fo30_0) ?_; clear hf; intro a hf
  refine sY hf hs rfl rfl rfl (Y_load_blk rfl rfl (i := 0) rfl rfl ag2) ?_; clear hf; intro a hf
  obtain ⟨r3, hc4, hm⟩ := bind_some hm
  refine sCall hf rfl rfl rfl rfl (cap := []) rfl rfl en141 (spec_l02Bottom_ok F p0_g.Events p0_g.Events _ _ hc4) ?_; clear hf
  rintro _ w ⟨A5, n6, c7, vs9, rfl, hn8, hs1⟩ a hf
  have hs : St [] W w [.blk b1 30 [.int .i64 p0_g.Events, .slice A_p0_g_1 p0_g.Places.length c_p0_g_1], .blk b2 84 [.int .i64 p1_r.Num, .int .i64 p1_r.Den], .mat A5 n6 c7 36 2 vs9 r3] := hs.join hs1
  clear hs1
  refine sY hf hs rfl rfl rfl (Y_assign rfl rfl) ?_; clear hf; intro a hf
  refine wpO_nil ?_
  refine wpL_seq ?_
  refine wpL_seq ?_
  refine wpL_region ?_
  refine sY hf hs rfl rfl rfl (Y_assign rfl rfl) ?_; clear hf; intro a hf
  refine wpO_nil ?_
  obtain ⟨r150, hl151, hm⟩ := bind_some hm
  refine wpL_block (fun a w => ∃ ms148 : List (List Int), ms148 = r150 ∧ n6 = ms148.length ∧ Fr a 55 [(5, .slice A5 n6 c7)] ∧ St [] W w [.mat A5 n6 c7 36 2 vs9 ms148]) ?_ ?_
  · refine wpL_loop (fun n a w => ∃ ms101 : List (List Int), ∃ x103 : Int, spec_l15Weights_L1 F p0_g p1_r n ms101 x103 = some r150 ∧ n6 = ms101.length ∧ Fr a 55 [(2, .pointer (some ⟨b1, 0, none⟩)), (3, .pointer (some ⟨b2, 0, none⟩)), (5, .slice A5 n6 c7), (6, .int .i64 x103)] ∧ St [] W w [.blk b1 30 [.int .i64 p0_g.Events, .slice A_p0_g_1 p0_g.Places.length c_p0_g_1], .blk b2 84 [.int .i64 p1_r.Num, .int .i64 p1_r.Den], .mat A5 n6 c7 36 2 vs9 ms101]) F ?_ ?_ ?_
    · exact ⟨r3, 0, hl151, hn8, (Fr.pick (Fr.pick (Fr.pick (Fr.pick hf.none hf rfl) hf rfl) hf rfl) hf rfl), hs⟩
    · rintro a w ⟨ms101, x103, h0_, -, -, -⟩; simp [spec_l15Weights_L1] at h0_
    · rintro n153 a w ⟨ms101, x103, hm152, hn102, hf, hs⟩
      rw [spec_l15Weights_L1] at hm152
      refine wpL_seq ?_
      refine wpL_seq ?_
      refine wpL_region ?_
      refine sY hf hs rfl rfl rfl (Y_move rfl rfl) ?_; clear hf; intro a hf
      refine sY hf hs rfl rfl rfl (Y_fieldAddr rfl rfl fo30_1) ?_; clear hf; intro a hf
      refine sY hf hs rfl rfl rfl (Y_load_blk rfl rfl (i := 0) rfl rfl ag28) ?_; clear hf; intro a hf
      refine sY hf hs rfl rfl rfl (Y_lenH rfl rfl el28 rfl) ?_; clear hf; intro a hf
      refine sY hf hs rfl rfl rfl (Y_lss rfl rfl rfl) ?_; clear hf; intro a hf
      refine wpO_nil ?_
      refine wpL_cond hf rfl (fun hb154 => ?_) (fun hb154 => ?_)
      · have hm152 := bif_t hm152 hb154
        refine wpL_skip ?_
        refine wpL_seq ?_
        refine wpL_block0 ?_
        refine wpL_seq ?_
        refine wpL_region ?_
        refine sY hf hs rfl rfl rfl (Y_fieldAddr rfl rfl fo30_1) ?_; clear hf; intro a hf
        refine sY hf hs rfl rfl rfl (Y_load_blk rfl rfl (i := 0) rfl rfl ag28) ?_; clear hf; intro a hf
        refine sY hf hs rfl rfl rfl (Y_move rfl rfl) ?_; clear hf; intro a hf
        obtain ⟨q155, hi156, hm152⟩ := bind_some hm152
        obtain ⟨hi156a, hi156b, hi156q⟩ := idx_some hi156
        refine sY hf hs rfl rfl rfl (Y_index rfl rfl rfl el28 ti120 (Rd.isAt (h_p0_g_1.at hs) (recs_at (s := 4) GPlace.len hi156q (j := 0) rfl)) hi156a hi156b) ?_; clear hf; intro a hf
        refine sY hf hs rfl rfl rfl (Y_load_rdS rfl rfl (us := [.int .i64 q155.From, .int .i64 q155.To, .int .i64 q155.Delay, .int .i64 q155.Tokens]) (fun w hs => h_p0_g_1.at hs) (fun j u hj => recs_at (s := 4) GPlace.len hi156q hj) (Nat.succ_pos _) ag120 ti120 rfl) ?_; clear hf; intro a hf
        refine sAlloc hf hs rfl rfl rfl rfl ti120 ?_; clear hf hs; intro a w b157 hs hf
        have hs : St [] W w [.blk b1 30 [.int .i64 p0_g.Events, .slice A_p0_g_1 p0_g.Places.length c_p0_g_1], .blk b2 84 [.int .i64 p1_r.Num, .int .i64 p1_r.Den], .mat A5 n6 c7 36 2 vs9 ms101, .blk b157 120 [.int .i64 0, .int .i64 0, .int .i64 0, .int .i64 0]] := hs
        refine sStore (i := 3) (us := [.int .i64 q155.From, .int .i64 q155.To, .int .i64 q155.Delay, .int .i64 q155.Tokens]) hf hs rfl rfl rfl rfl rfl rfl ti120 rfl rfl rfl (Nat.le_of_ble_eq_true rfl) rfl ?_; clear hs; intro w hs
        have hs : St [] W w [.blk b1 30 [.int .i64 p0_g.Events, .slice A_p0_g_1 p0_g.Places.length c_p0_g_1], .blk b2 84 [.int .i64 p1_r.Num, .int .i64 p1_r.Den], .mat A5 n6 c7 36 2 vs9 ms101, .blk b157 120 [.int .i64 q155.From, .int .i64 q155.To, .int .i64 q155.Delay, .int .i64 q155.Tokens]] := hs
        refine wpO_nil ?_
        refine wpL_drawG [.blk b1 30 [.int .i64 p0_g.Events, .slice A_p0_g_1 p0_g.Places.length c_p0_g_1], .blk b2 84 [.int .i64 p1_r.Num, .int .i64 p1_r.Den], .mat A5 n6 c7 36 2 vs9 ms101, .blk b157 120 [.int .i64 q155.From, .int .i64 q155.To, .int .i64 q155.Delay, .int .i64 q155.Tokens]] 29 (by kernel_rfl) hs ?_; clear hs; intro w hs
        have hs0 : St [] W w [.blk b1 30 [.int .i64 p0_g.Events, .slice A_p0_g_1 p0_g.Places.length c_p0_g_1], .blk b2 84 [.int .i64 p1_r.Num, .int .i64 p1_r.Den], .mat A5 n6 c7 36 2 vs9 ms101, .blk b157 120 [.int .i64 q155.From, .int .i64 q155.To, .int .i64 q155.Delay, .int .i64 q155.Tokens]] := hs
        refine gY (i := 0) [] rfl (by kernel_rfl) (by kernel_rfl) hf hs0 rfl rfl rfl (Y_move rfl rfl) ?_; clear hf; intro a hf
        refine gY (i := 1) [] rfl (by kernel_rfl) (by kernel_rfl) hf hs0 rfl rfl rfl (Y_fieldAddr rfl rfl fo120_1) ?_; clear hf; intro a hf
        refine gY (i := 2) [] rfl (by kernel_rfl) (by kernel_rfl) hf hs0 rfl rfl rfl (Y_load_blk rfl rfl (i := 3) rfl rfl ag2) ?_; clear hf; intro a hf
        obtain ⟨q178, hi179, hm152⟩ := bind_some hm152
        obtain ⟨hi179a, hi179b, hi179q⟩ := idx_some hi179
        obtain ⟨A180, c181, hv182⟩ := hs0.matRow (i := 2) rfl hi179q
        refine gY (i := 3) [] rfl (by kernel_rfl) (by kernel_rfl) hf hs0 rfl rfl rfl (Y_index rfl rfl rfl el34 ti36 (Rd.isAt (hs0.rdV (i := 2) rfl) hv182) hi179a (ltn hn102 hi179b)) ?_; clear hf; intro a hf
        refine gY (i := 4) [] rfl (by kernel_rfl) (by kernel_rfl) hf hs0 rfl rfl rfl (Y_load_rd rfl rfl (fun w hs => hs.rdV (i := 2) rfl) (at1 hv182) ag36) ?_; clear hf; intro a hf
        refine gY (i := 5) [] rfl (by kernel_rfl) (by kernel_rfl) hf hs0 rfl rfl rfl (Y_fieldAddr rfl rfl fo120_0) ?_; clear hf; intro a hf
        refine gY (i := 6) [] rfl (by kernel_rfl) (by kernel_rfl) hf hs0 rfl rfl rfl (Y_load_blk rfl rfl (i := 3) rfl rfl ag2) ?_; clear hf; intro a hf
        refine gY (i := 7) [] rfl (by kernel_rfl) (by kernel_rfl) hf hs0 rfl rfl rfl (Y_move rfl rfl) ?_; clear hf; intro a hf
        refine gY (i := 8) [] rfl (by kernel_rfl) (by kernel_rfl) hf hs0 rfl rfl rfl (Y_fieldAddr rfl rfl fo120_1) ?_; clear hf; intro a hf
        refine gY (i := 9) [] rfl (by kernel_rfl) (by kernel_rfl) hf hs0 rfl rfl rfl (Y_load_blk rfl rfl (i := 3) rfl rfl ag2) ?_; clear hf; intro a hf
        obtain ⟨q183, hi184, hm152⟩ := bind_some hm152
        obtain ⟨hi184a, hi184b, hi184q⟩ := idx_some hi184
        obtain ⟨A185, c186, hv187⟩ := hs0.matRow (i := 2) rfl hi184q
        refine gY (i := 10) [] rfl (by kernel_rfl) (by kernel_rfl) hf hs0 rfl rfl rfl (Y_index rfl rfl rfl el34 ti36 (Rd.isAt (hs0.rdV (i := 2) rfl) hv187) hi184a (ltn hn102 hi184b)) ?_; clear hf; intro a hf
        refine gY (i := 11) [] rfl (by kernel_rfl) (by kernel_rfl) hf hs0 rfl rfl rfl (Y_load_rd rfl rfl (fun w hs => hs.rdV (i := 2) rfl) (at1 hv187) ag36) ?_; clear hf; intro a hf
        refine gY (i := 12) [] rfl (by kernel_rfl) (by kernel_rfl) hf hs0 rfl rfl rfl (Y_fieldAddr rfl rfl fo120_0) ?_; clear hf; intro a hf
        refine gY (i := 13) [] rfl (by kernel_rfl) (by kernel_rfl) hf hs0 rfl rfl rfl (Y_load_blk rfl rfl (i := 3) rfl rfl ag2) ?_; clear hf; intro a hf
        obtain ⟨q188, hi189, hm152⟩ := bind_some hm152
        obtain ⟨hi189a, hi189b, hi189q⟩ := idx_some hi189
        refine gY (i := 14) [] rfl (by kernel_rfl) (by kernel_rfl) hf hs0 rfl rfl rfl (Y_index rfl rfl rfl el36 ti2 (Rd.isAt (hs0.rdRow (i := 2) rfl ⟨hi184q, hv187⟩) (at1 (ints_at hi189q))) hi189a hi189b) ?_; clear hf; intro a hf
        refine gY (i := 15) [] rfl (by kernel_rfl) (by kernel_rfl) hf hs0 rfl rfl rfl (Y_load_rd rfl rfl (fun w hs => hs.rdRow (i := 2) rfl ⟨hi184q, hv187⟩) (at1 (ints_at hi189q)) ag2) ?_; clear hf; intro a hf
        refine gY (i := 16) [] rfl (by kernel_rfl) (by kernel_rfl) hf hs0 rfl rfl rfl (Y_fieldAddr rfl rfl fo84_1) ?_; clear hf; intro a hf
        refine gY (i := 17) [] rfl (by kernel_rfl) (by kernel_rfl) hf hs0 rfl rfl rfl (Y_load_blk rfl rfl (i := 1) rfl rfl ag2) ?_; clear hf; intro a hf
        refine gY (i := 18) [] rfl (by kernel_rfl) (by kernel_rfl) hf hs0 rfl rfl rfl (Y_fieldAddr rfl rfl fo120_2) ?_; clear hf; intro a hf
        refine gY (i := 19) [] rfl (by kernel_rfl) (by kernel_rfl) hf hs0 rfl rfl rfl (Y_load_blk rfl rfl (i := 3) rfl rfl ag2) ?_; clear hf; intro a hf
        refine gY (i := 20) [] rfl (by kernel_rfl) (by kernel_rfl) hf hs0 rfl rfl rfl (Y_mul rfl rfl rfl) ?_; clear hf; intro a hf
        refine gY (i := 21) [] rfl (by kernel_rfl) (by kernel_rfl) hf hs0 rfl rfl rfl (Y_fieldAddr rfl rfl fo84_0) ?_; clear hf; intro a hf
        refine gY (i := 22) [] rfl (by kernel_rfl) (by kernel_rfl) hf hs0 rfl rfl rfl (Y_load_blk rfl rfl (i := 1) rfl rfl ag2) ?_; clear hf; intro a hf
        refine gY (i := 23) [] rfl (by kernel_rfl) (by kernel_rfl) hf hs0 rfl rfl rfl (Y_fieldAddr rfl rfl fo120_3) ?_; clear hf; intro a hf
        refine gY (i := 24) [] rfl (by kernel_rfl) (by kernel_rfl) hf hs0 rfl rfl rfl (Y_load_blk rfl rfl (i := 3) rfl rfl ag2) ?_; clear hf; intro a hf
        refine gY (i := 25) [] rfl (by kernel_rfl) (by kernel_rfl) hf hs0 rfl rfl rfl (Y_mul rfl rfl rfl) ?_; clear hf; intro a hf
        refine gY (i := 26) [] rfl (by kernel_rfl) (by kernel_rfl) hf hs0 rfl rfl rfl (Y_sub rfl rfl rfl) ?_; clear hf; intro a hf
        refine gY (i := 27) [] rfl (by kernel_rfl) (by kernel_rfl) hf hs0 rfl rfl rfl (Y_max rfl rfl rfl) ?_; clear hf; intro a hf
        obtain ⟨q190, hi191, hm152⟩ := bind_some hm152
        obtain ⟨hi191a, hi191b, hi191q⟩ := idx_some hi191
        refine gY (i := 28) [] rfl (by kernel_rfl) (by kernel_rfl) hf hs0 rfl rfl rfl (Y_index rfl rfl rfl el36 ti2 (Rd.isAt (hs0.rdRow (i := 2) rfl ⟨hi179q, hv182⟩) (at1 (ints_at hi191q))) hi191a hi191b) ?_; clear hf; intro a hf
        refine gRun (i := 29) rfl (by kernel_rfl) ?_
        obtain ⟨xs192, hu194, hm152⟩ := bind_some hm152
        obtain ⟨ms193, hu195, hm152⟩ := bind_some hm152
        refine sStoreM (i := 2) (k := q155.To) hf hs rfl rfl rfl rfl rfl rfl hi179q hv182 rfl hu194 hu195 ti2 ?_; clear hs; intro w hs
        obtain ⟨hq196, hv197⟩ := rowUpd hu194 hu195 hv182
        have hs : St [] W w [.blk b1 30 [.int .i64 p0_g.Events, .slice A_p0_g_1 p0_g.Places.length c_p0_g_1], .blk b2 84 [.int .i64 p1_r.Num, .int .i64 p1_r.Den], .mat A5 n6 c7 36 2 vs9 ms193, .blk b157 120 [.int .i64 q155.From, .int .i64 q155.To, .int .i64 q155.Delay, .int .i64 q155.Tokens]] := hs
        refine wpO_nil ⟨Or.inl rfl, ?_⟩
        refine gDone (by kernel_rfl) ?_
        clear hs0
        refine wpL_nil (Qb_normal ?_)
        refine wpL_region ?_
        refine sY hf hs rfl rfl rfl (Y_move rfl rfl) ?_; clear hf; intro a hf
        refine sY hf hs rfl rfl rfl (Y_add rfl rfl rfl) ?_; clear hf; intro a hf
        refine sY hf hs rfl rfl rfl (Y_assign rfl rfl) ?_; clear hf; intro a hf
        refine wpO_nil ?_
        refine wpL_nil (Ql_normal ?_)
        exact ⟨ms193, (IntKind.i64.wrap (x103 + 1)), hm152, ((hn102).trans (upd_len hu195).symm), (Fr.pick (Fr.pick (Fr.pick (Fr.pick hf.none hf rfl) hf rfl) hf rfl) hf rfl), hs.sel [0, 1, 2] (by decide)⟩
      · have hm152 := bif_f hm152 hb154
        refine wpL_exit (Ql_exit (Qb_exit ?_))
        exact ⟨ms101, Option.some.inj hm152, hn102, (Fr.pick hf.none hf rfl), hs.sel [2] (by decide)⟩
  · rintro a w ⟨ms148, hr_, hn149, hf, hs⟩
    subst hr_
    try dsimp only at hm
    refine wpL_seq ?_
    refine wpL_region ?_
    refine sY hf hs rfl rfl rfl (Y_move rfl rfl) ?_; clear hf; intro a hf
    refine sY hf hs rfl rfl rfl (Y_assign rfl rfl) ?_; clear hf; intro a hf
    refine wpO_nil ?_
    obtain rfl := Option.some.inj hm
    refine wpL_ret (ret_tmp rfl hf rfl ?_)
    exact ⟨_, rfl, A5, n6, c7, vs9, rfl, hn149, hs⟩

set_option maxRecDepth 100000 in
theorem spec_l02Unit_ok (F : Nat) (p0_n : Int) (r : List (List Int)) (W : World) (hm : spec_l02Unit F p0_n = some r) :
    Calls Try.prog 145 [.int .i64 p0_n].toArray W fun e w' => ∃ v, e = .returned v ∧ ∃ A76, ∃ n77, ∃ c78, ∃ vs80, v = .slice A76 n77 c78 ∧ n77 = r.length ∧ St [] W w' [.mat A76 n77 c78 36 2 vs80 r] := by
  unfold spec_l02Unit at hm
  refine Calls.enter (N := 20) Try.func145 rfl rfl rfl (fun a hf => ?_)
  have hs := St.start W
  obtain ⟨w, hw_⟩ : ∃ w, w = W := ⟨W, rfl⟩
  clear hw_ w
  refine wpL_seq ?_
  refine wpL_region ?_
  refine sY hf hs rfl rfl rfl (Y_assign rfl rfl) ?_; clear hf; intro a hf
  refine wpO_nil ?_
  refine wpL_seq ?_
  refine wpL_region ?_
  refine sY hf hs rfl rfl rfl (Y_move rfl rfl) ?_; clear hf; intro a hf
  refine sY hf hs rfl rfl rfl (Y_move rfl rfl) ?_; clear hf; intro a hf
  obtain ⟨r1, hc2, hm⟩ := bind_some hm
  refine sCall hf rfl rfl rfl rfl (cap := []) rfl rfl en141 (spec_l02Bottom_ok F p0_n p0_n _ _ hc2) ?_; clear hf
  rintro _ w ⟨A3, n4, c5, vs7, rfl, hn6, hs1⟩ a hf
  have hs : St [] W w [.mat A3 n4 c5 36 2 vs7 r1] := hs.join hs1
  clear hs1
  refine sY hf hs rfl rfl rfl (Y_assign rfl rfl) ?_; clear hf; intro a hf
  refine wpO_nil ?_
  refine wpL_seq ?_
  refine wpL_seq ?_
  refine wpL_region ?_
  refine sY hf hs rfl rfl rfl (Y_assign rfl rfl) ?_; clear hf; intro a hf
  refine wpO_nil ?_
  obtain ⟨r58, hl59, hm⟩ := bind_some hm
  refine wpL_block (fun a w => ∃ ms56 : List (List Int), ms56 = r58 ∧ n4 = ms56.length ∧ Fr a 20 [(3, .slice A3 n4 c5)] ∧ St [] W w [.mat A3 n4 c5 36 2 vs7 ms56]) ?_ ?_
  · refine wpL_loop (fun n a w => ∃ ms39 : List (List Int), ∃ x41 : Int, spec_l02Unit_L1 F p0_n n ms39 x41 = some r58 ∧ n4 = ms39.length ∧ Fr a 20 [(0, .int .i64 p0_n), (3, .slice A3 n4 c5), (4, .int .i64 x41)] ∧ St [] W w [.mat A3 n4 c5 36 2 vs7 ms39]) F ?_ ?_ ?_
    · exact ⟨r1, 0, hl59, hn6, (Fr.pick (Fr.pick (Fr.pick hf.none hf rfl) hf rfl) hf rfl), hs⟩
    · rintro a w ⟨ms39, x41, h0_, -, -, -⟩; simp [spec_l02Unit_L1] at h0_
    · rintro n61 a w ⟨ms39, x41, hm60, hn40, hf, hs⟩
      rw [spec_l02Unit_L1] at hm60
      refine wpL_seq ?_
      refine wpL_seq ?_
      refine wpL_region ?_
      refine sY hf hs rfl rfl rfl (Y_move rfl rfl) ?_; clear hf; intro a hf
      refine sY hf hs rfl rfl rfl (Y_move rfl rfl) ?_; clear hf; intro a hf
      refine sY hf hs rfl rfl rfl (Y_lss rfl rfl rfl) ?_; clear hf; intro a hf
      refine wpO_nil ?_
      refine wpL_cond hf rfl (fun hb62 => ?_) (fun hb62 => ?_)
      · have hm60 := bif_t hm60 hb62
        refine wpL_skip ?_
        refine wpL_seq ?_
        refine wpL_block0 ?_
        refine wpL_region ?_
        refine sY hf hs rfl rfl rfl (Y_move rfl rfl) ?_; clear hf; intro a hf
        refine sY hf hs rfl rfl rfl (Y_move rfl rfl) ?_; clear hf; intro a hf
        obtain ⟨q63, hi64, hm60⟩ := bind_some hm60
        obtain ⟨hi64a, hi64b, hi64q⟩ := idx_some hi64
        obtain ⟨A65, c66, hv67⟩ := hs.matRow (i := 0) rfl hi64q
        refine sY hf hs rfl rfl rfl (Y_index rfl rfl rfl el34 ti36 (Rd.isAt (hs.rdV (i := 0) rfl) hv67) hi64a (ltn hn40 hi64b)) ?_; clear hf; intro a hf
        refine sY hf hs rfl rfl rfl (Y_load_rd rfl rfl (fun w hs => hs.rdV (i := 0) rfl) (at1 hv67) ag36) ?_; clear hf; intro a hf
        refine sY hf hs rfl rfl rfl (Y_move rfl rfl) ?_; clear hf; intro a hf
        obtain ⟨q68, hi69, hm60⟩ := bind_some hm60
        obtain ⟨hi69a, hi69b, hi69q⟩ := idx_some hi69
        refine sY hf hs rfl rfl rfl (Y_index rfl rfl rfl el36 ti2 (Rd.isAt (hs.rdRow (i := 0) rfl ⟨hi64q, hv67⟩) (at1 (ints_at hi69q))) hi69a hi69b) ?_; clear hf; intro a hf
        obtain ⟨xs70, hu72, hm60⟩ := bind_some hm60
        obtain ⟨ms71, hu73, hm60⟩ := bind_some hm60
        refine sStoreM (i := 0) (k := x41) hf hs rfl rfl rfl rfl rfl rfl hi64q hv67 rfl hu72 hu73 ti2 ?_; clear hs; intro w hs
        obtain ⟨hq74, hv75⟩ := rowUpd hu72 hu73 hv67
        have hs : St [] W w [.mat A3 n4 c5 36 2 vs7 ms71] := hs
        refine wpO_nil ?_
        refine wpL_nil (Qb_normal ?_)
        refine wpL_region ?_
        refine sY hf hs rfl rfl rfl (Y_move rfl rfl) ?_; clear hf; intro a hf
        refine sY hf hs rfl rfl rfl (Y_add rfl rfl rfl) ?_; clear hf; intro a hf
        refine sY hf hs rfl rfl rfl (Y_assign rfl rfl) ?_; clear hf; intro a hf
        refine wpO_nil ?_
        refine wpL_nil (Ql_normal ?_)
        exact ⟨ms71, (IntKind.i64.wrap (x41 + 1)), hm60, ((hn40).trans (upd_len hu73).symm), (Fr.pick (Fr.pick (Fr.pick hf.none hf rfl) hf rfl) hf rfl), hs⟩
      · have hm60 := bif_f hm60 hb62
        refine wpL_exit (Ql_exit (Qb_exit ?_))
        exact ⟨ms39, Option.some.inj hm60, hn40, (Fr.pick hf.none hf rfl), hs⟩
  · rintro a w ⟨ms56, hr_, hn57, hf, hs⟩
    subst hr_
    try dsimp only at hm
    refine wpL_seq ?_
    refine wpL_region ?_
    refine sY hf hs rfl rfl rfl (Y_move rfl rfl) ?_; clear hf; intro a hf
    refine sY hf hs rfl rfl rfl (Y_assign rfl rfl) ?_; clear hf; intro a hf
    refine wpO_nil ?_
    obtain rfl := Option.some.inj hm
    refine wpL_ret (ret_tmp rfl hf rfl ?_)
    exact ⟨_, rfl, A3, n4, c5, vs7, rfl, hn57, hs⟩

set_option maxRecDepth 100000 in
theorem spec_l01Times_ok (F : Nat) (p0_a : Int) (p1_b : Int) (r : Int) (W : World) (hm : spec_l01Times F p0_a p1_b = some r) :
    Calls Try.prog 115 [.int .i64 p0_a, .int .i64 p1_b].toArray W fun e w' => ∃ v, e = .returned v ∧ v = .int .i64 r ∧ St [] W w' [] := by
  unfold spec_l01Times at hm
  refine Calls.enter (N := 14) Try.func115 rfl rfl rfl (fun a hf => ?_)
  have hs := St.start W
  obtain ⟨w, hw_⟩ : ∃ w, w = W := ⟨W, rfl⟩
  clear hw_ w
  refine wpL_seq ?_
  refine wpL_region ?_
  refine sY hf hs rfl rfl rfl (Y_assign rfl rfl) ?_; clear hf; intro a hf
  refine wpO_nil ?_
  refine wpL_seq ?_
  refine wpL_seq ?_
  obtain ⟨r3, hj4, hm⟩ := bind_some hm
  refine wpL_cut (fun a w => ∃ b2 : Bool, b2 = r3 ∧ Fr a 14 [(0, .int .i64 p0_a), (1, .int .i64 p1_b), (10, .bool b2)] ∧ St [] W w []) ?_ ?_
  · refine wpL_region ?_
    refine sY hf hs rfl rfl rfl (Y_move rfl rfl) ?_; clear hf; intro a hf
    refine sY hf hs rfl rfl rfl (Y_eql rfl rfl rfl) ?_; clear hf; intro a hf
    refine sY hf hs rfl rfl rfl (Y_move rfl rfl) ?_; clear hf; intro a hf
    refine bsplit (p0_a == (-1000000000000000)) (fun hb5 => ?_) (fun hb5 => ?_)
    · have hj4 := bif_t hj4 hb5
      refine sNo hf rfl rfl rfl (congrArg (fun b => some (Value.bool b)) hb5) rfl rfl rfl ?_; clear hf; intro a hf
      refine sNo hf rfl rfl rfl (congrArg (fun b => some (Value.bool b)) hb5) rfl rfl rfl ?_; clear hf; intro a hf
      refine sY hf hs rfl rfl rfl (Y_pickT rfl (congrArg (fun b => some (Value.bool b)) hb5) rfl) ?_; clear hf; intro a hf
      refine wpO_nil ?_
      refine wpL_nil (then_normal ?_)
      exact ⟨true, Option.some.inj hj4, (Fr.pick (Fr.pick (Fr.pick hf.none hf rfl) hf rfl) hf rfl), hs⟩
    · have hj4 := bif_f hj4 hb5
      refine sYg hf hs rfl rfl rfl (congrArg (fun b => some (Value.bool b)) hb5) rfl rfl rfl (Y_move rfl rfl) ?_; clear hf; intro a hf
      refine sYg hf hs rfl rfl rfl (congrArg (fun b => some (Value.bool b)) hb5) rfl rfl rfl (Y_eql rfl rfl rfl) ?_; clear hf; intro a hf
      refine sY hf hs rfl rfl rfl (Y_pickF rfl (congrArg (fun b => some (Value.bool b)) hb5) rfl) ?_; clear hf; intro a hf
      refine wpO_nil ?_
      refine wpL_nil (then_normal ?_)
      exact ⟨(p1_b == (-1000000000000000)), Option.some.inj hj4, (Fr.pick (Fr.pick (Fr.pick hf.none hf rfl) hf rfl) hf rfl), hs⟩
  · rintro a w ⟨b2, hr_, hf, hs⟩
    subst hr_
    try dsimp only at hm
    refine wpL_cond hf rfl (fun hb6 => ?_) (fun hb6 => ?_)
    · have hm := bif_t hm hb6
      refine wpL_seq ?_
      refine wpL_region ?_
      refine sY hf hs rfl rfl rfl (Y_assign rfl rfl) ?_; clear hf; intro a hf
      refine wpO_nil ?_
      obtain rfl := Option.some.inj hm
      refine wpL_ret (ret_tmp rfl hf rfl ?_)
      exact ⟨_, rfl, rfl, hs⟩
    · have hm := bif_f hm hb6
      refine wpL_skip ?_
      refine wpL_seq ?_
      refine wpL_region ?_
      refine sY hf hs rfl rfl rfl (Y_move rfl rfl) ?_; clear hf; intro a hf
      refine sY hf hs rfl rfl rfl (Y_move rfl rfl) ?_; clear hf; intro a hf
      refine sY hf hs rfl rfl rfl (Y_add rfl rfl rfl) ?_; clear hf; intro a hf
      refine sY hf hs rfl rfl rfl (Y_assign rfl rfl) ?_; clear hf; intro a hf
      refine wpO_nil ?_
      obtain rfl := Option.some.inj hm
      refine wpL_ret (ret_tmp rfl hf rfl ?_)
      exact ⟨_, rfl, rfl, hs⟩

set_option maxRecDepth 100000 in
theorem spec_l02Multiply_ok (F : Nat) (p0 : List (List Int)) (A_p0_1 : Option Addr) (n_p0_1 c_p0_1 : Nat) (hn_p0_1 : n_p0_1 = p0.length) (p1 : List (List Int)) (A_p1_1 : Option Addr) (n_p1_1 c_p1_1 : Nat) (hn_p1_1 : n_p1_1 = p1.length) (r : List (List Int)) (W : World) (hm : spec_l02Multiply F p0 p1 = some r) (h_p0_1 : RdM W A_p0_1 p0) (h_p1_1 : RdM W A_p1_1 p1) :
    Calls Try.prog 147 [.slice A_p0_1 n_p0_1 c_p0_1, .slice A_p1_1 n_p1_1 c_p1_1].toArray W fun e w' => ∃ v, e = .returned v ∧ ∃ A6129, ∃ n6130, ∃ c6131, ∃ vs6133, v = .slice A6129 n6130 c6131 ∧ n6130 = r.length ∧ St [] W w' [.mat A6129 n6130 c6131 36 2 vs6133 r] := by
  subst hn_p0_1
  subst hn_p1_1
  unfold spec_l02Multiply at hm
  refine Calls.enter (N := 66) Try.func147 rfl rfl rfl (fun a hf => ?_)
  have hs := St.start W
  obtain ⟨w, hw_⟩ : ∃ w, w = W := ⟨W, rfl⟩
  clear hw_ w
  refine wpL_seq ?_
  refine wpL_region ?_
  refine sY hf hs rfl rfl rfl (Y_assign rfl rfl) ?_; clear hf; intro a hf
  refine wpO_nil ?_
  refine wpL_seq ?_
  refine wpL_region ?_
  refine sY hf hs rfl rfl rfl (Y_move rfl rfl) ?_; clear hf; intro a hf
  refine sY hf hs rfl rfl rfl (Y_lenH rfl rfl el34 rfl) ?_; clear hf; intro a hf
  refine sY hf hs rfl rfl rfl (Y_move rfl rfl) ?_; clear hf; intro a hf
  obtain ⟨q1, hi2, hm⟩ := bind_some hm
  obtain ⟨hi2a, hi2b, hi2q⟩ := idx_some hi2
  obtain ⟨vs3, hv4, hr5⟩ := id h_p1_1
  obtain ⟨A6, c7, hv8, hR9⟩ := hr5 _ _ hi2q
  refine sY hf hs rfl rfl rfl (Y_index rfl rfl rfl el34 ti36 (Rd.isAt hv4 hv8) hi2a hi2b) ?_; clear hf; intro a hf
  refine sY hf hs rfl rfl rfl (Y_load_rd rfl rfl (fun w hs => hv4.at hs) (at1 hv8) ag36) ?_; clear hf; intro a hf
  refine sY hf hs rfl rfl rfl (Y_lenH rfl rfl el36 rfl) ?_; clear hf; intro a hf
  obtain ⟨r10, hc11, hm⟩ := bind_some hm
  refine sCall hf rfl rfl rfl rfl (cap := []) rfl rfl en141 (spec_l02Bottom_ok F (p0.length : Int) (q1.length : Int) _ _ hc11) ?_; clear hf
  rintro _ w ⟨A12, n13, c14, vs16, rfl, hn15, hs1⟩ a hf
  have hs : St [] W w [.mat A12 n13 c14 36 2 vs16 r10] := hs.join hs1
  clear hs1
  refine sY hf hs rfl rfl rfl (Y_assign rfl rfl) ?_; clear hf; intro a hf
  refine wpO_nil ?_
  refine wpL_seq ?_
  refine wpL_seq ?_
  refine wpL_region ?_
  refine sY hf hs rfl rfl rfl (Y_assign rfl rfl) ?_; clear hf; intro a hf
  refine wpO_nil ?_
  obtain ⟨r4600, hl4601, hm⟩ := bind_some hm
  refine wpL_block (fun a w => ∃ ms4598 : List (List Int), ms4598 = r4600 ∧ n13 = ms4598.length ∧ Fr a 66 [(5, .slice A12 n13 c14)] ∧ St [] W w [.mat A12 n13 c14 36 2 vs16 ms4598]) ?_ ?_
  · refine wpL_loop (fun n a w => ∃ ms3070 : List (List Int), ∃ x3072 : Int, spec_l02Multiply_L16 F p0 p1 n ms3070 x3072 = some r4600 ∧ n13 = ms3070.length ∧ Fr a 66 [(0, .slice A_p0_1 p0.length c_p0_1), (1, .slice A_p1_1 p1.length c_p1_1), (5, .slice A12 n13 c14), (6, .int .i64 x3072)] ∧ St [] W w [.mat A12 n13 c14 36 2 vs16 ms3070]) F ?_ ?_ ?_
    · exact ⟨r10, 0, hl4601, hn15, (Fr.pick (Fr.pick (Fr.pick (Fr.pick hf.none hf rfl) hf rfl) hf rfl) hf rfl), hs⟩
    · rintro a w ⟨ms3070, x3072, h0_, -, -, -⟩; simp [spec_l02Multiply_L16] at h0_
    · rintro n4603 a w ⟨ms3070, x3072, hm4602, hn3071, hf, hs⟩
      rw [spec_l02Multiply_L16] at hm4602
      refine wpL_seq ?_
      refine wpL_seq ?_
      refine wpL_region ?_
      refine sY hf hs rfl rfl rfl (Y_move rfl rfl) ?_; clear hf; intro a hf
      refine sY hf hs rfl rfl rfl (Y_move rfl rfl) ?_; clear hf; intro a hf
      refine sY hf hs rfl rfl rfl (Y_lenH rfl rfl el34 rfl) ?_; clear hf; intro a hf
      refine sY hf hs rfl rfl rfl (Y_lss rfl rfl rfl) ?_; clear hf; intro a hf
      refine wpO_nil ?_
      refine wpL_cond hf rfl (fun hb4604 => ?_) (fun hb4604 => ?_)
      · have hm4602 := bif_t hm4602 hb4604
        refine wpL_skip ?_
        refine wpL_seq ?_
        refine wpL_block0 ?_
        refine wpL_seq ?_
        refine wpL_region ?_
        refine sY hf hs rfl rfl rfl (Y_assign rfl rfl) ?_; clear hf; intro a hf
        refine wpO_nil ?_
        obtain ⟨r5747, hl5748, hm4602⟩ := bind_some hm4602
        refine wpL_block (fun a w => ∃ ms5745 : List (List Int), ms5745 = r5747 ∧ n13 = ms5745.length ∧ Fr a 66 [(0, .slice A_p0_1 p0.length c_p0_1), (1, .slice A_p1_1 p1.length c_p1_1), (5, .slice A12 n13 c14), (6, .int .i64 x3072)] ∧ St [] W w [.mat A12 n13 c14 36 2 vs16 ms5745]) ?_ ?_
        · refine wpL_loop (fun n a w => ∃ ms5364 : List (List Int), ∃ x5366 : Int, spec_l02Multiply_L20 F p0 p1 x3072 n ms5364 x5366 = some r5747 ∧ n13 = ms5364.length ∧ Fr a 66 [(0, .slice A_p0_1 p0.length c_p0_1), (1, .slice A_p1_1 p1.length c_p1_1), (5, .slice A12 n13 c14), (6, .int .i64 x3072), (7, .int .i64 x5366)] ∧ St [] W w [.mat A12 n13 c14 36 2 vs16 ms5364]) F ?_ ?_ ?_
          · exact ⟨ms3070, 0, hl5748, hn3071, (Fr.pick (Fr.pick (Fr.pick (Fr.pick (Fr.pick hf.none hf rfl) hf rfl) hf rfl) hf rfl) hf rfl), hs⟩
          · rintro a w ⟨ms5364, x5366, h0_, -, -, -⟩; simp [spec_l02Multiply_L20] at h0_
          · rintro n5750 a w ⟨ms5364, x5366, hm5749, hn5365, hf, hs⟩
            rw [spec_l02Multiply_L20] at hm5749
            refine wpL_seq ?_
            refine wpL_seq ?_
            refine wpL_region ?_
            refine sY hf hs rfl rfl rfl (Y_move rfl rfl) ?_; clear hf; intro a hf
            refine sY hf hs rfl rfl rfl (Y_move rfl rfl) ?_; clear hf; intro a hf
            obtain ⟨q5751, hi5752, hm5749⟩ := bind_some hm5749
            obtain ⟨hi5752a, hi5752b, hi5752q⟩ := idx_some hi5752
            obtain ⟨vs5753, hv5754, hr5755⟩ := id h_p1_1
            obtain ⟨A5756, c5757, hv5758, hR5759⟩ := hr5755 _ _ hi5752q
            refine sY hf hs rfl rfl rfl (Y_index rfl rfl rfl el34 ti36 (Rd.isAt hv5754 hv5758) hi5752a hi5752b) ?_; clear hf; intro a hf
            refine sY hf hs rfl rfl rfl (Y_load_rd rfl rfl (fun w hs => hv5754.at hs) (at1 hv5758) ag36) ?_; clear hf; intro a hf
            refine sY hf hs rfl rfl rfl (Y_lenH rfl rfl el36 rfl) ?_; clear hf; intro a hf
            refine sY hf hs rfl rfl rfl (Y_lss rfl rfl rfl) ?_; clear hf; intro a hf
            refine wpO_nil ?_
            refine wpL_cond hf rfl (fun hb5760 => ?_) (fun hb5760 => ?_)
            · have hm5749 := bif_t hm5749 hb5760
              refine wpL_skip ?_
              refine wpL_seq ?_
              refine wpL_block0 ?_
              refine wpL_seq ?_
              refine wpL_region ?_
              refine sY hf hs rfl rfl rfl (Y_assign rfl rfl) ?_; clear hf; intro a hf
              refine wpO_nil ?_
              obtain ⟨r6036, hl6037, hm5749⟩ := bind_some hm5749
              refine wpL_block (fun a w => ∃ ms6034 : List (List Int), ms6034 = r6036 ∧ n13 = ms6034.length ∧ Fr a 66 [(0, .slice A_p0_1 p0.length c_p0_1), (1, .slice A_p1_1 p1.length c_p1_1), (5, .slice A12 n13 c14), (6, .int .i64 x3072), (7, .int .i64 x5366)] ∧ St [] W w [.mat A12 n13 c14 36 2 vs16 ms6034]) ?_ ?_
              · refine wpL_loop (fun n a w => ∃ ms5942 : List (List Int), ∃ x5944 : Int, spec_l02Multiply_L21 F p0 p1 x3072 x5366 n ms5942 x5944 = some r6036 ∧ n13 = ms5942.length ∧ Fr a 66 [(0, .slice A_p0_1 p0.length c_p0_1), (1, .slice A_p1_1 p1.length c_p1_1), (5, .slice A12 n13 c14), (6, .int .i64 x3072), (7, .int .i64 x5366), (8, .int .i64 x5944)] ∧ St [] W w [.mat A12 n13 c14 36 2 vs16 ms5942]) F ?_ ?_ ?_
                · exact ⟨ms5364, 0, hl6037, hn5365, (Fr.pick (Fr.pick (Fr.pick (Fr.pick (Fr.pick (Fr.pick hf.none hf rfl) hf rfl) hf rfl) hf rfl) hf rfl) hf rfl), hs⟩
                · rintro a w ⟨ms5942, x5944, h0_, -, -, -⟩; simp [spec_l02Multiply_L21] at h0_
                · rintro n6039 a w ⟨ms5942, x5944, hm6038, hn5943, hf, hs⟩
                  rw [spec_l02Multiply_L21] at hm6038
                  refine wpL_seq ?_
                  refine wpL_seq ?_
                  refine wpL_region ?_
                  refine sY hf hs rfl rfl rfl (Y_move rfl rfl) ?_; clear hf; intro a hf
                  refine sY hf hs rfl rfl rfl (Y_move rfl rfl) ?_; clear hf; intro a hf
                  refine sY hf hs rfl rfl rfl (Y_lenH rfl rfl el34 rfl) ?_; clear hf; intro a hf
                  refine sY hf hs rfl rfl rfl (Y_lss rfl rfl rfl) ?_; clear hf; intro a hf
                  refine wpO_nil ?_
                  refine wpL_cond hf rfl (fun hb6040 => ?_) (fun hb6040 => ?_)
                  · have hm6038 := bif_t hm6038 hb6040
                    refine wpL_skip ?_
                    refine wpL_seq ?_
                    refine wpL_block0 ?_
                    refine wpL_drawG [.mat A12 n13 c14 36 2 vs16 ms5942] 29 (by kernel_rfl) hs ?_; clear hs; intro w hs
                    have hs0 : St [] W w [.mat A12 n13 c14 36 2 vs16 ms5942] := hs
                    refine gY (i := 0) [] rfl (by kernel_rfl) (by kernel_rfl) hf hs0 rfl rfl rfl (Y_move rfl rfl) ?_; clear hf; intro a hf
                    refine gY (i := 1) [] rfl (by kernel_rfl) (by kernel_rfl) hf hs0 rfl rfl rfl (Y_move rfl rfl) ?_; clear hf; intro a hf
                    obtain ⟨q6085, hi6086, hm6038⟩ := bind_some hm6038
                    obtain ⟨hi6086a, hi6086b, hi6086q⟩ := idx_some hi6086
                    obtain ⟨A6087, c6088, hv6089⟩ := hs0.matRow (i := 0) rfl hi6086q
                    refine gY (i := 2) [] rfl (by kernel_rfl) (by kernel_rfl) hf hs0 rfl rfl rfl (Y_index rfl rfl rfl el34 ti36 (Rd.isAt (hs0.rdV (i := 0) rfl) hv6089) hi6086a (ltn hn5943 hi6086b)) ?_; clear hf; intro a hf
                    refine gY (i := 3) [] rfl (by kernel_rfl) (by kernel_rfl) hf hs0 rfl rfl rfl (Y_load_rd rfl rfl (fun w hs => hs.rdV (i := 0) rfl) (at1 hv6089) ag36) ?_; clear hf; intro a hf
                    refine gY (i := 4) [] rfl (by kernel_rfl) (by kernel_rfl) hf hs0 rfl rfl rfl (Y_move rfl rfl) ?_; clear hf; intro a hf
                    refine gY (i := 5) [] rfl (by kernel_rfl) (by kernel_rfl) hf hs0 rfl rfl rfl (Y_move rfl rfl) ?_; clear hf; intro a hf
                    refine gY (i := 6) [] rfl (by kernel_rfl) (by kernel_rfl) hf hs0 rfl rfl rfl (Y_move rfl rfl) ?_; clear hf; intro a hf
                    obtain ⟨q6090, hi6091, hm6038⟩ := bind_some hm6038
                    obtain ⟨hi6091a, hi6091b, hi6091q⟩ := idx_some hi6091
                    obtain ⟨A6092, c6093, hv6094⟩ := hs0.matRow (i := 0) rfl hi6091q
                    refine gY (i := 7) [] rfl (by kernel_rfl) (by kernel_rfl) hf hs0 rfl rfl rfl (Y_index rfl rfl rfl el34 ti36 (Rd.isAt (hs0.rdV (i := 0) rfl) hv6094) hi6091a (ltn hn5943 hi6091b)) ?_; clear hf; intro a hf
                    refine gY (i := 8) [] rfl (by kernel_rfl) (by kernel_rfl) hf hs0 rfl rfl rfl (Y_load_rd rfl rfl (fun w hs => hs.rdV (i := 0) rfl) (at1 hv6094) ag36) ?_; clear hf; intro a hf
                    refine gY (i := 9) [] rfl (by kernel_rfl) (by kernel_rfl) hf hs0 rfl rfl rfl (Y_move rfl rfl) ?_; clear hf; intro a hf
                    obtain ⟨q6095, hi6096, hm6038⟩ := bind_some hm6038
                    obtain ⟨hi6096a, hi6096b, hi6096q⟩ := idx_some hi6096
                    refine gY (i := 10) [] rfl (by kernel_rfl) (by kernel_rfl) hf hs0 rfl rfl rfl (Y_index rfl rfl rfl el36 ti2 (Rd.isAt (hs0.rdRow (i := 0) rfl ⟨hi6091q, hv6094⟩) (at1 (ints_at hi6096q))) hi6096a hi6096b) ?_; clear hf; intro a hf
                    refine gY (i := 11) [] rfl (by kernel_rfl) (by kernel_rfl) hf hs0 rfl rfl rfl (Y_load_rd rfl rfl (fun w hs => hs.rdRow (i := 0) rfl ⟨hi6091q, hv6094⟩) (at1 (ints_at hi6096q)) ag2) ?_; clear hf; intro a hf
                    refine gY (i := 12) [] rfl (by kernel_rfl) (by kernel_rfl) hf hs0 rfl rfl rfl (Y_move rfl rfl) ?_; clear hf; intro a hf
                    refine gY (i := 13) [] rfl (by kernel_rfl) (by kernel_rfl) hf hs0 rfl rfl rfl (Y_move rfl rfl) ?_; clear hf; intro a hf
                    obtain ⟨q6097, hi6098, hm6038⟩ := bind_some hm6038
                    obtain ⟨hi6098a, hi6098b, hi6098q⟩ := idx_some hi6098
                    obtain ⟨vs6099, hv6100, hr6101⟩ := id h_p0_1
                    obtain ⟨A6102, c6103, hv6104, hR6105⟩ := hr6101 _ _ hi6098q
                    refine gY (i := 14) [] rfl (by kernel_rfl) (by kernel_rfl) hf hs0 rfl rfl rfl (Y_index rfl rfl rfl el34 ti36 (Rd.isAt hv6100 hv6104) hi6098a hi6098b) ?_; clear hf; intro a hf
                    refine gY (i := 15) [] rfl (by kernel_rfl) (by kernel_rfl) hf hs0 rfl rfl rfl (Y_load_rd rfl rfl (fun w hs => hv6100.at hs) (at1 hv6104) ag36) ?_; clear hf; intro a hf
                    refine gY (i := 16) [] rfl (by kernel_rfl) (by kernel_rfl) hf hs0 rfl rfl rfl (Y_move rfl rfl) ?_; clear hf; intro a hf
                    obtain ⟨q6106, hi6107, hm6038⟩ := bind_some hm6038
                    obtain ⟨hi6107a, hi6107b, hi6107q⟩ := idx_some hi6107
                    refine gY (i := 17) [] rfl (by kernel_rfl) (by kernel_rfl) hf hs0 rfl rfl rfl (Y_index rfl rfl rfl el36 ti2 (Rd.isAt (hR6105.at hs0) (at1 (ints_at hi6107q))) hi6107a hi6107b) ?_; clear hf; intro a hf
                    refine gY (i := 18) [] rfl (by kernel_rfl) (by kernel_rfl) hf hs0 rfl rfl rfl (Y_load_rd rfl rfl (fun w hs => hR6105.at hs) (at1 (ints_at hi6107q)) ag2) ?_; clear hf; intro a hf
                    refine gY (i := 19) [] rfl (by kernel_rfl) (by kernel_rfl) hf hs0 rfl rfl rfl (Y_move rfl rfl) ?_; clear hf; intro a hf
                    refine gY (i := 20) [] rfl (by kernel_rfl) (by kernel_rfl) hf hs0 rfl rfl rfl (Y_move rfl rfl) ?_; clear hf; intro a hf
                    obtain ⟨q6108, hi6109, hm6038⟩ := bind_some hm6038
                    obtain ⟨hi6109a, hi6109b, hi6109q⟩ := idx_some hi6109
                    obtain ⟨vs6110, hv6111, hr6112⟩ := id h_p1_1
                    obtain ⟨A6113, c6114, hv6115, hR6116⟩ := hr6112 _ _ hi6109q
                    refine gY (i := 21) [] rfl (by kernel_rfl) (by kernel_rfl) hf hs0 rfl rfl rfl (Y_index rfl rfl rfl el34 ti36 (Rd.isAt hv6111 hv6115) hi6109a hi6109b) ?_; clear hf; intro a hf
                    refine gY (i := 22) [] rfl (by kernel_rfl) (by kernel_rfl) hf hs0 rfl rfl rfl (Y_load_rd rfl rfl (fun w hs => hv6111.at hs) (at1 hv6115) ag36) ?_; clear hf; intro a hf
                    refine gY (i := 23) [] rfl (by kernel_rfl) (by kernel_rfl) hf hs0 rfl rfl rfl (Y_move rfl rfl) ?_; clear hf; intro a hf
                    obtain ⟨q6117, hi6118, hm6038⟩ := bind_some hm6038
                    obtain ⟨hi6118a, hi6118b, hi6118q⟩ := idx_some hi6118
                    refine gY (i := 24) [] rfl (by kernel_rfl) (by kernel_rfl) hf hs0 rfl rfl rfl (Y_index rfl rfl rfl el36 ti2 (Rd.isAt (hR6116.at hs0) (at1 (ints_at hi6118q))) hi6118a hi6118b) ?_; clear hf; intro a hf
                    refine gY (i := 25) [] rfl (by kernel_rfl) (by kernel_rfl) hf hs0 rfl rfl rfl (Y_load_rd rfl rfl (fun w hs => hR6116.at hs) (at1 (ints_at hi6118q)) ag2) ?_; clear hf; intro a hf
                    refine gRun (i := 26) rfl (by kernel_rfl) ?_
                    obtain ⟨r6119, hc6120, hm6038⟩ := bind_some hm6038
                    refine sCall hf rfl rfl rfl rfl (cap := []) rfl rfl en115 (spec_l01Times_ok F q6106 q6117 _ _ hc6120) ?_; clear hf
                    rintro _ w ⟨rfl, hs1⟩ a hf
                    have hs : St [] W w [.mat A12 n13 c14 36 2 vs16 ms5942] := hs.ext hs1.below
                    clear hs1
                    have hs0 : St [] W w [.mat A12 n13 c14 36 2 vs16 ms5942] := hs
                    refine wpO_nil ⟨Or.inr hs0, ?_⟩
                    refine gY (i := 27) [] rfl (by kernel_rfl) (by kernel_rfl) hf hs0 rfl rfl rfl (Y_max rfl rfl rfl) ?_; clear hf; intro a hf
                    obtain ⟨q6121, hi6122, hm6038⟩ := bind_some hm6038
                    obtain ⟨hi6122a, hi6122b, hi6122q⟩ := idx_some hi6122
                    refine gY (i := 28) [] rfl (by kernel_rfl) (by kernel_rfl) hf hs0 rfl rfl rfl (Y_index rfl rfl rfl el36 ti2 (Rd.isAt (hs0.rdRow (i := 0) rfl ⟨hi6086q, hv6089⟩) (at1 (ints_at hi6122q))) hi6122a hi6122b) ?_; clear hf; intro a hf
                    refine gRun (i := 29) rfl (by kernel_rfl) ?_
                    obtain ⟨xs6123, hu6125, hm6038⟩ := bind_some hm6038
                    obtain ⟨ms6124, hu6126, hm6038⟩ := bind_some hm6038
                    refine sStoreM (i := 0) (k := x3072) hf hs rfl rfl rfl rfl rfl rfl hi6086q hv6089 rfl hu6125 hu6126 ti2 ?_; clear hs; intro w hs
                    obtain ⟨hq6127, hv6128⟩ := rowUpd hu6125 hu6126 hv6089
                    have hs : St [] W w [.mat A12 n13 c14 36 2 vs16 ms6124] := hs
                    refine wpO_nil ⟨Or.inl rfl, ?_⟩
                    refine gDone (by kernel_rfl) ?_
                    clear hs0
                    refine wpL_nil (Qb_normal ?_)
                    refine wpL_region ?_
                    refine sY hf hs rfl rfl rfl (Y_move rfl rfl) ?_; clear hf; intro a hf
                    refine sY hf hs rfl rfl rfl (Y_add rfl rfl rfl) ?_; clear hf; intro a hf
                    refine sY hf hs rfl rfl rfl (Y_assign rfl rfl) ?_; clear hf; intro a hf
                    refine wpO_nil ?_
                    refine wpL_nil (Ql_normal ?_)
                    exact ⟨ms6124, (IntKind.i64.wrap (x5944 + 1)), hm6038, ((hn5943).trans (upd_len hu6126).symm), (Fr.pick (Fr.pick (Fr.pick (Fr.pick (Fr.pick (Fr.pick hf.none hf rfl) hf rfl) hf rfl) hf rfl) hf rfl) hf rfl), hs⟩
                  · have hm6038 := bif_f hm6038 hb6040
                    refine wpL_exit (Ql_exit (Qb_exit ?_))
                    exact ⟨ms5942, Option.some.inj hm6038, hn5943, (Fr.pick (Fr.pick (Fr.pick (Fr.pick (Fr.pick hf.none hf rfl) hf rfl) hf rfl) hf rfl) hf rfl), hs⟩
              · rintro a w ⟨ms6034, hr_, hn6035, hf, hs⟩
                subst hr_
                try dsimp only at hm5749
                refine wpL_nil (Qb_normal ?_)
                refine wpL_region ?_
                refine sY hf hs rfl rfl rfl (Y_move rfl rfl) ?_; clear hf; intro a hf
                refine sY hf hs rfl rfl rfl (Y_add rfl rfl rfl) ?_; clear hf; intro a hf
                refine sY hf hs rfl rfl rfl (Y_assign rfl rfl) ?_; clear hf; intro a hf
                refine wpO_nil ?_
                refine wpL_nil (Ql_normal ?_)
                exact ⟨ms6034, (IntKind.i64.wrap (x5366 + 1)), hm5749, hn6035, (Fr.pick (Fr.pick (Fr.pick (Fr.pick (Fr.pick hf.none hf rfl) hf rfl) hf rfl) hf rfl) hf rfl), hs⟩
            · have hm5749 := bif_f hm5749 hb5760
              refine wpL_exit (Ql_exit (Qb_exit ?_))
              exact ⟨ms5364, Option.some.inj hm5749, hn5365, (Fr.pick (Fr.pick (Fr.pick (Fr.pick hf.none hf rfl) hf rfl) hf rfl) hf rfl), hs⟩
        · rintro a w ⟨ms5745, hr_, hn5746, hf, hs⟩
          subst hr_
          try dsimp only at hm4602
          refine wpL_nil (Qb_normal ?_)
          refine wpL_region ?_
          refine sY hf hs rfl rfl rfl (Y_move rfl rfl) ?_; clear hf; intro a hf
          refine sY hf hs rfl rfl rfl (Y_add rfl rfl rfl) ?_; clear hf; intro a hf
          refine sY hf hs rfl rfl rfl (Y_assign rfl rfl) ?_; clear hf; intro a hf
          refine wpO_nil ?_
          refine wpL_nil (Ql_normal ?_)
          exact ⟨ms5745, (IntKind.i64.wrap (x3072 + 1)), hm4602, hn5746, (Fr.pick (Fr.pick (Fr.pick (Fr.pick hf.none hf rfl) hf rfl) hf rfl) hf rfl), hs⟩
      · have hm4602 := bif_f hm4602 hb4604
        refine wpL_exit (Ql_exit (Qb_exit ?_))
        exact ⟨ms3070, Option.some.inj hm4602, hn3071, (Fr.pick hf.none hf rfl), hs⟩
  · rintro a w ⟨ms4598, hr_, hn4599, hf, hs⟩
    subst hr_
    try dsimp only at hm
    refine wpL_seq ?_
    refine wpL_region ?_
    refine sY hf hs rfl rfl rfl (Y_move rfl rfl) ?_; clear hf; intro a hf
    refine sY hf hs rfl rfl rfl (Y_assign rfl rfl) ?_; clear hf; intro a hf
    refine wpO_nil ?_
    obtain rfl := Option.some.inj hm
    refine wpL_ret (ret_tmp rfl hf rfl ?_)
    exact ⟨_, rfl, A12, n13, c14, vs16, rfl, hn4599, hs⟩

set_option maxRecDepth 100000 in
theorem spec_l01Own_ok (F : Nat) (p0_list : List Int) (A_p0_list_1 : Option Addr) (n_p0_list_1 c_p0_list_1 : Nat) (hn_p0_list_1 : n_p0_list_1 = p0_list.length) (r : List Int) (W : World) (hm : spec_l01Own F p0_list = some r) (h_p0_list_1 : Rd W A_p0_list_1 (ints p0_list)) :
    Calls Try.prog 160 [.slice A_p0_list_1 n_p0_list_1 c_p0_list_1].toArray W fun e w' => ∃ v, e = .returned v ∧ ∃ A7, ∃ n8, ∃ c9, v = .slice A7 n8 c9 ∧ n8 = r.length ∧ St [] W w' [.row A7 n8 c9 2 1 (ints r)] := by
  subst hn_p0_list_1
  unfold spec_l01Own at hm
  refine Calls.enter (N := 6) Try.func160 rfl rfl rfl (fun a hf => ?_)
  have hs := St.start W
  obtain ⟨w, hw_⟩ : ∃ w, w = W := ⟨W, rfl⟩
  clear hw_ w
  refine wpL_seq ?_
  refine wpL_region ?_
  refine sY hf hs rfl rfl rfl (Y_assign rfl rfl) ?_; clear hf; intro a hf
  refine wpO_nil ?_
  refine wpL_seq ?_
  refine wpL_region ?_
  refine sEmpty hf hs rfl rfl rfl rfl el36 ti2 ?_; clear hf hs; intro a w A1 hs hf
  have hs : St [] W w [.row A1 0 0 2 1 (ints ([] : List Int))] := hs
  refine sY hf hs rfl rfl rfl (Y_move rfl rfl) ?_; clear hf; intro a hf
  obtain ⟨xs5, ha6, hm⟩ := bind_some hm
  refine sAppendG (i := 0) (xs := ([] : List Int)) (ys := p0_list) (enc := ints) hf hs rfl rfl rfl rfl rfl rfl rfl rfl rfl ha6 el36 ti2 rfl rfl rfl (h_p0_list_1.at hs) ints_len1 ints_append ints_one ?_; clear hf hs; intro a w A3 c4 hs hf
  have hs : St [] W w [.row A3 xs5.length c4 2 1 (ints xs5)] := hs
  refine sY hf hs rfl rfl rfl (Y_assign rfl rfl) ?_; clear hf; intro a hf
  refine wpO_nil ?_
  obtain rfl := Option.some.inj hm
  refine wpL_ret (ret_tmp rfl hf rfl ?_)
  exact ⟨_, rfl, A3, xs5.length, c4, rfl, rfl, hs⟩

set_option maxRecDepth 100000 in
theorem spec_l02Own_ok (F : Nat) (p0_a : List (List Int)) (A_p0_a_1 : Option Addr) (n_p0_a_1 c_p0_a_1 : Nat) (hn_p0_a_1 : n_p0_a_1 = p0_a.length) (r : List (List Int)) (W : World) (hm : spec_l02Own F p0_a = some r) (h_p0_a_1 : RdM W A_p0_a_1 p0_a) :
    Calls Try.prog 173 [.slice A_p0_a_1 n_p0_a_1 c_p0_a_1].toArray W fun e w' => ∃ v, e = .returned v ∧ ∃ A124, ∃ n125, ∃ c126, ∃ vs128, v = .slice A124 n125 c126 ∧ n125 = r.length ∧ St [] W w' [.mat A124 n125 c126 36 2 vs128 r] := by
  subst hn_p0_a_1
  unfold spec_l02Own at hm
  refine Calls.enter (N := 21) Try.func173 rfl rfl rfl (fun a hf => ?_)
  have hs := St.start W
  obtain ⟨w, hw_⟩ : ∃ w, w = W := ⟨W, rfl⟩
  clear hw_ w
  refine wpL_seq ?_
  refine wpL_region ?_
  refine sY hf hs rfl rfl rfl (Y_assign rfl rfl) ?_; clear hf; intro a hf
  refine wpO_nil ?_
  refine wpL_seq ?_
  refine wpL_region ?_
  refine sEmptyM 2 hf hs rfl rfl rfl rfl el34 ti36 rfl ?_; clear hf hs; intro a w A1 hs hf
  have hs : St [] W w [.mat A1 0 0 36 2 [] []] := hs
  refine sY hf hs rfl rfl rfl (Y_assign rfl rfl) ?_; clear hf; intro a hf
  refine wpO_nil ?_
  refine wpL_seq ?_
  refine wpL_seq ?_
  refine wpL_region ?_
  refine sY hf hs rfl rfl rfl (Y_assign rfl rfl) ?_; clear hf; intro a hf
  refine wpO_nil ?_
  obtain ⟨r96, hl97, hm⟩ := bind_some hm
  refine wpL_block (fun a w => ∃ ms90 : List (List Int), ∃ A91, ∃ n92, ∃ c93, ∃ vs95, ms90 = r96 ∧ n92 = ms90.length ∧ Fr a 21 [(3, .slice A91 n92 c93)] ∧ St [] W w [.mat A91 n92 c93 36 2 vs95 ms90]) ?_ ?_
  · refine wpL_loop (fun n a w => ∃ ms59 : List (List Int), ∃ x65 : Int, ∃ A60, ∃ n61, ∃ c62, ∃ vs64, spec_l02Own_L1 F p0_a n ms59 x65 = some r96 ∧ n61 = ms59.length ∧ Fr a 21 [(0, .slice A_p0_a_1 p0_a.length c_p0_a_1), (3, .slice A60 n61 c62), (4, .int .i64 x65)] ∧ St [] W w [.mat A60 n61 c62 36 2 vs64 ms59]) F ?_ ?_ ?_
    · exact ⟨[], 0, A1, 0, 0, [], hl97, rfl, (Fr.pick (Fr.pick (Fr.pick hf.none hf rfl) hf rfl) hf rfl), hs⟩
    · rintro a w ⟨ms59, x65, A60, n61, c62, vs64, h0_, -, -, -⟩; simp [spec_l02Own_L1] at h0_
    · rintro n99 a w ⟨ms59, x65, A60, n61, c62, vs64, hm98, hn63, hf, hs⟩
      rw [spec_l02Own_L1] at hm98
      refine wpL_seq ?_
      refine wpL_seq ?_
      refine wpL_region ?_
      refine sY hf hs rfl rfl rfl (Y_move rfl rfl) ?_; clear hf; intro a hf
      refine sY hf hs rfl rfl rfl (Y_move rfl rfl) ?_; clear hf; intro a hf
      refine sY hf hs rfl rfl rfl (Y_lenH rfl rfl el34 rfl) ?_; clear hf; intro a hf
      refine sY hf hs rfl rfl rfl (Y_lss rfl rfl rfl) ?_; clear hf; intro a hf
      refine wpO_nil ?_
      refine wpL_cond hf rfl (fun hb100 => ?_) (fun hb100 => ?_)
      · have hm98 := bif_t hm98 hb100
        refine wpL_skip ?_
        refine wpL_seq ?_
        refine wpL_block0 ?_
        refine wpL_region ?_
        refine sY hf hs rfl rfl rfl (Y_move rfl rfl) ?_; clear hf; intro a hf
        refine sY hf hs rfl rfl rfl (Y_move rfl rfl) ?_; clear hf; intro a hf
        refine sY hf hs rfl rfl rfl (Y_move rfl rfl) ?_; clear hf; intro a hf
        obtain ⟨q101, hi102, hm98⟩ := bind_some hm98
        obtain ⟨hi102a, hi102b, hi102q⟩ := idx_some hi102
        obtain ⟨vs103, hv104, hr105⟩ := id h_p0_a_1
        obtain ⟨A106, c107, hv108, hR109⟩ := hr105 _ _ hi102q
        refine sY hf hs rfl rfl rfl (Y_index rfl rfl rfl el34 ti36 (Rd.isAt hv104 hv108) hi102a hi102b) ?_; clear hf; intro a hf
        refine sY hf hs rfl rfl rfl (Y_load_rd rfl rfl (fun w hs => hv104.at hs) (at1 hv108) ag36) ?_; clear hf; intro a hf
        obtain ⟨r110, hc111, hm98⟩ := bind_some hm98
        refine sCall hf rfl rfl rfl rfl (cap := []) rfl rfl en160 (spec_l01Own_ok F q101 A106 q101.length c107 rfl _ _ hc111 (hR109.at hs)) ?_; clear hf
        rintro _ w ⟨A112, n113, c114, rfl, hn115, hs1⟩ a hf
        have hs : St [] W w [.mat A60 n61 c62 36 2 vs64 ms59, .row A112 n113 c114 2 1 (ints r110)] := hs.join hs1
        clear hs1
        refine sOneM (j := 1) hf hs rfl rfl rfl rfl rfl rfl hn115 el34 ti36 ?_; clear hf hs; intro a w A116 hs hf
        have hs : St [] W w [.mat A60 n61 c62 36 2 vs64 ms59, .mat A116 1 1 36 2 ([.slice A112 r110.length c114]) ([r110])] := hs
        obtain ⟨ms120, ha121, hm98⟩ := bind_some hm98
        refine sAppendM (i := 0) (j := 1) hf hs rfl rfl rfl rfl rfl rfl hn63 rfl (by decide) rfl rfl (by decide) ha121 el34 ti36 rfl ?_; clear hf hs; intro a w A118 c119 hs hf
        have hs : St [] W w [.mat A118 ms120.length c119 36 2 (vs64 ++ ([.slice A112 r110.length c114])) ms120] := hs
        obtain ⟨hq122, hv123⟩ := hs.appended (i := 0) rfl ha121
        refine sY hf hs rfl rfl rfl (Y_assign rfl rfl) ?_; clear hf; intro a hf
        refine wpO_nil ?_
        refine wpL_nil (Qb_normal ?_)
        refine wpL_region ?_
        refine sY hf hs rfl rfl rfl (Y_move rfl rfl) ?_; clear hf; intro a hf
        refine sY hf hs rfl rfl rfl (Y_add rfl rfl rfl) ?_; clear hf; intro a hf
        refine sY hf hs rfl rfl rfl (Y_assign rfl rfl) ?_; clear hf; intro a hf
        refine wpO_nil ?_
        refine wpL_nil (Ql_normal ?_)
        exact ⟨ms120, (IntKind.i64.wrap (x65 + 1)), A118, ms120.length, c119, (vs64 ++ ([.slice A112 r110.length c114])), hm98, rfl, (Fr.pick (Fr.pick (Fr.pick hf.none hf rfl) hf rfl) hf rfl), hs⟩
      · have hm98 := bif_f hm98 hb100
        refine wpL_exit (Ql_exit (Qb_exit ?_))
        exact ⟨ms59, A60, n61, c62, vs64, Option.some.inj hm98, hn63, (Fr.pick hf.none hf rfl), hs⟩
  · rintro a w ⟨ms90, A91, n92, c93, vs95, hr_, hn94, hf, hs⟩
    subst hr_
    try dsimp only at hm
    refine wpL_seq ?_
    refine wpL_region ?_
    refine sY hf hs rfl rfl rfl (Y_move rfl rfl) ?_; clear hf; intro a hf
    refine sY hf hs rfl rfl rfl (Y_assign rfl rfl) ?_; clear hf; intro a hf
    refine wpO_nil ?_
    obtain rfl := Option.some.inj hm
    refine wpL_ret (ret_tmp rfl hf rfl ?_)
    exact ⟨_, rfl, A91, n92, c93, vs95, rfl, hn94, hs⟩

set_option maxRecDepth 100000 in
theorem spec_l02Add_ok (F : Nat) (p0_a : List (List Int)) (A_p0_a_1 : Option Addr) (n_p0_a_1 c_p0_a_1 : Nat) (hn_p0_a_1 : n_p0_a_1 = p0_a.length) (p1_b : List (List Int)) (A_p1_b_1 : Option Addr) (n_p1_b_1 c_p1_b_1 : Nat) (hn_p1_b_1 : n_p1_b_1 = p1_b.length) (r : List (List Int)) (W : World) (hm : spec_l02Add F p0_a p1_b = some r) (h_p0_a_1 : RdM W A_p0_a_1 p0_a) (h_p1_b_1 : RdM W A_p1_b_1 p1_b) :
    Calls Try.prog 146 [.slice A_p0_a_1 n_p0_a_1 c_p0_a_1, .slice A_p1_b_1 n_p1_b_1 c_p1_b_1].toArray W fun e w' => ∃ v, e = .returned v ∧ ∃ A1160, ∃ n1161, ∃ c1162, ∃ vs1164, v = .slice A1160 n1161 c1162 ∧ n1161 = r.length ∧ St [] W w' [.mat A1160 n1161 c1162 36 2 vs1164 r] := by
  subst hn_p0_a_1
  subst hn_p1_b_1
  unfold spec_l02Add at hm
  refine Calls.enter (N := 47) Try.func146 rfl rfl rfl (fun a hf => ?_)
  have hs := St.start W
  obtain ⟨w, hw_⟩ : ∃ w, w = W := ⟨W, rfl⟩
  clear hw_ w
  refine wpL_seq ?_
  refine wpL_region ?_
  refine sY hf hs rfl rfl rfl (Y_assign rfl rfl) ?_; clear hf; intro a hf
  refine wpO_nil ?_
  refine wpL_seq ?_
  refine wpL_region ?_
  refine sY hf hs rfl rfl rfl (Y_move rfl rfl) ?_; clear hf; intro a hf
  obtain ⟨r1, hc2, hm⟩ := bind_some hm
  refine sCall hf rfl rfl rfl rfl (cap := []) rfl rfl en173 (spec_l02Own_ok F p0_a A_p0_a_1 p0_a.length c_p0_a_1 rfl _ _ hc2 (h_p0_a_1.at hs)) ?_; clear hf
  rintro _ w ⟨A3, n4, c5, vs7, rfl, hn6, hs1⟩ a hf
  have hs : St [] W w [.mat A3 n4 c5 36 2 vs7 r1] := hs.join hs1
  clear hs1
  refine sY hf hs rfl rfl rfl (Y_assign rfl rfl) ?_; clear hf; intro a hf
  refine wpO_nil ?_
  refine wpL_seq ?_
  refine wpL_seq ?_
  refine wpL_region ?_
  refine sY hf hs rfl rfl rfl (Y_assign rfl rfl) ?_; clear hf; intro a hf
  refine wpO_nil ?_
  obtain ⟨r871, hl872, hm⟩ := bind_some hm
  refine wpL_block (fun a w => ∃ ms869 : List (List Int), ms869 = r871 ∧ n4 = ms869.length ∧ Fr a 47 [(5, .slice A3 n4 c5)] ∧ St [] W w [.mat A3 n4 c5 36 2 vs7 ms869]) ?_ ?_
  · refine wpL_loop (fun n a w => ∃ ms581 : List (List Int), ∃ x583 : Int, spec_l02Add_L4 F p1_b n ms581 x583 = some r871 ∧ n4 = ms581.length ∧ Fr a 47 [(1, .slice A_p1_b_1 p1_b.length c_p1_b_1), (5, .slice A3 n4 c5), (6, .int .i64 x583)] ∧ St [] W w [.mat A3 n4 c5 36 2 vs7 ms581]) F ?_ ?_ ?_
    · exact ⟨r1, 0, hl872, hn6, (Fr.pick (Fr.pick (Fr.pick hf.none hf rfl) hf rfl) hf rfl), hs⟩
    · rintro a w ⟨ms581, x583, h0_, -, -, -⟩; simp [spec_l02Add_L4] at h0_
    · rintro n874 a w ⟨ms581, x583, hm873, hn582, hf, hs⟩
      rw [spec_l02Add_L4] at hm873
      refine wpL_seq ?_
      refine wpL_seq ?_
      refine wpL_region ?_
      refine sY hf hs rfl rfl rfl (Y_move rfl rfl) ?_; clear hf; intro a hf
      refine sY hf hs rfl rfl rfl (Y_move rfl rfl) ?_; clear hf; intro a hf
      refine sY hf hs rfl rfl rfl (Y_lenH rfl rfl el34 hn582) ?_; clear hf; intro a hf
      refine sY hf hs rfl rfl rfl (Y_lss rfl rfl rfl) ?_; clear hf; intro a hf
      refine wpO_nil ?_
      refine wpL_cond hf rfl (fun hb875 => ?_) (fun hb875 => ?_)
      · have hm873 := bif_t hm873 hb875
        refine wpL_skip ?_
        refine wpL_seq ?_
        refine wpL_block0 ?_
        refine wpL_seq ?_
        refine wpL_region ?_
        refine sY hf hs rfl rfl rfl (Y_assign rfl rfl) ?_; clear hf; intro a hf
        refine wpO_nil ?_
        obtain ⟨r1088, hl1089, hm873⟩ := bind_some hm873
        refine wpL_block (fun a w => ∃ ms1086 : List (List Int), ms1086 = r1088 ∧ n4 = ms1086.length ∧ Fr a 47 [(1, .slice A_p1_b_1 p1_b.length c_p1_b_1), (5, .slice A3 n4 c5), (6, .int .i64 x583)] ∧ St [] W w [.mat A3 n4 c5 36 2 vs7 ms1086]) ?_ ?_
        · refine wpL_loop (fun n a w => ∃ ms1015 : List (List Int), ∃ x1017 : Int, spec_l02Add_L5 F p1_b x583 n ms1015 x1017 = some r1088 ∧ n4 = ms1015.length ∧ Fr a 47 [(1, .slice A_p1_b_1 p1_b.length c_p1_b_1), (5, .slice A3 n4 c5), (6, .int .i64 x583), (7, .int .i64 x1017)] ∧ St [] W w [.mat A3 n4 c5 36 2 vs7 ms1015]) F ?_ ?_ ?_
          · exact ⟨ms581, 0, hl1089, hn582, (Fr.pick (Fr.pick (Fr.pick (Fr.pick hf.none hf rfl) hf rfl) hf rfl) hf rfl), hs⟩
          · rintro a w ⟨ms1015, x1017, h0_, -, -, -⟩; simp [spec_l02Add_L5] at h0_
          · rintro n1091 a w ⟨ms1015, x1017, hm1090, hn1016, hf, hs⟩
            rw [spec_l02Add_L5] at hm1090
            refine wpL_seq ?_
            refine wpL_seq ?_
            refine wpL_region ?_
            refine sY hf hs rfl rfl rfl (Y_move rfl rfl) ?_; clear hf; intro a hf
            refine sY hf hs rfl rfl rfl (Y_move rfl rfl) ?_; clear hf; intro a hf
            refine sY hf hs rfl rfl rfl (Y_move rfl rfl) ?_; clear hf; intro a hf
            obtain ⟨q1092, hi1093, hm1090⟩ := bind_some hm1090
            obtain ⟨hi1093a, hi1093b, hi1093q⟩ := idx_some hi1093
            obtain ⟨A1094, c1095, hv1096⟩ := hs.matRow (i := 0) rfl hi1093q
            refine sY hf hs rfl rfl rfl (Y_index rfl rfl rfl el34 ti36 (Rd.isAt (hs.rdV (i := 0) rfl) hv1096) hi1093a (ltn hn1016 hi1093b)) ?_; clear hf; intro a hf
            refine sY hf hs rfl rfl rfl (Y_load_rd rfl rfl (fun w hs => hs.rdV (i := 0) rfl) (at1 hv1096) ag36) ?_; clear hf; intro a hf
            refine sY hf hs rfl rfl rfl (Y_lenH rfl rfl el36 rfl) ?_; clear hf; intro a hf
            refine sY hf hs rfl rfl rfl (Y_lss rfl rfl rfl) ?_; clear hf; intro a hf
            refine wpO_nil ?_
            refine wpL_cond hf rfl (fun hb1097 => ?_) (fun hb1097 => ?_)
            · have hm1090 := bif_t hm1090 hb1097
              refine wpL_skip ?_
              refine wpL_seq ?_
              refine wpL_block0 ?_
              refine wpL_drawG [.mat A3 n4 c5 36 2 vs7 ms1015] 21 (by kernel_rfl) hs ?_; clear hs; intro w hs
              have hs0 : St [] W w [.mat A3 n4 c5 36 2 vs7 ms1015] := hs
              refine gY (i := 0) [] rfl (by kernel_rfl) (by kernel_rfl) hf hs0 rfl rfl rfl (Y_move rfl rfl) ?_; clear hf; intro a hf
              refine gY (i := 1) [] rfl (by kernel_rfl) (by kernel_rfl) hf hs0 rfl rfl rfl (Y_move rfl rfl) ?_; clear hf; intro a hf
              obtain ⟨q1129, hi1130, hm1090⟩ := bind_some hm1090
              obtain ⟨hi1130a, hi1130b, hi1130q⟩ := idx_some hi1130
              obtain ⟨A1131, c1132, hv1133⟩ := hs0.matRow (i := 0) rfl hi1130q
              refine gY (i := 2) [] rfl (by kernel_rfl) (by kernel_rfl) hf hs0 rfl rfl rfl (Y_index rfl rfl rfl el34 ti36 (Rd.isAt (hs0.rdV (i := 0) rfl) hv1133) hi1130a (ltn hn1016 hi1130b)) ?_; clear hf; intro a hf
              refine gY (i := 3) [] rfl (by kernel_rfl) (by kernel_rfl) hf hs0 rfl rfl rfl (Y_load_rd rfl rfl (fun w hs => hs.rdV (i := 0) rfl) (at1 hv1133) ag36) ?_; clear hf; intro a hf
              refine gY (i := 4) [] rfl (by kernel_rfl) (by kernel_rfl) hf hs0 rfl rfl rfl (Y_move rfl rfl) ?_; clear hf; intro a hf
              refine gY (i := 5) [] rfl (by kernel_rfl) (by kernel_rfl) hf hs0 rfl rfl rfl (Y_move rfl rfl) ?_; clear hf; intro a hf
              refine gY (i := 6) [] rfl (by kernel_rfl) (by kernel_rfl) hf hs0 rfl rfl rfl (Y_move rfl rfl) ?_; clear hf; intro a hf
              obtain ⟨q1134, hi1135, hm1090⟩ := bind_some hm1090
              obtain ⟨hi1135a, hi1135b, hi1135q⟩ := idx_some hi1135
              obtain ⟨A1136, c1137, hv1138⟩ := hs0.matRow (i := 0) rfl hi1135q
              refine gY (i := 7) [] rfl (by kernel_rfl) (by kernel_rfl) hf hs0 rfl rfl rfl (Y_index rfl rfl rfl el34 ti36 (Rd.isAt (hs0.rdV (i := 0) rfl) hv1138) hi1135a (ltn hn1016 hi1135b)) ?_; clear hf; intro a hf
              refine gY (i := 8) [] rfl (by kernel_rfl) (by kernel_rfl) hf hs0 rfl rfl rfl (Y_load_rd rfl rfl (fun w hs => hs.rdV (i := 0) rfl) (at1 hv1138) ag36) ?_; clear hf; intro a hf
              refine gY (i := 9) [] rfl (by kernel_rfl) (by kernel_rfl) hf hs0 rfl rfl rfl (Y_move rfl rfl) ?_; clear hf; intro a hf
              obtain ⟨q1139, hi1140, hm1090⟩ := bind_some hm1090
              obtain ⟨hi1140a, hi1140b, hi1140q⟩ := idx_some hi1140
              refine gY (i := 10) [] rfl (by kernel_rfl) (by kernel_rfl) hf hs0 rfl rfl rfl (Y_index rfl rfl rfl el36 ti2 (Rd.isAt (hs0.rdRow (i := 0) rfl ⟨hi1135q, hv1138⟩) (at1 (ints_at hi1140q))) hi1140a hi1140b) ?_; clear hf; intro a hf
              refine gY (i := 11) [] rfl (by kernel_rfl) (by kernel_rfl) hf hs0 rfl rfl rfl (Y_load_rd rfl rfl (fun w hs => hs.rdRow (i := 0) rfl ⟨hi1135q, hv1138⟩) (at1 (ints_at hi1140q)) ag2) ?_; clear hf; intro a hf
              refine gY (i := 12) [] rfl (by kernel_rfl) (by kernel_rfl) hf hs0 rfl rfl rfl (Y_move rfl rfl) ?_; clear hf; intro a hf
              refine gY (i := 13) [] rfl (by kernel_rfl) (by kernel_rfl) hf hs0 rfl rfl rfl (Y_move rfl rfl) ?_; clear hf; intro a hf
              obtain ⟨q1141, hi1142, hm1090⟩ := bind_some hm1090
              obtain ⟨hi1142a, hi1142b, hi1142q⟩ := idx_some hi1142
              obtain ⟨vs1143, hv1144, hr1145⟩ := id h_p1_b_1
              obtain ⟨A1146, c1147, hv1148, hR1149⟩ := hr1145 _ _ hi1142q
              refine gY (i := 14) [] rfl (by kernel_rfl) (by kernel_rfl) hf hs0 rfl rfl rfl (Y_index rfl rfl rfl el34 ti36 (Rd.isAt hv1144 hv1148) hi1142a hi1142b) ?_; clear hf; intro a hf
              refine gY (i := 15) [] rfl (by kernel_rfl) (by kernel_rfl) hf hs0 rfl rfl rfl (Y_load_rd rfl rfl (fun w hs => hv1144.at hs) (at1 hv1148) ag36) ?_; clear hf; intro a hf
              refine gY (i := 16) [] rfl (by kernel_rfl) (by kernel_rfl) hf hs0 rfl rfl rfl (Y_move rfl rfl) ?_; clear hf; intro a hf
              obtain ⟨q1150, hi1151, hm1090⟩ := bind_some hm1090
              obtain ⟨hi1151a, hi1151b, hi1151q⟩ := idx_some hi1151
              refine gY (i := 17) [] rfl (by kernel_rfl) (by kernel_rfl) hf hs0 rfl rfl rfl (Y_index rfl rfl rfl el36 ti2 (Rd.isAt (hR1149.at hs0) (at1 (ints_at hi1151q))) hi1151a hi1151b) ?_; clear hf; intro a hf
              refine gY (i := 18) [] rfl (by kernel_rfl) (by kernel_rfl) hf hs0 rfl rfl rfl (Y_load_rd rfl rfl (fun w hs => hR1149.at hs) (at1 (ints_at hi1151q)) ag2) ?_; clear hf; intro a hf
              refine gY (i := 19) [] rfl (by kernel_rfl) (by kernel_rfl) hf hs0 rfl rfl rfl (Y_max rfl rfl rfl) ?_; clear hf; intro a hf
              obtain ⟨q1152, hi1153, hm1090⟩ := bind_some hm1090
              obtain ⟨hi1153a, hi1153b, hi1153q⟩ := idx_some hi1153
              refine gY (i := 20) [] rfl (by kernel_rfl) (by kernel_rfl) hf hs0 rfl rfl rfl (Y_index rfl rfl rfl el36 ti2 (Rd.isAt (hs0.rdRow (i := 0) rfl ⟨hi1130q, hv1133⟩) (at1 (ints_at hi1153q))) hi1153a hi1153b) ?_; clear hf; intro a hf
              refine gRun (i := 21) rfl (by kernel_rfl) ?_
              obtain ⟨xs1154, hu1156, hm1090⟩ := bind_some hm1090
              obtain ⟨ms1155, hu1157, hm1090⟩ := bind_some hm1090
              refine sStoreM (i := 0) (k := x583) hf hs rfl rfl rfl rfl rfl rfl hi1130q hv1133 rfl hu1156 hu1157 ti2 ?_; clear hs; intro w hs
              obtain ⟨hq1158, hv1159⟩ := rowUpd hu1156 hu1157 hv1133
              have hs : St [] W w [.mat A3 n4 c5 36 2 vs7 ms1155] := hs
              refine wpO_nil ⟨Or.inl rfl, ?_⟩
              refine gDone (by kernel_rfl) ?_
              clear hs0
              refine wpL_nil (Qb_normal ?_)
              refine wpL_region ?_
              refine sY hf hs rfl rfl rfl (Y_move rfl rfl) ?_; clear hf; intro a hf
              refine sY hf hs rfl rfl rfl (Y_add rfl rfl rfl) ?_; clear hf; intro a hf
              refine sY hf hs rfl rfl rfl (Y_assign rfl rfl) ?_; clear hf; intro a hf
              refine wpO_nil ?_
              refine wpL_nil (Ql_normal ?_)
              exact ⟨ms1155, (IntKind.i64.wrap (x1017 + 1)), hm1090, ((hn1016).trans (upd_len hu1157).symm), (Fr.pick (Fr.pick (Fr.pick (Fr.pick hf.none hf rfl) hf rfl) hf rfl) hf rfl), hs⟩
            · have hm1090 := bif_f hm1090 hb1097
              refine wpL_exit (Ql_exit (Qb_exit ?_))
              exact ⟨ms1015, Option.some.inj hm1090, hn1016, (Fr.pick (Fr.pick (Fr.pick hf.none hf rfl) hf rfl) hf rfl), hs⟩
        · rintro a w ⟨ms1086, hr_, hn1087, hf, hs⟩
          subst hr_
          try dsimp only at hm873
          refine wpL_nil (Qb_normal ?_)
          refine wpL_region ?_
          refine sY hf hs rfl rfl rfl (Y_move rfl rfl) ?_; clear hf; intro a hf
          refine sY hf hs rfl rfl rfl (Y_add rfl rfl rfl) ?_; clear hf; intro a hf
          refine sY hf hs rfl rfl rfl (Y_assign rfl rfl) ?_; clear hf; intro a hf
          refine wpO_nil ?_
          refine wpL_nil (Ql_normal ?_)
          exact ⟨ms1086, (IntKind.i64.wrap (x583 + 1)), hm873, hn1087, (Fr.pick (Fr.pick (Fr.pick hf.none hf rfl) hf rfl) hf rfl), hs⟩
      · have hm873 := bif_f hm873 hb875
        refine wpL_exit (Ql_exit (Qb_exit ?_))
        exact ⟨ms581, Option.some.inj hm873, hn582, (Fr.pick hf.none hf rfl), hs⟩
  · rintro a w ⟨ms869, hr_, hn870, hf, hs⟩
    subst hr_
    try dsimp only at hm
    refine wpL_seq ?_
    refine wpL_region ?_
    refine sY hf hs rfl rfl rfl (Y_move rfl rfl) ?_; clear hf; intro a hf
    refine sY hf hs rfl rfl rfl (Y_assign rfl rfl) ?_; clear hf; intro a hf
    refine wpO_nil ?_
    obtain rfl := Option.some.inj hm
    refine wpL_ret (ret_tmp rfl hf rfl ?_)
    exact ⟨_, rfl, A3, n4, c5, vs7, rfl, hn870, hs⟩

set_option maxRecDepth 100000 in
theorem spec_l01Same_ok (F : Nat) (p0_a : List Int) (A_p0_a_1 : Option Addr) (n_p0_a_1 c_p0_a_1 : Nat) (hn_p0_a_1 : n_p0_a_1 = p0_a.length) (p1_b : List Int) (A_p1_b_1 : Option Addr) (n_p1_b_1 c_p1_b_1 : Nat) (hn_p1_b_1 : n_p1_b_1 = p1_b.length) (r : Bool) (W : World) (hm : spec_l01Same F p0_a p1_b = some r) (h_p0_a_1 : Rd W A_p0_a_1 (ints p0_a)) (h_p1_b_1 : Rd W A_p1_b_1 (ints p1_b)) :
    Calls Try.prog 174 [.slice A_p0_a_1 n_p0_a_1 c_p0_a_1, .slice A_p1_b_1 n_p1_b_1 c_p1_b_1].toArray W fun e w' => ∃ v, e = .returned v ∧ v = .bool r ∧ St [] W w' [] := by
  subst hn_p0_a_1
  subst hn_p1_b_1
  unfold spec_l01Same at hm
  refine Calls.enter (N := 26) Try.func174 rfl rfl rfl (fun a hf => ?_)
  have hs := St.start W
  obtain ⟨w, hw_⟩ : ∃ w, w = W := ⟨W, rfl⟩
  clear hw_ w
  refine wpL_seq ?_
  refine wpL_region ?_
  refine sY hf hs rfl rfl rfl (Y_assign rfl rfl) ?_; clear hf; intro a hf
  refine wpO_nil ?_
  refine wpL_seq ?_
  refine wpL_seq ?_
  refine wpL_region ?_
  refine sY hf hs rfl rfl rfl (Y_move rfl rfl) ?_; clear hf; intro a hf
  refine sY hf hs rfl rfl rfl (Y_lenH rfl rfl el36 rfl) ?_; clear hf; intro a hf
  refine sY hf hs rfl rfl rfl (Y_move rfl rfl) ?_; clear hf; intro a hf
  refine sY hf hs rfl rfl rfl (Y_lenH rfl rfl el36 rfl) ?_; clear hf; intro a hf
  refine sY hf hs rfl rfl rfl (Y_neq rfl rfl rfl) ?_; clear hf; intro a hf
  refine wpO_nil ?_
  refine wpL_cond hf rfl (fun hb1 => ?_) (fun hb1 => ?_)
  · have hm := bif_t hm hb1
    refine wpL_seq ?_
    refine wpL_region ?_
    refine sY hf hs rfl rfl rfl (Y_assign rfl rfl) ?_; clear hf; intro a hf
    refine wpO_nil ?_
    obtain rfl := Option.some.inj hm
    refine wpL_ret (ret_tmp rfl hf rfl ?_)
    exact ⟨_, rfl, rfl, hs⟩
  · have hm := bif_f hm hb1
    refine wpL_skip ?_
    refine wpL_seq ?_
    refine wpL_seq ?_
    refine wpL_region ?_
    refine sY hf hs rfl rfl rfl (Y_assign rfl rfl) ?_; clear hf; intro a hf
    refine wpO_nil ?_
    obtain ⟨r22, hl23, hm⟩ := bind_some hm
    refine wpL_block (fun a w => Sum.inr () = r22 ∧ Fr a 26 [] ∧ St [] W w []) ?_ ?_
    · refine wpL_loop (fun n a w => ∃ x15 : Int, spec_l01Same_L1 F p0_a p1_b n x15 = some r22 ∧ Fr a 26 [(0, .slice A_p0_a_1 p0_a.length c_p0_a_1), (1, .slice A_p1_b_1 p1_b.length c_p1_b_1), (5, .int .i64 x15)] ∧ St [] W w []) F ?_ ?_ ?_
      · exact ⟨0, hl23, (Fr.pick (Fr.pick (Fr.pick hf.none hf rfl) hf rfl) hf rfl), hs⟩
      · rintro a w ⟨x15, h0_, -, -⟩; simp [spec_l01Same_L1] at h0_
      · rintro n25 a w ⟨x15, hm24, hf, hs⟩
        rw [spec_l01Same_L1] at hm24
        refine wpL_seq ?_
        refine wpL_seq ?_
        refine wpL_region ?_
        refine sY hf hs rfl rfl rfl (Y_move rfl rfl) ?_; clear hf; intro a hf
        refine sY hf hs rfl rfl rfl (Y_move rfl rfl) ?_; clear hf; intro a hf
        refine sY hf hs rfl rfl rfl (Y_lenH rfl rfl el36 rfl) ?_; clear hf; intro a hf
        refine sY hf hs rfl rfl rfl (Y_lss rfl rfl rfl) ?_; clear hf; intro a hf
        refine wpO_nil ?_
        refine wpL_cond hf rfl (fun hb26 => ?_) (fun hb26 => ?_)
        · have hm24 := bif_t hm24 hb26
          refine wpL_skip ?_
          refine wpL_seq ?_
          refine wpL_block0 ?_
          refine wpL_seq ?_
          refine wpL_draw (by kernel_rfl) (by kernel_rfl) hs ?_
          refine qY hf rfl rfl rfl (Y_move rfl rfl) ?_; clear hf; intro a hf
          refine qY hf rfl rfl rfl (Y_move rfl rfl) ?_; clear hf; intro a hf
          obtain ⟨q27, hi28, hm24⟩ := bind_some hm24
          obtain ⟨hi28a, hi28b, hi28q⟩ := idx_some hi28
          refine qY hf rfl rfl rfl (Y_index rfl rfl rfl el36 ti2 (Rd.isAt (h_p0_a_1.at hs) (at1 (ints_at hi28q))) hi28a hi28b) ?_; clear hf; intro a hf
          refine qY hf rfl rfl rfl (Y_load_rd rfl rfl (fun w hs => h_p0_a_1.at hs) (at1 (ints_at hi28q)) ag2) ?_; clear hf; intro a hf
          refine qY hf rfl rfl rfl (Y_move rfl rfl) ?_; clear hf; intro a hf
          refine qY hf rfl rfl rfl (Y_move rfl rfl) ?_; clear hf; intro a hf
          obtain ⟨q29, hi30, hm24⟩ := bind_some hm24
          obtain ⟨hi30a, hi30b, hi30q⟩ := idx_some hi30
          refine qY hf rfl rfl rfl (Y_index rfl rfl rfl el36 ti2 (Rd.isAt (h_p1_b_1.at hs) (at1 (ints_at hi30q))) hi30a hi30b) ?_; clear hf; intro a hf
          refine qY hf rfl rfl rfl (Y_load_rd rfl rfl (fun w hs => h_p1_b_1.at hs) (at1 (ints_at hi30q)) ag2) ?_; clear hf; intro a hf
          refine qY hf rfl rfl rfl (Y_neq rfl rfl rfl) ?_; clear hf; intro a hf
          refine qNil ?_; clear hs; intro w hs
          refine wpL_cond hf rfl (fun hb31 => ?_) (fun hb31 => ?_)
          · have hm24 := bif_t hm24 hb31
            refine wpL_seq ?_
            refine wpL_region ?_
            refine sY hf hs rfl rfl rfl (Y_assign rfl rfl) ?_; clear hf; intro a hf
            refine wpO_nil ?_
            obtain rfl := Option.some.inj hm24
            try dsimp only at hm
            obtain rfl := Option.some.inj hm
            refine wpL_ret (Qb_ret (Ql_ret (Qb_ret (ret_tmp rfl hf rfl ?_))))
            exact ⟨_, rfl, rfl, hs⟩
          · have hm24 := bif_f hm24 hb31
            refine wpL_skip ?_
            refine wpL_nil (Qb_normal ?_)
            refine wpL_region ?_
            refine sY hf hs rfl rfl rfl (Y_move rfl rfl) ?_; clear hf; intro a hf
            refine sY hf hs rfl rfl rfl (Y_add rfl rfl rfl) ?_; clear hf; intro a hf
            refine sY hf hs rfl rfl rfl (Y_assign rfl rfl) ?_; clear hf; intro a hf
            refine wpO_nil ?_
            refine wpL_nil (Ql_normal ?_)
            exact ⟨(IntKind.i64.wrap (x15 + 1)), hm24, (Fr.pick (Fr.pick (Fr.pick hf.none hf rfl) hf rfl) hf rfl), hs⟩
        · have hm24 := bif_f hm24 hb26
          refine wpL_exit (Ql_exit (Qb_exit ?_))
          exact ⟨Option.some.inj hm24, hf.none, hs⟩
    · rintro a w ⟨hr_, hf, hs⟩
      subst hr_
      try dsimp only at hm
      refine wpL_seq ?_
      refine wpL_region ?_
      refine sY hf hs rfl rfl rfl (Y_assign rfl rfl) ?_; clear hf; intro a hf
      refine wpO_nil ?_
      obtain rfl := Option.some.inj hm
      refine wpL_ret (ret_tmp rfl hf rfl ?_)
      exact ⟨_, rfl, rfl, hs⟩

set_option maxRecDepth 100000 in
theorem spec_l02Same_ok (F : Nat) (p0_a : List (List Int)) (A_p0_a_1 : Option Addr) (n_p0_a_1 c_p0_a_1 : Nat) (hn_p0_a_1 : n_p0_a_1 = p0_a.length) (p1_b : List (List Int)) (A_p1_b_1 : Option Addr) (n_p1_b_1 c_p1_b_1 : Nat) (hn_p1_b_1 : n_p1_b_1 = p1_b.length) (r : Bool) (W : World) (hm : spec_l02Same F p0_a p1_b = some r) (h_p0_a_1 : RdM W A_p0_a_1 p0_a) (h_p1_b_1 : RdM W A_p1_b_1 p1_b) :
    Calls Try.prog 148 [.slice A_p0_a_1 n_p0_a_1 c_p0_a_1, .slice A_p1_b_1 n_p1_b_1 c_p1_b_1].toArray W fun e w' => ∃ v, e = .returned v ∧ v = .bool r ∧ St [] W w' [] := by
  subst hn_p0_a_1
  subst hn_p1_b_1
  unfold spec_l02Same at hm
  refine Calls.enter (N := 27) Try.func148 rfl rfl rfl (fun a hf => ?_)
  have hs := St.start W
  obtain ⟨w, hw_⟩ : ∃ w, w = W := ⟨W, rfl⟩
  clear hw_ w
  refine wpL_seq ?_
  refine wpL_region ?_
  refine sY hf hs rfl rfl rfl (Y_assign rfl rfl) ?_; clear hf; intro a hf
  refine wpO_nil ?_
  refine wpL_seq ?_
  refine wpL_seq ?_
  refine wpL_region ?_
  refine sY hf hs rfl rfl rfl (Y_move rfl rfl) ?_; clear hf; intro a hf
  refine sY hf hs rfl rfl rfl (Y_lenH rfl rfl el34 rfl) ?_; clear hf; intro a hf
  refine sY hf hs rfl rfl rfl (Y_move rfl rfl) ?_; clear hf; intro a hf
  refine sY hf hs rfl rfl rfl (Y_lenH rfl rfl el34 rfl) ?_; clear hf; intro a hf
  refine sY hf hs rfl rfl rfl (Y_neq rfl rfl rfl) ?_; clear hf; intro a hf
  refine wpO_nil ?_
  refine wpL_cond hf rfl (fun hb1 => ?_) (fun hb1 => ?_)
  · have hm := bif_t hm hb1
    refine wpL_seq ?_
    refine wpL_region ?_
    refine sY hf hs rfl rfl rfl (Y_assign rfl rfl) ?_; clear hf; intro a hf
    refine wpO_nil ?_
    obtain rfl := Option.some.inj hm
    refine wpL_ret (ret_tmp rfl hf rfl ?_)
    exact ⟨_, rfl, rfl, hs⟩
  · have hm := bif_f hm hb1
    refine wpL_skip ?_
    refine wpL_seq ?_
    refine wpL_seq ?_
    refine wpL_region ?_
    refine sY hf hs rfl rfl rfl (Y_assign rfl rfl) ?_; clear hf; intro a hf
    refine wpO_nil ?_
    obtain ⟨r70, hl71, hm⟩ := bind_some hm
    refine wpL_block (fun a w => Sum.inr () = r70 ∧ Fr a 27 [] ∧ St [] W w []) ?_ ?_
    · refine wpL_loop (fun n a w => ∃ x47 : Int, spec_l02Same_L1 F p0_a p1_b n x47 = some r70 ∧ Fr a 27 [(0, .slice A_p0_a_1 p0_a.length c_p0_a_1), (1, .slice A_p1_b_1 p1_b.length c_p1_b_1), (5, .int .i64 x47)] ∧ St [] W w []) F ?_ ?_ ?_
      · exact ⟨0, hl71, (Fr.pick (Fr.pick (Fr.pick hf.none hf rfl) hf rfl) hf rfl), hs⟩
      · rintro a w ⟨x47, h0_, -, -⟩; simp [spec_l02Same_L1] at h0_
      · rintro n73 a w ⟨x47, hm72, hf, hs⟩
        rw [spec_l02Same_L1] at hm72
        refine wpL_seq ?_
        refine wpL_seq ?_
        refine wpL_region ?_
        refine sY hf hs rfl rfl rfl (Y_move rfl rfl) ?_; clear hf; intro a hf
        refine sY hf hs rfl rfl rfl (Y_move rfl rfl) ?_; clear hf; intro a hf
        refine sY hf hs rfl rfl rfl (Y_lenH rfl rfl el34 rfl) ?_; clear hf; intro a hf
        refine sY hf hs rfl rfl rfl (Y_lss rfl rfl rfl) ?_; clear hf; intro a hf
        refine wpO_nil ?_
        refine wpL_cond hf rfl (fun hb74 => ?_) (fun hb74 => ?_)
        · have hm72 := bif_t hm72 hb74
          refine wpL_skip ?_
          refine wpL_seq ?_
          refine wpL_block0 ?_
          refine wpL_seq ?_
          refine wpL_draw (by kernel_rfl) (by kernel_rfl) hs ?_
          refine qY hf rfl rfl rfl (Y_move rfl rfl) ?_; clear hf; intro a hf
          refine qY hf rfl rfl rfl (Y_move rfl rfl) ?_; clear hf; intro a hf
          obtain ⟨q75, hi76, hm72⟩ := bind_some hm72
          obtain ⟨hi76a, hi76b, hi76q⟩ := idx_some hi76
          obtain ⟨vs77, hv78, hr79⟩ := id h_p0_a_1
          obtain ⟨A80, c81, hv82, hR83⟩ := hr79 _ _ hi76q
          refine qY hf rfl rfl rfl (Y_index rfl rfl rfl el34 ti36 (Rd.isAt hv78 hv82) hi76a hi76b) ?_; clear hf; intro a hf
          refine qY hf rfl rfl rfl (Y_load_rd rfl rfl (fun w hs => hv78.at hs) (at1 hv82) ag36) ?_; clear hf; intro a hf
          refine qY hf rfl rfl rfl (Y_move rfl rfl) ?_; clear hf; intro a hf
          refine qY hf rfl rfl rfl (Y_move rfl rfl) ?_; clear hf; intro a hf
          obtain ⟨q84, hi85, hm72⟩ := bind_some hm72
          obtain ⟨hi85a, hi85b, hi85q⟩ := idx_some hi85
          obtain ⟨vs86, hv87, hr88⟩ := id h_p1_b_1
          obtain ⟨A89, c90, hv91, hR92⟩ := hr88 _ _ hi85q
          refine qY hf rfl rfl rfl (Y_index rfl rfl rfl el34 ti36 (Rd.isAt hv87 hv91) hi85a hi85b) ?_; clear hf; intro a hf
          refine qY hf rfl rfl rfl (Y_load_rd rfl rfl (fun w hs => hv87.at hs) (at1 hv91) ag36) ?_; clear hf; intro a hf
          obtain ⟨r93, hc94, hm72⟩ := bind_some hm72
          refine qCall hf rfl rfl rfl rfl (cap := []) rfl rfl en174 (v := .bool r93) (fun w hs => Calls.scal (spec_l01Same_ok F q75 A80 q75.length c81 rfl q84 A89 q84.length c90 rfl _ _ hc94 (hR83.at hs) (hR92.at hs))) ?_; clear hf; intro a hf
          refine qY hf rfl rfl rfl (Y_not rfl rfl) ?_; clear hf; intro a hf
          refine qNil ?_; clear hs; intro w hs
          refine wpL_cond hf rfl (fun hb95 => ?_) (fun hb95 => ?_)
          · have hm72 := bif_t hm72 hb95
            refine wpL_seq ?_
            refine wpL_region ?_
            refine sY hf hs rfl rfl rfl (Y_assign rfl rfl) ?_; clear hf; intro a hf
            refine wpO_nil ?_
            obtain rfl := Option.some.inj hm72
            try dsimp only at hm
            obtain rfl := Option.some.inj hm
            refine wpL_ret (Qb_ret (Ql_ret (Qb_ret (ret_tmp rfl hf rfl ?_))))
            exact ⟨_, rfl, rfl, hs⟩
          · have hm72 := bif_f hm72 hb95
            refine wpL_skip ?_
            refine wpL_nil (Qb_normal ?_)
            refine wpL_region ?_
            refine sY hf hs rfl rfl rfl (Y_move rfl rfl) ?_; clear hf; intro a hf
            refine sY hf hs rfl rfl rfl (Y_add rfl rfl rfl) ?_; clear hf; intro a hf
            refine sY hf hs rfl rfl rfl (Y_assign rfl rfl) ?_; clear hf; intro a hf
            refine wpO_nil ?_
            refine wpL_nil (Ql_normal ?_)
            exact ⟨(IntKind.i64.wrap (x47 + 1)), hm72, (Fr.pick (Fr.pick (Fr.pick hf.none hf rfl) hf rfl) hf rfl), hs⟩
        · have hm72 := bif_f hm72 hb74
          refine wpL_exit (Ql_exit (Qb_exit ?_))
          exact ⟨Option.some.inj hm72, hf.none, hs⟩
    · rintro a w ⟨hr_, hf, hs⟩
      subst hr_
      try dsimp only at hm
      refine wpL_seq ?_
      refine wpL_region ?_
      refine sY hf hs rfl rfl rfl (Y_assign rfl rfl) ?_; clear hf; intro a hf
      refine wpO_nil ?_
      obtain rfl := Option.some.inj hm
      refine wpL_ret (ret_tmp rfl hf rfl ?_)
      exact ⟨_, rfl, rfl, hs⟩

set_option maxRecDepth 100000 in
theorem spec_l03Star_ok (F : Nat) (p0_a : List (List Int)) (A_p0_a_1 : Option Addr) (n_p0_a_1 c_p0_a_1 : Nat) (hn_p0_a_1 : n_p0_a_1 = p0_a.length) (r : List (List Int) × Bool) (W : World) (hm : spec_l03Star F p0_a = some r) (h_p0_a_1 : RdM W A_p0_a_1 p0_a) :
    Calls Try.prog 101 [.slice A_p0_a_1 n_p0_a_1 c_p0_a_1].toArray W fun e w' => ∃ v, e = .returned v ∧ ∃ A143, ∃ n144, ∃ c145, ∃ vs147, v = .tuple #[.slice A143 n144 c145, .bool r.2] ∧ n144 = r.1.length ∧ St [] W w' [.mat A143 n144 c145 36 2 vs147 r.1] := by
  subst hn_p0_a_1
  unfold spec_l03Star at hm
  refine Calls.enter (N := 33) Try.func101 rfl rfl rfl (fun a hf => ?_)
  have hs := St.start W
  obtain ⟨w, hw_⟩ : ∃ w, w = W := ⟨W, rfl⟩
  clear hw_ w
  refine wpL_seq ?_
  refine wpL_region ?_
  refine sY hf hs rfl rfl rfl (Y_assign rfl rfl) ?_; clear hf; intro a hf
  refine sY hf hs rfl rfl rfl (Y_assign rfl rfl) ?_; clear hf; intro a hf
  refine wpO_nil ?_
  refine wpL_seq ?_
  refine wpL_region ?_
  refine sY hf hs rfl rfl rfl (Y_move rfl rfl) ?_; clear hf; intro a hf
  refine sY hf hs rfl rfl rfl (Y_lenH rfl rfl el34 rfl) ?_; clear hf; intro a hf
  refine sY hf hs rfl rfl rfl (Y_assign rfl rfl) ?_; clear hf; intro a hf
  refine wpO_nil ?_
  refine wpL_seq ?_
  refine wpL_region ?_
  refine sY hf hs rfl rfl rfl (Y_move rfl rfl) ?_; clear hf; intro a hf
  obtain ⟨r1, hc2, hm⟩ := bind_some hm
  refine sCall hf rfl rfl rfl rfl (cap := []) rfl rfl en145 (spec_l02Unit_ok F (p0_a.length : Int) _ _ hc2) ?_; clear hf
  rintro _ w ⟨A3, n4, c5, vs7, rfl, hn6, hs1⟩ a hf
  have hs : St [] W w [.mat A3 n4 c5 36 2 vs7 r1] := hs.join hs1
  clear hs1
  refine sY hf hs rfl rfl rfl (Y_assign rfl rfl) ?_; clear hf; intro a hf
  refine wpO_nil ?_
  refine wpL_seq ?_
  refine wpL_seq ?_
  refine wpL_region ?_
  refine sY hf hs rfl rfl rfl (Y_assign rfl rfl) ?_; clear hf; intro a hf
  refine wpO_nil ?_
  obtain ⟨r94, hl95, hm⟩ := bind_some hm
  refine wpL_block (fun a w => ∃ ms88 : List (List Int), ∃ A89, ∃ n90, ∃ c91, ∃ vs93, ms88 = r94 ∧ n90 = ms88.length ∧ Fr a 33 [(0, .slice A_p0_a_1 p0_a.length c_p0_a_1), (4, .int .i64 (p0_a.length : Int)), (5, .slice A89 n90 c91)] ∧ St [] W w [.mat A89 n90 c91 36 2 vs93 ms88]) ?_ ?_
  · refine wpL_loop (fun n a w => ∃ ms59 : List (List Int), ∃ x65 : Int, ∃ A60, ∃ n61, ∃ c62, ∃ vs64, spec_l03Star_L1 F p0_a n ms59 x65 = some r94 ∧ n61 = ms59.length ∧ Fr a 33 [(0, .slice A_p0_a_1 p0_a.length c_p0_a_1), (4, .int .i64 (p0_a.length : Int)), (5, .slice A60 n61 c62), (6, .int .i64 x65)] ∧ St [] W w [.mat A60 n61 c62 36 2 vs64 ms59]) F ?_ ?_ ?_
    · exact ⟨r1, 0, A3, n4, c5, vs7, hl95, hn6, (Fr.pick (Fr.pick (Fr.pick (Fr.pick hf.none hf rfl) hf rfl) hf rfl) hf rfl), hs⟩
    · rintro a w ⟨ms59, x65, A60, n61, c62, vs64, h0_, -, -, -⟩; simp [spec_l03Star_L1] at h0_
    · rintro n97 a w ⟨ms59, x65, A60, n61, c62, vs64, hm96, hn63, hf, hs⟩
      rw [spec_l03Star_L1] at hm96
      refine wpL_seq ?_
      refine wpL_seq ?_
      refine wpL_region ?_
      refine sY hf hs rfl rfl rfl (Y_move rfl rfl) ?_; clear hf; intro a hf
      refine sY hf hs rfl rfl rfl (Y_move rfl rfl) ?_; clear hf; intro a hf
      refine sY hf hs rfl rfl rfl (Y_lss rfl rfl rfl) ?_; clear hf; intro a hf
      refine wpO_nil ?_
      refine wpL_cond hf rfl (fun hb98 => ?_) (fun hb98 => ?_)
      · have hm96 := bif_t hm96 hb98
        refine wpL_skip ?_
        refine wpL_seq ?_
        refine wpL_block0 ?_
        refine wpL_region ?_
        refine sY hf hs rfl rfl rfl (Y_move rfl rfl) ?_; clear hf; intro a hf
        obtain ⟨r99, hc100, hm96⟩ := bind_some hm96
        refine sCall hf rfl rfl rfl rfl (cap := []) rfl rfl en145 (spec_l02Unit_ok F (p0_a.length : Int) _ _ hc100) ?_; clear hf
        rintro _ w ⟨A101, n102, c103, vs105, rfl, hn104, hs1⟩ a hf
        have hs : St [] W w [.mat A60 n61 c62 36 2 vs64 ms59, .mat A101 n102 c103 36 2 vs105 r99] := hs.join hs1
        clear hs1
        refine sY hf hs rfl rfl rfl (Y_move rfl rfl) ?_; clear hf; intro a hf
        refine sY hf hs rfl rfl rfl (Y_move rfl rfl) ?_; clear hf; intro a hf
        obtain ⟨r106, hc107, hm96⟩ := bind_some hm96
        refine sCall hf rfl rfl rfl rfl (cap := []) rfl rfl en147 (spec_l02Multiply_ok F p0_a A_p0_a_1 p0_a.length c_p0_a_1 rfl ms59 A60 n61 c62 hn63 _ _ hc107 (h_p0_a_1.at hs) (hs.rdM (i := 0) rfl)) ?_; clear hf
        rintro _ w ⟨A108, n109, c110, vs112, rfl, hn111, hs1⟩ a hf
        have hs : St [] W w [.mat A60 n61 c62 36 2 vs64 ms59, .mat A101 n102 c103 36 2 vs105 r99, .mat A108 n109 c110 36 2 vs112 r106] := hs.join hs1
        clear hs1
        obtain ⟨r113, hc114, hm96⟩ := bind_some hm96
        refine sCall hf rfl rfl rfl rfl (cap := []) rfl rfl en146 (spec_l02Add_ok F r99 A101 n102 c103 hn104 r106 A108 n109 c110 hn111 _ _ hc114 (hs.rdM (i := 1) rfl) (hs.rdM (i := 2) rfl)) ?_; clear hf
        rintro _ w ⟨A115, n116, c117, vs119, rfl, hn118, hs1⟩ a hf
        have hs : St [] W w [.mat A60 n61 c62 36 2 vs64 ms59, .mat A101 n102 c103 36 2 vs105 r99, .mat A108 n109 c110 36 2 vs112 r106, .mat A115 n116 c117 36 2 vs119 r113] := hs.join hs1
        clear hs1
        refine sY hf hs rfl rfl rfl (Y_assign rfl rfl) ?_; clear hf; intro a hf
        refine wpO_nil ?_
        refine wpL_nil (Qb_normal ?_)
        refine wpL_region ?_
        refine sY hf hs rfl rfl rfl (Y_move rfl rfl) ?_; clear hf; intro a hf
        refine sY hf hs rfl rfl rfl (Y_add rfl rfl rfl) ?_; clear hf; intro a hf
        refine sY hf hs rfl rfl rfl (Y_assign rfl rfl) ?_; clear hf; intro a hf
        refine wpO_nil ?_
        refine wpL_nil (Ql_normal ?_)
        exact ⟨r113, (IntKind.i64.wrap (x65 + 1)), A115, n116, c117, vs119, hm96, hn118, (Fr.pick (Fr.pick (Fr.pick (Fr.pick hf.none hf rfl) hf rfl) hf rfl) hf rfl), hs.sel [3] (by decide)⟩
      · have hm96 := bif_f hm96 hb98
        refine wpL_exit (Ql_exit (Qb_exit ?_))
        exact ⟨ms59, A60, n61, c62, vs64, Option.some.inj hm96, hn63, (Fr.pick (Fr.pick (Fr.pick hf.none hf rfl) hf rfl) hf rfl), hs⟩
  · rintro a w ⟨ms88, A89, n90, c91, vs93, hr_, hn92, hf, hs⟩
    subst hr_
    try dsimp only at hm
    refine wpL_seq ?_
    refine wpL_region ?_
    refine sY hf hs rfl rfl rfl (Y_move rfl rfl) ?_; clear hf; intro a hf
    obtain ⟨r120, hc121, hm⟩ := bind_some hm
    refine sCall hf rfl rfl rfl rfl (cap := []) rfl rfl en145 (spec_l02Unit_ok F (p0_a.length : Int) _ _ hc121) ?_; clear hf
    rintro _ w ⟨A122, n123, c124, vs126, rfl, hn125, hs1⟩ a hf
    have hs : St [] W w [.mat A89 n90 c91 36 2 vs93 ms88, .mat A122 n123 c124 36 2 vs126 r120] := hs.join hs1
    clear hs1
    refine sY hf hs rfl rfl rfl (Y_move rfl rfl) ?_; clear hf; intro a hf
    refine sY hf hs rfl rfl rfl (Y_move rfl rfl) ?_; clear hf; intro a hf
    obtain ⟨r127, hc128, hm⟩ := bind_some hm
    refine sCall hf rfl rfl rfl rfl (cap := []) rfl rfl en147 (spec_l02Multiply_ok F p0_a A_p0_a_1 p0_a.length c_p0_a_1 rfl ms88 A89 n90 c91 hn92 _ _ hc128 (h_p0_a_1.at hs) (hs.rdM (i := 0) rfl)) ?_; clear hf
    rintro _ w ⟨A129, n130, c131, vs133, rfl, hn132, hs1⟩ a hf
    have hs : St [] W w [.mat A89 n90 c91 36 2 vs93 ms88, .mat A122 n123 c124 36 2 vs126 r120, .mat A129 n130 c131 36 2 vs133 r127] := hs.join hs1
    clear hs1
    obtain ⟨r134, hc135, hm⟩ := bind_some hm
    refine sCall hf rfl rfl rfl rfl (cap := []) rfl rfl en146 (spec_l02Add_ok F r120 A122 n123 c124 hn125 r127 A129 n130 c131 hn132 _ _ hc135 (hs.rdM (i := 1) rfl) (hs.rdM (i := 2) rfl)) ?_; clear hf
    rintro _ w ⟨A136, n137, c138, vs140, rfl, hn139, hs1⟩ a hf
    have hs : St [] W w [.mat A89 n90 c91 36 2 vs93 ms88, .mat A122 n123 c124 36 2 vs126 r120, .mat A129 n130 c131 36 2 vs133 r127, .mat A136 n137 c138 36 2 vs140 r134] := hs.join hs1
    clear hs1
    refine sY hf hs rfl rfl rfl (Y_assign rfl rfl) ?_; clear hf; intro a hf
    refine wpO_nil ?_
    refine wpL_seq ?_
    refine wpL_region ?_
    refine sY hf hs rfl rfl rfl (Y_move rfl rfl) ?_; clear hf; intro a hf
    refine sY hf hs rfl rfl rfl (Y_move rfl rfl) ?_; clear hf; intro a hf
    refine sY hf hs rfl rfl rfl (Y_move rfl rfl) ?_; clear hf; intro a hf
    obtain ⟨r141, hc142, hm⟩ := bind_some hm
    refine sCall hf rfl rfl rfl rfl (cap := []) rfl rfl en148 (spec_l02Same_ok F r134 A136 n137 c138 hn139 ms88 A89 n90 c91 hn92 _ _ hc142 (hs.rdM (i := 3) rfl) (hs.rdM (i := 0) rfl)) ?_; clear hf
    rintro _ w ⟨rfl, hs1⟩ a hf
    have hs : St [] W w [.mat A89 n90 c91 36 2 vs93 ms88, .mat A122 n123 c124 36 2 vs126 r120, .mat A129 n130 c131 36 2 vs133 r127, .mat A136 n137 c138 36 2 vs140 r134] := hs.ext hs1.below
    clear hs1
    refine sY hf hs rfl rfl rfl (Y_assign rfl rfl) ?_; clear hf; intro a hf
    refine sY hf hs rfl rfl rfl (Y_assign rfl rfl) ?_; clear hf; intro a hf
    refine wpO_nil ?_
    obtain rfl := Option.some.inj hm
    refine wpL_ret (ret_tmp2 rfl hf rfl rfl ?_)
    exact ⟨_, rfl, A89, n90, c91, vs93, rfl, hn92, hs.sel [0] (by decide)⟩

set_option maxRecDepth 100000 in
theorem spec_l02Apply_ok (F : Nat) (p0_a : List (List Int)) (A_p0_a_1 : Option Addr) (n_p0_a_1 c_p0_a_1 : Nat) (hn_p0_a_1 : n_p0_a_1 = p0_a.length) (p1_x : List Int) (A_p1_x_1 : Option Addr) (n_p1_x_1 c_p1_x_1 : Nat) (hn_p1_x_1 : n_p1_x_1 = p1_x.length) (r : List Int) (W : World) (hm : spec_l02Apply F p0_a p1_x = some r) (h_p0_a_1 : RdM W A_p0_a_1 p0_a) (h_p1_x_1 : Rd W A_p1_x_1 (ints p1_x)) :
    Calls Try.prog 103 [.slice A_p0_a_1 n_p0_a_1 c_p0_a_1, .slice A_p1_x_1 n_p1_x_1 c_p1_x_1].toArray W fun e w' => ∃ v, e = .returned v ∧ ∃ A344, ∃ n345, ∃ c346, v = .slice A344 n345 c346 ∧ n345 = r.length ∧ St [] W w' [.row A344 n345 c346 2 1 (ints r)] := by
  subst hn_p0_a_1
  subst hn_p1_x_1
  unfold spec_l02Apply at hm
  refine Calls.enter (N := 41) Try.func103 rfl rfl rfl (fun a hf => ?_)
  have hs := St.start W
  obtain ⟨w, hw_⟩ : ∃ w, w = W := ⟨W, rfl⟩
  clear hw_ w
  refine wpL_seq ?_
  refine wpL_region ?_
  refine sY hf hs rfl rfl rfl (Y_assign rfl rfl) ?_; clear hf; intro a hf
  refine wpO_nil ?_
  refine wpL_seq ?_
  refine wpL_region ?_
  refine sEmpty hf hs rfl rfl rfl rfl el36 ti2 ?_; clear hf hs; intro a w A1 hs hf
  have hs : St [] W w [.row A1 0 0 2 1 (ints ([] : List Int))] := hs
  refine sY hf hs rfl rfl rfl (Y_assign rfl rfl) ?_; clear hf; intro a hf
  refine wpO_nil ?_
  refine wpL_seq ?_
  refine wpL_seq ?_
  refine wpL_region ?_
  refine sY hf hs rfl rfl rfl (Y_assign rfl rfl) ?_; clear hf; intro a hf
  refine wpO_nil ?_
  obtain ⟨r260, hl261, hm⟩ := bind_some hm
  refine wpL_block (fun a w => ∃ xs255 : List Int, ∃ A256, ∃ n257, ∃ c258, xs255 = r260 ∧ n257 = xs255.length ∧ Fr a 41 [(5, .slice A256 n257 c258)] ∧ St [] W w [.row A256 n257 c258 2 1 (ints xs255)]) ?_ ?_
  · refine wpL_loop (fun n a w => ∃ xs169 : List Int, ∃ x174 : Int, ∃ A170, ∃ n171, ∃ c172, spec_l02Apply_L4 F p0_a p1_x n xs169 x174 = some r260 ∧ n171 = xs169.length ∧ Fr a 41 [(0, .slice A_p0_a_1 p0_a.length c_p0_a_1), (1, .slice A_p1_x_1 p1_x.length c_p1_x_1), (5, .slice A170 n171 c172), (6, .int .i64 x174)] ∧ St [] W w [.row A170 n171 c172 2 1 (ints xs169)]) F ?_ ?_ ?_
    · exact ⟨([] : List Int), 0, A1, 0, 0, hl261, rfl, (Fr.pick (Fr.pick (Fr.pick (Fr.pick hf.none hf rfl) hf rfl) hf rfl) hf rfl), hs⟩
    · rintro a w ⟨xs169, x174, A170, n171, c172, h0_, -, -, -⟩; simp [spec_l02Apply_L4] at h0_
    · rintro n263 a w ⟨xs169, x174, A170, n171, c172, hm262, hn173, hf, hs⟩
      rw [spec_l02Apply_L4] at hm262
      refine wpL_seq ?_
      refine wpL_seq ?_
      refine wpL_region ?_
      refine sY hf hs rfl rfl rfl (Y_move rfl rfl) ?_; clear hf; intro a hf
      refine sY hf hs rfl rfl rfl (Y_move rfl rfl) ?_; clear hf; intro a hf
      refine sY hf hs rfl rfl rfl (Y_lenH rfl rfl el34 rfl) ?_; clear hf; intro a hf
      refine sY hf hs rfl rfl rfl (Y_lss rfl rfl rfl) ?_; clear hf; intro a hf
      refine wpO_nil ?_
      refine wpL_cond hf rfl (fun hb264 => ?_) (fun hb264 => ?_)
      · have hm262 := bif_t hm262 hb264
        refine wpL_skip ?_
        refine wpL_seq ?_
        refine wpL_block0 ?_
        refine wpL_seq ?_
        refine wpL_region ?_
        refine sY hf hs rfl rfl rfl (Y_assign rfl rfl) ?_; clear hf; intro a hf
        refine wpO_nil ?_
        refine wpL_seq ?_
        refine wpL_seq ?_
        refine wpL_region ?_
        refine sY hf hs rfl rfl rfl (Y_assign rfl rfl) ?_; clear hf; intro a hf
        refine wpO_nil ?_
        obtain ⟨r318, hl319, hm262⟩ := bind_some hm262
        refine wpL_block (fun a w => ∃ x317 : Int, x317 = r318 ∧ Fr a 41 [(0, .slice A_p0_a_1 p0_a.length c_p0_a_1), (1, .slice A_p1_x_1 p1_x.length c_p1_x_1), (5, .slice A170 n171 c172), (6, .int .i64 x174), (7, .int .i64 x317)] ∧ St [] W w [.row A170 n171 c172 2 1 (ints xs169)]) ?_ ?_
        · refine wpL_loop (fun n a w => ∃ x299 : Int, ∃ x300 : Int, spec_l02Apply_L5 F p0_a p1_x x174 n x299 x300 = some r318 ∧ Fr a 41 [(0, .slice A_p0_a_1 p0_a.length c_p0_a_1), (1, .slice A_p1_x_1 p1_x.length c_p1_x_1), (5, .slice A170 n171 c172), (6, .int .i64 x174), (7, .int .i64 x299), (8, .int .i64 x300)] ∧ St [] W w [.row A170 n171 c172 2 1 (ints xs169)]) F ?_ ?_ ?_
          · exact ⟨(-1000000000000000), 0, hl319, (Fr.pick (Fr.pick (Fr.pick (Fr.pick (Fr.pick (Fr.pick hf.none hf rfl) hf rfl) hf rfl) hf rfl) hf rfl) hf rfl), hs⟩
          · rintro a w ⟨x299, x300, h0_, -, -⟩; simp [spec_l02Apply_L5] at h0_
          · rintro n321 a w ⟨x299, x300, hm320, hf, hs⟩
            rw [spec_l02Apply_L5] at hm320
            refine wpL_seq ?_
            refine wpL_seq ?_
            refine wpL_region ?_
            refine sY hf hs rfl rfl rfl (Y_move rfl rfl) ?_; clear hf; intro a hf
            refine sY hf hs rfl rfl rfl (Y_move rfl rfl) ?_; clear hf; intro a hf
            refine sY hf hs rfl rfl rfl (Y_lenH rfl rfl el36 rfl) ?_; clear hf; intro a hf
            refine sY hf hs rfl rfl rfl (Y_lss rfl rfl rfl) ?_; clear hf; intro a hf
            refine wpO_nil ?_
            refine wpL_cond hf rfl (fun hb322 => ?_) (fun hb322 => ?_)
            · have hm320 := bif_t hm320 hb322
              refine wpL_skip ?_
              refine wpL_seq ?_
              refine wpL_block0 ?_
              refine wpL_draw (by kernel_rfl) (by kernel_rfl) hs ?_
              refine qY hf rfl rfl rfl (Y_move rfl rfl) ?_; clear hf; intro a hf
              refine qY hf rfl rfl rfl (Y_move rfl rfl) ?_; clear hf; intro a hf
              refine qY hf rfl rfl rfl (Y_move rfl rfl) ?_; clear hf; intro a hf
              obtain ⟨q323, hi324, hm320⟩ := bind_some hm320
              obtain ⟨hi324a, hi324b, hi324q⟩ := idx_some hi324
              obtain ⟨vs325, hv326, hr327⟩ := id h_p0_a_1
              obtain ⟨A328, c329, hv330, hR331⟩ := hr327 _ _ hi324q
              refine qY hf rfl rfl rfl (Y_index rfl rfl rfl el34 ti36 (Rd.isAt hv326 hv330) hi324a hi324b) ?_; clear hf; intro a hf
              refine qY hf rfl rfl rfl (Y_load_rd rfl rfl (fun w hs => hv326.at hs) (at1 hv330) ag36) ?_; clear hf; intro a hf
              refine qY hf rfl rfl rfl (Y_move rfl rfl) ?_; clear hf; intro a hf
              obtain ⟨q332, hi333, hm320⟩ := bind_some hm320
              obtain ⟨hi333a, hi333b, hi333q⟩ := idx_some hi333
              refine qY hf rfl rfl rfl (Y_index rfl rfl rfl el36 ti2 (Rd.isAt (hR331.at hs) (at1 (ints_at hi333q))) hi333a hi333b) ?_; clear hf; intro a hf
              refine qY hf rfl rfl rfl (Y_load_rd rfl rfl (fun w hs => hR331.at hs) (at1 (ints_at hi333q)) ag2) ?_; clear hf; intro a hf
              refine qY hf rfl rfl rfl (Y_move rfl rfl) ?_; clear hf; intro a hf
              refine qY hf rfl rfl rfl (Y_move rfl rfl) ?_; clear hf; intro a hf
              obtain ⟨q334, hi335, hm320⟩ := bind_some hm320
              obtain ⟨hi335a, hi335b, hi335q⟩ := idx_some hi335
              refine qY hf rfl rfl rfl (Y_index rfl rfl rfl el36 ti2 (Rd.isAt (h_p1_x_1.at hs) (at1 (ints_at hi335q))) hi335a hi335b) ?_; clear hf; intro a hf
              refine qY hf rfl rfl rfl (Y_load_rd rfl rfl (fun w hs => h_p1_x_1.at hs) (at1 (ints_at hi335q)) ag2) ?_; clear hf; intro a hf
              obtain ⟨r336, hc337, hm320⟩ := bind_some hm320
              refine qCall hf rfl rfl rfl rfl (cap := []) rfl rfl en115 (v := .int .i64 r336) (fun w hs => Calls.scal (spec_l01Times_ok F q332 q334 _ _ hc337)) ?_; clear hf; intro a hf
              refine qY hf rfl rfl rfl (Y_max rfl rfl rfl) ?_; clear hf; intro a hf
              refine qY hf rfl rfl rfl (Y_assign rfl rfl) ?_; clear hf; intro a hf
              refine qNil ?_; clear hs; intro w hs
              refine wpL_nil (Qb_normal ?_)
              refine wpL_region ?_
              refine sY hf hs rfl rfl rfl (Y_move rfl rfl) ?_; clear hf; intro a hf
              refine sY hf hs rfl rfl rfl (Y_add rfl rfl rfl) ?_; clear hf; intro a hf
              refine sY hf hs rfl rfl rfl (Y_assign rfl rfl) ?_; clear hf; intro a hf
              refine wpO_nil ?_
              refine wpL_nil (Ql_normal ?_)
              exact ⟨(max x299 r336), (IntKind.i64.wrap (x300 + 1)), hm320, (Fr.pick (Fr.pick (Fr.pick (Fr.pick (Fr.pick (Fr.pick hf.none hf rfl) hf rfl) hf rfl) hf rfl) hf rfl) hf rfl), hs⟩
            · have hm320 := bif_f hm320 hb322
              refine wpL_exit (Ql_exit (Qb_exit ?_))
              exact ⟨x299, Option.some.inj hm320, (Fr.pick (Fr.pick (Fr.pick (Fr.pick (Fr.pick hf.none hf rfl) hf rfl) hf rfl) hf rfl) hf rfl), hs⟩
        · rintro a w ⟨x317, hr_, hf, hs⟩
          subst hr_
          try dsimp only at hm262
          refine wpL_region ?_
          refine sY hf hs rfl rfl rfl (Y_move rfl rfl) ?_; clear hf; intro a hf
          refine sY hf hs rfl rfl rfl (Y_move rfl rfl) ?_; clear hf; intro a hf
          refine sBuildSlice (parts := [(0, .tmp 37)]) (vs := [.int .i64 x317]) (cells := [.int .i64 x317]) hf hs rfl rfl rfl rfl rfl el36 ti2 rfl rfl rfl rfl ?_; clear hf hs; intro a w A338 hs hA339 hf
          have hs : St [] W w [.row A170 n171 c172 2 1 (ints xs169), .row A338 1 1 2 1 (ints ([x317]))] := hs
          obtain ⟨xs342, ha343, hm262⟩ := bind_some hm262
          refine sAppendL (i := 0) (xs := xs169) (ys := [x317]) (enc := ints) hf hs rfl rfl rfl rfl rfl rfl hn173 rfl rfl ha343 el36 ti2 rfl rfl rfl (hs.rd (i := 1) rfl) (Nat.succ_pos _) ints_len1 ints_append ints_one ?_; clear hf hs; intro a w A340 c341 hs hf
          have hs : St [] W w [.row A340 xs342.length c341 2 1 (ints xs342), .row A338 1 1 2 1 (ints ([x317]))] := hs
          refine sY hf hs rfl rfl rfl (Y_assign rfl rfl) ?_; clear hf; intro a hf
          refine wpO_nil ?_
          refine wpL_nil (Qb_normal ?_)
          refine wpL_region ?_
          refine sY hf hs rfl rfl rfl (Y_move rfl rfl) ?_; clear hf; intro a hf
          refine sY hf hs rfl rfl rfl (Y_add rfl rfl rfl) ?_; clear hf; intro a hf
          refine sY hf hs rfl rfl rfl (Y_assign rfl rfl) ?_; clear hf; intro a hf
          refine wpO_nil ?_
          refine wpL_nil (Ql_normal ?_)
          exact ⟨xs342, (IntKind.i64.wrap (x174 + 1)), A340, xs342.length, c341, hm262, rfl, (Fr.pick (Fr.pick (Fr.pick (Fr.pick hf.none hf rfl) hf rfl) hf rfl) hf rfl), hs.sel [0] (by decide)⟩
      · have hm262 := bif_f hm262 hb264
        refine wpL_exit (Ql_exit (Qb_exit ?_))
        exact ⟨xs169, A170, n171, c172, Option.some.inj hm262, hn173, (Fr.pick hf.none hf rfl), hs⟩
  · rintro a w ⟨xs255, A256, n257, c258, hr_, hn259, hf, hs⟩
    subst hr_
    try dsimp only at hm
    refine wpL_seq ?_
    refine wpL_region ?_
    refine sY hf hs rfl rfl rfl (Y_move rfl rfl) ?_; clear hf; intro a hf
    refine sY hf hs rfl rfl rfl (Y_assign rfl rfl) ?_; clear hf; intro a hf
    refine wpO_nil ?_
    obtain rfl := Option.some.inj hm
    refine wpL_ret (ret_tmp rfl hf rfl ?_)
    exact ⟨_, rfl, A256, n257, c258, rfl, hn259, hs⟩

set_option maxRecDepth 100000 in
theorem spec_EarliestTimetable_ok (F : Nat) (p0_g : GEventGraph) (A_p0_g_1 : Option Addr) (n_p0_g_1 c_p0_g_1 : Nat) (hn_p0_g_1 : n_p0_g_1 = p0_g.Places.length) (p1_period : Int) (r : GTimetable × Int) (W : World) (hm : spec_EarliestTimetable F p0_g p1_period = some r) (h_p0_g_1 : Rd W A_p0_g_1 ((recs GPlace.cells) p0_g.Places)) :
    Calls Try.prog 45 [.agg #[.int .i64 p0_g.Events, .slice A_p0_g_1 n_p0_g_1 c_p0_g_1], .int .i64 p1_period].toArray W fun e w' => ∃ v, e = .returned v ∧ ∃ A32, ∃ n33, ∃ c34, v = .tuple #[.agg #[.int .i64 r.1.Period, .slice A32 n33 c34], .int .i64 r.2] ∧ n33 = r.1.Starts.length ∧ St [] W w' [.row A32 n33 c34 2 1 (ints r.1.Starts)] := by
  subst hn_p0_g_1
  unfold spec_EarliestTimetable at hm
  refine Calls.enter (N := 34) Try.func45 rfl rfl rfl (fun a hf => ?_)
  have hs := St.start W
  obtain ⟨w, hw_⟩ : ∃ w, w = W := ⟨W, rfl⟩
  clear hw_ w
  refine wpL_seq ?_
  refine wpL_region ?_
  refine sBox hf hs rfl rfl rfl rfl rfl (cs := [.int .i64 p0_g.Events, .slice A_p0_g_1 p0_g.Places.length c_p0_g_1]) rfl ?_; clear hf hs; intro a w b1 hs hf
  have hs : St [] W w [.blk b1 30 [.int .i64 p0_g.Events, .slice A_p0_g_1 p0_g.Places.length c_p0_g_1]] := hs
  refine sAlloc hf hs rfl rfl rfl rfl ti63 ?_; clear hf hs; intro a w b2 hs hf
  have hs : St [] W w [.blk b1 30 [.int .i64 p0_g.Events, .slice A_p0_g_1 p0_g.Places.length c_p0_g_1], .blk b2 63 [.int .i64 0, .slice none 0 0]] := hs
  refine sY hf hs rfl rfl rfl (Y_assign rfl rfl) ?_; clear hf; intro a hf
  refine wpO_nil ?_
  refine wpL_seq ?_
  refine wpL_region ?_
  refine sY hf hs rfl rfl rfl (Y_load_blkS rfl rfl (i := 0) rfl ag30 ti30 rfl) ?_; clear hf; intro a hf
  refine sY hf hs rfl rfl rfl (Y_move rfl rfl) ?_; clear hf; intro a hf
  obtain ⟨r3, hc4, hm⟩ := bind_some hm
  refine sCall hf rfl rfl rfl rfl (cap := []) rfl rfl en90 (spec_l20Period_ok F p0_g A_p0_g_1 p0_g.Places.length c_p0_g_1 rfl p1_period _ _ hc4 (h_p0_g_1.at hs)) ?_; clear hf
  rintro _ w ⟨rfl, hs1⟩ a hf
  have hs : St [] W w [.blk b1 30 [.int .i64 p0_g.Events, .slice A_p0_g_1 p0_g.Places.length c_p0_g_1], .blk b2 63 [.int .i64 0, .slice none 0 0]] := hs.ext hs1.below
  clear hs1
  refine sY hf hs rfl rfl rfl (Y_assign rfl rfl) ?_; clear hf; intro a hf
  refine wpO_nil ?_
  refine wpL_seq ?_
  refine wpL_seq ?_
  refine wpL_region ?_
  refine sY hf hs rfl rfl rfl (Y_move rfl rfl) ?_; clear hf; intro a hf
  refine sY hf hs rfl rfl rfl (Y_neq rfl rfl rfl) ?_; clear hf; intro a hf
  refine wpO_nil ?_
  refine wpL_cond hf rfl (fun hb5 => ?_) (fun hb5 => ?_)
  · have hm := bif_t hm hb5
    refine wpL_seq ?_
    refine wpL_region ?_
    refine sY hf hs rfl rfl rfl (Y_build (parts := []) (vs := []) rfl rfl (run_build (parts := []) (cells := [.int .i64 0, .slice none 0 0]) (places := #[(0, 1), (1, 1)]) ti63 Try.underlying63 (fun w => by simp [go_sem]) rfl)) ?_; clear hf; intro a hf
    refine sY hf hs rfl rfl rfl (Y_move rfl rfl) ?_; clear hf; intro a hf
    refine sStore (i := 1) (us := [.int .i64 0, .slice none 0 0]) hf hs rfl rfl rfl rfl rfl rfl ti63 rfl rfl rfl (Nat.le_of_ble_eq_true rfl) rfl ?_; clear hs; intro w hs
    have hs : St [] W w [.blk b1 30 [.int .i64 p0_g.Events, .slice A_p0_g_1 p0_g.Places.length c_p0_g_1], .blk b2 63 [.int .i64 0, .slice none 0 0]] := hs
    refine sY hf hs rfl rfl rfl (Y_assign rfl rfl) ?_; clear hf; intro a hf
    refine wpO_nil ?_
    have hs : St [] W _ [.blk b1 30 [.int .i64 p0_g.Events, .slice A_p0_g_1 p0_g.Places.length c_p0_g_1], .blk b2 63 [.int .i64 0, .slice none 0 0], .row none 0 0 2 1 (ints ([] : List Int))] := hs.addNil 2 1
    obtain rfl := Option.some.inj hm
    refine wpL_ret (ret_cell_tmp rfl hf rfl rfl hs (i := 1) rfl ag63 ti63 rfl ?_)
    exact ⟨_, rfl, none, 0, 0, rfl, rfl, hs.sel [2] (by decide)⟩
  · have hm := bif_f hm hb5
    refine wpL_skip ?_
    refine wpL_seq ?_
    refine wpL_region ?_
    refine sY hf hs rfl rfl rfl (Y_load_blkS rfl rfl (i := 0) rfl ag30 ti30 rfl) ?_; clear hf; intro a hf
    refine sY hf hs rfl rfl rfl (Y_move rfl rfl) ?_; clear hf; intro a hf
    refine sY hf hs rfl rfl rfl (Y_build (parts := [(0, .tmp 18), (1, .const (.int .i64 1))]) (vs := [.int .i64 p1_period, .int .i64 1]) rfl rfl (run_build (parts := [(0, .int .i64 p1_period), (1, .int .i64 1)]) (cells := [.int .i64 p1_period, .int .i64 1]) (places := #[(0, 1), (1, 1)]) ti84 Try.underlying84 (fun w => by simp [go_sem]) rfl)) ?_; clear hf; intro a hf
    obtain ⟨r7, hc8, hm⟩ := bind_some hm
    refine sCall hf rfl rfl rfl rfl (cap := []) rfl rfl en102 (spec_l15Weights_ok F p0_g A_p0_g_1 p0_g.Places.length c_p0_g_1 rfl (GRatio.mk p1_period 1) _ _ hc8 (h_p0_g_1.at hs)) ?_; clear hf
    rintro _ w ⟨A9, n10, c11, vs13, rfl, hn12, hs1⟩ a hf
    have hs : St [] W w [.blk b1 30 [.int .i64 p0_g.Events, .slice A_p0_g_1 p0_g.Places.length c_p0_g_1], .blk b2 63 [.int .i64 0, .slice none 0 0], .mat A9 n10 c11 36 2 vs13 r7] := hs.join hs1
    clear hs1
    obtain ⟨r14, hc15, hm⟩ := bind_some hm
    refine sCall hf rfl rfl rfl rfl (cap := []) rfl rfl en101 (spec_l03Star_ok F r7 A9 n10 c11 hn12 _ _ hc15 (hs.rdM (i := 2) rfl)) ?_; clear hf
    rintro _ w ⟨A16, n17, c18, vs20, rfl, hn19, hs1⟩ a hf
    have hs : St [] W w [.blk b1 30 [.int .i64 p0_g.Events, .slice A_p0_g_1 p0_g.Places.length c_p0_g_1], .blk b2 63 [.int .i64 0, .slice none 0 0], .mat A9 n10 c11 36 2 vs13 r7, .mat A16 n17 c18 36 2 vs20 r14.1] := hs.join hs1
    clear hs1
    refine sY hf hs rfl rfl rfl (Y_move rfl rfl) ?_; clear hf; intro a hf
    refine sY hf hs rfl rfl rfl (Y_extract rfl rfl rfl) ?_; clear hf; intro a hf
    refine sY hf hs rfl rfl rfl (Y_extract rfl rfl rfl) ?_; clear hf; intro a hf
    refine sY hf hs rfl rfl rfl (Y_assign rfl rfl) ?_; clear hf; intro a hf
    refine sY hf hs rfl rfl rfl (Y_assign rfl rfl) ?_; clear hf; intro a hf
    refine wpO_nil ?_
    refine wpL_seq ?_
    refine wpL_seq ?_
    refine wpL_region ?_
    refine sY hf hs rfl rfl rfl (Y_move rfl rfl) ?_; clear hf; intro a hf
    refine sY hf hs rfl rfl rfl (Y_not rfl rfl) ?_; clear hf; intro a hf
    refine wpO_nil ?_
    refine wpL_cond hf rfl (fun hb21 => ?_) (fun hb21 => ?_)
    · have hm := bif_t hm hb21
      refine wpL_seq ?_
      refine wpL_region ?_
      refine sY hf hs rfl rfl rfl (Y_build (parts := []) (vs := []) rfl rfl (run_build (parts := []) (cells := [.int .i64 0, .slice none 0 0]) (places := #[(0, 1), (1, 1)]) ti63 Try.underlying63 (fun w => by simp [go_sem]) rfl)) ?_; clear hf; intro a hf
      refine sStore (i := 1) (us := [.int .i64 0, .slice none 0 0]) hf hs rfl rfl rfl rfl rfl rfl ti63 rfl rfl rfl (Nat.le_of_ble_eq_true rfl) rfl ?_; clear hs; intro w hs
      have hs : St [] W w [.blk b1 30 [.int .i64 p0_g.Events, .slice A_p0_g_1 p0_g.Places.length c_p0_g_1], .blk b2 63 [.int .i64 0, .slice none 0 0], .mat A9 n10 c11 36 2 vs13 r7, .mat A16 n17 c18 36 2 vs20 r14.1] := hs
      refine sY hf hs rfl rfl rfl (Y_assign rfl rfl) ?_; clear hf; intro a hf
      refine wpO_nil ?_
      have hs : St [] W _ [.blk b1 30 [.int .i64 p0_g.Events, .slice A_p0_g_1 p0_g.Places.length c_p0_g_1], .blk b2 63 [.int .i64 0, .slice none 0 0], .mat A9 n10 c11 36 2 vs13 r7, .mat A16 n17 c18 36 2 vs20 r14.1, .row none 0 0 2 1 (ints ([] : List Int))] := hs.addNil 2 1
      obtain rfl := Option.some.inj hm
      refine wpL_ret (ret_cell_tmp rfl hf rfl rfl hs (i := 1) rfl ag63 ti63 rfl ?_)
      exact ⟨_, rfl, none, 0, 0, rfl, rfl, hs.sel [4] (by decide)⟩
    · have hm := bif_f hm hb21
      refine wpL_skip ?_
      refine wpL_seq ?_
      refine wpL_region ?_
      refine sY hf hs rfl rfl rfl (Y_move rfl rfl) ?_; clear hf; intro a hf
      refine sY hf hs rfl rfl rfl (Y_move rfl rfl) ?_; clear hf; intro a hf
      refine sY hf hs rfl rfl rfl (Y_fieldAddr rfl rfl fo30_0) ?_; clear hf; intro a hf
      refine sY hf hs rfl rfl rfl (Y_load_blk rfl rfl (i := 0) rfl rfl ag2) ?_; clear hf; intro a hf
      obtain ⟨xs25, hk24, hm⟩ := bind_some hm
      refine sMakeL (enc := ints) hf hs rfl rfl rfl rfl rfl hk24 el36 ti2 rfl ints_made ?_; clear hf hs; intro a w A23 hs hf
      have hs : St [] W w [.blk b1 30 [.int .i64 p0_g.Events, .slice A_p0_g_1 p0_g.Places.length c_p0_g_1], .blk b2 63 [.int .i64 0, .slice none 0 0], .mat A9 n10 c11 36 2 vs13 r7, .mat A16 n17 c18 36 2 vs20 r14.1, .row A23 xs25.length xs25.length 2 1 (ints xs25)] := hs
      obtain ⟨r26, hc27, hm⟩ := bind_some hm
      refine sCall hf rfl rfl rfl rfl (cap := []) rfl rfl en103 (spec_l02Apply_ok F r14.1 A16 n17 c18 hn19 xs25 A23 xs25.length xs25.length rfl _ _ hc27 (hs.rdM (i := 3) rfl) (hs.rd (i := 4) rfl)) ?_; clear hf
      rintro _ w ⟨A28, n29, c30, rfl, hn31, hs1⟩ a hf
      have hs : St [] W w [.blk b1 30 [.int .i64 p0_g.Events, .slice A_p0_g_1 p0_g.Places.length c_p0_g_1], .blk b2 63 [.int .i64 0, .slice none 0 0], .mat A9 n10 c11 36 2 vs13 r7, .mat A16 n17 c18 36 2 vs20 r14.1, .row A23 xs25.length xs25.length 2 1 (ints xs25), .row A28 n29 c30 2 1 (ints r26)] := hs.join hs1
      clear hs1
      refine sY hf hs rfl rfl rfl (Y_build (parts := [(0, .tmp 27), (1, .tmp 32)]) (vs := [.int .i64 p1_period, .slice A28 n29 c30]) rfl rfl (run_build (parts := [(0, .int .i64 p1_period), (1, .slice A28 n29 c30)]) (cells := [.int .i64 p1_period, .slice A28 n29 c30]) (places := #[(0, 1), (1, 1)]) ti63 Try.underlying63 (fun w => by simp [go_sem]) rfl)) ?_; clear hf; intro a hf
      refine sStore (i := 1) (us := [.int .i64 p1_period, .slice A28 n29 c30]) hf hs rfl rfl rfl rfl rfl rfl ti63 rfl rfl rfl (Nat.le_of_ble_eq_true rfl) rfl ?_; clear hs; intro w hs
      have hs : St [] W w [.blk b1 30 [.int .i64 p0_g.Events, .slice A_p0_g_1 p0_g.Places.length c_p0_g_1], .blk b2 63 [.int .i64 p1_period, .slice A28 n29 c30], .mat A9 n10 c11 36 2 vs13 r7, .mat A16 n17 c18 36 2 vs20 r14.1, .row A23 xs25.length xs25.length 2 1 (ints xs25), .row A28 n29 c30 2 1 (ints r26)] := hs
      refine sY hf hs rfl rfl rfl (Y_assign rfl rfl) ?_; clear hf; intro a hf
      refine wpO_nil ?_
      obtain rfl := Option.some.inj hm
      refine wpL_ret (ret_cell_tmp rfl hf rfl rfl hs (i := 1) rfl ag63 ti63 rfl ?_)
      exact ⟨_, rfl, A28, n29, c30, rfl, hn31, hs.sel [5] (by decide)⟩

set_option maxRecDepth 100000 in
theorem impl_within_ok (F : Nat) (p0_n : Int) (p1_low : Int) (p2_high : Int) (r : Bool) (W : World) (hm : impl_within F p0_n p1_low p2_high = some r) :
    Calls Try.prog 123 [.int .i64 p0_n, .int .i64 p1_low, .int .i64 p2_high].toArray W fun e w' => ∃ v, e = .returned v ∧ v = .bool r ∧ St [] W w' [] := by
  unfold impl_within at hm
  refine Calls.enter (N := 15) Try.func123 rfl rfl rfl (fun a hf => ?_)
  have hs := St.start W
  obtain ⟨w, hw_⟩ : ∃ w, w = W := ⟨W, rfl⟩
  clear hw_ w
  refine wpL_seq ?_
  refine wpL_region ?_
  refine sY hf hs rfl rfl rfl (Y_assign rfl rfl) ?_; clear hf; intro a hf
  refine wpO_nil ?_
  refine wpL_seq ?_
  obtain ⟨r3, hj4, hm⟩ := bind_some hm
  refine wpL_cut (fun a w => ∃ b2 : Bool, b2 = r3 ∧ Fr a 15 [(6, .bool b2)] ∧ St [] W w []) ?_ ?_
  · refine wpL_region ?_
    refine sY hf hs rfl rfl rfl (Y_move rfl rfl) ?_; clear hf; intro a hf
    refine sY hf hs rfl rfl rfl (Y_move rfl rfl) ?_; clear hf; intro a hf
    refine sY hf hs rfl rfl rfl (Y_geq rfl rfl rfl) ?_; clear hf; intro a hf
    refine sY hf hs rfl rfl rfl (Y_move rfl rfl) ?_; clear hf; intro a hf
    refine bsplit (decide (p1_low ≤ p0_n)) (fun hb5 => ?_) (fun hb5 => ?_)
    · have hj4 := bif_t hj4 hb5
      refine sYg hf hs rfl rfl rfl (congrArg (fun b => some (Value.bool b)) hb5) rfl rfl rfl (Y_move rfl rfl) ?_; clear hf; intro a hf
      refine sYg hf hs rfl rfl rfl (congrArg (fun b => some (Value.bool b)) hb5) rfl rfl rfl (Y_move rfl rfl) ?_; clear hf; intro a hf
      refine sYg hf hs rfl rfl rfl (congrArg (fun b => some (Value.bool b)) hb5) rfl rfl rfl (Y_leq rfl rfl rfl) ?_; clear hf; intro a hf
      refine sY hf hs rfl rfl rfl (Y_pickT rfl (congrArg (fun b => some (Value.bool b)) hb5) rfl) ?_; clear hf; intro a hf
      refine sY hf hs rfl rfl rfl (Y_assign rfl rfl) ?_; clear hf; intro a hf
      refine wpO_nil ?_
      refine wpL_nil (then_normal ?_)
      exact ⟨(decide (p0_n ≤ p2_high)), Option.some.inj hj4, (Fr.pick hf.none hf rfl), hs⟩
    · have hj4 := bif_f hj4 hb5
      refine sNo hf rfl rfl rfl (congrArg (fun b => some (Value.bool b)) hb5) rfl rfl rfl ?_; clear hf; intro a hf
      refine sNo hf rfl rfl rfl (congrArg (fun b => some (Value.bool b)) hb5) rfl rfl rfl ?_; clear hf; intro a hf
      refine sNo hf rfl rfl rfl (congrArg (fun b => some (Value.bool b)) hb5) rfl rfl rfl ?_; clear hf; intro a hf
      refine sY hf hs rfl rfl rfl (Y_pickF rfl (congrArg (fun b => some (Value.bool b)) hb5) rfl) ?_; clear hf; intro a hf
      refine sY hf hs rfl rfl rfl (Y_assign rfl rfl) ?_; clear hf; intro a hf
      refine wpO_nil ?_
      refine wpL_nil (then_normal ?_)
      exact ⟨false, Option.some.inj hj4, (Fr.pick hf.none hf rfl), hs⟩
  · rintro a w ⟨b2, hr_, hf, hs⟩
    subst hr_
    try dsimp only at hm
    obtain rfl := Option.some.inj hm
    refine wpL_ret (ret_tmp rfl hf rfl ?_)
    exact ⟨_, rfl, rfl, hs⟩

set_option maxRecDepth 100000 in
theorem impl_isEvent_ok (F : Nat) (p0_g : GEventGraph) (A_p0_g_1 : Option Addr) (n_p0_g_1 c_p0_g_1 : Nat) (hn_p0_g_1 : n_p0_g_1 = p0_g.Places.length) (p1_event : Int) (r : Bool) (W : World) (hm : impl_isEvent F p0_g p1_event = some r) (_h_p0_g_1 : Rd W A_p0_g_1 ((recs GPlace.cells) p0_g.Places)) :
    Calls Try.prog 162 [.agg #[.int .i64 p0_g.Events, .slice A_p0_g_1 n_p0_g_1 c_p0_g_1], .int .i64 p1_event].toArray W fun e w' => ∃ v, e = .returned v ∧ v = .bool r ∧ St [] W w' [] := by
  subst hn_p0_g_1
  unfold impl_isEvent at hm
  refine Calls.enter (N := 10) Try.func162 rfl rfl rfl (fun a hf => ?_)
  have hs := St.start W
  obtain ⟨w, hw_⟩ : ∃ w, w = W := ⟨W, rfl⟩
  clear hw_ w
  refine wpL_seq ?_
  refine wpL_region ?_
  refine sBox hf hs rfl rfl rfl rfl rfl (cs := [.int .i64 p0_g.Events, .slice A_p0_g_1 p0_g.Places.length c_p0_g_1]) rfl ?_; clear hf hs; intro a w b1 hs hf
  have hs : St [] W w [.blk b1 30 [.int .i64 p0_g.Events, .slice A_p0_g_1 p0_g.Places.length c_p0_g_1]] := hs
  refine sY hf hs rfl rfl rfl (Y_assign rfl rfl) ?_; clear hf; intro a hf
  refine wpO_nil ?_
  refine wpL_seq ?_
  refine wpL_region ?_
  refine sY hf hs rfl rfl rfl (Y_move rfl rfl) ?_; clear hf; intro a hf
  refine sY hf hs rfl rfl rfl (Y_fieldAddr rfl rfl fo30_0) ?_; clear hf; intro a hf
  refine sY hf hs rfl rfl rfl (Y_load_blk rfl rfl (i := 0) rfl rfl ag2) ?_; clear hf; intro a hf
  refine sY hf hs rfl rfl rfl (Y_sub rfl rfl rfl) ?_; clear hf; intro a hf
  obtain ⟨r2, hc3, hm⟩ := bind_some hm
  refine sCall hf rfl rfl rfl rfl (cap := []) rfl rfl en123 (impl_within_ok F p1_event 0 (IntKind.i64.wrap (p0_g.Events - 1)) _ _ hc3) ?_; clear hf
  rintro _ w ⟨rfl, hs1⟩ a hf
  have hs : St [] W w [.blk b1 30 [.int .i64 p0_g.Events, .slice A_p0_g_1 p0_g.Places.length c_p0_g_1]] := hs.ext hs1.below
  clear hs1
  refine sY hf hs rfl rfl rfl (Y_assign rfl rfl) ?_; clear hf; intro a hf
  refine wpO_nil ?_
  obtain rfl := Option.some.inj hm
  refine wpL_ret (ret_tmp rfl hf rfl ?_)
  exact ⟨_, rfl, rfl, hs.sel [] (by decide)⟩

set_option maxRecDepth 100000 in
theorem impl_isPlace_ok (F : Nat) (p0_g : GEventGraph) (A_p0_g_1 : Option Addr) (n_p0_g_1 c_p0_g_1 : Nat) (hn_p0_g_1 : n_p0_g_1 = p0_g.Places.length) (p1_p : GPlace) (r : Bool) (W : World) (hm : impl_isPlace F p0_g p1_p = some r) (h_p0_g_1 : Rd W A_p0_g_1 ((recs GPlace.cells) p0_g.Places)) :
    Calls Try.prog 126 [.agg #[.int .i64 p0_g.Events, .slice A_p0_g_1 n_p0_g_1 c_p0_g_1], .agg #[.int .i64 p1_p.From, .int .i64 p1_p.To, .int .i64 p1_p.Delay, .int .i64 p1_p.Tokens]].toArray W fun e w' => ∃ v, e = .returned v ∧ v = .bool r ∧ St [] W w' [] := by
  subst hn_p0_g_1
  unfold impl_isPlace at hm
  refine Calls.enter (N := 25) Try.func126 rfl rfl rfl (fun a hf => ?_)
  have hs := St.start W
  obtain ⟨w, hw_⟩ : ∃ w, w = W := ⟨W, rfl⟩
  clear hw_ w
  refine wpL_seq ?_
  refine wpL_region ?_
  refine sBox hf hs rfl rfl rfl rfl rfl (cs := [.int .i64 p0_g.Events, .slice A_p0_g_1 p0_g.Places.length c_p0_g_1]) rfl ?_; clear hf hs; intro a w b1 hs hf
  have hs : St [] W w [.blk b1 30 [.int .i64 p0_g.Events, .slice A_p0_g_1 p0_g.Places.length c_p0_g_1]] := hs
  refine sBox hf hs rfl rfl rfl rfl rfl (cs := [.int .i64 p1_p.From, .int .i64 p1_p.To, .int .i64 p1_p.Delay, .int .i64 p1_p.Tokens]) rfl ?_; clear hf hs; intro a w b2 hs hf
  have hs : St [] W w [.blk b1 30 [.int .i64 p0_g.Events, .slice A_p0_g_1 p0_g.Places.length c_p0_g_1], .blk b2 120 [.int .i64 p1_p.From, .int .i64 p1_p.To, .int .i64 p1_p.Delay, .int .i64 p1_p.Tokens]] := hs
  refine sY hf hs rfl rfl rfl (Y_assign rfl rfl) ?_; clear hf; intro a hf
  refine wpO_nil ?_
  refine wpL_seq ?_
  obtain ⟨r15, hj16, hm⟩ := bind_some hm
  refine wpL_cut (fun a w => ∃ b14 : Bool, b14 = r15 ∧ Fr a 25 [(4, .bool b14)] ∧ St [] W w []) ?_ ?_
  · refine wpL_region ?_
    refine sY hf hs rfl rfl rfl (Y_load_blkS rfl rfl (i := 0) rfl ag30 ti30 rfl) ?_; clear hf; intro a hf
    refine sY hf hs rfl rfl rfl (Y_fieldAddr rfl rfl fo120_0) ?_; clear hf; intro a hf
    refine sY hf hs rfl rfl rfl (Y_load_blk rfl rfl (i := 1) rfl rfl ag2) ?_; clear hf; intro a hf
    obtain ⟨r17, hc18, hj16⟩ := bind_some hj16
    refine sCall hf rfl rfl rfl rfl (cap := []) rfl rfl en162 (impl_isEvent_ok F p0_g A_p0_g_1 p0_g.Places.length c_p0_g_1 rfl p1_p.From _ _ hc18 (h_p0_g_1.at hs)) ?_; clear hf
    rintro _ w ⟨rfl, hs1⟩ a hf
    have hs : St [] W w [.blk b1 30 [.int .i64 p0_g.Events, .slice A_p0_g_1 p0_g.Places.length c_p0_g_1], .blk b2 120 [.int .i64 p1_p.From, .int .i64 p1_p.To, .int .i64 p1_p.Delay, .int .i64 p1_p.Tokens]] := hs.ext hs1.below
    clear hs1
    refine sY hf hs rfl rfl rfl (Y_move rfl rfl) ?_; clear hf; intro a hf
    refine bsplit r17 (fun hb19 => ?_) (fun hb19 => ?_)
    · have hj16 := bif_t hj16 hb19
      refine sYg hf hs rfl rfl rfl (congrArg (fun b => some (Value.bool b)) hb19) rfl rfl rfl (Y_load_blkS rfl rfl (i := 0) rfl ag30 ti30 rfl) ?_; clear hf; intro a hf
      refine sYg hf hs rfl rfl rfl (congrArg (fun b => some (Value.bool b)) hb19) rfl rfl rfl (Y_fieldAddr rfl rfl fo120_1) ?_; clear hf; intro a hf
      refine sYg hf hs rfl rfl rfl (congrArg (fun b => some (Value.bool b)) hb19) rfl rfl rfl (Y_load_blk rfl rfl (i := 1) rfl rfl ag2) ?_; clear hf; intro a hf
      obtain ⟨r20, hc21, hj16⟩ := bind_some hj16
      refine sCallg hf rfl rfl rfl (congrArg (fun b => some (Value.bool b)) hb19) rfl rfl rfl rfl (cap := []) rfl rfl en162 (impl_isEvent_ok F p0_g A_p0_g_1 p0_g.Places.length c_p0_g_1 rfl p1_p.To _ _ hc21 (h_p0_g_1.at hs)) ?_; clear hf
      rintro _ w ⟨rfl, hs1⟩ a hf
      have hs : St [] W w [.blk b1 30 [.int .i64 p0_g.Events, .slice A_p0_g_1 p0_g.Places.length c_p0_g_1], .blk b2 120 [.int .i64 p1_p.From, .int .i64 p1_p.To, .int .i64 p1_p.Delay, .int .i64 p1_p.Tokens]] := hs.ext hs1.below
      clear hs1
      refine sY hf hs rfl rfl rfl (Y_pickT rfl (congrArg (fun b => some (Value.bool b)) hb19) rfl) ?_; clear hf; intro a hf
      refine sY hf hs rfl rfl rfl (Y_move rfl rfl) ?_; clear hf; intro a hf
      refine bsplit r20 (fun hb22 => ?_) (fun hb22 => ?_)
      · have hj16 := bif_t hj16 hb22
        refine sYg hf hs rfl rfl rfl (congrArg (fun b => some (Value.bool b)) hb22) rfl rfl rfl (Y_fieldAddr rfl rfl fo120_2) ?_; clear hf; intro a hf
        refine sYg hf hs rfl rfl rfl (congrArg (fun b => some (Value.bool b)) hb22) rfl rfl rfl (Y_load_blk rfl rfl (i := 1) rfl rfl ag2) ?_; clear hf; intro a hf
        obtain ⟨r23, hc24, hj16⟩ := bind_some hj16
        refine sCallg hf rfl rfl rfl (congrArg (fun b => some (Value.bool b)) hb22) rfl rfl rfl rfl (cap := []) rfl rfl en123 (impl_within_ok F p1_p.Delay 0 1000 _ _ hc24) ?_; clear hf
        rintro _ w ⟨rfl, hs1⟩ a hf
        have hs : St [] W w [.blk b1 30 [.int .i64 p0_g.Events, .slice A_p0_g_1 p0_g.Places.length c_p0_g_1], .blk b2 120 [.int .i64 p1_p.From, .int .i64 p1_p.To, .int .i64 p1_p.Delay, .int .i64 p1_p.Tokens]] := hs.ext hs1.below
        clear hs1
        refine sY hf hs rfl rfl rfl (Y_pickT rfl (congrArg (fun b => some (Value.bool b)) hb22) rfl) ?_; clear hf; intro a hf
        refine sY hf hs rfl rfl rfl (Y_move rfl rfl) ?_; clear hf; intro a hf
        refine bsplit r23 (fun hb25 => ?_) (fun hb25 => ?_)
        · have hj16 := bif_t hj16 hb25
          refine sYg hf hs rfl rfl rfl (congrArg (fun b => some (Value.bool b)) hb25) rfl rfl rfl (Y_fieldAddr rfl rfl fo120_3) ?_; clear hf; intro a hf
          refine sYg hf hs rfl rfl rfl (congrArg (fun b => some (Value.bool b)) hb25) rfl rfl rfl (Y_load_blk rfl rfl (i := 1) rfl rfl ag2) ?_; clear hf; intro a hf
          obtain ⟨r26, hc27, hj16⟩ := bind_some hj16
          refine sCallg hf rfl rfl rfl (congrArg (fun b => some (Value.bool b)) hb25) rfl rfl rfl rfl (cap := []) rfl rfl en123 (impl_within_ok F p1_p.Tokens 0 5 _ _ hc27) ?_; clear hf
          rintro _ w ⟨rfl, hs1⟩ a hf
          have hs : St [] W w [.blk b1 30 [.int .i64 p0_g.Events, .slice A_p0_g_1 p0_g.Places.length c_p0_g_1], .blk b2 120 [.int .i64 p1_p.From, .int .i64 p1_p.To, .int .i64 p1_p.Delay, .int .i64 p1_p.Tokens]] := hs.ext hs1.below
          clear hs1
          refine sY hf hs rfl rfl rfl (Y_pickT rfl (congrArg (fun b => some (Value.bool b)) hb25) rfl) ?_; clear hf; intro a hf
          refine sY hf hs rfl rfl rfl (Y_assign rfl rfl) ?_; clear hf; intro a hf
          refine wpO_nil ?_
          refine wpL_nil (then_normal ?_)
          exact ⟨r26, Option.some.inj hj16, (Fr.pick hf.none hf rfl), hs.sel [] (by decide)⟩
        · have hj16 := bif_f hj16 hb25
          refine sNo hf rfl rfl rfl (congrArg (fun b => some (Value.bool b)) hb25) rfl rfl rfl ?_; clear hf; intro a hf
          refine sNo hf rfl rfl rfl (congrArg (fun b => some (Value.bool b)) hb25) rfl rfl rfl ?_; clear hf; intro a hf
          refine sNo hf rfl rfl rfl (congrArg (fun b => some (Value.bool b)) hb25) rfl rfl rfl ?_; clear hf; intro a hf
          refine sY hf hs rfl rfl rfl (Y_pickF rfl (congrArg (fun b => some (Value.bool b)) hb25) rfl) ?_; clear hf; intro a hf
          refine sY hf hs rfl rfl rfl (Y_assign rfl rfl) ?_; clear hf; intro a hf
          refine wpO_nil ?_
          refine wpL_nil (then_normal ?_)
          exact ⟨false, Option.some.inj hj16, (Fr.pick hf.none hf rfl), hs.sel [] (by decide)⟩
      · have hj16 := bif_f hj16 hb22
        refine sNo hf rfl rfl rfl (congrArg (fun b => some (Value.bool b)) hb22) rfl rfl rfl ?_; clear hf; intro a hf
        refine sNo hf rfl rfl rfl (congrArg (fun b => some (Value.bool b)) hb22) rfl rfl rfl ?_; clear hf; intro a hf
        refine sNo hf rfl rfl rfl (congrArg (fun b => some (Value.bool b)) hb22) rfl rfl rfl ?_; clear hf; intro a hf
        refine sY hf hs rfl rfl rfl (Y_pickF rfl (congrArg (fun b => some (Value.bool b)) hb22) rfl) ?_; clear hf; intro a hf
        refine sY hf hs rfl rfl rfl (Y_move rfl rfl) ?_; clear hf; intro a hf
        refine sNo hf rfl rfl rfl rfl rfl rfl rfl ?_; clear hf; intro a hf
        refine sNo hf rfl rfl rfl rfl rfl rfl rfl ?_; clear hf; intro a hf
        refine sNo hf rfl rfl rfl rfl rfl rfl rfl ?_; clear hf; intro a hf
        refine sY hf hs rfl rfl rfl (Y_pickF rfl rfl rfl) ?_; clear hf; intro a hf
        refine sY hf hs rfl rfl rfl (Y_assign rfl rfl) ?_; clear hf; intro a hf
        refine wpO_nil ?_
        refine wpL_nil (then_normal ?_)
        exact ⟨false, Option.some.inj hj16, (Fr.pick hf.none hf rfl), hs.sel [] (by decide)⟩
    · have hj16 := bif_f hj16 hb19
      refine sNo hf rfl rfl rfl (congrArg (fun b => some (Value.bool b)) hb19) rfl rfl rfl ?_; clear hf; intro a hf
      refine sNo hf rfl rfl rfl (congrArg (fun b => some (Value.bool b)) hb19) rfl rfl rfl ?_; clear hf; intro a hf
      refine sNo hf rfl rfl rfl (congrArg (fun b => some (Value.bool b)) hb19) rfl rfl rfl ?_; clear hf; intro a hf
      refine sNo hf rfl rfl rfl (congrArg (fun b => some (Value.bool b)) hb19) rfl rfl rfl ?_; clear hf; intro a hf
      refine sY hf hs rfl rfl rfl (Y_pickF rfl (congrArg (fun b => some (Value.bool b)) hb19) rfl) ?_; clear hf; intro a hf
      refine sY hf hs rfl rfl rfl (Y_move rfl rfl) ?_; clear hf; intro a hf
      refine sNo hf rfl rfl rfl rfl rfl rfl rfl ?_; clear hf; intro a hf
      refine sNo hf rfl rfl rfl rfl rfl rfl rfl ?_; clear hf; intro a hf
      refine sNo hf rfl rfl rfl rfl rfl rfl rfl ?_; clear hf; intro a hf
      refine sY hf hs rfl rfl rfl (Y_pickF rfl rfl rfl) ?_; clear hf; intro a hf
      refine sY hf hs rfl rfl rfl (Y_move rfl rfl) ?_; clear hf; intro a hf
      refine sNo hf rfl rfl rfl rfl rfl rfl rfl ?_; clear hf; intro a hf
      refine sNo hf rfl rfl rfl rfl rfl rfl rfl ?_; clear hf; intro a hf
      refine sNo hf rfl rfl rfl rfl rfl rfl rfl ?_; clear hf; intro a hf
      refine sY hf hs rfl rfl rfl (Y_pickF rfl rfl rfl) ?_; clear hf; intro a hf
      refine sY hf hs rfl rfl rfl (Y_assign rfl rfl) ?_; clear hf; intro a hf
      refine wpO_nil ?_
      refine wpL_nil (then_normal ?_)
      exact ⟨false, Option.some.inj hj16, (Fr.pick hf.none hf rfl), hs.sel [] (by decide)⟩
  · rintro a w ⟨b14, hr_, hf, hs⟩
    subst hr_
    try dsimp only at hm
    obtain rfl := Option.some.inj hm
    refine wpL_ret (ret_tmp rfl hf rfl ?_)
    exact ⟨_, rfl, rfl, hs⟩

set_option maxRecDepth 100000 in
theorem impl_IsEventGraph_c1_ok (F : Nat) (p0_p : GPlace) (b_z0 : Nat) (z0 : GEventGraph) (A_z0_1 : Option Addr) (n_z0_1 c_z0_1 : Nat) (hn_z0_1 : n_z0_1 = z0.Places.length) (r : Bool) (W : World) (hm : impl_IsEventGraph_c1 F p0_p z0 = some r) (h_z0_1 : Rd W A_z0_1 ((recs GPlace.cells) z0.Places)) (h_z0 : PB W b_z0 30 [.int .i64 z0.Events, .slice A_z0_1 n_z0_1 c_z0_1]) :
    Calls Try.prog 125 [.agg #[.int .i64 p0_p.From, .int .i64 p0_p.To, .int .i64 p0_p.Delay, .int .i64 p0_p.Tokens], .pointer (some ⟨b_z0, 0, none⟩)].toArray W fun e w' => ∃ v, e = .returned v ∧ v = .bool r ∧ St [] W w' [] := by
  subst hn_z0_1
  unfold impl_IsEventGraph_c1 at hm
  refine Calls.enter (N := 8) Try.func125 rfl rfl rfl (fun a hf => ?_)
  have hs := St.start W
  obtain ⟨w, hw_⟩ : ∃ w, w = W := ⟨W, rfl⟩
  clear hw_ w
  refine wpL_seq ?_
  refine wpL_region ?_
  refine sBox hf hs rfl rfl rfl rfl rfl (cs := [.int .i64 p0_p.From, .int .i64 p0_p.To, .int .i64 p0_p.Delay, .int .i64 p0_p.Tokens]) rfl ?_; clear hf hs; intro a w b1 hs hf
  have hs : St [] W w [.blk b1 120 [.int .i64 p0_p.From, .int .i64 p0_p.To, .int .i64 p0_p.Delay, .int .i64 p0_p.Tokens]] := hs
  refine sY hf hs rfl rfl rfl (Y_assign rfl rfl) ?_; clear hf; intro a hf
  refine wpO_nil ?_
  refine wpL_seq ?_
  refine wpL_region ?_
  refine sY hf hs rfl rfl rfl (Y_load_pbS rfl rfl h_z0 ag30 ti30 rfl) ?_; clear hf; intro a hf
  refine sY hf hs rfl rfl rfl (Y_load_blkS rfl rfl (i := 0) rfl ag120 ti120 rfl) ?_; clear hf; intro a hf
  obtain ⟨r2, hc3, hm⟩ := bind_some hm
  refine sCall hf rfl rfl rfl rfl (cap := []) rfl rfl en126 (impl_isPlace_ok F z0 A_z0_1 z0.Places.length c_z0_1 rfl p0_p _ _ hc3 (h_z0_1.at hs)) ?_; clear hf
  rintro _ w ⟨rfl, hs1⟩ a hf
  have hs : St [] W w [.blk b1 120 [.int .i64 p0_p.From, .int .i64 p0_p.To, .int .i64 p0_p.Delay, .int .i64 p0_p.Tokens]] := hs.ext hs1.below
  clear hs1
  refine sY hf hs rfl rfl rfl (Y_not rfl rfl) ?_; clear hf; intro a hf
  refine sY hf hs rfl rfl rfl (Y_assign rfl rfl) ?_; clear hf; intro a hf
  refine wpO_nil ?_
  obtain rfl := Option.some.inj hm
  refine wpL_ret (ret_tmp rfl hf rfl ?_)
  exact ⟨_, rfl, rfl, hs.sel [] (by decide)⟩

set_option maxRecDepth 100000 in
theorem slices_IndexFunc_Place_ok (F : Nat) (p0_s : List GPlace) (A_p0_s_1 : Option Addr) (n_p0_s_1 c_p0_s_1 : Nat) (hn_p0_s_1 : n_p0_s_1 = p0_s.length) (m_p1_f : GPlace → Option Bool) (f_p1_f : FuncId) (k_p1_f : List Value) (r : Int) (W : World) (hm : slices_IndexFunc_Place F p0_s m_p1_f = some r) (h_p0_s_1 : Rd W A_p0_s_1 ((recs GPlace.cells) p0_s)) (h_p1_f : ∀ (x0 : GPlace) (r : Bool) (w : World), m_p1_f x0 = some r → Below W.heap.size W w → Calls Try.prog f_p1_f (([.agg #[.int .i64 x0.From, .int .i64 x0.To, .int .i64 x0.Delay, .int .i64 x0.Tokens]] : List Value) ++ k_p1_f).toArray w fun e w' => ∃ v, e = .returned v ∧ v = .bool r ∧ St [] w w' []) (e_p1_f : En Try.prog f_p1_f) :
    Calls Try.prog 161 [.slice A_p0_s_1 n_p0_s_1 c_p0_s_1, .func (.func f_p1_f) #[] k_p1_f.toArray].toArray W fun e w' => ∃ v, e = .returned v ∧ v = .int .i64 r ∧ St [] W w' [] := by
  subst hn_p0_s_1
  unfold slices_IndexFunc_Place at hm
  refine Calls.enter (N := 19) Try.func161 rfl rfl rfl (fun a hf => ?_)
  have hs := St.start W
  obtain ⟨w, hw_⟩ : ∃ w, w = W := ⟨W, rfl⟩
  clear hw_ w
  refine wpL_seq ?_
  refine wpL_region ?_
  refine sY hf hs rfl rfl rfl (Y_assign rfl rfl) ?_; clear hf; intro a hf
  refine wpO_nil ?_
  refine wpL_seq ?_
  refine wpL_seq ?_
  refine wpL_region ?_
  refine sY hf hs rfl rfl rfl (Y_move rfl rfl) ?_; clear hf; intro a hf
  refine sY hf hs rfl rfl rfl (Y_lenH rfl rfl el28 rfl) ?_; clear hf; intro a hf
  refine sY hf hs rfl rfl rfl (Y_move rfl rfl) ?_; clear hf; intro a hf
  refine wpO_nil ?_
  obtain ⟨r21, hl22, hm⟩ := bind_some hm
  refine wpL_block (fun a w => Sum.inr () = r21 ∧ Fr a 19 [] ∧ St [] W w []) ?_ ?_
  · refine wpL_loop (fun n a w => ∃ x14 : Int, slices_IndexFunc_Place_L1 F p0_s m_p1_f n x14 = some r21 ∧ Fr a 19 [(0, .slice A_p0_s_1 p0_s.length c_p0_s_1), (1, .func (.func f_p1_f) #[] k_p1_f.toArray), (7, .int .i64 (p0_s.length : Int)), (8, .int .i64 x14)] ∧ St [] W w []) F ?_ ?_ ?_
    · exact ⟨0, hl22, (Fr.pick (Fr.pick (Fr.pick (Fr.pick hf.none hf rfl) hf rfl) hf rfl) hf rfl), hs⟩
    · rintro a w ⟨x14, h0_, -, -⟩; simp [slices_IndexFunc_Place_L1] at h0_
    · rintro n24 a w ⟨x14, hm23, hf, hs⟩
      rw [slices_IndexFunc_Place_L1] at hm23
      refine wpL_seq ?_
      refine wpL_region ?_
      refine sY hf hs rfl rfl rfl (Y_lss rfl rfl rfl) ?_; clear hf; intro a hf
      refine wpO_nil ?_
      refine wpL_seq ?_
      refine wpL_cond hf rfl (fun hb25 => ?_) (fun hb25 => ?_)
      · have hm23 := bif_t hm23 hb25
        refine wpL_skip ?_
        refine wpL_seq ?_
        refine wpL_block0 ?_
        refine wpL_seq ?_
        refine wpL_region ?_
        refine sY hf hs rfl rfl rfl (Y_move rfl rfl) ?_; clear hf; intro a hf
        refine sY hf hs rfl rfl rfl (Y_assign rfl rfl) ?_; clear hf; intro a hf
        refine wpO_nil ?_
        refine wpL_seq ?_
        refine wpL_region ?_
        refine sY hf hs rfl rfl rfl (Y_move rfl rfl) ?_; clear hf; intro a hf
        refine sY hf hs rfl rfl rfl (Y_move rfl rfl) ?_; clear hf; intro a hf
        refine sY hf hs rfl rfl rfl (Y_move rfl rfl) ?_; clear hf; intro a hf
        obtain ⟨q26, hi27, hm23⟩ := bind_some hm23
        obtain ⟨hi27a, hi27b, hi27q⟩ := idx_some hi27
        refine sY hf hs rfl rfl rfl (Y_index rfl rfl rfl el28 ti120 (Rd.isAt (h_p0_s_1.at hs) (recs_at (s := 4) GPlace.len hi27q (j := 0) rfl)) hi27a hi27b) ?_; clear hf; intro a hf
        refine sY hf hs rfl rfl rfl (Y_load_rdS rfl rfl (us := [.int .i64 q26.From, .int .i64 q26.To, .int .i64 q26.Delay, .int .i64 q26.Tokens]) (fun w hs => h_p0_s_1.at hs) (fun j u hj => recs_at (s := 4) GPlace.len hi27q hj) (Nat.succ_pos _) ag120 ti120 rfl) ?_; clear hf; intro a hf
        obtain ⟨r28, hc29, hm23⟩ := bind_some hm23
        refine sCall hf rfl rfl rfl rfl (cap := k_p1_f) rfl rfl e_p1_f (h_p1_f q26 _ _ hc29 hs.below) ?_; clear hf; rintro _ w ⟨rfl, hs1⟩ a hf; have hs := hs.ext hs1.below; clear hs1
        refine wpO_nil ?_
        refine wpL_cond hf rfl (fun hb30 => ?_) (fun hb30 => ?_)
        · have hm23 := bif_t hm23 hb30
          refine wpL_seq ?_
          refine wpL_region ?_
          refine sY hf hs rfl rfl rfl (Y_move rfl rfl) ?_; clear hf; intro a hf
          refine sY hf hs rfl rfl rfl (Y_assign rfl rfl) ?_; clear hf; intro a hf
          refine wpO_nil ?_
          obtain rfl := Option.some.inj hm23
          try dsimp only at hm
          obtain rfl := Option.some.inj hm
          refine wpL_ret (Qb_ret (Ql_ret (Qb_ret (ret_tmp rfl hf rfl ?_))))
          exact ⟨_, rfl, rfl, hs⟩
        · have hm23 := bif_f hm23 hb30
          refine wpL_skip ?_
          refine wpL_nil (Qb_normal ?_)
          refine wpL_region ?_
          refine sY hf hs rfl rfl rfl (Y_add rfl rfl rfl) ?_; clear hf; intro a hf
          refine sY hf hs rfl rfl rfl (Y_move rfl rfl) ?_; clear hf; intro a hf
          refine wpO_nil ?_
          refine wpL_nil (Ql_normal ?_)
          exact ⟨(IntKind.i64.wrap (x14 + 1)), hm23, (Fr.pick (Fr.pick (Fr.pick (Fr.pick hf.none hf rfl) hf rfl) hf rfl) hf rfl), hs⟩
      · have hm23 := bif_f hm23 hb25
        refine wpL_exit (Ql_exit (Qb_exit ?_))
        exact ⟨Option.some.inj hm23, hf.none, hs⟩
  · rintro a w ⟨hr_, hf, hs⟩
    subst hr_
    try dsimp only at hm
    refine wpL_seq ?_
    refine wpL_region ?_
    refine sY hf hs rfl rfl rfl (Y_assign rfl rfl) ?_; clear hf; intro a hf
    refine wpO_nil ?_
    obtain rfl := Option.some.inj hm
    refine wpL_ret (ret_tmp rfl hf rfl ?_)
    exact ⟨_, rfl, rfl, hs⟩

set_option maxRecDepth 100000 in
theorem slices_ContainsFunc_Place_ok (F : Nat) (p0_s : List GPlace) (A_p0_s_1 : Option Addr) (n_p0_s_1 c_p0_s_1 : Nat) (hn_p0_s_1 : n_p0_s_1 = p0_s.length) (m_p1_f : GPlace → Option Bool) (f_p1_f : FuncId) (k_p1_f : List Value) (r : Bool) (W : World) (hm : slices_ContainsFunc_Place F p0_s m_p1_f = some r) (h_p0_s_1 : Rd W A_p0_s_1 ((recs GPlace.cells) p0_s)) (h_p1_f : ∀ (x0 : GPlace) (r : Bool) (w : World), m_p1_f x0 = some r → Below W.heap.size W w → Calls Try.prog f_p1_f (([.agg #[.int .i64 x0.From, .int .i64 x0.To, .int .i64 x0.Delay, .int .i64 x0.Tokens]] : List Value) ++ k_p1_f).toArray w fun e w' => ∃ v, e = .returned v ∧ v = .bool r ∧ St [] w w' []) (e_p1_f : En Try.prog f_p1_f) :
    Calls Try.prog 124 [.slice A_p0_s_1 n_p0_s_1 c_p0_s_1, .func (.func f_p1_f) #[] k_p1_f.toArray].toArray W fun e w' => ∃ v, e = .returned v ∧ v = .bool r ∧ St [] W w' [] := by
  subst hn_p0_s_1
  unfold slices_ContainsFunc_Place at hm
  refine Calls.enter (N := 9) Try.func124 rfl rfl rfl (fun a hf => ?_)
  have hs := St.start W
  obtain ⟨w, hw_⟩ : ∃ w, w = W := ⟨W, rfl⟩
  clear hw_ w
  refine wpL_seq ?_
  refine wpL_region ?_
  refine sY hf hs rfl rfl rfl (Y_assign rfl rfl) ?_; clear hf; intro a hf
  refine wpO_nil ?_
  refine wpL_seq ?_
  refine wpL_region ?_
  refine sY hf hs rfl rfl rfl (Y_move rfl rfl) ?_; clear hf; intro a hf
  refine sY hf hs rfl rfl rfl (Y_move rfl rfl) ?_; clear hf; intro a hf
  obtain ⟨r1, hc2, hm⟩ := bind_some hm
  refine sCall hf rfl rfl rfl rfl (cap := []) rfl rfl en161 (slices_IndexFunc_Place_ok F p0_s A_p0_s_1 p0_s.length c_p0_s_1 rfl m_p1_f f_p1_f k_p1_f _ _ hc2 (h_p0_s_1.at hs) (fun x0 r w' hm_ hb => h_p1_f x0 r w' hm_ (hs.below.trans (hb.mono hs.below.size))) e_p1_f) ?_; clear hf
  rintro _ w ⟨rfl, hs1⟩ a hf
  have hs : St [] W w [] := hs.ext hs1.below
  clear hs1
  refine sY hf hs rfl rfl rfl (Y_geq rfl rfl rfl) ?_; clear hf; intro a hf
  refine sY hf hs rfl rfl rfl (Y_assign rfl rfl) ?_; clear hf; intro a hf
  refine wpO_nil ?_
  obtain rfl := Option.some.inj hm
  refine wpL_ret (ret_tmp rfl hf rfl ?_)
  exact ⟨_, rfl, rfl, hs⟩

set_option maxRecDepth 100000 in
theorem impl_IsEventGraph_ok (F : Nat) (p0_g : GEventGraph) (A_p0_g_1 : Option Addr) (n_p0_g_1 c_p0_g_1 : Nat) (hn_p0_g_1 : n_p0_g_1 = p0_g.Places.length) (r : Bool) (W : World) (hm : impl_IsEventGraph F p0_g = some r) (h_p0_g_1 : Rd W A_p0_g_1 ((recs GPlace.cells) p0_g.Places)) :
    Calls Try.prog 76 [.agg #[.int .i64 p0_g.Events, .slice A_p0_g_1 n_p0_g_1 c_p0_g_1]].toArray W fun e w' => ∃ v, e = .returned v ∧ v = .bool r ∧ St [] W w' [] := by
  subst hn_p0_g_1
  unfold impl_IsEventGraph at hm
  refine Calls.enter (N := 19) Try.func76 rfl rfl rfl (fun a hf => ?_)
  have hs := St.start W
  obtain ⟨w, hw_⟩ : ∃ w, w = W := ⟨W, rfl⟩
  clear hw_ w
  refine wpL_seq ?_
  refine wpL_region ?_
  refine sBox hf hs rfl rfl rfl rfl rfl (cs := [.int .i64 p0_g.Events, .slice A_p0_g_1 p0_g.Places.length c_p0_g_1]) rfl ?_; clear hf hs; intro a w b1 hs hf
  have hs : St [] W w [.blk b1 30 [.int .i64 p0_g.Events, .slice A_p0_g_1 p0_g.Places.length c_p0_g_1]] := hs
  refine sY hf hs rfl rfl rfl (Y_assign rfl rfl) ?_; clear hf; intro a hf
  refine wpO_nil ?_
  refine wpL_seq ?_
  obtain ⟨r9, hj10, hm⟩ := bind_some hm
  refine wpL_cut (fun a w => ∃ b8 : Bool, b8 = r9 ∧ Fr a 19 [(2, .bool b8)] ∧ St [] W w []) ?_ ?_
  · refine wpL_region ?_
    refine sY hf hs rfl rfl rfl (Y_fieldAddr rfl rfl fo30_0) ?_; clear hf; intro a hf
    refine sY hf hs rfl rfl rfl (Y_load_blk rfl rfl (i := 0) rfl rfl ag2) ?_; clear hf; intro a hf
    obtain ⟨r11, hc12, hj10⟩ := bind_some hj10
    refine sCall hf rfl rfl rfl rfl (cap := []) rfl rfl en123 (impl_within_ok F p0_g.Events 1 10 _ _ hc12) ?_; clear hf
    rintro _ w ⟨rfl, hs1⟩ a hf
    have hs : St [] W w [.blk b1 30 [.int .i64 p0_g.Events, .slice A_p0_g_1 p0_g.Places.length c_p0_g_1]] := hs.ext hs1.below
    clear hs1
    refine sY hf hs rfl rfl rfl (Y_move rfl rfl) ?_; clear hf; intro a hf
    refine bsplit r11 (fun hb13 => ?_) (fun hb13 => ?_)
    · have hj10 := bif_t hj10 hb13
      refine sYg hf hs rfl rfl rfl (congrArg (fun b => some (Value.bool b)) hb13) rfl rfl rfl (Y_fieldAddr rfl rfl fo30_1) ?_; clear hf; intro a hf
      refine sYg hf hs rfl rfl rfl (congrArg (fun b => some (Value.bool b)) hb13) rfl rfl rfl (Y_load_blk rfl rfl (i := 0) rfl rfl ag28) ?_; clear hf; intro a hf
      refine sYg hf hs rfl rfl rfl (congrArg (fun b => some (Value.bool b)) hb13) rfl rfl rfl (Y_lenH rfl rfl el28 rfl) ?_; clear hf; intro a hf
      refine sYg hf hs rfl rfl rfl (congrArg (fun b => some (Value.bool b)) hb13) rfl rfl rfl (Y_leq rfl rfl rfl) ?_; clear hf; intro a hf
      refine sY hf hs rfl rfl rfl (Y_pickT rfl (congrArg (fun b => some (Value.bool b)) hb13) rfl) ?_; clear hf; intro a hf
      refine sY hf hs rfl rfl rfl (Y_move rfl rfl) ?_; clear hf; intro a hf
      refine bsplit (decide ((p0_g.Places.length : Int) ≤ 30)) (fun hb14 => ?_) (fun hb14 => ?_)
      · have hj10 := bif_t hj10 hb14
        refine sYg hf hs rfl rfl rfl (congrArg (fun b => some (Value.bool b)) hb14) rfl rfl rfl (Y_fieldAddr rfl rfl fo30_1) ?_; clear hf; intro a hf
        refine sYg hf hs rfl rfl rfl (congrArg (fun b => some (Value.bool b)) hb14) rfl rfl rfl (Y_load_blk rfl rfl (i := 0) rfl rfl ag28) ?_; clear hf; intro a hf
        refine sYg hf hs rfl rfl rfl (congrArg (fun b => some (Value.bool b)) hb14) rfl rfl rfl (Y_makeFunc (us := []) (vs := [.pointer (some ⟨b1, 0, none⟩)]) rfl rfl rfl) ?_; clear hf; intro a hf
        obtain ⟨r15, hc16, hj10⟩ := bind_some hj10
        refine sCallg hf rfl rfl rfl (congrArg (fun b => some (Value.bool b)) hb14) rfl rfl rfl rfl (cap := []) rfl rfl en124 (slices_ContainsFunc_Place_ok F p0_g.Places A_p0_g_1 p0_g.Places.length c_p0_g_1 rfl (fun x0 => impl_IsEventGraph_c1 F x0 p0_g) 125 ([.pointer (some ⟨b1, 0, none⟩)]) _ _ hc16 (h_p0_g_1.at hs) (fun x0 r w' hm_ hb => impl_IsEventGraph_c1_ok F x0 b1 p0_g A_p0_g_1 p0_g.Places.length c_p0_g_1 rfl r w' hm_ ((h_p0_g_1.at hs).below hb (Nat.le_refl _)) ((hs.pb (i := 0) rfl).below hb (Nat.le_refl _))) en125) ?_; clear hf
        rintro _ w ⟨rfl, hs1⟩ a hf
        have hs : St [] W w [.blk b1 30 [.int .i64 p0_g.Events, .slice A_p0_g_1 p0_g.Places.length c_p0_g_1]] := hs.ext hs1.below
        clear hs1
        refine sYg hf hs rfl rfl rfl (congrArg (fun b => some (Value.bool b)) hb14) rfl rfl rfl (Y_not rfl rfl) ?_; clear hf; intro a hf
        refine sY hf hs rfl rfl rfl (Y_pickT rfl (congrArg (fun b => some (Value.bool b)) hb14) rfl) ?_; clear hf; intro a hf
        refine sY hf hs rfl rfl rfl (Y_assign rfl rfl) ?_; clear hf; intro a hf
        refine wpO_nil ?_
        refine wpL_nil (then_normal ?_)
        exact ⟨(!r15), Option.some.inj hj10, (Fr.pick hf.none hf rfl), hs.sel [] (by decide)⟩
      · have hj10 := bif_f hj10 hb14
        refine sNo hf rfl rfl rfl (congrArg (fun b => some (Value.bool b)) hb14) rfl rfl rfl ?_; clear hf; intro a hf
        refine sNo hf rfl rfl rfl (congrArg (fun b => some (Value.bool b)) hb14) rfl rfl rfl ?_; clear hf; intro a hf
        refine sNo hf rfl rfl rfl (congrArg (fun b => some (Value.bool b)) hb14) rfl rfl rfl ?_; clear hf; intro a hf
        refine sNo hf rfl rfl rfl (congrArg (fun b => some (Value.bool b)) hb14) rfl rfl rfl ?_; clear hf; intro a hf
        refine sNo hf rfl rfl rfl (congrArg (fun b => some (Value.bool b)) hb14) rfl rfl rfl ?_; clear hf; intro a hf
        refine sY hf hs rfl rfl rfl (Y_pickF rfl (congrArg (fun b => some (Value.bool b)) hb14) rfl) ?_; clear hf; intro a hf
        refine sY hf hs rfl rfl rfl (Y_assign rfl rfl) ?_; clear hf; intro a hf
        refine wpO_nil ?_
        refine wpL_nil (then_normal ?_)
        exact ⟨false, Option.some.inj hj10, (Fr.pick hf.none hf rfl), hs.sel [] (by decide)⟩
    · have hj10 := bif_f hj10 hb13
      refine sNo hf rfl rfl rfl (congrArg (fun b => some (Value.bool b)) hb13) rfl rfl rfl ?_; clear hf; intro a hf
      refine sNo hf rfl rfl rfl (congrArg (fun b => some (Value.bool b)) hb13) rfl rfl rfl ?_; clear hf; intro a hf
      refine sNo hf rfl rfl rfl (congrArg (fun b => some (Value.bool b)) hb13) rfl rfl rfl ?_; clear hf; intro a hf
      refine sNo hf rfl rfl rfl (congrArg (fun b => some (Value.bool b)) hb13) rfl rfl rfl ?_; clear hf; intro a hf
      refine sY hf hs rfl rfl rfl (Y_pickF rfl (congrArg (fun b => some (Value.bool b)) hb13) rfl) ?_; clear hf; intro a hf
      refine sY hf hs rfl rfl rfl (Y_move rfl rfl) ?_; clear hf; intro a hf
      refine sNo hf rfl rfl rfl rfl rfl rfl rfl ?_; clear hf; intro a hf
      refine sNo hf rfl rfl rfl rfl rfl rfl rfl ?_; clear hf; intro a hf
      refine sNo hf rfl rfl rfl rfl rfl rfl rfl ?_; clear hf; intro a hf
      refine sNo hf rfl rfl rfl rfl rfl rfl rfl ?_; clear hf; intro a hf
      refine sNo hf rfl rfl rfl rfl rfl rfl rfl ?_; clear hf; intro a hf
      refine sY hf hs rfl rfl rfl (Y_pickF rfl rfl rfl) ?_; clear hf; intro a hf
      refine sY hf hs rfl rfl rfl (Y_assign rfl rfl) ?_; clear hf; intro a hf
      refine wpO_nil ?_
      refine wpL_nil (then_normal ?_)
      exact ⟨false, Option.some.inj hj10, (Fr.pick hf.none hf rfl), hs.sel [] (by decide)⟩
  · rintro a w ⟨b8, hr_, hf, hs⟩
    subst hr_
    try dsimp only at hm
    obtain rfl := Option.some.inj hm
    refine wpL_ret (ret_tmp rfl hf rfl ?_)
    exact ⟨_, rfl, rfl, hs⟩

set_option maxRecDepth 100000 in
theorem impl_checkPeriod_ok (F : Nat) (p0_g : GEventGraph) (A_p0_g_1 : Option Addr) (n_p0_g_1 c_p0_g_1 : Nat) (hn_p0_g_1 : n_p0_g_1 = p0_g.Places.length) (p1_period : Int) (r : Int) (W : World) (hm : impl_checkPeriod F p0_g p1_period = some r) (h_p0_g_1 : Rd W A_p0_g_1 ((recs GPlace.cells) p0_g.Places)) :
    Calls Try.prog 91 [.agg #[.int .i64 p0_g.Events, .slice A_p0_g_1 n_p0_g_1 c_p0_g_1], .int .i64 p1_period].toArray W fun e w' => ∃ v, e = .returned v ∧ v = .int .i64 r ∧ St [] W w' [] := by
  subst hn_p0_g_1
  unfold impl_checkPeriod at hm
  refine Calls.enter (N := 13) Try.func91 rfl rfl rfl (fun a hf => ?_)
  have hs := St.start W
  obtain ⟨w, hw_⟩ : ∃ w, w = W := ⟨W, rfl⟩
  clear hw_ w
  refine wpL_seq ?_
  refine wpL_region ?_
  refine sBox hf hs rfl rfl rfl rfl rfl (cs := [.int .i64 p0_g.Events, .slice A_p0_g_1 p0_g.Places.length c_p0_g_1]) rfl ?_; clear hf hs; intro a w b1 hs hf
  have hs : St [] W w [.blk b1 30 [.int .i64 p0_g.Events, .slice A_p0_g_1 p0_g.Places.length c_p0_g_1]] := hs
  refine sY hf hs rfl rfl rfl (Y_assign rfl rfl) ?_; clear hf; intro a hf
  refine wpO_nil ?_
  refine wpL_seq ?_
  refine wpL_block0 ?_
  refine wpL_seq ?_
  refine wpL_region ?_
  refine sY hf hs rfl rfl rfl (Y_load_blkS rfl rfl (i := 0) rfl ag30 ti30 rfl) ?_; clear hf; intro a hf
  obtain ⟨r2, hc3, hm⟩ := bind_some hm
  refine sCall hf rfl rfl rfl rfl (cap := []) rfl rfl en76 (impl_IsEventGraph_ok F p0_g A_p0_g_1 p0_g.Places.length c_p0_g_1 rfl _ _ hc3 (h_p0_g_1.at hs)) ?_; clear hf
  rintro _ w ⟨rfl, hs1⟩ a hf
  have hs : St [] W w [.blk b1 30 [.int .i64 p0_g.Events, .slice A_p0_g_1 p0_g.Places.length c_p0_g_1]] := hs.ext hs1.below
  clear hs1
  refine sY hf hs rfl rfl rfl (Y_not rfl rfl) ?_; clear hf; intro a hf
  refine sY hf hs rfl rfl rfl (Y_assign rfl rfl) ?_; clear hf; intro a hf
  refine wpO_nil ?_
  refine wpL_cond hf rfl (fun hb4 => ?_) (fun hb4 => ?_)
  · have hm := bif_t hm hb4
    refine wpL_seq ?_
    refine wpL_region ?_
    refine sY hf hs rfl rfl rfl (Y_assign rfl rfl) ?_; clear hf; intro a hf
    refine wpO_nil ?_
    obtain rfl := Option.some.inj hm
    refine wpL_ret (Qb_ret (ret_tmp rfl hf rfl ?_))
    exact ⟨_, rfl, rfl, hs.sel [] (by decide)⟩
  · have hm := bif_f hm hb4
    refine wpL_seq ?_
    refine wpL_region ?_
    refine sY hf hs rfl rfl rfl (Y_move rfl rfl) ?_; clear hf; intro a hf
    obtain ⟨r5, hc6, hm⟩ := bind_some hm
    refine sCall hf rfl rfl rfl rfl (cap := []) rfl rfl en123 (impl_within_ok F p1_period 0 100000 _ _ hc6) ?_; clear hf
    rintro _ w ⟨rfl, hs1⟩ a hf
    have hs : St [] W w [.blk b1 30 [.int .i64 p0_g.Events, .slice A_p0_g_1 p0_g.Places.length c_p0_g_1]] := hs.ext hs1.below
    clear hs1
    refine sY hf hs rfl rfl rfl (Y_not rfl rfl) ?_; clear hf; intro a hf
    refine sY hf hs rfl rfl rfl (Y_assign rfl rfl) ?_; clear hf; intro a hf
    refine wpO_nil ?_
    refine wpL_cond hf rfl (fun hb7 => ?_) (fun hb7 => ?_)
    · have hm := bif_t hm hb7
      refine wpL_seq ?_
      refine wpL_region ?_
      refine sY hf hs rfl rfl rfl (Y_assign rfl rfl) ?_; clear hf; intro a hf
      refine wpO_nil ?_
      obtain rfl := Option.some.inj hm
      refine wpL_ret (Qb_ret (ret_tmp rfl hf rfl ?_))
      exact ⟨_, rfl, rfl, hs.sel [] (by decide)⟩
    · have hm := bif_f hm hb7
      refine wpL_skip ?_
      refine wpL_nil (Qb_normal ?_)
      refine wpL_seq ?_
      refine wpL_region ?_
      refine sY hf hs rfl rfl rfl (Y_assign rfl rfl) ?_; clear hf; intro a hf
      refine wpO_nil ?_
      obtain rfl := Option.some.inj hm
      refine wpL_ret (ret_tmp rfl hf rfl ?_)
      exact ⟨_, rfl, rfl, hs.sel [] (by decide)⟩

end Go.Proofs.Ytmijmamolmoheaa
