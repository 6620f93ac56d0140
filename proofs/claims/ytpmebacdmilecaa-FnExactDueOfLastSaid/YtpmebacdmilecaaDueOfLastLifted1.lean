/- The functions do what their models say. -/
import Derived.Test.YtpmebacdmilecaaDueOfLastFacts
import Derived.Test.YtpmebacdmilecaaRows
namespace Go.Proofs.Ytpmebacdmilecaa
open Go.RowKit

set_option maxRecDepth 100000 in
theorem laws_szPlaceS_ok (F : Nat) (p0_a : List LPlace) (A_p0_a_1 : Option Addr) (n_p0_a_1 c_p0_a_1 : Nat) (hn_p0_a_1 : n_p0_a_1 = p0_a.length) (p1_left : Int) (r : Int) (W : World) (hm : laws_szPlaceS F p0_a p1_left = some r) (_h_p0_a_1 : Rd W A_p0_a_1 ((recs LPlace.cells) p0_a)) :
    Calls Try.prog 74 [.slice A_p0_a_1 n_p0_a_1 c_p0_a_1, .int .i64 p1_left].toArray W fun e w' => ∃ v, e = .returned v ∧ v = .int .i64 r ∧ St [] W w' [] := by
  subst hn_p0_a_1
  unfold laws_szPlaceS at hm
  refine Calls.enter (N := 12) Try.func74 rfl rfl rfl (fun a hf => ?_)
  have hs := St.start W
  obtain ⟨w, hw_⟩ : ∃ w, w = W := ⟨W, rfl⟩
  clear hw_ w
  refine wpL_seq ?_
  refine wpL_region ?_
  refine sY hf hs rfl rfl rfl (Y_assign rfl rfl) ?_; clear hf; intro a hf
  refine wpO_nil ?_
  refine wpL_seq ?_
  refine wpL_region ?_
  refine sY hf hs rfl rfl rfl (Y_move rfl rfl) ?_; clear hf; intro a hf
  refine sY hf hs rfl rfl rfl (Y_move rfl rfl) ?_; clear hf; intro a hf
  refine sY hf hs rfl rfl rfl (Y_lenH rfl rfl el33 rfl) ?_; clear hf; intro a hf
  refine sY hf hs rfl rfl rfl (Y_sub rfl rfl rfl) ?_; clear hf; intro a hf
  refine sY hf hs rfl rfl rfl (Y_assign rfl rfl) ?_; clear hf; intro a hf
  refine wpO_nil ?_
  refine wpL_seq ?_
  refine wpL_seq ?_
  refine wpL_region ?_
  refine sY hf hs rfl rfl rfl (Y_move rfl rfl) ?_; clear hf; intro a hf
  refine sY hf hs rfl rfl rfl (Y_lss rfl rfl rfl) ?_; clear hf; intro a hf
  refine wpO_nil ?_
  refine wpL_cond hf rfl (fun hb1 => ?_) (fun hb1 => ?_)
  · have hm := bif_t hm hb1
    refine wpL_seq ?_
    refine wpL_region ?_
    refine sY hf hs rfl rfl rfl (Y_assign rfl rfl) ?_; clear hf; intro a hf
    refine wpO_nil ?_
    obtain rfl := Option.some.inj hm
    refine wpL_ret (ret_tmp rfl hf rfl ?_)
    exact ⟨_, rfl, rfl, hs⟩
  · have hm := bif_f hm hb1
    refine wpL_skip ?_
    refine wpL_seq ?_
    refine wpL_region ?_
    refine sY hf hs rfl rfl rfl (Y_move rfl rfl) ?_; clear hf; intro a hf
    refine sY hf hs rfl rfl rfl (Y_assign rfl rfl) ?_; clear hf; intro a hf
    refine wpO_nil ?_
    obtain rfl := Option.some.inj hm
    refine wpL_ret (ret_tmp rfl hf rfl ?_)
    exact ⟨_, rfl, rfl, hs⟩

set_option maxRecDepth 100000 in
theorem laws_szEventGraph_ok (F : Nat) (p0_a : LEventGraph) (A_p0_a_1 : Option Addr) (n_p0_a_1 c_p0_a_1 : Nat) (hn_p0_a_1 : n_p0_a_1 = p0_a.Places.length) (p1_left : Int) (r : Int) (W : World) (hm : laws_szEventGraph F p0_a p1_left = some r) (h_p0_a_1 : Rd W A_p0_a_1 ((recs LPlace.cells) p0_a.Places)) :
    Calls Try.prog 24 [.agg #[.int .i64 p0_a.Events, .slice A_p0_a_1 n_p0_a_1 c_p0_a_1], .int .i64 p1_left].toArray W fun e w' => ∃ v, e = .returned v ∧ v = .int .i64 r ∧ St [] W w' [] := by
  subst hn_p0_a_1
  unfold laws_szEventGraph at hm
  refine Calls.enter (N := 12) Try.func24 rfl rfl rfl (fun a hf => ?_)
  have hs := St.start W
  obtain ⟨w, hw_⟩ : ∃ w, w = W := ⟨W, rfl⟩
  clear hw_ w
  refine wpL_seq ?_
  refine wpL_region ?_
  refine sBox hf hs rfl rfl rfl rfl rfl (cs := [.int .i64 p0_a.Events, .slice A_p0_a_1 p0_a.Places.length c_p0_a_1]) rfl ?_; clear hf hs; intro a w b1 hs hf
  have hs : St [] W w [.blk b1 35 [.int .i64 p0_a.Events, .slice A_p0_a_1 p0_a.Places.length c_p0_a_1]] := hs
  refine sY hf hs rfl rfl rfl (Y_assign rfl rfl) ?_; clear hf; intro a hf
  refine wpO_nil ?_
  refine wpL_seq ?_
  refine wpL_region ?_
  refine sY hf hs rfl rfl rfl (Y_fieldAddr rfl rfl fo35_1) ?_; clear hf; intro a hf
  refine sY hf hs rfl rfl rfl (Y_load_blk rfl rfl (i := 0) rfl rfl ag33) ?_; clear hf; intro a hf
  refine sY hf hs rfl rfl rfl (Y_move rfl rfl) ?_; clear hf; intro a hf
  obtain ⟨r2, hc3, hm⟩ := bind_some hm
  refine sCall hf rfl rfl rfl rfl (cap := []) rfl rfl en74 (laws_szPlaceS_ok F p0_a.Places A_p0_a_1 p0_a.Places.length c_p0_a_1 rfl p1_left _ _ hc3 (h_p0_a_1.at hs)) ?_; clear hf
  rintro _ w ⟨rfl, hs1⟩ a hf
  have hs : St [] W w [.blk b1 35 [.int .i64 p0_a.Events, .slice A_p0_a_1 p0_a.Places.length c_p0_a_1]] := hs.ext hs1.below
  clear hs1
  refine sY hf hs rfl rfl rfl (Y_assign rfl rfl) ?_; clear hf; intro a hf
  refine wpO_nil ?_
  refine wpL_seq ?_
  refine wpL_seq ?_
  refine wpL_region ?_
  refine sY hf hs rfl rfl rfl (Y_move rfl rfl) ?_; clear hf; intro a hf
  refine sY hf hs rfl rfl rfl (Y_lss rfl rfl rfl) ?_; clear hf; intro a hf
  refine wpO_nil ?_
  refine wpL_cond hf rfl (fun hb4 => ?_) (fun hb4 => ?_)
  · have hm := bif_t hm hb4
    refine wpL_seq ?_
    refine wpL_region ?_
    refine sY hf hs rfl rfl rfl (Y_assign rfl rfl) ?_; clear hf; intro a hf
    refine wpO_nil ?_
    obtain rfl := Option.some.inj hm
    refine wpL_ret (ret_tmp rfl hf rfl ?_)
    exact ⟨_, rfl, rfl, hs.sel [] (by decide)⟩
  · have hm := bif_f hm hb4
    refine wpL_skip ?_
    refine wpL_seq ?_
    refine wpL_region ?_
    refine sY hf hs rfl rfl rfl (Y_move rfl rfl) ?_; clear hf; intro a hf
    refine sY hf hs rfl rfl rfl (Y_assign rfl rfl) ?_; clear hf; intro a hf
    refine wpO_nil ?_
    obtain rfl := Option.some.inj hm
    refine wpL_ret (ret_tmp rfl hf rfl ?_)
    exact ⟨_, rfl, rfl, hs.sel [] (by decide)⟩

set_option maxRecDepth 100000 in
theorem laws_toPlace_ok (F : Nat) (p0_a : LPlace) (r : GPlace) (W : World) (hm : laws_toPlace F p0_a = some r) :
    Calls Try.prog 146 [.agg #[.int .i64 p0_a.From, .int .i64 p0_a.To, .int .i64 p0_a.Delay, .int .i64 p0_a.Tokens]].toArray W fun e w' => ∃ v, e = .returned v ∧ v = .agg #[.int .i64 r.From, .int .i64 r.To, .int .i64 r.Delay, .int .i64 r.Tokens] ∧ St [] W w' [] := by
  unfold laws_toPlace at hm
  refine Calls.enter (N := 17) Try.func146 rfl rfl rfl (fun a hf => ?_)
  have hs := St.start W
  obtain ⟨w, hw_⟩ : ∃ w, w = W := ⟨W, rfl⟩
  clear hw_ w
  refine wpL_seq ?_
  refine wpL_region ?_
  refine sBox hf hs rfl rfl rfl rfl rfl (cs := [.int .i64 p0_a.From, .int .i64 p0_a.To, .int .i64 p0_a.Delay, .int .i64 p0_a.Tokens]) rfl ?_; clear hf hs; intro a w b1 hs hf
  have hs : St [] W w [.blk b1 131 [.int .i64 p0_a.From, .int .i64 p0_a.To, .int .i64 p0_a.Delay, .int .i64 p0_a.Tokens]] := hs
  refine sAlloc hf hs rfl rfl rfl rfl ti96 ?_; clear hf hs; intro a w b2 hs hf
  have hs : St [] W w [.blk b1 131 [.int .i64 p0_a.From, .int .i64 p0_a.To, .int .i64 p0_a.Delay, .int .i64 p0_a.Tokens], .blk b2 96 [.int .i64 0, .int .i64 0, .int .i64 0, .int .i64 0]] := hs
  refine wpO_nil ?_
  refine wpL_seq ?_
  refine wpL_region ?_
  refine sAlloc hf hs rfl rfl rfl rfl ti96 ?_; clear hf hs; intro a w b3 hs hf
  have hs : St [] W w [.blk b1 131 [.int .i64 p0_a.From, .int .i64 p0_a.To, .int .i64 p0_a.Delay, .int .i64 p0_a.Tokens], .blk b2 96 [.int .i64 0, .int .i64 0, .int .i64 0, .int .i64 0], .blk b3 96 [.int .i64 0, .int .i64 0, .int .i64 0, .int .i64 0]] := hs
  refine wpO_nil ?_
  refine wpL_seq ?_
  refine wpL_region ?_
  refine sY hf hs rfl rfl rfl (Y_fieldAddr rfl rfl fo131_0) ?_; clear hf; intro a hf
  refine sY hf hs rfl rfl rfl (Y_load_blk rfl rfl (i := 0) rfl rfl ag2) ?_; clear hf; intro a hf
  refine sY hf hs rfl rfl rfl (Y_fieldAddr rfl rfl fo96_0) ?_; clear hf; intro a hf
  refine sStore (i := 2) (us := [.int .i64 p0_a.From]) hf hs rfl rfl rfl rfl rfl rfl ti2 rfl rfl rfl (Nat.le_of_ble_eq_true rfl) rfl ?_; clear hs; intro w hs
  have hs : St [] W w [.blk b1 131 [.int .i64 p0_a.From, .int .i64 p0_a.To, .int .i64 p0_a.Delay, .int .i64 p0_a.Tokens], .blk b2 96 [.int .i64 0, .int .i64 0, .int .i64 0, .int .i64 0], .blk b3 96 [.int .i64 p0_a.From, .int .i64 0, .int .i64 0, .int .i64 0]] := hs
  refine wpO_nil ?_
  refine wpL_seq ?_
  refine wpL_region ?_
  refine sY hf hs rfl rfl rfl (Y_fieldAddr rfl rfl fo131_1) ?_; clear hf; intro a hf
  refine sY hf hs rfl rfl rfl (Y_load_blk rfl rfl (i := 0) rfl rfl ag2) ?_; clear hf; intro a hf
  refine sY hf hs rfl rfl rfl (Y_fieldAddr rfl rfl fo96_1) ?_; clear hf; intro a hf
  refine sStore (i := 2) (us := [.int .i64 p0_a.To]) hf hs rfl rfl rfl rfl rfl rfl ti2 rfl rfl rfl (Nat.le_of_ble_eq_true rfl) rfl ?_; clear hs; intro w hs
  have hs : St [] W w [.blk b1 131 [.int .i64 p0_a.From, .int .i64 p0_a.To, .int .i64 p0_a.Delay, .int .i64 p0_a.Tokens], .blk b2 96 [.int .i64 0, .int .i64 0, .int .i64 0, .int .i64 0], .blk b3 96 [.int .i64 p0_a.From, .int .i64 p0_a.To, .int .i64 0, .int .i64 0]] := hs
  refine wpO_nil ?_
  refine wpL_seq ?_
  refine wpL_region ?_
  refine sY hf hs rfl rfl rfl (Y_fieldAddr rfl rfl fo131_2) ?_; clear hf; intro a hf
  refine sY hf hs rfl rfl rfl (Y_load_blk rfl rfl (i := 0) rfl rfl ag2) ?_; clear hf; intro a hf
  refine sY hf hs rfl rfl rfl (Y_fieldAddr rfl rfl fo96_2) ?_; clear hf; intro a hf
  refine sStore (i := 2) (us := [.int .i64 p0_a.Delay]) hf hs rfl rfl rfl rfl rfl rfl ti2 rfl rfl rfl (Nat.le_of_ble_eq_true rfl) rfl ?_; clear hs; intro w hs
  have hs : St [] W w [.blk b1 131 [.int .i64 p0_a.From, .int .i64 p0_a.To, .int .i64 p0_a.Delay, .int .i64 p0_a.Tokens], .blk b2 96 [.int .i64 0, .int .i64 0, .int .i64 0, .int .i64 0], .blk b3 96 [.int .i64 p0_a.From, .int .i64 p0_a.To, .int .i64 p0_a.Delay, .int .i64 0]] := hs
  refine wpO_nil ?_
  refine wpL_seq ?_
  refine wpL_region ?_
  refine sY hf hs rfl rfl rfl (Y_fieldAddr rfl rfl fo131_3) ?_; clear hf; intro a hf
  refine sY hf hs rfl rfl rfl (Y_load_blk rfl rfl (i := 0) rfl rfl ag2) ?_; clear hf; intro a hf
  refine sY hf hs rfl rfl rfl (Y_fieldAddr rfl rfl fo96_3) ?_; clear hf; intro a hf
  refine sStore (i := 2) (us := [.int .i64 p0_a.Tokens]) hf hs rfl rfl rfl rfl rfl rfl ti2 rfl rfl rfl (Nat.le_of_ble_eq_true rfl) rfl ?_; clear hs; intro w hs
  have hs : St [] W w [.blk b1 131 [.int .i64 p0_a.From, .int .i64 p0_a.To, .int .i64 p0_a.Delay, .int .i64 p0_a.Tokens], .blk b2 96 [.int .i64 0, .int .i64 0, .int .i64 0, .int .i64 0], .blk b3 96 [.int .i64 p0_a.From, .int .i64 p0_a.To, .int .i64 p0_a.Delay, .int .i64 p0_a.Tokens]] := hs
  refine wpO_nil ?_
  refine wpL_seq ?_
  refine wpL_region ?_
  refine sY hf hs rfl rfl rfl (Y_load_blkS rfl rfl (i := 2) rfl ag96 ti96 rfl) ?_; clear hf; intro a hf
  refine sStore (i := 1) (us := [.int .i64 p0_a.From, .int .i64 p0_a.To, .int .i64 p0_a.Delay, .int .i64 p0_a.Tokens]) hf hs rfl rfl rfl rfl rfl rfl ti96 rfl rfl rfl (Nat.le_of_ble_eq_true rfl) rfl ?_; clear hs; intro w hs
  have hs : St [] W w [.blk b1 131 [.int .i64 p0_a.From, .int .i64 p0_a.To, .int .i64 p0_a.Delay, .int .i64 p0_a.Tokens], .blk b2 96 [.int .i64 p0_a.From, .int .i64 p0_a.To, .int .i64 p0_a.Delay, .int .i64 p0_a.Tokens], .blk b3 96 [.int .i64 p0_a.From, .int .i64 p0_a.To, .int .i64 p0_a.Delay, .int .i64 p0_a.Tokens]] := hs
  refine wpO_nil ?_
  obtain rfl := Option.some.inj hm
  refine wpL_ret (ret_cell rfl hf rfl hs (i := 1) rfl ag96 ti96 rfl ?_)
  exact ⟨_, rfl, rfl, hs.sel [] (by decide)⟩

set_option maxRecDepth 100000 in
theorem laws_toPlaceS_ok (F : Nat) (p0_a : List LPlace) (A_p0_a_1 : Option Addr) (n_p0_a_1 c_p0_a_1 : Nat) (hn_p0_a_1 : n_p0_a_1 = p0_a.length) (r : List GPlace) (W : World) (hm : laws_toPlaceS F p0_a = some r) (h_p0_a_1 : Rd W A_p0_a_1 ((recs LPlace.cells) p0_a)) :
    Calls Try.prog 78 [.slice A_p0_a_1 n_p0_a_1 c_p0_a_1].toArray W fun e w' => ∃ v, e = .returned v ∧ ∃ A52, ∃ n53, ∃ c54, v = .slice A52 n53 c54 ∧ n53 = r.length ∧ St [] W w' [.row A52 n53 c54 96 4 ((recs GPlace.cells) r)] := by
  subst hn_p0_a_1
  unfold laws_toPlaceS at hm
  refine Calls.enter (N := 23) Try.func78 rfl rfl rfl (fun a hf => ?_)
  have hs := St.start W
  obtain ⟨w, hw_⟩ : ∃ w, w = W := ⟨W, rfl⟩
  clear hw_ w
  refine wpL_seq ?_
  refine wpL_region ?_
  refine sY hf hs rfl rfl rfl (Y_assign rfl rfl) ?_; clear hf; intro a hf
  refine wpO_nil ?_
  refine wpL_seq ?_
  refine wpL_region ?_
  refine sY hf hs rfl rfl rfl (Y_move rfl rfl) ?_; clear hf; intro a hf
  refine sY hf hs rfl rfl rfl (Y_lenH rfl rfl el33 rfl) ?_; clear hf; intro a hf
  obtain ⟨xs3, hk2, hm⟩ := bind_some hm
  refine sMakeL (enc := (recs GPlace.cells)) hf hs rfl rfl rfl rfl rfl hk2 el37 ti96 rfl (recs_made (f := GPlace.cells) (z0 := (GPlace.mk 0 0 0 0)) rfl) ?_; clear hf hs; intro a w A1 hs hf
  have hs : St [] W w [.row A1 xs3.length xs3.length 96 4 ((recs GPlace.cells) xs3)] := hs
  refine sY hf hs rfl rfl rfl (Y_assign rfl rfl) ?_; clear hf; intro a hf
  refine wpO_nil ?_
  refine wpL_seq ?_
  refine wpL_seq ?_
  refine wpL_region ?_
  refine sY hf hs rfl rfl rfl (Y_assign rfl rfl) ?_; clear hf; intro a hf
  refine wpO_nil ?_
  obtain ⟨r39, hl40, hm⟩ := bind_some hm
  refine wpL_block (fun a w => ∃ xs37 : List GPlace, xs37 = r39 ∧ xs3.length = xs37.length ∧ Fr a 23 [(3, .slice A1 xs3.length xs3.length)] ∧ St [] W w [.row A1 xs3.length xs3.length 96 4 ((recs GPlace.cells) xs37)]) ?_ ?_
  · refine wpL_loop (fun n a w => ∃ xs25 : List GPlace, ∃ x27 : Int, laws_toPlaceS_L1 F p0_a n xs25 x27 = some r39 ∧ xs3.length = xs25.length ∧ Fr a 23 [(0, .slice A_p0_a_1 p0_a.length c_p0_a_1), (3, .slice A1 xs3.length xs3.length), (4, .int .i64 x27)] ∧ St [] W w [.row A1 xs3.length xs3.length 96 4 ((recs GPlace.cells) xs25)]) F ?_ ?_ ?_
    · exact ⟨xs3, 0, hl40, rfl, (FrD.pick (FrD.pick (FrD.pick hf.none hf rfl) hf rfl) hf rfl), hs⟩
    · rintro a w ⟨xs25, x27, h0_, -, -, -⟩; simp [laws_toPlaceS_L1] at h0_
    · rintro n42 a w ⟨xs25, x27, hm41, hn26, hf, hs⟩
      rw [laws_toPlaceS_L1] at hm41
      refine wpL_seq ?_
      refine wpL_seq ?_
      refine wpL_region ?_
      refine sY hf hs rfl rfl rfl (Y_move rfl rfl) ?_; clear hf; intro a hf
      refine sY hf hs rfl rfl rfl (Y_move rfl rfl) ?_; clear hf; intro a hf
      refine sY hf hs rfl rfl rfl (Y_lenH rfl rfl el33 rfl) ?_; clear hf; intro a hf
      refine sY hf hs rfl rfl rfl (Y_lss rfl rfl rfl) ?_; clear hf; intro a hf
      refine wpO_nil ?_
      refine wpL_cond hf rfl (fun hb43 => ?_) (fun hb43 => ?_)
      · have hm41 := bif_t hm41 hb43
        refine wpL_skip ?_
        refine wpL_seq ?_
        refine wpL_block0 ?_
        refine wpL_region ?_
        refine sY hf hs rfl rfl rfl (Y_move rfl rfl) ?_; clear hf; intro a hf
        refine sY hf hs rfl rfl rfl (Y_move rfl rfl) ?_; clear hf; intro a hf
        refine sY hf hs rfl rfl rfl (Y_move rfl rfl) ?_; clear hf; intro a hf
        refine sY hf hs rfl rfl rfl (Y_move rfl rfl) ?_; clear hf; intro a hf
        obtain ⟨q44, hi45, hm41⟩ := bind_some hm41
        obtain ⟨hi45a, hi45b, hi45q⟩ := idx_some hi45
        refine sY hf hs rfl rfl rfl (Y_index rfl rfl rfl el33 ti131 (Rd.isAt (h_p0_a_1.at hs) (recs_at (s := 4) LPlace.len hi45q (j := 0) rfl)) hi45a hi45b) ?_; clear hf; intro a hf
        refine sY hf hs rfl rfl rfl (Y_load_rdS rfl rfl (us := [.int .i64 q44.From, .int .i64 q44.To, .int .i64 q44.Delay, .int .i64 q44.Tokens]) (fun w hs => h_p0_a_1.at hs) (fun j u hj => recs_at (s := 4) LPlace.len hi45q hj) (Nat.succ_pos _) ag131 ti131 rfl) ?_; clear hf; intro a hf
        obtain ⟨r46, hc47, hm41⟩ := bind_some hm41
        refine sCall hf rfl rfl rfl rfl (cap := []) rfl rfl en146 (laws_toPlace_ok F q44 _ _ hc47) ?_; clear hf
        rintro _ w ⟨rfl, hs1⟩ a hf
        have hs : St [] W w [.row A1 xs3.length xs3.length 96 4 ((recs GPlace.cells) xs25)] := hs.ext hs1.below
        clear hs1
        obtain ⟨q48, hi49, hm41⟩ := bind_some hm41
        obtain ⟨hi49a, hi49b, hi49q⟩ := idx_some hi49
        refine sY hf hs rfl rfl rfl (Y_index rfl rfl rfl el37 ti96 (Rd.isAt (hs.rd (i := 0) rfl) (recs_at (s := 4) GPlace.len hi49q (j := 0) rfl)) hi49a (ltn hn26 hi49b)) ?_; clear hf; intro a hf
        obtain ⟨xs50, hu51, hm41⟩ := bind_some hm41
        refine sStoreL (i := 0) (us := [.int .i64 r46.From, .int .i64 r46.To, .int .i64 r46.Delay, .int .i64 r46.Tokens]) (enc := (recs GPlace.cells)) hf hs rfl rfl rfl rfl rfl rfl hn26 hu51 ti96 rfl rfl rfl rfl rfl (recs_length GPlace.len) (recs_set (s := 4) GPlace.len r46) ?_; clear hs; intro w hs
        have hs : St [] W w [.row A1 xs3.length xs3.length 96 4 ((recs GPlace.cells) xs50)] := hs
        refine wpO_nil ?_
        refine wpL_nil (Qb_normal ?_)
        refine wpL_region ?_
        refine sY hf hs rfl rfl rfl (Y_move rfl rfl) ?_; clear hf; intro a hf
        refine sY hf hs rfl rfl rfl (Y_add rfl rfl rfl) ?_; clear hf; intro a hf
        refine sY hf hs rfl rfl rfl (Y_assign rfl rfl) ?_; clear hf; intro a hf
        refine wpO_nil ?_
        refine wpL_nil (Ql_normal ?_)
        exact ⟨xs50, (IntKind.i64.wrap (x27 + 1)), hm41, ((hn26).trans (upd_len hu51).symm), (FrD.pick (FrD.pick (FrD.pick hf.none hf rfl) hf rfl) hf rfl), hs⟩
      · have hm41 := bif_f hm41 hb43
        refine wpL_exit (Ql_exit (Qb_exit ?_))
        exact ⟨xs25, Option.some.inj hm41, hn26, (FrD.pick hf.none hf rfl), hs⟩
  · rintro a w ⟨xs37, hr_, hn38, hf, hs⟩
    subst hr_
    try dsimp only at hm
    refine wpL_seq ?_
    refine wpL_region ?_
    refine sY hf hs rfl rfl rfl (Y_move rfl rfl) ?_; clear hf; intro a hf
    refine sY hf hs rfl rfl rfl (Y_assign rfl rfl) ?_; clear hf; intro a hf
    refine wpO_nil ?_
    obtain rfl := Option.some.inj hm
    refine wpL_ret (ret_tmp rfl hf rfl ?_)
    exact ⟨_, rfl, A1, xs3.length, xs3.length, rfl, hn38, hs⟩

set_option maxRecDepth 100000 in
theorem laws_toEventGraph_ok (F : Nat) (p0_a : LEventGraph) (A_p0_a_1 : Option Addr) (n_p0_a_1 c_p0_a_1 : Nat) (hn_p0_a_1 : n_p0_a_1 = p0_a.Places.length) (r : GEventGraph) (W : World) (hm : laws_toEventGraph F p0_a = some r) (h_p0_a_1 : Rd W A_p0_a_1 ((recs LPlace.cells) p0_a.Places)) :
    Calls Try.prog 26 [.agg #[.int .i64 p0_a.Events, .slice A_p0_a_1 n_p0_a_1 c_p0_a_1]].toArray W fun e w' => ∃ v, e = .returned v ∧ ∃ A10, ∃ n11, ∃ c12, v = .agg #[.int .i64 r.Events, .slice A10 n11 c12] ∧ n11 = r.Places.length ∧ St [] W w' [.row A10 n11 c12 96 4 ((recs GPlace.cells) r.Places)] := by
  subst hn_p0_a_1
  unfold laws_toEventGraph at hm
  refine Calls.enter (N := 12) Try.func26 rfl rfl rfl (fun a hf => ?_)
  have hs := St.start W
  obtain ⟨w, hw_⟩ : ∃ w, w = W := ⟨W, rfl⟩
  clear hw_ w
  refine wpL_seq ?_
  refine wpL_region ?_
  refine sBox hf hs rfl rfl rfl rfl rfl (cs := [.int .i64 p0_a.Events, .slice A_p0_a_1 p0_a.Places.length c_p0_a_1]) rfl ?_; clear hf hs; intro a w b1 hs hf
  have hs : St [] W w [.blk b1 35 [.int .i64 p0_a.Events, .slice A_p0_a_1 p0_a.Places.length c_p0_a_1]] := hs
  refine sAlloc hf hs rfl rfl rfl rfl ti39 ?_; clear hf hs; intro a w b2 hs hf
  have hs : St [] W w [.blk b1 35 [.int .i64 p0_a.Events, .slice A_p0_a_1 p0_a.Places.length c_p0_a_1], .blk b2 39 [.int .i64 0, .slice none 0 0]] := hs
  refine wpO_nil ?_
  refine wpL_seq ?_
  refine wpL_region ?_
  refine sAlloc hf hs rfl rfl rfl rfl ti39 ?_; clear hf hs; intro a w b3 hs hf
  have hs : St [] W w [.blk b1 35 [.int .i64 p0_a.Events, .slice A_p0_a_1 p0_a.Places.length c_p0_a_1], .blk b2 39 [.int .i64 0, .slice none 0 0], .blk b3 39 [.int .i64 0, .slice none 0 0]] := hs
  refine wpO_nil ?_
  refine wpL_seq ?_
  refine wpL_region ?_
  refine sY hf hs rfl rfl rfl (Y_fieldAddr rfl rfl fo35_0) ?_; clear hf; intro a hf
  refine sY hf hs rfl rfl rfl (Y_load_blk rfl rfl (i := 0) rfl rfl ag2) ?_; clear hf; intro a hf
  refine sY hf hs rfl rfl rfl (Y_fieldAddr rfl rfl fo39_0) ?_; clear hf; intro a hf
  refine sStore (i := 2) (us := [.int .i64 p0_a.Events]) hf hs rfl rfl rfl rfl rfl rfl ti2 rfl rfl rfl (Nat.le_of_ble_eq_true rfl) rfl ?_; clear hs; intro w hs
  have hs : St [] W w [.blk b1 35 [.int .i64 p0_a.Events, .slice A_p0_a_1 p0_a.Places.length c_p0_a_1], .blk b2 39 [.int .i64 0, .slice none 0 0], .blk b3 39 [.int .i64 p0_a.Events, .slice none 0 0]] := hs
  refine wpO_nil ?_
  refine wpL_seq ?_
  refine wpL_region ?_
  refine sY hf hs rfl rfl rfl (Y_fieldAddr rfl rfl fo35_1) ?_; clear hf; intro a hf
  refine sY hf hs rfl rfl rfl (Y_load_blk rfl rfl (i := 0) rfl rfl ag33) ?_; clear hf; intro a hf
  obtain ⟨r4, hc5, hm⟩ := bind_some hm
  refine sCall hf rfl rfl rfl rfl (cap := []) rfl rfl en78 (laws_toPlaceS_ok F p0_a.Places A_p0_a_1 p0_a.Places.length c_p0_a_1 rfl _ _ hc5 (h_p0_a_1.at hs)) ?_; clear hf
  rintro _ w ⟨A6, n7, c8, rfl, hn9, hs1⟩ a hf
  have hs : St [] W w [.blk b1 35 [.int .i64 p0_a.Events, .slice A_p0_a_1 p0_a.Places.length c_p0_a_1], .blk b2 39 [.int .i64 0, .slice none 0 0], .blk b3 39 [.int .i64 p0_a.Events, .slice none 0 0], .row A6 n7 c8 96 4 ((recs GPlace.cells) r4)] := hs.join hs1
  clear hs1
  refine sY hf hs rfl rfl rfl (Y_fieldAddr rfl rfl fo39_1) ?_; clear hf; intro a hf
  refine sStore (i := 2) (us := [.slice A6 n7 c8]) hf hs rfl rfl rfl rfl rfl rfl ti37 rfl rfl rfl (Nat.le_of_ble_eq_true rfl) rfl ?_; clear hs; intro w hs
  have hs : St [] W w [.blk b1 35 [.int .i64 p0_a.Events, .slice A_p0_a_1 p0_a.Places.length c_p0_a_1], .blk b2 39 [.int .i64 0, .slice none 0 0], .blk b3 39 [.int .i64 p0_a.Events, .slice A6 n7 c8], .row A6 n7 c8 96 4 ((recs GPlace.cells) r4)] := hs
  refine wpO_nil ?_
  refine wpL_seq ?_
  refine wpL_region ?_
  refine sY hf hs rfl rfl rfl (Y_load_blkS rfl rfl (i := 2) rfl ag39 ti39 rfl) ?_; clear hf; intro a hf
  refine sStore (i := 1) (us := [.int .i64 p0_a.Events, .slice A6 n7 c8]) hf hs rfl rfl rfl rfl rfl rfl ti39 rfl rfl rfl (Nat.le_of_ble_eq_true rfl) rfl ?_; clear hs; intro w hs
  have hs : St [] W w [.blk b1 35 [.int .i64 p0_a.Events, .slice A_p0_a_1 p0_a.Places.length c_p0_a_1], .blk b2 39 [.int .i64 p0_a.Events, .slice A6 n7 c8], .blk b3 39 [.int .i64 p0_a.Events, .slice A6 n7 c8], .row A6 n7 c8 96 4 ((recs GPlace.cells) r4)] := hs
  refine wpO_nil ?_
  obtain rfl := Option.some.inj hm
  refine wpL_ret (ret_cell rfl hf rfl hs (i := 1) rfl ag39 ti39 rfl ?_)
  exact ⟨_, rfl, A6, n7, c8, rfl, hn9, hs.sel [3] (by decide)⟩

set_option maxRecDepth 100000 in
theorem laws_toInt64S_ok (F : Nat) (p0_a : List Int) (A_p0_a_1 : Option Addr) (n_p0_a_1 c_p0_a_1 : Nat) (hn_p0_a_1 : n_p0_a_1 = p0_a.length) (r : List Int) (W : World) (hm : laws_toInt64S F p0_a = some r) (h_p0_a_1 : Rd W A_p0_a_1 (ints p0_a)) :
    Calls Try.prog 17 [.slice A_p0_a_1 n_p0_a_1 c_p0_a_1].toArray W fun e w' => ∃ v, e = .returned v ∧ ∃ A44, ∃ n45, ∃ c46, v = .slice A44 n45 c46 ∧ n45 = r.length ∧ St [] W w' [.row A44 n45 c46 2 1 (ints r)] := by
  subst hn_p0_a_1
  unfold laws_toInt64S at hm
  refine Calls.enter (N := 22) Try.func17 rfl rfl rfl (fun a hf => ?_)
  have hs := St.start W
  obtain ⟨w, hw_⟩ : ∃ w, w = W := ⟨W, rfl⟩
  clear hw_ w
  refine wpL_seq ?_
  refine wpL_region ?_
  refine sY hf hs rfl rfl rfl (Y_assign rfl rfl) ?_; clear hf; intro a hf
  refine wpO_nil ?_
  refine wpL_seq ?_
  refine wpL_region ?_
  refine sY hf hs rfl rfl rfl (Y_move rfl rfl) ?_; clear hf; intro a hf
  refine sY hf hs rfl rfl rfl (Y_lenH rfl rfl el23 rfl) ?_; clear hf; intro a hf
  obtain ⟨xs3, hk2, hm⟩ := bind_some hm
  refine sMakeL (enc := ints) hf hs rfl rfl rfl rfl rfl hk2 el23 ti2 rfl ints_made ?_; clear hf hs; intro a w A1 hs hf
  have hs : St [] W w [.row A1 xs3.length xs3.length 2 1 (ints xs3)] := hs
  refine sY hf hs rfl rfl rfl (Y_assign rfl rfl) ?_; clear hf; intro a hf
  refine wpO_nil ?_
  refine wpL_seq ?_
  refine wpL_seq ?_
  refine wpL_region ?_
  refine sY hf hs rfl rfl rfl (Y_assign rfl rfl) ?_; clear hf; intro a hf
  refine wpO_nil ?_
  obtain ⟨r33, hl34, hm⟩ := bind_some hm
  refine wpL_block (fun a w => ∃ xs31 : List Int, xs31 = r33 ∧ xs3.length = xs31.length ∧ Fr a 22 [(3, .slice A1 xs3.length xs3.length)] ∧ St [] W w [.row A1 xs3.length xs3.length 2 1 (ints xs31)]) ?_ ?_
  · refine wpL_loop (fun n a w => ∃ xs21 : List Int, ∃ x23 : Int, laws_toInt64S_L1 F p0_a n xs21 x23 = some r33 ∧ xs3.length = xs21.length ∧ Fr a 22 [(0, .slice A_p0_a_1 p0_a.length c_p0_a_1), (3, .slice A1 xs3.length xs3.length), (4, .int .i64 x23)] ∧ St [] W w [.row A1 xs3.length xs3.length 2 1 (ints xs21)]) F ?_ ?_ ?_
    · exact ⟨xs3, 0, hl34, rfl, (FrD.pick (FrD.pick (FrD.pick hf.none hf rfl) hf rfl) hf rfl), hs⟩
    · rintro a w ⟨xs21, x23, h0_, -, -, -⟩; simp [laws_toInt64S_L1] at h0_
    · rintro n36 a w ⟨xs21, x23, hm35, hn22, hf, hs⟩
      rw [laws_toInt64S_L1] at hm35
      refine wpL_seq ?_
      refine wpL_seq ?_
      refine wpL_region ?_
      refine sY hf hs rfl rfl rfl (Y_move rfl rfl) ?_; clear hf; intro a hf
      refine sY hf hs rfl rfl rfl (Y_move rfl rfl) ?_; clear hf; intro a hf
      refine sY hf hs rfl rfl rfl (Y_lenH rfl rfl el23 rfl) ?_; clear hf; intro a hf
      refine sY hf hs rfl rfl rfl (Y_lss rfl rfl rfl) ?_; clear hf; intro a hf
      refine wpO_nil ?_
      refine wpL_cond hf rfl (fun hb37 => ?_) (fun hb37 => ?_)
      · have hm35 := bif_t hm35 hb37
        refine wpL_skip ?_
        refine wpL_seq ?_
        refine wpL_block0 ?_
        refine wpL_region ?_
        refine sY hf hs rfl rfl rfl (Y_move rfl rfl) ?_; clear hf; intro a hf
        refine sY hf hs rfl rfl rfl (Y_move rfl rfl) ?_; clear hf; intro a hf
        refine sY hf hs rfl rfl rfl (Y_move rfl rfl) ?_; clear hf; intro a hf
        refine sY hf hs rfl rfl rfl (Y_move rfl rfl) ?_; clear hf; intro a hf
        obtain ⟨q38, hi39, hm35⟩ := bind_some hm35
        obtain ⟨hi39a, hi39b, hi39q⟩ := idx_some hi39
        refine sY hf hs rfl rfl rfl (Y_index rfl rfl rfl el23 ti2 (Rd.isAt (h_p0_a_1.at hs) (at1 (ints_at hi39q))) hi39a hi39b) ?_; clear hf; intro a hf
        refine sY hf hs rfl rfl rfl (Y_load_rd rfl rfl (fun w hs => h_p0_a_1.at hs) (at1 (ints_at hi39q)) ag2) ?_; clear hf; intro a hf
        obtain ⟨q40, hi41, hm35⟩ := bind_some hm35
        obtain ⟨hi41a, hi41b, hi41q⟩ := idx_some hi41
        refine sY hf hs rfl rfl rfl (Y_index rfl rfl rfl el23 ti2 (Rd.isAt (hs.rd (i := 0) rfl) (at1 (ints_at hi41q))) hi41a (ltn hn22 hi41b)) ?_; clear hf; intro a hf
        obtain ⟨xs42, hu43, hm35⟩ := bind_some hm35
        refine sStoreL (i := 0) (us := [.int .i64 q38]) (enc := ints) hf hs rfl rfl rfl rfl rfl rfl hn22 hu43 ti2 rfl rfl rfl rfl rfl ints_len1 (ints_set q38) ?_; clear hs; intro w hs
        have hs : St [] W w [.row A1 xs3.length xs3.length 2 1 (ints xs42)] := hs
        refine wpO_nil ?_
        refine wpL_nil (Qb_normal ?_)
        refine wpL_region ?_
        refine sY hf hs rfl rfl rfl (Y_move rfl rfl) ?_; clear hf; intro a hf
        refine sY hf hs rfl rfl rfl (Y_add rfl rfl rfl) ?_; clear hf; intro a hf
        refine sY hf hs rfl rfl rfl (Y_assign rfl rfl) ?_; clear hf; intro a hf
        refine wpO_nil ?_
        refine wpL_nil (Ql_normal ?_)
        exact ⟨xs42, (IntKind.i64.wrap (x23 + 1)), hm35, ((hn22).trans (upd_len hu43).symm), (FrD.pick (FrD.pick (FrD.pick hf.none hf rfl) hf rfl) hf rfl), hs⟩
      · have hm35 := bif_f hm35 hb37
        refine wpL_exit (Ql_exit (Qb_exit ?_))
        exact ⟨xs21, Option.some.inj hm35, hn22, (FrD.pick hf.none hf rfl), hs⟩
  · rintro a w ⟨xs31, hr_, hn32, hf, hs⟩
    subst hr_
    try dsimp only at hm
    refine wpL_seq ?_
    refine wpL_region ?_
    refine sY hf hs rfl rfl rfl (Y_move rfl rfl) ?_; clear hf; intro a hf
    refine sY hf hs rfl rfl rfl (Y_assign rfl rfl) ?_; clear hf; intro a hf
    refine wpO_nil ?_
    obtain rfl := Option.some.inj hm
    refine wpL_ret (ret_tmp rfl hf rfl ?_)
    exact ⟨_, rfl, A1, xs3.length, xs3.length, rfl, hn32, hs⟩

set_option maxRecDepth 100000 in
theorem spec_l01In_ok (F : Nat) (p0_n : Int) (p1_low : Int) (p2_high : Int) (r : Bool) (W : World) (hm : spec_l01In F p0_n p1_low p2_high = some r) :
    Calls Try.prog 63 [.int .i64 p0_n, .int .i64 p1_low, .int .i64 p2_high].toArray W fun e w' => ∃ v, e = .returned v ∧ v = .bool r ∧ St [] W w' [] := by
  unfold spec_l01In at hm
  refine Calls.enter (N := 15) Try.func63 rfl rfl rfl (fun a hf => ?_)
  have hs := St.start W
  obtain ⟨w, hw_⟩ : ∃ w, w = W := ⟨W, rfl⟩
  clear hw_ w
  refine wpL_seq ?_
  refine wpL_region ?_
  refine sY hf hs rfl rfl rfl (Y_assign rfl rfl) ?_; clear hf; intro a hf
  refine wpO_nil ?_
  refine wpL_seq ?_
  obtain ⟨r3, hj4, hm⟩ := bind_some hm
  refine wpL_cut (fun a w => ∃ b2 : Bool, b2 = r3 ∧ Fr a 15 [(6, .bool b2)] ∧ St [] W w []) ?_ ?_
  · refine wpL_region ?_
    refine sY hf hs rfl rfl rfl (Y_move rfl rfl) ?_; clear hf; intro a hf
    refine sY hf hs rfl rfl rfl (Y_move rfl rfl) ?_; clear hf; intro a hf
    refine sY hf hs rfl rfl rfl (Y_geq rfl rfl rfl) ?_; clear hf; intro a hf
    refine sY hf hs rfl rfl rfl (Y_move rfl rfl) ?_; clear hf; intro a hf
    refine bsplit (decide (p1_low ≤ p0_n)) (fun hb5 => ?_) (fun hb5 => ?_)
    · have hj4 := bif_t hj4 hb5
      refine sYg hf hs rfl rfl rfl (congrArg (fun b => some (Value.bool b)) hb5) rfl rfl rfl (Y_move rfl rfl) ?_; clear hf; intro a hf
      refine sYg hf hs rfl rfl rfl (congrArg (fun b => some (Value.bool b)) hb5) rfl rfl rfl (Y_move rfl rfl) ?_; clear hf; intro a hf
      refine sYg hf hs rfl rfl rfl (congrArg (fun b => some (Value.bool b)) hb5) rfl rfl rfl (Y_leq rfl rfl rfl) ?_; clear hf; intro a hf
      refine sY hf hs rfl rfl rfl (Y_pickT rfl (congrArg (fun b => some (Value.bool b)) hb5) rfl) ?_; clear hf; intro a hf
      refine sY hf hs rfl rfl rfl (Y_assign rfl rfl) ?_; clear hf; intro a hf
      refine wpO_nil ?_
      refine wpL_nil (then_normal ?_)
      exact ⟨(decide (p0_n ≤ p2_high)), Option.some.inj hj4, (FrD.pick hf.none hf rfl), hs⟩
    · have hj4 := bif_f hj4 hb5
      refine sNo hf rfl rfl rfl (congrArg (fun b => some (Value.bool b)) hb5) rfl rfl rfl ?_; clear hf; intro a hf
      refine sNo hf rfl rfl rfl (congrArg (fun b => some (Value.bool b)) hb5) rfl rfl rfl ?_; clear hf; intro a hf
      refine sNo hf rfl rfl rfl (congrArg (fun b => some (Value.bool b)) hb5) rfl rfl rfl ?_; clear hf; intro a hf
      refine sY hf hs rfl rfl rfl (Y_pickF rfl (congrArg (fun b => some (Value.bool b)) hb5) rfl) ?_; clear hf; intro a hf
      refine sY hf hs rfl rfl rfl (Y_assign rfl rfl) ?_; clear hf; intro a hf
      refine wpO_nil ?_
      refine wpL_nil (then_normal ?_)
      exact ⟨false, Option.some.inj hj4, (FrD.pick hf.none hf rfl), hs⟩
  · rintro a w ⟨b2, hr_, hf, hs⟩
    subst hr_
    try dsimp only at hm
    obtain rfl := Option.some.inj hm
    refine wpL_ret (ret_tmp rfl hf rfl ?_)
    exact ⟨_, rfl, rfl, hs⟩

set_option maxRecDepth 100000 in
theorem spec_l11Place_ok (F : Nat) (p0_p : GPlace) (p1_events : Int) (r : Bool) (W : World) (hm : spec_l11Place F p0_p p1_events = some r) :
    Calls Try.prog 144 [.agg #[.int .i64 p0_p.From, .int .i64 p0_p.To, .int .i64 p0_p.Delay, .int .i64 p0_p.Tokens], .int .i64 p1_events].toArray W fun e w' => ∃ v, e = .returned v ∧ v = .bool r ∧ St [] W w' [] := by
  unfold spec_l11Place at hm
  refine Calls.enter (N := 27) Try.func144 rfl rfl rfl (fun a hf => ?_)
  have hs := St.start W
  obtain ⟨w, hw_⟩ : ∃ w, w = W := ⟨W, rfl⟩
  clear hw_ w
  refine wpL_seq ?_
  refine wpL_region ?_
  refine sBox hf hs rfl rfl rfl rfl rfl (cs := [.int .i64 p0_p.From, .int .i64 p0_p.To, .int .i64 p0_p.Delay, .int .i64 p0_p.Tokens]) rfl ?_; clear hf hs; intro a w b1 hs hf
  have hs : St [] W w [.blk b1 96 [.int .i64 p0_p.From, .int .i64 p0_p.To, .int .i64 p0_p.Delay, .int .i64 p0_p.Tokens]] := hs
  refine sY hf hs rfl rfl rfl (Y_assign rfl rfl) ?_; clear hf; intro a hf
  refine wpO_nil ?_
  refine wpL_seq ?_
  obtain ⟨r14, hj15, hm⟩ := bind_some hm
  refine wpL_cut (fun a w => ∃ b13 : Bool, b13 = r14 ∧ Fr a 27 [(4, .bool b13)] ∧ St [] W w []) ?_ ?_
  · refine wpL_region ?_
    refine sY hf hs rfl rfl rfl (Y_fieldAddr rfl rfl fo96_0) ?_; clear hf; intro a hf
    refine sY hf hs rfl rfl rfl (Y_load_blk rfl rfl (i := 0) rfl rfl ag2) ?_; clear hf; intro a hf
    refine sY hf hs rfl rfl rfl (Y_move rfl rfl) ?_; clear hf; intro a hf
    refine sY hf hs rfl rfl rfl (Y_sub rfl rfl rfl) ?_; clear hf; intro a hf
    obtain ⟨r16, hc17, hj15⟩ := bind_some hj15
    refine sCall hf rfl rfl rfl rfl (cap := []) rfl rfl en63 (spec_l01In_ok F p0_p.From 0 (IntKind.i64.wrap (p1_events - 1)) _ _ hc17) ?_; clear hf
    rintro _ w ⟨rfl, hs1⟩ a hf
    have hs : St [] W w [.blk b1 96 [.int .i64 p0_p.From, .int .i64 p0_p.To, .int .i64 p0_p.Delay, .int .i64 p0_p.Tokens]] := hs.ext hs1.below
    clear hs1
    refine sY hf hs rfl rfl rfl (Y_move rfl rfl) ?_; clear hf; intro a hf
    refine bsplit r16 (fun hb18 => ?_) (fun hb18 => ?_)
    · have hj15 := bif_t hj15 hb18
      refine sYg hf hs rfl rfl rfl (congrArg (fun b => some (Value.bool b)) hb18) rfl rfl rfl (Y_fieldAddr rfl rfl fo96_1) ?_; clear hf; intro a hf
      refine sYg hf hs rfl rfl rfl (congrArg (fun b => some (Value.bool b)) hb18) rfl rfl rfl (Y_load_blk rfl rfl (i := 0) rfl rfl ag2) ?_; clear hf; intro a hf
      refine sYg hf hs rfl rfl rfl (congrArg (fun b => some (Value.bool b)) hb18) rfl rfl rfl (Y_move rfl rfl) ?_; clear hf; intro a hf
      refine sYg hf hs rfl rfl rfl (congrArg (fun b => some (Value.bool b)) hb18) rfl rfl rfl (Y_sub rfl rfl rfl) ?_; clear hf; intro a hf
      obtain ⟨r19, hc20, hj15⟩ := bind_some hj15
      refine sCallg hf rfl rfl rfl (congrArg (fun b => some (Value.bool b)) hb18) rfl rfl rfl rfl (cap := []) rfl rfl en63 (spec_l01In_ok F p0_p.To 0 (IntKind.i64.wrap (p1_events - 1)) _ _ hc20) ?_; clear hf
      rintro _ w ⟨rfl, hs1⟩ a hf
      have hs : St [] W w [.blk b1 96 [.int .i64 p0_p.From, .int .i64 p0_p.To, .int .i64 p0_p.Delay, .int .i64 p0_p.Tokens]] := hs.ext hs1.below
      clear hs1
      refine sY hf hs rfl rfl rfl (Y_pickT rfl (congrArg (fun b => some (Value.bool b)) hb18) rfl) ?_; clear hf; intro a hf
      refine sY hf hs rfl rfl rfl (Y_move rfl rfl) ?_; clear hf; intro a hf
      refine bsplit r19 (fun hb21 => ?_) (fun hb21 => ?_)
      · have hj15 := bif_t hj15 hb21
        refine sYg hf hs rfl rfl rfl (congrArg (fun b => some (Value.bool b)) hb21) rfl rfl rfl (Y_fieldAddr rfl rfl fo96_2) ?_; clear hf; intro a hf
        refine sYg hf hs rfl rfl rfl (congrArg (fun b => some (Value.bool b)) hb21) rfl rfl rfl (Y_load_blk rfl rfl (i := 0) rfl rfl ag2) ?_; clear hf; intro a hf
        obtain ⟨r22, hc23, hj15⟩ := bind_some hj15
        refine sCallg hf rfl rfl rfl (congrArg (fun b => some (Value.bool b)) hb21) rfl rfl rfl rfl (cap := []) rfl rfl en63 (spec_l01In_ok F p0_p.Delay 0 1000 _ _ hc23) ?_; clear hf
        rintro _ w ⟨rfl, hs1⟩ a hf
        have hs : St [] W w [.blk b1 96 [.int .i64 p0_p.From, .int .i64 p0_p.To, .int .i64 p0_p.Delay, .int .i64 p0_p.Tokens]] := hs.ext hs1.below
        clear hs1
        refine sY hf hs rfl rfl rfl (Y_pickT rfl (congrArg (fun b => some (Value.bool b)) hb21) rfl) ?_; clear hf; intro a hf
        refine sY hf hs rfl rfl rfl (Y_move rfl rfl) ?_; clear hf; intro a hf
        refine bsplit r22 (fun hb24 => ?_) (fun hb24 => ?_)
        · have hj15 := bif_t hj15 hb24
          refine sYg hf hs rfl rfl rfl (congrArg (fun b => some (Value.bool b)) hb24) rfl rfl rfl (Y_fieldAddr rfl rfl fo96_3) ?_; clear hf; intro a hf
          refine sYg hf hs rfl rfl rfl (congrArg (fun b => some (Value.bool b)) hb24) rfl rfl rfl (Y_load_blk rfl rfl (i := 0) rfl rfl ag2) ?_; clear hf; intro a hf
          obtain ⟨r25, hc26, hj15⟩ := bind_some hj15
          refine sCallg hf rfl rfl rfl (congrArg (fun b => some (Value.bool b)) hb24) rfl rfl rfl rfl (cap := []) rfl rfl en63 (spec_l01In_ok F p0_p.Tokens 0 5 _ _ hc26) ?_; clear hf
          rintro _ w ⟨rfl, hs1⟩ a hf
          have hs : St [] W w [.blk b1 96 [.int .i64 p0_p.From, .int .i64 p0_p.To, .int .i64 p0_p.Delay, .int .i64 p0_p.Tokens]] := hs.ext hs1.below
          clear hs1
          refine sY hf hs rfl rfl rfl (Y_pickT rfl (congrArg (fun b => some (Value.bool b)) hb24) rfl) ?_; clear hf; intro a hf
          refine sY hf hs rfl rfl rfl (Y_assign rfl rfl) ?_; clear hf; intro a hf
          refine wpO_nil ?_
          refine wpL_nil (then_normal ?_)
          exact ⟨r25, Option.some.inj hj15, (FrD.pick hf.none hf rfl), hs.sel [] (by decide)⟩
        · have hj15 := bif_f hj15 hb24
          refine sNo hf rfl rfl rfl (congrArg (fun b => some (Value.bool b)) hb24) rfl rfl rfl ?_; clear hf; intro a hf
          refine sNo hf rfl rfl rfl (congrArg (fun b => some (Value.bool b)) hb24) rfl rfl rfl ?_; clear hf; intro a hf
          refine sNo hf rfl rfl rfl (congrArg (fun b => some (Value.bool b)) hb24) rfl rfl rfl ?_; clear hf; intro a hf
          refine sY hf hs rfl rfl rfl (Y_pickF rfl (congrArg (fun b => some (Value.bool b)) hb24) rfl) ?_; clear hf; intro a hf
          refine sY hf hs rfl rfl rfl (Y_assign rfl rfl) ?_; clear hf; intro a hf
          refine wpO_nil ?_
          refine wpL_nil (then_normal ?_)
          exact ⟨false, Option.some.inj hj15, (FrD.pick hf.none hf rfl), hs.sel [] (by decide)⟩
      · have hj15 := bif_f hj15 hb21
        refine sNo hf rfl rfl rfl (congrArg (fun b => some (Value.bool b)) hb21) rfl rfl rfl ?_; clear hf; intro a hf
        refine sNo hf rfl rfl rfl (congrArg (fun b => some (Value.bool b)) hb21) rfl rfl rfl ?_; clear hf; intro a hf
        refine sNo hf rfl rfl rfl (congrArg (fun b => some (Value.bool b)) hb21) rfl rfl rfl ?_; clear hf; intro a hf
        refine sY hf hs rfl rfl rfl (Y_pickF rfl (congrArg (fun b => some (Value.bool b)) hb21) rfl) ?_; clear hf; intro a hf
        refine sY hf hs rfl rfl rfl (Y_move rfl rfl) ?_; clear hf; intro a hf
        refine sNo hf rfl rfl rfl rfl rfl rfl rfl ?_; clear hf; intro a hf
        refine sNo hf rfl rfl rfl rfl rfl rfl rfl ?_; clear hf; intro a hf
        refine sNo hf rfl rfl rfl rfl rfl rfl rfl ?_; clear hf; intro a hf
        refine sY hf hs rfl rfl rfl (Y_pickF rfl rfl rfl) ?_; clear hf; intro a hf
        refine sY hf hs rfl rfl rfl (Y_assign rfl rfl) ?_; clear hf; intro a hf
        refine wpO_nil ?_
        refine wpL_nil (then_normal ?_)
        exact ⟨false, Option.some.inj hj15, (FrD.pick hf.none hf rfl), hs.sel [] (by decide)⟩
    · have hj15 := bif_f hj15 hb18
      refine sNo hf rfl rfl rfl (congrArg (fun b => some (Value.bool b)) hb18) rfl rfl rfl ?_; clear hf; intro a hf
      refine sNo hf rfl rfl rfl (congrArg (fun b => some (Value.bool b)) hb18) rfl rfl rfl ?_; clear hf; intro a hf
      refine sNo hf rfl rfl rfl (congrArg (fun b => some (Value.bool b)) hb18) rfl rfl rfl ?_; clear hf; intro a hf
      refine sNo hf rfl rfl rfl (congrArg (fun b => some (Value.bool b)) hb18) rfl rfl rfl ?_; clear hf; intro a hf
      refine sNo hf rfl rfl rfl (congrArg (fun b => some (Value.bool b)) hb18) rfl rfl rfl ?_; clear hf; intro a hf
      refine sY hf hs rfl rfl rfl (Y_pickF rfl (congrArg (fun b => some (Value.bool b)) hb18) rfl) ?_; clear hf; intro a hf
      refine sY hf hs rfl rfl rfl (Y_move rfl rfl) ?_; clear hf; intro a hf
      refine sNo hf rfl rfl rfl rfl rfl rfl rfl ?_; clear hf; intro a hf
      refine sNo hf rfl rfl rfl rfl rfl rfl rfl ?_; clear hf; intro a hf
      refine sNo hf rfl rfl rfl rfl rfl rfl rfl ?_; clear hf; intro a hf
      refine sY hf hs rfl rfl rfl (Y_pickF rfl rfl rfl) ?_; clear hf; intro a hf
      refine sY hf hs rfl rfl rfl (Y_move rfl rfl) ?_; clear hf; intro a hf
      refine sNo hf rfl rfl rfl rfl rfl rfl rfl ?_; clear hf; intro a hf
      refine sNo hf rfl rfl rfl rfl rfl rfl rfl ?_; clear hf; intro a hf
      refine sNo hf rfl rfl rfl rfl rfl rfl rfl ?_; clear hf; intro a hf
      refine sY hf hs rfl rfl rfl (Y_pickF rfl rfl rfl) ?_; clear hf; intro a hf
      refine sY hf hs rfl rfl rfl (Y_assign rfl rfl) ?_; clear hf; intro a hf
      refine wpO_nil ?_
      refine wpL_nil (then_normal ?_)
      exact ⟨false, Option.some.inj hj15, (FrD.pick hf.none hf rfl), hs.sel [] (by decide)⟩
  · rintro a w ⟨b13, hr_, hf, hs⟩
    subst hr_
    try dsimp only at hm
    obtain rfl := Option.some.inj hm
    refine wpL_ret (ret_tmp rfl hf rfl ?_)
    exact ⟨_, rfl, rfl, hs⟩

set_option maxRecDepth 100000 in
theorem spec_IsEventGraph_ok (F : Nat) (p0_g : GEventGraph) (A_p0_g_1 : Option Addr) (n_p0_g_1 c_p0_g_1 : Nat) (hn_p0_g_1 : n_p0_g_1 = p0_g.Places.length) (r : Bool) (W : World) (hm : spec_IsEventGraph F p0_g = some r) (h_p0_g_1 : Rd W A_p0_g_1 ((recs GPlace.cells) p0_g.Places)) :
    Calls Try.prog 75 [.agg #[.int .i64 p0_g.Events, .slice A_p0_g_1 n_p0_g_1 c_p0_g_1]].toArray W fun e w' => ∃ v, e = .returned v ∧ v = .bool r ∧ St [] W w' [] := by
  subst hn_p0_g_1
  unfold spec_IsEventGraph at hm
  refine Calls.enter (N := 29) Try.func75 rfl rfl rfl (fun a hf => ?_)
  have hs := St.start W
  obtain ⟨w, hw_⟩ : ∃ w, w = W := ⟨W, rfl⟩
  clear hw_ w
  refine wpL_seq ?_
  refine wpL_region ?_
  refine sBox hf hs rfl rfl rfl rfl rfl (cs := [.int .i64 p0_g.Events, .slice A_p0_g_1 p0_g.Places.length c_p0_g_1]) rfl ?_; clear hf hs; intro a w b1 hs hf
  have hs : St [] W w [.blk b1 39 [.int .i64 p0_g.Events, .slice A_p0_g_1 p0_g.Places.length c_p0_g_1]] := hs
  refine sY hf hs rfl rfl rfl (Y_assign rfl rfl) ?_; clear hf; intro a hf
  refine wpO_nil ?_
  refine wpL_seq ?_
  refine wpL_seq ?_
  refine wpL_region ?_
  refine sY hf hs rfl rfl rfl (Y_assign rfl rfl) ?_; clear hf; intro a hf
  refine wpO_nil ?_
  obtain ⟨r22, hl23, hm⟩ := bind_some hm
  refine wpL_block (fun a w => Sum.inr () = r22 ∧ Fr a 29 [(1, .pointer (some ⟨b1, 0, none⟩))] ∧ St [] W w [.blk b1 39 [.int .i64 p0_g.Events, .slice A_p0_g_1 p0_g.Places.length c_p0_g_1]]) ?_ ?_
  · refine wpL_loop (fun n a w => ∃ x15 : Int, spec_IsEventGraph_L1 F p0_g n x15 = some r22 ∧ Fr a 29 [(1, .pointer (some ⟨b1, 0, none⟩)), (3, .int .i64 x15)] ∧ St [] W w [.blk b1 39 [.int .i64 p0_g.Events, .slice A_p0_g_1 p0_g.Places.length c_p0_g_1]]) F ?_ ?_ ?_
    · exact ⟨0, hl23, (FrD.pick (FrD.pick hf.none hf rfl) hf rfl), hs⟩
    · rintro a w ⟨x15, h0_, -, -⟩; simp [spec_IsEventGraph_L1] at h0_
    · rintro n25 a w ⟨x15, hm24, hf, hs⟩
      rw [spec_IsEventGraph_L1] at hm24
      refine wpL_seq ?_
      refine wpL_seq ?_
      refine wpL_region ?_
      refine sY hf hs rfl rfl rfl (Y_move rfl rfl) ?_; clear hf; intro a hf
      refine sY hf hs rfl rfl rfl (Y_fieldAddr rfl rfl fo39_1) ?_; clear hf; intro a hf
      refine sY hf hs rfl rfl rfl (Y_load_blk rfl rfl (i := 0) rfl rfl ag37) ?_; clear hf; intro a hf
      refine sY hf hs rfl rfl rfl (Y_lenH rfl rfl el37 rfl) ?_; clear hf; intro a hf
      refine sY hf hs rfl rfl rfl (Y_lss rfl rfl rfl) ?_; clear hf; intro a hf
      refine wpO_nil ?_
      refine wpL_cond hf rfl (fun hb26 => ?_) (fun hb26 => ?_)
      · have hm24 := bif_t hm24 hb26
        refine wpL_skip ?_
        refine wpL_seq ?_
        refine wpL_block0 ?_
        refine wpL_seq ?_
        refine wpL_draw (by kernel_rfl) (by kernel_rfl) hs ?_
        refine qY hf rfl rfl rfl (Y_fieldAddr rfl rfl fo39_1) ?_; clear hf; intro a hf
        refine qY hf rfl rfl rfl (Y_load_blk rfl rfl (i := 0) rfl rfl ag37) ?_; clear hf; intro a hf
        refine qY hf rfl rfl rfl (Y_move rfl rfl) ?_; clear hf; intro a hf
        obtain ⟨q27, hi28, hm24⟩ := bind_some hm24
        obtain ⟨hi28a, hi28b, hi28q⟩ := idx_some hi28
        refine qY hf rfl rfl rfl (Y_index rfl rfl rfl el37 ti96 (Rd.isAt (h_p0_g_1.at hs) (recs_at (s := 4) GPlace.len hi28q (j := 0) rfl)) hi28a hi28b) ?_; clear hf; intro a hf
        refine qY hf rfl rfl rfl (Y_load_rdS rfl rfl (us := [.int .i64 q27.From, .int .i64 q27.To, .int .i64 q27.Delay, .int .i64 q27.Tokens]) (fun w hs => h_p0_g_1.at hs) (fun j u hj => recs_at (s := 4) GPlace.len hi28q hj) (Nat.succ_pos _) ag96 ti96 rfl) ?_; clear hf; intro a hf
        refine qY hf rfl rfl rfl (Y_fieldAddr rfl rfl fo39_0) ?_; clear hf; intro a hf
        refine qY hf rfl rfl rfl (Y_load_blk rfl rfl (i := 0) rfl rfl ag2) ?_; clear hf; intro a hf
        obtain ⟨r29, hc30, hm24⟩ := bind_some hm24
        refine qCall hf rfl rfl rfl rfl (cap := []) rfl rfl en144 (v := .bool r29) (fun w hs => Calls.scal (spec_l11Place_ok F q27 p0_g.Events _ _ hc30)) ?_; clear hf; intro a hf
        refine qY hf rfl rfl rfl (Y_not rfl rfl) ?_; clear hf; intro a hf
        refine qNil ?_; clear hs; intro w hs
        refine wpL_cond hf rfl (fun hb31 => ?_) (fun hb31 => ?_)
        · have hm24 := bif_t hm24 hb31
          refine wpL_seq ?_
          refine wpL_region ?_
          refine sY hf hs rfl rfl rfl (Y_assign rfl rfl) ?_; clear hf; intro a hf
          refine wpO_nil ?_
          obtain rfl := Option.some.inj hm24
          try dsimp only at hm
          obtain rfl := Option.some.inj hm
          refine wpL_ret (Qb_ret (Ql_ret (Qb_ret (ret_tmp rfl hf rfl ?_))))
          exact ⟨_, rfl, rfl, hs.sel [] (by decide)⟩
        · have hm24 := bif_f hm24 hb31
          refine wpL_skip ?_
          refine wpL_nil (Qb_normal ?_)
          refine wpL_region ?_
          refine sY hf hs rfl rfl rfl (Y_move rfl rfl) ?_; clear hf; intro a hf
          refine sY hf hs rfl rfl rfl (Y_add rfl rfl rfl) ?_; clear hf; intro a hf
          refine sY hf hs rfl rfl rfl (Y_assign rfl rfl) ?_; clear hf; intro a hf
          refine wpO_nil ?_
          refine wpL_nil (Ql_normal ?_)
          exact ⟨(IntKind.i64.wrap (x15 + 1)), hm24, (FrD.pick (FrD.pick hf.none hf rfl) hf rfl), hs⟩
      · have hm24 := bif_f hm24 hb26
        refine wpL_exit (Ql_exit (Qb_exit ?_))
        exact ⟨Option.some.inj hm24, (FrD.pick hf.none hf rfl), hs⟩
  · rintro a w ⟨hr_, hf, hs⟩
    subst hr_
    try dsimp only at hm
    refine wpL_seq ?_
    obtain ⟨r36, hj37, hm⟩ := bind_some hm
    refine wpL_cut (fun a w => ∃ b35 : Bool, b35 = r36 ∧ Fr a 29 [(2, .bool b35)] ∧ St [] W w []) ?_ ?_
    · refine wpL_region ?_
      refine sY hf hs rfl rfl rfl (Y_fieldAddr rfl rfl fo39_0) ?_; clear hf; intro a hf
      refine sY hf hs rfl rfl rfl (Y_load_blk rfl rfl (i := 0) rfl rfl ag2) ?_; clear hf; intro a hf
      obtain ⟨r38, hc39, hj37⟩ := bind_some hj37
      refine sCall hf rfl rfl rfl rfl (cap := []) rfl rfl en63 (spec_l01In_ok F p0_g.Events 1 10 _ _ hc39) ?_; clear hf
      rintro _ w ⟨rfl, hs1⟩ a hf
      have hs : St [] W w [.blk b1 39 [.int .i64 p0_g.Events, .slice A_p0_g_1 p0_g.Places.length c_p0_g_1]] := hs.ext hs1.below
      clear hs1
      refine sY hf hs rfl rfl rfl (Y_move rfl rfl) ?_; clear hf; intro a hf
      refine bsplit r38 (fun hb40 => ?_) (fun hb40 => ?_)
      · have hj37 := bif_t hj37 hb40
        refine sYg hf hs rfl rfl rfl (congrArg (fun b => some (Value.bool b)) hb40) rfl rfl rfl (Y_fieldAddr rfl rfl fo39_1) ?_; clear hf; intro a hf
        refine sYg hf hs rfl rfl rfl (congrArg (fun b => some (Value.bool b)) hb40) rfl rfl rfl (Y_load_blk rfl rfl (i := 0) rfl rfl ag37) ?_; clear hf; intro a hf
        refine sYg hf hs rfl rfl rfl (congrArg (fun b => some (Value.bool b)) hb40) rfl rfl rfl (Y_lenH rfl rfl el37 rfl) ?_; clear hf; intro a hf
        refine sYg hf hs rfl rfl rfl (congrArg (fun b => some (Value.bool b)) hb40) rfl rfl rfl (Y_leq rfl rfl rfl) ?_; clear hf; intro a hf
        refine sY hf hs rfl rfl rfl (Y_pickT rfl (congrArg (fun b => some (Value.bool b)) hb40) rfl) ?_; clear hf; intro a hf
        refine sY hf hs rfl rfl rfl (Y_assign rfl rfl) ?_; clear hf; intro a hf
        refine wpO_nil ?_
        refine wpL_nil (then_normal ?_)
        exact ⟨(decide ((p0_g.Places.length : Int) ≤ 30)), Option.some.inj hj37, (FrD.pick hf.none hf rfl), hs.sel [] (by decide)⟩
      · have hj37 := bif_f hj37 hb40
        refine sNo hf rfl rfl rfl (congrArg (fun b => some (Value.bool b)) hb40) rfl rfl rfl ?_; clear hf; intro a hf
        refine sNo hf rfl rfl rfl (congrArg (fun b => some (Value.bool b)) hb40) rfl rfl rfl ?_; clear hf; intro a hf
        refine sNo hf rfl rfl rfl (congrArg (fun b => some (Value.bool b)) hb40) rfl rfl rfl ?_; clear hf; intro a hf
        refine sNo hf rfl rfl rfl (congrArg (fun b => some (Value.bool b)) hb40) rfl rfl rfl ?_; clear hf; intro a hf
        refine sY hf hs rfl rfl rfl (Y_pickF rfl (congrArg (fun b => some (Value.bool b)) hb40) rfl) ?_; clear hf; intro a hf
        refine sY hf hs rfl rfl rfl (Y_assign rfl rfl) ?_; clear hf; intro a hf
        refine wpO_nil ?_
        refine wpL_nil (then_normal ?_)
        exact ⟨false, Option.some.inj hj37, (FrD.pick hf.none hf rfl), hs.sel [] (by decide)⟩
    · rintro a w ⟨b35, hr_, hf, hs⟩
      subst hr_
      try dsimp only at hm
      obtain rfl := Option.some.inj hm
      refine wpL_ret (ret_tmp rfl hf rfl ?_)
      exact ⟨_, rfl, rfl, hs⟩

set_option maxRecDepth 100000 in
theorem spec_l01Within_ok (F : Nat) (p0_list : List Int) (A_p0_list_1 : Option Addr) (n_p0_list_1 c_p0_list_1 : Nat) (hn_p0_list_1 : n_p0_list_1 = p0_list.length) (p1_most : Int) (p2_low : Int) (p3_high : Int) (r : Bool) (W : World) (hm : spec_l01Within F p0_list p1_most p2_low p3_high = some r) (h_p0_list_1 : Rd W A_p0_list_1 (ints p0_list)) :
    Calls Try.prog 152 [.slice A_p0_list_1 n_p0_list_1 c_p0_list_1, .int .i64 p1_most, .int .i64 p2_low, .int .i64 p3_high].toArray W fun e w' => ∃ v, e = .returned v ∧ v = .bool r ∧ St [] W w' [] := by
  subst hn_p0_list_1
  unfold spec_l01Within at hm
  refine Calls.enter (N := 28) Try.func152 rfl rfl rfl (fun a hf => ?_)
  have hs := St.start W
  obtain ⟨w, hw_⟩ : ∃ w, w = W := ⟨W, rfl⟩
  clear hw_ w
  refine wpL_seq ?_
  refine wpL_region ?_
  refine sY hf hs rfl rfl rfl (Y_assign rfl rfl) ?_; clear hf; intro a hf
  refine wpO_nil ?_
  refine wpL_seq ?_
  refine wpL_seq ?_
  refine wpL_region ?_
  refine sY hf hs rfl rfl rfl (Y_assign rfl rfl) ?_; clear hf; intro a hf
  refine wpO_nil ?_
  obtain ⟨r21, hl22, hm⟩ := bind_some hm
  refine wpL_block (fun a w => Sum.inr () = r21 ∧ Fr a 28 [(0, .slice A_p0_list_1 p0_list.length c_p0_list_1), (1, .int .i64 p1_most)] ∧ St [] W w []) ?_ ?_
  · refine wpL_loop (fun n a w => ∃ x14 : Int, spec_l01Within_L1 F p0_list p2_low p3_high n x14 = some r21 ∧ Fr a 28 [(0, .slice A_p0_list_1 p0_list.length c_p0_list_1), (1, .int .i64 p1_most), (2, .int .i64 p2_low), (3, .int .i64 p3_high), (9, .int .i64 x14)] ∧ St [] W w []) F ?_ ?_ ?_
    · exact ⟨0, hl22, (FrD.pick (FrD.pick (FrD.pick (FrD.pick (FrD.pick hf.none hf rfl) hf rfl) hf rfl) hf rfl) hf rfl), hs⟩
    · rintro a w ⟨x14, h0_, -, -⟩; simp [spec_l01Within_L1] at h0_
    · rintro n24 a w ⟨x14, hm23, hf, hs⟩
      rw [spec_l01Within_L1] at hm23
      refine wpL_seq ?_
      refine wpL_seq ?_
      refine wpL_region ?_
      refine sY hf hs rfl rfl rfl (Y_move rfl rfl) ?_; clear hf; intro a hf
      refine sY hf hs rfl rfl rfl (Y_move rfl rfl) ?_; clear hf; intro a hf
      refine sY hf hs rfl rfl rfl (Y_lenH rfl rfl el23 rfl) ?_; clear hf; intro a hf
      refine sY hf hs rfl rfl rfl (Y_lss rfl rfl rfl) ?_; clear hf; intro a hf
      refine wpO_nil ?_
      refine wpL_cond hf rfl (fun hb25 => ?_) (fun hb25 => ?_)
      · have hm23 := bif_t hm23 hb25
        refine wpL_skip ?_
        refine wpL_seq ?_
        refine wpL_block0 ?_
        refine wpL_seq ?_
        refine wpL_region ?_
        refine sY hf hs rfl rfl rfl (Y_move rfl rfl) ?_; clear hf; intro a hf
        refine sY hf hs rfl rfl rfl (Y_move rfl rfl) ?_; clear hf; intro a hf
        obtain ⟨q26, hi27, hm23⟩ := bind_some hm23
        obtain ⟨hi27a, hi27b, hi27q⟩ := idx_some hi27
        refine sY hf hs rfl rfl rfl (Y_index rfl rfl rfl el23 ti2 (Rd.isAt (h_p0_list_1.at hs) (at1 (ints_at hi27q))) hi27a hi27b) ?_; clear hf; intro a hf
        refine sY hf hs rfl rfl rfl (Y_load_rd rfl rfl (fun w hs => h_p0_list_1.at hs) (at1 (ints_at hi27q)) ag2) ?_; clear hf; intro a hf
        refine sY hf hs rfl rfl rfl (Y_move rfl rfl) ?_; clear hf; intro a hf
        refine sY hf hs rfl rfl rfl (Y_move rfl rfl) ?_; clear hf; intro a hf
        obtain ⟨r28, hc29, hm23⟩ := bind_some hm23
        refine sCall hf rfl rfl rfl rfl (cap := []) rfl rfl en63 (spec_l01In_ok F q26 p2_low p3_high _ _ hc29) ?_; clear hf
        rintro _ w ⟨rfl, hs1⟩ a hf
        have hs : St [] W w [] := hs.ext hs1.below
        clear hs1
        refine sY hf hs rfl rfl rfl (Y_not rfl rfl) ?_; clear hf; intro a hf
        refine wpO_nil ?_
        refine wpL_cond hf rfl (fun hb30 => ?_) (fun hb30 => ?_)
        · have hm23 := bif_t hm23 hb30
          refine wpL_seq ?_
          refine wpL_region ?_
          refine sY hf hs rfl rfl rfl (Y_assign rfl rfl) ?_; clear hf; intro a hf
          refine wpO_nil ?_
          obtain rfl := Option.some.inj hm23
          try dsimp only at hm
          obtain rfl := Option.some.inj hm
          refine wpL_ret (Qb_ret (Ql_ret (Qb_ret (ret_tmp rfl hf rfl ?_))))
          exact ⟨_, rfl, rfl, hs⟩
        · have hm23 := bif_f hm23 hb30
          refine wpL_skip ?_
          refine wpL_nil (Qb_normal ?_)
          refine wpL_region ?_
          refine sY hf hs rfl rfl rfl (Y_move rfl rfl) ?_; clear hf; intro a hf
          refine sY hf hs rfl rfl rfl (Y_add rfl rfl rfl) ?_; clear hf; intro a hf
          refine sY hf hs rfl rfl rfl (Y_assign rfl rfl) ?_; clear hf; intro a hf
          refine wpO_nil ?_
          refine wpL_nil (Ql_normal ?_)
          exact ⟨(IntKind.i64.wrap (x14 + 1)), hm23, (FrD.pick (FrD.pick (FrD.pick (FrD.pick (FrD.pick hf.none hf rfl) hf rfl) hf rfl) hf rfl) hf rfl), hs⟩
      · have hm23 := bif_f hm23 hb25
        refine wpL_exit (Ql_exit (Qb_exit ?_))
        exact ⟨Option.some.inj hm23, (FrD.pick (FrD.pick hf.none hf rfl) hf rfl), hs⟩
  · rintro a w ⟨hr_, hf, hs⟩
    subst hr_
    try dsimp only at hm
    refine wpL_seq ?_
    refine wpL_region ?_
    refine sY hf hs rfl rfl rfl (Y_move rfl rfl) ?_; clear hf; intro a hf
    refine sY hf hs rfl rfl rfl (Y_lenH rfl rfl el23 rfl) ?_; clear hf; intro a hf
    refine sY hf hs rfl rfl rfl (Y_move rfl rfl) ?_; clear hf; intro a hf
    refine sY hf hs rfl rfl rfl (Y_leq rfl rfl rfl) ?_; clear hf; intro a hf
    refine sY hf hs rfl rfl rfl (Y_assign rfl rfl) ?_; clear hf; intro a hf
    refine wpO_nil ?_
    obtain rfl := Option.some.inj hm
    refine wpL_ret (ret_tmp rfl hf rfl ?_)
    exact ⟨_, rfl, rfl, hs⟩

set_option maxRecDepth 100000 in
theorem spec_l22Due_ok (F : Nat) (p0_g : GEventGraph) (A_p0_g_1 : Option Addr) (n_p0_g_1 c_p0_g_1 : Nat) (hn_p0_g_1 : n_p0_g_1 = p0_g.Places.length) (p1_due : List (List Int)) (A_p1_due_1 : Option Addr) (n_p1_due_1 c_p1_due_1 : Nat) (hn_p1_due_1 : n_p1_due_1 = p1_due.length) (r : Bool) (W : World) (hm : spec_l22Due F p0_g p1_due = some r) (_h_p0_g_1 : Rd W A_p0_g_1 ((recs GPlace.cells) p0_g.Places)) (h_p1_due_1 : RdM W A_p1_due_1 p1_due) :
    Calls Try.prog 93 [.agg #[.int .i64 p0_g.Events, .slice A_p0_g_1 n_p0_g_1 c_p0_g_1], .slice A_p1_due_1 n_p1_due_1 c_p1_due_1].toArray W fun e w' => ∃ v, e = .returned v ∧ v = .bool r ∧ St [] W w' [] := by
  subst hn_p0_g_1
  subst hn_p1_due_1
  unfold spec_l22Due at hm
  refine Calls.enter (N := 31) Try.func93 rfl rfl rfl (fun a hf => ?_)
  have hs := St.start W
  obtain ⟨w, hw_⟩ : ∃ w, w = W := ⟨W, rfl⟩
  clear hw_ w
  refine wpL_seq ?_
  refine wpL_region ?_
  refine sBox hf hs rfl rfl rfl rfl rfl (cs := [.int .i64 p0_g.Events, .slice A_p0_g_1 p0_g.Places.length c_p0_g_1]) rfl ?_; clear hf hs; intro a w b1 hs hf
  have hs : St [] W w [.blk b1 39 [.int .i64 p0_g.Events, .slice A_p0_g_1 p0_g.Places.length c_p0_g_1]] := hs
  refine sY hf hs rfl rfl rfl (Y_assign rfl rfl) ?_; clear hf; intro a hf
  refine wpO_nil ?_
  refine wpL_seq ?_
  refine wpL_seq ?_
  refine wpL_region ?_
  refine sY hf hs rfl rfl rfl (Y_assign rfl rfl) ?_; clear hf; intro a hf
  refine wpO_nil ?_
  obtain ⟨r145, hl146, hm⟩ := bind_some hm
  refine wpL_block (fun a w => Sum.inr () = r145 ∧ Fr a 31 [(1, .slice A_p1_due_1 p1_due.length c_p1_due_1)] ∧ St [] W w []) ?_ ?_
  · refine wpL_loop (fun n a w => ∃ x97 : Int, spec_l22Due_L1 F p0_g p1_due n x97 = some r145 ∧ Fr a 31 [(1, .slice A_p1_due_1 p1_due.length c_p1_due_1), (2, .pointer (some ⟨b1, 0, none⟩)), (5, .int .i64 x97)] ∧ St [] W w [.blk b1 39 [.int .i64 p0_g.Events, .slice A_p0_g_1 p0_g.Places.length c_p0_g_1]]) F ?_ ?_ ?_
    · exact ⟨0, hl146, (FrD.pick (FrD.pick (FrD.pick hf.none hf rfl) hf rfl) hf rfl), hs⟩
    · rintro a w ⟨x97, h0_, -, -⟩; simp [spec_l22Due_L1] at h0_
    · rintro n148 a w ⟨x97, hm147, hf, hs⟩
      rw [spec_l22Due_L1] at hm147
      refine wpL_seq ?_
      refine wpL_seq ?_
      refine wpL_region ?_
      refine sY hf hs rfl rfl rfl (Y_move rfl rfl) ?_; clear hf; intro a hf
      refine sY hf hs rfl rfl rfl (Y_move rfl rfl) ?_; clear hf; intro a hf
      refine sY hf hs rfl rfl rfl (Y_lenH rfl rfl el46 rfl) ?_; clear hf; intro a hf
      refine sY hf hs rfl rfl rfl (Y_lss rfl rfl rfl) ?_; clear hf; intro a hf
      refine wpO_nil ?_
      refine wpL_cond hf rfl (fun hb149 => ?_) (fun hb149 => ?_)
      · have hm147 := bif_t hm147 hb149
        refine wpL_skip ?_
        refine wpL_seq ?_
        refine wpL_block0 ?_
        refine wpL_seq ?_
        obtain ⟨r172, hj173, hm147⟩ := bind_some hm147
        refine wpL_cut (fun a w => ∃ b171 : Bool, b171 = r172 ∧ Fr a 31 [(1, .slice A_p1_due_1 p1_due.length c_p1_due_1), (2, .pointer (some ⟨b1, 0, none⟩)), (5, .int .i64 x97), (27, .bool b171)] ∧ St [] W w [.blk b1 39 [.int .i64 p0_g.Events, .slice A_p0_g_1 p0_g.Places.length c_p0_g_1]]) ?_ ?_
        · refine wpL_draw (by kernel_rfl) (by kernel_rfl) hs ?_
          refine qY hf rfl rfl rfl (Y_move rfl rfl) ?_; clear hf; intro a hf
          refine qY hf rfl rfl rfl (Y_move rfl rfl) ?_; clear hf; intro a hf
          obtain ⟨q174, hi175, hj173⟩ := bind_some hj173
          obtain ⟨hi175a, hi175b, hi175q⟩ := idx_some hi175
          obtain ⟨vs176, hv177, hr178⟩ := id h_p1_due_1
          obtain ⟨A179, c180, hv181, hR182⟩ := hr178 _ _ hi175q
          refine qY hf rfl rfl rfl (Y_index rfl rfl rfl el46 ti23 (Rd.isAt hv177 hv181) hi175a hi175b) ?_; clear hf; intro a hf
          refine qY hf rfl rfl rfl (Y_load_rd rfl rfl (fun w hs => hv177.at hs) (at1 hv181) ag23) ?_; clear hf; intro a hf
          refine qY hf rfl rfl rfl (Y_lenH rfl rfl el23 rfl) ?_; clear hf; intro a hf
          refine qY hf rfl rfl rfl (Y_fieldAddr rfl rfl fo39_0) ?_; clear hf; intro a hf
          refine qY hf rfl rfl rfl (Y_load_blk rfl rfl (i := 0) rfl rfl ag2) ?_; clear hf; intro a hf
          refine qY hf rfl rfl rfl (Y_neq rfl rfl rfl) ?_; clear hf; intro a hf
          refine qY hf rfl rfl rfl (Y_move rfl rfl) ?_; clear hf; intro a hf
          refine bsplit ((q174.length : Int) != p0_g.Events) (fun hb183 => ?_) (fun hb183 => ?_)
          · have hj173 := bif_t hj173 hb183
            refine qNo hf rfl rfl rfl (congrArg (fun b => some (Value.bool b)) hb183) rfl rfl rfl ?_; clear hf; intro a hf
            refine qNo hf rfl rfl rfl (congrArg (fun b => some (Value.bool b)) hb183) rfl rfl rfl ?_; clear hf; intro a hf
            refine qNo hf rfl rfl rfl (congrArg (fun b => some (Value.bool b)) hb183) rfl rfl rfl ?_; clear hf; intro a hf
            refine qNo hf rfl rfl rfl (congrArg (fun b => some (Value.bool b)) hb183) rfl rfl rfl ?_; clear hf; intro a hf
            refine qNo hf rfl rfl rfl (congrArg (fun b => some (Value.bool b)) hb183) rfl rfl rfl ?_; clear hf; intro a hf
            refine qNo hf rfl rfl rfl (congrArg (fun b => some (Value.bool b)) hb183) rfl rfl rfl ?_; clear hf; intro a hf
            refine qY hf rfl rfl rfl (Y_pickT rfl (congrArg (fun b => some (Value.bool b)) hb183) rfl) ?_; clear hf; intro a hf
            refine qNil ?_; clear hs; intro w hs
            refine wpL_nil (then_normal ?_)
            exact ⟨true, Option.some.inj hj173, (FrD.pick (FrD.pick (FrD.pick (FrD.pick hf.none hf rfl) hf rfl) hf rfl) hf rfl), hs⟩
          · have hj173 := bif_f hj173 hb183
            refine qYg hf rfl rfl rfl (congrArg (fun b => some (Value.bool b)) hb183) rfl rfl rfl (Y_move rfl rfl) ?_; clear hf; intro a hf
            refine qYg hf rfl rfl rfl (congrArg (fun b => some (Value.bool b)) hb183) rfl rfl rfl (Y_move rfl rfl) ?_; clear hf; intro a hf
            obtain ⟨q184, hi185, hj173⟩ := bind_some hj173
            obtain ⟨hi185a, hi185b, hi185q⟩ := idx_some hi185
            obtain ⟨vs186, hv187, hr188⟩ := id h_p1_due_1
            obtain ⟨A189, c190, hv191, hR192⟩ := hr188 _ _ hi185q
            refine qYg hf rfl rfl rfl (congrArg (fun b => some (Value.bool b)) hb183) rfl rfl rfl (Y_index rfl rfl rfl el46 ti23 (Rd.isAt hv187 hv191) hi185a hi185b) ?_; clear hf; intro a hf
            refine qYg hf rfl rfl rfl (congrArg (fun b => some (Value.bool b)) hb183) rfl rfl rfl (Y_load_rd rfl rfl (fun w hs => hv187.at hs) (at1 hv191) ag23) ?_; clear hf; intro a hf
            obtain ⟨r193, hc194, hj173⟩ := bind_some hj173
            refine qCallg hf rfl rfl rfl (congrArg (fun b => some (Value.bool b)) hb183) rfl rfl rfl rfl (cap := []) rfl rfl en152 (v := .bool r193) (fun w hs => Calls.scal (spec_l01Within_ok F q184 A189 q184.length c190 rfl 10 0 1000000 _ _ hc194 (hR192.at hs))) ?_; clear hf; intro a hf
            refine qYg hf rfl rfl rfl (congrArg (fun b => some (Value.bool b)) hb183) rfl rfl rfl (Y_not rfl rfl) ?_; clear hf; intro a hf
            refine qY hf rfl rfl rfl (Y_pickF rfl (congrArg (fun b => some (Value.bool b)) hb183) rfl) ?_; clear hf; intro a hf
            refine qNil ?_; clear hs; intro w hs
            refine wpL_nil (then_normal ?_)
            exact ⟨(!r193), Option.some.inj hj173, (FrD.pick (FrD.pick (FrD.pick (FrD.pick hf.none hf rfl) hf rfl) hf rfl) hf rfl), hs⟩
        · rintro a w ⟨b171, hr_, hf, hs⟩
          subst hr_
          try dsimp only at hm147
          refine wpL_cond hf rfl (fun hb195 => ?_) (fun hb195 => ?_)
          · have hm147 := bif_t hm147 hb195
            refine wpL_seq ?_
            refine wpL_region ?_
            refine sY hf hs rfl rfl rfl (Y_assign rfl rfl) ?_; clear hf; intro a hf
            refine wpO_nil ?_
            obtain rfl := Option.some.inj hm147
            try dsimp only at hm
            obtain rfl := Option.some.inj hm
            refine wpL_ret (Qb_ret (Ql_ret (Qb_ret (ret_tmp rfl hf rfl ?_))))
            exact ⟨_, rfl, rfl, hs.sel [] (by decide)⟩
          · have hm147 := bif_f hm147 hb195
            refine wpL_skip ?_
            refine wpL_nil (Qb_normal ?_)
            refine wpL_region ?_
            refine sY hf hs rfl rfl rfl (Y_move rfl rfl) ?_; clear hf; intro a hf
            refine sY hf hs rfl rfl rfl (Y_add rfl rfl rfl) ?_; clear hf; intro a hf
            refine sY hf hs rfl rfl rfl (Y_assign rfl rfl) ?_; clear hf; intro a hf
            refine wpO_nil ?_
            refine wpL_nil (Ql_normal ?_)
            exact ⟨(IntKind.i64.wrap (x97 + 1)), hm147, (FrD.pick (FrD.pick (FrD.pick hf.none hf rfl) hf rfl) hf rfl), hs⟩
      · have hm147 := bif_f hm147 hb149
        refine wpL_exit (Ql_exit (Qb_exit ?_))
        exact ⟨Option.some.inj hm147, (FrD.pick hf.none hf rfl), hs.sel [] (by decide)⟩
  · rintro a w ⟨hr_, hf, hs⟩
    subst hr_
    try dsimp only at hm
    refine wpL_seq ?_
    refine wpL_region ?_
    refine sY hf hs rfl rfl rfl (Y_move rfl rfl) ?_; clear hf; intro a hf
    refine sY hf hs rfl rfl rfl (Y_lenH rfl rfl el46 rfl) ?_; clear hf; intro a hf
    refine sY hf hs rfl rfl rfl (Y_leq rfl rfl rfl) ?_; clear hf; intro a hf
    refine sY hf hs rfl rfl rfl (Y_assign rfl rfl) ?_; clear hf; intro a hf
    refine wpO_nil ?_
    obtain rfl := Option.some.inj hm
    refine wpL_ret (ret_tmp rfl hf rfl ?_)
    exact ⟨_, rfl, rfl, hs⟩

set_option maxRecDepth 100000 in
theorem spec_l01Own_ok (F : Nat) (p0_list : List Int) (A_p0_list_1 : Option Addr) (n_p0_list_1 c_p0_list_1 : Nat) (hn_p0_list_1 : n_p0_list_1 = p0_list.length) (r : List Int) (W : World) (hm : spec_l01Own F p0_list = some r) (h_p0_list_1 : Rd W A_p0_list_1 (ints p0_list)) :
    Calls Try.prog 65 [.slice A_p0_list_1 n_p0_list_1 c_p0_list_1].toArray W fun e w' => ∃ v, e = .returned v ∧ ∃ A7, ∃ n8, ∃ c9, v = .slice A7 n8 c9 ∧ n8 = r.length ∧ St [] W w' [.row A7 n8 c9 2 1 (ints r)] := by
  subst hn_p0_list_1
  unfold spec_l01Own at hm
  refine Calls.enter (N := 6) Try.func65 rfl rfl rfl (fun a hf => ?_)
  have hs := St.start W
  obtain ⟨w, hw_⟩ : ∃ w, w = W := ⟨W, rfl⟩
  clear hw_ w
  refine wpL_seq ?_
  refine wpL_region ?_
  refine sY hf hs rfl rfl rfl (Y_assign rfl rfl) ?_; clear hf; intro a hf
  refine wpO_nil ?_
  refine wpL_seq ?_
  refine wpL_region ?_
  refine sEmpty hf hs rfl rfl rfl rfl el23 ti2 ?_; clear hf hs; intro a w A1 hs hf
  have hs : St [] W w [.row A1 0 0 2 1 (ints ([] : List Int))] := hs
  refine sY hf hs rfl rfl rfl (Y_move rfl rfl) ?_; clear hf; intro a hf
  obtain ⟨xs5, ha6, hm⟩ := bind_some hm
  refine sAppendG (i := 0) (xs := ([] : List Int)) (ys := p0_list) (enc := ints) hf hs rfl rfl rfl rfl rfl rfl rfl rfl rfl ha6 el23 ti2 rfl rfl rfl (h_p0_list_1.at hs) ints_len1 ints_append ints_one ?_; clear hf hs; intro a w A3 c4 hs hf
  have hs : St [] W w [.row A3 xs5.length c4 2 1 (ints xs5)] := hs
  refine sY hf hs rfl rfl rfl (Y_assign rfl rfl) ?_; clear hf; intro a hf
  refine wpO_nil ?_
  obtain rfl := Option.some.inj hm
  refine wpL_ret (ret_tmp rfl hf rfl ?_)
  exact ⟨_, rfl, A3, xs5.length, c4, rfl, rfl, hs⟩

set_option maxRecDepth 100000 in
theorem spec_DueOfLast_ok (F : Nat) (p0_g : GEventGraph) (A_p0_g_1 : Option Addr) (n_p0_g_1 c_p0_g_1 : Nat) (hn_p0_g_1 : n_p0_g_1 = p0_g.Places.length) (p1_n : Int) (p2_due : List Int) (A_p2_due_1 : Option Addr) (n_p2_due_1 c_p2_due_1 : Nat) (hn_p2_due_1 : n_p2_due_1 = p2_due.length) (r : List (List Int) × Int) (W : World) (hm : spec_DueOfLast F p0_g p1_n p2_due = some r) (h_p0_g_1 : Rd W A_p0_g_1 ((recs GPlace.cells) p0_g.Places)) (h_p2_due_1 : Rd W A_p2_due_1 (ints p2_due)) :
    Calls Try.prog 33 [.agg #[.int .i64 p0_g.Events, .slice A_p0_g_1 n_p0_g_1 c_p0_g_1], .int .i64 p1_n, .slice A_p2_due_1 n_p2_due_1 c_p2_due_1].toArray W fun e w' => ∃ v, e = .returned v ∧ ∃ A306, ∃ n307, ∃ c308, ∃ vs310, v = .tuple #[.slice A306 n307 c308, .int .i64 r.2] ∧ n307 = r.1.length ∧ St [] W w' [.mat A306 n307 c308 23 2 vs310 r.1] := by
  subst hn_p0_g_1
  subst hn_p2_due_1
  unfold spec_DueOfLast at hm
  refine Calls.enter (N := 52) Try.func33 rfl rfl rfl (fun a hf => ?_)
  have hs := St.start W
  obtain ⟨w, hw_⟩ : ∃ w, w = W := ⟨W, rfl⟩
  clear hw_ w
  refine wpL_seq ?_
  refine wpL_region ?_
  refine sBox hf hs rfl rfl rfl rfl rfl (cs := [.int .i64 p0_g.Events, .slice A_p0_g_1 p0_g.Places.length c_p0_g_1]) rfl ?_; clear hf hs; intro a w b1 hs hf
  have hs : St [] W w [.blk b1 39 [.int .i64 p0_g.Events, .slice A_p0_g_1 p0_g.Places.length c_p0_g_1]] := hs
  refine sY hf hs rfl rfl rfl (Y_assign rfl rfl) ?_; clear hf; intro a hf
  refine sY hf hs rfl rfl rfl (Y_assign rfl rfl) ?_; clear hf; intro a hf
  refine wpO_nil ?_
  refine wpL_seq ?_
  refine wpL_block0 ?_
  refine wpL_seq ?_
  refine wpL_region ?_
  refine sY hf hs rfl rfl rfl (Y_load_blkS rfl rfl (i := 0) rfl ag39 ti39 rfl) ?_; clear hf; intro a hf
  obtain ⟨r2, hc3, hm⟩ := bind_some hm
  refine sCall hf rfl rfl rfl rfl (cap := []) rfl rfl en75 (spec_IsEventGraph_ok F p0_g A_p0_g_1 p0_g.Places.length c_p0_g_1 rfl _ _ hc3 (h_p0_g_1.at hs)) ?_; clear hf
  rintro _ w ⟨rfl, hs1⟩ a hf
  have hs : St [] W w [.blk b1 39 [.int .i64 p0_g.Events, .slice A_p0_g_1 p0_g.Places.length c_p0_g_1]] := hs.ext hs1.below
  clear hs1
  refine sY hf hs rfl rfl rfl (Y_not rfl rfl) ?_; clear hf; intro a hf
  refine sY hf hs rfl rfl rfl (Y_assign rfl rfl) ?_; clear hf; intro a hf
  refine wpO_nil ?_
  refine wpL_cond hf rfl (fun hb4 => ?_) (fun hb4 => ?_)
  · have hm := bif_t hm hb4
    refine wpL_seq ?_
    refine wpL_region ?_
    refine sY hf hs rfl rfl rfl (Y_assign rfl rfl) ?_; clear hf; intro a hf
    refine sY hf hs rfl rfl rfl (Y_assign rfl rfl) ?_; clear hf; intro a hf
    refine wpO_nil ?_
    have hs : St [] W _ [.blk b1 39 [.int .i64 p0_g.Events, .slice A_p0_g_1 p0_g.Places.length c_p0_g_1], .mat none 0 0 23 2 [] ([] : List (List Int))] := hs.addNilM 23 2
    obtain rfl := Option.some.inj hm
    refine wpL_ret (Qb_ret (ret_tmp2 rfl hf rfl rfl ?_))
    exact ⟨_, rfl, none, 0, 0, [], rfl, rfl, hs.sel [1] (by decide)⟩
  · have hm := bif_f hm hb4
    refine wpL_seq ?_
    obtain ⟨r14, hj15, hm⟩ := bind_some hm
    refine wpL_cut (fun a w => ∃ b13 : Bool, b13 = r14 ∧ Fr a 52 [(1, .int .i64 p1_n), (2, .slice A_p2_due_1 p2_due.length c_p2_due_1), (3, .pointer (some ⟨b1, 0, none⟩)), (16, .bool b13)] ∧ St [] W w [.blk b1 39 [.int .i64 p0_g.Events, .slice A_p0_g_1 p0_g.Places.length c_p0_g_1]]) ?_ ?_
    · refine wpL_region ?_
      refine sY hf hs rfl rfl rfl (Y_move rfl rfl) ?_; clear hf; intro a hf
      obtain ⟨r16, hc17, hj15⟩ := bind_some hj15
      refine sCall hf rfl rfl rfl rfl (cap := []) rfl rfl en63 (spec_l01In_ok F p1_n 1 50 _ _ hc17) ?_; clear hf
      rintro _ w ⟨rfl, hs1⟩ a hf
      have hs : St [] W w [.blk b1 39 [.int .i64 p0_g.Events, .slice A_p0_g_1 p0_g.Places.length c_p0_g_1]] := hs.ext hs1.below
      clear hs1
      refine sY hf hs rfl rfl rfl (Y_not rfl rfl) ?_; clear hf; intro a hf
      refine sY hf hs rfl rfl rfl (Y_move rfl rfl) ?_; clear hf; intro a hf
      refine bsplit (!r16) (fun hb18 => ?_) (fun hb18 => ?_)
      · have hj15 := bif_t hj15 hb18
        refine sNo hf rfl rfl rfl (congrArg (fun b => some (Value.bool b)) hb18) rfl rfl rfl ?_; clear hf; intro a hf
        refine sNo hf rfl rfl rfl (congrArg (fun b => some (Value.bool b)) hb18) rfl rfl rfl ?_; clear hf; intro a hf
        refine sNo hf rfl rfl rfl (congrArg (fun b => some (Value.bool b)) hb18) rfl rfl rfl ?_; clear hf; intro a hf
        refine sNo hf rfl rfl rfl (congrArg (fun b => some (Value.bool b)) hb18) rfl rfl rfl ?_; clear hf; intro a hf
        refine sNo hf rfl rfl rfl (congrArg (fun b => some (Value.bool b)) hb18) rfl rfl rfl ?_; clear hf; intro a hf
        refine sY hf hs rfl rfl rfl (Y_pickT rfl (congrArg (fun b => some (Value.bool b)) hb18) rfl) ?_; clear hf; intro a hf
        refine sY hf hs rfl rfl rfl (Y_assign rfl rfl) ?_; clear hf; intro a hf
        refine wpO_nil ?_
        refine wpL_nil (then_normal ?_)
        exact ⟨true, Option.some.inj hj15, (FrD.pick (FrD.pick (FrD.pick (FrD.pick hf.none hf rfl) hf rfl) hf rfl) hf rfl), hs⟩
      · have hj15 := bif_f hj15 hb18
        refine sYg hf hs rfl rfl rfl (congrArg (fun b => some (Value.bool b)) hb18) rfl rfl rfl (Y_load_blkS rfl rfl (i := 0) rfl ag39 ti39 rfl) ?_; clear hf; intro a hf
        refine sYg hf hs rfl rfl rfl (congrArg (fun b => some (Value.bool b)) hb18) rfl rfl rfl (Y_move rfl rfl) ?_; clear hf; intro a hf
        refine sBuildSliceG (parts := [(0, .tmp 22)]) (vs := [.slice A_p2_due_1 p2_due.length c_p2_due_1]) (cells := [.slice A_p2_due_1 p2_due.length c_p2_due_1]) hf hs rfl rfl rfl (congrArg (fun b => some (Value.bool b)) hb18) rfl rfl rfl rfl rfl el46 ti23 rfl rfl rfl rfl ?_; clear hf hs; intro a w A19 hs hA20 hf
        have hs : St [] W w [.blk b1 39 [.int .i64 p0_g.Events, .slice A_p0_g_1 p0_g.Places.length c_p0_g_1], .row A19 1 1 23 1 [.slice A_p2_due_1 p2_due.length c_p2_due_1]] := hs
        obtain ⟨r21, hc22, hj15⟩ := bind_some hj15
        refine sCallg hf rfl rfl rfl (congrArg (fun b => some (Value.bool b)) hb18) rfl rfl rfl rfl (cap := []) rfl rfl en93 (spec_l22Due_ok F p0_g A_p0_g_1 p0_g.Places.length c_p0_g_1 rfl ([p2_due]) A19 1 1 rfl _ _ hc22 (h_p0_g_1.at hs) (RdM.one (hs.rd (i := 1) rfl) rfl (h_p2_due_1.at hs))) ?_; clear hf
        rintro _ w ⟨rfl, hs1⟩ a hf
        have hs : St [] W w [.blk b1 39 [.int .i64 p0_g.Events, .slice A_p0_g_1 p0_g.Places.length c_p0_g_1], .row A19 1 1 23 1 [.slice A_p2_due_1 p2_due.length c_p2_due_1]] := hs.ext hs1.below
        clear hs1
        refine sYg hf hs rfl rfl rfl (congrArg (fun b => some (Value.bool b)) hb18) rfl rfl rfl (Y_not rfl rfl) ?_; clear hf; intro a hf
        refine sY hf hs rfl rfl rfl (Y_pickF rfl (congrArg (fun b => some (Value.bool b)) hb18) rfl) ?_; clear hf; intro a hf
        refine sY hf hs rfl rfl rfl (Y_assign rfl rfl) ?_; clear hf; intro a hf
        refine wpO_nil ?_
        refine wpL_nil (then_normal ?_)
        exact ⟨(!r21), Option.some.inj hj15, (FrD.pick (FrD.pick (FrD.pick (FrD.pick hf.none hf rfl) hf rfl) hf rfl) hf rfl), hs.sel [0] (by decide)⟩
    · rintro a w ⟨b13, hr_, hf, hs⟩
      subst hr_
      try dsimp only at hm
      refine wpL_cond hf rfl (fun hb23 => ?_) (fun hb23 => ?_)
      · have hm := bif_t hm hb23
        refine wpL_seq ?_
        refine wpL_region ?_
        refine sY hf hs rfl rfl rfl (Y_assign rfl rfl) ?_; clear hf; intro a hf
        refine sY hf hs rfl rfl rfl (Y_assign rfl rfl) ?_; clear hf; intro a hf
        refine wpO_nil ?_
        have hs : St [] W _ [.blk b1 39 [.int .i64 p0_g.Events, .slice A_p0_g_1 p0_g.Places.length c_p0_g_1], .mat none 0 0 23 2 [] ([] : List (List Int))] := hs.addNilM 23 2
        obtain rfl := Option.some.inj hm
        refine wpL_ret (Qb_ret (ret_tmp2 rfl hf rfl rfl ?_))
        exact ⟨_, rfl, none, 0, 0, [], rfl, rfl, hs.sel [1] (by decide)⟩
      · have hm := bif_f hm hb23
        refine wpL_skip ?_
        refine wpL_nil (Qb_normal ?_)
        refine wpL_seq ?_
        refine wpL_region ?_
        refine sEmptyM 2 hf hs rfl rfl rfl rfl el46 ti23 rfl ?_; clear hf hs; intro a w A25 hs hf
        have hs : St [] W w [.blk b1 39 [.int .i64 p0_g.Events, .slice A_p0_g_1 p0_g.Places.length c_p0_g_1], .mat A25 0 0 23 2 [] []] := hs
        refine sY hf hs rfl rfl rfl (Y_assign rfl rfl) ?_; clear hf; intro a hf
        refine wpO_nil ?_
        refine wpL_seq ?_
        refine wpL_seq ?_
        refine wpL_region ?_
        refine sY hf hs rfl rfl rfl (Y_assign rfl rfl) ?_; clear hf; intro a hf
        refine wpO_nil ?_
        obtain ⟨r228, hl229, hm⟩ := bind_some hm
        refine wpL_block (fun a w => ∃ ms222 : List (List Int), ∃ A223, ∃ n224, ∃ c225, ∃ vs227, ms222 = r228 ∧ n224 = ms222.length ∧ Fr a 52 [(2, .slice A_p2_due_1 p2_due.length c_p2_due_1), (8, .slice A223 n224 c225)] ∧ St [] W w [.mat A223 n224 c225 23 2 vs227 ms222]) ?_ ?_
        · refine wpL_loop (fun n a w => ∃ ms155 : List (List Int), ∃ x161 : Int, ∃ A156, ∃ n157, ∃ c158, ∃ vs160, spec_DueOfLast_L4 F p0_g p1_n n ms155 x161 = some r228 ∧ n157 = ms155.length ∧ Fr a 52 [(1, .int .i64 p1_n), (2, .slice A_p2_due_1 p2_due.length c_p2_due_1), (3, .pointer (some ⟨b1, 0, none⟩)), (8, .slice A156 n157 c158), (9, .int .i64 x161)] ∧ St [] W w [.blk b1 39 [.int .i64 p0_g.Events, .slice A_p0_g_1 p0_g.Places.length c_p0_g_1], .mat A156 n157 c158 23 2 vs160 ms155]) F ?_ ?_ ?_
          · exact ⟨[], 1, A25, 0, 0, [], hl229, rfl, (FrD.pick (FrD.pick (FrD.pick (FrD.pick (FrD.pick hf.none hf rfl) hf rfl) hf rfl) hf rfl) hf rfl), hs⟩
          · rintro a w ⟨ms155, x161, A156, n157, c158, vs160, h0_, -, -, -⟩; simp [spec_DueOfLast_L4] at h0_
          · rintro n231 a w ⟨ms155, x161, A156, n157, c158, vs160, hm230, hn159, hf, hs⟩
            rw [spec_DueOfLast_L4] at hm230
            refine wpL_seq ?_
            refine wpL_seq ?_
            refine wpL_region ?_
            refine sY hf hs rfl rfl rfl (Y_move rfl rfl) ?_; clear hf; intro a hf
            refine sY hf hs rfl rfl rfl (Y_move rfl rfl) ?_; clear hf; intro a hf
            refine sY hf hs rfl rfl rfl (Y_lss rfl rfl rfl) ?_; clear hf; intro a hf
            refine wpO_nil ?_
            refine wpL_cond hf rfl (fun hb232 => ?_) (fun hb232 => ?_)
            · have hm230 := bif_t hm230 hb232
              refine wpL_skip ?_
              refine wpL_seq ?_
              refine wpL_block0 ?_
              refine wpL_seq ?_
              refine wpL_region ?_
              refine sEmpty hf hs rfl rfl rfl rfl el23 ti2 ?_; clear hf hs; intro a w A233 hs hf
              have hs : St [] W w [.blk b1 39 [.int .i64 p0_g.Events, .slice A_p0_g_1 p0_g.Places.length c_p0_g_1], .mat A156 n157 c158 23 2 vs160 ms155, .row A233 0 0 2 1 (ints ([] : List Int))] := hs
              refine sY hf hs rfl rfl rfl (Y_assign rfl rfl) ?_; clear hf; intro a hf
              refine wpO_nil ?_
              refine wpL_seq ?_
              refine wpL_seq ?_
              refine wpL_region ?_
              refine sY hf hs rfl rfl rfl (Y_assign rfl rfl) ?_; clear hf; intro a hf
              refine wpO_nil ?_
              obtain ⟨r273, hl274, hm230⟩ := bind_some hm230
              refine wpL_block (fun a w => ∃ xs268 : List Int, ∃ A269, ∃ n270, ∃ c271, xs268 = r273 ∧ n270 = xs268.length ∧ Fr a 52 [(1, .int .i64 p1_n), (2, .slice A_p2_due_1 p2_due.length c_p2_due_1), (3, .pointer (some ⟨b1, 0, none⟩)), (8, .slice A156 n157 c158), (9, .int .i64 x161), (10, .slice A269 n270 c271)] ∧ St [] W w [.blk b1 39 [.int .i64 p0_g.Events, .slice A_p0_g_1 p0_g.Places.length c_p0_g_1], .mat A156 n157 c158 23 2 vs160 ms155, .row A269 n270 c271 2 1 (ints xs268)]) ?_ ?_
              · refine wpL_loop (fun n a w => ∃ xs255 : List Int, ∃ x260 : Int, ∃ A256, ∃ n257, ∃ c258, spec_DueOfLast_L5 F p0_g n xs255 x260 = some r273 ∧ n257 = xs255.length ∧ Fr a 52 [(1, .int .i64 p1_n), (2, .slice A_p2_due_1 p2_due.length c_p2_due_1), (3, .pointer (some ⟨b1, 0, none⟩)), (8, .slice A156 n157 c158), (9, .int .i64 x161), (10, .slice A256 n257 c258), (11, .int .i64 x260)] ∧ St [] W w [.blk b1 39 [.int .i64 p0_g.Events, .slice A_p0_g_1 p0_g.Places.length c_p0_g_1], .mat A156 n157 c158 23 2 vs160 ms155, .row A256 n257 c258 2 1 (ints xs255)]) F ?_ ?_ ?_
                · exact ⟨([] : List Int), 0, A233, 0, 0, hl274, rfl, (FrD.pick (FrD.pick (FrD.pick (FrD.pick (FrD.pick (FrD.pick (FrD.pick hf.none hf rfl) hf rfl) hf rfl) hf rfl) hf rfl) hf rfl) hf rfl), hs⟩
                · rintro a w ⟨xs255, x260, A256, n257, c258, h0_, -, -, -⟩; simp [spec_DueOfLast_L5] at h0_
                · rintro n276 a w ⟨xs255, x260, A256, n257, c258, hm275, hn259, hf, hs⟩
                  rw [spec_DueOfLast_L5] at hm275
                  refine wpL_seq ?_
                  refine wpL_seq ?_
                  refine wpL_region ?_
                  refine sY hf hs rfl rfl rfl (Y_move rfl rfl) ?_; clear hf; intro a hf
                  refine sY hf hs rfl rfl rfl (Y_fieldAddr rfl rfl fo39_0) ?_; clear hf; intro a hf
                  refine sY hf hs rfl rfl rfl (Y_load_blk rfl rfl (i := 0) rfl rfl ag2) ?_; clear hf; intro a hf
                  refine sY hf hs rfl rfl rfl (Y_lss rfl rfl rfl) ?_; clear hf; intro a hf
                  refine wpO_nil ?_
                  refine wpL_cond hf rfl (fun hb277 => ?_) (fun hb277 => ?_)
                  · have hm275 := bif_t hm275 hb277
                    refine wpL_skip ?_
                    refine wpL_seq ?_
                    refine wpL_block0 ?_
                    refine wpL_region ?_
                    refine sY hf hs rfl rfl rfl (Y_move rfl rfl) ?_; clear hf; intro a hf
                    refine sBuildSlice (parts := [(0, .const (.int .i64 1000000))]) (vs := [.int .i64 1000000]) (cells := [.int .i64 1000000]) hf hs rfl rfl rfl rfl rfl el23 ti2 rfl rfl rfl rfl ?_; clear hf hs; intro a w A278 hs hA279 hf
                    have hs : St [] W w [.blk b1 39 [.int .i64 p0_g.Events, .slice A_p0_g_1 p0_g.Places.length c_p0_g_1], .mat A156 n157 c158 23 2 vs160 ms155, .row A256 n257 c258 2 1 (ints xs255), .row A278 1 1 2 1 (ints ([1000000]))] := hs
                    obtain ⟨xs282, ha283, hm275⟩ := bind_some hm275
                    refine sAppendL (i := 2) (xs := xs255) (ys := [1000000]) (enc := ints) hf hs rfl rfl rfl rfl rfl rfl hn259 rfl rfl ha283 el23 ti2 rfl rfl rfl (hs.rd (i := 3) rfl) (Nat.succ_pos _) ints_len1 ints_append ints_one ?_; clear hf hs; intro a w A280 c281 hs hf
                    have hs : St [] W w [.blk b1 39 [.int .i64 p0_g.Events, .slice A_p0_g_1 p0_g.Places.length c_p0_g_1], .mat A156 n157 c158 23 2 vs160 ms155, .row A280 xs282.length c281 2 1 (ints xs282), .row A278 1 1 2 1 (ints ([1000000]))] := hs
                    refine sY hf hs rfl rfl rfl (Y_assign rfl rfl) ?_; clear hf; intro a hf
                    refine wpO_nil ?_
                    refine wpL_nil (Qb_normal ?_)
                    refine wpL_region ?_
                    refine sY hf hs rfl rfl rfl (Y_move rfl rfl) ?_; clear hf; intro a hf
                    refine sY hf hs rfl rfl rfl (Y_add rfl rfl rfl) ?_; clear hf; intro a hf
                    refine sY hf hs rfl rfl rfl (Y_assign rfl rfl) ?_; clear hf; intro a hf
                    refine wpO_nil ?_
                    refine wpL_nil (Ql_normal ?_)
                    exact ⟨xs282, (IntKind.i64.wrap (x260 + 1)), A280, xs282.length, c281, hm275, rfl, (FrD.pick (FrD.pick (FrD.pick (FrD.pick (FrD.pick (FrD.pick (FrD.pick hf.none hf rfl) hf rfl) hf rfl) hf rfl) hf rfl) hf rfl) hf rfl), hs.sel [0, 1, 2] (by decide)⟩
                  · have hm275 := bif_f hm275 hb277
                    refine wpL_exit (Ql_exit (Qb_exit ?_))
                    exact ⟨xs255, A256, n257, c258, Option.some.inj hm275, hn259, (FrD.pick (FrD.pick (FrD.pick (FrD.pick (FrD.pick (FrD.pick hf.none hf rfl) hf rfl) hf rfl) hf rfl) hf rfl) hf rfl), hs⟩
              · rintro a w ⟨xs268, A269, n270, c271, hr_, hn272, hf, hs⟩
                subst hr_
                try dsimp only at hm230
                refine wpL_region ?_
                refine sY hf hs rfl rfl rfl (Y_move rfl rfl) ?_; clear hf; intro a hf
                refine sY hf hs rfl rfl rfl (Y_move rfl rfl) ?_; clear hf; intro a hf
                refine sOneM (j := 2) hf hs rfl rfl rfl rfl rfl rfl hn272 el46 ti23 ?_; clear hf hs; intro a w A284 hs hf
                have hs : St [] W w [.blk b1 39 [.int .i64 p0_g.Events, .slice A_p0_g_1 p0_g.Places.length c_p0_g_1], .mat A156 n157 c158 23 2 vs160 ms155, .mat A284 1 1 23 2 ([.slice A269 xs268.length c271]) ([xs268])] := hs
                obtain ⟨ms288, ha289, hm230⟩ := bind_some hm230
                refine sAppendM (i := 1) (j := 2) hf hs rfl rfl rfl rfl rfl rfl hn159 rfl (by decide) rfl rfl (by decide) ha289 el46 ti23 rfl ?_; clear hf hs; intro a w A286 c287 hs hf
                have hs : St [] W w [.blk b1 39 [.int .i64 p0_g.Events, .slice A_p0_g_1 p0_g.Places.length c_p0_g_1], .mat A286 ms288.length c287 23 2 (vs160 ++ ([.slice A269 xs268.length c271])) ms288] := hs
                obtain ⟨hq290, hv291⟩ := hs.appended (i := 1) rfl ha289
                refine sY hf hs rfl rfl rfl (Y_assign rfl rfl) ?_; clear hf; intro a hf
                refine wpO_nil ?_
                refine wpL_nil (Qb_normal ?_)
                refine wpL_region ?_
                refine sY hf hs rfl rfl rfl (Y_move rfl rfl) ?_; clear hf; intro a hf
                refine sY hf hs rfl rfl rfl (Y_add rfl rfl rfl) ?_; clear hf; intro a hf
                refine sY hf hs rfl rfl rfl (Y_assign rfl rfl) ?_; clear hf; intro a hf
                refine wpO_nil ?_
                refine wpL_nil (Ql_normal ?_)
                exact ⟨ms288, (IntKind.i64.wrap (x161 + 1)), A286, ms288.length, c287, (vs160 ++ ([.slice A269 xs268.length c271])), hm230, rfl, (FrD.pick (FrD.pick (FrD.pick (FrD.pick (FrD.pick hf.none hf rfl) hf rfl) hf rfl) hf rfl) hf rfl), hs⟩
            · have hm230 := bif_f hm230 hb232
              refine wpL_exit (Ql_exit (Qb_exit ?_))
              exact ⟨ms155, A156, n157, c158, vs160, Option.some.inj hm230, hn159, (FrD.pick (FrD.pick hf.none hf rfl) hf rfl), hs.sel [1] (by decide)⟩
        · rintro a w ⟨ms222, A223, n224, c225, vs227, hr_, hn226, hf, hs⟩
          subst hr_
          try dsimp only at hm
          refine wpL_seq ?_
          refine wpL_region ?_
          refine sY hf hs rfl rfl rfl (Y_move rfl rfl) ?_; clear hf; intro a hf
          refine sY hf hs rfl rfl rfl (Y_move rfl rfl) ?_; clear hf; intro a hf
          obtain ⟨r292, hc293, hm⟩ := bind_some hm
          refine sCall hf rfl rfl rfl rfl (cap := []) rfl rfl en65 (spec_l01Own_ok F p2_due A_p2_due_1 p2_due.length c_p2_due_1 rfl _ _ hc293 (h_p2_due_1.at hs)) ?_; clear hf
          rintro _ w ⟨A294, n295, c296, rfl, hn297, hs1⟩ a hf
          have hs : St [] W w [.mat A223 n224 c225 23 2 vs227 ms222, .row A294 n295 c296 2 1 (ints r292)] := hs.join hs1
          clear hs1
          refine sOneM (j := 1) hf hs rfl rfl rfl rfl rfl rfl hn297 el46 ti23 ?_; clear hf hs; intro a w A298 hs hf
          have hs : St [] W w [.mat A223 n224 c225 23 2 vs227 ms222, .mat A298 1 1 23 2 ([.slice A294 r292.length c296]) ([r292])] := hs
          obtain ⟨ms302, ha303, hm⟩ := bind_some hm
          refine sAppendM (i := 0) (j := 1) hf hs rfl rfl rfl rfl rfl rfl hn226 rfl (by decide) rfl rfl (by decide) ha303 el46 ti23 rfl ?_; clear hf hs; intro a w A300 c301 hs hf
          have hs : St [] W w [.mat A300 ms302.length c301 23 2 (vs227 ++ ([.slice A294 r292.length c296])) ms302] := hs
          obtain ⟨hq304, hv305⟩ := hs.appended (i := 0) rfl ha303
          refine sY hf hs rfl rfl rfl (Y_assign rfl rfl) ?_; clear hf; intro a hf
          refine sY hf hs rfl rfl rfl (Y_assign rfl rfl) ?_; clear hf; intro a hf
          refine wpO_nil ?_
          obtain rfl := Option.some.inj hm
          refine wpL_ret (ret_tmp2 rfl hf rfl rfl ?_)
          exact ⟨_, rfl, A300, ms302.length, c301, (vs227 ++ ([.slice A294 r292.length c296])), rfl, rfl, hs⟩

set_option maxRecDepth 100000 in
theorem impl_within_ok (F : Nat) (p0_n : Int) (p1_low : Int) (p2_high : Int) (r : Bool) (W : World) (hm : impl_within F p0_n p1_low p2_high = some r) :
    Calls Try.prog 69 [.int .i64 p0_n, .int .i64 p1_low, .int .i64 p2_high].toArray W fun e w' => ∃ v, e = .returned v ∧ v = .bool r ∧ St [] W w' [] := by
  unfold impl_within at hm
  refine Calls.enter (N := 15) Try.func69 rfl rfl rfl (fun a hf => ?_)
  have hs := St.start W
  obtain ⟨w, hw_⟩ : ∃ w, w = W := ⟨W, rfl⟩
  clear hw_ w
  refine wpL_seq ?_
  refine wpL_region ?_
  refine sY hf hs rfl rfl rfl (Y_assign rfl rfl) ?_; clear hf; intro a hf
  refine wpO_nil ?_
  refine wpL_seq ?_
  obtain ⟨r3, hj4, hm⟩ := bind_some hm
  refine wpL_cut (fun a w => ∃ b2 : Bool, b2 = r3 ∧ Fr a 15 [(6, .bool b2)] ∧ St [] W w []) ?_ ?_
  · refine wpL_region ?_
    refine sY hf hs rfl rfl rfl (Y_move rfl rfl) ?_; clear hf; intro a hf
    refine sY hf hs rfl rfl rfl (Y_move rfl rfl) ?_; clear hf; intro a hf
    refine sY hf hs rfl rfl rfl (Y_geq rfl rfl rfl) ?_; clear hf; intro a hf
    refine sY hf hs rfl rfl rfl (Y_move rfl rfl) ?_; clear hf; intro a hf
    refine bsplit (decide (p1_low ≤ p0_n)) (fun hb5 => ?_) (fun hb5 => ?_)
    · have hj4 := bif_t hj4 hb5
      refine sYg hf hs rfl rfl rfl (congrArg (fun b => some (Value.bool b)) hb5) rfl rfl rfl (Y_move rfl rfl) ?_; clear hf; intro a hf
      refine sYg hf hs rfl rfl rfl (congrArg (fun b => some (Value.bool b)) hb5) rfl rfl rfl (Y_move rfl rfl) ?_; clear hf; intro a hf
      refine sYg hf hs rfl rfl rfl (congrArg (fun b => some (Value.bool b)) hb5) rfl rfl rfl (Y_leq rfl rfl rfl) ?_; clear hf; intro a hf
      refine sY hf hs rfl rfl rfl (Y_pickT rfl (congrArg (fun b => some (Value.bool b)) hb5) rfl) ?_; clear hf; intro a hf
      refine sY hf hs rfl rfl rfl (Y_assign rfl rfl) ?_; clear hf; intro a hf
      refine wpO_nil ?_
      refine wpL_nil (then_normal ?_)
      exact ⟨(decide (p0_n ≤ p2_high)), Option.some.inj hj4, (FrD.pick hf.none hf rfl), hs⟩
    · have hj4 := bif_f hj4 hb5
      refine sNo hf rfl rfl rfl (congrArg (fun b => some (Value.bool b)) hb5) rfl rfl rfl ?_; clear hf; intro a hf
      refine sNo hf rfl rfl rfl (congrArg (fun b => some (Value.bool b)) hb5) rfl rfl rfl ?_; clear hf; intro a hf
      refine sNo hf rfl rfl rfl (congrArg (fun b => some (Value.bool b)) hb5) rfl rfl rfl ?_; clear hf; intro a hf
      refine sY hf hs rfl rfl rfl (Y_pickF rfl (congrArg (fun b => some (Value.bool b)) hb5) rfl) ?_; clear hf; intro a hf
      refine sY hf hs rfl rfl rfl (Y_assign rfl rfl) ?_; clear hf; intro a hf
      refine wpO_nil ?_
      refine wpL_nil (then_normal ?_)
      exact ⟨false, Option.some.inj hj4, (FrD.pick hf.none hf rfl), hs⟩
  · rintro a w ⟨b2, hr_, hf, hs⟩
    subst hr_
    try dsimp only at hm
    obtain rfl := Option.some.inj hm
    refine wpL_ret (ret_tmp rfl hf rfl ?_)
    exact ⟨_, rfl, rfl, hs⟩

set_option maxRecDepth 100000 in
theorem impl_isEvent_ok (F : Nat) (p0_g : GEventGraph) (A_p0_g_1 : Option Addr) (n_p0_g_1 c_p0_g_1 : Nat) (hn_p0_g_1 : n_p0_g_1 = p0_g.Places.length) (p1_event : Int) (r : Bool) (W : World) (hm : impl_isEvent F p0_g p1_event = some r) (_h_p0_g_1 : Rd W A_p0_g_1 ((recs GPlace.cells) p0_g.Places)) :
    Calls Try.prog 181 [.agg #[.int .i64 p0_g.Events, .slice A_p0_g_1 n_p0_g_1 c_p0_g_1], .int .i64 p1_event].toArray W fun e w' => ∃ v, e = .returned v ∧ v = .bool r ∧ St [] W w' [] := by
  subst hn_p0_g_1
  unfold impl_isEvent at hm
  refine Calls.enter (N := 10) Try.func181 rfl rfl rfl (fun a hf => ?_)
  have hs := St.start W
  obtain ⟨w, hw_⟩ : ∃ w, w = W := ⟨W, rfl⟩
  clear hw_ w
  refine wpL_seq ?_
  refine wpL_region ?_
  refine sBox hf hs rfl rfl rfl rfl rfl (cs := [.int .i64 p0_g.Events, .slice A_p0_g_1 p0_g.Places.length c_p0_g_1]) rfl ?_; clear hf hs; intro a w b1 hs hf
  have hs : St [] W w [.blk b1 39 [.int .i64 p0_g.Events, .slice A_p0_g_1 p0_g.Places.length c_p0_g_1]] := hs
  refine sY hf hs rfl rfl rfl (Y_assign rfl rfl) ?_; clear hf; intro a hf
  refine wpO_nil ?_
  refine wpL_seq ?_
  refine wpL_region ?_
  refine sY hf hs rfl rfl rfl (Y_move rfl rfl) ?_; clear hf; intro a hf
  refine sY hf hs rfl rfl rfl (Y_fieldAddr rfl rfl fo39_0) ?_; clear hf; intro a hf
  refine sY hf hs rfl rfl rfl (Y_load_blk rfl rfl (i := 0) rfl rfl ag2) ?_; clear hf; intro a hf
  refine sY hf hs rfl rfl rfl (Y_sub rfl rfl rfl) ?_; clear hf; intro a hf
  obtain ⟨r2, hc3, hm⟩ := bind_some hm
  refine sCall hf rfl rfl rfl rfl (cap := []) rfl rfl en69 (impl_within_ok F p1_event 0 (IntKind.i64.wrap (p0_g.Events - 1)) _ _ hc3) ?_; clear hf
  rintro _ w ⟨rfl, hs1⟩ a hf
  have hs : St [] W w [.blk b1 39 [.int .i64 p0_g.Events, .slice A_p0_g_1 p0_g.Places.length c_p0_g_1]] := hs.ext hs1.below
  clear hs1
  refine sY hf hs rfl rfl rfl (Y_assign rfl rfl) ?_; clear hf; intro a hf
  refine wpO_nil ?_
  obtain rfl := Option.some.inj hm
  refine wpL_ret (ret_tmp rfl hf rfl ?_)
  exact ⟨_, rfl, rfl, hs.sel [] (by decide)⟩

set_option maxRecDepth 100000 in
theorem impl_isPlace_ok (F : Nat) (p0_g : GEventGraph) (A_p0_g_1 : Option Addr) (n_p0_g_1 c_p0_g_1 : Nat) (hn_p0_g_1 : n_p0_g_1 = p0_g.Places.length) (p1_p : GPlace) (r : Bool) (W : World) (hm : impl_isPlace F p0_g p1_p = some r) (h_p0_g_1 : Rd W A_p0_g_1 ((recs GPlace.cells) p0_g.Places)) :
    Calls Try.prog 149 [.agg #[.int .i64 p0_g.Events, .slice A_p0_g_1 n_p0_g_1 c_p0_g_1], .agg #[.int .i64 p1_p.From, .int .i64 p1_p.To, .int .i64 p1_p.Delay, .int .i64 p1_p.Tokens]].toArray W fun e w' => ∃ v, e = .returned v ∧ v = .bool r ∧ St [] W w' [] := by
  subst hn_p0_g_1
  unfold impl_isPlace at hm
  refine Calls.enter (N := 25) Try.func149 rfl rfl rfl (fun a hf => ?_)
  have hs := St.start W
  obtain ⟨w, hw_⟩ : ∃ w, w = W := ⟨W, rfl⟩
  clear hw_ w
  refine wpL_seq ?_
  refine wpL_region ?_
  refine sBox hf hs rfl rfl rfl rfl rfl (cs := [.int .i64 p0_g.Events, .slice A_p0_g_1 p0_g.Places.length c_p0_g_1]) rfl ?_; clear hf hs; intro a w b1 hs hf
  have hs : St [] W w [.blk b1 39 [.int .i64 p0_g.Events, .slice A_p0_g_1 p0_g.Places.length c_p0_g_1]] := hs
  refine sBox hf hs rfl rfl rfl rfl rfl (cs := [.int .i64 p1_p.From, .int .i64 p1_p.To, .int .i64 p1_p.Delay, .int .i64 p1_p.Tokens]) rfl ?_; clear hf hs; intro a w b2 hs hf
  have hs : St [] W w [.blk b1 39 [.int .i64 p0_g.Events, .slice A_p0_g_1 p0_g.Places.length c_p0_g_1], .blk b2 96 [.int .i64 p1_p.From, .int .i64 p1_p.To, .int .i64 p1_p.Delay, .int .i64 p1_p.Tokens]] := hs
  refine sY hf hs rfl rfl rfl (Y_assign rfl rfl) ?_; clear hf; intro a hf
  refine wpO_nil ?_
  refine wpL_seq ?_
  obtain ⟨r15, hj16, hm⟩ := bind_some hm
  refine wpL_cut (fun a w => ∃ b14 : Bool, b14 = r15 ∧ Fr a 25 [(4, .bool b14)] ∧ St [] W w []) ?_ ?_
  · refine wpL_region ?_
    refine sY hf hs rfl rfl rfl (Y_load_blkS rfl rfl (i := 0) rfl ag39 ti39 rfl) ?_; clear hf; intro a hf
    refine sY hf hs rfl rfl rfl (Y_fieldAddr rfl rfl fo96_0) ?_; clear hf; intro a hf
    refine sY hf hs rfl rfl rfl (Y_load_blk rfl rfl (i := 1) rfl rfl ag2) ?_; clear hf; intro a hf
    obtain ⟨r17, hc18, hj16⟩ := bind_some hj16
    refine sCall hf rfl rfl rfl rfl (cap := []) rfl rfl en181 (impl_isEvent_ok F p0_g A_p0_g_1 p0_g.Places.length c_p0_g_1 rfl p1_p.From _ _ hc18 (h_p0_g_1.at hs)) ?_; clear hf
    rintro _ w ⟨rfl, hs1⟩ a hf
    have hs : St [] W w [.blk b1 39 [.int .i64 p0_g.Events, .slice A_p0_g_1 p0_g.Places.length c_p0_g_1], .blk b2 96 [.int .i64 p1_p.From, .int .i64 p1_p.To, .int .i64 p1_p.Delay, .int .i64 p1_p.Tokens]] := hs.ext hs1.below
    clear hs1
    refine sY hf hs rfl rfl rfl (Y_move rfl rfl) ?_; clear hf; intro a hf
    refine bsplit r17 (fun hb19 => ?_) (fun hb19 => ?_)
    · have hj16 := bif_t hj16 hb19
      refine sYg hf hs rfl rfl rfl (congrArg (fun b => some (Value.bool b)) hb19) rfl rfl rfl (Y_load_blkS rfl rfl (i := 0) rfl ag39 ti39 rfl) ?_; clear hf; intro a hf
      refine sYg hf hs rfl rfl rfl (congrArg (fun b => some (Value.bool b)) hb19) rfl rfl rfl (Y_fieldAddr rfl rfl fo96_1) ?_; clear hf; intro a hf
      refine sYg hf hs rfl rfl rfl (congrArg (fun b => some (Value.bool b)) hb19) rfl rfl rfl (Y_load_blk rfl rfl (i := 1) rfl rfl ag2) ?_; clear hf; intro a hf
      obtain ⟨r20, hc21, hj16⟩ := bind_some hj16
      refine sCallg hf rfl rfl rfl (congrArg (fun b => some (Value.bool b)) hb19) rfl rfl rfl rfl (cap := []) rfl rfl en181 (impl_isEvent_ok F p0_g A_p0_g_1 p0_g.Places.length c_p0_g_1 rfl p1_p.To _ _ hc21 (h_p0_g_1.at hs)) ?_; clear hf
      rintro _ w ⟨rfl, hs1⟩ a hf
      have hs : St [] W w [.blk b1 39 [.int .i64 p0_g.Events, .slice A_p0_g_1 p0_g.Places.length c_p0_g_1], .blk b2 96 [.int .i64 p1_p.From, .int .i64 p1_p.To, .int .i64 p1_p.Delay, .int .i64 p1_p.Tokens]] := hs.ext hs1.below
      clear hs1
      refine sY hf hs rfl rfl rfl (Y_pickT rfl (congrArg (fun b => some (Value.bool b)) hb19) rfl) ?_; clear hf; intro a hf
      refine sY hf hs rfl rfl rfl (Y_move rfl rfl) ?_; clear hf; intro a hf
      refine bsplit r20 (fun hb22 => ?_) (fun hb22 => ?_)
      · have hj16 := bif_t hj16 hb22
        refine sYg hf hs rfl rfl rfl (congrArg (fun b => some (Value.bool b)) hb22) rfl rfl rfl (Y_fieldAddr rfl rfl fo96_2) ?_; clear hf; intro a hf
        refine sYg hf hs rfl rfl rfl (congrArg (fun b => some (Value.bool b)) hb22) rfl rfl rfl (Y_load_blk rfl rfl (i := 1) rfl rfl ag2) ?_; clear hf; intro a hf
        obtain ⟨r23, hc24, hj16⟩ := bind_some hj16
        refine sCallg hf rfl rfl rfl (congrArg (fun b => some (Value.bool b)) hb22) rfl rfl rfl rfl (cap := []) rfl rfl en69 (impl_within_ok F p1_p.Delay 0 1000 _ _ hc24) ?_; clear hf
        rintro _ w ⟨rfl, hs1⟩ a hf
        have hs : St [] W w [.blk b1 39 [.int .i64 p0_g.Events, .slice A_p0_g_1 p0_g.Places.length c_p0_g_1], .blk b2 96 [.int .i64 p1_p.From, .int .i64 p1_p.To, .int .i64 p1_p.Delay, .int .i64 p1_p.Tokens]] := hs.ext hs1.below
        clear hs1
        refine sY hf hs rfl rfl rfl (Y_pickT rfl (congrArg (fun b => some (Value.bool b)) hb22) rfl) ?_; clear hf; intro a hf
        refine sY hf hs rfl rfl rfl (Y_move rfl rfl) ?_; clear hf; intro a hf
        refine bsplit r23 (fun hb25 => ?_) (fun hb25 => ?_)
        · have hj16 := bif_t hj16 hb25
          refine sYg hf hs rfl rfl rfl (congrArg (fun b => some (Value.bool b)) hb25) rfl rfl rfl (Y_fieldAddr rfl rfl fo96_3) ?_; clear hf; intro a hf
          refine sYg hf hs rfl rfl rfl (congrArg (fun b => some (Value.bool b)) hb25) rfl rfl rfl (Y_load_blk rfl rfl (i := 1) rfl rfl ag2) ?_; clear hf; intro a hf
          obtain ⟨r26, hc27, hj16⟩ := bind_some hj16
          refine sCallg hf rfl rfl rfl (congrArg (fun b => some (Value.bool b)) hb25) rfl rfl rfl rfl (cap := []) rfl rfl en69 (impl_within_ok F p1_p.Tokens 0 5 _ _ hc27) ?_; clear hf
          rintro _ w ⟨rfl, hs1⟩ a hf
          have hs : St [] W w [.blk b1 39 [.int .i64 p0_g.Events, .slice A_p0_g_1 p0_g.Places.length c_p0_g_1], .blk b2 96 [.int .i64 p1_p.From, .int .i64 p1_p.To, .int .i64 p1_p.Delay, .int .i64 p1_p.Tokens]] := hs.ext hs1.below
          clear hs1
          refine sY hf hs rfl rfl rfl (Y_pickT rfl (congrArg (fun b => some (Value.bool b)) hb25) rfl) ?_; clear hf; intro a hf
          refine sY hf hs rfl rfl rfl (Y_assign rfl rfl) ?_; clear hf; intro a hf
          refine wpO_nil ?_
          refine wpL_nil (then_normal ?_)
          exact ⟨r26, Option.some.inj hj16, (FrD.pick hf.none hf rfl), hs.sel [] (by decide)⟩
        · have hj16 := bif_f hj16 hb25
          refine sNo hf rfl rfl rfl (congrArg (fun b => some (Value.bool b)) hb25) rfl rfl rfl ?_; clear hf; intro a hf
          refine sNo hf rfl rfl rfl (congrArg (fun b => some (Value.bool b)) hb25) rfl rfl rfl ?_; clear hf; intro a hf
          refine sNo hf rfl rfl rfl (congrArg (fun b => some (Value.bool b)) hb25) rfl rfl rfl ?_; clear hf; intro a hf
          refine sY hf hs rfl rfl rfl (Y_pickF rfl (congrArg (fun b => some (Value.bool b)) hb25) rfl) ?_; clear hf; intro a hf
          refine sY hf hs rfl rfl rfl (Y_assign rfl rfl) ?_; clear hf; intro a hf
          refine wpO_nil ?_
          refine wpL_nil (then_normal ?_)
          exact ⟨false, Option.some.inj hj16, (FrD.pick hf.none hf rfl), hs.sel [] (by decide)⟩
      · have hj16 := bif_f hj16 hb22
        refine sNo hf rfl rfl rfl (congrArg (fun b => some (Value.bool b)) hb22) rfl rfl rfl ?_; clear hf; intro a hf
        refine sNo hf rfl rfl rfl (congrArg (fun b => some (Value.bool b)) hb22) rfl rfl rfl ?_; clear hf; intro a hf
        refine sNo hf rfl rfl rfl (congrArg (fun b => some (Value.bool b)) hb22) rfl rfl rfl ?_; clear hf; intro a hf
        refine sY hf hs rfl rfl rfl (Y_pickF rfl (congrArg (fun b => some (Value.bool b)) hb22) rfl) ?_; clear hf; intro a hf
        refine sY hf hs rfl rfl rfl (Y_move rfl rfl) ?_; clear hf; intro a hf
        refine sNo hf rfl rfl rfl rfl rfl rfl rfl ?_; clear hf; intro a hf
        refine sNo hf rfl rfl rfl rfl rfl rfl rfl ?_; clear hf; intro a hf
        refine sNo hf rfl rfl rfl rfl rfl rfl rfl ?_; clear hf; intro a hf
        refine sY hf hs rfl rfl rfl (Y_pickF rfl rfl rfl) ?_; clear hf; intro a hf
        refine sY hf hs rfl rfl rfl (Y_assign rfl rfl) ?_; clear hf; intro a hf
        refine wpO_nil ?_
        refine wpL_nil (then_normal ?_)
        exact ⟨false, Option.some.inj hj16, (FrD.pick hf.none hf rfl), hs.sel [] (by decide)⟩
    · have hj16 := bif_f hj16 hb19
      refine sNo hf rfl rfl rfl (congrArg (fun b => some (Value.bool b)) hb19) rfl rfl rfl ?_; clear hf; intro a hf
      refine sNo hf rfl rfl rfl (congrArg (fun b => some (Value.bool b)) hb19) rfl rfl rfl ?_; clear hf; intro a hf
      refine sNo hf rfl rfl rfl (congrArg (fun b => some (Value.bool b)) hb19) rfl rfl rfl ?_; clear hf; intro a hf
      refine sNo hf rfl rfl rfl (congrArg (fun b => some (Value.bool b)) hb19) rfl rfl rfl ?_; clear hf; intro a hf
      refine sY hf hs rfl rfl rfl (Y_pickF rfl (congrArg (fun b => some (Value.bool b)) hb19) rfl) ?_; clear hf; intro a hf
      refine sY hf hs rfl rfl rfl (Y_move rfl rfl) ?_; clear hf; intro a hf
      refine sNo hf rfl rfl rfl rfl rfl rfl rfl ?_; clear hf; intro a hf
      refine sNo hf rfl rfl rfl rfl rfl rfl rfl ?_; clear hf; intro a hf
      refine sNo hf rfl rfl rfl rfl rfl rfl rfl ?_; clear hf; intro a hf
      refine sY hf hs rfl rfl rfl (Y_pickF rfl rfl rfl) ?_; clear hf; intro a hf
      refine sY hf hs rfl rfl rfl (Y_move rfl rfl) ?_; clear hf; intro a hf
      refine sNo hf rfl rfl rfl rfl rfl rfl rfl ?_; clear hf; intro a hf
      refine sNo hf rfl rfl rfl rfl rfl rfl rfl ?_; clear hf; intro a hf
      refine sNo hf rfl rfl rfl rfl rfl rfl rfl ?_; clear hf; intro a hf
      refine sY hf hs rfl rfl rfl (Y_pickF rfl rfl rfl) ?_; clear hf; intro a hf
      refine sY hf hs rfl rfl rfl (Y_assign rfl rfl) ?_; clear hf; intro a hf
      refine wpO_nil ?_
      refine wpL_nil (then_normal ?_)
      exact ⟨false, Option.some.inj hj16, (FrD.pick hf.none hf rfl), hs.sel [] (by decide)⟩
  · rintro a w ⟨b14, hr_, hf, hs⟩
    subst hr_
    try dsimp only at hm
    obtain rfl := Option.some.inj hm
    refine wpL_ret (ret_tmp rfl hf rfl ?_)
    exact ⟨_, rfl, rfl, hs⟩

set_option maxRecDepth 100000 in
theorem impl_IsEventGraph_c1_ok (F : Nat) (p0_p : GPlace) (b_z0 : Nat) (z0 : GEventGraph) (A_z0_1 : Option Addr) (n_z0_1 c_z0_1 : Nat) (hn_z0_1 : n_z0_1 = z0.Places.length) (r : Bool) (W : World) (hm : impl_IsEventGraph_c1 F p0_p z0 = some r) (h_z0_1 : Rd W A_z0_1 ((recs GPlace.cells) z0.Places)) (h_z0 : PB W b_z0 39 [.int .i64 z0.Events, .slice A_z0_1 n_z0_1 c_z0_1]) :
    Calls Try.prog 148 [.agg #[.int .i64 p0_p.From, .int .i64 p0_p.To, .int .i64 p0_p.Delay, .int .i64 p0_p.Tokens], .pointer (some ⟨b_z0, 0, none⟩)].toArray W fun e w' => ∃ v, e = .returned v ∧ v = .bool r ∧ St [] W w' [] := by
  subst hn_z0_1
  unfold impl_IsEventGraph_c1 at hm
  refine Calls.enter (N := 8) Try.func148 rfl rfl rfl (fun a hf => ?_)
  have hs := St.start W
  obtain ⟨w, hw_⟩ : ∃ w, w = W := ⟨W, rfl⟩
  clear hw_ w
  refine wpL_seq ?_
  refine wpL_region ?_
  refine sBox hf hs rfl rfl rfl rfl rfl (cs := [.int .i64 p0_p.From, .int .i64 p0_p.To, .int .i64 p0_p.Delay, .int .i64 p0_p.Tokens]) rfl ?_; clear hf hs; intro a w b1 hs hf
  have hs : St [] W w [.blk b1 96 [.int .i64 p0_p.From, .int .i64 p0_p.To, .int .i64 p0_p.Delay, .int .i64 p0_p.Tokens]] := hs
  refine sY hf hs rfl rfl rfl (Y_assign rfl rfl) ?_; clear hf; intro a hf
  refine wpO_nil ?_
  refine wpL_seq ?_
  refine wpL_region ?_
  refine sY hf hs rfl rfl rfl (Y_load_pbS rfl rfl h_z0 ag39 ti39 rfl) ?_; clear hf; intro a hf
  refine sY hf hs rfl rfl rfl (Y_load_blkS rfl rfl (i := 0) rfl ag96 ti96 rfl) ?_; clear hf; intro a hf
  obtain ⟨r2, hc3, hm⟩ := bind_some hm
  refine sCall hf rfl rfl rfl rfl (cap := []) rfl rfl en149 (impl_isPlace_ok F z0 A_z0_1 z0.Places.length c_z0_1 rfl p0_p _ _ hc3 (h_z0_1.at hs)) ?_; clear hf
  rintro _ w ⟨rfl, hs1⟩ a hf
  have hs : St [] W w [.blk b1 96 [.int .i64 p0_p.From, .int .i64 p0_p.To, .int .i64 p0_p.Delay, .int .i64 p0_p.Tokens]] := hs.ext hs1.below
  clear hs1
  refine sY hf hs rfl rfl rfl (Y_not rfl rfl) ?_; clear hf; intro a hf
  refine sY hf hs rfl rfl rfl (Y_assign rfl rfl) ?_; clear hf; intro a hf
  refine wpO_nil ?_
  obtain rfl := Option.some.inj hm
  refine wpL_ret (ret_tmp rfl hf rfl ?_)
  exact ⟨_, rfl, rfl, hs.sel [] (by decide)⟩

set_option maxRecDepth 100000 in
theorem slices_IndexFunc_Place_ok (F : Nat) (p0_s : List GPlace) (A_p0_s_1 : Option Addr) (n_p0_s_1 c_p0_s_1 : Nat) (hn_p0_s_1 : n_p0_s_1 = p0_s.length) (m_p1_f : GPlace → Option Bool) (f_p1_f : FuncId) (k_p1_f : List Value) (r : Int) (W : World) (hm : slices_IndexFunc_Place F p0_s m_p1_f = some r) (h_p0_s_1 : Rd W A_p0_s_1 ((recs GPlace.cells) p0_s)) (h_p1_f : ∀ (x0 : GPlace) (r : Bool) (w : World), m_p1_f x0 = some r → Below W.heap.size W w → Calls Try.prog f_p1_f (([.agg #[.int .i64 x0.From, .int .i64 x0.To, .int .i64 x0.Delay, .int .i64 x0.Tokens]] : List Value) ++ k_p1_f).toArray w fun e w' => ∃ v, e = .returned v ∧ v = .bool r ∧ St [] w w' []) (e_p1_f : En Try.prog f_p1_f) :
    Calls Try.prog 151 [.slice A_p0_s_1 n_p0_s_1 c_p0_s_1, .func (.func f_p1_f) #[] k_p1_f.toArray].toArray W fun e w' => ∃ v, e = .returned v ∧ v = .int .i64 r ∧ St [] W w' [] := by
  subst hn_p0_s_1
  unfold slices_IndexFunc_Place at hm
  refine Calls.enter (N := 19) Try.func151 rfl rfl rfl (fun a hf => ?_)
  have hs := St.start W
  obtain ⟨w, hw_⟩ : ∃ w, w = W := ⟨W, rfl⟩
  clear hw_ w
  refine wpL_seq ?_
  refine wpL_region ?_
  refine sY hf hs rfl rfl rfl (Y_assign rfl rfl) ?_; clear hf; intro a hf
  refine wpO_nil ?_
  refine wpL_seq ?_
  refine wpL_seq ?_
  refine wpL_region ?_
  refine sY hf hs rfl rfl rfl (Y_move rfl rfl) ?_; clear hf; intro a hf
  refine sY hf hs rfl rfl rfl (Y_lenH rfl rfl el37 rfl) ?_; clear hf; intro a hf
  refine sY hf hs rfl rfl rfl (Y_move rfl rfl) ?_; clear hf; intro a hf
  refine wpO_nil ?_
  obtain ⟨r21, hl22, hm⟩ := bind_some hm
  refine wpL_block (fun a w => Sum.inr () = r21 ∧ Fr a 19 [] ∧ St [] W w []) ?_ ?_
  · refine wpL_loop (fun n a w => ∃ x14 : Int, slices_IndexFunc_Place_L1 F p0_s m_p1_f n x14 = some r21 ∧ Fr a 19 [(0, .slice A_p0_s_1 p0_s.length c_p0_s_1), (1, .func (.func f_p1_f) #[] k_p1_f.toArray), (7, .int .i64 (p0_s.length : Int)), (8, .int .i64 x14)] ∧ St [] W w []) F ?_ ?_ ?_
    · exact ⟨0, hl22, (FrD.pick (FrD.pick (FrD.pick (FrD.pick hf.none hf rfl) hf rfl) hf rfl) hf rfl), hs⟩
    · rintro a w ⟨x14, h0_, -, -⟩; simp [slices_IndexFunc_Place_L1] at h0_
    · rintro n24 a w ⟨x14, hm23, hf, hs⟩
      rw [slices_IndexFunc_Place_L1] at hm23
      refine wpL_seq ?_
      refine wpL_region ?_
      refine sY hf hs rfl rfl rfl (Y_lss rfl rfl rfl) ?_; clear hf; intro a hf
      refine wpO_nil ?_
      refine wpL_seq ?_
      refine wpL_cond hf rfl (fun hb25 => ?_) (fun hb25 => ?_)
      · have hm23 := bif_t hm23 hb25
        refine wpL_skip ?_
        refine wpL_seq ?_
        refine wpL_block0 ?_
        refine wpL_seq ?_
        refine wpL_region ?_
        refine sY hf hs rfl rfl rfl (Y_move rfl rfl) ?_; clear hf; intro a hf
        refine sY hf hs rfl rfl rfl (Y_assign rfl rfl) ?_; clear hf; intro a hf
        refine wpO_nil ?_
        refine wpL_seq ?_
        refine wpL_region ?_
        refine sY hf hs rfl rfl rfl (Y_move rfl rfl) ?_; clear hf; intro a hf
        refine sY hf hs rfl rfl rfl (Y_move rfl rfl) ?_; clear hf; intro a hf
        refine sY hf hs rfl rfl rfl (Y_move rfl rfl) ?_; clear hf; intro a hf
        obtain ⟨q26, hi27, hm23⟩ := bind_some hm23
        obtain ⟨hi27a, hi27b, hi27q⟩ := idx_some hi27
        refine sY hf hs rfl rfl rfl (Y_index rfl rfl rfl el37 ti96 (Rd.isAt (h_p0_s_1.at hs) (recs_at (s := 4) GPlace.len hi27q (j := 0) rfl)) hi27a hi27b) ?_; clear hf; intro a hf
        refine sY hf hs rfl rfl rfl (Y_load_rdS rfl rfl (us := [.int .i64 q26.From, .int .i64 q26.To, .int .i64 q26.Delay, .int .i64 q26.Tokens]) (fun w hs => h_p0_s_1.at hs) (fun j u hj => recs_at (s := 4) GPlace.len hi27q hj) (Nat.succ_pos _) ag96 ti96 rfl) ?_; clear hf; intro a hf
        obtain ⟨r28, hc29, hm23⟩ := bind_some hm23
        refine sCall hf rfl rfl rfl rfl (cap := k_p1_f) rfl rfl e_p1_f (h_p1_f q26 _ _ hc29 hs.below) ?_; clear hf; rintro _ w ⟨rfl, hs1⟩ a hf; have hs := hs.ext hs1.below; clear hs1
        refine wpO_nil ?_
        refine wpL_cond hf rfl (fun hb30 => ?_) (fun hb30 => ?_)
        · have hm23 := bif_t hm23 hb30
          refine wpL_seq ?_
          refine wpL_region ?_
          refine sY hf hs rfl rfl rfl (Y_move rfl rfl) ?_; clear hf; intro a hf
          refine sY hf hs rfl rfl rfl (Y_assign rfl rfl) ?_; clear hf; intro a hf
          refine wpO_nil ?_
          obtain rfl := Option.some.inj hm23
          try dsimp only at hm
          obtain rfl := Option.some.inj hm
          refine wpL_ret (Qb_ret (Ql_ret (Qb_ret (ret_tmp rfl hf rfl ?_))))
          exact ⟨_, rfl, rfl, hs⟩
        · have hm23 := bif_f hm23 hb30
          refine wpL_skip ?_
          refine wpL_nil (Qb_normal ?_)
          refine wpL_region ?_
          refine sY hf hs rfl rfl rfl (Y_add rfl rfl rfl) ?_; clear hf; intro a hf
          refine sY hf hs rfl rfl rfl (Y_move rfl rfl) ?_; clear hf; intro a hf
          refine wpO_nil ?_
          refine wpL_nil (Ql_normal ?_)
          exact ⟨(IntKind.i64.wrap (x14 + 1)), hm23, (FrD.pick (FrD.pick (FrD.pick (FrD.pick hf.none hf rfl) hf rfl) hf rfl) hf rfl), hs⟩
      · have hm23 := bif_f hm23 hb25
        refine wpL_exit (Ql_exit (Qb_exit ?_))
        exact ⟨Option.some.inj hm23, hf.none, hs⟩
  · rintro a w ⟨hr_, hf, hs⟩
    subst hr_
    try dsimp only at hm
    refine wpL_seq ?_
    refine wpL_region ?_
    refine sY hf hs rfl rfl rfl (Y_assign rfl rfl) ?_; clear hf; intro a hf
    refine wpO_nil ?_
    obtain rfl := Option.some.inj hm
    refine wpL_ret (ret_tmp rfl hf rfl ?_)
    exact ⟨_, rfl, rfl, hs⟩

set_option maxRecDepth 100000 in
theorem slices_ContainsFunc_Place_ok (F : Nat) (p0_s : List GPlace) (A_p0_s_1 : Option Addr) (n_p0_s_1 c_p0_s_1 : Nat) (hn_p0_s_1 : n_p0_s_1 = p0_s.length) (m_p1_f : GPlace → Option Bool) (f_p1_f : FuncId) (k_p1_f : List Value) (r : Bool) (W : World) (hm : slices_ContainsFunc_Place F p0_s m_p1_f = some r) (h_p0_s_1 : Rd W A_p0_s_1 ((recs GPlace.cells) p0_s)) (h_p1_f : ∀ (x0 : GPlace) (r : Bool) (w : World), m_p1_f x0 = some r → Below W.heap.size W w → Calls Try.prog f_p1_f (([.agg #[.int .i64 x0.From, .int .i64 x0.To, .int .i64 x0.Delay, .int .i64 x0.Tokens]] : List Value) ++ k_p1_f).toArray w fun e w' => ∃ v, e = .returned v ∧ v = .bool r ∧ St [] w w' []) (e_p1_f : En Try.prog f_p1_f) :
    Calls Try.prog 147 [.slice A_p0_s_1 n_p0_s_1 c_p0_s_1, .func (.func f_p1_f) #[] k_p1_f.toArray].toArray W fun e w' => ∃ v, e = .returned v ∧ v = .bool r ∧ St [] W w' [] := by
  subst hn_p0_s_1
  unfold slices_ContainsFunc_Place at hm
  refine Calls.enter (N := 9) Try.func147 rfl rfl rfl (fun a hf => ?_)
  have hs := St.start W
  obtain ⟨w, hw_⟩ : ∃ w, w = W := ⟨W, rfl⟩
  clear hw_ w
  refine wpL_seq ?_
  refine wpL_region ?_
  refine sY hf hs rfl rfl rfl (Y_assign rfl rfl) ?_; clear hf; intro a hf
  refine wpO_nil ?_
  refine wpL_seq ?_
  refine wpL_region ?_
  refine sY hf hs rfl rfl rfl (Y_move rfl rfl) ?_; clear hf; intro a hf
  refine sY hf hs rfl rfl rfl (Y_move rfl rfl) ?_; clear hf; intro a hf
  obtain ⟨r1, hc2, hm⟩ := bind_some hm
  refine sCall hf rfl rfl rfl rfl (cap := []) rfl rfl en151 (slices_IndexFunc_Place_ok F p0_s A_p0_s_1 p0_s.length c_p0_s_1 rfl m_p1_f f_p1_f k_p1_f _ _ hc2 (h_p0_s_1.at hs) (fun x0 r w' hm_ hb => h_p1_f x0 r w' hm_ (hs.below.trans (hb.mono hs.below.size))) e_p1_f) ?_; clear hf
  rintro _ w ⟨rfl, hs1⟩ a hf
  have hs : St [] W w [] := hs.ext hs1.below
  clear hs1
  refine sY hf hs rfl rfl rfl (Y_geq rfl rfl rfl) ?_; clear hf; intro a hf
  refine sY hf hs rfl rfl rfl (Y_assign rfl rfl) ?_; clear hf; intro a hf
  refine wpO_nil ?_
  obtain rfl := Option.some.inj hm
  refine wpL_ret (ret_tmp rfl hf rfl ?_)
  exact ⟨_, rfl, rfl, hs⟩

set_option maxRecDepth 100000 in
theorem impl_IsEventGraph_ok (F : Nat) (p0_g : GEventGraph) (A_p0_g_1 : Option Addr) (n_p0_g_1 c_p0_g_1 : Nat) (hn_p0_g_1 : n_p0_g_1 = p0_g.Places.length) (r : Bool) (W : World) (hm : impl_IsEventGraph F p0_g = some r) (h_p0_g_1 : Rd W A_p0_g_1 ((recs GPlace.cells) p0_g.Places)) :
    Calls Try.prog 79 [.agg #[.int .i64 p0_g.Events, .slice A_p0_g_1 n_p0_g_1 c_p0_g_1]].toArray W fun e w' => ∃ v, e = .returned v ∧ v = .bool r ∧ St [] W w' [] := by
  subst hn_p0_g_1
  unfold impl_IsEventGraph at hm
  refine Calls.enter (N := 19) Try.func79 rfl rfl rfl (fun a hf => ?_)
  have hs := St.start W
  obtain ⟨w, hw_⟩ : ∃ w, w = W := ⟨W, rfl⟩
  clear hw_ w
  refine wpL_seq ?_
  refine wpL_region ?_
  refine sBox hf hs rfl rfl rfl rfl rfl (cs := [.int .i64 p0_g.Events, .slice A_p0_g_1 p0_g.Places.length c_p0_g_1]) rfl ?_; clear hf hs; intro a w b1 hs hf
  have hs : St [] W w [.blk b1 39 [.int .i64 p0_g.Events, .slice A_p0_g_1 p0_g.Places.length c_p0_g_1]] := hs
  refine sY hf hs rfl rfl rfl (Y_assign rfl rfl) ?_; clear hf; intro a hf
  refine wpO_nil ?_
  refine wpL_seq ?_
  obtain ⟨r9, hj10, hm⟩ := bind_some hm
  refine wpL_cut (fun a w => ∃ b8 : Bool, b8 = r9 ∧ Fr a 19 [(2, .bool b8)] ∧ St [] W w []) ?_ ?_
  · refine wpL_region ?_
    refine sY hf hs rfl rfl rfl (Y_fieldAddr rfl rfl fo39_0) ?_; clear hf; intro a hf
    refine sY hf hs rfl rfl rfl (Y_load_blk rfl rfl (i := 0) rfl rfl ag2) ?_; clear hf; intro a hf
    obtain ⟨r11, hc12, hj10⟩ := bind_some hj10
    refine sCall hf rfl rfl rfl rfl (cap := []) rfl rfl en69 (impl_within_ok F p0_g.Events 1 10 _ _ hc12) ?_; clear hf
    rintro _ w ⟨rfl, hs1⟩ a hf
    have hs : St [] W w [.blk b1 39 [.int .i64 p0_g.Events, .slice A_p0_g_1 p0_g.Places.length c_p0_g_1]] := hs.ext hs1.below
    clear hs1
    refine sY hf hs rfl rfl rfl (Y_move rfl rfl) ?_; clear hf; intro a hf
    refine bsplit r11 (fun hb13 => ?_) (fun hb13 => ?_)
    · have hj10 := bif_t hj10 hb13
      refine sYg hf hs rfl rfl rfl (congrArg (fun b => some (Value.bool b)) hb13) rfl rfl rfl (Y_fieldAddr rfl rfl fo39_1) ?_; clear hf; intro a hf
      refine sYg hf hs rfl rfl rfl (congrArg (fun b => some (Value.bool b)) hb13) rfl rfl rfl (Y_load_blk rfl rfl (i := 0) rfl rfl ag37) ?_; clear hf; intro a hf
      refine sYg hf hs rfl rfl rfl (congrArg (fun b => some (Value.bool b)) hb13) rfl rfl rfl (Y_lenH rfl rfl el37 rfl) ?_; clear hf; intro a hf
      refine sYg hf hs rfl rfl rfl (congrArg (fun b => some (Value.bool b)) hb13) rfl rfl rfl (Y_leq rfl rfl rfl) ?_; clear hf; intro a hf
      refine sY hf hs rfl rfl rfl (Y_pickT rfl (congrArg (fun b => some (Value.bool b)) hb13) rfl) ?_; clear hf; intro a hf
      refine sY hf hs rfl rfl rfl (Y_move rfl rfl) ?_; clear hf; intro a hf
      refine bsplit (decide ((p0_g.Places.length : Int) ≤ 30)) (fun hb14 => ?_) (fun hb14 => ?_)
      · have hj10 := bif_t hj10 hb14
        refine sYg hf hs rfl rfl rfl (congrArg (fun b => some (Value.bool b)) hb14) rfl rfl rfl (Y_fieldAddr rfl rfl fo39_1) ?_; clear hf; intro a hf
        refine sYg hf hs rfl rfl rfl (congrArg (fun b => some (Value.bool b)) hb14) rfl rfl rfl (Y_load_blk rfl rfl (i := 0) rfl rfl ag37) ?_; clear hf; intro a hf
        refine sYg hf hs rfl rfl rfl (congrArg (fun b => some (Value.bool b)) hb14) rfl rfl rfl (Y_makeFunc (us := []) (vs := [.pointer (some ⟨b1, 0, none⟩)]) rfl rfl rfl) ?_; clear hf; intro a hf
        obtain ⟨r15, hc16, hj10⟩ := bind_some hj10
        refine sCallg hf rfl rfl rfl (congrArg (fun b => some (Value.bool b)) hb14) rfl rfl rfl rfl (cap := []) rfl rfl en147 (slices_ContainsFunc_Place_ok F p0_g.Places A_p0_g_1 p0_g.Places.length c_p0_g_1 rfl (fun x0 => impl_IsEventGraph_c1 F x0 p0_g) 148 ([.pointer (some ⟨b1, 0, none⟩)]) _ _ hc16 (h_p0_g_1.at hs) (fun x0 r w' hm_ hb => impl_IsEventGraph_c1_ok F x0 b1 p0_g A_p0_g_1 p0_g.Places.length c_p0_g_1 rfl r w' hm_ ((h_p0_g_1.at hs).below hb (Nat.le_refl _)) ((hs.pb (i := 0) rfl).below hb (Nat.le_refl _))) en148) ?_; clear hf
        rintro _ w ⟨rfl, hs1⟩ a hf
        have hs : St [] W w [.blk b1 39 [.int .i64 p0_g.Events, .slice A_p0_g_1 p0_g.Places.length c_p0_g_1]] := hs.ext hs1.below
        clear hs1
        refine sYg hf hs rfl rfl rfl (congrArg (fun b => some (Value.bool b)) hb14) rfl rfl rfl (Y_not rfl rfl) ?_; clear hf; intro a hf
        refine sY hf hs rfl rfl rfl (Y_pickT rfl (congrArg (fun b => some (Value.bool b)) hb14) rfl) ?_; clear hf; intro a hf
        refine sY hf hs rfl rfl rfl (Y_assign rfl rfl) ?_; clear hf; intro a hf
        refine wpO_nil ?_
        refine wpL_nil (then_normal ?_)
        exact ⟨(!r15), Option.some.inj hj10, (FrD.pick hf.none hf rfl), hs.sel [] (by decide)⟩
      · have hj10 := bif_f hj10 hb14
        refine sNo hf rfl rfl rfl (congrArg (fun b => some (Value.bool b)) hb14) rfl rfl rfl ?_; clear hf; intro a hf
        refine sNo hf rfl rfl rfl (congrArg (fun b => some (Value.bool b)) hb14) rfl rfl rfl ?_; clear hf; intro a hf
        refine sNo hf rfl rfl rfl (congrArg (fun b => some (Value.bool b)) hb14) rfl rfl rfl ?_; clear hf; intro a hf
        refine sNo hf rfl rfl rfl (congrArg (fun b => some (Value.bool b)) hb14) rfl rfl rfl ?_; clear hf; intro a hf
        refine sNo hf rfl rfl rfl (congrArg (fun b => some (Value.bool b)) hb14) rfl rfl rfl ?_; clear hf; intro a hf
        refine sY hf hs rfl rfl rfl (Y_pickF rfl (congrArg (fun b => some (Value.bool b)) hb14) rfl) ?_; clear hf; intro a hf
        refine sY hf hs rfl rfl rfl (Y_assign rfl rfl) ?_; clear hf; intro a hf
        refine wpO_nil ?_
        refine wpL_nil (then_normal ?_)
        exact ⟨false, Option.some.inj hj10, (FrD.pick hf.none hf rfl), hs.sel [] (by decide)⟩
    · have hj10 := bif_f hj10 hb13
      refine sNo hf rfl rfl rfl (congrArg (fun b => some (Value.bool b)) hb13) rfl rfl rfl ?_; clear hf; intro a hf
      refine sNo hf rfl rfl rfl (congrArg (fun b => some (Value.bool b)) hb13) rfl rfl rfl ?_; clear hf; intro a hf
      refine sNo hf rfl rfl rfl (congrArg (fun b => some (Value.bool b)) hb13) rfl rfl rfl ?_; clear hf; intro a hf
      refine sNo hf rfl rfl rfl (congrArg (fun b => some (Value.bool b)) hb13) rfl rfl rfl ?_; clear hf; intro a hf
      refine sY hf hs rfl rfl rfl (Y_pickF rfl (congrArg (fun b => some (Value.bool b)) hb13) rfl) ?_; clear hf; intro a hf
      refine sY hf hs rfl rfl rfl (Y_move rfl rfl) ?_; clear hf; intro a hf
      refine sNo hf rfl rfl rfl rfl rfl rfl rfl ?_; clear hf; intro a hf
      refine sNo hf rfl rfl rfl rfl rfl rfl rfl ?_; clear hf; intro a hf
      refine sNo hf rfl rfl rfl rfl rfl rfl rfl ?_; clear hf; intro a hf
      refine sNo hf rfl rfl rfl rfl rfl rfl rfl ?_; clear hf; intro a hf
      refine sNo hf rfl rfl rfl rfl rfl rfl rfl ?_; clear hf; intro a hf
      refine sY hf hs rfl rfl rfl (Y_pickF rfl rfl rfl) ?_; clear hf; intro a hf
      refine sY hf hs rfl rfl rfl (Y_assign rfl rfl) ?_; clear hf; intro a hf
      refine wpO_nil ?_
      refine wpL_nil (then_normal ?_)
      exact ⟨false, Option.some.inj hj10, (FrD.pick hf.none hf rfl), hs.sel [] (by decide)⟩
  · rintro a w ⟨b8, hr_, hf, hs⟩
    subst hr_
    try dsimp only at hm
    obtain rfl := Option.some.inj hm
    refine wpL_ret (ret_tmp rfl hf rfl ?_)
    exact ⟨_, rfl, rfl, hs⟩

set_option maxRecDepth 100000 in
theorem impl_allWithin_ok (F : Nat) (p0_list : List Int) (A_p0_list_1 : Option Addr) (n_p0_list_1 c_p0_list_1 : Nat) (hn_p0_list_1 : n_p0_list_1 = p0_list.length) (p1_low : Int) (p2_high : Int) (r : Bool) (W : World) (hm : impl_allWithin F p0_list p1_low p2_high = some r) (h_p0_list_1 : Rd W A_p0_list_1 (ints p0_list)) :
    Calls Try.prog 80 [.slice A_p0_list_1 n_p0_list_1 c_p0_list_1, .int .i64 p1_low, .int .i64 p2_high].toArray W fun e w' => ∃ v, e = .returned v ∧ v = .bool r ∧ St [] W w' [] := by
  subst hn_p0_list_1
  unfold impl_allWithin at hm
  refine Calls.enter (N := 21) Try.func80 rfl rfl rfl (fun a hf => ?_)
  have hs := St.start W
  obtain ⟨w, hw_⟩ : ∃ w, w = W := ⟨W, rfl⟩
  clear hw_ w
  refine wpL_seq ?_
  refine wpL_region ?_
  refine sY hf hs rfl rfl rfl (Y_assign rfl rfl) ?_; clear hf; intro a hf
  refine wpO_nil ?_
  refine wpL_seq ?_
  refine wpL_seq ?_
  refine wpL_region ?_
  refine sY hf hs rfl rfl rfl (Y_move rfl rfl) ?_; clear hf; intro a hf
  refine sY hf hs rfl rfl rfl (Y_lenH rfl rfl el23 rfl) ?_; clear hf; intro a hf
  refine sY hf hs rfl rfl rfl (Y_move rfl rfl) ?_; clear hf; intro a hf
  refine wpO_nil ?_
  obtain ⟨r21, hl22, hm⟩ := bind_some hm
  refine wpL_block (fun a w => Sum.inr () = r21 ∧ Fr a 21 [] ∧ St [] W w []) ?_ ?_
  · refine wpL_loop (fun n a w => ∃ x14 : Int, impl_allWithin_L1 F p0_list p1_low p2_high n x14 = some r21 ∧ Fr a 21 [(1, .int .i64 p1_low), (2, .int .i64 p2_high), (9, .slice A_p0_list_1 p0_list.length c_p0_list_1), (10, .int .i64 (p0_list.length : Int)), (11, .int .i64 x14)] ∧ St [] W w []) F ?_ ?_ ?_
    · exact ⟨0, hl22, (FrD.pick (FrD.pick (FrD.pick (FrD.pick (FrD.pick hf.none hf rfl) hf rfl) hf rfl) hf rfl) hf rfl), hs⟩
    · rintro a w ⟨x14, h0_, -, -⟩; simp [impl_allWithin_L1] at h0_
    · rintro n24 a w ⟨x14, hm23, hf, hs⟩
      rw [impl_allWithin_L1] at hm23
      refine wpL_seq ?_
      refine wpL_region ?_
      refine sY hf hs rfl rfl rfl (Y_lss rfl rfl rfl) ?_; clear hf; intro a hf
      refine wpO_nil ?_
      refine wpL_seq ?_
      refine wpL_cond hf rfl (fun hb25 => ?_) (fun hb25 => ?_)
      · have hm23 := bif_t hm23 hb25
        refine wpL_skip ?_
        refine wpL_seq ?_
        refine wpL_block0 ?_
        refine wpL_seq ?_
        refine wpL_region ?_
        obtain ⟨q26, hi27, hm23⟩ := bind_some hm23
        obtain ⟨hi27a, hi27b, hi27q⟩ := idx_some hi27
        refine sY hf hs rfl rfl rfl (Y_index rfl rfl rfl el23 ti2 (Rd.isAt (h_p0_list_1.at hs) (at1 (ints_at hi27q))) hi27a hi27b) ?_; clear hf; intro a hf
        refine sY hf hs rfl rfl rfl (Y_load_rd rfl rfl (fun w hs => h_p0_list_1.at hs) (at1 (ints_at hi27q)) ag2) ?_; clear hf; intro a hf
        refine sY hf hs rfl rfl rfl (Y_assign rfl rfl) ?_; clear hf; intro a hf
        refine wpO_nil ?_
        refine wpL_seq ?_
        refine wpL_region ?_
        refine sY hf hs rfl rfl rfl (Y_move rfl rfl) ?_; clear hf; intro a hf
        refine sY hf hs rfl rfl rfl (Y_move rfl rfl) ?_; clear hf; intro a hf
        refine sY hf hs rfl rfl rfl (Y_move rfl rfl) ?_; clear hf; intro a hf
        obtain ⟨r28, hc29, hm23⟩ := bind_some hm23
        refine sCall hf rfl rfl rfl rfl (cap := []) rfl rfl en69 (impl_within_ok F q26 p1_low p2_high _ _ hc29) ?_; clear hf
        rintro _ w ⟨rfl, hs1⟩ a hf
        have hs : St [] W w [] := hs.ext hs1.below
        clear hs1
        refine sY hf hs rfl rfl rfl (Y_not rfl rfl) ?_; clear hf; intro a hf
        refine wpO_nil ?_
        refine wpL_cond hf rfl (fun hb30 => ?_) (fun hb30 => ?_)
        · have hm23 := bif_t hm23 hb30
          refine wpL_seq ?_
          refine wpL_region ?_
          refine sY hf hs rfl rfl rfl (Y_assign rfl rfl) ?_; clear hf; intro a hf
          refine wpO_nil ?_
          obtain rfl := Option.some.inj hm23
          try dsimp only at hm
          obtain rfl := Option.some.inj hm
          refine wpL_ret (Qb_ret (Ql_ret (Qb_ret (ret_tmp rfl hf rfl ?_))))
          exact ⟨_, rfl, rfl, hs⟩
        · have hm23 := bif_f hm23 hb30
          refine wpL_skip ?_
          refine wpL_nil (Qb_normal ?_)
          refine wpL_region ?_
          refine sY hf hs rfl rfl rfl (Y_add rfl rfl rfl) ?_; clear hf; intro a hf
          refine sY hf hs rfl rfl rfl (Y_move rfl rfl) ?_; clear hf; intro a hf
          refine wpO_nil ?_
          refine wpL_nil (Ql_normal ?_)
          exact ⟨(IntKind.i64.wrap (x14 + 1)), hm23, (FrD.pick (FrD.pick (FrD.pick (FrD.pick (FrD.pick hf.none hf rfl) hf rfl) hf rfl) hf rfl) hf rfl), hs⟩
      · have hm23 := bif_f hm23 hb25
        refine wpL_exit (Ql_exit (Qb_exit ?_))
        exact ⟨Option.some.inj hm23, hf.none, hs⟩
  · rintro a w ⟨hr_, hf, hs⟩
    subst hr_
    try dsimp only at hm
    refine wpL_seq ?_
    refine wpL_region ?_
    refine sY hf hs rfl rfl rfl (Y_assign rfl rfl) ?_; clear hf; intro a hf
    refine wpO_nil ?_
    obtain rfl := Option.some.inj hm
    refine wpL_ret (ret_tmp rfl hf rfl ?_)
    exact ⟨_, rfl, rfl, hs⟩

set_option maxRecDepth 100000 in
theorem impl_matrixBy_ok (F : Nat) (p0_m : Int) (p1_n : Int) (m_p2_entry : Int → Int → Option Int) (f_p2_entry : FuncId) (k_p2_entry : List Value) (r : List (List Int)) (W : World) (hm : impl_matrixBy F p0_m p1_n m_p2_entry = some r) (h_p2_entry : ∀ (x0 : Int) (x1 : Int) (r : Int) (w : World), m_p2_entry x0 x1 = some r → Below W.heap.size W w → Calls Try.prog f_p2_entry (([.int .i64 x0, .int .i64 x1] : List Value) ++ k_p2_entry).toArray w fun e w' => ∃ v, e = .returned v ∧ v = .int .i64 r ∧ St [] w w' []) (e_p2_entry : En Try.prog f_p2_entry) :
    Calls Try.prog 94 [.int .i64 p0_m, .int .i64 p1_n, .func (.func f_p2_entry) #[] k_p2_entry.toArray].toArray W fun e w' => ∃ v, e = .returned v ∧ ∃ A641, ∃ n642, ∃ c643, ∃ vs645, v = .slice A641 n642 c643 ∧ n642 = r.length ∧ St [] W w' [.mat A641 n642 c643 23 2 vs645 r] := by
  unfold impl_matrixBy at hm
  refine Calls.enter (N := 43) Try.func94 rfl rfl rfl (fun a hf => ?_)
  have hs := St.start W
  obtain ⟨w, hw_⟩ : ∃ w, w = W := ⟨W, rfl⟩
  clear hw_ w
  refine wpL_seq ?_
  refine wpL_region ?_
  refine sY hf hs rfl rfl rfl (Y_assign rfl rfl) ?_; clear hf; intro a hf
  refine wpO_nil ?_
  refine wpL_seq ?_
  refine wpL_region ?_
  refine sY hf hs rfl rfl rfl (Y_move rfl rfl) ?_; clear hf; intro a hf
  obtain ⟨ms3, hk2, hm⟩ := bind_some hm
  refine sMakeM 2 hf hs rfl rfl rfl rfl rfl hk2 el46 ti23 rfl ?_; clear hf hs; intro a w A1 vs4 hs hf
  have hs : St [] W w [.mat A1 ms3.length ms3.length 23 2 vs4 ms3] := hs
  refine sY hf hs rfl rfl rfl (Y_assign rfl rfl) ?_; clear hf; intro a hf
  refine wpO_nil ?_
  refine wpL_seq ?_
  refine wpL_seq ?_
  refine wpL_region ?_
  refine sY hf hs rfl rfl rfl (Y_move rfl rfl) ?_; clear hf; intro a hf
  refine sY hf hs rfl rfl rfl (Y_lenH rfl rfl el46 rfl) ?_; clear hf; intro a hf
  refine sY hf hs rfl rfl rfl (Y_move rfl rfl) ?_; clear hf; intro a hf
  refine wpO_nil ?_
  obtain ⟨r484, hl485, hm⟩ := bind_some hm
  refine wpL_block (fun a w => ∃ ms478 : List (List Int), ∃ A479, ∃ n480, ∃ c481, ∃ vs483, ms478 = r484 ∧ n480 = ms478.length ∧ Fr a 43 [(7, .slice A479 n480 c481)] ∧ St [] W w [.mat A479 n480 c481 23 2 vs483 ms478]) ?_ ?_
  · refine wpL_loop (fun n a w => ∃ ms318 : List (List Int), ∃ x324 : Int, ∃ A319, ∃ n320, ∃ c321, ∃ vs323, impl_matrixBy_L4 F p1_n m_p2_entry ms3 n ms318 x324 = some r484 ∧ n320 = ms318.length ∧ Fr a 43 [(1, .int .i64 p1_n), (2, .func (.func f_p2_entry) #[] k_p2_entry.toArray), (7, .slice A319 n320 c321), (13, .int .i64 (ms3.length : Int)), (14, .int .i64 x324)] ∧ St [] W w [.mat A319 n320 c321 23 2 vs323 ms318]) F ?_ ?_ ?_
    · exact ⟨ms3, 0, A1, ms3.length, ms3.length, vs4, hl485, rfl, (FrD.pick (FrD.pick (FrD.pick (FrD.pick (FrD.pick hf.none hf rfl) hf rfl) hf rfl) hf rfl) hf rfl), hs⟩
    · rintro a w ⟨ms318, x324, A319, n320, c321, vs323, h0_, -, -, -⟩; simp [impl_matrixBy_L4] at h0_
    · rintro n487 a w ⟨ms318, x324, A319, n320, c321, vs323, hm486, hn322, hf, hs⟩
      rw [impl_matrixBy_L4] at hm486
      refine wpL_seq ?_
      refine wpL_region ?_
      refine sY hf hs rfl rfl rfl (Y_lss rfl rfl rfl) ?_; clear hf; intro a hf
      refine wpO_nil ?_
      refine wpL_seq ?_
      refine wpL_cond hf rfl (fun hb488 => ?_) (fun hb488 => ?_)
      · have hm486 := bif_t hm486 hb488
        refine wpL_skip ?_
        refine wpL_seq ?_
        refine wpL_block0 ?_
        refine wpL_seq ?_
        refine wpL_region ?_
        refine sY hf hs rfl rfl rfl (Y_move rfl rfl) ?_; clear hf; intro a hf
        refine sY hf hs rfl rfl rfl (Y_assign rfl rfl) ?_; clear hf; intro a hf
        refine wpO_nil ?_
        refine wpL_seq ?_
        refine wpL_region ?_
        refine sY hf hs rfl rfl rfl (Y_move rfl rfl) ?_; clear hf; intro a hf
        refine sY hf hs rfl rfl rfl (Y_move rfl rfl) ?_; clear hf; intro a hf
        refine sY hf hs rfl rfl rfl (Y_move rfl rfl) ?_; clear hf; intro a hf
        obtain ⟨xs491, hk490, hm486⟩ := bind_some hm486
        refine sMakeL (enc := ints) hf hs rfl rfl rfl rfl rfl hk490 el23 ti2 rfl ints_made ?_; clear hf hs; intro a w A489 hs hf
        have hs : St [] W w [.mat A319 n320 c321 23 2 vs323 ms318, .row A489 xs491.length xs491.length 2 1 (ints xs491)] := hs
        obtain ⟨q492, hi493, hm486⟩ := bind_some hm486
        obtain ⟨hi493a, hi493b, hi493q⟩ := idx_some hi493
        obtain ⟨A494, c495, hv496⟩ := hs.matRow (i := 0) rfl hi493q
        refine sY hf hs rfl rfl rfl (Y_index rfl rfl rfl el46 ti23 (Rd.isAt (hs.rdV (i := 0) rfl) hv496) hi493a (ltn hn322 hi493b)) ?_; clear hf; intro a hf
        obtain ⟨ms497, hu498, hm486⟩ := bind_some hm486
        refine sStoreRowM (i := 0) (j := 1) (k := x324) hf hs rfl rfl rfl rfl rfl rfl rfl (by decide) rfl hu498 ti23 ?_; clear hs; intro w vs499 hs
        have hs : St [] W w [.mat A319 n320 c321 23 2 vs499 ms497] := hs
        refine wpO_nil ?_
        refine wpL_seq ?_
        refine wpL_region ?_
        refine sY hf hs rfl rfl rfl (Y_move rfl rfl) ?_; clear hf; intro a hf
        refine sY hf hs rfl rfl rfl (Y_move rfl rfl) ?_; clear hf; intro a hf
        obtain ⟨q500, hi501, hm486⟩ := bind_some hm486
        obtain ⟨hi501a, hi501b, hi501q⟩ := idx_some hi501
        obtain ⟨A502, c503, hv504⟩ := hs.matRow (i := 0) rfl hi501q
        refine sY hf hs rfl rfl rfl (Y_index rfl rfl rfl el46 ti23 (Rd.isAt (hs.rdV (i := 0) rfl) hv504) hi501a (ltn ((hn322).trans (upd_len hu498).symm) hi501b)) ?_; clear hf; intro a hf
        refine sY hf hs rfl rfl rfl (Y_load_rd rfl rfl (fun w hs => hs.rdV (i := 0) rfl) (at1 hv504) ag23) ?_; clear hf; intro a hf
        refine sY hf hs rfl rfl rfl (Y_lenH rfl rfl el23 rfl) ?_; clear hf; intro a hf
        refine sY hf hs rfl rfl rfl (Y_move rfl rfl) ?_; clear hf; intro a hf
        refine wpO_nil ?_
        obtain ⟨r606, hl607, hm486⟩ := bind_some hm486
        refine wpL_block (fun a w => ∃ ms604 : List (List Int), ms604 = r606 ∧ n320 = ms604.length ∧ Fr a 43 [(1, .int .i64 p1_n), (2, .func (.func f_p2_entry) #[] k_p2_entry.toArray), (7, .slice A319 n320 c321), (13, .int .i64 (ms3.length : Int)), (14, .int .i64 x324)] ∧ St [] W w [.mat A319 n320 c321 23 2 vs499 ms604]) ?_ ?_
        · refine wpL_loop (fun n a w => ∃ ms570 : List (List Int), ∃ x572 : Int, impl_matrixBy_L5 F m_p2_entry x324 q500 n ms570 x572 = some r606 ∧ n320 = ms570.length ∧ Fr a 43 [(1, .int .i64 p1_n), (2, .func (.func f_p2_entry) #[] k_p2_entry.toArray), (7, .slice A319 n320 c321), (8, .int .i64 x324), (13, .int .i64 (ms3.length : Int)), (14, .int .i64 x324), (26, .int .i64 (q500.length : Int)), (27, .int .i64 x572)] ∧ St [] W w [.mat A319 n320 c321 23 2 vs499 ms570]) F ?_ ?_ ?_
          · exact ⟨ms497, 0, hl607, ((hn322).trans (upd_len hu498).symm), (FrD.pick (FrD.pick (FrD.pick (FrD.pick (FrD.pick (FrD.pick (FrD.pick (FrD.pick hf.none hf rfl) hf rfl) hf rfl) hf rfl) hf rfl) hf rfl) hf rfl) hf rfl), hs⟩
          · rintro a w ⟨ms570, x572, h0_, -, -, -⟩; simp [impl_matrixBy_L5] at h0_
          · rintro n609 a w ⟨ms570, x572, hm608, hn571, hf, hs⟩
            rw [impl_matrixBy_L5] at hm608
            refine wpL_seq ?_
            refine wpL_region ?_
            refine sY hf hs rfl rfl rfl (Y_lss rfl rfl rfl) ?_; clear hf; intro a hf
            refine wpO_nil ?_
            refine wpL_seq ?_
            refine wpL_cond hf rfl (fun hb610 => ?_) (fun hb610 => ?_)
            · have hm608 := bif_t hm608 hb610
              refine wpL_skip ?_
              refine wpL_seq ?_
              refine wpL_block0 ?_
              refine wpL_seq ?_
              refine wpL_region ?_
              refine sY hf hs rfl rfl rfl (Y_move rfl rfl) ?_; clear hf; intro a hf
              refine sY hf hs rfl rfl rfl (Y_assign rfl rfl) ?_; clear hf; intro a hf
              refine wpO_nil ?_
              refine wpL_drawM [.mat A319 n320 c321 23 2 vs499 ms570] [10] (by kernel_rfl) hs ?_; clear hs; intro w hs
              have hs0 : St [] W w [.mat A319 n320 c321 23 2 vs499 ms570] := hs
              refine mYp (i := 0) rfl (by kernel_rfl) (by kernel_rfl) hf rfl rfl rfl (fun _ => Y_move rfl rfl) ?_; clear hf; intro a hf
              refine mYp (i := 1) rfl (by kernel_rfl) (by kernel_rfl) hf rfl rfl rfl (fun _ => Y_move rfl rfl) ?_; clear hf; intro a hf
              obtain ⟨q626, hi627, hm608⟩ := bind_some hm608
              obtain ⟨hi627a, hi627b, hi627q⟩ := idx_some hi627
              obtain ⟨A628, c629, hv630⟩ := hs.matRow (i := 0) rfl hi627q
              refine mYp (i := 2) rfl (by kernel_rfl) (by kernel_rfl) hf rfl rfl rfl (fun _ => Y_index rfl rfl rfl el46 ti23 (Rd.isAt (hs.rdV (i := 0) rfl) hv630) hi627a (ltn hn571 hi627b)) ?_; clear hf; intro a hf
              refine mY (i := 3) [[]] rfl (by kernel_rfl) (by kernel_rfl) hf hs0 rfl rfl rfl (Y_load_rd rfl rfl (fun w hs => hs.rdV (i := 0) rfl) (at1 hv630) ag23) ?_; clear hf; intro a hf
              refine mYp (i := 4) rfl (by kernel_rfl) (by kernel_rfl) hf rfl rfl rfl (fun _ => Y_move rfl rfl) ?_; clear hf; intro a hf
              refine mYp (i := 5) rfl (by kernel_rfl) (by kernel_rfl) hf rfl rfl rfl (fun _ => Y_move rfl rfl) ?_; clear hf; intro a hf
              refine mYp (i := 6) rfl (by kernel_rfl) (by kernel_rfl) hf rfl rfl rfl (fun _ => Y_move rfl rfl) ?_; clear hf; intro a hf
              refine mYp (i := 7) rfl (by kernel_rfl) (by kernel_rfl) hf rfl rfl rfl (fun _ => Y_move rfl rfl) ?_; clear hf; intro a hf
              refine mRun (i := 8) rfl (by kernel_rfl) ?_
              obtain ⟨r631, hc632, hm608⟩ := bind_some hm608
              refine sCall hf rfl rfl rfl rfl (cap := k_p2_entry) rfl rfl e_p2_entry (h_p2_entry x324 x572 _ _ hc632 hs.below) ?_; clear hf; rintro _ w ⟨rfl, hs1⟩ a hf; have hs := hs.ext hs1.below; clear hs1
              have hs0 : St [] W w [.mat A319 n320 c321 23 2 vs499 ms570] := hs
              refine wpO_nil ⟨Or.inr (fun _ => hs0), ?_⟩
              obtain ⟨q633, hi634, hm608⟩ := bind_some hm608
              obtain ⟨hi634a, hi634b, hi634q⟩ := idx_some hi634
              refine mYp (i := 9) rfl (by kernel_rfl) (by kernel_rfl) hf rfl rfl rfl (fun _ => Y_index rfl rfl rfl el23 ti2 (Rd.isAt (hs.rdRow (i := 0) rfl ⟨hi627q, hv630⟩) (at1 (ints_at hi634q))) hi634a hi634b) ?_; clear hf; intro a hf
              refine mRun (i := 10) rfl (by kernel_rfl) ?_
              obtain ⟨xs635, hu637, hm608⟩ := bind_some hm608
              obtain ⟨ms636, hu638, hm608⟩ := bind_some hm608
              refine sStoreM (i := 0) (k := x324) hf hs rfl rfl rfl rfl rfl rfl hi627q hv630 rfl hu637 hu638 ti2 ?_; clear hs; intro w hs
              obtain ⟨hq639, hv640⟩ := rowUpd hu637 hu638 hv630
              have hs : St [] W w [.mat A319 n320 c321 23 2 vs499 ms636] := hs
              refine wpO_nil ⟨Or.inl (by decide), ?_⟩
              refine mDone (by kernel_rfl) ?_
              clear hs0
              refine wpL_nil (Qb_normal ?_)
              refine wpL_region ?_
              refine sY hf hs rfl rfl rfl (Y_add rfl rfl rfl) ?_; clear hf; intro a hf
              refine sY hf hs rfl rfl rfl (Y_move rfl rfl) ?_; clear hf; intro a hf
              refine wpO_nil ?_
              refine wpL_nil (Ql_normal ?_)
              exact ⟨ms636, (IntKind.i64.wrap (x572 + 1)), hm608, ((hn571).trans (upd_len hu638).symm), (FrD.pick (FrD.pick (FrD.pick (FrD.pick (FrD.pick (FrD.pick (FrD.pick (FrD.pick hf.none hf rfl) hf rfl) hf rfl) hf rfl) hf rfl) hf rfl) hf rfl) hf rfl), hs⟩
            · have hm608 := bif_f hm608 hb610
              refine wpL_exit (Ql_exit (Qb_exit ?_))
              exact ⟨ms570, Option.some.inj hm608, hn571, (FrD.pick (FrD.pick (FrD.pick (FrD.pick (FrD.pick hf.none hf rfl) hf rfl) hf rfl) hf rfl) hf rfl), hs⟩
        · rintro a w ⟨ms604, hr_, hn605, hf, hs⟩
          subst hr_
          try dsimp only at hm486
          refine wpL_nil (Qb_normal ?_)
          refine wpL_region ?_
          refine sY hf hs rfl rfl rfl (Y_add rfl rfl rfl) ?_; clear hf; intro a hf
          refine sY hf hs rfl rfl rfl (Y_move rfl rfl) ?_; clear hf; intro a hf
          refine wpO_nil ?_
          refine wpL_nil (Ql_normal ?_)
          exact ⟨ms604, (IntKind.i64.wrap (x324 + 1)), A319, n320, c321, vs499, hm486, hn605, (FrD.pick (FrD.pick (FrD.pick (FrD.pick (FrD.pick hf.none hf rfl) hf rfl) hf rfl) hf rfl) hf rfl), hs⟩
      · have hm486 := bif_f hm486 hb488
        refine wpL_exit (Ql_exit (Qb_exit ?_))
        exact ⟨ms318, A319, n320, c321, vs323, Option.some.inj hm486, hn322, (FrD.pick hf.none hf rfl), hs⟩
  · rintro a w ⟨ms478, A479, n480, c481, vs483, hr_, hn482, hf, hs⟩
    subst hr_
    try dsimp only at hm
    refine wpL_seq ?_
    refine wpL_region ?_
    refine sY hf hs rfl rfl rfl (Y_move rfl rfl) ?_; clear hf; intro a hf
    refine sY hf hs rfl rfl rfl (Y_assign rfl rfl) ?_; clear hf; intro a hf
    refine wpO_nil ?_
    obtain rfl := Option.some.inj hm
    refine wpL_ret (ret_tmp rfl hf rfl ?_)
    exact ⟨_, rfl, A479, n480, c481, vs483, rfl, hn482, hs⟩

set_option maxRecDepth 100000 in
theorem impl_DueOfLast_c1_ok (F : Nat) (p0 : Int) (p1 : Int) (r : Int) (W : World) (hm : impl_DueOfLast_c1 F p0 p1 = some r) :
    Calls Try.prog 95 [.int .i64 p0, .int .i64 p1].toArray W fun e w' => ∃ v, e = .returned v ∧ v = .int .i64 r ∧ St [] W w' [] := by
  unfold impl_DueOfLast_c1 at hm
  refine Calls.enter (N := 5) Try.func95 rfl rfl rfl (fun a hf => ?_)
  have hs := St.start W
  obtain ⟨w, hw_⟩ : ∃ w, w = W := ⟨W, rfl⟩
  clear hw_ w
  refine wpL_seq ?_
  refine wpL_region ?_
  refine sY hf hs rfl rfl rfl (Y_assign rfl rfl) ?_; clear hf; intro a hf
  refine wpO_nil ?_
  refine wpL_seq ?_
  refine wpL_region ?_
  refine sY hf hs rfl rfl rfl (Y_assign rfl rfl) ?_; clear hf; intro a hf
  refine wpO_nil ?_
  obtain rfl := Option.some.inj hm
  refine wpL_ret (ret_tmp rfl hf rfl ?_)
  exact ⟨_, rfl, rfl, hs⟩

set_option maxRecDepth 100000 in
theorem impl_DueOfLast_ok (F : Nat) (p0_g : GEventGraph) (A_p0_g_1 : Option Addr) (n_p0_g_1 c_p0_g_1 : Nat) (hn_p0_g_1 : n_p0_g_1 = p0_g.Places.length) (p1_n : Int) (p2_due : List Int) (A_p2_due_1 : Option Addr) (n_p2_due_1 c_p2_due_1 : Nat) (hn_p2_due_1 : n_p2_due_1 = p2_due.length) (r : List (List Int) × Int) (W : World) (hm : impl_DueOfLast F p0_g p1_n p2_due = some r) (h_p0_g_1 : Rd W A_p0_g_1 ((recs GPlace.cells) p0_g.Places)) (h_p2_due_1 : Rd W A_p2_due_1 (ints p2_due)) :
    Calls Try.prog 34 [.agg #[.int .i64 p0_g.Events, .slice A_p0_g_1 n_p0_g_1 c_p0_g_1], .int .i64 p1_n, .slice A_p2_due_1 n_p2_due_1 c_p2_due_1].toArray W fun e w' => ∃ v, e = .returned v ∧ ∃ A37, ∃ n38, ∃ c39, ∃ vs41, v = .tuple #[.slice A37 n38 c39, .int .i64 r.2] ∧ n38 = r.1.length ∧ St [] W w' [.mat A37 n38 c39 23 2 vs41 r.1] := by
  subst hn_p0_g_1
  subst hn_p2_due_1
  unfold impl_DueOfLast at hm
  refine Calls.enter (N := 39) Try.func34 rfl rfl rfl (fun a hf => ?_)
  have hs := St.start W
  obtain ⟨w, hw_⟩ : ∃ w, w = W := ⟨W, rfl⟩
  clear hw_ w
  refine wpL_seq ?_
  refine wpL_region ?_
  refine sBox hf hs rfl rfl rfl rfl rfl (cs := [.int .i64 p0_g.Events, .slice A_p0_g_1 p0_g.Places.length c_p0_g_1]) rfl ?_; clear hf hs; intro a w b1 hs hf
  have hs : St [] W w [.blk b1 39 [.int .i64 p0_g.Events, .slice A_p0_g_1 p0_g.Places.length c_p0_g_1]] := hs
  refine sY hf hs rfl rfl rfl (Y_assign rfl rfl) ?_; clear hf; intro a hf
  refine sY hf hs rfl rfl rfl (Y_assign rfl rfl) ?_; clear hf; intro a hf
  refine wpO_nil ?_
  refine wpL_seq ?_
  refine wpL_seq ?_
  refine wpL_region ?_
  refine sY hf hs rfl rfl rfl (Y_load_blkS rfl rfl (i := 0) rfl ag39 ti39 rfl) ?_; clear hf; intro a hf
  obtain ⟨r2, hc3, hm⟩ := bind_some hm
  refine sCall hf rfl rfl rfl rfl (cap := []) rfl rfl en79 (impl_IsEventGraph_ok F p0_g A_p0_g_1 p0_g.Places.length c_p0_g_1 rfl _ _ hc3 (h_p0_g_1.at hs)) ?_; clear hf
  rintro _ w ⟨rfl, hs1⟩ a hf
  have hs : St [] W w [.blk b1 39 [.int .i64 p0_g.Events, .slice A_p0_g_1 p0_g.Places.length c_p0_g_1]] := hs.ext hs1.below
  clear hs1
  refine sY hf hs rfl rfl rfl (Y_not rfl rfl) ?_; clear hf; intro a hf
  refine wpO_nil ?_
  refine wpL_cond hf rfl (fun hb4 => ?_) (fun hb4 => ?_)
  · have hm := bif_t hm hb4
    refine wpL_seq ?_
    refine wpL_region ?_
    refine sY hf hs rfl rfl rfl (Y_assign rfl rfl) ?_; clear hf; intro a hf
    refine sY hf hs rfl rfl rfl (Y_assign rfl rfl) ?_; clear hf; intro a hf
    refine wpO_nil ?_
    have hs : St [] W _ [.blk b1 39 [.int .i64 p0_g.Events, .slice A_p0_g_1 p0_g.Places.length c_p0_g_1], .mat none 0 0 23 2 [] ([] : List (List Int))] := hs.addNilM 23 2
    obtain rfl := Option.some.inj hm
    refine wpL_ret (ret_tmp2 rfl hf rfl rfl ?_)
    exact ⟨_, rfl, none, 0, 0, [], rfl, rfl, hs.sel [1] (by decide)⟩
  · have hm := bif_f hm hb4
    refine wpL_skip ?_
    refine wpL_seq ?_
    refine wpL_seq ?_
    obtain ⟨r13, hj14, hm⟩ := bind_some hm
    refine wpL_cut (fun a w => ∃ b12 : Bool, b12 = r13 ∧ Fr a 39 [(1, .int .i64 p1_n), (2, .slice A_p2_due_1 p2_due.length c_p2_due_1), (26, .bool b12)] ∧ St [] W w []) ?_ ?_
    · refine wpL_region ?_
      refine sY hf hs rfl rfl rfl (Y_move rfl rfl) ?_; clear hf; intro a hf
      obtain ⟨r15, hc16, hj14⟩ := bind_some hj14
      refine sCall hf rfl rfl rfl rfl (cap := []) rfl rfl en69 (impl_within_ok F p1_n 1 50 _ _ hc16) ?_; clear hf
      rintro _ w ⟨rfl, hs1⟩ a hf
      have hs : St [] W w [.blk b1 39 [.int .i64 p0_g.Events, .slice A_p0_g_1 p0_g.Places.length c_p0_g_1]] := hs.ext hs1.below
      clear hs1
      refine sY hf hs rfl rfl rfl (Y_not rfl rfl) ?_; clear hf; intro a hf
      refine sY hf hs rfl rfl rfl (Y_move rfl rfl) ?_; clear hf; intro a hf
      refine bsplit (!r15) (fun hb17 => ?_) (fun hb17 => ?_)
      · have hj14 := bif_t hj14 hb17
        refine sNo hf rfl rfl rfl (congrArg (fun b => some (Value.bool b)) hb17) rfl rfl rfl ?_; clear hf; intro a hf
        refine sNo hf rfl rfl rfl (congrArg (fun b => some (Value.bool b)) hb17) rfl rfl rfl ?_; clear hf; intro a hf
        refine sNo hf rfl rfl rfl (congrArg (fun b => some (Value.bool b)) hb17) rfl rfl rfl ?_; clear hf; intro a hf
        refine sNo hf rfl rfl rfl (congrArg (fun b => some (Value.bool b)) hb17) rfl rfl rfl ?_; clear hf; intro a hf
        refine sNo hf rfl rfl rfl (congrArg (fun b => some (Value.bool b)) hb17) rfl rfl rfl ?_; clear hf; intro a hf
        refine sY hf hs rfl rfl rfl (Y_pickT rfl (congrArg (fun b => some (Value.bool b)) hb17) rfl) ?_; clear hf; intro a hf
        refine sY hf hs rfl rfl rfl (Y_move rfl rfl) ?_; clear hf; intro a hf
        refine sNo hf rfl rfl rfl rfl rfl rfl rfl ?_; clear hf; intro a hf
        refine sNo hf rfl rfl rfl rfl rfl rfl rfl ?_; clear hf; intro a hf
        refine sNo hf rfl rfl rfl rfl rfl rfl rfl ?_; clear hf; intro a hf
        refine sY hf hs rfl rfl rfl (Y_pickT rfl rfl rfl) ?_; clear hf; intro a hf
        refine wpO_nil ?_
        refine wpL_nil (then_normal ?_)
        exact ⟨true, Option.some.inj hj14, (FrD.pick (FrD.pick (FrD.pick hf.none hf rfl) hf rfl) hf rfl), hs.sel [] (by decide)⟩
      · have hj14 := bif_f hj14 hb17
        refine sYg hf hs rfl rfl rfl (congrArg (fun b => some (Value.bool b)) hb17) rfl rfl rfl (Y_move rfl rfl) ?_; clear hf; intro a hf
        refine sYg hf hs rfl rfl rfl (congrArg (fun b => some (Value.bool b)) hb17) rfl rfl rfl (Y_lenH rfl rfl el23 rfl) ?_; clear hf; intro a hf
        refine sYg hf hs rfl rfl rfl (congrArg (fun b => some (Value.bool b)) hb17) rfl rfl rfl (Y_fieldAddr rfl rfl fo39_0) ?_; clear hf; intro a hf
        refine sYg hf hs rfl rfl rfl (congrArg (fun b => some (Value.bool b)) hb17) rfl rfl rfl (Y_load_blk rfl rfl (i := 0) rfl rfl ag2) ?_; clear hf; intro a hf
        refine sYg hf hs rfl rfl rfl (congrArg (fun b => some (Value.bool b)) hb17) rfl rfl rfl (Y_neq rfl rfl rfl) ?_; clear hf; intro a hf
        refine sY hf hs rfl rfl rfl (Y_pickF rfl (congrArg (fun b => some (Value.bool b)) hb17) rfl) ?_; clear hf; intro a hf
        refine sY hf hs rfl rfl rfl (Y_move rfl rfl) ?_; clear hf; intro a hf
        refine bsplit ((p2_due.length : Int) != p0_g.Events) (fun hb18 => ?_) (fun hb18 => ?_)
        · have hj14 := bif_t hj14 hb18
          refine sNo hf rfl rfl rfl (congrArg (fun b => some (Value.bool b)) hb18) rfl rfl rfl ?_; clear hf; intro a hf
          refine sNo hf rfl rfl rfl (congrArg (fun b => some (Value.bool b)) hb18) rfl rfl rfl ?_; clear hf; intro a hf
          refine sNo hf rfl rfl rfl (congrArg (fun b => some (Value.bool b)) hb18) rfl rfl rfl ?_; clear hf; intro a hf
          refine sY hf hs rfl rfl rfl (Y_pickT rfl (congrArg (fun b => some (Value.bool b)) hb18) rfl) ?_; clear hf; intro a hf
          refine wpO_nil ?_
          refine wpL_nil (then_normal ?_)
          exact ⟨true, Option.some.inj hj14, (FrD.pick (FrD.pick (FrD.pick hf.none hf rfl) hf rfl) hf rfl), hs.sel [] (by decide)⟩
        · have hj14 := bif_f hj14 hb18
          refine sYg hf hs rfl rfl rfl (congrArg (fun b => some (Value.bool b)) hb18) rfl rfl rfl (Y_move rfl rfl) ?_; clear hf; intro a hf
          obtain ⟨r19, hc20, hj14⟩ := bind_some hj14
          refine sCallg hf rfl rfl rfl (congrArg (fun b => some (Value.bool b)) hb18) rfl rfl rfl rfl (cap := []) rfl rfl en80 (impl_allWithin_ok F p2_due A_p2_due_1 p2_due.length c_p2_due_1 rfl 0 1000000 _ _ hc20 (h_p2_due_1.at hs)) ?_; clear hf
          rintro _ w ⟨rfl, hs1⟩ a hf
          have hs : St [] W w [.blk b1 39 [.int .i64 p0_g.Events, .slice A_p0_g_1 p0_g.Places.length c_p0_g_1]] := hs.ext hs1.below
          clear hs1
          refine sYg hf hs rfl rfl rfl (congrArg (fun b => some (Value.bool b)) hb18) rfl rfl rfl (Y_not rfl rfl) ?_; clear hf; intro a hf
          refine sY hf hs rfl rfl rfl (Y_pickF rfl (congrArg (fun b => some (Value.bool b)) hb18) rfl) ?_; clear hf; intro a hf
          refine wpO_nil ?_
          refine wpL_nil (then_normal ?_)
          exact ⟨(!r19), Option.some.inj hj14, (FrD.pick (FrD.pick (FrD.pick hf.none hf rfl) hf rfl) hf rfl), hs.sel [] (by decide)⟩
    · rintro a w ⟨b12, hr_, hf, hs⟩
      subst hr_
      try dsimp only at hm
      refine wpL_cond hf rfl (fun hb21 => ?_) (fun hb21 => ?_)
      · have hm := bif_t hm hb21
        refine wpL_seq ?_
        refine wpL_region ?_
        refine sY hf hs rfl rfl rfl (Y_assign rfl rfl) ?_; clear hf; intro a hf
        refine sY hf hs rfl rfl rfl (Y_assign rfl rfl) ?_; clear hf; intro a hf
        refine wpO_nil ?_
        have hs : St [] W _ [.mat none 0 0 23 2 [] ([] : List (List Int))] := hs.addNilM 23 2
        obtain rfl := Option.some.inj hm
        refine wpL_ret (ret_tmp2 rfl hf rfl rfl ?_)
        exact ⟨_, rfl, none, 0, 0, [], rfl, rfl, hs⟩
      · have hm := bif_f hm hb21
        refine wpL_skip ?_
        refine wpL_seq ?_
        refine wpL_region ?_
        refine sY hf hs rfl rfl rfl (Y_move rfl rfl) ?_; clear hf; intro a hf
        refine sY hf hs rfl rfl rfl (Y_move rfl rfl) ?_; clear hf; intro a hf
        refine sY hf hs rfl rfl rfl (Y_lenH rfl rfl el23 rfl) ?_; clear hf; intro a hf
        obtain ⟨r23, hc24, hm⟩ := bind_some hm
        refine sCall hf rfl rfl rfl rfl (cap := []) rfl rfl en94 (impl_matrixBy_ok F p1_n (p2_due.length : Int) (fun x0 x1 => impl_DueOfLast_c1 F x0 x1) 95 [] _ _ hc24 (fun x0 x1 r w' hm_ hb => impl_DueOfLast_c1_ok F x0 x1 r w' hm_ ) en95) ?_; clear hf
        rintro _ w ⟨A25, n26, c27, vs29, rfl, hn28, hs1⟩ a hf
        have hs : St [] W w [.mat A25 n26 c27 23 2 vs29 r23] := hs.join hs1
        clear hs1
        refine sY hf hs rfl rfl rfl (Y_assign rfl rfl) ?_; clear hf; intro a hf
        refine wpO_nil ?_
        refine wpL_seq ?_
        refine wpL_region ?_
        refine sY hf hs rfl rfl rfl (Y_move rfl rfl) ?_; clear hf; intro a hf
        refine sY hf hs rfl rfl rfl (Y_move rfl rfl) ?_; clear hf; intro a hf
        refine sY hf hs rfl rfl rfl (Y_sub rfl rfl rfl) ?_; clear hf; intro a hf
        obtain ⟨q30, hi31, hm⟩ := bind_some hm
        obtain ⟨hi31a, hi31b, hi31q⟩ := idx_some hi31
        obtain ⟨A32, c33, hv34⟩ := hs.matRow (i := 0) rfl hi31q
        refine sY hf hs rfl rfl rfl (Y_index rfl rfl rfl el46 ti23 (Rd.isAt (hs.rdV (i := 0) rfl) hv34) hi31a (ltn hn28 hi31b)) ?_; clear hf; intro a hf
        refine sY hf hs rfl rfl rfl (Y_load_rd rfl rfl (fun w hs => hs.rdV (i := 0) rfl) (at1 hv34) ag23) ?_; clear hf; intro a hf
        refine sY hf hs rfl rfl rfl (Y_move rfl rfl) ?_; clear hf; intro a hf
        obtain ⟨ms35, hu36, hm⟩ := bind_some hm
        refine sCopyM (i := 0) (k := (IntKind.i64.wrap (p1_n - 1))) (xs := q30) (ys := p2_due) hf hs rfl rfl rfl rfl rfl rfl rfl hi31q hv34 rfl rfl el23 ti2 (h_p2_due_1.at hs) hu36 ?_; clear hf hs; intro a w hs hf
        have hs : St [] W w [.mat A25 n26 c27 23 2 vs29 ms35] := hs
        refine wpO_nil ?_
        refine wpL_seq ?_
        refine wpL_region ?_
        refine sY hf hs rfl rfl rfl (Y_move rfl rfl) ?_; clear hf; intro a hf
        refine sY hf hs rfl rfl rfl (Y_assign rfl rfl) ?_; clear hf; intro a hf
        refine sY hf hs rfl rfl rfl (Y_assign rfl rfl) ?_; clear hf; intro a hf
        refine wpO_nil ?_
        obtain rfl := Option.some.inj hm
        refine wpL_ret (ret_tmp2 rfl hf rfl rfl ?_)
        exact ⟨_, rfl, A25, n26, c27, vs29, rfl, ((hn28).trans (upd_len hu36).symm), hs⟩

set_option maxRecDepth 100000 in
theorem laws_eqInt64S_ok (F : Nat) (p0_a : List Int) (A_p0_a_1 : Option Addr) (n_p0_a_1 c_p0_a_1 : Nat) (hn_p0_a_1 : n_p0_a_1 = p0_a.length) (p1_b : List Int) (A_p1_b_1 : Option Addr) (n_p1_b_1 c_p1_b_1 : Nat) (hn_p1_b_1 : n_p1_b_1 = p1_b.length) (r : Bool) (W : World) (hm : laws_eqInt64S F p0_a p1_b = some r) (h_p0_a_1 : Rd W A_p0_a_1 (ints p0_a)) (h_p1_b_1 : Rd W A_p1_b_1 (ints p1_b)) :
    Calls Try.prog 19 [.slice A_p0_a_1 n_p0_a_1 c_p0_a_1, .slice A_p1_b_1 n_p1_b_1 c_p1_b_1].toArray W fun e w' => ∃ v, e = .returned v ∧ v = .bool r ∧ St [] W w' [] := by
  subst hn_p0_a_1
  subst hn_p1_b_1
  unfold laws_eqInt64S at hm
  refine Calls.enter (N := 26) Try.func19 rfl rfl rfl (fun a hf => ?_)
  have hs := St.start W
  obtain ⟨w, hw_⟩ : ∃ w, w = W := ⟨W, rfl⟩
  clear hw_ w
  refine wpL_seq ?_
  refine wpL_region ?_
  refine sY hf hs rfl rfl rfl (Y_assign rfl rfl) ?_; clear hf; intro a hf
  refine wpO_nil ?_
  refine wpL_seq ?_
  refine wpL_seq ?_
  refine wpL_region ?_
  refine sY hf hs rfl rfl rfl (Y_move rfl rfl) ?_; clear hf; intro a hf
  refine sY hf hs rfl rfl rfl (Y_lenH rfl rfl el23 rfl) ?_; clear hf; intro a hf
  refine sY hf hs rfl rfl rfl (Y_move rfl rfl) ?_; clear hf; intro a hf
  refine sY hf hs rfl rfl rfl (Y_lenH rfl rfl el23 rfl) ?_; clear hf; intro a hf
  refine sY hf hs rfl rfl rfl (Y_neq rfl rfl rfl) ?_; clear hf; intro a hf
  refine wpO_nil ?_
  refine wpL_cond hf rfl (fun hb1 => ?_) (fun hb1 => ?_)
  · have hm := bif_t hm hb1
    refine wpL_seq ?_
    refine wpL_region ?_
    refine sY hf hs rfl rfl rfl (Y_assign rfl rfl) ?_; clear hf; intro a hf
    refine wpO_nil ?_
    obtain rfl := Option.some.inj hm
    refine wpL_ret (ret_tmp rfl hf rfl ?_)
    exact ⟨_, rfl, rfl, hs⟩
  · have hm := bif_f hm hb1
    refine wpL_skip ?_
    refine wpL_seq ?_
    refine wpL_seq ?_
    refine wpL_region ?_
    refine sY hf hs rfl rfl rfl (Y_assign rfl rfl) ?_; clear hf; intro a hf
    refine wpO_nil ?_
    obtain ⟨r22, hl23, hm⟩ := bind_some hm
    refine wpL_block (fun a w => Sum.inr () = r22 ∧ Fr a 26 [] ∧ St [] W w []) ?_ ?_
    · refine wpL_loop (fun n a w => ∃ x15 : Int, laws_eqInt64S_L1 F p0_a p1_b n x15 = some r22 ∧ Fr a 26 [(0, .slice A_p0_a_1 p0_a.length c_p0_a_1), (1, .slice A_p1_b_1 p1_b.length c_p1_b_1), (5, .int .i64 x15)] ∧ St [] W w []) F ?_ ?_ ?_
      · exact ⟨0, hl23, (FrD.pick (FrD.pick (FrD.pick hf.none hf rfl) hf rfl) hf rfl), hs⟩
      · rintro a w ⟨x15, h0_, -, -⟩; simp [laws_eqInt64S_L1] at h0_
      · rintro n25 a w ⟨x15, hm24, hf, hs⟩
        rw [laws_eqInt64S_L1] at hm24
        refine wpL_seq ?_
        refine wpL_seq ?_
        refine wpL_region ?_
        refine sY hf hs rfl rfl rfl (Y_move rfl rfl) ?_; clear hf; intro a hf
        refine sY hf hs rfl rfl rfl (Y_move rfl rfl) ?_; clear hf; intro a hf
        refine sY hf hs rfl rfl rfl (Y_lenH rfl rfl el23 rfl) ?_; clear hf; intro a hf
        refine sY hf hs rfl rfl rfl (Y_lss rfl rfl rfl) ?_; clear hf; intro a hf
        refine wpO_nil ?_
        refine wpL_cond hf rfl (fun hb26 => ?_) (fun hb26 => ?_)
        · have hm24 := bif_t hm24 hb26
          refine wpL_skip ?_
          refine wpL_seq ?_
          refine wpL_block0 ?_
          refine wpL_seq ?_
          refine wpL_draw (by kernel_rfl) (by kernel_rfl) hs ?_
          refine qY hf rfl rfl rfl (Y_move rfl rfl) ?_; clear hf; intro a hf
          refine qY hf rfl rfl rfl (Y_move rfl rfl) ?_; clear hf; intro a hf
          obtain ⟨q27, hi28, hm24⟩ := bind_some hm24
          obtain ⟨hi28a, hi28b, hi28q⟩ := idx_some hi28
          refine qY hf rfl rfl rfl (Y_index rfl rfl rfl el23 ti2 (Rd.isAt (h_p0_a_1.at hs) (at1 (ints_at hi28q))) hi28a hi28b) ?_; clear hf; intro a hf
          refine qY hf rfl rfl rfl (Y_load_rd rfl rfl (fun w hs => h_p0_a_1.at hs) (at1 (ints_at hi28q)) ag2) ?_; clear hf; intro a hf
          refine qY hf rfl rfl rfl (Y_move rfl rfl) ?_; clear hf; intro a hf
          refine qY hf rfl rfl rfl (Y_move rfl rfl) ?_; clear hf; intro a hf
          obtain ⟨q29, hi30, hm24⟩ := bind_some hm24
          obtain ⟨hi30a, hi30b, hi30q⟩ := idx_some hi30
          refine qY hf rfl rfl rfl (Y_index rfl rfl rfl el23 ti2 (Rd.isAt (h_p1_b_1.at hs) (at1 (ints_at hi30q))) hi30a hi30b) ?_; clear hf; intro a hf
          refine qY hf rfl rfl rfl (Y_load_rd rfl rfl (fun w hs => h_p1_b_1.at hs) (at1 (ints_at hi30q)) ag2) ?_; clear hf; intro a hf
          refine qY hf rfl rfl rfl (Y_neq rfl rfl rfl) ?_; clear hf; intro a hf
          refine qNil ?_; clear hs; intro w hs
          refine wpL_cond hf rfl (fun hb31 => ?_) (fun hb31 => ?_)
          · have hm24 := bif_t hm24 hb31
            refine wpL_seq ?_
            refine wpL_region ?_
            refine sY hf hs rfl rfl rfl (Y_assign rfl rfl) ?_; clear hf; intro a hf
            refine wpO_nil ?_
            obtain rfl := Option.some.inj hm24
            try dsimp only at hm
            obtain rfl := Option.some.inj hm
            refine wpL_ret (Qb_ret (Ql_ret (Qb_ret (ret_tmp rfl hf rfl ?_))))
            exact ⟨_, rfl, rfl, hs⟩
          · have hm24 := bif_f hm24 hb31
            refine wpL_skip ?_
            refine wpL_nil (Qb_normal ?_)
            refine wpL_region ?_
            refine sY hf hs rfl rfl rfl (Y_move rfl rfl) ?_; clear hf; intro a hf
            refine sY hf hs rfl rfl rfl (Y_add rfl rfl rfl) ?_; clear hf; intro a hf
            refine sY hf hs rfl rfl rfl (Y_assign rfl rfl) ?_; clear hf; intro a hf
            refine wpO_nil ?_
            refine wpL_nil (Ql_normal ?_)
            exact ⟨(IntKind.i64.wrap (x15 + 1)), hm24, (FrD.pick (FrD.pick (FrD.pick hf.none hf rfl) hf rfl) hf rfl), hs⟩
        · have hm24 := bif_f hm24 hb26
          refine wpL_exit (Ql_exit (Qb_exit ?_))
          exact ⟨Option.some.inj hm24, hf.none, hs⟩
    · rintro a w ⟨hr_, hf, hs⟩
      subst hr_
      try dsimp only at hm
      refine wpL_seq ?_
      refine wpL_region ?_
      refine sY hf hs rfl rfl rfl (Y_assign rfl rfl) ?_; clear hf; intro a hf
      refine wpO_nil ?_
      obtain rfl := Option.some.inj hm
      refine wpL_ret (ret_tmp rfl hf rfl ?_)
      exact ⟨_, rfl, rfl, hs⟩

set_option maxRecDepth 100000 in
theorem laws_eqInt64SS_ok (F : Nat) (p0_a : List (List Int)) (A_p0_a_1 : Option Addr) (n_p0_a_1 c_p0_a_1 : Nat) (hn_p0_a_1 : n_p0_a_1 = p0_a.length) (p1_b : List (List Int)) (A_p1_b_1 : Option Addr) (n_p1_b_1 c_p1_b_1 : Nat) (hn_p1_b_1 : n_p1_b_1 = p1_b.length) (r : Bool) (W : World) (hm : laws_eqInt64SS F p0_a p1_b = some r) (h_p0_a_1 : RdM W A_p0_a_1 p0_a) (h_p1_b_1 : RdM W A_p1_b_1 p1_b) :
    Calls Try.prog 35 [.slice A_p0_a_1 n_p0_a_1 c_p0_a_1, .slice A_p1_b_1 n_p1_b_1 c_p1_b_1].toArray W fun e w' => ∃ v, e = .returned v ∧ v = .bool r ∧ St [] W w' [] := by
  subst hn_p0_a_1
  subst hn_p1_b_1
  unfold laws_eqInt64SS at hm
  refine Calls.enter (N := 27) Try.func35 rfl rfl rfl (fun a hf => ?_)
  have hs := St.start W
  obtain ⟨w, hw_⟩ : ∃ w, w = W := ⟨W, rfl⟩
  clear hw_ w
  refine wpL_seq ?_
  refine wpL_region ?_
  refine sY hf hs rfl rfl rfl (Y_assign rfl rfl) ?_; clear hf; intro a hf
  refine wpO_nil ?_
  refine wpL_seq ?_
  refine wpL_seq ?_
  refine wpL_region ?_
  refine sY hf hs rfl rfl rfl (Y_move rfl rfl) ?_; clear hf; intro a hf
  refine sY hf hs rfl rfl rfl (Y_lenH rfl rfl el46 rfl) ?_; clear hf; intro a hf
  refine sY hf hs rfl rfl rfl (Y_move rfl rfl) ?_; clear hf; intro a hf
  refine sY hf hs rfl rfl rfl (Y_lenH rfl rfl el46 rfl) ?_; clear hf; intro a hf
  refine sY hf hs rfl rfl rfl (Y_neq rfl rfl rfl) ?_; clear hf; intro a hf
  refine wpO_nil ?_
  refine wpL_cond hf rfl (fun hb1 => ?_) (fun hb1 => ?_)
  · have hm := bif_t hm hb1
    refine wpL_seq ?_
    refine wpL_region ?_
    refine sY hf hs rfl rfl rfl (Y_assign rfl rfl) ?_; clear hf; intro a hf
    refine wpO_nil ?_
    obtain rfl := Option.some.inj hm
    refine wpL_ret (ret_tmp rfl hf rfl ?_)
    exact ⟨_, rfl, rfl, hs⟩
  · have hm := bif_f hm hb1
    refine wpL_skip ?_
    refine wpL_seq ?_
    refine wpL_seq ?_
    refine wpL_region ?_
    refine sY hf hs rfl rfl rfl (Y_assign rfl rfl) ?_; clear hf; intro a hf
    refine wpO_nil ?_
    obtain ⟨r70, hl71, hm⟩ := bind_some hm
    refine wpL_block (fun a w => Sum.inr () = r70 ∧ Fr a 27 [] ∧ St [] W w []) ?_ ?_
    · refine wpL_loop (fun n a w => ∃ x47 : Int, laws_eqInt64SS_L1 F p0_a p1_b n x47 = some r70 ∧ Fr a 27 [(0, .slice A_p0_a_1 p0_a.length c_p0_a_1), (1, .slice A_p1_b_1 p1_b.length c_p1_b_1), (5, .int .i64 x47)] ∧ St [] W w []) F ?_ ?_ ?_
      · exact ⟨0, hl71, (FrD.pick (FrD.pick (FrD.pick hf.none hf rfl) hf rfl) hf rfl), hs⟩
      · rintro a w ⟨x47, h0_, -, -⟩; simp [laws_eqInt64SS_L1] at h0_
      · rintro n73 a w ⟨x47, hm72, hf, hs⟩
        rw [laws_eqInt64SS_L1] at hm72
        refine wpL_seq ?_
        refine wpL_seq ?_
        refine wpL_region ?_
        refine sY hf hs rfl rfl rfl (Y_move rfl rfl) ?_; clear hf; intro a hf
        refine sY hf hs rfl rfl rfl (Y_move rfl rfl) ?_; clear hf; intro a hf
        refine sY hf hs rfl rfl rfl (Y_lenH rfl rfl el46 rfl) ?_; clear hf; intro a hf
        refine sY hf hs rfl rfl rfl (Y_lss rfl rfl rfl) ?_; clear hf; intro a hf
        refine wpO_nil ?_
        refine wpL_cond hf rfl (fun hb74 => ?_) (fun hb74 => ?_)
        · have hm72 := bif_t hm72 hb74
          refine wpL_skip ?_
          refine wpL_seq ?_
          refine wpL_block0 ?_
          refine wpL_seq ?_
          refine wpL_draw (by kernel_rfl) (by kernel_rfl) hs ?_
          refine qY hf rfl rfl rfl (Y_move rfl rfl) ?_; clear hf; intro a hf
          refine qY hf rfl rfl rfl (Y_move rfl rfl) ?_; clear hf; intro a hf
          obtain ⟨q75, hi76, hm72⟩ := bind_some hm72
          obtain ⟨hi76a, hi76b, hi76q⟩ := idx_some hi76
          obtain ⟨vs77, hv78, hr79⟩ := id h_p0_a_1
          obtain ⟨A80, c81, hv82, hR83⟩ := hr79 _ _ hi76q
          refine qY hf rfl rfl rfl (Y_index rfl rfl rfl el46 ti23 (Rd.isAt hv78 hv82) hi76a hi76b) ?_; clear hf; intro a hf
          refine qY hf rfl rfl rfl (Y_load_rd rfl rfl (fun w hs => hv78.at hs) (at1 hv82) ag23) ?_; clear hf; intro a hf
          refine qY hf rfl rfl rfl (Y_move rfl rfl) ?_; clear hf; intro a hf
          refine qY hf rfl rfl rfl (Y_move rfl rfl) ?_; clear hf; intro a hf
          obtain ⟨q84, hi85, hm72⟩ := bind_some hm72
          obtain ⟨hi85a, hi85b, hi85q⟩ := idx_some hi85
          obtain ⟨vs86, hv87, hr88⟩ := id h_p1_b_1
          obtain ⟨A89, c90, hv91, hR92⟩ := hr88 _ _ hi85q
          refine qY hf rfl rfl rfl (Y_index rfl rfl rfl el46 ti23 (Rd.isAt hv87 hv91) hi85a hi85b) ?_; clear hf; intro a hf
          refine qY hf rfl rfl rfl (Y_load_rd rfl rfl (fun w hs => hv87.at hs) (at1 hv91) ag23) ?_; clear hf; intro a hf
          obtain ⟨r93, hc94, hm72⟩ := bind_some hm72
          refine qCall hf rfl rfl rfl rfl (cap := []) rfl rfl en19 (v := .bool r93) (fun w hs => Calls.scal (laws_eqInt64S_ok F q75 A80 q75.length c81 rfl q84 A89 q84.length c90 rfl _ _ hc94 (hR83.at hs) (hR92.at hs))) ?_; clear hf; intro a hf
          refine qY hf rfl rfl rfl (Y_not rfl rfl) ?_; clear hf; intro a hf
          refine qNil ?_; clear hs; intro w hs
          refine wpL_cond hf rfl (fun hb95 => ?_) (fun hb95 => ?_)
          · have hm72 := bif_t hm72 hb95
            refine wpL_seq ?_
            refine wpL_region ?_
            refine sY hf hs rfl rfl rfl (Y_assign rfl rfl) ?_; clear hf; intro a hf
            refine wpO_nil ?_
            obtain rfl := Option.some.inj hm72
            try dsimp only at hm
            obtain rfl := Option.some.inj hm
            refine wpL_ret (Qb_ret (Ql_ret (Qb_ret (ret_tmp rfl hf rfl ?_))))
            exact ⟨_, rfl, rfl, hs⟩
          · have hm72 := bif_f hm72 hb95
            refine wpL_skip ?_
            refine wpL_nil (Qb_normal ?_)
            refine wpL_region ?_
            refine sY hf hs rfl rfl rfl (Y_move rfl rfl) ?_; clear hf; intro a hf
            refine sY hf hs rfl rfl rfl (Y_add rfl rfl rfl) ?_; clear hf; intro a hf
            refine sY hf hs rfl rfl rfl (Y_assign rfl rfl) ?_; clear hf; intro a hf
            refine wpO_nil ?_
            refine wpL_nil (Ql_normal ?_)
            exact ⟨(IntKind.i64.wrap (x47 + 1)), hm72, (FrD.pick (FrD.pick (FrD.pick hf.none hf rfl) hf rfl) hf rfl), hs⟩
        · have hm72 := bif_f hm72 hb74
          refine wpL_exit (Ql_exit (Qb_exit ?_))
          exact ⟨Option.some.inj hm72, hf.none, hs⟩
    · rintro a w ⟨hr_, hf, hs⟩
      subst hr_
      try dsimp only at hm
      refine wpL_seq ?_
      refine wpL_region ?_
      refine sY hf hs rfl rfl rfl (Y_assign rfl rfl) ?_; clear hf; intro a hf
      refine wpO_nil ?_
      obtain rfl := Option.some.inj hm
      refine wpL_ret (ret_tmp rfl hf rfl ?_)
      exact ⟨_, rfl, rfl, hs⟩

set_option maxRecDepth 100000 in
theorem laws_eqPlace_ok (F : Nat) (p0_a : GPlace) (p1_b : GPlace) (r : Bool) (W : World) (hm : laws_eqPlace F p0_a p1_b = some r) :
    Calls Try.prog 150 [.agg #[.int .i64 p0_a.From, .int .i64 p0_a.To, .int .i64 p0_a.Delay, .int .i64 p0_a.Tokens], .agg #[.int .i64 p1_b.From, .int .i64 p1_b.To, .int .i64 p1_b.Delay, .int .i64 p1_b.Tokens]].toArray W fun e w' => ∃ v, e = .returned v ∧ v = .bool r ∧ St [] W w' [] := by
  unfold laws_eqPlace at hm
  refine Calls.enter (N := 25) Try.func150 rfl rfl rfl (fun a hf => ?_)
  have hs := St.start W
  obtain ⟨w, hw_⟩ : ∃ w, w = W := ⟨W, rfl⟩
  clear hw_ w
  refine wpL_seq ?_
  refine wpL_region ?_
  refine sBox hf hs rfl rfl rfl rfl rfl (cs := [.int .i64 p0_a.From, .int .i64 p0_a.To, .int .i64 p0_a.Delay, .int .i64 p0_a.Tokens]) rfl ?_; clear hf hs; intro a w b1 hs hf
  have hs : St [] W w [.blk b1 96 [.int .i64 p0_a.From, .int .i64 p0_a.To, .int .i64 p0_a.Delay, .int .i64 p0_a.Tokens]] := hs
  refine sBox hf hs rfl rfl rfl rfl rfl (cs := [.int .i64 p1_b.From, .int .i64 p1_b.To, .int .i64 p1_b.Delay, .int .i64 p1_b.Tokens]) rfl ?_; clear hf hs; intro a w b2 hs hf
  have hs : St [] W w [.blk b1 96 [.int .i64 p0_a.From, .int .i64 p0_a.To, .int .i64 p0_a.Delay, .int .i64 p0_a.Tokens], .blk b2 96 [.int .i64 p1_b.From, .int .i64 p1_b.To, .int .i64 p1_b.Delay, .int .i64 p1_b.Tokens]] := hs
  refine sY hf hs rfl rfl rfl (Y_assign rfl rfl) ?_; clear hf; intro a hf
  refine wpO_nil ?_
  refine wpL_seq ?_
  refine wpL_seq ?_
  refine wpL_region ?_
  refine sY hf hs rfl rfl rfl (Y_fieldAddr rfl rfl fo96_0) ?_; clear hf; intro a hf
  refine sY hf hs rfl rfl rfl (Y_load_blk rfl rfl (i := 0) rfl rfl ag2) ?_; clear hf; intro a hf
  refine sY hf hs rfl rfl rfl (Y_fieldAddr rfl rfl fo96_0) ?_; clear hf; intro a hf
  refine sY hf hs rfl rfl rfl (Y_load_blk rfl rfl (i := 1) rfl rfl ag2) ?_; clear hf; intro a hf
  refine sY hf hs rfl rfl rfl (Y_neq rfl rfl rfl) ?_; clear hf; intro a hf
  refine wpO_nil ?_
  refine wpL_cond hf rfl (fun hb3 => ?_) (fun hb3 => ?_)
  · have hm := bif_t hm hb3
    refine wpL_seq ?_
    refine wpL_region ?_
    refine sY hf hs rfl rfl rfl (Y_assign rfl rfl) ?_; clear hf; intro a hf
    refine wpO_nil ?_
    obtain rfl := Option.some.inj hm
    refine wpL_ret (ret_tmp rfl hf rfl ?_)
    exact ⟨_, rfl, rfl, hs.sel [] (by decide)⟩
  · have hm := bif_f hm hb3
    refine wpL_skip ?_
    refine wpL_seq ?_
    refine wpL_seq ?_
    refine wpL_region ?_
    refine sY hf hs rfl rfl rfl (Y_fieldAddr rfl rfl fo96_1) ?_; clear hf; intro a hf
    refine sY hf hs rfl rfl rfl (Y_load_blk rfl rfl (i := 0) rfl rfl ag2) ?_; clear hf; intro a hf
    refine sY hf hs rfl rfl rfl (Y_fieldAddr rfl rfl fo96_1) ?_; clear hf; intro a hf
    refine sY hf hs rfl rfl rfl (Y_load_blk rfl rfl (i := 1) rfl rfl ag2) ?_; clear hf; intro a hf
    refine sY hf hs rfl rfl rfl (Y_neq rfl rfl rfl) ?_; clear hf; intro a hf
    refine wpO_nil ?_
    refine wpL_cond hf rfl (fun hb4 => ?_) (fun hb4 => ?_)
    · have hm := bif_t hm hb4
      refine wpL_seq ?_
      refine wpL_region ?_
      refine sY hf hs rfl rfl rfl (Y_assign rfl rfl) ?_; clear hf; intro a hf
      refine wpO_nil ?_
      obtain rfl := Option.some.inj hm
      refine wpL_ret (ret_tmp rfl hf rfl ?_)
      exact ⟨_, rfl, rfl, hs.sel [] (by decide)⟩
    · have hm := bif_f hm hb4
      refine wpL_skip ?_
      refine wpL_seq ?_
      refine wpL_seq ?_
      refine wpL_region ?_
      refine sY hf hs rfl rfl rfl (Y_fieldAddr rfl rfl fo96_2) ?_; clear hf; intro a hf
      refine sY hf hs rfl rfl rfl (Y_load_blk rfl rfl (i := 0) rfl rfl ag2) ?_; clear hf; intro a hf
      refine sY hf hs rfl rfl rfl (Y_fieldAddr rfl rfl fo96_2) ?_; clear hf; intro a hf
      refine sY hf hs rfl rfl rfl (Y_load_blk rfl rfl (i := 1) rfl rfl ag2) ?_; clear hf; intro a hf
      refine sY hf hs rfl rfl rfl (Y_neq rfl rfl rfl) ?_; clear hf; intro a hf
      refine wpO_nil ?_
      refine wpL_cond hf rfl (fun hb5 => ?_) (fun hb5 => ?_)
      · have hm := bif_t hm hb5
        refine wpL_seq ?_
        refine wpL_region ?_
        refine sY hf hs rfl rfl rfl (Y_assign rfl rfl) ?_; clear hf; intro a hf
        refine wpO_nil ?_
        obtain rfl := Option.some.inj hm
        refine wpL_ret (ret_tmp rfl hf rfl ?_)
        exact ⟨_, rfl, rfl, hs.sel [] (by decide)⟩
      · have hm := bif_f hm hb5
        refine wpL_skip ?_
        refine wpL_seq ?_
        refine wpL_seq ?_
        refine wpL_region ?_
        refine sY hf hs rfl rfl rfl (Y_fieldAddr rfl rfl fo96_3) ?_; clear hf; intro a hf
        refine sY hf hs rfl rfl rfl (Y_load_blk rfl rfl (i := 0) rfl rfl ag2) ?_; clear hf; intro a hf
        refine sY hf hs rfl rfl rfl (Y_fieldAddr rfl rfl fo96_3) ?_; clear hf; intro a hf
        refine sY hf hs rfl rfl rfl (Y_load_blk rfl rfl (i := 1) rfl rfl ag2) ?_; clear hf; intro a hf
        refine sY hf hs rfl rfl rfl (Y_neq rfl rfl rfl) ?_; clear hf; intro a hf
        refine wpO_nil ?_
        refine wpL_cond hf rfl (fun hb6 => ?_) (fun hb6 => ?_)
        · have hm := bif_t hm hb6
          refine wpL_seq ?_
          refine wpL_region ?_
          refine sY hf hs rfl rfl rfl (Y_assign rfl rfl) ?_; clear hf; intro a hf
          refine wpO_nil ?_
          obtain rfl := Option.some.inj hm
          refine wpL_ret (ret_tmp rfl hf rfl ?_)
          exact ⟨_, rfl, rfl, hs.sel [] (by decide)⟩
        · have hm := bif_f hm hb6
          refine wpL_skip ?_
          refine wpL_seq ?_
          refine wpL_region ?_
          refine sY hf hs rfl rfl rfl (Y_assign rfl rfl) ?_; clear hf; intro a hf
          refine wpO_nil ?_
          obtain rfl := Option.some.inj hm
          refine wpL_ret (ret_tmp rfl hf rfl ?_)
          exact ⟨_, rfl, rfl, hs.sel [] (by decide)⟩

set_option maxRecDepth 100000 in
theorem laws_eqPlaceS_ok (F : Nat) (p0_a : List GPlace) (A_p0_a_1 : Option Addr) (n_p0_a_1 c_p0_a_1 : Nat) (hn_p0_a_1 : n_p0_a_1 = p0_a.length) (p1_b : List GPlace) (A_p1_b_1 : Option Addr) (n_p1_b_1 c_p1_b_1 : Nat) (hn_p1_b_1 : n_p1_b_1 = p1_b.length) (r : Bool) (W : World) (hm : laws_eqPlaceS F p0_a p1_b = some r) (h_p0_a_1 : Rd W A_p0_a_1 ((recs GPlace.cells) p0_a)) (h_p1_b_1 : Rd W A_p1_b_1 ((recs GPlace.cells) p1_b)) :
    Calls Try.prog 84 [.slice A_p0_a_1 n_p0_a_1 c_p0_a_1, .slice A_p1_b_1 n_p1_b_1 c_p1_b_1].toArray W fun e w' => ∃ v, e = .returned v ∧ v = .bool r ∧ St [] W w' [] := by
  subst hn_p0_a_1
  subst hn_p1_b_1
  unfold laws_eqPlaceS at hm
  refine Calls.enter (N := 27) Try.func84 rfl rfl rfl (fun a hf => ?_)
  have hs := St.start W
  obtain ⟨w, hw_⟩ : ∃ w, w = W := ⟨W, rfl⟩
  clear hw_ w
  refine wpL_seq ?_
  refine wpL_region ?_
  refine sY hf hs rfl rfl rfl (Y_assign rfl rfl) ?_; clear hf; intro a hf
  refine wpO_nil ?_
  refine wpL_seq ?_
  refine wpL_seq ?_
  refine wpL_region ?_
  refine sY hf hs rfl rfl rfl (Y_move rfl rfl) ?_; clear hf; intro a hf
  refine sY hf hs rfl rfl rfl (Y_lenH rfl rfl el37 rfl) ?_; clear hf; intro a hf
  refine sY hf hs rfl rfl rfl (Y_move rfl rfl) ?_; clear hf; intro a hf
  refine sY hf hs rfl rfl rfl (Y_lenH rfl rfl el37 rfl) ?_; clear hf; intro a hf
  refine sY hf hs rfl rfl rfl (Y_neq rfl rfl rfl) ?_; clear hf; intro a hf
  refine wpO_nil ?_
  refine wpL_cond hf rfl (fun hb1 => ?_) (fun hb1 => ?_)
  · have hm := bif_t hm hb1
    refine wpL_seq ?_
    refine wpL_region ?_
    refine sY hf hs rfl rfl rfl (Y_assign rfl rfl) ?_; clear hf; intro a hf
    refine wpO_nil ?_
    obtain rfl := Option.some.inj hm
    refine wpL_ret (ret_tmp rfl hf rfl ?_)
    exact ⟨_, rfl, rfl, hs⟩
  · have hm := bif_f hm hb1
    refine wpL_skip ?_
    refine wpL_seq ?_
    refine wpL_seq ?_
    refine wpL_region ?_
    refine sY hf hs rfl rfl rfl (Y_assign rfl rfl) ?_; clear hf; intro a hf
    refine wpO_nil ?_
    obtain ⟨r28, hl29, hm⟩ := bind_some hm
    refine wpL_block (fun a w => Sum.inr () = r28 ∧ Fr a 27 [] ∧ St [] W w []) ?_ ?_
    · refine wpL_loop (fun n a w => ∃ x19 : Int, laws_eqPlaceS_L1 F p0_a p1_b n x19 = some r28 ∧ Fr a 27 [(0, .slice A_p0_a_1 p0_a.length c_p0_a_1), (1, .slice A_p1_b_1 p1_b.length c_p1_b_1), (5, .int .i64 x19)] ∧ St [] W w []) F ?_ ?_ ?_
      · exact ⟨0, hl29, (FrD.pick (FrD.pick (FrD.pick hf.none hf rfl) hf rfl) hf rfl), hs⟩
      · rintro a w ⟨x19, h0_, -, -⟩; simp [laws_eqPlaceS_L1] at h0_
      · rintro n31 a w ⟨x19, hm30, hf, hs⟩
        rw [laws_eqPlaceS_L1] at hm30
        refine wpL_seq ?_
        refine wpL_seq ?_
        refine wpL_region ?_
        refine sY hf hs rfl rfl rfl (Y_move rfl rfl) ?_; clear hf; intro a hf
        refine sY hf hs rfl rfl rfl (Y_move rfl rfl) ?_; clear hf; intro a hf
        refine sY hf hs rfl rfl rfl (Y_lenH rfl rfl el37 rfl) ?_; clear hf; intro a hf
        refine sY hf hs rfl rfl rfl (Y_lss rfl rfl rfl) ?_; clear hf; intro a hf
        refine wpO_nil ?_
        refine wpL_cond hf rfl (fun hb32 => ?_) (fun hb32 => ?_)
        · have hm30 := bif_t hm30 hb32
          refine wpL_skip ?_
          refine wpL_seq ?_
          refine wpL_block0 ?_
          refine wpL_seq ?_
          refine wpL_draw (by kernel_rfl) (by kernel_rfl) hs ?_
          refine qY hf rfl rfl rfl (Y_move rfl rfl) ?_; clear hf; intro a hf
          refine qY hf rfl rfl rfl (Y_move rfl rfl) ?_; clear hf; intro a hf
          obtain ⟨q33, hi34, hm30⟩ := bind_some hm30
          obtain ⟨hi34a, hi34b, hi34q⟩ := idx_some hi34
          refine qY hf rfl rfl rfl (Y_index rfl rfl rfl el37 ti96 (Rd.isAt (h_p0_a_1.at hs) (recs_at (s := 4) GPlace.len hi34q (j := 0) rfl)) hi34a hi34b) ?_; clear hf; intro a hf
          refine qY hf rfl rfl rfl (Y_load_rdS rfl rfl (us := [.int .i64 q33.From, .int .i64 q33.To, .int .i64 q33.Delay, .int .i64 q33.Tokens]) (fun w hs => h_p0_a_1.at hs) (fun j u hj => recs_at (s := 4) GPlace.len hi34q hj) (Nat.succ_pos _) ag96 ti96 rfl) ?_; clear hf; intro a hf
          refine qY hf rfl rfl rfl (Y_move rfl rfl) ?_; clear hf; intro a hf
          refine qY hf rfl rfl rfl (Y_move rfl rfl) ?_; clear hf; intro a hf
          obtain ⟨q35, hi36, hm30⟩ := bind_some hm30
          obtain ⟨hi36a, hi36b, hi36q⟩ := idx_some hi36
          refine qY hf rfl rfl rfl (Y_index rfl rfl rfl el37 ti96 (Rd.isAt (h_p1_b_1.at hs) (recs_at (s := 4) GPlace.len hi36q (j := 0) rfl)) hi36a hi36b) ?_; clear hf; intro a hf
          refine qY hf rfl rfl rfl (Y_load_rdS rfl rfl (us := [.int .i64 q35.From, .int .i64 q35.To, .int .i64 q35.Delay, .int .i64 q35.Tokens]) (fun w hs => h_p1_b_1.at hs) (fun j u hj => recs_at (s := 4) GPlace.len hi36q hj) (Nat.succ_pos _) ag96 ti96 rfl) ?_; clear hf; intro a hf
          obtain ⟨r37, hc38, hm30⟩ := bind_some hm30
          refine qCall hf rfl rfl rfl rfl (cap := []) rfl rfl en150 (v := .bool r37) (fun w hs => Calls.scal (laws_eqPlace_ok F q33 q35 _ _ hc38)) ?_; clear hf; intro a hf
          refine qY hf rfl rfl rfl (Y_not rfl rfl) ?_; clear hf; intro a hf
          refine qNil ?_; clear hs; intro w hs
          refine wpL_cond hf rfl (fun hb39 => ?_) (fun hb39 => ?_)
          · have hm30 := bif_t hm30 hb39
            refine wpL_seq ?_
            refine wpL_region ?_
            refine sY hf hs rfl rfl rfl (Y_assign rfl rfl) ?_; clear hf; intro a hf
            refine wpO_nil ?_
            obtain rfl := Option.some.inj hm30
            try dsimp only at hm
            obtain rfl := Option.some.inj hm
            refine wpL_ret (Qb_ret (Ql_ret (Qb_ret (ret_tmp rfl hf rfl ?_))))
            exact ⟨_, rfl, rfl, hs⟩
          · have hm30 := bif_f hm30 hb39
            refine wpL_skip ?_
            refine wpL_nil (Qb_normal ?_)
            refine wpL_region ?_
            refine sY hf hs rfl rfl rfl (Y_move rfl rfl) ?_; clear hf; intro a hf
            refine sY hf hs rfl rfl rfl (Y_add rfl rfl rfl) ?_; clear hf; intro a hf
            refine sY hf hs rfl rfl rfl (Y_assign rfl rfl) ?_; clear hf; intro a hf
            refine wpO_nil ?_
            refine wpL_nil (Ql_normal ?_)
            exact ⟨(IntKind.i64.wrap (x19 + 1)), hm30, (FrD.pick (FrD.pick (FrD.pick hf.none hf rfl) hf rfl) hf rfl), hs⟩
        · have hm30 := bif_f hm30 hb32
          refine wpL_exit (Ql_exit (Qb_exit ?_))
          exact ⟨Option.some.inj hm30, hf.none, hs⟩
    · rintro a w ⟨hr_, hf, hs⟩
      subst hr_
      try dsimp only at hm
      refine wpL_seq ?_
      refine wpL_region ?_
      refine sY hf hs rfl rfl rfl (Y_assign rfl rfl) ?_; clear hf; intro a hf
      refine wpO_nil ?_
      obtain rfl := Option.some.inj hm
      refine wpL_ret (ret_tmp rfl hf rfl ?_)
      exact ⟨_, rfl, rfl, hs⟩

set_option maxRecDepth 100000 in
theorem laws_eqEventGraph_ok (F : Nat) (p0_a : GEventGraph) (A_p0_a_1 : Option Addr) (n_p0_a_1 c_p0_a_1 : Nat) (hn_p0_a_1 : n_p0_a_1 = p0_a.Places.length) (p1_b : GEventGraph) (A_p1_b_1 : Option Addr) (n_p1_b_1 c_p1_b_1 : Nat) (hn_p1_b_1 : n_p1_b_1 = p1_b.Places.length) (r : Bool) (W : World) (hm : laws_eqEventGraph F p0_a p1_b = some r) (h_p0_a_1 : Rd W A_p0_a_1 ((recs GPlace.cells) p0_a.Places)) (h_p1_b_1 : Rd W A_p1_b_1 ((recs GPlace.cells) p1_b.Places)) :
    Calls Try.prog 28 [.agg #[.int .i64 p0_a.Events, .slice A_p0_a_1 n_p0_a_1 c_p0_a_1], .agg #[.int .i64 p1_b.Events, .slice A_p1_b_1 n_p1_b_1 c_p1_b_1]].toArray W fun e w' => ∃ v, e = .returned v ∧ v = .bool r ∧ St [] W w' [] := by
  subst hn_p0_a_1
  subst hn_p1_b_1
  unfold laws_eqEventGraph at hm
  refine Calls.enter (N := 16) Try.func28 rfl rfl rfl (fun a hf => ?_)
  have hs := St.start W
  obtain ⟨w, hw_⟩ : ∃ w, w = W := ⟨W, rfl⟩
  clear hw_ w
  refine wpL_seq ?_
  refine wpL_region ?_
  refine sBox hf hs rfl rfl rfl rfl rfl (cs := [.int .i64 p0_a.Events, .slice A_p0_a_1 p0_a.Places.length c_p0_a_1]) rfl ?_; clear hf hs; intro a w b1 hs hf
  have hs : St [] W w [.blk b1 39 [.int .i64 p0_a.Events, .slice A_p0_a_1 p0_a.Places.length c_p0_a_1]] := hs
  refine sBox hf hs rfl rfl rfl rfl rfl (cs := [.int .i64 p1_b.Events, .slice A_p1_b_1 p1_b.Places.length c_p1_b_1]) rfl ?_; clear hf hs; intro a w b2 hs hf
  have hs : St [] W w [.blk b1 39 [.int .i64 p0_a.Events, .slice A_p0_a_1 p0_a.Places.length c_p0_a_1], .blk b2 39 [.int .i64 p1_b.Events, .slice A_p1_b_1 p1_b.Places.length c_p1_b_1]] := hs
  refine sY hf hs rfl rfl rfl (Y_assign rfl rfl) ?_; clear hf; intro a hf
  refine wpO_nil ?_
  refine wpL_seq ?_
  refine wpL_seq ?_
  refine wpL_region ?_
  refine sY hf hs rfl rfl rfl (Y_fieldAddr rfl rfl fo39_0) ?_; clear hf; intro a hf
  refine sY hf hs rfl rfl rfl (Y_load_blk rfl rfl (i := 0) rfl rfl ag2) ?_; clear hf; intro a hf
  refine sY hf hs rfl rfl rfl (Y_fieldAddr rfl rfl fo39_0) ?_; clear hf; intro a hf
  refine sY hf hs rfl rfl rfl (Y_load_blk rfl rfl (i := 1) rfl rfl ag2) ?_; clear hf; intro a hf
  refine sY hf hs rfl rfl rfl (Y_neq rfl rfl rfl) ?_; clear hf; intro a hf
  refine wpO_nil ?_
  refine wpL_cond hf rfl (fun hb3 => ?_) (fun hb3 => ?_)
  · have hm := bif_t hm hb3
    refine wpL_seq ?_
    refine wpL_region ?_
    refine sY hf hs rfl rfl rfl (Y_assign rfl rfl) ?_; clear hf; intro a hf
    refine wpO_nil ?_
    obtain rfl := Option.some.inj hm
    refine wpL_ret (ret_tmp rfl hf rfl ?_)
    exact ⟨_, rfl, rfl, hs.sel [] (by decide)⟩
  · have hm := bif_f hm hb3
    refine wpL_skip ?_
    refine wpL_seq ?_
    refine wpL_seq ?_
    refine wpL_region ?_
    refine sY hf hs rfl rfl rfl (Y_fieldAddr rfl rfl fo39_1) ?_; clear hf; intro a hf
    refine sY hf hs rfl rfl rfl (Y_load_blk rfl rfl (i := 0) rfl rfl ag37) ?_; clear hf; intro a hf
    refine sY hf hs rfl rfl rfl (Y_fieldAddr rfl rfl fo39_1) ?_; clear hf; intro a hf
    refine sY hf hs rfl rfl rfl (Y_load_blk rfl rfl (i := 1) rfl rfl ag37) ?_; clear hf; intro a hf
    obtain ⟨r4, hc5, hm⟩ := bind_some hm
    refine sCall hf rfl rfl rfl rfl (cap := []) rfl rfl en84 (laws_eqPlaceS_ok F p0_a.Places A_p0_a_1 p0_a.Places.length c_p0_a_1 rfl p1_b.Places A_p1_b_1 p1_b.Places.length c_p1_b_1 rfl _ _ hc5 (h_p0_a_1.at hs) (h_p1_b_1.at hs)) ?_; clear hf
    rintro _ w ⟨rfl, hs1⟩ a hf
    have hs : St [] W w [.blk b1 39 [.int .i64 p0_a.Events, .slice A_p0_a_1 p0_a.Places.length c_p0_a_1], .blk b2 39 [.int .i64 p1_b.Events, .slice A_p1_b_1 p1_b.Places.length c_p1_b_1]] := hs.ext hs1.below
    clear hs1
    refine sY hf hs rfl rfl rfl (Y_not rfl rfl) ?_; clear hf; intro a hf
    refine wpO_nil ?_
    refine wpL_cond hf rfl (fun hb6 => ?_) (fun hb6 => ?_)
    · have hm := bif_t hm hb6
      refine wpL_seq ?_
      refine wpL_region ?_
      refine sY hf hs rfl rfl rfl (Y_assign rfl rfl) ?_; clear hf; intro a hf
      refine wpO_nil ?_
      obtain rfl := Option.some.inj hm
      refine wpL_ret (ret_tmp rfl hf rfl ?_)
      exact ⟨_, rfl, rfl, hs.sel [] (by decide)⟩
    · have hm := bif_f hm hb6
      refine wpL_skip ?_
      refine wpL_seq ?_
      refine wpL_region ?_
      refine sY hf hs rfl rfl rfl (Y_assign rfl rfl) ?_; clear hf; intro a hf
      refine wpO_nil ?_
      obtain rfl := Option.some.inj hm
      refine wpL_ret (ret_tmp rfl hf rfl ?_)
      exact ⟨_, rfl, rfl, hs.sel [] (by decide)⟩

set_option maxRecDepth 100000 in
theorem laws_markPlaceS_ok (F : Nat) (p0_a : List GPlace) (A_p0_a_1 : Option Addr) (n_p0_a_1 c_p0_a_1 : Nat) (hn_p0_a_1 : n_p0_a_1 = p0_a.length) (p1_k : Int) (r : (Int) × List GPlace) (W : World) (hm : laws_markPlaceS F p0_a p1_k = some r) (h_p0_a_1 : (Res.row A_p0_a_1 n_p0_a_1 c_p0_a_1 96 4 ((recs GPlace.cells) p0_a) : Res).holds 0 W) :
    Calls Try.prog 85 [.slice A_p0_a_1 n_p0_a_1 c_p0_a_1, .int .i64 p1_k].toArray W fun e w' => ∃ v, e = .returned v ∧ v = .int .i64 r.1 ∧ n_p0_a_1 = r.2.length ∧ St (muA A_p0_a_1) W w' [.row A_p0_a_1 n_p0_a_1 c_p0_a_1 96 4 ((recs GPlace.cells) r.2)] := by
  subst hn_p0_a_1
  unfold laws_markPlaceS at hm
  refine Calls.enter (N := 41) Try.func85 rfl rfl rfl (fun a hf => ?_)
  have hs : St (muA A_p0_a_1) W W [.row A_p0_a_1 p0_a.length c_p0_a_1 96 4 ((recs GPlace.cells) p0_a)] := St.startMut h_p0_a_1 (fun b hb => mem_muA hb)
  obtain ⟨w, hw_⟩ : ∃ w, w = W := ⟨W, rfl⟩
  clear hw_ w
  refine wpL_seq ?_
  refine wpL_region ?_
  refine sY hf hs rfl rfl rfl (Y_assign rfl rfl) ?_; clear hf; intro a hf
  refine wpO_nil ?_
  refine wpL_seq ?_
  refine wpL_seq ?_
  refine wpL_region ?_
  refine sY hf hs rfl rfl rfl (Y_assign rfl rfl) ?_; clear hf; intro a hf
  refine wpO_nil ?_
  obtain ⟨r63, hl64, hm⟩ := bind_some hm
  refine wpL_block (fun a w => ∃ xs60 : List GPlace, ∃ x62 : Int, (xs60, x62) = r63 ∧ p0_a.length = xs60.length ∧ Fr a 41 [(1, .int .i64 x62)] ∧ St (muA A_p0_a_1) W w [.row A_p0_a_1 p0_a.length c_p0_a_1 96 4 ((recs GPlace.cells) xs60)]) ?_ ?_
  · refine wpL_loop (fun n a w => ∃ xs39 : List GPlace, ∃ x41 : Int, ∃ x42 : Int, laws_markPlaceS_L1 F n xs39 x41 x42 = some r63 ∧ p0_a.length = xs39.length ∧ Fr a 41 [(0, .slice A_p0_a_1 p0_a.length c_p0_a_1), (1, .int .i64 x41), (5, .int .i64 x42)] ∧ St (muA A_p0_a_1) W w [.row A_p0_a_1 p0_a.length c_p0_a_1 96 4 ((recs GPlace.cells) xs39)]) F ?_ ?_ ?_
    · exact ⟨p0_a, p1_k, 0, hl64, rfl, (FrD.pick (FrD.pick (FrD.pick hf.none hf rfl) hf rfl) hf rfl), hs⟩
    · rintro a w ⟨xs39, x41, x42, h0_, -, -, -⟩; simp [laws_markPlaceS_L1] at h0_
    · rintro n66 a w ⟨xs39, x41, x42, hm65, hn40, hf, hs⟩
      rw [laws_markPlaceS_L1] at hm65
      refine wpL_seq ?_
      refine wpL_seq ?_
      refine wpL_region ?_
      refine sY hf hs rfl rfl rfl (Y_move rfl rfl) ?_; clear hf; intro a hf
      refine sY hf hs rfl rfl rfl (Y_move rfl rfl) ?_; clear hf; intro a hf
      refine sY hf hs rfl rfl rfl (Y_lenH rfl rfl el37 hn40) ?_; clear hf; intro a hf
      refine sY hf hs rfl rfl rfl (Y_lss rfl rfl rfl) ?_; clear hf; intro a hf
      refine wpO_nil ?_
      refine wpL_cond hf rfl (fun hb67 => ?_) (fun hb67 => ?_)
      · have hm65 := bif_t hm65 hb67
        refine wpL_skip ?_
        refine wpL_seq ?_
        refine wpL_block0 ?_
        refine wpL_seq ?_
        refine wpL_region ?_
        refine sY hf hs rfl rfl rfl (Y_move rfl rfl) ?_; clear hf; intro a hf
        refine sY hf hs rfl rfl rfl (Y_move rfl rfl) ?_; clear hf; intro a hf
        refine sY hf hs rfl rfl rfl (Y_move rfl rfl) ?_; clear hf; intro a hf
        obtain ⟨q68, hi69, hm65⟩ := bind_some hm65
        obtain ⟨hi69a, hi69b, hi69q⟩ := idx_some hi69
        refine sY hf hs rfl rfl rfl (Y_index rfl rfl rfl el37 ti96 (Rd.isAt (hs.rd (i := 0) rfl) (recs_at (s := 4) GPlace.len hi69q (j := 0) rfl)) hi69a (ltn hn40 hi69b)) ?_; clear hf; intro a hf
        refine sY hf hs rfl rfl rfl (Y_fieldAddrE rfl rfl fo96_0) ?_; clear hf; intro a hf
        obtain ⟨xs70, hu71, hm65⟩ := bind_some hm65
        refine sStoreF (i := 0) (s := 4) (fo := 0) (f := GPlace.cells) (x' := (GPlace.mk x41 q68.To q68.Delay q68.Tokens)) hf hs rfl rfl rfl rfl rfl rfl hi69q hu71 ti2 rfl rfl rfl GPlace.len rfl rfl ?_; clear hs; intro w hs
        have hs : St (muA A_p0_a_1) W w [.row A_p0_a_1 p0_a.length c_p0_a_1 96 4 ((recs GPlace.cells) xs70)] := hs
        refine wpO_nil ?_
        refine wpL_seq ?_
        refine wpL_region ?_
        refine sY hf hs rfl rfl rfl (Y_move rfl rfl) ?_; clear hf; intro a hf
        refine sY hf hs rfl rfl rfl (Y_add rfl rfl rfl) ?_; clear hf; intro a hf
        refine sY hf hs rfl rfl rfl (Y_assign rfl rfl) ?_; clear hf; intro a hf
        refine wpO_nil ?_
        refine wpL_seq ?_
        refine wpL_region ?_
        refine sY hf hs rfl rfl rfl (Y_move rfl rfl) ?_; clear hf; intro a hf
        refine sY hf hs rfl rfl rfl (Y_move rfl rfl) ?_; clear hf; intro a hf
        refine sY hf hs rfl rfl rfl (Y_move rfl rfl) ?_; clear hf; intro a hf
        obtain ⟨q72, hi73, hm65⟩ := bind_some hm65
        obtain ⟨hi73a, hi73b, hi73q⟩ := idx_some hi73
        refine sY hf hs rfl rfl rfl (Y_index rfl rfl rfl el37 ti96 (Rd.isAt (hs.rd (i := 0) rfl) (recs_at (s := 4) GPlace.len hi73q (j := 0) rfl)) hi73a (ltn ((hn40).trans (upd_len hu71).symm) hi73b)) ?_; clear hf; intro a hf
        refine sY hf hs rfl rfl rfl (Y_fieldAddrE rfl rfl fo96_1) ?_; clear hf; intro a hf
        obtain ⟨xs74, hu75, hm65⟩ := bind_some hm65
        refine sStoreF (i := 0) (s := 4) (fo := 1) (f := GPlace.cells) (x' := (GPlace.mk q72.From (IntKind.i64.wrap (x41 + 1)) q72.Delay q72.Tokens)) hf hs rfl rfl rfl rfl rfl rfl hi73q hu75 ti2 rfl rfl rfl GPlace.len rfl rfl ?_; clear hs; intro w hs
        have hs : St (muA A_p0_a_1) W w [.row A_p0_a_1 p0_a.length c_p0_a_1 96 4 ((recs GPlace.cells) xs74)] := hs
        refine wpO_nil ?_
        refine wpL_seq ?_
        refine wpL_region ?_
        refine sY hf hs rfl rfl rfl (Y_move rfl rfl) ?_; clear hf; intro a hf
        refine sY hf hs rfl rfl rfl (Y_add rfl rfl rfl) ?_; clear hf; intro a hf
        refine sY hf hs rfl rfl rfl (Y_assign rfl rfl) ?_; clear hf; intro a hf
        refine wpO_nil ?_
        refine wpL_seq ?_
        refine wpL_region ?_
        refine sY hf hs rfl rfl rfl (Y_move rfl rfl) ?_; clear hf; intro a hf
        refine sY hf hs rfl rfl rfl (Y_move rfl rfl) ?_; clear hf; intro a hf
        refine sY hf hs rfl rfl rfl (Y_move rfl rfl) ?_; clear hf; intro a hf
        obtain ⟨q76, hi77, hm65⟩ := bind_some hm65
        obtain ⟨hi77a, hi77b, hi77q⟩ := idx_some hi77
        refine sY hf hs rfl rfl rfl (Y_index rfl rfl rfl el37 ti96 (Rd.isAt (hs.rd (i := 0) rfl) (recs_at (s := 4) GPlace.len hi77q (j := 0) rfl)) hi77a (ltn ((((hn40).trans (upd_len hu71).symm)).trans (upd_len hu75).symm) hi77b)) ?_; clear hf; intro a hf
        refine sY hf hs rfl rfl rfl (Y_fieldAddrE rfl rfl fo96_2) ?_; clear hf; intro a hf
        obtain ⟨xs78, hu79, hm65⟩ := bind_some hm65
        refine sStoreF (i := 0) (s := 4) (fo := 2) (f := GPlace.cells) (x' := (GPlace.mk q76.From q76.To (IntKind.i64.wrap ((IntKind.i64.wrap (x41 + 1)) + 1)) q76.Tokens)) hf hs rfl rfl rfl rfl rfl rfl hi77q hu79 ti2 rfl rfl rfl GPlace.len rfl rfl ?_; clear hs; intro w hs
        have hs : St (muA A_p0_a_1) W w [.row A_p0_a_1 p0_a.length c_p0_a_1 96 4 ((recs GPlace.cells) xs78)] := hs
        refine wpO_nil ?_
        refine wpL_seq ?_
        refine wpL_region ?_
        refine sY hf hs rfl rfl rfl (Y_move rfl rfl) ?_; clear hf; intro a hf
        refine sY hf hs rfl rfl rfl (Y_add rfl rfl rfl) ?_; clear hf; intro a hf
        refine sY hf hs rfl rfl rfl (Y_assign rfl rfl) ?_; clear hf; intro a hf
        refine wpO_nil ?_
        refine wpL_seq ?_
        refine wpL_region ?_
        refine sY hf hs rfl rfl rfl (Y_move rfl rfl) ?_; clear hf; intro a hf
        refine sY hf hs rfl rfl rfl (Y_move rfl rfl) ?_; clear hf; intro a hf
        refine sY hf hs rfl rfl rfl (Y_move rfl rfl) ?_; clear hf; intro a hf
        obtain ⟨q80, hi81, hm65⟩ := bind_some hm65
        obtain ⟨hi81a, hi81b, hi81q⟩ := idx_some hi81
        refine sY hf hs rfl rfl rfl (Y_index rfl rfl rfl el37 ti96 (Rd.isAt (hs.rd (i := 0) rfl) (recs_at (s := 4) GPlace.len hi81q (j := 0) rfl)) hi81a (ltn ((((((hn40).trans (upd_len hu71).symm)).trans (upd_len hu75).symm)).trans (upd_len hu79).symm) hi81b)) ?_; clear hf; intro a hf
        refine sY hf hs rfl rfl rfl (Y_fieldAddrE rfl rfl fo96_3) ?_; clear hf; intro a hf
        obtain ⟨xs82, hu83, hm65⟩ := bind_some hm65
        refine sStoreF (i := 0) (s := 4) (fo := 3) (f := GPlace.cells) (x' := (GPlace.mk q80.From q80.To q80.Delay (IntKind.i64.wrap ((IntKind.i64.wrap ((IntKind.i64.wrap (x41 + 1)) + 1)) + 1)))) hf hs rfl rfl rfl rfl rfl rfl hi81q hu83 ti2 rfl rfl rfl GPlace.len rfl rfl ?_; clear hs; intro w hs
        have hs : St (muA A_p0_a_1) W w [.row A_p0_a_1 p0_a.length c_p0_a_1 96 4 ((recs GPlace.cells) xs82)] := hs
        refine wpO_nil ?_
        refine wpL_region ?_
        refine sY hf hs rfl rfl rfl (Y_move rfl rfl) ?_; clear hf; intro a hf
        refine sY hf hs rfl rfl rfl (Y_add rfl rfl rfl) ?_; clear hf; intro a hf
        refine sY hf hs rfl rfl rfl (Y_assign rfl rfl) ?_; clear hf; intro a hf
        refine wpO_nil ?_
        refine wpL_nil (Qb_normal ?_)
        refine wpL_region ?_
        refine sY hf hs rfl rfl rfl (Y_move rfl rfl) ?_; clear hf; intro a hf
        refine sY hf hs rfl rfl rfl (Y_add rfl rfl rfl) ?_; clear hf; intro a hf
        refine sY hf hs rfl rfl rfl (Y_assign rfl rfl) ?_; clear hf; intro a hf
        refine wpO_nil ?_
        refine wpL_nil (Ql_normal ?_)
        exact ⟨xs82, (IntKind.i64.wrap ((IntKind.i64.wrap ((IntKind.i64.wrap ((IntKind.i64.wrap (x41 + 1)) + 1)) + 1)) + 1)), (IntKind.i64.wrap (x42 + 1)), hm65, ((((((((hn40).trans (upd_len hu71).symm)).trans (upd_len hu75).symm)).trans (upd_len hu79).symm)).trans (upd_len hu83).symm), (FrD.pick (FrD.pick (FrD.pick hf.none hf rfl) hf rfl) hf rfl), hs⟩
      · have hm65 := bif_f hm65 hb67
        refine wpL_exit (Ql_exit (Qb_exit ?_))
        exact ⟨xs39, x41, Option.some.inj hm65, hn40, (FrD.pick hf.none hf rfl), hs⟩
  · rintro a w ⟨xs60, x62, hr_, hn61, hf, hs⟩
    subst hr_
    try dsimp only at hm
    refine wpL_seq ?_
    refine wpL_region ?_
    refine sY hf hs rfl rfl rfl (Y_move rfl rfl) ?_; clear hf; intro a hf
    refine sY hf hs rfl rfl rfl (Y_assign rfl rfl) ?_; clear hf; intro a hf
    refine wpO_nil ?_
    obtain rfl := Option.some.inj hm
    refine wpL_ret (ret_tmp rfl hf rfl ?_)
    exact ⟨_, rfl, rfl, hn61, hs⟩

set_option maxRecDepth 100000 in
theorem laws_markEventGraph_ok (F : Nat) (p0_a : GEventGraph) (A_p0_a_1 : Option Addr) (n_p0_a_1 c_p0_a_1 : Nat) (hn_p0_a_1 : n_p0_a_1 = p0_a.Places.length) (p1_k : Int) (r : (Int) × List GPlace) (W : World) (hm : laws_markEventGraph F p0_a p1_k = some r) (h_p0_a_1 : (Res.row A_p0_a_1 n_p0_a_1 c_p0_a_1 96 4 ((recs GPlace.cells) p0_a.Places) : Res).holds 0 W) :
    Calls Try.prog 29 [.agg #[.int .i64 p0_a.Events, .slice A_p0_a_1 n_p0_a_1 c_p0_a_1], .int .i64 p1_k].toArray W fun e w' => ∃ v, e = .returned v ∧ v = .int .i64 r.1 ∧ n_p0_a_1 = r.2.length ∧ St (muA A_p0_a_1) W w' [.row A_p0_a_1 n_p0_a_1 c_p0_a_1 96 4 ((recs GPlace.cells) r.2)] := by
  subst hn_p0_a_1
  unfold laws_markEventGraph at hm
  refine Calls.enter (N := 10) Try.func29 rfl rfl rfl (fun a hf => ?_)
  have hs : St (muA A_p0_a_1) W W [.row A_p0_a_1 p0_a.Places.length c_p0_a_1 96 4 ((recs GPlace.cells) p0_a.Places)] := St.startMut h_p0_a_1 (fun b hb => mem_muA hb)
  obtain ⟨w, hw_⟩ : ∃ w, w = W := ⟨W, rfl⟩
  clear hw_ w
  refine wpL_seq ?_
  refine wpL_region ?_
  refine sBox hf hs rfl rfl rfl rfl rfl (cs := [.int .i64 p0_a.Events, .slice A_p0_a_1 p0_a.Places.length c_p0_a_1]) rfl ?_; clear hf hs; intro a w b1 hs hf
  have hs : St (muA A_p0_a_1) W w [.row A_p0_a_1 p0_a.Places.length c_p0_a_1 96 4 ((recs GPlace.cells) p0_a.Places), .blk b1 39 [.int .i64 p0_a.Events, .slice A_p0_a_1 p0_a.Places.length c_p0_a_1]] := hs
  refine sY hf hs rfl rfl rfl (Y_assign rfl rfl) ?_; clear hf; intro a hf
  refine wpO_nil ?_
  refine wpL_seq ?_
  refine wpL_region ?_
  refine sY hf hs rfl rfl rfl (Y_fieldAddr rfl rfl fo39_1) ?_; clear hf; intro a hf
  refine sY hf hs rfl rfl rfl (Y_load_blk rfl rfl (i := 1) rfl rfl ag37) ?_; clear hf; intro a hf
  refine sY hf hs rfl rfl rfl (Y_move rfl rfl) ?_; clear hf; intro a hf
  obtain ⟨r2, hc3, hm⟩ := bind_some hm
  refine sCall hf rfl rfl rfl rfl (cap := []) rfl rfl en85 (laws_markPlaceS_ok F p0_a.Places A_p0_a_1 p0_a.Places.length c_p0_a_1 rfl p1_k _ _ hc3 (hs.res _ _ (show _[0]? = some _ from rfl))) ?_; clear hf
  rintro _ w ⟨rfl, hn4, hs1⟩ a hf
  have hs : St (muA A_p0_a_1) W w [.row A_p0_a_1 p0_a.Places.length c_p0_a_1 96 4 ((recs GPlace.cells) r2.2), .blk b1 39 [.int .i64 p0_a.Events, .slice A_p0_a_1 p0_a.Places.length c_p0_a_1]] := hs.mut (i := 0) rfl (fun b hb => muA_mem hb) hs1
  clear hs1
  refine sY hf hs rfl rfl rfl (Y_assign rfl rfl) ?_; clear hf; intro a hf
  refine wpO_nil ?_
  refine wpL_seq ?_
  refine wpL_region ?_
  refine sY hf hs rfl rfl rfl (Y_move rfl rfl) ?_; clear hf; intro a hf
  refine sY hf hs rfl rfl rfl (Y_assign rfl rfl) ?_; clear hf; intro a hf
  refine wpO_nil ?_
  obtain rfl := Option.some.inj hm
  refine wpL_ret (ret_tmp rfl hf rfl ?_)
  exact ⟨_, rfl, rfl, hn4, hs.sel [0] (by decide)⟩

set_option maxRecDepth 100000 in
theorem laws_markInt64S_ok (F : Nat) (p0_a : List Int) (A_p0_a_1 : Option Addr) (n_p0_a_1 c_p0_a_1 : Nat) (hn_p0_a_1 : n_p0_a_1 = p0_a.length) (p1_k : Int) (r : (Int) × List Int) (W : World) (hm : laws_markInt64S F p0_a p1_k = some r) (h_p0_a_1 : (Res.row A_p0_a_1 n_p0_a_1 c_p0_a_1 2 1 (ints p0_a) : Res).holds 0 W) :
    Calls Try.prog 22 [.slice A_p0_a_1 n_p0_a_1 c_p0_a_1, .int .i64 p1_k].toArray W fun e w' => ∃ v, e = .returned v ∧ v = .int .i64 r.1 ∧ n_p0_a_1 = r.2.length ∧ St (muA A_p0_a_1) W w' [.row A_p0_a_1 n_p0_a_1 c_p0_a_1 2 1 (ints r.2)] := by
  subst hn_p0_a_1
  unfold laws_markInt64S at hm
  refine Calls.enter (N := 19) Try.func22 rfl rfl rfl (fun a hf => ?_)
  have hs : St (muA A_p0_a_1) W W [.row A_p0_a_1 p0_a.length c_p0_a_1 2 1 (ints p0_a)] := St.startMut h_p0_a_1 (fun b hb => mem_muA hb)
  obtain ⟨w, hw_⟩ : ∃ w, w = W := ⟨W, rfl⟩
  clear hw_ w
  refine wpL_seq ?_
  refine wpL_region ?_
  refine sY hf hs rfl rfl rfl (Y_assign rfl rfl) ?_; clear hf; intro a hf
  refine wpO_nil ?_
  refine wpL_seq ?_
  refine wpL_seq ?_
  refine wpL_region ?_
  refine sY hf hs rfl rfl rfl (Y_assign rfl rfl) ?_; clear hf; intro a hf
  refine wpO_nil ?_
  obtain ⟨r27, hl28, hm⟩ := bind_some hm
  refine wpL_block (fun a w => ∃ xs24 : List Int, ∃ x26 : Int, (xs24, x26) = r27 ∧ p0_a.length = xs24.length ∧ Fr a 19 [(1, .int .i64 x26)] ∧ St (muA A_p0_a_1) W w [.row A_p0_a_1 p0_a.length c_p0_a_1 2 1 (ints xs24)]) ?_ ?_
  · refine wpL_loop (fun n a w => ∃ xs15 : List Int, ∃ x17 : Int, ∃ x18 : Int, laws_markInt64S_L1 F n xs15 x17 x18 = some r27 ∧ p0_a.length = xs15.length ∧ Fr a 19 [(0, .slice A_p0_a_1 p0_a.length c_p0_a_1), (1, .int .i64 x17), (5, .int .i64 x18)] ∧ St (muA A_p0_a_1) W w [.row A_p0_a_1 p0_a.length c_p0_a_1 2 1 (ints xs15)]) F ?_ ?_ ?_
    · exact ⟨p0_a, p1_k, 0, hl28, rfl, (FrD.pick (FrD.pick (FrD.pick hf.none hf rfl) hf rfl) hf rfl), hs⟩
    · rintro a w ⟨xs15, x17, x18, h0_, -, -, -⟩; simp [laws_markInt64S_L1] at h0_
    · rintro n30 a w ⟨xs15, x17, x18, hm29, hn16, hf, hs⟩
      rw [laws_markInt64S_L1] at hm29
      refine wpL_seq ?_
      refine wpL_seq ?_
      refine wpL_region ?_
      refine sY hf hs rfl rfl rfl (Y_move rfl rfl) ?_; clear hf; intro a hf
      refine sY hf hs rfl rfl rfl (Y_move rfl rfl) ?_; clear hf; intro a hf
      refine sY hf hs rfl rfl rfl (Y_lenH rfl rfl el23 hn16) ?_; clear hf; intro a hf
      refine sY hf hs rfl rfl rfl (Y_lss rfl rfl rfl) ?_; clear hf; intro a hf
      refine wpO_nil ?_
      refine wpL_cond hf rfl (fun hb31 => ?_) (fun hb31 => ?_)
      · have hm29 := bif_t hm29 hb31
        refine wpL_skip ?_
        refine wpL_seq ?_
        refine wpL_block0 ?_
        refine wpL_seq ?_
        refine wpL_region ?_
        refine sY hf hs rfl rfl rfl (Y_move rfl rfl) ?_; clear hf; intro a hf
        refine sY hf hs rfl rfl rfl (Y_move rfl rfl) ?_; clear hf; intro a hf
        refine sY hf hs rfl rfl rfl (Y_move rfl rfl) ?_; clear hf; intro a hf
        obtain ⟨q32, hi33, hm29⟩ := bind_some hm29
        obtain ⟨hi33a, hi33b, hi33q⟩ := idx_some hi33
        refine sY hf hs rfl rfl rfl (Y_index rfl rfl rfl el23 ti2 (Rd.isAt (hs.rd (i := 0) rfl) (at1 (ints_at hi33q))) hi33a (ltn hn16 hi33b)) ?_; clear hf; intro a hf
        obtain ⟨xs34, hu35, hm29⟩ := bind_some hm29
        refine sStoreL (i := 0) (us := [.int .i64 x17]) (enc := ints) hf hs rfl rfl rfl rfl rfl rfl hn16 hu35 ti2 rfl rfl rfl rfl rfl ints_len1 (ints_set x17) ?_; clear hs; intro w hs
        have hs : St (muA A_p0_a_1) W w [.row A_p0_a_1 p0_a.length c_p0_a_1 2 1 (ints xs34)] := hs
        refine wpO_nil ?_
        refine wpL_region ?_
        refine sY hf hs rfl rfl rfl (Y_move rfl rfl) ?_; clear hf; intro a hf
        refine sY hf hs rfl rfl rfl (Y_add rfl rfl rfl) ?_; clear hf; intro a hf
        refine sY hf hs rfl rfl rfl (Y_assign rfl rfl) ?_; clear hf; intro a hf
        refine wpO_nil ?_
        refine wpL_nil (Qb_normal ?_)
        refine wpL_region ?_
        refine sY hf hs rfl rfl rfl (Y_move rfl rfl) ?_; clear hf; intro a hf
        refine sY hf hs rfl rfl rfl (Y_add rfl rfl rfl) ?_; clear hf; intro a hf
        refine sY hf hs rfl rfl rfl (Y_assign rfl rfl) ?_; clear hf; intro a hf
        refine wpO_nil ?_
        refine wpL_nil (Ql_normal ?_)
        exact ⟨xs34, (IntKind.i64.wrap (x17 + 1)), (IntKind.i64.wrap (x18 + 1)), hm29, ((hn16).trans (upd_len hu35).symm), (FrD.pick (FrD.pick (FrD.pick hf.none hf rfl) hf rfl) hf rfl), hs⟩
      · have hm29 := bif_f hm29 hb31
        refine wpL_exit (Ql_exit (Qb_exit ?_))
        exact ⟨xs15, x17, Option.some.inj hm29, hn16, (FrD.pick hf.none hf rfl), hs⟩
  · rintro a w ⟨xs24, x26, hr_, hn25, hf, hs⟩
    subst hr_
    try dsimp only at hm
    refine wpL_seq ?_
    refine wpL_region ?_
    refine sY hf hs rfl rfl rfl (Y_move rfl rfl) ?_; clear hf; intro a hf
    refine sY hf hs rfl rfl rfl (Y_assign rfl rfl) ?_; clear hf; intro a hf
    refine wpO_nil ?_
    obtain rfl := Option.some.inj hm
    refine wpL_ret (ret_tmp rfl hf rfl ?_)
    exact ⟨_, rfl, rfl, hn25, hs⟩

end Go.Proofs.Ytpmebacdmilecaa
