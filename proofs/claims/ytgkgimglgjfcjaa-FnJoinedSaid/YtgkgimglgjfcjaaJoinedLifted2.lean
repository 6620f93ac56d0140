/- The functions do what their models say. -/
import Derived.Test.YtgkgimglgjfcjaaJoinedLifted1
import Derived.Test.YtgkgimglgjfcjaaRows
namespace Go.Proofs.Ytgkgimglgjfcjaa
open Go.RowKit

set_option maxRecDepth 100000 in
theorem impl_JoinGraphs_ok (F : Nat) (p0_g : GEventGraph) (A_p0_g_1 : Option Addr) (n_p0_g_1 c_p0_g_1 : Nat) (hn_p0_g_1 : n_p0_g_1 = p0_g.Places.length) (p1_h : GEventGraph) (A_p1_h_1 : Option Addr) (n_p1_h_1 c_p1_h_1 : Nat) (hn_p1_h_1 : n_p1_h_1 = p1_h.Places.length) (r : GEventGraph × Int) (W : World) (hm : impl_JoinGraphs F p0_g p1_h = some r) (h_p0_g_1 : Rd W A_p0_g_1 ((recs GPlace.cells) p0_g.Places)) (h_p1_h_1 : Rd W A_p1_h_1 ((recs GPlace.cells) p1_h.Places)) :
    Calls Try.prog 42 [.agg #[.int .i64 p0_g.Events, .slice A_p0_g_1 n_p0_g_1 c_p0_g_1], .agg #[.int .i64 p1_h.Events, .slice A_p1_h_1 n_p1_h_1 c_p1_h_1]].toArray W fun e w' => ∃ v, e = .returned v ∧ ∃ A94, ∃ n95, ∃ c96, v = .tuple #[.agg #[.int .i64 r.1.Events, .slice A94 n95 c96], .int .i64 r.2] ∧ n95 = r.1.Places.length ∧ St [] W w' [.row A94 n95 c96 127 4 ((recs GPlace.cells) r.1.Places)] := by
  subst hn_p0_g_1
  subst hn_p1_h_1
  unfold impl_JoinGraphs at hm
  refine Calls.enter (N := 58) Try.func42 rfl rfl rfl (fun a hf => ?_)
  have hs := St.start W
  obtain ⟨w, hw_⟩ : ∃ w, w = W := ⟨W, rfl⟩
  clear hw_ w
  refine wpL_seq ?_
  refine wpL_region ?_
  refine sBox hf hs rfl rfl rfl rfl rfl (cs := [.int .i64 p0_g.Events, .slice A_p0_g_1 p0_g.Places.length c_p0_g_1]) rfl ?_; clear hf hs; intro a w b1 hs hf
  have hs : St [] W w [.blk b1 59 [.int .i64 p0_g.Events, .slice A_p0_g_1 p0_g.Places.length c_p0_g_1]] := hs
  refine sBox hf hs rfl rfl rfl rfl rfl (cs := [.int .i64 p1_h.Events, .slice A_p1_h_1 p1_h.Places.length c_p1_h_1]) rfl ?_; clear hf hs; intro a w b2 hs hf
  have hs : St [] W w [.blk b1 59 [.int .i64 p0_g.Events, .slice A_p0_g_1 p0_g.Places.length c_p0_g_1], .blk b2 59 [.int .i64 p1_h.Events, .slice A_p1_h_1 p1_h.Places.length c_p1_h_1]] := hs
  refine sAlloc hf hs rfl rfl rfl rfl ti59 ?_; clear hf hs; intro a w b3 hs hf
  have hs : St [] W w [.blk b1 59 [.int .i64 p0_g.Events, .slice A_p0_g_1 p0_g.Places.length c_p0_g_1], .blk b2 59 [.int .i64 p1_h.Events, .slice A_p1_h_1 p1_h.Places.length c_p1_h_1], .blk b3 59 [.int .i64 0, .slice none 0 0]] := hs
  refine sY hf hs rfl rfl rfl (Y_assign rfl rfl) ?_; clear hf; intro a hf
  refine wpO_nil ?_
  refine wpL_seq ?_
  refine wpL_seq ?_
  obtain ⟨r10, hj11, hm⟩ := bind_some hm
  refine wpL_cut (fun a w => ∃ b9 : Bool, b9 = r10 ∧ Fr a 58 [(2, .pointer (some ⟨b1, 0, none⟩)), (3, .pointer (some ⟨b2, 0, none⟩)), (4, .pointer (some ⟨b3, 0, none⟩)), (16, .bool b9)] ∧ St [] W w [.blk b1 59 [.int .i64 p0_g.Events, .slice A_p0_g_1 p0_g.Places.length c_p0_g_1], .blk b2 59 [.int .i64 p1_h.Events, .slice A_p1_h_1 p1_h.Places.length c_p1_h_1], .blk b3 59 [.int .i64 0, .slice none 0 0]]) ?_ ?_
  · refine wpL_region ?_
    refine sY hf hs rfl rfl rfl (Y_load_blkS rfl rfl (i := 0) rfl ag59 ti59 rfl) ?_; clear hf; intro a hf
    obtain ⟨r12, hc13, hj11⟩ := bind_some hj11
    refine sCall hf rfl rfl rfl rfl (cap := []) rfl rfl en51 (impl_IsEventGraph_ok F p0_g A_p0_g_1 p0_g.Places.length c_p0_g_1 rfl _ _ hc13 (h_p0_g_1.at hs)) ?_; clear hf
    rintro _ w ⟨rfl, hs1⟩ a hf
    have hs : St [] W w [.blk b1 59 [.int .i64 p0_g.Events, .slice A_p0_g_1 p0_g.Places.length c_p0_g_1], .blk b2 59 [.int .i64 p1_h.Events, .slice A_p1_h_1 p1_h.Places.length c_p1_h_1], .blk b3 59 [.int .i64 0, .slice none 0 0]] := hs.ext hs1.below
    clear hs1
    refine sY hf hs rfl rfl rfl (Y_not rfl rfl) ?_; clear hf; intro a hf
    refine sY hf hs rfl rfl rfl (Y_move rfl rfl) ?_; clear hf; intro a hf
    refine bsplit (!r12) (fun hb14 => ?_) (fun hb14 => ?_)
    · have hj11 := bif_t hj11 hb14
      refine sNo hf rfl rfl rfl (congrArg (fun b => some (Value.bool b)) hb14) rfl rfl rfl ?_; clear hf; intro a hf
      refine sNo hf rfl rfl rfl (congrArg (fun b => some (Value.bool b)) hb14) rfl rfl rfl ?_; clear hf; intro a hf
      refine sNo hf rfl rfl rfl (congrArg (fun b => some (Value.bool b)) hb14) rfl rfl rfl ?_; clear hf; intro a hf
      refine sY hf hs rfl rfl rfl (Y_pickT rfl (congrArg (fun b => some (Value.bool b)) hb14) rfl) ?_; clear hf; intro a hf
      refine wpO_nil ?_
      refine wpL_nil (then_normal ?_)
      exact ⟨true, Option.some.inj hj11, (FrD.pick (FrD.pick (FrD.pick (FrD.pick hf.none hf rfl) hf rfl) hf rfl) hf rfl), hs⟩
    · have hj11 := bif_f hj11 hb14
      refine sYg hf hs rfl rfl rfl (congrArg (fun b => some (Value.bool b)) hb14) rfl rfl rfl (Y_load_blkS rfl rfl (i := 1) rfl ag59 ti59 rfl) ?_; clear hf; intro a hf
      obtain ⟨r15, hc16, hj11⟩ := bind_some hj11
      refine sCallg hf rfl rfl rfl (congrArg (fun b => some (Value.bool b)) hb14) rfl rfl rfl rfl (cap := []) rfl rfl en51 (impl_IsEventGraph_ok F p1_h A_p1_h_1 p1_h.Places.length c_p1_h_1 rfl _ _ hc16 (h_p1_h_1.at hs)) ?_; clear hf
      rintro _ w ⟨rfl, hs1⟩ a hf
      have hs : St [] W w [.blk b1 59 [.int .i64 p0_g.Events, .slice A_p0_g_1 p0_g.Places.length c_p0_g_1], .blk b2 59 [.int .i64 p1_h.Events, .slice A_p1_h_1 p1_h.Places.length c_p1_h_1], .blk b3 59 [.int .i64 0, .slice none 0 0]] := hs.ext hs1.below
      clear hs1
      refine sYg hf hs rfl rfl rfl (congrArg (fun b => some (Value.bool b)) hb14) rfl rfl rfl (Y_not rfl rfl) ?_; clear hf; intro a hf
      refine sY hf hs rfl rfl rfl (Y_pickF rfl (congrArg (fun b => some (Value.bool b)) hb14) rfl) ?_; clear hf; intro a hf
      refine wpO_nil ?_
      refine wpL_nil (then_normal ?_)
      exact ⟨(!r15), Option.some.inj hj11, (FrD.pick (FrD.pick (FrD.pick (FrD.pick hf.none hf rfl) hf rfl) hf rfl) hf rfl), hs⟩
  · rintro a w ⟨b9, hr_, hf, hs⟩
    subst hr_
    try dsimp only at hm
    refine wpL_cond hf rfl (fun hb17 => ?_) (fun hb17 => ?_)
    · have hm := bif_t hm hb17
      refine wpL_seq ?_
      refine wpL_region ?_
      refine sY hf hs rfl rfl rfl (Y_build (parts := []) (vs := []) rfl rfl (run_build (parts := []) (cells := [.int .i64 0, .slice none 0 0]) (places := #[(0, 1), (1, 1)]) ti59 Try.underlying59 (fun w => by simp [go_sem]) rfl)) ?_; clear hf; intro a hf
      refine sStore (i := 2) (us := [.int .i64 0, .slice none 0 0]) hf hs rfl rfl rfl rfl rfl rfl ti59 rfl rfl rfl (Nat.le_of_ble_eq_true rfl) rfl ?_; clear hs; intro w hs
      have hs : St [] W w [.blk b1 59 [.int .i64 p0_g.Events, .slice A_p0_g_1 p0_g.Places.length c_p0_g_1], .blk b2 59 [.int .i64 p1_h.Events, .slice A_p1_h_1 p1_h.Places.length c_p1_h_1], .blk b3 59 [.int .i64 0, .slice none 0 0]] := hs
      refine sY hf hs rfl rfl rfl (Y_assign rfl rfl) ?_; clear hf; intro a hf
      refine wpO_nil ?_
      have hs : St [] W _ [.blk b1 59 [.int .i64 p0_g.Events, .slice A_p0_g_1 p0_g.Places.length c_p0_g_1], .blk b2 59 [.int .i64 p1_h.Events, .slice A_p1_h_1 p1_h.Places.length c_p1_h_1], .blk b3 59 [.int .i64 0, .slice none 0 0], .row none 0 0 127 4 ((recs GPlace.cells) ([] : List GPlace))] := hs.addNil 127 4
      obtain rfl := Option.some.inj hm
      refine wpL_ret (ret_cell_tmp rfl hf rfl rfl hs (i := 2) rfl ag59 ti59 rfl ?_)
      exact ⟨_, rfl, none, 0, 0, rfl, rfl, hs.sel [3] (by decide)⟩
    · have hm := bif_f hm hb17
      refine wpL_skip ?_
      refine wpL_seq ?_
      refine wpL_region ?_
      refine sY hf hs rfl rfl rfl (Y_load_blkS rfl rfl (i := 0) rfl ag59 ti59 rfl) ?_; clear hf; intro a hf
      obtain ⟨r19, hc20, hm⟩ := bind_some hm
      refine sCall hf rfl rfl rfl rfl (cap := []) rfl rfl en126 (impl_cloneGraph_ok F p0_g A_p0_g_1 p0_g.Places.length c_p0_g_1 rfl _ _ hc20 (h_p0_g_1.at hs)) ?_; clear hf
      rintro _ w ⟨A21, n22, c23, rfl, hn24, hs1⟩ a hf
      have hs : St [] W w [.blk b1 59 [.int .i64 p0_g.Events, .slice A_p0_g_1 p0_g.Places.length c_p0_g_1], .blk b2 59 [.int .i64 p1_h.Events, .slice A_p1_h_1 p1_h.Places.length c_p1_h_1], .blk b3 59 [.int .i64 0, .slice none 0 0], .row A21 n22 c23 127 4 ((recs GPlace.cells) r19.Places)] := hs.join hs1
      clear hs1
      refine sAlloc hf hs rfl rfl rfl rfl ti59 ?_; clear hf hs; intro a w b25 hs hf
      have hs : St [] W w [.blk b1 59 [.int .i64 p0_g.Events, .slice A_p0_g_1 p0_g.Places.length c_p0_g_1], .blk b2 59 [.int .i64 p1_h.Events, .slice A_p1_h_1 p1_h.Places.length c_p1_h_1], .blk b3 59 [.int .i64 0, .slice none 0 0], .row A21 n22 c23 127 4 ((recs GPlace.cells) r19.Places), .blk b25 59 [.int .i64 0, .slice none 0 0]] := hs
      refine sStore (i := 4) (us := [.int .i64 r19.Events, .slice A21 n22 c23]) hf hs rfl rfl rfl rfl rfl rfl ti59 rfl rfl rfl (Nat.le_of_ble_eq_true rfl) rfl ?_; clear hs; intro w hs
      have hs : St [] W w [.blk b1 59 [.int .i64 p0_g.Events, .slice A_p0_g_1 p0_g.Places.length c_p0_g_1], .blk b2 59 [.int .i64 p1_h.Events, .slice A_p1_h_1 p1_h.Places.length c_p1_h_1], .blk b3 59 [.int .i64 0, .slice none 0 0], .row A21 n22 c23 127 4 ((recs GPlace.cells) r19.Places), .blk b25 59 [.int .i64 r19.Events, .slice A21 n22 c23]] := hs
      refine wpO_nil ?_
      refine wpL_seq ?_
      refine wpL_region ?_
      refine sY hf hs rfl rfl rfl (Y_fieldAddr rfl rfl fo59_0) ?_; clear hf; intro a hf
      refine sY hf hs rfl rfl rfl (Y_load_blk rfl rfl (i := 4) rfl rfl ag2) ?_; clear hf; intro a hf
      refine sY hf hs rfl rfl rfl (Y_fieldAddr rfl rfl fo59_0) ?_; clear hf; intro a hf
      refine sY hf hs rfl rfl rfl (Y_load_blk rfl rfl (i := 1) rfl rfl ag2) ?_; clear hf; intro a hf
      refine sY hf hs rfl rfl rfl (Y_add rfl rfl rfl) ?_; clear hf; intro a hf
      refine sY hf hs rfl rfl rfl (Y_fieldAddr rfl rfl fo59_0) ?_; clear hf; intro a hf
      refine sStore (i := 4) (us := [.int .i64 (IntKind.i64.wrap (r19.Events + p1_h.Events))]) hf hs rfl rfl rfl rfl rfl rfl ti2 rfl rfl rfl (Nat.le_of_ble_eq_true rfl) rfl ?_; clear hs; intro w hs
      have hs : St [] W w [.blk b1 59 [.int .i64 p0_g.Events, .slice A_p0_g_1 p0_g.Places.length c_p0_g_1], .blk b2 59 [.int .i64 p1_h.Events, .slice A_p1_h_1 p1_h.Places.length c_p1_h_1], .blk b3 59 [.int .i64 0, .slice none 0 0], .row A21 n22 c23 127 4 ((recs GPlace.cells) r19.Places), .blk b25 59 [.int .i64 (IntKind.i64.wrap (r19.Events + p1_h.Events)), .slice A21 n22 c23]] := hs
      refine wpO_nil ?_
      refine wpL_seq ?_
      refine wpL_seq ?_
      refine wpL_region ?_
      refine sY hf hs rfl rfl rfl (Y_fieldAddr rfl rfl fo59_1) ?_; clear hf; intro a hf
      refine sY hf hs rfl rfl rfl (Y_load_blk rfl rfl (i := 1) rfl rfl ag57) ?_; clear hf; intro a hf
      refine sY hf hs rfl rfl rfl (Y_lenH rfl rfl el57 rfl) ?_; clear hf; intro a hf
      refine sY hf hs rfl rfl rfl (Y_move rfl rfl) ?_; clear hf; intro a hf
      refine wpO_nil ?_
      obtain ⟨r73, hl74, hm⟩ := bind_some hm
      refine wpL_block (fun a w => ∃ xs68 : List GPlace, ∃ A69, ∃ n70, ∃ c71, xs68 = r73 ∧ n70 = xs68.length ∧ Fr a 58 [(4, .pointer (some ⟨b3, 0, none⟩)), (6, .pointer (some ⟨b25, 0, none⟩))] ∧ St [] W w [.blk b3 59 [.int .i64 0, .slice none 0 0], .blk b25 59 [.int .i64 (IntKind.i64.wrap (r19.Events + p1_h.Events)), .slice A69 n70 c71], .row A69 n70 c71 127 4 ((recs GPlace.cells) xs68)]) ?_ ?_
      · refine wpL_loop (fun n a w => ∃ xs52 : List GPlace, ∃ x57 : Int, ∃ A53, ∃ n54, ∃ c55, impl_JoinGraphs_L1 F p0_g p1_h n xs52 x57 = some r73 ∧ n54 = xs52.length ∧ Fr a 58 [(2, .pointer (some ⟨b1, 0, none⟩)), (4, .pointer (some ⟨b3, 0, none⟩)), (6, .pointer (some ⟨b25, 0, none⟩)), (27, .slice A_p1_h_1 p1_h.Places.length c_p1_h_1), (28, .int .i64 (p1_h.Places.length : Int)), (29, .int .i64 x57)] ∧ St [] W w [.blk b1 59 [.int .i64 p0_g.Events, .slice A_p0_g_1 p0_g.Places.length c_p0_g_1], .blk b3 59 [.int .i64 0, .slice none 0 0], .blk b25 59 [.int .i64 (IntKind.i64.wrap (r19.Events + p1_h.Events)), .slice A53 n54 c55], .row A53 n54 c55 127 4 ((recs GPlace.cells) xs52)]) F ?_ ?_ ?_
        · exact ⟨r19.Places, 0, A21, n22, c23, hl74, hn24, (FrD.pick (FrD.pick (FrD.pick (FrD.pick (FrD.pick (FrD.pick hf.none hf rfl) hf rfl) hf rfl) hf rfl) hf rfl) hf rfl), hs.sel [0, 2, 4, 3] (by decide)⟩
        · rintro a w ⟨xs52, x57, A53, n54, c55, h0_, -, -, -⟩; simp [impl_JoinGraphs_L1] at h0_
        · rintro n76 a w ⟨xs52, x57, A53, n54, c55, hm75, hn56, hf, hs⟩
          rw [impl_JoinGraphs_L1] at hm75
          refine wpL_seq ?_
          refine wpL_region ?_
          refine sY hf hs rfl rfl rfl (Y_lss rfl rfl rfl) ?_; clear hf; intro a hf
          refine wpO_nil ?_
          refine wpL_seq ?_
          refine wpL_cond hf rfl (fun hb77 => ?_) (fun hb77 => ?_)
          · have hm75 := bif_t hm75 hb77
            refine wpL_skip ?_
            refine wpL_seq ?_
            refine wpL_block0 ?_
            refine wpL_seq ?_
            refine wpL_region ?_
            obtain ⟨q78, hi79, hm75⟩ := bind_some hm75
            obtain ⟨hi79a, hi79b, hi79q⟩ := idx_some hi79
            refine sY hf hs rfl rfl rfl (Y_index rfl rfl rfl el57 ti127 (Rd.isAt (h_p1_h_1.at hs) (recs_at (s := 4) GPlace.len hi79q (j := 0) rfl)) hi79a hi79b) ?_; clear hf; intro a hf
            refine sY hf hs rfl rfl rfl (Y_load_rdS rfl rfl (us := [.int .i64 q78.From, .int .i64 q78.To, .int .i64 q78.Delay, .int .i64 q78.Tokens]) (fun w hs => h_p1_h_1.at hs) (fun j u hj => recs_at (s := 4) GPlace.len hi79q hj) (Nat.succ_pos _) ag127 ti127 rfl) ?_; clear hf; intro a hf
            refine sAlloc hf hs rfl rfl rfl rfl ti127 ?_; clear hf hs; intro a w b80 hs hf
            have hs : St [] W w [.blk b1 59 [.int .i64 p0_g.Events, .slice A_p0_g_1 p0_g.Places.length c_p0_g_1], .blk b3 59 [.int .i64 0, .slice none 0 0], .blk b25 59 [.int .i64 (IntKind.i64.wrap (r19.Events + p1_h.Events)), .slice A53 n54 c55], .row A53 n54 c55 127 4 ((recs GPlace.cells) xs52), .blk b80 127 [.int .i64 0, .int .i64 0, .int .i64 0, .int .i64 0]] := hs
            refine sStore (i := 4) (us := [.int .i64 q78.From, .int .i64 q78.To, .int .i64 q78.Delay, .int .i64 q78.Tokens]) hf hs rfl rfl rfl rfl rfl rfl ti127 rfl rfl rfl (Nat.le_of_ble_eq_true rfl) rfl ?_; clear hs; intro w hs
            have hs : St [] W w [.blk b1 59 [.int .i64 p0_g.Events, .slice A_p0_g_1 p0_g.Places.length c_p0_g_1], .blk b3 59 [.int .i64 0, .slice none 0 0], .blk b25 59 [.int .i64 (IntKind.i64.wrap (r19.Events + p1_h.Events)), .slice A53 n54 c55], .row A53 n54 c55 127 4 ((recs GPlace.cells) xs52), .blk b80 127 [.int .i64 q78.From, .int .i64 q78.To, .int .i64 q78.Delay, .int .i64 q78.Tokens]] := hs
            refine wpO_nil ?_
            refine wpL_region ?_
            refine sY hf hs rfl rfl rfl (Y_fieldAddr rfl rfl fo59_1) ?_; clear hf; intro a hf
            refine sY hf hs rfl rfl rfl (Y_load_blk rfl rfl (i := 2) rfl rfl ag57) ?_; clear hf; intro a hf
            refine sY hf hs rfl rfl rfl (Y_fieldAddr rfl rfl fo127_0) ?_; clear hf; intro a hf
            refine sY hf hs rfl rfl rfl (Y_load_blk rfl rfl (i := 4) rfl rfl ag2) ?_; clear hf; intro a hf
            refine sY hf hs rfl rfl rfl (Y_fieldAddr rfl rfl fo59_0) ?_; clear hf; intro a hf
            refine sY hf hs rfl rfl rfl (Y_load_blk rfl rfl (i := 0) rfl rfl ag2) ?_; clear hf; intro a hf
            refine sY hf hs rfl rfl rfl (Y_add rfl rfl rfl) ?_; clear hf; intro a hf
            refine sY hf hs rfl rfl rfl (Y_fieldAddr rfl rfl fo127_1) ?_; clear hf; intro a hf
            refine sY hf hs rfl rfl rfl (Y_load_blk rfl rfl (i := 4) rfl rfl ag2) ?_; clear hf; intro a hf
            refine sY hf hs rfl rfl rfl (Y_fieldAddr rfl rfl fo59_0) ?_; clear hf; intro a hf
            refine sY hf hs rfl rfl rfl (Y_load_blk rfl rfl (i := 0) rfl rfl ag2) ?_; clear hf; intro a hf
            refine sY hf hs rfl rfl rfl (Y_add rfl rfl rfl) ?_; clear hf; intro a hf
            refine sY hf hs rfl rfl rfl (Y_fieldAddr rfl rfl fo127_2) ?_; clear hf; intro a hf
            refine sY hf hs rfl rfl rfl (Y_load_blk rfl rfl (i := 4) rfl rfl ag2) ?_; clear hf; intro a hf
            refine sY hf hs rfl rfl rfl (Y_fieldAddr rfl rfl fo127_3) ?_; clear hf; intro a hf
            refine sY hf hs rfl rfl rfl (Y_load_blk rfl rfl (i := 4) rfl rfl ag2) ?_; clear hf; intro a hf
            refine sY hf hs rfl rfl rfl (Y_build (parts := [(0, .tmp 39), (1, .tmp 44), (2, .tmp 46), (3, .tmp 48)]) (vs := [.int .i64 (IntKind.i64.wrap (q78.From + p0_g.Events)), .int .i64 (IntKind.i64.wrap (q78.To + p0_g.Events)), .int .i64 q78.Delay, .int .i64 q78.Tokens]) rfl rfl (run_build (parts := [(0, .int .i64 (IntKind.i64.wrap (q78.From + p0_g.Events))), (1, .int .i64 (IntKind.i64.wrap (q78.To + p0_g.Events))), (2, .int .i64 q78.Delay), (3, .int .i64 q78.Tokens)]) (cells := [.int .i64 (IntKind.i64.wrap (q78.From + p0_g.Events)), .int .i64 (IntKind.i64.wrap (q78.To + p0_g.Events)), .int .i64 q78.Delay, .int .i64 q78.Tokens]) (places := #[(0, 1), (1, 1), (2, 1), (3, 1)]) ti127 Try.underlying127 (fun w => by simp [go_sem]) rfl)) ?_; clear hf; intro a hf
            refine sBuildSlice (parts := [(0, .tmp 49)]) (vs := [.agg #[.int .i64 (IntKind.i64.wrap (q78.From + p0_g.Events)), .int .i64 (IntKind.i64.wrap (q78.To + p0_g.Events)), .int .i64 q78.Delay, .int .i64 q78.Tokens]]) (cells := [.int .i64 (IntKind.i64.wrap (q78.From + p0_g.Events)), .int .i64 (IntKind.i64.wrap (q78.To + p0_g.Events)), .int .i64 q78.Delay, .int .i64 q78.Tokens]) hf hs rfl rfl rfl rfl rfl el57 ti127 rfl rfl rfl rfl ?_; clear hf hs; intro a w A81 hs hA82 hf
            have hs : St [] W w [.blk b1 59 [.int .i64 p0_g.Events, .slice A_p0_g_1 p0_g.Places.length c_p0_g_1], .blk b3 59 [.int .i64 0, .slice none 0 0], .blk b25 59 [.int .i64 (IntKind.i64.wrap (r19.Events + p1_h.Events)), .slice A53 n54 c55], .row A53 n54 c55 127 4 ((recs GPlace.cells) xs52), .blk b80 127 [.int .i64 q78.From, .int .i64 q78.To, .int .i64 q78.Delay, .int .i64 q78.Tokens], .row A81 1 1 127 4 ((recs GPlace.cells) ([(GPlace.mk (IntKind.i64.wrap (q78.From + p0_g.Events)) (IntKind.i64.wrap (q78.To + p0_g.Events)) q78.Delay q78.Tokens)]))] := hs
            obtain ⟨xs85, ha86, hm75⟩ := bind_some hm75
            refine sAppendL (i := 3) (xs := xs52) (ys := [(GPlace.mk (IntKind.i64.wrap (q78.From + p0_g.Events)) (IntKind.i64.wrap (q78.To + p0_g.Events)) q78.Delay q78.Tokens)]) (enc := (recs GPlace.cells)) hf hs rfl rfl rfl rfl rfl rfl hn56 rfl rfl ha86 el57 ti127 rfl rfl rfl (hs.rd (i := 5) rfl) (Nat.succ_pos _) (recs_length GPlace.len) (recs_append GPlace.cells) (recs_one GPlace.one) ?_; clear hf hs; intro a w A83 c84 hs hf
            have hs : St [] W w [.blk b1 59 [.int .i64 p0_g.Events, .slice A_p0_g_1 p0_g.Places.length c_p0_g_1], .blk b3 59 [.int .i64 0, .slice none 0 0], .blk b25 59 [.int .i64 (IntKind.i64.wrap (r19.Events + p1_h.Events)), .slice A53 n54 c55], .row A83 xs85.length c84 127 4 ((recs GPlace.cells) xs85), .blk b80 127 [.int .i64 q78.From, .int .i64 q78.To, .int .i64 q78.Delay, .int .i64 q78.Tokens], .row A81 1 1 127 4 ((recs GPlace.cells) ([(GPlace.mk (IntKind.i64.wrap (q78.From + p0_g.Events)) (IntKind.i64.wrap (q78.To + p0_g.Events)) q78.Delay q78.Tokens)]))] := hs
            refine sY hf hs rfl rfl rfl (Y_fieldAddr rfl rfl fo59_1) ?_; clear hf; intro a hf
            refine sStore (i := 2) (us := [.slice A83 xs85.length c84]) hf hs rfl rfl rfl rfl rfl rfl ti57 rfl rfl rfl (Nat.le_of_ble_eq_true rfl) rfl ?_; clear hs; intro w hs
            have hs : St [] W w [.blk b1 59 [.int .i64 p0_g.Events, .slice A_p0_g_1 p0_g.Places.length c_p0_g_1], .blk b3 59 [.int .i64 0, .slice none 0 0], .blk b25 59 [.int .i64 (IntKind.i64.wrap (r19.Events + p1_h.Events)), .slice A83 xs85.length c84], .row A83 xs85.length c84 127 4 ((recs GPlace.cells) xs85), .blk b80 127 [.int .i64 q78.From, .int .i64 q78.To, .int .i64 q78.Delay, .int .i64 q78.Tokens], .row A81 1 1 127 4 ((recs GPlace.cells) ([(GPlace.mk (IntKind.i64.wrap (q78.From + p0_g.Events)) (IntKind.i64.wrap (q78.To + p0_g.Events)) q78.Delay q78.Tokens)]))] := hs
            refine wpO_nil ?_
            refine wpL_nil (Qb_normal ?_)
            refine wpL_region ?_
            refine sY hf hs rfl rfl rfl (Y_add rfl rfl rfl) ?_; clear hf; intro a hf
            refine sY hf hs rfl rfl rfl (Y_move rfl rfl) ?_; clear hf; intro a hf
            refine wpO_nil ?_
            refine wpL_nil (Ql_normal ?_)
            exact ⟨xs85, (IntKind.i64.wrap (x57 + 1)), A83, xs85.length, c84, hm75, rfl, (FrD.pick (FrD.pick (FrD.pick (FrD.pick (FrD.pick (FrD.pick hf.none hf rfl) hf rfl) hf rfl) hf rfl) hf rfl) hf rfl), hs.sel [0, 1, 2, 3] (by decide)⟩
          · have hm75 := bif_f hm75 hb77
            refine wpL_exit (Ql_exit (Qb_exit ?_))
            exact ⟨xs52, A53, n54, c55, Option.some.inj hm75, hn56, (FrD.pick (FrD.pick hf.none hf rfl) hf rfl), hs.sel [1, 2, 3] (by decide)⟩
      · rintro a w ⟨xs68, A69, n70, c71, hr_, hn72, hf, hs⟩
        subst hr_
        try dsimp only at hm
        refine wpL_seq ?_
        refine wpL_region ?_
        refine sY hf hs rfl rfl rfl (Y_load_blkS rfl rfl (i := 1) rfl ag59 ti59 rfl) ?_; clear hf; intro a hf
        obtain ⟨r87, hc88, hm⟩ := bind_some hm
        refine sCall hf rfl rfl rfl rfl (cap := []) rfl rfl en127 (impl_checkedGraph_ok F (GEventGraph.mk (IntKind.i64.wrap (r19.Events + p1_h.Events)) xs68) A69 n70 c71 hn72 _ _ hc88 (hs.rd (i := 2) rfl)) ?_; clear hf
        rintro _ w ⟨A89, n90, c91, rfl, hn92, hal93, hs1⟩ a hf
        have hs : St [] W w [.blk b3 59 [.int .i64 0, .slice none 0 0], .blk b25 59 [.int .i64 (IntKind.i64.wrap (r19.Events + p1_h.Events)), .slice A69 n70 c71], .row A69 n70 c71 127 4 ((recs GPlace.cells) xs68)] := hs.ext hs1.below
        clear hs1
        have hs : St [] W w [.blk b3 59 [.int .i64 0, .slice none 0 0], .blk b25 59 [.int .i64 (IntKind.i64.wrap (r19.Events + p1_h.Events)), .slice A69 n70 c71], .row A89 n90 c91 127 4 ((recs GPlace.cells) r87.1.Places)] := hs.alias (i := 2) (enc := (recs GPlace.cells)) rfl rfl hal93
        refine sY hf hs rfl rfl rfl (Y_extract rfl rfl rfl) ?_; clear hf; intro a hf
        refine sY hf hs rfl rfl rfl (Y_extract rfl rfl rfl) ?_; clear hf; intro a hf
        refine sStore (i := 0) (us := [.int .i64 r87.1.Events, .slice A89 n90 c91]) hf hs rfl rfl rfl rfl rfl rfl ti59 rfl rfl rfl (Nat.le_of_ble_eq_true rfl) rfl ?_; clear hs; intro w hs
        have hs : St [] W w [.blk b3 59 [.int .i64 r87.1.Events, .slice A89 n90 c91], .blk b25 59 [.int .i64 (IntKind.i64.wrap (r19.Events + p1_h.Events)), .slice A69 n70 c71], .row A89 n90 c91 127 4 ((recs GPlace.cells) r87.1.Places)] := hs
        refine sY hf hs rfl rfl rfl (Y_assign rfl rfl) ?_; clear hf; intro a hf
        refine wpO_nil ?_
        obtain rfl := Option.some.inj hm
        refine wpL_ret (ret_cell_tmp rfl hf rfl rfl hs (i := 0) rfl ag59 ti59 rfl ?_)
        exact ⟨_, rfl, A89, n90, c91, rfl, hn92, hs.sel [2] (by decide)⟩

set_option maxRecDepth 100000 in
theorem spec_l01In_ok (F : Nat) (p0_n : Int) (p1_low : Int) (p2_high : Int) (r : Bool) (W : World) (hm : spec_l01In F p0_n p1_low p2_high = some r) :
    Calls Try.prog 115 [.int .i64 p0_n, .int .i64 p1_low, .int .i64 p2_high].toArray W fun e w' => ∃ v, e = .returned v ∧ v = .bool r ∧ St [] W w' [] := by
  unfold spec_l01In at hm
  refine Calls.enter (N := 15) Try.func115 rfl rfl rfl (fun a hf => ?_)
  have hs := St.start W
  obtain ⟨w, hw_⟩ : ∃ w, w = W := ⟨W, rfl⟩
  clear hw_ w
  refine wpL_seq ?_
  refine wpL_region ?_
  refine sY hf hs rfl rfl rfl (Y_assign rfl rfl) ?_; clear hf; intro a hf
  refine wpO_nil ?_
  refine wpL_seq ?_
  obtain ⟨r3, hj4, hm⟩ := bind_some hm
  refine wpL_cut (fun a w => ∃ b2 : Bool, b2 = r3 ∧ Fr a 15 [(6, .bool b2)] ∧ St [] W w []) ?_ ?_
  · refine wpL_region ?_
    refine sY hf hs rfl rfl rfl (Y_move rfl rfl) ?_; clear hf; intro a hf
    refine sY hf hs rfl rfl rfl (Y_move rfl rfl) ?_; clear hf; intro a hf
    refine sY hf hs rfl rfl rfl (Y_geq rfl rfl rfl) ?_; clear hf; intro a hf
    refine sY hf hs rfl rfl rfl (Y_move rfl rfl) ?_; clear hf; intro a hf
    refine bsplit (decide (p1_low ≤ p0_n)) (fun hb5 => ?_) (fun hb5 => ?_)
    · have hj4 := bif_t hj4 hb5
      refine sYg hf hs rfl rfl rfl (congrArg (fun b => some (Value.bool b)) hb5) rfl rfl rfl (Y_move rfl rfl) ?_; clear hf; intro a hf
      refine sYg hf hs rfl rfl rfl (congrArg (fun b => some (Value.bool b)) hb5) rfl rfl rfl (Y_move rfl rfl) ?_; clear hf; intro a hf
      refine sYg hf hs rfl rfl rfl (congrArg (fun b => some (Value.bool b)) hb5) rfl rfl rfl (Y_leq rfl rfl rfl) ?_; clear hf; intro a hf
      refine sY hf hs rfl rfl rfl (Y_pickT rfl (congrArg (fun b => some (Value.bool b)) hb5) rfl) ?_; clear hf; intro a hf
      refine sY hf hs rfl rfl rfl (Y_assign rfl rfl) ?_; clear hf; intro a hf
      refine wpO_nil ?_
      refine wpL_nil (then_normal ?_)
      exact ⟨(decide (p0_n ≤ p2_high)), Option.some.inj hj4, (FrD.pick hf.none hf rfl), hs⟩
    · have hj4 := bif_f hj4 hb5
      refine sNo hf rfl rfl rfl (congrArg (fun b => some (Value.bool b)) hb5) rfl rfl rfl ?_; clear hf; intro a hf
      refine sNo hf rfl rfl rfl (congrArg (fun b => some (Value.bool b)) hb5) rfl rfl rfl ?_; clear hf; intro a hf
      refine sNo hf rfl rfl rfl (congrArg (fun b => some (Value.bool b)) hb5) rfl rfl rfl ?_; clear hf; intro a hf
      refine sY hf hs rfl rfl rfl (Y_pickF rfl (congrArg (fun b => some (Value.bool b)) hb5) rfl) ?_; clear hf; intro a hf
      refine sY hf hs rfl rfl rfl (Y_assign rfl rfl) ?_; clear hf; intro a hf
      refine wpO_nil ?_
      refine wpL_nil (then_normal ?_)
      exact ⟨false, Option.some.inj hj4, (FrD.pick hf.none hf rfl), hs⟩
  · rintro a w ⟨b2, hr_, hf, hs⟩
    subst hr_
    try dsimp only at hm
    obtain rfl := Option.some.inj hm
    refine wpL_ret (ret_tmp rfl hf rfl ?_)
    exact ⟨_, rfl, rfl, hs⟩

set_option maxRecDepth 100000 in
theorem spec_l11Place_ok (F : Nat) (p0_p : GPlace) (p1_events : Int) (r : Bool) (W : World) (hm : spec_l11Place F p0_p p1_events = some r) :
    Calls Try.prog 172 [.agg #[.int .i64 p0_p.From, .int .i64 p0_p.To, .int .i64 p0_p.Delay, .int .i64 p0_p.Tokens], .int .i64 p1_events].toArray W fun e w' => ∃ v, e = .returned v ∧ v = .bool r ∧ St [] W w' [] := by
  unfold spec_l11Place at hm
  refine Calls.enter (N := 27) Try.func172 rfl rfl rfl (fun a hf => ?_)
  have hs := St.start W
  obtain ⟨w, hw_⟩ : ∃ w, w = W := ⟨W, rfl⟩
  clear hw_ w
  refine wpL_seq ?_
  refine wpL_region ?_
  refine sBox hf hs rfl rfl rfl rfl rfl (cs := [.int .i64 p0_p.From, .int .i64 p0_p.To, .int .i64 p0_p.Delay, .int .i64 p0_p.Tokens]) rfl ?_; clear hf hs; intro a w b1 hs hf
  have hs : St [] W w [.blk b1 127 [.int .i64 p0_p.From, .int .i64 p0_p.To, .int .i64 p0_p.Delay, .int .i64 p0_p.Tokens]] := hs
  refine sY hf hs rfl rfl rfl (Y_assign rfl rfl) ?_; clear hf; intro a hf
  refine wpO_nil ?_
  refine wpL_seq ?_
  obtain ⟨r14, hj15, hm⟩ := bind_some hm
  refine wpL_cut (fun a w => ∃ b13 : Bool, b13 = r14 ∧ Fr a 27 [(4, .bool b13)] ∧ St [] W w []) ?_ ?_
  · refine wpL_region ?_
    refine sY hf hs rfl rfl rfl (Y_fieldAddr rfl rfl fo127_0) ?_; clear hf; intro a hf
    refine sY hf hs rfl rfl rfl (Y_load_blk rfl rfl (i := 0) rfl rfl ag2) ?_; clear hf; intro a hf
    refine sY hf hs rfl rfl rfl (Y_move rfl rfl) ?_; clear hf; intro a hf
    refine sY hf hs rfl rfl rfl (Y_sub rfl rfl rfl) ?_; clear hf; intro a hf
    obtain ⟨r16, hc17, hj15⟩ := bind_some hj15
    refine sCall hf rfl rfl rfl rfl (cap := []) rfl rfl en115 (spec_l01In_ok F p0_p.From 0 (IntKind.i64.wrap (p1_events - 1)) _ _ hc17) ?_; clear hf
    rintro _ w ⟨rfl, hs1⟩ a hf
    have hs : St [] W w [.blk b1 127 [.int .i64 p0_p.From, .int .i64 p0_p.To, .int .i64 p0_p.Delay, .int .i64 p0_p.Tokens]] := hs.ext hs1.below
    clear hs1
    refine sY hf hs rfl rfl rfl (Y_move rfl rfl) ?_; clear hf; intro a hf
    refine bsplit r16 (fun hb18 => ?_) (fun hb18 => ?_)
    · have hj15 := bif_t hj15 hb18
      refine sYg hf hs rfl rfl rfl (congrArg (fun b => some (Value.bool b)) hb18) rfl rfl rfl (Y_fieldAddr rfl rfl fo127_1) ?_; clear hf; intro a hf
      refine sYg hf hs rfl rfl rfl (congrArg (fun b => some (Value.bool b)) hb18) rfl rfl rfl (Y_load_blk rfl rfl (i := 0) rfl rfl ag2) ?_; clear hf; intro a hf
      refine sYg hf hs rfl rfl rfl (congrArg (fun b => some (Value.bool b)) hb18) rfl rfl rfl (Y_move rfl rfl) ?_; clear hf; intro a hf
      refine sYg hf hs rfl rfl rfl (congrArg (fun b => some (Value.bool b)) hb18) rfl rfl rfl (Y_sub rfl rfl rfl) ?_; clear hf; intro a hf
      obtain ⟨r19, hc20, hj15⟩ := bind_some hj15
      refine sCallg hf rfl rfl rfl (congrArg (fun b => some (Value.bool b)) hb18) rfl rfl rfl rfl (cap := []) rfl rfl en115 (spec_l01In_ok F p0_p.To 0 (IntKind.i64.wrap (p1_events - 1)) _ _ hc20) ?_; clear hf
      rintro _ w ⟨rfl, hs1⟩ a hf
      have hs : St [] W w [.blk b1 127 [.int .i64 p0_p.From, .int .i64 p0_p.To, .int .i64 p0_p.Delay, .int .i64 p0_p.Tokens]] := hs.ext hs1.below
      clear hs1
      refine sY hf hs rfl rfl rfl (Y_pickT rfl (congrArg (fun b => some (Value.bool b)) hb18) rfl) ?_; clear hf; intro a hf
      refine sY hf hs rfl rfl rfl (Y_move rfl rfl) ?_; clear hf; intro a hf
      refine bsplit r19 (fun hb21 => ?_) (fun hb21 => ?_)
      · have hj15 := bif_t hj15 hb21
        refine sYg hf hs rfl rfl rfl (congrArg (fun b => some (Value.bool b)) hb21) rfl rfl rfl (Y_fieldAddr rfl rfl fo127_2) ?_; clear hf; intro a hf
        refine sYg hf hs rfl rfl rfl (congrArg (fun b => some (Value.bool b)) hb21) rfl rfl rfl (Y_load_blk rfl rfl (i := 0) rfl rfl ag2) ?_; clear hf; intro a hf
        obtain ⟨r22, hc23, hj15⟩ := bind_some hj15
        refine sCallg hf rfl rfl rfl (congrArg (fun b => some (Value.bool b)) hb21) rfl rfl rfl rfl (cap := []) rfl rfl en115 (spec_l01In_ok F p0_p.Delay 0 1000 _ _ hc23) ?_; clear hf
        rintro _ w ⟨rfl, hs1⟩ a hf
        have hs : St [] W w [.blk b1 127 [.int .i64 p0_p.From, .int .i64 p0_p.To, .int .i64 p0_p.Delay, .int .i64 p0_p.Tokens]] := hs.ext hs1.below
        clear hs1
        refine sY hf hs rfl rfl rfl (Y_pickT rfl (congrArg (fun b => some (Value.bool b)) hb21) rfl) ?_; clear hf; intro a hf
        refine sY hf hs rfl rfl rfl (Y_move rfl rfl) ?_; clear hf; intro a hf
        refine bsplit r22 (fun hb24 => ?_) (fun hb24 => ?_)
        · have hj15 := bif_t hj15 hb24
          refine sYg hf hs rfl rfl rfl (congrArg (fun b => some (Value.bool b)) hb24) rfl rfl rfl (Y_fieldAddr rfl rfl fo127_3) ?_; clear hf; intro a hf
          refine sYg hf hs rfl rfl rfl (congrArg (fun b => some (Value.bool b)) hb24) rfl rfl rfl (Y_load_blk rfl rfl (i := 0) rfl rfl ag2) ?_; clear hf; intro a hf
          obtain ⟨r25, hc26, hj15⟩ := bind_some hj15
          refine sCallg hf rfl rfl rfl (congrArg (fun b => some (Value.bool b)) hb24) rfl rfl rfl rfl (cap := []) rfl rfl en115 (spec_l01In_ok F p0_p.Tokens 0 5 _ _ hc26) ?_; clear hf
          rintro _ w ⟨rfl, hs1⟩ a hf
          have hs : St [] W w [.blk b1 127 [.int .i64 p0_p.From, .int .i64 p0_p.To, .int .i64 p0_p.Delay, .int .i64 p0_p.Tokens]] := hs.ext hs1.below
          clear hs1
          refine sY hf hs rfl rfl rfl (Y_pickT rfl (congrArg (fun b => some (Value.bool b)) hb24) rfl) ?_; clear hf; intro a hf
          refine sY hf hs rfl rfl rfl (Y_assign rfl rfl) ?_; clear hf; intro a hf
          refine wpO_nil ?_
          refine wpL_nil (then_normal ?_)
          exact ⟨r25, Option.some.inj hj15, (FrD.pick hf.none hf rfl), hs.sel [] (by decide)⟩
        · have hj15 := bif_f hj15 hb24
          refine sNo hf rfl rfl rfl (congrArg (fun b => some (Value.bool b)) hb24) rfl rfl rfl ?_; clear hf; intro a hf
          refine sNo hf rfl rfl rfl (congrArg (fun b => some (Value.bool b)) hb24) rfl rfl rfl ?_; clear hf; intro a hf
          refine sNo hf rfl rfl rfl (congrArg (fun b => some (Value.bool b)) hb24) rfl rfl rfl ?_; clear hf; intro a hf
          refine sY hf hs rfl rfl rfl (Y_pickF rfl (congrArg (fun b => some (Value.bool b)) hb24) rfl) ?_; clear hf; intro a hf
          refine sY hf hs rfl rfl rfl (Y_assign rfl rfl) ?_; clear hf; intro a hf
          refine wpO_nil ?_
          refine wpL_nil (then_normal ?_)
          exact ⟨false, Option.some.inj hj15, (FrD.pick hf.none hf rfl), hs.sel [] (by decide)⟩
      · have hj15 := bif_f hj15 hb21
        refine sNo hf rfl rfl rfl (congrArg (fun b => some (Value.bool b)) hb21) rfl rfl rfl ?_; clear hf; intro a hf
        refine sNo hf rfl rfl rfl (congrArg (fun b => some (Value.bool b)) hb21) rfl rfl rfl ?_; clear hf; intro a hf
        refine sNo hf rfl rfl rfl (congrArg (fun b => some (Value.bool b)) hb21) rfl rfl rfl ?_; clear hf; intro a hf
        refine sY hf hs rfl rfl rfl (Y_pickF rfl (congrArg (fun b => some (Value.bool b)) hb21) rfl) ?_; clear hf; intro a hf
        refine sY hf hs rfl rfl rfl (Y_move rfl rfl) ?_; clear hf; intro a hf
        refine sNo hf rfl rfl rfl rfl rfl rfl rfl ?_; clear hf; intro a hf
        refine sNo hf rfl rfl rfl rfl rfl rfl rfl ?_; clear hf; intro a hf
        refine sNo hf rfl rfl rfl rfl rfl rfl rfl ?_; clear hf; intro a hf
        refine sY hf hs rfl rfl rfl (Y_pickF rfl rfl rfl) ?_; clear hf; intro a hf
        refine sY hf hs rfl rfl rfl (Y_assign rfl rfl) ?_; clear hf; intro a hf
        refine wpO_nil ?_
        refine wpL_nil (then_normal ?_)
        exact ⟨false, Option.some.inj hj15, (FrD.pick hf.none hf rfl), hs.sel [] (by decide)⟩
    · have hj15 := bif_f hj15 hb18
      refine sNo hf rfl rfl rfl (congrArg (fun b => some (Value.bool b)) hb18) rfl rfl rfl ?_; clear hf; intro a hf
      refine sNo hf rfl rfl rfl (congrArg (fun b => some (Value.bool b)) hb18) rfl rfl rfl ?_; clear hf; intro a hf
      refine sNo hf rfl rfl rfl (congrArg (fun b => some (Value.bool b)) hb18) rfl rfl rfl ?_; clear hf; intro a hf
      refine sNo hf rfl rfl rfl (congrArg (fun b => some (Value.bool b)) hb18) rfl rfl rfl ?_; clear hf; intro a hf
      refine sNo hf rfl rfl rfl (congrArg (fun b => some (Value.bool b)) hb18) rfl rfl rfl ?_; clear hf; intro a hf
      refine sY hf hs rfl rfl rfl (Y_pickF rfl (congrArg (fun b => some (Value.bool b)) hb18) rfl) ?_; clear hf; intro a hf
      refine sY hf hs rfl rfl rfl (Y_move rfl rfl) ?_; clear hf; intro a hf
      refine sNo hf rfl rfl rfl rfl rfl rfl rfl ?_; clear hf; intro a hf
      refine sNo hf rfl rfl rfl rfl rfl rfl rfl ?_; clear hf; intro a hf
      refine sNo hf rfl rfl rfl rfl rfl rfl rfl ?_; clear hf; intro a hf
      refine sY hf hs rfl rfl rfl (Y_pickF rfl rfl rfl) ?_; clear hf; intro a hf
      refine sY hf hs rfl rfl rfl (Y_move rfl rfl) ?_; clear hf; intro a hf
      refine sNo hf rfl rfl rfl rfl rfl rfl rfl ?_; clear hf; intro a hf
      refine sNo hf rfl rfl rfl rfl rfl rfl rfl ?_; clear hf; intro a hf
      refine sNo hf rfl rfl rfl rfl rfl rfl rfl ?_; clear hf; intro a hf
      refine sY hf hs rfl rfl rfl (Y_pickF rfl rfl rfl) ?_; clear hf; intro a hf
      refine sY hf hs rfl rfl rfl (Y_assign rfl rfl) ?_; clear hf; intro a hf
      refine wpO_nil ?_
      refine wpL_nil (then_normal ?_)
      exact ⟨false, Option.some.inj hj15, (FrD.pick hf.none hf rfl), hs.sel [] (by decide)⟩
  · rintro a w ⟨b13, hr_, hf, hs⟩
    subst hr_
    try dsimp only at hm
    obtain rfl := Option.some.inj hm
    refine wpL_ret (ret_tmp rfl hf rfl ?_)
    exact ⟨_, rfl, rfl, hs⟩

set_option maxRecDepth 100000 in
theorem spec_IsEventGraph_ok (F : Nat) (p0_g : GEventGraph) (A_p0_g_1 : Option Addr) (n_p0_g_1 c_p0_g_1 : Nat) (hn_p0_g_1 : n_p0_g_1 = p0_g.Places.length) (r : Bool) (W : World) (hm : spec_IsEventGraph F p0_g = some r) (h_p0_g_1 : Rd W A_p0_g_1 ((recs GPlace.cells) p0_g.Places)) :
    Calls Try.prog 128 [.agg #[.int .i64 p0_g.Events, .slice A_p0_g_1 n_p0_g_1 c_p0_g_1]].toArray W fun e w' => ∃ v, e = .returned v ∧ v = .bool r ∧ St [] W w' [] := by
  subst hn_p0_g_1
  unfold spec_IsEventGraph at hm
  refine Calls.enter (N := 29) Try.func128 rfl rfl rfl (fun a hf => ?_)
  have hs := St.start W
  obtain ⟨w, hw_⟩ : ∃ w, w = W := ⟨W, rfl⟩
  clear hw_ w
  refine wpL_seq ?_
  refine wpL_region ?_
  refine sBox hf hs rfl rfl rfl rfl rfl (cs := [.int .i64 p0_g.Events, .slice A_p0_g_1 p0_g.Places.length c_p0_g_1]) rfl ?_; clear hf hs; intro a w b1 hs hf
  have hs : St [] W w [.blk b1 59 [.int .i64 p0_g.Events, .slice A_p0_g_1 p0_g.Places.length c_p0_g_1]] := hs
  refine sY hf hs rfl rfl rfl (Y_assign rfl rfl) ?_; clear hf; intro a hf
  refine wpO_nil ?_
  refine wpL_seq ?_
  refine wpL_seq ?_
  refine wpL_region ?_
  refine sY hf hs rfl rfl rfl (Y_assign rfl rfl) ?_; clear hf; intro a hf
  refine wpO_nil ?_
  obtain ⟨r22, hl23, hm⟩ := bind_some hm
  refine wpL_block (fun a w => Sum.inr () = r22 ∧ Fr a 29 [(1, .pointer (some ⟨b1, 0, none⟩))] ∧ St [] W w [.blk b1 59 [.int .i64 p0_g.Events, .slice A_p0_g_1 p0_g.Places.length c_p0_g_1]]) ?_ ?_
  · refine wpL_loop (fun n a w => ∃ x15 : Int, spec_IsEventGraph_L1 F p0_g n x15 = some r22 ∧ Fr a 29 [(1, .pointer (some ⟨b1, 0, none⟩)), (3, .int .i64 x15)] ∧ St [] W w [.blk b1 59 [.int .i64 p0_g.Events, .slice A_p0_g_1 p0_g.Places.length c_p0_g_1]]) F ?_ ?_ ?_
    · exact ⟨0, hl23, (FrD.pick (FrD.pick hf.none hf rfl) hf rfl), hs⟩
    · rintro a w ⟨x15, h0_, -, -⟩; simp [spec_IsEventGraph_L1] at h0_
    · rintro n25 a w ⟨x15, hm24, hf, hs⟩
      rw [spec_IsEventGraph_L1] at hm24
      refine wpL_seq ?_
      refine wpL_seq ?_
      refine wpL_region ?_
      refine sY hf hs rfl rfl rfl (Y_move rfl rfl) ?_; clear hf; intro a hf
      refine sY hf hs rfl rfl rfl (Y_fieldAddr rfl rfl fo59_1) ?_; clear hf; intro a hf
      refine sY hf hs rfl rfl rfl (Y_load_blk rfl rfl (i := 0) rfl rfl ag57) ?_; clear hf; intro a hf
      refine sY hf hs rfl rfl rfl (Y_lenH rfl rfl el57 rfl) ?_; clear hf; intro a hf
      refine sY hf hs rfl rfl rfl (Y_lss rfl rfl rfl) ?_; clear hf; intro a hf
      refine wpO_nil ?_
      refine wpL_cond hf rfl (fun hb26 => ?_) (fun hb26 => ?_)
      · have hm24 := bif_t hm24 hb26
        refine wpL_skip ?_
        refine wpL_seq ?_
        refine wpL_block0 ?_
        refine wpL_seq ?_
        refine wpL_draw (by kernel_rfl) (by kernel_rfl) hs ?_
        refine qY hf rfl rfl rfl (Y_fieldAddr rfl rfl fo59_1) ?_; clear hf; intro a hf
        refine qY hf rfl rfl rfl (Y_load_blk rfl rfl (i := 0) rfl rfl ag57) ?_; clear hf; intro a hf
        refine qY hf rfl rfl rfl (Y_move rfl rfl) ?_; clear hf; intro a hf
        obtain ⟨q27, hi28, hm24⟩ := bind_some hm24
        obtain ⟨hi28a, hi28b, hi28q⟩ := idx_some hi28
        refine qY hf rfl rfl rfl (Y_index rfl rfl rfl el57 ti127 (Rd.isAt (h_p0_g_1.at hs) (recs_at (s := 4) GPlace.len hi28q (j := 0) rfl)) hi28a hi28b) ?_; clear hf; intro a hf
        refine qY hf rfl rfl rfl (Y_load_rdS rfl rfl (us := [.int .i64 q27.From, .int .i64 q27.To, .int .i64 q27.Delay, .int .i64 q27.Tokens]) (fun w hs => h_p0_g_1.at hs) (fun j u hj => recs_at (s := 4) GPlace.len hi28q hj) (Nat.succ_pos _) ag127 ti127 rfl) ?_; clear hf; intro a hf
        refine qY hf rfl rfl rfl (Y_fieldAddr rfl rfl fo59_0) ?_; clear hf; intro a hf
        refine qY hf rfl rfl rfl (Y_load_blk rfl rfl (i := 0) rfl rfl ag2) ?_; clear hf; intro a hf
        obtain ⟨r29, hc30, hm24⟩ := bind_some hm24
        refine qCall hf rfl rfl rfl rfl (cap := []) rfl rfl en172 (v := .bool r29) (fun w hs => Calls.scal (spec_l11Place_ok F q27 p0_g.Events _ _ hc30)) ?_; clear hf; intro a hf
        refine qY hf rfl rfl rfl (Y_not rfl rfl) ?_; clear hf; intro a hf
        refine qNil ?_; clear hs; intro w hs
        refine wpL_cond hf rfl (fun hb31 => ?_) (fun hb31 => ?_)
        · have hm24 := bif_t hm24 hb31
          refine wpL_seq ?_
          refine wpL_region ?_
          refine sY hf hs rfl rfl rfl (Y_assign rfl rfl) ?_; clear hf; intro a hf
          refine wpO_nil ?_
          obtain rfl := Option.some.inj hm24
          try dsimp only at hm
          obtain rfl := Option.some.inj hm
          refine wpL_ret (Qb_ret (Ql_ret (Qb_ret (ret_tmp rfl hf rfl ?_))))
          exact ⟨_, rfl, rfl, hs.sel [] (by decide)⟩
        · have hm24 := bif_f hm24 hb31
          refine wpL_skip ?_
          refine wpL_nil (Qb_normal ?_)
          refine wpL_region ?_
          refine sY hf hs rfl rfl rfl (Y_move rfl rfl) ?_; clear hf; intro a hf
          refine sY hf hs rfl rfl rfl (Y_add rfl rfl rfl) ?_; clear hf; intro a hf
          refine sY hf hs rfl rfl rfl (Y_assign rfl rfl) ?_; clear hf; intro a hf
          refine wpO_nil ?_
          refine wpL_nil (Ql_normal ?_)
          exact ⟨(IntKind.i64.wrap (x15 + 1)), hm24, (FrD.pick (FrD.pick hf.none hf rfl) hf rfl), hs⟩
      · have hm24 := bif_f hm24 hb26
        refine wpL_exit (Ql_exit (Qb_exit ?_))
        exact ⟨Option.some.inj hm24, (FrD.pick hf.none hf rfl), hs⟩
  · rintro a w ⟨hr_, hf, hs⟩
    subst hr_
    try dsimp only at hm
    refine wpL_seq ?_
    obtain ⟨r36, hj37, hm⟩ := bind_some hm
    refine wpL_cut (fun a w => ∃ b35 : Bool, b35 = r36 ∧ Fr a 29 [(2, .bool b35)] ∧ St [] W w []) ?_ ?_
    · refine wpL_region ?_
      refine sY hf hs rfl rfl rfl (Y_fieldAddr rfl rfl fo59_0) ?_; clear hf; intro a hf
      refine sY hf hs rfl rfl rfl (Y_load_blk rfl rfl (i := 0) rfl rfl ag2) ?_; clear hf; intro a hf
      obtain ⟨r38, hc39, hj37⟩ := bind_some hj37
      refine sCall hf rfl rfl rfl rfl (cap := []) rfl rfl en115 (spec_l01In_ok F p0_g.Events 1 10 _ _ hc39) ?_; clear hf
      rintro _ w ⟨rfl, hs1⟩ a hf
      have hs : St [] W w [.blk b1 59 [.int .i64 p0_g.Events, .slice A_p0_g_1 p0_g.Places.length c_p0_g_1]] := hs.ext hs1.below
      clear hs1
      refine sY hf hs rfl rfl rfl (Y_move rfl rfl) ?_; clear hf; intro a hf
      refine bsplit r38 (fun hb40 => ?_) (fun hb40 => ?_)
      · have hj37 := bif_t hj37 hb40
        refine sYg hf hs rfl rfl rfl (congrArg (fun b => some (Value.bool b)) hb40) rfl rfl rfl (Y_fieldAddr rfl rfl fo59_1) ?_; clear hf; intro a hf
        refine sYg hf hs rfl rfl rfl (congrArg (fun b => some (Value.bool b)) hb40) rfl rfl rfl (Y_load_blk rfl rfl (i := 0) rfl rfl ag57) ?_; clear hf; intro a hf
        refine sYg hf hs rfl rfl rfl (congrArg (fun b => some (Value.bool b)) hb40) rfl rfl rfl (Y_lenH rfl rfl el57 rfl) ?_; clear hf; intro a hf
        refine sYg hf hs rfl rfl rfl (congrArg (fun b => some (Value.bool b)) hb40) rfl rfl rfl (Y_leq rfl rfl rfl) ?_; clear hf; intro a hf
        refine sY hf hs rfl rfl rfl (Y_pickT rfl (congrArg (fun b => some (Value.bool b)) hb40) rfl) ?_; clear hf; intro a hf
        refine sY hf hs rfl rfl rfl (Y_assign rfl rfl) ?_; clear hf; intro a hf
        refine wpO_nil ?_
        refine wpL_nil (then_normal ?_)
        exact ⟨(decide ((p0_g.Places.length : Int) ≤ 30)), Option.some.inj hj37, (FrD.pick hf.none hf rfl), hs.sel [] (by decide)⟩
      · have hj37 := bif_f hj37 hb40
        refine sNo hf rfl rfl rfl (congrArg (fun b => some (Value.bool b)) hb40) rfl rfl rfl ?_; clear hf; intro a hf
        refine sNo hf rfl rfl rfl (congrArg (fun b => some (Value.bool b)) hb40) rfl rfl rfl ?_; clear hf; intro a hf
        refine sNo hf rfl rfl rfl (congrArg (fun b => some (Value.bool b)) hb40) rfl rfl rfl ?_; clear hf; intro a hf
        refine sNo hf rfl rfl rfl (congrArg (fun b => some (Value.bool b)) hb40) rfl rfl rfl ?_; clear hf; intro a hf
        refine sY hf hs rfl rfl rfl (Y_pickF rfl (congrArg (fun b => some (Value.bool b)) hb40) rfl) ?_; clear hf; intro a hf
        refine sY hf hs rfl rfl rfl (Y_assign rfl rfl) ?_; clear hf; intro a hf
        refine wpO_nil ?_
        refine wpL_nil (then_normal ?_)
        exact ⟨false, Option.some.inj hj37, (FrD.pick hf.none hf rfl), hs.sel [] (by decide)⟩
    · rintro a w ⟨b35, hr_, hf, hs⟩
      subst hr_
      try dsimp only at hm
      obtain rfl := Option.some.inj hm
      refine wpL_ret (ret_tmp rfl hf rfl ?_)
      exact ⟨_, rfl, rfl, hs⟩

set_option maxRecDepth 100000 in
theorem spec_l11Own_ok (F : Nat) (p0_g : GEventGraph) (A_p0_g_1 : Option Addr) (n_p0_g_1 c_p0_g_1 : Nat) (hn_p0_g_1 : n_p0_g_1 = p0_g.Places.length) (r : GEventGraph) (W : World) (hm : spec_l11Own F p0_g = some r) (h_p0_g_1 : Rd W A_p0_g_1 ((recs GPlace.cells) p0_g.Places)) :
    Calls Try.prog 129 [.agg #[.int .i64 p0_g.Events, .slice A_p0_g_1 n_p0_g_1 c_p0_g_1]].toArray W fun e w' => ∃ v, e = .returned v ∧ ∃ A15, ∃ n16, ∃ c17, v = .agg #[.int .i64 r.Events, .slice A15 n16 c17] ∧ n16 = r.Places.length ∧ St [] W w' [.row A15 n16 c17 127 4 ((recs GPlace.cells) r.Places)] := by
  subst hn_p0_g_1
  unfold spec_l11Own at hm
  refine Calls.enter (N := 10) Try.func129 rfl rfl rfl (fun a hf => ?_)
  have hs := St.start W
  obtain ⟨w, hw_⟩ : ∃ w, w = W := ⟨W, rfl⟩
  clear hw_ w
  refine wpL_seq ?_
  refine wpL_region ?_
  refine sBox hf hs rfl rfl rfl rfl rfl (cs := [.int .i64 p0_g.Events, .slice A_p0_g_1 p0_g.Places.length c_p0_g_1]) rfl ?_; clear hf hs; intro a w b1 hs hf
  have hs : St [] W w [.blk b1 59 [.int .i64 p0_g.Events, .slice A_p0_g_1 p0_g.Places.length c_p0_g_1]] := hs
  refine sAlloc hf hs rfl rfl rfl rfl ti59 ?_; clear hf hs; intro a w b2 hs hf
  have hs : St [] W w [.blk b1 59 [.int .i64 p0_g.Events, .slice A_p0_g_1 p0_g.Places.length c_p0_g_1], .blk b2 59 [.int .i64 0, .slice none 0 0]] := hs
  refine wpO_nil ?_
  refine wpL_seq ?_
  refine wpL_drawM [.blk b1 59 [.int .i64 p0_g.Events, .slice A_p0_g_1 p0_g.Places.length c_p0_g_1], .blk b2 59 [.int .i64 0, .slice none 0 0]] [7] (by kernel_rfl) hs ?_; clear hs; intro w hs
  have hs0 : St [] W w [.blk b1 59 [.int .i64 p0_g.Events, .slice A_p0_g_1 p0_g.Places.length c_p0_g_1], .blk b2 59 [.int .i64 0, .slice none 0 0]] := hs
  refine mYp (i := 0) rfl (by kernel_rfl) (by kernel_rfl) hf rfl rfl rfl (fun _ => Y_fieldAddr rfl rfl fo59_0) ?_; clear hf; intro a hf
  refine mY (i := 1) [[]] rfl (by kernel_rfl) (by kernel_rfl) hf hs0 rfl rfl rfl (Y_load_blk rfl rfl (i := 0) rfl rfl ag2) ?_; clear hf; intro a hf
  refine mYp (i := 3) rfl (by kernel_rfl) (by kernel_rfl) hf rfl rfl rfl (fun _ => Y_fieldAddr rfl rfl fo59_1) ?_; clear hf; intro a hf
  refine mY (i := 4) [[]] rfl (by kernel_rfl) (by kernel_rfl) hf hs0 rfl rfl rfl (Y_load_blk rfl rfl (i := 0) rfl rfl ag57) ?_; clear hf; intro a hf
  refine mRun (i := 2) rfl (by kernel_rfl) ?_
  refine sEmpty hf hs rfl rfl rfl rfl el57 ti127 ?_; clear hf hs; intro a w A9 hs hf
  have hs : St [] W w [.blk b1 59 [.int .i64 p0_g.Events, .slice A_p0_g_1 p0_g.Places.length c_p0_g_1], .blk b2 59 [.int .i64 0, .slice none 0 0], .row A9 0 0 127 4 ((recs GPlace.cells) ([] : List GPlace))] := hs
  have hs0 : St [] W w [.blk b1 59 [.int .i64 p0_g.Events, .slice A_p0_g_1 p0_g.Places.length c_p0_g_1], .blk b2 59 [.int .i64 0, .slice none 0 0]] := hs.sel [0, 1] (by decide)
  refine wpO_nil ⟨Or.inr (fun _ => hs0), ?_⟩
  refine mRun (i := 5) rfl (by kernel_rfl) ?_
  obtain ⟨xs13, ha14, hm⟩ := bind_some hm
  refine sAppendG (i := 2) (xs := ([] : List GPlace)) (ys := p0_g.Places) (enc := (recs GPlace.cells)) hf hs rfl rfl rfl rfl rfl rfl rfl rfl rfl ha14 el57 ti127 rfl rfl rfl (h_p0_g_1.at hs) (recs_length GPlace.len) (recs_append GPlace.cells) (recs_one GPlace.one) ?_; clear hf hs; intro a w A11 c12 hs hf
  have hs : St [] W w [.blk b1 59 [.int .i64 p0_g.Events, .slice A_p0_g_1 p0_g.Places.length c_p0_g_1], .blk b2 59 [.int .i64 0, .slice none 0 0], .row A11 xs13.length c12 127 4 ((recs GPlace.cells) xs13)] := hs
  have hs0 : St [] W w [.blk b1 59 [.int .i64 p0_g.Events, .slice A_p0_g_1 p0_g.Places.length c_p0_g_1], .blk b2 59 [.int .i64 0, .slice none 0 0]] := hs.sel [0, 1] (by decide)
  refine wpO_nil ⟨Or.inr (fun _ => hs0), ?_⟩
  refine mYp (i := 6) rfl (by kernel_rfl) (by kernel_rfl) hf rfl rfl rfl (fun _ => Y_build (parts := [(0, .tmp 4), (1, .tmp 8)]) (vs := [.int .i64 p0_g.Events, .slice A11 xs13.length c12]) rfl rfl (run_build (parts := [(0, .int .i64 p0_g.Events), (1, .slice A11 xs13.length c12)]) (cells := [.int .i64 p0_g.Events, .slice A11 xs13.length c12]) (places := #[(0, 1), (1, 1)]) ti59 Try.underlying59 (fun w => by simp [go_sem]) rfl)) ?_; clear hf; intro a hf
  refine mRun (i := 7) rfl (by kernel_rfl) ?_
  refine sStore (i := 1) (us := [.int .i64 p0_g.Events, .slice A11 xs13.length c12]) hf hs rfl rfl rfl rfl rfl rfl ti59 rfl rfl rfl (Nat.le_of_ble_eq_true rfl) rfl ?_; clear hs; intro w hs
  have hs : St [] W w [.blk b1 59 [.int .i64 p0_g.Events, .slice A_p0_g_1 p0_g.Places.length c_p0_g_1], .blk b2 59 [.int .i64 p0_g.Events, .slice A11 xs13.length c12], .row A11 xs13.length c12 127 4 ((recs GPlace.cells) xs13)] := hs
  refine wpO_nil ⟨Or.inl (by decide), ?_⟩
  refine mDone (by kernel_rfl) ?_
  clear hs0
  obtain rfl := Option.some.inj hm
  refine wpL_ret (ret_cell rfl hf rfl hs (i := 1) rfl ag59 ti59 rfl ?_)
  exact ⟨_, rfl, A11, xs13.length, c12, rfl, rfl, hs.sel [2] (by decide)⟩

set_option maxRecDepth 100000 in
theorem spec_l19Result_ok (F : Nat) (p0_g : GEventGraph) (A_p0_g_1 : Option Addr) (n_p0_g_1 c_p0_g_1 : Nat) (hn_p0_g_1 : n_p0_g_1 = p0_g.Places.length) (r : GEventGraph × Int) (W : World) (hm : spec_l19Result F p0_g = some r) (h_p0_g_1 : Rd W A_p0_g_1 ((recs GPlace.cells) p0_g.Places)) :
    Calls Try.prog 130 [.agg #[.int .i64 p0_g.Events, .slice A_p0_g_1 n_p0_g_1 c_p0_g_1]].toArray W fun e w' => ∃ v, e = .returned v ∧ ∃ A6, ∃ n7, ∃ c8, v = .tuple #[.agg #[.int .i64 r.1.Events, .slice A6 n7 c8], .int .i64 r.2] ∧ n7 = r.1.Places.length ∧ Al A_p0_g_1 n_p0_g_1 c_p0_g_1 p0_g.Places A6 n7 c8 r.1.Places ∧ St [] W w' [] := by
  subst hn_p0_g_1
  unfold spec_l19Result at hm
  refine Calls.enter (N := 9) Try.func130 rfl rfl rfl (fun a hf => ?_)
  have hs := St.start W
  obtain ⟨w, hw_⟩ : ∃ w, w = W := ⟨W, rfl⟩
  clear hw_ w
  refine wpL_seq ?_
  refine wpL_region ?_
  refine sBox hf hs rfl rfl rfl rfl rfl (cs := [.int .i64 p0_g.Events, .slice A_p0_g_1 p0_g.Places.length c_p0_g_1]) rfl ?_; clear hf hs; intro a w b1 hs hf
  have hs : St [] W w [.blk b1 59 [.int .i64 p0_g.Events, .slice A_p0_g_1 p0_g.Places.length c_p0_g_1]] := hs
  refine sAlloc hf hs rfl rfl rfl rfl ti59 ?_; clear hf hs; intro a w b2 hs hf
  have hs : St [] W w [.blk b1 59 [.int .i64 p0_g.Events, .slice A_p0_g_1 p0_g.Places.length c_p0_g_1], .blk b2 59 [.int .i64 0, .slice none 0 0]] := hs
  refine sY hf hs rfl rfl rfl (Y_assign rfl rfl) ?_; clear hf; intro a hf
  refine wpO_nil ?_
  refine wpL_seq ?_
  refine wpL_seq ?_
  refine wpL_region ?_
  refine sY hf hs rfl rfl rfl (Y_load_blkS rfl rfl (i := 0) rfl ag59 ti59 rfl) ?_; clear hf; intro a hf
  obtain ⟨r3, hc4, hm⟩ := bind_some hm
  refine sCall hf rfl rfl rfl rfl (cap := []) rfl rfl en128 (spec_IsEventGraph_ok F p0_g A_p0_g_1 p0_g.Places.length c_p0_g_1 rfl _ _ hc4 (h_p0_g_1.at hs)) ?_; clear hf
  rintro _ w ⟨rfl, hs1⟩ a hf
  have hs : St [] W w [.blk b1 59 [.int .i64 p0_g.Events, .slice A_p0_g_1 p0_g.Places.length c_p0_g_1], .blk b2 59 [.int .i64 0, .slice none 0 0]] := hs.ext hs1.below
  clear hs1
  refine sY hf hs rfl rfl rfl (Y_not rfl rfl) ?_; clear hf; intro a hf
  refine wpO_nil ?_
  refine wpL_cond hf rfl (fun hb5 => ?_) (fun hb5 => ?_)
  · have hm := bif_t hm hb5
    refine wpL_seq ?_
    refine wpL_region ?_
    refine sY hf hs rfl rfl rfl (Y_build (parts := []) (vs := []) rfl rfl (run_build (parts := []) (cells := [.int .i64 0, .slice none 0 0]) (places := #[(0, 1), (1, 1)]) ti59 Try.underlying59 (fun w => by simp [go_sem]) rfl)) ?_; clear hf; intro a hf
    refine sStore (i := 1) (us := [.int .i64 0, .slice none 0 0]) hf hs rfl rfl rfl rfl rfl rfl ti59 rfl rfl rfl (Nat.le_of_ble_eq_true rfl) rfl ?_; clear hs; intro w hs
    have hs : St [] W w [.blk b1 59 [.int .i64 p0_g.Events, .slice A_p0_g_1 p0_g.Places.length c_p0_g_1], .blk b2 59 [.int .i64 0, .slice none 0 0]] := hs
    refine sY hf hs rfl rfl rfl (Y_assign rfl rfl) ?_; clear hf; intro a hf
    refine wpO_nil ?_
    obtain rfl := Option.some.inj hm
    refine wpL_ret (ret_cell_tmp rfl hf rfl rfl hs (i := 1) rfl ag59 ti59 rfl ?_)
    exact ⟨_, rfl, none, 0, 0, rfl, rfl, .inr ⟨rfl, rfl, rfl, rfl⟩, hs.sel [] (by decide)⟩
  · have hm := bif_f hm hb5
    refine wpL_skip ?_
    refine wpL_seq ?_
    refine wpL_region ?_
    refine sY hf hs rfl rfl rfl (Y_load_blkS rfl rfl (i := 0) rfl ag59 ti59 rfl) ?_; clear hf; intro a hf
    refine sStore (i := 1) (us := [.int .i64 p0_g.Events, .slice A_p0_g_1 p0_g.Places.length c_p0_g_1]) hf hs rfl rfl rfl rfl rfl rfl ti59 rfl rfl rfl (Nat.le_of_ble_eq_true rfl) rfl ?_; clear hs; intro w hs
    have hs : St [] W w [.blk b1 59 [.int .i64 p0_g.Events, .slice A_p0_g_1 p0_g.Places.length c_p0_g_1], .blk b2 59 [.int .i64 p0_g.Events, .slice A_p0_g_1 p0_g.Places.length c_p0_g_1]] := hs
    refine sY hf hs rfl rfl rfl (Y_assign rfl rfl) ?_; clear hf; intro a hf
    refine wpO_nil ?_
    obtain rfl := Option.some.inj hm
    refine wpL_ret (ret_cell_tmp rfl hf rfl rfl hs (i := 1) rfl ag59 ti59 rfl ?_)
    exact ⟨_, rfl, A_p0_g_1, p0_g.Places.length, c_p0_g_1, rfl, rfl, .inl ⟨rfl, rfl, rfl, rfl⟩, hs.sel [] (by decide)⟩

set_option maxRecDepth 100000 in
theorem spec_JoinGraphs_ok (F : Nat) (p0_g : GEventGraph) (A_p0_g_1 : Option Addr) (n_p0_g_1 c_p0_g_1 : Nat) (hn_p0_g_1 : n_p0_g_1 = p0_g.Places.length) (p1_h : GEventGraph) (A_p1_h_1 : Option Addr) (n_p1_h_1 c_p1_h_1 : Nat) (hn_p1_h_1 : n_p1_h_1 = p1_h.Places.length) (r : GEventGraph × Int) (W : World) (hm : spec_JoinGraphs F p0_g p1_h = some r) (h_p0_g_1 : Rd W A_p0_g_1 ((recs GPlace.cells) p0_g.Places)) (h_p1_h_1 : Rd W A_p1_h_1 ((recs GPlace.cells) p1_h.Places)) :
    Calls Try.prog 43 [.agg #[.int .i64 p0_g.Events, .slice A_p0_g_1 n_p0_g_1 c_p0_g_1], .agg #[.int .i64 p1_h.Events, .slice A_p1_h_1 n_p1_h_1 c_p1_h_1]].toArray W fun e w' => ∃ v, e = .returned v ∧ ∃ A94, ∃ n95, ∃ c96, v = .tuple #[.agg #[.int .i64 r.1.Events, .slice A94 n95 c96], .int .i64 r.2] ∧ n95 = r.1.Places.length ∧ St [] W w' [.row A94 n95 c96 127 4 ((recs GPlace.cells) r.1.Places)] := by
  subst hn_p0_g_1
  subst hn_p1_h_1
  unfold spec_JoinGraphs at hm
  refine Calls.enter (N := 62) Try.func43 rfl rfl rfl (fun a hf => ?_)
  have hs := St.start W
  obtain ⟨w, hw_⟩ : ∃ w, w = W := ⟨W, rfl⟩
  clear hw_ w
  refine wpL_seq ?_
  refine wpL_region ?_
  refine sBox hf hs rfl rfl rfl rfl rfl (cs := [.int .i64 p0_g.Events, .slice A_p0_g_1 p0_g.Places.length c_p0_g_1]) rfl ?_; clear hf hs; intro a w b1 hs hf
  have hs : St [] W w [.blk b1 59 [.int .i64 p0_g.Events, .slice A_p0_g_1 p0_g.Places.length c_p0_g_1]] := hs
  refine sBox hf hs rfl rfl rfl rfl rfl (cs := [.int .i64 p1_h.Events, .slice A_p1_h_1 p1_h.Places.length c_p1_h_1]) rfl ?_; clear hf hs; intro a w b2 hs hf
  have hs : St [] W w [.blk b1 59 [.int .i64 p0_g.Events, .slice A_p0_g_1 p0_g.Places.length c_p0_g_1], .blk b2 59 [.int .i64 p1_h.Events, .slice A_p1_h_1 p1_h.Places.length c_p1_h_1]] := hs
  refine sAlloc hf hs rfl rfl rfl rfl ti59 ?_; clear hf hs; intro a w b3 hs hf
  have hs : St [] W w [.blk b1 59 [.int .i64 p0_g.Events, .slice A_p0_g_1 p0_g.Places.length c_p0_g_1], .blk b2 59 [.int .i64 p1_h.Events, .slice A_p1_h_1 p1_h.Places.length c_p1_h_1], .blk b3 59 [.int .i64 0, .slice none 0 0]] := hs
  refine sY hf hs rfl rfl rfl (Y_assign rfl rfl) ?_; clear hf; intro a hf
  refine wpO_nil ?_
  refine wpL_seq ?_
  refine wpL_seq ?_
  obtain ⟨r10, hj11, hm⟩ := bind_some hm
  refine wpL_cut (fun a w => ∃ b9 : Bool, b9 = r10 ∧ Fr a 62 [(2, .pointer (some ⟨b1, 0, none⟩)), (3, .pointer (some ⟨b2, 0, none⟩)), (4, .pointer (some ⟨b3, 0, none⟩)), (16, .bool b9)] ∧ St [] W w [.blk b1 59 [.int .i64 p0_g.Events, .slice A_p0_g_1 p0_g.Places.length c_p0_g_1], .blk b2 59 [.int .i64 p1_h.Events, .slice A_p1_h_1 p1_h.Places.length c_p1_h_1], .blk b3 59 [.int .i64 0, .slice none 0 0]]) ?_ ?_
  · refine wpL_region ?_
    refine sY hf hs rfl rfl rfl (Y_load_blkS rfl rfl (i := 0) rfl ag59 ti59 rfl) ?_; clear hf; intro a hf
    obtain ⟨r12, hc13, hj11⟩ := bind_some hj11
    refine sCall hf rfl rfl rfl rfl (cap := []) rfl rfl en128 (spec_IsEventGraph_ok F p0_g A_p0_g_1 p0_g.Places.length c_p0_g_1 rfl _ _ hc13 (h_p0_g_1.at hs)) ?_; clear hf
    rintro _ w ⟨rfl, hs1⟩ a hf
    have hs : St [] W w [.blk b1 59 [.int .i64 p0_g.Events, .slice A_p0_g_1 p0_g.Places.length c_p0_g_1], .blk b2 59 [.int .i64 p1_h.Events, .slice A_p1_h_1 p1_h.Places.length c_p1_h_1], .blk b3 59 [.int .i64 0, .slice none 0 0]] := hs.ext hs1.below
    clear hs1
    refine sY hf hs rfl rfl rfl (Y_not rfl rfl) ?_; clear hf; intro a hf
    refine sY hf hs rfl rfl rfl (Y_move rfl rfl) ?_; clear hf; intro a hf
    refine bsplit (!r12) (fun hb14 => ?_) (fun hb14 => ?_)
    · have hj11 := bif_t hj11 hb14
      refine sNo hf rfl rfl rfl (congrArg (fun b => some (Value.bool b)) hb14) rfl rfl rfl ?_; clear hf; intro a hf
      refine sNo hf rfl rfl rfl (congrArg (fun b => some (Value.bool b)) hb14) rfl rfl rfl ?_; clear hf; intro a hf
      refine sNo hf rfl rfl rfl (congrArg (fun b => some (Value.bool b)) hb14) rfl rfl rfl ?_; clear hf; intro a hf
      refine sY hf hs rfl rfl rfl (Y_pickT rfl (congrArg (fun b => some (Value.bool b)) hb14) rfl) ?_; clear hf; intro a hf
      refine wpO_nil ?_
      refine wpL_nil (then_normal ?_)
      exact ⟨true, Option.some.inj hj11, (FrD.pick (FrD.pick (FrD.pick (FrD.pick hf.none hf rfl) hf rfl) hf rfl) hf rfl), hs⟩
    · have hj11 := bif_f hj11 hb14
      refine sYg hf hs rfl rfl rfl (congrArg (fun b => some (Value.bool b)) hb14) rfl rfl rfl (Y_load_blkS rfl rfl (i := 1) rfl ag59 ti59 rfl) ?_; clear hf; intro a hf
      obtain ⟨r15, hc16, hj11⟩ := bind_some hj11
      refine sCallg hf rfl rfl rfl (congrArg (fun b => some (Value.bool b)) hb14) rfl rfl rfl rfl (cap := []) rfl rfl en128 (spec_IsEventGraph_ok F p1_h A_p1_h_1 p1_h.Places.length c_p1_h_1 rfl _ _ hc16 (h_p1_h_1.at hs)) ?_; clear hf
      rintro _ w ⟨rfl, hs1⟩ a hf
      have hs : St [] W w [.blk b1 59 [.int .i64 p0_g.Events, .slice A_p0_g_1 p0_g.Places.length c_p0_g_1], .blk b2 59 [.int .i64 p1_h.Events, .slice A_p1_h_1 p1_h.Places.length c_p1_h_1], .blk b3 59 [.int .i64 0, .slice none 0 0]] := hs.ext hs1.below
      clear hs1
      refine sYg hf hs rfl rfl rfl (congrArg (fun b => some (Value.bool b)) hb14) rfl rfl rfl (Y_not rfl rfl) ?_; clear hf; intro a hf
      refine sY hf hs rfl rfl rfl (Y_pickF rfl (congrArg (fun b => some (Value.bool b)) hb14) rfl) ?_; clear hf; intro a hf
      refine wpO_nil ?_
      refine wpL_nil (then_normal ?_)
      exact ⟨(!r15), Option.some.inj hj11, (FrD.pick (FrD.pick (FrD.pick (FrD.pick hf.none hf rfl) hf rfl) hf rfl) hf rfl), hs⟩
  · rintro a w ⟨b9, hr_, hf, hs⟩
    subst hr_
    try dsimp only at hm
    refine wpL_cond hf rfl (fun hb17 => ?_) (fun hb17 => ?_)
    · have hm := bif_t hm hb17
      refine wpL_seq ?_
      refine wpL_region ?_
      refine sY hf hs rfl rfl rfl (Y_build (parts := []) (vs := []) rfl rfl (run_build (parts := []) (cells := [.int .i64 0, .slice none 0 0]) (places := #[(0, 1), (1, 1)]) ti59 Try.underlying59 (fun w => by simp [go_sem]) rfl)) ?_; clear hf; intro a hf
      refine sStore (i := 2) (us := [.int .i64 0, .slice none 0 0]) hf hs rfl rfl rfl rfl rfl rfl ti59 rfl rfl rfl (Nat.le_of_ble_eq_true rfl) rfl ?_; clear hs; intro w hs
      have hs : St [] W w [.blk b1 59 [.int .i64 p0_g.Events, .slice A_p0_g_1 p0_g.Places.length c_p0_g_1], .blk b2 59 [.int .i64 p1_h.Events, .slice A_p1_h_1 p1_h.Places.length c_p1_h_1], .blk b3 59 [.int .i64 0, .slice none 0 0]] := hs
      refine sY hf hs rfl rfl rfl (Y_assign rfl rfl) ?_; clear hf; intro a hf
      refine wpO_nil ?_
      have hs : St [] W _ [.blk b1 59 [.int .i64 p0_g.Events, .slice A_p0_g_1 p0_g.Places.length c_p0_g_1], .blk b2 59 [.int .i64 p1_h.Events, .slice A_p1_h_1 p1_h.Places.length c_p1_h_1], .blk b3 59 [.int .i64 0, .slice none 0 0], .row none 0 0 127 4 ((recs GPlace.cells) ([] : List GPlace))] := hs.addNil 127 4
      obtain rfl := Option.some.inj hm
      refine wpL_ret (ret_cell_tmp rfl hf rfl rfl hs (i := 2) rfl ag59 ti59 rfl ?_)
      exact ⟨_, rfl, none, 0, 0, rfl, rfl, hs.sel [3] (by decide)⟩
    · have hm := bif_f hm hb17
      refine wpL_skip ?_
      refine wpL_seq ?_
      refine wpL_region ?_
      refine sY hf hs rfl rfl rfl (Y_load_blkS rfl rfl (i := 0) rfl ag59 ti59 rfl) ?_; clear hf; intro a hf
      obtain ⟨r19, hc20, hm⟩ := bind_some hm
      refine sCall hf rfl rfl rfl rfl (cap := []) rfl rfl en129 (spec_l11Own_ok F p0_g A_p0_g_1 p0_g.Places.length c_p0_g_1 rfl _ _ hc20 (h_p0_g_1.at hs)) ?_; clear hf
      rintro _ w ⟨A21, n22, c23, rfl, hn24, hs1⟩ a hf
      have hs : St [] W w [.blk b1 59 [.int .i64 p0_g.Events, .slice A_p0_g_1 p0_g.Places.length c_p0_g_1], .blk b2 59 [.int .i64 p1_h.Events, .slice A_p1_h_1 p1_h.Places.length c_p1_h_1], .blk b3 59 [.int .i64 0, .slice none 0 0], .row A21 n22 c23 127 4 ((recs GPlace.cells) r19.Places)] := hs.join hs1
      clear hs1
      refine sAlloc hf hs rfl rfl rfl rfl ti59 ?_; clear hf hs; intro a w b25 hs hf
      have hs : St [] W w [.blk b1 59 [.int .i64 p0_g.Events, .slice A_p0_g_1 p0_g.Places.length c_p0_g_1], .blk b2 59 [.int .i64 p1_h.Events, .slice A_p1_h_1 p1_h.Places.length c_p1_h_1], .blk b3 59 [.int .i64 0, .slice none 0 0], .row A21 n22 c23 127 4 ((recs GPlace.cells) r19.Places), .blk b25 59 [.int .i64 0, .slice none 0 0]] := hs
      refine sStore (i := 4) (us := [.int .i64 r19.Events, .slice A21 n22 c23]) hf hs rfl rfl rfl rfl rfl rfl ti59 rfl rfl rfl (Nat.le_of_ble_eq_true rfl) rfl ?_; clear hs; intro w hs
      have hs : St [] W w [.blk b1 59 [.int .i64 p0_g.Events, .slice A_p0_g_1 p0_g.Places.length c_p0_g_1], .blk b2 59 [.int .i64 p1_h.Events, .slice A_p1_h_1 p1_h.Places.length c_p1_h_1], .blk b3 59 [.int .i64 0, .slice none 0 0], .row A21 n22 c23 127 4 ((recs GPlace.cells) r19.Places), .blk b25 59 [.int .i64 r19.Events, .slice A21 n22 c23]] := hs
      refine wpO_nil ?_
      refine wpL_seq ?_
      refine wpL_region ?_
      refine sY hf hs rfl rfl rfl (Y_fieldAddr rfl rfl fo59_0) ?_; clear hf; intro a hf
      refine sY hf hs rfl rfl rfl (Y_load_blk rfl rfl (i := 0) rfl rfl ag2) ?_; clear hf; intro a hf
      refine sY hf hs rfl rfl rfl (Y_fieldAddr rfl rfl fo59_0) ?_; clear hf; intro a hf
      refine sY hf hs rfl rfl rfl (Y_load_blk rfl rfl (i := 1) rfl rfl ag2) ?_; clear hf; intro a hf
      refine sY hf hs rfl rfl rfl (Y_add rfl rfl rfl) ?_; clear hf; intro a hf
      refine sY hf hs rfl rfl rfl (Y_fieldAddr rfl rfl fo59_0) ?_; clear hf; intro a hf
      refine sStore (i := 4) (us := [.int .i64 (IntKind.i64.wrap (p0_g.Events + p1_h.Events))]) hf hs rfl rfl rfl rfl rfl rfl ti2 rfl rfl rfl (Nat.le_of_ble_eq_true rfl) rfl ?_; clear hs; intro w hs
      have hs : St [] W w [.blk b1 59 [.int .i64 p0_g.Events, .slice A_p0_g_1 p0_g.Places.length c_p0_g_1], .blk b2 59 [.int .i64 p1_h.Events, .slice A_p1_h_1 p1_h.Places.length c_p1_h_1], .blk b3 59 [.int .i64 0, .slice none 0 0], .row A21 n22 c23 127 4 ((recs GPlace.cells) r19.Places), .blk b25 59 [.int .i64 (IntKind.i64.wrap (p0_g.Events + p1_h.Events)), .slice A21 n22 c23]] := hs
      refine wpO_nil ?_
      refine wpL_seq ?_
      refine wpL_seq ?_
      refine wpL_region ?_
      refine sY hf hs rfl rfl rfl (Y_assign rfl rfl) ?_; clear hf; intro a hf
      refine wpO_nil ?_
      obtain ⟨r73, hl74, hm⟩ := bind_some hm
      refine wpL_block (fun a w => ∃ xs68 : List GPlace, ∃ A69, ∃ n70, ∃ c71, xs68 = r73 ∧ n70 = xs68.length ∧ Fr a 62 [(4, .pointer (some ⟨b3, 0, none⟩)), (6, .pointer (some ⟨b25, 0, none⟩))] ∧ St [] W w [.blk b3 59 [.int .i64 0, .slice none 0 0], .blk b25 59 [.int .i64 (IntKind.i64.wrap (p0_g.Events + p1_h.Events)), .slice A69 n70 c71], .row A69 n70 c71 127 4 ((recs GPlace.cells) xs68)]) ?_ ?_
      · refine wpL_loop (fun n a w => ∃ xs52 : List GPlace, ∃ x57 : Int, ∃ A53, ∃ n54, ∃ c55, spec_JoinGraphs_L1 F p0_g p1_h n xs52 x57 = some r73 ∧ n54 = xs52.length ∧ Fr a 62 [(2, .pointer (some ⟨b1, 0, none⟩)), (3, .pointer (some ⟨b2, 0, none⟩)), (4, .pointer (some ⟨b3, 0, none⟩)), (6, .pointer (some ⟨b25, 0, none⟩)), (7, .int .i64 x57)] ∧ St [] W w [.blk b1 59 [.int .i64 p0_g.Events, .slice A_p0_g_1 p0_g.Places.length c_p0_g_1], .blk b2 59 [.int .i64 p1_h.Events, .slice A_p1_h_1 p1_h.Places.length c_p1_h_1], .blk b3 59 [.int .i64 0, .slice none 0 0], .blk b25 59 [.int .i64 (IntKind.i64.wrap (p0_g.Events + p1_h.Events)), .slice A53 n54 c55], .row A53 n54 c55 127 4 ((recs GPlace.cells) xs52)]) F ?_ ?_ ?_
        · exact ⟨r19.Places, 0, A21, n22, c23, hl74, hn24, (FrD.pick (FrD.pick (FrD.pick (FrD.pick (FrD.pick hf.none hf rfl) hf rfl) hf rfl) hf rfl) hf rfl), hs.sel [0, 1, 2, 4, 3] (by decide)⟩
        · rintro a w ⟨xs52, x57, A53, n54, c55, h0_, -, -, -⟩; simp [spec_JoinGraphs_L1] at h0_
        · rintro n76 a w ⟨xs52, x57, A53, n54, c55, hm75, hn56, hf, hs⟩
          rw [spec_JoinGraphs_L1] at hm75
          refine wpL_seq ?_
          refine wpL_seq ?_
          refine wpL_region ?_
          refine sY hf hs rfl rfl rfl (Y_move rfl rfl) ?_; clear hf; intro a hf
          refine sY hf hs rfl rfl rfl (Y_fieldAddr rfl rfl fo59_1) ?_; clear hf; intro a hf
          refine sY hf hs rfl rfl rfl (Y_load_blk rfl rfl (i := 1) rfl rfl ag57) ?_; clear hf; intro a hf
          refine sY hf hs rfl rfl rfl (Y_lenH rfl rfl el57 rfl) ?_; clear hf; intro a hf
          refine sY hf hs rfl rfl rfl (Y_lss rfl rfl rfl) ?_; clear hf; intro a hf
          refine wpO_nil ?_
          refine wpL_cond hf rfl (fun hb77 => ?_) (fun hb77 => ?_)
          · have hm75 := bif_t hm75 hb77
            refine wpL_skip ?_
            refine wpL_seq ?_
            refine wpL_block0 ?_
            refine wpL_seq ?_
            refine wpL_region ?_
            refine sY hf hs rfl rfl rfl (Y_fieldAddr rfl rfl fo59_1) ?_; clear hf; intro a hf
            refine sY hf hs rfl rfl rfl (Y_load_blk rfl rfl (i := 1) rfl rfl ag57) ?_; clear hf; intro a hf
            refine sY hf hs rfl rfl rfl (Y_move rfl rfl) ?_; clear hf; intro a hf
            obtain ⟨q78, hi79, hm75⟩ := bind_some hm75
            obtain ⟨hi79a, hi79b, hi79q⟩ := idx_some hi79
            refine sY hf hs rfl rfl rfl (Y_index rfl rfl rfl el57 ti127 (Rd.isAt (h_p1_h_1.at hs) (recs_at (s := 4) GPlace.len hi79q (j := 0) rfl)) hi79a hi79b) ?_; clear hf; intro a hf
            refine sY hf hs rfl rfl rfl (Y_load_rdS rfl rfl (us := [.int .i64 q78.From, .int .i64 q78.To, .int .i64 q78.Delay, .int .i64 q78.Tokens]) (fun w hs => h_p1_h_1.at hs) (fun j u hj => recs_at (s := 4) GPlace.len hi79q hj) (Nat.succ_pos _) ag127 ti127 rfl) ?_; clear hf; intro a hf
            refine sAlloc hf hs rfl rfl rfl rfl ti127 ?_; clear hf hs; intro a w b80 hs hf
            have hs : St [] W w [.blk b1 59 [.int .i64 p0_g.Events, .slice A_p0_g_1 p0_g.Places.length c_p0_g_1], .blk b2 59 [.int .i64 p1_h.Events, .slice A_p1_h_1 p1_h.Places.length c_p1_h_1], .blk b3 59 [.int .i64 0, .slice none 0 0], .blk b25 59 [.int .i64 (IntKind.i64.wrap (p0_g.Events + p1_h.Events)), .slice A53 n54 c55], .row A53 n54 c55 127 4 ((recs GPlace.cells) xs52), .blk b80 127 [.int .i64 0, .int .i64 0, .int .i64 0, .int .i64 0]] := hs
            refine sStore (i := 5) (us := [.int .i64 q78.From, .int .i64 q78.To, .int .i64 q78.Delay, .int .i64 q78.Tokens]) hf hs rfl rfl rfl rfl rfl rfl ti127 rfl rfl rfl (Nat.le_of_ble_eq_true rfl) rfl ?_; clear hs; intro w hs
            have hs : St [] W w [.blk b1 59 [.int .i64 p0_g.Events, .slice A_p0_g_1 p0_g.Places.length c_p0_g_1], .blk b2 59 [.int .i64 p1_h.Events, .slice A_p1_h_1 p1_h.Places.length c_p1_h_1], .blk b3 59 [.int .i64 0, .slice none 0 0], .blk b25 59 [.int .i64 (IntKind.i64.wrap (p0_g.Events + p1_h.Events)), .slice A53 n54 c55], .row A53 n54 c55 127 4 ((recs GPlace.cells) xs52), .blk b80 127 [.int .i64 q78.From, .int .i64 q78.To, .int .i64 q78.Delay, .int .i64 q78.Tokens]] := hs
            refine wpO_nil ?_
            refine wpL_region ?_
            refine sY hf hs rfl rfl rfl (Y_fieldAddr rfl rfl fo59_1) ?_; clear hf; intro a hf
            refine sY hf hs rfl rfl rfl (Y_load_blk rfl rfl (i := 3) rfl rfl ag57) ?_; clear hf; intro a hf
            refine sY hf hs rfl rfl rfl (Y_fieldAddr rfl rfl fo127_0) ?_; clear hf; intro a hf
            refine sY hf hs rfl rfl rfl (Y_load_blk rfl rfl (i := 5) rfl rfl ag2) ?_; clear hf; intro a hf
            refine sY hf hs rfl rfl rfl (Y_fieldAddr rfl rfl fo59_0) ?_; clear hf; intro a hf
            refine sY hf hs rfl rfl rfl (Y_load_blk rfl rfl (i := 0) rfl rfl ag2) ?_; clear hf; intro a hf
            refine sY hf hs rfl rfl rfl (Y_add rfl rfl rfl) ?_; clear hf; intro a hf
            refine sY hf hs rfl rfl rfl (Y_fieldAddr rfl rfl fo127_1) ?_; clear hf; intro a hf
            refine sY hf hs rfl rfl rfl (Y_load_blk rfl rfl (i := 5) rfl rfl ag2) ?_; clear hf; intro a hf
            refine sY hf hs rfl rfl rfl (Y_fieldAddr rfl rfl fo59_0) ?_; clear hf; intro a hf
            refine sY hf hs rfl rfl rfl (Y_load_blk rfl rfl (i := 0) rfl rfl ag2) ?_; clear hf; intro a hf
            refine sY hf hs rfl rfl rfl (Y_add rfl rfl rfl) ?_; clear hf; intro a hf
            refine sY hf hs rfl rfl rfl (Y_fieldAddr rfl rfl fo127_2) ?_; clear hf; intro a hf
            refine sY hf hs rfl rfl rfl (Y_load_blk rfl rfl (i := 5) rfl rfl ag2) ?_; clear hf; intro a hf
            refine sY hf hs rfl rfl rfl (Y_fieldAddr rfl rfl fo127_3) ?_; clear hf; intro a hf
            refine sY hf hs rfl rfl rfl (Y_load_blk rfl rfl (i := 5) rfl rfl ag2) ?_; clear hf; intro a hf
            refine sY hf hs rfl rfl rfl (Y_build (parts := [(0, .tmp 44), (1, .tmp 49), (2, .tmp 51), (3, .tmp 53)]) (vs := [.int .i64 (IntKind.i64.wrap (q78.From + p0_g.Events)), .int .i64 (IntKind.i64.wrap (q78.To + p0_g.Events)), .int .i64 q78.Delay, .int .i64 q78.Tokens]) rfl rfl (run_build (parts := [(0, .int .i64 (IntKind.i64.wrap (q78.From + p0_g.Events))), (1, .int .i64 (IntKind.i64.wrap (q78.To + p0_g.Events))), (2, .int .i64 q78.Delay), (3, .int .i64 q78.Tokens)]) (cells := [.int .i64 (IntKind.i64.wrap (q78.From + p0_g.Events)), .int .i64 (IntKind.i64.wrap (q78.To + p0_g.Events)), .int .i64 q78.Delay, .int .i64 q78.Tokens]) (places := #[(0, 1), (1, 1), (2, 1), (3, 1)]) ti127 Try.underlying127 (fun w => by simp [go_sem]) rfl)) ?_; clear hf; intro a hf
            refine sBuildSlice (parts := [(0, .tmp 54)]) (vs := [.agg #[.int .i64 (IntKind.i64.wrap (q78.From + p0_g.Events)), .int .i64 (IntKind.i64.wrap (q78.To + p0_g.Events)), .int .i64 q78.Delay, .int .i64 q78.Tokens]]) (cells := [.int .i64 (IntKind.i64.wrap (q78.From + p0_g.Events)), .int .i64 (IntKind.i64.wrap (q78.To + p0_g.Events)), .int .i64 q78.Delay, .int .i64 q78.Tokens]) hf hs rfl rfl rfl rfl rfl el57 ti127 rfl rfl rfl rfl ?_; clear hf hs; intro a w A81 hs hA82 hf
            have hs : St [] W w [.blk b1 59 [.int .i64 p0_g.Events, .slice A_p0_g_1 p0_g.Places.length c_p0_g_1], .blk b2 59 [.int .i64 p1_h.Events, .slice A_p1_h_1 p1_h.Places.length c_p1_h_1], .blk b3 59 [.int .i64 0, .slice none 0 0], .blk b25 59 [.int .i64 (IntKind.i64.wrap (p0_g.Events + p1_h.Events)), .slice A53 n54 c55], .row A53 n54 c55 127 4 ((recs GPlace.cells) xs52), .blk b80 127 [.int .i64 q78.From, .int .i64 q78.To, .int .i64 q78.Delay, .int .i64 q78.Tokens], .row A81 1 1 127 4 ((recs GPlace.cells) ([(GPlace.mk (IntKind.i64.wrap (q78.From + p0_g.Events)) (IntKind.i64.wrap (q78.To + p0_g.Events)) q78.Delay q78.Tokens)]))] := hs
            obtain ⟨xs85, ha86, hm75⟩ := bind_some hm75
            refine sAppendL (i := 4) (xs := xs52) (ys := [(GPlace.mk (IntKind.i64.wrap (q78.From + p0_g.Events)) (IntKind.i64.wrap (q78.To + p0_g.Events)) q78.Delay q78.Tokens)]) (enc := (recs GPlace.cells)) hf hs rfl rfl rfl rfl rfl rfl hn56 rfl rfl ha86 el57 ti127 rfl rfl rfl (hs.rd (i := 6) rfl) (Nat.succ_pos _) (recs_length GPlace.len) (recs_append GPlace.cells) (recs_one GPlace.one) ?_; clear hf hs; intro a w A83 c84 hs hf
            have hs : St [] W w [.blk b1 59 [.int .i64 p0_g.Events, .slice A_p0_g_1 p0_g.Places.length c_p0_g_1], .blk b2 59 [.int .i64 p1_h.Events, .slice A_p1_h_1 p1_h.Places.length c_p1_h_1], .blk b3 59 [.int .i64 0, .slice none 0 0], .blk b25 59 [.int .i64 (IntKind.i64.wrap (p0_g.Events + p1_h.Events)), .slice A53 n54 c55], .row A83 xs85.length c84 127 4 ((recs GPlace.cells) xs85), .blk b80 127 [.int .i64 q78.From, .int .i64 q78.To, .int .i64 q78.Delay, .int .i64 q78.Tokens], .row A81 1 1 127 4 ((recs GPlace.cells) ([(GPlace.mk (IntKind.i64.wrap (q78.From + p0_g.Events)) (IntKind.i64.wrap (q78.To + p0_g.Events)) q78.Delay q78.Tokens)]))] := hs
            refine sY hf hs rfl rfl rfl (Y_fieldAddr rfl rfl fo59_1) ?_; clear hf; intro a hf
            refine sStore (i := 3) (us := [.slice A83 xs85.length c84]) hf hs rfl rfl rfl rfl rfl rfl ti57 rfl rfl rfl (Nat.le_of_ble_eq_true rfl) rfl ?_; clear hs; intro w hs
            have hs : St [] W w [.blk b1 59 [.int .i64 p0_g.Events, .slice A_p0_g_1 p0_g.Places.length c_p0_g_1], .blk b2 59 [.int .i64 p1_h.Events, .slice A_p1_h_1 p1_h.Places.length c_p1_h_1], .blk b3 59 [.int .i64 0, .slice none 0 0], .blk b25 59 [.int .i64 (IntKind.i64.wrap (p0_g.Events + p1_h.Events)), .slice A83 xs85.length c84], .row A83 xs85.length c84 127 4 ((recs GPlace.cells) xs85), .blk b80 127 [.int .i64 q78.From, .int .i64 q78.To, .int .i64 q78.Delay, .int .i64 q78.Tokens], .row A81 1 1 127 4 ((recs GPlace.cells) ([(GPlace.mk (IntKind.i64.wrap (q78.From + p0_g.Events)) (IntKind.i64.wrap (q78.To + p0_g.Events)) q78.Delay q78.Tokens)]))] := hs
            refine wpO_nil ?_
            refine wpL_nil (Qb_normal ?_)
            refine wpL_region ?_
            refine sY hf hs rfl rfl rfl (Y_move rfl rfl) ?_; clear hf; intro a hf
            refine sY hf hs rfl rfl rfl (Y_add rfl rfl rfl) ?_; clear hf; intro a hf
            refine sY hf hs rfl rfl rfl (Y_assign rfl rfl) ?_; clear hf; intro a hf
            refine wpO_nil ?_
            refine wpL_nil (Ql_normal ?_)
            exact ⟨xs85, (IntKind.i64.wrap (x57 + 1)), A83, xs85.length, c84, hm75, rfl, (FrD.pick (FrD.pick (FrD.pick (FrD.pick (FrD.pick hf.none hf rfl) hf rfl) hf rfl) hf rfl) hf rfl), hs.sel [0, 1, 2, 3, 4] (by decide)⟩
          · have hm75 := bif_f hm75 hb77
            refine wpL_exit (Ql_exit (Qb_exit ?_))
            exact ⟨xs52, A53, n54, c55, Option.some.inj hm75, hn56, (FrD.pick (FrD.pick hf.none hf rfl) hf rfl), hs.sel [2, 3, 4] (by decide)⟩
      · rintro a w ⟨xs68, A69, n70, c71, hr_, hn72, hf, hs⟩
        subst hr_
        try dsimp only at hm
        refine wpL_seq ?_
        refine wpL_region ?_
        refine sY hf hs rfl rfl rfl (Y_load_blkS rfl rfl (i := 1) rfl ag59 ti59 rfl) ?_; clear hf; intro a hf
        obtain ⟨r87, hc88, hm⟩ := bind_some hm
        refine sCall hf rfl rfl rfl rfl (cap := []) rfl rfl en130 (spec_l19Result_ok F (GEventGraph.mk (IntKind.i64.wrap (p0_g.Events + p1_h.Events)) xs68) A69 n70 c71 hn72 _ _ hc88 (hs.rd (i := 2) rfl)) ?_; clear hf
        rintro _ w ⟨A89, n90, c91, rfl, hn92, hal93, hs1⟩ a hf
        have hs : St [] W w [.blk b3 59 [.int .i64 0, .slice none 0 0], .blk b25 59 [.int .i64 (IntKind.i64.wrap (p0_g.Events + p1_h.Events)), .slice A69 n70 c71], .row A69 n70 c71 127 4 ((recs GPlace.cells) xs68)] := hs.ext hs1.below
        clear hs1
        have hs : St [] W w [.blk b3 59 [.int .i64 0, .slice none 0 0], .blk b25 59 [.int .i64 (IntKind.i64.wrap (p0_g.Events + p1_h.Events)), .slice A69 n70 c71], .row A89 n90 c91 127 4 ((recs GPlace.cells) r87.1.Places)] := hs.alias (i := 2) (enc := (recs GPlace.cells)) rfl rfl hal93
        refine sY hf hs rfl rfl rfl (Y_extract rfl rfl rfl) ?_; clear hf; intro a hf
        refine sY hf hs rfl rfl rfl (Y_extract rfl rfl rfl) ?_; clear hf; intro a hf
        refine sStore (i := 0) (us := [.int .i64 r87.1.Events, .slice A89 n90 c91]) hf hs rfl rfl rfl rfl rfl rfl ti59 rfl rfl rfl (Nat.le_of_ble_eq_true rfl) rfl ?_; clear hs; intro w hs
        have hs : St [] W w [.blk b3 59 [.int .i64 r87.1.Events, .slice A89 n90 c91], .blk b25 59 [.int .i64 (IntKind.i64.wrap (p0_g.Events + p1_h.Events)), .slice A69 n70 c71], .row A89 n90 c91 127 4 ((recs GPlace.cells) r87.1.Places)] := hs
        refine sY hf hs rfl rfl rfl (Y_assign rfl rfl) ?_; clear hf; intro a hf
        refine wpO_nil ?_
        obtain rfl := Option.some.inj hm
        refine wpL_ret (ret_cell_tmp rfl hf rfl rfl hs (i := 0) rfl ag59 ti59 rfl ?_)
        exact ⟨_, rfl, A89, n90, c91, rfl, hn92, hs.sel [2] (by decide)⟩

set_option maxRecDepth 100000 in
theorem spec_l11DrawIndex_ok (F : Nat) (b_p0_s : Nat) (p0_s_code : List Int) (A_p0_s_code : Option Addr) (n_p0_s_code c_p0_s_code : Nat) (hn_p0_s_code : n_p0_s_code = p0_s_code.length) (p0_s_at : Int) (p0_s_seed : Int) (r : (GEventGraph × Int) × Int × Int) (W : World) (hm : spec_l11DrawIndex F p0_s_code p0_s_at p0_s_seed = some r) (h_p0_s_code : KR (muL [.blk b_p0_s 145 [.slice A_p0_s_code n_p0_s_code c_p0_s_code, .int .i64 p0_s_at, .int .i64 p0_s_seed]]) W A_p0_s_code (bytes p0_s_code)) (hst : St (muL [.blk b_p0_s 145 [.slice A_p0_s_code n_p0_s_code c_p0_s_code, .int .i64 p0_s_at, .int .i64 p0_s_seed]]) W W [.blk b_p0_s 145 [.slice A_p0_s_code n_p0_s_code c_p0_s_code, .int .i64 p0_s_at, .int .i64 p0_s_seed]]) :
    Calls Try.prog 131 [.pointer (some ⟨b_p0_s, 0, none⟩)].toArray W fun e w' => ∃ v, e = .returned v ∧ ∃ A24, ∃ n25, ∃ c26, v = .tuple #[.agg #[.int .i64 r.1.1.Events, .slice A24 n25 c26], .int .i64 r.1.2] ∧ n25 = r.1.1.Places.length ∧ St (muL [.blk b_p0_s 145 [.slice A_p0_s_code n_p0_s_code c_p0_s_code, .int .i64 p0_s_at, .int .i64 p0_s_seed]]) W w' [.row A24 n25 c26 127 4 ((recs GPlace.cells) r.1.1.Places), .blk b_p0_s 145 [.slice A_p0_s_code n_p0_s_code c_p0_s_code, .int .i64 r.2.1, .int .i64 r.2.2]] := by
  subst hn_p0_s_code
  unfold spec_l11DrawIndex at hm
  refine Calls.enter (N := 23) Try.func131 rfl rfl rfl (fun a hf => ?_)
  have hs := hst
  obtain ⟨w, hw_⟩ : ∃ w, w = W := ⟨W, rfl⟩
  clear hw_ w
  refine wpL_seq ?_
  refine wpL_region ?_
  refine sAlloc hf hs rfl rfl rfl rfl ti59 ?_; clear hf hs; intro a w b1 hs hf
  have hs : St (muL [.blk b_p0_s 145 [.slice A_p0_s_code p0_s_code.length c_p0_s_code, .int .i64 p0_s_at, .int .i64 p0_s_seed]]) W w [.blk b_p0_s 145 [.slice A_p0_s_code p0_s_code.length c_p0_s_code, .int .i64 p0_s_at, .int .i64 p0_s_seed], .blk b1 59 [.int .i64 0, .slice none 0 0]] := hs
  refine sY hf hs rfl rfl rfl (Y_assign rfl rfl) ?_; clear hf; intro a hf
  refine wpO_nil ?_
  refine wpL_seq ?_
  refine wpL_region ?_
  refine sY hf hs rfl rfl rfl (Y_move rfl rfl) ?_; clear hf; intro a hf
  obtain ⟨r2, hc3, hm⟩ := bind_some hm
  refine sCall hf rfl rfl rfl rfl (cap := []) rfl rfl en125 (spec_l11Draw_ok F b_p0_s p0_s_code A_p0_s_code p0_s_code.length c_p0_s_code rfl p0_s_at p0_s_seed _ _ hc3 (h_p0_s_code.pass hs [0]) (hs.sel [0] (by decide)).rebase) ?_; clear hf
  rintro _ w ⟨A4, n5, c6, rfl, hn7, hs1⟩ a hf
  have hs : St (muL [.blk b_p0_s 145 [.slice A_p0_s_code p0_s_code.length c_p0_s_code, .int .i64 p0_s_at, .int .i64 p0_s_seed]]) W w [.blk b1 59 [.int .i64 0, .slice none 0 0], .row A4 n5 c6 127 4 ((recs GPlace.cells) r2.1.Places), .blk b_p0_s 145 [.slice A_p0_s_code p0_s_code.length c_p0_s_code, .int .i64 r2.2.1, .int .i64 r2.2.2]] := St.mutTail (La := [.blk b1 59 [.int .i64 0, .slice none 0 0]]) (Lb := [.blk b_p0_s 145 [.slice A_p0_s_code p0_s_code.length c_p0_s_code, .int .i64 p0_s_at, .int .i64 p0_s_seed]]) (hs.sel [1, 0] (by decide)) hs1
  clear hs1
  refine sAlloc hf hs rfl rfl rfl rfl ti59 ?_; clear hf hs; intro a w b8 hs hf
  have hs : St (muL [.blk b_p0_s 145 [.slice A_p0_s_code p0_s_code.length c_p0_s_code, .int .i64 p0_s_at, .int .i64 p0_s_seed]]) W w [.blk b1 59 [.int .i64 0, .slice none 0 0], .row A4 n5 c6 127 4 ((recs GPlace.cells) r2.1.Places), .blk b_p0_s 145 [.slice A_p0_s_code p0_s_code.length c_p0_s_code, .int .i64 r2.2.1, .int .i64 r2.2.2], .blk b8 59 [.int .i64 0, .slice none 0 0]] := hs
  refine sStore (i := 3) (us := [.int .i64 r2.1.Events, .slice A4 n5 c6]) hf hs rfl rfl rfl rfl rfl rfl ti59 rfl rfl rfl (Nat.le_of_ble_eq_true rfl) rfl ?_; clear hs; intro w hs
  have hs : St (muL [.blk b_p0_s 145 [.slice A_p0_s_code p0_s_code.length c_p0_s_code, .int .i64 p0_s_at, .int .i64 p0_s_seed]]) W w [.blk b1 59 [.int .i64 0, .slice none 0 0], .row A4 n5 c6 127 4 ((recs GPlace.cells) r2.1.Places), .blk b_p0_s 145 [.slice A_p0_s_code p0_s_code.length c_p0_s_code, .int .i64 r2.2.1, .int .i64 r2.2.2], .blk b8 59 [.int .i64 r2.1.Events, .slice A4 n5 c6]] := hs
  refine wpO_nil ?_
  refine wpL_seq ?_
  refine wpL_region ?_
  refine sY hf hs rfl rfl rfl (Y_fieldAddr rfl rfl fo59_1) ?_; clear hf; intro a hf
  refine sY hf hs rfl rfl rfl (Y_load_blk rfl rfl (i := 3) rfl rfl ag57) ?_; clear hf; intro a hf
  refine sY hf hs rfl rfl rfl (Y_lenH rfl rfl el57 hn7) ?_; clear hf; intro a hf
  refine sY hf hs rfl rfl rfl (Y_assign rfl rfl) ?_; clear hf; intro a hf
  refine wpO_nil ?_
  refine wpL_seq ?_
  refine wpL_seq ?_
  refine wpL_region ?_
  refine sY hf hs rfl rfl rfl (Y_move rfl rfl) ?_; clear hf; intro a hf
  obtain ⟨r9, hc10, hm⟩ := bind_some hm
  refine sCall hf rfl rfl rfl rfl (cap := []) rfl rfl en107 (spec_l01Next_ok F b_p0_s p0_s_code A_p0_s_code p0_s_code.length c_p0_s_code rfl r2.2.1 r2.2.2 20 _ _ hc10 (h_p0_s_code.pass hs [2]) (hs.sel [2] (by decide)).rebase) ?_; clear hf
  rintro _ w ⟨rfl, hs1⟩ a hf
  have hs : St (muL [.blk b_p0_s 145 [.slice A_p0_s_code p0_s_code.length c_p0_s_code, .int .i64 p0_s_at, .int .i64 p0_s_seed]]) W w [.blk b1 59 [.int .i64 0, .slice none 0 0], .row A4 n5 c6 127 4 ((recs GPlace.cells) r2.1.Places), .blk b8 59 [.int .i64 r2.1.Events, .slice A4 n5 c6], .blk b_p0_s 145 [.slice A_p0_s_code p0_s_code.length c_p0_s_code, .int .i64 r9.2.1, .int .i64 r9.2.2]] := St.mutTail (La := [.blk b1 59 [.int .i64 0, .slice none 0 0], .row A4 n5 c6 127 4 ((recs GPlace.cells) r2.1.Places), .blk b8 59 [.int .i64 r2.1.Events, .slice A4 n5 c6]]) (Lb := [.blk b_p0_s 145 [.slice A_p0_s_code p0_s_code.length c_p0_s_code, .int .i64 r2.2.1, .int .i64 r2.2.2]]) (hs.sel [0, 1, 3, 2] (by decide)) hs1
  clear hs1
  refine sY hf hs rfl rfl rfl (Y_eql rfl rfl rfl) ?_; clear hf; intro a hf
  refine wpO_nil ?_
  refine wpL_cond hf rfl (fun hb11 => ?_) (fun hb11 => ?_)
  · have hm := bif_t hm hb11
    refine wpL_seq ?_
    refine wpL_drawM [.blk b1 59 [.int .i64 0, .slice none 0 0], .row A4 n5 c6 127 4 ((recs GPlace.cells) r2.1.Places), .blk b8 59 [.int .i64 r2.1.Events, .slice A4 n5 c6]] [5] (by kernel_rfl) hs ?_; clear hs; intro w hs
    have hs0 : St (muL [.blk b_p0_s 145 [.slice A_p0_s_code p0_s_code.length c_p0_s_code, .int .i64 p0_s_at, .int .i64 p0_s_seed]]) W w [.blk b1 59 [.int .i64 0, .slice none 0 0], .row A4 n5 c6 127 4 ((recs GPlace.cells) r2.1.Places), .blk b8 59 [.int .i64 r2.1.Events, .slice A4 n5 c6]] := hs.sel [0, 1, 2] (by decide)
    refine mY (i := 0) [[]] rfl (by kernel_rfl) (by kernel_rfl) hf hs0 rfl rfl rfl (Y_load_blkS rfl rfl (i := 2) rfl ag59 ti59 rfl) ?_; clear hf; intro a hf
    refine mYp (i := 1) rfl (by kernel_rfl) (by kernel_rfl) hf rfl rfl rfl (fun _ => Y_move rfl rfl) ?_; clear hf; intro a hf
    refine mYp (i := 2) rfl (by kernel_rfl) (by kernel_rfl) hf rfl rfl rfl (fun _ => Y_move rfl rfl) ?_; clear hf; intro a hf
    refine mRun (i := 3) rfl (by kernel_rfl) ?_
    refine sBuildSlice (parts := [(0, .const (.int .i64 (-1))), (1, .tmp 16)]) (vs := [.int .i64 (-1), .int .i64 (r2.1.Places.length : Int)]) (cells := [.int .i64 (-1), .int .i64 (r2.1.Places.length : Int)]) hf hs rfl rfl rfl rfl rfl el23 ti2 rfl rfl rfl rfl ?_; clear hf hs; intro a w A16 hs hA17 hf
    have hs : St (muL [.blk b_p0_s 145 [.slice A_p0_s_code p0_s_code.length c_p0_s_code, .int .i64 p0_s_at, .int .i64 p0_s_seed]]) W w [.blk b1 59 [.int .i64 0, .slice none 0 0], .row A4 n5 c6 127 4 ((recs GPlace.cells) r2.1.Places), .blk b8 59 [.int .i64 r2.1.Events, .slice A4 n5 c6], .blk b_p0_s 145 [.slice A_p0_s_code p0_s_code.length c_p0_s_code, .int .i64 r9.2.1, .int .i64 r9.2.2], .row A16 2 2 2 1 (ints ([(-1), (r2.1.Places.length : Int)]))] := hs
    have hs0 : St (muL [.blk b_p0_s 145 [.slice A_p0_s_code p0_s_code.length c_p0_s_code, .int .i64 p0_s_at, .int .i64 p0_s_seed]]) W w [.blk b1 59 [.int .i64 0, .slice none 0 0], .row A4 n5 c6 127 4 ((recs GPlace.cells) r2.1.Places), .blk b8 59 [.int .i64 r2.1.Events, .slice A4 n5 c6]] := hs.sel [0, 1, 2] (by decide)
    refine wpO_nil ⟨Or.inr (fun _ => hs0), ?_⟩
    refine mRun (i := 4) rfl (by kernel_rfl) ?_
    obtain ⟨r18, hc19, hm⟩ := bind_some hm
    refine sCall hf rfl rfl rfl rfl (cap := []) rfl rfl en114 (spec_l01Pick_ok F b_p0_s p0_s_code A_p0_s_code p0_s_code.length c_p0_s_code rfl r9.2.1 r9.2.2 ([(-1), (r2.1.Places.length : Int)]) A16 2 2 rfl _ _ hc19 (h_p0_s_code.pass hs [3]) (hs.keepR (i := 4) rfl [3] (by decide)) (hs.sel [3] (by decide)).rebase) ?_; clear hf
    rintro _ w ⟨rfl, hs1⟩ a hf
    have hs : St (muL [.blk b_p0_s 145 [.slice A_p0_s_code p0_s_code.length c_p0_s_code, .int .i64 p0_s_at, .int .i64 p0_s_seed]]) W w [.blk b1 59 [.int .i64 0, .slice none 0 0], .row A4 n5 c6 127 4 ((recs GPlace.cells) r2.1.Places), .blk b8 59 [.int .i64 r2.1.Events, .slice A4 n5 c6], .row A16 2 2 2 1 (ints ([(-1), (r2.1.Places.length : Int)])), .blk b_p0_s 145 [.slice A_p0_s_code p0_s_code.length c_p0_s_code, .int .i64 r18.2.1, .int .i64 r18.2.2]] := St.mutTail (La := [.blk b1 59 [.int .i64 0, .slice none 0 0], .row A4 n5 c6 127 4 ((recs GPlace.cells) r2.1.Places), .blk b8 59 [.int .i64 r2.1.Events, .slice A4 n5 c6], .row A16 2 2 2 1 (ints ([(-1), (r2.1.Places.length : Int)]))]) (Lb := [.blk b_p0_s 145 [.slice A_p0_s_code p0_s_code.length c_p0_s_code, .int .i64 r9.2.1, .int .i64 r9.2.2]]) (hs.sel [0, 1, 2, 4, 3] (by decide)) hs1
    clear hs1
    have hs0 : St (muL [.blk b_p0_s 145 [.slice A_p0_s_code p0_s_code.length c_p0_s_code, .int .i64 p0_s_at, .int .i64 p0_s_seed]]) W w [.blk b1 59 [.int .i64 0, .slice none 0 0], .row A4 n5 c6 127 4 ((recs GPlace.cells) r2.1.Places), .blk b8 59 [.int .i64 r2.1.Events, .slice A4 n5 c6]] := hs.sel [0, 1, 2] (by decide)
    refine wpO_nil ⟨Or.inr (fun _ => hs0), ?_⟩
    refine mRun (i := 5) rfl (by kernel_rfl) ?_
    refine sStore (i := 0) (us := [.int .i64 r2.1.Events, .slice A4 n5 c6]) hf hs rfl rfl rfl rfl rfl rfl ti59 rfl rfl rfl (Nat.le_of_ble_eq_true rfl) rfl ?_; clear hs; intro w hs
    have hs : St (muL [.blk b_p0_s 145 [.slice A_p0_s_code p0_s_code.length c_p0_s_code, .int .i64 p0_s_at, .int .i64 p0_s_seed]]) W w [.blk b1 59 [.int .i64 r2.1.Events, .slice A4 n5 c6], .row A4 n5 c6 127 4 ((recs GPlace.cells) r2.1.Places), .blk b8 59 [.int .i64 r2.1.Events, .slice A4 n5 c6], .row A16 2 2 2 1 (ints ([(-1), (r2.1.Places.length : Int)])), .blk b_p0_s 145 [.slice A_p0_s_code p0_s_code.length c_p0_s_code, .int .i64 r18.2.1, .int .i64 r18.2.2]] := hs
    refine wpO_nil ⟨Or.inl (by decide), ?_⟩
    refine mYp (i := 6) rfl (by kernel_rfl) (by kernel_rfl) hf rfl rfl rfl (fun _ => Y_assign rfl rfl) ?_; clear hf; intro a hf
    refine mDone (by kernel_rfl) ?_
    clear hs0
    obtain rfl := Option.some.inj hm
    refine wpL_ret (ret_cell_tmp rfl hf rfl rfl hs (i := 0) rfl ag59 ti59 rfl ?_)
    exact ⟨_, rfl, A4, n5, c6, rfl, hn7, hs.sel [1, 4] (by decide)⟩
  · have hm := bif_f hm hb11
    refine wpL_skip ?_
    refine wpL_seq ?_
    refine wpL_drawM [.blk b1 59 [.int .i64 0, .slice none 0 0], .row A4 n5 c6 127 4 ((recs GPlace.cells) r2.1.Places), .blk b8 59 [.int .i64 r2.1.Events, .slice A4 n5 c6]] [4] (by kernel_rfl) hs ?_; clear hs; intro w hs
    have hs0 : St (muL [.blk b_p0_s 145 [.slice A_p0_s_code p0_s_code.length c_p0_s_code, .int .i64 p0_s_at, .int .i64 p0_s_seed]]) W w [.blk b1 59 [.int .i64 0, .slice none 0 0], .row A4 n5 c6 127 4 ((recs GPlace.cells) r2.1.Places), .blk b8 59 [.int .i64 r2.1.Events, .slice A4 n5 c6]] := hs.sel [0, 1, 2] (by decide)
    refine mY (i := 0) [[]] rfl (by kernel_rfl) (by kernel_rfl) hf hs0 rfl rfl rfl (Y_load_blkS rfl rfl (i := 2) rfl ag59 ti59 rfl) ?_; clear hf; intro a hf
    refine mYp (i := 1) rfl (by kernel_rfl) (by kernel_rfl) hf rfl rfl rfl (fun _ => Y_move rfl rfl) ?_; clear hf; intro a hf
    refine mYp (i := 2) rfl (by kernel_rfl) (by kernel_rfl) hf rfl rfl rfl (fun _ => Y_move rfl rfl) ?_; clear hf; intro a hf
    refine mRun (i := 3) rfl (by kernel_rfl) ?_
    obtain ⟨r22, hc23, hm⟩ := bind_some hm
    refine sCall hf rfl rfl rfl rfl (cap := []) rfl rfl en107 (spec_l01Next_ok F b_p0_s p0_s_code A_p0_s_code p0_s_code.length c_p0_s_code rfl r9.2.1 r9.2.2 (r2.1.Places.length : Int) _ _ hc23 (h_p0_s_code.pass hs [3]) (hs.sel [3] (by decide)).rebase) ?_; clear hf
    rintro _ w ⟨rfl, hs1⟩ a hf
    have hs : St (muL [.blk b_p0_s 145 [.slice A_p0_s_code p0_s_code.length c_p0_s_code, .int .i64 p0_s_at, .int .i64 p0_s_seed]]) W w [.blk b1 59 [.int .i64 0, .slice none 0 0], .row A4 n5 c6 127 4 ((recs GPlace.cells) r2.1.Places), .blk b8 59 [.int .i64 r2.1.Events, .slice A4 n5 c6], .blk b_p0_s 145 [.slice A_p0_s_code p0_s_code.length c_p0_s_code, .int .i64 r22.2.1, .int .i64 r22.2.2]] := St.mutTail (La := [.blk b1 59 [.int .i64 0, .slice none 0 0], .row A4 n5 c6 127 4 ((recs GPlace.cells) r2.1.Places), .blk b8 59 [.int .i64 r2.1.Events, .slice A4 n5 c6]]) (Lb := [.blk b_p0_s 145 [.slice A_p0_s_code p0_s_code.length c_p0_s_code, .int .i64 r9.2.1, .int .i64 r9.2.2]]) (hs.sel [0, 1, 2, 3] (by decide)) hs1
    clear hs1
    have hs0 : St (muL [.blk b_p0_s 145 [.slice A_p0_s_code p0_s_code.length c_p0_s_code, .int .i64 p0_s_at, .int .i64 p0_s_seed]]) W w [.blk b1 59 [.int .i64 0, .slice none 0 0], .row A4 n5 c6 127 4 ((recs GPlace.cells) r2.1.Places), .blk b8 59 [.int .i64 r2.1.Events, .slice A4 n5 c6]] := hs.sel [0, 1, 2] (by decide)
    refine wpO_nil ⟨Or.inr (fun _ => hs0), ?_⟩
    refine mRun (i := 4) rfl (by kernel_rfl) ?_
    refine sStore (i := 0) (us := [.int .i64 r2.1.Events, .slice A4 n5 c6]) hf hs rfl rfl rfl rfl rfl rfl ti59 rfl rfl rfl (Nat.le_of_ble_eq_true rfl) rfl ?_; clear hs; intro w hs
    have hs : St (muL [.blk b_p0_s 145 [.slice A_p0_s_code p0_s_code.length c_p0_s_code, .int .i64 p0_s_at, .int .i64 p0_s_seed]]) W w [.blk b1 59 [.int .i64 r2.1.Events, .slice A4 n5 c6], .row A4 n5 c6 127 4 ((recs GPlace.cells) r2.1.Places), .blk b8 59 [.int .i64 r2.1.Events, .slice A4 n5 c6], .blk b_p0_s 145 [.slice A_p0_s_code p0_s_code.length c_p0_s_code, .int .i64 r22.2.1, .int .i64 r22.2.2]] := hs
    refine wpO_nil ⟨Or.inl (by decide), ?_⟩
    refine mYp (i := 5) rfl (by kernel_rfl) (by kernel_rfl) hf rfl rfl rfl (fun _ => Y_assign rfl rfl) ?_; clear hf; intro a hf
    refine mDone (by kernel_rfl) ?_
    clear hs0
    obtain rfl := Option.some.inj hm
    refine wpL_ret (ret_cell_tmp rfl hf rfl rfl hs (i := 0) rfl ag59 ti59 rfl ?_)
    exact ⟨_, rfl, A4, n5, c6, rfl, hn7, hs.sel [1, 3] (by decide)⟩

set_option maxRecDepth 100000 in
theorem spec_DrawSplitPlace_ok (F : Nat) (p0_code : List Int) (A_p0_code_1 : Option Addr) (n_p0_code_1 c_p0_code_1 : Nat) (hn_p0_code_1 : n_p0_code_1 = p0_code.length) (r : GEventGraph × Int × Int) (W : World) (hm : spec_DrawSplitPlace F p0_code = some r) (h_p0_code_1 : Rd W A_p0_code_1 (bytes p0_code)) :
    Calls Try.prog 44 [.slice A_p0_code_1 n_p0_code_1 c_p0_code_1].toArray W fun e w' => ∃ v, e = .returned v ∧ ∃ A20, ∃ n21, ∃ c22, v = .tuple #[.agg #[.int .i64 r.1.Events, .slice A20 n21 c22], .int .i64 r.2.1, .int .i64 r.2.2] ∧ n21 = r.1.Places.length ∧ St [] W w' [.row A20 n21 c22 127 4 ((recs GPlace.cells) r.1.Places)] := by
  subst hn_p0_code_1
  unfold spec_DrawSplitPlace at hm
  refine Calls.enter (N := 23) Try.func44 rfl rfl rfl (fun a hf => ?_)
  have hs := St.start W
  obtain ⟨w, hw_⟩ : ∃ w, w = W := ⟨W, rfl⟩
  clear hw_ w
  refine wpL_seq ?_
  refine wpL_region ?_
  refine sAlloc hf hs rfl rfl rfl rfl ti59 ?_; clear hf hs; intro a w b1 hs hf
  have hs : St [] W w [.blk b1 59 [.int .i64 0, .slice none 0 0]] := hs
  refine sY hf hs rfl rfl rfl (Y_assign rfl rfl) ?_; clear hf; intro a hf
  refine sY hf hs rfl rfl rfl (Y_assign rfl rfl) ?_; clear hf; intro a hf
  refine wpO_nil ?_
  refine wpL_seq ?_
  refine wpL_region ?_
  refine sY hf hs rfl rfl rfl (Y_move rfl rfl) ?_; clear hf; intro a hf
  obtain ⟨r2, hc3, hm⟩ := bind_some hm
  refine sCall hf rfl rfl rfl rfl (cap := []) rfl rfl en101 (spec_l01From_ok F p0_code A_p0_code_1 p0_code.length c_p0_code_1 rfl _ _ hc3 (h_p0_code_1.at hs)) ?_; clear hf
  rintro _ w ⟨b4, rfl, hs1⟩ a hf
  have hs : St [] W w [.blk b1 59 [.int .i64 0, .slice none 0 0], .blk b4 145 [.slice A_p0_code_1 p0_code.length c_p0_code_1, .int .i64 r2.1, .int .i64 r2.2]] := hs.join hs1
  clear hs1
  refine sY hf hs rfl rfl rfl (Y_assign rfl rfl) ?_; clear hf; intro a hf
  refine wpO_nil ?_
  refine wpL_seq ?_
  refine wpL_region ?_
  refine sY hf hs rfl rfl rfl (Y_move rfl rfl) ?_; clear hf; intro a hf
  obtain ⟨r5, hc6, hm⟩ := bind_some hm
  refine sCall hf rfl rfl rfl rfl (cap := []) rfl rfl en131 (spec_l11DrawIndex_ok F b4 p0_code A_p0_code_1 p0_code.length c_p0_code_1 rfl r2.1 r2.2 _ _ hc6 (h_p0_code_1.pass hs [1]) (hs.sel [1] (by decide)).rebase) ?_; clear hf
  rintro _ w ⟨A7, n8, c9, rfl, hn10, hs1⟩ a hf
  have hs : St [] W w [.blk b1 59 [.int .i64 0, .slice none 0 0], .row A7 n8 c9 127 4 ((recs GPlace.cells) r5.1.1.Places), .blk b4 145 [.slice A_p0_code_1 p0_code.length c_p0_code_1, .int .i64 r5.2.1, .int .i64 r5.2.2]] := St.mutTail (La := [.blk b1 59 [.int .i64 0, .slice none 0 0]]) (Lb := [.blk b4 145 [.slice A_p0_code_1 p0_code.length c_p0_code_1, .int .i64 r2.1, .int .i64 r2.2]]) (hs.sel [0, 1] (by decide)) hs1
  clear hs1
  refine sY hf hs rfl rfl rfl (Y_move rfl rfl) ?_; clear hf; intro a hf
  refine sY hf hs rfl rfl rfl (Y_extract rfl rfl rfl) ?_; clear hf; intro a hf
  refine sY hf hs rfl rfl rfl (Y_extract rfl rfl rfl) ?_; clear hf; intro a hf
  refine sAlloc hf hs rfl rfl rfl rfl ti59 ?_; clear hf hs; intro a w b11 hs hf
  have hs : St [] W w [.blk b1 59 [.int .i64 0, .slice none 0 0], .row A7 n8 c9 127 4 ((recs GPlace.cells) r5.1.1.Places), .blk b4 145 [.slice A_p0_code_1 p0_code.length c_p0_code_1, .int .i64 r5.2.1, .int .i64 r5.2.2], .blk b11 59 [.int .i64 0, .slice none 0 0]] := hs
  refine sStore (i := 3) (us := [.int .i64 r5.1.1.Events, .slice A7 n8 c9]) hf hs rfl rfl rfl rfl rfl rfl ti59 rfl rfl rfl (Nat.le_of_ble_eq_true rfl) rfl ?_; clear hs; intro w hs
  have hs : St [] W w [.blk b1 59 [.int .i64 0, .slice none 0 0], .row A7 n8 c9 127 4 ((recs GPlace.cells) r5.1.1.Places), .blk b4 145 [.slice A_p0_code_1 p0_code.length c_p0_code_1, .int .i64 r5.2.1, .int .i64 r5.2.2], .blk b11 59 [.int .i64 r5.1.1.Events, .slice A7 n8 c9]] := hs
  refine sY hf hs rfl rfl rfl (Y_assign rfl rfl) ?_; clear hf; intro a hf
  refine wpO_nil ?_
  refine wpL_seq ?_
  refine wpL_drawM [.blk b1 59 [.int .i64 0, .slice none 0 0], .row A7 n8 c9 127 4 ((recs GPlace.cells) r5.1.1.Places), .blk b11 59 [.int .i64 r5.1.1.Events, .slice A7 n8 c9]] [8] (by kernel_rfl) hs ?_; clear hs; intro w hs
  have hs0 : St [] W w [.blk b1 59 [.int .i64 0, .slice none 0 0], .row A7 n8 c9 127 4 ((recs GPlace.cells) r5.1.1.Places), .blk b11 59 [.int .i64 r5.1.1.Events, .slice A7 n8 c9]] := hs.sel [0, 1, 3] (by decide)
  refine mY (i := 0) [[]] rfl (by kernel_rfl) (by kernel_rfl) hf hs0 rfl rfl rfl (Y_load_blkS rfl rfl (i := 2) rfl ag59 ti59 rfl) ?_; clear hf; intro a hf
  refine mYp (i := 1) rfl (by kernel_rfl) (by kernel_rfl) hf rfl rfl rfl (fun _ => Y_move rfl rfl) ?_; clear hf; intro a hf
  refine mYp (i := 2) rfl (by kernel_rfl) (by kernel_rfl) hf rfl rfl rfl (fun _ => Y_move rfl rfl) ?_; clear hf; intro a hf
  refine mYp (i := 4) rfl (by kernel_rfl) (by kernel_rfl) hf rfl rfl rfl (fun _ => Y_move rfl rfl) ?_; clear hf; intro a hf
  refine mRun (i := 3) rfl (by kernel_rfl) ?_
  obtain ⟨r16, hc17, hm⟩ := bind_some hm
  refine sCall hf rfl rfl rfl rfl (cap := []) rfl rfl en107 (spec_l01Next_ok F b4 p0_code A_p0_code_1 p0_code.length c_p0_code_1 rfl r5.2.1 r5.2.2 14 _ _ hc17 (h_p0_code_1.pass hs [2]) (hs.sel [2] (by decide)).rebase) ?_; clear hf
  rintro _ w ⟨rfl, hs1⟩ a hf
  have hs : St [] W w [.blk b1 59 [.int .i64 0, .slice none 0 0], .row A7 n8 c9 127 4 ((recs GPlace.cells) r5.1.1.Places), .blk b11 59 [.int .i64 r5.1.1.Events, .slice A7 n8 c9], .blk b4 145 [.slice A_p0_code_1 p0_code.length c_p0_code_1, .int .i64 r16.2.1, .int .i64 r16.2.2]] := St.mutTail (La := [.blk b1 59 [.int .i64 0, .slice none 0 0], .row A7 n8 c9 127 4 ((recs GPlace.cells) r5.1.1.Places), .blk b11 59 [.int .i64 r5.1.1.Events, .slice A7 n8 c9]]) (Lb := [.blk b4 145 [.slice A_p0_code_1 p0_code.length c_p0_code_1, .int .i64 r5.2.1, .int .i64 r5.2.2]]) (hs.sel [0, 1, 3, 2] (by decide)) hs1
  clear hs1
  have hs0 : St [] W w [.blk b1 59 [.int .i64 0, .slice none 0 0], .row A7 n8 c9 127 4 ((recs GPlace.cells) r5.1.1.Places), .blk b11 59 [.int .i64 r5.1.1.Events, .slice A7 n8 c9]] := hs.sel [0, 1, 2] (by decide)
  refine wpO_nil ⟨Or.inr (fun _ => hs0), ?_⟩
  refine mRun (i := 5) rfl (by kernel_rfl) ?_
  obtain ⟨r18, hc19, hm⟩ := bind_some hm
  refine sCall hf rfl rfl rfl rfl (cap := []) rfl rfl en107 (spec_l01Next_ok F b4 p0_code A_p0_code_1 p0_code.length c_p0_code_1 rfl r16.2.1 r16.2.2 20 _ _ hc19 (h_p0_code_1.pass hs [3]) (hs.sel [3] (by decide)).rebase) ?_; clear hf
  rintro _ w ⟨rfl, hs1⟩ a hf
  have hs : St [] W w [.blk b1 59 [.int .i64 0, .slice none 0 0], .row A7 n8 c9 127 4 ((recs GPlace.cells) r5.1.1.Places), .blk b11 59 [.int .i64 r5.1.1.Events, .slice A7 n8 c9], .blk b4 145 [.slice A_p0_code_1 p0_code.length c_p0_code_1, .int .i64 r18.2.1, .int .i64 r18.2.2]] := St.mutTail (La := [.blk b1 59 [.int .i64 0, .slice none 0 0], .row A7 n8 c9 127 4 ((recs GPlace.cells) r5.1.1.Places), .blk b11 59 [.int .i64 r5.1.1.Events, .slice A7 n8 c9]]) (Lb := [.blk b4 145 [.slice A_p0_code_1 p0_code.length c_p0_code_1, .int .i64 r16.2.1, .int .i64 r16.2.2]]) (hs.sel [0, 1, 2, 3] (by decide)) hs1
  clear hs1
  have hs0 : St [] W w [.blk b1 59 [.int .i64 0, .slice none 0 0], .row A7 n8 c9 127 4 ((recs GPlace.cells) r5.1.1.Places), .blk b11 59 [.int .i64 r5.1.1.Events, .slice A7 n8 c9]] := hs.sel [0, 1, 2] (by decide)
  refine wpO_nil ⟨Or.inr (fun _ => hs0), ?_⟩
  refine mYp (i := 6) rfl (by kernel_rfl) (by kernel_rfl) hf rfl rfl rfl (fun _ => Y_quo rfl rfl rfl (by decide)) ?_; clear hf; intro a hf
  refine mYp (i := 7) rfl (by kernel_rfl) (by kernel_rfl) hf rfl rfl rfl (fun _ => Y_sub rfl rfl rfl) ?_; clear hf; intro a hf
  refine mRun (i := 8) rfl (by kernel_rfl) ?_
  refine sStore (i := 0) (us := [.int .i64 r5.1.1.Events, .slice A7 n8 c9]) hf hs rfl rfl rfl rfl rfl rfl ti59 rfl rfl rfl (Nat.le_of_ble_eq_true rfl) rfl ?_; clear hs; intro w hs
  have hs : St [] W w [.blk b1 59 [.int .i64 r5.1.1.Events, .slice A7 n8 c9], .row A7 n8 c9 127 4 ((recs GPlace.cells) r5.1.1.Places), .blk b11 59 [.int .i64 r5.1.1.Events, .slice A7 n8 c9], .blk b4 145 [.slice A_p0_code_1 p0_code.length c_p0_code_1, .int .i64 r18.2.1, .int .i64 r18.2.2]] := hs
  refine wpO_nil ⟨Or.inl (by decide), ?_⟩
  refine mYp (i := 9) rfl (by kernel_rfl) (by kernel_rfl) hf rfl rfl rfl (fun _ => Y_assign rfl rfl) ?_; clear hf; intro a hf
  refine mYp (i := 10) rfl (by kernel_rfl) (by kernel_rfl) hf rfl rfl rfl (fun _ => Y_assign rfl rfl) ?_; clear hf; intro a hf
  refine mDone (by kernel_rfl) ?_
  clear hs0
  obtain rfl := Option.some.inj hm
  refine wpL_ret (ret_cell_tmp2 rfl hf rfl rfl rfl hs (i := 0) rfl ag59 ti59 rfl ?_)
  exact ⟨_, rfl, A7, n8, c9, rfl, hn10, hs.sel [1] (by decide)⟩

set_option maxRecDepth 100000 in
theorem impl_SplitPlace_ok (F : Nat) (p0 : GEventGraph) (A_p0_1 : Option Addr) (n_p0_1 c_p0_1 : Nat) (hn_p0_1 : n_p0_1 = p0.Places.length) (p1 : Int) (p2 : Int) (r : GEventGraph × Int) (W : World) (hm : impl_SplitPlace F p0 p1 p2 = some r) (h_p0_1 : Rd W A_p0_1 ((recs GPlace.cells) p0.Places)) :
    Calls Try.prog 45 [.agg #[.int .i64 p0.Events, .slice A_p0_1 n_p0_1 c_p0_1], .int .i64 p1, .int .i64 p2].toArray W fun e w' => ∃ v, e = .returned v ∧ ∃ A53, ∃ n54, ∃ c55, v = .tuple #[.agg #[.int .i64 r.1.Events, .slice A53 n54 c55], .int .i64 r.2] ∧ n54 = r.1.Places.length ∧ St [] W w' [.row A53 n54 c55 127 4 ((recs GPlace.cells) r.1.Places)] := by
  subst hn_p0_1
  unfold impl_SplitPlace at hm
  refine Calls.enter (N := 74) Try.func45 rfl rfl rfl (fun a hf => ?_)
  have hs := St.start W
  obtain ⟨w, hw_⟩ : ∃ w, w = W := ⟨W, rfl⟩
  clear hw_ w
  refine wpL_seq ?_
  refine wpL_region ?_
  refine sBox hf hs rfl rfl rfl rfl rfl (cs := [.int .i64 p0.Events, .slice A_p0_1 p0.Places.length c_p0_1]) rfl ?_; clear hf hs; intro a w b1 hs hf
  have hs : St [] W w [.blk b1 59 [.int .i64 p0.Events, .slice A_p0_1 p0.Places.length c_p0_1]] := hs
  refine sAlloc hf hs rfl rfl rfl rfl ti59 ?_; clear hf hs; intro a w b2 hs hf
  have hs : St [] W w [.blk b1 59 [.int .i64 p0.Events, .slice A_p0_1 p0.Places.length c_p0_1], .blk b2 59 [.int .i64 0, .slice none 0 0]] := hs
  refine sY hf hs rfl rfl rfl (Y_assign rfl rfl) ?_; clear hf; intro a hf
  refine wpO_nil ?_
  refine wpL_seq ?_
  refine wpL_seq ?_
  refine wpL_region ?_
  refine sY hf hs rfl rfl rfl (Y_load_blkS rfl rfl (i := 0) rfl ag59 ti59 rfl) ?_; clear hf; intro a hf
  obtain ⟨r3, hc4, hm⟩ := bind_some hm
  refine sCall hf rfl rfl rfl rfl (cap := []) rfl rfl en51 (impl_IsEventGraph_ok F p0 A_p0_1 p0.Places.length c_p0_1 rfl _ _ hc4 (h_p0_1.at hs)) ?_; clear hf
  rintro _ w ⟨rfl, hs1⟩ a hf
  have hs : St [] W w [.blk b1 59 [.int .i64 p0.Events, .slice A_p0_1 p0.Places.length c_p0_1], .blk b2 59 [.int .i64 0, .slice none 0 0]] := hs.ext hs1.below
  clear hs1
  refine sY hf hs rfl rfl rfl (Y_not rfl rfl) ?_; clear hf; intro a hf
  refine wpO_nil ?_
  refine wpL_cond hf rfl (fun hb5 => ?_) (fun hb5 => ?_)
  · have hm := bif_t hm hb5
    refine wpL_seq ?_
    refine wpL_region ?_
    refine sY hf hs rfl rfl rfl (Y_build (parts := []) (vs := []) rfl rfl (run_build (parts := []) (cells := [.int .i64 0, .slice none 0 0]) (places := #[(0, 1), (1, 1)]) ti59 Try.underlying59 (fun w => by simp [go_sem]) rfl)) ?_; clear hf; intro a hf
    refine sStore (i := 1) (us := [.int .i64 0, .slice none 0 0]) hf hs rfl rfl rfl rfl rfl rfl ti59 rfl rfl rfl (Nat.le_of_ble_eq_true rfl) rfl ?_; clear hs; intro w hs
    have hs : St [] W w [.blk b1 59 [.int .i64 p0.Events, .slice A_p0_1 p0.Places.length c_p0_1], .blk b2 59 [.int .i64 0, .slice none 0 0]] := hs
    refine sY hf hs rfl rfl rfl (Y_assign rfl rfl) ?_; clear hf; intro a hf
    refine wpO_nil ?_
    have hs : St [] W _ [.blk b1 59 [.int .i64 p0.Events, .slice A_p0_1 p0.Places.length c_p0_1], .blk b2 59 [.int .i64 0, .slice none 0 0], .row none 0 0 127 4 ((recs GPlace.cells) ([] : List GPlace))] := hs.addNil 127 4
    obtain rfl := Option.some.inj hm
    refine wpL_ret (ret_cell_tmp rfl hf rfl rfl hs (i := 1) rfl ag59 ti59 rfl ?_)
    exact ⟨_, rfl, none, 0, 0, rfl, rfl, hs.sel [2] (by decide)⟩
  · have hm := bif_f hm hb5
    refine wpL_skip ?_
    refine wpL_seq ?_
    refine wpL_seq ?_
    obtain ⟨r15, hj16, hm⟩ := bind_some hm
    refine wpL_cut (fun a w => ∃ b14 : Bool, b14 = r15 ∧ Fr a 74 [(1, .int .i64 p1), (2, .int .i64 p2), (3, .pointer (some ⟨b1, 0, none⟩)), (6, .pointer (some ⟨b2, 0, none⟩)), (31, .bool b14)] ∧ St [] W w [.blk b1 59 [.int .i64 p0.Events, .slice A_p0_1 p0.Places.length c_p0_1], .blk b2 59 [.int .i64 0, .slice none 0 0]]) ?_ ?_
    · refine wpL_region ?_
      refine sY hf hs rfl rfl rfl (Y_move rfl rfl) ?_; clear hf; intro a hf
      refine sY hf hs rfl rfl rfl (Y_fieldAddr rfl rfl fo59_1) ?_; clear hf; intro a hf
      refine sY hf hs rfl rfl rfl (Y_load_blk rfl rfl (i := 0) rfl rfl ag57) ?_; clear hf; intro a hf
      refine sY hf hs rfl rfl rfl (Y_lenH rfl rfl el57 rfl) ?_; clear hf; intro a hf
      refine sY hf hs rfl rfl rfl (Y_sub rfl rfl rfl) ?_; clear hf; intro a hf
      obtain ⟨r17, hc18, hj16⟩ := bind_some hj16
      refine sCall hf rfl rfl rfl rfl (cap := []) rfl rfl en105 (impl_within_ok F p1 0 (IntKind.i64.wrap ((p0.Places.length : Int) - 1)) _ _ hc18) ?_; clear hf
      rintro _ w ⟨rfl, hs1⟩ a hf
      have hs : St [] W w [.blk b1 59 [.int .i64 p0.Events, .slice A_p0_1 p0.Places.length c_p0_1], .blk b2 59 [.int .i64 0, .slice none 0 0]] := hs.ext hs1.below
      clear hs1
      refine sY hf hs rfl rfl rfl (Y_not rfl rfl) ?_; clear hf; intro a hf
      refine sY hf hs rfl rfl rfl (Y_move rfl rfl) ?_; clear hf; intro a hf
      refine bsplit (!r17) (fun hb19 => ?_) (fun hb19 => ?_)
      · have hj16 := bif_t hj16 hb19
        refine sNo hf rfl rfl rfl (congrArg (fun b => some (Value.bool b)) hb19) rfl rfl rfl ?_; clear hf; intro a hf
        refine sNo hf rfl rfl rfl (congrArg (fun b => some (Value.bool b)) hb19) rfl rfl rfl ?_; clear hf; intro a hf
        refine sNo hf rfl rfl rfl (congrArg (fun b => some (Value.bool b)) hb19) rfl rfl rfl ?_; clear hf; intro a hf
        refine sNo hf rfl rfl rfl (congrArg (fun b => some (Value.bool b)) hb19) rfl rfl rfl ?_; clear hf; intro a hf
        refine sNo hf rfl rfl rfl (congrArg (fun b => some (Value.bool b)) hb19) rfl rfl rfl ?_; clear hf; intro a hf
        refine sNo hf rfl rfl rfl (congrArg (fun b => some (Value.bool b)) hb19) rfl rfl rfl ?_; clear hf; intro a hf
        refine sNo hf rfl rfl rfl (congrArg (fun b => some (Value.bool b)) hb19) rfl rfl rfl ?_; clear hf; intro a hf
        refine sNo hf rfl rfl rfl (congrArg (fun b => some (Value.bool b)) hb19) rfl rfl rfl ?_; clear hf; intro a hf
        refine sNo hf rfl rfl rfl (congrArg (fun b => some (Value.bool b)) hb19) rfl rfl rfl ?_; clear hf; intro a hf
        refine sY hf hs rfl rfl rfl (Y_pickT rfl (congrArg (fun b => some (Value.bool b)) hb19) rfl) ?_; clear hf; intro a hf
        refine wpO_nil ?_
        refine wpL_nil (then_normal ?_)
        exact ⟨true, Option.some.inj hj16, (FrD.pick (FrD.pick (FrD.pick (FrD.pick (FrD.pick hf.none hf rfl) hf rfl) hf rfl) hf rfl) hf rfl), hs⟩
      · have hj16 := bif_f hj16 hb19
        refine sYg hf hs rfl rfl rfl (congrArg (fun b => some (Value.bool b)) hb19) rfl rfl rfl (Y_move rfl rfl) ?_; clear hf; intro a hf
        refine sYg hf hs rfl rfl rfl (congrArg (fun b => some (Value.bool b)) hb19) rfl rfl rfl (Y_fieldAddr rfl rfl fo59_1) ?_; clear hf; intro a hf
        refine sYg hf hs rfl rfl rfl (congrArg (fun b => some (Value.bool b)) hb19) rfl rfl rfl (Y_load_blk rfl rfl (i := 0) rfl rfl ag57) ?_; clear hf; intro a hf
        refine sYg hf hs rfl rfl rfl (congrArg (fun b => some (Value.bool b)) hb19) rfl rfl rfl (Y_move rfl rfl) ?_; clear hf; intro a hf
        obtain ⟨q20, hi21, hj16⟩ := bind_some hj16
        obtain ⟨hi21a, hi21b, hi21q⟩ := idx_some hi21
        refine sYg hf hs rfl rfl rfl (congrArg (fun b => some (Value.bool b)) hb19) rfl rfl rfl (Y_index rfl rfl rfl el57 ti127 (Rd.isAt (h_p0_1.at hs) (recs_at (s := 4) GPlace.len hi21q (j := 0) rfl)) hi21a hi21b) ?_; clear hf; intro a hf
        refine sYg hf hs rfl rfl rfl (congrArg (fun b => some (Value.bool b)) hb19) rfl rfl rfl (Y_fieldAddrE rfl rfl fo127_2) ?_; clear hf; intro a hf
        refine sYg hf hs rfl rfl rfl (congrArg (fun b => some (Value.bool b)) hb19) rfl rfl rfl (Y_load_rd rfl rfl (fun w hs => h_p0_1.at hs) (recs_at (s := 4) GPlace.len hi21q (j := 2) rfl) ag2) ?_; clear hf; intro a hf
        obtain ⟨r22, hc23, hj16⟩ := bind_some hj16
        refine sCallg hf rfl rfl rfl (congrArg (fun b => some (Value.bool b)) hb19) rfl rfl rfl rfl (cap := []) rfl rfl en105 (impl_within_ok F p2 0 q20.Delay _ _ hc23) ?_; clear hf
        rintro _ w ⟨rfl, hs1⟩ a hf
        have hs : St [] W w [.blk b1 59 [.int .i64 p0.Events, .slice A_p0_1 p0.Places.length c_p0_1], .blk b2 59 [.int .i64 0, .slice none 0 0]] := hs.ext hs1.below
        clear hs1
        refine sYg hf hs rfl rfl rfl (congrArg (fun b => some (Value.bool b)) hb19) rfl rfl rfl (Y_not rfl rfl) ?_; clear hf; intro a hf
        refine sY hf hs rfl rfl rfl (Y_pickF rfl (congrArg (fun b => some (Value.bool b)) hb19) rfl) ?_; clear hf; intro a hf
        refine wpO_nil ?_
        refine wpL_nil (then_normal ?_)
        exact ⟨(!r22), Option.some.inj hj16, (FrD.pick (FrD.pick (FrD.pick (FrD.pick (FrD.pick hf.none hf rfl) hf rfl) hf rfl) hf rfl) hf rfl), hs⟩
    · rintro a w ⟨b14, hr_, hf, hs⟩
      subst hr_
      try dsimp only at hm
      refine wpL_cond hf rfl (fun hb24 => ?_) (fun hb24 => ?_)
      · have hm := bif_t hm hb24
        refine wpL_seq ?_
        refine wpL_region ?_
        refine sY hf hs rfl rfl rfl (Y_build (parts := []) (vs := []) rfl rfl (run_build (parts := []) (cells := [.int .i64 0, .slice none 0 0]) (places := #[(0, 1), (1, 1)]) ti59 Try.underlying59 (fun w => by simp [go_sem]) rfl)) ?_; clear hf; intro a hf
        refine sStore (i := 1) (us := [.int .i64 0, .slice none 0 0]) hf hs rfl rfl rfl rfl rfl rfl ti59 rfl rfl rfl (Nat.le_of_ble_eq_true rfl) rfl ?_; clear hs; intro w hs
        have hs : St [] W w [.blk b1 59 [.int .i64 p0.Events, .slice A_p0_1 p0.Places.length c_p0_1], .blk b2 59 [.int .i64 0, .slice none 0 0]] := hs
        refine sY hf hs rfl rfl rfl (Y_assign rfl rfl) ?_; clear hf; intro a hf
        refine wpO_nil ?_
        have hs : St [] W _ [.blk b1 59 [.int .i64 p0.Events, .slice A_p0_1 p0.Places.length c_p0_1], .blk b2 59 [.int .i64 0, .slice none 0 0], .row none 0 0 127 4 ((recs GPlace.cells) ([] : List GPlace))] := hs.addNil 127 4
        obtain rfl := Option.some.inj hm
        refine wpL_ret (ret_cell_tmp rfl hf rfl rfl hs (i := 1) rfl ag59 ti59 rfl ?_)
        exact ⟨_, rfl, none, 0, 0, rfl, rfl, hs.sel [2] (by decide)⟩
      · have hm := bif_f hm hb24
        refine wpL_skip ?_
        refine wpL_seq ?_
        refine wpL_region ?_
        refine sY hf hs rfl rfl rfl (Y_load_blkS rfl rfl (i := 0) rfl ag59 ti59 rfl) ?_; clear hf; intro a hf
        obtain ⟨r26, hc27, hm⟩ := bind_some hm
        refine sCall hf rfl rfl rfl rfl (cap := []) rfl rfl en126 (impl_cloneGraph_ok F p0 A_p0_1 p0.Places.length c_p0_1 rfl _ _ hc27 (h_p0_1.at hs)) ?_; clear hf
        rintro _ w ⟨A28, n29, c30, rfl, hn31, hs1⟩ a hf
        have hs : St [] W w [.blk b1 59 [.int .i64 p0.Events, .slice A_p0_1 p0.Places.length c_p0_1], .blk b2 59 [.int .i64 0, .slice none 0 0], .row A28 n29 c30 127 4 ((recs GPlace.cells) r26.Places)] := hs.join hs1
        clear hs1
        refine sAlloc hf hs rfl rfl rfl rfl ti59 ?_; clear hf hs; intro a w b32 hs hf
        have hs : St [] W w [.blk b1 59 [.int .i64 p0.Events, .slice A_p0_1 p0.Places.length c_p0_1], .blk b2 59 [.int .i64 0, .slice none 0 0], .row A28 n29 c30 127 4 ((recs GPlace.cells) r26.Places), .blk b32 59 [.int .i64 0, .slice none 0 0]] := hs
        refine sStore (i := 3) (us := [.int .i64 r26.Events, .slice A28 n29 c30]) hf hs rfl rfl rfl rfl rfl rfl ti59 rfl rfl rfl (Nat.le_of_ble_eq_true rfl) rfl ?_; clear hs; intro w hs
        have hs : St [] W w [.blk b1 59 [.int .i64 p0.Events, .slice A_p0_1 p0.Places.length c_p0_1], .blk b2 59 [.int .i64 0, .slice none 0 0], .row A28 n29 c30 127 4 ((recs GPlace.cells) r26.Places), .blk b32 59 [.int .i64 r26.Events, .slice A28 n29 c30]] := hs
        refine wpO_nil ?_
        refine wpL_seq ?_
        refine wpL_region ?_
        refine sY hf hs rfl rfl rfl (Y_fieldAddr rfl rfl fo59_1) ?_; clear hf; intro a hf
        refine sY hf hs rfl rfl rfl (Y_load_blk rfl rfl (i := 0) rfl rfl ag57) ?_; clear hf; intro a hf
        refine sY hf hs rfl rfl rfl (Y_move rfl rfl) ?_; clear hf; intro a hf
        obtain ⟨q33, hi34, hm⟩ := bind_some hm
        obtain ⟨hi34a, hi34b, hi34q⟩ := idx_some hi34
        refine sY hf hs rfl rfl rfl (Y_index rfl rfl rfl el57 ti127 (Rd.isAt (h_p0_1.at hs) (recs_at (s := 4) GPlace.len hi34q (j := 0) rfl)) hi34a hi34b) ?_; clear hf; intro a hf
        refine sY hf hs rfl rfl rfl (Y_load_rdS rfl rfl (us := [.int .i64 q33.From, .int .i64 q33.To, .int .i64 q33.Delay, .int .i64 q33.Tokens]) (fun w hs => h_p0_1.at hs) (fun j u hj => recs_at (s := 4) GPlace.len hi34q hj) (Nat.succ_pos _) ag127 ti127 rfl) ?_; clear hf; intro a hf
        refine sAlloc hf hs rfl rfl rfl rfl ti127 ?_; clear hf hs; intro a w b35 hs hf
        have hs : St [] W w [.blk b1 59 [.int .i64 p0.Events, .slice A_p0_1 p0.Places.length c_p0_1], .blk b2 59 [.int .i64 0, .slice none 0 0], .row A28 n29 c30 127 4 ((recs GPlace.cells) r26.Places), .blk b32 59 [.int .i64 r26.Events, .slice A28 n29 c30], .blk b35 127 [.int .i64 0, .int .i64 0, .int .i64 0, .int .i64 0]] := hs
        refine sStore (i := 4) (us := [.int .i64 q33.From, .int .i64 q33.To, .int .i64 q33.Delay, .int .i64 q33.Tokens]) hf hs rfl rfl rfl rfl rfl rfl ti127 rfl rfl rfl (Nat.le_of_ble_eq_true rfl) rfl ?_; clear hs; intro w hs
        have hs : St [] W w [.blk b1 59 [.int .i64 p0.Events, .slice A_p0_1 p0.Places.length c_p0_1], .blk b2 59 [.int .i64 0, .slice none 0 0], .row A28 n29 c30 127 4 ((recs GPlace.cells) r26.Places), .blk b32 59 [.int .i64 r26.Events, .slice A28 n29 c30], .blk b35 127 [.int .i64 q33.From, .int .i64 q33.To, .int .i64 q33.Delay, .int .i64 q33.Tokens]] := hs
        refine wpO_nil ?_
        refine wpL_seq ?_
        refine wpL_region ?_
        refine sY hf hs rfl rfl rfl (Y_fieldAddr rfl rfl fo59_1) ?_; clear hf; intro a hf
        refine sY hf hs rfl rfl rfl (Y_load_blk rfl rfl (i := 3) rfl rfl ag57) ?_; clear hf; intro a hf
        refine sY hf hs rfl rfl rfl (Y_move rfl rfl) ?_; clear hf; intro a hf
        refine sY hf hs rfl rfl rfl (Y_fieldAddr rfl rfl fo127_0) ?_; clear hf; intro a hf
        refine sY hf hs rfl rfl rfl (Y_load_blk rfl rfl (i := 4) rfl rfl ag2) ?_; clear hf; intro a hf
        refine sY hf hs rfl rfl rfl (Y_fieldAddr rfl rfl fo59_0) ?_; clear hf; intro a hf
        refine sY hf hs rfl rfl rfl (Y_load_blk rfl rfl (i := 0) rfl rfl ag2) ?_; clear hf; intro a hf
        refine sY hf hs rfl rfl rfl (Y_move rfl rfl) ?_; clear hf; intro a hf
        refine sY hf hs rfl rfl rfl (Y_build (parts := [(0, .tmp 44), (1, .tmp 46), (2, .tmp 47), (3, .const (.int .i64 0))]) (vs := [.int .i64 q33.From, .int .i64 p0.Events, .int .i64 p2, .int .i64 0]) rfl rfl (run_build (parts := [(0, .int .i64 q33.From), (1, .int .i64 p0.Events), (2, .int .i64 p2), (3, .int .i64 0)]) (cells := [.int .i64 q33.From, .int .i64 p0.Events, .int .i64 p2, .int .i64 0]) (places := #[(0, 1), (1, 1), (2, 1), (3, 1)]) ti127 Try.underlying127 (fun w => by simp [go_sem]) rfl)) ?_; clear hf; intro a hf
        obtain ⟨q36, hi37, hm⟩ := bind_some hm
        obtain ⟨hi37a, hi37b, hi37q⟩ := idx_some hi37
        refine sY hf hs rfl rfl rfl (Y_index rfl rfl rfl el57 ti127 (Rd.isAt (hs.rd (i := 2) rfl) (recs_at (s := 4) GPlace.len hi37q (j := 0) rfl)) hi37a (ltn hn31 hi37b)) ?_; clear hf; intro a hf
        obtain ⟨xs38, hu39, hm⟩ := bind_some hm
        refine sStoreL (i := 2) (us := [.int .i64 q33.From, .int .i64 p0.Events, .int .i64 p2, .int .i64 0]) (enc := (recs GPlace.cells)) hf hs rfl rfl rfl rfl rfl rfl hn31 hu39 ti127 rfl rfl rfl rfl rfl (recs_length GPlace.len) (recs_set (s := 4) GPlace.len (GPlace.mk q33.From p0.Events p2 0)) ?_; clear hs; intro w hs
        have hs : St [] W w [.blk b1 59 [.int .i64 p0.Events, .slice A_p0_1 p0.Places.length c_p0_1], .blk b2 59 [.int .i64 0, .slice none 0 0], .row A28 n29 c30 127 4 ((recs GPlace.cells) xs38), .blk b32 59 [.int .i64 r26.Events, .slice A28 n29 c30], .blk b35 127 [.int .i64 q33.From, .int .i64 q33.To, .int .i64 q33.Delay, .int .i64 q33.Tokens]] := hs
        refine wpO_nil ?_
        refine wpL_seq ?_
        refine wpL_region ?_
        refine sY hf hs rfl rfl rfl (Y_fieldAddr rfl rfl fo59_1) ?_; clear hf; intro a hf
        refine sY hf hs rfl rfl rfl (Y_load_blk rfl rfl (i := 3) rfl rfl ag57) ?_; clear hf; intro a hf
        refine sY hf hs rfl rfl rfl (Y_fieldAddr rfl rfl fo59_0) ?_; clear hf; intro a hf
        refine sY hf hs rfl rfl rfl (Y_load_blk rfl rfl (i := 0) rfl rfl ag2) ?_; clear hf; intro a hf
        refine sY hf hs rfl rfl rfl (Y_fieldAddr rfl rfl fo127_1) ?_; clear hf; intro a hf
        refine sY hf hs rfl rfl rfl (Y_load_blk rfl rfl (i := 4) rfl rfl ag2) ?_; clear hf; intro a hf
        refine sY hf hs rfl rfl rfl (Y_fieldAddr rfl rfl fo127_2) ?_; clear hf; intro a hf
        refine sY hf hs rfl rfl rfl (Y_load_blk rfl rfl (i := 4) rfl rfl ag2) ?_; clear hf; intro a hf
        refine sY hf hs rfl rfl rfl (Y_move rfl rfl) ?_; clear hf; intro a hf
        refine sY hf hs rfl rfl rfl (Y_sub rfl rfl rfl) ?_; clear hf; intro a hf
        refine sY hf hs rfl rfl rfl (Y_fieldAddr rfl rfl fo127_3) ?_; clear hf; intro a hf
        refine sY hf hs rfl rfl rfl (Y_load_blk rfl rfl (i := 4) rfl rfl ag2) ?_; clear hf; intro a hf
        refine sY hf hs rfl rfl rfl (Y_build (parts := [(0, .tmp 53), (1, .tmp 55), (2, .tmp 59), (3, .tmp 61)]) (vs := [.int .i64 p0.Events, .int .i64 q33.To, .int .i64 (IntKind.i64.wrap (q33.Delay - p2)), .int .i64 q33.Tokens]) rfl rfl (run_build (parts := [(0, .int .i64 p0.Events), (1, .int .i64 q33.To), (2, .int .i64 (IntKind.i64.wrap (q33.Delay - p2))), (3, .int .i64 q33.Tokens)]) (cells := [.int .i64 p0.Events, .int .i64 q33.To, .int .i64 (IntKind.i64.wrap (q33.Delay - p2)), .int .i64 q33.Tokens]) (places := #[(0, 1), (1, 1), (2, 1), (3, 1)]) ti127 Try.underlying127 (fun w => by simp [go_sem]) rfl)) ?_; clear hf; intro a hf
        refine sBuildSlice (parts := [(0, .tmp 62)]) (vs := [.agg #[.int .i64 p0.Events, .int .i64 q33.To, .int .i64 (IntKind.i64.wrap (q33.Delay - p2)), .int .i64 q33.Tokens]]) (cells := [.int .i64 p0.Events, .int .i64 q33.To, .int .i64 (IntKind.i64.wrap (q33.Delay - p2)), .int .i64 q33.Tokens]) hf hs rfl rfl rfl rfl rfl el57 ti127 rfl rfl rfl rfl ?_; clear hf hs; intro a w A40 hs hA41 hf
        have hs : St [] W w [.blk b1 59 [.int .i64 p0.Events, .slice A_p0_1 p0.Places.length c_p0_1], .blk b2 59 [.int .i64 0, .slice none 0 0], .row A28 n29 c30 127 4 ((recs GPlace.cells) xs38), .blk b32 59 [.int .i64 r26.Events, .slice A28 n29 c30], .blk b35 127 [.int .i64 q33.From, .int .i64 q33.To, .int .i64 q33.Delay, .int .i64 q33.Tokens], .row A40 1 1 127 4 ((recs GPlace.cells) ([(GPlace.mk p0.Events q33.To (IntKind.i64.wrap (q33.Delay - p2)) q33.Tokens)]))] := hs
        obtain ⟨xs44, ha45, hm⟩ := bind_some hm
        refine sAppendL (i := 2) (xs := xs38) (ys := [(GPlace.mk p0.Events q33.To (IntKind.i64.wrap (q33.Delay - p2)) q33.Tokens)]) (enc := (recs GPlace.cells)) hf hs rfl rfl rfl rfl rfl rfl ((hn31).trans (upd_len hu39).symm) rfl rfl ha45 el57 ti127 rfl rfl rfl (hs.rd (i := 5) rfl) (Nat.succ_pos _) (recs_length GPlace.len) (recs_append GPlace.cells) (recs_one GPlace.one) ?_; clear hf hs; intro a w A42 c43 hs hf
        have hs : St [] W w [.blk b1 59 [.int .i64 p0.Events, .slice A_p0_1 p0.Places.length c_p0_1], .blk b2 59 [.int .i64 0, .slice none 0 0], .row A42 xs44.length c43 127 4 ((recs GPlace.cells) xs44), .blk b32 59 [.int .i64 r26.Events, .slice A28 n29 c30], .blk b35 127 [.int .i64 q33.From, .int .i64 q33.To, .int .i64 q33.Delay, .int .i64 q33.Tokens], .row A40 1 1 127 4 ((recs GPlace.cells) ([(GPlace.mk p0.Events q33.To (IntKind.i64.wrap (q33.Delay - p2)) q33.Tokens)]))] := hs
        refine sY hf hs rfl rfl rfl (Y_fieldAddr rfl rfl fo59_1) ?_; clear hf; intro a hf
        refine sStore (i := 3) (us := [.slice A42 xs44.length c43]) hf hs rfl rfl rfl rfl rfl rfl ti57 rfl rfl rfl (Nat.le_of_ble_eq_true rfl) rfl ?_; clear hs; intro w hs
        have hs : St [] W w [.blk b1 59 [.int .i64 p0.Events, .slice A_p0_1 p0.Places.length c_p0_1], .blk b2 59 [.int .i64 0, .slice none 0 0], .row A42 xs44.length c43 127 4 ((recs GPlace.cells) xs44), .blk b32 59 [.int .i64 r26.Events, .slice A42 xs44.length c43], .blk b35 127 [.int .i64 q33.From, .int .i64 q33.To, .int .i64 q33.Delay, .int .i64 q33.Tokens], .row A40 1 1 127 4 ((recs GPlace.cells) ([(GPlace.mk p0.Events q33.To (IntKind.i64.wrap (q33.Delay - p2)) q33.Tokens)]))] := hs
        refine wpO_nil ?_
        refine wpL_seq ?_
        refine wpL_region ?_
        refine sY hf hs rfl rfl rfl (Y_fieldAddr rfl rfl fo59_0) ?_; clear hf; intro a hf
        refine sY hf hs rfl rfl rfl (Y_load_blk rfl rfl (i := 3) rfl rfl ag2) ?_; clear hf; intro a hf
        refine sY hf hs rfl rfl rfl (Y_add rfl rfl rfl) ?_; clear hf; intro a hf
        refine sY hf hs rfl rfl rfl (Y_fieldAddr rfl rfl fo59_0) ?_; clear hf; intro a hf
        refine sStore (i := 3) (us := [.int .i64 (IntKind.i64.wrap (r26.Events + 1))]) hf hs rfl rfl rfl rfl rfl rfl ti2 rfl rfl rfl (Nat.le_of_ble_eq_true rfl) rfl ?_; clear hs; intro w hs
        have hs : St [] W w [.blk b1 59 [.int .i64 p0.Events, .slice A_p0_1 p0.Places.length c_p0_1], .blk b2 59 [.int .i64 0, .slice none 0 0], .row A42 xs44.length c43 127 4 ((recs GPlace.cells) xs44), .blk b32 59 [.int .i64 (IntKind.i64.wrap (r26.Events + 1)), .slice A42 xs44.length c43], .blk b35 127 [.int .i64 q33.From, .int .i64 q33.To, .int .i64 q33.Delay, .int .i64 q33.Tokens], .row A40 1 1 127 4 ((recs GPlace.cells) ([(GPlace.mk p0.Events q33.To (IntKind.i64.wrap (q33.Delay - p2)) q33.Tokens)]))] := hs
        refine wpO_nil ?_
        refine wpL_seq ?_
        refine wpL_region ?_
        refine sY hf hs rfl rfl rfl (Y_load_blkS rfl rfl (i := 3) rfl ag59 ti59 rfl) ?_; clear hf; intro a hf
        obtain ⟨r46, hc47, hm⟩ := bind_some hm
        refine sCall hf rfl rfl rfl rfl (cap := []) rfl rfl en127 (impl_checkedGraph_ok F (GEventGraph.mk (IntKind.i64.wrap (r26.Events + 1)) xs44) A42 xs44.length c43 rfl _ _ hc47 (hs.rd (i := 2) rfl)) ?_; clear hf
        rintro _ w ⟨A48, n49, c50, rfl, hn51, hal52, hs1⟩ a hf
        have hs : St [] W w [.blk b1 59 [.int .i64 p0.Events, .slice A_p0_1 p0.Places.length c_p0_1], .blk b2 59 [.int .i64 0, .slice none 0 0], .row A42 xs44.length c43 127 4 ((recs GPlace.cells) xs44), .blk b32 59 [.int .i64 (IntKind.i64.wrap (r26.Events + 1)), .slice A42 xs44.length c43], .blk b35 127 [.int .i64 q33.From, .int .i64 q33.To, .int .i64 q33.Delay, .int .i64 q33.Tokens], .row A40 1 1 127 4 ((recs GPlace.cells) ([(GPlace.mk p0.Events q33.To (IntKind.i64.wrap (q33.Delay - p2)) q33.Tokens)]))] := hs.ext hs1.below
        clear hs1
        have hs : St [] W w [.blk b1 59 [.int .i64 p0.Events, .slice A_p0_1 p0.Places.length c_p0_1], .blk b2 59 [.int .i64 0, .slice none 0 0], .row A48 n49 c50 127 4 ((recs GPlace.cells) r46.1.Places), .blk b32 59 [.int .i64 (IntKind.i64.wrap (r26.Events + 1)), .slice A42 xs44.length c43], .blk b35 127 [.int .i64 q33.From, .int .i64 q33.To, .int .i64 q33.Delay, .int .i64 q33.Tokens], .row A40 1 1 127 4 ((recs GPlace.cells) ([(GPlace.mk p0.Events q33.To (IntKind.i64.wrap (q33.Delay - p2)) q33.Tokens)]))] := hs.alias (i := 2) (enc := (recs GPlace.cells)) rfl rfl hal52
        refine sY hf hs rfl rfl rfl (Y_extract rfl rfl rfl) ?_; clear hf; intro a hf
        refine sY hf hs rfl rfl rfl (Y_extract rfl rfl rfl) ?_; clear hf; intro a hf
        refine sStore (i := 1) (us := [.int .i64 r46.1.Events, .slice A48 n49 c50]) hf hs rfl rfl rfl rfl rfl rfl ti59 rfl rfl rfl (Nat.le_of_ble_eq_true rfl) rfl ?_; clear hs; intro w hs
        have hs : St [] W w [.blk b1 59 [.int .i64 p0.Events, .slice A_p0_1 p0.Places.length c_p0_1], .blk b2 59 [.int .i64 r46.1.Events, .slice A48 n49 c50], .row A48 n49 c50 127 4 ((recs GPlace.cells) r46.1.Places), .blk b32 59 [.int .i64 (IntKind.i64.wrap (r26.Events + 1)), .slice A42 xs44.length c43], .blk b35 127 [.int .i64 q33.From, .int .i64 q33.To, .int .i64 q33.Delay, .int .i64 q33.Tokens], .row A40 1 1 127 4 ((recs GPlace.cells) ([(GPlace.mk p0.Events q33.To (IntKind.i64.wrap (q33.Delay - p2)) q33.Tokens)]))] := hs
        refine sY hf hs rfl rfl rfl (Y_assign rfl rfl) ?_; clear hf; intro a hf
        refine wpO_nil ?_
        obtain rfl := Option.some.inj hm
        refine wpL_ret (ret_cell_tmp rfl hf rfl rfl hs (i := 1) rfl ag59 ti59 rfl ?_)
        exact ⟨_, rfl, A48, n49, c50, rfl, hn51, hs.sel [2] (by decide)⟩

set_option maxRecDepth 100000 in
theorem spec_l11Index_ok (F : Nat) (p0_g : GEventGraph) (A_p0_g_1 : Option Addr) (n_p0_g_1 c_p0_g_1 : Nat) (hn_p0_g_1 : n_p0_g_1 = p0_g.Places.length) (p1_i : Int) (r : Int) (W : World) (hm : spec_l11Index F p0_g p1_i = some r) (h_p0_g_1 : Rd W A_p0_g_1 ((recs GPlace.cells) p0_g.Places)) :
    Calls Try.prog 132 [.agg #[.int .i64 p0_g.Events, .slice A_p0_g_1 n_p0_g_1 c_p0_g_1], .int .i64 p1_i].toArray W fun e w' => ∃ v, e = .returned v ∧ v = .int .i64 r ∧ St [] W w' [] := by
  subst hn_p0_g_1
  unfold spec_l11Index at hm
  refine Calls.enter (N := 17) Try.func132 rfl rfl rfl (fun a hf => ?_)
  have hs := St.start W
  obtain ⟨w, hw_⟩ : ∃ w, w = W := ⟨W, rfl⟩
  clear hw_ w
  refine wpL_seq ?_
  refine wpL_region ?_
  refine sBox hf hs rfl rfl rfl rfl rfl (cs := [.int .i64 p0_g.Events, .slice A_p0_g_1 p0_g.Places.length c_p0_g_1]) rfl ?_; clear hf hs; intro a w b1 hs hf
  have hs : St [] W w [.blk b1 59 [.int .i64 p0_g.Events, .slice A_p0_g_1 p0_g.Places.length c_p0_g_1]] := hs
  refine sY hf hs rfl rfl rfl (Y_assign rfl rfl) ?_; clear hf; intro a hf
  refine wpO_nil ?_
  refine wpL_seq ?_
  refine wpL_block0 ?_
  refine wpL_seq ?_
  refine wpL_region ?_
  refine sY hf hs rfl rfl rfl (Y_load_blkS rfl rfl (i := 0) rfl ag59 ti59 rfl) ?_; clear hf; intro a hf
  obtain ⟨r2, hc3, hm⟩ := bind_some hm
  refine sCall hf rfl rfl rfl rfl (cap := []) rfl rfl en128 (spec_IsEventGraph_ok F p0_g A_p0_g_1 p0_g.Places.length c_p0_g_1 rfl _ _ hc3 (h_p0_g_1.at hs)) ?_; clear hf
  rintro _ w ⟨rfl, hs1⟩ a hf
  have hs : St [] W w [.blk b1 59 [.int .i64 p0_g.Events, .slice A_p0_g_1 p0_g.Places.length c_p0_g_1]] := hs.ext hs1.below
  clear hs1
  refine sY hf hs rfl rfl rfl (Y_not rfl rfl) ?_; clear hf; intro a hf
  refine sY hf hs rfl rfl rfl (Y_assign rfl rfl) ?_; clear hf; intro a hf
  refine wpO_nil ?_
  refine wpL_cond hf rfl (fun hb4 => ?_) (fun hb4 => ?_)
  · have hm := bif_t hm hb4
    refine wpL_seq ?_
    refine wpL_region ?_
    refine sY hf hs rfl rfl rfl (Y_assign rfl rfl) ?_; clear hf; intro a hf
    refine wpO_nil ?_
    obtain rfl := Option.some.inj hm
    refine wpL_ret (Qb_ret (ret_tmp rfl hf rfl ?_))
    exact ⟨_, rfl, rfl, hs.sel [] (by decide)⟩
  · have hm := bif_f hm hb4
    refine wpL_seq ?_
    refine wpL_region ?_
    refine sY hf hs rfl rfl rfl (Y_move rfl rfl) ?_; clear hf; intro a hf
    refine sY hf hs rfl rfl rfl (Y_fieldAddr rfl rfl fo59_1) ?_; clear hf; intro a hf
    refine sY hf hs rfl rfl rfl (Y_load_blk rfl rfl (i := 0) rfl rfl ag57) ?_; clear hf; intro a hf
    refine sY hf hs rfl rfl rfl (Y_lenH rfl rfl el57 rfl) ?_; clear hf; intro a hf
    refine sY hf hs rfl rfl rfl (Y_sub rfl rfl rfl) ?_; clear hf; intro a hf
    obtain ⟨r5, hc6, hm⟩ := bind_some hm
    refine sCall hf rfl rfl rfl rfl (cap := []) rfl rfl en115 (spec_l01In_ok F p1_i 0 (IntKind.i64.wrap ((p0_g.Places.length : Int) - 1)) _ _ hc6) ?_; clear hf
    rintro _ w ⟨rfl, hs1⟩ a hf
    have hs : St [] W w [.blk b1 59 [.int .i64 p0_g.Events, .slice A_p0_g_1 p0_g.Places.length c_p0_g_1]] := hs.ext hs1.below
    clear hs1
    refine sY hf hs rfl rfl rfl (Y_not rfl rfl) ?_; clear hf; intro a hf
    refine sY hf hs rfl rfl rfl (Y_assign rfl rfl) ?_; clear hf; intro a hf
    refine wpO_nil ?_
    refine wpL_cond hf rfl (fun hb7 => ?_) (fun hb7 => ?_)
    · have hm := bif_t hm hb7
      refine wpL_seq ?_
      refine wpL_region ?_
      refine sY hf hs rfl rfl rfl (Y_assign rfl rfl) ?_; clear hf; intro a hf
      refine wpO_nil ?_
      obtain rfl := Option.some.inj hm
      refine wpL_ret (Qb_ret (ret_tmp rfl hf rfl ?_))
      exact ⟨_, rfl, rfl, hs.sel [] (by decide)⟩
    · have hm := bif_f hm hb7
      refine wpL_skip ?_
      refine wpL_nil (Qb_normal ?_)
      refine wpL_seq ?_
      refine wpL_region ?_
      refine sY hf hs rfl rfl rfl (Y_assign rfl rfl) ?_; clear hf; intro a hf
      refine wpO_nil ?_
      obtain rfl := Option.some.inj hm
      refine wpL_ret (ret_tmp rfl hf rfl ?_)
      exact ⟨_, rfl, rfl, hs.sel [] (by decide)⟩

set_option maxRecDepth 100000 in
theorem spec_SplitPlace_ok (F : Nat) (p0 : GEventGraph) (A_p0_1 : Option Addr) (n_p0_1 c_p0_1 : Nat) (hn_p0_1 : n_p0_1 = p0.Places.length) (p1 : Int) (p2 : Int) (r : GEventGraph × Int) (W : World) (hm : spec_SplitPlace F p0 p1 p2 = some r) (h_p0_1 : Rd W A_p0_1 ((recs GPlace.cells) p0.Places)) :
    Calls Try.prog 46 [.agg #[.int .i64 p0.Events, .slice A_p0_1 n_p0_1 c_p0_1], .int .i64 p1, .int .i64 p2].toArray W fun e w' => ∃ v, e = .returned v ∧ ∃ A52, ∃ n53, ∃ c54, v = .tuple #[.agg #[.int .i64 r.1.Events, .slice A52 n53 c54], .int .i64 r.2] ∧ n53 = r.1.Places.length ∧ St [] W w' [.row A52 n53 c54 127 4 ((recs GPlace.cells) r.1.Places)] := by
  subst hn_p0_1
  unfold spec_SplitPlace at hm
  refine Calls.enter (N := 72) Try.func46 rfl rfl rfl (fun a hf => ?_)
  have hs := St.start W
  obtain ⟨w, hw_⟩ : ∃ w, w = W := ⟨W, rfl⟩
  clear hw_ w
  refine wpL_seq ?_
  refine wpL_region ?_
  refine sBox hf hs rfl rfl rfl rfl rfl (cs := [.int .i64 p0.Events, .slice A_p0_1 p0.Places.length c_p0_1]) rfl ?_; clear hf hs; intro a w b1 hs hf
  have hs : St [] W w [.blk b1 59 [.int .i64 p0.Events, .slice A_p0_1 p0.Places.length c_p0_1]] := hs
  refine sAlloc hf hs rfl rfl rfl rfl ti59 ?_; clear hf hs; intro a w b2 hs hf
  have hs : St [] W w [.blk b1 59 [.int .i64 p0.Events, .slice A_p0_1 p0.Places.length c_p0_1], .blk b2 59 [.int .i64 0, .slice none 0 0]] := hs
  refine sY hf hs rfl rfl rfl (Y_assign rfl rfl) ?_; clear hf; intro a hf
  refine wpO_nil ?_
  refine wpL_seq ?_
  refine wpL_region ?_
  refine sY hf hs rfl rfl rfl (Y_load_blkS rfl rfl (i := 0) rfl ag59 ti59 rfl) ?_; clear hf; intro a hf
  refine sY hf hs rfl rfl rfl (Y_move rfl rfl) ?_; clear hf; intro a hf
  obtain ⟨r3, hc4, hm⟩ := bind_some hm
  refine sCall hf rfl rfl rfl rfl (cap := []) rfl rfl en132 (spec_l11Index_ok F p0 A_p0_1 p0.Places.length c_p0_1 rfl p1 _ _ hc4 (h_p0_1.at hs)) ?_; clear hf
  rintro _ w ⟨rfl, hs1⟩ a hf
  have hs : St [] W w [.blk b1 59 [.int .i64 p0.Events, .slice A_p0_1 p0.Places.length c_p0_1], .blk b2 59 [.int .i64 0, .slice none 0 0]] := hs.ext hs1.below
  clear hs1
  refine sY hf hs rfl rfl rfl (Y_assign rfl rfl) ?_; clear hf; intro a hf
  refine wpO_nil ?_
  refine wpL_seq ?_
  refine wpL_seq ?_
  obtain ⟨r11, hj12, hm⟩ := bind_some hm
  refine wpL_cut (fun a w => ∃ b10 : Bool, b10 = r11 ∧ Fr a 72 [(1, .int .i64 p1), (2, .int .i64 p2), (3, .pointer (some ⟨b1, 0, none⟩)), (6, .pointer (some ⟨b2, 0, none⟩)), (8, .int .i64 r3), (26, .bool b10)] ∧ St [] W w [.blk b1 59 [.int .i64 p0.Events, .slice A_p0_1 p0.Places.length c_p0_1], .blk b2 59 [.int .i64 0, .slice none 0 0]]) ?_ ?_
  · refine wpL_region ?_
    refine sY hf hs rfl rfl rfl (Y_move rfl rfl) ?_; clear hf; intro a hf
    refine sY hf hs rfl rfl rfl (Y_eql rfl rfl rfl) ?_; clear hf; intro a hf
    refine sY hf hs rfl rfl rfl (Y_move rfl rfl) ?_; clear hf; intro a hf
    refine bsplit (r3 == 0) (fun hb13 => ?_) (fun hb13 => ?_)
    · have hj12 := bif_t hj12 hb13
      refine sYg hf hs rfl rfl rfl (congrArg (fun b => some (Value.bool b)) hb13) rfl rfl rfl (Y_move rfl rfl) ?_; clear hf; intro a hf
      refine sYg hf hs rfl rfl rfl (congrArg (fun b => some (Value.bool b)) hb13) rfl rfl rfl (Y_fieldAddr rfl rfl fo59_1) ?_; clear hf; intro a hf
      refine sYg hf hs rfl rfl rfl (congrArg (fun b => some (Value.bool b)) hb13) rfl rfl rfl (Y_load_blk rfl rfl (i := 0) rfl rfl ag57) ?_; clear hf; intro a hf
      refine sYg hf hs rfl rfl rfl (congrArg (fun b => some (Value.bool b)) hb13) rfl rfl rfl (Y_move rfl rfl) ?_; clear hf; intro a hf
      obtain ⟨q14, hi15, hj12⟩ := bind_some hj12
      obtain ⟨hi15a, hi15b, hi15q⟩ := idx_some hi15
      refine sYg hf hs rfl rfl rfl (congrArg (fun b => some (Value.bool b)) hb13) rfl rfl rfl (Y_index rfl rfl rfl el57 ti127 (Rd.isAt (h_p0_1.at hs) (recs_at (s := 4) GPlace.len hi15q (j := 0) rfl)) hi15a hi15b) ?_; clear hf; intro a hf
      refine sYg hf hs rfl rfl rfl (congrArg (fun b => some (Value.bool b)) hb13) rfl rfl rfl (Y_fieldAddrE rfl rfl fo127_2) ?_; clear hf; intro a hf
      refine sYg hf hs rfl rfl rfl (congrArg (fun b => some (Value.bool b)) hb13) rfl rfl rfl (Y_load_rd rfl rfl (fun w hs => h_p0_1.at hs) (recs_at (s := 4) GPlace.len hi15q (j := 2) rfl) ag2) ?_; clear hf; intro a hf
      obtain ⟨r16, hc17, hj12⟩ := bind_some hj12
      refine sCallg hf rfl rfl rfl (congrArg (fun b => some (Value.bool b)) hb13) rfl rfl rfl rfl (cap := []) rfl rfl en115 (spec_l01In_ok F p2 0 q14.Delay _ _ hc17) ?_; clear hf
      rintro _ w ⟨rfl, hs1⟩ a hf
      have hs : St [] W w [.blk b1 59 [.int .i64 p0.Events, .slice A_p0_1 p0.Places.length c_p0_1], .blk b2 59 [.int .i64 0, .slice none 0 0]] := hs.ext hs1.below
      clear hs1
      refine sYg hf hs rfl rfl rfl (congrArg (fun b => some (Value.bool b)) hb13) rfl rfl rfl (Y_not rfl rfl) ?_; clear hf; intro a hf
      refine sY hf hs rfl rfl rfl (Y_pickT rfl (congrArg (fun b => some (Value.bool b)) hb13) rfl) ?_; clear hf; intro a hf
      refine wpO_nil ?_
      refine wpL_nil (then_normal ?_)
      exact ⟨(!r16), Option.some.inj hj12, (FrD.pick (FrD.pick (FrD.pick (FrD.pick (FrD.pick (FrD.pick hf.none hf rfl) hf rfl) hf rfl) hf rfl) hf rfl) hf rfl), hs⟩
    · have hj12 := bif_f hj12 hb13
      refine sNo hf rfl rfl rfl (congrArg (fun b => some (Value.bool b)) hb13) rfl rfl rfl ?_; clear hf; intro a hf
      refine sNo hf rfl rfl rfl (congrArg (fun b => some (Value.bool b)) hb13) rfl rfl rfl ?_; clear hf; intro a hf
      refine sNo hf rfl rfl rfl (congrArg (fun b => some (Value.bool b)) hb13) rfl rfl rfl ?_; clear hf; intro a hf
      refine sNo hf rfl rfl rfl (congrArg (fun b => some (Value.bool b)) hb13) rfl rfl rfl ?_; clear hf; intro a hf
      refine sNo hf rfl rfl rfl (congrArg (fun b => some (Value.bool b)) hb13) rfl rfl rfl ?_; clear hf; intro a hf
      refine sNo hf rfl rfl rfl (congrArg (fun b => some (Value.bool b)) hb13) rfl rfl rfl ?_; clear hf; intro a hf
      refine sNo hf rfl rfl rfl (congrArg (fun b => some (Value.bool b)) hb13) rfl rfl rfl ?_; clear hf; intro a hf
      refine sNo hf rfl rfl rfl (congrArg (fun b => some (Value.bool b)) hb13) rfl rfl rfl ?_; clear hf; intro a hf
      refine sNo hf rfl rfl rfl (congrArg (fun b => some (Value.bool b)) hb13) rfl rfl rfl ?_; clear hf; intro a hf
      refine sY hf hs rfl rfl rfl (Y_pickF rfl (congrArg (fun b => some (Value.bool b)) hb13) rfl) ?_; clear hf; intro a hf
      refine wpO_nil ?_
      refine wpL_nil (then_normal ?_)
      exact ⟨false, Option.some.inj hj12, (FrD.pick (FrD.pick (FrD.pick (FrD.pick (FrD.pick (FrD.pick hf.none hf rfl) hf rfl) hf rfl) hf rfl) hf rfl) hf rfl), hs⟩
  · rintro a w ⟨b10, hr_, hf, hs⟩
    subst hr_
    try dsimp only at hm
    obtain ⟨r20, hj21, hm⟩ := bind_some hm
    refine wpL_cut (fun a w => ∃ x19 : Int, x19 = r20 ∧ Fr a 72 [(1, .int .i64 p1), (2, .int .i64 p2), (3, .pointer (some ⟨b1, 0, none⟩)), (6, .pointer (some ⟨b2, 0, none⟩)), (8, .int .i64 x19)] ∧ St [] W w [.blk b1 59 [.int .i64 p0.Events, .slice A_p0_1 p0.Places.length c_p0_1], .blk b2 59 [.int .i64 0, .slice none 0 0]]) ?_ ?_
    · refine wpL_cond hf rfl (fun hb22 => ?_) (fun hb22 => ?_)
      · have hj21 := bif_t hj21 hb22
        refine wpL_region ?_
        refine sY hf hs rfl rfl rfl (Y_assign rfl rfl) ?_; clear hf; intro a hf
        refine wpO_nil ?_
        refine wpL_nil (then_normal ?_)
        exact ⟨2, Option.some.inj hj21, (FrD.pick (FrD.pick (FrD.pick (FrD.pick (FrD.pick hf.none hf rfl) hf rfl) hf rfl) hf rfl) hf rfl), hs⟩
      · have hj21 := bif_f hj21 hb22
        refine wpL_skip ?_
        refine wpL_nil (then_normal ?_)
        exact ⟨r3, Option.some.inj hj21, (FrD.pick (FrD.pick (FrD.pick (FrD.pick (FrD.pick hf.none hf rfl) hf rfl) hf rfl) hf rfl) hf rfl), hs⟩
    · rintro a w ⟨x19, hr_, hf, hs⟩
      subst hr_
      try dsimp only at hm
      refine wpL_seq ?_
      refine wpL_seq ?_
      refine wpL_region ?_
      refine sY hf hs rfl rfl rfl (Y_move rfl rfl) ?_; clear hf; intro a hf
      refine sY hf hs rfl rfl rfl (Y_neq rfl rfl rfl) ?_; clear hf; intro a hf
      refine wpO_nil ?_
      refine wpL_cond hf rfl (fun hb23 => ?_) (fun hb23 => ?_)
      · have hm := bif_t hm hb23
        refine wpL_seq ?_
        refine wpL_region ?_
        refine sY hf hs rfl rfl rfl (Y_build (parts := []) (vs := []) rfl rfl (run_build (parts := []) (cells := [.int .i64 0, .slice none 0 0]) (places := #[(0, 1), (1, 1)]) ti59 Try.underlying59 (fun w => by simp [go_sem]) rfl)) ?_; clear hf; intro a hf
        refine sY hf hs rfl rfl rfl (Y_move rfl rfl) ?_; clear hf; intro a hf
        refine sStore (i := 1) (us := [.int .i64 0, .slice none 0 0]) hf hs rfl rfl rfl rfl rfl rfl ti59 rfl rfl rfl (Nat.le_of_ble_eq_true rfl) rfl ?_; clear hs; intro w hs
        have hs : St [] W w [.blk b1 59 [.int .i64 p0.Events, .slice A_p0_1 p0.Places.length c_p0_1], .blk b2 59 [.int .i64 0, .slice none 0 0]] := hs
        refine sY hf hs rfl rfl rfl (Y_assign rfl rfl) ?_; clear hf; intro a hf
        refine wpO_nil ?_
        have hs : St [] W _ [.blk b1 59 [.int .i64 p0.Events, .slice A_p0_1 p0.Places.length c_p0_1], .blk b2 59 [.int .i64 0, .slice none 0 0], .row none 0 0 127 4 ((recs GPlace.cells) ([] : List GPlace))] := hs.addNil 127 4
        obtain rfl := Option.some.inj hm
        refine wpL_ret (ret_cell_tmp rfl hf rfl rfl hs (i := 1) rfl ag59 ti59 rfl ?_)
        exact ⟨_, rfl, none, 0, 0, rfl, rfl, hs.sel [2] (by decide)⟩
      · have hm := bif_f hm hb23
        refine wpL_skip ?_
        refine wpL_seq ?_
        refine wpL_region ?_
        refine sY hf hs rfl rfl rfl (Y_load_blkS rfl rfl (i := 0) rfl ag59 ti59 rfl) ?_; clear hf; intro a hf
        obtain ⟨r25, hc26, hm⟩ := bind_some hm
        refine sCall hf rfl rfl rfl rfl (cap := []) rfl rfl en129 (spec_l11Own_ok F p0 A_p0_1 p0.Places.length c_p0_1 rfl _ _ hc26 (h_p0_1.at hs)) ?_; clear hf
        rintro _ w ⟨A27, n28, c29, rfl, hn30, hs1⟩ a hf
        have hs : St [] W w [.blk b1 59 [.int .i64 p0.Events, .slice A_p0_1 p0.Places.length c_p0_1], .blk b2 59 [.int .i64 0, .slice none 0 0], .row A27 n28 c29 127 4 ((recs GPlace.cells) r25.Places)] := hs.join hs1
        clear hs1
        refine sAlloc hf hs rfl rfl rfl rfl ti59 ?_; clear hf hs; intro a w b31 hs hf
        have hs : St [] W w [.blk b1 59 [.int .i64 p0.Events, .slice A_p0_1 p0.Places.length c_p0_1], .blk b2 59 [.int .i64 0, .slice none 0 0], .row A27 n28 c29 127 4 ((recs GPlace.cells) r25.Places), .blk b31 59 [.int .i64 0, .slice none 0 0]] := hs
        refine sStore (i := 3) (us := [.int .i64 r25.Events, .slice A27 n28 c29]) hf hs rfl rfl rfl rfl rfl rfl ti59 rfl rfl rfl (Nat.le_of_ble_eq_true rfl) rfl ?_; clear hs; intro w hs
        have hs : St [] W w [.blk b1 59 [.int .i64 p0.Events, .slice A_p0_1 p0.Places.length c_p0_1], .blk b2 59 [.int .i64 0, .slice none 0 0], .row A27 n28 c29 127 4 ((recs GPlace.cells) r25.Places), .blk b31 59 [.int .i64 r25.Events, .slice A27 n28 c29]] := hs
        refine wpO_nil ?_
        refine wpL_seq ?_
        refine wpL_region ?_
        refine sY hf hs rfl rfl rfl (Y_fieldAddr rfl rfl fo59_1) ?_; clear hf; intro a hf
        refine sY hf hs rfl rfl rfl (Y_load_blk rfl rfl (i := 0) rfl rfl ag57) ?_; clear hf; intro a hf
        refine sY hf hs rfl rfl rfl (Y_move rfl rfl) ?_; clear hf; intro a hf
        obtain ⟨q32, hi33, hm⟩ := bind_some hm
        obtain ⟨hi33a, hi33b, hi33q⟩ := idx_some hi33
        refine sY hf hs rfl rfl rfl (Y_index rfl rfl rfl el57 ti127 (Rd.isAt (h_p0_1.at hs) (recs_at (s := 4) GPlace.len hi33q (j := 0) rfl)) hi33a hi33b) ?_; clear hf; intro a hf
        refine sY hf hs rfl rfl rfl (Y_load_rdS rfl rfl (us := [.int .i64 q32.From, .int .i64 q32.To, .int .i64 q32.Delay, .int .i64 q32.Tokens]) (fun w hs => h_p0_1.at hs) (fun j u hj => recs_at (s := 4) GPlace.len hi33q hj) (Nat.succ_pos _) ag127 ti127 rfl) ?_; clear hf; intro a hf
        refine sAlloc hf hs rfl rfl rfl rfl ti127 ?_; clear hf hs; intro a w b34 hs hf
        have hs : St [] W w [.blk b1 59 [.int .i64 p0.Events, .slice A_p0_1 p0.Places.length c_p0_1], .blk b2 59 [.int .i64 0, .slice none 0 0], .row A27 n28 c29 127 4 ((recs GPlace.cells) r25.Places), .blk b31 59 [.int .i64 r25.Events, .slice A27 n28 c29], .blk b34 127 [.int .i64 0, .int .i64 0, .int .i64 0, .int .i64 0]] := hs
        refine sStore (i := 4) (us := [.int .i64 q32.From, .int .i64 q32.To, .int .i64 q32.Delay, .int .i64 q32.Tokens]) hf hs rfl rfl rfl rfl rfl rfl ti127 rfl rfl rfl (Nat.le_of_ble_eq_true rfl) rfl ?_; clear hs; intro w hs
        have hs : St [] W w [.blk b1 59 [.int .i64 p0.Events, .slice A_p0_1 p0.Places.length c_p0_1], .blk b2 59 [.int .i64 0, .slice none 0 0], .row A27 n28 c29 127 4 ((recs GPlace.cells) r25.Places), .blk b31 59 [.int .i64 r25.Events, .slice A27 n28 c29], .blk b34 127 [.int .i64 q32.From, .int .i64 q32.To, .int .i64 q32.Delay, .int .i64 q32.Tokens]] := hs
        refine wpO_nil ?_
        refine wpL_seq ?_
        refine wpL_region ?_
        refine sY hf hs rfl rfl rfl (Y_fieldAddr rfl rfl fo59_0) ?_; clear hf; intro a hf
        refine sY hf hs rfl rfl rfl (Y_load_blk rfl rfl (i := 0) rfl rfl ag2) ?_; clear hf; intro a hf
        refine sY hf hs rfl rfl rfl (Y_add rfl rfl rfl) ?_; clear hf; intro a hf
        refine sY hf hs rfl rfl rfl (Y_fieldAddr rfl rfl fo59_0) ?_; clear hf; intro a hf
        refine sStore (i := 3) (us := [.int .i64 (IntKind.i64.wrap (p0.Events + 1))]) hf hs rfl rfl rfl rfl rfl rfl ti2 rfl rfl rfl (Nat.le_of_ble_eq_true rfl) rfl ?_; clear hs; intro w hs
        have hs : St [] W w [.blk b1 59 [.int .i64 p0.Events, .slice A_p0_1 p0.Places.length c_p0_1], .blk b2 59 [.int .i64 0, .slice none 0 0], .row A27 n28 c29 127 4 ((recs GPlace.cells) r25.Places), .blk b31 59 [.int .i64 (IntKind.i64.wrap (p0.Events + 1)), .slice A27 n28 c29], .blk b34 127 [.int .i64 q32.From, .int .i64 q32.To, .int .i64 q32.Delay, .int .i64 q32.Tokens]] := hs
        refine wpO_nil ?_
        refine wpL_seq ?_
        refine wpL_region ?_
        refine sY hf hs rfl rfl rfl (Y_fieldAddr rfl rfl fo59_1) ?_; clear hf; intro a hf
        refine sY hf hs rfl rfl rfl (Y_load_blk rfl rfl (i := 3) rfl rfl ag57) ?_; clear hf; intro a hf
        refine sY hf hs rfl rfl rfl (Y_move rfl rfl) ?_; clear hf; intro a hf
        refine sY hf hs rfl rfl rfl (Y_fieldAddr rfl rfl fo127_0) ?_; clear hf; intro a hf
        refine sY hf hs rfl rfl rfl (Y_load_blk rfl rfl (i := 4) rfl rfl ag2) ?_; clear hf; intro a hf
        refine sY hf hs rfl rfl rfl (Y_fieldAddr rfl rfl fo59_0) ?_; clear hf; intro a hf
        refine sY hf hs rfl rfl rfl (Y_load_blk rfl rfl (i := 0) rfl rfl ag2) ?_; clear hf; intro a hf
        refine sY hf hs rfl rfl rfl (Y_move rfl rfl) ?_; clear hf; intro a hf
        refine sY hf hs rfl rfl rfl (Y_build (parts := [(0, .tmp 46), (1, .tmp 48), (2, .tmp 49)]) (vs := [.int .i64 q32.From, .int .i64 p0.Events, .int .i64 p2]) rfl rfl (run_build (parts := [(0, .int .i64 q32.From), (1, .int .i64 p0.Events), (2, .int .i64 p2)]) (cells := [.int .i64 q32.From, .int .i64 p0.Events, .int .i64 p2, .int .i64 0]) (places := #[(0, 1), (1, 1), (2, 1), (3, 1)]) ti127 Try.underlying127 (fun w => by simp [go_sem]) rfl)) ?_; clear hf; intro a hf
        obtain ⟨q35, hi36, hm⟩ := bind_some hm
        obtain ⟨hi36a, hi36b, hi36q⟩ := idx_some hi36
        refine sY hf hs rfl rfl rfl (Y_index rfl rfl rfl el57 ti127 (Rd.isAt (hs.rd (i := 2) rfl) (recs_at (s := 4) GPlace.len hi36q (j := 0) rfl)) hi36a (ltn hn30 hi36b)) ?_; clear hf; intro a hf
        obtain ⟨xs37, hu38, hm⟩ := bind_some hm
        refine sStoreL (i := 2) (us := [.int .i64 q32.From, .int .i64 p0.Events, .int .i64 p2, .int .i64 0]) (enc := (recs GPlace.cells)) hf hs rfl rfl rfl rfl rfl rfl hn30 hu38 ti127 rfl rfl rfl rfl rfl (recs_length GPlace.len) (recs_set (s := 4) GPlace.len (GPlace.mk q32.From p0.Events p2 0)) ?_; clear hs; intro w hs
        have hs : St [] W w [.blk b1 59 [.int .i64 p0.Events, .slice A_p0_1 p0.Places.length c_p0_1], .blk b2 59 [.int .i64 0, .slice none 0 0], .row A27 n28 c29 127 4 ((recs GPlace.cells) xs37), .blk b31 59 [.int .i64 (IntKind.i64.wrap (p0.Events + 1)), .slice A27 n28 c29], .blk b34 127 [.int .i64 q32.From, .int .i64 q32.To, .int .i64 q32.Delay, .int .i64 q32.Tokens]] := hs
        refine wpO_nil ?_
        refine wpL_seq ?_
        refine wpL_region ?_
        refine sY hf hs rfl rfl rfl (Y_fieldAddr rfl rfl fo59_1) ?_; clear hf; intro a hf
        refine sY hf hs rfl rfl rfl (Y_load_blk rfl rfl (i := 3) rfl rfl ag57) ?_; clear hf; intro a hf
        refine sY hf hs rfl rfl rfl (Y_fieldAddr rfl rfl fo59_0) ?_; clear hf; intro a hf
        refine sY hf hs rfl rfl rfl (Y_load_blk rfl rfl (i := 0) rfl rfl ag2) ?_; clear hf; intro a hf
        refine sY hf hs rfl rfl rfl (Y_fieldAddr rfl rfl fo127_1) ?_; clear hf; intro a hf
        refine sY hf hs rfl rfl rfl (Y_load_blk rfl rfl (i := 4) rfl rfl ag2) ?_; clear hf; intro a hf
        refine sY hf hs rfl rfl rfl (Y_fieldAddr rfl rfl fo127_2) ?_; clear hf; intro a hf
        refine sY hf hs rfl rfl rfl (Y_load_blk rfl rfl (i := 4) rfl rfl ag2) ?_; clear hf; intro a hf
        refine sY hf hs rfl rfl rfl (Y_move rfl rfl) ?_; clear hf; intro a hf
        refine sY hf hs rfl rfl rfl (Y_sub rfl rfl rfl) ?_; clear hf; intro a hf
        refine sY hf hs rfl rfl rfl (Y_fieldAddr rfl rfl fo127_3) ?_; clear hf; intro a hf
        refine sY hf hs rfl rfl rfl (Y_load_blk rfl rfl (i := 4) rfl rfl ag2) ?_; clear hf; intro a hf
        refine sY hf hs rfl rfl rfl (Y_build (parts := [(0, .tmp 55), (1, .tmp 57), (2, .tmp 61), (3, .tmp 63)]) (vs := [.int .i64 p0.Events, .int .i64 q32.To, .int .i64 (IntKind.i64.wrap (q32.Delay - p2)), .int .i64 q32.Tokens]) rfl rfl (run_build (parts := [(0, .int .i64 p0.Events), (1, .int .i64 q32.To), (2, .int .i64 (IntKind.i64.wrap (q32.Delay - p2))), (3, .int .i64 q32.Tokens)]) (cells := [.int .i64 p0.Events, .int .i64 q32.To, .int .i64 (IntKind.i64.wrap (q32.Delay - p2)), .int .i64 q32.Tokens]) (places := #[(0, 1), (1, 1), (2, 1), (3, 1)]) ti127 Try.underlying127 (fun w => by simp [go_sem]) rfl)) ?_; clear hf; intro a hf
        refine sBuildSlice (parts := [(0, .tmp 64)]) (vs := [.agg #[.int .i64 p0.Events, .int .i64 q32.To, .int .i64 (IntKind.i64.wrap (q32.Delay - p2)), .int .i64 q32.Tokens]]) (cells := [.int .i64 p0.Events, .int .i64 q32.To, .int .i64 (IntKind.i64.wrap (q32.Delay - p2)), .int .i64 q32.Tokens]) hf hs rfl rfl rfl rfl rfl el57 ti127 rfl rfl rfl rfl ?_; clear hf hs; intro a w A39 hs hA40 hf
        have hs : St [] W w [.blk b1 59 [.int .i64 p0.Events, .slice A_p0_1 p0.Places.length c_p0_1], .blk b2 59 [.int .i64 0, .slice none 0 0], .row A27 n28 c29 127 4 ((recs GPlace.cells) xs37), .blk b31 59 [.int .i64 (IntKind.i64.wrap (p0.Events + 1)), .slice A27 n28 c29], .blk b34 127 [.int .i64 q32.From, .int .i64 q32.To, .int .i64 q32.Delay, .int .i64 q32.Tokens], .row A39 1 1 127 4 ((recs GPlace.cells) ([(GPlace.mk p0.Events q32.To (IntKind.i64.wrap (q32.Delay - p2)) q32.Tokens)]))] := hs
        obtain ⟨xs43, ha44, hm⟩ := bind_some hm
        refine sAppendL (i := 2) (xs := xs37) (ys := [(GPlace.mk p0.Events q32.To (IntKind.i64.wrap (q32.Delay - p2)) q32.Tokens)]) (enc := (recs GPlace.cells)) hf hs rfl rfl rfl rfl rfl rfl ((hn30).trans (upd_len hu38).symm) rfl rfl ha44 el57 ti127 rfl rfl rfl (hs.rd (i := 5) rfl) (Nat.succ_pos _) (recs_length GPlace.len) (recs_append GPlace.cells) (recs_one GPlace.one) ?_; clear hf hs; intro a w A41 c42 hs hf
        have hs : St [] W w [.blk b1 59 [.int .i64 p0.Events, .slice A_p0_1 p0.Places.length c_p0_1], .blk b2 59 [.int .i64 0, .slice none 0 0], .row A41 xs43.length c42 127 4 ((recs GPlace.cells) xs43), .blk b31 59 [.int .i64 (IntKind.i64.wrap (p0.Events + 1)), .slice A27 n28 c29], .blk b34 127 [.int .i64 q32.From, .int .i64 q32.To, .int .i64 q32.Delay, .int .i64 q32.Tokens], .row A39 1 1 127 4 ((recs GPlace.cells) ([(GPlace.mk p0.Events q32.To (IntKind.i64.wrap (q32.Delay - p2)) q32.Tokens)]))] := hs
        refine sY hf hs rfl rfl rfl (Y_fieldAddr rfl rfl fo59_1) ?_; clear hf; intro a hf
        refine sStore (i := 3) (us := [.slice A41 xs43.length c42]) hf hs rfl rfl rfl rfl rfl rfl ti57 rfl rfl rfl (Nat.le_of_ble_eq_true rfl) rfl ?_; clear hs; intro w hs
        have hs : St [] W w [.blk b1 59 [.int .i64 p0.Events, .slice A_p0_1 p0.Places.length c_p0_1], .blk b2 59 [.int .i64 0, .slice none 0 0], .row A41 xs43.length c42 127 4 ((recs GPlace.cells) xs43), .blk b31 59 [.int .i64 (IntKind.i64.wrap (p0.Events + 1)), .slice A41 xs43.length c42], .blk b34 127 [.int .i64 q32.From, .int .i64 q32.To, .int .i64 q32.Delay, .int .i64 q32.Tokens], .row A39 1 1 127 4 ((recs GPlace.cells) ([(GPlace.mk p0.Events q32.To (IntKind.i64.wrap (q32.Delay - p2)) q32.Tokens)]))] := hs
        refine wpO_nil ?_
        refine wpL_seq ?_
        refine wpL_region ?_
        refine sY hf hs rfl rfl rfl (Y_load_blkS rfl rfl (i := 3) rfl ag59 ti59 rfl) ?_; clear hf; intro a hf
        obtain ⟨r45, hc46, hm⟩ := bind_some hm
        refine sCall hf rfl rfl rfl rfl (cap := []) rfl rfl en130 (spec_l19Result_ok F (GEventGraph.mk (IntKind.i64.wrap (p0.Events + 1)) xs43) A41 xs43.length c42 rfl _ _ hc46 (hs.rd (i := 2) rfl)) ?_; clear hf
        rintro _ w ⟨A47, n48, c49, rfl, hn50, hal51, hs1⟩ a hf
        have hs : St [] W w [.blk b1 59 [.int .i64 p0.Events, .slice A_p0_1 p0.Places.length c_p0_1], .blk b2 59 [.int .i64 0, .slice none 0 0], .row A41 xs43.length c42 127 4 ((recs GPlace.cells) xs43), .blk b31 59 [.int .i64 (IntKind.i64.wrap (p0.Events + 1)), .slice A41 xs43.length c42], .blk b34 127 [.int .i64 q32.From, .int .i64 q32.To, .int .i64 q32.Delay, .int .i64 q32.Tokens], .row A39 1 1 127 4 ((recs GPlace.cells) ([(GPlace.mk p0.Events q32.To (IntKind.i64.wrap (q32.Delay - p2)) q32.Tokens)]))] := hs.ext hs1.below
        clear hs1
        have hs : St [] W w [.blk b1 59 [.int .i64 p0.Events, .slice A_p0_1 p0.Places.length c_p0_1], .blk b2 59 [.int .i64 0, .slice none 0 0], .row A47 n48 c49 127 4 ((recs GPlace.cells) r45.1.Places), .blk b31 59 [.int .i64 (IntKind.i64.wrap (p0.Events + 1)), .slice A41 xs43.length c42], .blk b34 127 [.int .i64 q32.From, .int .i64 q32.To, .int .i64 q32.Delay, .int .i64 q32.Tokens], .row A39 1 1 127 4 ((recs GPlace.cells) ([(GPlace.mk p0.Events q32.To (IntKind.i64.wrap (q32.Delay - p2)) q32.Tokens)]))] := hs.alias (i := 2) (enc := (recs GPlace.cells)) rfl rfl hal51
        refine sY hf hs rfl rfl rfl (Y_extract rfl rfl rfl) ?_; clear hf; intro a hf
        refine sY hf hs rfl rfl rfl (Y_extract rfl rfl rfl) ?_; clear hf; intro a hf
        refine sStore (i := 1) (us := [.int .i64 r45.1.Events, .slice A47 n48 c49]) hf hs rfl rfl rfl rfl rfl rfl ti59 rfl rfl rfl (Nat.le_of_ble_eq_true rfl) rfl ?_; clear hs; intro w hs
        have hs : St [] W w [.blk b1 59 [.int .i64 p0.Events, .slice A_p0_1 p0.Places.length c_p0_1], .blk b2 59 [.int .i64 r45.1.Events, .slice A47 n48 c49], .row A47 n48 c49 127 4 ((recs GPlace.cells) r45.1.Places), .blk b31 59 [.int .i64 (IntKind.i64.wrap (p0.Events + 1)), .slice A41 xs43.length c42], .blk b34 127 [.int .i64 q32.From, .int .i64 q32.To, .int .i64 q32.Delay, .int .i64 q32.Tokens], .row A39 1 1 127 4 ((recs GPlace.cells) ([(GPlace.mk p0.Events q32.To (IntKind.i64.wrap (q32.Delay - p2)) q32.Tokens)]))] := hs
        refine sY hf hs rfl rfl rfl (Y_assign rfl rfl) ?_; clear hf; intro a hf
        refine wpO_nil ?_
        obtain rfl := Option.some.inj hm
        refine wpL_ret (ret_cell_tmp rfl hf rfl rfl hs (i := 1) rfl ag59 ti59 rfl ?_)
        exact ⟨_, rfl, A47, n48, c49, rfl, hn50, hs.sel [2] (by decide)⟩

set_option maxRecDepth 100000 in
theorem spec_l11DrawEvent_ok (F : Nat) (b_p0_s : Nat) (p0_s_code : List Int) (A_p0_s_code : Option Addr) (n_p0_s_code c_p0_s_code : Nat) (hn_p0_s_code : n_p0_s_code = p0_s_code.length) (p0_s_at : Int) (p0_s_seed : Int) (r : (GEventGraph × Int) × Int × Int) (W : World) (hm : spec_l11DrawEvent F p0_s_code p0_s_at p0_s_seed = some r) (h_p0_s_code : KR (muL [.blk b_p0_s 145 [.slice A_p0_s_code n_p0_s_code c_p0_s_code, .int .i64 p0_s_at, .int .i64 p0_s_seed]]) W A_p0_s_code (bytes p0_s_code)) (hst : St (muL [.blk b_p0_s 145 [.slice A_p0_s_code n_p0_s_code c_p0_s_code, .int .i64 p0_s_at, .int .i64 p0_s_seed]]) W W [.blk b_p0_s 145 [.slice A_p0_s_code n_p0_s_code c_p0_s_code, .int .i64 p0_s_at, .int .i64 p0_s_seed]]) :
    Calls Try.prog 133 [.pointer (some ⟨b_p0_s, 0, none⟩)].toArray W fun e w' => ∃ v, e = .returned v ∧ ∃ A24, ∃ n25, ∃ c26, v = .tuple #[.agg #[.int .i64 r.1.1.Events, .slice A24 n25 c26], .int .i64 r.1.2] ∧ n25 = r.1.1.Places.length ∧ St (muL [.blk b_p0_s 145 [.slice A_p0_s_code n_p0_s_code c_p0_s_code, .int .i64 p0_s_at, .int .i64 p0_s_seed]]) W w' [.row A24 n25 c26 127 4 ((recs GPlace.cells) r.1.1.Places), .blk b_p0_s 145 [.slice A_p0_s_code n_p0_s_code c_p0_s_code, .int .i64 r.2.1, .int .i64 r.2.2]] := by
  subst hn_p0_s_code
  unfold spec_l11DrawEvent at hm
  refine Calls.enter (N := 21) Try.func133 rfl rfl rfl (fun a hf => ?_)
  have hs := hst
  obtain ⟨w, hw_⟩ : ∃ w, w = W := ⟨W, rfl⟩
  clear hw_ w
  refine wpL_seq ?_
  refine wpL_region ?_
  refine sAlloc hf hs rfl rfl rfl rfl ti59 ?_; clear hf hs; intro a w b1 hs hf
  have hs : St (muL [.blk b_p0_s 145 [.slice A_p0_s_code p0_s_code.length c_p0_s_code, .int .i64 p0_s_at, .int .i64 p0_s_seed]]) W w [.blk b_p0_s 145 [.slice A_p0_s_code p0_s_code.length c_p0_s_code, .int .i64 p0_s_at, .int .i64 p0_s_seed], .blk b1 59 [.int .i64 0, .slice none 0 0]] := hs
  refine sY hf hs rfl rfl rfl (Y_assign rfl rfl) ?_; clear hf; intro a hf
  refine wpO_nil ?_
  refine wpL_seq ?_
  refine wpL_region ?_
  refine sY hf hs rfl rfl rfl (Y_move rfl rfl) ?_; clear hf; intro a hf
  obtain ⟨r2, hc3, hm⟩ := bind_some hm
  refine sCall hf rfl rfl rfl rfl (cap := []) rfl rfl en125 (spec_l11Draw_ok F b_p0_s p0_s_code A_p0_s_code p0_s_code.length c_p0_s_code rfl p0_s_at p0_s_seed _ _ hc3 (h_p0_s_code.pass hs [0]) (hs.sel [0] (by decide)).rebase) ?_; clear hf
  rintro _ w ⟨A4, n5, c6, rfl, hn7, hs1⟩ a hf
  have hs : St (muL [.blk b_p0_s 145 [.slice A_p0_s_code p0_s_code.length c_p0_s_code, .int .i64 p0_s_at, .int .i64 p0_s_seed]]) W w [.blk b1 59 [.int .i64 0, .slice none 0 0], .row A4 n5 c6 127 4 ((recs GPlace.cells) r2.1.Places), .blk b_p0_s 145 [.slice A_p0_s_code p0_s_code.length c_p0_s_code, .int .i64 r2.2.1, .int .i64 r2.2.2]] := St.mutTail (La := [.blk b1 59 [.int .i64 0, .slice none 0 0]]) (Lb := [.blk b_p0_s 145 [.slice A_p0_s_code p0_s_code.length c_p0_s_code, .int .i64 p0_s_at, .int .i64 p0_s_seed]]) (hs.sel [1, 0] (by decide)) hs1
  clear hs1
  refine sAlloc hf hs rfl rfl rfl rfl ti59 ?_; clear hf hs; intro a w b8 hs hf
  have hs : St (muL [.blk b_p0_s 145 [.slice A_p0_s_code p0_s_code.length c_p0_s_code, .int .i64 p0_s_at, .int .i64 p0_s_seed]]) W w [.blk b1 59 [.int .i64 0, .slice none 0 0], .row A4 n5 c6 127 4 ((recs GPlace.cells) r2.1.Places), .blk b_p0_s 145 [.slice A_p0_s_code p0_s_code.length c_p0_s_code, .int .i64 r2.2.1, .int .i64 r2.2.2], .blk b8 59 [.int .i64 0, .slice none 0 0]] := hs
  refine sStore (i := 3) (us := [.int .i64 r2.1.Events, .slice A4 n5 c6]) hf hs rfl rfl rfl rfl rfl rfl ti59 rfl rfl rfl (Nat.le_of_ble_eq_true rfl) rfl ?_; clear hs; intro w hs
  have hs : St (muL [.blk b_p0_s 145 [.slice A_p0_s_code p0_s_code.length c_p0_s_code, .int .i64 p0_s_at, .int .i64 p0_s_seed]]) W w [.blk b1 59 [.int .i64 0, .slice none 0 0], .row A4 n5 c6 127 4 ((recs GPlace.cells) r2.1.Places), .blk b_p0_s 145 [.slice A_p0_s_code p0_s_code.length c_p0_s_code, .int .i64 r2.2.1, .int .i64 r2.2.2], .blk b8 59 [.int .i64 r2.1.Events, .slice A4 n5 c6]] := hs
  refine wpO_nil ?_
  refine wpL_seq ?_
  refine wpL_seq ?_
  refine wpL_region ?_
  refine sY hf hs rfl rfl rfl (Y_move rfl rfl) ?_; clear hf; intro a hf
  obtain ⟨r9, hc10, hm⟩ := bind_some hm
  refine sCall hf rfl rfl rfl rfl (cap := []) rfl rfl en107 (spec_l01Next_ok F b_p0_s p0_s_code A_p0_s_code p0_s_code.length c_p0_s_code rfl r2.2.1 r2.2.2 20 _ _ hc10 (h_p0_s_code.pass hs [2]) (hs.sel [2] (by decide)).rebase) ?_; clear hf
  rintro _ w ⟨rfl, hs1⟩ a hf
  have hs : St (muL [.blk b_p0_s 145 [.slice A_p0_s_code p0_s_code.length c_p0_s_code, .int .i64 p0_s_at, .int .i64 p0_s_seed]]) W w [.blk b1 59 [.int .i64 0, .slice none 0 0], .row A4 n5 c6 127 4 ((recs GPlace.cells) r2.1.Places), .blk b8 59 [.int .i64 r2.1.Events, .slice A4 n5 c6], .blk b_p0_s 145 [.slice A_p0_s_code p0_s_code.length c_p0_s_code, .int .i64 r9.2.1, .int .i64 r9.2.2]] := St.mutTail (La := [.blk b1 59 [.int .i64 0, .slice none 0 0], .row A4 n5 c6 127 4 ((recs GPlace.cells) r2.1.Places), .blk b8 59 [.int .i64 r2.1.Events, .slice A4 n5 c6]]) (Lb := [.blk b_p0_s 145 [.slice A_p0_s_code p0_s_code.length c_p0_s_code, .int .i64 r2.2.1, .int .i64 r2.2.2]]) (hs.sel [0, 1, 3, 2] (by decide)) hs1
  clear hs1
  refine sY hf hs rfl rfl rfl (Y_eql rfl rfl rfl) ?_; clear hf; intro a hf
  refine wpO_nil ?_
  refine wpL_cond hf rfl (fun hb11 => ?_) (fun hb11 => ?_)
  · have hm := bif_t hm hb11
    refine wpL_seq ?_
    refine wpL_drawM [.blk b1 59 [.int .i64 0, .slice none 0 0], .row A4 n5 c6 127 4 ((recs GPlace.cells) r2.1.Places), .blk b8 59 [.int .i64 r2.1.Events, .slice A4 n5 c6]] [6] (by kernel_rfl) hs ?_; clear hs; intro w hs
    have hs0 : St (muL [.blk b_p0_s 145 [.slice A_p0_s_code p0_s_code.length c_p0_s_code, .int .i64 p0_s_at, .int .i64 p0_s_seed]]) W w [.blk b1 59 [.int .i64 0, .slice none 0 0], .row A4 n5 c6 127 4 ((recs GPlace.cells) r2.1.Places), .blk b8 59 [.int .i64 r2.1.Events, .slice A4 n5 c6]] := hs.sel [0, 1, 2] (by decide)
    refine mY (i := 0) [[]] rfl (by kernel_rfl) (by kernel_rfl) hf hs0 rfl rfl rfl (Y_load_blkS rfl rfl (i := 2) rfl ag59 ti59 rfl) ?_; clear hf; intro a hf
    refine mYp (i := 1) rfl (by kernel_rfl) (by kernel_rfl) hf rfl rfl rfl (fun _ => Y_move rfl rfl) ?_; clear hf; intro a hf
    refine mYp (i := 2) rfl (by kernel_rfl) (by kernel_rfl) hf rfl rfl rfl (fun _ => Y_fieldAddr rfl rfl fo59_0) ?_; clear hf; intro a hf
    refine mY (i := 3) [[4, 5]] rfl (by kernel_rfl) (by kernel_rfl) hf hs0 rfl rfl rfl (Y_load_blk rfl rfl (i := 2) rfl rfl ag2) ?_; clear hf; intro a hf
    refine mRun (i := 4) rfl (by kernel_rfl) ?_
    refine sBuildSlice (parts := [(0, .const (.int .i64 (-1))), (1, .tmp 13)]) (vs := [.int .i64 (-1), .int .i64 r2.1.Events]) (cells := [.int .i64 (-1), .int .i64 r2.1.Events]) hf hs rfl rfl rfl rfl rfl el23 ti2 rfl rfl rfl rfl ?_; clear hf hs; intro a w A16 hs hA17 hf
    have hs : St (muL [.blk b_p0_s 145 [.slice A_p0_s_code p0_s_code.length c_p0_s_code, .int .i64 p0_s_at, .int .i64 p0_s_seed]]) W w [.blk b1 59 [.int .i64 0, .slice none 0 0], .row A4 n5 c6 127 4 ((recs GPlace.cells) r2.1.Places), .blk b8 59 [.int .i64 r2.1.Events, .slice A4 n5 c6], .blk b_p0_s 145 [.slice A_p0_s_code p0_s_code.length c_p0_s_code, .int .i64 r9.2.1, .int .i64 r9.2.2], .row A16 2 2 2 1 (ints ([(-1), r2.1.Events]))] := hs
    have hs0 : St (muL [.blk b_p0_s 145 [.slice A_p0_s_code p0_s_code.length c_p0_s_code, .int .i64 p0_s_at, .int .i64 p0_s_seed]]) W w [.blk b1 59 [.int .i64 0, .slice none 0 0], .row A4 n5 c6 127 4 ((recs GPlace.cells) r2.1.Places), .blk b8 59 [.int .i64 r2.1.Events, .slice A4 n5 c6]] := hs.sel [0, 1, 2] (by decide)
    refine wpO_nil ⟨Or.inr (fun _ => hs0), ?_⟩
    refine mRun (i := 5) rfl (by kernel_rfl) ?_
    obtain ⟨r18, hc19, hm⟩ := bind_some hm
    refine sCall hf rfl rfl rfl rfl (cap := []) rfl rfl en114 (spec_l01Pick_ok F b_p0_s p0_s_code A_p0_s_code p0_s_code.length c_p0_s_code rfl r9.2.1 r9.2.2 ([(-1), r2.1.Events]) A16 2 2 rfl _ _ hc19 (h_p0_s_code.pass hs [3]) (hs.keepR (i := 4) rfl [3] (by decide)) (hs.sel [3] (by decide)).rebase) ?_; clear hf
    rintro _ w ⟨rfl, hs1⟩ a hf
    have hs : St (muL [.blk b_p0_s 145 [.slice A_p0_s_code p0_s_code.length c_p0_s_code, .int .i64 p0_s_at, .int .i64 p0_s_seed]]) W w [.blk b1 59 [.int .i64 0, .slice none 0 0], .row A4 n5 c6 127 4 ((recs GPlace.cells) r2.1.Places), .blk b8 59 [.int .i64 r2.1.Events, .slice A4 n5 c6], .row A16 2 2 2 1 (ints ([(-1), r2.1.Events])), .blk b_p0_s 145 [.slice A_p0_s_code p0_s_code.length c_p0_s_code, .int .i64 r18.2.1, .int .i64 r18.2.2]] := St.mutTail (La := [.blk b1 59 [.int .i64 0, .slice none 0 0], .row A4 n5 c6 127 4 ((recs GPlace.cells) r2.1.Places), .blk b8 59 [.int .i64 r2.1.Events, .slice A4 n5 c6], .row A16 2 2 2 1 (ints ([(-1), r2.1.Events]))]) (Lb := [.blk b_p0_s 145 [.slice A_p0_s_code p0_s_code.length c_p0_s_code, .int .i64 r9.2.1, .int .i64 r9.2.2]]) (hs.sel [0, 1, 2, 4, 3] (by decide)) hs1
    clear hs1
    have hs0 : St (muL [.blk b_p0_s 145 [.slice A_p0_s_code p0_s_code.length c_p0_s_code, .int .i64 p0_s_at, .int .i64 p0_s_seed]]) W w [.blk b1 59 [.int .i64 0, .slice none 0 0], .row A4 n5 c6 127 4 ((recs GPlace.cells) r2.1.Places), .blk b8 59 [.int .i64 r2.1.Events, .slice A4 n5 c6]] := hs.sel [0, 1, 2] (by decide)
    refine wpO_nil ⟨Or.inr (fun _ => hs0), ?_⟩
    refine mRun (i := 6) rfl (by kernel_rfl) ?_
    refine sStore (i := 0) (us := [.int .i64 r2.1.Events, .slice A4 n5 c6]) hf hs rfl rfl rfl rfl rfl rfl ti59 rfl rfl rfl (Nat.le_of_ble_eq_true rfl) rfl ?_; clear hs; intro w hs
    have hs : St (muL [.blk b_p0_s 145 [.slice A_p0_s_code p0_s_code.length c_p0_s_code, .int .i64 p0_s_at, .int .i64 p0_s_seed]]) W w [.blk b1 59 [.int .i64 r2.1.Events, .slice A4 n5 c6], .row A4 n5 c6 127 4 ((recs GPlace.cells) r2.1.Places), .blk b8 59 [.int .i64 r2.1.Events, .slice A4 n5 c6], .row A16 2 2 2 1 (ints ([(-1), r2.1.Events])), .blk b_p0_s 145 [.slice A_p0_s_code p0_s_code.length c_p0_s_code, .int .i64 r18.2.1, .int .i64 r18.2.2]] := hs
    refine wpO_nil ⟨Or.inl (by decide), ?_⟩
    refine mYp (i := 7) rfl (by kernel_rfl) (by kernel_rfl) hf rfl rfl rfl (fun _ => Y_assign rfl rfl) ?_; clear hf; intro a hf
    refine mDone (by kernel_rfl) ?_
    clear hs0
    obtain rfl := Option.some.inj hm
    refine wpL_ret (ret_cell_tmp rfl hf rfl rfl hs (i := 0) rfl ag59 ti59 rfl ?_)
    exact ⟨_, rfl, A4, n5, c6, rfl, hn7, hs.sel [1, 4] (by decide)⟩
  · have hm := bif_f hm hb11
    refine wpL_skip ?_
    refine wpL_seq ?_
    refine wpL_drawM [.blk b1 59 [.int .i64 0, .slice none 0 0], .row A4 n5 c6 127 4 ((recs GPlace.cells) r2.1.Places), .blk b8 59 [.int .i64 r2.1.Events, .slice A4 n5 c6]] [5] (by kernel_rfl) hs ?_; clear hs; intro w hs
    have hs0 : St (muL [.blk b_p0_s 145 [.slice A_p0_s_code p0_s_code.length c_p0_s_code, .int .i64 p0_s_at, .int .i64 p0_s_seed]]) W w [.blk b1 59 [.int .i64 0, .slice none 0 0], .row A4 n5 c6 127 4 ((recs GPlace.cells) r2.1.Places), .blk b8 59 [.int .i64 r2.1.Events, .slice A4 n5 c6]] := hs.sel [0, 1, 2] (by decide)
    refine mY (i := 0) [[]] rfl (by kernel_rfl) (by kernel_rfl) hf hs0 rfl rfl rfl (Y_load_blkS rfl rfl (i := 2) rfl ag59 ti59 rfl) ?_; clear hf; intro a hf
    refine mYp (i := 1) rfl (by kernel_rfl) (by kernel_rfl) hf rfl rfl rfl (fun _ => Y_move rfl rfl) ?_; clear hf; intro a hf
    refine mYp (i := 2) rfl (by kernel_rfl) (by kernel_rfl) hf rfl rfl rfl (fun _ => Y_fieldAddr rfl rfl fo59_0) ?_; clear hf; intro a hf
    refine mY (i := 3) [[4]] rfl (by kernel_rfl) (by kernel_rfl) hf hs0 rfl rfl rfl (Y_load_blk rfl rfl (i := 2) rfl rfl ag2) ?_; clear hf; intro a hf
    refine mRun (i := 4) rfl (by kernel_rfl) ?_
    obtain ⟨r22, hc23, hm⟩ := bind_some hm
    refine sCall hf rfl rfl rfl rfl (cap := []) rfl rfl en107 (spec_l01Next_ok F b_p0_s p0_s_code A_p0_s_code p0_s_code.length c_p0_s_code rfl r9.2.1 r9.2.2 r2.1.Events _ _ hc23 (h_p0_s_code.pass hs [3]) (hs.sel [3] (by decide)).rebase) ?_; clear hf
    rintro _ w ⟨rfl, hs1⟩ a hf
    have hs : St (muL [.blk b_p0_s 145 [.slice A_p0_s_code p0_s_code.length c_p0_s_code, .int .i64 p0_s_at, .int .i64 p0_s_seed]]) W w [.blk b1 59 [.int .i64 0, .slice none 0 0], .row A4 n5 c6 127 4 ((recs GPlace.cells) r2.1.Places), .blk b8 59 [.int .i64 r2.1.Events, .slice A4 n5 c6], .blk b_p0_s 145 [.slice A_p0_s_code p0_s_code.length c_p0_s_code, .int .i64 r22.2.1, .int .i64 r22.2.2]] := St.mutTail (La := [.blk b1 59 [.int .i64 0, .slice none 0 0], .row A4 n5 c6 127 4 ((recs GPlace.cells) r2.1.Places), .blk b8 59 [.int .i64 r2.1.Events, .slice A4 n5 c6]]) (Lb := [.blk b_p0_s 145 [.slice A_p0_s_code p0_s_code.length c_p0_s_code, .int .i64 r9.2.1, .int .i64 r9.2.2]]) (hs.sel [0, 1, 2, 3] (by decide)) hs1
    clear hs1
    have hs0 : St (muL [.blk b_p0_s 145 [.slice A_p0_s_code p0_s_code.length c_p0_s_code, .int .i64 p0_s_at, .int .i64 p0_s_seed]]) W w [.blk b1 59 [.int .i64 0, .slice none 0 0], .row A4 n5 c6 127 4 ((recs GPlace.cells) r2.1.Places), .blk b8 59 [.int .i64 r2.1.Events, .slice A4 n5 c6]] := hs.sel [0, 1, 2] (by decide)
    refine wpO_nil ⟨Or.inr (fun _ => hs0), ?_⟩
    refine mRun (i := 5) rfl (by kernel_rfl) ?_
    refine sStore (i := 0) (us := [.int .i64 r2.1.Events, .slice A4 n5 c6]) hf hs rfl rfl rfl rfl rfl rfl ti59 rfl rfl rfl (Nat.le_of_ble_eq_true rfl) rfl ?_; clear hs; intro w hs
    have hs : St (muL [.blk b_p0_s 145 [.slice A_p0_s_code p0_s_code.length c_p0_s_code, .int .i64 p0_s_at, .int .i64 p0_s_seed]]) W w [.blk b1 59 [.int .i64 r2.1.Events, .slice A4 n5 c6], .row A4 n5 c6 127 4 ((recs GPlace.cells) r2.1.Places), .blk b8 59 [.int .i64 r2.1.Events, .slice A4 n5 c6], .blk b_p0_s 145 [.slice A_p0_s_code p0_s_code.length c_p0_s_code, .int .i64 r22.2.1, .int .i64 r22.2.2]] := hs
    refine wpO_nil ⟨Or.inl (by decide), ?_⟩
    refine mYp (i := 6) rfl (by kernel_rfl) (by kernel_rfl) hf rfl rfl rfl (fun _ => Y_assign rfl rfl) ?_; clear hf; intro a hf
    refine mDone (by kernel_rfl) ?_
    clear hs0
    obtain rfl := Option.some.inj hm
    refine wpL_ret (ret_cell_tmp rfl hf rfl rfl hs (i := 0) rfl ag59 ti59 rfl ?_)
    exact ⟨_, rfl, A4, n5, c6, rfl, hn7, hs.sel [1, 3] (by decide)⟩

set_option maxRecDepth 100000 in
theorem spec_DrawMergeEvents_ok (F : Nat) (p0_code : List Int) (A_p0_code_1 : Option Addr) (n_p0_code_1 c_p0_code_1 : Nat) (hn_p0_code_1 : n_p0_code_1 = p0_code.length) (r : GEventGraph × Int × Int) (W : World) (hm : spec_DrawMergeEvents F p0_code = some r) (h_p0_code_1 : Rd W A_p0_code_1 (bytes p0_code)) :
    Calls Try.prog 47 [.slice A_p0_code_1 n_p0_code_1 c_p0_code_1].toArray W fun e w' => ∃ v, e = .returned v ∧ ∃ A16, ∃ n17, ∃ c18, v = .tuple #[.agg #[.int .i64 r.1.Events, .slice A16 n17 c18], .int .i64 r.2.1, .int .i64 r.2.2] ∧ n17 = r.1.Places.length ∧ St [] W w' [.row A16 n17 c18 127 4 ((recs GPlace.cells) r.1.Places)] := by
  subst hn_p0_code_1
  unfold spec_DrawMergeEvents at hm
  refine Calls.enter (N := 21) Try.func47 rfl rfl rfl (fun a hf => ?_)
  have hs := St.start W
  obtain ⟨w, hw_⟩ : ∃ w, w = W := ⟨W, rfl⟩
  clear hw_ w
  refine wpL_seq ?_
  refine wpL_region ?_
  refine sAlloc hf hs rfl rfl rfl rfl ti59 ?_; clear hf hs; intro a w b1 hs hf
  have hs : St [] W w [.blk b1 59 [.int .i64 0, .slice none 0 0]] := hs
  refine sY hf hs rfl rfl rfl (Y_assign rfl rfl) ?_; clear hf; intro a hf
  refine sY hf hs rfl rfl rfl (Y_assign rfl rfl) ?_; clear hf; intro a hf
  refine wpO_nil ?_
  refine wpL_seq ?_
  refine wpL_region ?_
  refine sY hf hs rfl rfl rfl (Y_move rfl rfl) ?_; clear hf; intro a hf
  obtain ⟨r2, hc3, hm⟩ := bind_some hm
  refine sCall hf rfl rfl rfl rfl (cap := []) rfl rfl en101 (spec_l01From_ok F p0_code A_p0_code_1 p0_code.length c_p0_code_1 rfl _ _ hc3 (h_p0_code_1.at hs)) ?_; clear hf
  rintro _ w ⟨b4, rfl, hs1⟩ a hf
  have hs : St [] W w [.blk b1 59 [.int .i64 0, .slice none 0 0], .blk b4 145 [.slice A_p0_code_1 p0_code.length c_p0_code_1, .int .i64 r2.1, .int .i64 r2.2]] := hs.join hs1
  clear hs1
  refine sY hf hs rfl rfl rfl (Y_assign rfl rfl) ?_; clear hf; intro a hf
  refine wpO_nil ?_
  refine wpL_seq ?_
  refine wpL_region ?_
  refine sY hf hs rfl rfl rfl (Y_move rfl rfl) ?_; clear hf; intro a hf
  obtain ⟨r5, hc6, hm⟩ := bind_some hm
  refine sCall hf rfl rfl rfl rfl (cap := []) rfl rfl en133 (spec_l11DrawEvent_ok F b4 p0_code A_p0_code_1 p0_code.length c_p0_code_1 rfl r2.1 r2.2 _ _ hc6 (h_p0_code_1.pass hs [1]) (hs.sel [1] (by decide)).rebase) ?_; clear hf
  rintro _ w ⟨A7, n8, c9, rfl, hn10, hs1⟩ a hf
  have hs : St [] W w [.blk b1 59 [.int .i64 0, .slice none 0 0], .row A7 n8 c9 127 4 ((recs GPlace.cells) r5.1.1.Places), .blk b4 145 [.slice A_p0_code_1 p0_code.length c_p0_code_1, .int .i64 r5.2.1, .int .i64 r5.2.2]] := St.mutTail (La := [.blk b1 59 [.int .i64 0, .slice none 0 0]]) (Lb := [.blk b4 145 [.slice A_p0_code_1 p0_code.length c_p0_code_1, .int .i64 r2.1, .int .i64 r2.2]]) (hs.sel [0, 1] (by decide)) hs1
  clear hs1
  refine sY hf hs rfl rfl rfl (Y_move rfl rfl) ?_; clear hf; intro a hf
  refine sY hf hs rfl rfl rfl (Y_extract rfl rfl rfl) ?_; clear hf; intro a hf
  refine sY hf hs rfl rfl rfl (Y_extract rfl rfl rfl) ?_; clear hf; intro a hf
  refine sAlloc hf hs rfl rfl rfl rfl ti59 ?_; clear hf hs; intro a w b11 hs hf
  have hs : St [] W w [.blk b1 59 [.int .i64 0, .slice none 0 0], .row A7 n8 c9 127 4 ((recs GPlace.cells) r5.1.1.Places), .blk b4 145 [.slice A_p0_code_1 p0_code.length c_p0_code_1, .int .i64 r5.2.1, .int .i64 r5.2.2], .blk b11 59 [.int .i64 0, .slice none 0 0]] := hs
  refine sStore (i := 3) (us := [.int .i64 r5.1.1.Events, .slice A7 n8 c9]) hf hs rfl rfl rfl rfl rfl rfl ti59 rfl rfl rfl (Nat.le_of_ble_eq_true rfl) rfl ?_; clear hs; intro w hs
  have hs : St [] W w [.blk b1 59 [.int .i64 0, .slice none 0 0], .row A7 n8 c9 127 4 ((recs GPlace.cells) r5.1.1.Places), .blk b4 145 [.slice A_p0_code_1 p0_code.length c_p0_code_1, .int .i64 r5.2.1, .int .i64 r5.2.2], .blk b11 59 [.int .i64 r5.1.1.Events, .slice A7 n8 c9]] := hs
  refine sY hf hs rfl rfl rfl (Y_assign rfl rfl) ?_; clear hf; intro a hf
  refine wpO_nil ?_
  refine wpL_seq ?_
  refine wpL_drawM [.blk b1 59 [.int .i64 0, .slice none 0 0], .row A7 n8 c9 127 4 ((recs GPlace.cells) r5.1.1.Places), .blk b11 59 [.int .i64 r5.1.1.Events, .slice A7 n8 c9]] [6] (by kernel_rfl) hs ?_; clear hs; intro w hs
  have hs0 : St [] W w [.blk b1 59 [.int .i64 0, .slice none 0 0], .row A7 n8 c9 127 4 ((recs GPlace.cells) r5.1.1.Places), .blk b11 59 [.int .i64 r5.1.1.Events, .slice A7 n8 c9]] := hs.sel [0, 1, 3] (by decide)
  refine mY (i := 0) [[]] rfl (by kernel_rfl) (by kernel_rfl) hf hs0 rfl rfl rfl (Y_load_blkS rfl rfl (i := 2) rfl ag59 ti59 rfl) ?_; clear hf; intro a hf
  refine mYp (i := 1) rfl (by kernel_rfl) (by kernel_rfl) hf rfl rfl rfl (fun _ => Y_move rfl rfl) ?_; clear hf; intro a hf
  refine mYp (i := 2) rfl (by kernel_rfl) (by kernel_rfl) hf rfl rfl rfl (fun _ => Y_move rfl rfl) ?_; clear hf; intro a hf
  refine mYp (i := 3) rfl (by kernel_rfl) (by kernel_rfl) hf rfl rfl rfl (fun _ => Y_move rfl rfl) ?_; clear hf; intro a hf
  refine mRun (i := 4) rfl (by kernel_rfl) ?_
  obtain ⟨r14, hc15, hm⟩ := bind_some hm
  refine sCall hf rfl rfl rfl rfl (cap := []) rfl rfl en107 (spec_l01Next_ok F b4 p0_code A_p0_code_1 p0_code.length c_p0_code_1 rfl r5.2.1 r5.2.2 4 _ _ hc15 (h_p0_code_1.pass hs [2]) (hs.sel [2] (by decide)).rebase) ?_; clear hf
  rintro _ w ⟨rfl, hs1⟩ a hf
  have hs : St [] W w [.blk b1 59 [.int .i64 0, .slice none 0 0], .row A7 n8 c9 127 4 ((recs GPlace.cells) r5.1.1.Places), .blk b11 59 [.int .i64 r5.1.1.Events, .slice A7 n8 c9], .blk b4 145 [.slice A_p0_code_1 p0_code.length c_p0_code_1, .int .i64 r14.2.1, .int .i64 r14.2.2]] := St.mutTail (La := [.blk b1 59 [.int .i64 0, .slice none 0 0], .row A7 n8 c9 127 4 ((recs GPlace.cells) r5.1.1.Places), .blk b11 59 [.int .i64 r5.1.1.Events, .slice A7 n8 c9]]) (Lb := [.blk b4 145 [.slice A_p0_code_1 p0_code.length c_p0_code_1, .int .i64 r5.2.1, .int .i64 r5.2.2]]) (hs.sel [0, 1, 3, 2] (by decide)) hs1
  clear hs1
  have hs0 : St [] W w [.blk b1 59 [.int .i64 0, .slice none 0 0], .row A7 n8 c9 127 4 ((recs GPlace.cells) r5.1.1.Places), .blk b11 59 [.int .i64 r5.1.1.Events, .slice A7 n8 c9]] := hs.sel [0, 1, 2] (by decide)
  refine wpO_nil ⟨Or.inr (fun _ => hs0), ?_⟩
  refine mYp (i := 5) rfl (by kernel_rfl) (by kernel_rfl) hf rfl rfl rfl (fun _ => Y_add rfl rfl rfl) ?_; clear hf; intro a hf
  refine mRun (i := 6) rfl (by kernel_rfl) ?_
  refine sStore (i := 0) (us := [.int .i64 r5.1.1.Events, .slice A7 n8 c9]) hf hs rfl rfl rfl rfl rfl rfl ti59 rfl rfl rfl (Nat.le_of_ble_eq_true rfl) rfl ?_; clear hs; intro w hs
  have hs : St [] W w [.blk b1 59 [.int .i64 r5.1.1.Events, .slice A7 n8 c9], .row A7 n8 c9 127 4 ((recs GPlace.cells) r5.1.1.Places), .blk b11 59 [.int .i64 r5.1.1.Events, .slice A7 n8 c9], .blk b4 145 [.slice A_p0_code_1 p0_code.length c_p0_code_1, .int .i64 r14.2.1, .int .i64 r14.2.2]] := hs
  refine wpO_nil ⟨Or.inl (by decide), ?_⟩
  refine mYp (i := 7) rfl (by kernel_rfl) (by kernel_rfl) hf rfl rfl rfl (fun _ => Y_assign rfl rfl) ?_; clear hf; intro a hf
  refine mYp (i := 8) rfl (by kernel_rfl) (by kernel_rfl) hf rfl rfl rfl (fun _ => Y_assign rfl rfl) ?_; clear hf; intro a hf
  refine mDone (by kernel_rfl) ?_
  clear hs0
  obtain rfl := Option.some.inj hm
  refine wpL_ret (ret_cell_tmp2 rfl hf rfl rfl rfl hs (i := 0) rfl ag59 ti59 rfl ?_)
  exact ⟨_, rfl, A7, n8, c9, rfl, hn10, hs.sel [1] (by decide)⟩

set_option maxRecDepth 100000 in
theorem impl_MergeEvents_c1_ok (F : Nat) (p0_event : Int) (b_z0 : Nat) (z0 : Int) (b_z1 : Nat) (z1 : Int) (r : Int) (W : World) (hm : impl_MergeEvents_c1 F p0_event z0 z1 = some r) (h_z0 : PB W b_z0 2 [.int .i64 z0]) (h_z1 : PB W b_z1 2 [.int .i64 z1]) :
    Calls Try.prog 136 [.int .i64 p0_event, .pointer (some ⟨b_z0, 0, none⟩), .pointer (some ⟨b_z1, 0, none⟩)].toArray W fun e w' => ∃ v, e = .returned v ∧ v = .int .i64 r ∧ St [] W w' [] := by
  unfold impl_MergeEvents_c1 at hm
  refine Calls.enter (N := 17) Try.func136 rfl rfl rfl (fun a hf => ?_)
  have hs := St.start W
  obtain ⟨w, hw_⟩ : ∃ w, w = W := ⟨W, rfl⟩
  clear hw_ w
  refine wpL_seq ?_
  refine wpL_region ?_
  refine sY hf hs rfl rfl rfl (Y_assign rfl rfl) ?_; clear hf; intro a hf
  refine wpO_nil ?_
  refine wpL_seq ?_
  refine wpL_block0 ?_
  refine wpL_seq ?_
  refine wpL_region ?_
  refine sY hf hs rfl rfl rfl (Y_move rfl rfl) ?_; clear hf; intro a hf
  refine sY hf hs rfl rfl rfl (Y_load_pb rfl rfl h_z0 rfl ag2) ?_; clear hf; intro a hf
  refine sY hf hs rfl rfl rfl (Y_eql rfl rfl rfl) ?_; clear hf; intro a hf
  refine sY hf hs rfl rfl rfl (Y_assign rfl rfl) ?_; clear hf; intro a hf
  refine wpO_nil ?_
  refine wpL_cond hf rfl (fun hb1 => ?_) (fun hb1 => ?_)
  · have hm := bif_t hm hb1
    refine wpL_seq ?_
    refine wpL_region ?_
    refine sY hf hs rfl rfl rfl (Y_load_pb rfl rfl h_z1 rfl ag2) ?_; clear hf; intro a hf
    refine sY hf hs rfl rfl rfl (Y_assign rfl rfl) ?_; clear hf; intro a hf
    refine wpO_nil ?_
    obtain rfl := Option.some.inj hm
    refine wpL_ret (Qb_ret (ret_tmp rfl hf rfl ?_))
    exact ⟨_, rfl, rfl, hs⟩
  · have hm := bif_f hm hb1
    refine wpL_seq ?_
    refine wpL_region ?_
    refine sY hf hs rfl rfl rfl (Y_move rfl rfl) ?_; clear hf; intro a hf
    refine sY hf hs rfl rfl rfl (Y_load_pb rfl rfl h_z0 rfl ag2) ?_; clear hf; intro a hf
    refine sY hf hs rfl rfl rfl (Y_gtr rfl rfl rfl) ?_; clear hf; intro a hf
    refine sY hf hs rfl rfl rfl (Y_assign rfl rfl) ?_; clear hf; intro a hf
    refine wpO_nil ?_
    refine wpL_cond hf rfl (fun hb2 => ?_) (fun hb2 => ?_)
    · have hm := bif_t hm hb2
      refine wpL_seq ?_
      refine wpL_region ?_
      refine sY hf hs rfl rfl rfl (Y_move rfl rfl) ?_; clear hf; intro a hf
      refine sY hf hs rfl rfl rfl (Y_sub rfl rfl rfl) ?_; clear hf; intro a hf
      refine sY hf hs rfl rfl rfl (Y_assign rfl rfl) ?_; clear hf; intro a hf
      refine wpO_nil ?_
      obtain rfl := Option.some.inj hm
      refine wpL_ret (Qb_ret (ret_tmp rfl hf rfl ?_))
      exact ⟨_, rfl, rfl, hs⟩
    · have hm := bif_f hm hb2
      refine wpL_skip ?_
      refine wpL_nil (Qb_normal ?_)
      refine wpL_seq ?_
      refine wpL_region ?_
      refine sY hf hs rfl rfl rfl (Y_move rfl rfl) ?_; clear hf; intro a hf
      refine sY hf hs rfl rfl rfl (Y_assign rfl rfl) ?_; clear hf; intro a hf
      refine wpO_nil ?_
      obtain rfl := Option.some.inj hm
      refine wpL_ret (ret_tmp rfl hf rfl ?_)
      exact ⟨_, rfl, rfl, hs⟩

set_option maxRecDepth 100000 in
theorem impl_mappedGraph_ok (F : Nat) (p0_g : GEventGraph) (A_p0_g_1 : Option Addr) (n_p0_g_1 c_p0_g_1 : Nat) (hn_p0_g_1 : n_p0_g_1 = p0_g.Places.length) (p1_events : Int) (m_p2_become : Int → Option Int) (f_p2_become : FuncId) (k_p2_become : List Value) (r : GEventGraph) (W : World) (hm : impl_mappedGraph F p0_g p1_events m_p2_become = some r) (h_p0_g_1 : Rd W A_p0_g_1 ((recs GPlace.cells) p0_g.Places)) (h_p2_become : ∀ (x0 : Int) (r : Int) (w : World), m_p2_become x0 = some r → Below W.heap.size W w → Calls Try.prog f_p2_become (([.int .i64 x0] : List Value) ++ k_p2_become).toArray w fun e w' => ∃ v, e = .returned v ∧ v = .int .i64 r ∧ St [] w w' []) (e_p2_become : En Try.prog f_p2_become) :
    Calls Try.prog 135 [.agg #[.int .i64 p0_g.Events, .slice A_p0_g_1 n_p0_g_1 c_p0_g_1], .int .i64 p1_events, .func (.func f_p2_become) #[] k_p2_become.toArray].toArray W fun e w' => ∃ v, e = .returned v ∧ ∃ A126, ∃ n127, ∃ c128, v = .agg #[.int .i64 r.Events, .slice A126 n127 c128] ∧ n127 = r.Places.length ∧ St [] W w' [.row A126 n127 c128 127 4 ((recs GPlace.cells) r.Places)] := by
  subst hn_p0_g_1
  unfold impl_mappedGraph at hm
  refine Calls.enter (N := 39) Try.func135 rfl rfl rfl (fun a hf => ?_)
  have hs := St.start W
  obtain ⟨w, hw_⟩ : ∃ w, w = W := ⟨W, rfl⟩
  clear hw_ w
  refine wpL_seq ?_
  refine wpL_region ?_
  refine sBox hf hs rfl rfl rfl rfl rfl (cs := [.int .i64 p0_g.Events, .slice A_p0_g_1 p0_g.Places.length c_p0_g_1]) rfl ?_; clear hf hs; intro a w b1 hs hf
  have hs : St [] W w [.blk b1 59 [.int .i64 p0_g.Events, .slice A_p0_g_1 p0_g.Places.length c_p0_g_1]] := hs
  refine sAlloc hf hs rfl rfl rfl rfl ti59 ?_; clear hf hs; intro a w b2 hs hf
  have hs : St [] W w [.blk b1 59 [.int .i64 p0_g.Events, .slice A_p0_g_1 p0_g.Places.length c_p0_g_1], .blk b2 59 [.int .i64 0, .slice none 0 0]] := hs
  refine wpO_nil ?_
  refine wpL_seq ?_
  refine wpL_region ?_
  refine sY hf hs rfl rfl rfl (Y_move rfl rfl) ?_; clear hf; intro a hf
  refine sY hf hs rfl rfl rfl (Y_build (parts := [(0, .tmp 10)]) (vs := [.int .i64 p1_events]) rfl rfl (run_build (parts := [(0, .int .i64 p1_events)]) (cells := [.int .i64 p1_events, .slice none 0 0]) (places := #[(0, 1), (1, 1)]) ti59 Try.underlying59 (fun w => by simp [go_sem]) rfl)) ?_; clear hf; intro a hf
  refine sAlloc hf hs rfl rfl rfl rfl ti59 ?_; clear hf hs; intro a w b3 hs hf
  have hs : St [] W w [.blk b1 59 [.int .i64 p0_g.Events, .slice A_p0_g_1 p0_g.Places.length c_p0_g_1], .blk b2 59 [.int .i64 0, .slice none 0 0], .blk b3 59 [.int .i64 0, .slice none 0 0]] := hs
  refine sStore (i := 2) (us := [.int .i64 p1_events, .slice none 0 0]) hf hs rfl rfl rfl rfl rfl rfl ti59 rfl rfl rfl (Nat.le_of_ble_eq_true rfl) rfl ?_; clear hs; intro w hs
  have hs : St [] W w [.blk b1 59 [.int .i64 p0_g.Events, .slice A_p0_g_1 p0_g.Places.length c_p0_g_1], .blk b2 59 [.int .i64 0, .slice none 0 0], .blk b3 59 [.int .i64 p1_events, .slice none 0 0]] := hs
  refine wpO_nil ?_
  refine wpL_seq ?_
  refine wpL_seq ?_
  refine wpL_region ?_
  refine sY hf hs rfl rfl rfl (Y_fieldAddr rfl rfl fo59_1) ?_; clear hf; intro a hf
  refine sY hf hs rfl rfl rfl (Y_load_blk rfl rfl (i := 0) rfl rfl ag57) ?_; clear hf; intro a hf
  refine sY hf hs rfl rfl rfl (Y_lenH rfl rfl el57 rfl) ?_; clear hf; intro a hf
  refine sY hf hs rfl rfl rfl (Y_move rfl rfl) ?_; clear hf; intro a hf
  refine wpO_nil ?_
  obtain ⟨r97, hl98, hm⟩ := bind_some hm
  have hs : St [] W _ [.blk b1 59 [.int .i64 p0_g.Events, .slice A_p0_g_1 p0_g.Places.length c_p0_g_1], .blk b2 59 [.int .i64 0, .slice none 0 0], .blk b3 59 [.int .i64 p1_events, .slice none 0 0], .row none 0 0 127 4 ((recs GPlace.cells) ([] : List GPlace))] := hs.addNil 127 4
  refine wpL_block (fun a w => ∃ xs92 : List GPlace, ∃ A93, ∃ n94, ∃ c95, xs92 = r97 ∧ n94 = xs92.length ∧ Fr a 39 [(6, .pointer (some ⟨b2, 0, none⟩)), (7, .pointer (some ⟨b3, 0, none⟩))] ∧ St [] W w [.blk b2 59 [.int .i64 0, .slice none 0 0], .blk b3 59 [.int .i64 p1_events, .slice A93 n94 c95], .row A93 n94 c95 127 4 ((recs GPlace.cells) xs92)]) ?_ ?_
  · refine wpL_loop (fun n a w => ∃ xs62 : List GPlace, ∃ x67 : Int, ∃ A63, ∃ n64, ∃ c65, impl_mappedGraph_L1 F p0_g m_p2_become n xs62 x67 = some r97 ∧ n64 = xs62.length ∧ Fr a 39 [(2, .func (.func f_p2_become) #[] k_p2_become.toArray), (6, .pointer (some ⟨b2, 0, none⟩)), (7, .pointer (some ⟨b3, 0, none⟩)), (13, .slice A_p0_g_1 p0_g.Places.length c_p0_g_1), (14, .int .i64 (p0_g.Places.length : Int)), (15, .int .i64 x67)] ∧ St [] W w [.blk b2 59 [.int .i64 0, .slice none 0 0], .blk b3 59 [.int .i64 p1_events, .slice A63 n64 c65], .row A63 n64 c65 127 4 ((recs GPlace.cells) xs62)]) F ?_ ?_ ?_
    · exact ⟨[], 0, none, 0, 0, hl98, rfl, (FrD.pick (FrD.pick (FrD.pick (FrD.pick (FrD.pick (FrD.pick hf.none hf rfl) hf rfl) hf rfl) hf rfl) hf rfl) hf rfl), hs.sel [1, 2, 3] (by decide)⟩
    · rintro a w ⟨xs62, x67, A63, n64, c65, h0_, -, -, -⟩; simp [impl_mappedGraph_L1] at h0_
    · rintro n100 a w ⟨xs62, x67, A63, n64, c65, hm99, hn66, hf, hs⟩
      rw [impl_mappedGraph_L1] at hm99
      refine wpL_seq ?_
      refine wpL_region ?_
      refine sY hf hs rfl rfl rfl (Y_lss rfl rfl rfl) ?_; clear hf; intro a hf
      refine wpO_nil ?_
      refine wpL_seq ?_
      refine wpL_cond hf rfl (fun hb101 => ?_) (fun hb101 => ?_)
      · have hm99 := bif_t hm99 hb101
        refine wpL_skip ?_
        refine wpL_seq ?_
        refine wpL_block0 ?_
        refine wpL_seq ?_
        refine wpL_region ?_
        obtain ⟨q102, hi103, hm99⟩ := bind_some hm99
        obtain ⟨hi103a, hi103b, hi103q⟩ := idx_some hi103
        refine sY hf hs rfl rfl rfl (Y_index rfl rfl rfl el57 ti127 (Rd.isAt (h_p0_g_1.at hs) (recs_at (s := 4) GPlace.len hi103q (j := 0) rfl)) hi103a hi103b) ?_; clear hf; intro a hf
        refine sY hf hs rfl rfl rfl (Y_load_rdS rfl rfl (us := [.int .i64 q102.From, .int .i64 q102.To, .int .i64 q102.Delay, .int .i64 q102.Tokens]) (fun w hs => h_p0_g_1.at hs) (fun j u hj => recs_at (s := 4) GPlace.len hi103q hj) (Nat.succ_pos _) ag127 ti127 rfl) ?_; clear hf; intro a hf
        refine sAlloc hf hs rfl rfl rfl rfl ti127 ?_; clear hf hs; intro a w b104 hs hf
        have hs : St [] W w [.blk b2 59 [.int .i64 0, .slice none 0 0], .blk b3 59 [.int .i64 p1_events, .slice A63 n64 c65], .row A63 n64 c65 127 4 ((recs GPlace.cells) xs62), .blk b104 127 [.int .i64 0, .int .i64 0, .int .i64 0, .int .i64 0]] := hs
        refine sStore (i := 3) (us := [.int .i64 q102.From, .int .i64 q102.To, .int .i64 q102.Delay, .int .i64 q102.Tokens]) hf hs rfl rfl rfl rfl rfl rfl ti127 rfl rfl rfl (Nat.le_of_ble_eq_true rfl) rfl ?_; clear hs; intro w hs
        have hs : St [] W w [.blk b2 59 [.int .i64 0, .slice none 0 0], .blk b3 59 [.int .i64 p1_events, .slice A63 n64 c65], .row A63 n64 c65 127 4 ((recs GPlace.cells) xs62), .blk b104 127 [.int .i64 q102.From, .int .i64 q102.To, .int .i64 q102.Delay, .int .i64 q102.Tokens]] := hs
        refine wpO_nil ?_
        refine wpL_drawM [.blk b2 59 [.int .i64 0, .slice none 0 0], .blk b3 59 [.int .i64 p1_events, .slice A63 n64 c65], .row A63 n64 c65 127 4 ((recs GPlace.cells) xs62), .blk b104 127 [.int .i64 q102.From, .int .i64 q102.To, .int .i64 q102.Delay, .int .i64 q102.Tokens]] [16, 18] (by kernel_rfl) hs ?_; clear hs; intro w hs
        have hs0 : St [] W w [.blk b2 59 [.int .i64 0, .slice none 0 0], .blk b3 59 [.int .i64 p1_events, .slice A63 n64 c65], .row A63 n64 c65 127 4 ((recs GPlace.cells) xs62), .blk b104 127 [.int .i64 q102.From, .int .i64 q102.To, .int .i64 q102.Delay, .int .i64 q102.Tokens]] := hs
        refine mYp (i := 0) rfl (by kernel_rfl) (by kernel_rfl) hf rfl rfl rfl (fun _ => Y_fieldAddr rfl rfl fo59_1) ?_; clear hf; intro a hf
        refine mY (i := 1) [[], []] rfl (by kernel_rfl) (by kernel_rfl) hf hs0 rfl rfl rfl (Y_load_blk rfl rfl (i := 1) rfl rfl ag57) ?_; clear hf; intro a hf
        refine mYp (i := 2) rfl (by kernel_rfl) (by kernel_rfl) hf rfl rfl rfl (fun _ => Y_move rfl rfl) ?_; clear hf; intro a hf
        refine mYp (i := 3) rfl (by kernel_rfl) (by kernel_rfl) hf rfl rfl rfl (fun _ => Y_fieldAddr rfl rfl fo127_0) ?_; clear hf; intro a hf
        refine mY (i := 4) [[5, 9], []] rfl (by kernel_rfl) (by kernel_rfl) hf hs0 rfl rfl rfl (Y_load_blk rfl rfl (i := 3) rfl rfl ag2) ?_; clear hf; intro a hf
        refine mYp (i := 6) rfl (by kernel_rfl) (by kernel_rfl) hf rfl rfl rfl (fun _ => Y_move rfl rfl) ?_; clear hf; intro a hf
        refine mYp (i := 7) rfl (by kernel_rfl) (by kernel_rfl) hf rfl rfl rfl (fun _ => Y_fieldAddr rfl rfl fo127_1) ?_; clear hf; intro a hf
        refine mY (i := 8) [[9], []] rfl (by kernel_rfl) (by kernel_rfl) hf hs0 rfl rfl rfl (Y_load_blk rfl rfl (i := 3) rfl rfl ag2) ?_; clear hf; intro a hf
        refine mYp (i := 10) rfl (by kernel_rfl) (by kernel_rfl) hf rfl rfl rfl (fun _ => Y_fieldAddr rfl rfl fo127_2) ?_; clear hf; intro a hf
        refine mY (i := 11) [[14, 15], []] rfl (by kernel_rfl) (by kernel_rfl) hf hs0 rfl rfl rfl (Y_load_blk rfl rfl (i := 3) rfl rfl ag2) ?_; clear hf; intro a hf
        refine mYp (i := 12) rfl (by kernel_rfl) (by kernel_rfl) hf rfl rfl rfl (fun _ => Y_fieldAddr rfl rfl fo127_3) ?_; clear hf; intro a hf
        refine mY (i := 13) [[14, 15], []] rfl (by kernel_rfl) (by kernel_rfl) hf hs0 rfl rfl rfl (Y_load_blk rfl rfl (i := 3) rfl rfl ag2) ?_; clear hf; intro a hf
        refine mRun (i := 5) rfl (by kernel_rfl) ?_
        obtain ⟨r115, hc116, hm99⟩ := bind_some hm99
        refine sCall hf rfl rfl rfl rfl (cap := k_p2_become) rfl rfl e_p2_become (h_p2_become q102.From _ _ hc116 hs.below) ?_; clear hf; rintro _ w ⟨rfl, hs1⟩ a hf; have hs := hs.ext hs1.below; clear hs1
        have hs0 : St [] W w [.blk b2 59 [.int .i64 0, .slice none 0 0], .blk b3 59 [.int .i64 p1_events, .slice A63 n64 c65], .row A63 n64 c65 127 4 ((recs GPlace.cells) xs62), .blk b104 127 [.int .i64 q102.From, .int .i64 q102.To, .int .i64 q102.Delay, .int .i64 q102.Tokens]] := hs
        refine wpO_nil ⟨Or.inr (fun _ => hs0), ?_⟩
        refine mRun (i := 9) rfl (by kernel_rfl) ?_
        obtain ⟨r117, hc118, hm99⟩ := bind_some hm99
        refine sCall hf rfl rfl rfl rfl (cap := k_p2_become) rfl rfl e_p2_become (h_p2_become q102.To _ _ hc118 hs.below) ?_; clear hf; rintro _ w ⟨rfl, hs1⟩ a hf; have hs := hs.ext hs1.below; clear hs1
        have hs0 : St [] W w [.blk b2 59 [.int .i64 0, .slice none 0 0], .blk b3 59 [.int .i64 p1_events, .slice A63 n64 c65], .row A63 n64 c65 127 4 ((recs GPlace.cells) xs62), .blk b104 127 [.int .i64 q102.From, .int .i64 q102.To, .int .i64 q102.Delay, .int .i64 q102.Tokens]] := hs
        refine wpO_nil ⟨Or.inr (fun _ => hs0), ?_⟩
        refine mYp (i := 14) rfl (by kernel_rfl) (by kernel_rfl) hf rfl rfl rfl (fun _ => Y_build (parts := [(0, .tmp 24), (1, .tmp 28), (2, .tmp 30), (3, .tmp 32)]) (vs := [.int .i64 r115, .int .i64 r117, .int .i64 q102.Delay, .int .i64 q102.Tokens]) rfl rfl (run_build (parts := [(0, .int .i64 r115), (1, .int .i64 r117), (2, .int .i64 q102.Delay), (3, .int .i64 q102.Tokens)]) (cells := [.int .i64 r115, .int .i64 r117, .int .i64 q102.Delay, .int .i64 q102.Tokens]) (places := #[(0, 1), (1, 1), (2, 1), (3, 1)]) ti127 Try.underlying127 (fun w => by simp [go_sem]) rfl)) ?_; clear hf; intro a hf
        refine mRun (i := 15) rfl (by kernel_rfl) ?_
        refine sBuildSlice (parts := [(0, .tmp 33)]) (vs := [.agg #[.int .i64 r115, .int .i64 r117, .int .i64 q102.Delay, .int .i64 q102.Tokens]]) (cells := [.int .i64 r115, .int .i64 r117, .int .i64 q102.Delay, .int .i64 q102.Tokens]) hf hs rfl rfl rfl rfl rfl el57 ti127 rfl rfl rfl rfl ?_; clear hf hs; intro a w A119 hs hA120 hf
        have hs : St [] W w [.blk b2 59 [.int .i64 0, .slice none 0 0], .blk b3 59 [.int .i64 p1_events, .slice A63 n64 c65], .row A63 n64 c65 127 4 ((recs GPlace.cells) xs62), .blk b104 127 [.int .i64 q102.From, .int .i64 q102.To, .int .i64 q102.Delay, .int .i64 q102.Tokens], .row A119 1 1 127 4 ((recs GPlace.cells) ([(GPlace.mk r115 r117 q102.Delay q102.Tokens)]))] := hs
        have hs0 : St [] W w [.blk b2 59 [.int .i64 0, .slice none 0 0], .blk b3 59 [.int .i64 p1_events, .slice A63 n64 c65], .row A63 n64 c65 127 4 ((recs GPlace.cells) xs62), .blk b104 127 [.int .i64 q102.From, .int .i64 q102.To, .int .i64 q102.Delay, .int .i64 q102.Tokens]] := hs.sel [0, 1, 2, 3] (by decide)
        refine wpO_nil ⟨Or.inr (fun _ => hs0), ?_⟩
        refine mRun (i := 16) rfl (by kernel_rfl) ?_
        obtain ⟨xs123, ha124, hm99⟩ := bind_some hm99
        refine sAppendL (i := 2) (xs := xs62) (ys := [(GPlace.mk r115 r117 q102.Delay q102.Tokens)]) (enc := (recs GPlace.cells)) hf hs rfl rfl rfl rfl rfl rfl hn66 rfl rfl ha124 el57 ti127 rfl rfl rfl (hs.rd (i := 4) rfl) (Nat.succ_pos _) (recs_length GPlace.len) (recs_append GPlace.cells) (recs_one GPlace.one) ?_; clear hf hs; intro a w A121 c122 hs hf
        have hs : St [] W w [.blk b2 59 [.int .i64 0, .slice none 0 0], .blk b3 59 [.int .i64 p1_events, .slice A63 n64 c65], .row A121 xs123.length c122 127 4 ((recs GPlace.cells) xs123), .blk b104 127 [.int .i64 q102.From, .int .i64 q102.To, .int .i64 q102.Delay, .int .i64 q102.Tokens], .row A119 1 1 127 4 ((recs GPlace.cells) ([(GPlace.mk r115 r117 q102.Delay q102.Tokens)]))] := hs
        refine wpO_nil ⟨Or.inl (by decide), ?_⟩
        refine mYp (i := 17) rfl (by kernel_rfl) (by kernel_rfl) hf rfl rfl rfl (fun _ => Y_fieldAddr rfl rfl fo59_1) ?_; clear hf; intro a hf
        refine mRun (i := 18) rfl (by kernel_rfl) ?_
        refine sStore (i := 1) (us := [.slice A121 xs123.length c122]) hf hs rfl rfl rfl rfl rfl rfl ti57 rfl rfl rfl (Nat.le_of_ble_eq_true rfl) rfl ?_; clear hs; intro w hs
        have hs : St [] W w [.blk b2 59 [.int .i64 0, .slice none 0 0], .blk b3 59 [.int .i64 p1_events, .slice A121 xs123.length c122], .row A121 xs123.length c122 127 4 ((recs GPlace.cells) xs123), .blk b104 127 [.int .i64 q102.From, .int .i64 q102.To, .int .i64 q102.Delay, .int .i64 q102.Tokens], .row A119 1 1 127 4 ((recs GPlace.cells) ([(GPlace.mk r115 r117 q102.Delay q102.Tokens)]))] := hs
        refine wpO_nil ⟨Or.inl (by decide), ?_⟩
        refine mDone (by kernel_rfl) ?_
        clear hs0
        refine wpL_nil (Qb_normal ?_)
        refine wpL_region ?_
        refine sY hf hs rfl rfl rfl (Y_add rfl rfl rfl) ?_; clear hf; intro a hf
        refine sY hf hs rfl rfl rfl (Y_move rfl rfl) ?_; clear hf; intro a hf
        refine wpO_nil ?_
        refine wpL_nil (Ql_normal ?_)
        exact ⟨xs123, (IntKind.i64.wrap (x67 + 1)), A121, xs123.length, c122, hm99, rfl, (FrD.pick (FrD.pick (FrD.pick (FrD.pick (FrD.pick (FrD.pick hf.none hf rfl) hf rfl) hf rfl) hf rfl) hf rfl) hf rfl), hs.sel [0, 1, 2] (by decide)⟩
      · have hm99 := bif_f hm99 hb101
        refine wpL_exit (Ql_exit (Qb_exit ?_))
        exact ⟨xs62, A63, n64, c65, Option.some.inj hm99, hn66, (FrD.pick (FrD.pick hf.none hf rfl) hf rfl), hs⟩
  · rintro a w ⟨xs92, A93, n94, c95, hr_, hn96, hf, hs⟩
    subst hr_
    try dsimp only at hm
    refine wpL_seq ?_
    refine wpL_region ?_
    refine sY hf hs rfl rfl rfl (Y_load_blkS rfl rfl (i := 1) rfl ag59 ti59 rfl) ?_; clear hf; intro a hf
    refine sStore (i := 0) (us := [.int .i64 p1_events, .slice A93 n94 c95]) hf hs rfl rfl rfl rfl rfl rfl ti59 rfl rfl rfl (Nat.le_of_ble_eq_true rfl) rfl ?_; clear hs; intro w hs
    have hs : St [] W w [.blk b2 59 [.int .i64 p1_events, .slice A93 n94 c95], .blk b3 59 [.int .i64 p1_events, .slice A93 n94 c95], .row A93 n94 c95 127 4 ((recs GPlace.cells) xs92)] := hs
    refine wpO_nil ?_
    obtain rfl := Option.some.inj hm
    refine wpL_ret (ret_cell rfl hf rfl hs (i := 0) rfl ag59 ti59 rfl ?_)
    exact ⟨_, rfl, A93, n94, c95, rfl, hn96, hs.sel [2] (by decide)⟩

end Go.Proofs.Ytgkgimglgjfcjaa
