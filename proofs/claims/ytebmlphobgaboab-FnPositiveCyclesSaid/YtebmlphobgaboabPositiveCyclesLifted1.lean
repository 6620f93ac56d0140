/- The functions do what their models say. -/
import Derived.Test.YtebmlphobgaboabPositiveCyclesFacts
import Derived.Test.YtebmlphobgaboabRows
namespace Go.Proofs.Ytebmlphobgaboab
open Go.RowKit

set_option maxRecDepth 100000 in
theorem laws_big_ok (F : Nat) (p0_code : List Int) (A_p0_code_1 : Option Addr) (n_p0_code_1 c_p0_code_1 : Nat) (hn_p0_code_1 : n_p0_code_1 = p0_code.length) (r : Bool) (W : World) (hm : laws_big F p0_code = some r) (_h_p0_code_1 : Rd W A_p0_code_1 (bytes p0_code)) :
    Calls Try.prog 9 [.slice A_p0_code_1 n_p0_code_1 c_p0_code_1].toArray W fun e w' => ∃ v, e = .returned v ∧ v = .bool r ∧ St [] W w' [] := by
  subst hn_p0_code_1
  unfold laws_big at hm
  refine Calls.enter (N := 6) Try.func9 rfl rfl rfl (fun a hf => ?_)
  have hs := St.start W
  obtain ⟨w, hw_⟩ : ∃ w, w = W := ⟨W, rfl⟩
  clear hw_ w
  refine wpL_seq ?_
  refine wpL_region ?_
  refine sY hf hs rfl rfl rfl (Y_assign rfl rfl) ?_; clear hf; intro a hf
  refine wpO_nil ?_
  refine wpL_seq ?_
  refine wpL_region ?_
  refine sY hf hs rfl rfl rfl (Y_move rfl rfl) ?_; clear hf; intro a hf
  refine sY hf hs rfl rfl rfl (Y_lenH rfl rfl el22 rfl) ?_; clear hf; intro a hf
  refine sY hf hs rfl rfl rfl (Y_gtr rfl rfl rfl) ?_; clear hf; intro a hf
  refine sY hf hs rfl rfl rfl (Y_assign rfl rfl) ?_; clear hf; intro a hf
  refine wpO_nil ?_
  obtain rfl := Option.some.inj hm
  refine wpL_ret (ret_tmp rfl hf rfl ?_)
  exact ⟨_, rfl, rfl, hs⟩

set_option maxRecDepth 100000 in
theorem spec_l01From_ok (F : Nat) (p0_code : List Int) (A_p0_code_1 : Option Addr) (n_p0_code_1 c_p0_code_1 : Nat) (hn_p0_code_1 : n_p0_code_1 = p0_code.length) (r : (Int × Int)) (W : World) (hm : spec_l01From F p0_code = some r) (h_p0_code_1 : Rd W A_p0_code_1 (bytes p0_code)) :
    Calls Try.prog 65 [.slice A_p0_code_1 n_p0_code_1 c_p0_code_1].toArray W fun e w' => ∃ v, e = .returned v ∧ ∃ b43, v = .pointer (some ⟨b43, 0, none⟩) ∧ St [] W w' [.blk b43 149 [.slice A_p0_code_1 n_p0_code_1 c_p0_code_1, .int .i64 r.1, .int .i64 r.2]] := by
  subst hn_p0_code_1
  unfold spec_l01From at hm
  refine Calls.enter (N := 34) Try.func65 rfl rfl rfl (fun a hf => ?_)
  have hs := St.start W
  obtain ⟨w, hw_⟩ : ∃ w, w = W := ⟨W, rfl⟩
  clear hw_ w
  refine wpL_seq ?_
  refine wpL_region ?_
  refine sY hf hs rfl rfl rfl (Y_assign rfl rfl) ?_; clear hf; intro a hf
  refine wpO_nil ?_
  refine wpL_seq ?_
  refine wpL_region ?_
  refine sY hf hs rfl rfl rfl (Y_move rfl rfl) ?_; clear hf; intro a hf
  refine sY hf hs rfl rfl rfl (Y_build (parts := [(0, .tmp 5), (2, .const (.int .i64 61403))]) (vs := [.slice A_p0_code_1 p0_code.length c_p0_code_1, .int .i64 61403]) rfl rfl (run_build (parts := [(0, .slice A_p0_code_1 p0_code.length c_p0_code_1), (2, .int .i64 61403)]) (cells := [.slice A_p0_code_1 p0_code.length c_p0_code_1, .int .i64 0, .int .i64 61403]) (places := #[(0, 1), (1, 1), (2, 1)]) ti149 Try.underlying149 (fun w => by simp [go_sem]) rfl)) ?_; clear hf; intro a hf
  refine sBox hf hs rfl rfl rfl rfl rfl (cs := [.slice A_p0_code_1 p0_code.length c_p0_code_1, .int .i64 0, .int .i64 61403]) rfl ?_; clear hf hs; intro a w b1 hs hf
  have hs : St [] W w [.blk b1 149 [.slice A_p0_code_1 p0_code.length c_p0_code_1, .int .i64 0, .int .i64 61403]] := hs
  refine sY hf hs rfl rfl rfl (Y_assign rfl rfl) ?_; clear hf; intro a hf
  refine wpO_nil ?_
  refine wpL_seq ?_
  refine wpL_seq ?_
  refine wpL_region ?_
  refine sY hf hs rfl rfl rfl (Y_assign rfl rfl) ?_; clear hf; intro a hf
  refine wpO_nil ?_
  obtain ⟨r31, hl32, hm⟩ := bind_some hm
  refine wpL_block (fun a w => ∃ x30 : Int, x30 = r31 ∧ Fr a 34 [(3, .pointer (some ⟨b1, 0, none⟩))] ∧ St [] W w [.blk b1 149 [.slice A_p0_code_1 p0_code.length c_p0_code_1, .int .i64 0, .int .i64 x30]]) ?_ ?_
  · refine wpL_loop (fun n a w => ∃ x20 : Int, ∃ x21 : Int, spec_l01From_L1 F p0_code n x20 x21 = some r31 ∧ Fr a 34 [(0, .slice A_p0_code_1 p0_code.length c_p0_code_1), (3, .pointer (some ⟨b1, 0, none⟩)), (4, .int .i64 x21)] ∧ St [] W w [.blk b1 149 [.slice A_p0_code_1 p0_code.length c_p0_code_1, .int .i64 0, .int .i64 x20]]) F ?_ ?_ ?_
    · exact ⟨61403, 0, hl32, (FrD.pick (FrD.pick (FrD.pick hf.none hf rfl) hf rfl) hf rfl), hs⟩
    · rintro a w ⟨x20, x21, h0_, -, -⟩; simp [spec_l01From_L1] at h0_
    · rintro n34 a w ⟨x20, x21, hm33, hf, hs⟩
      rw [spec_l01From_L1] at hm33
      refine wpL_seq ?_
      refine wpL_seq ?_
      obtain ⟨r37, hj38, hm33⟩ := bind_some hm33
      refine wpL_cut (fun a w => ∃ b36 : Bool, b36 = r37 ∧ Fr a 34 [(0, .slice A_p0_code_1 p0_code.length c_p0_code_1), (3, .pointer (some ⟨b1, 0, none⟩)), (4, .int .i64 x21), (15, .bool b36)] ∧ St [] W w [.blk b1 149 [.slice A_p0_code_1 p0_code.length c_p0_code_1, .int .i64 0, .int .i64 x20]]) ?_ ?_
      · refine wpL_region ?_
        refine sY hf hs rfl rfl rfl (Y_move rfl rfl) ?_; clear hf; intro a hf
        refine sY hf hs rfl rfl rfl (Y_move rfl rfl) ?_; clear hf; intro a hf
        refine sY hf hs rfl rfl rfl (Y_lenH rfl rfl el22 rfl) ?_; clear hf; intro a hf
        refine sY hf hs rfl rfl rfl (Y_lss rfl rfl rfl) ?_; clear hf; intro a hf
        refine sY hf hs rfl rfl rfl (Y_move rfl rfl) ?_; clear hf; intro a hf
        refine bsplit (decide (x21 < (p0_code.length : Int))) (fun hb39 => ?_) (fun hb39 => ?_)
        · have hj38 := bif_t hj38 hb39
          refine sYg hf hs rfl rfl rfl (congrArg (fun b => some (Value.bool b)) hb39) rfl rfl rfl (Y_move rfl rfl) ?_; clear hf; intro a hf
          refine sYg hf hs rfl rfl rfl (congrArg (fun b => some (Value.bool b)) hb39) rfl rfl rfl (Y_lss rfl rfl rfl) ?_; clear hf; intro a hf
          refine sY hf hs rfl rfl rfl (Y_pickT rfl (congrArg (fun b => some (Value.bool b)) hb39) rfl) ?_; clear hf; intro a hf
          refine wpO_nil ?_
          refine wpL_nil (then_normal ?_)
          exact ⟨(decide (x21 < 64)), Option.some.inj hj38, (FrD.pick (FrD.pick (FrD.pick (FrD.pick hf.none hf rfl) hf rfl) hf rfl) hf rfl), hs⟩
        · have hj38 := bif_f hj38 hb39
          refine sNo hf rfl rfl rfl (congrArg (fun b => some (Value.bool b)) hb39) rfl rfl rfl ?_; clear hf; intro a hf
          refine sNo hf rfl rfl rfl (congrArg (fun b => some (Value.bool b)) hb39) rfl rfl rfl ?_; clear hf; intro a hf
          refine sY hf hs rfl rfl rfl (Y_pickF rfl (congrArg (fun b => some (Value.bool b)) hb39) rfl) ?_; clear hf; intro a hf
          refine wpO_nil ?_
          refine wpL_nil (then_normal ?_)
          exact ⟨false, Option.some.inj hj38, (FrD.pick (FrD.pick (FrD.pick (FrD.pick hf.none hf rfl) hf rfl) hf rfl) hf rfl), hs⟩
      · rintro a w ⟨b36, hr_, hf, hs⟩
        subst hr_
        try dsimp only at hm33
        refine wpL_cond hf rfl (fun hb40 => ?_) (fun hb40 => ?_)
        · have hm33 := bif_t hm33 hb40
          refine wpL_skip ?_
          refine wpL_seq ?_
          refine wpL_block0 ?_
          refine wpL_drawM [.blk b1 149 [.slice A_p0_code_1 p0_code.length c_p0_code_1, .int .i64 0, .int .i64 x20]] [15] (by kernel_rfl) hs ?_; clear hs; intro w hs
          have hs0 : St [] W w [.blk b1 149 [.slice A_p0_code_1 p0_code.length c_p0_code_1, .int .i64 0, .int .i64 x20]] := hs
          refine mYp (i := 0) rfl (by kernel_rfl) (by kernel_rfl) hf rfl rfl rfl (fun _ => Y_move rfl rfl) ?_; clear hf; intro a hf
          refine mYp (i := 1) rfl (by kernel_rfl) (by kernel_rfl) hf rfl rfl rfl (fun _ => Y_move rfl rfl) ?_; clear hf; intro a hf
          refine mYp (i := 2) rfl (by kernel_rfl) (by kernel_rfl) hf rfl rfl rfl (fun _ => Y_nilCheck rfl rfl) ?_; clear hf; intro a hf
          refine mYp (i := 3) rfl (by kernel_rfl) (by kernel_rfl) hf rfl rfl rfl (fun _ => Y_fieldAddr rfl rfl fo149_2) ?_; clear hf; intro a hf
          refine mY (i := 4) [[]] rfl (by kernel_rfl) (by kernel_rfl) hf hs0 rfl rfl rfl (Y_load_blk rfl rfl (i := 0) rfl rfl ag2) ?_; clear hf; intro a hf
          refine mYp (i := 5) rfl (by kernel_rfl) (by kernel_rfl) hf rfl rfl rfl (fun _ => Y_mul rfl rfl rfl) ?_; clear hf; intro a hf
          refine mYp (i := 6) rfl (by kernel_rfl) (by kernel_rfl) hf rfl rfl rfl (fun _ => Y_move rfl rfl) ?_; clear hf; intro a hf
          refine mYp (i := 7) rfl (by kernel_rfl) (by kernel_rfl) hf rfl rfl rfl (fun _ => Y_move rfl rfl) ?_; clear hf; intro a hf
          obtain ⟨q41, hi42, hm33⟩ := bind_some hm33
          obtain ⟨hi42a, hi42b, hi42q⟩ := idx_some hi42
          refine mYp (i := 8) rfl (by kernel_rfl) (by kernel_rfl) hf rfl rfl rfl (fun _ => Y_index rfl rfl rfl el22 ti5 (Rd.isAt (h_p0_code_1.at hs) (at1 (bytes_at hi42q))) hi42a hi42b) ?_; clear hf; intro a hf
          refine mY (i := 9) [[]] rfl (by kernel_rfl) (by kernel_rfl) hf hs0 rfl rfl rfl (Y_load_rd rfl rfl (fun w hs => h_p0_code_1.at hs) (at1 (bytes_at hi42q)) ag5) ?_; clear hf; intro a hf
          refine mY (i := 10) [[]] rfl (by kernel_rfl) (by kernel_rfl) hf hs0 rfl rfl rfl (Y_convert rfl rfl un5 un2) ?_; clear hf; intro a hf
          refine mYp (i := 11) rfl (by kernel_rfl) (by kernel_rfl) hf rfl rfl rfl (fun _ => Y_add rfl rfl rfl) ?_; clear hf; intro a hf
          refine mYp (i := 12) rfl (by kernel_rfl) (by kernel_rfl) hf rfl rfl rfl (fun _ => Y_rem rfl rfl rfl (by decide)) ?_; clear hf; intro a hf
          refine mYp (i := 13) rfl (by kernel_rfl) (by kernel_rfl) hf rfl rfl rfl (fun _ => Y_nilCheck rfl rfl) ?_; clear hf; intro a hf
          refine mYp (i := 14) rfl (by kernel_rfl) (by kernel_rfl) hf rfl rfl rfl (fun _ => Y_fieldAddr rfl rfl fo149_2) ?_; clear hf; intro a hf
          refine mRun (i := 15) rfl (by kernel_rfl) ?_
          refine sStore (i := 0) (us := [.int .i64 ((IntKind.i64.wrap ((IntKind.i64.wrap (x20 * 67)) + (IntKind.i64.wrap q41))).tmod 2147483647)]) hf hs rfl rfl rfl rfl rfl rfl ti2 rfl rfl rfl (Nat.le_of_ble_eq_true rfl) rfl ?_; clear hs; intro w hs
          have hs : St [] W w [.blk b1 149 [.slice A_p0_code_1 p0_code.length c_p0_code_1, .int .i64 0, .int .i64 ((IntKind.i64.wrap ((IntKind.i64.wrap (x20 * 67)) + (IntKind.i64.wrap q41))).tmod 2147483647)]] := hs
          refine wpO_nil ⟨Or.inl (by decide), ?_⟩
          refine mDone (by kernel_rfl) ?_
          clear hs0
          refine wpL_nil (Qb_normal ?_)
          refine wpL_region ?_
          refine sY hf hs rfl rfl rfl (Y_move rfl rfl) ?_; clear hf; intro a hf
          refine sY hf hs rfl rfl rfl (Y_add rfl rfl rfl) ?_; clear hf; intro a hf
          refine sY hf hs rfl rfl rfl (Y_assign rfl rfl) ?_; clear hf; intro a hf
          refine wpO_nil ?_
          refine wpL_nil (Ql_normal ?_)
          exact ⟨((IntKind.i64.wrap ((IntKind.i64.wrap (x20 * 67)) + (IntKind.i64.wrap q41))).tmod 2147483647), (IntKind.i64.wrap (x21 + 1)), hm33, (FrD.pick (FrD.pick (FrD.pick hf.none hf rfl) hf rfl) hf rfl), hs⟩
        · have hm33 := bif_f hm33 hb40
          refine wpL_exit (Ql_exit (Qb_exit ?_))
          exact ⟨x20, Option.some.inj hm33, (FrD.pick hf.none hf rfl), hs⟩
  · rintro a w ⟨x30, hr_, hf, hs⟩
    subst hr_
    try dsimp only at hm
    refine wpL_seq ?_
    refine wpL_region ?_
    refine sY hf hs rfl rfl rfl (Y_move rfl rfl) ?_; clear hf; intro a hf
    refine sY hf hs rfl rfl rfl (Y_assign rfl rfl) ?_; clear hf; intro a hf
    refine wpO_nil ?_
    obtain rfl := Option.some.inj hm
    refine wpL_ret (ret_tmp rfl hf rfl ?_)
    exact ⟨_, rfl, b1, rfl, hs⟩

set_option maxRecDepth 100000 in
theorem spec_l01Next_ok (F : Nat) (b_p0 : Nat) (p0_code : List Int) (A_p0_code : Option Addr) (n_p0_code c_p0_code : Nat) (hn_p0_code : n_p0_code = p0_code.length) (p0_at : Int) (p0_seed : Int) (p1 : Int) (r : (Int) × Int × Int) (W : World) (hm : spec_l01Next F p0_code p0_at p0_seed p1 = some r) (h_p0_code : KR (muL [.blk b_p0 149 [.slice A_p0_code n_p0_code c_p0_code, .int .i64 p0_at, .int .i64 p0_seed]]) W A_p0_code (bytes p0_code)) (hst : St (muL [.blk b_p0 149 [.slice A_p0_code n_p0_code c_p0_code, .int .i64 p0_at, .int .i64 p0_seed]]) W W [.blk b_p0 149 [.slice A_p0_code n_p0_code c_p0_code, .int .i64 p0_at, .int .i64 p0_seed]]) :
    Calls Try.prog 93 [.pointer (some ⟨b_p0, 0, none⟩), .int .i64 p1].toArray W fun e w' => ∃ v, e = .returned v ∧ v = .int .i64 r.1 ∧ St (muL [.blk b_p0 149 [.slice A_p0_code n_p0_code c_p0_code, .int .i64 p0_at, .int .i64 p0_seed]]) W w' [.blk b_p0 149 [.slice A_p0_code n_p0_code c_p0_code, .int .i64 r.2.1, .int .i64 r.2.2]] := by
  subst hn_p0_code
  unfold spec_l01Next at hm
  refine Calls.enter (N := 78) Try.func93 rfl rfl rfl (fun a hf => ?_)
  have hs := hst
  obtain ⟨w, hw_⟩ : ∃ w, w = W := ⟨W, rfl⟩
  clear hw_ w
  refine wpL_seq ?_
  refine wpL_region ?_
  refine sY hf hs rfl rfl rfl (Y_assign rfl rfl) ?_; clear hf; intro a hf
  refine wpO_nil ?_
  refine wpL_seq ?_
  refine wpL_seq ?_
  refine wpL_region ?_
  refine sY hf hs rfl rfl rfl (Y_move rfl rfl) ?_; clear hf; intro a hf
  refine sY hf hs rfl rfl rfl (Y_leq rfl rfl rfl) ?_; clear hf; intro a hf
  refine wpO_nil ?_
  refine wpL_cond hf rfl (fun hb1 => ?_) (fun hb1 => ?_)
  · have hm := bif_t hm hb1
    refine wpL_seq ?_
    refine wpL_region ?_
    refine sY hf hs rfl rfl rfl (Y_assign rfl rfl) ?_; clear hf; intro a hf
    refine wpO_nil ?_
    obtain rfl := Option.some.inj hm
    refine wpL_ret (ret_tmp rfl hf rfl ?_)
    exact ⟨_, rfl, rfl, hs⟩
  · have hm := bif_f hm hb1
    refine wpL_skip ?_
    refine wpL_seq ?_
    refine wpL_region ?_
    refine sY hf hs rfl rfl rfl (Y_move rfl rfl) ?_; clear hf; intro a hf
    refine sY hf hs rfl rfl rfl (Y_move rfl rfl) ?_; clear hf; intro a hf
    refine sY hf hs rfl rfl rfl (Y_nilCheck rfl rfl) ?_; clear hf; intro a hf
    refine sY hf hs rfl rfl rfl (Y_fieldAddr rfl rfl fo149_2) ?_; clear hf; intro a hf
    refine sY hf hs rfl rfl rfl (Y_load_blk rfl rfl (i := 0) rfl rfl ag2) ?_; clear hf; intro a hf
    refine sY hf hs rfl rfl rfl (Y_mul rfl rfl rfl) ?_; clear hf; intro a hf
    refine sY hf hs rfl rfl rfl (Y_add rfl rfl rfl) ?_; clear hf; intro a hf
    refine sY hf hs rfl rfl rfl (Y_rem rfl rfl rfl (by decide)) ?_; clear hf; intro a hf
    refine sY hf hs rfl rfl rfl (Y_nilCheck rfl rfl) ?_; clear hf; intro a hf
    refine sY hf hs rfl rfl rfl (Y_fieldAddr rfl rfl fo149_2) ?_; clear hf; intro a hf
    refine sStore (i := 0) (us := [.int .i64 ((IntKind.i64.wrap ((IntKind.i64.wrap (p0_seed * 48271)) + 59)).tmod 2147483647)]) hf hs rfl rfl rfl rfl rfl rfl ti2 rfl rfl rfl (Nat.le_of_ble_eq_true rfl) rfl ?_; clear hs; intro w hs
    have hs : St (muL [.blk b_p0 149 [.slice A_p0_code p0_code.length c_p0_code, .int .i64 p0_at, .int .i64 p0_seed]]) W w [.blk b_p0 149 [.slice A_p0_code p0_code.length c_p0_code, .int .i64 p0_at, .int .i64 ((IntKind.i64.wrap ((IntKind.i64.wrap (p0_seed * 48271)) + 59)).tmod 2147483647)]] := hs
    refine wpO_nil ?_
    refine wpL_seq ?_
    refine wpL_region ?_
    refine sY hf hs rfl rfl rfl (Y_move rfl rfl) ?_; clear hf; intro a hf
    refine sY hf hs rfl rfl rfl (Y_nilCheck rfl rfl) ?_; clear hf; intro a hf
    refine sY hf hs rfl rfl rfl (Y_fieldAddr rfl rfl fo149_2) ?_; clear hf; intro a hf
    refine sY hf hs rfl rfl rfl (Y_load_blk rfl rfl (i := 0) rfl rfl ag2) ?_; clear hf; intro a hf
    refine sY hf hs rfl rfl rfl (Y_quo rfl rfl rfl (by decide)) ?_; clear hf; intro a hf
    refine sY hf hs rfl rfl rfl (Y_assign rfl rfl) ?_; clear hf; intro a hf
    refine wpO_nil ?_
    refine wpL_seq ?_
    refine wpL_seq ?_
    refine wpL_draw (by kernel_rfl) (by kernel_rfl) hs ?_
    refine qY hf rfl rfl rfl (Y_move rfl rfl) ?_; clear hf; intro a hf
    refine qY hf rfl rfl rfl (Y_nilCheck rfl rfl) ?_; clear hf; intro a hf
    refine qY hf rfl rfl rfl (Y_fieldAddr rfl rfl fo149_1) ?_; clear hf; intro a hf
    refine qY hf rfl rfl rfl (Y_load_blk rfl rfl (i := 0) rfl rfl ag3) ?_; clear hf; intro a hf
    refine qY hf rfl rfl rfl (Y_move rfl rfl) ?_; clear hf; intro a hf
    refine qY hf rfl rfl rfl (Y_nilCheck rfl rfl) ?_; clear hf; intro a hf
    refine qY hf rfl rfl rfl (Y_fieldAddr rfl rfl fo149_0) ?_; clear hf; intro a hf
    refine qY hf rfl rfl rfl (Y_load_blk rfl rfl (i := 0) rfl rfl ag22) ?_; clear hf; intro a hf
    refine qY hf rfl rfl rfl (Y_lenH rfl rfl el22 rfl) ?_; clear hf; intro a hf
    refine qY hf rfl rfl rfl (Y_lss rfl rfl rfl) ?_; clear hf; intro a hf
    refine qNil ?_; clear hs; intro w hs
    obtain ⟨r15, hj16, hm⟩ := bind_some hm
    refine wpL_cut (fun a w => ∃ x13 : Int, ∃ x14 : Int, (x13, x14) = r15 ∧ Fr a 78 [(1, .int .i64 p1), (5, .int .i64 x14)] ∧ St (muL [.blk b_p0 149 [.slice A_p0_code p0_code.length c_p0_code, .int .i64 p0_at, .int .i64 p0_seed]]) W w [.blk b_p0 149 [.slice A_p0_code p0_code.length c_p0_code, .int .i64 x13, .int .i64 ((IntKind.i64.wrap ((IntKind.i64.wrap (p0_seed * 48271)) + 59)).tmod 2147483647)]]) ?_ ?_
    · refine wpL_cond hf rfl (fun hb17 => ?_) (fun hb17 => ?_)
      · have hj16 := bif_t hj16 hb17
        refine wpL_seq ?_
        refine wpL_draw (by kernel_rfl) (by kernel_rfl) hs ?_
        refine qY hf rfl rfl rfl (Y_move rfl rfl) ?_; clear hf; intro a hf
        refine qY hf rfl rfl rfl (Y_move rfl rfl) ?_; clear hf; intro a hf
        refine qY hf rfl rfl rfl (Y_nilCheck rfl rfl) ?_; clear hf; intro a hf
        refine qY hf rfl rfl rfl (Y_fieldAddr rfl rfl fo149_0) ?_; clear hf; intro a hf
        refine qY hf rfl rfl rfl (Y_load_blk rfl rfl (i := 0) rfl rfl ag22) ?_; clear hf; intro a hf
        refine qY hf rfl rfl rfl (Y_move rfl rfl) ?_; clear hf; intro a hf
        refine qY hf rfl rfl rfl (Y_nilCheck rfl rfl) ?_; clear hf; intro a hf
        refine qY hf rfl rfl rfl (Y_fieldAddr rfl rfl fo149_1) ?_; clear hf; intro a hf
        refine qY hf rfl rfl rfl (Y_load_blk rfl rfl (i := 0) rfl rfl ag3) ?_; clear hf; intro a hf
        obtain ⟨q18, hi19, hj16⟩ := bind_some hj16
        obtain ⟨hi19a, hi19b, hi19q⟩ := idx_some hi19
        refine qY hf rfl rfl rfl (Y_index rfl rfl rfl el22 ti5 (Rd.isAt (h_p0_code.at hs) (at1 (bytes_at hi19q))) hi19a hi19b) ?_; clear hf; intro a hf
        refine qY hf rfl rfl rfl (Y_load_rd rfl rfl (fun w hs => h_p0_code.at hs) (at1 (bytes_at hi19q)) ag5) ?_; clear hf; intro a hf
        refine qY hf rfl rfl rfl (Y_convert rfl rfl un5 un2) ?_; clear hf; intro a hf
        refine qY hf rfl rfl rfl (Y_add rfl rfl rfl) ?_; clear hf; intro a hf
        refine qY hf rfl rfl rfl (Y_assign rfl rfl) ?_; clear hf; intro a hf
        refine qNil ?_; clear hs; intro w hs
        refine wpL_seq ?_
        refine wpL_region ?_
        refine sY hf hs rfl rfl rfl (Y_move rfl rfl) ?_; clear hf; intro a hf
        refine sY hf hs rfl rfl rfl (Y_nilCheck rfl rfl) ?_; clear hf; intro a hf
        refine sY hf hs rfl rfl rfl (Y_fieldAddr rfl rfl fo149_1) ?_; clear hf; intro a hf
        refine sY hf hs rfl rfl rfl (Y_load_blk rfl rfl (i := 0) rfl rfl ag3) ?_; clear hf; intro a hf
        refine sY hf hs rfl rfl rfl (Y_add rfl rfl rfl) ?_; clear hf; intro a hf
        refine sY hf hs rfl rfl rfl (Y_nilCheck rfl rfl) ?_; clear hf; intro a hf
        refine sY hf hs rfl rfl rfl (Y_fieldAddr rfl rfl fo149_1) ?_; clear hf; intro a hf
        refine sStore (i := 0) (us := [.int .i64 (IntKind.i64.wrap (p0_at + 1))]) hf hs rfl rfl rfl rfl rfl rfl ti3 rfl rfl rfl (Nat.le_of_ble_eq_true rfl) rfl ?_; clear hs; intro w hs
        have hs : St (muL [.blk b_p0 149 [.slice A_p0_code p0_code.length c_p0_code, .int .i64 p0_at, .int .i64 p0_seed]]) W w [.blk b_p0 149 [.slice A_p0_code p0_code.length c_p0_code, .int .i64 (IntKind.i64.wrap (p0_at + 1)), .int .i64 ((IntKind.i64.wrap ((IntKind.i64.wrap (p0_seed * 48271)) + 59)).tmod 2147483647)]] := hs
        refine wpO_nil ?_
        refine wpL_seq ?_
        obtain ⟨r22, hj23, hj16⟩ := bind_some hj16
        refine wpL_cut (fun a w => ∃ b21 : Bool, b21 = r22 ∧ Fr a 78 [(0, .pointer (some ⟨b_p0, 0, none⟩)), (1, .int .i64 p1), (5, .int .i64 (IntKind.i64.wrap ((IntKind.i64.wrap (((IntKind.i64.wrap ((IntKind.i64.wrap (p0_seed * 48271)) + 59)).tmod 2147483647).tdiv 31)) + (IntKind.i64.wrap q18)))), (62, .bool b21)] ∧ St (muL [.blk b_p0 149 [.slice A_p0_code p0_code.length c_p0_code, .int .i64 p0_at, .int .i64 p0_seed]]) W w [.blk b_p0 149 [.slice A_p0_code p0_code.length c_p0_code, .int .i64 (IntKind.i64.wrap (p0_at + 1)), .int .i64 ((IntKind.i64.wrap ((IntKind.i64.wrap (p0_seed * 48271)) + 59)).tmod 2147483647)]]) ?_ ?_
        · refine wpL_region ?_
          refine sY hf hs rfl rfl rfl (Y_move rfl rfl) ?_; clear hf; intro a hf
          refine sY hf hs rfl rfl rfl (Y_leq rfl rfl rfl) ?_; clear hf; intro a hf
          refine sY hf hs rfl rfl rfl (Y_move rfl rfl) ?_; clear hf; intro a hf
          refine bsplit (decide (p1 ≤ 256)) (fun hb24 => ?_) (fun hb24 => ?_)
          · have hj23 := bif_t hj23 hb24
            refine sYg hf hs rfl rfl rfl (congrArg (fun b => some (Value.bool b)) hb24) rfl rfl rfl (Y_move rfl rfl) ?_; clear hf; intro a hf
            refine sYg hf hs rfl rfl rfl (congrArg (fun b => some (Value.bool b)) hb24) rfl rfl rfl (Y_nilCheck rfl rfl) ?_; clear hf; intro a hf
            refine sYg hf hs rfl rfl rfl (congrArg (fun b => some (Value.bool b)) hb24) rfl rfl rfl (Y_fieldAddr rfl rfl fo149_1) ?_; clear hf; intro a hf
            refine sYg hf hs rfl rfl rfl (congrArg (fun b => some (Value.bool b)) hb24) rfl rfl rfl (Y_load_blk rfl rfl (i := 0) rfl rfl ag3) ?_; clear hf; intro a hf
            refine sYg hf hs rfl rfl rfl (congrArg (fun b => some (Value.bool b)) hb24) rfl rfl rfl (Y_rem rfl rfl rfl (by decide)) ?_; clear hf; intro a hf
            refine sYg hf hs rfl rfl rfl (congrArg (fun b => some (Value.bool b)) hb24) rfl rfl rfl (Y_eql rfl rfl rfl) ?_; clear hf; intro a hf
            refine sY hf hs rfl rfl rfl (Y_pickT rfl (congrArg (fun b => some (Value.bool b)) hb24) rfl) ?_; clear hf; intro a hf
            refine wpO_nil ?_
            refine wpL_nil (then_normal ?_)
            exact ⟨(((IntKind.i64.wrap (p0_at + 1)).tmod 2) == 0), Option.some.inj hj23, (FrD.pick (FrD.pick (FrD.pick (FrD.pick hf.none hf rfl) hf rfl) hf rfl) hf rfl), hs⟩
          · have hj23 := bif_f hj23 hb24
            refine sNo hf rfl rfl rfl (congrArg (fun b => some (Value.bool b)) hb24) rfl rfl rfl ?_; clear hf; intro a hf
            refine sNo hf rfl rfl rfl (congrArg (fun b => some (Value.bool b)) hb24) rfl rfl rfl ?_; clear hf; intro a hf
            refine sNo hf rfl rfl rfl (congrArg (fun b => some (Value.bool b)) hb24) rfl rfl rfl ?_; clear hf; intro a hf
            refine sNo hf rfl rfl rfl (congrArg (fun b => some (Value.bool b)) hb24) rfl rfl rfl ?_; clear hf; intro a hf
            refine sNo hf rfl rfl rfl (congrArg (fun b => some (Value.bool b)) hb24) rfl rfl rfl ?_; clear hf; intro a hf
            refine sNo hf rfl rfl rfl (congrArg (fun b => some (Value.bool b)) hb24) rfl rfl rfl ?_; clear hf; intro a hf
            refine sY hf hs rfl rfl rfl (Y_pickF rfl (congrArg (fun b => some (Value.bool b)) hb24) rfl) ?_; clear hf; intro a hf
            refine wpO_nil ?_
            refine wpL_nil (then_normal ?_)
            exact ⟨false, Option.some.inj hj23, (FrD.pick (FrD.pick (FrD.pick (FrD.pick hf.none hf rfl) hf rfl) hf rfl) hf rfl), hs⟩
        · rintro a w ⟨b21, hr_, hf, hs⟩
          subst hr_
          try dsimp only at hj16
          refine wpL_cond hf rfl (fun hb25 => ?_) (fun hb25 => ?_)
          · have hj16 := bif_t hj16 hb25
            refine wpL_draw (by kernel_rfl) (by kernel_rfl) hs ?_
            refine qY hf rfl rfl rfl (Y_move rfl rfl) ?_; clear hf; intro a hf
            refine qY hf rfl rfl rfl (Y_nilCheck rfl rfl) ?_; clear hf; intro a hf
            refine qY hf rfl rfl rfl (Y_fieldAddr rfl rfl fo149_0) ?_; clear hf; intro a hf
            refine qY hf rfl rfl rfl (Y_load_blk rfl rfl (i := 0) rfl rfl ag22) ?_; clear hf; intro a hf
            refine qY hf rfl rfl rfl (Y_move rfl rfl) ?_; clear hf; intro a hf
            refine qY hf rfl rfl rfl (Y_nilCheck rfl rfl) ?_; clear hf; intro a hf
            refine qY hf rfl rfl rfl (Y_fieldAddr rfl rfl fo149_1) ?_; clear hf; intro a hf
            refine qY hf rfl rfl rfl (Y_load_blk rfl rfl (i := 0) rfl rfl ag3) ?_; clear hf; intro a hf
            refine qY hf rfl rfl rfl (Y_sub rfl rfl rfl) ?_; clear hf; intro a hf
            obtain ⟨q26, hi27, hj16⟩ := bind_some hj16
            obtain ⟨hi27a, hi27b, hi27q⟩ := idx_some hi27
            refine qY hf rfl rfl rfl (Y_index rfl rfl rfl el22 ti5 (Rd.isAt (h_p0_code.at hs) (at1 (bytes_at hi27q))) hi27a hi27b) ?_; clear hf; intro a hf
            refine qY hf rfl rfl rfl (Y_load_rd rfl rfl (fun w hs => h_p0_code.at hs) (at1 (bytes_at hi27q)) ag5) ?_; clear hf; intro a hf
            refine qY hf rfl rfl rfl (Y_convert rfl rfl un5 un2) ?_; clear hf; intro a hf
            refine qY hf rfl rfl rfl (Y_assign rfl rfl) ?_; clear hf; intro a hf
            refine qNil ?_; clear hs; intro w hs
            refine wpL_nil (then_normal ?_)
            exact ⟨(IntKind.i64.wrap (p0_at + 1)), (IntKind.i64.wrap q26), Option.some.inj hj16, (FrD.pick (FrD.pick hf.none hf rfl) hf rfl), hs⟩
          · have hj16 := bif_f hj16 hb25
            refine wpL_skip ?_
            refine wpL_nil (then_normal ?_)
            exact ⟨(IntKind.i64.wrap (p0_at + 1)), (IntKind.i64.wrap ((IntKind.i64.wrap (((IntKind.i64.wrap ((IntKind.i64.wrap (p0_seed * 48271)) + 59)).tmod 2147483647).tdiv 31)) + (IntKind.i64.wrap q18))), Option.some.inj hj16, (FrD.pick (FrD.pick hf.none hf rfl) hf rfl), hs⟩
      · have hj16 := bif_f hj16 hb17
        refine wpL_skip ?_
        refine wpL_nil (then_normal ?_)
        exact ⟨p0_at, (IntKind.i64.wrap (((IntKind.i64.wrap ((IntKind.i64.wrap (p0_seed * 48271)) + 59)).tmod 2147483647).tdiv 31)), Option.some.inj hj16, (FrD.pick (FrD.pick hf.none hf rfl) hf rfl), hs⟩
    · rintro a w ⟨x13, x14, hr_, hf, hs⟩
      subst hr_
      try dsimp only at hm
      refine wpL_seq ?_
      refine wpL_region ?_
      refine sY hf hs rfl rfl rfl (Y_move rfl rfl) ?_; clear hf; intro a hf
      refine sY hf hs rfl rfl rfl (Y_move rfl rfl) ?_; clear hf; intro a hf
      obtain ⟨_, hz28, hm⟩ := bind_some hm
      refine sY hf hs rfl rfl rfl (Y_rem rfl rfl rfl (nz_some hz28)) ?_; clear hf; intro a hf
      refine sY hf hs rfl rfl rfl (Y_assign rfl rfl) ?_; clear hf; intro a hf
      refine wpO_nil ?_
      obtain rfl := Option.some.inj hm
      refine wpL_ret (ret_tmp rfl hf rfl ?_)
      exact ⟨_, rfl, rfl, hs⟩

set_option maxRecDepth 100000 in
theorem spec_l02Bottom_ok (F : Nat) (p0_m : Int) (p1_n : Int) (r : List (List Int)) (W : World) (hm : spec_l02Bottom F p0_m p1_n = some r) :
    Calls Try.prog 154 [.int .i64 p0_m, .int .i64 p1_n].toArray W fun e w' => ∃ v, e = .returned v ∧ ∃ A268, ∃ n269, ∃ c270, ∃ vs272, v = .slice A268 n269 c270 ∧ n269 = r.length ∧ St [] W w' [.mat A268 n269 c270 28 2 vs272 r] := by
  unfold spec_l02Bottom at hm
  refine Calls.enter (N := 29) Try.func154 rfl rfl rfl (fun a hf => ?_)
  have hs := St.start W
  obtain ⟨w, hw_⟩ : ∃ w, w = W := ⟨W, rfl⟩
  clear hw_ w
  refine wpL_seq ?_
  refine wpL_region ?_
  refine sY hf hs rfl rfl rfl (Y_assign rfl rfl) ?_; clear hf; intro a hf
  refine wpO_nil ?_
  refine wpL_seq ?_
  refine wpL_region ?_
  refine sEmptyM 2 hf hs rfl rfl rfl rfl el40 ti28 rfl ?_; clear hf hs; intro a w A1 hs hf
  have hs : St [] W w [.mat A1 0 0 28 2 [] []] := hs
  refine sY hf hs rfl rfl rfl (Y_assign rfl rfl) ?_; clear hf; intro a hf
  refine wpO_nil ?_
  refine wpL_seq ?_
  refine wpL_seq ?_
  refine wpL_region ?_
  refine sY hf hs rfl rfl rfl (Y_assign rfl rfl) ?_; clear hf; intro a hf
  refine wpO_nil ?_
  obtain ⟨r204, hl205, hm⟩ := bind_some hm
  refine wpL_block (fun a w => ∃ ms198 : List (List Int), ∃ A199, ∃ n200, ∃ c201, ∃ vs203, ms198 = r204 ∧ n200 = ms198.length ∧ Fr a 29 [(5, .slice A199 n200 c201)] ∧ St [] W w [.mat A199 n200 c201 28 2 vs203 ms198]) ?_ ?_
  · refine wpL_loop (fun n a w => ∃ ms131 : List (List Int), ∃ x137 : Int, ∃ A132, ∃ n133, ∃ c134, ∃ vs136, spec_l02Bottom_L4 F p0_m p1_n n ms131 x137 = some r204 ∧ n133 = ms131.length ∧ Fr a 29 [(0, .int .i64 p0_m), (1, .int .i64 p1_n), (5, .slice A132 n133 c134), (6, .int .i64 x137)] ∧ St [] W w [.mat A132 n133 c134 28 2 vs136 ms131]) F ?_ ?_ ?_
    · exact ⟨[], 0, A1, 0, 0, [], hl205, rfl, (FrD.pick (FrD.pick (FrD.pick (FrD.pick hf.none hf rfl) hf rfl) hf rfl) hf rfl), hs⟩
    · rintro a w ⟨ms131, x137, A132, n133, c134, vs136, h0_, -, -, -⟩; simp [spec_l02Bottom_L4] at h0_
    · rintro n207 a w ⟨ms131, x137, A132, n133, c134, vs136, hm206, hn135, hf, hs⟩
      rw [spec_l02Bottom_L4] at hm206
      refine wpL_seq ?_
      refine wpL_seq ?_
      refine wpL_region ?_
      refine sY hf hs rfl rfl rfl (Y_move rfl rfl) ?_; clear hf; intro a hf
      refine sY hf hs rfl rfl rfl (Y_move rfl rfl) ?_; clear hf; intro a hf
      refine sY hf hs rfl rfl rfl (Y_lss rfl rfl rfl) ?_; clear hf; intro a hf
      refine wpO_nil ?_
      refine wpL_cond hf rfl (fun hb208 => ?_) (fun hb208 => ?_)
      · have hm206 := bif_t hm206 hb208
        refine wpL_skip ?_
        refine wpL_seq ?_
        refine wpL_block0 ?_
        refine wpL_seq ?_
        refine wpL_region ?_
        refine sEmpty hf hs rfl rfl rfl rfl el28 ti2 ?_; clear hf hs; intro a w A209 hs hf
        have hs : St [] W w [.mat A132 n133 c134 28 2 vs136 ms131, .row A209 0 0 2 1 (ints ([] : List Int))] := hs
        refine sY hf hs rfl rfl rfl (Y_assign rfl rfl) ?_; clear hf; intro a hf
        refine wpO_nil ?_
        refine wpL_seq ?_
        refine wpL_seq ?_
        refine wpL_region ?_
        refine sY hf hs rfl rfl rfl (Y_assign rfl rfl) ?_; clear hf; intro a hf
        refine wpO_nil ?_
        obtain ⟨r249, hl250, hm206⟩ := bind_some hm206
        refine wpL_block (fun a w => ∃ xs244 : List Int, ∃ A245, ∃ n246, ∃ c247, xs244 = r249 ∧ n246 = xs244.length ∧ Fr a 29 [(0, .int .i64 p0_m), (1, .int .i64 p1_n), (5, .slice A132 n133 c134), (6, .int .i64 x137), (7, .slice A245 n246 c247)] ∧ St [] W w [.mat A132 n133 c134 28 2 vs136 ms131, .row A245 n246 c247 2 1 (ints xs244)]) ?_ ?_
        · refine wpL_loop (fun n a w => ∃ xs231 : List Int, ∃ x236 : Int, ∃ A232, ∃ n233, ∃ c234, spec_l02Bottom_L5 F p1_n n xs231 x236 = some r249 ∧ n233 = xs231.length ∧ Fr a 29 [(0, .int .i64 p0_m), (1, .int .i64 p1_n), (5, .slice A132 n133 c134), (6, .int .i64 x137), (7, .slice A232 n233 c234), (8, .int .i64 x236)] ∧ St [] W w [.mat A132 n133 c134 28 2 vs136 ms131, .row A232 n233 c234 2 1 (ints xs231)]) F ?_ ?_ ?_
          · exact ⟨([] : List Int), 0, A209, 0, 0, hl250, rfl, (FrD.pick (FrD.pick (FrD.pick (FrD.pick (FrD.pick (FrD.pick hf.none hf rfl) hf rfl) hf rfl) hf rfl) hf rfl) hf rfl), hs⟩
          · rintro a w ⟨xs231, x236, A232, n233, c234, h0_, -, -, -⟩; simp [spec_l02Bottom_L5] at h0_
          · rintro n252 a w ⟨xs231, x236, A232, n233, c234, hm251, hn235, hf, hs⟩
            rw [spec_l02Bottom_L5] at hm251
            refine wpL_seq ?_
            refine wpL_seq ?_
            refine wpL_region ?_
            refine sY hf hs rfl rfl rfl (Y_move rfl rfl) ?_; clear hf; intro a hf
            refine sY hf hs rfl rfl rfl (Y_move rfl rfl) ?_; clear hf; intro a hf
            refine sY hf hs rfl rfl rfl (Y_lss rfl rfl rfl) ?_; clear hf; intro a hf
            refine wpO_nil ?_
            refine wpL_cond hf rfl (fun hb253 => ?_) (fun hb253 => ?_)
            · have hm251 := bif_t hm251 hb253
              refine wpL_skip ?_
              refine wpL_seq ?_
              refine wpL_block0 ?_
              refine wpL_region ?_
              refine sY hf hs rfl rfl rfl (Y_move rfl rfl) ?_; clear hf; intro a hf
              refine sBuildSlice (parts := [(0, .const (.int .i64 (-1000000000000000)))]) (vs := [.int .i64 (-1000000000000000)]) (cells := [.int .i64 (-1000000000000000)]) hf hs rfl rfl rfl rfl rfl el28 ti2 rfl rfl rfl rfl ?_; clear hf hs; intro a w A254 hs hA255 hf
              have hs : St [] W w [.mat A132 n133 c134 28 2 vs136 ms131, .row A232 n233 c234 2 1 (ints xs231), .row A254 1 1 2 1 (ints ([(-1000000000000000)]))] := hs
              obtain ⟨xs258, ha259, hm251⟩ := bind_some hm251
              refine sAppendL (i := 1) (xs := xs231) (ys := [(-1000000000000000)]) (enc := ints) hf hs rfl rfl rfl rfl rfl rfl hn235 rfl rfl ha259 el28 ti2 rfl rfl rfl (hs.rd (i := 2) rfl) (Nat.succ_pos _) ints_len1 ints_append ints_one ?_; clear hf hs; intro a w A256 c257 hs hf
              have hs : St [] W w [.mat A132 n133 c134 28 2 vs136 ms131, .row A256 xs258.length c257 2 1 (ints xs258), .row A254 1 1 2 1 (ints ([(-1000000000000000)]))] := hs
              refine sY hf hs rfl rfl rfl (Y_assign rfl rfl) ?_; clear hf; intro a hf
              refine wpO_nil ?_
              refine wpL_nil (Qb_normal ?_)
              refine wpL_region ?_
              refine sY hf hs rfl rfl rfl (Y_move rfl rfl) ?_; clear hf; intro a hf
              refine sY hf hs rfl rfl rfl (Y_add rfl rfl rfl) ?_; clear hf; intro a hf
              refine sY hf hs rfl rfl rfl (Y_assign rfl rfl) ?_; clear hf; intro a hf
              refine wpO_nil ?_
              refine wpL_nil (Ql_normal ?_)
              exact ⟨xs258, (IntKind.i64.wrap (x236 + 1)), A256, xs258.length, c257, hm251, rfl, (FrD.pick (FrD.pick (FrD.pick (FrD.pick (FrD.pick (FrD.pick hf.none hf rfl) hf rfl) hf rfl) hf rfl) hf rfl) hf rfl), hs.sel [0, 1] (by decide)⟩
            · have hm251 := bif_f hm251 hb253
              refine wpL_exit (Ql_exit (Qb_exit ?_))
              exact ⟨xs231, A232, n233, c234, Option.some.inj hm251, hn235, (FrD.pick (FrD.pick (FrD.pick (FrD.pick (FrD.pick hf.none hf rfl) hf rfl) hf rfl) hf rfl) hf rfl), hs⟩
        · rintro a w ⟨xs244, A245, n246, c247, hr_, hn248, hf, hs⟩
          subst hr_
          try dsimp only at hm206
          refine wpL_region ?_
          refine sY hf hs rfl rfl rfl (Y_move rfl rfl) ?_; clear hf; intro a hf
          refine sY hf hs rfl rfl rfl (Y_move rfl rfl) ?_; clear hf; intro a hf
          refine sOneM (j := 1) hf hs rfl rfl rfl rfl rfl rfl hn248 el40 ti28 ?_; clear hf hs; intro a w A260 hs hf
          have hs : St [] W w [.mat A132 n133 c134 28 2 vs136 ms131, .mat A260 1 1 28 2 ([Value.slice A245 xs244.length c247]) ([xs244])] := hs
          obtain ⟨ms264, ha265, hm206⟩ := bind_some hm206
          refine sAppendM (i := 0) (j := 1) hf hs rfl rfl rfl rfl rfl rfl hn135 rfl (by decide) rfl rfl (by decide) ha265 el40 ti28 rfl ?_; clear hf hs; intro a w A262 c263 hs hf
          have hs : St [] W w [.mat A262 ms264.length c263 28 2 (vs136 ++ ([Value.slice A245 xs244.length c247])) ms264] := hs
          obtain ⟨hq266, hv267⟩ := hs.appended (i := 0) rfl ha265
          refine sY hf hs rfl rfl rfl (Y_assign rfl rfl) ?_; clear hf; intro a hf
          refine wpO_nil ?_
          refine wpL_nil (Qb_normal ?_)
          refine wpL_region ?_
          refine sY hf hs rfl rfl rfl (Y_move rfl rfl) ?_; clear hf; intro a hf
          refine sY hf hs rfl rfl rfl (Y_add rfl rfl rfl) ?_; clear hf; intro a hf
          refine sY hf hs rfl rfl rfl (Y_assign rfl rfl) ?_; clear hf; intro a hf
          refine wpO_nil ?_
          refine wpL_nil (Ql_normal ?_)
          exact ⟨ms264, (IntKind.i64.wrap (x137 + 1)), A262, ms264.length, c263, (vs136 ++ ([Value.slice A245 xs244.length c247])), hm206, rfl, (FrD.pick (FrD.pick (FrD.pick (FrD.pick hf.none hf rfl) hf rfl) hf rfl) hf rfl), hs⟩
      · have hm206 := bif_f hm206 hb208
        refine wpL_exit (Ql_exit (Qb_exit ?_))
        exact ⟨ms131, A132, n133, c134, vs136, Option.some.inj hm206, hn135, (FrD.pick hf.none hf rfl), hs⟩
  · rintro a w ⟨ms198, A199, n200, c201, vs203, hr_, hn202, hf, hs⟩
    subst hr_
    try dsimp only at hm
    refine wpL_seq ?_
    refine wpL_region ?_
    refine sY hf hs rfl rfl rfl (Y_move rfl rfl) ?_; clear hf; intro a hf
    refine sY hf hs rfl rfl rfl (Y_assign rfl rfl) ?_; clear hf; intro a hf
    refine wpO_nil ?_
    obtain rfl := Option.some.inj hm
    refine wpL_ret (ret_tmp rfl hf rfl ?_)
    exact ⟨_, rfl, A199, n200, c201, vs203, rfl, hn202, hs⟩

set_option maxRecDepth 100000 in
theorem spec_l01Pick_ok (F : Nat) (b_p0_s : Nat) (p0_s_code : List Int) (A_p0_s_code : Option Addr) (n_p0_s_code c_p0_s_code : Nat) (hn_p0_s_code : n_p0_s_code = p0_s_code.length) (p0_s_at : Int) (p0_s_seed : Int) (p1_list : List Int) (A_p1_list_1 : Option Addr) (n_p1_list_1 c_p1_list_1 : Nat) (hn_p1_list_1 : n_p1_list_1 = p1_list.length) (r : (Int) × Int × Int) (W : World) (hm : spec_l01Pick F p0_s_code p0_s_at p0_s_seed p1_list = some r) (h_p0_s_code : KR (muL [.blk b_p0_s 149 [.slice A_p0_s_code n_p0_s_code c_p0_s_code, .int .i64 p0_s_at, .int .i64 p0_s_seed]]) W A_p0_s_code (bytes p0_s_code)) (h_p1_list_1 : KR (muL [.blk b_p0_s 149 [.slice A_p0_s_code n_p0_s_code c_p0_s_code, .int .i64 p0_s_at, .int .i64 p0_s_seed]]) W A_p1_list_1 (ints p1_list)) (hst : St (muL [.blk b_p0_s 149 [.slice A_p0_s_code n_p0_s_code c_p0_s_code, .int .i64 p0_s_at, .int .i64 p0_s_seed]]) W W [.blk b_p0_s 149 [.slice A_p0_s_code n_p0_s_code c_p0_s_code, .int .i64 p0_s_at, .int .i64 p0_s_seed]]) :
    Calls Try.prog 109 [.pointer (some ⟨b_p0_s, 0, none⟩), .slice A_p1_list_1 n_p1_list_1 c_p1_list_1].toArray W fun e w' => ∃ v, e = .returned v ∧ v = .int .i64 r.1 ∧ St (muL [.blk b_p0_s 149 [.slice A_p0_s_code n_p0_s_code c_p0_s_code, .int .i64 p0_s_at, .int .i64 p0_s_seed]]) W w' [.blk b_p0_s 149 [.slice A_p0_s_code n_p0_s_code c_p0_s_code, .int .i64 r.2.1, .int .i64 r.2.2]] := by
  subst hn_p0_s_code
  subst hn_p1_list_1
  unfold spec_l01Pick at hm
  refine Calls.enter (N := 12) Try.func109 rfl rfl rfl (fun a hf => ?_)
  have hs := hst
  obtain ⟨w, hw_⟩ : ∃ w, w = W := ⟨W, rfl⟩
  clear hw_ w
  refine wpL_seq ?_
  refine wpL_region ?_
  refine sY hf hs rfl rfl rfl (Y_assign rfl rfl) ?_; clear hf; intro a hf
  refine wpO_nil ?_
  refine wpL_seq ?_
  refine wpL_region ?_
  refine sY hf hs rfl rfl rfl (Y_move rfl rfl) ?_; clear hf; intro a hf
  refine sY hf hs rfl rfl rfl (Y_move rfl rfl) ?_; clear hf; intro a hf
  refine sY hf hs rfl rfl rfl (Y_move rfl rfl) ?_; clear hf; intro a hf
  refine sY hf hs rfl rfl rfl (Y_lenH rfl rfl el28 rfl) ?_; clear hf; intro a hf
  obtain ⟨r1, hc2, hm⟩ := bind_some hm
  refine sCall hf rfl rfl rfl rfl (cap := []) rfl rfl en93 (spec_l01Next_ok F b_p0_s p0_s_code A_p0_s_code p0_s_code.length c_p0_s_code rfl p0_s_at p0_s_seed (p1_list.length : Int) _ _ hc2 (h_p0_s_code.pass hs [0]) (hs.sel [0] (by decide)).rebase) ?_; clear hf
  rintro _ w ⟨rfl, hs1⟩ a hf
  have hs : St (muL [.blk b_p0_s 149 [.slice A_p0_s_code p0_s_code.length c_p0_s_code, .int .i64 p0_s_at, .int .i64 p0_s_seed]]) W w [.blk b_p0_s 149 [.slice A_p0_s_code p0_s_code.length c_p0_s_code, .int .i64 r1.2.1, .int .i64 r1.2.2]] := St.mutTail (La := []) (Lb := [.blk b_p0_s 149 [.slice A_p0_s_code p0_s_code.length c_p0_s_code, .int .i64 p0_s_at, .int .i64 p0_s_seed]]) (hs.sel [0] (by decide)) hs1
  clear hs1
  obtain ⟨q3, hi4, hm⟩ := bind_some hm
  obtain ⟨hi4a, hi4b, hi4q⟩ := idx_some hi4
  refine sY hf hs rfl rfl rfl (Y_index rfl rfl rfl el28 ti2 (Rd.isAt (h_p1_list_1.at hs) (at1 (ints_at hi4q))) hi4a hi4b) ?_; clear hf; intro a hf
  refine sY hf hs rfl rfl rfl (Y_load_rd rfl rfl (fun w hs => h_p1_list_1.at hs) (at1 (ints_at hi4q)) ag2) ?_; clear hf; intro a hf
  refine sY hf hs rfl rfl rfl (Y_assign rfl rfl) ?_; clear hf; intro a hf
  refine wpO_nil ?_
  obtain rfl := Option.some.inj hm
  refine wpL_ret (ret_tmp rfl hf rfl ?_)
  exact ⟨_, rfl, rfl, hs⟩

set_option maxRecDepth 100000 in
theorem spec_l01DrawValue_ok (F : Nat) (b_p0_s : Nat) (p0_s_code : List Int) (A_p0_s_code : Option Addr) (n_p0_s_code c_p0_s_code : Nat) (hn_p0_s_code : n_p0_s_code = p0_s_code.length) (p0_s_at : Int) (p0_s_seed : Int) (r : (Int) × Int × Int) (W : World) (hm : spec_l01DrawValue F p0_s_code p0_s_at p0_s_seed = some r) (h_p0_s_code : KR (muL [.blk b_p0_s 149 [.slice A_p0_s_code n_p0_s_code c_p0_s_code, .int .i64 p0_s_at, .int .i64 p0_s_seed]]) W A_p0_s_code (bytes p0_s_code)) (hst : St (muL [.blk b_p0_s 149 [.slice A_p0_s_code n_p0_s_code c_p0_s_code, .int .i64 p0_s_at, .int .i64 p0_s_seed]]) W W [.blk b_p0_s 149 [.slice A_p0_s_code n_p0_s_code c_p0_s_code, .int .i64 p0_s_at, .int .i64 p0_s_seed]]) :
    Calls Try.prog 206 [.pointer (some ⟨b_p0_s, 0, none⟩)].toArray W fun e w' => ∃ v, e = .returned v ∧ v = .int .i64 r.1 ∧ St (muL [.blk b_p0_s 149 [.slice A_p0_s_code n_p0_s_code c_p0_s_code, .int .i64 p0_s_at, .int .i64 p0_s_seed]]) W w' [.blk b_p0_s 149 [.slice A_p0_s_code n_p0_s_code c_p0_s_code, .int .i64 r.2.1, .int .i64 r.2.2]] := by
  subst hn_p0_s_code
  unfold spec_l01DrawValue at hm
  refine Calls.enter (N := 23) Try.func206 rfl rfl rfl (fun a hf => ?_)
  have hs := hst
  obtain ⟨w, hw_⟩ : ∃ w, w = W := ⟨W, rfl⟩
  clear hw_ w
  refine wpL_seq ?_
  refine wpL_region ?_
  refine sY hf hs rfl rfl rfl (Y_assign rfl rfl) ?_; clear hf; intro a hf
  refine wpO_nil ?_
  refine wpL_seq ?_
  refine wpL_seq ?_
  refine wpL_region ?_
  refine sY hf hs rfl rfl rfl (Y_move rfl rfl) ?_; clear hf; intro a hf
  obtain ⟨r1, hc2, hm⟩ := bind_some hm
  refine sCall hf rfl rfl rfl rfl (cap := []) rfl rfl en93 (spec_l01Next_ok F b_p0_s p0_s_code A_p0_s_code p0_s_code.length c_p0_s_code rfl p0_s_at p0_s_seed 24 _ _ hc2 (h_p0_s_code.pass hs [0]) (hs.sel [0] (by decide)).rebase) ?_; clear hf
  rintro _ w ⟨rfl, hs1⟩ a hf
  have hs : St (muL [.blk b_p0_s 149 [.slice A_p0_s_code p0_s_code.length c_p0_s_code, .int .i64 p0_s_at, .int .i64 p0_s_seed]]) W w [.blk b_p0_s 149 [.slice A_p0_s_code p0_s_code.length c_p0_s_code, .int .i64 r1.2.1, .int .i64 r1.2.2]] := St.mutTail (La := []) (Lb := [.blk b_p0_s 149 [.slice A_p0_s_code p0_s_code.length c_p0_s_code, .int .i64 p0_s_at, .int .i64 p0_s_seed]]) (hs.sel [0] (by decide)) hs1
  clear hs1
  refine wpO_nil ?_
  refine wpL_block0 ?_
  refine wpL_seq ?_
  refine wpL_seq ?_
  refine wpL_region ?_
  refine sY hf hs rfl rfl rfl (Y_eql rfl rfl rfl) ?_; clear hf; intro a hf
  refine sY hf hs rfl rfl rfl (Y_assign rfl rfl) ?_; clear hf; intro a hf
  refine wpO_nil ?_
  obtain ⟨r6, hj7, hm⟩ := bind_some hm
  refine wpL_cut (fun a w => ∃ b5 : Bool, b5 = r6 ∧ Fr a 23 [(0, .pointer (some ⟨b_p0_s, 0, none⟩)), (4, .int .i64 r1.1), (5, .bool b5)] ∧ St (muL [.blk b_p0_s 149 [.slice A_p0_s_code p0_s_code.length c_p0_s_code, .int .i64 p0_s_at, .int .i64 p0_s_seed]]) W w [.blk b_p0_s 149 [.slice A_p0_s_code p0_s_code.length c_p0_s_code, .int .i64 r1.2.1, .int .i64 r1.2.2]]) ?_ ?_
  · refine wpL_cond hf rfl (fun hb8 => ?_) (fun hb8 => ?_)
    · have hj7 := bif_t hj7 hb8
      refine wpL_skip ?_
      refine wpL_nil (then_normal ?_)
      exact ⟨(r1.1 == 0), Option.some.inj hj7, (FrD.pick (FrD.pick (FrD.pick hf.none hf rfl) hf rfl) hf rfl), hs⟩
    · have hj7 := bif_f hj7 hb8
      refine wpL_seq ?_
      refine wpL_region ?_
      refine sY hf hs rfl rfl rfl (Y_eql rfl rfl rfl) ?_; clear hf; intro a hf
      refine sY hf hs rfl rfl rfl (Y_assign rfl rfl) ?_; clear hf; intro a hf
      refine wpO_nil ?_
      refine wpL_cond hf rfl (fun hb9 => ?_) (fun hb9 => ?_)
      · have hj7 := bif_t hj7 hb9
        refine wpL_skip ?_
        refine wpL_nil (then_normal ?_)
        exact ⟨(r1.1 == 1), Option.some.inj hj7, (FrD.pick (FrD.pick (FrD.pick hf.none hf rfl) hf rfl) hf rfl), hs⟩
      · have hj7 := bif_f hj7 hb9
        refine wpL_region ?_
        refine sY hf hs rfl rfl rfl (Y_eql rfl rfl rfl) ?_; clear hf; intro a hf
        refine sY hf hs rfl rfl rfl (Y_assign rfl rfl) ?_; clear hf; intro a hf
        refine wpO_nil ?_
        refine wpL_nil (then_normal ?_)
        exact ⟨(r1.1 == 2), Option.some.inj hj7, (FrD.pick (FrD.pick (FrD.pick hf.none hf rfl) hf rfl) hf rfl), hs⟩
  · rintro a w ⟨b5, hr_, hf, hs⟩
    subst hr_
    try dsimp only at hm
    refine wpL_cond hf rfl (fun hb10 => ?_) (fun hb10 => ?_)
    · have hm := bif_t hm hb10
      refine wpL_seq ?_
      refine wpL_region ?_
      refine sY hf hs rfl rfl rfl (Y_assign rfl rfl) ?_; clear hf; intro a hf
      refine wpO_nil ?_
      obtain rfl := Option.some.inj hm
      refine wpL_ret (Qb_ret (ret_tmp rfl hf rfl ?_))
      exact ⟨_, rfl, rfl, hs⟩
    · have hm := bif_f hm hb10
      refine wpL_seq ?_
      refine wpL_region ?_
      refine sY hf hs rfl rfl rfl (Y_eql rfl rfl rfl) ?_; clear hf; intro a hf
      refine sY hf hs rfl rfl rfl (Y_assign rfl rfl) ?_; clear hf; intro a hf
      refine wpO_nil ?_
      refine wpL_cond hf rfl (fun hb11 => ?_) (fun hb11 => ?_)
      · have hm := bif_t hm hb11
        refine wpL_seq ?_
        refine wpL_region ?_
        refine sY hf hs rfl rfl rfl (Y_move rfl rfl) ?_; clear hf; intro a hf
        refine sBuildSlice (parts := [(0, .const (.int .i64 1000000)), (1, .const (.int .i64 1000001)), (2, .const (.int .i64 (-1000000))), (3, .const (.int .i64 (-1000001))), (4, .const (.int .i64 (-999999999999999))), (5, .const (.int .i64 (-1000000000000001))), (6, .const (.int .i64 9223372036854775807))]) (vs := [.int .i64 1000000, .int .i64 1000001, .int .i64 (-1000000), .int .i64 (-1000001), .int .i64 (-999999999999999), .int .i64 (-1000000000000001), .int .i64 9223372036854775807]) (cells := [.int .i64 1000000, .int .i64 1000001, .int .i64 (-1000000), .int .i64 (-1000001), .int .i64 (-999999999999999), .int .i64 (-1000000000000001), .int .i64 9223372036854775807]) hf hs rfl rfl rfl rfl rfl el28 ti2 rfl rfl rfl rfl ?_; clear hf hs; intro a w A12 hs hA13 hf
        have hs : St (muL [.blk b_p0_s 149 [.slice A_p0_s_code p0_s_code.length c_p0_s_code, .int .i64 p0_s_at, .int .i64 p0_s_seed]]) W w [.blk b_p0_s 149 [.slice A_p0_s_code p0_s_code.length c_p0_s_code, .int .i64 r1.2.1, .int .i64 r1.2.2], .row A12 7 7 2 1 (ints ([1000000, 1000001, (-1000000), (-1000001), (-999999999999999), (-1000000000000001), 9223372036854775807]))] := hs
        obtain ⟨r14, hc15, hm⟩ := bind_some hm
        refine sCall hf rfl rfl rfl rfl (cap := []) rfl rfl en109 (spec_l01Pick_ok F b_p0_s p0_s_code A_p0_s_code p0_s_code.length c_p0_s_code rfl r1.2.1 r1.2.2 ([1000000, 1000001, (-1000000), (-1000001), (-999999999999999), (-1000000000000001), 9223372036854775807]) A12 7 7 rfl _ _ hc15 (h_p0_s_code.pass hs [0]) (hs.keepR (i := 1) rfl [0] (by decide)) (hs.sel [0] (by decide)).rebase) ?_; clear hf
        rintro _ w ⟨rfl, hs1⟩ a hf
        have hs : St (muL [.blk b_p0_s 149 [.slice A_p0_s_code p0_s_code.length c_p0_s_code, .int .i64 p0_s_at, .int .i64 p0_s_seed]]) W w [.row A12 7 7 2 1 (ints ([1000000, 1000001, (-1000000), (-1000001), (-999999999999999), (-1000000000000001), 9223372036854775807])), .blk b_p0_s 149 [.slice A_p0_s_code p0_s_code.length c_p0_s_code, .int .i64 r14.2.1, .int .i64 r14.2.2]] := St.mutTail (La := [.row A12 7 7 2 1 (ints ([1000000, 1000001, (-1000000), (-1000001), (-999999999999999), (-1000000000000001), 9223372036854775807]))]) (Lb := [.blk b_p0_s 149 [.slice A_p0_s_code p0_s_code.length c_p0_s_code, .int .i64 r1.2.1, .int .i64 r1.2.2]]) (hs.sel [1, 0] (by decide)) hs1
        clear hs1
        refine sY hf hs rfl rfl rfl (Y_assign rfl rfl) ?_; clear hf; intro a hf
        refine wpO_nil ?_
        obtain rfl := Option.some.inj hm
        refine wpL_ret (Qb_ret (ret_tmp rfl hf rfl ?_))
        exact ⟨_, rfl, rfl, hs.sel [1] (by decide)⟩
      · have hm := bif_f hm hb11
        refine wpL_seq ?_
        refine wpL_region ?_
        refine sY hf hs rfl rfl rfl (Y_eql rfl rfl rfl) ?_; clear hf; intro a hf
        refine sY hf hs rfl rfl rfl (Y_assign rfl rfl) ?_; clear hf; intro a hf
        refine wpO_nil ?_
        refine wpL_cond hf rfl (fun hb16 => ?_) (fun hb16 => ?_)
        · have hm := bif_t hm hb16
          refine wpL_seq ?_
          refine wpL_region ?_
          refine sY hf hs rfl rfl rfl (Y_move rfl rfl) ?_; clear hf; intro a hf
          obtain ⟨r17, hc18, hm⟩ := bind_some hm
          refine sCall hf rfl rfl rfl rfl (cap := []) rfl rfl en93 (spec_l01Next_ok F b_p0_s p0_s_code A_p0_s_code p0_s_code.length c_p0_s_code rfl r1.2.1 r1.2.2 2000 _ _ hc18 (h_p0_s_code.pass hs [0]) (hs.sel [0] (by decide)).rebase) ?_; clear hf
          rintro _ w ⟨rfl, hs1⟩ a hf
          have hs : St (muL [.blk b_p0_s 149 [.slice A_p0_s_code p0_s_code.length c_p0_s_code, .int .i64 p0_s_at, .int .i64 p0_s_seed]]) W w [.blk b_p0_s 149 [.slice A_p0_s_code p0_s_code.length c_p0_s_code, .int .i64 r17.2.1, .int .i64 r17.2.2]] := St.mutTail (La := []) (Lb := [.blk b_p0_s 149 [.slice A_p0_s_code p0_s_code.length c_p0_s_code, .int .i64 r1.2.1, .int .i64 r1.2.2]]) (hs.sel [0] (by decide)) hs1
          clear hs1
          refine sY hf hs rfl rfl rfl (Y_sub rfl rfl rfl) ?_; clear hf; intro a hf
          refine sY hf hs rfl rfl rfl (Y_mul rfl rfl rfl) ?_; clear hf; intro a hf
          refine sY hf hs rfl rfl rfl (Y_assign rfl rfl) ?_; clear hf; intro a hf
          refine wpO_nil ?_
          obtain rfl := Option.some.inj hm
          refine wpL_ret (Qb_ret (ret_tmp rfl hf rfl ?_))
          exact ⟨_, rfl, rfl, hs⟩
        · have hm := bif_f hm hb16
          refine wpL_skip ?_
          refine wpL_nil (Qb_normal ?_)
          refine wpL_seq ?_
          refine wpL_region ?_
          refine sY hf hs rfl rfl rfl (Y_move rfl rfl) ?_; clear hf; intro a hf
          obtain ⟨r19, hc20, hm⟩ := bind_some hm
          refine sCall hf rfl rfl rfl rfl (cap := []) rfl rfl en93 (spec_l01Next_ok F b_p0_s p0_s_code A_p0_s_code p0_s_code.length c_p0_s_code rfl r1.2.1 r1.2.2 41 _ _ hc20 (h_p0_s_code.pass hs [0]) (hs.sel [0] (by decide)).rebase) ?_; clear hf
          rintro _ w ⟨rfl, hs1⟩ a hf
          have hs : St (muL [.blk b_p0_s 149 [.slice A_p0_s_code p0_s_code.length c_p0_s_code, .int .i64 p0_s_at, .int .i64 p0_s_seed]]) W w [.blk b_p0_s 149 [.slice A_p0_s_code p0_s_code.length c_p0_s_code, .int .i64 r19.2.1, .int .i64 r19.2.2]] := St.mutTail (La := []) (Lb := [.blk b_p0_s 149 [.slice A_p0_s_code p0_s_code.length c_p0_s_code, .int .i64 r1.2.1, .int .i64 r1.2.2]]) (hs.sel [0] (by decide)) hs1
          clear hs1
          refine sY hf hs rfl rfl rfl (Y_sub rfl rfl rfl) ?_; clear hf; intro a hf
          refine sY hf hs rfl rfl rfl (Y_assign rfl rfl) ?_; clear hf; intro a hf
          refine wpO_nil ?_
          obtain rfl := Option.some.inj hm
          refine wpL_ret (ret_tmp rfl hf rfl ?_)
          exact ⟨_, rfl, rfl, hs⟩

set_option maxHeartbeats 2000000 in
set_option maxRecDepth 100000 in
theorem spec_l02DrawSize_ok (F : Nat) (b_p0_s : Nat) (p0_s_code : List Int) (A_p0_s_code : Option Addr) (n_p0_s_code c_p0_s_code : Nat) (hn_p0_s_code : n_p0_s_code = p0_s_code.length) (p0_s_at : Int) (p0_s_seed : Int) (p1_m : Int) (p2_n : Int) (r : (List (List Int)) × Int × Int) (W : World) (hm : spec_l02DrawSize F p0_s_code p0_s_at p0_s_seed p1_m p2_n = some r) (h_p0_s_code : KR (muL [.blk b_p0_s 149 [.slice A_p0_s_code n_p0_s_code c_p0_s_code, .int .i64 p0_s_at, .int .i64 p0_s_seed]]) W A_p0_s_code (bytes p0_s_code)) (hst : St (muL [.blk b_p0_s 149 [.slice A_p0_s_code n_p0_s_code c_p0_s_code, .int .i64 p0_s_at, .int .i64 p0_s_seed]]) W W [.blk b_p0_s 149 [.slice A_p0_s_code n_p0_s_code c_p0_s_code, .int .i64 p0_s_at, .int .i64 p0_s_seed]]) :
    Calls Try.prog 161 [.pointer (some ⟨b_p0_s, 0, none⟩), .int .i64 p1_m, .int .i64 p2_n].toArray W fun e w' => ∃ v, e = .returned v ∧ ∃ A696, ∃ n697, ∃ c698, ∃ vs700, v = .slice A696 n697 c698 ∧ n697 = r.1.length ∧ St (muL [.blk b_p0_s 149 [.slice A_p0_s_code n_p0_s_code c_p0_s_code, .int .i64 p0_s_at, .int .i64 p0_s_seed]]) W w' [.mat A696 n697 c698 28 2 vs700 r.1, .blk b_p0_s 149 [.slice A_p0_s_code n_p0_s_code c_p0_s_code, .int .i64 r.2.1, .int .i64 r.2.2]] := by
  subst hn_p0_s_code
  unfold spec_l02DrawSize at hm
  refine Calls.enter (N := 59) Try.func161 rfl rfl rfl (fun a hf => ?_)
  have hs := hst
  obtain ⟨w, hw_⟩ : ∃ w, w = W := ⟨W, rfl⟩
  clear hw_ w
  refine wpL_seq ?_
  refine wpL_region ?_
  refine sY hf hs rfl rfl rfl (Y_assign rfl rfl) ?_; clear hf; intro a hf
  refine wpO_nil ?_
  refine wpL_seq ?_
  refine wpL_region ?_
  refine sY hf hs rfl rfl rfl (Y_move rfl rfl) ?_; clear hf; intro a hf
  refine sY hf hs rfl rfl rfl (Y_move rfl rfl) ?_; clear hf; intro a hf
  obtain ⟨r1, hc2, hm⟩ := bind_some hm
  refine sCall hf rfl rfl rfl rfl (cap := []) rfl rfl en154 (spec_l02Bottom_ok F p1_m p2_n _ _ hc2) ?_; clear hf
  rintro _ w ⟨A3, n4, c5, vs7, rfl, hn6, hs1⟩ a hf
  have hs : St (muL [.blk b_p0_s 149 [.slice A_p0_s_code p0_s_code.length c_p0_s_code, .int .i64 p0_s_at, .int .i64 p0_s_seed]]) W w [.blk b_p0_s 149 [.slice A_p0_s_code p0_s_code.length c_p0_s_code, .int .i64 p0_s_at, .int .i64 p0_s_seed], .mat A3 n4 c5 28 2 vs7 r1] := hs.join hs1
  clear hs1
  refine sY hf hs rfl rfl rfl (Y_assign rfl rfl) ?_; clear hf; intro a hf
  refine wpO_nil ?_
  refine wpL_seq ?_
  refine wpL_region ?_
  refine sY hf hs rfl rfl rfl (Y_move rfl rfl) ?_; clear hf; intro a hf
  refine sBuildSlice (parts := [(0, .const (.int .i64 2)), (1, .const (.int .i64 3)), (2, .const (.int .i64 5))]) (vs := [.int .i64 2, .int .i64 3, .int .i64 5]) (cells := [.int .i64 2, .int .i64 3, .int .i64 5]) hf hs rfl rfl rfl rfl rfl el28 ti2 rfl rfl rfl rfl ?_; clear hf hs; intro a w A8 hs hA9 hf
  have hs : St (muL [.blk b_p0_s 149 [.slice A_p0_s_code p0_s_code.length c_p0_s_code, .int .i64 p0_s_at, .int .i64 p0_s_seed]]) W w [.blk b_p0_s 149 [.slice A_p0_s_code p0_s_code.length c_p0_s_code, .int .i64 p0_s_at, .int .i64 p0_s_seed], .mat A3 n4 c5 28 2 vs7 r1, .row A8 3 3 2 1 (ints ([2, 3, 5]))] := hs
  obtain ⟨r10, hc11, hm⟩ := bind_some hm
  refine sCall hf rfl rfl rfl rfl (cap := []) rfl rfl en109 (spec_l01Pick_ok F b_p0_s p0_s_code A_p0_s_code p0_s_code.length c_p0_s_code rfl p0_s_at p0_s_seed ([2, 3, 5]) A8 3 3 rfl _ _ hc11 (h_p0_s_code.pass hs [0]) (hs.keepR (i := 2) rfl [0] (by decide)) (hs.sel [0] (by decide)).rebase) ?_; clear hf
  rintro _ w ⟨rfl, hs1⟩ a hf
  have hs : St (muL [.blk b_p0_s 149 [.slice A_p0_s_code p0_s_code.length c_p0_s_code, .int .i64 p0_s_at, .int .i64 p0_s_seed]]) W w [.mat A3 n4 c5 28 2 vs7 r1, .row A8 3 3 2 1 (ints ([2, 3, 5])), .blk b_p0_s 149 [.slice A_p0_s_code p0_s_code.length c_p0_s_code, .int .i64 r10.2.1, .int .i64 r10.2.2]] := St.mutTail (La := [.mat A3 n4 c5 28 2 vs7 r1, .row A8 3 3 2 1 (ints ([2, 3, 5]))]) (Lb := [.blk b_p0_s 149 [.slice A_p0_s_code p0_s_code.length c_p0_s_code, .int .i64 p0_s_at, .int .i64 p0_s_seed]]) (hs.sel [1, 2, 0] (by decide)) hs1
  clear hs1
  refine sY hf hs rfl rfl rfl (Y_assign rfl rfl) ?_; clear hf; intro a hf
  refine wpO_nil ?_
  refine wpL_seq ?_
  refine wpL_seq ?_
  refine wpL_region ?_
  refine sY hf hs rfl rfl rfl (Y_assign rfl rfl) ?_; clear hf; intro a hf
  refine wpO_nil ?_
  obtain ⟨r491, hl492, hm⟩ := bind_some hm
  refine wpL_block (fun a w => ∃ x487 : Int, ∃ x488 : Int, ∃ ms489 : List (List Int), (x487, x488, ms489) = r491 ∧ n4 = ms489.length ∧ Fr a 59 [(0, .pointer (some ⟨b_p0_s, 0, none⟩)), (7, .slice A3 n4 c5)] ∧ St (muL [.blk b_p0_s 149 [.slice A_p0_s_code p0_s_code.length c_p0_s_code, .int .i64 p0_s_at, .int .i64 p0_s_seed]]) W w [.blk b_p0_s 149 [.slice A_p0_s_code p0_s_code.length c_p0_s_code, .int .i64 x487, .int .i64 x488], .mat A3 n4 c5 28 2 vs7 ms489]) ?_ ?_
  · refine wpL_loop (fun n a w => ∃ x327 : Int, ∃ x328 : Int, ∃ ms329 : List (List Int), ∃ x331 : Int, spec_l02DrawSize_L4 F p0_s_code p1_m p2_n r10 n x327 x328 ms329 x331 = some r491 ∧ n4 = ms329.length ∧ Fr a 59 [(0, .pointer (some ⟨b_p0_s, 0, none⟩)), (1, .int .i64 p1_m), (2, .int .i64 p2_n), (7, .slice A3 n4 c5), (8, .int .i64 r10.1), (9, .int .i64 x331)] ∧ St (muL [.blk b_p0_s 149 [.slice A_p0_s_code p0_s_code.length c_p0_s_code, .int .i64 p0_s_at, .int .i64 p0_s_seed]]) W w [.blk b_p0_s 149 [.slice A_p0_s_code p0_s_code.length c_p0_s_code, .int .i64 x327, .int .i64 x328], .mat A3 n4 c5 28 2 vs7 ms329]) F ?_ ?_ ?_
    · exact ⟨r10.2.1, r10.2.2, r1, 0, hl492, hn6, (FrD.pick (FrD.pick (FrD.pick (FrD.pick (FrD.pick (FrD.pick hf.none hf rfl) hf rfl) hf rfl) hf rfl) hf rfl) hf rfl), hs.sel [2, 0] (by decide)⟩
    · rintro a w ⟨x327, x328, ms329, x331, h0_, -, -, -⟩; simp [spec_l02DrawSize_L4] at h0_
    · rintro n494 a w ⟨x327, x328, ms329, x331, hm493, hn330, hf, hs⟩
      rw [spec_l02DrawSize_L4] at hm493
      refine wpL_seq ?_
      refine wpL_seq ?_
      refine wpL_region ?_
      refine sY hf hs rfl rfl rfl (Y_move rfl rfl) ?_; clear hf; intro a hf
      refine sY hf hs rfl rfl rfl (Y_move rfl rfl) ?_; clear hf; intro a hf
      refine sY hf hs rfl rfl rfl (Y_lss rfl rfl rfl) ?_; clear hf; intro a hf
      refine wpO_nil ?_
      refine wpL_cond hf rfl (fun hb495 => ?_) (fun hb495 => ?_)
      · have hm493 := bif_t hm493 hb495
        refine wpL_skip ?_
        refine wpL_seq ?_
        refine wpL_block0 ?_
        refine wpL_seq ?_
        refine wpL_region ?_
        refine sY hf hs rfl rfl rfl (Y_assign rfl rfl) ?_; clear hf; intro a hf
        refine wpO_nil ?_
        obtain ⟨r612, hl613, hm493⟩ := bind_some hm493
        refine wpL_block (fun a w => ∃ x608 : Int, ∃ x609 : Int, ∃ ms610 : List (List Int), (x608, x609, ms610) = r612 ∧ n4 = ms610.length ∧ Fr a 59 [(0, .pointer (some ⟨b_p0_s, 0, none⟩)), (1, .int .i64 p1_m), (2, .int .i64 p2_n), (7, .slice A3 n4 c5), (8, .int .i64 r10.1), (9, .int .i64 x331)] ∧ St (muL [.blk b_p0_s 149 [.slice A_p0_s_code p0_s_code.length c_p0_s_code, .int .i64 p0_s_at, .int .i64 p0_s_seed]]) W w [.blk b_p0_s 149 [.slice A_p0_s_code p0_s_code.length c_p0_s_code, .int .i64 x608, .int .i64 x609], .mat A3 n4 c5 28 2 vs7 ms610]) ?_ ?_
        · refine wpL_loop (fun n a w => ∃ x569 : Int, ∃ x570 : Int, ∃ ms571 : List (List Int), ∃ x573 : Int, spec_l02DrawSize_L5 F p0_s_code p2_n r10 x331 n x569 x570 ms571 x573 = some r612 ∧ n4 = ms571.length ∧ Fr a 59 [(0, .pointer (some ⟨b_p0_s, 0, none⟩)), (1, .int .i64 p1_m), (2, .int .i64 p2_n), (7, .slice A3 n4 c5), (8, .int .i64 r10.1), (9, .int .i64 x331), (10, .int .i64 x573)] ∧ St (muL [.blk b_p0_s 149 [.slice A_p0_s_code p0_s_code.length c_p0_s_code, .int .i64 p0_s_at, .int .i64 p0_s_seed]]) W w [.blk b_p0_s 149 [.slice A_p0_s_code p0_s_code.length c_p0_s_code, .int .i64 x569, .int .i64 x570], .mat A3 n4 c5 28 2 vs7 ms571]) F ?_ ?_ ?_
          · exact ⟨x327, x328, ms329, 0, hl613, hn330, (FrD.pick (FrD.pick (FrD.pick (FrD.pick (FrD.pick (FrD.pick (FrD.pick hf.none hf rfl) hf rfl) hf rfl) hf rfl) hf rfl) hf rfl) hf rfl), hs⟩
          · rintro a w ⟨x569, x570, ms571, x573, h0_, -, -, -⟩; simp [spec_l02DrawSize_L5] at h0_
          · rintro n615 a w ⟨x569, x570, ms571, x573, hm614, hn572, hf, hs⟩
            rw [spec_l02DrawSize_L5] at hm614
            refine wpL_seq ?_
            refine wpL_seq ?_
            refine wpL_region ?_
            refine sY hf hs rfl rfl rfl (Y_move rfl rfl) ?_; clear hf; intro a hf
            refine sY hf hs rfl rfl rfl (Y_move rfl rfl) ?_; clear hf; intro a hf
            refine sY hf hs rfl rfl rfl (Y_lss rfl rfl rfl) ?_; clear hf; intro a hf
            refine wpO_nil ?_
            refine wpL_cond hf rfl (fun hb616 => ?_) (fun hb616 => ?_)
            · have hm614 := bif_t hm614 hb616
              refine wpL_skip ?_
              refine wpL_seq ?_
              refine wpL_block0 ?_
              refine wpL_seq ?_
              refine wpL_region ?_
              refine sY hf hs rfl rfl rfl (Y_move rfl rfl) ?_; clear hf; intro a hf
              refine sY hf hs rfl rfl rfl (Y_move rfl rfl) ?_; clear hf; intro a hf
              obtain ⟨r617, hc618, hm614⟩ := bind_some hm614
              refine sCall hf rfl rfl rfl rfl (cap := []) rfl rfl en93 (spec_l01Next_ok F b_p0_s p0_s_code A_p0_s_code p0_s_code.length c_p0_s_code rfl x569 x570 r10.1 _ _ hc618 (h_p0_s_code.pass hs [0]) (hs.sel [0] (by decide)).rebase) ?_; clear hf
              rintro _ w ⟨rfl, hs1⟩ a hf
              have hs : St (muL [.blk b_p0_s 149 [.slice A_p0_s_code p0_s_code.length c_p0_s_code, .int .i64 p0_s_at, .int .i64 p0_s_seed]]) W w [.mat A3 n4 c5 28 2 vs7 ms571, .blk b_p0_s 149 [.slice A_p0_s_code p0_s_code.length c_p0_s_code, .int .i64 r617.2.1, .int .i64 r617.2.2]] := St.mutTail (La := [.mat A3 n4 c5 28 2 vs7 ms571]) (Lb := [.blk b_p0_s 149 [.slice A_p0_s_code p0_s_code.length c_p0_s_code, .int .i64 x569, .int .i64 x570]]) (hs.sel [1, 0] (by decide)) hs1
              clear hs1
              refine sY hf hs rfl rfl rfl (Y_gtr rfl rfl rfl) ?_; clear hf; intro a hf
              refine wpO_nil ?_
              refine wpL_cond hf rfl (fun hb619 => ?_) (fun hb619 => ?_)
              · have hm614 := bif_t hm614 hb619
                refine wpL_drawM [.mat A3 n4 c5 28 2 vs7 ms571] [9] (by kernel_rfl) hs ?_; clear hs; intro w hs
                have hs0 : St (muL [.blk b_p0_s 149 [.slice A_p0_s_code p0_s_code.length c_p0_s_code, .int .i64 p0_s_at, .int .i64 p0_s_seed]]) W w [.mat A3 n4 c5 28 2 vs7 ms571] := hs.sel [0] (by decide)
                refine mYp (i := 0) rfl (by kernel_rfl) (by kernel_rfl) hf rfl rfl rfl (fun _ => Y_move rfl rfl) ?_; clear hf; intro a hf
                refine mYp (i := 1) rfl (by kernel_rfl) (by kernel_rfl) hf rfl rfl rfl (fun _ => Y_move rfl rfl) ?_; clear hf; intro a hf
                obtain ⟨q635, hi636, hm614⟩ := bind_some hm614
                obtain ⟨hi636a, hi636b, hi636q⟩ := idx_some hi636
                obtain ⟨A637, c638, hv639⟩ := hs.matRow (i := 0) rfl hi636q
                refine mYp (i := 2) rfl (by kernel_rfl) (by kernel_rfl) hf rfl rfl rfl (fun _ => Y_index rfl rfl rfl el40 ti28 (Rd.isAt (hs.rdV (i := 0) rfl) hv639) hi636a (ltn hn572 hi636b)) ?_; clear hf; intro a hf
                refine mY (i := 3) [[]] rfl (by kernel_rfl) (by kernel_rfl) hf hs0 rfl rfl rfl (Y_load_rd rfl rfl (fun w hs => hs.rdV (i := 0) rfl) (at1 hv639) ag28) ?_; clear hf; intro a hf
                refine mYp (i := 4) rfl (by kernel_rfl) (by kernel_rfl) hf rfl rfl rfl (fun _ => Y_move rfl rfl) ?_; clear hf; intro a hf
                refine mYp (i := 5) rfl (by kernel_rfl) (by kernel_rfl) hf rfl rfl rfl (fun _ => Y_move rfl rfl) ?_; clear hf; intro a hf
                refine mRun (i := 6) rfl (by kernel_rfl) ?_
                obtain ⟨r640, hc641, hm614⟩ := bind_some hm614
                refine sCall hf rfl rfl rfl rfl (cap := []) rfl rfl en93 (spec_l01Next_ok F b_p0_s p0_s_code A_p0_s_code p0_s_code.length c_p0_s_code rfl r617.2.1 r617.2.2 26 _ _ hc641 (h_p0_s_code.pass hs [1]) (hs.sel [1] (by decide)).rebase) ?_; clear hf
                rintro _ w ⟨rfl, hs1⟩ a hf
                have hs : St (muL [.blk b_p0_s 149 [.slice A_p0_s_code p0_s_code.length c_p0_s_code, .int .i64 p0_s_at, .int .i64 p0_s_seed]]) W w [.mat A3 n4 c5 28 2 vs7 ms571, .blk b_p0_s 149 [.slice A_p0_s_code p0_s_code.length c_p0_s_code, .int .i64 r640.2.1, .int .i64 r640.2.2]] := St.mutTail (La := [.mat A3 n4 c5 28 2 vs7 ms571]) (Lb := [.blk b_p0_s 149 [.slice A_p0_s_code p0_s_code.length c_p0_s_code, .int .i64 r617.2.1, .int .i64 r617.2.2]]) (hs.sel [0, 1] (by decide)) hs1
                clear hs1
                have hs0 : St (muL [.blk b_p0_s 149 [.slice A_p0_s_code p0_s_code.length c_p0_s_code, .int .i64 p0_s_at, .int .i64 p0_s_seed]]) W w [.mat A3 n4 c5 28 2 vs7 ms571] := hs.sel [0] (by decide)
                refine wpO_nil ⟨Or.inr (fun _ => hs0), ?_⟩
                refine mYp (i := 7) rfl (by kernel_rfl) (by kernel_rfl) hf rfl rfl rfl (fun _ => Y_sub rfl rfl rfl) ?_; clear hf; intro a hf
                obtain ⟨q642, hi643, hm614⟩ := bind_some hm614
                obtain ⟨hi643a, hi643b, hi643q⟩ := idx_some hi643
                refine mYp (i := 8) rfl (by kernel_rfl) (by kernel_rfl) hf rfl rfl rfl (fun _ => Y_index rfl rfl rfl el28 ti2 (Rd.isAt (hs.rdRow (i := 0) rfl ⟨hi636q, hv639⟩) (at1 (ints_at hi643q))) hi643a hi643b) ?_; clear hf; intro a hf
                refine mRun (i := 9) rfl (by kernel_rfl) ?_
                obtain ⟨xs644, hu646, hm614⟩ := bind_some hm614
                obtain ⟨ms645, hu647, hm614⟩ := bind_some hm614
                refine sStoreM (i := 0) (k := x331) hf hs rfl rfl rfl rfl rfl rfl hi636q hv639 rfl hu646 hu647 ti2 ?_; clear hs; intro w hs
                obtain ⟨hq648, hv649⟩ := rowUpd hu646 hu647 hv639
                have hs : St (muL [.blk b_p0_s 149 [.slice A_p0_s_code p0_s_code.length c_p0_s_code, .int .i64 p0_s_at, .int .i64 p0_s_seed]]) W w [.mat A3 n4 c5 28 2 vs7 ms645, .blk b_p0_s 149 [.slice A_p0_s_code p0_s_code.length c_p0_s_code, .int .i64 r640.2.1, .int .i64 r640.2.2]] := hs
                refine wpO_nil ⟨Or.inl (by decide), ?_⟩
                refine mDone (by kernel_rfl) ?_
                clear hs0
                refine wpL_nil (Qb_normal ?_)
                refine wpL_region ?_
                refine sY hf hs rfl rfl rfl (Y_move rfl rfl) ?_; clear hf; intro a hf
                refine sY hf hs rfl rfl rfl (Y_add rfl rfl rfl) ?_; clear hf; intro a hf
                refine sY hf hs rfl rfl rfl (Y_assign rfl rfl) ?_; clear hf; intro a hf
                refine wpO_nil ?_
                refine wpL_nil (Ql_normal ?_)
                exact ⟨r640.2.1, r640.2.2, ms645, (IntKind.i64.wrap (x573 + 1)), hm614, ((hn572).trans (upd_len hu647).symm), (FrD.pick (FrD.pick (FrD.pick (FrD.pick (FrD.pick (FrD.pick (FrD.pick hf.none hf rfl) hf rfl) hf rfl) hf rfl) hf rfl) hf rfl) hf rfl), hs.sel [1, 0] (by decide)⟩
              · have hm614 := bif_f hm614 hb619
                refine wpL_skip ?_
                refine wpL_nil (Qb_normal ?_)
                refine wpL_region ?_
                refine sY hf hs rfl rfl rfl (Y_move rfl rfl) ?_; clear hf; intro a hf
                refine sY hf hs rfl rfl rfl (Y_add rfl rfl rfl) ?_; clear hf; intro a hf
                refine sY hf hs rfl rfl rfl (Y_assign rfl rfl) ?_; clear hf; intro a hf
                refine wpO_nil ?_
                refine wpL_nil (Ql_normal ?_)
                exact ⟨r617.2.1, r617.2.2, ms571, (IntKind.i64.wrap (x573 + 1)), hm614, hn572, (FrD.pick (FrD.pick (FrD.pick (FrD.pick (FrD.pick (FrD.pick (FrD.pick hf.none hf rfl) hf rfl) hf rfl) hf rfl) hf rfl) hf rfl) hf rfl), hs.sel [1, 0] (by decide)⟩
            · have hm614 := bif_f hm614 hb616
              refine wpL_exit (Ql_exit (Qb_exit ?_))
              exact ⟨x569, x570, ms571, Option.some.inj hm614, hn572, (FrD.pick (FrD.pick (FrD.pick (FrD.pick (FrD.pick (FrD.pick hf.none hf rfl) hf rfl) hf rfl) hf rfl) hf rfl) hf rfl), hs⟩
        · rintro a w ⟨x608, x609, ms610, hr_, hn611, hf, hs⟩
          subst hr_
          try dsimp only at hm493
          refine wpL_nil (Qb_normal ?_)
          refine wpL_region ?_
          refine sY hf hs rfl rfl rfl (Y_move rfl rfl) ?_; clear hf; intro a hf
          refine sY hf hs rfl rfl rfl (Y_add rfl rfl rfl) ?_; clear hf; intro a hf
          refine sY hf hs rfl rfl rfl (Y_assign rfl rfl) ?_; clear hf; intro a hf
          refine wpO_nil ?_
          refine wpL_nil (Ql_normal ?_)
          exact ⟨x608, x609, ms610, (IntKind.i64.wrap (x331 + 1)), hm493, hn611, (FrD.pick (FrD.pick (FrD.pick (FrD.pick (FrD.pick (FrD.pick hf.none hf rfl) hf rfl) hf rfl) hf rfl) hf rfl) hf rfl), hs⟩
      · have hm493 := bif_f hm493 hb495
        refine wpL_exit (Ql_exit (Qb_exit ?_))
        exact ⟨x327, x328, ms329, Option.some.inj hm493, hn330, (FrD.pick (FrD.pick hf.none hf rfl) hf rfl), hs⟩
  · rintro a w ⟨x487, x488, ms489, hr_, hn490, hf, hs⟩
    subst hr_
    try dsimp only at hm
    refine wpL_seq ?_
    refine wpL_seq ?_
    refine wpL_region ?_
    refine sY hf hs rfl rfl rfl (Y_move rfl rfl) ?_; clear hf; intro a hf
    obtain ⟨r650, hc651, hm⟩ := bind_some hm
    refine sCall hf rfl rfl rfl rfl (cap := []) rfl rfl en93 (spec_l01Next_ok F b_p0_s p0_s_code A_p0_s_code p0_s_code.length c_p0_s_code rfl x487 x488 60 _ _ hc651 (h_p0_s_code.pass hs [0]) (hs.sel [0] (by decide)).rebase) ?_; clear hf
    rintro _ w ⟨rfl, hs1⟩ a hf
    have hs : St (muL [.blk b_p0_s 149 [.slice A_p0_s_code p0_s_code.length c_p0_s_code, .int .i64 p0_s_at, .int .i64 p0_s_seed]]) W w [.mat A3 n4 c5 28 2 vs7 ms489, .blk b_p0_s 149 [.slice A_p0_s_code p0_s_code.length c_p0_s_code, .int .i64 r650.2.1, .int .i64 r650.2.2]] := St.mutTail (La := [.mat A3 n4 c5 28 2 vs7 ms489]) (Lb := [.blk b_p0_s 149 [.slice A_p0_s_code p0_s_code.length c_p0_s_code, .int .i64 x487, .int .i64 x488]]) (hs.sel [1, 0] (by decide)) hs1
    clear hs1
    refine wpO_nil ?_
    refine wpL_block0 ?_
    refine wpL_seq ?_
    refine wpL_region ?_
    refine sY hf hs rfl rfl rfl (Y_eql rfl rfl rfl) ?_; clear hf; intro a hf
    refine sY hf hs rfl rfl rfl (Y_assign rfl rfl) ?_; clear hf; intro a hf
    refine wpO_nil ?_
    refine wpL_cond hf rfl (fun hb652 => ?_) (fun hb652 => ?_)
    · have hm := bif_t hm hb652
      refine wpL_drawM [.mat A3 n4 c5 28 2 vs7 ms489] [6] (by kernel_rfl) hs ?_; clear hs; intro w hs
      have hs0 : St (muL [.blk b_p0_s 149 [.slice A_p0_s_code p0_s_code.length c_p0_s_code, .int .i64 p0_s_at, .int .i64 p0_s_seed]]) W w [.mat A3 n4 c5 28 2 vs7 ms489] := hs.sel [0] (by decide)
      refine mYp (i := 0) rfl (by kernel_rfl) (by kernel_rfl) hf rfl rfl rfl (fun _ => Y_move rfl rfl) ?_; clear hf; intro a hf
      obtain ⟨q668, hi669, hm⟩ := bind_some hm
      obtain ⟨hi669a, hi669b, hi669q⟩ := idx_some hi669
      obtain ⟨A670, c671, hv672⟩ := hs.matRow (i := 0) rfl hi669q
      refine mYp (i := 1) rfl (by kernel_rfl) (by kernel_rfl) hf rfl rfl rfl (fun _ => Y_index rfl rfl rfl el40 ti28 (Rd.isAt (hs.rdV (i := 0) rfl) hv672) hi669a (ltn hn490 hi669b)) ?_; clear hf; intro a hf
      refine mY (i := 2) [[]] rfl (by kernel_rfl) (by kernel_rfl) hf hs0 rfl rfl rfl (Y_load_rd rfl rfl (fun w hs => hs.rdV (i := 0) rfl) (at1 hv672) ag28) ?_; clear hf; intro a hf
      refine mYp (i := 3) rfl (by kernel_rfl) (by kernel_rfl) hf rfl rfl rfl (fun _ => Y_move rfl rfl) ?_; clear hf; intro a hf
      refine mRun (i := 4) rfl (by kernel_rfl) ?_
      obtain ⟨r673, hc674, hm⟩ := bind_some hm
      refine sCall hf rfl rfl rfl rfl (cap := []) rfl rfl en206 (spec_l01DrawValue_ok F b_p0_s p0_s_code A_p0_s_code p0_s_code.length c_p0_s_code rfl r650.2.1 r650.2.2 _ _ hc674 (h_p0_s_code.pass hs [1]) (hs.sel [1] (by decide)).rebase) ?_; clear hf
      rintro _ w ⟨rfl, hs1⟩ a hf
      have hs : St (muL [.blk b_p0_s 149 [.slice A_p0_s_code p0_s_code.length c_p0_s_code, .int .i64 p0_s_at, .int .i64 p0_s_seed]]) W w [.mat A3 n4 c5 28 2 vs7 ms489, .blk b_p0_s 149 [.slice A_p0_s_code p0_s_code.length c_p0_s_code, .int .i64 r673.2.1, .int .i64 r673.2.2]] := St.mutTail (La := [.mat A3 n4 c5 28 2 vs7 ms489]) (Lb := [.blk b_p0_s 149 [.slice A_p0_s_code p0_s_code.length c_p0_s_code, .int .i64 r650.2.1, .int .i64 r650.2.2]]) (hs.sel [0, 1] (by decide)) hs1
      clear hs1
      have hs0 : St (muL [.blk b_p0_s 149 [.slice A_p0_s_code p0_s_code.length c_p0_s_code, .int .i64 p0_s_at, .int .i64 p0_s_seed]]) W w [.mat A3 n4 c5 28 2 vs7 ms489] := hs.sel [0] (by decide)
      refine wpO_nil ⟨Or.inr (fun _ => hs0), ?_⟩
      obtain ⟨q675, hi676, hm⟩ := bind_some hm
      obtain ⟨hi676a, hi676b, hi676q⟩ := idx_some hi676
      refine mYp (i := 5) rfl (by kernel_rfl) (by kernel_rfl) hf rfl rfl rfl (fun _ => Y_index rfl rfl rfl el28 ti2 (Rd.isAt (hs.rdRow (i := 0) rfl ⟨hi669q, hv672⟩) (at1 (ints_at hi676q))) hi676a hi676b) ?_; clear hf; intro a hf
      refine mRun (i := 6) rfl (by kernel_rfl) ?_
      obtain ⟨xs677, hu679, hm⟩ := bind_some hm
      obtain ⟨ms678, hu680, hm⟩ := bind_some hm
      refine sStoreM (i := 0) (k := 0) hf hs rfl rfl rfl rfl rfl rfl hi669q hv672 rfl hu679 hu680 ti2 ?_; clear hs; intro w hs
      obtain ⟨hq681, hv682⟩ := rowUpd hu679 hu680 hv672
      have hs : St (muL [.blk b_p0_s 149 [.slice A_p0_s_code p0_s_code.length c_p0_s_code, .int .i64 p0_s_at, .int .i64 p0_s_seed]]) W w [.mat A3 n4 c5 28 2 vs7 ms678, .blk b_p0_s 149 [.slice A_p0_s_code p0_s_code.length c_p0_s_code, .int .i64 r673.2.1, .int .i64 r673.2.2]] := hs
      refine wpO_nil ⟨Or.inl (by decide), ?_⟩
      refine mDone (by kernel_rfl) ?_
      clear hs0
      refine wpL_nil (Qb_normal ?_)
      refine wpL_seq ?_
      refine wpL_region ?_
      refine sY hf hs rfl rfl rfl (Y_move rfl rfl) ?_; clear hf; intro a hf
      refine sY hf hs rfl rfl rfl (Y_assign rfl rfl) ?_; clear hf; intro a hf
      refine wpO_nil ?_
      obtain rfl := Option.some.inj hm
      refine wpL_ret (ret_tmp rfl hf rfl ?_)
      exact ⟨_, rfl, A3, n4, c5, vs7, rfl, ((hn490).trans (upd_len hu680).symm), hs⟩
    · have hm := bif_f hm hb652
      refine wpL_seq ?_
      refine wpL_region ?_
      refine sY hf hs rfl rfl rfl (Y_eql rfl rfl rfl) ?_; clear hf; intro a hf
      refine sY hf hs rfl rfl rfl (Y_assign rfl rfl) ?_; clear hf; intro a hf
      refine wpO_nil ?_
      refine wpL_cond hf rfl (fun hb683 => ?_) (fun hb683 => ?_)
      · have hm := bif_t hm hb683
        refine wpL_seq ?_
        refine wpL_region ?_
        refine sY hf hs rfl rfl rfl (Y_move rfl rfl) ?_; clear hf; intro a hf
        refine sEmpty hf hs rfl rfl rfl rfl el28 ti2 ?_; clear hf hs; intro a w A684 hs hf
        have hs : St (muL [.blk b_p0_s 149 [.slice A_p0_s_code p0_s_code.length c_p0_s_code, .int .i64 p0_s_at, .int .i64 p0_s_seed]]) W w [.mat A3 n4 c5 28 2 vs7 ms489, .blk b_p0_s 149 [.slice A_p0_s_code p0_s_code.length c_p0_s_code, .int .i64 r650.2.1, .int .i64 r650.2.2], .row A684 0 0 2 1 (ints ([] : List Int))] := hs
        refine sOneM (j := 2) hf hs rfl rfl rfl rfl rfl rfl rfl el40 ti28 ?_; clear hf hs; intro a w A686 hs hf
        have hs : St (muL [.blk b_p0_s 149 [.slice A_p0_s_code p0_s_code.length c_p0_s_code, .int .i64 p0_s_at, .int .i64 p0_s_seed]]) W w [.mat A3 n4 c5 28 2 vs7 ms489, .blk b_p0_s 149 [.slice A_p0_s_code p0_s_code.length c_p0_s_code, .int .i64 r650.2.1, .int .i64 r650.2.2], .mat A686 1 1 28 2 ([Value.slice A684 ([] : List Int).length 0]) ([([] : List Int)])] := hs
        obtain ⟨ms690, ha691, hm⟩ := bind_some hm
        refine sAppendM (i := 0) (j := 2) hf hs rfl rfl rfl rfl rfl rfl hn490 rfl (by decide) rfl rfl (by decide) ha691 el40 ti28 rfl ?_; clear hf hs; intro a w A688 c689 hs hf
        have hs : St (muL [.blk b_p0_s 149 [.slice A_p0_s_code p0_s_code.length c_p0_s_code, .int .i64 p0_s_at, .int .i64 p0_s_seed]]) W w [.mat A688 ms690.length c689 28 2 (vs7 ++ ([Value.slice A684 ([] : List Int).length 0])) ms690, .blk b_p0_s 149 [.slice A_p0_s_code p0_s_code.length c_p0_s_code, .int .i64 r650.2.1, .int .i64 r650.2.2]] := hs
        obtain ⟨hq692, hv693⟩ := hs.appended (i := 0) rfl ha691
        refine sY hf hs rfl rfl rfl (Y_assign rfl rfl) ?_; clear hf; intro a hf
        refine wpO_nil ?_
        obtain rfl := Option.some.inj hm
        refine wpL_ret (Qb_ret (ret_tmp rfl hf rfl ?_))
        exact ⟨_, rfl, A688, ms690.length, c689, (vs7 ++ ([Value.slice A684 ([] : List Int).length 0])), rfl, rfl, hs⟩
      · have hm := bif_f hm hb683
        refine wpL_seq ?_
        refine wpL_region ?_
        refine sY hf hs rfl rfl rfl (Y_eql rfl rfl rfl) ?_; clear hf; intro a hf
        refine sY hf hs rfl rfl rfl (Y_assign rfl rfl) ?_; clear hf; intro a hf
        refine wpO_nil ?_
        refine wpL_cond hf rfl (fun hb694 => ?_) (fun hb694 => ?_)
        · have hm := bif_t hm hb694
          refine wpL_seq ?_
          refine wpL_region ?_
          refine sY hf hs rfl rfl rfl (Y_assign rfl rfl) ?_; clear hf; intro a hf
          refine wpO_nil ?_
          have hs : St (muL [.blk b_p0_s 149 [.slice A_p0_s_code p0_s_code.length c_p0_s_code, .int .i64 p0_s_at, .int .i64 p0_s_seed]]) W _ [.mat A3 n4 c5 28 2 vs7 ms489, .blk b_p0_s 149 [.slice A_p0_s_code p0_s_code.length c_p0_s_code, .int .i64 r650.2.1, .int .i64 r650.2.2], .mat none 0 0 28 2 [] ([] : List (List Int))] := hs.addNilM 28 2
          obtain rfl := Option.some.inj hm
          refine wpL_ret (Qb_ret (ret_tmp rfl hf rfl ?_))
          exact ⟨_, rfl, none, 0, 0, [], rfl, rfl, hs.sel [2, 1] (by decide)⟩
        · have hm := bif_f hm hb694
          refine wpL_skip ?_
          refine wpL_nil (Qb_normal ?_)
          refine wpL_seq ?_
          refine wpL_region ?_
          refine sY hf hs rfl rfl rfl (Y_move rfl rfl) ?_; clear hf; intro a hf
          refine sY hf hs rfl rfl rfl (Y_assign rfl rfl) ?_; clear hf; intro a hf
          refine wpO_nil ?_
          obtain rfl := Option.some.inj hm
          refine wpL_ret (ret_tmp rfl hf rfl ?_)
          exact ⟨_, rfl, A3, n4, c5, vs7, rfl, hn490, hs⟩

set_option maxRecDepth 100000 in
theorem spec_l02DrawSquare_ok (F : Nat) (b_p0_s : Nat) (p0_s_code : List Int) (A_p0_s_code : Option Addr) (n_p0_s_code c_p0_s_code : Nat) (hn_p0_s_code : n_p0_s_code = p0_s_code.length) (p0_s_at : Int) (p0_s_seed : Int) (r : (List (List Int)) × Int × Int) (W : World) (hm : spec_l02DrawSquare F p0_s_code p0_s_at p0_s_seed = some r) (h_p0_s_code : KR (muL [.blk b_p0_s 149 [.slice A_p0_s_code n_p0_s_code c_p0_s_code, .int .i64 p0_s_at, .int .i64 p0_s_seed]]) W A_p0_s_code (bytes p0_s_code)) (hst : St (muL [.blk b_p0_s 149 [.slice A_p0_s_code n_p0_s_code c_p0_s_code, .int .i64 p0_s_at, .int .i64 p0_s_seed]]) W W [.blk b_p0_s 149 [.slice A_p0_s_code n_p0_s_code c_p0_s_code, .int .i64 p0_s_at, .int .i64 p0_s_seed]]) :
    Calls Try.prog 94 [.pointer (some ⟨b_p0_s, 0, none⟩)].toArray W fun e w' => ∃ v, e = .returned v ∧ ∃ A10, ∃ n11, ∃ c12, ∃ vs14, v = .slice A10 n11 c12 ∧ n11 = r.1.length ∧ St (muL [.blk b_p0_s 149 [.slice A_p0_s_code n_p0_s_code c_p0_s_code, .int .i64 p0_s_at, .int .i64 p0_s_seed]]) W w' [.mat A10 n11 c12 28 2 vs14 r.1, .blk b_p0_s 149 [.slice A_p0_s_code n_p0_s_code c_p0_s_code, .int .i64 r.2.1, .int .i64 r.2.2]] := by
  subst hn_p0_s_code
  unfold spec_l02DrawSquare at hm
  refine Calls.enter (N := 11) Try.func94 rfl rfl rfl (fun a hf => ?_)
  have hs := hst
  obtain ⟨w, hw_⟩ : ∃ w, w = W := ⟨W, rfl⟩
  clear hw_ w
  refine wpL_seq ?_
  refine wpL_region ?_
  refine sY hf hs rfl rfl rfl (Y_assign rfl rfl) ?_; clear hf; intro a hf
  refine wpO_nil ?_
  refine wpL_seq ?_
  refine wpL_region ?_
  refine sY hf hs rfl rfl rfl (Y_move rfl rfl) ?_; clear hf; intro a hf
  obtain ⟨r1, hc2, hm⟩ := bind_some hm
  refine sCall hf rfl rfl rfl rfl (cap := []) rfl rfl en93 (spec_l01Next_ok F b_p0_s p0_s_code A_p0_s_code p0_s_code.length c_p0_s_code rfl p0_s_at p0_s_seed 5 _ _ hc2 (h_p0_s_code.pass hs [0]) (hs.sel [0] (by decide)).rebase) ?_; clear hf
  rintro _ w ⟨rfl, hs1⟩ a hf
  have hs : St (muL [.blk b_p0_s 149 [.slice A_p0_s_code p0_s_code.length c_p0_s_code, .int .i64 p0_s_at, .int .i64 p0_s_seed]]) W w [.blk b_p0_s 149 [.slice A_p0_s_code p0_s_code.length c_p0_s_code, .int .i64 r1.2.1, .int .i64 r1.2.2]] := St.mutTail (La := []) (Lb := [.blk b_p0_s 149 [.slice A_p0_s_code p0_s_code.length c_p0_s_code, .int .i64 p0_s_at, .int .i64 p0_s_seed]]) (hs.sel [0] (by decide)) hs1
  clear hs1
  refine sY hf hs rfl rfl rfl (Y_add rfl rfl rfl) ?_; clear hf; intro a hf
  refine sY hf hs rfl rfl rfl (Y_assign rfl rfl) ?_; clear hf; intro a hf
  refine wpO_nil ?_
  refine wpL_seq ?_
  refine wpL_region ?_
  refine sY hf hs rfl rfl rfl (Y_move rfl rfl) ?_; clear hf; intro a hf
  refine sY hf hs rfl rfl rfl (Y_move rfl rfl) ?_; clear hf; intro a hf
  refine sY hf hs rfl rfl rfl (Y_move rfl rfl) ?_; clear hf; intro a hf
  obtain ⟨r3, hc4, hm⟩ := bind_some hm
  refine sCall hf rfl rfl rfl rfl (cap := []) rfl rfl en161 (spec_l02DrawSize_ok F b_p0_s p0_s_code A_p0_s_code p0_s_code.length c_p0_s_code rfl r1.2.1 r1.2.2 (IntKind.i64.wrap (1 + r1.1)) (IntKind.i64.wrap (1 + r1.1)) _ _ hc4 (h_p0_s_code.pass hs [0]) (hs.sel [0] (by decide)).rebase) ?_; clear hf
  rintro _ w ⟨A5, n6, c7, vs9, rfl, hn8, hs1⟩ a hf
  have hs : St (muL [.blk b_p0_s 149 [.slice A_p0_s_code p0_s_code.length c_p0_s_code, .int .i64 p0_s_at, .int .i64 p0_s_seed]]) W w [.mat A5 n6 c7 28 2 vs9 r3.1, .blk b_p0_s 149 [.slice A_p0_s_code p0_s_code.length c_p0_s_code, .int .i64 r3.2.1, .int .i64 r3.2.2]] := St.mutTail (La := []) (Lb := [.blk b_p0_s 149 [.slice A_p0_s_code p0_s_code.length c_p0_s_code, .int .i64 r1.2.1, .int .i64 r1.2.2]]) (hs.sel [0] (by decide)) hs1
  clear hs1
  refine sY hf hs rfl rfl rfl (Y_assign rfl rfl) ?_; clear hf; intro a hf
  refine wpO_nil ?_
  obtain rfl := Option.some.inj hm
  refine wpL_ret (ret_tmp rfl hf rfl ?_)
  exact ⟨_, rfl, A5, n6, c7, vs9, rfl, hn8, hs⟩

set_option maxRecDepth 100000 in
theorem spec_l01In_ok (F : Nat) (p0_n : Int) (p1_low : Int) (p2_high : Int) (r : Bool) (W : World) (hm : spec_l01In F p0_n p1_low p2_high = some r) :
    Calls Try.prog 77 [.int .i64 p0_n, .int .i64 p1_low, .int .i64 p2_high].toArray W fun e w' => ∃ v, e = .returned v ∧ v = .bool r ∧ St [] W w' [] := by
  unfold spec_l01In at hm
  refine Calls.enter (N := 15) Try.func77 rfl rfl rfl (fun a hf => ?_)
  have hs := St.start W
  obtain ⟨w, hw_⟩ : ∃ w, w = W := ⟨W, rfl⟩
  clear hw_ w
  refine wpL_seq ?_
  refine wpL_region ?_
  refine sY hf hs rfl rfl rfl (Y_assign rfl rfl) ?_; clear hf; intro a hf
  refine wpO_nil ?_
  refine wpL_seq ?_
  obtain ⟨r3, hj4, hm⟩ := bind_some hm
  refine wpL_cut (fun a w => ∃ b2 : Bool, b2 = r3 ∧ Fr a 15 [(6, .bool b2)] ∧ St [] W w []) ?_ ?_
  · refine wpL_region ?_
    refine sY hf hs rfl rfl rfl (Y_move rfl rfl) ?_; clear hf; intro a hf
    refine sY hf hs rfl rfl rfl (Y_move rfl rfl) ?_; clear hf; intro a hf
    refine sY hf hs rfl rfl rfl (Y_geq rfl rfl rfl) ?_; clear hf; intro a hf
    refine sY hf hs rfl rfl rfl (Y_move rfl rfl) ?_; clear hf; intro a hf
    refine bsplit (decide (p1_low ≤ p0_n)) (fun hb5 => ?_) (fun hb5 => ?_)
    · have hj4 := bif_t hj4 hb5
      refine sYg hf hs rfl rfl rfl (congrArg (fun b => some (Value.bool b)) hb5) rfl rfl rfl (Y_move rfl rfl) ?_; clear hf; intro a hf
      refine sYg hf hs rfl rfl rfl (congrArg (fun b => some (Value.bool b)) hb5) rfl rfl rfl (Y_move rfl rfl) ?_; clear hf; intro a hf
      refine sYg hf hs rfl rfl rfl (congrArg (fun b => some (Value.bool b)) hb5) rfl rfl rfl (Y_leq rfl rfl rfl) ?_; clear hf; intro a hf
      refine sY hf hs rfl rfl rfl (Y_pickT rfl (congrArg (fun b => some (Value.bool b)) hb5) rfl) ?_; clear hf; intro a hf
      refine sY hf hs rfl rfl rfl (Y_assign rfl rfl) ?_; clear hf; intro a hf
      refine wpO_nil ?_
      refine wpL_nil (then_normal ?_)
      exact ⟨(decide (p0_n ≤ p2_high)), Option.some.inj hj4, (FrD.pick hf.none hf rfl), hs⟩
    · have hj4 := bif_f hj4 hb5
      refine sNo hf rfl rfl rfl (congrArg (fun b => some (Value.bool b)) hb5) rfl rfl rfl ?_; clear hf; intro a hf
      refine sNo hf rfl rfl rfl (congrArg (fun b => some (Value.bool b)) hb5) rfl rfl rfl ?_; clear hf; intro a hf
      refine sNo hf rfl rfl rfl (congrArg (fun b => some (Value.bool b)) hb5) rfl rfl rfl ?_; clear hf; intro a hf
      refine sY hf hs rfl rfl rfl (Y_pickF rfl (congrArg (fun b => some (Value.bool b)) hb5) rfl) ?_; clear hf; intro a hf
      refine sY hf hs rfl rfl rfl (Y_assign rfl rfl) ?_; clear hf; intro a hf
      refine wpO_nil ?_
      refine wpL_nil (then_normal ?_)
      exact ⟨false, Option.some.inj hj4, (FrD.pick hf.none hf rfl), hs⟩
  · rintro a w ⟨b2, hr_, hf, hs⟩
    subst hr_
    try dsimp only at hm
    obtain rfl := Option.some.inj hm
    refine wpL_ret (ret_tmp rfl hf rfl ?_)
    exact ⟨_, rfl, rfl, hs⟩

set_option maxRecDepth 100000 in
theorem spec_l01Finite_ok (F : Nat) (p0_a : Int) (r : Bool) (W : World) (hm : spec_l01Finite F p0_a = some r) :
    Calls Try.prog 144 [.int .i64 p0_a].toArray W fun e w' => ∃ v, e = .returned v ∧ v = .bool r ∧ St [] W w' [] := by
  unfold spec_l01Finite at hm
  refine Calls.enter (N := 5) Try.func144 rfl rfl rfl (fun a hf => ?_)
  have hs := St.start W
  obtain ⟨w, hw_⟩ : ∃ w, w = W := ⟨W, rfl⟩
  clear hw_ w
  refine wpL_seq ?_
  refine wpL_region ?_
  refine sY hf hs rfl rfl rfl (Y_assign rfl rfl) ?_; clear hf; intro a hf
  refine wpO_nil ?_
  refine wpL_seq ?_
  refine wpL_region ?_
  refine sY hf hs rfl rfl rfl (Y_move rfl rfl) ?_; clear hf; intro a hf
  obtain ⟨r1, hc2, hm⟩ := bind_some hm
  refine sCall hf rfl rfl rfl rfl (cap := []) rfl rfl en77 (spec_l01In_ok F p0_a (-1000000) 1000000 _ _ hc2) ?_; clear hf
  rintro _ w ⟨rfl, hs1⟩ a hf
  have hs : St [] W w [] := hs.ext hs1.below
  clear hs1
  refine sY hf hs rfl rfl rfl (Y_assign rfl rfl) ?_; clear hf; intro a hf
  refine wpO_nil ?_
  obtain rfl := Option.some.inj hm
  refine wpL_ret (ret_tmp rfl hf rfl ?_)
  exact ⟨_, rfl, rfl, hs⟩

set_option maxRecDepth 100000 in
theorem spec_IsValue_ok (F : Nat) (p0_a : Int) (r : Bool) (W : World) (hm : spec_IsValue F p0_a = some r) :
    Calls Try.prog 168 [.int .i64 p0_a].toArray W fun e w' => ∃ v, e = .returned v ∧ v = .bool r ∧ St [] W w' [] := by
  unfold spec_IsValue at hm
  refine Calls.enter (N := 9) Try.func168 rfl rfl rfl (fun a hf => ?_)
  have hs := St.start W
  obtain ⟨w, hw_⟩ : ∃ w, w = W := ⟨W, rfl⟩
  clear hw_ w
  refine wpL_seq ?_
  refine wpL_region ?_
  refine sY hf hs rfl rfl rfl (Y_assign rfl rfl) ?_; clear hf; intro a hf
  refine wpO_nil ?_
  refine wpL_seq ?_
  obtain ⟨r5, hj6, hm⟩ := bind_some hm
  refine wpL_cut (fun a w => ∃ b4 : Bool, b4 = r5 ∧ Fr a 9 [(2, .bool b4)] ∧ St [] W w []) ?_ ?_
  · refine wpL_region ?_
    refine sY hf hs rfl rfl rfl (Y_move rfl rfl) ?_; clear hf; intro a hf
    refine sY hf hs rfl rfl rfl (Y_eql rfl rfl rfl) ?_; clear hf; intro a hf
    refine sY hf hs rfl rfl rfl (Y_move rfl rfl) ?_; clear hf; intro a hf
    refine bsplit (p0_a == (-1000000000000000)) (fun hb7 => ?_) (fun hb7 => ?_)
    · have hj6 := bif_t hj6 hb7
      refine sNo hf rfl rfl rfl (congrArg (fun b => some (Value.bool b)) hb7) rfl rfl rfl ?_; clear hf; intro a hf
      refine sNo hf rfl rfl rfl (congrArg (fun b => some (Value.bool b)) hb7) rfl rfl rfl ?_; clear hf; intro a hf
      refine sY hf hs rfl rfl rfl (Y_pickT rfl (congrArg (fun b => some (Value.bool b)) hb7) rfl) ?_; clear hf; intro a hf
      refine sY hf hs rfl rfl rfl (Y_assign rfl rfl) ?_; clear hf; intro a hf
      refine wpO_nil ?_
      refine wpL_nil (then_normal ?_)
      exact ⟨true, Option.some.inj hj6, (FrD.pick hf.none hf rfl), hs⟩
    · have hj6 := bif_f hj6 hb7
      refine sYg hf hs rfl rfl rfl (congrArg (fun b => some (Value.bool b)) hb7) rfl rfl rfl (Y_move rfl rfl) ?_; clear hf; intro a hf
      obtain ⟨r8, hc9, hj6⟩ := bind_some hj6
      refine sCallg hf rfl rfl rfl (congrArg (fun b => some (Value.bool b)) hb7) rfl rfl rfl rfl (cap := []) rfl rfl en144 (spec_l01Finite_ok F p0_a _ _ hc9) ?_; clear hf
      rintro _ w ⟨rfl, hs1⟩ a hf
      have hs : St [] W w [] := hs.ext hs1.below
      clear hs1
      refine sY hf hs rfl rfl rfl (Y_pickF rfl (congrArg (fun b => some (Value.bool b)) hb7) rfl) ?_; clear hf; intro a hf
      refine sY hf hs rfl rfl rfl (Y_assign rfl rfl) ?_; clear hf; intro a hf
      refine wpO_nil ?_
      refine wpL_nil (then_normal ?_)
      exact ⟨r8, Option.some.inj hj6, (FrD.pick hf.none hf rfl), hs⟩
  · rintro a w ⟨b4, hr_, hf, hs⟩
    subst hr_
    try dsimp only at hm
    obtain rfl := Option.some.inj hm
    refine wpL_ret (ret_tmp rfl hf rfl ?_)
    exact ⟨_, rfl, rfl, hs⟩

set_option maxRecDepth 100000 in
theorem spec_l01All_ok (F : Nat) (p0_list : List Int) (A_p0_list_1 : Option Addr) (n_p0_list_1 c_p0_list_1 : Nat) (hn_p0_list_1 : n_p0_list_1 = p0_list.length) (p1_finite : Bool) (r : Bool) (W : World) (hm : spec_l01All F p0_list p1_finite = some r) (h_p0_list_1 : Rd W A_p0_list_1 (ints p0_list)) :
    Calls Try.prog 222 [.slice A_p0_list_1 n_p0_list_1 c_p0_list_1, .bool p1_finite].toArray W fun e w' => ∃ v, e = .returned v ∧ v = .bool r ∧ St [] W w' [] := by
  subst hn_p0_list_1
  unfold spec_l01All at hm
  refine Calls.enter (N := 28) Try.func222 rfl rfl rfl (fun a hf => ?_)
  have hs := St.start W
  obtain ⟨w, hw_⟩ : ∃ w, w = W := ⟨W, rfl⟩
  clear hw_ w
  refine wpL_seq ?_
  refine wpL_region ?_
  refine sY hf hs rfl rfl rfl (Y_assign rfl rfl) ?_; clear hf; intro a hf
  refine wpO_nil ?_
  refine wpL_seq ?_
  refine wpL_seq ?_
  refine wpL_region ?_
  refine sY hf hs rfl rfl rfl (Y_assign rfl rfl) ?_; clear hf; intro a hf
  refine wpO_nil ?_
  obtain ⟨r66, hl67, hm⟩ := bind_some hm
  refine wpL_block (fun a w => Sum.inr () = r66 ∧ Fr a 28 [] ∧ St [] W w []) ?_ ?_
  · refine wpL_loop (fun n a w => ∃ x44 : Int, spec_l01All_L1 F p0_list p1_finite n x44 = some r66 ∧ Fr a 28 [(0, .slice A_p0_list_1 p0_list.length c_p0_list_1), (1, .bool p1_finite), (5, .int .i64 x44)] ∧ St [] W w []) F ?_ ?_ ?_
    · exact ⟨0, hl67, (FrD.pick (FrD.pick (FrD.pick hf.none hf rfl) hf rfl) hf rfl), hs⟩
    · rintro a w ⟨x44, h0_, -, -⟩; simp [spec_l01All_L1] at h0_
    · rintro n69 a w ⟨x44, hm68, hf, hs⟩
      rw [spec_l01All_L1] at hm68
      refine wpL_seq ?_
      refine wpL_seq ?_
      refine wpL_region ?_
      refine sY hf hs rfl rfl rfl (Y_move rfl rfl) ?_; clear hf; intro a hf
      refine sY hf hs rfl rfl rfl (Y_move rfl rfl) ?_; clear hf; intro a hf
      refine sY hf hs rfl rfl rfl (Y_lenH rfl rfl el28 rfl) ?_; clear hf; intro a hf
      refine sY hf hs rfl rfl rfl (Y_lss rfl rfl rfl) ?_; clear hf; intro a hf
      refine wpO_nil ?_
      refine wpL_cond hf rfl (fun hb70 => ?_) (fun hb70 => ?_)
      · have hm68 := bif_t hm68 hb70
        refine wpL_skip ?_
        refine wpL_seq ?_
        refine wpL_block0 ?_
        refine wpL_seq ?_
        obtain ⟨r80, hj81, hm68⟩ := bind_some hm68
        refine wpL_cut (fun a w => ∃ b79 : Bool, b79 = r80 ∧ Fr a 28 [(0, .slice A_p0_list_1 p0_list.length c_p0_list_1), (1, .bool p1_finite), (5, .int .i64 x44), (27, .bool b79)] ∧ St [] W w []) ?_ ?_
        · refine wpL_region ?_
          refine sY hf hs rfl rfl rfl (Y_move rfl rfl) ?_; clear hf; intro a hf
          refine sY hf hs rfl rfl rfl (Y_move rfl rfl) ?_; clear hf; intro a hf
          obtain ⟨q82, hi83, hj81⟩ := bind_some hj81
          obtain ⟨hi83a, hi83b, hi83q⟩ := idx_some hi83
          refine sY hf hs rfl rfl rfl (Y_index rfl rfl rfl el28 ti2 (Rd.isAt (h_p0_list_1.at hs) (at1 (ints_at hi83q))) hi83a hi83b) ?_; clear hf; intro a hf
          refine sY hf hs rfl rfl rfl (Y_load_rd rfl rfl (fun w hs => h_p0_list_1.at hs) (at1 (ints_at hi83q)) ag2) ?_; clear hf; intro a hf
          obtain ⟨r84, hc85, hj81⟩ := bind_some hj81
          refine sCall hf rfl rfl rfl rfl (cap := []) rfl rfl en168 (spec_IsValue_ok F q82 _ _ hc85) ?_; clear hf
          rintro _ w ⟨rfl, hs1⟩ a hf
          have hs : St [] W w [] := hs.ext hs1.below
          clear hs1
          refine sY hf hs rfl rfl rfl (Y_not rfl rfl) ?_; clear hf; intro a hf
          refine sY hf hs rfl rfl rfl (Y_move rfl rfl) ?_; clear hf; intro a hf
          refine bsplit (!r84) (fun hb86 => ?_) (fun hb86 => ?_)
          · have hj81 := bif_t hj81 hb86
            refine sNo hf rfl rfl rfl (congrArg (fun b => some (Value.bool b)) hb86) rfl rfl rfl ?_; clear hf; intro a hf
            refine sNo hf rfl rfl rfl (congrArg (fun b => some (Value.bool b)) hb86) rfl rfl rfl ?_; clear hf; intro a hf
            refine sNoU hf rfl rfl rfl rfl rfl rfl rfl ?_; clear hf; intro a hf
            refine sNoU hf rfl rfl rfl rfl rfl rfl rfl ?_; clear hf; intro a hf
            refine sNoU hf rfl rfl rfl rfl rfl rfl rfl ?_; clear hf; intro a hf
            refine sNoU hf rfl rfl rfl rfl rfl rfl rfl ?_; clear hf; intro a hf
            refine sNoU hf rfl rfl rfl rfl rfl rfl rfl ?_; clear hf; intro a hf
            refine sNo hf rfl rfl rfl (congrArg (fun b => some (Value.bool b)) hb86) rfl rfl rfl ?_; clear hf; intro a hf
            refine sY hf hs rfl rfl rfl (Y_pickT rfl (congrArg (fun b => some (Value.bool b)) hb86) rfl) ?_; clear hf; intro a hf
            refine wpO_nil ?_
            refine wpL_nil (then_normal ?_)
            exact ⟨true, Option.some.inj hj81, (FrD.pick (FrD.pick (FrD.pick (FrD.pick hf.none hf rfl) hf rfl) hf rfl) hf rfl), hs⟩
          · have hj81 := bif_f hj81 hb86
            refine sYg hf hs rfl rfl rfl (congrArg (fun b => some (Value.bool b)) hb86) rfl rfl rfl (Y_move rfl rfl) ?_; clear hf; intro a hf
            refine sYg hf hs rfl rfl rfl (congrArg (fun b => some (Value.bool b)) hb86) rfl rfl rfl (Y_move rfl rfl) ?_; clear hf; intro a hf
            refine bsplit p1_finite (fun hb87 => ?_) (fun hb87 => ?_)
            · have hj81 := bif_t hj81 hb87
              refine sYg hf hs rfl rfl rfl (congrArg (fun b => some (Value.bool b)) hb87) rfl rfl rfl (Y_move rfl rfl) ?_; clear hf; intro a hf
              refine sYg hf hs rfl rfl rfl (congrArg (fun b => some (Value.bool b)) hb87) rfl rfl rfl (Y_move rfl rfl) ?_; clear hf; intro a hf
              obtain ⟨q88, hi89, hj81⟩ := bind_some hj81
              obtain ⟨hi89a, hi89b, hi89q⟩ := idx_some hi89
              refine sYg hf hs rfl rfl rfl (congrArg (fun b => some (Value.bool b)) hb87) rfl rfl rfl (Y_index rfl rfl rfl el28 ti2 (Rd.isAt (h_p0_list_1.at hs) (at1 (ints_at hi89q))) hi89a hi89b) ?_; clear hf; intro a hf
              refine sYg hf hs rfl rfl rfl (congrArg (fun b => some (Value.bool b)) hb87) rfl rfl rfl (Y_load_rd rfl rfl (fun w hs => h_p0_list_1.at hs) (at1 (ints_at hi89q)) ag2) ?_; clear hf; intro a hf
              refine sYg hf hs rfl rfl rfl (congrArg (fun b => some (Value.bool b)) hb87) rfl rfl rfl (Y_eql rfl rfl rfl) ?_; clear hf; intro a hf
              refine sYg hf hs rfl rfl rfl (congrArg (fun b => some (Value.bool b)) hb86) rfl rfl rfl (Y_pickT rfl (congrArg (fun b => some (Value.bool b)) hb87) rfl) ?_; clear hf; intro a hf
              refine sY hf hs rfl rfl rfl (Y_pickF rfl (congrArg (fun b => some (Value.bool b)) hb86) rfl) ?_; clear hf; intro a hf
              refine wpO_nil ?_
              refine wpL_nil (then_normal ?_)
              exact ⟨(q88 == (-1000000000000000)), Option.some.inj hj81, (FrD.pick (FrD.pick (FrD.pick (FrD.pick hf.none hf rfl) hf rfl) hf rfl) hf rfl), hs⟩
            · have hj81 := bif_f hj81 hb87
              refine sNo hf rfl rfl rfl (congrArg (fun b => some (Value.bool b)) hb87) rfl rfl rfl ?_; clear hf; intro a hf
              refine sNo hf rfl rfl rfl (congrArg (fun b => some (Value.bool b)) hb87) rfl rfl rfl ?_; clear hf; intro a hf
              refine sNo hf rfl rfl rfl (congrArg (fun b => some (Value.bool b)) hb87) rfl rfl rfl ?_; clear hf; intro a hf
              refine sNo hf rfl rfl rfl (congrArg (fun b => some (Value.bool b)) hb87) rfl rfl rfl ?_; clear hf; intro a hf
              refine sNo hf rfl rfl rfl (congrArg (fun b => some (Value.bool b)) hb87) rfl rfl rfl ?_; clear hf; intro a hf
              refine sYg hf hs rfl rfl rfl (congrArg (fun b => some (Value.bool b)) hb86) rfl rfl rfl (Y_pickF rfl (congrArg (fun b => some (Value.bool b)) hb87) rfl) ?_; clear hf; intro a hf
              refine sY hf hs rfl rfl rfl (Y_pickF rfl (congrArg (fun b => some (Value.bool b)) hb86) rfl) ?_; clear hf; intro a hf
              refine wpO_nil ?_
              refine wpL_nil (then_normal ?_)
              exact ⟨false, Option.some.inj hj81, (FrD.pick (FrD.pick (FrD.pick (FrD.pick hf.none hf rfl) hf rfl) hf rfl) hf rfl), hs⟩
        · rintro a w ⟨b79, hr_, hf, hs⟩
          subst hr_
          try dsimp only at hm68
          refine wpL_cond hf rfl (fun hb90 => ?_) (fun hb90 => ?_)
          · have hm68 := bif_t hm68 hb90
            refine wpL_seq ?_
            refine wpL_region ?_
            refine sY hf hs rfl rfl rfl (Y_assign rfl rfl) ?_; clear hf; intro a hf
            refine wpO_nil ?_
            obtain rfl := Option.some.inj hm68
            try dsimp only at hm
            obtain rfl := Option.some.inj hm
            refine wpL_ret (Qb_ret (Ql_ret (Qb_ret (ret_tmp rfl hf rfl ?_))))
            exact ⟨_, rfl, rfl, hs⟩
          · have hm68 := bif_f hm68 hb90
            refine wpL_skip ?_
            refine wpL_nil (Qb_normal ?_)
            refine wpL_region ?_
            refine sY hf hs rfl rfl rfl (Y_move rfl rfl) ?_; clear hf; intro a hf
            refine sY hf hs rfl rfl rfl (Y_add rfl rfl rfl) ?_; clear hf; intro a hf
            refine sY hf hs rfl rfl rfl (Y_assign rfl rfl) ?_; clear hf; intro a hf
            refine wpO_nil ?_
            refine wpL_nil (Ql_normal ?_)
            exact ⟨(IntKind.i64.wrap (x44 + 1)), hm68, (FrD.pick (FrD.pick (FrD.pick hf.none hf rfl) hf rfl) hf rfl), hs⟩
      · have hm68 := bif_f hm68 hb70
        refine wpL_exit (Ql_exit (Qb_exit ?_))
        exact ⟨Option.some.inj hm68, hf.none, hs⟩
  · rintro a w ⟨hr_, hf, hs⟩
    subst hr_
    try dsimp only at hm
    refine wpL_seq ?_
    refine wpL_region ?_
    refine sY hf hs rfl rfl rfl (Y_assign rfl rfl) ?_; clear hf; intro a hf
    refine wpO_nil ?_
    obtain rfl := Option.some.inj hm
    refine wpL_ret (ret_tmp rfl hf rfl ?_)
    exact ⟨_, rfl, rfl, hs⟩

set_option maxRecDepth 100000 in
theorem spec_l02Vector_ok (F : Nat) (p0_x : List Int) (A_p0_x_1 : Option Addr) (n_p0_x_1 c_p0_x_1 : Nat) (hn_p0_x_1 : n_p0_x_1 = p0_x.length) (r : Bool) (W : World) (hm : spec_l02Vector F p0_x = some r) (h_p0_x_1 : Rd W A_p0_x_1 (ints p0_x)) :
    Calls Try.prog 204 [.slice A_p0_x_1 n_p0_x_1 c_p0_x_1].toArray W fun e w' => ∃ v, e = .returned v ∧ v = .bool r ∧ St [] W w' [] := by
  subst hn_p0_x_1
  unfold spec_l02Vector at hm
  refine Calls.enter (N := 10) Try.func204 rfl rfl rfl (fun a hf => ?_)
  have hs := St.start W
  obtain ⟨w, hw_⟩ : ∃ w, w = W := ⟨W, rfl⟩
  clear hw_ w
  refine wpL_seq ?_
  refine wpL_region ?_
  refine sY hf hs rfl rfl rfl (Y_assign rfl rfl) ?_; clear hf; intro a hf
  refine wpO_nil ?_
  refine wpL_seq ?_
  obtain ⟨r7, hj8, hm⟩ := bind_some hm
  refine wpL_cut (fun a w => ∃ b6 : Bool, b6 = r7 ∧ Fr a 10 [(2, .bool b6)] ∧ St [] W w []) ?_ ?_
  · refine wpL_region ?_
    refine sY hf hs rfl rfl rfl (Y_move rfl rfl) ?_; clear hf; intro a hf
    refine sY hf hs rfl rfl rfl (Y_lenH rfl rfl el28 rfl) ?_; clear hf; intro a hf
    obtain ⟨r9, hc10, hj8⟩ := bind_some hj8
    refine sCall hf rfl rfl rfl rfl (cap := []) rfl rfl en77 (spec_l01In_ok F (p0_x.length : Int) 1 10 _ _ hc10) ?_; clear hf
    rintro _ w ⟨rfl, hs1⟩ a hf
    have hs : St [] W w [] := hs.ext hs1.below
    clear hs1
    refine sY hf hs rfl rfl rfl (Y_move rfl rfl) ?_; clear hf; intro a hf
    refine bsplit r9 (fun hb11 => ?_) (fun hb11 => ?_)
    · have hj8 := bif_t hj8 hb11
      refine sYg hf hs rfl rfl rfl (congrArg (fun b => some (Value.bool b)) hb11) rfl rfl rfl (Y_move rfl rfl) ?_; clear hf; intro a hf
      obtain ⟨r12, hc13, hj8⟩ := bind_some hj8
      refine sCallg hf rfl rfl rfl (congrArg (fun b => some (Value.bool b)) hb11) rfl rfl rfl rfl (cap := []) rfl rfl en222 (spec_l01All_ok F p0_x A_p0_x_1 p0_x.length c_p0_x_1 rfl false _ _ hc13 (h_p0_x_1.at hs)) ?_; clear hf
      rintro _ w ⟨rfl, hs1⟩ a hf
      have hs : St [] W w [] := hs.ext hs1.below
      clear hs1
      refine sY hf hs rfl rfl rfl (Y_pickT rfl (congrArg (fun b => some (Value.bool b)) hb11) rfl) ?_; clear hf; intro a hf
      refine sY hf hs rfl rfl rfl (Y_assign rfl rfl) ?_; clear hf; intro a hf
      refine wpO_nil ?_
      refine wpL_nil (then_normal ?_)
      exact ⟨r12, Option.some.inj hj8, (FrD.pick hf.none hf rfl), hs⟩
    · have hj8 := bif_f hj8 hb11
      refine sNo hf rfl rfl rfl (congrArg (fun b => some (Value.bool b)) hb11) rfl rfl rfl ?_; clear hf; intro a hf
      refine sNo hf rfl rfl rfl (congrArg (fun b => some (Value.bool b)) hb11) rfl rfl rfl ?_; clear hf; intro a hf
      refine sY hf hs rfl rfl rfl (Y_pickF rfl (congrArg (fun b => some (Value.bool b)) hb11) rfl) ?_; clear hf; intro a hf
      refine sY hf hs rfl rfl rfl (Y_assign rfl rfl) ?_; clear hf; intro a hf
      refine wpO_nil ?_
      refine wpL_nil (then_normal ?_)
      exact ⟨false, Option.some.inj hj8, (FrD.pick hf.none hf rfl), hs⟩
  · rintro a w ⟨b6, hr_, hf, hs⟩
    subst hr_
    try dsimp only at hm
    obtain rfl := Option.some.inj hm
    refine wpL_ret (ret_tmp rfl hf rfl ?_)
    exact ⟨_, rfl, rfl, hs⟩

set_option maxRecDepth 100000 in
theorem spec_IsMatrix_ok (F : Nat) (p0_a : List (List Int)) (A_p0_a_1 : Option Addr) (n_p0_a_1 c_p0_a_1 : Nat) (hn_p0_a_1 : n_p0_a_1 = p0_a.length) (r : Bool) (W : World) (hm : spec_IsMatrix F p0_a = some r) (h_p0_a_1 : RdM W A_p0_a_1 p0_a) :
    Calls Try.prog 149 [.slice A_p0_a_1 n_p0_a_1 c_p0_a_1].toArray W fun e w' => ∃ v, e = .returned v ∧ v = .bool r ∧ St [] W w' [] := by
  subst hn_p0_a_1
  unfold spec_IsMatrix at hm
  refine Calls.enter (N := 36) Try.func149 rfl rfl rfl (fun a hf => ?_)
  have hs := St.start W
  obtain ⟨w, hw_⟩ : ∃ w, w = W := ⟨W, rfl⟩
  clear hw_ w
  refine wpL_seq ?_
  refine wpL_region ?_
  refine sY hf hs rfl rfl rfl (Y_assign rfl rfl) ?_; clear hf; intro a hf
  refine wpO_nil ?_
  refine wpL_seq ?_
  refine wpL_seq ?_
  obtain ⟨r3, hj4, hm⟩ := bind_some hm
  refine wpL_cut (fun a w => ∃ b2 : Bool, b2 = r3 ∧ Fr a 36 [(0, .slice A_p0_a_1 p0_a.length c_p0_a_1), (11, .bool b2)] ∧ St [] W w []) ?_ ?_
  · refine wpL_region ?_
    refine sY hf hs rfl rfl rfl (Y_move rfl rfl) ?_; clear hf; intro a hf
    refine sY hf hs rfl rfl rfl (Y_lenH rfl rfl el40 rfl) ?_; clear hf; intro a hf
    refine sY hf hs rfl rfl rfl (Y_lss rfl rfl rfl) ?_; clear hf; intro a hf
    refine sY hf hs rfl rfl rfl (Y_move rfl rfl) ?_; clear hf; intro a hf
    refine bsplit (decide ((p0_a.length : Int) < 1)) (fun hb5 => ?_) (fun hb5 => ?_)
    · have hj4 := bif_t hj4 hb5
      refine sNo hf rfl rfl rfl (congrArg (fun b => some (Value.bool b)) hb5) rfl rfl rfl ?_; clear hf; intro a hf
      refine sNo hf rfl rfl rfl (congrArg (fun b => some (Value.bool b)) hb5) rfl rfl rfl ?_; clear hf; intro a hf
      refine sNo hf rfl rfl rfl (congrArg (fun b => some (Value.bool b)) hb5) rfl rfl rfl ?_; clear hf; intro a hf
      refine sY hf hs rfl rfl rfl (Y_pickT rfl (congrArg (fun b => some (Value.bool b)) hb5) rfl) ?_; clear hf; intro a hf
      refine wpO_nil ?_
      refine wpL_nil (then_normal ?_)
      exact ⟨true, Option.some.inj hj4, (FrD.pick (FrD.pick hf.none hf rfl) hf rfl), hs⟩
    · have hj4 := bif_f hj4 hb5
      refine sYg hf hs rfl rfl rfl (congrArg (fun b => some (Value.bool b)) hb5) rfl rfl rfl (Y_move rfl rfl) ?_; clear hf; intro a hf
      refine sYg hf hs rfl rfl rfl (congrArg (fun b => some (Value.bool b)) hb5) rfl rfl rfl (Y_lenH rfl rfl el40 rfl) ?_; clear hf; intro a hf
      refine sYg hf hs rfl rfl rfl (congrArg (fun b => some (Value.bool b)) hb5) rfl rfl rfl (Y_gtr rfl rfl rfl) ?_; clear hf; intro a hf
      refine sY hf hs rfl rfl rfl (Y_pickF rfl (congrArg (fun b => some (Value.bool b)) hb5) rfl) ?_; clear hf; intro a hf
      refine wpO_nil ?_
      refine wpL_nil (then_normal ?_)
      exact ⟨(decide (10 < (p0_a.length : Int))), Option.some.inj hj4, (FrD.pick (FrD.pick hf.none hf rfl) hf rfl), hs⟩
  · rintro a w ⟨b2, hr_, hf, hs⟩
    subst hr_
    try dsimp only at hm
    refine wpL_cond hf rfl (fun hb6 => ?_) (fun hb6 => ?_)
    · have hm := bif_t hm hb6
      refine wpL_seq ?_
      refine wpL_region ?_
      refine sY hf hs rfl rfl rfl (Y_assign rfl rfl) ?_; clear hf; intro a hf
      refine wpO_nil ?_
      obtain rfl := Option.some.inj hm
      refine wpL_ret (ret_tmp rfl hf rfl ?_)
      exact ⟨_, rfl, rfl, hs⟩
    · have hm := bif_f hm hb6
      refine wpL_skip ?_
      refine wpL_seq ?_
      refine wpL_seq ?_
      refine wpL_region ?_
      refine sY hf hs rfl rfl rfl (Y_assign rfl rfl) ?_; clear hf; intro a hf
      refine wpO_nil ?_
      obtain ⟨r204, hl205, hm⟩ := bind_some hm
      refine wpL_block (fun a w => Sum.inr () = r204 ∧ Fr a 36 [] ∧ St [] W w []) ?_ ?_
      · refine wpL_loop (fun n a w => ∃ x138 : Int, spec_IsMatrix_L1 F p0_a n x138 = some r204 ∧ Fr a 36 [(0, .slice A_p0_a_1 p0_a.length c_p0_a_1), (3, .int .i64 x138)] ∧ St [] W w []) F ?_ ?_ ?_
        · exact ⟨0, hl205, (FrD.pick (FrD.pick hf.none hf rfl) hf rfl), hs⟩
        · rintro a w ⟨x138, h0_, -, -⟩; simp [spec_IsMatrix_L1] at h0_
        · rintro n207 a w ⟨x138, hm206, hf, hs⟩
          rw [spec_IsMatrix_L1] at hm206
          refine wpL_seq ?_
          refine wpL_seq ?_
          refine wpL_region ?_
          refine sY hf hs rfl rfl rfl (Y_move rfl rfl) ?_; clear hf; intro a hf
          refine sY hf hs rfl rfl rfl (Y_move rfl rfl) ?_; clear hf; intro a hf
          refine sY hf hs rfl rfl rfl (Y_lenH rfl rfl el40 rfl) ?_; clear hf; intro a hf
          refine sY hf hs rfl rfl rfl (Y_lss rfl rfl rfl) ?_; clear hf; intro a hf
          refine wpO_nil ?_
          refine wpL_cond hf rfl (fun hb208 => ?_) (fun hb208 => ?_)
          · have hm206 := bif_t hm206 hb208
            refine wpL_skip ?_
            refine wpL_seq ?_
            refine wpL_block0 ?_
            refine wpL_seq ?_
            obtain ⟨r240, hj241, hm206⟩ := bind_some hm206
            refine wpL_cut (fun a w => ∃ b239 : Bool, b239 = r240 ∧ Fr a 36 [(0, .slice A_p0_a_1 p0_a.length c_p0_a_1), (3, .int .i64 x138), (35, .bool b239)] ∧ St [] W w []) ?_ ?_
            · refine wpL_draw (by kernel_rfl) (by kernel_rfl) hs ?_
              refine qY hf rfl rfl rfl (Y_move rfl rfl) ?_; clear hf; intro a hf
              refine qY hf rfl rfl rfl (Y_move rfl rfl) ?_; clear hf; intro a hf
              obtain ⟨q242, hi243, hj241⟩ := bind_some hj241
              obtain ⟨hi243a, hi243b, hi243q⟩ := idx_some hi243
              obtain ⟨vs244, hv245, hr246⟩ := id h_p0_a_1
              obtain ⟨A247, c248, hv249, hR250⟩ := hr246 _ _ hi243q
              refine qY hf rfl rfl rfl (Y_index rfl rfl rfl el40 ti28 (Rd.isAt hv245 hv249) hi243a hi243b) ?_; clear hf; intro a hf
              refine qY hf rfl rfl rfl (Y_load_rd rfl rfl (fun w hs => hv245.at hs) (at1 hv249) ag28) ?_; clear hf; intro a hf
              obtain ⟨r251, hc252, hj241⟩ := bind_some hj241
              refine qCall hf rfl rfl rfl rfl (cap := []) rfl rfl en204 (v := .bool r251) (fun w hs => Calls.scal (spec_l02Vector_ok F q242 A247 q242.length c248 rfl _ _ hc252 (hR250.at hs))) ?_; clear hf; intro a hf
              refine qY hf rfl rfl rfl (Y_not rfl rfl) ?_; clear hf; intro a hf
              refine qY hf rfl rfl rfl (Y_move rfl rfl) ?_; clear hf; intro a hf
              refine bsplit (!r251) (fun hb253 => ?_) (fun hb253 => ?_)
              · have hj241 := bif_t hj241 hb253
                refine qNo hf rfl rfl rfl (congrArg (fun b => some (Value.bool b)) hb253) rfl rfl rfl ?_; clear hf; intro a hf
                refine qNo hf rfl rfl rfl (congrArg (fun b => some (Value.bool b)) hb253) rfl rfl rfl ?_; clear hf; intro a hf
                refine qNo hf rfl rfl rfl (congrArg (fun b => some (Value.bool b)) hb253) rfl rfl rfl ?_; clear hf; intro a hf
                refine qNo hf rfl rfl rfl (congrArg (fun b => some (Value.bool b)) hb253) rfl rfl rfl ?_; clear hf; intro a hf
                refine qNo hf rfl rfl rfl (congrArg (fun b => some (Value.bool b)) hb253) rfl rfl rfl ?_; clear hf; intro a hf
                refine qNo hf rfl rfl rfl (congrArg (fun b => some (Value.bool b)) hb253) rfl rfl rfl ?_; clear hf; intro a hf
                refine qNo hf rfl rfl rfl (congrArg (fun b => some (Value.bool b)) hb253) rfl rfl rfl ?_; clear hf; intro a hf
                refine qNo hf rfl rfl rfl (congrArg (fun b => some (Value.bool b)) hb253) rfl rfl rfl ?_; clear hf; intro a hf
                refine qNo hf rfl rfl rfl (congrArg (fun b => some (Value.bool b)) hb253) rfl rfl rfl ?_; clear hf; intro a hf
                refine qNo hf rfl rfl rfl (congrArg (fun b => some (Value.bool b)) hb253) rfl rfl rfl ?_; clear hf; intro a hf
                refine qY hf rfl rfl rfl (Y_pickT rfl (congrArg (fun b => some (Value.bool b)) hb253) rfl) ?_; clear hf; intro a hf
                refine qNil ?_; clear hs; intro w hs
                refine wpL_nil (then_normal ?_)
                exact ⟨true, Option.some.inj hj241, (FrD.pick (FrD.pick (FrD.pick hf.none hf rfl) hf rfl) hf rfl), hs⟩
              · have hj241 := bif_f hj241 hb253
                refine qYg hf rfl rfl rfl (congrArg (fun b => some (Value.bool b)) hb253) rfl rfl rfl (Y_move rfl rfl) ?_; clear hf; intro a hf
                refine qYg hf rfl rfl rfl (congrArg (fun b => some (Value.bool b)) hb253) rfl rfl rfl (Y_move rfl rfl) ?_; clear hf; intro a hf
                obtain ⟨q254, hi255, hj241⟩ := bind_some hj241
                obtain ⟨hi255a, hi255b, hi255q⟩ := idx_some hi255
                obtain ⟨vs256, hv257, hr258⟩ := id h_p0_a_1
                obtain ⟨A259, c260, hv261, hR262⟩ := hr258 _ _ hi255q
                refine qYg hf rfl rfl rfl (congrArg (fun b => some (Value.bool b)) hb253) rfl rfl rfl (Y_index rfl rfl rfl el40 ti28 (Rd.isAt hv257 hv261) hi255a hi255b) ?_; clear hf; intro a hf
                refine qYg hf rfl rfl rfl (congrArg (fun b => some (Value.bool b)) hb253) rfl rfl rfl (Y_load_rd rfl rfl (fun w hs => hv257.at hs) (at1 hv261) ag28) ?_; clear hf; intro a hf
                refine qYg hf rfl rfl rfl (congrArg (fun b => some (Value.bool b)) hb253) rfl rfl rfl (Y_lenH rfl rfl el28 rfl) ?_; clear hf; intro a hf
                refine qYg hf rfl rfl rfl (congrArg (fun b => some (Value.bool b)) hb253) rfl rfl rfl (Y_move rfl rfl) ?_; clear hf; intro a hf
                obtain ⟨q263, hi264, hj241⟩ := bind_some hj241
                obtain ⟨hi264a, hi264b, hi264q⟩ := idx_some hi264
                obtain ⟨vs265, hv266, hr267⟩ := id h_p0_a_1
                obtain ⟨A268, c269, hv270, hR271⟩ := hr267 _ _ hi264q
                refine qYg hf rfl rfl rfl (congrArg (fun b => some (Value.bool b)) hb253) rfl rfl rfl (Y_index rfl rfl rfl el40 ti28 (Rd.isAt hv266 hv270) hi264a hi264b) ?_; clear hf; intro a hf
                refine qYg hf rfl rfl rfl (congrArg (fun b => some (Value.bool b)) hb253) rfl rfl rfl (Y_load_rd rfl rfl (fun w hs => hv266.at hs) (at1 hv270) ag28) ?_; clear hf; intro a hf
                refine qYg hf rfl rfl rfl (congrArg (fun b => some (Value.bool b)) hb253) rfl rfl rfl (Y_lenH rfl rfl el28 rfl) ?_; clear hf; intro a hf
                refine qYg hf rfl rfl rfl (congrArg (fun b => some (Value.bool b)) hb253) rfl rfl rfl (Y_neq rfl rfl rfl) ?_; clear hf; intro a hf
                refine qY hf rfl rfl rfl (Y_pickF rfl (congrArg (fun b => some (Value.bool b)) hb253) rfl) ?_; clear hf; intro a hf
                refine qNil ?_; clear hs; intro w hs
                refine wpL_nil (then_normal ?_)
                exact ⟨((q254.length : Int) != (q263.length : Int)), Option.some.inj hj241, (FrD.pick (FrD.pick (FrD.pick hf.none hf rfl) hf rfl) hf rfl), hs⟩
            · rintro a w ⟨b239, hr_, hf, hs⟩
              subst hr_
              try dsimp only at hm206
              refine wpL_cond hf rfl (fun hb272 => ?_) (fun hb272 => ?_)
              · have hm206 := bif_t hm206 hb272
                refine wpL_seq ?_
                refine wpL_region ?_
                refine sY hf hs rfl rfl rfl (Y_assign rfl rfl) ?_; clear hf; intro a hf
                refine wpO_nil ?_
                obtain rfl := Option.some.inj hm206
                try dsimp only at hm
                obtain rfl := Option.some.inj hm
                refine wpL_ret (Qb_ret (Ql_ret (Qb_ret (ret_tmp rfl hf rfl ?_))))
                exact ⟨_, rfl, rfl, hs⟩
              · have hm206 := bif_f hm206 hb272
                refine wpL_skip ?_
                refine wpL_nil (Qb_normal ?_)
                refine wpL_region ?_
                refine sY hf hs rfl rfl rfl (Y_move rfl rfl) ?_; clear hf; intro a hf
                refine sY hf hs rfl rfl rfl (Y_add rfl rfl rfl) ?_; clear hf; intro a hf
                refine sY hf hs rfl rfl rfl (Y_assign rfl rfl) ?_; clear hf; intro a hf
                refine wpO_nil ?_
                refine wpL_nil (Ql_normal ?_)
                exact ⟨(IntKind.i64.wrap (x138 + 1)), hm206, (FrD.pick (FrD.pick hf.none hf rfl) hf rfl), hs⟩
          · have hm206 := bif_f hm206 hb208
            refine wpL_exit (Ql_exit (Qb_exit ?_))
            exact ⟨Option.some.inj hm206, hf.none, hs⟩
      · rintro a w ⟨hr_, hf, hs⟩
        subst hr_
        try dsimp only at hm
        refine wpL_seq ?_
        refine wpL_region ?_
        refine sY hf hs rfl rfl rfl (Y_assign rfl rfl) ?_; clear hf; intro a hf
        refine wpO_nil ?_
        obtain rfl := Option.some.inj hm
        refine wpL_ret (ret_tmp rfl hf rfl ?_)
        exact ⟨_, rfl, rfl, hs⟩

set_option maxRecDepth 100000 in
theorem spec_l02Square_ok (F : Nat) (p0_a : List (List Int)) (A_p0_a_1 : Option Addr) (n_p0_a_1 c_p0_a_1 : Nat) (hn_p0_a_1 : n_p0_a_1 = p0_a.length) (r : Bool) (W : World) (hm : spec_l02Square F p0_a = some r) (h_p0_a_1 : RdM W A_p0_a_1 p0_a) :
    Calls Try.prog 82 [.slice A_p0_a_1 n_p0_a_1 c_p0_a_1].toArray W fun e w' => ∃ v, e = .returned v ∧ v = .bool r ∧ St [] W w' [] := by
  subst hn_p0_a_1
  unfold spec_l02Square at hm
  refine Calls.enter (N := 14) Try.func82 rfl rfl rfl (fun a hf => ?_)
  have hs := St.start W
  obtain ⟨w, hw_⟩ : ∃ w, w = W := ⟨W, rfl⟩
  clear hw_ w
  refine wpL_seq ?_
  refine wpL_region ?_
  refine sY hf hs rfl rfl rfl (Y_assign rfl rfl) ?_; clear hf; intro a hf
  refine wpO_nil ?_
  refine wpL_seq ?_
  obtain ⟨r14, hj15, hm⟩ := bind_some hm
  refine wpL_cut (fun a w => ∃ b13 : Bool, b13 = r14 ∧ Fr a 14 [(2, .bool b13)] ∧ St [] W w []) ?_ ?_
  · refine wpL_region ?_
    refine sY hf hs rfl rfl rfl (Y_move rfl rfl) ?_; clear hf; intro a hf
    obtain ⟨r16, hc17, hj15⟩ := bind_some hj15
    refine sCall hf rfl rfl rfl rfl (cap := []) rfl rfl en149 (spec_IsMatrix_ok F p0_a A_p0_a_1 p0_a.length c_p0_a_1 rfl _ _ hc17 (h_p0_a_1.at hs)) ?_; clear hf
    rintro _ w ⟨rfl, hs1⟩ a hf
    have hs : St [] W w [] := hs.ext hs1.below
    clear hs1
    refine sY hf hs rfl rfl rfl (Y_move rfl rfl) ?_; clear hf; intro a hf
    refine bsplit r16 (fun hb18 => ?_) (fun hb18 => ?_)
    · have hj15 := bif_t hj15 hb18
      refine sYg hf hs rfl rfl rfl (congrArg (fun b => some (Value.bool b)) hb18) rfl rfl rfl (Y_move rfl rfl) ?_; clear hf; intro a hf
      refine sYg hf hs rfl rfl rfl (congrArg (fun b => some (Value.bool b)) hb18) rfl rfl rfl (Y_lenH rfl rfl el40 rfl) ?_; clear hf; intro a hf
      refine sYg hf hs rfl rfl rfl (congrArg (fun b => some (Value.bool b)) hb18) rfl rfl rfl (Y_move rfl rfl) ?_; clear hf; intro a hf
      obtain ⟨q19, hi20, hj15⟩ := bind_some hj15
      obtain ⟨hi20a, hi20b, hi20q⟩ := idx_some hi20
      obtain ⟨vs21, hv22, hr23⟩ := id h_p0_a_1
      obtain ⟨A24, c25, hv26, hR27⟩ := hr23 _ _ hi20q
      refine sYg hf hs rfl rfl rfl (congrArg (fun b => some (Value.bool b)) hb18) rfl rfl rfl (Y_index rfl rfl rfl el40 ti28 (Rd.isAt hv22 hv26) hi20a hi20b) ?_; clear hf; intro a hf
      refine sYg hf hs rfl rfl rfl (congrArg (fun b => some (Value.bool b)) hb18) rfl rfl rfl (Y_load_rd rfl rfl (fun w hs => hv22.at hs) (at1 hv26) ag28) ?_; clear hf; intro a hf
      refine sYg hf hs rfl rfl rfl (congrArg (fun b => some (Value.bool b)) hb18) rfl rfl rfl (Y_lenH rfl rfl el28 rfl) ?_; clear hf; intro a hf
      refine sYg hf hs rfl rfl rfl (congrArg (fun b => some (Value.bool b)) hb18) rfl rfl rfl (Y_eql rfl rfl rfl) ?_; clear hf; intro a hf
      refine sY hf hs rfl rfl rfl (Y_pickT rfl (congrArg (fun b => some (Value.bool b)) hb18) rfl) ?_; clear hf; intro a hf
      refine sY hf hs rfl rfl rfl (Y_assign rfl rfl) ?_; clear hf; intro a hf
      refine wpO_nil ?_
      refine wpL_nil (then_normal ?_)
      exact ⟨((p0_a.length : Int) == (q19.length : Int)), Option.some.inj hj15, (FrD.pick hf.none hf rfl), hs⟩
    · have hj15 := bif_f hj15 hb18
      refine sNo hf rfl rfl rfl (congrArg (fun b => some (Value.bool b)) hb18) rfl rfl rfl ?_; clear hf; intro a hf
      refine sNo hf rfl rfl rfl (congrArg (fun b => some (Value.bool b)) hb18) rfl rfl rfl ?_; clear hf; intro a hf
      refine sNo hf rfl rfl rfl (congrArg (fun b => some (Value.bool b)) hb18) rfl rfl rfl ?_; clear hf; intro a hf
      refine sNo hf rfl rfl rfl (congrArg (fun b => some (Value.bool b)) hb18) rfl rfl rfl ?_; clear hf; intro a hf
      refine sNo hf rfl rfl rfl (congrArg (fun b => some (Value.bool b)) hb18) rfl rfl rfl ?_; clear hf; intro a hf
      refine sNo hf rfl rfl rfl (congrArg (fun b => some (Value.bool b)) hb18) rfl rfl rfl ?_; clear hf; intro a hf
      refine sNo hf rfl rfl rfl (congrArg (fun b => some (Value.bool b)) hb18) rfl rfl rfl ?_; clear hf; intro a hf
      refine sY hf hs rfl rfl rfl (Y_pickF rfl (congrArg (fun b => some (Value.bool b)) hb18) rfl) ?_; clear hf; intro a hf
      refine sY hf hs rfl rfl rfl (Y_assign rfl rfl) ?_; clear hf; intro a hf
      refine wpO_nil ?_
      refine wpL_nil (then_normal ?_)
      exact ⟨false, Option.some.inj hj15, (FrD.pick hf.none hf rfl), hs⟩
  · rintro a w ⟨b13, hr_, hf, hs⟩
    subst hr_
    try dsimp only at hm
    obtain rfl := Option.some.inj hm
    refine wpL_ret (ret_tmp rfl hf rfl ?_)
    exact ⟨_, rfl, rfl, hs⟩

set_option maxHeartbeats 2000000 in
set_option maxRecDepth 100000 in
theorem spec_l03Draw_ok (F : Nat) (b_p0 : Nat) (p0_code : List Int) (A_p0_code : Option Addr) (n_p0_code c_p0_code : Nat) (hn_p0_code : n_p0_code = p0_code.length) (p0_at : Int) (p0_seed : Int) (r : (List (List Int)) × Int × Int) (W : World) (hm : spec_l03Draw F p0_code p0_at p0_seed = some r) (h_p0_code : KR (muL [.blk b_p0 149 [.slice A_p0_code n_p0_code c_p0_code, .int .i64 p0_at, .int .i64 p0_seed]]) W A_p0_code (bytes p0_code)) (hst : St (muL [.blk b_p0 149 [.slice A_p0_code n_p0_code c_p0_code, .int .i64 p0_at, .int .i64 p0_seed]]) W W [.blk b_p0 149 [.slice A_p0_code n_p0_code c_p0_code, .int .i64 p0_at, .int .i64 p0_seed]]) :
    Calls Try.prog 78 [.pointer (some ⟨b_p0, 0, none⟩)].toArray W fun e w' => ∃ v, e = .returned v ∧ ∃ A1847, ∃ n1848, ∃ c1849, ∃ vs1851, v = .slice A1847 n1848 c1849 ∧ n1848 = r.1.length ∧ St (muL [.blk b_p0 149 [.slice A_p0_code n_p0_code c_p0_code, .int .i64 p0_at, .int .i64 p0_seed]]) W w' [.mat A1847 n1848 c1849 28 2 vs1851 r.1, .blk b_p0 149 [.slice A_p0_code n_p0_code c_p0_code, .int .i64 r.2.1, .int .i64 r.2.2]] := by
  subst hn_p0_code
  unfold spec_l03Draw at hm
  refine Calls.enter (N := 97) Try.func78 rfl rfl rfl (fun a hf => ?_)
  have hs := hst
  obtain ⟨w, hw_⟩ : ∃ w, w = W := ⟨W, rfl⟩
  clear hw_ w
  refine wpL_seq ?_
  refine wpL_region ?_
  refine sY hf hs rfl rfl rfl (Y_assign rfl rfl) ?_; clear hf; intro a hf
  refine wpO_nil ?_
  refine wpL_seq ?_
  refine wpL_region ?_
  refine sY hf hs rfl rfl rfl (Y_move rfl rfl) ?_; clear hf; intro a hf
  obtain ⟨r1, hc2, hm⟩ := bind_some hm
  refine sCall hf rfl rfl rfl rfl (cap := []) rfl rfl en94 (spec_l02DrawSquare_ok F b_p0 p0_code A_p0_code p0_code.length c_p0_code rfl p0_at p0_seed _ _ hc2 (h_p0_code.pass hs [0]) (hs.sel [0] (by decide)).rebase) ?_; clear hf
  rintro _ w ⟨A3, n4, c5, vs7, rfl, hn6, hs1⟩ a hf
  have hs : St (muL [.blk b_p0 149 [.slice A_p0_code p0_code.length c_p0_code, .int .i64 p0_at, .int .i64 p0_seed]]) W w [.mat A3 n4 c5 28 2 vs7 r1.1, .blk b_p0 149 [.slice A_p0_code p0_code.length c_p0_code, .int .i64 r1.2.1, .int .i64 r1.2.2]] := St.mutTail (La := []) (Lb := [.blk b_p0 149 [.slice A_p0_code p0_code.length c_p0_code, .int .i64 p0_at, .int .i64 p0_seed]]) (hs.sel [0] (by decide)) hs1
  clear hs1
  refine sY hf hs rfl rfl rfl (Y_assign rfl rfl) ?_; clear hf; intro a hf
  refine wpO_nil ?_
  refine wpL_seq ?_
  refine wpL_seq ?_
  obtain ⟨r16, hj17, hm⟩ := bind_some hm
  refine wpL_cut (fun a w => ∃ x13 : Int, ∃ x14 : Int, ∃ b15 : Bool, (x13, x14, b15) = r16 ∧ Fr a 97 [(0, .pointer (some ⟨b_p0, 0, none⟩)), (3, .slice A3 n4 c5), (17, .bool b15)] ∧ St (muL [.blk b_p0 149 [.slice A_p0_code p0_code.length c_p0_code, .int .i64 p0_at, .int .i64 p0_seed]]) W w [.blk b_p0 149 [.slice A_p0_code p0_code.length c_p0_code, .int .i64 x13, .int .i64 x14], .mat A3 n4 c5 28 2 vs7 r1.1]) ?_ ?_
  · refine wpL_region ?_
    refine sY hf hs rfl rfl rfl (Y_move rfl rfl) ?_; clear hf; intro a hf
    obtain ⟨r18, hc19, hj17⟩ := bind_some hj17
    refine sCall hf rfl rfl rfl rfl (cap := []) rfl rfl en82 (spec_l02Square_ok F r1.1 A3 n4 c5 hn6 _ _ hc19 (hs.rdM (i := 0) rfl)) ?_; clear hf
    rintro _ w ⟨rfl, hs1⟩ a hf
    have hs : St (muL [.blk b_p0 149 [.slice A_p0_code p0_code.length c_p0_code, .int .i64 p0_at, .int .i64 p0_seed]]) W w [.mat A3 n4 c5 28 2 vs7 r1.1, .blk b_p0 149 [.slice A_p0_code p0_code.length c_p0_code, .int .i64 r1.2.1, .int .i64 r1.2.2]] := hs.ext hs1.below
    clear hs1
    refine sY hf hs rfl rfl rfl (Y_not rfl rfl) ?_; clear hf; intro a hf
    refine sY hf hs rfl rfl rfl (Y_move rfl rfl) ?_; clear hf; intro a hf
    refine bsplit (!r18) (fun hb20 => ?_) (fun hb20 => ?_)
    · have hj17 := bif_t hj17 hb20
      refine sNo hf rfl rfl rfl (congrArg (fun b => some (Value.bool b)) hb20) rfl rfl rfl ?_; clear hf; intro a hf
      refine sNo hf rfl rfl rfl (congrArg (fun b => some (Value.bool b)) hb20) rfl rfl rfl ?_; clear hf; intro a hf
      refine sNo hf rfl rfl rfl (congrArg (fun b => some (Value.bool b)) hb20) rfl rfl rfl ?_; clear hf; intro a hf
      refine sY hf hs rfl rfl rfl (Y_pickT rfl (congrArg (fun b => some (Value.bool b)) hb20) rfl) ?_; clear hf; intro a hf
      refine wpO_nil ?_
      refine wpL_nil (then_normal ?_)
      exact ⟨r1.2.1, r1.2.2, true, Option.some.inj hj17, (FrD.pick (FrD.pick (FrD.pick hf.none hf rfl) hf rfl) hf rfl), hs.sel [1, 0] (by decide)⟩
    · have hj17 := bif_f hj17 hb20
      refine sYg hf hs rfl rfl rfl (congrArg (fun b => some (Value.bool b)) hb20) rfl rfl rfl (Y_move rfl rfl) ?_; clear hf; intro a hf
      obtain ⟨r21, hc22, hj17⟩ := bind_some hj17
      refine sCallg hf rfl rfl rfl (congrArg (fun b => some (Value.bool b)) hb20) rfl rfl rfl rfl (cap := []) rfl rfl en93 (spec_l01Next_ok F b_p0 p0_code A_p0_code p0_code.length c_p0_code rfl r1.2.1 r1.2.2 4 _ _ hc22 (h_p0_code.pass hs [1]) (hs.sel [1] (by decide)).rebase) ?_; clear hf
      rintro _ w ⟨rfl, hs1⟩ a hf
      have hs : St (muL [.blk b_p0 149 [.slice A_p0_code p0_code.length c_p0_code, .int .i64 p0_at, .int .i64 p0_seed]]) W w [.mat A3 n4 c5 28 2 vs7 r1.1, .blk b_p0 149 [.slice A_p0_code p0_code.length c_p0_code, .int .i64 r21.2.1, .int .i64 r21.2.2]] := St.mutTail (La := [.mat A3 n4 c5 28 2 vs7 r1.1]) (Lb := [.blk b_p0 149 [.slice A_p0_code p0_code.length c_p0_code, .int .i64 r1.2.1, .int .i64 r1.2.2]]) (hs.sel [0, 1] (by decide)) hs1
      clear hs1
      refine sYg hf hs rfl rfl rfl (congrArg (fun b => some (Value.bool b)) hb20) rfl rfl rfl (Y_eql rfl rfl rfl) ?_; clear hf; intro a hf
      refine sY hf hs rfl rfl rfl (Y_pickF rfl (congrArg (fun b => some (Value.bool b)) hb20) rfl) ?_; clear hf; intro a hf
      refine wpO_nil ?_
      refine wpL_nil (then_normal ?_)
      exact ⟨r21.2.1, r21.2.2, (r21.1 == 0), Option.some.inj hj17, (FrD.pick (FrD.pick (FrD.pick hf.none hf rfl) hf rfl) hf rfl), hs.sel [1, 0] (by decide)⟩
  · rintro a w ⟨x13, x14, b15, hr_, hf, hs⟩
    subst hr_
    try dsimp only at hm
    refine wpL_cond hf rfl (fun hb23 => ?_) (fun hb23 => ?_)
    · have hm := bif_t hm hb23
      refine wpL_seq ?_
      refine wpL_region ?_
      refine sY hf hs rfl rfl rfl (Y_move rfl rfl) ?_; clear hf; intro a hf
      refine sY hf hs rfl rfl rfl (Y_assign rfl rfl) ?_; clear hf; intro a hf
      refine wpO_nil ?_
      obtain rfl := Option.some.inj hm
      refine wpL_ret (ret_tmp rfl hf rfl ?_)
      exact ⟨_, rfl, A3, n4, c5, vs7, rfl, hn6, hs.sel [1, 0] (by decide)⟩
    · have hm := bif_f hm hb23
      refine wpL_skip ?_
      refine wpL_seq ?_
      refine wpL_region ?_
      refine sEmpty hf hs rfl rfl rfl rfl el28 ti2 ?_; clear hf hs; intro a w A24 hs hf
      have hs : St (muL [.blk b_p0 149 [.slice A_p0_code p0_code.length c_p0_code, .int .i64 p0_at, .int .i64 p0_seed]]) W w [.blk b_p0 149 [.slice A_p0_code p0_code.length c_p0_code, .int .i64 x13, .int .i64 x14], .mat A3 n4 c5 28 2 vs7 r1.1, .row A24 0 0 2 1 (ints ([] : List Int))] := hs
      refine sY hf hs rfl rfl rfl (Y_assign rfl rfl) ?_; clear hf; intro a hf
      refine wpO_nil ?_
      refine wpL_seq ?_
      refine wpL_seq ?_
      refine wpL_region ?_
      refine sY hf hs rfl rfl rfl (Y_assign rfl rfl) ?_; clear hf; intro a hf
      refine wpO_nil ?_
      obtain ⟨r76, hl77, hm⟩ := bind_some hm
      refine wpL_block (fun a w => ∃ x69 : Int, ∃ x70 : Int, ∃ xs71 : List Int, ∃ A72, ∃ n73, ∃ c74, (x69, x70, xs71) = r76 ∧ n73 = xs71.length ∧ Fr a 97 [(0, .pointer (some ⟨b_p0, 0, none⟩)), (3, .slice A3 n4 c5), (4, .slice A72 n73 c74)] ∧ St (muL [.blk b_p0 149 [.slice A_p0_code p0_code.length c_p0_code, .int .i64 p0_at, .int .i64 p0_seed]]) W w [.blk b_p0 149 [.slice A_p0_code p0_code.length c_p0_code, .int .i64 x69, .int .i64 x70], .mat A3 n4 c5 28 2 vs7 r1.1, .row A72 n73 c74 2 1 (ints xs71)]) ?_ ?_
      · refine wpL_loop (fun n a w => ∃ x52 : Int, ∃ x53 : Int, ∃ xs54 : List Int, ∃ x59 : Int, ∃ A55, ∃ n56, ∃ c57, spec_l03Draw_L1 F p0_code r1 n x52 x53 xs54 x59 = some r76 ∧ n56 = xs54.length ∧ Fr a 97 [(0, .pointer (some ⟨b_p0, 0, none⟩)), (3, .slice A3 n4 c5), (4, .slice A55 n56 c57), (5, .int .i64 x59)] ∧ St (muL [.blk b_p0 149 [.slice A_p0_code p0_code.length c_p0_code, .int .i64 p0_at, .int .i64 p0_seed]]) W w [.blk b_p0 149 [.slice A_p0_code p0_code.length c_p0_code, .int .i64 x52, .int .i64 x53], .mat A3 n4 c5 28 2 vs7 r1.1, .row A55 n56 c57 2 1 (ints xs54)]) F ?_ ?_ ?_
        · exact ⟨x13, x14, ([] : List Int), 0, A24, 0, 0, hl77, rfl, (FrD.pick (FrD.pick (FrD.pick (FrD.pick hf.none hf rfl) hf rfl) hf rfl) hf rfl), hs⟩
        · rintro a w ⟨x52, x53, xs54, x59, A55, n56, c57, h0_, -, -, -⟩; simp [spec_l03Draw_L1] at h0_
        · rintro n79 a w ⟨x52, x53, xs54, x59, A55, n56, c57, hm78, hn58, hf, hs⟩
          rw [spec_l03Draw_L1] at hm78
          refine wpL_seq ?_
          refine wpL_seq ?_
          refine wpL_region ?_
          refine sY hf hs rfl rfl rfl (Y_move rfl rfl) ?_; clear hf; intro a hf
          refine sY hf hs rfl rfl rfl (Y_move rfl rfl) ?_; clear hf; intro a hf
          refine sY hf hs rfl rfl rfl (Y_lenH rfl rfl el40 hn6) ?_; clear hf; intro a hf
          refine sY hf hs rfl rfl rfl (Y_lss rfl rfl rfl) ?_; clear hf; intro a hf
          refine wpO_nil ?_
          refine wpL_cond hf rfl (fun hb80 => ?_) (fun hb80 => ?_)
          · have hm78 := bif_t hm78 hb80
            refine wpL_skip ?_
            refine wpL_seq ?_
            refine wpL_block0 ?_
            refine wpL_region ?_
            refine sY hf hs rfl rfl rfl (Y_move rfl rfl) ?_; clear hf; intro a hf
            refine sY hf hs rfl rfl rfl (Y_move rfl rfl) ?_; clear hf; intro a hf
            obtain ⟨r81, hc82, hm78⟩ := bind_some hm78
            refine sCall hf rfl rfl rfl rfl (cap := []) rfl rfl en93 (spec_l01Next_ok F b_p0 p0_code A_p0_code p0_code.length c_p0_code rfl x52 x53 20 _ _ hc82 (h_p0_code.pass hs [0]) (hs.sel [0] (by decide)).rebase) ?_; clear hf
            rintro _ w ⟨rfl, hs1⟩ a hf
            have hs : St (muL [.blk b_p0 149 [.slice A_p0_code p0_code.length c_p0_code, .int .i64 p0_at, .int .i64 p0_seed]]) W w [.mat A3 n4 c5 28 2 vs7 r1.1, .row A55 n56 c57 2 1 (ints xs54), .blk b_p0 149 [.slice A_p0_code p0_code.length c_p0_code, .int .i64 r81.2.1, .int .i64 r81.2.2]] := St.mutTail (La := [.mat A3 n4 c5 28 2 vs7 r1.1, .row A55 n56 c57 2 1 (ints xs54)]) (Lb := [.blk b_p0 149 [.slice A_p0_code p0_code.length c_p0_code, .int .i64 x52, .int .i64 x53]]) (hs.sel [1, 2, 0] (by decide)) hs1
            clear hs1
            refine sBuildSlice (parts := [(0, .tmp 28)]) (vs := [.int .i64 r81.1]) (cells := [.int .i64 r81.1]) hf hs rfl rfl rfl rfl rfl el28 ti2 rfl rfl rfl rfl ?_; clear hf hs; intro a w A83 hs hA84 hf
            have hs : St (muL [.blk b_p0 149 [.slice A_p0_code p0_code.length c_p0_code, .int .i64 p0_at, .int .i64 p0_seed]]) W w [.mat A3 n4 c5 28 2 vs7 r1.1, .row A55 n56 c57 2 1 (ints xs54), .blk b_p0 149 [.slice A_p0_code p0_code.length c_p0_code, .int .i64 r81.2.1, .int .i64 r81.2.2], .row A83 1 1 2 1 (ints ([r81.1]))] := hs
            obtain ⟨xs87, ha88, hm78⟩ := bind_some hm78
            refine sAppendL (i := 1) (xs := xs54) (ys := [r81.1]) (enc := ints) hf hs rfl rfl rfl rfl rfl rfl hn58 rfl rfl ha88 el28 ti2 rfl rfl rfl (hs.rd (i := 3) rfl) (Nat.succ_pos _) ints_len1 ints_append ints_one ?_; clear hf hs; intro a w A85 c86 hs hf
            have hs : St (muL [.blk b_p0 149 [.slice A_p0_code p0_code.length c_p0_code, .int .i64 p0_at, .int .i64 p0_seed]]) W w [.mat A3 n4 c5 28 2 vs7 r1.1, .row A85 xs87.length c86 2 1 (ints xs87), .blk b_p0 149 [.slice A_p0_code p0_code.length c_p0_code, .int .i64 r81.2.1, .int .i64 r81.2.2], .row A83 1 1 2 1 (ints ([r81.1]))] := hs
            refine sY hf hs rfl rfl rfl (Y_assign rfl rfl) ?_; clear hf; intro a hf
            refine wpO_nil ?_
            refine wpL_nil (Qb_normal ?_)
            refine wpL_region ?_
            refine sY hf hs rfl rfl rfl (Y_move rfl rfl) ?_; clear hf; intro a hf
            refine sY hf hs rfl rfl rfl (Y_add rfl rfl rfl) ?_; clear hf; intro a hf
            refine sY hf hs rfl rfl rfl (Y_assign rfl rfl) ?_; clear hf; intro a hf
            refine wpO_nil ?_
            refine wpL_nil (Ql_normal ?_)
            exact ⟨r81.2.1, r81.2.2, xs87, (IntKind.i64.wrap (x59 + 1)), A85, xs87.length, c86, hm78, rfl, (FrD.pick (FrD.pick (FrD.pick (FrD.pick hf.none hf rfl) hf rfl) hf rfl) hf rfl), hs.sel [2, 0, 1] (by decide)⟩
          · have hm78 := bif_f hm78 hb80
            refine wpL_exit (Ql_exit (Qb_exit ?_))
            exact ⟨x52, x53, xs54, A55, n56, c57, Option.some.inj hm78, hn58, (FrD.pick (FrD.pick (FrD.pick hf.none hf rfl) hf rfl) hf rfl), hs⟩
      · rintro a w ⟨x69, x70, xs71, A72, n73, c74, hr_, hn75, hf, hs⟩
        subst hr_
        try dsimp only at hm
        refine wpL_seq ?_
        refine wpL_seq ?_
        refine wpL_region ?_
        refine sY hf hs rfl rfl rfl (Y_assign rfl rfl) ?_; clear hf; intro a hf
        refine wpO_nil ?_
        obtain ⟨r1408, hl1409, hm⟩ := bind_some hm
        refine wpL_block (fun a w => ∃ x1404 : Int, ∃ x1405 : Int, ∃ ms1406 : List (List Int), (x1404, x1405, ms1406) = r1408 ∧ n4 = ms1406.length ∧ Fr a 97 [(3, .slice A3 n4 c5)] ∧ St (muL [.blk b_p0 149 [.slice A_p0_code p0_code.length c_p0_code, .int .i64 p0_at, .int .i64 p0_seed]]) W w [.blk b_p0 149 [.slice A_p0_code p0_code.length c_p0_code, .int .i64 x1404, .int .i64 x1405], .mat A3 n4 c5 28 2 vs7 ms1406]) ?_ ?_
        · refine wpL_loop (fun n a w => ∃ x964 : Int, ∃ x965 : Int, ∃ ms966 : List (List Int), ∃ x968 : Int, spec_l03Draw_L5 F p0_code xs71 n x964 x965 ms966 x968 = some r1408 ∧ n4 = ms966.length ∧ Fr a 97 [(0, .pointer (some ⟨b_p0, 0, none⟩)), (3, .slice A3 n4 c5), (4, .slice A72 n73 c74), (6, .int .i64 x968)] ∧ St (muL [.blk b_p0 149 [.slice A_p0_code p0_code.length c_p0_code, .int .i64 p0_at, .int .i64 p0_seed]]) W w [.blk b_p0 149 [.slice A_p0_code p0_code.length c_p0_code, .int .i64 x964, .int .i64 x965], .mat A3 n4 c5 28 2 vs7 ms966, .row A72 n73 c74 2 1 (ints xs71)]) F ?_ ?_ ?_
          · exact ⟨x69, x70, r1.1, 0, hl1409, hn6, (FrD.pick (FrD.pick (FrD.pick (FrD.pick hf.none hf rfl) hf rfl) hf rfl) hf rfl), hs⟩
          · rintro a w ⟨x964, x965, ms966, x968, h0_, -, -, -⟩; simp [spec_l03Draw_L5] at h0_
          · rintro n1411 a w ⟨x964, x965, ms966, x968, hm1410, hn967, hf, hs⟩
            rw [spec_l03Draw_L5] at hm1410
            refine wpL_seq ?_
            refine wpL_seq ?_
            refine wpL_region ?_
            refine sY hf hs rfl rfl rfl (Y_move rfl rfl) ?_; clear hf; intro a hf
            refine sY hf hs rfl rfl rfl (Y_move rfl rfl) ?_; clear hf; intro a hf
            refine sY hf hs rfl rfl rfl (Y_lenH rfl rfl el40 hn967) ?_; clear hf; intro a hf
            refine sY hf hs rfl rfl rfl (Y_lss rfl rfl rfl) ?_; clear hf; intro a hf
            refine wpO_nil ?_
            refine wpL_cond hf rfl (fun hb1412 => ?_) (fun hb1412 => ?_)
            · have hm1410 := bif_t hm1410 hb1412
              refine wpL_skip ?_
              refine wpL_seq ?_
              refine wpL_block0 ?_
              refine wpL_seq ?_
              refine wpL_region ?_
              refine sY hf hs rfl rfl rfl (Y_assign rfl rfl) ?_; clear hf; intro a hf
              refine wpO_nil ?_
              obtain ⟨r1739, hl1740, hm1410⟩ := bind_some hm1410
              refine wpL_block (fun a w => ∃ x1735 : Int, ∃ x1736 : Int, ∃ ms1737 : List (List Int), (x1735, x1736, ms1737) = r1739 ∧ n4 = ms1737.length ∧ Fr a 97 [(0, .pointer (some ⟨b_p0, 0, none⟩)), (3, .slice A3 n4 c5), (4, .slice A72 n73 c74), (6, .int .i64 x968)] ∧ St (muL [.blk b_p0 149 [.slice A_p0_code p0_code.length c_p0_code, .int .i64 p0_at, .int .i64 p0_seed]]) W w [.blk b_p0 149 [.slice A_p0_code p0_code.length c_p0_code, .int .i64 x1735, .int .i64 x1736], .mat A3 n4 c5 28 2 vs7 ms1737, .row A72 n73 c74 2 1 (ints xs71)]) ?_ ?_
              · refine wpL_loop (fun n a w => ∃ x1626 : Int, ∃ x1627 : Int, ∃ ms1628 : List (List Int), ∃ x1630 : Int, spec_l03Draw_L6 F p0_code xs71 x968 n x1626 x1627 ms1628 x1630 = some r1739 ∧ n4 = ms1628.length ∧ Fr a 97 [(0, .pointer (some ⟨b_p0, 0, none⟩)), (3, .slice A3 n4 c5), (4, .slice A72 n73 c74), (6, .int .i64 x968), (7, .int .i64 x1630)] ∧ St (muL [.blk b_p0 149 [.slice A_p0_code p0_code.length c_p0_code, .int .i64 p0_at, .int .i64 p0_seed]]) W w [.blk b_p0 149 [.slice A_p0_code p0_code.length c_p0_code, .int .i64 x1626, .int .i64 x1627], .mat A3 n4 c5 28 2 vs7 ms1628, .row A72 n73 c74 2 1 (ints xs71)]) F ?_ ?_ ?_
                · exact ⟨x964, x965, ms966, 0, hl1740, hn967, (FrD.pick (FrD.pick (FrD.pick (FrD.pick (FrD.pick hf.none hf rfl) hf rfl) hf rfl) hf rfl) hf rfl), hs⟩
                · rintro a w ⟨x1626, x1627, ms1628, x1630, h0_, -, -, -⟩; simp [spec_l03Draw_L6] at h0_
                · rintro n1742 a w ⟨x1626, x1627, ms1628, x1630, hm1741, hn1629, hf, hs⟩
                  rw [spec_l03Draw_L6] at hm1741
                  refine wpL_seq ?_
                  refine wpL_seq ?_
                  refine wpL_region ?_
                  refine sY hf hs rfl rfl rfl (Y_move rfl rfl) ?_; clear hf; intro a hf
                  refine sY hf hs rfl rfl rfl (Y_move rfl rfl) ?_; clear hf; intro a hf
                  refine sY hf hs rfl rfl rfl (Y_lenH rfl rfl el40 hn1629) ?_; clear hf; intro a hf
                  refine sY hf hs rfl rfl rfl (Y_lss rfl rfl rfl) ?_; clear hf; intro a hf
                  refine wpO_nil ?_
                  refine wpL_cond hf rfl (fun hb1743 => ?_) (fun hb1743 => ?_)
                  · have hm1741 := bif_t hm1741 hb1743
                    refine wpL_skip ?_
                    refine wpL_seq ?_
                    refine wpL_block0 ?_
                    refine wpL_seq ?_
                    obtain ⟨r1764, hj1765, hm1741⟩ := bind_some hm1741
                    refine wpL_cut (fun a w => ∃ b1763 : Bool, b1763 = r1764 ∧ Fr a 97 [(0, .pointer (some ⟨b_p0, 0, none⟩)), (3, .slice A3 n4 c5), (4, .slice A72 n73 c74), (6, .int .i64 x968), (7, .int .i64 x1630), (60, .bool b1763)] ∧ St (muL [.blk b_p0 149 [.slice A_p0_code p0_code.length c_p0_code, .int .i64 p0_at, .int .i64 p0_seed]]) W w [.blk b_p0 149 [.slice A_p0_code p0_code.length c_p0_code, .int .i64 x1626, .int .i64 x1627], .mat A3 n4 c5 28 2 vs7 ms1628, .row A72 n73 c74 2 1 (ints xs71)]) ?_ ?_
                    · refine wpL_region ?_
                      refine sY hf hs rfl rfl rfl (Y_move rfl rfl) ?_; clear hf; intro a hf
                      refine sY hf hs rfl rfl rfl (Y_move rfl rfl) ?_; clear hf; intro a hf
                      obtain ⟨q1766, hi1767, hj1765⟩ := bind_some hj1765
                      obtain ⟨hi1767a, hi1767b, hi1767q⟩ := idx_some hi1767
                      obtain ⟨A1768, c1769, hv1770⟩ := hs.matRow (i := 1) rfl hi1767q
                      refine sY hf hs rfl rfl rfl (Y_index rfl rfl rfl el40 ti28 (Rd.isAt (hs.rdV (i := 1) rfl) hv1770) hi1767a (ltn hn1629 hi1767b)) ?_; clear hf; intro a hf
                      refine sY hf hs rfl rfl rfl (Y_load_rd rfl rfl (fun w hs => hs.rdV (i := 1) rfl) (at1 hv1770) ag28) ?_; clear hf; intro a hf
                      refine sY hf hs rfl rfl rfl (Y_move rfl rfl) ?_; clear hf; intro a hf
                      obtain ⟨q1771, hi1772, hj1765⟩ := bind_some hj1765
                      obtain ⟨hi1772a, hi1772b, hi1772q⟩ := idx_some hi1772
                      refine sY hf hs rfl rfl rfl (Y_index rfl rfl rfl el28 ti2 (Rd.isAt (hs.rdRow (i := 1) rfl ⟨hi1767q, hv1770⟩) (at1 (ints_at hi1772q))) hi1772a hi1772b) ?_; clear hf; intro a hf
                      refine sY hf hs rfl rfl rfl (Y_load_rd rfl rfl (fun w hs => hs.rdRow (i := 1) rfl ⟨hi1767q, hv1770⟩) (at1 (ints_at hi1772q)) ag2) ?_; clear hf; intro a hf
                      obtain ⟨r1773, hc1774, hj1765⟩ := bind_some hj1765
                      refine sCall hf rfl rfl rfl rfl (cap := []) rfl rfl en144 (spec_l01Finite_ok F q1771 _ _ hc1774) ?_; clear hf
                      rintro _ w ⟨rfl, hs1⟩ a hf
                      have hs : St (muL [.blk b_p0 149 [.slice A_p0_code p0_code.length c_p0_code, .int .i64 p0_at, .int .i64 p0_seed]]) W w [.blk b_p0 149 [.slice A_p0_code p0_code.length c_p0_code, .int .i64 x1626, .int .i64 x1627], .mat A3 n4 c5 28 2 vs7 ms1628, .row A72 n73 c74 2 1 (ints xs71)] := hs.ext hs1.below
                      clear hs1
                      refine sY hf hs rfl rfl rfl (Y_move rfl rfl) ?_; clear hf; intro a hf
                      refine bsplit r1773 (fun hb1775 => ?_) (fun hb1775 => ?_)
                      · have hj1765 := bif_t hj1765 hb1775
                        refine sYg hf hs rfl rfl rfl (congrArg (fun b => some (Value.bool b)) hb1775) rfl rfl rfl (Y_move rfl rfl) ?_; clear hf; intro a hf
                        refine sYg hf hs rfl rfl rfl (congrArg (fun b => some (Value.bool b)) hb1775) rfl rfl rfl (Y_move rfl rfl) ?_; clear hf; intro a hf
                        obtain ⟨q1776, hi1777, hj1765⟩ := bind_some hj1765
                        obtain ⟨hi1777a, hi1777b, hi1777q⟩ := idx_some hi1777
                        obtain ⟨A1778, c1779, hv1780⟩ := hs.matRow (i := 1) rfl hi1777q
                        refine sYg hf hs rfl rfl rfl (congrArg (fun b => some (Value.bool b)) hb1775) rfl rfl rfl (Y_index rfl rfl rfl el40 ti28 (Rd.isAt (hs.rdV (i := 1) rfl) hv1780) hi1777a (ltn hn1629 hi1777b)) ?_; clear hf; intro a hf
                        refine sYg hf hs rfl rfl rfl (congrArg (fun b => some (Value.bool b)) hb1775) rfl rfl rfl (Y_load_rd rfl rfl (fun w hs => hs.rdV (i := 1) rfl) (at1 hv1780) ag28) ?_; clear hf; intro a hf
                        refine sYg hf hs rfl rfl rfl (congrArg (fun b => some (Value.bool b)) hb1775) rfl rfl rfl (Y_move rfl rfl) ?_; clear hf; intro a hf
                        obtain ⟨q1781, hi1782, hj1765⟩ := bind_some hj1765
                        obtain ⟨hi1782a, hi1782b, hi1782q⟩ := idx_some hi1782
                        refine sYg hf hs rfl rfl rfl (congrArg (fun b => some (Value.bool b)) hb1775) rfl rfl rfl (Y_index rfl rfl rfl el28 ti2 (Rd.isAt (hs.rdRow (i := 1) rfl ⟨hi1777q, hv1780⟩) (at1 (ints_at hi1782q))) hi1782a hi1782b) ?_; clear hf; intro a hf
                        refine sYg hf hs rfl rfl rfl (congrArg (fun b => some (Value.bool b)) hb1775) rfl rfl rfl (Y_load_rd rfl rfl (fun w hs => hs.rdRow (i := 1) rfl ⟨hi1777q, hv1780⟩) (at1 (ints_at hi1782q)) ag2) ?_; clear hf; intro a hf
                        obtain ⟨r1783, hc1784, hj1765⟩ := bind_some hj1765
                        refine sCallg hf rfl rfl rfl (congrArg (fun b => some (Value.bool b)) hb1775) rfl rfl rfl rfl (cap := []) rfl rfl en77 (spec_l01In_ok F q1781 (-100) 100 _ _ hc1784) ?_; clear hf
                        rintro _ w ⟨rfl, hs1⟩ a hf
                        have hs : St (muL [.blk b_p0 149 [.slice A_p0_code p0_code.length c_p0_code, .int .i64 p0_at, .int .i64 p0_seed]]) W w [.blk b_p0 149 [.slice A_p0_code p0_code.length c_p0_code, .int .i64 x1626, .int .i64 x1627], .mat A3 n4 c5 28 2 vs7 ms1628, .row A72 n73 c74 2 1 (ints xs71)] := hs.ext hs1.below
                        clear hs1
                        refine sY hf hs rfl rfl rfl (Y_pickT rfl (congrArg (fun b => some (Value.bool b)) hb1775) rfl) ?_; clear hf; intro a hf
                        refine wpO_nil ?_
                        refine wpL_nil (then_normal ?_)
                        exact ⟨r1783, Option.some.inj hj1765, (FrD.pick (FrD.pick (FrD.pick (FrD.pick (FrD.pick (FrD.pick hf.none hf rfl) hf rfl) hf rfl) hf rfl) hf rfl) hf rfl), hs⟩
                      · have hj1765 := bif_f hj1765 hb1775
                        refine sNo hf rfl rfl rfl (congrArg (fun b => some (Value.bool b)) hb1775) rfl rfl rfl ?_; clear hf; intro a hf
                        refine sNo hf rfl rfl rfl (congrArg (fun b => some (Value.bool b)) hb1775) rfl rfl rfl ?_; clear hf; intro a hf
                        refine sNo hf rfl rfl rfl (congrArg (fun b => some (Value.bool b)) hb1775) rfl rfl rfl ?_; clear hf; intro a hf
                        refine sNo hf rfl rfl rfl (congrArg (fun b => some (Value.bool b)) hb1775) rfl rfl rfl ?_; clear hf; intro a hf
                        refine sNo hf rfl rfl rfl (congrArg (fun b => some (Value.bool b)) hb1775) rfl rfl rfl ?_; clear hf; intro a hf
                        refine sNo hf rfl rfl rfl (congrArg (fun b => some (Value.bool b)) hb1775) rfl rfl rfl ?_; clear hf; intro a hf
                        refine sNo hf rfl rfl rfl (congrArg (fun b => some (Value.bool b)) hb1775) rfl rfl rfl ?_; clear hf; intro a hf
                        refine sNo hf rfl rfl rfl (congrArg (fun b => some (Value.bool b)) hb1775) rfl rfl rfl ?_; clear hf; intro a hf
                        refine sY hf hs rfl rfl rfl (Y_pickF rfl (congrArg (fun b => some (Value.bool b)) hb1775) rfl) ?_; clear hf; intro a hf
                        refine wpO_nil ?_
                        refine wpL_nil (then_normal ?_)
                        exact ⟨false, Option.some.inj hj1765, (FrD.pick (FrD.pick (FrD.pick (FrD.pick (FrD.pick (FrD.pick hf.none hf rfl) hf rfl) hf rfl) hf rfl) hf rfl) hf rfl), hs⟩
                    · rintro a w ⟨b1763, hr_, hf, hs⟩
                      subst hr_
                      try dsimp only at hm1741
                      refine wpL_cond hf rfl (fun hb1785 => ?_) (fun hb1785 => ?_)
                      · have hm1741 := bif_t hm1741 hb1785
                        refine wpL_seq ?_
                        refine wpL_drawM [.mat A3 n4 c5 28 2 vs7 ms1628, .row A72 n73 c74 2 1 (ints xs71)] [18] (by kernel_rfl) hs ?_; clear hs; intro w hs
                        have hs0 : St (muL [.blk b_p0 149 [.slice A_p0_code p0_code.length c_p0_code, .int .i64 p0_at, .int .i64 p0_seed]]) W w [.mat A3 n4 c5 28 2 vs7 ms1628, .row A72 n73 c74 2 1 (ints xs71)] := hs.sel [1, 2] (by decide)
                        refine mYp (i := 0) rfl (by kernel_rfl) (by kernel_rfl) hf rfl rfl rfl (fun _ => Y_move rfl rfl) ?_; clear hf; intro a hf
                        refine mYp (i := 1) rfl (by kernel_rfl) (by kernel_rfl) hf rfl rfl rfl (fun _ => Y_move rfl rfl) ?_; clear hf; intro a hf
                        obtain ⟨q1805, hi1806, hm1741⟩ := bind_some hm1741
                        obtain ⟨hi1806a, hi1806b, hi1806q⟩ := idx_some hi1806
                        obtain ⟨A1807, c1808, hv1809⟩ := hs.matRow (i := 1) rfl hi1806q
                        refine mYp (i := 2) rfl (by kernel_rfl) (by kernel_rfl) hf rfl rfl rfl (fun _ => Y_index rfl rfl rfl el40 ti28 (Rd.isAt (hs.rdV (i := 1) rfl) hv1809) hi1806a (ltn hn1629 hi1806b)) ?_; clear hf; intro a hf
                        refine mY (i := 3) [[]] rfl (by kernel_rfl) (by kernel_rfl) hf hs0 rfl rfl rfl (Y_load_rd rfl rfl (fun w hs => hs.rdV (i := 0) rfl) (at1 hv1809) ag28) ?_; clear hf; intro a hf
                        refine mYp (i := 4) rfl (by kernel_rfl) (by kernel_rfl) hf rfl rfl rfl (fun _ => Y_move rfl rfl) ?_; clear hf; intro a hf
                        refine mYp (i := 5) rfl (by kernel_rfl) (by kernel_rfl) hf rfl rfl rfl (fun _ => Y_move rfl rfl) ?_; clear hf; intro a hf
                        refine mYp (i := 6) rfl (by kernel_rfl) (by kernel_rfl) hf rfl rfl rfl (fun _ => Y_move rfl rfl) ?_; clear hf; intro a hf
                        obtain ⟨q1810, hi1811, hm1741⟩ := bind_some hm1741
                        obtain ⟨hi1811a, hi1811b, hi1811q⟩ := idx_some hi1811
                        refine mYp (i := 7) rfl (by kernel_rfl) (by kernel_rfl) hf rfl rfl rfl (fun _ => Y_index rfl rfl rfl el28 ti2 (Rd.isAt (hs.rd (i := 2) rfl) (at1 (ints_at hi1811q))) hi1811a (ltn hn75 hi1811b)) ?_; clear hf; intro a hf
                        refine mY (i := 8) [[]] rfl (by kernel_rfl) (by kernel_rfl) hf hs0 rfl rfl rfl (Y_load_rd rfl rfl (fun w hs => hs.rd (i := 1) rfl) (at1 (ints_at hi1811q)) ag2) ?_; clear hf; intro a hf
                        refine mYp (i := 9) rfl (by kernel_rfl) (by kernel_rfl) hf rfl rfl rfl (fun _ => Y_move rfl rfl) ?_; clear hf; intro a hf
                        refine mYp (i := 10) rfl (by kernel_rfl) (by kernel_rfl) hf rfl rfl rfl (fun _ => Y_move rfl rfl) ?_; clear hf; intro a hf
                        obtain ⟨q1812, hi1813, hm1741⟩ := bind_some hm1741
                        obtain ⟨hi1813a, hi1813b, hi1813q⟩ := idx_some hi1813
                        refine mYp (i := 11) rfl (by kernel_rfl) (by kernel_rfl) hf rfl rfl rfl (fun _ => Y_index rfl rfl rfl el28 ti2 (Rd.isAt (hs.rd (i := 2) rfl) (at1 (ints_at hi1813q))) hi1813a (ltn hn75 hi1813b)) ?_; clear hf; intro a hf
                        refine mY (i := 12) [[]] rfl (by kernel_rfl) (by kernel_rfl) hf hs0 rfl rfl rfl (Y_load_rd rfl rfl (fun w hs => hs.rd (i := 1) rfl) (at1 (ints_at hi1813q)) ag2) ?_; clear hf; intro a hf
                        refine mYp (i := 13) rfl (by kernel_rfl) (by kernel_rfl) hf rfl rfl rfl (fun _ => Y_sub rfl rfl rfl) ?_; clear hf; intro a hf
                        refine mYp (i := 14) rfl (by kernel_rfl) (by kernel_rfl) hf rfl rfl rfl (fun _ => Y_move rfl rfl) ?_; clear hf; intro a hf
                        refine mRun (i := 15) rfl (by kernel_rfl) ?_
                        obtain ⟨r1814, hc1815, hm1741⟩ := bind_some hm1741
                        refine sCall hf rfl rfl rfl rfl (cap := []) rfl rfl en93 (spec_l01Next_ok F b_p0 p0_code A_p0_code p0_code.length c_p0_code rfl x1626 x1627 12 _ _ hc1815 (h_p0_code.pass hs [0]) (hs.sel [0] (by decide)).rebase) ?_; clear hf
                        rintro _ w ⟨rfl, hs1⟩ a hf
                        have hs : St (muL [.blk b_p0 149 [.slice A_p0_code p0_code.length c_p0_code, .int .i64 p0_at, .int .i64 p0_seed]]) W w [.mat A3 n4 c5 28 2 vs7 ms1628, .row A72 n73 c74 2 1 (ints xs71), .blk b_p0 149 [.slice A_p0_code p0_code.length c_p0_code, .int .i64 r1814.2.1, .int .i64 r1814.2.2]] := St.mutTail (La := [.mat A3 n4 c5 28 2 vs7 ms1628, .row A72 n73 c74 2 1 (ints xs71)]) (Lb := [.blk b_p0 149 [.slice A_p0_code p0_code.length c_p0_code, .int .i64 x1626, .int .i64 x1627]]) (hs.sel [1, 2, 0] (by decide)) hs1
                        clear hs1
                        have hs0 : St (muL [.blk b_p0 149 [.slice A_p0_code p0_code.length c_p0_code, .int .i64 p0_at, .int .i64 p0_seed]]) W w [.mat A3 n4 c5 28 2 vs7 ms1628, .row A72 n73 c74 2 1 (ints xs71)] := hs.sel [0, 1] (by decide)
                        refine wpO_nil ⟨Or.inr (fun _ => hs0), ?_⟩
                        refine mYp (i := 16) rfl (by kernel_rfl) (by kernel_rfl) hf rfl rfl rfl (fun _ => Y_sub rfl rfl rfl) ?_; clear hf; intro a hf
                        obtain ⟨q1816, hi1817, hm1741⟩ := bind_some hm1741
                        obtain ⟨hi1817a, hi1817b, hi1817q⟩ := idx_some hi1817
                        refine mYp (i := 17) rfl (by kernel_rfl) (by kernel_rfl) hf rfl rfl rfl (fun _ => Y_index rfl rfl rfl el28 ti2 (Rd.isAt (hs.rdRow (i := 0) rfl ⟨hi1806q, hv1809⟩) (at1 (ints_at hi1817q))) hi1817a hi1817b) ?_; clear hf; intro a hf
                        refine mRun (i := 18) rfl (by kernel_rfl) ?_
                        obtain ⟨xs1818, hu1820, hm1741⟩ := bind_some hm1741
                        obtain ⟨ms1819, hu1821, hm1741⟩ := bind_some hm1741
                        refine sStoreM (i := 0) (k := x968) hf hs rfl rfl rfl rfl rfl rfl hi1806q hv1809 rfl hu1820 hu1821 ti2 ?_; clear hs; intro w hs
                        obtain ⟨hq1822, hv1823⟩ := rowUpd hu1820 hu1821 hv1809
                        have hs : St (muL [.blk b_p0 149 [.slice A_p0_code p0_code.length c_p0_code, .int .i64 p0_at, .int .i64 p0_seed]]) W w [.mat A3 n4 c5 28 2 vs7 ms1819, .row A72 n73 c74 2 1 (ints xs71), .blk b_p0 149 [.slice A_p0_code p0_code.length c_p0_code, .int .i64 r1814.2.1, .int .i64 r1814.2.2]] := hs
                        refine wpO_nil ⟨Or.inl (by decide), ?_⟩
                        refine mDone (by kernel_rfl) ?_
                        clear hs0
                        refine wpL_seq ?_
                        refine wpL_region ?_
                        refine sY hf hs rfl rfl rfl (Y_move rfl rfl) ?_; clear hf; intro a hf
                        obtain ⟨r1824, hc1825, hm1741⟩ := bind_some hm1741
                        refine sCall hf rfl rfl rfl rfl (cap := []) rfl rfl en93 (spec_l01Next_ok F b_p0 p0_code A_p0_code p0_code.length c_p0_code rfl r1814.2.1 r1814.2.2 30 _ _ hc1825 (h_p0_code.pass hs [2]) (hs.sel [2] (by decide)).rebase) ?_; clear hf
                        rintro _ w ⟨rfl, hs1⟩ a hf
                        have hs : St (muL [.blk b_p0 149 [.slice A_p0_code p0_code.length c_p0_code, .int .i64 p0_at, .int .i64 p0_seed]]) W w [.mat A3 n4 c5 28 2 vs7 ms1819, .row A72 n73 c74 2 1 (ints xs71), .blk b_p0 149 [.slice A_p0_code p0_code.length c_p0_code, .int .i64 r1824.2.1, .int .i64 r1824.2.2]] := St.mutTail (La := [.mat A3 n4 c5 28 2 vs7 ms1819, .row A72 n73 c74 2 1 (ints xs71)]) (Lb := [.blk b_p0 149 [.slice A_p0_code p0_code.length c_p0_code, .int .i64 r1814.2.1, .int .i64 r1814.2.2]]) (hs.sel [0, 1, 2] (by decide)) hs1
                        clear hs1
                        refine sY hf hs rfl rfl rfl (Y_eql rfl rfl rfl) ?_; clear hf; intro a hf
                        refine wpO_nil ?_
                        refine wpL_cond hf rfl (fun hb1826 => ?_) (fun hb1826 => ?_)
                        · have hm1741 := bif_t hm1741 hb1826
                          refine wpL_drawM [.mat A3 n4 c5 28 2 vs7 ms1819, .row A72 n73 c74 2 1 (ints xs71), .blk b_p0 149 [.slice A_p0_code p0_code.length c_p0_code, .int .i64 r1824.2.1, .int .i64 r1824.2.2]] [14] (by kernel_rfl) hs ?_; clear hs; intro w hs
                          have hs0 : St (muL [.blk b_p0 149 [.slice A_p0_code p0_code.length c_p0_code, .int .i64 p0_at, .int .i64 p0_seed]]) W w [.mat A3 n4 c5 28 2 vs7 ms1819, .row A72 n73 c74 2 1 (ints xs71), .blk b_p0 149 [.slice A_p0_code p0_code.length c_p0_code, .int .i64 r1824.2.1, .int .i64 r1824.2.2]] := hs
                          refine mYp (i := 0) rfl (by kernel_rfl) (by kernel_rfl) hf rfl rfl rfl (fun _ => Y_move rfl rfl) ?_; clear hf; intro a hf
                          refine mYp (i := 1) rfl (by kernel_rfl) (by kernel_rfl) hf rfl rfl rfl (fun _ => Y_move rfl rfl) ?_; clear hf; intro a hf
                          obtain ⟨q1827, hi1828, hm1741⟩ := bind_some hm1741
                          obtain ⟨hi1828a, hi1828b, hi1828q⟩ := idx_some hi1828
                          obtain ⟨A1829, c1830, hv1831⟩ := hs.matRow (i := 0) rfl hi1828q
                          refine mYp (i := 2) rfl (by kernel_rfl) (by kernel_rfl) hf rfl rfl rfl (fun _ => Y_index rfl rfl rfl el40 ti28 (Rd.isAt (hs.rdV (i := 0) rfl) hv1831) hi1828a (ltn ((hn1629).trans (upd_len hu1821).symm) hi1828b)) ?_; clear hf; intro a hf
                          refine mY (i := 3) [[]] rfl (by kernel_rfl) (by kernel_rfl) hf hs0 rfl rfl rfl (Y_load_rd rfl rfl (fun w hs => hs.rdV (i := 0) rfl) (at1 hv1831) ag28) ?_; clear hf; intro a hf
                          refine mYp (i := 4) rfl (by kernel_rfl) (by kernel_rfl) hf rfl rfl rfl (fun _ => Y_move rfl rfl) ?_; clear hf; intro a hf
                          refine mYp (i := 5) rfl (by kernel_rfl) (by kernel_rfl) hf rfl rfl rfl (fun _ => Y_move rfl rfl) ?_; clear hf; intro a hf
                          refine mYp (i := 6) rfl (by kernel_rfl) (by kernel_rfl) hf rfl rfl rfl (fun _ => Y_move rfl rfl) ?_; clear hf; intro a hf
                          obtain ⟨q1832, hi1833, hm1741⟩ := bind_some hm1741
                          obtain ⟨hi1833a, hi1833b, hi1833q⟩ := idx_some hi1833
                          obtain ⟨A1834, c1835, hv1836⟩ := hs.matRow (i := 0) rfl hi1833q
                          refine mYp (i := 7) rfl (by kernel_rfl) (by kernel_rfl) hf rfl rfl rfl (fun _ => Y_index rfl rfl rfl el40 ti28 (Rd.isAt (hs.rdV (i := 0) rfl) hv1836) hi1833a (ltn ((hn1629).trans (upd_len hu1821).symm) hi1833b)) ?_; clear hf; intro a hf
                          refine mY (i := 8) [[]] rfl (by kernel_rfl) (by kernel_rfl) hf hs0 rfl rfl rfl (Y_load_rd rfl rfl (fun w hs => hs.rdV (i := 0) rfl) (at1 hv1836) ag28) ?_; clear hf; intro a hf
                          refine mYp (i := 9) rfl (by kernel_rfl) (by kernel_rfl) hf rfl rfl rfl (fun _ => Y_move rfl rfl) ?_; clear hf; intro a hf
                          obtain ⟨q1837, hi1838, hm1741⟩ := bind_some hm1741
                          obtain ⟨hi1838a, hi1838b, hi1838q⟩ := idx_some hi1838
                          refine mYp (i := 10) rfl (by kernel_rfl) (by kernel_rfl) hf rfl rfl rfl (fun _ => Y_index rfl rfl rfl el28 ti2 (Rd.isAt (hs.rdRow (i := 0) rfl ⟨hi1833q, hv1836⟩) (at1 (ints_at hi1838q))) hi1838a hi1838b) ?_; clear hf; intro a hf
                          refine mY (i := 11) [[]] rfl (by kernel_rfl) (by kernel_rfl) hf hs0 rfl rfl rfl (Y_load_rd rfl rfl (fun w hs => hs.rdRow (i := 0) rfl ⟨hi1833q, hv1836⟩) (at1 (ints_at hi1838q)) ag2) ?_; clear hf; intro a hf
                          refine mYp (i := 12) rfl (by kernel_rfl) (by kernel_rfl) hf rfl rfl rfl (fun _ => Y_add rfl rfl rfl) ?_; clear hf; intro a hf
                          obtain ⟨q1839, hi1840, hm1741⟩ := bind_some hm1741
                          obtain ⟨hi1840a, hi1840b, hi1840q⟩ := idx_some hi1840
                          refine mYp (i := 13) rfl (by kernel_rfl) (by kernel_rfl) hf rfl rfl rfl (fun _ => Y_index rfl rfl rfl el28 ti2 (Rd.isAt (hs.rdRow (i := 0) rfl ⟨hi1828q, hv1831⟩) (at1 (ints_at hi1840q))) hi1840a hi1840b) ?_; clear hf; intro a hf
                          refine mRun (i := 14) rfl (by kernel_rfl) ?_
                          obtain ⟨xs1841, hu1843, hm1741⟩ := bind_some hm1741
                          obtain ⟨ms1842, hu1844, hm1741⟩ := bind_some hm1741
                          refine sStoreM (i := 0) (k := x968) hf hs rfl rfl rfl rfl rfl rfl hi1828q hv1831 rfl hu1843 hu1844 ti2 ?_; clear hs; intro w hs
                          obtain ⟨hq1845, hv1846⟩ := rowUpd hu1843 hu1844 hv1831
                          have hs : St (muL [.blk b_p0 149 [.slice A_p0_code p0_code.length c_p0_code, .int .i64 p0_at, .int .i64 p0_seed]]) W w [.mat A3 n4 c5 28 2 vs7 ms1842, .row A72 n73 c74 2 1 (ints xs71), .blk b_p0 149 [.slice A_p0_code p0_code.length c_p0_code, .int .i64 r1824.2.1, .int .i64 r1824.2.2]] := hs
                          refine wpO_nil ⟨Or.inl (by decide), ?_⟩
                          refine mDone (by kernel_rfl) ?_
                          clear hs0
                          refine wpL_nil (Qb_normal ?_)
                          refine wpL_region ?_
                          refine sY hf hs rfl rfl rfl (Y_move rfl rfl) ?_; clear hf; intro a hf
                          refine sY hf hs rfl rfl rfl (Y_add rfl rfl rfl) ?_; clear hf; intro a hf
                          refine sY hf hs rfl rfl rfl (Y_assign rfl rfl) ?_; clear hf; intro a hf
                          refine wpO_nil ?_
                          refine wpL_nil (Ql_normal ?_)
                          exact ⟨r1824.2.1, r1824.2.2, ms1842, (IntKind.i64.wrap (x1630 + 1)), hm1741, ((((hn1629).trans (upd_len hu1821).symm)).trans (upd_len hu1844).symm), (FrD.pick (FrD.pick (FrD.pick (FrD.pick (FrD.pick hf.none hf rfl) hf rfl) hf rfl) hf rfl) hf rfl), hs.sel [2, 0, 1] (by decide)⟩
                        · have hm1741 := bif_f hm1741 hb1826
                          refine wpL_skip ?_
                          refine wpL_nil (Qb_normal ?_)
                          refine wpL_region ?_
                          refine sY hf hs rfl rfl rfl (Y_move rfl rfl) ?_; clear hf; intro a hf
                          refine sY hf hs rfl rfl rfl (Y_add rfl rfl rfl) ?_; clear hf; intro a hf
                          refine sY hf hs rfl rfl rfl (Y_assign rfl rfl) ?_; clear hf; intro a hf
                          refine wpO_nil ?_
                          refine wpL_nil (Ql_normal ?_)
                          exact ⟨r1824.2.1, r1824.2.2, ms1819, (IntKind.i64.wrap (x1630 + 1)), hm1741, ((hn1629).trans (upd_len hu1821).symm), (FrD.pick (FrD.pick (FrD.pick (FrD.pick (FrD.pick hf.none hf rfl) hf rfl) hf rfl) hf rfl) hf rfl), hs.sel [2, 0, 1] (by decide)⟩
                      · have hm1741 := bif_f hm1741 hb1785
                        refine wpL_skip ?_
                        refine wpL_nil (Qb_normal ?_)
                        refine wpL_region ?_
                        refine sY hf hs rfl rfl rfl (Y_move rfl rfl) ?_; clear hf; intro a hf
                        refine sY hf hs rfl rfl rfl (Y_add rfl rfl rfl) ?_; clear hf; intro a hf
                        refine sY hf hs rfl rfl rfl (Y_assign rfl rfl) ?_; clear hf; intro a hf
                        refine wpO_nil ?_
                        refine wpL_nil (Ql_normal ?_)
                        exact ⟨x1626, x1627, ms1628, (IntKind.i64.wrap (x1630 + 1)), hm1741, hn1629, (FrD.pick (FrD.pick (FrD.pick (FrD.pick (FrD.pick hf.none hf rfl) hf rfl) hf rfl) hf rfl) hf rfl), hs⟩
                  · have hm1741 := bif_f hm1741 hb1743
                    refine wpL_exit (Ql_exit (Qb_exit ?_))
                    exact ⟨x1626, x1627, ms1628, Option.some.inj hm1741, hn1629, (FrD.pick (FrD.pick (FrD.pick (FrD.pick hf.none hf rfl) hf rfl) hf rfl) hf rfl), hs⟩
              · rintro a w ⟨x1735, x1736, ms1737, hr_, hn1738, hf, hs⟩
                subst hr_
                try dsimp only at hm1410
                refine wpL_nil (Qb_normal ?_)
                refine wpL_region ?_
                refine sY hf hs rfl rfl rfl (Y_move rfl rfl) ?_; clear hf; intro a hf
                refine sY hf hs rfl rfl rfl (Y_add rfl rfl rfl) ?_; clear hf; intro a hf
                refine sY hf hs rfl rfl rfl (Y_assign rfl rfl) ?_; clear hf; intro a hf
                refine wpO_nil ?_
                refine wpL_nil (Ql_normal ?_)
                exact ⟨x1735, x1736, ms1737, (IntKind.i64.wrap (x968 + 1)), hm1410, hn1738, (FrD.pick (FrD.pick (FrD.pick (FrD.pick hf.none hf rfl) hf rfl) hf rfl) hf rfl), hs⟩
            · have hm1410 := bif_f hm1410 hb1412
              refine wpL_exit (Ql_exit (Qb_exit ?_))
              exact ⟨x964, x965, ms966, Option.some.inj hm1410, hn967, (FrD.pick hf.none hf rfl), hs.sel [0, 1] (by decide)⟩
        · rintro a w ⟨x1404, x1405, ms1406, hr_, hn1407, hf, hs⟩
          subst hr_
          try dsimp only at hm
          refine wpL_seq ?_
          refine wpL_region ?_
          refine sY hf hs rfl rfl rfl (Y_move rfl rfl) ?_; clear hf; intro a hf
          refine sY hf hs rfl rfl rfl (Y_assign rfl rfl) ?_; clear hf; intro a hf
          refine wpO_nil ?_
          obtain rfl := Option.some.inj hm
          refine wpL_ret (ret_tmp rfl hf rfl ?_)
          exact ⟨_, rfl, A3, n4, c5, vs7, rfl, hn1407, hs.sel [1, 0] (by decide)⟩

set_option maxRecDepth 100000 in
theorem spec_DrawPositiveCycle_ok (F : Nat) (p0_code : List Int) (A_p0_code_1 : Option Addr) (n_p0_code_1 c_p0_code_1 : Nat) (hn_p0_code_1 : n_p0_code_1 = p0_code.length) (r : List (List Int)) (W : World) (hm : spec_DrawPositiveCycle F p0_code = some r) (h_p0_code_1 : Rd W A_p0_code_1 (bytes p0_code)) :
    Calls Try.prog 34 [.slice A_p0_code_1 n_p0_code_1 c_p0_code_1].toArray W fun e w' => ∃ v, e = .returned v ∧ ∃ A21, ∃ n22, ∃ c23, ∃ vs25, v = .slice A21 n22 c23 ∧ n22 = r.length ∧ St [] W w' [.mat A21 n22 c23 28 2 vs25 r] := by
  subst hn_p0_code_1
  unfold spec_DrawPositiveCycle at hm
  refine Calls.enter (N := 13) Try.func34 rfl rfl rfl (fun a hf => ?_)
  have hs := St.start W
  obtain ⟨w, hw_⟩ : ∃ w, w = W := ⟨W, rfl⟩
  clear hw_ w
  refine wpL_seq ?_
  refine wpL_region ?_
  refine sY hf hs rfl rfl rfl (Y_assign rfl rfl) ?_; clear hf; intro a hf
  refine wpO_nil ?_
  refine wpL_seq ?_
  refine wpL_region ?_
  refine sY hf hs rfl rfl rfl (Y_move rfl rfl) ?_; clear hf; intro a hf
  obtain ⟨r1, hc2, hm⟩ := bind_some hm
  refine sCall hf rfl rfl rfl rfl (cap := []) rfl rfl en65 (spec_l01From_ok F p0_code A_p0_code_1 p0_code.length c_p0_code_1 rfl _ _ hc2 (h_p0_code_1.at hs)) ?_; clear hf
  rintro _ w ⟨b3, rfl, hs1⟩ a hf
  have hs : St [] W w [.blk b3 149 [.slice A_p0_code_1 p0_code.length c_p0_code_1, .int .i64 r1.1, .int .i64 r1.2]] := hs.join hs1
  clear hs1
  refine sY hf hs rfl rfl rfl (Y_assign rfl rfl) ?_; clear hf; intro a hf
  refine wpO_nil ?_
  refine wpL_seq ?_
  refine wpL_seq ?_
  refine wpL_region ?_
  refine sY hf hs rfl rfl rfl (Y_move rfl rfl) ?_; clear hf; intro a hf
  obtain ⟨r4, hc5, hm⟩ := bind_some hm
  refine sCall hf rfl rfl rfl rfl (cap := []) rfl rfl en93 (spec_l01Next_ok F b3 p0_code A_p0_code_1 p0_code.length c_p0_code_1 rfl r1.1 r1.2 2 _ _ hc5 (h_p0_code_1.pass hs [0]) (hs.sel [0] (by decide)).rebase) ?_; clear hf
  rintro _ w ⟨rfl, hs1⟩ a hf
  have hs : St [] W w [.blk b3 149 [.slice A_p0_code_1 p0_code.length c_p0_code_1, .int .i64 r4.2.1, .int .i64 r4.2.2]] := St.mutTail (La := []) (Lb := [.blk b3 149 [.slice A_p0_code_1 p0_code.length c_p0_code_1, .int .i64 r1.1, .int .i64 r1.2]]) (hs.sel [0] (by decide)) hs1
  clear hs1
  refine sY hf hs rfl rfl rfl (Y_eql rfl rfl rfl) ?_; clear hf; intro a hf
  refine wpO_nil ?_
  refine wpL_cond hf rfl (fun hb6 => ?_) (fun hb6 => ?_)
  · have hm := bif_t hm hb6
    refine wpL_seq ?_
    refine wpL_region ?_
    refine sY hf hs rfl rfl rfl (Y_move rfl rfl) ?_; clear hf; intro a hf
    obtain ⟨r7, hc8, hm⟩ := bind_some hm
    refine sCall hf rfl rfl rfl rfl (cap := []) rfl rfl en94 (spec_l02DrawSquare_ok F b3 p0_code A_p0_code_1 p0_code.length c_p0_code_1 rfl r4.2.1 r4.2.2 _ _ hc8 (h_p0_code_1.pass hs [0]) (hs.sel [0] (by decide)).rebase) ?_; clear hf
    rintro _ w ⟨A9, n10, c11, vs13, rfl, hn12, hs1⟩ a hf
    have hs : St [] W w [.mat A9 n10 c11 28 2 vs13 r7.1, .blk b3 149 [.slice A_p0_code_1 p0_code.length c_p0_code_1, .int .i64 r7.2.1, .int .i64 r7.2.2]] := St.mutTail (La := []) (Lb := [.blk b3 149 [.slice A_p0_code_1 p0_code.length c_p0_code_1, .int .i64 r4.2.1, .int .i64 r4.2.2]]) (hs.sel [0] (by decide)) hs1
    clear hs1
    refine sY hf hs rfl rfl rfl (Y_assign rfl rfl) ?_; clear hf; intro a hf
    refine wpO_nil ?_
    obtain rfl := Option.some.inj hm
    refine wpL_ret (ret_tmp rfl hf rfl ?_)
    exact ⟨_, rfl, A9, n10, c11, vs13, rfl, hn12, hs.sel [0] (by decide)⟩
  · have hm := bif_f hm hb6
    refine wpL_skip ?_
    refine wpL_seq ?_
    refine wpL_region ?_
    refine sY hf hs rfl rfl rfl (Y_move rfl rfl) ?_; clear hf; intro a hf
    obtain ⟨r14, hc15, hm⟩ := bind_some hm
    refine sCall hf rfl rfl rfl rfl (cap := []) rfl rfl en78 (spec_l03Draw_ok F b3 p0_code A_p0_code_1 p0_code.length c_p0_code_1 rfl r4.2.1 r4.2.2 _ _ hc15 (h_p0_code_1.pass hs [0]) (hs.sel [0] (by decide)).rebase) ?_; clear hf
    rintro _ w ⟨A16, n17, c18, vs20, rfl, hn19, hs1⟩ a hf
    have hs : St [] W w [.mat A16 n17 c18 28 2 vs20 r14.1, .blk b3 149 [.slice A_p0_code_1 p0_code.length c_p0_code_1, .int .i64 r14.2.1, .int .i64 r14.2.2]] := St.mutTail (La := []) (Lb := [.blk b3 149 [.slice A_p0_code_1 p0_code.length c_p0_code_1, .int .i64 r4.2.1, .int .i64 r4.2.2]]) (hs.sel [0] (by decide)) hs1
    clear hs1
    refine sY hf hs rfl rfl rfl (Y_assign rfl rfl) ?_; clear hf; intro a hf
    refine wpO_nil ?_
    obtain rfl := Option.some.inj hm
    refine wpL_ret (ret_tmp rfl hf rfl ?_)
    exact ⟨_, rfl, A16, n17, c18, vs20, rfl, hn19, hs.sel [0] (by decide)⟩

set_option maxRecDepth 100000 in
theorem impl_within_ok (F : Nat) (p0_n : Int) (p1_low : Int) (p2_high : Int) (r : Bool) (W : World) (hm : impl_within F p0_n p1_low p2_high = some r) :
    Calls Try.prog 71 [.int .i64 p0_n, .int .i64 p1_low, .int .i64 p2_high].toArray W fun e w' => ∃ v, e = .returned v ∧ v = .bool r ∧ St [] W w' [] := by
  unfold impl_within at hm
  refine Calls.enter (N := 15) Try.func71 rfl rfl rfl (fun a hf => ?_)
  have hs := St.start W
  obtain ⟨w, hw_⟩ : ∃ w, w = W := ⟨W, rfl⟩
  clear hw_ w
  refine wpL_seq ?_
  refine wpL_region ?_
  refine sY hf hs rfl rfl rfl (Y_assign rfl rfl) ?_; clear hf; intro a hf
  refine wpO_nil ?_
  refine wpL_seq ?_
  obtain ⟨r3, hj4, hm⟩ := bind_some hm
  refine wpL_cut (fun a w => ∃ b2 : Bool, b2 = r3 ∧ Fr a 15 [(6, .bool b2)] ∧ St [] W w []) ?_ ?_
  · refine wpL_region ?_
    refine sY hf hs rfl rfl rfl (Y_move rfl rfl) ?_; clear hf; intro a hf
    refine sY hf hs rfl rfl rfl (Y_move rfl rfl) ?_; clear hf; intro a hf
    refine sY hf hs rfl rfl rfl (Y_geq rfl rfl rfl) ?_; clear hf; intro a hf
    refine sY hf hs rfl rfl rfl (Y_move rfl rfl) ?_; clear hf; intro a hf
    refine bsplit (decide (p1_low ≤ p0_n)) (fun hb5 => ?_) (fun hb5 => ?_)
    · have hj4 := bif_t hj4 hb5
      refine sYg hf hs rfl rfl rfl (congrArg (fun b => some (Value.bool b)) hb5) rfl rfl rfl (Y_move rfl rfl) ?_; clear hf; intro a hf
      refine sYg hf hs rfl rfl rfl (congrArg (fun b => some (Value.bool b)) hb5) rfl rfl rfl (Y_move rfl rfl) ?_; clear hf; intro a hf
      refine sYg hf hs rfl rfl rfl (congrArg (fun b => some (Value.bool b)) hb5) rfl rfl rfl (Y_leq rfl rfl rfl) ?_; clear hf; intro a hf
      refine sY hf hs rfl rfl rfl (Y_pickT rfl (congrArg (fun b => some (Value.bool b)) hb5) rfl) ?_; clear hf; intro a hf
      refine sY hf hs rfl rfl rfl (Y_assign rfl rfl) ?_; clear hf; intro a hf
      refine wpO_nil ?_
      refine wpL_nil (then_normal ?_)
      exact ⟨(decide (p0_n ≤ p2_high)), Option.some.inj hj4, (FrD.pick hf.none hf rfl), hs⟩
    · have hj4 := bif_f hj4 hb5
      refine sNo hf rfl rfl rfl (congrArg (fun b => some (Value.bool b)) hb5) rfl rfl rfl ?_; clear hf; intro a hf
      refine sNo hf rfl rfl rfl (congrArg (fun b => some (Value.bool b)) hb5) rfl rfl rfl ?_; clear hf; intro a hf
      refine sNo hf rfl rfl rfl (congrArg (fun b => some (Value.bool b)) hb5) rfl rfl rfl ?_; clear hf; intro a hf
      refine sY hf hs rfl rfl rfl (Y_pickF rfl (congrArg (fun b => some (Value.bool b)) hb5) rfl) ?_; clear hf; intro a hf
      refine sY hf hs rfl rfl rfl (Y_assign rfl rfl) ?_; clear hf; intro a hf
      refine wpO_nil ?_
      refine wpL_nil (then_normal ?_)
      exact ⟨false, Option.some.inj hj4, (FrD.pick hf.none hf rfl), hs⟩
  · rintro a w ⟨b2, hr_, hf, hs⟩
    subst hr_
    try dsimp only at hm
    obtain rfl := Option.some.inj hm
    refine wpL_ret (ret_tmp rfl hf rfl ?_)
    exact ⟨_, rfl, rfl, hs⟩

set_option maxRecDepth 100000 in
theorem slices_IndexFunc_int64_ok (F : Nat) (p0_s : List Int) (A_p0_s_1 : Option Addr) (n_p0_s_1 c_p0_s_1 : Nat) (hn_p0_s_1 : n_p0_s_1 = p0_s.length) (m_p1_f : Int → Option Bool) (f_p1_f : FuncId) (k_p1_f : List Value) (r : Int) (W : World) (hm : slices_IndexFunc_int64 F p0_s m_p1_f = some r) (h_p0_s_1 : Rd W A_p0_s_1 (ints p0_s)) (h_p1_f : ∀ (x0 : Int) (r : Bool) (w : World), m_p1_f x0 = some r → Below W.heap.size W w → Calls Try.prog f_p1_f (([.int .i64 x0] : List Value) ++ k_p1_f).toArray w fun e w' => ∃ v, e = .returned v ∧ v = .bool r ∧ St [] w w' []) (e_p1_f : En Try.prog f_p1_f) :
    Calls Try.prog 217 [.slice A_p0_s_1 n_p0_s_1 c_p0_s_1, .func (.func f_p1_f) #[] k_p1_f.toArray].toArray W fun e w' => ∃ v, e = .returned v ∧ v = .int .i64 r ∧ St [] W w' [] := by
  subst hn_p0_s_1
  unfold slices_IndexFunc_int64 at hm
  refine Calls.enter (N := 19) Try.func217 rfl rfl rfl (fun a hf => ?_)
  have hs := St.start W
  obtain ⟨w, hw_⟩ : ∃ w, w = W := ⟨W, rfl⟩
  clear hw_ w
  refine wpL_seq ?_
  refine wpL_region ?_
  refine sY hf hs rfl rfl rfl (Y_assign rfl rfl) ?_; clear hf; intro a hf
  refine wpO_nil ?_
  refine wpL_seq ?_
  refine wpL_seq ?_
  refine wpL_region ?_
  refine sY hf hs rfl rfl rfl (Y_move rfl rfl) ?_; clear hf; intro a hf
  refine sY hf hs rfl rfl rfl (Y_lenH rfl rfl el28 rfl) ?_; clear hf; intro a hf
  refine sY hf hs rfl rfl rfl (Y_move rfl rfl) ?_; clear hf; intro a hf
  refine wpO_nil ?_
  obtain ⟨r21, hl22, hm⟩ := bind_some hm
  refine wpL_block (fun a w => Sum.inr () = r21 ∧ Fr a 19 [] ∧ St [] W w []) ?_ ?_
  · refine wpL_loop (fun n a w => ∃ x14 : Int, slices_IndexFunc_int64_L1 F p0_s m_p1_f n x14 = some r21 ∧ Fr a 19 [(0, .slice A_p0_s_1 p0_s.length c_p0_s_1), (1, .func (.func f_p1_f) #[] k_p1_f.toArray), (7, .int .i64 (p0_s.length : Int)), (8, .int .i64 x14)] ∧ St [] W w []) F ?_ ?_ ?_
    · exact ⟨0, hl22, (FrD.pick (FrD.pick (FrD.pick (FrD.pick hf.none hf rfl) hf rfl) hf rfl) hf rfl), hs⟩
    · rintro a w ⟨x14, h0_, -, -⟩; simp [slices_IndexFunc_int64_L1] at h0_
    · rintro n24 a w ⟨x14, hm23, hf, hs⟩
      rw [slices_IndexFunc_int64_L1] at hm23
      refine wpL_seq ?_
      refine wpL_region ?_
      refine sY hf hs rfl rfl rfl (Y_lss rfl rfl rfl) ?_; clear hf; intro a hf
      refine wpO_nil ?_
      refine wpL_seq ?_
      refine wpL_cond hf rfl (fun hb25 => ?_) (fun hb25 => ?_)
      · have hm23 := bif_t hm23 hb25
        refine wpL_skip ?_
        refine wpL_seq ?_
        refine wpL_block0 ?_
        refine wpL_seq ?_
        refine wpL_region ?_
        refine sY hf hs rfl rfl rfl (Y_move rfl rfl) ?_; clear hf; intro a hf
        refine sY hf hs rfl rfl rfl (Y_assign rfl rfl) ?_; clear hf; intro a hf
        refine wpO_nil ?_
        refine wpL_seq ?_
        refine wpL_region ?_
        refine sY hf hs rfl rfl rfl (Y_move rfl rfl) ?_; clear hf; intro a hf
        refine sY hf hs rfl rfl rfl (Y_move rfl rfl) ?_; clear hf; intro a hf
        refine sY hf hs rfl rfl rfl (Y_move rfl rfl) ?_; clear hf; intro a hf
        obtain ⟨q26, hi27, hm23⟩ := bind_some hm23
        obtain ⟨hi27a, hi27b, hi27q⟩ := idx_some hi27
        refine sY hf hs rfl rfl rfl (Y_index rfl rfl rfl el28 ti2 (Rd.isAt (h_p0_s_1.at hs) (at1 (ints_at hi27q))) hi27a hi27b) ?_; clear hf; intro a hf
        refine sY hf hs rfl rfl rfl (Y_load_rd rfl rfl (fun w hs => h_p0_s_1.at hs) (at1 (ints_at hi27q)) ag2) ?_; clear hf; intro a hf
        obtain ⟨r28, hc29, hm23⟩ := bind_some hm23
        refine sCall hf rfl rfl rfl rfl (cap := k_p1_f) rfl rfl e_p1_f (h_p1_f q26 _ _ hc29 hs.below) ?_; clear hf; rintro _ w ⟨rfl, hs1⟩ a hf; have hs := hs.ext hs1.below; clear hs1
        refine wpO_nil ?_
        refine wpL_cond hf rfl (fun hb30 => ?_) (fun hb30 => ?_)
        · have hm23 := bif_t hm23 hb30
          refine wpL_seq ?_
          refine wpL_region ?_
          refine sY hf hs rfl rfl rfl (Y_move rfl rfl) ?_; clear hf; intro a hf
          refine sY hf hs rfl rfl rfl (Y_assign rfl rfl) ?_; clear hf; intro a hf
          refine wpO_nil ?_
          obtain rfl := Option.some.inj hm23
          try dsimp only at hm
          obtain rfl := Option.some.inj hm
          refine wpL_ret (Qb_ret (Ql_ret (Qb_ret (ret_tmp rfl hf rfl ?_))))
          exact ⟨_, rfl, rfl, hs⟩
        · have hm23 := bif_f hm23 hb30
          refine wpL_skip ?_
          refine wpL_nil (Qb_normal ?_)
          refine wpL_region ?_
          refine sY hf hs rfl rfl rfl (Y_add rfl rfl rfl) ?_; clear hf; intro a hf
          refine sY hf hs rfl rfl rfl (Y_move rfl rfl) ?_; clear hf; intro a hf
          refine wpO_nil ?_
          refine wpL_nil (Ql_normal ?_)
          exact ⟨(IntKind.i64.wrap (x14 + 1)), hm23, (FrD.pick (FrD.pick (FrD.pick (FrD.pick hf.none hf rfl) hf rfl) hf rfl) hf rfl), hs⟩
      · have hm23 := bif_f hm23 hb25
        refine wpL_exit (Ql_exit (Qb_exit ?_))
        exact ⟨Option.some.inj hm23, hf.none, hs⟩
  · rintro a w ⟨hr_, hf, hs⟩
    subst hr_
    try dsimp only at hm
    refine wpL_seq ?_
    refine wpL_region ?_
    refine sY hf hs rfl rfl rfl (Y_assign rfl rfl) ?_; clear hf; intro a hf
    refine wpO_nil ?_
    obtain rfl := Option.some.inj hm
    refine wpL_ret (ret_tmp rfl hf rfl ?_)
    exact ⟨_, rfl, rfl, hs⟩

set_option maxRecDepth 100000 in
theorem slices_ContainsFunc_int64_ok (F : Nat) (p0_s : List Int) (A_p0_s_1 : Option Addr) (n_p0_s_1 c_p0_s_1 : Nat) (hn_p0_s_1 : n_p0_s_1 = p0_s.length) (m_p1_f : Int → Option Bool) (f_p1_f : FuncId) (k_p1_f : List Value) (r : Bool) (W : World) (hm : slices_ContainsFunc_int64 F p0_s m_p1_f = some r) (h_p0_s_1 : Rd W A_p0_s_1 (ints p0_s)) (h_p1_f : ∀ (x0 : Int) (r : Bool) (w : World), m_p1_f x0 = some r → Below W.heap.size W w → Calls Try.prog f_p1_f (([.int .i64 x0] : List Value) ++ k_p1_f).toArray w fun e w' => ∃ v, e = .returned v ∧ v = .bool r ∧ St [] w w' []) (e_p1_f : En Try.prog f_p1_f) :
    Calls Try.prog 191 [.slice A_p0_s_1 n_p0_s_1 c_p0_s_1, .func (.func f_p1_f) #[] k_p1_f.toArray].toArray W fun e w' => ∃ v, e = .returned v ∧ v = .bool r ∧ St [] W w' [] := by
  subst hn_p0_s_1
  unfold slices_ContainsFunc_int64 at hm
  refine Calls.enter (N := 9) Try.func191 rfl rfl rfl (fun a hf => ?_)
  have hs := St.start W
  obtain ⟨w, hw_⟩ : ∃ w, w = W := ⟨W, rfl⟩
  clear hw_ w
  refine wpL_seq ?_
  refine wpL_region ?_
  refine sY hf hs rfl rfl rfl (Y_assign rfl rfl) ?_; clear hf; intro a hf
  refine wpO_nil ?_
  refine wpL_seq ?_
  refine wpL_region ?_
  refine sY hf hs rfl rfl rfl (Y_move rfl rfl) ?_; clear hf; intro a hf
  refine sY hf hs rfl rfl rfl (Y_move rfl rfl) ?_; clear hf; intro a hf
  obtain ⟨r1, hc2, hm⟩ := bind_some hm
  refine sCall hf rfl rfl rfl rfl (cap := []) rfl rfl en217 (slices_IndexFunc_int64_ok F p0_s A_p0_s_1 p0_s.length c_p0_s_1 rfl m_p1_f f_p1_f k_p1_f _ _ hc2 (h_p0_s_1.at hs) (fun x0 r w' hm_ hb => h_p1_f x0 r w' hm_ (hs.below.trans (hb.mono hs.below.size))) e_p1_f) ?_; clear hf
  rintro _ w ⟨rfl, hs1⟩ a hf
  have hs : St [] W w [] := hs.ext hs1.below
  clear hs1
  refine sY hf hs rfl rfl rfl (Y_geq rfl rfl rfl) ?_; clear hf; intro a hf
  refine sY hf hs rfl rfl rfl (Y_assign rfl rfl) ?_; clear hf; intro a hf
  refine wpO_nil ?_
  obtain rfl := Option.some.inj hm
  refine wpL_ret (ret_tmp rfl hf rfl ?_)
  exact ⟨_, rfl, rfl, hs⟩

set_option maxRecDepth 100000 in
theorem impl_isFinite_ok (F : Nat) (p0_n : Int) (r : Bool) (W : World) (hm : impl_isFinite F p0_n = some r) :
    Calls Try.prog 142 [.int .i64 p0_n].toArray W fun e w' => ∃ v, e = .returned v ∧ v = .bool r ∧ St [] W w' [] := by
  unfold impl_isFinite at hm
  refine Calls.enter (N := 5) Try.func142 rfl rfl rfl (fun a hf => ?_)
  have hs := St.start W
  obtain ⟨w, hw_⟩ : ∃ w, w = W := ⟨W, rfl⟩
  clear hw_ w
  refine wpL_seq ?_
  refine wpL_region ?_
  refine sY hf hs rfl rfl rfl (Y_assign rfl rfl) ?_; clear hf; intro a hf
  refine wpO_nil ?_
  refine wpL_seq ?_
  refine wpL_region ?_
  refine sY hf hs rfl rfl rfl (Y_move rfl rfl) ?_; clear hf; intro a hf
  obtain ⟨r1, hc2, hm⟩ := bind_some hm
  refine sCall hf rfl rfl rfl rfl (cap := []) rfl rfl en71 (impl_within_ok F p0_n (-1000000) 1000000 _ _ hc2) ?_; clear hf
  rintro _ w ⟨rfl, hs1⟩ a hf
  have hs : St [] W w [] := hs.ext hs1.below
  clear hs1
  refine sY hf hs rfl rfl rfl (Y_assign rfl rfl) ?_; clear hf; intro a hf
  refine wpO_nil ?_
  obtain rfl := Option.some.inj hm
  refine wpL_ret (ret_tmp rfl hf rfl ?_)
  exact ⟨_, rfl, rfl, hs⟩

set_option maxRecDepth 100000 in
theorem impl_IsValue_ok (F : Nat) (p0_a : Int) (r : Bool) (W : World) (hm : impl_IsValue F p0_a = some r) :
    Calls Try.prog 164 [.int .i64 p0_a].toArray W fun e w' => ∃ v, e = .returned v ∧ v = .bool r ∧ St [] W w' [] := by
  unfold impl_IsValue at hm
  refine Calls.enter (N := 9) Try.func164 rfl rfl rfl (fun a hf => ?_)
  have hs := St.start W
  obtain ⟨w, hw_⟩ : ∃ w, w = W := ⟨W, rfl⟩
  clear hw_ w
  refine wpL_seq ?_
  refine wpL_region ?_
  refine sY hf hs rfl rfl rfl (Y_assign rfl rfl) ?_; clear hf; intro a hf
  refine wpO_nil ?_
  refine wpL_seq ?_
  obtain ⟨r5, hj6, hm⟩ := bind_some hm
  refine wpL_cut (fun a w => ∃ b4 : Bool, b4 = r5 ∧ Fr a 9 [(2, .bool b4)] ∧ St [] W w []) ?_ ?_
  · refine wpL_region ?_
    refine sY hf hs rfl rfl rfl (Y_move rfl rfl) ?_; clear hf; intro a hf
    refine sY hf hs rfl rfl rfl (Y_eql rfl rfl rfl) ?_; clear hf; intro a hf
    refine sY hf hs rfl rfl rfl (Y_move rfl rfl) ?_; clear hf; intro a hf
    refine bsplit (p0_a == (-1000000000000000)) (fun hb7 => ?_) (fun hb7 => ?_)
    · have hj6 := bif_t hj6 hb7
      refine sNo hf rfl rfl rfl (congrArg (fun b => some (Value.bool b)) hb7) rfl rfl rfl ?_; clear hf; intro a hf
      refine sNo hf rfl rfl rfl (congrArg (fun b => some (Value.bool b)) hb7) rfl rfl rfl ?_; clear hf; intro a hf
      refine sY hf hs rfl rfl rfl (Y_pickT rfl (congrArg (fun b => some (Value.bool b)) hb7) rfl) ?_; clear hf; intro a hf
      refine sY hf hs rfl rfl rfl (Y_assign rfl rfl) ?_; clear hf; intro a hf
      refine wpO_nil ?_
      refine wpL_nil (then_normal ?_)
      exact ⟨true, Option.some.inj hj6, (FrD.pick hf.none hf rfl), hs⟩
    · have hj6 := bif_f hj6 hb7
      refine sYg hf hs rfl rfl rfl (congrArg (fun b => some (Value.bool b)) hb7) rfl rfl rfl (Y_move rfl rfl) ?_; clear hf; intro a hf
      obtain ⟨r8, hc9, hj6⟩ := bind_some hj6
      refine sCallg hf rfl rfl rfl (congrArg (fun b => some (Value.bool b)) hb7) rfl rfl rfl rfl (cap := []) rfl rfl en142 (impl_isFinite_ok F p0_a _ _ hc9) ?_; clear hf
      rintro _ w ⟨rfl, hs1⟩ a hf
      have hs : St [] W w [] := hs.ext hs1.below
      clear hs1
      refine sY hf hs rfl rfl rfl (Y_pickF rfl (congrArg (fun b => some (Value.bool b)) hb7) rfl) ?_; clear hf; intro a hf
      refine sY hf hs rfl rfl rfl (Y_assign rfl rfl) ?_; clear hf; intro a hf
      refine wpO_nil ?_
      refine wpL_nil (then_normal ?_)
      exact ⟨r8, Option.some.inj hj6, (FrD.pick hf.none hf rfl), hs⟩
  · rintro a w ⟨b4, hr_, hf, hs⟩
    subst hr_
    try dsimp only at hm
    obtain rfl := Option.some.inj hm
    refine wpL_ret (ret_tmp rfl hf rfl ?_)
    exact ⟨_, rfl, rfl, hs⟩

set_option maxRecDepth 100000 in
theorem impl_areValues_c1_ok (F : Nat) (p0_n : Int) (r : Bool) (W : World) (hm : impl_areValues_c1 F p0_n = some r) :
    Calls Try.prog 203 [.int .i64 p0_n].toArray W fun e w' => ∃ v, e = .returned v ∧ v = .bool r ∧ St [] W w' [] := by
  unfold impl_areValues_c1 at hm
  refine Calls.enter (N := 6) Try.func203 rfl rfl rfl (fun a hf => ?_)
  have hs := St.start W
  obtain ⟨w, hw_⟩ : ∃ w, w = W := ⟨W, rfl⟩
  clear hw_ w
  refine wpL_seq ?_
  refine wpL_region ?_
  refine sY hf hs rfl rfl rfl (Y_assign rfl rfl) ?_; clear hf; intro a hf
  refine wpO_nil ?_
  refine wpL_seq ?_
  refine wpL_region ?_
  refine sY hf hs rfl rfl rfl (Y_move rfl rfl) ?_; clear hf; intro a hf
  obtain ⟨r1, hc2, hm⟩ := bind_some hm
  refine sCall hf rfl rfl rfl rfl (cap := []) rfl rfl en164 (impl_IsValue_ok F p0_n _ _ hc2) ?_; clear hf
  rintro _ w ⟨rfl, hs1⟩ a hf
  have hs : St [] W w [] := hs.ext hs1.below
  clear hs1
  refine sY hf hs rfl rfl rfl (Y_not rfl rfl) ?_; clear hf; intro a hf
  refine sY hf hs rfl rfl rfl (Y_assign rfl rfl) ?_; clear hf; intro a hf
  refine wpO_nil ?_
  obtain rfl := Option.some.inj hm
  refine wpL_ret (ret_tmp rfl hf rfl ?_)
  exact ⟨_, rfl, rfl, hs⟩

set_option maxRecDepth 100000 in
theorem impl_areValues_ok (F : Nat) (p0_list : List Int) (A_p0_list_1 : Option Addr) (n_p0_list_1 c_p0_list_1 : Nat) (hn_p0_list_1 : n_p0_list_1 = p0_list.length) (r : Bool) (W : World) (hm : impl_areValues F p0_list = some r) (h_p0_list_1 : Rd W A_p0_list_1 (ints p0_list)) :
    Calls Try.prog 148 [.slice A_p0_list_1 n_p0_list_1 c_p0_list_1].toArray W fun e w' => ∃ v, e = .returned v ∧ v = .bool r ∧ St [] W w' [] := by
  subst hn_p0_list_1
  unfold impl_areValues at hm
  refine Calls.enter (N := 6) Try.func148 rfl rfl rfl (fun a hf => ?_)
  have hs := St.start W
  obtain ⟨w, hw_⟩ : ∃ w, w = W := ⟨W, rfl⟩
  clear hw_ w
  refine wpL_seq ?_
  refine wpL_region ?_
  refine sY hf hs rfl rfl rfl (Y_assign rfl rfl) ?_; clear hf; intro a hf
  refine wpO_nil ?_
  refine wpL_seq ?_
  refine wpL_region ?_
  refine sY hf hs rfl rfl rfl (Y_move rfl rfl) ?_; clear hf; intro a hf
  obtain ⟨r1, hc2, hm⟩ := bind_some hm
  refine sCall hf rfl rfl rfl rfl (cap := []) rfl rfl en191 (slices_ContainsFunc_int64_ok F p0_list A_p0_list_1 p0_list.length c_p0_list_1 rfl (fun x0 => impl_areValues_c1 F x0) 203 [] _ _ hc2 (h_p0_list_1.at hs) (fun x0 r w' hm_ hb => impl_areValues_c1_ok F x0 r w' hm_ ) en203) ?_; clear hf
  rintro _ w ⟨rfl, hs1⟩ a hf
  have hs : St [] W w [] := hs.ext hs1.below
  clear hs1
  refine sY hf hs rfl rfl rfl (Y_not rfl rfl) ?_; clear hf; intro a hf
  refine sY hf hs rfl rfl rfl (Y_assign rfl rfl) ?_; clear hf; intro a hf
  refine wpO_nil ?_
  obtain rfl := Option.some.inj hm
  refine wpL_ret (ret_tmp rfl hf rfl ?_)
  exact ⟨_, rfl, rfl, hs⟩

set_option maxRecDepth 100000 in
theorem impl_IsMatrix_c1_ok (F : Nat) (p0_row : List Int) (A_p0_row_1 : Option Addr) (n_p0_row_1 c_p0_row_1 : Nat) (hn_p0_row_1 : n_p0_row_1 = p0_row.length) (b_z0 : Nat) (z0 : List (List Int)) (A_z0_1 : Option Addr) (n_z0_1 c_z0_1 : Nat) (hn_z0_1 : n_z0_1 = z0.length) (r : Bool) (W : World) (hm : impl_IsMatrix_c1 F p0_row z0 = some r) (h_p0_row_1 : Rd W A_p0_row_1 (ints p0_row)) (h_z0_1 : RdM W A_z0_1 z0) (h_z0 : PB W b_z0 40 [.slice A_z0_1 n_z0_1 c_z0_1]) :
    Calls Try.prog 159 [.slice A_p0_row_1 n_p0_row_1 c_p0_row_1, .pointer (some ⟨b_z0, 0, none⟩)].toArray W fun e w' => ∃ v, e = .returned v ∧ v = .bool r ∧ St [] W w' [] := by
  subst hn_p0_row_1
  subst hn_z0_1
  unfold impl_IsMatrix_c1 at hm
  refine Calls.enter (N := 16) Try.func159 rfl rfl rfl (fun a hf => ?_)
  have hs := St.start W
  obtain ⟨w, hw_⟩ : ∃ w, w = W := ⟨W, rfl⟩
  clear hw_ w
  refine wpL_seq ?_
  refine wpL_region ?_
  refine sY hf hs rfl rfl rfl (Y_assign rfl rfl) ?_; clear hf; intro a hf
  refine wpO_nil ?_
  refine wpL_seq ?_
  obtain ⟨r14, hj15, hm⟩ := bind_some hm
  refine wpL_cut (fun a w => ∃ b13 : Bool, b13 = r14 ∧ Fr a 16 [(3, .bool b13)] ∧ St [] W w []) ?_ ?_
  · refine wpL_region ?_
    refine sY hf hs rfl rfl rfl (Y_move rfl rfl) ?_; clear hf; intro a hf
    refine sY hf hs rfl rfl rfl (Y_lenH rfl rfl el28 rfl) ?_; clear hf; intro a hf
    refine sY hf hs rfl rfl rfl (Y_load_pb rfl rfl h_z0 rfl ag40) ?_; clear hf; intro a hf
    obtain ⟨q16, hi17, hj15⟩ := bind_some hj15
    obtain ⟨hi17a, hi17b, hi17q⟩ := idx_some hi17
    obtain ⟨vs18, hv19, hr20⟩ := id h_z0_1
    obtain ⟨A21, c22, hv23, hR24⟩ := hr20 _ _ hi17q
    refine sY hf hs rfl rfl rfl (Y_index rfl rfl rfl el40 ti28 (Rd.isAt hv19 hv23) hi17a hi17b) ?_; clear hf; intro a hf
    refine sY hf hs rfl rfl rfl (Y_load_rd rfl rfl (fun w hs => hv19.at hs) (at1 hv23) ag28) ?_; clear hf; intro a hf
    refine sY hf hs rfl rfl rfl (Y_lenH rfl rfl el28 rfl) ?_; clear hf; intro a hf
    refine sY hf hs rfl rfl rfl (Y_neq rfl rfl rfl) ?_; clear hf; intro a hf
    refine sY hf hs rfl rfl rfl (Y_move rfl rfl) ?_; clear hf; intro a hf
    refine bsplit ((p0_row.length : Int) != (q16.length : Int)) (fun hb25 => ?_) (fun hb25 => ?_)
    · have hj15 := bif_t hj15 hb25
      refine sNo hf rfl rfl rfl (congrArg (fun b => some (Value.bool b)) hb25) rfl rfl rfl ?_; clear hf; intro a hf
      refine sNo hf rfl rfl rfl (congrArg (fun b => some (Value.bool b)) hb25) rfl rfl rfl ?_; clear hf; intro a hf
      refine sNo hf rfl rfl rfl (congrArg (fun b => some (Value.bool b)) hb25) rfl rfl rfl ?_; clear hf; intro a hf
      refine sY hf hs rfl rfl rfl (Y_pickT rfl (congrArg (fun b => some (Value.bool b)) hb25) rfl) ?_; clear hf; intro a hf
      refine sY hf hs rfl rfl rfl (Y_assign rfl rfl) ?_; clear hf; intro a hf
      refine wpO_nil ?_
      refine wpL_nil (then_normal ?_)
      exact ⟨true, Option.some.inj hj15, (FrD.pick hf.none hf rfl), hs⟩
    · have hj15 := bif_f hj15 hb25
      refine sYg hf hs rfl rfl rfl (congrArg (fun b => some (Value.bool b)) hb25) rfl rfl rfl (Y_move rfl rfl) ?_; clear hf; intro a hf
      obtain ⟨r26, hc27, hj15⟩ := bind_some hj15
      refine sCallg hf rfl rfl rfl (congrArg (fun b => some (Value.bool b)) hb25) rfl rfl rfl rfl (cap := []) rfl rfl en148 (impl_areValues_ok F p0_row A_p0_row_1 p0_row.length c_p0_row_1 rfl _ _ hc27 (h_p0_row_1.at hs)) ?_; clear hf
      rintro _ w ⟨rfl, hs1⟩ a hf
      have hs : St [] W w [] := hs.ext hs1.below
      clear hs1
      refine sYg hf hs rfl rfl rfl (congrArg (fun b => some (Value.bool b)) hb25) rfl rfl rfl (Y_not rfl rfl) ?_; clear hf; intro a hf
      refine sY hf hs rfl rfl rfl (Y_pickF rfl (congrArg (fun b => some (Value.bool b)) hb25) rfl) ?_; clear hf; intro a hf
      refine sY hf hs rfl rfl rfl (Y_assign rfl rfl) ?_; clear hf; intro a hf
      refine wpO_nil ?_
      refine wpL_nil (then_normal ?_)
      exact ⟨(!r26), Option.some.inj hj15, (FrD.pick hf.none hf rfl), hs⟩
  · rintro a w ⟨b13, hr_, hf, hs⟩
    subst hr_
    try dsimp only at hm
    obtain rfl := Option.some.inj hm
    refine wpL_ret (ret_tmp rfl hf rfl ?_)
    exact ⟨_, rfl, rfl, hs⟩

set_option maxRecDepth 100000 in
theorem slices_IndexFunc_sint64_ok (F : Nat) (p0_s : List (List Int)) (A_p0_s_1 : Option Addr) (n_p0_s_1 c_p0_s_1 : Nat) (hn_p0_s_1 : n_p0_s_1 = p0_s.length) (m_p1_f : (List Int) → Option Bool) (f_p1_f : FuncId) (k_p1_f : List Value) (r : Int) (W : World) (hm : slices_IndexFunc_sint64 F p0_s m_p1_f = some r) (h_p0_s_1 : RdM W A_p0_s_1 p0_s) (h_p1_f : ∀ (x0 : List Int) (Ax0_1 : Option Addr) (nx0_1 cx0_1 : Nat) (_hnx0_1 : nx0_1 = x0.length) (r : Bool) (w : World), m_p1_f x0 = some r → Below W.heap.size W w → Rd w Ax0_1 (ints x0) → Calls Try.prog f_p1_f (([.slice Ax0_1 nx0_1 cx0_1] : List Value) ++ k_p1_f).toArray w fun e w' => ∃ v, e = .returned v ∧ v = .bool r ∧ St [] w w' []) (e_p1_f : En Try.prog f_p1_f) :
    Calls Try.prog 202 [.slice A_p0_s_1 n_p0_s_1 c_p0_s_1, .func (.func f_p1_f) #[] k_p1_f.toArray].toArray W fun e w' => ∃ v, e = .returned v ∧ v = .int .i64 r ∧ St [] W w' [] := by
  subst hn_p0_s_1
  unfold slices_IndexFunc_sint64 at hm
  refine Calls.enter (N := 19) Try.func202 rfl rfl rfl (fun a hf => ?_)
  have hs := St.start W
  obtain ⟨w, hw_⟩ : ∃ w, w = W := ⟨W, rfl⟩
  clear hw_ w
  refine wpL_seq ?_
  refine wpL_region ?_
  refine sY hf hs rfl rfl rfl (Y_assign rfl rfl) ?_; clear hf; intro a hf
  refine wpO_nil ?_
  refine wpL_seq ?_
  refine wpL_seq ?_
  refine wpL_region ?_
  refine sY hf hs rfl rfl rfl (Y_move rfl rfl) ?_; clear hf; intro a hf
  refine sY hf hs rfl rfl rfl (Y_lenH rfl rfl el40 rfl) ?_; clear hf; intro a hf
  refine sY hf hs rfl rfl rfl (Y_move rfl rfl) ?_; clear hf; intro a hf
  refine wpO_nil ?_
  obtain ⟨r42, hl43, hm⟩ := bind_some hm
  refine wpL_block (fun a w => Sum.inr () = r42 ∧ Fr a 19 [] ∧ St [] W w []) ?_ ?_
  · refine wpL_loop (fun n a w => ∃ x28 : Int, slices_IndexFunc_sint64_L1 F p0_s m_p1_f n x28 = some r42 ∧ Fr a 19 [(0, .slice A_p0_s_1 p0_s.length c_p0_s_1), (1, .func (.func f_p1_f) #[] k_p1_f.toArray), (7, .int .i64 (p0_s.length : Int)), (8, .int .i64 x28)] ∧ St [] W w []) F ?_ ?_ ?_
    · exact ⟨0, hl43, (FrD.pick (FrD.pick (FrD.pick (FrD.pick hf.none hf rfl) hf rfl) hf rfl) hf rfl), hs⟩
    · rintro a w ⟨x28, h0_, -, -⟩; simp [slices_IndexFunc_sint64_L1] at h0_
    · rintro n45 a w ⟨x28, hm44, hf, hs⟩
      rw [slices_IndexFunc_sint64_L1] at hm44
      refine wpL_seq ?_
      refine wpL_region ?_
      refine sY hf hs rfl rfl rfl (Y_lss rfl rfl rfl) ?_; clear hf; intro a hf
      refine wpO_nil ?_
      refine wpL_seq ?_
      refine wpL_cond hf rfl (fun hb46 => ?_) (fun hb46 => ?_)
      · have hm44 := bif_t hm44 hb46
        refine wpL_skip ?_
        refine wpL_seq ?_
        refine wpL_block0 ?_
        refine wpL_seq ?_
        refine wpL_region ?_
        refine sY hf hs rfl rfl rfl (Y_move rfl rfl) ?_; clear hf; intro a hf
        refine sY hf hs rfl rfl rfl (Y_assign rfl rfl) ?_; clear hf; intro a hf
        refine wpO_nil ?_
        refine wpL_seq ?_
        refine wpL_region ?_
        refine sY hf hs rfl rfl rfl (Y_move rfl rfl) ?_; clear hf; intro a hf
        refine sY hf hs rfl rfl rfl (Y_move rfl rfl) ?_; clear hf; intro a hf
        refine sY hf hs rfl rfl rfl (Y_move rfl rfl) ?_; clear hf; intro a hf
        obtain ⟨q47, hi48, hm44⟩ := bind_some hm44
        obtain ⟨hi48a, hi48b, hi48q⟩ := idx_some hi48
        obtain ⟨vs49, hv50, hr51⟩ := id h_p0_s_1
        obtain ⟨A52, c53, hv54, hR55⟩ := hr51 _ _ hi48q
        refine sY hf hs rfl rfl rfl (Y_index rfl rfl rfl el40 ti28 (Rd.isAt hv50 hv54) hi48a hi48b) ?_; clear hf; intro a hf
        refine sY hf hs rfl rfl rfl (Y_load_rd rfl rfl (fun w hs => hv50.at hs) (at1 hv54) ag28) ?_; clear hf; intro a hf
        obtain ⟨r56, hc57, hm44⟩ := bind_some hm44
        refine sCall hf rfl rfl rfl rfl (cap := k_p1_f) rfl rfl e_p1_f (h_p1_f q47 A52 q47.length c53 rfl _ _ hc57 hs.below (hR55.at hs)) ?_; clear hf; rintro _ w ⟨rfl, hs1⟩ a hf; have hs := hs.ext hs1.below; clear hs1
        refine wpO_nil ?_
        refine wpL_cond hf rfl (fun hb58 => ?_) (fun hb58 => ?_)
        · have hm44 := bif_t hm44 hb58
          refine wpL_seq ?_
          refine wpL_region ?_
          refine sY hf hs rfl rfl rfl (Y_move rfl rfl) ?_; clear hf; intro a hf
          refine sY hf hs rfl rfl rfl (Y_assign rfl rfl) ?_; clear hf; intro a hf
          refine wpO_nil ?_
          obtain rfl := Option.some.inj hm44
          try dsimp only at hm
          obtain rfl := Option.some.inj hm
          refine wpL_ret (Qb_ret (Ql_ret (Qb_ret (ret_tmp rfl hf rfl ?_))))
          exact ⟨_, rfl, rfl, hs⟩
        · have hm44 := bif_f hm44 hb58
          refine wpL_skip ?_
          refine wpL_nil (Qb_normal ?_)
          refine wpL_region ?_
          refine sY hf hs rfl rfl rfl (Y_add rfl rfl rfl) ?_; clear hf; intro a hf
          refine sY hf hs rfl rfl rfl (Y_move rfl rfl) ?_; clear hf; intro a hf
          refine wpO_nil ?_
          refine wpL_nil (Ql_normal ?_)
          exact ⟨(IntKind.i64.wrap (x28 + 1)), hm44, (FrD.pick (FrD.pick (FrD.pick (FrD.pick hf.none hf rfl) hf rfl) hf rfl) hf rfl), hs⟩
      · have hm44 := bif_f hm44 hb46
        refine wpL_exit (Ql_exit (Qb_exit ?_))
        exact ⟨Option.some.inj hm44, hf.none, hs⟩
  · rintro a w ⟨hr_, hf, hs⟩
    subst hr_
    try dsimp only at hm
    refine wpL_seq ?_
    refine wpL_region ?_
    refine sY hf hs rfl rfl rfl (Y_assign rfl rfl) ?_; clear hf; intro a hf
    refine wpO_nil ?_
    obtain rfl := Option.some.inj hm
    refine wpL_ret (ret_tmp rfl hf rfl ?_)
    exact ⟨_, rfl, rfl, hs⟩

set_option maxRecDepth 100000 in
theorem slices_ContainsFunc_sint64_ok (F : Nat) (p0_s : List (List Int)) (A_p0_s_1 : Option Addr) (n_p0_s_1 c_p0_s_1 : Nat) (hn_p0_s_1 : n_p0_s_1 = p0_s.length) (m_p1_f : (List Int) → Option Bool) (f_p1_f : FuncId) (k_p1_f : List Value) (r : Bool) (W : World) (hm : slices_ContainsFunc_sint64 F p0_s m_p1_f = some r) (h_p0_s_1 : RdM W A_p0_s_1 p0_s) (h_p1_f : ∀ (x0 : List Int) (Ax0_1 : Option Addr) (nx0_1 cx0_1 : Nat) (_hnx0_1 : nx0_1 = x0.length) (r : Bool) (w : World), m_p1_f x0 = some r → Below W.heap.size W w → Rd w Ax0_1 (ints x0) → Calls Try.prog f_p1_f (([.slice Ax0_1 nx0_1 cx0_1] : List Value) ++ k_p1_f).toArray w fun e w' => ∃ v, e = .returned v ∧ v = .bool r ∧ St [] w w' []) (e_p1_f : En Try.prog f_p1_f) :
    Calls Try.prog 146 [.slice A_p0_s_1 n_p0_s_1 c_p0_s_1, .func (.func f_p1_f) #[] k_p1_f.toArray].toArray W fun e w' => ∃ v, e = .returned v ∧ v = .bool r ∧ St [] W w' [] := by
  subst hn_p0_s_1
  unfold slices_ContainsFunc_sint64 at hm
  refine Calls.enter (N := 9) Try.func146 rfl rfl rfl (fun a hf => ?_)
  have hs := St.start W
  obtain ⟨w, hw_⟩ : ∃ w, w = W := ⟨W, rfl⟩
  clear hw_ w
  refine wpL_seq ?_
  refine wpL_region ?_
  refine sY hf hs rfl rfl rfl (Y_assign rfl rfl) ?_; clear hf; intro a hf
  refine wpO_nil ?_
  refine wpL_seq ?_
  refine wpL_region ?_
  refine sY hf hs rfl rfl rfl (Y_move rfl rfl) ?_; clear hf; intro a hf
  refine sY hf hs rfl rfl rfl (Y_move rfl rfl) ?_; clear hf; intro a hf
  obtain ⟨r1, hc2, hm⟩ := bind_some hm
  refine sCall hf rfl rfl rfl rfl (cap := []) rfl rfl en202 (slices_IndexFunc_sint64_ok F p0_s A_p0_s_1 p0_s.length c_p0_s_1 rfl m_p1_f f_p1_f k_p1_f _ _ hc2 (h_p0_s_1.at hs) (fun x0 A0_0 n0_0 c0_0 h0_0 r w' hm_ hb r0_0 => h_p1_f x0 A0_0 n0_0 c0_0 h0_0 r w' hm_ (hs.below.trans (hb.mono hs.below.size)) r0_0) e_p1_f) ?_; clear hf
  rintro _ w ⟨rfl, hs1⟩ a hf
  have hs : St [] W w [] := hs.ext hs1.below
  clear hs1
  refine sY hf hs rfl rfl rfl (Y_geq rfl rfl rfl) ?_; clear hf; intro a hf
  refine sY hf hs rfl rfl rfl (Y_assign rfl rfl) ?_; clear hf; intro a hf
  refine wpO_nil ?_
  obtain rfl := Option.some.inj hm
  refine wpL_ret (ret_tmp rfl hf rfl ?_)
  exact ⟨_, rfl, rfl, hs⟩

end Go.Proofs.Ytebmlphobgaboab
