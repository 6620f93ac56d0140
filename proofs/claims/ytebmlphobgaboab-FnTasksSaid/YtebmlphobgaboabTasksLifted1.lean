/- The functions do what their models say. -/
import Derived.Test.YtebmlphobgaboabTasksFacts
import Derived.Test.YtebmlphobgaboabRows
namespace Go.Proofs.Ytebmlphobgaboab
open Go.RowKit

set_option maxRecDepth 100000 in
theorem laws_big_ok (F : Nat) (p0_code : List Int) (A_p0_code_1 : Option Addr) (n_p0_code_1 c_p0_code_1 : Nat) (hn_p0_code_1 : n_p0_code_1 = p0_code.length) (r : Bool) (W : World) (hm : laws_big F p0_code = some r) (_h_p0_code_1 : Rd W A_p0_code_1 (bytes p0_code)) :
    Calls Try.prog 9 [.slice A_p0_code_1 n_p0_code_1 c_p0_code_1].toArray W fun e w' => ∃ v, e = .returned v ∧ v = .bool r ∧ St [] W w' [] := by
  subst hn_p0_code_1
  unfold laws_big at hm
  refine Calls.enter (N := 6) Try.func9 rfl rfl rfl (fun a hf => ?_)
  have hs := St.start W
  obtain ⟨w, hw_⟩ : ∃ w, w = W := ⟨W, rfl⟩
  clear hw_ w
  refine wpL_seq ?_
  refine wpL_region ?_
  refine sY hf hs rfl rfl rfl (Y_assign rfl rfl) ?_; clear hf; intro a hf
  refine wpO_nil ?_
  refine wpL_seq ?_
  refine wpL_region ?_
  refine sY hf hs rfl rfl rfl (Y_move rfl rfl) ?_; clear hf; intro a hf
  refine sY hf hs rfl rfl rfl (Y_lenH rfl rfl el22 rfl) ?_; clear hf; intro a hf
  refine sY hf hs rfl rfl rfl (Y_gtr rfl rfl rfl) ?_; clear hf; intro a hf
  refine sY hf hs rfl rfl rfl (Y_assign rfl rfl) ?_; clear hf; intro a hf
  refine wpO_nil ?_
  obtain rfl := Option.some.inj hm
  refine wpL_ret (ret_tmp rfl hf rfl ?_)
  exact ⟨_, rfl, rfl, hs⟩

set_option maxRecDepth 100000 in
theorem spec_l01From_ok (F : Nat) (p0_code : List Int) (A_p0_code_1 : Option Addr) (n_p0_code_1 c_p0_code_1 : Nat) (hn_p0_code_1 : n_p0_code_1 = p0_code.length) (r : (Int × Int)) (W : World) (hm : spec_l01From F p0_code = some r) (h_p0_code_1 : Rd W A_p0_code_1 (bytes p0_code)) :
    Calls Try.prog 65 [.slice A_p0_code_1 n_p0_code_1 c_p0_code_1].toArray W fun e w' => ∃ v, e = .returned v ∧ ∃ b43, v = .pointer (some ⟨b43, 0, none⟩) ∧ St [] W w' [.blk b43 149 [.slice A_p0_code_1 n_p0_code_1 c_p0_code_1, .int .i64 r.1, .int .i64 r.2]] := by
  subst hn_p0_code_1
  unfold spec_l01From at hm
  refine Calls.enter (N := 34) Try.func65 rfl rfl rfl (fun a hf => ?_)
  have hs := St.start W
  obtain ⟨w, hw_⟩ : ∃ w, w = W := ⟨W, rfl⟩
  clear hw_ w
  refine wpL_seq ?_
  refine wpL_region ?_
  refine sY hf hs rfl rfl rfl (Y_assign rfl rfl) ?_; clear hf; intro a hf
  refine wpO_nil ?_
  refine wpL_seq ?_
  refine wpL_region ?_
  refine sY hf hs rfl rfl rfl (Y_move rfl rfl) ?_; clear hf; intro a hf
  refine sY hf hs rfl rfl rfl (Y_build (parts := [(0, .tmp 5), (2, .const (.int .i64 61403))]) (vs := [.slice A_p0_code_1 p0_code.length c_p0_code_1, .int .i64 61403]) rfl rfl (run_build (parts := [(0, .slice A_p0_code_1 p0_code.length c_p0_code_1), (2, .int .i64 61403)]) (cells := [.slice A_p0_code_1 p0_code.length c_p0_code_1, .int .i64 0, .int .i64 61403]) (places := #[(0, 1), (1, 1), (2, 1)]) ti149 Try.underlying149 (fun w => by simp [go_sem]) rfl)) ?_; clear hf; intro a hf
  refine sBox hf hs rfl rfl rfl rfl rfl (cs := [.slice A_p0_code_1 p0_code.length c_p0_code_1, .int .i64 0, .int .i64 61403]) rfl ?_; clear hf hs; intro a w b1 hs hf
  have hs : St [] W w [.blk b1 149 [.slice A_p0_code_1 p0_code.length c_p0_code_1, .int .i64 0, .int .i64 61403]] := hs
  refine sY hf hs rfl rfl rfl (Y_assign rfl rfl) ?_; clear hf; intro a hf
  refine wpO_nil ?_
  refine wpL_seq ?_
  refine wpL_seq ?_
  refine wpL_region ?_
  refine sY hf hs rfl rfl rfl (Y_assign rfl rfl) ?_; clear hf; intro a hf
  refine wpO_nil ?_
  obtain ⟨r31, hl32, hm⟩ := bind_some hm
  refine wpL_block (fun a w => ∃ x30 : Int, x30 = r31 ∧ Fr a 34 [(3, .pointer (some ⟨b1, 0, none⟩))] ∧ St [] W w [.blk b1 149 [.slice A_p0_code_1 p0_code.length c_p0_code_1, .int .i64 0, .int .i64 x30]]) ?_ ?_
  · refine wpL_loop (fun n a w => ∃ x20 : Int, ∃ x21 : Int, spec_l01From_L1 F p0_code n x20 x21 = some r31 ∧ Fr a 34 [(0, .slice A_p0_code_1 p0_code.length c_p0_code_1), (3, .pointer (some ⟨b1, 0, none⟩)), (4, .int .i64 x21)] ∧ St [] W w [.blk b1 149 [.slice A_p0_code_1 p0_code.length c_p0_code_1, .int .i64 0, .int .i64 x20]]) F ?_ ?_ ?_
    · exact ⟨61403, 0, hl32, (FrD.pick (FrD.pick (FrD.pick hf.none hf rfl) hf rfl) hf rfl), hs⟩
    · rintro a w ⟨x20, x21, h0_, -, -⟩; simp [spec_l01From_L1] at h0_
    · rintro n34 a w ⟨x20, x21, hm33, hf, hs⟩
      rw [spec_l01From_L1] at hm33
      refine wpL_seq ?_
      refine wpL_seq ?_
      obtain ⟨r37, hj38, hm33⟩ := bind_some hm33
      refine wpL_cut (fun a w => ∃ b36 : Bool, b36 = r37 ∧ Fr a 34 [(0, .slice A_p0_code_1 p0_code.length c_p0_code_1), (3, .pointer (some ⟨b1, 0, none⟩)), (4, .int .i64 x21), (15, .bool b36)] ∧ St [] W w [.blk b1 149 [.slice A_p0_code_1 p0_code.length c_p0_code_1, .int .i64 0, .int .i64 x20]]) ?_ ?_
      · refine wpL_region ?_
        refine sY hf hs rfl rfl rfl (Y_move rfl rfl) ?_; clear hf; intro a hf
        refine sY hf hs rfl rfl rfl (Y_move rfl rfl) ?_; clear hf; intro a hf
        refine sY hf hs rfl rfl rfl (Y_lenH rfl rfl el22 rfl) ?_; clear hf; intro a hf
        refine sY hf hs rfl rfl rfl (Y_lss rfl rfl rfl) ?_; clear hf; intro a hf
        refine sY hf hs rfl rfl rfl (Y_move rfl rfl) ?_; clear hf; intro a hf
        refine bsplit (decide (x21 < (p0_code.length : Int))) (fun hb39 => ?_) (fun hb39 => ?_)
        · have hj38 := bif_t hj38 hb39
          refine sYg hf hs rfl rfl rfl (congrArg (fun b => some (Value.bool b)) hb39) rfl rfl rfl (Y_move rfl rfl) ?_; clear hf; intro a hf
          refine sYg hf hs rfl rfl rfl (congrArg (fun b => some (Value.bool b)) hb39) rfl rfl rfl (Y_lss rfl rfl rfl) ?_; clear hf; intro a hf
          refine sY hf hs rfl rfl rfl (Y_pickT rfl (congrArg (fun b => some (Value.bool b)) hb39) rfl) ?_; clear hf; intro a hf
          refine wpO_nil ?_
          refine wpL_nil (then_normal ?_)
          exact ⟨(decide (x21 < 64)), Option.some.inj hj38, (FrD.pick (FrD.pick (FrD.pick (FrD.pick hf.none hf rfl) hf rfl) hf rfl) hf rfl), hs⟩
        · have hj38 := bif_f hj38 hb39
          refine sNo hf rfl rfl rfl (congrArg (fun b => some (Value.bool b)) hb39) rfl rfl rfl ?_; clear hf; intro a hf
          refine sNo hf rfl rfl rfl (congrArg (fun b => some (Value.bool b)) hb39) rfl rfl rfl ?_; clear hf; intro a hf
          refine sY hf hs rfl rfl rfl (Y_pickF rfl (congrArg (fun b => some (Value.bool b)) hb39) rfl) ?_; clear hf; intro a hf
          refine wpO_nil ?_
          refine wpL_nil (then_normal ?_)
          exact ⟨false, Option.some.inj hj38, (FrD.pick (FrD.pick (FrD.pick (FrD.pick hf.none hf rfl) hf rfl) hf rfl) hf rfl), hs⟩
      · rintro a w ⟨b36, hr_, hf, hs⟩
        subst hr_
        try dsimp only at hm33
        refine wpL_cond hf rfl (fun hb40 => ?_) (fun hb40 => ?_)
        · have hm33 := bif_t hm33 hb40
          refine wpL_skip ?_
          refine wpL_seq ?_
          refine wpL_block0 ?_
          refine wpL_drawM [.blk b1 149 [.slice A_p0_code_1 p0_code.length c_p0_code_1, .int .i64 0, .int .i64 x20]] [15] (by kernel_rfl) hs ?_; clear hs; intro w hs
          have hs0 : St [] W w [.blk b1 149 [.slice A_p0_code_1 p0_code.length c_p0_code_1, .int .i64 0, .int .i64 x20]] := hs
          refine mYp (i := 0) rfl (by kernel_rfl) (by kernel_rfl) hf rfl rfl rfl (fun _ => Y_move rfl rfl) ?_; clear hf; intro a hf
          refine mYp (i := 1) rfl (by kernel_rfl) (by kernel_rfl) hf rfl rfl rfl (fun _ => Y_move rfl rfl) ?_; clear hf; intro a hf
          refine mYp (i := 2) rfl (by kernel_rfl) (by kernel_rfl) hf rfl rfl rfl (fun _ => Y_nilCheck rfl rfl) ?_; clear hf; intro a hf
          refine mYp (i := 3) rfl (by kernel_rfl) (by kernel_rfl) hf rfl rfl rfl (fun _ => Y_fieldAddr rfl rfl fo149_2) ?_; clear hf; intro a hf
          refine mY (i := 4) [[]] rfl (by kernel_rfl) (by kernel_rfl) hf hs0 rfl rfl rfl (Y_load_blk rfl rfl (i := 0) rfl rfl ag2) ?_; clear hf; intro a hf
          refine mYp (i := 5) rfl (by kernel_rfl) (by kernel_rfl) hf rfl rfl rfl (fun _ => Y_mul rfl rfl rfl) ?_; clear hf; intro a hf
          refine mYp (i := 6) rfl (by kernel_rfl) (by kernel_rfl) hf rfl rfl rfl (fun _ => Y_move rfl rfl) ?_; clear hf; intro a hf
          refine mYp (i := 7) rfl (by kernel_rfl) (by kernel_rfl) hf rfl rfl rfl (fun _ => Y_move rfl rfl) ?_; clear hf; intro a hf
          obtain ⟨q41, hi42, hm33⟩ := bind_some hm33
          obtain ⟨hi42a, hi42b, hi42q⟩ := idx_some hi42
          refine mYp (i := 8) rfl (by kernel_rfl) (by kernel_rfl) hf rfl rfl rfl (fun _ => Y_index rfl rfl rfl el22 ti5 (Rd.isAt (h_p0_code_1.at hs) (at1 (bytes_at hi42q))) hi42a hi42b) ?_; clear hf; intro a hf
          refine mY (i := 9) [[]] rfl (by kernel_rfl) (by kernel_rfl) hf hs0 rfl rfl rfl (Y_load_rd rfl rfl (fun w hs => h_p0_code_1.at hs) (at1 (bytes_at hi42q)) ag5) ?_; clear hf; intro a hf
          refine mY (i := 10) [[]] rfl (by kernel_rfl) (by kernel_rfl) hf hs0 rfl rfl rfl (Y_convert rfl rfl un5 un2) ?_; clear hf; intro a hf
          refine mYp (i := 11) rfl (by kernel_rfl) (by kernel_rfl) hf rfl rfl rfl (fun _ => Y_add rfl rfl rfl) ?_; clear hf; intro a hf
          refine mYp (i := 12) rfl (by kernel_rfl) (by kernel_rfl) hf rfl rfl rfl (fun _ => Y_rem rfl rfl rfl (by decide)) ?_; clear hf; intro a hf
          refine mYp (i := 13) rfl (by kernel_rfl) (by kernel_rfl) hf rfl rfl rfl (fun _ => Y_nilCheck rfl rfl) ?_; clear hf; intro a hf
          refine mYp (i := 14) rfl (by kernel_rfl) (by kernel_rfl) hf rfl rfl rfl (fun _ => Y_fieldAddr rfl rfl fo149_2) ?_; clear hf; intro a hf
          refine mRun (i := 15) rfl (by kernel_rfl) ?_
          refine sStore (i := 0) (us := [.int .i64 ((IntKind.i64.wrap ((IntKind.i64.wrap (x20 * 67)) + (IntKind.i64.wrap q41))).tmod 2147483647)]) hf hs rfl rfl rfl rfl rfl rfl ti2 rfl rfl rfl (Nat.le_of_ble_eq_true rfl) rfl ?_; clear hs; intro w hs
          have hs : St [] W w [.blk b1 149 [.slice A_p0_code_1 p0_code.length c_p0_code_1, .int .i64 0, .int .i64 ((IntKind.i64.wrap ((IntKind.i64.wrap (x20 * 67)) + (IntKind.i64.wrap q41))).tmod 2147483647)]] := hs
          refine wpO_nil ⟨Or.inl (by decide), ?_⟩
          refine mDone (by kernel_rfl) ?_
          clear hs0
          refine wpL_nil (Qb_normal ?_)
          refine wpL_region ?_
          refine sY hf hs rfl rfl rfl (Y_move rfl rfl) ?_; clear hf; intro a hf
          refine sY hf hs rfl rfl rfl (Y_add rfl rfl rfl) ?_; clear hf; intro a hf
          refine sY hf hs rfl rfl rfl (Y_assign rfl rfl) ?_; clear hf; intro a hf
          refine wpO_nil ?_
          refine wpL_nil (Ql_normal ?_)
          exact ⟨((IntKind.i64.wrap ((IntKind.i64.wrap (x20 * 67)) + (IntKind.i64.wrap q41))).tmod 2147483647), (IntKind.i64.wrap (x21 + 1)), hm33, (FrD.pick (FrD.pick (FrD.pick hf.none hf rfl) hf rfl) hf rfl), hs⟩
        · have hm33 := bif_f hm33 hb40
          refine wpL_exit (Ql_exit (Qb_exit ?_))
          exact ⟨x20, Option.some.inj hm33, (FrD.pick hf.none hf rfl), hs⟩
  · rintro a w ⟨x30, hr_, hf, hs⟩
    subst hr_
    try dsimp only at hm
    refine wpL_seq ?_
    refine wpL_region ?_
    refine sY hf hs rfl rfl rfl (Y_move rfl rfl) ?_; clear hf; intro a hf
    refine sY hf hs rfl rfl rfl (Y_assign rfl rfl) ?_; clear hf; intro a hf
    refine wpO_nil ?_
    obtain rfl := Option.some.inj hm
    refine wpL_ret (ret_tmp rfl hf rfl ?_)
    exact ⟨_, rfl, b1, rfl, hs⟩

set_option maxRecDepth 100000 in
theorem spec_l01Next_ok (F : Nat) (b_p0 : Nat) (p0_code : List Int) (A_p0_code : Option Addr) (n_p0_code c_p0_code : Nat) (hn_p0_code : n_p0_code = p0_code.length) (p0_at : Int) (p0_seed : Int) (p1 : Int) (r : (Int) × Int × Int) (W : World) (hm : spec_l01Next F p0_code p0_at p0_seed p1 = some r) (h_p0_code : KR (muL [.blk b_p0 149 [.slice A_p0_code n_p0_code c_p0_code, .int .i64 p0_at, .int .i64 p0_seed]]) W A_p0_code (bytes p0_code)) (hst : St (muL [.blk b_p0 149 [.slice A_p0_code n_p0_code c_p0_code, .int .i64 p0_at, .int .i64 p0_seed]]) W W [.blk b_p0 149 [.slice A_p0_code n_p0_code c_p0_code, .int .i64 p0_at, .int .i64 p0_seed]]) :
    Calls Try.prog 93 [.pointer (some ⟨b_p0, 0, none⟩), .int .i64 p1].toArray W fun e w' => ∃ v, e = .returned v ∧ v = .int .i64 r.1 ∧ St (muL [.blk b_p0 149 [.slice A_p0_code n_p0_code c_p0_code, .int .i64 p0_at, .int .i64 p0_seed]]) W w' [.blk b_p0 149 [.slice A_p0_code n_p0_code c_p0_code, .int .i64 r.2.1, .int .i64 r.2.2]] := by
  subst hn_p0_code
  unfold spec_l01Next at hm
  refine Calls.enter (N := 78) Try.func93 rfl rfl rfl (fun a hf => ?_)
  have hs := hst
  obtain ⟨w, hw_⟩ : ∃ w, w = W := ⟨W, rfl⟩
  clear hw_ w
  refine wpL_seq ?_
  refine wpL_region ?_
  refine sY hf hs rfl rfl rfl (Y_assign rfl rfl) ?_; clear hf; intro a hf
  refine wpO_nil ?_
  refine wpL_seq ?_
  refine wpL_seq ?_
  refine wpL_region ?_
  refine sY hf hs rfl rfl rfl (Y_move rfl rfl) ?_; clear hf; intro a hf
  refine sY hf hs rfl rfl rfl (Y_leq rfl rfl rfl) ?_; clear hf; intro a hf
  refine wpO_nil ?_
  refine wpL_cond hf rfl (fun hb1 => ?_) (fun hb1 => ?_)
  · have hm := bif_t hm hb1
    refine wpL_seq ?_
    refine wpL_region ?_
    refine sY hf hs rfl rfl rfl (Y_assign rfl rfl) ?_; clear hf; intro a hf
    refine wpO_nil ?_
    obtain rfl := Option.some.inj hm
    refine wpL_ret (ret_tmp rfl hf rfl ?_)
    exact ⟨_, rfl, rfl, hs⟩
  · have hm := bif_f hm hb1
    refine wpL_skip ?_
    refine wpL_seq ?_
    refine wpL_region ?_
    refine sY hf hs rfl rfl rfl (Y_move rfl rfl) ?_; clear hf; intro a hf
    refine sY hf hs rfl rfl rfl (Y_move rfl rfl) ?_; clear hf; intro a hf
    refine sY hf hs rfl rfl rfl (Y_nilCheck rfl rfl) ?_; clear hf; intro a hf
    refine sY hf hs rfl rfl rfl (Y_fieldAddr rfl rfl fo149_2) ?_; clear hf; intro a hf
    refine sY hf hs rfl rfl rfl (Y_load_blk rfl rfl (i := 0) rfl rfl ag2) ?_; clear hf; intro a hf
    refine sY hf hs rfl rfl rfl (Y_mul rfl rfl rfl) ?_; clear hf; intro a hf
    refine sY hf hs rfl rfl rfl (Y_add rfl rfl rfl) ?_; clear hf; intro a hf
    refine sY hf hs rfl rfl rfl (Y_rem rfl rfl rfl (by decide)) ?_; clear hf; intro a hf
    refine sY hf hs rfl rfl rfl (Y_nilCheck rfl rfl) ?_; clear hf; intro a hf
    refine sY hf hs rfl rfl rfl (Y_fieldAddr rfl rfl fo149_2) ?_; clear hf; intro a hf
    refine sStore (i := 0) (us := [.int .i64 ((IntKind.i64.wrap ((IntKind.i64.wrap (p0_seed * 48271)) + 59)).tmod 2147483647)]) hf hs rfl rfl rfl rfl rfl rfl ti2 rfl rfl rfl (Nat.le_of_ble_eq_true rfl) rfl ?_; clear hs; intro w hs
    have hs : St (muL [.blk b_p0 149 [.slice A_p0_code p0_code.length c_p0_code, .int .i64 p0_at, .int .i64 p0_seed]]) W w [.blk b_p0 149 [.slice A_p0_code p0_code.length c_p0_code, .int .i64 p0_at, .int .i64 ((IntKind.i64.wrap ((IntKind.i64.wrap (p0_seed * 48271)) + 59)).tmod 2147483647)]] := hs
    refine wpO_nil ?_
    refine wpL_seq ?_
    refine wpL_region ?_
    refine sY hf hs rfl rfl rfl (Y_move rfl rfl) ?_; clear hf; intro a hf
    refine sY hf hs rfl rfl rfl (Y_nilCheck rfl rfl) ?_; clear hf; intro a hf
    refine sY hf hs rfl rfl rfl (Y_fieldAddr rfl rfl fo149_2) ?_; clear hf; intro a hf
    refine sY hf hs rfl rfl rfl (Y_load_blk rfl rfl (i := 0) rfl rfl ag2) ?_; clear hf; intro a hf
    refine sY hf hs rfl rfl rfl (Y_quo rfl rfl rfl (by decide)) ?_; clear hf; intro a hf
    refine sY hf hs rfl rfl rfl (Y_assign rfl rfl) ?_; clear hf; intro a hf
    refine wpO_nil ?_
    refine wpL_seq ?_
    refine wpL_seq ?_
    refine wpL_draw (by kernel_rfl) (by kernel_rfl) hs ?_
    refine qY hf rfl rfl rfl (Y_move rfl rfl) ?_; clear hf; intro a hf
    refine qY hf rfl rfl rfl (Y_nilCheck rfl rfl) ?_; clear hf; intro a hf
    refine qY hf rfl rfl rfl (Y_fieldAddr rfl rfl fo149_1) ?_; clear hf; intro a hf
    refine qY hf rfl rfl rfl (Y_load_blk rfl rfl (i := 0) rfl rfl ag3) ?_; clear hf; intro a hf
    refine qY hf rfl rfl rfl (Y_move rfl rfl) ?_; clear hf; intro a hf
    refine qY hf rfl rfl rfl (Y_nilCheck rfl rfl) ?_; clear hf; intro a hf
    refine qY hf rfl rfl rfl (Y_fieldAddr rfl rfl fo149_0) ?_; clear hf; intro a hf
    refine qY hf rfl rfl rfl (Y_load_blk rfl rfl (i := 0) rfl rfl ag22) ?_; clear hf; intro a hf
    refine qY hf rfl rfl rfl (Y_lenH rfl rfl el22 rfl) ?_; clear hf; intro a hf
    refine qY hf rfl rfl rfl (Y_lss rfl rfl rfl) ?_; clear hf; intro a hf
    refine qNil ?_; clear hs; intro w hs
    obtain ⟨r15, hj16, hm⟩ := bind_some hm
    refine wpL_cut (fun a w => ∃ x13 : Int, ∃ x14 : Int, (x13, x14) = r15 ∧ Fr a 78 [(1, .int .i64 p1), (5, .int .i64 x14)] ∧ St (muL [.blk b_p0 149 [.slice A_p0_code p0_code.length c_p0_code, .int .i64 p0_at, .int .i64 p0_seed]]) W w [.blk b_p0 149 [.slice A_p0_code p0_code.length c_p0_code, .int .i64 x13, .int .i64 ((IntKind.i64.wrap ((IntKind.i64.wrap (p0_seed * 48271)) + 59)).tmod 2147483647)]]) ?_ ?_
    · refine wpL_cond hf rfl (fun hb17 => ?_) (fun hb17 => ?_)
      · have hj16 := bif_t hj16 hb17
        refine wpL_seq ?_
        refine wpL_draw (by kernel_rfl) (by kernel_rfl) hs ?_
        refine qY hf rfl rfl rfl (Y_move rfl rfl) ?_; clear hf; intro a hf
        refine qY hf rfl rfl rfl (Y_move rfl rfl) ?_; clear hf; intro a hf
        refine qY hf rfl rfl rfl (Y_nilCheck rfl rfl) ?_; clear hf; intro a hf
        refine qY hf rfl rfl rfl (Y_fieldAddr rfl rfl fo149_0) ?_; clear hf; intro a hf
        refine qY hf rfl rfl rfl (Y_load_blk rfl rfl (i := 0) rfl rfl ag22) ?_; clear hf; intro a hf
        refine qY hf rfl rfl rfl (Y_move rfl rfl) ?_; clear hf; intro a hf
        refine qY hf rfl rfl rfl (Y_nilCheck rfl rfl) ?_; clear hf; intro a hf
        refine qY hf rfl rfl rfl (Y_fieldAddr rfl rfl fo149_1) ?_; clear hf; intro a hf
        refine qY hf rfl rfl rfl (Y_load_blk rfl rfl (i := 0) rfl rfl ag3) ?_; clear hf; intro a hf
        obtain ⟨q18, hi19, hj16⟩ := bind_some hj16
        obtain ⟨hi19a, hi19b, hi19q⟩ := idx_some hi19
        refine qY hf rfl rfl rfl (Y_index rfl rfl rfl el22 ti5 (Rd.isAt (h_p0_code.at hs) (at1 (bytes_at hi19q))) hi19a hi19b) ?_; clear hf; intro a hf
        refine qY hf rfl rfl rfl (Y_load_rd rfl rfl (fun w hs => h_p0_code.at hs) (at1 (bytes_at hi19q)) ag5) ?_; clear hf; intro a hf
        refine qY hf rfl rfl rfl (Y_convert rfl rfl un5 un2) ?_; clear hf; intro a hf
        refine qY hf rfl rfl rfl (Y_add rfl rfl rfl) ?_; clear hf; intro a hf
        refine qY hf rfl rfl rfl (Y_assign rfl rfl) ?_; clear hf; intro a hf
        refine qNil ?_; clear hs; intro w hs
        refine wpL_seq ?_
        refine wpL_region ?_
        refine sY hf hs rfl rfl rfl (Y_move rfl rfl) ?_; clear hf; intro a hf
        refine sY hf hs rfl rfl rfl (Y_nilCheck rfl rfl) ?_; clear hf; intro a hf
        refine sY hf hs rfl rfl rfl (Y_fieldAddr rfl rfl fo149_1) ?_; clear hf; intro a hf
        refine sY hf hs rfl rfl rfl (Y_load_blk rfl rfl (i := 0) rfl rfl ag3) ?_; clear hf; intro a hf
        refine sY hf hs rfl rfl rfl (Y_add rfl rfl rfl) ?_; clear hf; intro a hf
        refine sY hf hs rfl rfl rfl (Y_nilCheck rfl rfl) ?_; clear hf; intro a hf
        refine sY hf hs rfl rfl rfl (Y_fieldAddr rfl rfl fo149_1) ?_; clear hf; intro a hf
        refine sStore (i := 0) (us := [.int .i64 (IntKind.i64.wrap (p0_at + 1))]) hf hs rfl rfl rfl rfl rfl rfl ti3 rfl rfl rfl (Nat.le_of_ble_eq_true rfl) rfl ?_; clear hs; intro w hs
        have hs : St (muL [.blk b_p0 149 [.slice A_p0_code p0_code.length c_p0_code, .int .i64 p0_at, .int .i64 p0_seed]]) W w [.blk b_p0 149 [.slice A_p0_code p0_code.length c_p0_code, .int .i64 (IntKind.i64.wrap (p0_at + 1)), .int .i64 ((IntKind.i64.wrap ((IntKind.i64.wrap (p0_seed * 48271)) + 59)).tmod 2147483647)]] := hs
        refine wpO_nil ?_
        refine wpL_seq ?_
        obtain ⟨r22, hj23, hj16⟩ := bind_some hj16
        refine wpL_cut (fun a w => ∃ b21 : Bool, b21 = r22 ∧ Fr a 78 [(0, .pointer (some ⟨b_p0, 0, none⟩)), (1, .int .i64 p1), (5, .int .i64 (IntKind.i64.wrap ((IntKind.i64.wrap (((IntKind.i64.wrap ((IntKind.i64.wrap (p0_seed * 48271)) + 59)).tmod 2147483647).tdiv 31)) + (IntKind.i64.wrap q18)))), (62, .bool b21)] ∧ St (muL [.blk b_p0 149 [.slice A_p0_code p0_code.length c_p0_code, .int .i64 p0_at, .int .i64 p0_seed]]) W w [.blk b_p0 149 [.slice A_p0_code p0_code.length c_p0_code, .int .i64 (IntKind.i64.wrap (p0_at + 1)), .int .i64 ((IntKind.i64.wrap ((IntKind.i64.wrap (p0_seed * 48271)) + 59)).tmod 2147483647)]]) ?_ ?_
        · refine wpL_region ?_
          refine sY hf hs rfl rfl rfl (Y_move rfl rfl) ?_; clear hf; intro a hf
          refine sY hf hs rfl rfl rfl (Y_leq rfl rfl rfl) ?_; clear hf; intro a hf
          refine sY hf hs rfl rfl rfl (Y_move rfl rfl) ?_; clear hf; intro a hf
          refine bsplit (decide (p1 ≤ 256)) (fun hb24 => ?_) (fun hb24 => ?_)
          · have hj23 := bif_t hj23 hb24
            refine sYg hf hs rfl rfl rfl (congrArg (fun b => some (Value.bool b)) hb24) rfl rfl rfl (Y_move rfl rfl) ?_; clear hf; intro a hf
            refine sYg hf hs rfl rfl rfl (congrArg (fun b => some (Value.bool b)) hb24) rfl rfl rfl (Y_nilCheck rfl rfl) ?_; clear hf; intro a hf
            refine sYg hf hs rfl rfl rfl (congrArg (fun b => some (Value.bool b)) hb24) rfl rfl rfl (Y_fieldAddr rfl rfl fo149_1) ?_; clear hf; intro a hf
            refine sYg hf hs rfl rfl rfl (congrArg (fun b => some (Value.bool b)) hb24) rfl rfl rfl (Y_load_blk rfl rfl (i := 0) rfl rfl ag3) ?_; clear hf; intro a hf
            refine sYg hf hs rfl rfl rfl (congrArg (fun b => some (Value.bool b)) hb24) rfl rfl rfl (Y_rem rfl rfl rfl (by decide)) ?_; clear hf; intro a hf
            refine sYg hf hs rfl rfl rfl (congrArg (fun b => some (Value.bool b)) hb24) rfl rfl rfl (Y_eql rfl rfl rfl) ?_; clear hf; intro a hf
            refine sY hf hs rfl rfl rfl (Y_pickT rfl (congrArg (fun b => some (Value.bool b)) hb24) rfl) ?_; clear hf; intro a hf
            refine wpO_nil ?_
            refine wpL_nil (then_normal ?_)
            exact ⟨(((IntKind.i64.wrap (p0_at + 1)).tmod 2) == 0), Option.some.inj hj23, (FrD.pick (FrD.pick (FrD.pick (FrD.pick hf.none hf rfl) hf rfl) hf rfl) hf rfl), hs⟩
          · have hj23 := bif_f hj23 hb24
            refine sNo hf rfl rfl rfl (congrArg (fun b => some (Value.bool b)) hb24) rfl rfl rfl ?_; clear hf; intro a hf
            refine sNo hf rfl rfl rfl (congrArg (fun b => some (Value.bool b)) hb24) rfl rfl rfl ?_; clear hf; intro a hf
            refine sNo hf rfl rfl rfl (congrArg (fun b => some (Value.bool b)) hb24) rfl rfl rfl ?_; clear hf; intro a hf
            refine sNo hf rfl rfl rfl (congrArg (fun b => some (Value.bool b)) hb24) rfl rfl rfl ?_; clear hf; intro a hf
            refine sNo hf rfl rfl rfl (congrArg (fun b => some (Value.bool b)) hb24) rfl rfl rfl ?_; clear hf; intro a hf
            refine sNo hf rfl rfl rfl (congrArg (fun b => some (Value.bool b)) hb24) rfl rfl rfl ?_; clear hf; intro a hf
            refine sY hf hs rfl rfl rfl (Y_pickF rfl (congrArg (fun b => some (Value.bool b)) hb24) rfl) ?_; clear hf; intro a hf
            refine wpO_nil ?_
            refine wpL_nil (then_normal ?_)
            exact ⟨false, Option.some.inj hj23, (FrD.pick (FrD.pick (FrD.pick (FrD.pick hf.none hf rfl) hf rfl) hf rfl) hf rfl), hs⟩
        · rintro a w ⟨b21, hr_, hf, hs⟩
          subst hr_
          try dsimp only at hj16
          refine wpL_cond hf rfl (fun hb25 => ?_) (fun hb25 => ?_)
          · have hj16 := bif_t hj16 hb25
            refine wpL_draw (by kernel_rfl) (by kernel_rfl) hs ?_
            refine qY hf rfl rfl rfl (Y_move rfl rfl) ?_; clear hf; intro a hf
            refine qY hf rfl rfl rfl (Y_nilCheck rfl rfl) ?_; clear hf; intro a hf
            refine qY hf rfl rfl rfl (Y_fieldAddr rfl rfl fo149_0) ?_; clear hf; intro a hf
            refine qY hf rfl rfl rfl (Y_load_blk rfl rfl (i := 0) rfl rfl ag22) ?_; clear hf; intro a hf
            refine qY hf rfl rfl rfl (Y_move rfl rfl) ?_; clear hf; intro a hf
            refine qY hf rfl rfl rfl (Y_nilCheck rfl rfl) ?_; clear hf; intro a hf
            refine qY hf rfl rfl rfl (Y_fieldAddr rfl rfl fo149_1) ?_; clear hf; intro a hf
            refine qY hf rfl rfl rfl (Y_load_blk rfl rfl (i := 0) rfl rfl ag3) ?_; clear hf; intro a hf
            refine qY hf rfl rfl rfl (Y_sub rfl rfl rfl) ?_; clear hf; intro a hf
            obtain ⟨q26, hi27, hj16⟩ := bind_some hj16
            obtain ⟨hi27a, hi27b, hi27q⟩ := idx_some hi27
            refine qY hf rfl rfl rfl (Y_index rfl rfl rfl el22 ti5 (Rd.isAt (h_p0_code.at hs) (at1 (bytes_at hi27q))) hi27a hi27b) ?_; clear hf; intro a hf
            refine qY hf rfl rfl rfl (Y_load_rd rfl rfl (fun w hs => h_p0_code.at hs) (at1 (bytes_at hi27q)) ag5) ?_; clear hf; intro a hf
            refine qY hf rfl rfl rfl (Y_convert rfl rfl un5 un2) ?_; clear hf; intro a hf
            refine qY hf rfl rfl rfl (Y_assign rfl rfl) ?_; clear hf; intro a hf
            refine qNil ?_; clear hs; intro w hs
            refine wpL_nil (then_normal ?_)
            exact ⟨(IntKind.i64.wrap (p0_at + 1)), (IntKind.i64.wrap q26), Option.some.inj hj16, (FrD.pick (FrD.pick hf.none hf rfl) hf rfl), hs⟩
          · have hj16 := bif_f hj16 hb25
            refine wpL_skip ?_
            refine wpL_nil (then_normal ?_)
            exact ⟨(IntKind.i64.wrap (p0_at + 1)), (IntKind.i64.wrap ((IntKind.i64.wrap (((IntKind.i64.wrap ((IntKind.i64.wrap (p0_seed * 48271)) + 59)).tmod 2147483647).tdiv 31)) + (IntKind.i64.wrap q18))), Option.some.inj hj16, (FrD.pick (FrD.pick hf.none hf rfl) hf rfl), hs⟩
      · have hj16 := bif_f hj16 hb17
        refine wpL_skip ?_
        refine wpL_nil (then_normal ?_)
        exact ⟨p0_at, (IntKind.i64.wrap (((IntKind.i64.wrap ((IntKind.i64.wrap (p0_seed * 48271)) + 59)).tmod 2147483647).tdiv 31)), Option.some.inj hj16, (FrD.pick (FrD.pick hf.none hf rfl) hf rfl), hs⟩
    · rintro a w ⟨x13, x14, hr_, hf, hs⟩
      subst hr_
      try dsimp only at hm
      refine wpL_seq ?_
      refine wpL_region ?_
      refine sY hf hs rfl rfl rfl (Y_move rfl rfl) ?_; clear hf; intro a hf
      refine sY hf hs rfl rfl rfl (Y_move rfl rfl) ?_; clear hf; intro a hf
      obtain ⟨_, hz28, hm⟩ := bind_some hm
      refine sY hf hs rfl rfl rfl (Y_rem rfl rfl rfl (nz_some hz28)) ?_; clear hf; intro a hf
      refine sY hf hs rfl rfl rfl (Y_assign rfl rfl) ?_; clear hf; intro a hf
      refine wpO_nil ?_
      obtain rfl := Option.some.inj hm
      refine wpL_ret (ret_tmp rfl hf rfl ?_)
      exact ⟨_, rfl, rfl, hs⟩

set_option maxRecDepth 100000 in
theorem spec_l01Pick_ok (F : Nat) (b_p0_s : Nat) (p0_s_code : List Int) (A_p0_s_code : Option Addr) (n_p0_s_code c_p0_s_code : Nat) (hn_p0_s_code : n_p0_s_code = p0_s_code.length) (p0_s_at : Int) (p0_s_seed : Int) (p1_list : List Int) (A_p1_list_1 : Option Addr) (n_p1_list_1 c_p1_list_1 : Nat) (hn_p1_list_1 : n_p1_list_1 = p1_list.length) (r : (Int) × Int × Int) (W : World) (hm : spec_l01Pick F p0_s_code p0_s_at p0_s_seed p1_list = some r) (h_p0_s_code : KR (muL [.blk b_p0_s 149 [.slice A_p0_s_code n_p0_s_code c_p0_s_code, .int .i64 p0_s_at, .int .i64 p0_s_seed]]) W A_p0_s_code (bytes p0_s_code)) (h_p1_list_1 : KR (muL [.blk b_p0_s 149 [.slice A_p0_s_code n_p0_s_code c_p0_s_code, .int .i64 p0_s_at, .int .i64 p0_s_seed]]) W A_p1_list_1 (ints p1_list)) (hst : St (muL [.blk b_p0_s 149 [.slice A_p0_s_code n_p0_s_code c_p0_s_code, .int .i64 p0_s_at, .int .i64 p0_s_seed]]) W W [.blk b_p0_s 149 [.slice A_p0_s_code n_p0_s_code c_p0_s_code, .int .i64 p0_s_at, .int .i64 p0_s_seed]]) :
    Calls Try.prog 109 [.pointer (some ⟨b_p0_s, 0, none⟩), .slice A_p1_list_1 n_p1_list_1 c_p1_list_1].toArray W fun e w' => ∃ v, e = .returned v ∧ v = .int .i64 r.1 ∧ St (muL [.blk b_p0_s 149 [.slice A_p0_s_code n_p0_s_code c_p0_s_code, .int .i64 p0_s_at, .int .i64 p0_s_seed]]) W w' [.blk b_p0_s 149 [.slice A_p0_s_code n_p0_s_code c_p0_s_code, .int .i64 r.2.1, .int .i64 r.2.2]] := by
  subst hn_p0_s_code
  subst hn_p1_list_1
  unfold spec_l01Pick at hm
  refine Calls.enter (N := 12) Try.func109 rfl rfl rfl (fun a hf => ?_)
  have hs := hst
  obtain ⟨w, hw_⟩ : ∃ w, w = W := ⟨W, rfl⟩
  clear hw_ w
  refine wpL_seq ?_
  refine wpL_region ?_
  refine sY hf hs rfl rfl rfl (Y_assign rfl rfl) ?_; clear hf; intro a hf
  refine wpO_nil ?_
  refine wpL_seq ?_
  refine wpL_region ?_
  refine sY hf hs rfl rfl rfl (Y_move rfl rfl) ?_; clear hf; intro a hf
  refine sY hf hs rfl rfl rfl (Y_move rfl rfl) ?_; clear hf; intro a hf
  refine sY hf hs rfl rfl rfl (Y_move rfl rfl) ?_; clear hf; intro a hf
  refine sY hf hs rfl rfl rfl (Y_lenH rfl rfl el28 rfl) ?_; clear hf; intro a hf
  obtain ⟨r1, hc2, hm⟩ := bind_some hm
  refine sCall hf rfl rfl rfl rfl (cap := []) rfl rfl en93 (spec_l01Next_ok F b_p0_s p0_s_code A_p0_s_code p0_s_code.length c_p0_s_code rfl p0_s_at p0_s_seed (p1_list.length : Int) _ _ hc2 (h_p0_s_code.pass hs [0]) (hs.sel [0] (by decide)).rebase) ?_; clear hf
  rintro _ w ⟨rfl, hs1⟩ a hf
  have hs : St (muL [.blk b_p0_s 149 [.slice A_p0_s_code p0_s_code.length c_p0_s_code, .int .i64 p0_s_at, .int .i64 p0_s_seed]]) W w [.blk b_p0_s 149 [.slice A_p0_s_code p0_s_code.length c_p0_s_code, .int .i64 r1.2.1, .int .i64 r1.2.2]] := St.mutTail (La := []) (Lb := [.blk b_p0_s 149 [.slice A_p0_s_code p0_s_code.length c_p0_s_code, .int .i64 p0_s_at, .int .i64 p0_s_seed]]) (hs.sel [0] (by decide)) hs1
  clear hs1
  obtain ⟨q3, hi4, hm⟩ := bind_some hm
  obtain ⟨hi4a, hi4b, hi4q⟩ := idx_some hi4
  refine sY hf hs rfl rfl rfl (Y_index rfl rfl rfl el28 ti2 (Rd.isAt (h_p1_list_1.at hs) (at1 (ints_at hi4q))) hi4a hi4b) ?_; clear hf; intro a hf
  refine sY hf hs rfl rfl rfl (Y_load_rd rfl rfl (fun w hs => h_p1_list_1.at hs) (at1 (ints_at hi4q)) ag2) ?_; clear hf; intro a hf
  refine sY hf hs rfl rfl rfl (Y_assign rfl rfl) ?_; clear hf; intro a hf
  refine wpO_nil ?_
  obtain rfl := Option.some.inj hm
  refine wpL_ret (ret_tmp rfl hf rfl ?_)
  exact ⟨_, rfl, rfl, hs⟩

set_option maxHeartbeats 2000000 in
set_option maxRecDepth 100000 in
theorem spec_l23Draw_ok (F : Nat) (b_p0 : Nat) (p0_code : List Int) (A_p0_code : Option Addr) (n_p0_code c_p0_code : Nat) (hn_p0_code : n_p0_code = p0_code.length) (p0_at : Int) (p0_seed : Int) (r : (List GWindow × List GBond) × Int × Int) (W : World) (hm : spec_l23Draw F p0_code p0_at p0_seed = some r) (h_p0_code : KR (muL [.blk b_p0 149 [.slice A_p0_code n_p0_code c_p0_code, .int .i64 p0_at, .int .i64 p0_seed]]) W A_p0_code (bytes p0_code)) (hst : St (muL [.blk b_p0 149 [.slice A_p0_code n_p0_code c_p0_code, .int .i64 p0_at, .int .i64 p0_seed]]) W W [.blk b_p0 149 [.slice A_p0_code n_p0_code c_p0_code, .int .i64 p0_at, .int .i64 p0_seed]]) :
    Calls Try.prog 64 [.pointer (some ⟨b_p0, 0, none⟩)].toArray W fun e w' => ∃ v, e = .returned v ∧ ∃ A267, ∃ n268, ∃ c269, ∃ A271, ∃ n272, ∃ c273, v = .tuple #[.slice A267 n268 c269, .slice A271 n272 c273] ∧ n268 = r.1.1.length ∧ n272 = r.1.2.length ∧ St (muL [.blk b_p0 149 [.slice A_p0_code n_p0_code c_p0_code, .int .i64 p0_at, .int .i64 p0_seed]]) W w' [.row A267 n268 c269 39 2 ((recs GWindow.cells) r.1.1), .row A271 n272 c273 95 3 ((recs GBond.cells) r.1.2), .blk b_p0 149 [.slice A_p0_code n_p0_code c_p0_code, .int .i64 r.2.1, .int .i64 r.2.2]] := by
  subst hn_p0_code
  unfold spec_l23Draw at hm
  refine Calls.enter (N := 100) Try.func64 rfl rfl rfl (fun a hf => ?_)
  have hs := hst
  obtain ⟨w, hw_⟩ : ∃ w, w = W := ⟨W, rfl⟩
  clear hw_ w
  refine wpL_seq ?_
  refine wpL_region ?_
  refine sY hf hs rfl rfl rfl (Y_assign rfl rfl) ?_; clear hf; intro a hf
  refine sY hf hs rfl rfl rfl (Y_assign rfl rfl) ?_; clear hf; intro a hf
  refine wpO_nil ?_
  refine wpL_seq ?_
  refine wpL_region ?_
  refine sEmpty hf hs rfl rfl rfl rfl el24 ti39 ?_; clear hf hs; intro a w A1 hs hf
  have hs : St (muL [.blk b_p0 149 [.slice A_p0_code p0_code.length c_p0_code, .int .i64 p0_at, .int .i64 p0_seed]]) W w [.blk b_p0 149 [.slice A_p0_code p0_code.length c_p0_code, .int .i64 p0_at, .int .i64 p0_seed], .row A1 0 0 39 2 ((recs GWindow.cells) ([] : List GWindow))] := hs
  refine sEmpty hf hs rfl rfl rfl rfl el25 ti95 ?_; clear hf hs; intro a w A3 hs hf
  have hs : St (muL [.blk b_p0 149 [.slice A_p0_code p0_code.length c_p0_code, .int .i64 p0_at, .int .i64 p0_seed]]) W w [.blk b_p0 149 [.slice A_p0_code p0_code.length c_p0_code, .int .i64 p0_at, .int .i64 p0_seed], .row A1 0 0 39 2 ((recs GWindow.cells) ([] : List GWindow)), .row A3 0 0 95 3 ((recs GBond.cells) ([] : List GBond))] := hs
  refine sY hf hs rfl rfl rfl (Y_assign rfl rfl) ?_; clear hf; intro a hf
  refine sY hf hs rfl rfl rfl (Y_assign rfl rfl) ?_; clear hf; intro a hf
  refine wpO_nil ?_
  refine wpL_seq ?_
  refine wpL_region ?_
  refine sY hf hs rfl rfl rfl (Y_move rfl rfl) ?_; clear hf; intro a hf
  obtain ⟨r5, hc6, hm⟩ := bind_some hm
  refine sCall hf rfl rfl rfl rfl (cap := []) rfl rfl en93 (spec_l01Next_ok F b_p0 p0_code A_p0_code p0_code.length c_p0_code rfl p0_at p0_seed 5 _ _ hc6 (h_p0_code.pass hs [0]) (hs.sel [0] (by decide)).rebase) ?_; clear hf
  rintro _ w ⟨rfl, hs1⟩ a hf
  have hs : St (muL [.blk b_p0 149 [.slice A_p0_code p0_code.length c_p0_code, .int .i64 p0_at, .int .i64 p0_seed]]) W w [.row A1 0 0 39 2 ((recs GWindow.cells) ([] : List GWindow)), .row A3 0 0 95 3 ((recs GBond.cells) ([] : List GBond)), .blk b_p0 149 [.slice A_p0_code p0_code.length c_p0_code, .int .i64 r5.2.1, .int .i64 r5.2.2]] := St.mutTail (La := [.row A1 0 0 39 2 ((recs GWindow.cells) ([] : List GWindow)), .row A3 0 0 95 3 ((recs GBond.cells) ([] : List GBond))]) (Lb := [.blk b_p0 149 [.slice A_p0_code p0_code.length c_p0_code, .int .i64 p0_at, .int .i64 p0_seed]]) (hs.sel [1, 2, 0] (by decide)) hs1
  clear hs1
  refine sY hf hs rfl rfl rfl (Y_add rfl rfl rfl) ?_; clear hf; intro a hf
  refine sY hf hs rfl rfl rfl (Y_assign rfl rfl) ?_; clear hf; intro a hf
  refine wpO_nil ?_
  refine wpL_seq ?_
  refine wpL_seq ?_
  refine wpL_region ?_
  refine sY hf hs rfl rfl rfl (Y_assign rfl rfl) ?_; clear hf; intro a hf
  refine wpO_nil ?_
  obtain ⟨r81, hl82, hm⟩ := bind_some hm
  refine wpL_block (fun a w => ∃ x74 : Int, ∃ x75 : Int, ∃ xs76 : List GWindow, ∃ A77, ∃ n78, ∃ c79, (x74, x75, xs76) = r81 ∧ n78 = xs76.length ∧ Fr a 100 [(0, .pointer (some ⟨b_p0, 0, none⟩)), (4, .slice A77 n78 c79), (5, .slice A3 0 0), (6, .int .i64 (IntKind.i64.wrap (1 + r5.1)))] ∧ St (muL [.blk b_p0 149 [.slice A_p0_code p0_code.length c_p0_code, .int .i64 p0_at, .int .i64 p0_seed]]) W w [.blk b_p0 149 [.slice A_p0_code p0_code.length c_p0_code, .int .i64 x74, .int .i64 x75], .row A77 n78 c79 39 2 ((recs GWindow.cells) xs76), .row A3 0 0 95 3 ((recs GBond.cells) ([] : List GBond))]) ?_ ?_
  · refine wpL_loop (fun n a w => ∃ x49 : Int, ∃ x50 : Int, ∃ xs51 : List GWindow, ∃ x56 : Int, ∃ A52, ∃ n53, ∃ c54, spec_l23Draw_L1 F p0_code r5 n x49 x50 xs51 x56 = some r81 ∧ n53 = xs51.length ∧ Fr a 100 [(0, .pointer (some ⟨b_p0, 0, none⟩)), (4, .slice A52 n53 c54), (5, .slice A3 0 0), (6, .int .i64 (IntKind.i64.wrap (1 + r5.1))), (7, .int .i64 x56)] ∧ St (muL [.blk b_p0 149 [.slice A_p0_code p0_code.length c_p0_code, .int .i64 p0_at, .int .i64 p0_seed]]) W w [.blk b_p0 149 [.slice A_p0_code p0_code.length c_p0_code, .int .i64 x49, .int .i64 x50], .row A52 n53 c54 39 2 ((recs GWindow.cells) xs51), .row A3 0 0 95 3 ((recs GBond.cells) ([] : List GBond))]) F ?_ ?_ ?_
    · exact ⟨r5.2.1, r5.2.2, ([] : List GWindow), 0, A1, 0, 0, hl82, rfl, (FrD.pick (FrD.pick (FrD.pick (FrD.pick (FrD.pick hf.none hf rfl) hf rfl) hf rfl) hf rfl) hf rfl), hs.sel [2, 0, 1] (by decide)⟩
    · rintro a w ⟨x49, x50, xs51, x56, A52, n53, c54, h0_, -, -, -⟩; simp [spec_l23Draw_L1] at h0_
    · rintro n84 a w ⟨x49, x50, xs51, x56, A52, n53, c54, hm83, hn55, hf, hs⟩
      rw [spec_l23Draw_L1] at hm83
      refine wpL_seq ?_
      refine wpL_seq ?_
      refine wpL_region ?_
      refine sY hf hs rfl rfl rfl (Y_move rfl rfl) ?_; clear hf; intro a hf
      refine sY hf hs rfl rfl rfl (Y_move rfl rfl) ?_; clear hf; intro a hf
      refine sY hf hs rfl rfl rfl (Y_lss rfl rfl rfl) ?_; clear hf; intro a hf
      refine wpO_nil ?_
      refine wpL_cond hf rfl (fun hb85 => ?_) (fun hb85 => ?_)
      · have hm83 := bif_t hm83 hb85
        refine wpL_skip ?_
        refine wpL_seq ?_
        refine wpL_block0 ?_
        refine wpL_seq ?_
        refine wpL_region ?_
        refine sY hf hs rfl rfl rfl (Y_move rfl rfl) ?_; clear hf; intro a hf
        obtain ⟨r86, hc87, hm83⟩ := bind_some hm83
        refine sCall hf rfl rfl rfl rfl (cap := []) rfl rfl en93 (spec_l01Next_ok F b_p0 p0_code A_p0_code p0_code.length c_p0_code rfl x49 x50 20 _ _ hc87 (h_p0_code.pass hs [0]) (hs.sel [0] (by decide)).rebase) ?_; clear hf
        rintro _ w ⟨rfl, hs1⟩ a hf
        have hs : St (muL [.blk b_p0 149 [.slice A_p0_code p0_code.length c_p0_code, .int .i64 p0_at, .int .i64 p0_seed]]) W w [.row A52 n53 c54 39 2 ((recs GWindow.cells) xs51), .row A3 0 0 95 3 ((recs GBond.cells) ([] : List GBond)), .blk b_p0 149 [.slice A_p0_code p0_code.length c_p0_code, .int .i64 r86.2.1, .int .i64 r86.2.2]] := St.mutTail (La := [.row A52 n53 c54 39 2 ((recs GWindow.cells) xs51), .row A3 0 0 95 3 ((recs GBond.cells) ([] : List GBond))]) (Lb := [.blk b_p0 149 [.slice A_p0_code p0_code.length c_p0_code, .int .i64 x49, .int .i64 x50]]) (hs.sel [1, 2, 0] (by decide)) hs1
        clear hs1
        refine sY hf hs rfl rfl rfl (Y_assign rfl rfl) ?_; clear hf; intro a hf
        refine wpO_nil ?_
        refine wpL_region ?_
        refine sY hf hs rfl rfl rfl (Y_move rfl rfl) ?_; clear hf; intro a hf
        refine sY hf hs rfl rfl rfl (Y_move rfl rfl) ?_; clear hf; intro a hf
        refine sY hf hs rfl rfl rfl (Y_move rfl rfl) ?_; clear hf; intro a hf
        refine sY hf hs rfl rfl rfl (Y_move rfl rfl) ?_; clear hf; intro a hf
        refine sY hf hs rfl rfl rfl (Y_move rfl rfl) ?_; clear hf; intro a hf
        obtain ⟨r88, hc89, hm83⟩ := bind_some hm83
        refine sCall hf rfl rfl rfl rfl (cap := []) rfl rfl en93 (spec_l01Next_ok F b_p0 p0_code A_p0_code p0_code.length c_p0_code rfl r86.2.1 r86.2.2 20 _ _ hc89 (h_p0_code.pass hs [2]) (hs.sel [2] (by decide)).rebase) ?_; clear hf
        rintro _ w ⟨rfl, hs1⟩ a hf
        have hs : St (muL [.blk b_p0 149 [.slice A_p0_code p0_code.length c_p0_code, .int .i64 p0_at, .int .i64 p0_seed]]) W w [.row A52 n53 c54 39 2 ((recs GWindow.cells) xs51), .row A3 0 0 95 3 ((recs GBond.cells) ([] : List GBond)), .blk b_p0 149 [.slice A_p0_code p0_code.length c_p0_code, .int .i64 r88.2.1, .int .i64 r88.2.2]] := St.mutTail (La := [.row A52 n53 c54 39 2 ((recs GWindow.cells) xs51), .row A3 0 0 95 3 ((recs GBond.cells) ([] : List GBond))]) (Lb := [.blk b_p0 149 [.slice A_p0_code p0_code.length c_p0_code, .int .i64 r86.2.1, .int .i64 r86.2.2]]) (hs.sel [0, 1, 2] (by decide)) hs1
        clear hs1
        refine sY hf hs rfl rfl rfl (Y_move rfl rfl) ?_; clear hf; intro a hf
        obtain ⟨r90, hc91, hm83⟩ := bind_some hm83
        refine sCall hf rfl rfl rfl rfl (cap := []) rfl rfl en93 (spec_l01Next_ok F b_p0 p0_code A_p0_code p0_code.length c_p0_code rfl r88.2.1 r88.2.2 6 _ _ hc91 (h_p0_code.pass hs [2]) (hs.sel [2] (by decide)).rebase) ?_; clear hf
        rintro _ w ⟨rfl, hs1⟩ a hf
        have hs : St (muL [.blk b_p0 149 [.slice A_p0_code p0_code.length c_p0_code, .int .i64 p0_at, .int .i64 p0_seed]]) W w [.row A52 n53 c54 39 2 ((recs GWindow.cells) xs51), .row A3 0 0 95 3 ((recs GBond.cells) ([] : List GBond)), .blk b_p0 149 [.slice A_p0_code p0_code.length c_p0_code, .int .i64 r90.2.1, .int .i64 r90.2.2]] := St.mutTail (La := [.row A52 n53 c54 39 2 ((recs GWindow.cells) xs51), .row A3 0 0 95 3 ((recs GBond.cells) ([] : List GBond))]) (Lb := [.blk b_p0 149 [.slice A_p0_code p0_code.length c_p0_code, .int .i64 r88.2.1, .int .i64 r88.2.2]]) (hs.sel [0, 1, 2] (by decide)) hs1
        clear hs1
        refine sBuildSlice (parts := [(0, .tmp 28), (1, .const (.int .i64 40)), (2, .tmp 30)]) (vs := [.int .i64 r88.1, .int .i64 40, .int .i64 r90.1]) (cells := [.int .i64 r88.1, .int .i64 40, .int .i64 r90.1]) hf hs rfl rfl rfl rfl rfl el28 ti2 rfl rfl rfl rfl ?_; clear hf hs; intro a w A92 hs hA93 hf
        have hs : St (muL [.blk b_p0 149 [.slice A_p0_code p0_code.length c_p0_code, .int .i64 p0_at, .int .i64 p0_seed]]) W w [.row A52 n53 c54 39 2 ((recs GWindow.cells) xs51), .row A3 0 0 95 3 ((recs GBond.cells) ([] : List GBond)), .blk b_p0 149 [.slice A_p0_code p0_code.length c_p0_code, .int .i64 r90.2.1, .int .i64 r90.2.2], .row A92 3 3 2 1 (ints ([r88.1, 40, r90.1]))] := hs
        obtain ⟨r94, hc95, hm83⟩ := bind_some hm83
        refine sCall hf rfl rfl rfl rfl (cap := []) rfl rfl en109 (spec_l01Pick_ok F b_p0 p0_code A_p0_code p0_code.length c_p0_code rfl r90.2.1 r90.2.2 ([r88.1, 40, r90.1]) A92 3 3 rfl _ _ hc95 (h_p0_code.pass hs [2]) (hs.keepR (i := 3) rfl [2] (by decide)) (hs.sel [2] (by decide)).rebase) ?_; clear hf
        rintro _ w ⟨rfl, hs1⟩ a hf
        have hs : St (muL [.blk b_p0 149 [.slice A_p0_code p0_code.length c_p0_code, .int .i64 p0_at, .int .i64 p0_seed]]) W w [.row A52 n53 c54 39 2 ((recs GWindow.cells) xs51), .row A3 0 0 95 3 ((recs GBond.cells) ([] : List GBond)), .row A92 3 3 2 1 (ints ([r88.1, 40, r90.1])), .blk b_p0 149 [.slice A_p0_code p0_code.length c_p0_code, .int .i64 r94.2.1, .int .i64 r94.2.2]] := St.mutTail (La := [.row A52 n53 c54 39 2 ((recs GWindow.cells) xs51), .row A3 0 0 95 3 ((recs GBond.cells) ([] : List GBond)), .row A92 3 3 2 1 (ints ([r88.1, 40, r90.1]))]) (Lb := [.blk b_p0 149 [.slice A_p0_code p0_code.length c_p0_code, .int .i64 r90.2.1, .int .i64 r90.2.2]]) (hs.sel [0, 1, 3, 2] (by decide)) hs1
        clear hs1
        refine sY hf hs rfl rfl rfl (Y_add rfl rfl rfl) ?_; clear hf; intro a hf
        refine sY hf hs rfl rfl rfl (Y_build (parts := [(0, .tmp 24), (1, .tmp 33)]) (vs := [.int .i64 r86.1, .int .i64 (IntKind.i64.wrap (r86.1 + r94.1))]) rfl rfl (run_build (parts := [(0, .int .i64 r86.1), (1, .int .i64 (IntKind.i64.wrap (r86.1 + r94.1)))]) (cells := [.int .i64 r86.1, .int .i64 (IntKind.i64.wrap (r86.1 + r94.1))]) (places := #[(0, 1), (1, 1)]) ti39 Try.underlying39 (fun w => by simp [go_sem]) rfl)) ?_; clear hf; intro a hf
        refine sBuildSlice (parts := [(0, .tmp 34)]) (vs := [.agg #[.int .i64 r86.1, .int .i64 (IntKind.i64.wrap (r86.1 + r94.1))]]) (cells := [.int .i64 r86.1, .int .i64 (IntKind.i64.wrap (r86.1 + r94.1))]) hf hs rfl rfl rfl rfl rfl el24 ti39 rfl rfl rfl rfl ?_; clear hf hs; intro a w A96 hs hA97 hf
        have hs : St (muL [.blk b_p0 149 [.slice A_p0_code p0_code.length c_p0_code, .int .i64 p0_at, .int .i64 p0_seed]]) W w [.row A52 n53 c54 39 2 ((recs GWindow.cells) xs51), .row A3 0 0 95 3 ((recs GBond.cells) ([] : List GBond)), .row A92 3 3 2 1 (ints ([r88.1, 40, r90.1])), .blk b_p0 149 [.slice A_p0_code p0_code.length c_p0_code, .int .i64 r94.2.1, .int .i64 r94.2.2], .row A96 1 1 39 2 ((recs GWindow.cells) ([(GWindow.mk r86.1 (IntKind.i64.wrap (r86.1 + r94.1)))]))] := hs
        obtain ⟨xs100, ha101, hm83⟩ := bind_some hm83
        refine sAppendL (i := 0) (xs := xs51) (ys := [(GWindow.mk r86.1 (IntKind.i64.wrap (r86.1 + r94.1)))]) (enc := (recs GWindow.cells)) hf hs rfl rfl rfl rfl rfl rfl hn55 rfl rfl ha101 el24 ti39 rfl rfl rfl (hs.rd (i := 4) rfl) (Nat.succ_pos _) (recs_length GWindow.len) (recs_append GWindow.cells) (recs_one GWindow.one) ?_; clear hf hs; intro a w A98 c99 hs hf
        have hs : St (muL [.blk b_p0 149 [.slice A_p0_code p0_code.length c_p0_code, .int .i64 p0_at, .int .i64 p0_seed]]) W w [.row A98 xs100.length c99 39 2 ((recs GWindow.cells) xs100), .row A3 0 0 95 3 ((recs GBond.cells) ([] : List GBond)), .row A92 3 3 2 1 (ints ([r88.1, 40, r90.1])), .blk b_p0 149 [.slice A_p0_code p0_code.length c_p0_code, .int .i64 r94.2.1, .int .i64 r94.2.2], .row A96 1 1 39 2 ((recs GWindow.cells) ([(GWindow.mk r86.1 (IntKind.i64.wrap (r86.1 + r94.1)))]))] := hs
        refine sY hf hs rfl rfl rfl (Y_assign rfl rfl) ?_; clear hf; intro a hf
        refine wpO_nil ?_
        refine wpL_nil (Qb_normal ?_)
        refine wpL_region ?_
        refine sY hf hs rfl rfl rfl (Y_move rfl rfl) ?_; clear hf; intro a hf
        refine sY hf hs rfl rfl rfl (Y_add rfl rfl rfl) ?_; clear hf; intro a hf
        refine sY hf hs rfl rfl rfl (Y_assign rfl rfl) ?_; clear hf; intro a hf
        refine wpO_nil ?_
        refine wpL_nil (Ql_normal ?_)
        exact ⟨r94.2.1, r94.2.2, xs100, (IntKind.i64.wrap (x56 + 1)), A98, xs100.length, c99, hm83, rfl, (FrD.pick (FrD.pick (FrD.pick (FrD.pick (FrD.pick hf.none hf rfl) hf rfl) hf rfl) hf rfl) hf rfl), hs.sel [3, 0, 1] (by decide)⟩
      · have hm83 := bif_f hm83 hb85
        refine wpL_exit (Ql_exit (Qb_exit ?_))
        exact ⟨x49, x50, xs51, A52, n53, c54, Option.some.inj hm83, hn55, (FrD.pick (FrD.pick (FrD.pick (FrD.pick hf.none hf rfl) hf rfl) hf rfl) hf rfl), hs⟩
  · rintro a w ⟨x74, x75, xs76, A77, n78, c79, hr_, hn80, hf, hs⟩
    subst hr_
    try dsimp only at hm
    refine wpL_seq ?_
    refine wpL_seq ?_
    refine wpL_region ?_
    refine sY hf hs rfl rfl rfl (Y_move rfl rfl) ?_; clear hf; intro a hf
    obtain ⟨r102, hc103, hm⟩ := bind_some hm
    refine sCall hf rfl rfl rfl rfl (cap := []) rfl rfl en93 (spec_l01Next_ok F b_p0 p0_code A_p0_code p0_code.length c_p0_code rfl x74 x75 8 _ _ hc103 (h_p0_code.pass hs [0]) (hs.sel [0] (by decide)).rebase) ?_; clear hf
    rintro _ w ⟨rfl, hs1⟩ a hf
    have hs : St (muL [.blk b_p0 149 [.slice A_p0_code p0_code.length c_p0_code, .int .i64 p0_at, .int .i64 p0_seed]]) W w [.row A77 n78 c79 39 2 ((recs GWindow.cells) xs76), .row A3 0 0 95 3 ((recs GBond.cells) ([] : List GBond)), .blk b_p0 149 [.slice A_p0_code p0_code.length c_p0_code, .int .i64 r102.2.1, .int .i64 r102.2.2]] := St.mutTail (La := [.row A77 n78 c79 39 2 ((recs GWindow.cells) xs76), .row A3 0 0 95 3 ((recs GBond.cells) ([] : List GBond))]) (Lb := [.blk b_p0 149 [.slice A_p0_code p0_code.length c_p0_code, .int .i64 x74, .int .i64 x75]]) (hs.sel [1, 2, 0] (by decide)) hs1
    clear hs1
    refine sY hf hs rfl rfl rfl (Y_assign rfl rfl) ?_; clear hf; intro a hf
    refine wpO_nil ?_
    obtain ⟨r202, hl203, hm⟩ := bind_some hm
    refine wpL_block (fun a w => ∃ x195 : Int, ∃ x196 : Int, ∃ xs197 : List GBond, ∃ A198, ∃ n199, ∃ c200, (x195, x196, xs197) = r202 ∧ n199 = xs197.length ∧ Fr a 100 [(0, .pointer (some ⟨b_p0, 0, none⟩)), (4, .slice A77 n78 c79), (5, .slice A198 n199 c200), (6, .int .i64 (IntKind.i64.wrap (1 + r5.1)))] ∧ St (muL [.blk b_p0 149 [.slice A_p0_code p0_code.length c_p0_code, .int .i64 p0_at, .int .i64 p0_seed]]) W w [.blk b_p0 149 [.slice A_p0_code p0_code.length c_p0_code, .int .i64 x195, .int .i64 x196], .row A77 n78 c79 39 2 ((recs GWindow.cells) xs76), .row A198 n199 c200 95 3 ((recs GBond.cells) xs197)]) ?_ ?_
    · refine wpL_loop (fun n a w => ∃ x162 : Int, ∃ x163 : Int, ∃ xs164 : List GBond, ∃ x169 : Int, ∃ A165, ∃ n166, ∃ c167, spec_l23Draw_L2 F p0_code r5 n x162 x163 xs164 x169 = some r202 ∧ n166 = xs164.length ∧ Fr a 100 [(0, .pointer (some ⟨b_p0, 0, none⟩)), (4, .slice A77 n78 c79), (5, .slice A165 n166 c167), (6, .int .i64 (IntKind.i64.wrap (1 + r5.1))), (9, .int .i64 x169)] ∧ St (muL [.blk b_p0 149 [.slice A_p0_code p0_code.length c_p0_code, .int .i64 p0_at, .int .i64 p0_seed]]) W w [.blk b_p0 149 [.slice A_p0_code p0_code.length c_p0_code, .int .i64 x162, .int .i64 x163], .row A77 n78 c79 39 2 ((recs GWindow.cells) xs76), .row A165 n166 c167 95 3 ((recs GBond.cells) xs164)]) F ?_ ?_ ?_
      · exact ⟨r102.2.1, r102.2.2, ([] : List GBond), r102.1, A3, 0, 0, hl203, rfl, (FrD.pick (FrD.pick (FrD.pick (FrD.pick (FrD.pick hf.none hf rfl) hf rfl) hf rfl) hf rfl) hf rfl), hs.sel [2, 0, 1] (by decide)⟩
      · rintro a w ⟨x162, x163, xs164, x169, A165, n166, c167, h0_, -, -, -⟩; simp [spec_l23Draw_L2] at h0_
      · rintro n205 a w ⟨x162, x163, xs164, x169, A165, n166, c167, hm204, hn168, hf, hs⟩
        rw [spec_l23Draw_L2] at hm204
        refine wpL_seq ?_
        refine wpL_seq ?_
        refine wpL_region ?_
        refine sY hf hs rfl rfl rfl (Y_move rfl rfl) ?_; clear hf; intro a hf
        refine sY hf hs rfl rfl rfl (Y_gtr rfl rfl rfl) ?_; clear hf; intro a hf
        refine wpO_nil ?_
        refine wpL_cond hf rfl (fun hb206 => ?_) (fun hb206 => ?_)
        · have hm204 := bif_t hm204 hb206
          refine wpL_skip ?_
          refine wpL_seq ?_
          refine wpL_block0 ?_
          refine wpL_seq ?_
          refine wpL_region ?_
          refine sY hf hs rfl rfl rfl (Y_move rfl rfl) ?_; clear hf; intro a hf
          refine sY hf hs rfl rfl rfl (Y_move rfl rfl) ?_; clear hf; intro a hf
          obtain ⟨r207, hc208, hm204⟩ := bind_some hm204
          refine sCall hf rfl rfl rfl rfl (cap := []) rfl rfl en93 (spec_l01Next_ok F b_p0 p0_code A_p0_code p0_code.length c_p0_code rfl x162 x163 (IntKind.i64.wrap (1 + r5.1)) _ _ hc208 (h_p0_code.pass hs [0]) (hs.sel [0] (by decide)).rebase) ?_; clear hf
          rintro _ w ⟨rfl, hs1⟩ a hf
          have hs : St (muL [.blk b_p0 149 [.slice A_p0_code p0_code.length c_p0_code, .int .i64 p0_at, .int .i64 p0_seed]]) W w [.row A77 n78 c79 39 2 ((recs GWindow.cells) xs76), .row A165 n166 c167 95 3 ((recs GBond.cells) xs164), .blk b_p0 149 [.slice A_p0_code p0_code.length c_p0_code, .int .i64 r207.2.1, .int .i64 r207.2.2]] := St.mutTail (La := [.row A77 n78 c79 39 2 ((recs GWindow.cells) xs76), .row A165 n166 c167 95 3 ((recs GBond.cells) xs164)]) (Lb := [.blk b_p0 149 [.slice A_p0_code p0_code.length c_p0_code, .int .i64 x162, .int .i64 x163]]) (hs.sel [1, 2, 0] (by decide)) hs1
          clear hs1
          refine sY hf hs rfl rfl rfl (Y_move rfl rfl) ?_; clear hf; intro a hf
          refine sY hf hs rfl rfl rfl (Y_move rfl rfl) ?_; clear hf; intro a hf
          obtain ⟨r209, hc210, hm204⟩ := bind_some hm204
          refine sCall hf rfl rfl rfl rfl (cap := []) rfl rfl en93 (spec_l01Next_ok F b_p0 p0_code A_p0_code p0_code.length c_p0_code rfl r207.2.1 r207.2.2 (IntKind.i64.wrap (1 + r5.1)) _ _ hc210 (h_p0_code.pass hs [2]) (hs.sel [2] (by decide)).rebase) ?_; clear hf
          rintro _ w ⟨rfl, hs1⟩ a hf
          have hs : St (muL [.blk b_p0 149 [.slice A_p0_code p0_code.length c_p0_code, .int .i64 p0_at, .int .i64 p0_seed]]) W w [.row A77 n78 c79 39 2 ((recs GWindow.cells) xs76), .row A165 n166 c167 95 3 ((recs GBond.cells) xs164), .blk b_p0 149 [.slice A_p0_code p0_code.length c_p0_code, .int .i64 r209.2.1, .int .i64 r209.2.2]] := St.mutTail (La := [.row A77 n78 c79 39 2 ((recs GWindow.cells) xs76), .row A165 n166 c167 95 3 ((recs GBond.cells) xs164)]) (Lb := [.blk b_p0 149 [.slice A_p0_code p0_code.length c_p0_code, .int .i64 r207.2.1, .int .i64 r207.2.2]]) (hs.sel [0, 1, 2] (by decide)) hs1
          clear hs1
          refine sY hf hs rfl rfl rfl (Y_move rfl rfl) ?_; clear hf; intro a hf
          obtain ⟨r211, hc212, hm204⟩ := bind_some hm204
          refine sCall hf rfl rfl rfl rfl (cap := []) rfl rfl en93 (spec_l01Next_ok F b_p0 p0_code A_p0_code p0_code.length c_p0_code rfl r209.2.1 r209.2.2 16 _ _ hc212 (h_p0_code.pass hs [2]) (hs.sel [2] (by decide)).rebase) ?_; clear hf
          rintro _ w ⟨rfl, hs1⟩ a hf
          have hs : St (muL [.blk b_p0 149 [.slice A_p0_code p0_code.length c_p0_code, .int .i64 p0_at, .int .i64 p0_seed]]) W w [.row A77 n78 c79 39 2 ((recs GWindow.cells) xs76), .row A165 n166 c167 95 3 ((recs GBond.cells) xs164), .blk b_p0 149 [.slice A_p0_code p0_code.length c_p0_code, .int .i64 r211.2.1, .int .i64 r211.2.2]] := St.mutTail (La := [.row A77 n78 c79 39 2 ((recs GWindow.cells) xs76), .row A165 n166 c167 95 3 ((recs GBond.cells) xs164)]) (Lb := [.blk b_p0 149 [.slice A_p0_code p0_code.length c_p0_code, .int .i64 r209.2.1, .int .i64 r209.2.2]]) (hs.sel [0, 1, 2] (by decide)) hs1
          clear hs1
          refine sY hf hs rfl rfl rfl (Y_sub rfl rfl rfl) ?_; clear hf; intro a hf
          refine sY hf hs rfl rfl rfl (Y_build (parts := [(0, .tmp 45), (1, .tmp 48), (2, .tmp 51)]) (vs := [.int .i64 r207.1, .int .i64 r209.1, .int .i64 (IntKind.i64.wrap (r211.1 - 6))]) rfl rfl (run_build (parts := [(0, .int .i64 r207.1), (1, .int .i64 r209.1), (2, .int .i64 (IntKind.i64.wrap (r211.1 - 6)))]) (cells := [.int .i64 r207.1, .int .i64 r209.1, .int .i64 (IntKind.i64.wrap (r211.1 - 6))]) (places := #[(0, 1), (1, 1), (2, 1)]) ti95 Try.underlying95 (fun w => by simp [go_sem]) rfl)) ?_; clear hf; intro a hf
          refine sAlloc hf hs rfl rfl rfl rfl ti95 ?_; clear hf hs; intro a w b213 hs hf
          have hs : St (muL [.blk b_p0 149 [.slice A_p0_code p0_code.length c_p0_code, .int .i64 p0_at, .int .i64 p0_seed]]) W w [.row A77 n78 c79 39 2 ((recs GWindow.cells) xs76), .row A165 n166 c167 95 3 ((recs GBond.cells) xs164), .blk b_p0 149 [.slice A_p0_code p0_code.length c_p0_code, .int .i64 r211.2.1, .int .i64 r211.2.2], .blk b213 95 [.int .i64 0, .int .i64 0, .int .i64 0]] := hs
          refine sStore (i := 3) (us := [.int .i64 r207.1, .int .i64 r209.1, .int .i64 (IntKind.i64.wrap (r211.1 - 6))]) hf hs rfl rfl rfl rfl rfl rfl ti95 rfl rfl rfl (Nat.le_of_ble_eq_true rfl) rfl ?_; clear hs; intro w hs
          have hs : St (muL [.blk b_p0 149 [.slice A_p0_code p0_code.length c_p0_code, .int .i64 p0_at, .int .i64 p0_seed]]) W w [.row A77 n78 c79 39 2 ((recs GWindow.cells) xs76), .row A165 n166 c167 95 3 ((recs GBond.cells) xs164), .blk b_p0 149 [.slice A_p0_code p0_code.length c_p0_code, .int .i64 r211.2.1, .int .i64 r211.2.2], .blk b213 95 [.int .i64 r207.1, .int .i64 r209.1, .int .i64 (IntKind.i64.wrap (r211.1 - 6))]] := hs
          refine wpO_nil ?_
          refine wpL_seq ?_
          refine wpL_seq ?_
          refine wpL_region ?_
          refine sY hf hs rfl rfl rfl (Y_fieldAddr rfl rfl fo95_0) ?_; clear hf; intro a hf
          refine sY hf hs rfl rfl rfl (Y_load_blk rfl rfl (i := 3) rfl rfl ag2) ?_; clear hf; intro a hf
          refine sY hf hs rfl rfl rfl (Y_fieldAddr rfl rfl fo95_1) ?_; clear hf; intro a hf
          refine sY hf hs rfl rfl rfl (Y_load_blk rfl rfl (i := 3) rfl rfl ag2) ?_; clear hf; intro a hf
          refine sY hf hs rfl rfl rfl (Y_geq rfl rfl rfl) ?_; clear hf; intro a hf
          refine wpO_nil ?_
          obtain ⟨r220, hj221, hm204⟩ := bind_some hm204
          refine wpL_cut (fun a w => ∃ x217 : Int, ∃ x218 : Int, ∃ x219 : Int, (x217, x218, x219) = r220 ∧ Fr a 100 [(0, .pointer (some ⟨b_p0, 0, none⟩)), (4, .slice A77 n78 c79), (5, .slice A165 n166 c167), (6, .int .i64 (IntKind.i64.wrap (1 + r5.1))), (9, .int .i64 x169), (10, .pointer (some ⟨b213, 0, none⟩))] ∧ St (muL [.blk b_p0 149 [.slice A_p0_code p0_code.length c_p0_code, .int .i64 p0_at, .int .i64 p0_seed]]) W w [.blk b_p0 149 [.slice A_p0_code p0_code.length c_p0_code, .int .i64 x217, .int .i64 x218], .row A77 n78 c79 39 2 ((recs GWindow.cells) xs76), .row A165 n166 c167 95 3 ((recs GBond.cells) xs164), .blk b213 95 [.int .i64 r207.1, .int .i64 r209.1, .int .i64 x219]]) ?_ ?_
          · refine wpL_cond hf rfl (fun hb222 => ?_) (fun hb222 => ?_)
            · have hj221 := bif_t hj221 hb222
              refine wpL_region ?_
              refine sY hf hs rfl rfl rfl (Y_move rfl rfl) ?_; clear hf; intro a hf
              obtain ⟨r223, hc224, hj221⟩ := bind_some hj221
              refine sCall hf rfl rfl rfl rfl (cap := []) rfl rfl en93 (spec_l01Next_ok F b_p0 p0_code A_p0_code p0_code.length c_p0_code rfl r211.2.1 r211.2.2 25 _ _ hc224 (h_p0_code.pass hs [2]) (hs.sel [2] (by decide)).rebase) ?_; clear hf
              rintro _ w ⟨rfl, hs1⟩ a hf
              have hs : St (muL [.blk b_p0 149 [.slice A_p0_code p0_code.length c_p0_code, .int .i64 p0_at, .int .i64 p0_seed]]) W w [.row A77 n78 c79 39 2 ((recs GWindow.cells) xs76), .row A165 n166 c167 95 3 ((recs GBond.cells) xs164), .blk b213 95 [.int .i64 r207.1, .int .i64 r209.1, .int .i64 (IntKind.i64.wrap (r211.1 - 6))], .blk b_p0 149 [.slice A_p0_code p0_code.length c_p0_code, .int .i64 r223.2.1, .int .i64 r223.2.2]] := St.mutTail (La := [.row A77 n78 c79 39 2 ((recs GWindow.cells) xs76), .row A165 n166 c167 95 3 ((recs GBond.cells) xs164), .blk b213 95 [.int .i64 r207.1, .int .i64 r209.1, .int .i64 (IntKind.i64.wrap (r211.1 - 6))]]) (Lb := [.blk b_p0 149 [.slice A_p0_code p0_code.length c_p0_code, .int .i64 r211.2.1, .int .i64 r211.2.2]]) (hs.sel [0, 1, 3, 2] (by decide)) hs1
              clear hs1
              refine sY hf hs rfl rfl rfl (Y_neg rfl rfl) ?_; clear hf; intro a hf
              refine sY hf hs rfl rfl rfl (Y_fieldAddr rfl rfl fo95_2) ?_; clear hf; intro a hf
              refine sStore (i := 2) (us := [.int .i64 (IntKind.i64.wrap (0 - r223.1))]) hf hs rfl rfl rfl rfl rfl rfl ti2 rfl rfl rfl (Nat.le_of_ble_eq_true rfl) rfl ?_; clear hs; intro w hs
              have hs : St (muL [.blk b_p0 149 [.slice A_p0_code p0_code.length c_p0_code, .int .i64 p0_at, .int .i64 p0_seed]]) W w [.row A77 n78 c79 39 2 ((recs GWindow.cells) xs76), .row A165 n166 c167 95 3 ((recs GBond.cells) xs164), .blk b213 95 [.int .i64 r207.1, .int .i64 r209.1, .int .i64 (IntKind.i64.wrap (0 - r223.1))], .blk b_p0 149 [.slice A_p0_code p0_code.length c_p0_code, .int .i64 r223.2.1, .int .i64 r223.2.2]] := hs
              refine wpO_nil ?_
              refine wpL_nil (then_normal ?_)
              exact ⟨r223.2.1, r223.2.2, (IntKind.i64.wrap (0 - r223.1)), Option.some.inj hj221, (FrD.pick (FrD.pick (FrD.pick (FrD.pick (FrD.pick (FrD.pick hf.none hf rfl) hf rfl) hf rfl) hf rfl) hf rfl) hf rfl), hs.sel [3, 0, 1, 2] (by decide)⟩
            · have hj221 := bif_f hj221 hb222
              refine wpL_skip ?_
              refine wpL_nil (then_normal ?_)
              exact ⟨r211.2.1, r211.2.2, (IntKind.i64.wrap (r211.1 - 6)), Option.some.inj hj221, (FrD.pick (FrD.pick (FrD.pick (FrD.pick (FrD.pick (FrD.pick hf.none hf rfl) hf rfl) hf rfl) hf rfl) hf rfl) hf rfl), hs.sel [2, 0, 1, 3] (by decide)⟩
          · rintro a w ⟨x217, x218, x219, hr_, hf, hs⟩
            subst hr_
            try dsimp only at hm204
            refine wpL_region ?_
            refine sY hf hs rfl rfl rfl (Y_move rfl rfl) ?_; clear hf; intro a hf
            refine sY hf hs rfl rfl rfl (Y_load_blkS rfl rfl (i := 3) rfl ag95 ti95 rfl) ?_; clear hf; intro a hf
            refine sBuildSlice (parts := [(0, .tmp 63)]) (vs := [.agg #[.int .i64 r207.1, .int .i64 r209.1, .int .i64 x219]]) (cells := [.int .i64 r207.1, .int .i64 r209.1, .int .i64 x219]) hf hs rfl rfl rfl rfl rfl el25 ti95 rfl rfl rfl rfl ?_; clear hf hs; intro a w A225 hs hA226 hf
            have hs : St (muL [.blk b_p0 149 [.slice A_p0_code p0_code.length c_p0_code, .int .i64 p0_at, .int .i64 p0_seed]]) W w [.blk b_p0 149 [.slice A_p0_code p0_code.length c_p0_code, .int .i64 x217, .int .i64 x218], .row A77 n78 c79 39 2 ((recs GWindow.cells) xs76), .row A165 n166 c167 95 3 ((recs GBond.cells) xs164), .blk b213 95 [.int .i64 r207.1, .int .i64 r209.1, .int .i64 x219], .row A225 1 1 95 3 ((recs GBond.cells) ([(GBond.mk r207.1 r209.1 x219)]))] := hs
            obtain ⟨xs229, ha230, hm204⟩ := bind_some hm204
            refine sAppendL (i := 2) (xs := xs164) (ys := [(GBond.mk r207.1 r209.1 x219)]) (enc := (recs GBond.cells)) hf hs rfl rfl rfl rfl rfl rfl hn168 rfl rfl ha230 el25 ti95 rfl rfl rfl (hs.rd (i := 4) rfl) (Nat.succ_pos _) (recs_length GBond.len) (recs_append GBond.cells) (recs_one GBond.one) ?_; clear hf hs; intro a w A227 c228 hs hf
            have hs : St (muL [.blk b_p0 149 [.slice A_p0_code p0_code.length c_p0_code, .int .i64 p0_at, .int .i64 p0_seed]]) W w [.blk b_p0 149 [.slice A_p0_code p0_code.length c_p0_code, .int .i64 x217, .int .i64 x218], .row A77 n78 c79 39 2 ((recs GWindow.cells) xs76), .row A227 xs229.length c228 95 3 ((recs GBond.cells) xs229), .blk b213 95 [.int .i64 r207.1, .int .i64 r209.1, .int .i64 x219], .row A225 1 1 95 3 ((recs GBond.cells) ([(GBond.mk r207.1 r209.1 x219)]))] := hs
            refine sY hf hs rfl rfl rfl (Y_assign rfl rfl) ?_; clear hf; intro a hf
            refine wpO_nil ?_
            refine wpL_nil (Qb_normal ?_)
            refine wpL_region ?_
            refine sY hf hs rfl rfl rfl (Y_move rfl rfl) ?_; clear hf; intro a hf
            refine sY hf hs rfl rfl rfl (Y_sub rfl rfl rfl) ?_; clear hf; intro a hf
            refine sY hf hs rfl rfl rfl (Y_assign rfl rfl) ?_; clear hf; intro a hf
            refine wpO_nil ?_
            refine wpL_nil (Ql_normal ?_)
            exact ⟨x217, x218, xs229, (IntKind.i64.wrap (x169 - 1)), A227, xs229.length, c228, hm204, rfl, (FrD.pick (FrD.pick (FrD.pick (FrD.pick (FrD.pick hf.none hf rfl) hf rfl) hf rfl) hf rfl) hf rfl), hs.sel [0, 1, 2] (by decide)⟩
        · have hm204 := bif_f hm204 hb206
          refine wpL_exit (Ql_exit (Qb_exit ?_))
          exact ⟨x162, x163, xs164, A165, n166, c167, Option.some.inj hm204, hn168, (FrD.pick (FrD.pick (FrD.pick (FrD.pick hf.none hf rfl) hf rfl) hf rfl) hf rfl), hs⟩
    · rintro a w ⟨x195, x196, xs197, A198, n199, c200, hr_, hn201, hf, hs⟩
      subst hr_
      try dsimp only at hm
      refine wpL_seq ?_
      refine wpL_seq ?_
      refine wpL_region ?_
      refine sY hf hs rfl rfl rfl (Y_move rfl rfl) ?_; clear hf; intro a hf
      obtain ⟨r231, hc232, hm⟩ := bind_some hm
      refine sCall hf rfl rfl rfl rfl (cap := []) rfl rfl en93 (spec_l01Next_ok F b_p0 p0_code A_p0_code p0_code.length c_p0_code rfl x195 x196 40 _ _ hc232 (h_p0_code.pass hs [0]) (hs.sel [0] (by decide)).rebase) ?_; clear hf
      rintro _ w ⟨rfl, hs1⟩ a hf
      have hs : St (muL [.blk b_p0 149 [.slice A_p0_code p0_code.length c_p0_code, .int .i64 p0_at, .int .i64 p0_seed]]) W w [.row A77 n78 c79 39 2 ((recs GWindow.cells) xs76), .row A198 n199 c200 95 3 ((recs GBond.cells) xs197), .blk b_p0 149 [.slice A_p0_code p0_code.length c_p0_code, .int .i64 r231.2.1, .int .i64 r231.2.2]] := St.mutTail (La := [.row A77 n78 c79 39 2 ((recs GWindow.cells) xs76), .row A198 n199 c200 95 3 ((recs GBond.cells) xs197)]) (Lb := [.blk b_p0 149 [.slice A_p0_code p0_code.length c_p0_code, .int .i64 x195, .int .i64 x196]]) (hs.sel [1, 2, 0] (by decide)) hs1
      clear hs1
      refine wpO_nil ?_
      refine wpL_block0 ?_
      refine wpL_seq ?_
      refine wpL_region ?_
      refine sY hf hs rfl rfl rfl (Y_eql rfl rfl rfl) ?_; clear hf; intro a hf
      refine sY hf hs rfl rfl rfl (Y_assign rfl rfl) ?_; clear hf; intro a hf
      refine wpO_nil ?_
      refine wpL_cond hf rfl (fun hb233 => ?_) (fun hb233 => ?_)
      · have hm := bif_t hm hb233
        refine wpL_region ?_
        refine sY hf hs rfl rfl rfl (Y_move rfl rfl) ?_; clear hf; intro a hf
        refine sY hf hs rfl rfl rfl (Y_move rfl rfl) ?_; clear hf; intro a hf
        refine sBuildSlice (parts := [(0, .const (.int .i64 (-1))), (1, .const (.int .i64 0)), (2, .const (.int .i64 5))]) (vs := [.int .i64 (-1), .int .i64 0, .int .i64 5]) (cells := [.int .i64 (-1), .int .i64 0, .int .i64 5]) hf hs rfl rfl rfl rfl rfl el28 ti2 rfl rfl rfl rfl ?_; clear hf hs; intro a w A234 hs hA235 hf
        have hs : St (muL [.blk b_p0 149 [.slice A_p0_code p0_code.length c_p0_code, .int .i64 p0_at, .int .i64 p0_seed]]) W w [.row A77 n78 c79 39 2 ((recs GWindow.cells) xs76), .row A198 n199 c200 95 3 ((recs GBond.cells) xs197), .blk b_p0 149 [.slice A_p0_code p0_code.length c_p0_code, .int .i64 r231.2.1, .int .i64 r231.2.2], .row A234 3 3 2 1 (ints ([(-1), 0, 5]))] := hs
        obtain ⟨r236, hc237, hm⟩ := bind_some hm
        refine sCall hf rfl rfl rfl rfl (cap := []) rfl rfl en109 (spec_l01Pick_ok F b_p0 p0_code A_p0_code p0_code.length c_p0_code rfl r231.2.1 r231.2.2 ([(-1), 0, 5]) A234 3 3 rfl _ _ hc237 (h_p0_code.pass hs [2]) (hs.keepR (i := 3) rfl [2] (by decide)) (hs.sel [2] (by decide)).rebase) ?_; clear hf
        rintro _ w ⟨rfl, hs1⟩ a hf
        have hs : St (muL [.blk b_p0 149 [.slice A_p0_code p0_code.length c_p0_code, .int .i64 p0_at, .int .i64 p0_seed]]) W w [.row A77 n78 c79 39 2 ((recs GWindow.cells) xs76), .row A198 n199 c200 95 3 ((recs GBond.cells) xs197), .row A234 3 3 2 1 (ints ([(-1), 0, 5])), .blk b_p0 149 [.slice A_p0_code p0_code.length c_p0_code, .int .i64 r236.2.1, .int .i64 r236.2.2]] := St.mutTail (La := [.row A77 n78 c79 39 2 ((recs GWindow.cells) xs76), .row A198 n199 c200 95 3 ((recs GBond.cells) xs197), .row A234 3 3 2 1 (ints ([(-1), 0, 5]))]) (Lb := [.blk b_p0 149 [.slice A_p0_code p0_code.length c_p0_code, .int .i64 r231.2.1, .int .i64 r231.2.2]]) (hs.sel [0, 1, 3, 2] (by decide)) hs1
        clear hs1
        refine sY hf hs rfl rfl rfl (Y_move rfl rfl) ?_; clear hf; intro a hf
        refine sBuildSlice (parts := [(0, .const (.int .i64 4)), (1, .const (.int .i64 1000000)), (2, .const (.int .i64 1000001))]) (vs := [.int .i64 4, .int .i64 1000000, .int .i64 1000001]) (cells := [.int .i64 4, .int .i64 1000000, .int .i64 1000001]) hf hs rfl rfl rfl rfl rfl el28 ti2 rfl rfl rfl rfl ?_; clear hf hs; intro a w A238 hs hA239 hf
        have hs : St (muL [.blk b_p0 149 [.slice A_p0_code p0_code.length c_p0_code, .int .i64 p0_at, .int .i64 p0_seed]]) W w [.row A77 n78 c79 39 2 ((recs GWindow.cells) xs76), .row A198 n199 c200 95 3 ((recs GBond.cells) xs197), .row A234 3 3 2 1 (ints ([(-1), 0, 5])), .blk b_p0 149 [.slice A_p0_code p0_code.length c_p0_code, .int .i64 r236.2.1, .int .i64 r236.2.2], .row A238 3 3 2 1 (ints ([4, 1000000, 1000001]))] := hs
        obtain ⟨r240, hc241, hm⟩ := bind_some hm
        refine sCall hf rfl rfl rfl rfl (cap := []) rfl rfl en109 (spec_l01Pick_ok F b_p0 p0_code A_p0_code p0_code.length c_p0_code rfl r236.2.1 r236.2.2 ([4, 1000000, 1000001]) A238 3 3 rfl _ _ hc241 (h_p0_code.pass hs [3]) (hs.keepR (i := 4) rfl [3] (by decide)) (hs.sel [3] (by decide)).rebase) ?_; clear hf
        rintro _ w ⟨rfl, hs1⟩ a hf
        have hs : St (muL [.blk b_p0 149 [.slice A_p0_code p0_code.length c_p0_code, .int .i64 p0_at, .int .i64 p0_seed]]) W w [.row A77 n78 c79 39 2 ((recs GWindow.cells) xs76), .row A198 n199 c200 95 3 ((recs GBond.cells) xs197), .row A234 3 3 2 1 (ints ([(-1), 0, 5])), .row A238 3 3 2 1 (ints ([4, 1000000, 1000001])), .blk b_p0 149 [.slice A_p0_code p0_code.length c_p0_code, .int .i64 r240.2.1, .int .i64 r240.2.2]] := St.mutTail (La := [.row A77 n78 c79 39 2 ((recs GWindow.cells) xs76), .row A198 n199 c200 95 3 ((recs GBond.cells) xs197), .row A234 3 3 2 1 (ints ([(-1), 0, 5])), .row A238 3 3 2 1 (ints ([4, 1000000, 1000001]))]) (Lb := [.blk b_p0 149 [.slice A_p0_code p0_code.length c_p0_code, .int .i64 r236.2.1, .int .i64 r236.2.2]]) (hs.sel [0, 1, 2, 4, 3] (by decide)) hs1
        clear hs1
        refine sY hf hs rfl rfl rfl (Y_build (parts := [(0, .tmp 73), (1, .tmp 76)]) (vs := [.int .i64 r236.1, .int .i64 r240.1]) rfl rfl (run_build (parts := [(0, .int .i64 r236.1), (1, .int .i64 r240.1)]) (cells := [.int .i64 r236.1, .int .i64 r240.1]) (places := #[(0, 1), (1, 1)]) ti39 Try.underlying39 (fun w => by simp [go_sem]) rfl)) ?_; clear hf; intro a hf
        obtain ⟨q242, hi243, hm⟩ := bind_some hm
        obtain ⟨hi243a, hi243b, hi243q⟩ := idx_some hi243
        refine sY hf hs rfl rfl rfl (Y_index rfl rfl rfl el24 ti39 (Rd.isAt (hs.rd (i := 0) rfl) (recs_at (s := 2) GWindow.len hi243q (j := 0) rfl)) hi243a (ltn hn80 hi243b)) ?_; clear hf; intro a hf
        obtain ⟨xs244, hu245, hm⟩ := bind_some hm
        refine sStoreL (i := 0) (us := [.int .i64 r236.1, .int .i64 r240.1]) (enc := (recs GWindow.cells)) hf hs rfl rfl rfl rfl rfl rfl hn80 hu245 ti39 rfl rfl rfl rfl rfl (recs_length GWindow.len) (recs_set (s := 2) GWindow.len (GWindow.mk r236.1 r240.1)) ?_; clear hs; intro w hs
        have hs : St (muL [.blk b_p0 149 [.slice A_p0_code p0_code.length c_p0_code, .int .i64 p0_at, .int .i64 p0_seed]]) W w [.row A77 n78 c79 39 2 ((recs GWindow.cells) xs244), .row A198 n199 c200 95 3 ((recs GBond.cells) xs197), .row A234 3 3 2 1 (ints ([(-1), 0, 5])), .row A238 3 3 2 1 (ints ([4, 1000000, 1000001])), .blk b_p0 149 [.slice A_p0_code p0_code.length c_p0_code, .int .i64 r240.2.1, .int .i64 r240.2.2]] := hs
        refine wpO_nil ?_
        refine wpL_nil (Qb_normal ?_)
        refine wpL_seq ?_
        refine wpL_region ?_
        refine sY hf hs rfl rfl rfl (Y_move rfl rfl) ?_; clear hf; intro a hf
        refine sY hf hs rfl rfl rfl (Y_move rfl rfl) ?_; clear hf; intro a hf
        refine sY hf hs rfl rfl rfl (Y_assign rfl rfl) ?_; clear hf; intro a hf
        refine sY hf hs rfl rfl rfl (Y_assign rfl rfl) ?_; clear hf; intro a hf
        refine wpO_nil ?_
        obtain rfl := Option.some.inj hm
        refine wpL_ret (ret_tmp2 rfl hf rfl rfl ?_)
        exact ⟨_, rfl, A77, n78, c79, A198, n199, c200, rfl, ((hn80).trans (upd_len hu245).symm), hn201, hs.sel [0, 1, 4] (by decide)⟩
      · have hm := bif_f hm hb233
        refine wpL_seq ?_
        refine wpL_region ?_
        refine sY hf hs rfl rfl rfl (Y_eql rfl rfl rfl) ?_; clear hf; intro a hf
        refine sY hf hs rfl rfl rfl (Y_assign rfl rfl) ?_; clear hf; intro a hf
        refine wpO_nil ?_
        refine wpL_cond hf rfl (fun hb246 => ?_) (fun hb246 => ?_)
        · have hm := bif_t hm hb246
          refine wpL_region ?_
          refine sY hf hs rfl rfl rfl (Y_move rfl rfl) ?_; clear hf; intro a hf
          refine sY hf hs rfl rfl rfl (Y_move rfl rfl) ?_; clear hf; intro a hf
          refine sY hf hs rfl rfl rfl (Y_move rfl rfl) ?_; clear hf; intro a hf
          refine sBuildSlice (parts := [(0, .const (.int .i64 (-1))), (1, .const (.int .i64 0)), (2, .tmp 83)]) (vs := [.int .i64 (-1), .int .i64 0, .int .i64 (IntKind.i64.wrap (1 + r5.1))]) (cells := [.int .i64 (-1), .int .i64 0, .int .i64 (IntKind.i64.wrap (1 + r5.1))]) hf hs rfl rfl rfl rfl rfl el28 ti2 rfl rfl rfl rfl ?_; clear hf hs; intro a w A247 hs hA248 hf
          have hs : St (muL [.blk b_p0 149 [.slice A_p0_code p0_code.length c_p0_code, .int .i64 p0_at, .int .i64 p0_seed]]) W w [.row A77 n78 c79 39 2 ((recs GWindow.cells) xs76), .row A198 n199 c200 95 3 ((recs GBond.cells) xs197), .blk b_p0 149 [.slice A_p0_code p0_code.length c_p0_code, .int .i64 r231.2.1, .int .i64 r231.2.2], .row A247 3 3 2 1 (ints ([(-1), 0, (IntKind.i64.wrap (1 + r5.1))]))] := hs
          obtain ⟨r249, hc250, hm⟩ := bind_some hm
          refine sCall hf rfl rfl rfl rfl (cap := []) rfl rfl en109 (spec_l01Pick_ok F b_p0 p0_code A_p0_code p0_code.length c_p0_code rfl r231.2.1 r231.2.2 ([(-1), 0, (IntKind.i64.wrap (1 + r5.1))]) A247 3 3 rfl _ _ hc250 (h_p0_code.pass hs [2]) (hs.keepR (i := 3) rfl [2] (by decide)) (hs.sel [2] (by decide)).rebase) ?_; clear hf
          rintro _ w ⟨rfl, hs1⟩ a hf
          have hs : St (muL [.blk b_p0 149 [.slice A_p0_code p0_code.length c_p0_code, .int .i64 p0_at, .int .i64 p0_seed]]) W w [.row A77 n78 c79 39 2 ((recs GWindow.cells) xs76), .row A198 n199 c200 95 3 ((recs GBond.cells) xs197), .row A247 3 3 2 1 (ints ([(-1), 0, (IntKind.i64.wrap (1 + r5.1))])), .blk b_p0 149 [.slice A_p0_code p0_code.length c_p0_code, .int .i64 r249.2.1, .int .i64 r249.2.2]] := St.mutTail (La := [.row A77 n78 c79 39 2 ((recs GWindow.cells) xs76), .row A198 n199 c200 95 3 ((recs GBond.cells) xs197), .row A247 3 3 2 1 (ints ([(-1), 0, (IntKind.i64.wrap (1 + r5.1))]))]) (Lb := [.blk b_p0 149 [.slice A_p0_code p0_code.length c_p0_code, .int .i64 r231.2.1, .int .i64 r231.2.2]]) (hs.sel [0, 1, 3, 2] (by decide)) hs1
          clear hs1
          refine sY hf hs rfl rfl rfl (Y_move rfl rfl) ?_; clear hf; intro a hf
          refine sBuildSlice (parts := [(0, .const (.int .i64 (-1000000))), (1, .const (.int .i64 (-1000001))), (2, .const (.int .i64 0))]) (vs := [.int .i64 (-1000000), .int .i64 (-1000001), .int .i64 0]) (cells := [.int .i64 (-1000000), .int .i64 (-1000001), .int .i64 0]) hf hs rfl rfl rfl rfl rfl el28 ti2 rfl rfl rfl rfl ?_; clear hf hs; intro a w A251 hs hA252 hf
          have hs : St (muL [.blk b_p0 149 [.slice A_p0_code p0_code.length c_p0_code, .int .i64 p0_at, .int .i64 p0_seed]]) W w [.row A77 n78 c79 39 2 ((recs GWindow.cells) xs76), .row A198 n199 c200 95 3 ((recs GBond.cells) xs197), .row A247 3 3 2 1 (ints ([(-1), 0, (IntKind.i64.wrap (1 + r5.1))])), .blk b_p0 149 [.slice A_p0_code p0_code.length c_p0_code, .int .i64 r249.2.1, .int .i64 r249.2.2], .row A251 3 3 2 1 (ints ([(-1000000), (-1000001), 0]))] := hs
          obtain ⟨r253, hc254, hm⟩ := bind_some hm
          refine sCall hf rfl rfl rfl rfl (cap := []) rfl rfl en109 (spec_l01Pick_ok F b_p0 p0_code A_p0_code p0_code.length c_p0_code rfl r249.2.1 r249.2.2 ([(-1000000), (-1000001), 0]) A251 3 3 rfl _ _ hc254 (h_p0_code.pass hs [3]) (hs.keepR (i := 4) rfl [3] (by decide)) (hs.sel [3] (by decide)).rebase) ?_; clear hf
          rintro _ w ⟨rfl, hs1⟩ a hf
          have hs : St (muL [.blk b_p0 149 [.slice A_p0_code p0_code.length c_p0_code, .int .i64 p0_at, .int .i64 p0_seed]]) W w [.row A77 n78 c79 39 2 ((recs GWindow.cells) xs76), .row A198 n199 c200 95 3 ((recs GBond.cells) xs197), .row A247 3 3 2 1 (ints ([(-1), 0, (IntKind.i64.wrap (1 + r5.1))])), .row A251 3 3 2 1 (ints ([(-1000000), (-1000001), 0])), .blk b_p0 149 [.slice A_p0_code p0_code.length c_p0_code, .int .i64 r253.2.1, .int .i64 r253.2.2]] := St.mutTail (La := [.row A77 n78 c79 39 2 ((recs GWindow.cells) xs76), .row A198 n199 c200 95 3 ((recs GBond.cells) xs197), .row A247 3 3 2 1 (ints ([(-1), 0, (IntKind.i64.wrap (1 + r5.1))])), .row A251 3 3 2 1 (ints ([(-1000000), (-1000001), 0]))]) (Lb := [.blk b_p0 149 [.slice A_p0_code p0_code.length c_p0_code, .int .i64 r249.2.1, .int .i64 r249.2.2]]) (hs.sel [0, 1, 2, 4, 3] (by decide)) hs1
          clear hs1
          refine sY hf hs rfl rfl rfl (Y_build (parts := [(0, .tmp 85), (2, .tmp 88)]) (vs := [.int .i64 r249.1, .int .i64 r253.1]) rfl rfl (run_build (parts := [(0, .int .i64 r249.1), (2, .int .i64 r253.1)]) (cells := [.int .i64 r249.1, .int .i64 0, .int .i64 r253.1]) (places := #[(0, 1), (1, 1), (2, 1)]) ti95 Try.underlying95 (fun w => by simp [go_sem]) rfl)) ?_; clear hf; intro a hf
          refine sBuildSlice (parts := [(0, .tmp 89)]) (vs := [.agg #[.int .i64 r249.1, .int .i64 0, .int .i64 r253.1]]) (cells := [.int .i64 r249.1, .int .i64 0, .int .i64 r253.1]) hf hs rfl rfl rfl rfl rfl el25 ti95 rfl rfl rfl rfl ?_; clear hf hs; intro a w A255 hs hA256 hf
          have hs : St (muL [.blk b_p0 149 [.slice A_p0_code p0_code.length c_p0_code, .int .i64 p0_at, .int .i64 p0_seed]]) W w [.row A77 n78 c79 39 2 ((recs GWindow.cells) xs76), .row A198 n199 c200 95 3 ((recs GBond.cells) xs197), .row A247 3 3 2 1 (ints ([(-1), 0, (IntKind.i64.wrap (1 + r5.1))])), .row A251 3 3 2 1 (ints ([(-1000000), (-1000001), 0])), .blk b_p0 149 [.slice A_p0_code p0_code.length c_p0_code, .int .i64 r253.2.1, .int .i64 r253.2.2], .row A255 1 1 95 3 ((recs GBond.cells) ([(GBond.mk r249.1 0 r253.1)]))] := hs
          obtain ⟨xs259, ha260, hm⟩ := bind_some hm
          refine sAppendL (i := 1) (xs := xs197) (ys := [(GBond.mk r249.1 0 r253.1)]) (enc := (recs GBond.cells)) hf hs rfl rfl rfl rfl rfl rfl hn201 rfl rfl ha260 el25 ti95 rfl rfl rfl (hs.rd (i := 5) rfl) (Nat.succ_pos _) (recs_length GBond.len) (recs_append GBond.cells) (recs_one GBond.one) ?_; clear hf hs; intro a w A257 c258 hs hf
          have hs : St (muL [.blk b_p0 149 [.slice A_p0_code p0_code.length c_p0_code, .int .i64 p0_at, .int .i64 p0_seed]]) W w [.row A77 n78 c79 39 2 ((recs GWindow.cells) xs76), .row A257 xs259.length c258 95 3 ((recs GBond.cells) xs259), .row A247 3 3 2 1 (ints ([(-1), 0, (IntKind.i64.wrap (1 + r5.1))])), .row A251 3 3 2 1 (ints ([(-1000000), (-1000001), 0])), .blk b_p0 149 [.slice A_p0_code p0_code.length c_p0_code, .int .i64 r253.2.1, .int .i64 r253.2.2], .row A255 1 1 95 3 ((recs GBond.cells) ([(GBond.mk r249.1 0 r253.1)]))] := hs
          refine sY hf hs rfl rfl rfl (Y_assign rfl rfl) ?_; clear hf; intro a hf
          refine wpO_nil ?_
          refine wpL_nil (Qb_normal ?_)
          refine wpL_seq ?_
          refine wpL_region ?_
          refine sY hf hs rfl rfl rfl (Y_move rfl rfl) ?_; clear hf; intro a hf
          refine sY hf hs rfl rfl rfl (Y_move rfl rfl) ?_; clear hf; intro a hf
          refine sY hf hs rfl rfl rfl (Y_assign rfl rfl) ?_; clear hf; intro a hf
          refine sY hf hs rfl rfl rfl (Y_assign rfl rfl) ?_; clear hf; intro a hf
          refine wpO_nil ?_
          obtain rfl := Option.some.inj hm
          refine wpL_ret (ret_tmp2 rfl hf rfl rfl ?_)
          exact ⟨_, rfl, A77, n78, c79, A257, xs259.length, c258, rfl, hn80, rfl, hs.sel [0, 1, 4] (by decide)⟩
        · have hm := bif_f hm hb246
          refine wpL_seq ?_
          refine wpL_region ?_
          refine sY hf hs rfl rfl rfl (Y_eql rfl rfl rfl) ?_; clear hf; intro a hf
          refine sY hf hs rfl rfl rfl (Y_assign rfl rfl) ?_; clear hf; intro a hf
          refine wpO_nil ?_
          refine wpL_cond hf rfl (fun hb261 => ?_) (fun hb261 => ?_)
          · have hm := bif_t hm hb261
            refine wpL_region ?_
            refine sY hf hs rfl rfl rfl (Y_move rfl rfl) ?_; clear hf; intro a hf
            obtain ⟨r262, hc263, hm⟩ := bind_some hm
            refine sCall hf rfl rfl rfl rfl (cap := []) rfl rfl en93 (spec_l01Next_ok F b_p0 p0_code A_p0_code p0_code.length c_p0_code rfl r231.2.1 r231.2.2 2 _ _ hc263 (h_p0_code.pass hs [2]) (hs.sel [2] (by decide)).rebase) ?_; clear hf
            rintro _ w ⟨rfl, hs1⟩ a hf
            have hs : St (muL [.blk b_p0 149 [.slice A_p0_code p0_code.length c_p0_code, .int .i64 p0_at, .int .i64 p0_seed]]) W w [.row A77 n78 c79 39 2 ((recs GWindow.cells) xs76), .row A198 n199 c200 95 3 ((recs GBond.cells) xs197), .blk b_p0 149 [.slice A_p0_code p0_code.length c_p0_code, .int .i64 r262.2.1, .int .i64 r262.2.2]] := St.mutTail (La := [.row A77 n78 c79 39 2 ((recs GWindow.cells) xs76), .row A198 n199 c200 95 3 ((recs GBond.cells) xs197)]) (Lb := [.blk b_p0 149 [.slice A_p0_code p0_code.length c_p0_code, .int .i64 r231.2.1, .int .i64 r231.2.2]]) (hs.sel [0, 1, 2] (by decide)) hs1
            clear hs1
            refine sY hf hs rfl rfl rfl (Y_add rfl rfl rfl) ?_; clear hf; intro a hf
            obtain ⟨xs266, hk265, hm⟩ := bind_some hm
            refine sMakeL (enc := (recs GWindow.cells)) hf hs rfl rfl rfl rfl rfl hk265 el24 ti39 rfl (recs_made (f := GWindow.cells) (z0 := (GWindow.mk 0 0)) rfl) ?_; clear hf hs; intro a w A264 hs hf
            have hs : St (muL [.blk b_p0 149 [.slice A_p0_code p0_code.length c_p0_code, .int .i64 p0_at, .int .i64 p0_seed]]) W w [.row A77 n78 c79 39 2 ((recs GWindow.cells) xs76), .row A198 n199 c200 95 3 ((recs GBond.cells) xs197), .blk b_p0 149 [.slice A_p0_code p0_code.length c_p0_code, .int .i64 r262.2.1, .int .i64 r262.2.2], .row A264 xs266.length xs266.length 39 2 ((recs GWindow.cells) xs266)] := hs
            refine sY hf hs rfl rfl rfl (Y_assign rfl rfl) ?_; clear hf; intro a hf
            refine wpO_nil ?_
            refine wpL_nil (Qb_normal ?_)
            refine wpL_seq ?_
            refine wpL_region ?_
            refine sY hf hs rfl rfl rfl (Y_move rfl rfl) ?_; clear hf; intro a hf
            refine sY hf hs rfl rfl rfl (Y_move rfl rfl) ?_; clear hf; intro a hf
            refine sY hf hs rfl rfl rfl (Y_assign rfl rfl) ?_; clear hf; intro a hf
            refine sY hf hs rfl rfl rfl (Y_assign rfl rfl) ?_; clear hf; intro a hf
            refine wpO_nil ?_
            obtain rfl := Option.some.inj hm
            refine wpL_ret (ret_tmp2 rfl hf rfl rfl ?_)
            exact ⟨_, rfl, A264, xs266.length, xs266.length, A198, n199, c200, rfl, rfl, hn201, hs.sel [3, 1, 2] (by decide)⟩
          · have hm := bif_f hm hb261
            refine wpL_skip ?_
            refine wpL_nil (Qb_normal ?_)
            refine wpL_seq ?_
            refine wpL_region ?_
            refine sY hf hs rfl rfl rfl (Y_move rfl rfl) ?_; clear hf; intro a hf
            refine sY hf hs rfl rfl rfl (Y_move rfl rfl) ?_; clear hf; intro a hf
            refine sY hf hs rfl rfl rfl (Y_assign rfl rfl) ?_; clear hf; intro a hf
            refine sY hf hs rfl rfl rfl (Y_assign rfl rfl) ?_; clear hf; intro a hf
            refine wpO_nil ?_
            obtain rfl := Option.some.inj hm
            refine wpL_ret (ret_tmp2 rfl hf rfl rfl ?_)
            exact ⟨_, rfl, A77, n78, c79, A198, n199, c200, rfl, hn80, hn201, hs⟩

set_option maxRecDepth 100000 in
theorem spec_DrawTightWindows_ok (F : Nat) (p0_code : List Int) (A_p0_code_1 : Option Addr) (n_p0_code_1 c_p0_code_1 : Nat) (hn_p0_code_1 : n_p0_code_1 = p0_code.length) (r : List GWindow × List GBond) (W : World) (hm : spec_DrawTightWindows F p0_code = some r) (h_p0_code_1 : Rd W A_p0_code_1 (bytes p0_code)) :
    Calls Try.prog 10 [.slice A_p0_code_1 n_p0_code_1 c_p0_code_1].toArray W fun e w' => ∃ v, e = .returned v ∧ ∃ A14, ∃ n15, ∃ c16, ∃ A18, ∃ n19, ∃ c20, v = .tuple #[.slice A14 n15 c16, .slice A18 n19 c20] ∧ n15 = r.1.length ∧ n19 = r.2.length ∧ St [] W w' [.row A14 n15 c16 39 2 ((recs GWindow.cells) r.1), .row A18 n19 c20 95 3 ((recs GBond.cells) r.2)] := by
  subst hn_p0_code_1
  unfold spec_DrawTightWindows at hm
  refine Calls.enter (N := 9) Try.func10 rfl rfl rfl (fun a hf => ?_)
  have hs := St.start W
  obtain ⟨w, hw_⟩ : ∃ w, w = W := ⟨W, rfl⟩
  clear hw_ w
  refine wpL_seq ?_
  refine wpL_region ?_
  refine sY hf hs rfl rfl rfl (Y_assign rfl rfl) ?_; clear hf; intro a hf
  refine sY hf hs rfl rfl rfl (Y_assign rfl rfl) ?_; clear hf; intro a hf
  refine wpO_nil ?_
  refine wpL_seq ?_
  refine wpL_region ?_
  refine sY hf hs rfl rfl rfl (Y_move rfl rfl) ?_; clear hf; intro a hf
  obtain ⟨r1, hc2, hm⟩ := bind_some hm
  refine sCall hf rfl rfl rfl rfl (cap := []) rfl rfl en65 (spec_l01From_ok F p0_code A_p0_code_1 p0_code.length c_p0_code_1 rfl _ _ hc2 (h_p0_code_1.at hs)) ?_; clear hf
  rintro _ w ⟨b3, rfl, hs1⟩ a hf
  have hs : St [] W w [.blk b3 149 [.slice A_p0_code_1 p0_code.length c_p0_code_1, .int .i64 r1.1, .int .i64 r1.2]] := hs.join hs1
  clear hs1
  obtain ⟨r4, hc5, hm⟩ := bind_some hm
  refine sCall hf rfl rfl rfl rfl (cap := []) rfl rfl en64 (spec_l23Draw_ok F b3 p0_code A_p0_code_1 p0_code.length c_p0_code_1 rfl r1.1 r1.2 _ _ hc5 (h_p0_code_1.pass hs [0]) (hs.sel [0] (by decide)).rebase) ?_; clear hf
  rintro _ w ⟨A6, n7, c8, A10, n11, c12, rfl, hn9, hn13, hs1⟩ a hf
  have hs : St [] W w [.row A6 n7 c8 39 2 ((recs GWindow.cells) r4.1.1), .row A10 n11 c12 95 3 ((recs GBond.cells) r4.1.2), .blk b3 149 [.slice A_p0_code_1 p0_code.length c_p0_code_1, .int .i64 r4.2.1, .int .i64 r4.2.2]] := St.mutTail (La := []) (Lb := [.blk b3 149 [.slice A_p0_code_1 p0_code.length c_p0_code_1, .int .i64 r1.1, .int .i64 r1.2]]) (hs.sel [0] (by decide)) hs1
  clear hs1
  refine sY hf hs rfl rfl rfl (Y_extract rfl rfl rfl) ?_; clear hf; intro a hf
  refine sY hf hs rfl rfl rfl (Y_extract rfl rfl rfl) ?_; clear hf; intro a hf
  refine sY hf hs rfl rfl rfl (Y_assign rfl rfl) ?_; clear hf; intro a hf
  refine sY hf hs rfl rfl rfl (Y_assign rfl rfl) ?_; clear hf; intro a hf
  refine wpO_nil ?_
  obtain rfl := Option.some.inj hm
  refine wpL_ret (ret_tmp2 rfl hf rfl rfl ?_)
  exact ⟨_, rfl, A6, n7, c8, A10, n11, c12, rfl, hn9, hn13, hs.sel [0, 1] (by decide)⟩

set_option maxRecDepth 100000 in
theorem impl_within_ok (F : Nat) (p0_n : Int) (p1_low : Int) (p2_high : Int) (r : Bool) (W : World) (hm : impl_within F p0_n p1_low p2_high = some r) :
    Calls Try.prog 71 [.int .i64 p0_n, .int .i64 p1_low, .int .i64 p2_high].toArray W fun e w' => ∃ v, e = .returned v ∧ v = .bool r ∧ St [] W w' [] := by
  unfold impl_within at hm
  refine Calls.enter (N := 15) Try.func71 rfl rfl rfl (fun a hf => ?_)
  have hs := St.start W
  obtain ⟨w, hw_⟩ : ∃ w, w = W := ⟨W, rfl⟩
  clear hw_ w
  refine wpL_seq ?_
  refine wpL_region ?_
  refine sY hf hs rfl rfl rfl (Y_assign rfl rfl) ?_; clear hf; intro a hf
  refine wpO_nil ?_
  refine wpL_seq ?_
  obtain ⟨r3, hj4, hm⟩ := bind_some hm
  refine wpL_cut (fun a w => ∃ b2 : Bool, b2 = r3 ∧ Fr a 15 [(6, .bool b2)] ∧ St [] W w []) ?_ ?_
  · refine wpL_region ?_
    refine sY hf hs rfl rfl rfl (Y_move rfl rfl) ?_; clear hf; intro a hf
    refine sY hf hs rfl rfl rfl (Y_move rfl rfl) ?_; clear hf; intro a hf
    refine sY hf hs rfl rfl rfl (Y_geq rfl rfl rfl) ?_; clear hf; intro a hf
    refine sY hf hs rfl rfl rfl (Y_move rfl rfl) ?_; clear hf; intro a hf
    refine bsplit (decide (p1_low ≤ p0_n)) (fun hb5 => ?_) (fun hb5 => ?_)
    · have hj4 := bif_t hj4 hb5
      refine sYg hf hs rfl rfl rfl (congrArg (fun b => some (Value.bool b)) hb5) rfl rfl rfl (Y_move rfl rfl) ?_; clear hf; intro a hf
      refine sYg hf hs rfl rfl rfl (congrArg (fun b => some (Value.bool b)) hb5) rfl rfl rfl (Y_move rfl rfl) ?_; clear hf; intro a hf
      refine sYg hf hs rfl rfl rfl (congrArg (fun b => some (Value.bool b)) hb5) rfl rfl rfl (Y_leq rfl rfl rfl) ?_; clear hf; intro a hf
      refine sY hf hs rfl rfl rfl (Y_pickT rfl (congrArg (fun b => some (Value.bool b)) hb5) rfl) ?_; clear hf; intro a hf
      refine sY hf hs rfl rfl rfl (Y_assign rfl rfl) ?_; clear hf; intro a hf
      refine wpO_nil ?_
      refine wpL_nil (then_normal ?_)
      exact ⟨(decide (p0_n ≤ p2_high)), Option.some.inj hj4, (FrD.pick hf.none hf rfl), hs⟩
    · have hj4 := bif_f hj4 hb5
      refine sNo hf rfl rfl rfl (congrArg (fun b => some (Value.bool b)) hb5) rfl rfl rfl ?_; clear hf; intro a hf
      refine sNo hf rfl rfl rfl (congrArg (fun b => some (Value.bool b)) hb5) rfl rfl rfl ?_; clear hf; intro a hf
      refine sNo hf rfl rfl rfl (congrArg (fun b => some (Value.bool b)) hb5) rfl rfl rfl ?_; clear hf; intro a hf
      refine sY hf hs rfl rfl rfl (Y_pickF rfl (congrArg (fun b => some (Value.bool b)) hb5) rfl) ?_; clear hf; intro a hf
      refine sY hf hs rfl rfl rfl (Y_assign rfl rfl) ?_; clear hf; intro a hf
      refine wpO_nil ?_
      refine wpL_nil (then_normal ?_)
      exact ⟨false, Option.some.inj hj4, (FrD.pick hf.none hf rfl), hs⟩
  · rintro a w ⟨b2, hr_, hf, hs⟩
    subst hr_
    try dsimp only at hm
    obtain rfl := Option.some.inj hm
    refine wpL_ret (ret_tmp rfl hf rfl ?_)
    exact ⟨_, rfl, rfl, hs⟩

set_option maxRecDepth 100000 in
theorem impl_isFinite_ok (F : Nat) (p0_n : Int) (r : Bool) (W : World) (hm : impl_isFinite F p0_n = some r) :
    Calls Try.prog 142 [.int .i64 p0_n].toArray W fun e w' => ∃ v, e = .returned v ∧ v = .bool r ∧ St [] W w' [] := by
  unfold impl_isFinite at hm
  refine Calls.enter (N := 5) Try.func142 rfl rfl rfl (fun a hf => ?_)
  have hs := St.start W
  obtain ⟨w, hw_⟩ : ∃ w, w = W := ⟨W, rfl⟩
  clear hw_ w
  refine wpL_seq ?_
  refine wpL_region ?_
  refine sY hf hs rfl rfl rfl (Y_assign rfl rfl) ?_; clear hf; intro a hf
  refine wpO_nil ?_
  refine wpL_seq ?_
  refine wpL_region ?_
  refine sY hf hs rfl rfl rfl (Y_move rfl rfl) ?_; clear hf; intro a hf
  obtain ⟨r1, hc2, hm⟩ := bind_some hm
  refine sCall hf rfl rfl rfl rfl (cap := []) rfl rfl en71 (impl_within_ok F p0_n (-1000000) 1000000 _ _ hc2) ?_; clear hf
  rintro _ w ⟨rfl, hs1⟩ a hf
  have hs : St [] W w [] := hs.ext hs1.below
  clear hs1
  refine sY hf hs rfl rfl rfl (Y_assign rfl rfl) ?_; clear hf; intro a hf
  refine wpO_nil ?_
  obtain rfl := Option.some.inj hm
  refine wpL_ret (ret_tmp rfl hf rfl ?_)
  exact ⟨_, rfl, rfl, hs⟩

set_option maxRecDepth 100000 in
theorem impl_IsTask_c1_ok (F : Nat) (p0_b : GBond) (b_z0 : Nat) (z0 : Int) (r : Bool) (W : World) (hm : impl_IsTask_c1 F p0_b z0 = some r) (h_z0 : PB W b_z0 2 [.int .i64 z0]) :
    Calls Try.prog 141 [.agg #[.int .i64 p0_b.From, .int .i64 p0_b.To, .int .i64 p0_b.Least], .pointer (some ⟨b_z0, 0, none⟩)].toArray W fun e w' => ∃ v, e = .returned v ∧ v = .bool r ∧ St [] W w' [] := by
  unfold impl_IsTask_c1 at hm
  refine Calls.enter (N := 22) Try.func141 rfl rfl rfl (fun a hf => ?_)
  have hs := St.start W
  obtain ⟨w, hw_⟩ : ∃ w, w = W := ⟨W, rfl⟩
  clear hw_ w
  refine wpL_seq ?_
  refine wpL_region ?_
  refine sBox hf hs rfl rfl rfl rfl rfl (cs := [.int .i64 p0_b.From, .int .i64 p0_b.To, .int .i64 p0_b.Least]) rfl ?_; clear hf hs; intro a w b1 hs hf
  have hs : St [] W w [.blk b1 95 [.int .i64 p0_b.From, .int .i64 p0_b.To, .int .i64 p0_b.Least]] := hs
  refine sY hf hs rfl rfl rfl (Y_assign rfl rfl) ?_; clear hf; intro a hf
  refine wpO_nil ?_
  refine wpL_seq ?_
  obtain ⟨r11, hj12, hm⟩ := bind_some hm
  refine wpL_cut (fun a w => ∃ b10 : Bool, b10 = r11 ∧ Fr a 22 [(3, .bool b10)] ∧ St [] W w []) ?_ ?_
  · refine wpL_region ?_
    refine sY hf hs rfl rfl rfl (Y_fieldAddr rfl rfl fo95_0) ?_; clear hf; intro a hf
    refine sY hf hs rfl rfl rfl (Y_load_blk rfl rfl (i := 0) rfl rfl ag2) ?_; clear hf; intro a hf
    refine sY hf hs rfl rfl rfl (Y_load_pb rfl rfl h_z0 rfl ag2) ?_; clear hf; intro a hf
    obtain ⟨r13, hc14, hj12⟩ := bind_some hj12
    refine sCall hf rfl rfl rfl rfl (cap := []) rfl rfl en71 (impl_within_ok F p0_b.From 0 z0 _ _ hc14) ?_; clear hf
    rintro _ w ⟨rfl, hs1⟩ a hf
    have hs : St [] W w [.blk b1 95 [.int .i64 p0_b.From, .int .i64 p0_b.To, .int .i64 p0_b.Least]] := hs.ext hs1.below
    clear hs1
    refine sY hf hs rfl rfl rfl (Y_not rfl rfl) ?_; clear hf; intro a hf
    refine sY hf hs rfl rfl rfl (Y_move rfl rfl) ?_; clear hf; intro a hf
    refine bsplit (!r13) (fun hb15 => ?_) (fun hb15 => ?_)
    · have hj12 := bif_t hj12 hb15
      refine sNo hf rfl rfl rfl (congrArg (fun b => some (Value.bool b)) hb15) rfl rfl rfl ?_; clear hf; intro a hf
      refine sNo hf rfl rfl rfl (congrArg (fun b => some (Value.bool b)) hb15) rfl rfl rfl ?_; clear hf; intro a hf
      refine sNo hf rfl rfl rfl (congrArg (fun b => some (Value.bool b)) hb15) rfl rfl rfl ?_; clear hf; intro a hf
      refine sNo hf rfl rfl rfl (congrArg (fun b => some (Value.bool b)) hb15) rfl rfl rfl ?_; clear hf; intro a hf
      refine sNo hf rfl rfl rfl (congrArg (fun b => some (Value.bool b)) hb15) rfl rfl rfl ?_; clear hf; intro a hf
      refine sY hf hs rfl rfl rfl (Y_pickT rfl (congrArg (fun b => some (Value.bool b)) hb15) rfl) ?_; clear hf; intro a hf
      refine sY hf hs rfl rfl rfl (Y_move rfl rfl) ?_; clear hf; intro a hf
      refine sNo hf rfl rfl rfl rfl rfl rfl rfl ?_; clear hf; intro a hf
      refine sNo hf rfl rfl rfl rfl rfl rfl rfl ?_; clear hf; intro a hf
      refine sNo hf rfl rfl rfl rfl rfl rfl rfl ?_; clear hf; intro a hf
      refine sNo hf rfl rfl rfl rfl rfl rfl rfl ?_; clear hf; intro a hf
      refine sY hf hs rfl rfl rfl (Y_pickT rfl rfl rfl) ?_; clear hf; intro a hf
      refine sY hf hs rfl rfl rfl (Y_assign rfl rfl) ?_; clear hf; intro a hf
      refine wpO_nil ?_
      refine wpL_nil (then_normal ?_)
      exact ⟨true, Option.some.inj hj12, (FrD.pick hf.none hf rfl), hs.sel [] (by decide)⟩
    · have hj12 := bif_f hj12 hb15
      refine sYg hf hs rfl rfl rfl (congrArg (fun b => some (Value.bool b)) hb15) rfl rfl rfl (Y_fieldAddr rfl rfl fo95_1) ?_; clear hf; intro a hf
      refine sYg hf hs rfl rfl rfl (congrArg (fun b => some (Value.bool b)) hb15) rfl rfl rfl (Y_load_blk rfl rfl (i := 0) rfl rfl ag2) ?_; clear hf; intro a hf
      refine sYg hf hs rfl rfl rfl (congrArg (fun b => some (Value.bool b)) hb15) rfl rfl rfl (Y_load_pb rfl rfl h_z0 rfl ag2) ?_; clear hf; intro a hf
      obtain ⟨r16, hc17, hj12⟩ := bind_some hj12
      refine sCallg hf rfl rfl rfl (congrArg (fun b => some (Value.bool b)) hb15) rfl rfl rfl rfl (cap := []) rfl rfl en71 (impl_within_ok F p0_b.To 0 z0 _ _ hc17) ?_; clear hf
      rintro _ w ⟨rfl, hs1⟩ a hf
      have hs : St [] W w [.blk b1 95 [.int .i64 p0_b.From, .int .i64 p0_b.To, .int .i64 p0_b.Least]] := hs.ext hs1.below
      clear hs1
      refine sYg hf hs rfl rfl rfl (congrArg (fun b => some (Value.bool b)) hb15) rfl rfl rfl (Y_not rfl rfl) ?_; clear hf; intro a hf
      refine sY hf hs rfl rfl rfl (Y_pickF rfl (congrArg (fun b => some (Value.bool b)) hb15) rfl) ?_; clear hf; intro a hf
      refine sY hf hs rfl rfl rfl (Y_move rfl rfl) ?_; clear hf; intro a hf
      refine bsplit (!r16) (fun hb18 => ?_) (fun hb18 => ?_)
      · have hj12 := bif_t hj12 hb18
        refine sNo hf rfl rfl rfl (congrArg (fun b => some (Value.bool b)) hb18) rfl rfl rfl ?_; clear hf; intro a hf
        refine sNo hf rfl rfl rfl (congrArg (fun b => some (Value.bool b)) hb18) rfl rfl rfl ?_; clear hf; intro a hf
        refine sNo hf rfl rfl rfl (congrArg (fun b => some (Value.bool b)) hb18) rfl rfl rfl ?_; clear hf; intro a hf
        refine sNo hf rfl rfl rfl (congrArg (fun b => some (Value.bool b)) hb18) rfl rfl rfl ?_; clear hf; intro a hf
        refine sY hf hs rfl rfl rfl (Y_pickT rfl (congrArg (fun b => some (Value.bool b)) hb18) rfl) ?_; clear hf; intro a hf
        refine sY hf hs rfl rfl rfl (Y_assign rfl rfl) ?_; clear hf; intro a hf
        refine wpO_nil ?_
        refine wpL_nil (then_normal ?_)
        exact ⟨true, Option.some.inj hj12, (FrD.pick hf.none hf rfl), hs.sel [] (by decide)⟩
      · have hj12 := bif_f hj12 hb18
        refine sYg hf hs rfl rfl rfl (congrArg (fun b => some (Value.bool b)) hb18) rfl rfl rfl (Y_fieldAddr rfl rfl fo95_2) ?_; clear hf; intro a hf
        refine sYg hf hs rfl rfl rfl (congrArg (fun b => some (Value.bool b)) hb18) rfl rfl rfl (Y_load_blk rfl rfl (i := 0) rfl rfl ag2) ?_; clear hf; intro a hf
        obtain ⟨r19, hc20, hj12⟩ := bind_some hj12
        refine sCallg hf rfl rfl rfl (congrArg (fun b => some (Value.bool b)) hb18) rfl rfl rfl rfl (cap := []) rfl rfl en142 (impl_isFinite_ok F p0_b.Least _ _ hc20) ?_; clear hf
        rintro _ w ⟨rfl, hs1⟩ a hf
        have hs : St [] W w [.blk b1 95 [.int .i64 p0_b.From, .int .i64 p0_b.To, .int .i64 p0_b.Least]] := hs.ext hs1.below
        clear hs1
        refine sYg hf hs rfl rfl rfl (congrArg (fun b => some (Value.bool b)) hb18) rfl rfl rfl (Y_not rfl rfl) ?_; clear hf; intro a hf
        refine sY hf hs rfl rfl rfl (Y_pickF rfl (congrArg (fun b => some (Value.bool b)) hb18) rfl) ?_; clear hf; intro a hf
        refine sY hf hs rfl rfl rfl (Y_assign rfl rfl) ?_; clear hf; intro a hf
        refine wpO_nil ?_
        refine wpL_nil (then_normal ?_)
        exact ⟨(!r19), Option.some.inj hj12, (FrD.pick hf.none hf rfl), hs.sel [] (by decide)⟩
  · rintro a w ⟨b10, hr_, hf, hs⟩
    subst hr_
    try dsimp only at hm
    obtain rfl := Option.some.inj hm
    refine wpL_ret (ret_tmp rfl hf rfl ?_)
    exact ⟨_, rfl, rfl, hs⟩

set_option maxRecDepth 100000 in
theorem slices_IndexFunc_Bond_ok (F : Nat) (p0_s : List GBond) (A_p0_s_1 : Option Addr) (n_p0_s_1 c_p0_s_1 : Nat) (hn_p0_s_1 : n_p0_s_1 = p0_s.length) (m_p1_f : GBond → Option Bool) (f_p1_f : FuncId) (k_p1_f : List Value) (r : Int) (W : World) (hm : slices_IndexFunc_Bond F p0_s m_p1_f = some r) (h_p0_s_1 : Rd W A_p0_s_1 ((recs GBond.cells) p0_s)) (h_p1_f : ∀ (x0 : GBond) (r : Bool) (w : World), m_p1_f x0 = some r → Below W.heap.size W w → Calls Try.prog f_p1_f (([.agg #[.int .i64 x0.From, .int .i64 x0.To, .int .i64 x0.Least]] : List Value) ++ k_p1_f).toArray w fun e w' => ∃ v, e = .returned v ∧ v = .bool r ∧ St [] w w' []) (e_p1_f : En Try.prog f_p1_f) :
    Calls Try.prog 143 [.slice A_p0_s_1 n_p0_s_1 c_p0_s_1, .func (.func f_p1_f) #[] k_p1_f.toArray].toArray W fun e w' => ∃ v, e = .returned v ∧ v = .int .i64 r ∧ St [] W w' [] := by
  subst hn_p0_s_1
  unfold slices_IndexFunc_Bond at hm
  refine Calls.enter (N := 19) Try.func143 rfl rfl rfl (fun a hf => ?_)
  have hs := St.start W
  obtain ⟨w, hw_⟩ : ∃ w, w = W := ⟨W, rfl⟩
  clear hw_ w
  refine wpL_seq ?_
  refine wpL_region ?_
  refine sY hf hs rfl rfl rfl (Y_assign rfl rfl) ?_; clear hf; intro a hf
  refine wpO_nil ?_
  refine wpL_seq ?_
  refine wpL_seq ?_
  refine wpL_region ?_
  refine sY hf hs rfl rfl rfl (Y_move rfl rfl) ?_; clear hf; intro a hf
  refine sY hf hs rfl rfl rfl (Y_lenH rfl rfl el25 rfl) ?_; clear hf; intro a hf
  refine sY hf hs rfl rfl rfl (Y_move rfl rfl) ?_; clear hf; intro a hf
  refine wpO_nil ?_
  obtain ⟨r21, hl22, hm⟩ := bind_some hm
  refine wpL_block (fun a w => Sum.inr () = r21 ∧ Fr a 19 [] ∧ St [] W w []) ?_ ?_
  · refine wpL_loop (fun n a w => ∃ x14 : Int, slices_IndexFunc_Bond_L1 F p0_s m_p1_f n x14 = some r21 ∧ Fr a 19 [(0, .slice A_p0_s_1 p0_s.length c_p0_s_1), (1, .func (.func f_p1_f) #[] k_p1_f.toArray), (7, .int .i64 (p0_s.length : Int)), (8, .int .i64 x14)] ∧ St [] W w []) F ?_ ?_ ?_
    · exact ⟨0, hl22, (FrD.pick (FrD.pick (FrD.pick (FrD.pick hf.none hf rfl) hf rfl) hf rfl) hf rfl), hs⟩
    · rintro a w ⟨x14, h0_, -, -⟩; simp [slices_IndexFunc_Bond_L1] at h0_
    · rintro n24 a w ⟨x14, hm23, hf, hs⟩
      rw [slices_IndexFunc_Bond_L1] at hm23
      refine wpL_seq ?_
      refine wpL_region ?_
      refine sY hf hs rfl rfl rfl (Y_lss rfl rfl rfl) ?_; clear hf; intro a hf
      refine wpO_nil ?_
      refine wpL_seq ?_
      refine wpL_cond hf rfl (fun hb25 => ?_) (fun hb25 => ?_)
      · have hm23 := bif_t hm23 hb25
        refine wpL_skip ?_
        refine wpL_seq ?_
        refine wpL_block0 ?_
        refine wpL_seq ?_
        refine wpL_region ?_
        refine sY hf hs rfl rfl rfl (Y_move rfl rfl) ?_; clear hf; intro a hf
        refine sY hf hs rfl rfl rfl (Y_assign rfl rfl) ?_; clear hf; intro a hf
        refine wpO_nil ?_
        refine wpL_seq ?_
        refine wpL_region ?_
        refine sY hf hs rfl rfl rfl (Y_move rfl rfl) ?_; clear hf; intro a hf
        refine sY hf hs rfl rfl rfl (Y_move rfl rfl) ?_; clear hf; intro a hf
        refine sY hf hs rfl rfl rfl (Y_move rfl rfl) ?_; clear hf; intro a hf
        obtain ⟨q26, hi27, hm23⟩ := bind_some hm23
        obtain ⟨hi27a, hi27b, hi27q⟩ := idx_some hi27
        refine sY hf hs rfl rfl rfl (Y_index rfl rfl rfl el25 ti95 (Rd.isAt (h_p0_s_1.at hs) (recs_at (s := 3) GBond.len hi27q (j := 0) rfl)) hi27a hi27b) ?_; clear hf; intro a hf
        refine sY hf hs rfl rfl rfl (Y_load_rdS rfl rfl (us := [.int .i64 q26.From, .int .i64 q26.To, .int .i64 q26.Least]) (fun w hs => h_p0_s_1.at hs) (fun j u hj => recs_at (s := 3) GBond.len hi27q hj) (Nat.succ_pos _) ag95 ti95 rfl) ?_; clear hf; intro a hf
        obtain ⟨r28, hc29, hm23⟩ := bind_some hm23
        refine sCall hf rfl rfl rfl rfl (cap := k_p1_f) rfl rfl e_p1_f (h_p1_f q26 _ _ hc29 hs.below) ?_; clear hf; rintro _ w ⟨rfl, hs1⟩ a hf; have hs := hs.ext hs1.below; clear hs1
        refine wpO_nil ?_
        refine wpL_cond hf rfl (fun hb30 => ?_) (fun hb30 => ?_)
        · have hm23 := bif_t hm23 hb30
          refine wpL_seq ?_
          refine wpL_region ?_
          refine sY hf hs rfl rfl rfl (Y_move rfl rfl) ?_; clear hf; intro a hf
          refine sY hf hs rfl rfl rfl (Y_assign rfl rfl) ?_; clear hf; intro a hf
          refine wpO_nil ?_
          obtain rfl := Option.some.inj hm23
          try dsimp only at hm
          obtain rfl := Option.some.inj hm
          refine wpL_ret (Qb_ret (Ql_ret (Qb_ret (ret_tmp rfl hf rfl ?_))))
          exact ⟨_, rfl, rfl, hs⟩
        · have hm23 := bif_f hm23 hb30
          refine wpL_skip ?_
          refine wpL_nil (Qb_normal ?_)
          refine wpL_region ?_
          refine sY hf hs rfl rfl rfl (Y_add rfl rfl rfl) ?_; clear hf; intro a hf
          refine sY hf hs rfl rfl rfl (Y_move rfl rfl) ?_; clear hf; intro a hf
          refine wpO_nil ?_
          refine wpL_nil (Ql_normal ?_)
          exact ⟨(IntKind.i64.wrap (x14 + 1)), hm23, (FrD.pick (FrD.pick (FrD.pick (FrD.pick hf.none hf rfl) hf rfl) hf rfl) hf rfl), hs⟩
      · have hm23 := bif_f hm23 hb25
        refine wpL_exit (Ql_exit (Qb_exit ?_))
        exact ⟨Option.some.inj hm23, hf.none, hs⟩
  · rintro a w ⟨hr_, hf, hs⟩
    subst hr_
    try dsimp only at hm
    refine wpL_seq ?_
    refine wpL_region ?_
    refine sY hf hs rfl rfl rfl (Y_assign rfl rfl) ?_; clear hf; intro a hf
    refine wpO_nil ?_
    obtain rfl := Option.some.inj hm
    refine wpL_ret (ret_tmp rfl hf rfl ?_)
    exact ⟨_, rfl, rfl, hs⟩

set_option maxRecDepth 100000 in
theorem slices_ContainsFunc_Bond_ok (F : Nat) (p0_s : List GBond) (A_p0_s_1 : Option Addr) (n_p0_s_1 c_p0_s_1 : Nat) (hn_p0_s_1 : n_p0_s_1 = p0_s.length) (m_p1_f : GBond → Option Bool) (f_p1_f : FuncId) (k_p1_f : List Value) (r : Bool) (W : World) (hm : slices_ContainsFunc_Bond F p0_s m_p1_f = some r) (h_p0_s_1 : Rd W A_p0_s_1 ((recs GBond.cells) p0_s)) (h_p1_f : ∀ (x0 : GBond) (r : Bool) (w : World), m_p1_f x0 = some r → Below W.heap.size W w → Calls Try.prog f_p1_f (([.agg #[.int .i64 x0.From, .int .i64 x0.To, .int .i64 x0.Least]] : List Value) ++ k_p1_f).toArray w fun e w' => ∃ v, e = .returned v ∧ v = .bool r ∧ St [] w w' []) (e_p1_f : En Try.prog f_p1_f) :
    Calls Try.prog 72 [.slice A_p0_s_1 n_p0_s_1 c_p0_s_1, .func (.func f_p1_f) #[] k_p1_f.toArray].toArray W fun e w' => ∃ v, e = .returned v ∧ v = .bool r ∧ St [] W w' [] := by
  subst hn_p0_s_1
  unfold slices_ContainsFunc_Bond at hm
  refine Calls.enter (N := 9) Try.func72 rfl rfl rfl (fun a hf => ?_)
  have hs := St.start W
  obtain ⟨w, hw_⟩ : ∃ w, w = W := ⟨W, rfl⟩
  clear hw_ w
  refine wpL_seq ?_
  refine wpL_region ?_
  refine sY hf hs rfl rfl rfl (Y_assign rfl rfl) ?_; clear hf; intro a hf
  refine wpO_nil ?_
  refine wpL_seq ?_
  refine wpL_region ?_
  refine sY hf hs rfl rfl rfl (Y_move rfl rfl) ?_; clear hf; intro a hf
  refine sY hf hs rfl rfl rfl (Y_move rfl rfl) ?_; clear hf; intro a hf
  obtain ⟨r1, hc2, hm⟩ := bind_some hm
  refine sCall hf rfl rfl rfl rfl (cap := []) rfl rfl en143 (slices_IndexFunc_Bond_ok F p0_s A_p0_s_1 p0_s.length c_p0_s_1 rfl m_p1_f f_p1_f k_p1_f _ _ hc2 (h_p0_s_1.at hs) (fun x0 r w' hm_ hb => h_p1_f x0 r w' hm_ (hs.below.trans (hb.mono hs.below.size))) e_p1_f) ?_; clear hf
  rintro _ w ⟨rfl, hs1⟩ a hf
  have hs : St [] W w [] := hs.ext hs1.below
  clear hs1
  refine sY hf hs rfl rfl rfl (Y_geq rfl rfl rfl) ?_; clear hf; intro a hf
  refine sY hf hs rfl rfl rfl (Y_assign rfl rfl) ?_; clear hf; intro a hf
  refine wpO_nil ?_
  obtain rfl := Option.some.inj hm
  refine wpL_ret (ret_tmp rfl hf rfl ?_)
  exact ⟨_, rfl, rfl, hs⟩

set_option maxRecDepth 100000 in
theorem impl_IsTask_ok (F : Nat) (p0_windows : List GWindow) (A_p0_windows_1 : Option Addr) (n_p0_windows_1 c_p0_windows_1 : Nat) (hn_p0_windows_1 : n_p0_windows_1 = p0_windows.length) (p1_bonds : List GBond) (A_p1_bonds_1 : Option Addr) (n_p1_bonds_1 c_p1_bonds_1 : Nat) (hn_p1_bonds_1 : n_p1_bonds_1 = p1_bonds.length) (r : Bool) (W : World) (hm : impl_IsTask F p0_windows p1_bonds = some r) (h_p0_windows_1 : Rd W A_p0_windows_1 ((recs GWindow.cells) p0_windows)) (h_p1_bonds_1 : Rd W A_p1_bonds_1 ((recs GBond.cells) p1_bonds)) :
    Calls Try.prog 70 [.slice A_p0_windows_1 n_p0_windows_1 c_p0_windows_1, .slice A_p1_bonds_1 n_p1_bonds_1 c_p1_bonds_1].toArray W fun e w' => ∃ v, e = .returned v ∧ v = .bool r ∧ St [] W w' [] := by
  subst hn_p0_windows_1
  subst hn_p1_bonds_1
  unfold impl_IsTask at hm
  refine Calls.enter (N := 46) Try.func70 rfl rfl rfl (fun a hf => ?_)
  have hs := St.start W
  obtain ⟨w, hw_⟩ : ∃ w, w = W := ⟨W, rfl⟩
  clear hw_ w
  refine wpL_seq ?_
  refine wpL_region ?_
  refine sY hf hs rfl rfl rfl (Y_assign rfl rfl) ?_; clear hf; intro a hf
  refine wpO_nil ?_
  refine wpL_seq ?_
  refine wpL_seq ?_
  obtain ⟨r5, hj6, hm⟩ := bind_some hm
  refine wpL_cut (fun a w => ∃ b4 : Bool, b4 = r5 ∧ Fr a 46 [(0, .slice A_p0_windows_1 p0_windows.length c_p0_windows_1), (1, .slice A_p1_bonds_1 p1_bonds.length c_p1_bonds_1), (16, .bool b4)] ∧ St [] W w []) ?_ ?_
  · refine wpL_region ?_
    refine sY hf hs rfl rfl rfl (Y_move rfl rfl) ?_; clear hf; intro a hf
    refine sY hf hs rfl rfl rfl (Y_lenH rfl rfl el24 rfl) ?_; clear hf; intro a hf
    obtain ⟨r7, hc8, hj6⟩ := bind_some hj6
    refine sCall hf rfl rfl rfl rfl (cap := []) rfl rfl en71 (impl_within_ok F (p0_windows.length : Int) 1 10 _ _ hc8) ?_; clear hf
    rintro _ w ⟨rfl, hs1⟩ a hf
    have hs : St [] W w [] := hs.ext hs1.below
    clear hs1
    refine sY hf hs rfl rfl rfl (Y_not rfl rfl) ?_; clear hf; intro a hf
    refine sY hf hs rfl rfl rfl (Y_move rfl rfl) ?_; clear hf; intro a hf
    refine bsplit (!r7) (fun hb9 => ?_) (fun hb9 => ?_)
    · have hj6 := bif_t hj6 hb9
      refine sNo hf rfl rfl rfl (congrArg (fun b => some (Value.bool b)) hb9) rfl rfl rfl ?_; clear hf; intro a hf
      refine sNo hf rfl rfl rfl (congrArg (fun b => some (Value.bool b)) hb9) rfl rfl rfl ?_; clear hf; intro a hf
      refine sNo hf rfl rfl rfl (congrArg (fun b => some (Value.bool b)) hb9) rfl rfl rfl ?_; clear hf; intro a hf
      refine sY hf hs rfl rfl rfl (Y_pickT rfl (congrArg (fun b => some (Value.bool b)) hb9) rfl) ?_; clear hf; intro a hf
      refine wpO_nil ?_
      refine wpL_nil (then_normal ?_)
      exact ⟨true, Option.some.inj hj6, (FrD.pick (FrD.pick (FrD.pick hf.none hf rfl) hf rfl) hf rfl), hs⟩
    · have hj6 := bif_f hj6 hb9
      refine sYg hf hs rfl rfl rfl (congrArg (fun b => some (Value.bool b)) hb9) rfl rfl rfl (Y_move rfl rfl) ?_; clear hf; intro a hf
      refine sYg hf hs rfl rfl rfl (congrArg (fun b => some (Value.bool b)) hb9) rfl rfl rfl (Y_lenH rfl rfl el25 rfl) ?_; clear hf; intro a hf
      refine sYg hf hs rfl rfl rfl (congrArg (fun b => some (Value.bool b)) hb9) rfl rfl rfl (Y_gtr rfl rfl rfl) ?_; clear hf; intro a hf
      refine sY hf hs rfl rfl rfl (Y_pickF rfl (congrArg (fun b => some (Value.bool b)) hb9) rfl) ?_; clear hf; intro a hf
      refine wpO_nil ?_
      refine wpL_nil (then_normal ?_)
      exact ⟨(decide (30 < (p1_bonds.length : Int))), Option.some.inj hj6, (FrD.pick (FrD.pick (FrD.pick hf.none hf rfl) hf rfl) hf rfl), hs⟩
  · rintro a w ⟨b4, hr_, hf, hs⟩
    subst hr_
    try dsimp only at hm
    refine wpL_cond hf rfl (fun hb10 => ?_) (fun hb10 => ?_)
    · have hm := bif_t hm hb10
      refine wpL_seq ?_
      refine wpL_region ?_
      refine sY hf hs rfl rfl rfl (Y_assign rfl rfl) ?_; clear hf; intro a hf
      refine wpO_nil ?_
      obtain rfl := Option.some.inj hm
      refine wpL_ret (ret_tmp rfl hf rfl ?_)
      exact ⟨_, rfl, rfl, hs⟩
    · have hm := bif_f hm hb10
      refine wpL_skip ?_
      refine wpL_seq ?_
      refine wpL_seq ?_
      refine wpL_region ?_
      refine sY hf hs rfl rfl rfl (Y_move rfl rfl) ?_; clear hf; intro a hf
      refine sY hf hs rfl rfl rfl (Y_lenH rfl rfl el24 rfl) ?_; clear hf; intro a hf
      refine sY hf hs rfl rfl rfl (Y_move rfl rfl) ?_; clear hf; intro a hf
      refine wpO_nil ?_
      obtain ⟨r49, hl50, hm⟩ := bind_some hm
      refine wpL_block (fun a w => Sum.inr () = r49 ∧ Fr a 46 [(0, .slice A_p0_windows_1 p0_windows.length c_p0_windows_1), (1, .slice A_p1_bonds_1 p1_bonds.length c_p1_bonds_1)] ∧ St [] W w []) ?_ ?_
      · refine wpL_loop (fun n a w => ∃ x36 : Int, impl_IsTask_L1 F p0_windows n x36 = some r49 ∧ Fr a 46 [(0, .slice A_p0_windows_1 p0_windows.length c_p0_windows_1), (1, .slice A_p1_bonds_1 p1_bonds.length c_p1_bonds_1), (17, .slice A_p0_windows_1 p0_windows.length c_p0_windows_1), (18, .int .i64 (p0_windows.length : Int)), (19, .int .i64 x36)] ∧ St [] W w []) F ?_ ?_ ?_
        · exact ⟨0, hl50, (FrD.pick (FrD.pick (FrD.pick (FrD.pick (FrD.pick hf.none hf rfl) hf rfl) hf rfl) hf rfl) hf rfl), hs⟩
        · rintro a w ⟨x36, h0_, -, -⟩; simp [impl_IsTask_L1] at h0_
        · rintro n52 a w ⟨x36, hm51, hf, hs⟩
          rw [impl_IsTask_L1] at hm51
          refine wpL_seq ?_
          refine wpL_region ?_
          refine sY hf hs rfl rfl rfl (Y_lss rfl rfl rfl) ?_; clear hf; intro a hf
          refine wpO_nil ?_
          refine wpL_seq ?_
          refine wpL_cond hf rfl (fun hb53 => ?_) (fun hb53 => ?_)
          · have hm51 := bif_t hm51 hb53
            refine wpL_skip ?_
            refine wpL_seq ?_
            refine wpL_block0 ?_
            refine wpL_seq ?_
            refine wpL_region ?_
            obtain ⟨q54, hi55, hm51⟩ := bind_some hm51
            obtain ⟨hi55a, hi55b, hi55q⟩ := idx_some hi55
            refine sY hf hs rfl rfl rfl (Y_index rfl rfl rfl el24 ti39 (Rd.isAt (h_p0_windows_1.at hs) (recs_at (s := 2) GWindow.len hi55q (j := 0) rfl)) hi55a hi55b) ?_; clear hf; intro a hf
            refine sY hf hs rfl rfl rfl (Y_load_rdS rfl rfl (us := [.int .i64 q54.Low, .int .i64 q54.High]) (fun w hs => h_p0_windows_1.at hs) (fun j u hj => recs_at (s := 2) GWindow.len hi55q hj) (Nat.succ_pos _) ag39 ti39 rfl) ?_; clear hf; intro a hf
            refine sAlloc hf hs rfl rfl rfl rfl ti39 ?_; clear hf hs; intro a w b56 hs hf
            have hs : St [] W w [.blk b56 39 [.int .i64 0, .int .i64 0]] := hs
            refine sStore (i := 0) (us := [.int .i64 q54.Low, .int .i64 q54.High]) hf hs rfl rfl rfl rfl rfl rfl ti39 rfl rfl rfl (Nat.le_of_ble_eq_true rfl) rfl ?_; clear hs; intro w hs
            have hs : St [] W w [.blk b56 39 [.int .i64 q54.Low, .int .i64 q54.High]] := hs
            refine wpO_nil ?_
            refine wpL_seq ?_
            obtain ⟨r60, hj61, hm51⟩ := bind_some hm51
            refine wpL_cut (fun a w => ∃ b59 : Bool, b59 = r60 ∧ Fr a 46 [(0, .slice A_p0_windows_1 p0_windows.length c_p0_windows_1), (1, .slice A_p1_bonds_1 p1_bonds.length c_p1_bonds_1), (17, .slice A_p0_windows_1 p0_windows.length c_p0_windows_1), (18, .int .i64 (p0_windows.length : Int)), (19, .int .i64 x36), (37, .bool b59)] ∧ St [] W w []) ?_ ?_
            · refine wpL_region ?_
              refine sY hf hs rfl rfl rfl (Y_fieldAddr rfl rfl fo39_0) ?_; clear hf; intro a hf
              refine sY hf hs rfl rfl rfl (Y_load_blk rfl rfl (i := 0) rfl rfl ag2) ?_; clear hf; intro a hf
              refine sY hf hs rfl rfl rfl (Y_lss rfl rfl rfl) ?_; clear hf; intro a hf
              refine sY hf hs rfl rfl rfl (Y_move rfl rfl) ?_; clear hf; intro a hf
              refine bsplit (decide (q54.Low < 0)) (fun hb62 => ?_) (fun hb62 => ?_)
              · have hj61 := bif_t hj61 hb62
                refine sNo hf rfl rfl rfl (congrArg (fun b => some (Value.bool b)) hb62) rfl rfl rfl ?_; clear hf; intro a hf
                refine sNo hf rfl rfl rfl (congrArg (fun b => some (Value.bool b)) hb62) rfl rfl rfl ?_; clear hf; intro a hf
                refine sNo hf rfl rfl rfl (congrArg (fun b => some (Value.bool b)) hb62) rfl rfl rfl ?_; clear hf; intro a hf
                refine sNo hf rfl rfl rfl (congrArg (fun b => some (Value.bool b)) hb62) rfl rfl rfl ?_; clear hf; intro a hf
                refine sNo hf rfl rfl rfl (congrArg (fun b => some (Value.bool b)) hb62) rfl rfl rfl ?_; clear hf; intro a hf
                refine sY hf hs rfl rfl rfl (Y_pickT rfl (congrArg (fun b => some (Value.bool b)) hb62) rfl) ?_; clear hf; intro a hf
                refine sY hf hs rfl rfl rfl (Y_move rfl rfl) ?_; clear hf; intro a hf
                refine sNo hf rfl rfl rfl rfl rfl rfl rfl ?_; clear hf; intro a hf
                refine sNo hf rfl rfl rfl rfl rfl rfl rfl ?_; clear hf; intro a hf
                refine sNo hf rfl rfl rfl rfl rfl rfl rfl ?_; clear hf; intro a hf
                refine sY hf hs rfl rfl rfl (Y_pickT rfl rfl rfl) ?_; clear hf; intro a hf
                refine wpO_nil ?_
                refine wpL_nil (then_normal ?_)
                exact ⟨true, Option.some.inj hj61, (FrD.pick (FrD.pick (FrD.pick (FrD.pick (FrD.pick (FrD.pick hf.none hf rfl) hf rfl) hf rfl) hf rfl) hf rfl) hf rfl), hs.sel [] (by decide)⟩
              · have hj61 := bif_f hj61 hb62
                refine sYg hf hs rfl rfl rfl (congrArg (fun b => some (Value.bool b)) hb62) rfl rfl rfl (Y_fieldAddr rfl rfl fo39_0) ?_; clear hf; intro a hf
                refine sYg hf hs rfl rfl rfl (congrArg (fun b => some (Value.bool b)) hb62) rfl rfl rfl (Y_load_blk rfl rfl (i := 0) rfl rfl ag2) ?_; clear hf; intro a hf
                refine sYg hf hs rfl rfl rfl (congrArg (fun b => some (Value.bool b)) hb62) rfl rfl rfl (Y_fieldAddr rfl rfl fo39_1) ?_; clear hf; intro a hf
                refine sYg hf hs rfl rfl rfl (congrArg (fun b => some (Value.bool b)) hb62) rfl rfl rfl (Y_load_blk rfl rfl (i := 0) rfl rfl ag2) ?_; clear hf; intro a hf
                refine sYg hf hs rfl rfl rfl (congrArg (fun b => some (Value.bool b)) hb62) rfl rfl rfl (Y_gtr rfl rfl rfl) ?_; clear hf; intro a hf
                refine sY hf hs rfl rfl rfl (Y_pickF rfl (congrArg (fun b => some (Value.bool b)) hb62) rfl) ?_; clear hf; intro a hf
                refine sY hf hs rfl rfl rfl (Y_move rfl rfl) ?_; clear hf; intro a hf
                refine bsplit (decide (q54.High < q54.Low)) (fun hb63 => ?_) (fun hb63 => ?_)
                · have hj61 := bif_t hj61 hb63
                  refine sNo hf rfl rfl rfl (congrArg (fun b => some (Value.bool b)) hb63) rfl rfl rfl ?_; clear hf; intro a hf
                  refine sNo hf rfl rfl rfl (congrArg (fun b => some (Value.bool b)) hb63) rfl rfl rfl ?_; clear hf; intro a hf
                  refine sNo hf rfl rfl rfl (congrArg (fun b => some (Value.bool b)) hb63) rfl rfl rfl ?_; clear hf; intro a hf
                  refine sY hf hs rfl rfl rfl (Y_pickT rfl (congrArg (fun b => some (Value.bool b)) hb63) rfl) ?_; clear hf; intro a hf
                  refine wpO_nil ?_
                  refine wpL_nil (then_normal ?_)
                  exact ⟨true, Option.some.inj hj61, (FrD.pick (FrD.pick (FrD.pick (FrD.pick (FrD.pick (FrD.pick hf.none hf rfl) hf rfl) hf rfl) hf rfl) hf rfl) hf rfl), hs.sel [] (by decide)⟩
                · have hj61 := bif_f hj61 hb63
                  refine sYg hf hs rfl rfl rfl (congrArg (fun b => some (Value.bool b)) hb63) rfl rfl rfl (Y_fieldAddr rfl rfl fo39_1) ?_; clear hf; intro a hf
                  refine sYg hf hs rfl rfl rfl (congrArg (fun b => some (Value.bool b)) hb63) rfl rfl rfl (Y_load_blk rfl rfl (i := 0) rfl rfl ag2) ?_; clear hf; intro a hf
                  refine sYg hf hs rfl rfl rfl (congrArg (fun b => some (Value.bool b)) hb63) rfl rfl rfl (Y_gtr rfl rfl rfl) ?_; clear hf; intro a hf
                  refine sY hf hs rfl rfl rfl (Y_pickF rfl (congrArg (fun b => some (Value.bool b)) hb63) rfl) ?_; clear hf; intro a hf
                  refine wpO_nil ?_
                  refine wpL_nil (then_normal ?_)
                  exact ⟨(decide (1000000 < q54.High)), Option.some.inj hj61, (FrD.pick (FrD.pick (FrD.pick (FrD.pick (FrD.pick (FrD.pick hf.none hf rfl) hf rfl) hf rfl) hf rfl) hf rfl) hf rfl), hs.sel [] (by decide)⟩
            · rintro a w ⟨b59, hr_, hf, hs⟩
              subst hr_
              try dsimp only at hm51
              refine wpL_cond hf rfl (fun hb64 => ?_) (fun hb64 => ?_)
              · have hm51 := bif_t hm51 hb64
                refine wpL_seq ?_
                refine wpL_region ?_
                refine sY hf hs rfl rfl rfl (Y_assign rfl rfl) ?_; clear hf; intro a hf
                refine wpO_nil ?_
                obtain rfl := Option.some.inj hm51
                try dsimp only at hm
                obtain rfl := Option.some.inj hm
                refine wpL_ret (Qb_ret (Ql_ret (Qb_ret (ret_tmp rfl hf rfl ?_))))
                exact ⟨_, rfl, rfl, hs⟩
              · have hm51 := bif_f hm51 hb64
                refine wpL_skip ?_
                refine wpL_nil (Qb_normal ?_)
                refine wpL_region ?_
                refine sY hf hs rfl rfl rfl (Y_add rfl rfl rfl) ?_; clear hf; intro a hf
                refine sY hf hs rfl rfl rfl (Y_move rfl rfl) ?_; clear hf; intro a hf
                refine wpO_nil ?_
                refine wpL_nil (Ql_normal ?_)
                exact ⟨(IntKind.i64.wrap (x36 + 1)), hm51, (FrD.pick (FrD.pick (FrD.pick (FrD.pick (FrD.pick hf.none hf rfl) hf rfl) hf rfl) hf rfl) hf rfl), hs⟩
          · have hm51 := bif_f hm51 hb53
            refine wpL_exit (Ql_exit (Qb_exit ?_))
            exact ⟨Option.some.inj hm51, (FrD.pick (FrD.pick hf.none hf rfl) hf rfl), hs⟩
      · rintro a w ⟨hr_, hf, hs⟩
        subst hr_
        try dsimp only at hm
        refine wpL_seq ?_
        refine wpL_region ?_
        refine sY hf hs rfl rfl rfl (Y_move rfl rfl) ?_; clear hf; intro a hf
        refine sY hf hs rfl rfl rfl (Y_lenH rfl rfl el24 rfl) ?_; clear hf; intro a hf
        refine sY hf hs rfl rfl rfl (Y_sub rfl rfl rfl) ?_; clear hf; intro a hf
        refine sAlloc hf hs rfl rfl rfl rfl ti2 ?_; clear hf hs; intro a w b65 hs hf
        have hs : St [] W w [.blk b65 2 [.int .i64 0]] := hs
        refine sStore (i := 0) (us := [.int .i64 (IntKind.i64.wrap ((p0_windows.length : Int) - 1))]) hf hs rfl rfl rfl rfl rfl rfl ti2 rfl rfl rfl (Nat.le_of_ble_eq_true rfl) rfl ?_; clear hs; intro w hs
        have hs : St [] W w [.blk b65 2 [.int .i64 (IntKind.i64.wrap ((p0_windows.length : Int) - 1))]] := hs
        refine wpO_nil ?_
        refine wpL_seq ?_
        refine wpL_region ?_
        refine sY hf hs rfl rfl rfl (Y_move rfl rfl) ?_; clear hf; intro a hf
        refine sY hf hs rfl rfl rfl (Y_makeFunc (us := []) (vs := [.pointer (some ⟨b65, 0, none⟩)]) rfl rfl rfl) ?_; clear hf; intro a hf
        obtain ⟨r66, hc67, hm⟩ := bind_some hm
        refine sCall hf rfl rfl rfl rfl (cap := []) rfl rfl en72 (slices_ContainsFunc_Bond_ok F p1_bonds A_p1_bonds_1 p1_bonds.length c_p1_bonds_1 rfl (fun x0 => impl_IsTask_c1 F x0 (IntKind.i64.wrap ((p0_windows.length : Int) - 1))) 141 ([.pointer (some ⟨b65, 0, none⟩)]) _ _ hc67 (h_p1_bonds_1.at hs) (fun x0 r w' hm_ hb => impl_IsTask_c1_ok F x0 b65 (IntKind.i64.wrap ((p0_windows.length : Int) - 1)) r w' hm_ ((hs.pb (i := 0) rfl).below hb (Nat.le_refl _))) en141) ?_; clear hf
        rintro _ w ⟨rfl, hs1⟩ a hf
        have hs : St [] W w [.blk b65 2 [.int .i64 (IntKind.i64.wrap ((p0_windows.length : Int) - 1))]] := hs.ext hs1.below
        clear hs1
        refine sY hf hs rfl rfl rfl (Y_not rfl rfl) ?_; clear hf; intro a hf
        refine sY hf hs rfl rfl rfl (Y_assign rfl rfl) ?_; clear hf; intro a hf
        refine wpO_nil ?_
        obtain rfl := Option.some.inj hm
        refine wpL_ret (ret_tmp rfl hf rfl ?_)
        exact ⟨_, rfl, rfl, hs.sel [] (by decide)⟩

set_option maxRecDepth 100000 in
theorem impl_matrixBy_ok (F : Nat) (p0_m : Int) (p1_n : Int) (m_p2_entry : Int → Int → Option Int) (f_p2_entry : FuncId) (k_p2_entry : List Value) (r : List (List Int)) (W : World) (hm : impl_matrixBy F p0_m p1_n m_p2_entry = some r) (h_p2_entry : ∀ (x0 : Int) (x1 : Int) (r : Int) (w : World), m_p2_entry x0 x1 = some r → Below W.heap.size W w → Calls Try.prog f_p2_entry (([.int .i64 x0, .int .i64 x1] : List Value) ++ k_p2_entry).toArray w fun e w' => ∃ v, e = .returned v ∧ v = .int .i64 r ∧ St [] w w' []) (e_p2_entry : En Try.prog f_p2_entry) :
    Calls Try.prog 111 [.int .i64 p0_m, .int .i64 p1_n, .func (.func f_p2_entry) #[] k_p2_entry.toArray].toArray W fun e w' => ∃ v, e = .returned v ∧ ∃ A641, ∃ n642, ∃ c643, ∃ vs645, v = .slice A641 n642 c643 ∧ n642 = r.length ∧ St [] W w' [.mat A641 n642 c643 28 2 vs645 r] := by
  unfold impl_matrixBy at hm
  refine Calls.enter (N := 43) Try.func111 rfl rfl rfl (fun a hf => ?_)
  have hs := St.start W
  obtain ⟨w, hw_⟩ : ∃ w, w = W := ⟨W, rfl⟩
  clear hw_ w
  refine wpL_seq ?_
  refine wpL_region ?_
  refine sY hf hs rfl rfl rfl (Y_assign rfl rfl) ?_; clear hf; intro a hf
  refine wpO_nil ?_
  refine wpL_seq ?_
  refine wpL_region ?_
  refine sY hf hs rfl rfl rfl (Y_move rfl rfl) ?_; clear hf; intro a hf
  obtain ⟨ms3, hk2, hm⟩ := bind_some hm
  refine sMakeM 2 hf hs rfl rfl rfl rfl rfl hk2 el40 ti28 rfl ?_; clear hf hs; intro a w A1 vs4 hs hf
  have hs : St [] W w [.mat A1 ms3.length ms3.length 28 2 vs4 ms3] := hs
  refine sY hf hs rfl rfl rfl (Y_assign rfl rfl) ?_; clear hf; intro a hf
  refine wpO_nil ?_
  refine wpL_seq ?_
  refine wpL_seq ?_
  refine wpL_region ?_
  refine sY hf hs rfl rfl rfl (Y_move rfl rfl) ?_; clear hf; intro a hf
  refine sY hf hs rfl rfl rfl (Y_lenH rfl rfl el40 rfl) ?_; clear hf; intro a hf
  refine sY hf hs rfl rfl rfl (Y_move rfl rfl) ?_; clear hf; intro a hf
  refine wpO_nil ?_
  obtain ⟨r484, hl485, hm⟩ := bind_some hm
  refine wpL_block (fun a w => ∃ ms478 : List (List Int), ∃ A479, ∃ n480, ∃ c481, ∃ vs483, ms478 = r484 ∧ n480 = ms478.length ∧ Fr a 43 [(7, .slice A479 n480 c481)] ∧ St [] W w [.mat A479 n480 c481 28 2 vs483 ms478]) ?_ ?_
  · refine wpL_loop (fun n a w => ∃ ms318 : List (List Int), ∃ x324 : Int, ∃ A319, ∃ n320, ∃ c321, ∃ vs323, impl_matrixBy_L4 F p1_n m_p2_entry ms3 n ms318 x324 = some r484 ∧ n320 = ms318.length ∧ Fr a 43 [(1, .int .i64 p1_n), (2, .func (.func f_p2_entry) #[] k_p2_entry.toArray), (7, .slice A319 n320 c321), (13, .int .i64 (ms3.length : Int)), (14, .int .i64 x324)] ∧ St [] W w [.mat A319 n320 c321 28 2 vs323 ms318]) F ?_ ?_ ?_
    · exact ⟨ms3, 0, A1, ms3.length, ms3.length, vs4, hl485, rfl, (FrD.pick (FrD.pick (FrD.pick (FrD.pick (FrD.pick hf.none hf rfl) hf rfl) hf rfl) hf rfl) hf rfl), hs⟩
    · rintro a w ⟨ms318, x324, A319, n320, c321, vs323, h0_, -, -, -⟩; simp [impl_matrixBy_L4] at h0_
    · rintro n487 a w ⟨ms318, x324, A319, n320, c321, vs323, hm486, hn322, hf, hs⟩
      rw [impl_matrixBy_L4] at hm486
      refine wpL_seq ?_
      refine wpL_region ?_
      refine sY hf hs rfl rfl rfl (Y_lss rfl rfl rfl) ?_; clear hf; intro a hf
      refine wpO_nil ?_
      refine wpL_seq ?_
      refine wpL_cond hf rfl (fun hb488 => ?_) (fun hb488 => ?_)
      · have hm486 := bif_t hm486 hb488
        refine wpL_skip ?_
        refine wpL_seq ?_
        refine wpL_block0 ?_
        refine wpL_seq ?_
        refine wpL_region ?_
        refine sY hf hs rfl rfl rfl (Y_move rfl rfl) ?_; clear hf; intro a hf
        refine sY hf hs rfl rfl rfl (Y_assign rfl rfl) ?_; clear hf; intro a hf
        refine wpO_nil ?_
        refine wpL_seq ?_
        refine wpL_region ?_
        refine sY hf hs rfl rfl rfl (Y_move rfl rfl) ?_; clear hf; intro a hf
        refine sY hf hs rfl rfl rfl (Y_move rfl rfl) ?_; clear hf; intro a hf
        refine sY hf hs rfl rfl rfl (Y_move rfl rfl) ?_; clear hf; intro a hf
        obtain ⟨xs491, hk490, hm486⟩ := bind_some hm486
        refine sMakeL (enc := ints) hf hs rfl rfl rfl rfl rfl hk490 el28 ti2 rfl ints_made ?_; clear hf hs; intro a w A489 hs hf
        have hs : St [] W w [.mat A319 n320 c321 28 2 vs323 ms318, .row A489 xs491.length xs491.length 2 1 (ints xs491)] := hs
        obtain ⟨q492, hi493, hm486⟩ := bind_some hm486
        obtain ⟨hi493a, hi493b, hi493q⟩ := idx_some hi493
        obtain ⟨A494, c495, hv496⟩ := hs.matRow (i := 0) rfl hi493q
        refine sY hf hs rfl rfl rfl (Y_index rfl rfl rfl el40 ti28 (Rd.isAt (hs.rdV (i := 0) rfl) hv496) hi493a (ltn hn322 hi493b)) ?_; clear hf; intro a hf
        obtain ⟨ms497, hu498, hm486⟩ := bind_some hm486
        refine sStoreRowM (i := 0) (j := 1) (k := x324) hf hs rfl rfl rfl rfl rfl rfl rfl (by decide) rfl hu498 ti28 ?_; clear hs; intro w vs499 hs
        have hs : St [] W w [.mat A319 n320 c321 28 2 vs499 ms497] := hs
        refine wpO_nil ?_
        refine wpL_seq ?_
        refine wpL_region ?_
        refine sY hf hs rfl rfl rfl (Y_move rfl rfl) ?_; clear hf; intro a hf
        refine sY hf hs rfl rfl rfl (Y_move rfl rfl) ?_; clear hf; intro a hf
        obtain ⟨q500, hi501, hm486⟩ := bind_some hm486
        obtain ⟨hi501a, hi501b, hi501q⟩ := idx_some hi501
        obtain ⟨A502, c503, hv504⟩ := hs.matRow (i := 0) rfl hi501q
        refine sY hf hs rfl rfl rfl (Y_index rfl rfl rfl el40 ti28 (Rd.isAt (hs.rdV (i := 0) rfl) hv504) hi501a (ltn ((hn322).trans (upd_len hu498).symm) hi501b)) ?_; clear hf; intro a hf
        refine sY hf hs rfl rfl rfl (Y_load_rd rfl rfl (fun w hs => hs.rdV (i := 0) rfl) (at1 hv504) ag28) ?_; clear hf; intro a hf
        refine sY hf hs rfl rfl rfl (Y_lenH rfl rfl el28 rfl) ?_; clear hf; intro a hf
        refine sY hf hs rfl rfl rfl (Y_move rfl rfl) ?_; clear hf; intro a hf
        refine wpO_nil ?_
        obtain ⟨r606, hl607, hm486⟩ := bind_some hm486
        refine wpL_block (fun a w => ∃ ms604 : List (List Int), ms604 = r606 ∧ n320 = ms604.length ∧ Fr a 43 [(1, .int .i64 p1_n), (2, .func (.func f_p2_entry) #[] k_p2_entry.toArray), (7, .slice A319 n320 c321), (13, .int .i64 (ms3.length : Int)), (14, .int .i64 x324)] ∧ St [] W w [.mat A319 n320 c321 28 2 vs499 ms604]) ?_ ?_
        · refine wpL_loop (fun n a w => ∃ ms570 : List (List Int), ∃ x572 : Int, impl_matrixBy_L5 F m_p2_entry x324 q500 n ms570 x572 = some r606 ∧ n320 = ms570.length ∧ Fr a 43 [(1, .int .i64 p1_n), (2, .func (.func f_p2_entry) #[] k_p2_entry.toArray), (7, .slice A319 n320 c321), (8, .int .i64 x324), (13, .int .i64 (ms3.length : Int)), (14, .int .i64 x324), (26, .int .i64 (q500.length : Int)), (27, .int .i64 x572)] ∧ St [] W w [.mat A319 n320 c321 28 2 vs499 ms570]) F ?_ ?_ ?_
          · exact ⟨ms497, 0, hl607, ((hn322).trans (upd_len hu498).symm), (FrD.pick (FrD.pick (FrD.pick (FrD.pick (FrD.pick (FrD.pick (FrD.pick (FrD.pick hf.none hf rfl) hf rfl) hf rfl) hf rfl) hf rfl) hf rfl) hf rfl) hf rfl), hs⟩
          · rintro a w ⟨ms570, x572, h0_, -, -, -⟩; simp [impl_matrixBy_L5] at h0_
          · rintro n609 a w ⟨ms570, x572, hm608, hn571, hf, hs⟩
            rw [impl_matrixBy_L5] at hm608
            refine wpL_seq ?_
            refine wpL_region ?_
            refine sY hf hs rfl rfl rfl (Y_lss rfl rfl rfl) ?_; clear hf; intro a hf
            refine wpO_nil ?_
            refine wpL_seq ?_
            refine wpL_cond hf rfl (fun hb610 => ?_) (fun hb610 => ?_)
            · have hm608 := bif_t hm608 hb610
              refine wpL_skip ?_
              refine wpL_seq ?_
              refine wpL_block0 ?_
              refine wpL_seq ?_
              refine wpL_region ?_
              refine sY hf hs rfl rfl rfl (Y_move rfl rfl) ?_; clear hf; intro a hf
              refine sY hf hs rfl rfl rfl (Y_assign rfl rfl) ?_; clear hf; intro a hf
              refine wpO_nil ?_
              refine wpL_drawM [.mat A319 n320 c321 28 2 vs499 ms570] [10] (by kernel_rfl) hs ?_; clear hs; intro w hs
              have hs0 : St [] W w [.mat A319 n320 c321 28 2 vs499 ms570] := hs
              refine mYp (i := 0) rfl (by kernel_rfl) (by kernel_rfl) hf rfl rfl rfl (fun _ => Y_move rfl rfl) ?_; clear hf; intro a hf
              refine mYp (i := 1) rfl (by kernel_rfl) (by kernel_rfl) hf rfl rfl rfl (fun _ => Y_move rfl rfl) ?_; clear hf; intro a hf
              obtain ⟨q626, hi627, hm608⟩ := bind_some hm608
              obtain ⟨hi627a, hi627b, hi627q⟩ := idx_some hi627
              obtain ⟨A628, c629, hv630⟩ := hs.matRow (i := 0) rfl hi627q
              refine mYp (i := 2) rfl (by kernel_rfl) (by kernel_rfl) hf rfl rfl rfl (fun _ => Y_index rfl rfl rfl el40 ti28 (Rd.isAt (hs.rdV (i := 0) rfl) hv630) hi627a (ltn hn571 hi627b)) ?_; clear hf; intro a hf
              refine mY (i := 3) [[]] rfl (by kernel_rfl) (by kernel_rfl) hf hs0 rfl rfl rfl (Y_load_rd rfl rfl (fun w hs => hs.rdV (i := 0) rfl) (at1 hv630) ag28) ?_; clear hf; intro a hf
              refine mYp (i := 4) rfl (by kernel_rfl) (by kernel_rfl) hf rfl rfl rfl (fun _ => Y_move rfl rfl) ?_; clear hf; intro a hf
              refine mYp (i := 5) rfl (by kernel_rfl) (by kernel_rfl) hf rfl rfl rfl (fun _ => Y_move rfl rfl) ?_; clear hf; intro a hf
              refine mYp (i := 6) rfl (by kernel_rfl) (by kernel_rfl) hf rfl rfl rfl (fun _ => Y_move rfl rfl) ?_; clear hf; intro a hf
              refine mYp (i := 7) rfl (by kernel_rfl) (by kernel_rfl) hf rfl rfl rfl (fun _ => Y_move rfl rfl) ?_; clear hf; intro a hf
              refine mRun (i := 8) rfl (by kernel_rfl) ?_
              obtain ⟨r631, hc632, hm608⟩ := bind_some hm608
              refine sCall hf rfl rfl rfl rfl (cap := k_p2_entry) rfl rfl e_p2_entry (h_p2_entry x324 x572 _ _ hc632 hs.below) ?_; clear hf; rintro _ w ⟨rfl, hs1⟩ a hf; have hs := hs.ext hs1.below; clear hs1
              have hs0 : St [] W w [.mat A319 n320 c321 28 2 vs499 ms570] := hs
              refine wpO_nil ⟨Or.inr (fun _ => hs0), ?_⟩
              obtain ⟨q633, hi634, hm608⟩ := bind_some hm608
              obtain ⟨hi634a, hi634b, hi634q⟩ := idx_some hi634
              refine mYp (i := 9) rfl (by kernel_rfl) (by kernel_rfl) hf rfl rfl rfl (fun _ => Y_index rfl rfl rfl el28 ti2 (Rd.isAt (hs.rdRow (i := 0) rfl ⟨hi627q, hv630⟩) (at1 (ints_at hi634q))) hi634a hi634b) ?_; clear hf; intro a hf
              refine mRun (i := 10) rfl (by kernel_rfl) ?_
              obtain ⟨xs635, hu637, hm608⟩ := bind_some hm608
              obtain ⟨ms636, hu638, hm608⟩ := bind_some hm608
              refine sStoreM (i := 0) (k := x324) hf hs rfl rfl rfl rfl rfl rfl hi627q hv630 rfl hu637 hu638 ti2 ?_; clear hs; intro w hs
              obtain ⟨hq639, hv640⟩ := rowUpd hu637 hu638 hv630
              have hs : St [] W w [.mat A319 n320 c321 28 2 vs499 ms636] := hs
              refine wpO_nil ⟨Or.inl (by decide), ?_⟩
              refine mDone (by kernel_rfl) ?_
              clear hs0
              refine wpL_nil (Qb_normal ?_)
              refine wpL_region ?_
              refine sY hf hs rfl rfl rfl (Y_add rfl rfl rfl) ?_; clear hf; intro a hf
              refine sY hf hs rfl rfl rfl (Y_move rfl rfl) ?_; clear hf; intro a hf
              refine wpO_nil ?_
              refine wpL_nil (Ql_normal ?_)
              exact ⟨ms636, (IntKind.i64.wrap (x572 + 1)), hm608, ((hn571).trans (upd_len hu638).symm), (FrD.pick (FrD.pick (FrD.pick (FrD.pick (FrD.pick (FrD.pick (FrD.pick (FrD.pick hf.none hf rfl) hf rfl) hf rfl) hf rfl) hf rfl) hf rfl) hf rfl) hf rfl), hs⟩
            · have hm608 := bif_f hm608 hb610
              refine wpL_exit (Ql_exit (Qb_exit ?_))
              exact ⟨ms570, Option.some.inj hm608, hn571, (FrD.pick (FrD.pick (FrD.pick (FrD.pick (FrD.pick hf.none hf rfl) hf rfl) hf rfl) hf rfl) hf rfl), hs⟩
        · rintro a w ⟨ms604, hr_, hn605, hf, hs⟩
          subst hr_
          try dsimp only at hm486
          refine wpL_nil (Qb_normal ?_)
          refine wpL_region ?_
          refine sY hf hs rfl rfl rfl (Y_add rfl rfl rfl) ?_; clear hf; intro a hf
          refine sY hf hs rfl rfl rfl (Y_move rfl rfl) ?_; clear hf; intro a hf
          refine wpO_nil ?_
          refine wpL_nil (Ql_normal ?_)
          exact ⟨ms604, (IntKind.i64.wrap (x324 + 1)), A319, n320, c321, vs499, hm486, hn605, (FrD.pick (FrD.pick (FrD.pick (FrD.pick (FrD.pick hf.none hf rfl) hf rfl) hf rfl) hf rfl) hf rfl), hs⟩
      · have hm486 := bif_f hm486 hb488
        refine wpL_exit (Ql_exit (Qb_exit ?_))
        exact ⟨ms318, A319, n320, c321, vs323, Option.some.inj hm486, hn322, (FrD.pick hf.none hf rfl), hs⟩
  · rintro a w ⟨ms478, A479, n480, c481, vs483, hr_, hn482, hf, hs⟩
    subst hr_
    try dsimp only at hm
    refine wpL_seq ?_
    refine wpL_region ?_
    refine sY hf hs rfl rfl rfl (Y_move rfl rfl) ?_; clear hf; intro a hf
    refine sY hf hs rfl rfl rfl (Y_assign rfl rfl) ?_; clear hf; intro a hf
    refine wpO_nil ?_
    obtain rfl := Option.some.inj hm
    refine wpL_ret (ret_tmp rfl hf rfl ?_)
    exact ⟨_, rfl, A479, n480, c481, vs483, rfl, hn482, hs⟩

set_option maxRecDepth 100000 in
theorem impl_bottomMatrix_c1_ok (F : Nat) (p0 : Int) (p1 : Int) (r : Int) (W : World) (hm : impl_bottomMatrix_c1 F p0 p1 = some r) :
    Calls Try.prog 221 [.int .i64 p0, .int .i64 p1].toArray W fun e w' => ∃ v, e = .returned v ∧ v = .int .i64 r ∧ St [] W w' [] := by
  unfold impl_bottomMatrix_c1 at hm
  refine Calls.enter (N := 5) Try.func221 rfl rfl rfl (fun a hf => ?_)
  have hs := St.start W
  obtain ⟨w, hw_⟩ : ∃ w, w = W := ⟨W, rfl⟩
  clear hw_ w
  refine wpL_seq ?_
  refine wpL_region ?_
  refine sY hf hs rfl rfl rfl (Y_assign rfl rfl) ?_; clear hf; intro a hf
  refine wpO_nil ?_
  refine wpL_seq ?_
  refine wpL_region ?_
  refine sY hf hs rfl rfl rfl (Y_assign rfl rfl) ?_; clear hf; intro a hf
  refine wpO_nil ?_
  obtain rfl := Option.some.inj hm
  refine wpL_ret (ret_tmp rfl hf rfl ?_)
  exact ⟨_, rfl, rfl, hs⟩

set_option maxRecDepth 100000 in
theorem impl_bottomMatrix_ok (F : Nat) (p0_m : Int) (p1_n : Int) (r : List (List Int)) (W : World) (hm : impl_bottomMatrix F p0_m p1_n = some r) :
    Calls Try.prog 200 [.int .i64 p0_m, .int .i64 p1_n].toArray W fun e w' => ∃ v, e = .returned v ∧ ∃ A8, ∃ n9, ∃ c10, ∃ vs12, v = .slice A8 n9 c10 ∧ n9 = r.length ∧ St [] W w' [.mat A8 n9 c10 28 2 vs12 r] := by
  unfold impl_bottomMatrix at hm
  refine Calls.enter (N := 8) Try.func200 rfl rfl rfl (fun a hf => ?_)
  have hs := St.start W
  obtain ⟨w, hw_⟩ : ∃ w, w = W := ⟨W, rfl⟩
  clear hw_ w
  refine wpL_seq ?_
  refine wpL_region ?_
  refine sY hf hs rfl rfl rfl (Y_assign rfl rfl) ?_; clear hf; intro a hf
  refine wpO_nil ?_
  refine wpL_seq ?_
  refine wpL_region ?_
  refine sY hf hs rfl rfl rfl (Y_move rfl rfl) ?_; clear hf; intro a hf
  refine sY hf hs rfl rfl rfl (Y_move rfl rfl) ?_; clear hf; intro a hf
  obtain ⟨r1, hc2, hm⟩ := bind_some hm
  refine sCall hf rfl rfl rfl rfl (cap := []) rfl rfl en111 (impl_matrixBy_ok F p0_m p1_n (fun x0 x1 => impl_bottomMatrix_c1 F x0 x1) 221 [] _ _ hc2 (fun x0 x1 r w' hm_ hb => impl_bottomMatrix_c1_ok F x0 x1 r w' hm_ ) en221) ?_; clear hf
  rintro _ w ⟨A3, n4, c5, vs7, rfl, hn6, hs1⟩ a hf
  have hs : St [] W w [.mat A3 n4 c5 28 2 vs7 r1] := hs.join hs1
  clear hs1
  refine sY hf hs rfl rfl rfl (Y_assign rfl rfl) ?_; clear hf; intro a hf
  refine wpO_nil ?_
  obtain rfl := Option.some.inj hm
  refine wpL_ret (ret_tmp rfl hf rfl ?_)
  exact ⟨_, rfl, A3, n4, c5, vs7, rfl, hn6, hs⟩

set_option maxRecDepth 100000 in
theorem impl_bondMatrix_ok (F : Nat) (p0_windows : List GWindow) (A_p0_windows_1 : Option Addr) (n_p0_windows_1 c_p0_windows_1 : Nat) (hn_p0_windows_1 : n_p0_windows_1 = p0_windows.length) (p1_bonds : List GBond) (A_p1_bonds_1 : Option Addr) (n_p1_bonds_1 c_p1_bonds_1 : Nat) (hn_p1_bonds_1 : n_p1_bonds_1 = p1_bonds.length) (r : List (List Int)) (W : World) (hm : impl_bondMatrix F p0_windows p1_bonds = some r) (_h_p0_windows_1 : Rd W A_p0_windows_1 ((recs GWindow.cells) p0_windows)) (h_p1_bonds_1 : Rd W A_p1_bonds_1 ((recs GBond.cells) p1_bonds)) :
    Calls Try.prog 136 [.slice A_p0_windows_1 n_p0_windows_1 c_p0_windows_1, .slice A_p1_bonds_1 n_p1_bonds_1 c_p1_bonds_1].toArray W fun e w' => ∃ v, e = .returned v ∧ ∃ A116, ∃ n117, ∃ c118, ∃ vs120, v = .slice A116 n117 c118 ∧ n117 = r.length ∧ St [] W w' [.mat A116 n117 c118 28 2 vs120 r] := by
  subst hn_p0_windows_1
  subst hn_p1_bonds_1
  unfold impl_bondMatrix at hm
  refine Calls.enter (N := 41) Try.func136 rfl rfl rfl (fun a hf => ?_)
  have hs := St.start W
  obtain ⟨w, hw_⟩ : ∃ w, w = W := ⟨W, rfl⟩
  clear hw_ w
  refine wpL_seq ?_
  refine wpL_region ?_
  refine sY hf hs rfl rfl rfl (Y_assign rfl rfl) ?_; clear hf; intro a hf
  refine wpO_nil ?_
  refine wpL_seq ?_
  refine wpL_region ?_
  refine sY hf hs rfl rfl rfl (Y_move rfl rfl) ?_; clear hf; intro a hf
  refine sY hf hs rfl rfl rfl (Y_lenH rfl rfl el24 rfl) ?_; clear hf; intro a hf
  refine sY hf hs rfl rfl rfl (Y_move rfl rfl) ?_; clear hf; intro a hf
  refine sY hf hs rfl rfl rfl (Y_lenH rfl rfl el24 rfl) ?_; clear hf; intro a hf
  obtain ⟨r1, hc2, hm⟩ := bind_some hm
  refine sCall hf rfl rfl rfl rfl (cap := []) rfl rfl en200 (impl_bottomMatrix_ok F (p0_windows.length : Int) (p0_windows.length : Int) _ _ hc2) ?_; clear hf
  rintro _ w ⟨A3, n4, c5, vs7, rfl, hn6, hs1⟩ a hf
  have hs : St [] W w [.mat A3 n4 c5 28 2 vs7 r1] := hs.join hs1
  clear hs1
  refine sY hf hs rfl rfl rfl (Y_assign rfl rfl) ?_; clear hf; intro a hf
  refine wpO_nil ?_
  refine wpL_seq ?_
  refine wpL_seq ?_
  refine wpL_region ?_
  refine sY hf hs rfl rfl rfl (Y_move rfl rfl) ?_; clear hf; intro a hf
  refine sY hf hs rfl rfl rfl (Y_lenH rfl rfl el25 rfl) ?_; clear hf; intro a hf
  refine sY hf hs rfl rfl rfl (Y_move rfl rfl) ?_; clear hf; intro a hf
  refine wpO_nil ?_
  obtain ⟨r88, hl89, hm⟩ := bind_some hm
  refine wpL_block (fun a w => ∃ ms86 : List (List Int), ms86 = r88 ∧ n4 = ms86.length ∧ Fr a 41 [(5, .slice A3 n4 c5)] ∧ St [] W w [.mat A3 n4 c5 28 2 vs7 ms86]) ?_ ?_
  · refine wpL_loop (fun n a w => ∃ ms59 : List (List Int), ∃ x61 : Int, impl_bondMatrix_L1 F p1_bonds n ms59 x61 = some r88 ∧ n4 = ms59.length ∧ Fr a 41 [(5, .slice A3 n4 c5), (13, .slice A_p1_bonds_1 p1_bonds.length c_p1_bonds_1), (14, .int .i64 (p1_bonds.length : Int)), (15, .int .i64 x61)] ∧ St [] W w [.mat A3 n4 c5 28 2 vs7 ms59]) F ?_ ?_ ?_
    · exact ⟨r1, 0, hl89, hn6, (FrD.pick (FrD.pick (FrD.pick (FrD.pick hf.none hf rfl) hf rfl) hf rfl) hf rfl), hs⟩
    · rintro a w ⟨ms59, x61, h0_, -, -, -⟩; simp [impl_bondMatrix_L1] at h0_
    · rintro n91 a w ⟨ms59, x61, hm90, hn60, hf, hs⟩
      rw [impl_bondMatrix_L1] at hm90
      refine wpL_seq ?_
      refine wpL_region ?_
      refine sY hf hs rfl rfl rfl (Y_lss rfl rfl rfl) ?_; clear hf; intro a hf
      refine wpO_nil ?_
      refine wpL_seq ?_
      refine wpL_cond hf rfl (fun hb92 => ?_) (fun hb92 => ?_)
      · have hm90 := bif_t hm90 hb92
        refine wpL_skip ?_
        refine wpL_seq ?_
        refine wpL_block0 ?_
        refine wpL_seq ?_
        refine wpL_region ?_
        obtain ⟨q93, hi94, hm90⟩ := bind_some hm90
        obtain ⟨hi94a, hi94b, hi94q⟩ := idx_some hi94
        refine sY hf hs rfl rfl rfl (Y_index rfl rfl rfl el25 ti95 (Rd.isAt (h_p1_bonds_1.at hs) (recs_at (s := 3) GBond.len hi94q (j := 0) rfl)) hi94a hi94b) ?_; clear hf; intro a hf
        refine sY hf hs rfl rfl rfl (Y_load_rdS rfl rfl (us := [.int .i64 q93.From, .int .i64 q93.To, .int .i64 q93.Least]) (fun w hs => h_p1_bonds_1.at hs) (fun j u hj => recs_at (s := 3) GBond.len hi94q hj) (Nat.succ_pos _) ag95 ti95 rfl) ?_; clear hf; intro a hf
        refine sAlloc hf hs rfl rfl rfl rfl ti95 ?_; clear hf hs; intro a w b95 hs hf
        have hs : St [] W w [.mat A3 n4 c5 28 2 vs7 ms59, .blk b95 95 [.int .i64 0, .int .i64 0, .int .i64 0]] := hs
        refine sStore (i := 1) (us := [.int .i64 q93.From, .int .i64 q93.To, .int .i64 q93.Least]) hf hs rfl rfl rfl rfl rfl rfl ti95 rfl rfl rfl (Nat.le_of_ble_eq_true rfl) rfl ?_; clear hs; intro w hs
        have hs : St [] W w [.mat A3 n4 c5 28 2 vs7 ms59, .blk b95 95 [.int .i64 q93.From, .int .i64 q93.To, .int .i64 q93.Least]] := hs
        refine wpO_nil ?_
        refine wpL_drawM [.mat A3 n4 c5 28 2 vs7 ms59, .blk b95 95 [.int .i64 q93.From, .int .i64 q93.To, .int .i64 q93.Least]] [20] (by kernel_rfl) hs ?_; clear hs; intro w hs
        have hs0 : St [] W w [.mat A3 n4 c5 28 2 vs7 ms59, .blk b95 95 [.int .i64 q93.From, .int .i64 q93.To, .int .i64 q93.Least]] := hs
        refine mYp (i := 0) rfl (by kernel_rfl) (by kernel_rfl) hf rfl rfl rfl (fun _ => Y_move rfl rfl) ?_; clear hf; intro a hf
        refine mYp (i := 1) rfl (by kernel_rfl) (by kernel_rfl) hf rfl rfl rfl (fun _ => Y_fieldAddr rfl rfl fo95_1) ?_; clear hf; intro a hf
        refine mY (i := 2) [[]] rfl (by kernel_rfl) (by kernel_rfl) hf hs0 rfl rfl rfl (Y_load_blk rfl rfl (i := 1) rfl rfl ag2) ?_; clear hf; intro a hf
        obtain ⟨q96, hi97, hm90⟩ := bind_some hm90
        obtain ⟨hi97a, hi97b, hi97q⟩ := idx_some hi97
        obtain ⟨A98, c99, hv100⟩ := hs.matRow (i := 0) rfl hi97q
        refine mYp (i := 3) rfl (by kernel_rfl) (by kernel_rfl) hf rfl rfl rfl (fun _ => Y_index rfl rfl rfl el40 ti28 (Rd.isAt (hs.rdV (i := 0) rfl) hv100) hi97a (ltn hn60 hi97b)) ?_; clear hf; intro a hf
        refine mY (i := 4) [[]] rfl (by kernel_rfl) (by kernel_rfl) hf hs0 rfl rfl rfl (Y_load_rd rfl rfl (fun w hs => hs.rdV (i := 0) rfl) (at1 hv100) ag28) ?_; clear hf; intro a hf
        refine mYp (i := 5) rfl (by kernel_rfl) (by kernel_rfl) hf rfl rfl rfl (fun _ => Y_fieldAddr rfl rfl fo95_0) ?_; clear hf; intro a hf
        refine mY (i := 6) [[]] rfl (by kernel_rfl) (by kernel_rfl) hf hs0 rfl rfl rfl (Y_load_blk rfl rfl (i := 1) rfl rfl ag2) ?_; clear hf; intro a hf
        refine mYp (i := 7) rfl (by kernel_rfl) (by kernel_rfl) hf rfl rfl rfl (fun _ => Y_move rfl rfl) ?_; clear hf; intro a hf
        refine mYp (i := 8) rfl (by kernel_rfl) (by kernel_rfl) hf rfl rfl rfl (fun _ => Y_fieldAddr rfl rfl fo95_1) ?_; clear hf; intro a hf
        refine mY (i := 9) [[]] rfl (by kernel_rfl) (by kernel_rfl) hf hs0 rfl rfl rfl (Y_load_blk rfl rfl (i := 1) rfl rfl ag2) ?_; clear hf; intro a hf
        obtain ⟨q101, hi102, hm90⟩ := bind_some hm90
        obtain ⟨hi102a, hi102b, hi102q⟩ := idx_some hi102
        obtain ⟨A103, c104, hv105⟩ := hs.matRow (i := 0) rfl hi102q
        refine mYp (i := 10) rfl (by kernel_rfl) (by kernel_rfl) hf rfl rfl rfl (fun _ => Y_index rfl rfl rfl el40 ti28 (Rd.isAt (hs.rdV (i := 0) rfl) hv105) hi102a (ltn hn60 hi102b)) ?_; clear hf; intro a hf
        refine mY (i := 11) [[]] rfl (by kernel_rfl) (by kernel_rfl) hf hs0 rfl rfl rfl (Y_load_rd rfl rfl (fun w hs => hs.rdV (i := 0) rfl) (at1 hv105) ag28) ?_; clear hf; intro a hf
        refine mYp (i := 12) rfl (by kernel_rfl) (by kernel_rfl) hf rfl rfl rfl (fun _ => Y_fieldAddr rfl rfl fo95_0) ?_; clear hf; intro a hf
        refine mY (i := 13) [[]] rfl (by kernel_rfl) (by kernel_rfl) hf hs0 rfl rfl rfl (Y_load_blk rfl rfl (i := 1) rfl rfl ag2) ?_; clear hf; intro a hf
        obtain ⟨q106, hi107, hm90⟩ := bind_some hm90
        obtain ⟨hi107a, hi107b, hi107q⟩ := idx_some hi107
        refine mYp (i := 14) rfl (by kernel_rfl) (by kernel_rfl) hf rfl rfl rfl (fun _ => Y_index rfl rfl rfl el28 ti2 (Rd.isAt (hs.rdRow (i := 0) rfl ⟨hi102q, hv105⟩) (at1 (ints_at hi107q))) hi107a hi107b) ?_; clear hf; intro a hf
        refine mY (i := 15) [[]] rfl (by kernel_rfl) (by kernel_rfl) hf hs0 rfl rfl rfl (Y_load_rd rfl rfl (fun w hs => hs.rdRow (i := 0) rfl ⟨hi102q, hv105⟩) (at1 (ints_at hi107q)) ag2) ?_; clear hf; intro a hf
        refine mYp (i := 16) rfl (by kernel_rfl) (by kernel_rfl) hf rfl rfl rfl (fun _ => Y_fieldAddr rfl rfl fo95_2) ?_; clear hf; intro a hf
        refine mY (i := 17) [[]] rfl (by kernel_rfl) (by kernel_rfl) hf hs0 rfl rfl rfl (Y_load_blk rfl rfl (i := 1) rfl rfl ag2) ?_; clear hf; intro a hf
        refine mYp (i := 18) rfl (by kernel_rfl) (by kernel_rfl) hf rfl rfl rfl (fun _ => Y_max rfl rfl rfl) ?_; clear hf; intro a hf
        obtain ⟨q108, hi109, hm90⟩ := bind_some hm90
        obtain ⟨hi109a, hi109b, hi109q⟩ := idx_some hi109
        refine mYp (i := 19) rfl (by kernel_rfl) (by kernel_rfl) hf rfl rfl rfl (fun _ => Y_index rfl rfl rfl el28 ti2 (Rd.isAt (hs.rdRow (i := 0) rfl ⟨hi97q, hv100⟩) (at1 (ints_at hi109q))) hi109a hi109b) ?_; clear hf; intro a hf
        refine mRun (i := 20) rfl (by kernel_rfl) ?_
        obtain ⟨xs110, hu112, hm90⟩ := bind_some hm90
        obtain ⟨ms111, hu113, hm90⟩ := bind_some hm90
        refine sStoreM (i := 0) (k := q93.To) hf hs rfl rfl rfl rfl rfl rfl hi97q hv100 rfl hu112 hu113 ti2 ?_; clear hs; intro w hs
        obtain ⟨hq114, hv115⟩ := rowUpd hu112 hu113 hv100
        have hs : St [] W w [.mat A3 n4 c5 28 2 vs7 ms111, .blk b95 95 [.int .i64 q93.From, .int .i64 q93.To, .int .i64 q93.Least]] := hs
        refine wpO_nil ⟨Or.inl (by decide), ?_⟩
        refine mDone (by kernel_rfl) ?_
        clear hs0
        refine wpL_nil (Qb_normal ?_)
        refine wpL_region ?_
        refine sY hf hs rfl rfl rfl (Y_add rfl rfl rfl) ?_; clear hf; intro a hf
        refine sY hf hs rfl rfl rfl (Y_move rfl rfl) ?_; clear hf; intro a hf
        refine wpO_nil ?_
        refine wpL_nil (Ql_normal ?_)
        exact ⟨ms111, (IntKind.i64.wrap (x61 + 1)), hm90, ((hn60).trans (upd_len hu113).symm), (FrD.pick (FrD.pick (FrD.pick (FrD.pick hf.none hf rfl) hf rfl) hf rfl) hf rfl), hs.sel [0] (by decide)⟩
      · have hm90 := bif_f hm90 hb92
        refine wpL_exit (Ql_exit (Qb_exit ?_))
        exact ⟨ms59, Option.some.inj hm90, hn60, (FrD.pick hf.none hf rfl), hs⟩
  · rintro a w ⟨ms86, hr_, hn87, hf, hs⟩
    subst hr_
    try dsimp only at hm
    refine wpL_seq ?_
    refine wpL_region ?_
    refine sY hf hs rfl rfl rfl (Y_move rfl rfl) ?_; clear hf; intro a hf
    refine sY hf hs rfl rfl rfl (Y_assign rfl rfl) ?_; clear hf; intro a hf
    refine wpO_nil ?_
    obtain rfl := Option.some.inj hm
    refine wpL_ret (ret_tmp rfl hf rfl ?_)
    exact ⟨_, rfl, A3, n4, c5, vs7, rfl, hn87, hs⟩

set_option maxRecDepth 100000 in
theorem impl_unitMatrix_c1_ok (F : Nat) (p0_i : Int) (p1_j : Int) (r : Int) (W : World) (hm : impl_unitMatrix_c1 F p0_i p1_j = some r) :
    Calls Try.prog 158 [.int .i64 p0_i, .int .i64 p1_j].toArray W fun e w' => ∃ v, e = .returned v ∧ v = .int .i64 r ∧ St [] W w' [] := by
  unfold impl_unitMatrix_c1 at hm
  refine Calls.enter (N := 8) Try.func158 rfl rfl rfl (fun a hf => ?_)
  have hs := St.start W
  obtain ⟨w, hw_⟩ : ∃ w, w = W := ⟨W, rfl⟩
  clear hw_ w
  refine wpL_seq ?_
  refine wpL_region ?_
  refine sY hf hs rfl rfl rfl (Y_assign rfl rfl) ?_; clear hf; intro a hf
  refine wpO_nil ?_
  refine wpL_seq ?_
  refine wpL_seq ?_
  refine wpL_region ?_
  refine sY hf hs rfl rfl rfl (Y_move rfl rfl) ?_; clear hf; intro a hf
  refine sY hf hs rfl rfl rfl (Y_move rfl rfl) ?_; clear hf; intro a hf
  refine sY hf hs rfl rfl rfl (Y_eql rfl rfl rfl) ?_; clear hf; intro a hf
  refine wpO_nil ?_
  refine wpL_cond hf rfl (fun hb1 => ?_) (fun hb1 => ?_)
  · have hm := bif_t hm hb1
    refine wpL_seq ?_
    refine wpL_region ?_
    refine sY hf hs rfl rfl rfl (Y_assign rfl rfl) ?_; clear hf; intro a hf
    refine wpO_nil ?_
    obtain rfl := Option.some.inj hm
    refine wpL_ret (ret_tmp rfl hf rfl ?_)
    exact ⟨_, rfl, rfl, hs⟩
  · have hm := bif_f hm hb1
    refine wpL_skip ?_
    refine wpL_seq ?_
    refine wpL_region ?_
    refine sY hf hs rfl rfl rfl (Y_assign rfl rfl) ?_; clear hf; intro a hf
    refine wpO_nil ?_
    obtain rfl := Option.some.inj hm
    refine wpL_ret (ret_tmp rfl hf rfl ?_)
    exact ⟨_, rfl, rfl, hs⟩

set_option maxRecDepth 100000 in
theorem impl_unitMatrix_ok (F : Nat) (p0_n : Int) (r : List (List Int)) (W : World) (hm : impl_unitMatrix F p0_n = some r) :
    Calls Try.prog 90 [.int .i64 p0_n].toArray W fun e w' => ∃ v, e = .returned v ∧ ∃ A8, ∃ n9, ∃ c10, ∃ vs12, v = .slice A8 n9 c10 ∧ n9 = r.length ∧ St [] W w' [.mat A8 n9 c10 28 2 vs12 r] := by
  unfold impl_unitMatrix at hm
  refine Calls.enter (N := 6) Try.func90 rfl rfl rfl (fun a hf => ?_)
  have hs := St.start W
  obtain ⟨w, hw_⟩ : ∃ w, w = W := ⟨W, rfl⟩
  clear hw_ w
  refine wpL_seq ?_
  refine wpL_region ?_
  refine sY hf hs rfl rfl rfl (Y_assign rfl rfl) ?_; clear hf; intro a hf
  refine wpO_nil ?_
  refine wpL_seq ?_
  refine wpL_region ?_
  refine sY hf hs rfl rfl rfl (Y_move rfl rfl) ?_; clear hf; intro a hf
  refine sY hf hs rfl rfl rfl (Y_move rfl rfl) ?_; clear hf; intro a hf
  obtain ⟨r1, hc2, hm⟩ := bind_some hm
  refine sCall hf rfl rfl rfl rfl (cap := []) rfl rfl en111 (impl_matrixBy_ok F p0_n p0_n (fun x0 x1 => impl_unitMatrix_c1 F x0 x1) 158 [] _ _ hc2 (fun x0 x1 r w' hm_ hb => impl_unitMatrix_c1_ok F x0 x1 r w' hm_ ) en158) ?_; clear hf
  rintro _ w ⟨A3, n4, c5, vs7, rfl, hn6, hs1⟩ a hf
  have hs : St [] W w [.mat A3 n4 c5 28 2 vs7 r1] := hs.join hs1
  clear hs1
  refine sY hf hs rfl rfl rfl (Y_assign rfl rfl) ?_; clear hf; intro a hf
  refine wpO_nil ?_
  obtain rfl := Option.some.inj hm
  refine wpL_ret (ret_tmp rfl hf rfl ?_)
  exact ⟨_, rfl, A3, n4, c5, vs7, rfl, hn6, hs⟩

set_option maxRecDepth 100000 in
theorem impl_addMatrices_c1_ok (F : Nat) (p0_i : Int) (p1_j : Int) (b_z0 : Nat) (z0 : List (List Int)) (A_z0_1 : Option Addr) (n_z0_1 c_z0_1 : Nat) (hn_z0_1 : n_z0_1 = z0.length) (b_z1 : Nat) (z1 : List (List Int)) (A_z1_1 : Option Addr) (n_z1_1 c_z1_1 : Nat) (hn_z1_1 : n_z1_1 = z1.length) (r : Int) (W : World) (hm : impl_addMatrices_c1 F p0_i p1_j z0 z1 = some r) (h_z0_1 : RdM W A_z0_1 z0) (h_z0 : PB W b_z0 40 [.slice A_z0_1 n_z0_1 c_z0_1]) (h_z1_1 : RdM W A_z1_1 z1) (h_z1 : PB W b_z1 40 [.slice A_z1_1 n_z1_1 c_z1_1]) :
    Calls Try.prog 160 [.int .i64 p0_i, .int .i64 p1_j, .pointer (some ⟨b_z0, 0, none⟩), .pointer (some ⟨b_z1, 0, none⟩)].toArray W fun e w' => ∃ v, e = .returned v ∧ v = .int .i64 r ∧ St [] W w' [] := by
  subst hn_z0_1
  subst hn_z1_1
  unfold impl_addMatrices_c1 at hm
  refine Calls.enter (N := 22) Try.func160 rfl rfl rfl (fun a hf => ?_)
  have hs := St.start W
  obtain ⟨w, hw_⟩ : ∃ w, w = W := ⟨W, rfl⟩
  clear hw_ w
  refine wpL_seq ?_
  refine wpL_region ?_
  refine sY hf hs rfl rfl rfl (Y_assign rfl rfl) ?_; clear hf; intro a hf
  refine wpO_nil ?_
  refine wpL_seq ?_
  refine wpL_draw (by kernel_rfl) (by kernel_rfl) hs ?_
  refine qY hf rfl rfl rfl (Y_load_pb rfl rfl h_z0 rfl ag40) ?_; clear hf; intro a hf
  refine qY hf rfl rfl rfl (Y_move rfl rfl) ?_; clear hf; intro a hf
  obtain ⟨q1, hi2, hm⟩ := bind_some hm
  obtain ⟨hi2a, hi2b, hi2q⟩ := idx_some hi2
  obtain ⟨vs3, hv4, hr5⟩ := id h_z0_1
  obtain ⟨A6, c7, hv8, hR9⟩ := hr5 _ _ hi2q
  refine qY hf rfl rfl rfl (Y_index rfl rfl rfl el40 ti28 (Rd.isAt hv4 hv8) hi2a hi2b) ?_; clear hf; intro a hf
  refine qY hf rfl rfl rfl (Y_load_rd rfl rfl (fun w hs => hv4.at hs) (at1 hv8) ag28) ?_; clear hf; intro a hf
  refine qY hf rfl rfl rfl (Y_move rfl rfl) ?_; clear hf; intro a hf
  obtain ⟨q10, hi11, hm⟩ := bind_some hm
  obtain ⟨hi11a, hi11b, hi11q⟩ := idx_some hi11
  refine qY hf rfl rfl rfl (Y_index rfl rfl rfl el28 ti2 (Rd.isAt (hR9.at hs) (at1 (ints_at hi11q))) hi11a hi11b) ?_; clear hf; intro a hf
  refine qY hf rfl rfl rfl (Y_load_rd rfl rfl (fun w hs => hR9.at hs) (at1 (ints_at hi11q)) ag2) ?_; clear hf; intro a hf
  refine qY hf rfl rfl rfl (Y_load_pb rfl rfl h_z1 rfl ag40) ?_; clear hf; intro a hf
  refine qY hf rfl rfl rfl (Y_move rfl rfl) ?_; clear hf; intro a hf
  obtain ⟨q12, hi13, hm⟩ := bind_some hm
  obtain ⟨hi13a, hi13b, hi13q⟩ := idx_some hi13
  obtain ⟨vs14, hv15, hr16⟩ := id h_z1_1
  obtain ⟨A17, c18, hv19, hR20⟩ := hr16 _ _ hi13q
  refine qY hf rfl rfl rfl (Y_index rfl rfl rfl el40 ti28 (Rd.isAt hv15 hv19) hi13a hi13b) ?_; clear hf; intro a hf
  refine qY hf rfl rfl rfl (Y_load_rd rfl rfl (fun w hs => hv15.at hs) (at1 hv19) ag28) ?_; clear hf; intro a hf
  refine qY hf rfl rfl rfl (Y_move rfl rfl) ?_; clear hf; intro a hf
  obtain ⟨q21, hi22, hm⟩ := bind_some hm
  obtain ⟨hi22a, hi22b, hi22q⟩ := idx_some hi22
  refine qY hf rfl rfl rfl (Y_index rfl rfl rfl el28 ti2 (Rd.isAt (hR20.at hs) (at1 (ints_at hi22q))) hi22a hi22b) ?_; clear hf; intro a hf
  refine qY hf rfl rfl rfl (Y_load_rd rfl rfl (fun w hs => hR20.at hs) (at1 (ints_at hi22q)) ag2) ?_; clear hf; intro a hf
  refine qY hf rfl rfl rfl (Y_max rfl rfl rfl) ?_; clear hf; intro a hf
  refine qY hf rfl rfl rfl (Y_assign rfl rfl) ?_; clear hf; intro a hf
  refine qNil ?_; clear hs; intro w hs
  obtain rfl := Option.some.inj hm
  refine wpL_ret (ret_tmp rfl hf rfl ?_)
  exact ⟨_, rfl, rfl, hs⟩

set_option maxRecDepth 100000 in
theorem impl_addMatrices_ok (F : Nat) (p0_a : List (List Int)) (A_p0_a_1 : Option Addr) (n_p0_a_1 c_p0_a_1 : Nat) (hn_p0_a_1 : n_p0_a_1 = p0_a.length) (p1_b : List (List Int)) (A_p1_b_1 : Option Addr) (n_p1_b_1 c_p1_b_1 : Nat) (hn_p1_b_1 : n_p1_b_1 = p1_b.length) (r : List (List Int)) (W : World) (hm : impl_addMatrices F p0_a p1_b = some r) (h_p0_a_1 : RdM W A_p0_a_1 p0_a) (h_p1_b_1 : RdM W A_p1_b_1 p1_b) :
    Calls Try.prog 92 [.slice A_p0_a_1 n_p0_a_1 c_p0_a_1, .slice A_p1_b_1 n_p1_b_1 c_p1_b_1].toArray W fun e w' => ∃ v, e = .returned v ∧ ∃ A19, ∃ n20, ∃ c21, ∃ vs23, v = .slice A19 n20 c21 ∧ n20 = r.length ∧ St [] W w' [.mat A19 n20 c21 28 2 vs23 r] := by
  subst hn_p0_a_1
  subst hn_p1_b_1
  unfold impl_addMatrices at hm
  refine Calls.enter (N := 13) Try.func92 rfl rfl rfl (fun a hf => ?_)
  have hs := St.start W
  obtain ⟨w, hw_⟩ : ∃ w, w = W := ⟨W, rfl⟩
  clear hw_ w
  refine wpL_seq ?_
  refine wpL_region ?_
  refine sBox hf hs rfl rfl rfl rfl rfl (cs := [.slice A_p0_a_1 p0_a.length c_p0_a_1]) rfl ?_; clear hf hs; intro a w b1 hs hf
  have hs : St [] W w [.blk b1 40 [.slice A_p0_a_1 p0_a.length c_p0_a_1]] := hs
  refine sBox hf hs rfl rfl rfl rfl rfl (cs := [.slice A_p1_b_1 p1_b.length c_p1_b_1]) rfl ?_; clear hf hs; intro a w b2 hs hf
  have hs : St [] W w [.blk b1 40 [.slice A_p0_a_1 p0_a.length c_p0_a_1], .blk b2 40 [.slice A_p1_b_1 p1_b.length c_p1_b_1]] := hs
  refine sY hf hs rfl rfl rfl (Y_assign rfl rfl) ?_; clear hf; intro a hf
  refine wpO_nil ?_
  refine wpL_seq ?_
  refine wpL_drawM [.blk b1 40 [.slice A_p0_a_1 p0_a.length c_p0_a_1], .blk b2 40 [.slice A_p1_b_1 p1_b.length c_p1_b_1]] [7] (by kernel_rfl) hs ?_; clear hs; intro w hs
  have hs0 : St [] W w [.blk b1 40 [.slice A_p0_a_1 p0_a.length c_p0_a_1], .blk b2 40 [.slice A_p1_b_1 p1_b.length c_p1_b_1]] := hs
  refine mY (i := 0) [[1]] rfl (by kernel_rfl) (by kernel_rfl) hf hs0 rfl rfl rfl (Y_load_blk rfl rfl (i := 0) rfl rfl ag40) ?_; clear hf; intro a hf
  refine mYp (i := 1) rfl (by kernel_rfl) (by kernel_rfl) hf rfl rfl rfl (fun _ => Y_lenH rfl rfl el40 rfl) ?_; clear hf; intro a hf
  refine mY (i := 2) [[3, 4, 5]] rfl (by kernel_rfl) (by kernel_rfl) hf hs0 rfl rfl rfl (Y_load_blk rfl rfl (i := 0) rfl rfl ag40) ?_; clear hf; intro a hf
  obtain ⟨q3, hi4, hm⟩ := bind_some hm
  obtain ⟨hi4a, hi4b, hi4q⟩ := idx_some hi4
  obtain ⟨vs5, hv6, hr7⟩ := id h_p0_a_1
  obtain ⟨A8, c9, hv10, hR11⟩ := hr7 _ _ hi4q
  refine mYp (i := 3) rfl (by kernel_rfl) (by kernel_rfl) hf rfl rfl rfl (fun _ => Y_index rfl rfl rfl el40 ti28 (Rd.isAt hv6 hv10) hi4a hi4b) ?_; clear hf; intro a hf
  refine mY (i := 4) [[5]] rfl (by kernel_rfl) (by kernel_rfl) hf hs0 rfl rfl rfl (Y_load_rd rfl rfl (fun w hs => hv6.at hs) (at1 hv10) ag28) ?_; clear hf; intro a hf
  refine mYp (i := 5) rfl (by kernel_rfl) (by kernel_rfl) hf rfl rfl rfl (fun _ => Y_lenH rfl rfl el28 rfl) ?_; clear hf; intro a hf
  refine mYp (i := 6) rfl (by kernel_rfl) (by kernel_rfl) hf rfl rfl rfl (fun _ => Y_makeFunc (us := []) (vs := [.pointer (some ⟨b1, 0, none⟩), .pointer (some ⟨b2, 0, none⟩)]) rfl rfl rfl) ?_; clear hf; intro a hf
  refine mRun (i := 7) rfl (by kernel_rfl) ?_
  obtain ⟨r12, hc13, hm⟩ := bind_some hm
  refine sCall hf rfl rfl rfl rfl (cap := []) rfl rfl en111 (impl_matrixBy_ok F (p0_a.length : Int) (q3.length : Int) (fun x0 x1 => impl_addMatrices_c1 F x0 x1 p0_a p1_b) 160 ([.pointer (some ⟨b1, 0, none⟩), .pointer (some ⟨b2, 0, none⟩)]) _ _ hc13 (fun x0 x1 r w' hm_ hb => impl_addMatrices_c1_ok F x0 x1 b1 p0_a A_p0_a_1 p0_a.length c_p0_a_1 rfl b2 p1_b A_p1_b_1 p1_b.length c_p1_b_1 rfl r w' hm_ ((h_p0_a_1.at hs).below hb (Nat.le_refl _)) ((hs.pb (i := 0) rfl).below hb (Nat.le_refl _)) ((h_p1_b_1.at hs).below hb (Nat.le_refl _)) ((hs.pb (i := 1) rfl).below hb (Nat.le_refl _))) en160) ?_; clear hf
  rintro _ w ⟨A14, n15, c16, vs18, rfl, hn17, hs1⟩ a hf
  have hs : St [] W w [.blk b1 40 [.slice A_p0_a_1 p0_a.length c_p0_a_1], .blk b2 40 [.slice A_p1_b_1 p1_b.length c_p1_b_1], .mat A14 n15 c16 28 2 vs18 r12] := hs.join hs1
  clear hs1
  refine wpO_nil ⟨Or.inl (by decide), ?_⟩
  refine mYp (i := 8) rfl (by kernel_rfl) (by kernel_rfl) hf rfl rfl rfl (fun _ => Y_assign rfl rfl) ?_; clear hf; intro a hf
  refine mDone (by kernel_rfl) ?_
  clear hs0
  obtain rfl := Option.some.inj hm
  refine wpL_ret (ret_tmp rfl hf rfl ?_)
  exact ⟨_, rfl, A14, n15, c16, vs18, rfl, hn17, hs.sel [2] (by decide)⟩

set_option maxRecDepth 100000 in
theorem impl_times_ok (F : Nat) (p0_a : Int) (p1_b : Int) (r : Int) (W : World) (hm : impl_times F p0_a p1_b = some r) :
    Calls Try.prog 145 [.int .i64 p0_a, .int .i64 p1_b].toArray W fun e w' => ∃ v, e = .returned v ∧ v = .int .i64 r ∧ St [] W w' [] := by
  unfold impl_times at hm
  refine Calls.enter (N := 14) Try.func145 rfl rfl rfl (fun a hf => ?_)
  have hs := St.start W
  obtain ⟨w, hw_⟩ : ∃ w, w = W := ⟨W, rfl⟩
  clear hw_ w
  refine wpL_seq ?_
  refine wpL_region ?_
  refine sY hf hs rfl rfl rfl (Y_assign rfl rfl) ?_; clear hf; intro a hf
  refine wpO_nil ?_
  refine wpL_seq ?_
  refine wpL_seq ?_
  obtain ⟨r3, hj4, hm⟩ := bind_some hm
  refine wpL_cut (fun a w => ∃ b2 : Bool, b2 = r3 ∧ Fr a 14 [(0, .int .i64 p0_a), (1, .int .i64 p1_b), (10, .bool b2)] ∧ St [] W w []) ?_ ?_
  · refine wpL_region ?_
    refine sY hf hs rfl rfl rfl (Y_move rfl rfl) ?_; clear hf; intro a hf
    refine sY hf hs rfl rfl rfl (Y_eql rfl rfl rfl) ?_; clear hf; intro a hf
    refine sY hf hs rfl rfl rfl (Y_move rfl rfl) ?_; clear hf; intro a hf
    refine bsplit (p0_a == (-1000000000000000)) (fun hb5 => ?_) (fun hb5 => ?_)
    · have hj4 := bif_t hj4 hb5
      refine sNo hf rfl rfl rfl (congrArg (fun b => some (Value.bool b)) hb5) rfl rfl rfl ?_; clear hf; intro a hf
      refine sNo hf rfl rfl rfl (congrArg (fun b => some (Value.bool b)) hb5) rfl rfl rfl ?_; clear hf; intro a hf
      refine sY hf hs rfl rfl rfl (Y_pickT rfl (congrArg (fun b => some (Value.bool b)) hb5) rfl) ?_; clear hf; intro a hf
      refine wpO_nil ?_
      refine wpL_nil (then_normal ?_)
      exact ⟨true, Option.some.inj hj4, (FrD.pick (FrD.pick (FrD.pick hf.none hf rfl) hf rfl) hf rfl), hs⟩
    · have hj4 := bif_f hj4 hb5
      refine sYg hf hs rfl rfl rfl (congrArg (fun b => some (Value.bool b)) hb5) rfl rfl rfl (Y_move rfl rfl) ?_; clear hf; intro a hf
      refine sYg hf hs rfl rfl rfl (congrArg (fun b => some (Value.bool b)) hb5) rfl rfl rfl (Y_eql rfl rfl rfl) ?_; clear hf; intro a hf
      refine sY hf hs rfl rfl rfl (Y_pickF rfl (congrArg (fun b => some (Value.bool b)) hb5) rfl) ?_; clear hf; intro a hf
      refine wpO_nil ?_
      refine wpL_nil (then_normal ?_)
      exact ⟨(p1_b == (-1000000000000000)), Option.some.inj hj4, (FrD.pick (FrD.pick (FrD.pick hf.none hf rfl) hf rfl) hf rfl), hs⟩
  · rintro a w ⟨b2, hr_, hf, hs⟩
    subst hr_
    try dsimp only at hm
    refine wpL_cond hf rfl (fun hb6 => ?_) (fun hb6 => ?_)
    · have hm := bif_t hm hb6
      refine wpL_seq ?_
      refine wpL_region ?_
      refine sY hf hs rfl rfl rfl (Y_assign rfl rfl) ?_; clear hf; intro a hf
      refine wpO_nil ?_
      obtain rfl := Option.some.inj hm
      refine wpL_ret (ret_tmp rfl hf rfl ?_)
      exact ⟨_, rfl, rfl, hs⟩
    · have hm := bif_f hm hb6
      refine wpL_skip ?_
      refine wpL_seq ?_
      refine wpL_region ?_
      refine sY hf hs rfl rfl rfl (Y_move rfl rfl) ?_; clear hf; intro a hf
      refine sY hf hs rfl rfl rfl (Y_move rfl rfl) ?_; clear hf; intro a hf
      refine sY hf hs rfl rfl rfl (Y_add rfl rfl rfl) ?_; clear hf; intro a hf
      refine sY hf hs rfl rfl rfl (Y_assign rfl rfl) ?_; clear hf; intro a hf
      refine wpO_nil ?_
      obtain rfl := Option.some.inj hm
      refine wpL_ret (ret_tmp rfl hf rfl ?_)
      exact ⟨_, rfl, rfl, hs⟩

set_option maxHeartbeats 2000000 in
set_option maxRecDepth 100000 in
theorem impl_starOf_ok (F : Nat) (p0 : List (List Int)) (A_p0_1 : Option Addr) (n_p0_1 c_p0_1 : Nat) (hn_p0_1 : n_p0_1 = p0.length) (r : List (List Int) × Bool) (W : World) (hm : impl_starOf F p0 = some r) (h_p0_1 : RdM W A_p0_1 p0) :
    Calls Try.prog 80 [.slice A_p0_1 n_p0_1 c_p0_1].toArray W fun e w' => ∃ v, e = .returned v ∧ ∃ A5035, ∃ n5036, ∃ c5037, ∃ vs5039, v = .tuple #[.slice A5035 n5036 c5037, .bool r.2] ∧ n5036 = r.1.length ∧ St [] W w' [.mat A5035 n5036 c5037 28 2 vs5039 r.1] := by
  subst hn_p0_1
  unfold impl_starOf at hm
  refine Calls.enter (N := 84) Try.func80 rfl rfl rfl (fun a hf => ?_)
  have hs := St.start W
  obtain ⟨w, hw_⟩ : ∃ w, w = W := ⟨W, rfl⟩
  clear hw_ w
  refine wpL_seq ?_
  refine wpL_region ?_
  refine sY hf hs rfl rfl rfl (Y_assign rfl rfl) ?_; clear hf; intro a hf
  refine sY hf hs rfl rfl rfl (Y_assign rfl rfl) ?_; clear hf; intro a hf
  refine wpO_nil ?_
  refine wpL_seq ?_
  refine wpL_region ?_
  refine sY hf hs rfl rfl rfl (Y_move rfl rfl) ?_; clear hf; intro a hf
  refine sY hf hs rfl rfl rfl (Y_move rfl rfl) ?_; clear hf; intro a hf
  refine sY hf hs rfl rfl rfl (Y_lenH rfl rfl el40 rfl) ?_; clear hf; intro a hf
  obtain ⟨r1, hc2, hm⟩ := bind_some hm
  refine sCall hf rfl rfl rfl rfl (cap := []) rfl rfl en90 (impl_unitMatrix_ok F (p0.length : Int) _ _ hc2) ?_; clear hf
  rintro _ w ⟨A3, n4, c5, vs7, rfl, hn6, hs1⟩ a hf
  have hs : St [] W w [.mat A3 n4 c5 28 2 vs7 r1] := hs.join hs1
  clear hs1
  obtain ⟨r8, hc9, hm⟩ := bind_some hm
  refine sCall hf rfl rfl rfl rfl (cap := []) rfl rfl en92 (impl_addMatrices_ok F p0 A_p0_1 p0.length c_p0_1 rfl r1 A3 n4 c5 hn6 _ _ hc9 (h_p0_1.at hs) (hs.rdM (i := 0) rfl)) ?_; clear hf
  rintro _ w ⟨A10, n11, c12, vs14, rfl, hn13, hs1⟩ a hf
  have hs : St [] W w [.mat A3 n4 c5 28 2 vs7 r1, .mat A10 n11 c12 28 2 vs14 r8] := hs.join hs1
  clear hs1
  refine sY hf hs rfl rfl rfl (Y_assign rfl rfl) ?_; clear hf; intro a hf
  refine wpO_nil ?_
  refine wpL_seq ?_
  refine wpL_seq ?_
  refine wpL_region ?_
  refine sY hf hs rfl rfl rfl (Y_move rfl rfl) ?_; clear hf; intro a hf
  refine sY hf hs rfl rfl rfl (Y_lenH rfl rfl el40 hn13) ?_; clear hf; intro a hf
  refine sY hf hs rfl rfl rfl (Y_move rfl rfl) ?_; clear hf; intro a hf
  refine wpO_nil ?_
  obtain ⟨r3746, hl3747, hm⟩ := bind_some hm
  refine wpL_block (fun a w => ∃ ms3744 : List (List Int), Sum.inr ms3744 = r3746 ∧ n11 = ms3744.length ∧ Fr a 84 [(4, .slice A10 n11 c12)] ∧ St [] W w [.mat A10 n11 c12 28 2 vs14 ms3744]) ?_ ?_
  · refine wpL_loop (fun n a w => ∃ ms2500 : List (List Int), ∃ x2502 : Int, impl_starOf_L16 F r8 n ms2500 x2502 = some r3746 ∧ n11 = ms2500.length ∧ Fr a 84 [(4, .slice A10 n11 c12), (15, .int .i64 (r8.length : Int)), (16, .int .i64 x2502)] ∧ St [] W w [.mat A10 n11 c12 28 2 vs14 ms2500]) F ?_ ?_ ?_
    · exact ⟨r8, 0, hl3747, hn13, (FrD.pick (FrD.pick (FrD.pick hf.none hf rfl) hf rfl) hf rfl), hs.sel [1] (by decide)⟩
    · rintro a w ⟨ms2500, x2502, h0_, -, -, -⟩; simp [impl_starOf_L16] at h0_
    · rintro n3749 a w ⟨ms2500, x2502, hm3748, hn2501, hf, hs⟩
      rw [impl_starOf_L16] at hm3748
      refine wpL_seq ?_
      refine wpL_region ?_
      refine sY hf hs rfl rfl rfl (Y_lss rfl rfl rfl) ?_; clear hf; intro a hf
      refine wpO_nil ?_
      refine wpL_seq ?_
      refine wpL_cond hf rfl (fun hb3750 => ?_) (fun hb3750 => ?_)
      · have hm3748 := bif_t hm3748 hb3750
        refine wpL_skip ?_
        refine wpL_seq ?_
        refine wpL_block0 ?_
        refine wpL_seq ?_
        refine wpL_region ?_
        refine sY hf hs rfl rfl rfl (Y_move rfl rfl) ?_; clear hf; intro a hf
        refine sY hf hs rfl rfl rfl (Y_assign rfl rfl) ?_; clear hf; intro a hf
        refine wpO_nil ?_
        refine wpL_seq ?_
        refine wpL_seq ?_
        refine wpL_region ?_
        refine sY hf hs rfl rfl rfl (Y_move rfl rfl) ?_; clear hf; intro a hf
        refine sY hf hs rfl rfl rfl (Y_move rfl rfl) ?_; clear hf; intro a hf
        obtain ⟨q3751, hi3752, hm3748⟩ := bind_some hm3748
        obtain ⟨hi3752a, hi3752b, hi3752q⟩ := idx_some hi3752
        obtain ⟨A3753, c3754, hv3755⟩ := hs.matRow (i := 0) rfl hi3752q
        refine sY hf hs rfl rfl rfl (Y_index rfl rfl rfl el40 ti28 (Rd.isAt (hs.rdV (i := 0) rfl) hv3755) hi3752a (ltn hn2501 hi3752b)) ?_; clear hf; intro a hf
        refine sY hf hs rfl rfl rfl (Y_load_rd rfl rfl (fun w hs => hs.rdV (i := 0) rfl) (at1 hv3755) ag28) ?_; clear hf; intro a hf
        refine sY hf hs rfl rfl rfl (Y_move rfl rfl) ?_; clear hf; intro a hf
        obtain ⟨q3756, hi3757, hm3748⟩ := bind_some hm3748
        obtain ⟨hi3757a, hi3757b, hi3757q⟩ := idx_some hi3757
        refine sY hf hs rfl rfl rfl (Y_index rfl rfl rfl el28 ti2 (Rd.isAt (hs.rdRow (i := 0) rfl ⟨hi3752q, hv3755⟩) (at1 (ints_at hi3757q))) hi3757a hi3757b) ?_; clear hf; intro a hf
        refine sY hf hs rfl rfl rfl (Y_load_rd rfl rfl (fun w hs => hs.rdRow (i := 0) rfl ⟨hi3752q, hv3755⟩) (at1 (ints_at hi3757q)) ag2) ?_; clear hf; intro a hf
        refine sY hf hs rfl rfl rfl (Y_gtr rfl rfl rfl) ?_; clear hf; intro a hf
        refine wpO_nil ?_
        refine wpL_cond hf rfl (fun hb3758 => ?_) (fun hb3758 => ?_)
        · have hm3748 := bif_t hm3748 hb3758
          refine wpL_seq ?_
          refine wpL_region ?_
          refine sY hf hs rfl rfl rfl (Y_assign rfl rfl) ?_; clear hf; intro a hf
          refine sY hf hs rfl rfl rfl (Y_assign rfl rfl) ?_; clear hf; intro a hf
          refine wpO_nil ?_
          have hs : St [] W _ [.mat A10 n11 c12 28 2 vs14 ms2500, .mat none 0 0 28 2 [] ([] : List (List Int))] := hs.addNilM 28 2
          obtain rfl := Option.some.inj hm3748
          try dsimp only at hm
          obtain rfl := Option.some.inj hm
          refine wpL_ret (Qb_ret (Ql_ret (Qb_ret (ret_tmp2 rfl hf rfl rfl ?_))))
          exact ⟨_, rfl, none, 0, 0, [], rfl, rfl, hs.sel [1] (by decide)⟩
        · have hm3748 := bif_f hm3748 hb3758
          refine wpL_skip ?_
          refine wpL_seq ?_
          refine wpL_region ?_
          refine sY hf hs rfl rfl rfl (Y_move rfl rfl) ?_; clear hf; intro a hf
          refine sY hf hs rfl rfl rfl (Y_lenH rfl rfl el40 hn2501) ?_; clear hf; intro a hf
          refine sY hf hs rfl rfl rfl (Y_move rfl rfl) ?_; clear hf; intro a hf
          refine wpO_nil ?_
          obtain ⟨r4683, hl4684, hm3748⟩ := bind_some hm3748
          refine wpL_block (fun a w => ∃ ms4681 : List (List Int), ms4681 = r4683 ∧ n11 = ms4681.length ∧ Fr a 84 [(4, .slice A10 n11 c12), (15, .int .i64 (r8.length : Int)), (16, .int .i64 x2502)] ∧ St [] W w [.mat A10 n11 c12 28 2 vs14 ms4681]) ?_ ?_
          · refine wpL_loop (fun n a w => ∃ ms4373 : List (List Int), ∃ x4375 : Int, impl_starOf_L20 F ms2500 x2502 n ms4373 x4375 = some r4683 ∧ n11 = ms4373.length ∧ Fr a 84 [(4, .slice A10 n11 c12), (5, .int .i64 x2502), (15, .int .i64 (r8.length : Int)), (16, .int .i64 x2502), (28, .int .i64 (ms2500.length : Int)), (29, .int .i64 x4375)] ∧ St [] W w [.mat A10 n11 c12 28 2 vs14 ms4373]) F ?_ ?_ ?_
            · exact ⟨ms2500, 0, hl4684, hn2501, (FrD.pick (FrD.pick (FrD.pick (FrD.pick (FrD.pick (FrD.pick hf.none hf rfl) hf rfl) hf rfl) hf rfl) hf rfl) hf rfl), hs⟩
            · rintro a w ⟨ms4373, x4375, h0_, -, -, -⟩; simp [impl_starOf_L20] at h0_
            · rintro n4686 a w ⟨ms4373, x4375, hm4685, hn4374, hf, hs⟩
              rw [impl_starOf_L20] at hm4685
              refine wpL_seq ?_
              refine wpL_region ?_
              refine sY hf hs rfl rfl rfl (Y_lss rfl rfl rfl) ?_; clear hf; intro a hf
              refine wpO_nil ?_
              refine wpL_seq ?_
              refine wpL_cond hf rfl (fun hb4687 => ?_) (fun hb4687 => ?_)
              · have hm4685 := bif_t hm4685 hb4687
                refine wpL_skip ?_
                refine wpL_seq ?_
                refine wpL_block0 ?_
                refine wpL_seq ?_
                refine wpL_region ?_
                refine sY hf hs rfl rfl rfl (Y_move rfl rfl) ?_; clear hf; intro a hf
                refine sY hf hs rfl rfl rfl (Y_assign rfl rfl) ?_; clear hf; intro a hf
                refine wpO_nil ?_
                refine wpL_seq ?_
                refine wpL_region ?_
                refine sY hf hs rfl rfl rfl (Y_move rfl rfl) ?_; clear hf; intro a hf
                refine sY hf hs rfl rfl rfl (Y_lenH rfl rfl el40 hn4374) ?_; clear hf; intro a hf
                refine sY hf hs rfl rfl rfl (Y_move rfl rfl) ?_; clear hf; intro a hf
                refine wpO_nil ?_
                obtain ⟨r4915, hl4916, hm4685⟩ := bind_some hm4685
                refine wpL_block (fun a w => ∃ ms4913 : List (List Int), ms4913 = r4915 ∧ n11 = ms4913.length ∧ Fr a 84 [(4, .slice A10 n11 c12), (5, .int .i64 x2502), (15, .int .i64 (r8.length : Int)), (16, .int .i64 x2502), (28, .int .i64 (ms2500.length : Int)), (29, .int .i64 x4375)] ∧ St [] W w [.mat A10 n11 c12 28 2 vs14 ms4913]) ?_ ?_
                · refine wpL_loop (fun n a w => ∃ ms4837 : List (List Int), ∃ x4839 : Int, impl_starOf_L21 F x2502 ms4373 x4375 n ms4837 x4839 = some r4915 ∧ n11 = ms4837.length ∧ Fr a 84 [(4, .slice A10 n11 c12), (5, .int .i64 x2502), (6, .int .i64 x4375), (15, .int .i64 (r8.length : Int)), (16, .int .i64 x2502), (28, .int .i64 (ms2500.length : Int)), (29, .int .i64 x4375), (33, .int .i64 (ms4373.length : Int)), (34, .int .i64 x4839)] ∧ St [] W w [.mat A10 n11 c12 28 2 vs14 ms4837]) F ?_ ?_ ?_
                  · exact ⟨ms4373, 0, hl4916, hn4374, (FrD.pick (FrD.pick (FrD.pick (FrD.pick (FrD.pick (FrD.pick (FrD.pick (FrD.pick (FrD.pick hf.none hf rfl) hf rfl) hf rfl) hf rfl) hf rfl) hf rfl) hf rfl) hf rfl) hf rfl), hs⟩
                  · rintro a w ⟨ms4837, x4839, h0_, -, -, -⟩; simp [impl_starOf_L21] at h0_
                  · rintro n4918 a w ⟨ms4837, x4839, hm4917, hn4838, hf, hs⟩
                    rw [impl_starOf_L21] at hm4917
                    refine wpL_seq ?_
                    refine wpL_region ?_
                    refine sY hf hs rfl rfl rfl (Y_lss rfl rfl rfl) ?_; clear hf; intro a hf
                    refine wpO_nil ?_
                    refine wpL_seq ?_
                    refine wpL_cond hf rfl (fun hb4919 => ?_) (fun hb4919 => ?_)
                    · have hm4917 := bif_t hm4917 hb4919
                      refine wpL_skip ?_
                      refine wpL_seq ?_
                      refine wpL_block0 ?_
                      refine wpL_seq ?_
                      refine wpL_region ?_
                      refine sY hf hs rfl rfl rfl (Y_move rfl rfl) ?_; clear hf; intro a hf
                      refine sY hf hs rfl rfl rfl (Y_assign rfl rfl) ?_; clear hf; intro a hf
                      refine wpO_nil ?_
                      refine wpL_drawM [.mat A10 n11 c12 28 2 vs14 ms4837] [29] (by kernel_rfl) hs ?_; clear hs; intro w hs
                      have hs0 : St [] W w [.mat A10 n11 c12 28 2 vs14 ms4837] := hs
                      refine mYp (i := 0) rfl (by kernel_rfl) (by kernel_rfl) hf rfl rfl rfl (fun _ => Y_move rfl rfl) ?_; clear hf; intro a hf
                      refine mYp (i := 1) rfl (by kernel_rfl) (by kernel_rfl) hf rfl rfl rfl (fun _ => Y_move rfl rfl) ?_; clear hf; intro a hf
                      obtain ⟨q4956, hi4957, hm4917⟩ := bind_some hm4917
                      obtain ⟨hi4957a, hi4957b, hi4957q⟩ := idx_some hi4957
                      obtain ⟨A4958, c4959, hv4960⟩ := hs.matRow (i := 0) rfl hi4957q
                      refine mYp (i := 2) rfl (by kernel_rfl) (by kernel_rfl) hf rfl rfl rfl (fun _ => Y_index rfl rfl rfl el40 ti28 (Rd.isAt (hs.rdV (i := 0) rfl) hv4960) hi4957a (ltn hn4838 hi4957b)) ?_; clear hf; intro a hf
                      refine mY (i := 3) [[]] rfl (by kernel_rfl) (by kernel_rfl) hf hs0 rfl rfl rfl (Y_load_rd rfl rfl (fun w hs => hs.rdV (i := 0) rfl) (at1 hv4960) ag28) ?_; clear hf; intro a hf
                      refine mYp (i := 4) rfl (by kernel_rfl) (by kernel_rfl) hf rfl rfl rfl (fun _ => Y_move rfl rfl) ?_; clear hf; intro a hf
                      refine mYp (i := 5) rfl (by kernel_rfl) (by kernel_rfl) hf rfl rfl rfl (fun _ => Y_move rfl rfl) ?_; clear hf; intro a hf
                      refine mYp (i := 6) rfl (by kernel_rfl) (by kernel_rfl) hf rfl rfl rfl (fun _ => Y_move rfl rfl) ?_; clear hf; intro a hf
                      obtain ⟨q4961, hi4962, hm4917⟩ := bind_some hm4917
                      obtain ⟨hi4962a, hi4962b, hi4962q⟩ := idx_some hi4962
                      obtain ⟨A4963, c4964, hv4965⟩ := hs.matRow (i := 0) rfl hi4962q
                      refine mYp (i := 7) rfl (by kernel_rfl) (by kernel_rfl) hf rfl rfl rfl (fun _ => Y_index rfl rfl rfl el40 ti28 (Rd.isAt (hs.rdV (i := 0) rfl) hv4965) hi4962a (ltn hn4838 hi4962b)) ?_; clear hf; intro a hf
                      refine mY (i := 8) [[]] rfl (by kernel_rfl) (by kernel_rfl) hf hs0 rfl rfl rfl (Y_load_rd rfl rfl (fun w hs => hs.rdV (i := 0) rfl) (at1 hv4965) ag28) ?_; clear hf; intro a hf
                      refine mYp (i := 9) rfl (by kernel_rfl) (by kernel_rfl) hf rfl rfl rfl (fun _ => Y_move rfl rfl) ?_; clear hf; intro a hf
                      obtain ⟨q4966, hi4967, hm4917⟩ := bind_some hm4917
                      obtain ⟨hi4967a, hi4967b, hi4967q⟩ := idx_some hi4967
                      refine mYp (i := 10) rfl (by kernel_rfl) (by kernel_rfl) hf rfl rfl rfl (fun _ => Y_index rfl rfl rfl el28 ti2 (Rd.isAt (hs.rdRow (i := 0) rfl ⟨hi4962q, hv4965⟩) (at1 (ints_at hi4967q))) hi4967a hi4967b) ?_; clear hf; intro a hf
                      refine mY (i := 11) [[]] rfl (by kernel_rfl) (by kernel_rfl) hf hs0 rfl rfl rfl (Y_load_rd rfl rfl (fun w hs => hs.rdRow (i := 0) rfl ⟨hi4962q, hv4965⟩) (at1 (ints_at hi4967q)) ag2) ?_; clear hf; intro a hf
                      refine mYp (i := 12) rfl (by kernel_rfl) (by kernel_rfl) hf rfl rfl rfl (fun _ => Y_move rfl rfl) ?_; clear hf; intro a hf
                      refine mYp (i := 13) rfl (by kernel_rfl) (by kernel_rfl) hf rfl rfl rfl (fun _ => Y_move rfl rfl) ?_; clear hf; intro a hf
                      obtain ⟨q4968, hi4969, hm4917⟩ := bind_some hm4917
                      obtain ⟨hi4969a, hi4969b, hi4969q⟩ := idx_some hi4969
                      obtain ⟨A4970, c4971, hv4972⟩ := hs.matRow (i := 0) rfl hi4969q
                      refine mYp (i := 14) rfl (by kernel_rfl) (by kernel_rfl) hf rfl rfl rfl (fun _ => Y_index rfl rfl rfl el40 ti28 (Rd.isAt (hs.rdV (i := 0) rfl) hv4972) hi4969a (ltn hn4838 hi4969b)) ?_; clear hf; intro a hf
                      refine mY (i := 15) [[]] rfl (by kernel_rfl) (by kernel_rfl) hf hs0 rfl rfl rfl (Y_load_rd rfl rfl (fun w hs => hs.rdV (i := 0) rfl) (at1 hv4972) ag28) ?_; clear hf; intro a hf
                      refine mYp (i := 16) rfl (by kernel_rfl) (by kernel_rfl) hf rfl rfl rfl (fun _ => Y_move rfl rfl) ?_; clear hf; intro a hf
                      obtain ⟨q4973, hi4974, hm4917⟩ := bind_some hm4917
                      obtain ⟨hi4974a, hi4974b, hi4974q⟩ := idx_some hi4974
                      refine mYp (i := 17) rfl (by kernel_rfl) (by kernel_rfl) hf rfl rfl rfl (fun _ => Y_index rfl rfl rfl el28 ti2 (Rd.isAt (hs.rdRow (i := 0) rfl ⟨hi4969q, hv4972⟩) (at1 (ints_at hi4974q))) hi4974a hi4974b) ?_; clear hf; intro a hf
                      refine mY (i := 18) [[]] rfl (by kernel_rfl) (by kernel_rfl) hf hs0 rfl rfl rfl (Y_load_rd rfl rfl (fun w hs => hs.rdRow (i := 0) rfl ⟨hi4969q, hv4972⟩) (at1 (ints_at hi4974q)) ag2) ?_; clear hf; intro a hf
                      refine mYp (i := 19) rfl (by kernel_rfl) (by kernel_rfl) hf rfl rfl rfl (fun _ => Y_move rfl rfl) ?_; clear hf; intro a hf
                      refine mYp (i := 20) rfl (by kernel_rfl) (by kernel_rfl) hf rfl rfl rfl (fun _ => Y_move rfl rfl) ?_; clear hf; intro a hf
                      obtain ⟨q4975, hi4976, hm4917⟩ := bind_some hm4917
                      obtain ⟨hi4976a, hi4976b, hi4976q⟩ := idx_some hi4976
                      obtain ⟨A4977, c4978, hv4979⟩ := hs.matRow (i := 0) rfl hi4976q
                      refine mYp (i := 21) rfl (by kernel_rfl) (by kernel_rfl) hf rfl rfl rfl (fun _ => Y_index rfl rfl rfl el40 ti28 (Rd.isAt (hs.rdV (i := 0) rfl) hv4979) hi4976a (ltn hn4838 hi4976b)) ?_; clear hf; intro a hf
                      refine mY (i := 22) [[]] rfl (by kernel_rfl) (by kernel_rfl) hf hs0 rfl rfl rfl (Y_load_rd rfl rfl (fun w hs => hs.rdV (i := 0) rfl) (at1 hv4979) ag28) ?_; clear hf; intro a hf
                      refine mYp (i := 23) rfl (by kernel_rfl) (by kernel_rfl) hf rfl rfl rfl (fun _ => Y_move rfl rfl) ?_; clear hf; intro a hf
                      obtain ⟨q4980, hi4981, hm4917⟩ := bind_some hm4917
                      obtain ⟨hi4981a, hi4981b, hi4981q⟩ := idx_some hi4981
                      refine mYp (i := 24) rfl (by kernel_rfl) (by kernel_rfl) hf rfl rfl rfl (fun _ => Y_index rfl rfl rfl el28 ti2 (Rd.isAt (hs.rdRow (i := 0) rfl ⟨hi4976q, hv4979⟩) (at1 (ints_at hi4981q))) hi4981a hi4981b) ?_; clear hf; intro a hf
                      refine mY (i := 25) [[]] rfl (by kernel_rfl) (by kernel_rfl) hf hs0 rfl rfl rfl (Y_load_rd rfl rfl (fun w hs => hs.rdRow (i := 0) rfl ⟨hi4976q, hv4979⟩) (at1 (ints_at hi4981q)) ag2) ?_; clear hf; intro a hf
                      refine mRun (i := 26) rfl (by kernel_rfl) ?_
                      obtain ⟨r4982, hc4983, hm4917⟩ := bind_some hm4917
                      refine sCall hf rfl rfl rfl rfl (cap := []) rfl rfl en145 (impl_times_ok F q4973 q4980 _ _ hc4983) ?_; clear hf
                      rintro _ w ⟨rfl, hs1⟩ a hf
                      have hs : St [] W w [.mat A10 n11 c12 28 2 vs14 ms4837] := hs.ext hs1.below
                      clear hs1
                      have hs0 : St [] W w [.mat A10 n11 c12 28 2 vs14 ms4837] := hs
                      refine wpO_nil ⟨Or.inr (fun _ => hs0), ?_⟩
                      refine mYp (i := 27) rfl (by kernel_rfl) (by kernel_rfl) hf rfl rfl rfl (fun _ => Y_max rfl rfl rfl) ?_; clear hf; intro a hf
                      obtain ⟨q4984, hi4985, hm4917⟩ := bind_some hm4917
                      obtain ⟨hi4985a, hi4985b, hi4985q⟩ := idx_some hi4985
                      refine mYp (i := 28) rfl (by kernel_rfl) (by kernel_rfl) hf rfl rfl rfl (fun _ => Y_index rfl rfl rfl el28 ti2 (Rd.isAt (hs.rdRow (i := 0) rfl ⟨hi4957q, hv4960⟩) (at1 (ints_at hi4985q))) hi4985a hi4985b) ?_; clear hf; intro a hf
                      refine mRun (i := 29) rfl (by kernel_rfl) ?_
                      obtain ⟨xs4986, hu4988, hm4917⟩ := bind_some hm4917
                      obtain ⟨ms4987, hu4989, hm4917⟩ := bind_some hm4917
                      refine sStoreM (i := 0) (k := x4375) hf hs rfl rfl rfl rfl rfl rfl hi4957q hv4960 rfl hu4988 hu4989 ti2 ?_; clear hs; intro w hs
                      obtain ⟨hq4990, hv4991⟩ := rowUpd hu4988 hu4989 hv4960
                      have hs : St [] W w [.mat A10 n11 c12 28 2 vs14 ms4987] := hs
                      refine wpO_nil ⟨Or.inl (by decide), ?_⟩
                      refine mDone (by kernel_rfl) ?_
                      clear hs0
                      refine wpL_nil (Qb_normal ?_)
                      refine wpL_region ?_
                      refine sY hf hs rfl rfl rfl (Y_add rfl rfl rfl) ?_; clear hf; intro a hf
                      refine sY hf hs rfl rfl rfl (Y_move rfl rfl) ?_; clear hf; intro a hf
                      refine wpO_nil ?_
                      refine wpL_nil (Ql_normal ?_)
                      exact ⟨ms4987, (IntKind.i64.wrap (x4839 + 1)), hm4917, ((hn4838).trans (upd_len hu4989).symm), (FrD.pick (FrD.pick (FrD.pick (FrD.pick (FrD.pick (FrD.pick (FrD.pick (FrD.pick (FrD.pick hf.none hf rfl) hf rfl) hf rfl) hf rfl) hf rfl) hf rfl) hf rfl) hf rfl) hf rfl), hs⟩
                    · have hm4917 := bif_f hm4917 hb4919
                      refine wpL_exit (Ql_exit (Qb_exit ?_))
                      exact ⟨ms4837, Option.some.inj hm4917, hn4838, (FrD.pick (FrD.pick (FrD.pick (FrD.pick (FrD.pick (FrD.pick hf.none hf rfl) hf rfl) hf rfl) hf rfl) hf rfl) hf rfl), hs⟩
                · rintro a w ⟨ms4913, hr_, hn4914, hf, hs⟩
                  subst hr_
                  try dsimp only at hm4685
                  refine wpL_nil (Qb_normal ?_)
                  refine wpL_region ?_
                  refine sY hf hs rfl rfl rfl (Y_add rfl rfl rfl) ?_; clear hf; intro a hf
                  refine sY hf hs rfl rfl rfl (Y_move rfl rfl) ?_; clear hf; intro a hf
                  refine wpO_nil ?_
                  refine wpL_nil (Ql_normal ?_)
                  exact ⟨ms4913, (IntKind.i64.wrap (x4375 + 1)), hm4685, hn4914, (FrD.pick (FrD.pick (FrD.pick (FrD.pick (FrD.pick (FrD.pick hf.none hf rfl) hf rfl) hf rfl) hf rfl) hf rfl) hf rfl), hs⟩
              · have hm4685 := bif_f hm4685 hb4687
                refine wpL_exit (Ql_exit (Qb_exit ?_))
                exact ⟨ms4373, Option.some.inj hm4685, hn4374, (FrD.pick (FrD.pick (FrD.pick hf.none hf rfl) hf rfl) hf rfl), hs⟩
          · rintro a w ⟨ms4681, hr_, hn4682, hf, hs⟩
            subst hr_
            try dsimp only at hm3748
            refine wpL_nil (Qb_normal ?_)
            refine wpL_region ?_
            refine sY hf hs rfl rfl rfl (Y_add rfl rfl rfl) ?_; clear hf; intro a hf
            refine sY hf hs rfl rfl rfl (Y_move rfl rfl) ?_; clear hf; intro a hf
            refine wpO_nil ?_
            refine wpL_nil (Ql_normal ?_)
            exact ⟨ms4681, (IntKind.i64.wrap (x2502 + 1)), hm3748, hn4682, (FrD.pick (FrD.pick (FrD.pick hf.none hf rfl) hf rfl) hf rfl), hs⟩
      · have hm3748 := bif_f hm3748 hb3750
        refine wpL_exit (Ql_exit (Qb_exit ?_))
        exact ⟨ms2500, Option.some.inj hm3748, hn2501, (FrD.pick hf.none hf rfl), hs⟩
  · rintro a w ⟨ms3744, hr_, hn3745, hf, hs⟩
    subst hr_
    try dsimp only at hm
    refine wpL_seq ?_
    refine wpL_seq ?_
    refine wpL_region ?_
    refine sY hf hs rfl rfl rfl (Y_move rfl rfl) ?_; clear hf; intro a hf
    refine sY hf hs rfl rfl rfl (Y_lenH rfl rfl el40 hn3745) ?_; clear hf; intro a hf
    refine sY hf hs rfl rfl rfl (Y_move rfl rfl) ?_; clear hf; intro a hf
    refine wpO_nil ?_
    obtain ⟨r5021, hl5022, hm⟩ := bind_some hm
    refine wpL_block (fun a w => Sum.inr () = r5021 ∧ Fr a 84 [(4, .slice A10 n11 c12)] ∧ St [] W w [.mat A10 n11 c12 28 2 vs14 ms3744]) ?_ ?_
    · refine wpL_loop (fun n a w => ∃ x5011 : Int, impl_starOf_L22 F ms3744 n x5011 = some r5021 ∧ Fr a 84 [(4, .slice A10 n11 c12), (70, .int .i64 (ms3744.length : Int)), (71, .int .i64 x5011)] ∧ St [] W w [.mat A10 n11 c12 28 2 vs14 ms3744]) F ?_ ?_ ?_
      · exact ⟨0, hl5022, (FrD.pick (FrD.pick (FrD.pick hf.none hf rfl) hf rfl) hf rfl), hs⟩
      · rintro a w ⟨x5011, h0_, -, -⟩; simp [impl_starOf_L22] at h0_
      · rintro n5024 a w ⟨x5011, hm5023, hf, hs⟩
        rw [impl_starOf_L22] at hm5023
        refine wpL_seq ?_
        refine wpL_region ?_
        refine sY hf hs rfl rfl rfl (Y_lss rfl rfl rfl) ?_; clear hf; intro a hf
        refine wpO_nil ?_
        refine wpL_seq ?_
        refine wpL_cond hf rfl (fun hb5025 => ?_) (fun hb5025 => ?_)
        · have hm5023 := bif_t hm5023 hb5025
          refine wpL_skip ?_
          refine wpL_seq ?_
          refine wpL_block0 ?_
          refine wpL_seq ?_
          refine wpL_region ?_
          refine sY hf hs rfl rfl rfl (Y_move rfl rfl) ?_; clear hf; intro a hf
          refine sY hf hs rfl rfl rfl (Y_assign rfl rfl) ?_; clear hf; intro a hf
          refine wpO_nil ?_
          refine wpL_seq ?_
          refine wpL_region ?_
          refine sY hf hs rfl rfl rfl (Y_move rfl rfl) ?_; clear hf; intro a hf
          refine sY hf hs rfl rfl rfl (Y_move rfl rfl) ?_; clear hf; intro a hf
          obtain ⟨q5026, hi5027, hm5023⟩ := bind_some hm5023
          obtain ⟨hi5027a, hi5027b, hi5027q⟩ := idx_some hi5027
          obtain ⟨A5028, c5029, hv5030⟩ := hs.matRow (i := 0) rfl hi5027q
          refine sY hf hs rfl rfl rfl (Y_index rfl rfl rfl el40 ti28 (Rd.isAt (hs.rdV (i := 0) rfl) hv5030) hi5027a (ltn hn3745 hi5027b)) ?_; clear hf; intro a hf
          refine sY hf hs rfl rfl rfl (Y_load_rd rfl rfl (fun w hs => hs.rdV (i := 0) rfl) (at1 hv5030) ag28) ?_; clear hf; intro a hf
          refine sY hf hs rfl rfl rfl (Y_move rfl rfl) ?_; clear hf; intro a hf
          obtain ⟨q5031, hi5032, hm5023⟩ := bind_some hm5023
          obtain ⟨hi5032a, hi5032b, hi5032q⟩ := idx_some hi5032
          refine sY hf hs rfl rfl rfl (Y_index rfl rfl rfl el28 ti2 (Rd.isAt (hs.rdRow (i := 0) rfl ⟨hi5027q, hv5030⟩) (at1 (ints_at hi5032q))) hi5032a hi5032b) ?_; clear hf; intro a hf
          refine sY hf hs rfl rfl rfl (Y_load_rd rfl rfl (fun w hs => hs.rdRow (i := 0) rfl ⟨hi5027q, hv5030⟩) (at1 (ints_at hi5032q)) ag2) ?_; clear hf; intro a hf
          refine sY hf hs rfl rfl rfl (Y_gtr rfl rfl rfl) ?_; clear hf; intro a hf
          refine wpO_nil ?_
          refine wpL_cond hf rfl (fun hb5033 => ?_) (fun hb5033 => ?_)
          · have hm5023 := bif_t hm5023 hb5033
            refine wpL_seq ?_
            refine wpL_region ?_
            refine sY hf hs rfl rfl rfl (Y_assign rfl rfl) ?_; clear hf; intro a hf
            refine sY hf hs rfl rfl rfl (Y_assign rfl rfl) ?_; clear hf; intro a hf
            refine wpO_nil ?_
            have hs : St [] W _ [.mat A10 n11 c12 28 2 vs14 ms3744, .mat none 0 0 28 2 [] ([] : List (List Int))] := hs.addNilM 28 2
            obtain rfl := Option.some.inj hm5023
            try dsimp only at hm
            obtain rfl := Option.some.inj hm
            refine wpL_ret (Qb_ret (Ql_ret (Qb_ret (ret_tmp2 rfl hf rfl rfl ?_))))
            exact ⟨_, rfl, none, 0, 0, [], rfl, rfl, hs.sel [1] (by decide)⟩
          · have hm5023 := bif_f hm5023 hb5033
            refine wpL_skip ?_
            refine wpL_nil (Qb_normal ?_)
            refine wpL_region ?_
            refine sY hf hs rfl rfl rfl (Y_add rfl rfl rfl) ?_; clear hf; intro a hf
            refine sY hf hs rfl rfl rfl (Y_move rfl rfl) ?_; clear hf; intro a hf
            refine wpO_nil ?_
            refine wpL_nil (Ql_normal ?_)
            exact ⟨(IntKind.i64.wrap (x5011 + 1)), hm5023, (FrD.pick (FrD.pick (FrD.pick hf.none hf rfl) hf rfl) hf rfl), hs⟩
        · have hm5023 := bif_f hm5023 hb5025
          refine wpL_exit (Ql_exit (Qb_exit ?_))
          exact ⟨Option.some.inj hm5023, (FrD.pick hf.none hf rfl), hs⟩
    · rintro a w ⟨hr_, hf, hs⟩
      subst hr_
      try dsimp only at hm
      refine wpL_seq ?_
      refine wpL_region ?_
      refine sY hf hs rfl rfl rfl (Y_move rfl rfl) ?_; clear hf; intro a hf
      refine sY hf hs rfl rfl rfl (Y_assign rfl rfl) ?_; clear hf; intro a hf
      refine sY hf hs rfl rfl rfl (Y_assign rfl rfl) ?_; clear hf; intro a hf
      refine wpO_nil ?_
      obtain rfl := Option.some.inj hm
      refine wpL_ret (ret_tmp2 rfl hf rfl rfl ?_)
      exact ⟨_, rfl, A10, n11, c12, vs14, rfl, hn3745, hs⟩

set_option maxRecDepth 100000 in
theorem impl_timesVector_ok (F : Nat) (p0_a : List (List Int)) (A_p0_a_1 : Option Addr) (n_p0_a_1 c_p0_a_1 : Nat) (hn_p0_a_1 : n_p0_a_1 = p0_a.length) (p1_x : List Int) (A_p1_x_1 : Option Addr) (n_p1_x_1 c_p1_x_1 : Nat) (hn_p1_x_1 : n_p1_x_1 = p1_x.length) (r : List Int) (W : World) (hm : impl_timesVector F p0_a p1_x = some r) (h_p0_a_1 : RdM W A_p0_a_1 p0_a) (h_p1_x_1 : Rd W A_p1_x_1 (ints p1_x)) :
    Calls Try.prog 137 [.slice A_p0_a_1 n_p0_a_1 c_p0_a_1, .slice A_p1_x_1 n_p1_x_1 c_p1_x_1].toArray W fun e w' => ∃ v, e = .returned v ∧ ∃ A488, ∃ n489, ∃ c490, v = .slice A488 n489 c490 ∧ n489 = r.length ∧ St [] W w' [.row A488 n489 c490 2 1 (ints r)] := by
  subst hn_p0_a_1
  subst hn_p1_x_1
  unfold impl_timesVector at hm
  refine Calls.enter (N := 47) Try.func137 rfl rfl rfl (fun a hf => ?_)
  have hs := St.start W
  obtain ⟨w, hw_⟩ : ∃ w, w = W := ⟨W, rfl⟩
  clear hw_ w
  refine wpL_seq ?_
  refine wpL_region ?_
  refine sY hf hs rfl rfl rfl (Y_assign rfl rfl) ?_; clear hf; intro a hf
  refine wpO_nil ?_
  refine wpL_seq ?_
  refine wpL_region ?_
  refine sY hf hs rfl rfl rfl (Y_move rfl rfl) ?_; clear hf; intro a hf
  refine sY hf hs rfl rfl rfl (Y_lenH rfl rfl el40 rfl) ?_; clear hf; intro a hf
  obtain ⟨xs3, hk2, hm⟩ := bind_some hm
  refine sMakeL (enc := ints) hf hs rfl rfl rfl rfl rfl hk2 el28 ti2 rfl ints_made ?_; clear hf hs; intro a w A1 hs hf
  have hs : St [] W w [.row A1 xs3.length xs3.length 2 1 (ints xs3)] := hs
  refine sY hf hs rfl rfl rfl (Y_assign rfl rfl) ?_; clear hf; intro a hf
  refine wpO_nil ?_
  refine wpL_seq ?_
  refine wpL_seq ?_
  refine wpL_region ?_
  refine sY hf hs rfl rfl rfl (Y_move rfl rfl) ?_; clear hf; intro a hf
  refine sY hf hs rfl rfl rfl (Y_lenH rfl rfl el40 rfl) ?_; clear hf; intro a hf
  refine sY hf hs rfl rfl rfl (Y_move rfl rfl) ?_; clear hf; intro a hf
  refine wpO_nil ?_
  obtain ⟨r366, hl367, hm⟩ := bind_some hm
  refine wpL_block (fun a w => ∃ xs364 : List Int, xs364 = r366 ∧ xs3.length = xs364.length ∧ Fr a 47 [(5, .slice A1 xs3.length xs3.length)] ∧ St [] W w [.row A1 xs3.length xs3.length 2 1 (ints xs364)]) ?_ ?_
  · refine wpL_loop (fun n a w => ∃ xs243 : List Int, ∃ x245 : Int, impl_timesVector_L4 F p0_a p1_x n xs243 x245 = some r366 ∧ xs3.length = xs243.length ∧ Fr a 47 [(1, .slice A_p1_x_1 p1_x.length c_p1_x_1), (5, .slice A1 xs3.length xs3.length), (13, .slice A_p0_a_1 p0_a.length c_p0_a_1), (14, .int .i64 (p0_a.length : Int)), (15, .int .i64 x245)] ∧ St [] W w [.row A1 xs3.length xs3.length 2 1 (ints xs243)]) F ?_ ?_ ?_
    · exact ⟨xs3, 0, hl367, rfl, (FrD.pick (FrD.pick (FrD.pick (FrD.pick (FrD.pick hf.none hf rfl) hf rfl) hf rfl) hf rfl) hf rfl), hs⟩
    · rintro a w ⟨xs243, x245, h0_, -, -, -⟩; simp [impl_timesVector_L4] at h0_
    · rintro n369 a w ⟨xs243, x245, hm368, hn244, hf, hs⟩
      rw [impl_timesVector_L4] at hm368
      refine wpL_seq ?_
      refine wpL_region ?_
      refine sY hf hs rfl rfl rfl (Y_lss rfl rfl rfl) ?_; clear hf; intro a hf
      refine wpO_nil ?_
      refine wpL_seq ?_
      refine wpL_cond hf rfl (fun hb370 => ?_) (fun hb370 => ?_)
      · have hm368 := bif_t hm368 hb370
        refine wpL_skip ?_
        refine wpL_seq ?_
        refine wpL_block0 ?_
        refine wpL_seq ?_
        refine wpL_region ?_
        refine sY hf hs rfl rfl rfl (Y_move rfl rfl) ?_; clear hf; intro a hf
        obtain ⟨q371, hi372, hm368⟩ := bind_some hm368
        obtain ⟨hi372a, hi372b, hi372q⟩ := idx_some hi372
        obtain ⟨vs373, hv374, hr375⟩ := id h_p0_a_1
        obtain ⟨A376, c377, hv378, hR379⟩ := hr375 _ _ hi372q
        refine sY hf hs rfl rfl rfl (Y_index rfl rfl rfl el40 ti28 (Rd.isAt hv374 hv378) hi372a hi372b) ?_; clear hf; intro a hf
        refine sY hf hs rfl rfl rfl (Y_load_rd rfl rfl (fun w hs => hv374.at hs) (at1 hv378) ag28) ?_; clear hf; intro a hf
        refine sY hf hs rfl rfl rfl (Y_assign rfl rfl) ?_; clear hf; intro a hf
        refine sY hf hs rfl rfl rfl (Y_assign rfl rfl) ?_; clear hf; intro a hf
        refine wpO_nil ?_
        refine wpL_seq ?_
        refine wpL_region ?_
        refine sY hf hs rfl rfl rfl (Y_move rfl rfl) ?_; clear hf; intro a hf
        refine sY hf hs rfl rfl rfl (Y_move rfl rfl) ?_; clear hf; intro a hf
        obtain ⟨q380, hi381, hm368⟩ := bind_some hm368
        obtain ⟨hi381a, hi381b, hi381q⟩ := idx_some hi381
        refine sY hf hs rfl rfl rfl (Y_index rfl rfl rfl el28 ti2 (Rd.isAt (hs.rd (i := 0) rfl) (at1 (ints_at hi381q))) hi381a (ltn hn244 hi381b)) ?_; clear hf; intro a hf
        obtain ⟨xs382, hu383, hm368⟩ := bind_some hm368
        refine sStoreL (i := 0) (us := [.int .i64 (-1000000000000000)]) (enc := ints) hf hs rfl rfl rfl rfl rfl rfl hn244 hu383 ti2 rfl rfl rfl rfl rfl ints_len1 (ints_set (-1000000000000000)) ?_; clear hs; intro w hs
        have hs : St [] W w [.row A1 xs3.length xs3.length 2 1 (ints xs382)] := hs
        refine wpO_nil ?_
        refine wpL_seq ?_
        refine wpL_region ?_
        refine sY hf hs rfl rfl rfl (Y_move rfl rfl) ?_; clear hf; intro a hf
        refine sY hf hs rfl rfl rfl (Y_lenH rfl rfl el28 rfl) ?_; clear hf; intro a hf
        refine sY hf hs rfl rfl rfl (Y_move rfl rfl) ?_; clear hf; intro a hf
        refine wpO_nil ?_
        obtain ⟨r461, hl462, hm368⟩ := bind_some hm368
        refine wpL_block (fun a w => ∃ xs459 : List Int, xs459 = r461 ∧ xs3.length = xs459.length ∧ Fr a 47 [(1, .slice A_p1_x_1 p1_x.length c_p1_x_1), (5, .slice A1 xs3.length xs3.length), (13, .slice A_p0_a_1 p0_a.length c_p0_a_1), (14, .int .i64 (p0_a.length : Int)), (15, .int .i64 x245)] ∧ St [] W w [.row A1 xs3.length xs3.length 2 1 (ints xs459)]) ?_ ?_
        · refine wpL_loop (fun n a w => ∃ xs433 : List Int, ∃ x435 : Int, impl_timesVector_L5 F p1_x x245 q371 n xs433 x435 = some r461 ∧ xs3.length = xs433.length ∧ Fr a 47 [(1, .slice A_p1_x_1 p1_x.length c_p1_x_1), (5, .slice A1 xs3.length xs3.length), (6, .int .i64 x245), (13, .slice A_p0_a_1 p0_a.length c_p0_a_1), (14, .int .i64 (p0_a.length : Int)), (15, .int .i64 x245), (23, .slice A376 q371.length c377), (24, .int .i64 (q371.length : Int)), (25, .int .i64 x435)] ∧ St [] W w [.row A1 xs3.length xs3.length 2 1 (ints xs433)]) F ?_ ?_ ?_
          · exact ⟨xs382, 0, hl462, ((hn244).trans (upd_len hu383).symm), (FrD.pick (FrD.pick (FrD.pick (FrD.pick (FrD.pick (FrD.pick (FrD.pick (FrD.pick (FrD.pick hf.none hf rfl) hf rfl) hf rfl) hf rfl) hf rfl) hf rfl) hf rfl) hf rfl) hf rfl), hs⟩
          · rintro a w ⟨xs433, x435, h0_, -, -, -⟩; simp [impl_timesVector_L5] at h0_
          · rintro n464 a w ⟨xs433, x435, hm463, hn434, hf, hs⟩
            rw [impl_timesVector_L5] at hm463
            refine wpL_seq ?_
            refine wpL_region ?_
            refine sY hf hs rfl rfl rfl (Y_lss rfl rfl rfl) ?_; clear hf; intro a hf
            refine wpO_nil ?_
            refine wpL_seq ?_
            refine wpL_cond hf rfl (fun hb465 => ?_) (fun hb465 => ?_)
            · have hm463 := bif_t hm463 hb465
              refine wpL_skip ?_
              refine wpL_seq ?_
              refine wpL_block0 ?_
              refine wpL_seq ?_
              refine wpL_region ?_
              refine sY hf hs rfl rfl rfl (Y_move rfl rfl) ?_; clear hf; intro a hf
              obtain ⟨q466, hi467, hm463⟩ := bind_some hm463
              obtain ⟨hi467a, hi467b, hi467q⟩ := idx_some hi467
              refine sY hf hs rfl rfl rfl (Y_index rfl rfl rfl el28 ti2 (Rd.isAt (hR379.at hs) (at1 (ints_at hi467q))) hi467a hi467b) ?_; clear hf; intro a hf
              refine sY hf hs rfl rfl rfl (Y_load_rd rfl rfl (fun w hs => hR379.at hs) (at1 (ints_at hi467q)) ag2) ?_; clear hf; intro a hf
              refine sY hf hs rfl rfl rfl (Y_assign rfl rfl) ?_; clear hf; intro a hf
              refine sY hf hs rfl rfl rfl (Y_assign rfl rfl) ?_; clear hf; intro a hf
              refine wpO_nil ?_
              refine wpL_drawM [.row A1 xs3.length xs3.length 2 1 (ints xs433)] [14] (by kernel_rfl) hs ?_; clear hs; intro w hs
              have hs0 : St [] W w [.row A1 xs3.length xs3.length 2 1 (ints xs433)] := hs
              refine mYp (i := 0) rfl (by kernel_rfl) (by kernel_rfl) hf rfl rfl rfl (fun _ => Y_move rfl rfl) ?_; clear hf; intro a hf
              refine mYp (i := 1) rfl (by kernel_rfl) (by kernel_rfl) hf rfl rfl rfl (fun _ => Y_move rfl rfl) ?_; clear hf; intro a hf
              refine mYp (i := 2) rfl (by kernel_rfl) (by kernel_rfl) hf rfl rfl rfl (fun _ => Y_move rfl rfl) ?_; clear hf; intro a hf
              refine mYp (i := 3) rfl (by kernel_rfl) (by kernel_rfl) hf rfl rfl rfl (fun _ => Y_move rfl rfl) ?_; clear hf; intro a hf
              obtain ⟨q478, hi479, hm463⟩ := bind_some hm463
              obtain ⟨hi479a, hi479b, hi479q⟩ := idx_some hi479
              refine mYp (i := 4) rfl (by kernel_rfl) (by kernel_rfl) hf rfl rfl rfl (fun _ => Y_index rfl rfl rfl el28 ti2 (Rd.isAt (hs.rd (i := 0) rfl) (at1 (ints_at hi479q))) hi479a (ltn hn434 hi479b)) ?_; clear hf; intro a hf
              refine mY (i := 5) [[]] rfl (by kernel_rfl) (by kernel_rfl) hf hs0 rfl rfl rfl (Y_load_rd rfl rfl (fun w hs => hs.rd (i := 0) rfl) (at1 (ints_at hi479q)) ag2) ?_; clear hf; intro a hf
              refine mYp (i := 6) rfl (by kernel_rfl) (by kernel_rfl) hf rfl rfl rfl (fun _ => Y_move rfl rfl) ?_; clear hf; intro a hf
              refine mYp (i := 7) rfl (by kernel_rfl) (by kernel_rfl) hf rfl rfl rfl (fun _ => Y_move rfl rfl) ?_; clear hf; intro a hf
              refine mYp (i := 8) rfl (by kernel_rfl) (by kernel_rfl) hf rfl rfl rfl (fun _ => Y_move rfl rfl) ?_; clear hf; intro a hf
              obtain ⟨q480, hi481, hm463⟩ := bind_some hm463
              obtain ⟨hi481a, hi481b, hi481q⟩ := idx_some hi481
              refine mYp (i := 9) rfl (by kernel_rfl) (by kernel_rfl) hf rfl rfl rfl (fun _ => Y_index rfl rfl rfl el28 ti2 (Rd.isAt (h_p1_x_1.at hs) (at1 (ints_at hi481q))) hi481a hi481b) ?_; clear hf; intro a hf
              refine mY (i := 10) [[]] rfl (by kernel_rfl) (by kernel_rfl) hf hs0 rfl rfl rfl (Y_load_rd rfl rfl (fun w hs => h_p1_x_1.at hs) (at1 (ints_at hi481q)) ag2) ?_; clear hf; intro a hf
              refine mRun (i := 11) rfl (by kernel_rfl) ?_
              obtain ⟨r482, hc483, hm463⟩ := bind_some hm463
              refine sCall hf rfl rfl rfl rfl (cap := []) rfl rfl en145 (impl_times_ok F q466 q480 _ _ hc483) ?_; clear hf
              rintro _ w ⟨rfl, hs1⟩ a hf
              have hs : St [] W w [.row A1 xs3.length xs3.length 2 1 (ints xs433)] := hs.ext hs1.below
              clear hs1
              have hs0 : St [] W w [.row A1 xs3.length xs3.length 2 1 (ints xs433)] := hs
              refine wpO_nil ⟨Or.inr (fun _ => hs0), ?_⟩
              refine mYp (i := 12) rfl (by kernel_rfl) (by kernel_rfl) hf rfl rfl rfl (fun _ => Y_max rfl rfl rfl) ?_; clear hf; intro a hf
              obtain ⟨q484, hi485, hm463⟩ := bind_some hm463
              obtain ⟨hi485a, hi485b, hi485q⟩ := idx_some hi485
              refine mYp (i := 13) rfl (by kernel_rfl) (by kernel_rfl) hf rfl rfl rfl (fun _ => Y_index rfl rfl rfl el28 ti2 (Rd.isAt (hs.rd (i := 0) rfl) (at1 (ints_at hi485q))) hi485a (ltn hn434 hi485b)) ?_; clear hf; intro a hf
              refine mRun (i := 14) rfl (by kernel_rfl) ?_
              obtain ⟨xs486, hu487, hm463⟩ := bind_some hm463
              refine sStoreL (i := 0) (us := [.int .i64 (max q478 r482)]) (enc := ints) hf hs rfl rfl rfl rfl rfl rfl hn434 hu487 ti2 rfl rfl rfl rfl rfl ints_len1 (ints_set (max q478 r482)) ?_; clear hs; intro w hs
              have hs : St [] W w [.row A1 xs3.length xs3.length 2 1 (ints xs486)] := hs
              refine wpO_nil ⟨Or.inl (by decide), ?_⟩
              refine mDone (by kernel_rfl) ?_
              clear hs0
              refine wpL_nil (Qb_normal ?_)
              refine wpL_region ?_
              refine sY hf hs rfl rfl rfl (Y_add rfl rfl rfl) ?_; clear hf; intro a hf
              refine sY hf hs rfl rfl rfl (Y_move rfl rfl) ?_; clear hf; intro a hf
              refine wpO_nil ?_
              refine wpL_nil (Ql_normal ?_)
              exact ⟨xs486, (IntKind.i64.wrap (x435 + 1)), hm463, ((hn434).trans (upd_len hu487).symm), (FrD.pick (FrD.pick (FrD.pick (FrD.pick (FrD.pick (FrD.pick (FrD.pick (FrD.pick (FrD.pick hf.none hf rfl) hf rfl) hf rfl) hf rfl) hf rfl) hf rfl) hf rfl) hf rfl) hf rfl), hs⟩
            · have hm463 := bif_f hm463 hb465
              refine wpL_exit (Ql_exit (Qb_exit ?_))
              exact ⟨xs433, Option.some.inj hm463, hn434, (FrD.pick (FrD.pick (FrD.pick (FrD.pick (FrD.pick hf.none hf rfl) hf rfl) hf rfl) hf rfl) hf rfl), hs⟩
        · rintro a w ⟨xs459, hr_, hn460, hf, hs⟩
          subst hr_
          try dsimp only at hm368
          refine wpL_nil (Qb_normal ?_)
          refine wpL_region ?_
          refine sY hf hs rfl rfl rfl (Y_add rfl rfl rfl) ?_; clear hf; intro a hf
          refine sY hf hs rfl rfl rfl (Y_move rfl rfl) ?_; clear hf; intro a hf
          refine wpO_nil ?_
          refine wpL_nil (Ql_normal ?_)
          exact ⟨xs459, (IntKind.i64.wrap (x245 + 1)), hm368, hn460, (FrD.pick (FrD.pick (FrD.pick (FrD.pick (FrD.pick hf.none hf rfl) hf rfl) hf rfl) hf rfl) hf rfl), hs⟩
      · have hm368 := bif_f hm368 hb370
        refine wpL_exit (Ql_exit (Qb_exit ?_))
        exact ⟨xs243, Option.some.inj hm368, hn244, (FrD.pick hf.none hf rfl), hs⟩
  · rintro a w ⟨xs364, hr_, hn365, hf, hs⟩
    subst hr_
    try dsimp only at hm
    refine wpL_seq ?_
    refine wpL_region ?_
    refine sY hf hs rfl rfl rfl (Y_move rfl rfl) ?_; clear hf; intro a hf
    refine sY hf hs rfl rfl rfl (Y_assign rfl rfl) ?_; clear hf; intro a hf
    refine wpO_nil ?_
    obtain rfl := Option.some.inj hm
    refine wpL_ret (ret_tmp rfl hf rfl ?_)
    exact ⟨_, rfl, A1, xs3.length, xs3.length, rfl, hn365, hs⟩

end Go.Proofs.Ytebmlphobgaboab
