/- The functions do what their models say. -/
import Derived.Test.YtgkgimglgjfcjaaJustInTimeFacts
import Derived.Test.YtgkgimglgjfcjaaRows
namespace Go.Proofs.Ytgkgimglgjfcjaa
open Go.RowKit

set_option maxRecDepth 100000 in
theorem laws_big_ok (F : Nat) (p0_code : List Int) (A_p0_code_1 : Option Addr) (n_p0_code_1 c_p0_code_1 : Nat) (hn_p0_code_1 : n_p0_code_1 = p0_code.length) (r : Bool) (W : World) (hm : laws_big F p0_code = some r) (_h_p0_code_1 : Rd W A_p0_code_1 (bytes p0_code)) :
    Calls Try.prog 17 [.slice A_p0_code_1 n_p0_code_1 c_p0_code_1].toArray W fun e w' => ∃ v, e = .returned v ∧ v = .bool r ∧ St [] W w' [] := by
  subst hn_p0_code_1
  unfold laws_big at hm
  refine Calls.enter (N := 6) Try.func17 rfl rfl rfl (fun a hf => ?_)
  have hs := St.start W
  obtain ⟨w, hw_⟩ : ∃ w, w = W := ⟨W, rfl⟩
  clear hw_ w
  refine wpL_seq ?_
  refine wpL_region ?_
  refine sY hf hs rfl rfl rfl (Y_assign rfl rfl) ?_; clear hf; intro a hf
  refine wpO_nil ?_
  refine wpL_seq ?_
  refine wpL_region ?_
  refine sY hf hs rfl rfl rfl (Y_move rfl rfl) ?_; clear hf; intro a hf
  refine sY hf hs rfl rfl rfl (Y_lenH rfl rfl el34 rfl) ?_; clear hf; intro a hf
  refine sY hf hs rfl rfl rfl (Y_gtr rfl rfl rfl) ?_; clear hf; intro a hf
  refine sY hf hs rfl rfl rfl (Y_assign rfl rfl) ?_; clear hf; intro a hf
  refine wpO_nil ?_
  obtain rfl := Option.some.inj hm
  refine wpL_ret (ret_tmp rfl hf rfl ?_)
  exact ⟨_, rfl, rfl, hs⟩

set_option maxRecDepth 100000 in
theorem spec_l01From_ok (F : Nat) (p0_code : List Int) (A_p0_code_1 : Option Addr) (n_p0_code_1 c_p0_code_1 : Nat) (hn_p0_code_1 : n_p0_code_1 = p0_code.length) (r : (Int × Int)) (W : World) (hm : spec_l01From F p0_code = some r) (h_p0_code_1 : Rd W A_p0_code_1 (bytes p0_code)) :
    Calls Try.prog 101 [.slice A_p0_code_1 n_p0_code_1 c_p0_code_1].toArray W fun e w' => ∃ v, e = .returned v ∧ ∃ b43, v = .pointer (some ⟨b43, 0, none⟩) ∧ St [] W w' [.blk b43 145 [.slice A_p0_code_1 n_p0_code_1 c_p0_code_1, .int .i64 r.1, .int .i64 r.2]] := by
  subst hn_p0_code_1
  unfold spec_l01From at hm
  refine Calls.enter (N := 34) Try.func101 rfl rfl rfl (fun a hf => ?_)
  have hs := St.start W
  obtain ⟨w, hw_⟩ : ∃ w, w = W := ⟨W, rfl⟩
  clear hw_ w
  refine wpL_seq ?_
  refine wpL_region ?_
  refine sY hf hs rfl rfl rfl (Y_assign rfl rfl) ?_; clear hf; intro a hf
  refine wpO_nil ?_
  refine wpL_seq ?_
  refine wpL_region ?_
  refine sY hf hs rfl rfl rfl (Y_move rfl rfl) ?_; clear hf; intro a hf
  refine sY hf hs rfl rfl rfl (Y_build (parts := [(0, .tmp 5), (2, .const (.int .i64 61403))]) (vs := [.slice A_p0_code_1 p0_code.length c_p0_code_1, .int .i64 61403]) rfl rfl (run_build (parts := [(0, .slice A_p0_code_1 p0_code.length c_p0_code_1), (2, .int .i64 61403)]) (cells := [.slice A_p0_code_1 p0_code.length c_p0_code_1, .int .i64 0, .int .i64 61403]) (places := #[(0, 1), (1, 1), (2, 1)]) ti145 Try.underlying145 (fun w => by simp [go_sem]) rfl)) ?_; clear hf; intro a hf
  refine sBox hf hs rfl rfl rfl rfl rfl (cs := [.slice A_p0_code_1 p0_code.length c_p0_code_1, .int .i64 0, .int .i64 61403]) rfl ?_; clear hf hs; intro a w b1 hs hf
  have hs : St [] W w [.blk b1 145 [.slice A_p0_code_1 p0_code.length c_p0_code_1, .int .i64 0, .int .i64 61403]] := hs
  refine sY hf hs rfl rfl rfl (Y_assign rfl rfl) ?_; clear hf; intro a hf
  refine wpO_nil ?_
  refine wpL_seq ?_
  refine wpL_seq ?_
  refine wpL_region ?_
  refine sY hf hs rfl rfl rfl (Y_assign rfl rfl) ?_; clear hf; intro a hf
  refine wpO_nil ?_
  obtain ⟨r31, hl32, hm⟩ := bind_some hm
  refine wpL_block (fun a w => ∃ x30 : Int, x30 = r31 ∧ Fr a 34 [(3, .pointer (some ⟨b1, 0, none⟩))] ∧ St [] W w [.blk b1 145 [.slice A_p0_code_1 p0_code.length c_p0_code_1, .int .i64 0, .int .i64 x30]]) ?_ ?_
  · refine wpL_loop (fun n a w => ∃ x20 : Int, ∃ x21 : Int, spec_l01From_L1 F p0_code n x20 x21 = some r31 ∧ Fr a 34 [(0, .slice A_p0_code_1 p0_code.length c_p0_code_1), (3, .pointer (some ⟨b1, 0, none⟩)), (4, .int .i64 x21)] ∧ St [] W w [.blk b1 145 [.slice A_p0_code_1 p0_code.length c_p0_code_1, .int .i64 0, .int .i64 x20]]) F ?_ ?_ ?_
    · exact ⟨61403, 0, hl32, (FrD.pick (FrD.pick (FrD.pick hf.none hf rfl) hf rfl) hf rfl), hs⟩
    · rintro a w ⟨x20, x21, h0_, -, -⟩; simp [spec_l01From_L1] at h0_
    · rintro n34 a w ⟨x20, x21, hm33, hf, hs⟩
      rw [spec_l01From_L1] at hm33
      refine wpL_seq ?_
      refine wpL_seq ?_
      obtain ⟨r37, hj38, hm33⟩ := bind_some hm33
      refine wpL_cut (fun a w => ∃ b36 : Bool, b36 = r37 ∧ Fr a 34 [(0, .slice A_p0_code_1 p0_code.length c_p0_code_1), (3, .pointer (some ⟨b1, 0, none⟩)), (4, .int .i64 x21), (15, .bool b36)] ∧ St [] W w [.blk b1 145 [.slice A_p0_code_1 p0_code.length c_p0_code_1, .int .i64 0, .int .i64 x20]]) ?_ ?_
      · refine wpL_region ?_
        refine sY hf hs rfl rfl rfl (Y_move rfl rfl) ?_; clear hf; intro a hf
        refine sY hf hs rfl rfl rfl (Y_move rfl rfl) ?_; clear hf; intro a hf
        refine sY hf hs rfl rfl rfl (Y_lenH rfl rfl el34 rfl) ?_; clear hf; intro a hf
        refine sY hf hs rfl rfl rfl (Y_lss rfl rfl rfl) ?_; clear hf; intro a hf
        refine sY hf hs rfl rfl rfl (Y_move rfl rfl) ?_; clear hf; intro a hf
        refine bsplit (decide (x21 < (p0_code.length : Int))) (fun hb39 => ?_) (fun hb39 => ?_)
        · have hj38 := bif_t hj38 hb39
          refine sYg hf hs rfl rfl rfl (congrArg (fun b => some (Value.bool b)) hb39) rfl rfl rfl (Y_move rfl rfl) ?_; clear hf; intro a hf
          refine sYg hf hs rfl rfl rfl (congrArg (fun b => some (Value.bool b)) hb39) rfl rfl rfl (Y_lss rfl rfl rfl) ?_; clear hf; intro a hf
          refine sY hf hs rfl rfl rfl (Y_pickT rfl (congrArg (fun b => some (Value.bool b)) hb39) rfl) ?_; clear hf; intro a hf
          refine wpO_nil ?_
          refine wpL_nil (then_normal ?_)
          exact ⟨(decide (x21 < 64)), Option.some.inj hj38, (FrD.pick (FrD.pick (FrD.pick (FrD.pick hf.none hf rfl) hf rfl) hf rfl) hf rfl), hs⟩
        · have hj38 := bif_f hj38 hb39
          refine sNo hf rfl rfl rfl (congrArg (fun b => some (Value.bool b)) hb39) rfl rfl rfl ?_; clear hf; intro a hf
          refine sNo hf rfl rfl rfl (congrArg (fun b => some (Value.bool b)) hb39) rfl rfl rfl ?_; clear hf; intro a hf
          refine sY hf hs rfl rfl rfl (Y_pickF rfl (congrArg (fun b => some (Value.bool b)) hb39) rfl) ?_; clear hf; intro a hf
          refine wpO_nil ?_
          refine wpL_nil (then_normal ?_)
          exact ⟨false, Option.some.inj hj38, (FrD.pick (FrD.pick (FrD.pick (FrD.pick hf.none hf rfl) hf rfl) hf rfl) hf rfl), hs⟩
      · rintro a w ⟨b36, hr_, hf, hs⟩
        subst hr_
        try dsimp only at hm33
        refine wpL_cond hf rfl (fun hb40 => ?_) (fun hb40 => ?_)
        · have hm33 := bif_t hm33 hb40
          refine wpL_skip ?_
          refine wpL_seq ?_
          refine wpL_block0 ?_
          refine wpL_drawM [.blk b1 145 [.slice A_p0_code_1 p0_code.length c_p0_code_1, .int .i64 0, .int .i64 x20]] [15] (by kernel_rfl) hs ?_; clear hs; intro w hs
          have hs0 : St [] W w [.blk b1 145 [.slice A_p0_code_1 p0_code.length c_p0_code_1, .int .i64 0, .int .i64 x20]] := hs
          refine mYp (i := 0) rfl (by kernel_rfl) (by kernel_rfl) hf rfl rfl rfl (fun _ => Y_move rfl rfl) ?_; clear hf; intro a hf
          refine mYp (i := 1) rfl (by kernel_rfl) (by kernel_rfl) hf rfl rfl rfl (fun _ => Y_move rfl rfl) ?_; clear hf; intro a hf
          refine mYp (i := 2) rfl (by kernel_rfl) (by kernel_rfl) hf rfl rfl rfl (fun _ => Y_nilCheck rfl rfl) ?_; clear hf; intro a hf
          refine mYp (i := 3) rfl (by kernel_rfl) (by kernel_rfl) hf rfl rfl rfl (fun _ => Y_fieldAddr rfl rfl fo145_2) ?_; clear hf; intro a hf
          refine mY (i := 4) [[]] rfl (by kernel_rfl) (by kernel_rfl) hf hs0 rfl rfl rfl (Y_load_blk rfl rfl (i := 0) rfl rfl ag2) ?_; clear hf; intro a hf
          refine mYp (i := 5) rfl (by kernel_rfl) (by kernel_rfl) hf rfl rfl rfl (fun _ => Y_mul rfl rfl rfl) ?_; clear hf; intro a hf
          refine mYp (i := 6) rfl (by kernel_rfl) (by kernel_rfl) hf rfl rfl rfl (fun _ => Y_move rfl rfl) ?_; clear hf; intro a hf
          refine mYp (i := 7) rfl (by kernel_rfl) (by kernel_rfl) hf rfl rfl rfl (fun _ => Y_move rfl rfl) ?_; clear hf; intro a hf
          obtain ⟨q41, hi42, hm33⟩ := bind_some hm33
          obtain ⟨hi42a, hi42b, hi42q⟩ := idx_some hi42
          refine mYp (i := 8) rfl (by kernel_rfl) (by kernel_rfl) hf rfl rfl rfl (fun _ => Y_index rfl rfl rfl el34 ti5 (Rd.isAt (h_p0_code_1.at hs) (at1 (bytes_at hi42q))) hi42a hi42b) ?_; clear hf; intro a hf
          refine mY (i := 9) [[]] rfl (by kernel_rfl) (by kernel_rfl) hf hs0 rfl rfl rfl (Y_load_rd rfl rfl (fun w hs => h_p0_code_1.at hs) (at1 (bytes_at hi42q)) ag5) ?_; clear hf; intro a hf
          refine mY (i := 10) [[]] rfl (by kernel_rfl) (by kernel_rfl) hf hs0 rfl rfl rfl (Y_convert rfl rfl un5 un2) ?_; clear hf; intro a hf
          refine mYp (i := 11) rfl (by kernel_rfl) (by kernel_rfl) hf rfl rfl rfl (fun _ => Y_add rfl rfl rfl) ?_; clear hf; intro a hf
          refine mYp (i := 12) rfl (by kernel_rfl) (by kernel_rfl) hf rfl rfl rfl (fun _ => Y_rem rfl rfl rfl (by decide)) ?_; clear hf; intro a hf
          refine mYp (i := 13) rfl (by kernel_rfl) (by kernel_rfl) hf rfl rfl rfl (fun _ => Y_nilCheck rfl rfl) ?_; clear hf; intro a hf
          refine mYp (i := 14) rfl (by kernel_rfl) (by kernel_rfl) hf rfl rfl rfl (fun _ => Y_fieldAddr rfl rfl fo145_2) ?_; clear hf; intro a hf
          refine mRun (i := 15) rfl (by kernel_rfl) ?_
          refine sStore (i := 0) (us := [.int .i64 ((IntKind.i64.wrap ((IntKind.i64.wrap (x20 * 67)) + (IntKind.i64.wrap q41))).tmod 2147483647)]) hf hs rfl rfl rfl rfl rfl rfl ti2 rfl rfl rfl (Nat.le_of_ble_eq_true rfl) rfl ?_; clear hs; intro w hs
          have hs : St [] W w [.blk b1 145 [.slice A_p0_code_1 p0_code.length c_p0_code_1, .int .i64 0, .int .i64 ((IntKind.i64.wrap ((IntKind.i64.wrap (x20 * 67)) + (IntKind.i64.wrap q41))).tmod 2147483647)]] := hs
          refine wpO_nil ⟨Or.inl (by decide), ?_⟩
          refine mDone (by kernel_rfl) ?_
          clear hs0
          refine wpL_nil (Qb_normal ?_)
          refine wpL_region ?_
          refine sY hf hs rfl rfl rfl (Y_move rfl rfl) ?_; clear hf; intro a hf
          refine sY hf hs rfl rfl rfl (Y_add rfl rfl rfl) ?_; clear hf; intro a hf
          refine sY hf hs rfl rfl rfl (Y_assign rfl rfl) ?_; clear hf; intro a hf
          refine wpO_nil ?_
          refine wpL_nil (Ql_normal ?_)
          exact ⟨((IntKind.i64.wrap ((IntKind.i64.wrap (x20 * 67)) + (IntKind.i64.wrap q41))).tmod 2147483647), (IntKind.i64.wrap (x21 + 1)), hm33, (FrD.pick (FrD.pick (FrD.pick hf.none hf rfl) hf rfl) hf rfl), hs⟩
        · have hm33 := bif_f hm33 hb40
          refine wpL_exit (Ql_exit (Qb_exit ?_))
          exact ⟨x20, Option.some.inj hm33, (FrD.pick hf.none hf rfl), hs⟩
  · rintro a w ⟨x30, hr_, hf, hs⟩
    subst hr_
    try dsimp only at hm
    refine wpL_seq ?_
    refine wpL_region ?_
    refine sY hf hs rfl rfl rfl (Y_move rfl rfl) ?_; clear hf; intro a hf
    refine sY hf hs rfl rfl rfl (Y_assign rfl rfl) ?_; clear hf; intro a hf
    refine wpO_nil ?_
    obtain rfl := Option.some.inj hm
    refine wpL_ret (ret_tmp rfl hf rfl ?_)
    exact ⟨_, rfl, b1, rfl, hs⟩

set_option maxRecDepth 100000 in
theorem spec_l01Next_ok (F : Nat) (b_p0 : Nat) (p0_code : List Int) (A_p0_code : Option Addr) (n_p0_code c_p0_code : Nat) (hn_p0_code : n_p0_code = p0_code.length) (p0_at : Int) (p0_seed : Int) (p1 : Int) (r : (Int) × Int × Int) (W : World) (hm : spec_l01Next F p0_code p0_at p0_seed p1 = some r) (h_p0_code : KR (muL [.blk b_p0 145 [.slice A_p0_code n_p0_code c_p0_code, .int .i64 p0_at, .int .i64 p0_seed]]) W A_p0_code (bytes p0_code)) (hst : St (muL [.blk b_p0 145 [.slice A_p0_code n_p0_code c_p0_code, .int .i64 p0_at, .int .i64 p0_seed]]) W W [.blk b_p0 145 [.slice A_p0_code n_p0_code c_p0_code, .int .i64 p0_at, .int .i64 p0_seed]]) :
    Calls Try.prog 107 [.pointer (some ⟨b_p0, 0, none⟩), .int .i64 p1].toArray W fun e w' => ∃ v, e = .returned v ∧ v = .int .i64 r.1 ∧ St (muL [.blk b_p0 145 [.slice A_p0_code n_p0_code c_p0_code, .int .i64 p0_at, .int .i64 p0_seed]]) W w' [.blk b_p0 145 [.slice A_p0_code n_p0_code c_p0_code, .int .i64 r.2.1, .int .i64 r.2.2]] := by
  subst hn_p0_code
  unfold spec_l01Next at hm
  refine Calls.enter (N := 78) Try.func107 rfl rfl rfl (fun a hf => ?_)
  have hs := hst
  obtain ⟨w, hw_⟩ : ∃ w, w = W := ⟨W, rfl⟩
  clear hw_ w
  refine wpL_seq ?_
  refine wpL_region ?_
  refine sY hf hs rfl rfl rfl (Y_assign rfl rfl) ?_; clear hf; intro a hf
  refine wpO_nil ?_
  refine wpL_seq ?_
  refine wpL_seq ?_
  refine wpL_region ?_
  refine sY hf hs rfl rfl rfl (Y_move rfl rfl) ?_; clear hf; intro a hf
  refine sY hf hs rfl rfl rfl (Y_leq rfl rfl rfl) ?_; clear hf; intro a hf
  refine wpO_nil ?_
  refine wpL_cond hf rfl (fun hb1 => ?_) (fun hb1 => ?_)
  · have hm := bif_t hm hb1
    refine wpL_seq ?_
    refine wpL_region ?_
    refine sY hf hs rfl rfl rfl (Y_assign rfl rfl) ?_; clear hf; intro a hf
    refine wpO_nil ?_
    obtain rfl := Option.some.inj hm
    refine wpL_ret (ret_tmp rfl hf rfl ?_)
    exact ⟨_, rfl, rfl, hs⟩
  · have hm := bif_f hm hb1
    refine wpL_skip ?_
    refine wpL_seq ?_
    refine wpL_region ?_
    refine sY hf hs rfl rfl rfl (Y_move rfl rfl) ?_; clear hf; intro a hf
    refine sY hf hs rfl rfl rfl (Y_move rfl rfl) ?_; clear hf; intro a hf
    refine sY hf hs rfl rfl rfl (Y_nilCheck rfl rfl) ?_; clear hf; intro a hf
    refine sY hf hs rfl rfl rfl (Y_fieldAddr rfl rfl fo145_2) ?_; clear hf; intro a hf
    refine sY hf hs rfl rfl rfl (Y_load_blk rfl rfl (i := 0) rfl rfl ag2) ?_; clear hf; intro a hf
    refine sY hf hs rfl rfl rfl (Y_mul rfl rfl rfl) ?_; clear hf; intro a hf
    refine sY hf hs rfl rfl rfl (Y_add rfl rfl rfl) ?_; clear hf; intro a hf
    refine sY hf hs rfl rfl rfl (Y_rem rfl rfl rfl (by decide)) ?_; clear hf; intro a hf
    refine sY hf hs rfl rfl rfl (Y_nilCheck rfl rfl) ?_; clear hf; intro a hf
    refine sY hf hs rfl rfl rfl (Y_fieldAddr rfl rfl fo145_2) ?_; clear hf; intro a hf
    refine sStore (i := 0) (us := [.int .i64 ((IntKind.i64.wrap ((IntKind.i64.wrap (p0_seed * 48271)) + 59)).tmod 2147483647)]) hf hs rfl rfl rfl rfl rfl rfl ti2 rfl rfl rfl (Nat.le_of_ble_eq_true rfl) rfl ?_; clear hs; intro w hs
    have hs : St (muL [.blk b_p0 145 [.slice A_p0_code p0_code.length c_p0_code, .int .i64 p0_at, .int .i64 p0_seed]]) W w [.blk b_p0 145 [.slice A_p0_code p0_code.length c_p0_code, .int .i64 p0_at, .int .i64 ((IntKind.i64.wrap ((IntKind.i64.wrap (p0_seed * 48271)) + 59)).tmod 2147483647)]] := hs
    refine wpO_nil ?_
    refine wpL_seq ?_
    refine wpL_region ?_
    refine sY hf hs rfl rfl rfl (Y_move rfl rfl) ?_; clear hf; intro a hf
    refine sY hf hs rfl rfl rfl (Y_nilCheck rfl rfl) ?_; clear hf; intro a hf
    refine sY hf hs rfl rfl rfl (Y_fieldAddr rfl rfl fo145_2) ?_; clear hf; intro a hf
    refine sY hf hs rfl rfl rfl (Y_load_blk rfl rfl (i := 0) rfl rfl ag2) ?_; clear hf; intro a hf
    refine sY hf hs rfl rfl rfl (Y_quo rfl rfl rfl (by decide)) ?_; clear hf; intro a hf
    refine sY hf hs rfl rfl rfl (Y_assign rfl rfl) ?_; clear hf; intro a hf
    refine wpO_nil ?_
    refine wpL_seq ?_
    refine wpL_seq ?_
    refine wpL_draw (by kernel_rfl) (by kernel_rfl) hs ?_
    refine qY hf rfl rfl rfl (Y_move rfl rfl) ?_; clear hf; intro a hf
    refine qY hf rfl rfl rfl (Y_nilCheck rfl rfl) ?_; clear hf; intro a hf
    refine qY hf rfl rfl rfl (Y_fieldAddr rfl rfl fo145_1) ?_; clear hf; intro a hf
    refine qY hf rfl rfl rfl (Y_load_blk rfl rfl (i := 0) rfl rfl ag3) ?_; clear hf; intro a hf
    refine qY hf rfl rfl rfl (Y_move rfl rfl) ?_; clear hf; intro a hf
    refine qY hf rfl rfl rfl (Y_nilCheck rfl rfl) ?_; clear hf; intro a hf
    refine qY hf rfl rfl rfl (Y_fieldAddr rfl rfl fo145_0) ?_; clear hf; intro a hf
    refine qY hf rfl rfl rfl (Y_load_blk rfl rfl (i := 0) rfl rfl ag34) ?_; clear hf; intro a hf
    refine qY hf rfl rfl rfl (Y_lenH rfl rfl el34 rfl) ?_; clear hf; intro a hf
    refine qY hf rfl rfl rfl (Y_lss rfl rfl rfl) ?_; clear hf; intro a hf
    refine qNil ?_; clear hs; intro w hs
    obtain ⟨r15, hj16, hm⟩ := bind_some hm
    refine wpL_cut (fun a w => ∃ x13 : Int, ∃ x14 : Int, (x13, x14) = r15 ∧ Fr a 78 [(1, .int .i64 p1), (5, .int .i64 x14)] ∧ St (muL [.blk b_p0 145 [.slice A_p0_code p0_code.length c_p0_code, .int .i64 p0_at, .int .i64 p0_seed]]) W w [.blk b_p0 145 [.slice A_p0_code p0_code.length c_p0_code, .int .i64 x13, .int .i64 ((IntKind.i64.wrap ((IntKind.i64.wrap (p0_seed * 48271)) + 59)).tmod 2147483647)]]) ?_ ?_
    · refine wpL_cond hf rfl (fun hb17 => ?_) (fun hb17 => ?_)
      · have hj16 := bif_t hj16 hb17
        refine wpL_seq ?_
        refine wpL_draw (by kernel_rfl) (by kernel_rfl) hs ?_
        refine qY hf rfl rfl rfl (Y_move rfl rfl) ?_; clear hf; intro a hf
        refine qY hf rfl rfl rfl (Y_move rfl rfl) ?_; clear hf; intro a hf
        refine qY hf rfl rfl rfl (Y_nilCheck rfl rfl) ?_; clear hf; intro a hf
        refine qY hf rfl rfl rfl (Y_fieldAddr rfl rfl fo145_0) ?_; clear hf; intro a hf
        refine qY hf rfl rfl rfl (Y_load_blk rfl rfl (i := 0) rfl rfl ag34) ?_; clear hf; intro a hf
        refine qY hf rfl rfl rfl (Y_move rfl rfl) ?_; clear hf; intro a hf
        refine qY hf rfl rfl rfl (Y_nilCheck rfl rfl) ?_; clear hf; intro a hf
        refine qY hf rfl rfl rfl (Y_fieldAddr rfl rfl fo145_1) ?_; clear hf; intro a hf
        refine qY hf rfl rfl rfl (Y_load_blk rfl rfl (i := 0) rfl rfl ag3) ?_; clear hf; intro a hf
        obtain ⟨q18, hi19, hj16⟩ := bind_some hj16
        obtain ⟨hi19a, hi19b, hi19q⟩ := idx_some hi19
        refine qY hf rfl rfl rfl (Y_index rfl rfl rfl el34 ti5 (Rd.isAt (h_p0_code.at hs) (at1 (bytes_at hi19q))) hi19a hi19b) ?_; clear hf; intro a hf
        refine qY hf rfl rfl rfl (Y_load_rd rfl rfl (fun w hs => h_p0_code.at hs) (at1 (bytes_at hi19q)) ag5) ?_; clear hf; intro a hf
        refine qY hf rfl rfl rfl (Y_convert rfl rfl un5 un2) ?_; clear hf; intro a hf
        refine qY hf rfl rfl rfl (Y_add rfl rfl rfl) ?_; clear hf; intro a hf
        refine qY hf rfl rfl rfl (Y_assign rfl rfl) ?_; clear hf; intro a hf
        refine qNil ?_; clear hs; intro w hs
        refine wpL_seq ?_
        refine wpL_region ?_
        refine sY hf hs rfl rfl rfl (Y_move rfl rfl) ?_; clear hf; intro a hf
        refine sY hf hs rfl rfl rfl (Y_nilCheck rfl rfl) ?_; clear hf; intro a hf
        refine sY hf hs rfl rfl rfl (Y_fieldAddr rfl rfl fo145_1) ?_; clear hf; intro a hf
        refine sY hf hs rfl rfl rfl (Y_load_blk rfl rfl (i := 0) rfl rfl ag3) ?_; clear hf; intro a hf
        refine sY hf hs rfl rfl rfl (Y_add rfl rfl rfl) ?_; clear hf; intro a hf
        refine sY hf hs rfl rfl rfl (Y_nilCheck rfl rfl) ?_; clear hf; intro a hf
        refine sY hf hs rfl rfl rfl (Y_fieldAddr rfl rfl fo145_1) ?_; clear hf; intro a hf
        refine sStore (i := 0) (us := [.int .i64 (IntKind.i64.wrap (p0_at + 1))]) hf hs rfl rfl rfl rfl rfl rfl ti3 rfl rfl rfl (Nat.le_of_ble_eq_true rfl) rfl ?_; clear hs; intro w hs
        have hs : St (muL [.blk b_p0 145 [.slice A_p0_code p0_code.length c_p0_code, .int .i64 p0_at, .int .i64 p0_seed]]) W w [.blk b_p0 145 [.slice A_p0_code p0_code.length c_p0_code, .int .i64 (IntKind.i64.wrap (p0_at + 1)), .int .i64 ((IntKind.i64.wrap ((IntKind.i64.wrap (p0_seed * 48271)) + 59)).tmod 2147483647)]] := hs
        refine wpO_nil ?_
        refine wpL_seq ?_
        obtain ⟨r22, hj23, hj16⟩ := bind_some hj16
        refine wpL_cut (fun a w => ∃ b21 : Bool, b21 = r22 ∧ Fr a 78 [(0, .pointer (some ⟨b_p0, 0, none⟩)), (1, .int .i64 p1), (5, .int .i64 (IntKind.i64.wrap ((IntKind.i64.wrap (((IntKind.i64.wrap ((IntKind.i64.wrap (p0_seed * 48271)) + 59)).tmod 2147483647).tdiv 31)) + (IntKind.i64.wrap q18)))), (62, .bool b21)] ∧ St (muL [.blk b_p0 145 [.slice A_p0_code p0_code.length c_p0_code, .int .i64 p0_at, .int .i64 p0_seed]]) W w [.blk b_p0 145 [.slice A_p0_code p0_code.length c_p0_code, .int .i64 (IntKind.i64.wrap (p0_at + 1)), .int .i64 ((IntKind.i64.wrap ((IntKind.i64.wrap (p0_seed * 48271)) + 59)).tmod 2147483647)]]) ?_ ?_
        · refine wpL_region ?_
          refine sY hf hs rfl rfl rfl (Y_move rfl rfl) ?_; clear hf; intro a hf
          refine sY hf hs rfl rfl rfl (Y_leq rfl rfl rfl) ?_; clear hf; intro a hf
          refine sY hf hs rfl rfl rfl (Y_move rfl rfl) ?_; clear hf; intro a hf
          refine bsplit (decide (p1 ≤ 256)) (fun hb24 => ?_) (fun hb24 => ?_)
          · have hj23 := bif_t hj23 hb24
            refine sYg hf hs rfl rfl rfl (congrArg (fun b => some (Value.bool b)) hb24) rfl rfl rfl (Y_move rfl rfl) ?_; clear hf; intro a hf
            refine sYg hf hs rfl rfl rfl (congrArg (fun b => some (Value.bool b)) hb24) rfl rfl rfl (Y_nilCheck rfl rfl) ?_; clear hf; intro a hf
            refine sYg hf hs rfl rfl rfl (congrArg (fun b => some (Value.bool b)) hb24) rfl rfl rfl (Y_fieldAddr rfl rfl fo145_1) ?_; clear hf; intro a hf
            refine sYg hf hs rfl rfl rfl (congrArg (fun b => some (Value.bool b)) hb24) rfl rfl rfl (Y_load_blk rfl rfl (i := 0) rfl rfl ag3) ?_; clear hf; intro a hf
            refine sYg hf hs rfl rfl rfl (congrArg (fun b => some (Value.bool b)) hb24) rfl rfl rfl (Y_rem rfl rfl rfl (by decide)) ?_; clear hf; intro a hf
            refine sYg hf hs rfl rfl rfl (congrArg (fun b => some (Value.bool b)) hb24) rfl rfl rfl (Y_eql rfl rfl rfl) ?_; clear hf; intro a hf
            refine sY hf hs rfl rfl rfl (Y_pickT rfl (congrArg (fun b => some (Value.bool b)) hb24) rfl) ?_; clear hf; intro a hf
            refine wpO_nil ?_
            refine wpL_nil (then_normal ?_)
            exact ⟨(((IntKind.i64.wrap (p0_at + 1)).tmod 2) == 0), Option.some.inj hj23, (FrD.pick (FrD.pick (FrD.pick (FrD.pick hf.none hf rfl) hf rfl) hf rfl) hf rfl), hs⟩
          · have hj23 := bif_f hj23 hb24
            refine sNo hf rfl rfl rfl (congrArg (fun b => some (Value.bool b)) hb24) rfl rfl rfl ?_; clear hf; intro a hf
            refine sNo hf rfl rfl rfl (congrArg (fun b => some (Value.bool b)) hb24) rfl rfl rfl ?_; clear hf; intro a hf
            refine sNo hf rfl rfl rfl (congrArg (fun b => some (Value.bool b)) hb24) rfl rfl rfl ?_; clear hf; intro a hf
            refine sNo hf rfl rfl rfl (congrArg (fun b => some (Value.bool b)) hb24) rfl rfl rfl ?_; clear hf; intro a hf
            refine sNo hf rfl rfl rfl (congrArg (fun b => some (Value.bool b)) hb24) rfl rfl rfl ?_; clear hf; intro a hf
            refine sNo hf rfl rfl rfl (congrArg (fun b => some (Value.bool b)) hb24) rfl rfl rfl ?_; clear hf; intro a hf
            refine sY hf hs rfl rfl rfl (Y_pickF rfl (congrArg (fun b => some (Value.bool b)) hb24) rfl) ?_; clear hf; intro a hf
            refine wpO_nil ?_
            refine wpL_nil (then_normal ?_)
            exact ⟨false, Option.some.inj hj23, (FrD.pick (FrD.pick (FrD.pick (FrD.pick hf.none hf rfl) hf rfl) hf rfl) hf rfl), hs⟩
        · rintro a w ⟨b21, hr_, hf, hs⟩
          subst hr_
          try dsimp only at hj16
          refine wpL_cond hf rfl (fun hb25 => ?_) (fun hb25 => ?_)
          · have hj16 := bif_t hj16 hb25
            refine wpL_draw (by kernel_rfl) (by kernel_rfl) hs ?_
            refine qY hf rfl rfl rfl (Y_move rfl rfl) ?_; clear hf; intro a hf
            refine qY hf rfl rfl rfl (Y_nilCheck rfl rfl) ?_; clear hf; intro a hf
            refine qY hf rfl rfl rfl (Y_fieldAddr rfl rfl fo145_0) ?_; clear hf; intro a hf
            refine qY hf rfl rfl rfl (Y_load_blk rfl rfl (i := 0) rfl rfl ag34) ?_; clear hf; intro a hf
            refine qY hf rfl rfl rfl (Y_move rfl rfl) ?_; clear hf; intro a hf
            refine qY hf rfl rfl rfl (Y_nilCheck rfl rfl) ?_; clear hf; intro a hf
            refine qY hf rfl rfl rfl (Y_fieldAddr rfl rfl fo145_1) ?_; clear hf; intro a hf
            refine qY hf rfl rfl rfl (Y_load_blk rfl rfl (i := 0) rfl rfl ag3) ?_; clear hf; intro a hf
            refine qY hf rfl rfl rfl (Y_sub rfl rfl rfl) ?_; clear hf; intro a hf
            obtain ⟨q26, hi27, hj16⟩ := bind_some hj16
            obtain ⟨hi27a, hi27b, hi27q⟩ := idx_some hi27
            refine qY hf rfl rfl rfl (Y_index rfl rfl rfl el34 ti5 (Rd.isAt (h_p0_code.at hs) (at1 (bytes_at hi27q))) hi27a hi27b) ?_; clear hf; intro a hf
            refine qY hf rfl rfl rfl (Y_load_rd rfl rfl (fun w hs => h_p0_code.at hs) (at1 (bytes_at hi27q)) ag5) ?_; clear hf; intro a hf
            refine qY hf rfl rfl rfl (Y_convert rfl rfl un5 un2) ?_; clear hf; intro a hf
            refine qY hf rfl rfl rfl (Y_assign rfl rfl) ?_; clear hf; intro a hf
            refine qNil ?_; clear hs; intro w hs
            refine wpL_nil (then_normal ?_)
            exact ⟨(IntKind.i64.wrap (p0_at + 1)), (IntKind.i64.wrap q26), Option.some.inj hj16, (FrD.pick (FrD.pick hf.none hf rfl) hf rfl), hs⟩
          · have hj16 := bif_f hj16 hb25
            refine wpL_skip ?_
            refine wpL_nil (then_normal ?_)
            exact ⟨(IntKind.i64.wrap (p0_at + 1)), (IntKind.i64.wrap ((IntKind.i64.wrap (((IntKind.i64.wrap ((IntKind.i64.wrap (p0_seed * 48271)) + 59)).tmod 2147483647).tdiv 31)) + (IntKind.i64.wrap q18))), Option.some.inj hj16, (FrD.pick (FrD.pick hf.none hf rfl) hf rfl), hs⟩
      · have hj16 := bif_f hj16 hb17
        refine wpL_skip ?_
        refine wpL_nil (then_normal ?_)
        exact ⟨p0_at, (IntKind.i64.wrap (((IntKind.i64.wrap ((IntKind.i64.wrap (p0_seed * 48271)) + 59)).tmod 2147483647).tdiv 31)), Option.some.inj hj16, (FrD.pick (FrD.pick hf.none hf rfl) hf rfl), hs⟩
    · rintro a w ⟨x13, x14, hr_, hf, hs⟩
      subst hr_
      try dsimp only at hm
      refine wpL_seq ?_
      refine wpL_region ?_
      refine sY hf hs rfl rfl rfl (Y_move rfl rfl) ?_; clear hf; intro a hf
      refine sY hf hs rfl rfl rfl (Y_move rfl rfl) ?_; clear hf; intro a hf
      obtain ⟨_, hz28, hm⟩ := bind_some hm
      refine sY hf hs rfl rfl rfl (Y_rem rfl rfl rfl (nz_some hz28)) ?_; clear hf; intro a hf
      refine sY hf hs rfl rfl rfl (Y_assign rfl rfl) ?_; clear hf; intro a hf
      refine wpO_nil ?_
      obtain rfl := Option.some.inj hm
      refine wpL_ret (ret_tmp rfl hf rfl ?_)
      exact ⟨_, rfl, rfl, hs⟩

set_option maxRecDepth 100000 in
theorem spec_l02Bottom_ok (F : Nat) (p0_m : Int) (p1_n : Int) (r : List (List Int)) (W : World) (hm : spec_l02Bottom F p0_m p1_n = some r) :
    Calls Try.prog 74 [.int .i64 p0_m, .int .i64 p1_n].toArray W fun e w' => ∃ v, e = .returned v ∧ ∃ A268, ∃ n269, ∃ c270, ∃ vs272, v = .slice A268 n269 c270 ∧ n269 = r.length ∧ St [] W w' [.mat A268 n269 c270 23 2 vs272 r] := by
  unfold spec_l02Bottom at hm
  refine Calls.enter (N := 29) Try.func74 rfl rfl rfl (fun a hf => ?_)
  have hs := St.start W
  obtain ⟨w, hw_⟩ : ∃ w, w = W := ⟨W, rfl⟩
  clear hw_ w
  refine wpL_seq ?_
  refine wpL_region ?_
  refine sY hf hs rfl rfl rfl (Y_assign rfl rfl) ?_; clear hf; intro a hf
  refine wpO_nil ?_
  refine wpL_seq ?_
  refine wpL_region ?_
  refine sEmptyM 2 hf hs rfl rfl rfl rfl el22 ti23 rfl ?_; clear hf hs; intro a w A1 hs hf
  have hs : St [] W w [.mat A1 0 0 23 2 [] []] := hs
  refine sY hf hs rfl rfl rfl (Y_assign rfl rfl) ?_; clear hf; intro a hf
  refine wpO_nil ?_
  refine wpL_seq ?_
  refine wpL_seq ?_
  refine wpL_region ?_
  refine sY hf hs rfl rfl rfl (Y_assign rfl rfl) ?_; clear hf; intro a hf
  refine wpO_nil ?_
  obtain ⟨r204, hl205, hm⟩ := bind_some hm
  refine wpL_block (fun a w => ∃ ms198 : List (List Int), ∃ A199, ∃ n200, ∃ c201, ∃ vs203, ms198 = r204 ∧ n200 = ms198.length ∧ Fr a 29 [(5, .slice A199 n200 c201)] ∧ St [] W w [.mat A199 n200 c201 23 2 vs203 ms198]) ?_ ?_
  · refine wpL_loop (fun n a w => ∃ ms131 : List (List Int), ∃ x137 : Int, ∃ A132, ∃ n133, ∃ c134, ∃ vs136, spec_l02Bottom_L4 F p0_m p1_n n ms131 x137 = some r204 ∧ n133 = ms131.length ∧ Fr a 29 [(0, .int .i64 p0_m), (1, .int .i64 p1_n), (5, .slice A132 n133 c134), (6, .int .i64 x137)] ∧ St [] W w [.mat A132 n133 c134 23 2 vs136 ms131]) F ?_ ?_ ?_
    · exact ⟨[], 0, A1, 0, 0, [], hl205, rfl, (FrD.pick (FrD.pick (FrD.pick (FrD.pick hf.none hf rfl) hf rfl) hf rfl) hf rfl), hs⟩
    · rintro a w ⟨ms131, x137, A132, n133, c134, vs136, h0_, -, -, -⟩; simp [spec_l02Bottom_L4] at h0_
    · rintro n207 a w ⟨ms131, x137, A132, n133, c134, vs136, hm206, hn135, hf, hs⟩
      rw [spec_l02Bottom_L4] at hm206
      refine wpL_seq ?_
      refine wpL_seq ?_
      refine wpL_region ?_
      refine sY hf hs rfl rfl rfl (Y_move rfl rfl) ?_; clear hf; intro a hf
      refine sY hf hs rfl rfl rfl (Y_move rfl rfl) ?_; clear hf; intro a hf
      refine sY hf hs rfl rfl rfl (Y_lss rfl rfl rfl) ?_; clear hf; intro a hf
      refine wpO_nil ?_
      refine wpL_cond hf rfl (fun hb208 => ?_) (fun hb208 => ?_)
      · have hm206 := bif_t hm206 hb208
        refine wpL_skip ?_
        refine wpL_seq ?_
        refine wpL_block0 ?_
        refine wpL_seq ?_
        refine wpL_region ?_
        refine sEmpty hf hs rfl rfl rfl rfl el23 ti2 ?_; clear hf hs; intro a w A209 hs hf
        have hs : St [] W w [.mat A132 n133 c134 23 2 vs136 ms131, .row A209 0 0 2 1 (ints ([] : List Int))] := hs
        refine sY hf hs rfl rfl rfl (Y_assign rfl rfl) ?_; clear hf; intro a hf
        refine wpO_nil ?_
        refine wpL_seq ?_
        refine wpL_seq ?_
        refine wpL_region ?_
        refine sY hf hs rfl rfl rfl (Y_assign rfl rfl) ?_; clear hf; intro a hf
        refine wpO_nil ?_
        obtain ⟨r249, hl250, hm206⟩ := bind_some hm206
        refine wpL_block (fun a w => ∃ xs244 : List Int, ∃ A245, ∃ n246, ∃ c247, xs244 = r249 ∧ n246 = xs244.length ∧ Fr a 29 [(0, .int .i64 p0_m), (1, .int .i64 p1_n), (5, .slice A132 n133 c134), (6, .int .i64 x137), (7, .slice A245 n246 c247)] ∧ St [] W w [.mat A132 n133 c134 23 2 vs136 ms131, .row A245 n246 c247 2 1 (ints xs244)]) ?_ ?_
        · refine wpL_loop (fun n a w => ∃ xs231 : List Int, ∃ x236 : Int, ∃ A232, ∃ n233, ∃ c234, spec_l02Bottom_L5 F p1_n n xs231 x236 = some r249 ∧ n233 = xs231.length ∧ Fr a 29 [(0, .int .i64 p0_m), (1, .int .i64 p1_n), (5, .slice A132 n133 c134), (6, .int .i64 x137), (7, .slice A232 n233 c234), (8, .int .i64 x236)] ∧ St [] W w [.mat A132 n133 c134 23 2 vs136 ms131, .row A232 n233 c234 2 1 (ints xs231)]) F ?_ ?_ ?_
          · exact ⟨([] : List Int), 0, A209, 0, 0, hl250, rfl, (FrD.pick (FrD.pick (FrD.pick (FrD.pick (FrD.pick (FrD.pick hf.none hf rfl) hf rfl) hf rfl) hf rfl) hf rfl) hf rfl), hs⟩
          · rintro a w ⟨xs231, x236, A232, n233, c234, h0_, -, -, -⟩; simp [spec_l02Bottom_L5] at h0_
          · rintro n252 a w ⟨xs231, x236, A232, n233, c234, hm251, hn235, hf, hs⟩
            rw [spec_l02Bottom_L5] at hm251
            refine wpL_seq ?_
            refine wpL_seq ?_
            refine wpL_region ?_
            refine sY hf hs rfl rfl rfl (Y_move rfl rfl) ?_; clear hf; intro a hf
            refine sY hf hs rfl rfl rfl (Y_move rfl rfl) ?_; clear hf; intro a hf
            refine sY hf hs rfl rfl rfl (Y_lss rfl rfl rfl) ?_; clear hf; intro a hf
            refine wpO_nil ?_
            refine wpL_cond hf rfl (fun hb253 => ?_) (fun hb253 => ?_)
            · have hm251 := bif_t hm251 hb253
              refine wpL_skip ?_
              refine wpL_seq ?_
              refine wpL_block0 ?_
              refine wpL_region ?_
              refine sY hf hs rfl rfl rfl (Y_move rfl rfl) ?_; clear hf; intro a hf
              refine sBuildSlice (parts := [(0, .const (.int .i64 (-1000000000000000)))]) (vs := [.int .i64 (-1000000000000000)]) (cells := [.int .i64 (-1000000000000000)]) hf hs rfl rfl rfl rfl rfl el23 ti2 rfl rfl rfl rfl ?_; clear hf hs; intro a w A254 hs hA255 hf
              have hs : St [] W w [.mat A132 n133 c134 23 2 vs136 ms131, .row A232 n233 c234 2 1 (ints xs231), .row A254 1 1 2 1 (ints ([(-1000000000000000)]))] := hs
              obtain ⟨xs258, ha259, hm251⟩ := bind_some hm251
              refine sAppendL (i := 1) (xs := xs231) (ys := [(-1000000000000000)]) (enc := ints) hf hs rfl rfl rfl rfl rfl rfl hn235 rfl rfl ha259 el23 ti2 rfl rfl rfl (hs.rd (i := 2) rfl) (Nat.succ_pos _) ints_len1 ints_append ints_one ?_; clear hf hs; intro a w A256 c257 hs hf
              have hs : St [] W w [.mat A132 n133 c134 23 2 vs136 ms131, .row A256 xs258.length c257 2 1 (ints xs258), .row A254 1 1 2 1 (ints ([(-1000000000000000)]))] := hs
              refine sY hf hs rfl rfl rfl (Y_assign rfl rfl) ?_; clear hf; intro a hf
              refine wpO_nil ?_
              refine wpL_nil (Qb_normal ?_)
              refine wpL_region ?_
              refine sY hf hs rfl rfl rfl (Y_move rfl rfl) ?_; clear hf; intro a hf
              refine sY hf hs rfl rfl rfl (Y_add rfl rfl rfl) ?_; clear hf; intro a hf
              refine sY hf hs rfl rfl rfl (Y_assign rfl rfl) ?_; clear hf; intro a hf
              refine wpO_nil ?_
              refine wpL_nil (Ql_normal ?_)
              exact ⟨xs258, (IntKind.i64.wrap (x236 + 1)), A256, xs258.length, c257, hm251, rfl, (FrD.pick (FrD.pick (FrD.pick (FrD.pick (FrD.pick (FrD.pick hf.none hf rfl) hf rfl) hf rfl) hf rfl) hf rfl) hf rfl), hs.sel [0, 1] (by decide)⟩
            · have hm251 := bif_f hm251 hb253
              refine wpL_exit (Ql_exit (Qb_exit ?_))
              exact ⟨xs231, A232, n233, c234, Option.some.inj hm251, hn235, (FrD.pick (FrD.pick (FrD.pick (FrD.pick (FrD.pick hf.none hf rfl) hf rfl) hf rfl) hf rfl) hf rfl), hs⟩
        · rintro a w ⟨xs244, A245, n246, c247, hr_, hn248, hf, hs⟩
          subst hr_
          try dsimp only at hm206
          refine wpL_region ?_
          refine sY hf hs rfl rfl rfl (Y_move rfl rfl) ?_; clear hf; intro a hf
          refine sY hf hs rfl rfl rfl (Y_move rfl rfl) ?_; clear hf; intro a hf
          refine sOneM (j := 1) hf hs rfl rfl rfl rfl rfl rfl hn248 el22 ti23 ?_; clear hf hs; intro a w A260 hs hf
          have hs : St [] W w [.mat A132 n133 c134 23 2 vs136 ms131, .mat A260 1 1 23 2 ([Value.slice A245 xs244.length c247]) ([xs244])] := hs
          obtain ⟨ms264, ha265, hm206⟩ := bind_some hm206
          refine sAppendM (i := 0) (j := 1) hf hs rfl rfl rfl rfl rfl rfl hn135 rfl (by decide) rfl rfl (by decide) ha265 el22 ti23 rfl ?_; clear hf hs; intro a w A262 c263 hs hf
          have hs : St [] W w [.mat A262 ms264.length c263 23 2 (vs136 ++ ([Value.slice A245 xs244.length c247])) ms264] := hs
          obtain ⟨hq266, hv267⟩ := hs.appended (i := 0) rfl ha265
          refine sY hf hs rfl rfl rfl (Y_assign rfl rfl) ?_; clear hf; intro a hf
          refine wpO_nil ?_
          refine wpL_nil (Qb_normal ?_)
          refine wpL_region ?_
          refine sY hf hs rfl rfl rfl (Y_move rfl rfl) ?_; clear hf; intro a hf
          refine sY hf hs rfl rfl rfl (Y_add rfl rfl rfl) ?_; clear hf; intro a hf
          refine sY hf hs rfl rfl rfl (Y_assign rfl rfl) ?_; clear hf; intro a hf
          refine wpO_nil ?_
          refine wpL_nil (Ql_normal ?_)
          exact ⟨ms264, (IntKind.i64.wrap (x137 + 1)), A262, ms264.length, c263, (vs136 ++ ([Value.slice A245 xs244.length c247])), hm206, rfl, (FrD.pick (FrD.pick (FrD.pick (FrD.pick hf.none hf rfl) hf rfl) hf rfl) hf rfl), hs⟩
      · have hm206 := bif_f hm206 hb208
        refine wpL_exit (Ql_exit (Qb_exit ?_))
        exact ⟨ms131, A132, n133, c134, vs136, Option.some.inj hm206, hn135, (FrD.pick hf.none hf rfl), hs⟩
  · rintro a w ⟨ms198, A199, n200, c201, vs203, hr_, hn202, hf, hs⟩
    subst hr_
    try dsimp only at hm
    refine wpL_seq ?_
    refine wpL_region ?_
    refine sY hf hs rfl rfl rfl (Y_move rfl rfl) ?_; clear hf; intro a hf
    refine sY hf hs rfl rfl rfl (Y_assign rfl rfl) ?_; clear hf; intro a hf
    refine wpO_nil ?_
    obtain rfl := Option.some.inj hm
    refine wpL_ret (ret_tmp rfl hf rfl ?_)
    exact ⟨_, rfl, A199, n200, c201, vs203, rfl, hn202, hs⟩

set_option maxRecDepth 100000 in
theorem spec_l01Pick_ok (F : Nat) (b_p0_s : Nat) (p0_s_code : List Int) (A_p0_s_code : Option Addr) (n_p0_s_code c_p0_s_code : Nat) (hn_p0_s_code : n_p0_s_code = p0_s_code.length) (p0_s_at : Int) (p0_s_seed : Int) (p1_list : List Int) (A_p1_list_1 : Option Addr) (n_p1_list_1 c_p1_list_1 : Nat) (hn_p1_list_1 : n_p1_list_1 = p1_list.length) (r : (Int) × Int × Int) (W : World) (hm : spec_l01Pick F p0_s_code p0_s_at p0_s_seed p1_list = some r) (h_p0_s_code : KR (muL [.blk b_p0_s 145 [.slice A_p0_s_code n_p0_s_code c_p0_s_code, .int .i64 p0_s_at, .int .i64 p0_s_seed]]) W A_p0_s_code (bytes p0_s_code)) (h_p1_list_1 : KR (muL [.blk b_p0_s 145 [.slice A_p0_s_code n_p0_s_code c_p0_s_code, .int .i64 p0_s_at, .int .i64 p0_s_seed]]) W A_p1_list_1 (ints p1_list)) (hst : St (muL [.blk b_p0_s 145 [.slice A_p0_s_code n_p0_s_code c_p0_s_code, .int .i64 p0_s_at, .int .i64 p0_s_seed]]) W W [.blk b_p0_s 145 [.slice A_p0_s_code n_p0_s_code c_p0_s_code, .int .i64 p0_s_at, .int .i64 p0_s_seed]]) :
    Calls Try.prog 114 [.pointer (some ⟨b_p0_s, 0, none⟩), .slice A_p1_list_1 n_p1_list_1 c_p1_list_1].toArray W fun e w' => ∃ v, e = .returned v ∧ v = .int .i64 r.1 ∧ St (muL [.blk b_p0_s 145 [.slice A_p0_s_code n_p0_s_code c_p0_s_code, .int .i64 p0_s_at, .int .i64 p0_s_seed]]) W w' [.blk b_p0_s 145 [.slice A_p0_s_code n_p0_s_code c_p0_s_code, .int .i64 r.2.1, .int .i64 r.2.2]] := by
  subst hn_p0_s_code
  subst hn_p1_list_1
  unfold spec_l01Pick at hm
  refine Calls.enter (N := 12) Try.func114 rfl rfl rfl (fun a hf => ?_)
  have hs := hst
  obtain ⟨w, hw_⟩ : ∃ w, w = W := ⟨W, rfl⟩
  clear hw_ w
  refine wpL_seq ?_
  refine wpL_region ?_
  refine sY hf hs rfl rfl rfl (Y_assign rfl rfl) ?_; clear hf; intro a hf
  refine wpO_nil ?_
  refine wpL_seq ?_
  refine wpL_region ?_
  refine sY hf hs rfl rfl rfl (Y_move rfl rfl) ?_; clear hf; intro a hf
  refine sY hf hs rfl rfl rfl (Y_move rfl rfl) ?_; clear hf; intro a hf
  refine sY hf hs rfl rfl rfl (Y_move rfl rfl) ?_; clear hf; intro a hf
  refine sY hf hs rfl rfl rfl (Y_lenH rfl rfl el23 rfl) ?_; clear hf; intro a hf
  obtain ⟨r1, hc2, hm⟩ := bind_some hm
  refine sCall hf rfl rfl rfl rfl (cap := []) rfl rfl en107 (spec_l01Next_ok F b_p0_s p0_s_code A_p0_s_code p0_s_code.length c_p0_s_code rfl p0_s_at p0_s_seed (p1_list.length : Int) _ _ hc2 (h_p0_s_code.pass hs [0]) (hs.sel [0] (by decide)).rebase) ?_; clear hf
  rintro _ w ⟨rfl, hs1⟩ a hf
  have hs : St (muL [.blk b_p0_s 145 [.slice A_p0_s_code p0_s_code.length c_p0_s_code, .int .i64 p0_s_at, .int .i64 p0_s_seed]]) W w [.blk b_p0_s 145 [.slice A_p0_s_code p0_s_code.length c_p0_s_code, .int .i64 r1.2.1, .int .i64 r1.2.2]] := St.mutTail (La := []) (Lb := [.blk b_p0_s 145 [.slice A_p0_s_code p0_s_code.length c_p0_s_code, .int .i64 p0_s_at, .int .i64 p0_s_seed]]) (hs.sel [0] (by decide)) hs1
  clear hs1
  obtain ⟨q3, hi4, hm⟩ := bind_some hm
  obtain ⟨hi4a, hi4b, hi4q⟩ := idx_some hi4
  refine sY hf hs rfl rfl rfl (Y_index rfl rfl rfl el23 ti2 (Rd.isAt (h_p1_list_1.at hs) (at1 (ints_at hi4q))) hi4a hi4b) ?_; clear hf; intro a hf
  refine sY hf hs rfl rfl rfl (Y_load_rd rfl rfl (fun w hs => h_p1_list_1.at hs) (at1 (ints_at hi4q)) ag2) ?_; clear hf; intro a hf
  refine sY hf hs rfl rfl rfl (Y_assign rfl rfl) ?_; clear hf; intro a hf
  refine wpO_nil ?_
  obtain rfl := Option.some.inj hm
  refine wpL_ret (ret_tmp rfl hf rfl ?_)
  exact ⟨_, rfl, rfl, hs⟩

set_option maxRecDepth 100000 in
theorem spec_l01DrawValue_ok (F : Nat) (b_p0_s : Nat) (p0_s_code : List Int) (A_p0_s_code : Option Addr) (n_p0_s_code c_p0_s_code : Nat) (hn_p0_s_code : n_p0_s_code = p0_s_code.length) (p0_s_at : Int) (p0_s_seed : Int) (r : (Int) × Int × Int) (W : World) (hm : spec_l01DrawValue F p0_s_code p0_s_at p0_s_seed = some r) (h_p0_s_code : KR (muL [.blk b_p0_s 145 [.slice A_p0_s_code n_p0_s_code c_p0_s_code, .int .i64 p0_s_at, .int .i64 p0_s_seed]]) W A_p0_s_code (bytes p0_s_code)) (hst : St (muL [.blk b_p0_s 145 [.slice A_p0_s_code n_p0_s_code c_p0_s_code, .int .i64 p0_s_at, .int .i64 p0_s_seed]]) W W [.blk b_p0_s 145 [.slice A_p0_s_code n_p0_s_code c_p0_s_code, .int .i64 p0_s_at, .int .i64 p0_s_seed]]) :
    Calls Try.prog 166 [.pointer (some ⟨b_p0_s, 0, none⟩)].toArray W fun e w' => ∃ v, e = .returned v ∧ v = .int .i64 r.1 ∧ St (muL [.blk b_p0_s 145 [.slice A_p0_s_code n_p0_s_code c_p0_s_code, .int .i64 p0_s_at, .int .i64 p0_s_seed]]) W w' [.blk b_p0_s 145 [.slice A_p0_s_code n_p0_s_code c_p0_s_code, .int .i64 r.2.1, .int .i64 r.2.2]] := by
  subst hn_p0_s_code
  unfold spec_l01DrawValue at hm
  refine Calls.enter (N := 23) Try.func166 rfl rfl rfl (fun a hf => ?_)
  have hs := hst
  obtain ⟨w, hw_⟩ : ∃ w, w = W := ⟨W, rfl⟩
  clear hw_ w
  refine wpL_seq ?_
  refine wpL_region ?_
  refine sY hf hs rfl rfl rfl (Y_assign rfl rfl) ?_; clear hf; intro a hf
  refine wpO_nil ?_
  refine wpL_seq ?_
  refine wpL_seq ?_
  refine wpL_region ?_
  refine sY hf hs rfl rfl rfl (Y_move rfl rfl) ?_; clear hf; intro a hf
  obtain ⟨r1, hc2, hm⟩ := bind_some hm
  refine sCall hf rfl rfl rfl rfl (cap := []) rfl rfl en107 (spec_l01Next_ok F b_p0_s p0_s_code A_p0_s_code p0_s_code.length c_p0_s_code rfl p0_s_at p0_s_seed 24 _ _ hc2 (h_p0_s_code.pass hs [0]) (hs.sel [0] (by decide)).rebase) ?_; clear hf
  rintro _ w ⟨rfl, hs1⟩ a hf
  have hs : St (muL [.blk b_p0_s 145 [.slice A_p0_s_code p0_s_code.length c_p0_s_code, .int .i64 p0_s_at, .int .i64 p0_s_seed]]) W w [.blk b_p0_s 145 [.slice A_p0_s_code p0_s_code.length c_p0_s_code, .int .i64 r1.2.1, .int .i64 r1.2.2]] := St.mutTail (La := []) (Lb := [.blk b_p0_s 145 [.slice A_p0_s_code p0_s_code.length c_p0_s_code, .int .i64 p0_s_at, .int .i64 p0_s_seed]]) (hs.sel [0] (by decide)) hs1
  clear hs1
  refine wpO_nil ?_
  refine wpL_block0 ?_
  refine wpL_seq ?_
  refine wpL_seq ?_
  refine wpL_region ?_
  refine sY hf hs rfl rfl rfl (Y_eql rfl rfl rfl) ?_; clear hf; intro a hf
  refine sY hf hs rfl rfl rfl (Y_assign rfl rfl) ?_; clear hf; intro a hf
  refine wpO_nil ?_
  obtain ⟨r6, hj7, hm⟩ := bind_some hm
  refine wpL_cut (fun a w => ∃ b5 : Bool, b5 = r6 ∧ Fr a 23 [(0, .pointer (some ⟨b_p0_s, 0, none⟩)), (4, .int .i64 r1.1), (5, .bool b5)] ∧ St (muL [.blk b_p0_s 145 [.slice A_p0_s_code p0_s_code.length c_p0_s_code, .int .i64 p0_s_at, .int .i64 p0_s_seed]]) W w [.blk b_p0_s 145 [.slice A_p0_s_code p0_s_code.length c_p0_s_code, .int .i64 r1.2.1, .int .i64 r1.2.2]]) ?_ ?_
  · refine wpL_cond hf rfl (fun hb8 => ?_) (fun hb8 => ?_)
    · have hj7 := bif_t hj7 hb8
      refine wpL_skip ?_
      refine wpL_nil (then_normal ?_)
      exact ⟨(r1.1 == 0), Option.some.inj hj7, (FrD.pick (FrD.pick (FrD.pick hf.none hf rfl) hf rfl) hf rfl), hs⟩
    · have hj7 := bif_f hj7 hb8
      refine wpL_seq ?_
      refine wpL_region ?_
      refine sY hf hs rfl rfl rfl (Y_eql rfl rfl rfl) ?_; clear hf; intro a hf
      refine sY hf hs rfl rfl rfl (Y_assign rfl rfl) ?_; clear hf; intro a hf
      refine wpO_nil ?_
      refine wpL_cond hf rfl (fun hb9 => ?_) (fun hb9 => ?_)
      · have hj7 := bif_t hj7 hb9
        refine wpL_skip ?_
        refine wpL_nil (then_normal ?_)
        exact ⟨(r1.1 == 1), Option.some.inj hj7, (FrD.pick (FrD.pick (FrD.pick hf.none hf rfl) hf rfl) hf rfl), hs⟩
      · have hj7 := bif_f hj7 hb9
        refine wpL_region ?_
        refine sY hf hs rfl rfl rfl (Y_eql rfl rfl rfl) ?_; clear hf; intro a hf
        refine sY hf hs rfl rfl rfl (Y_assign rfl rfl) ?_; clear hf; intro a hf
        refine wpO_nil ?_
        refine wpL_nil (then_normal ?_)
        exact ⟨(r1.1 == 2), Option.some.inj hj7, (FrD.pick (FrD.pick (FrD.pick hf.none hf rfl) hf rfl) hf rfl), hs⟩
  · rintro a w ⟨b5, hr_, hf, hs⟩
    subst hr_
    try dsimp only at hm
    refine wpL_cond hf rfl (fun hb10 => ?_) (fun hb10 => ?_)
    · have hm := bif_t hm hb10
      refine wpL_seq ?_
      refine wpL_region ?_
      refine sY hf hs rfl rfl rfl (Y_assign rfl rfl) ?_; clear hf; intro a hf
      refine wpO_nil ?_
      obtain rfl := Option.some.inj hm
      refine wpL_ret (Qb_ret (ret_tmp rfl hf rfl ?_))
      exact ⟨_, rfl, rfl, hs⟩
    · have hm := bif_f hm hb10
      refine wpL_seq ?_
      refine wpL_region ?_
      refine sY hf hs rfl rfl rfl (Y_eql rfl rfl rfl) ?_; clear hf; intro a hf
      refine sY hf hs rfl rfl rfl (Y_assign rfl rfl) ?_; clear hf; intro a hf
      refine wpO_nil ?_
      refine wpL_cond hf rfl (fun hb11 => ?_) (fun hb11 => ?_)
      · have hm := bif_t hm hb11
        refine wpL_seq ?_
        refine wpL_region ?_
        refine sY hf hs rfl rfl rfl (Y_move rfl rfl) ?_; clear hf; intro a hf
        refine sBuildSlice (parts := [(0, .const (.int .i64 1000000)), (1, .const (.int .i64 1000001)), (2, .const (.int .i64 (-1000000))), (3, .const (.int .i64 (-1000001))), (4, .const (.int .i64 (-999999999999999))), (5, .const (.int .i64 (-1000000000000001))), (6, .const (.int .i64 9223372036854775807))]) (vs := [.int .i64 1000000, .int .i64 1000001, .int .i64 (-1000000), .int .i64 (-1000001), .int .i64 (-999999999999999), .int .i64 (-1000000000000001), .int .i64 9223372036854775807]) (cells := [.int .i64 1000000, .int .i64 1000001, .int .i64 (-1000000), .int .i64 (-1000001), .int .i64 (-999999999999999), .int .i64 (-1000000000000001), .int .i64 9223372036854775807]) hf hs rfl rfl rfl rfl rfl el23 ti2 rfl rfl rfl rfl ?_; clear hf hs; intro a w A12 hs hA13 hf
        have hs : St (muL [.blk b_p0_s 145 [.slice A_p0_s_code p0_s_code.length c_p0_s_code, .int .i64 p0_s_at, .int .i64 p0_s_seed]]) W w [.blk b_p0_s 145 [.slice A_p0_s_code p0_s_code.length c_p0_s_code, .int .i64 r1.2.1, .int .i64 r1.2.2], .row A12 7 7 2 1 (ints ([1000000, 1000001, (-1000000), (-1000001), (-999999999999999), (-1000000000000001), 9223372036854775807]))] := hs
        obtain ⟨r14, hc15, hm⟩ := bind_some hm
        refine sCall hf rfl rfl rfl rfl (cap := []) rfl rfl en114 (spec_l01Pick_ok F b_p0_s p0_s_code A_p0_s_code p0_s_code.length c_p0_s_code rfl r1.2.1 r1.2.2 ([1000000, 1000001, (-1000000), (-1000001), (-999999999999999), (-1000000000000001), 9223372036854775807]) A12 7 7 rfl _ _ hc15 (h_p0_s_code.pass hs [0]) (hs.keepR (i := 1) rfl [0] (by decide)) (hs.sel [0] (by decide)).rebase) ?_; clear hf
        rintro _ w ⟨rfl, hs1⟩ a hf
        have hs : St (muL [.blk b_p0_s 145 [.slice A_p0_s_code p0_s_code.length c_p0_s_code, .int .i64 p0_s_at, .int .i64 p0_s_seed]]) W w [.row A12 7 7 2 1 (ints ([1000000, 1000001, (-1000000), (-1000001), (-999999999999999), (-1000000000000001), 9223372036854775807])), .blk b_p0_s 145 [.slice A_p0_s_code p0_s_code.length c_p0_s_code, .int .i64 r14.2.1, .int .i64 r14.2.2]] := St.mutTail (La := [.row A12 7 7 2 1 (ints ([1000000, 1000001, (-1000000), (-1000001), (-999999999999999), (-1000000000000001), 9223372036854775807]))]) (Lb := [.blk b_p0_s 145 [.slice A_p0_s_code p0_s_code.length c_p0_s_code, .int .i64 r1.2.1, .int .i64 r1.2.2]]) (hs.sel [1, 0] (by decide)) hs1
        clear hs1
        refine sY hf hs rfl rfl rfl (Y_assign rfl rfl) ?_; clear hf; intro a hf
        refine wpO_nil ?_
        obtain rfl := Option.some.inj hm
        refine wpL_ret (Qb_ret (ret_tmp rfl hf rfl ?_))
        exact ⟨_, rfl, rfl, hs.sel [1] (by decide)⟩
      · have hm := bif_f hm hb11
        refine wpL_seq ?_
        refine wpL_region ?_
        refine sY hf hs rfl rfl rfl (Y_eql rfl rfl rfl) ?_; clear hf; intro a hf
        refine sY hf hs rfl rfl rfl (Y_assign rfl rfl) ?_; clear hf; intro a hf
        refine wpO_nil ?_
        refine wpL_cond hf rfl (fun hb16 => ?_) (fun hb16 => ?_)
        · have hm := bif_t hm hb16
          refine wpL_seq ?_
          refine wpL_region ?_
          refine sY hf hs rfl rfl rfl (Y_move rfl rfl) ?_; clear hf; intro a hf
          obtain ⟨r17, hc18, hm⟩ := bind_some hm
          refine sCall hf rfl rfl rfl rfl (cap := []) rfl rfl en107 (spec_l01Next_ok F b_p0_s p0_s_code A_p0_s_code p0_s_code.length c_p0_s_code rfl r1.2.1 r1.2.2 2000 _ _ hc18 (h_p0_s_code.pass hs [0]) (hs.sel [0] (by decide)).rebase) ?_; clear hf
          rintro _ w ⟨rfl, hs1⟩ a hf
          have hs : St (muL [.blk b_p0_s 145 [.slice A_p0_s_code p0_s_code.length c_p0_s_code, .int .i64 p0_s_at, .int .i64 p0_s_seed]]) W w [.blk b_p0_s 145 [.slice A_p0_s_code p0_s_code.length c_p0_s_code, .int .i64 r17.2.1, .int .i64 r17.2.2]] := St.mutTail (La := []) (Lb := [.blk b_p0_s 145 [.slice A_p0_s_code p0_s_code.length c_p0_s_code, .int .i64 r1.2.1, .int .i64 r1.2.2]]) (hs.sel [0] (by decide)) hs1
          clear hs1
          refine sY hf hs rfl rfl rfl (Y_sub rfl rfl rfl) ?_; clear hf; intro a hf
          refine sY hf hs rfl rfl rfl (Y_mul rfl rfl rfl) ?_; clear hf; intro a hf
          refine sY hf hs rfl rfl rfl (Y_assign rfl rfl) ?_; clear hf; intro a hf
          refine wpO_nil ?_
          obtain rfl := Option.some.inj hm
          refine wpL_ret (Qb_ret (ret_tmp rfl hf rfl ?_))
          exact ⟨_, rfl, rfl, hs⟩
        · have hm := bif_f hm hb16
          refine wpL_skip ?_
          refine wpL_nil (Qb_normal ?_)
          refine wpL_seq ?_
          refine wpL_region ?_
          refine sY hf hs rfl rfl rfl (Y_move rfl rfl) ?_; clear hf; intro a hf
          obtain ⟨r19, hc20, hm⟩ := bind_some hm
          refine sCall hf rfl rfl rfl rfl (cap := []) rfl rfl en107 (spec_l01Next_ok F b_p0_s p0_s_code A_p0_s_code p0_s_code.length c_p0_s_code rfl r1.2.1 r1.2.2 41 _ _ hc20 (h_p0_s_code.pass hs [0]) (hs.sel [0] (by decide)).rebase) ?_; clear hf
          rintro _ w ⟨rfl, hs1⟩ a hf
          have hs : St (muL [.blk b_p0_s 145 [.slice A_p0_s_code p0_s_code.length c_p0_s_code, .int .i64 p0_s_at, .int .i64 p0_s_seed]]) W w [.blk b_p0_s 145 [.slice A_p0_s_code p0_s_code.length c_p0_s_code, .int .i64 r19.2.1, .int .i64 r19.2.2]] := St.mutTail (La := []) (Lb := [.blk b_p0_s 145 [.slice A_p0_s_code p0_s_code.length c_p0_s_code, .int .i64 r1.2.1, .int .i64 r1.2.2]]) (hs.sel [0] (by decide)) hs1
          clear hs1
          refine sY hf hs rfl rfl rfl (Y_sub rfl rfl rfl) ?_; clear hf; intro a hf
          refine sY hf hs rfl rfl rfl (Y_assign rfl rfl) ?_; clear hf; intro a hf
          refine wpO_nil ?_
          obtain rfl := Option.some.inj hm
          refine wpL_ret (ret_tmp rfl hf rfl ?_)
          exact ⟨_, rfl, rfl, hs⟩

set_option maxHeartbeats 2000000 in
set_option maxRecDepth 100000 in
theorem spec_l02DrawSize_ok (F : Nat) (b_p0_s : Nat) (p0_s_code : List Int) (A_p0_s_code : Option Addr) (n_p0_s_code c_p0_s_code : Nat) (hn_p0_s_code : n_p0_s_code = p0_s_code.length) (p0_s_at : Int) (p0_s_seed : Int) (p1_m : Int) (p2_n : Int) (r : (List (List Int)) × Int × Int) (W : World) (hm : spec_l02DrawSize F p0_s_code p0_s_at p0_s_seed p1_m p2_n = some r) (h_p0_s_code : KR (muL [.blk b_p0_s 145 [.slice A_p0_s_code n_p0_s_code c_p0_s_code, .int .i64 p0_s_at, .int .i64 p0_s_seed]]) W A_p0_s_code (bytes p0_s_code)) (hst : St (muL [.blk b_p0_s 145 [.slice A_p0_s_code n_p0_s_code c_p0_s_code, .int .i64 p0_s_at, .int .i64 p0_s_seed]]) W W [.blk b_p0_s 145 [.slice A_p0_s_code n_p0_s_code c_p0_s_code, .int .i64 p0_s_at, .int .i64 p0_s_seed]]) :
    Calls Try.prog 165 [.pointer (some ⟨b_p0_s, 0, none⟩), .int .i64 p1_m, .int .i64 p2_n].toArray W fun e w' => ∃ v, e = .returned v ∧ ∃ A696, ∃ n697, ∃ c698, ∃ vs700, v = .slice A696 n697 c698 ∧ n697 = r.1.length ∧ St (muL [.blk b_p0_s 145 [.slice A_p0_s_code n_p0_s_code c_p0_s_code, .int .i64 p0_s_at, .int .i64 p0_s_seed]]) W w' [.mat A696 n697 c698 23 2 vs700 r.1, .blk b_p0_s 145 [.slice A_p0_s_code n_p0_s_code c_p0_s_code, .int .i64 r.2.1, .int .i64 r.2.2]] := by
  subst hn_p0_s_code
  unfold spec_l02DrawSize at hm
  refine Calls.enter (N := 59) Try.func165 rfl rfl rfl (fun a hf => ?_)
  have hs := hst
  obtain ⟨w, hw_⟩ : ∃ w, w = W := ⟨W, rfl⟩
  clear hw_ w
  refine wpL_seq ?_
  refine wpL_region ?_
  refine sY hf hs rfl rfl rfl (Y_assign rfl rfl) ?_; clear hf; intro a hf
  refine wpO_nil ?_
  refine wpL_seq ?_
  refine wpL_region ?_
  refine sY hf hs rfl rfl rfl (Y_move rfl rfl) ?_; clear hf; intro a hf
  refine sY hf hs rfl rfl rfl (Y_move rfl rfl) ?_; clear hf; intro a hf
  obtain ⟨r1, hc2, hm⟩ := bind_some hm
  refine sCall hf rfl rfl rfl rfl (cap := []) rfl rfl en74 (spec_l02Bottom_ok F p1_m p2_n _ _ hc2) ?_; clear hf
  rintro _ w ⟨A3, n4, c5, vs7, rfl, hn6, hs1⟩ a hf
  have hs : St (muL [.blk b_p0_s 145 [.slice A_p0_s_code p0_s_code.length c_p0_s_code, .int .i64 p0_s_at, .int .i64 p0_s_seed]]) W w [.blk b_p0_s 145 [.slice A_p0_s_code p0_s_code.length c_p0_s_code, .int .i64 p0_s_at, .int .i64 p0_s_seed], .mat A3 n4 c5 23 2 vs7 r1] := hs.join hs1
  clear hs1
  refine sY hf hs rfl rfl rfl (Y_assign rfl rfl) ?_; clear hf; intro a hf
  refine wpO_nil ?_
  refine wpL_seq ?_
  refine wpL_region ?_
  refine sY hf hs rfl rfl rfl (Y_move rfl rfl) ?_; clear hf; intro a hf
  refine sBuildSlice (parts := [(0, .const (.int .i64 2)), (1, .const (.int .i64 3)), (2, .const (.int .i64 5))]) (vs := [.int .i64 2, .int .i64 3, .int .i64 5]) (cells := [.int .i64 2, .int .i64 3, .int .i64 5]) hf hs rfl rfl rfl rfl rfl el23 ti2 rfl rfl rfl rfl ?_; clear hf hs; intro a w A8 hs hA9 hf
  have hs : St (muL [.blk b_p0_s 145 [.slice A_p0_s_code p0_s_code.length c_p0_s_code, .int .i64 p0_s_at, .int .i64 p0_s_seed]]) W w [.blk b_p0_s 145 [.slice A_p0_s_code p0_s_code.length c_p0_s_code, .int .i64 p0_s_at, .int .i64 p0_s_seed], .mat A3 n4 c5 23 2 vs7 r1, .row A8 3 3 2 1 (ints ([2, 3, 5]))] := hs
  obtain ⟨r10, hc11, hm⟩ := bind_some hm
  refine sCall hf rfl rfl rfl rfl (cap := []) rfl rfl en114 (spec_l01Pick_ok F b_p0_s p0_s_code A_p0_s_code p0_s_code.length c_p0_s_code rfl p0_s_at p0_s_seed ([2, 3, 5]) A8 3 3 rfl _ _ hc11 (h_p0_s_code.pass hs [0]) (hs.keepR (i := 2) rfl [0] (by decide)) (hs.sel [0] (by decide)).rebase) ?_; clear hf
  rintro _ w ⟨rfl, hs1⟩ a hf
  have hs : St (muL [.blk b_p0_s 145 [.slice A_p0_s_code p0_s_code.length c_p0_s_code, .int .i64 p0_s_at, .int .i64 p0_s_seed]]) W w [.mat A3 n4 c5 23 2 vs7 r1, .row A8 3 3 2 1 (ints ([2, 3, 5])), .blk b_p0_s 145 [.slice A_p0_s_code p0_s_code.length c_p0_s_code, .int .i64 r10.2.1, .int .i64 r10.2.2]] := St.mutTail (La := [.mat A3 n4 c5 23 2 vs7 r1, .row A8 3 3 2 1 (ints ([2, 3, 5]))]) (Lb := [.blk b_p0_s 145 [.slice A_p0_s_code p0_s_code.length c_p0_s_code, .int .i64 p0_s_at, .int .i64 p0_s_seed]]) (hs.sel [1, 2, 0] (by decide)) hs1
  clear hs1
  refine sY hf hs rfl rfl rfl (Y_assign rfl rfl) ?_; clear hf; intro a hf
  refine wpO_nil ?_
  refine wpL_seq ?_
  refine wpL_seq ?_
  refine wpL_region ?_
  refine sY hf hs rfl rfl rfl (Y_assign rfl rfl) ?_; clear hf; intro a hf
  refine wpO_nil ?_
  obtain ⟨r491, hl492, hm⟩ := bind_some hm
  refine wpL_block (fun a w => ∃ x487 : Int, ∃ x488 : Int, ∃ ms489 : List (List Int), (x487, x488, ms489) = r491 ∧ n4 = ms489.length ∧ Fr a 59 [(0, .pointer (some ⟨b_p0_s, 0, none⟩)), (7, .slice A3 n4 c5)] ∧ St (muL [.blk b_p0_s 145 [.slice A_p0_s_code p0_s_code.length c_p0_s_code, .int .i64 p0_s_at, .int .i64 p0_s_seed]]) W w [.blk b_p0_s 145 [.slice A_p0_s_code p0_s_code.length c_p0_s_code, .int .i64 x487, .int .i64 x488], .mat A3 n4 c5 23 2 vs7 ms489]) ?_ ?_
  · refine wpL_loop (fun n a w => ∃ x327 : Int, ∃ x328 : Int, ∃ ms329 : List (List Int), ∃ x331 : Int, spec_l02DrawSize_L4 F p0_s_code p1_m p2_n r10 n x327 x328 ms329 x331 = some r491 ∧ n4 = ms329.length ∧ Fr a 59 [(0, .pointer (some ⟨b_p0_s, 0, none⟩)), (1, .int .i64 p1_m), (2, .int .i64 p2_n), (7, .slice A3 n4 c5), (8, .int .i64 r10.1), (9, .int .i64 x331)] ∧ St (muL [.blk b_p0_s 145 [.slice A_p0_s_code p0_s_code.length c_p0_s_code, .int .i64 p0_s_at, .int .i64 p0_s_seed]]) W w [.blk b_p0_s 145 [.slice A_p0_s_code p0_s_code.length c_p0_s_code, .int .i64 x327, .int .i64 x328], .mat A3 n4 c5 23 2 vs7 ms329]) F ?_ ?_ ?_
    · exact ⟨r10.2.1, r10.2.2, r1, 0, hl492, hn6, (FrD.pick (FrD.pick (FrD.pick (FrD.pick (FrD.pick (FrD.pick hf.none hf rfl) hf rfl) hf rfl) hf rfl) hf rfl) hf rfl), hs.sel [2, 0] (by decide)⟩
    · rintro a w ⟨x327, x328, ms329, x331, h0_, -, -, -⟩; simp [spec_l02DrawSize_L4] at h0_
    · rintro n494 a w ⟨x327, x328, ms329, x331, hm493, hn330, hf, hs⟩
      rw [spec_l02DrawSize_L4] at hm493
      refine wpL_seq ?_
      refine wpL_seq ?_
      refine wpL_region ?_
      refine sY hf hs rfl rfl rfl (Y_move rfl rfl) ?_; clear hf; intro a hf
      refine sY hf hs rfl rfl rfl (Y_move rfl rfl) ?_; clear hf; intro a hf
      refine sY hf hs rfl rfl rfl (Y_lss rfl rfl rfl) ?_; clear hf; intro a hf
      refine wpO_nil ?_
      refine wpL_cond hf rfl (fun hb495 => ?_) (fun hb495 => ?_)
      · have hm493 := bif_t hm493 hb495
        refine wpL_skip ?_
        refine wpL_seq ?_
        refine wpL_block0 ?_
        refine wpL_seq ?_
        refine wpL_region ?_
        refine sY hf hs rfl rfl rfl (Y_assign rfl rfl) ?_; clear hf; intro a hf
        refine wpO_nil ?_
        obtain ⟨r612, hl613, hm493⟩ := bind_some hm493
        refine wpL_block (fun a w => ∃ x608 : Int, ∃ x609 : Int, ∃ ms610 : List (List Int), (x608, x609, ms610) = r612 ∧ n4 = ms610.length ∧ Fr a 59 [(0, .pointer (some ⟨b_p0_s, 0, none⟩)), (1, .int .i64 p1_m), (2, .int .i64 p2_n), (7, .slice A3 n4 c5), (8, .int .i64 r10.1), (9, .int .i64 x331)] ∧ St (muL [.blk b_p0_s 145 [.slice A_p0_s_code p0_s_code.length c_p0_s_code, .int .i64 p0_s_at, .int .i64 p0_s_seed]]) W w [.blk b_p0_s 145 [.slice A_p0_s_code p0_s_code.length c_p0_s_code, .int .i64 x608, .int .i64 x609], .mat A3 n4 c5 23 2 vs7 ms610]) ?_ ?_
        · refine wpL_loop (fun n a w => ∃ x569 : Int, ∃ x570 : Int, ∃ ms571 : List (List Int), ∃ x573 : Int, spec_l02DrawSize_L5 F p0_s_code p2_n r10 x331 n x569 x570 ms571 x573 = some r612 ∧ n4 = ms571.length ∧ Fr a 59 [(0, .pointer (some ⟨b_p0_s, 0, none⟩)), (1, .int .i64 p1_m), (2, .int .i64 p2_n), (7, .slice A3 n4 c5), (8, .int .i64 r10.1), (9, .int .i64 x331), (10, .int .i64 x573)] ∧ St (muL [.blk b_p0_s 145 [.slice A_p0_s_code p0_s_code.length c_p0_s_code, .int .i64 p0_s_at, .int .i64 p0_s_seed]]) W w [.blk b_p0_s 145 [.slice A_p0_s_code p0_s_code.length c_p0_s_code, .int .i64 x569, .int .i64 x570], .mat A3 n4 c5 23 2 vs7 ms571]) F ?_ ?_ ?_
          · exact ⟨x327, x328, ms329, 0, hl613, hn330, (FrD.pick (FrD.pick (FrD.pick (FrD.pick (FrD.pick (FrD.pick (FrD.pick hf.none hf rfl) hf rfl) hf rfl) hf rfl) hf rfl) hf rfl) hf rfl), hs⟩
          · rintro a w ⟨x569, x570, ms571, x573, h0_, -, -, -⟩; simp [spec_l02DrawSize_L5] at h0_
          · rintro n615 a w ⟨x569, x570, ms571, x573, hm614, hn572, hf, hs⟩
            rw [spec_l02DrawSize_L5] at hm614
            refine wpL_seq ?_
            refine wpL_seq ?_
            refine wpL_region ?_
            refine sY hf hs rfl rfl rfl (Y_move rfl rfl) ?_; clear hf; intro a hf
            refine sY hf hs rfl rfl rfl (Y_move rfl rfl) ?_; clear hf; intro a hf
            refine sY hf hs rfl rfl rfl (Y_lss rfl rfl rfl) ?_; clear hf; intro a hf
            refine wpO_nil ?_
            refine wpL_cond hf rfl (fun hb616 => ?_) (fun hb616 => ?_)
            · have hm614 := bif_t hm614 hb616
              refine wpL_skip ?_
              refine wpL_seq ?_
              refine wpL_block0 ?_
              refine wpL_seq ?_
              refine wpL_region ?_
              refine sY hf hs rfl rfl rfl (Y_move rfl rfl) ?_; clear hf; intro a hf
              refine sY hf hs rfl rfl rfl (Y_move rfl rfl) ?_; clear hf; intro a hf
              obtain ⟨r617, hc618, hm614⟩ := bind_some hm614
              refine sCall hf rfl rfl rfl rfl (cap := []) rfl rfl en107 (spec_l01Next_ok F b_p0_s p0_s_code A_p0_s_code p0_s_code.length c_p0_s_code rfl x569 x570 r10.1 _ _ hc618 (h_p0_s_code.pass hs [0]) (hs.sel [0] (by decide)).rebase) ?_; clear hf
              rintro _ w ⟨rfl, hs1⟩ a hf
              have hs : St (muL [.blk b_p0_s 145 [.slice A_p0_s_code p0_s_code.length c_p0_s_code, .int .i64 p0_s_at, .int .i64 p0_s_seed]]) W w [.mat A3 n4 c5 23 2 vs7 ms571, .blk b_p0_s 145 [.slice A_p0_s_code p0_s_code.length c_p0_s_code, .int .i64 r617.2.1, .int .i64 r617.2.2]] := St.mutTail (La := [.mat A3 n4 c5 23 2 vs7 ms571]) (Lb := [.blk b_p0_s 145 [.slice A_p0_s_code p0_s_code.length c_p0_s_code, .int .i64 x569, .int .i64 x570]]) (hs.sel [1, 0] (by decide)) hs1
              clear hs1
              refine sY hf hs rfl rfl rfl (Y_gtr rfl rfl rfl) ?_; clear hf; intro a hf
              refine wpO_nil ?_
              refine wpL_cond hf rfl (fun hb619 => ?_) (fun hb619 => ?_)
              · have hm614 := bif_t hm614 hb619
                refine wpL_drawM [.mat A3 n4 c5 23 2 vs7 ms571] [9] (by kernel_rfl) hs ?_; clear hs; intro w hs
                have hs0 : St (muL [.blk b_p0_s 145 [.slice A_p0_s_code p0_s_code.length c_p0_s_code, .int .i64 p0_s_at, .int .i64 p0_s_seed]]) W w [.mat A3 n4 c5 23 2 vs7 ms571] := hs.sel [0] (by decide)
                refine mYp (i := 0) rfl (by kernel_rfl) (by kernel_rfl) hf rfl rfl rfl (fun _ => Y_move rfl rfl) ?_; clear hf; intro a hf
                refine mYp (i := 1) rfl (by kernel_rfl) (by kernel_rfl) hf rfl rfl rfl (fun _ => Y_move rfl rfl) ?_; clear hf; intro a hf
                obtain ⟨q635, hi636, hm614⟩ := bind_some hm614
                obtain ⟨hi636a, hi636b, hi636q⟩ := idx_some hi636
                obtain ⟨A637, c638, hv639⟩ := hs.matRow (i := 0) rfl hi636q
                refine mYp (i := 2) rfl (by kernel_rfl) (by kernel_rfl) hf rfl rfl rfl (fun _ => Y_index rfl rfl rfl el22 ti23 (Rd.isAt (hs.rdV (i := 0) rfl) hv639) hi636a (ltn hn572 hi636b)) ?_; clear hf; intro a hf
                refine mY (i := 3) [[]] rfl (by kernel_rfl) (by kernel_rfl) hf hs0 rfl rfl rfl (Y_load_rd rfl rfl (fun w hs => hs.rdV (i := 0) rfl) (at1 hv639) ag23) ?_; clear hf; intro a hf
                refine mYp (i := 4) rfl (by kernel_rfl) (by kernel_rfl) hf rfl rfl rfl (fun _ => Y_move rfl rfl) ?_; clear hf; intro a hf
                refine mYp (i := 5) rfl (by kernel_rfl) (by kernel_rfl) hf rfl rfl rfl (fun _ => Y_move rfl rfl) ?_; clear hf; intro a hf
                refine mRun (i := 6) rfl (by kernel_rfl) ?_
                obtain ⟨r640, hc641, hm614⟩ := bind_some hm614
                refine sCall hf rfl rfl rfl rfl (cap := []) rfl rfl en107 (spec_l01Next_ok F b_p0_s p0_s_code A_p0_s_code p0_s_code.length c_p0_s_code rfl r617.2.1 r617.2.2 26 _ _ hc641 (h_p0_s_code.pass hs [1]) (hs.sel [1] (by decide)).rebase) ?_; clear hf
                rintro _ w ⟨rfl, hs1⟩ a hf
                have hs : St (muL [.blk b_p0_s 145 [.slice A_p0_s_code p0_s_code.length c_p0_s_code, .int .i64 p0_s_at, .int .i64 p0_s_seed]]) W w [.mat A3 n4 c5 23 2 vs7 ms571, .blk b_p0_s 145 [.slice A_p0_s_code p0_s_code.length c_p0_s_code, .int .i64 r640.2.1, .int .i64 r640.2.2]] := St.mutTail (La := [.mat A3 n4 c5 23 2 vs7 ms571]) (Lb := [.blk b_p0_s 145 [.slice A_p0_s_code p0_s_code.length c_p0_s_code, .int .i64 r617.2.1, .int .i64 r617.2.2]]) (hs.sel [0, 1] (by decide)) hs1
                clear hs1
                have hs0 : St (muL [.blk b_p0_s 145 [.slice A_p0_s_code p0_s_code.length c_p0_s_code, .int .i64 p0_s_at, .int .i64 p0_s_seed]]) W w [.mat A3 n4 c5 23 2 vs7 ms571] := hs.sel [0] (by decide)
                refine wpO_nil ⟨Or.inr (fun _ => hs0), ?_⟩
                refine mYp (i := 7) rfl (by kernel_rfl) (by kernel_rfl) hf rfl rfl rfl (fun _ => Y_sub rfl rfl rfl) ?_; clear hf; intro a hf
                obtain ⟨q642, hi643, hm614⟩ := bind_some hm614
                obtain ⟨hi643a, hi643b, hi643q⟩ := idx_some hi643
                refine mYp (i := 8) rfl (by kernel_rfl) (by kernel_rfl) hf rfl rfl rfl (fun _ => Y_index rfl rfl rfl el23 ti2 (Rd.isAt (hs.rdRow (i := 0) rfl ⟨hi636q, hv639⟩) (at1 (ints_at hi643q))) hi643a hi643b) ?_; clear hf; intro a hf
                refine mRun (i := 9) rfl (by kernel_rfl) ?_
                obtain ⟨xs644, hu646, hm614⟩ := bind_some hm614
                obtain ⟨ms645, hu647, hm614⟩ := bind_some hm614
                refine sStoreM (i := 0) (k := x331) hf hs rfl rfl rfl rfl rfl rfl hi636q hv639 rfl hu646 hu647 ti2 ?_; clear hs; intro w hs
                obtain ⟨hq648, hv649⟩ := rowUpd hu646 hu647 hv639
                have hs : St (muL [.blk b_p0_s 145 [.slice A_p0_s_code p0_s_code.length c_p0_s_code, .int .i64 p0_s_at, .int .i64 p0_s_seed]]) W w [.mat A3 n4 c5 23 2 vs7 ms645, .blk b_p0_s 145 [.slice A_p0_s_code p0_s_code.length c_p0_s_code, .int .i64 r640.2.1, .int .i64 r640.2.2]] := hs
                refine wpO_nil ⟨Or.inl (by decide), ?_⟩
                refine mDone (by kernel_rfl) ?_
                clear hs0
                refine wpL_nil (Qb_normal ?_)
                refine wpL_region ?_
                refine sY hf hs rfl rfl rfl (Y_move rfl rfl) ?_; clear hf; intro a hf
                refine sY hf hs rfl rfl rfl (Y_add rfl rfl rfl) ?_; clear hf; intro a hf
                refine sY hf hs rfl rfl rfl (Y_assign rfl rfl) ?_; clear hf; intro a hf
                refine wpO_nil ?_
                refine wpL_nil (Ql_normal ?_)
                exact ⟨r640.2.1, r640.2.2, ms645, (IntKind.i64.wrap (x573 + 1)), hm614, ((hn572).trans (upd_len hu647).symm), (FrD.pick (FrD.pick (FrD.pick (FrD.pick (FrD.pick (FrD.pick (FrD.pick hf.none hf rfl) hf rfl) hf rfl) hf rfl) hf rfl) hf rfl) hf rfl), hs.sel [1, 0] (by decide)⟩
              · have hm614 := bif_f hm614 hb619
                refine wpL_skip ?_
                refine wpL_nil (Qb_normal ?_)
                refine wpL_region ?_
                refine sY hf hs rfl rfl rfl (Y_move rfl rfl) ?_; clear hf; intro a hf
                refine sY hf hs rfl rfl rfl (Y_add rfl rfl rfl) ?_; clear hf; intro a hf
                refine sY hf hs rfl rfl rfl (Y_assign rfl rfl) ?_; clear hf; intro a hf
                refine wpO_nil ?_
                refine wpL_nil (Ql_normal ?_)
                exact ⟨r617.2.1, r617.2.2, ms571, (IntKind.i64.wrap (x573 + 1)), hm614, hn572, (FrD.pick (FrD.pick (FrD.pick (FrD.pick (FrD.pick (FrD.pick (FrD.pick hf.none hf rfl) hf rfl) hf rfl) hf rfl) hf rfl) hf rfl) hf rfl), hs.sel [1, 0] (by decide)⟩
            · have hm614 := bif_f hm614 hb616
              refine wpL_exit (Ql_exit (Qb_exit ?_))
              exact ⟨x569, x570, ms571, Option.some.inj hm614, hn572, (FrD.pick (FrD.pick (FrD.pick (FrD.pick (FrD.pick (FrD.pick hf.none hf rfl) hf rfl) hf rfl) hf rfl) hf rfl) hf rfl), hs⟩
        · rintro a w ⟨x608, x609, ms610, hr_, hn611, hf, hs⟩
          subst hr_
          try dsimp only at hm493
          refine wpL_nil (Qb_normal ?_)
          refine wpL_region ?_
          refine sY hf hs rfl rfl rfl (Y_move rfl rfl) ?_; clear hf; intro a hf
          refine sY hf hs rfl rfl rfl (Y_add rfl rfl rfl) ?_; clear hf; intro a hf
          refine sY hf hs rfl rfl rfl (Y_assign rfl rfl) ?_; clear hf; intro a hf
          refine wpO_nil ?_
          refine wpL_nil (Ql_normal ?_)
          exact ⟨x608, x609, ms610, (IntKind.i64.wrap (x331 + 1)), hm493, hn611, (FrD.pick (FrD.pick (FrD.pick (FrD.pick (FrD.pick (FrD.pick hf.none hf rfl) hf rfl) hf rfl) hf rfl) hf rfl) hf rfl), hs⟩
      · have hm493 := bif_f hm493 hb495
        refine wpL_exit (Ql_exit (Qb_exit ?_))
        exact ⟨x327, x328, ms329, Option.some.inj hm493, hn330, (FrD.pick (FrD.pick hf.none hf rfl) hf rfl), hs⟩
  · rintro a w ⟨x487, x488, ms489, hr_, hn490, hf, hs⟩
    subst hr_
    try dsimp only at hm
    refine wpL_seq ?_
    refine wpL_seq ?_
    refine wpL_region ?_
    refine sY hf hs rfl rfl rfl (Y_move rfl rfl) ?_; clear hf; intro a hf
    obtain ⟨r650, hc651, hm⟩ := bind_some hm
    refine sCall hf rfl rfl rfl rfl (cap := []) rfl rfl en107 (spec_l01Next_ok F b_p0_s p0_s_code A_p0_s_code p0_s_code.length c_p0_s_code rfl x487 x488 60 _ _ hc651 (h_p0_s_code.pass hs [0]) (hs.sel [0] (by decide)).rebase) ?_; clear hf
    rintro _ w ⟨rfl, hs1⟩ a hf
    have hs : St (muL [.blk b_p0_s 145 [.slice A_p0_s_code p0_s_code.length c_p0_s_code, .int .i64 p0_s_at, .int .i64 p0_s_seed]]) W w [.mat A3 n4 c5 23 2 vs7 ms489, .blk b_p0_s 145 [.slice A_p0_s_code p0_s_code.length c_p0_s_code, .int .i64 r650.2.1, .int .i64 r650.2.2]] := St.mutTail (La := [.mat A3 n4 c5 23 2 vs7 ms489]) (Lb := [.blk b_p0_s 145 [.slice A_p0_s_code p0_s_code.length c_p0_s_code, .int .i64 x487, .int .i64 x488]]) (hs.sel [1, 0] (by decide)) hs1
    clear hs1
    refine wpO_nil ?_
    refine wpL_block0 ?_
    refine wpL_seq ?_
    refine wpL_region ?_
    refine sY hf hs rfl rfl rfl (Y_eql rfl rfl rfl) ?_; clear hf; intro a hf
    refine sY hf hs rfl rfl rfl (Y_assign rfl rfl) ?_; clear hf; intro a hf
    refine wpO_nil ?_
    refine wpL_cond hf rfl (fun hb652 => ?_) (fun hb652 => ?_)
    · have hm := bif_t hm hb652
      refine wpL_drawM [.mat A3 n4 c5 23 2 vs7 ms489] [6] (by kernel_rfl) hs ?_; clear hs; intro w hs
      have hs0 : St (muL [.blk b_p0_s 145 [.slice A_p0_s_code p0_s_code.length c_p0_s_code, .int .i64 p0_s_at, .int .i64 p0_s_seed]]) W w [.mat A3 n4 c5 23 2 vs7 ms489] := hs.sel [0] (by decide)
      refine mYp (i := 0) rfl (by kernel_rfl) (by kernel_rfl) hf rfl rfl rfl (fun _ => Y_move rfl rfl) ?_; clear hf; intro a hf
      obtain ⟨q668, hi669, hm⟩ := bind_some hm
      obtain ⟨hi669a, hi669b, hi669q⟩ := idx_some hi669
      obtain ⟨A670, c671, hv672⟩ := hs.matRow (i := 0) rfl hi669q
      refine mYp (i := 1) rfl (by kernel_rfl) (by kernel_rfl) hf rfl rfl rfl (fun _ => Y_index rfl rfl rfl el22 ti23 (Rd.isAt (hs.rdV (i := 0) rfl) hv672) hi669a (ltn hn490 hi669b)) ?_; clear hf; intro a hf
      refine mY (i := 2) [[]] rfl (by kernel_rfl) (by kernel_rfl) hf hs0 rfl rfl rfl (Y_load_rd rfl rfl (fun w hs => hs.rdV (i := 0) rfl) (at1 hv672) ag23) ?_; clear hf; intro a hf
      refine mYp (i := 3) rfl (by kernel_rfl) (by kernel_rfl) hf rfl rfl rfl (fun _ => Y_move rfl rfl) ?_; clear hf; intro a hf
      refine mRun (i := 4) rfl (by kernel_rfl) ?_
      obtain ⟨r673, hc674, hm⟩ := bind_some hm
      refine sCall hf rfl rfl rfl rfl (cap := []) rfl rfl en166 (spec_l01DrawValue_ok F b_p0_s p0_s_code A_p0_s_code p0_s_code.length c_p0_s_code rfl r650.2.1 r650.2.2 _ _ hc674 (h_p0_s_code.pass hs [1]) (hs.sel [1] (by decide)).rebase) ?_; clear hf
      rintro _ w ⟨rfl, hs1⟩ a hf
      have hs : St (muL [.blk b_p0_s 145 [.slice A_p0_s_code p0_s_code.length c_p0_s_code, .int .i64 p0_s_at, .int .i64 p0_s_seed]]) W w [.mat A3 n4 c5 23 2 vs7 ms489, .blk b_p0_s 145 [.slice A_p0_s_code p0_s_code.length c_p0_s_code, .int .i64 r673.2.1, .int .i64 r673.2.2]] := St.mutTail (La := [.mat A3 n4 c5 23 2 vs7 ms489]) (Lb := [.blk b_p0_s 145 [.slice A_p0_s_code p0_s_code.length c_p0_s_code, .int .i64 r650.2.1, .int .i64 r650.2.2]]) (hs.sel [0, 1] (by decide)) hs1
      clear hs1
      have hs0 : St (muL [.blk b_p0_s 145 [.slice A_p0_s_code p0_s_code.length c_p0_s_code, .int .i64 p0_s_at, .int .i64 p0_s_seed]]) W w [.mat A3 n4 c5 23 2 vs7 ms489] := hs.sel [0] (by decide)
      refine wpO_nil ⟨Or.inr (fun _ => hs0), ?_⟩
      obtain ⟨q675, hi676, hm⟩ := bind_some hm
      obtain ⟨hi676a, hi676b, hi676q⟩ := idx_some hi676
      refine mYp (i := 5) rfl (by kernel_rfl) (by kernel_rfl) hf rfl rfl rfl (fun _ => Y_index rfl rfl rfl el23 ti2 (Rd.isAt (hs.rdRow (i := 0) rfl ⟨hi669q, hv672⟩) (at1 (ints_at hi676q))) hi676a hi676b) ?_; clear hf; intro a hf
      refine mRun (i := 6) rfl (by kernel_rfl) ?_
      obtain ⟨xs677, hu679, hm⟩ := bind_some hm
      obtain ⟨ms678, hu680, hm⟩ := bind_some hm
      refine sStoreM (i := 0) (k := 0) hf hs rfl rfl rfl rfl rfl rfl hi669q hv672 rfl hu679 hu680 ti2 ?_; clear hs; intro w hs
      obtain ⟨hq681, hv682⟩ := rowUpd hu679 hu680 hv672
      have hs : St (muL [.blk b_p0_s 145 [.slice A_p0_s_code p0_s_code.length c_p0_s_code, .int .i64 p0_s_at, .int .i64 p0_s_seed]]) W w [.mat A3 n4 c5 23 2 vs7 ms678, .blk b_p0_s 145 [.slice A_p0_s_code p0_s_code.length c_p0_s_code, .int .i64 r673.2.1, .int .i64 r673.2.2]] := hs
      refine wpO_nil ⟨Or.inl (by decide), ?_⟩
      refine mDone (by kernel_rfl) ?_
      clear hs0
      refine wpL_nil (Qb_normal ?_)
      refine wpL_seq ?_
      refine wpL_region ?_
      refine sY hf hs rfl rfl rfl (Y_move rfl rfl) ?_; clear hf; intro a hf
      refine sY hf hs rfl rfl rfl (Y_assign rfl rfl) ?_; clear hf; intro a hf
      refine wpO_nil ?_
      obtain rfl := Option.some.inj hm
      refine wpL_ret (ret_tmp rfl hf rfl ?_)
      exact ⟨_, rfl, A3, n4, c5, vs7, rfl, ((hn490).trans (upd_len hu680).symm), hs⟩
    · have hm := bif_f hm hb652
      refine wpL_seq ?_
      refine wpL_region ?_
      refine sY hf hs rfl rfl rfl (Y_eql rfl rfl rfl) ?_; clear hf; intro a hf
      refine sY hf hs rfl rfl rfl (Y_assign rfl rfl) ?_; clear hf; intro a hf
      refine wpO_nil ?_
      refine wpL_cond hf rfl (fun hb683 => ?_) (fun hb683 => ?_)
      · have hm := bif_t hm hb683
        refine wpL_seq ?_
        refine wpL_region ?_
        refine sY hf hs rfl rfl rfl (Y_move rfl rfl) ?_; clear hf; intro a hf
        refine sEmpty hf hs rfl rfl rfl rfl el23 ti2 ?_; clear hf hs; intro a w A684 hs hf
        have hs : St (muL [.blk b_p0_s 145 [.slice A_p0_s_code p0_s_code.length c_p0_s_code, .int .i64 p0_s_at, .int .i64 p0_s_seed]]) W w [.mat A3 n4 c5 23 2 vs7 ms489, .blk b_p0_s 145 [.slice A_p0_s_code p0_s_code.length c_p0_s_code, .int .i64 r650.2.1, .int .i64 r650.2.2], .row A684 0 0 2 1 (ints ([] : List Int))] := hs
        refine sOneM (j := 2) hf hs rfl rfl rfl rfl rfl rfl rfl el22 ti23 ?_; clear hf hs; intro a w A686 hs hf
        have hs : St (muL [.blk b_p0_s 145 [.slice A_p0_s_code p0_s_code.length c_p0_s_code, .int .i64 p0_s_at, .int .i64 p0_s_seed]]) W w [.mat A3 n4 c5 23 2 vs7 ms489, .blk b_p0_s 145 [.slice A_p0_s_code p0_s_code.length c_p0_s_code, .int .i64 r650.2.1, .int .i64 r650.2.2], .mat A686 1 1 23 2 ([Value.slice A684 ([] : List Int).length 0]) ([([] : List Int)])] := hs
        obtain ⟨ms690, ha691, hm⟩ := bind_some hm
        refine sAppendM (i := 0) (j := 2) hf hs rfl rfl rfl rfl rfl rfl hn490 rfl (by decide) rfl rfl (by decide) ha691 el22 ti23 rfl ?_; clear hf hs; intro a w A688 c689 hs hf
        have hs : St (muL [.blk b_p0_s 145 [.slice A_p0_s_code p0_s_code.length c_p0_s_code, .int .i64 p0_s_at, .int .i64 p0_s_seed]]) W w [.mat A688 ms690.length c689 23 2 (vs7 ++ ([Value.slice A684 ([] : List Int).length 0])) ms690, .blk b_p0_s 145 [.slice A_p0_s_code p0_s_code.length c_p0_s_code, .int .i64 r650.2.1, .int .i64 r650.2.2]] := hs
        obtain ⟨hq692, hv693⟩ := hs.appended (i := 0) rfl ha691
        refine sY hf hs rfl rfl rfl (Y_assign rfl rfl) ?_; clear hf; intro a hf
        refine wpO_nil ?_
        obtain rfl := Option.some.inj hm
        refine wpL_ret (Qb_ret (ret_tmp rfl hf rfl ?_))
        exact ⟨_, rfl, A688, ms690.length, c689, (vs7 ++ ([Value.slice A684 ([] : List Int).length 0])), rfl, rfl, hs⟩
      · have hm := bif_f hm hb683
        refine wpL_seq ?_
        refine wpL_region ?_
        refine sY hf hs rfl rfl rfl (Y_eql rfl rfl rfl) ?_; clear hf; intro a hf
        refine sY hf hs rfl rfl rfl (Y_assign rfl rfl) ?_; clear hf; intro a hf
        refine wpO_nil ?_
        refine wpL_cond hf rfl (fun hb694 => ?_) (fun hb694 => ?_)
        · have hm := bif_t hm hb694
          refine wpL_seq ?_
          refine wpL_region ?_
          refine sY hf hs rfl rfl rfl (Y_assign rfl rfl) ?_; clear hf; intro a hf
          refine wpO_nil ?_
          have hs : St (muL [.blk b_p0_s 145 [.slice A_p0_s_code p0_s_code.length c_p0_s_code, .int .i64 p0_s_at, .int .i64 p0_s_seed]]) W _ [.mat A3 n4 c5 23 2 vs7 ms489, .blk b_p0_s 145 [.slice A_p0_s_code p0_s_code.length c_p0_s_code, .int .i64 r650.2.1, .int .i64 r650.2.2], .mat none 0 0 23 2 [] ([] : List (List Int))] := hs.addNilM 23 2
          obtain rfl := Option.some.inj hm
          refine wpL_ret (Qb_ret (ret_tmp rfl hf rfl ?_))
          exact ⟨_, rfl, none, 0, 0, [], rfl, rfl, hs.sel [2, 1] (by decide)⟩
        · have hm := bif_f hm hb694
          refine wpL_skip ?_
          refine wpL_nil (Qb_normal ?_)
          refine wpL_seq ?_
          refine wpL_region ?_
          refine sY hf hs rfl rfl rfl (Y_move rfl rfl) ?_; clear hf; intro a hf
          refine sY hf hs rfl rfl rfl (Y_assign rfl rfl) ?_; clear hf; intro a hf
          refine wpO_nil ?_
          obtain rfl := Option.some.inj hm
          refine wpL_ret (ret_tmp rfl hf rfl ?_)
          exact ⟨_, rfl, A3, n4, c5, vs7, rfl, hn490, hs⟩

set_option maxRecDepth 100000 in
theorem spec_l02DrawVector_ok (F : Nat) (b_p0_s : Nat) (p0_s_code : List Int) (A_p0_s_code : Option Addr) (n_p0_s_code c_p0_s_code : Nat) (hn_p0_s_code : n_p0_s_code = p0_s_code.length) (p0_s_at : Int) (p0_s_seed : Int) (p1_n : Int) (r : (List Int) × Int × Int) (W : World) (hm : spec_l02DrawVector F p0_s_code p0_s_at p0_s_seed p1_n = some r) (h_p0_s_code : KR (muL [.blk b_p0_s 145 [.slice A_p0_s_code n_p0_s_code c_p0_s_code, .int .i64 p0_s_at, .int .i64 p0_s_seed]]) W A_p0_s_code (bytes p0_s_code)) (hst : St (muL [.blk b_p0_s 145 [.slice A_p0_s_code n_p0_s_code c_p0_s_code, .int .i64 p0_s_at, .int .i64 p0_s_seed]]) W W [.blk b_p0_s 145 [.slice A_p0_s_code n_p0_s_code c_p0_s_code, .int .i64 p0_s_at, .int .i64 p0_s_seed]]) :
    Calls Try.prog 108 [.pointer (some ⟨b_p0_s, 0, none⟩), .int .i64 p1_n].toArray W fun e w' => ∃ v, e = .returned v ∧ ∃ A107, ∃ n108, ∃ c109, v = .slice A107 n108 c109 ∧ n108 = r.1.length ∧ St (muL [.blk b_p0_s 145 [.slice A_p0_s_code n_p0_s_code c_p0_s_code, .int .i64 p0_s_at, .int .i64 p0_s_seed]]) W w' [.row A107 n108 c109 2 1 (ints r.1), .blk b_p0_s 145 [.slice A_p0_s_code n_p0_s_code c_p0_s_code, .int .i64 r.2.1, .int .i64 r.2.2]] := by
  subst hn_p0_s_code
  unfold spec_l02DrawVector at hm
  refine Calls.enter (N := 37) Try.func108 rfl rfl rfl (fun a hf => ?_)
  have hs := hst
  obtain ⟨w, hw_⟩ : ∃ w, w = W := ⟨W, rfl⟩
  clear hw_ w
  refine wpL_seq ?_
  refine wpL_region ?_
  refine sY hf hs rfl rfl rfl (Y_assign rfl rfl) ?_; clear hf; intro a hf
  refine wpO_nil ?_
  refine wpL_seq ?_
  refine wpL_region ?_
  refine sEmpty hf hs rfl rfl rfl rfl el23 ti2 ?_; clear hf hs; intro a w A1 hs hf
  have hs : St (muL [.blk b_p0_s 145 [.slice A_p0_s_code p0_s_code.length c_p0_s_code, .int .i64 p0_s_at, .int .i64 p0_s_seed]]) W w [.blk b_p0_s 145 [.slice A_p0_s_code p0_s_code.length c_p0_s_code, .int .i64 p0_s_at, .int .i64 p0_s_seed], .row A1 0 0 2 1 (ints ([] : List Int))] := hs
  refine sY hf hs rfl rfl rfl (Y_assign rfl rfl) ?_; clear hf; intro a hf
  refine wpO_nil ?_
  refine wpL_seq ?_
  obtain ⟨r74, hl75, hm⟩ := bind_some hm
  refine wpL_block (fun a w => ∃ x67 : Int, ∃ x68 : Int, ∃ xs69 : List Int, ∃ A70, ∃ n71, ∃ c72, (x67, x68, xs69) = r74 ∧ n71 = xs69.length ∧ Fr a 37 [(0, .pointer (some ⟨b_p0_s, 0, none⟩)), (5, .slice A70 n71 c72)] ∧ St (muL [.blk b_p0_s 145 [.slice A_p0_s_code p0_s_code.length c_p0_s_code, .int .i64 p0_s_at, .int .i64 p0_s_seed]]) W w [.blk b_p0_s 145 [.slice A_p0_s_code p0_s_code.length c_p0_s_code, .int .i64 x67, .int .i64 x68], .row A70 n71 c72 2 1 (ints xs69)]) ?_ ?_
  · refine wpL_loop (fun n a w => ∃ x43 : Int, ∃ x44 : Int, ∃ x45 : Int, ∃ xs46 : List Int, ∃ A47, ∃ n48, ∃ c49, spec_l02DrawVector_L1 F p0_s_code n x43 x44 x45 xs46 = some r74 ∧ n48 = xs46.length ∧ Fr a 37 [(0, .pointer (some ⟨b_p0_s, 0, none⟩)), (1, .int .i64 x45), (5, .slice A47 n48 c49)] ∧ St (muL [.blk b_p0_s 145 [.slice A_p0_s_code p0_s_code.length c_p0_s_code, .int .i64 p0_s_at, .int .i64 p0_s_seed]]) W w [.blk b_p0_s 145 [.slice A_p0_s_code p0_s_code.length c_p0_s_code, .int .i64 x43, .int .i64 x44], .row A47 n48 c49 2 1 (ints xs46)]) F ?_ ?_ ?_
    · exact ⟨p0_s_at, p0_s_seed, p1_n, ([] : List Int), A1, 0, 0, hl75, rfl, (FrD.pick (FrD.pick (FrD.pick hf.none hf rfl) hf rfl) hf rfl), hs⟩
    · rintro a w ⟨x43, x44, x45, xs46, A47, n48, c49, h0_, -, -, -⟩; simp [spec_l02DrawVector_L1] at h0_
    · rintro n77 a w ⟨x43, x44, x45, xs46, A47, n48, c49, hm76, hn50, hf, hs⟩
      rw [spec_l02DrawVector_L1] at hm76
      refine wpL_seq ?_
      refine wpL_seq ?_
      refine wpL_region ?_
      refine sY hf hs rfl rfl rfl (Y_move rfl rfl) ?_; clear hf; intro a hf
      refine sY hf hs rfl rfl rfl (Y_gtr rfl rfl rfl) ?_; clear hf; intro a hf
      refine wpO_nil ?_
      refine wpL_cond hf rfl (fun hb78 => ?_) (fun hb78 => ?_)
      · have hm76 := bif_t hm76 hb78
        refine wpL_skip ?_
        refine wpL_seq ?_
        refine wpL_block0 ?_
        refine wpL_seq ?_
        refine wpL_region ?_
        refine sY hf hs rfl rfl rfl (Y_move rfl rfl) ?_; clear hf; intro a hf
        refine sY hf hs rfl rfl rfl (Y_move rfl rfl) ?_; clear hf; intro a hf
        obtain ⟨r79, hc80, hm76⟩ := bind_some hm76
        refine sCall hf rfl rfl rfl rfl (cap := []) rfl rfl en107 (spec_l01Next_ok F b_p0_s p0_s_code A_p0_s_code p0_s_code.length c_p0_s_code rfl x43 x44 31 _ _ hc80 (h_p0_s_code.pass hs [0]) (hs.sel [0] (by decide)).rebase) ?_; clear hf
        rintro _ w ⟨rfl, hs1⟩ a hf
        have hs : St (muL [.blk b_p0_s 145 [.slice A_p0_s_code p0_s_code.length c_p0_s_code, .int .i64 p0_s_at, .int .i64 p0_s_seed]]) W w [.row A47 n48 c49 2 1 (ints xs46), .blk b_p0_s 145 [.slice A_p0_s_code p0_s_code.length c_p0_s_code, .int .i64 r79.2.1, .int .i64 r79.2.2]] := St.mutTail (La := [.row A47 n48 c49 2 1 (ints xs46)]) (Lb := [.blk b_p0_s 145 [.slice A_p0_s_code p0_s_code.length c_p0_s_code, .int .i64 x43, .int .i64 x44]]) (hs.sel [1, 0] (by decide)) hs1
        clear hs1
        refine sY hf hs rfl rfl rfl (Y_sub rfl rfl rfl) ?_; clear hf; intro a hf
        refine sBuildSlice (parts := [(0, .tmp 14)]) (vs := [.int .i64 (IntKind.i64.wrap (r79.1 - 15))]) (cells := [.int .i64 (IntKind.i64.wrap (r79.1 - 15))]) hf hs rfl rfl rfl rfl rfl el23 ti2 rfl rfl rfl rfl ?_; clear hf hs; intro a w A81 hs hA82 hf
        have hs : St (muL [.blk b_p0_s 145 [.slice A_p0_s_code p0_s_code.length c_p0_s_code, .int .i64 p0_s_at, .int .i64 p0_s_seed]]) W w [.row A47 n48 c49 2 1 (ints xs46), .blk b_p0_s 145 [.slice A_p0_s_code p0_s_code.length c_p0_s_code, .int .i64 r79.2.1, .int .i64 r79.2.2], .row A81 1 1 2 1 (ints ([(IntKind.i64.wrap (r79.1 - 15))]))] := hs
        obtain ⟨xs85, ha86, hm76⟩ := bind_some hm76
        refine sAppendL (i := 0) (xs := xs46) (ys := [(IntKind.i64.wrap (r79.1 - 15))]) (enc := ints) hf hs rfl rfl rfl rfl rfl rfl hn50 rfl rfl ha86 el23 ti2 rfl rfl rfl (hs.rd (i := 2) rfl) (Nat.succ_pos _) ints_len1 ints_append ints_one ?_; clear hf hs; intro a w A83 c84 hs hf
        have hs : St (muL [.blk b_p0_s 145 [.slice A_p0_s_code p0_s_code.length c_p0_s_code, .int .i64 p0_s_at, .int .i64 p0_s_seed]]) W w [.row A83 xs85.length c84 2 1 (ints xs85), .blk b_p0_s 145 [.slice A_p0_s_code p0_s_code.length c_p0_s_code, .int .i64 r79.2.1, .int .i64 r79.2.2], .row A81 1 1 2 1 (ints ([(IntKind.i64.wrap (r79.1 - 15))]))] := hs
        refine sY hf hs rfl rfl rfl (Y_assign rfl rfl) ?_; clear hf; intro a hf
        refine wpO_nil ?_
        refine wpL_seq ?_
        refine wpL_region ?_
        refine sY hf hs rfl rfl rfl (Y_move rfl rfl) ?_; clear hf; intro a hf
        obtain ⟨r87, hc88, hm76⟩ := bind_some hm76
        refine sCall hf rfl rfl rfl rfl (cap := []) rfl rfl en107 (spec_l01Next_ok F b_p0_s p0_s_code A_p0_s_code p0_s_code.length c_p0_s_code rfl r79.2.1 r79.2.2 8 _ _ hc88 (h_p0_s_code.pass hs [1]) (hs.sel [1] (by decide)).rebase) ?_; clear hf
        rintro _ w ⟨rfl, hs1⟩ a hf
        have hs : St (muL [.blk b_p0_s 145 [.slice A_p0_s_code p0_s_code.length c_p0_s_code, .int .i64 p0_s_at, .int .i64 p0_s_seed]]) W w [.row A83 xs85.length c84 2 1 (ints xs85), .row A81 1 1 2 1 (ints ([(IntKind.i64.wrap (r79.1 - 15))])), .blk b_p0_s 145 [.slice A_p0_s_code p0_s_code.length c_p0_s_code, .int .i64 r87.2.1, .int .i64 r87.2.2]] := St.mutTail (La := [.row A83 xs85.length c84 2 1 (ints xs85), .row A81 1 1 2 1 (ints ([(IntKind.i64.wrap (r79.1 - 15))]))]) (Lb := [.blk b_p0_s 145 [.slice A_p0_s_code p0_s_code.length c_p0_s_code, .int .i64 r79.2.1, .int .i64 r79.2.2]]) (hs.sel [0, 2, 1] (by decide)) hs1
        clear hs1
        refine sY hf hs rfl rfl rfl (Y_eql rfl rfl rfl) ?_; clear hf; intro a hf
        refine wpO_nil ?_
        refine wpL_cond hf rfl (fun hb89 => ?_) (fun hb89 => ?_)
        · have hm76 := bif_t hm76 hb89
          refine wpL_region ?_
          refine sY hf hs rfl rfl rfl (Y_move rfl rfl) ?_; clear hf; intro a hf
          refine sY hf hs rfl rfl rfl (Y_move rfl rfl) ?_; clear hf; intro a hf
          refine sY hf hs rfl rfl rfl (Y_lenH rfl rfl el23 rfl) ?_; clear hf; intro a hf
          refine sY hf hs rfl rfl rfl (Y_sub rfl rfl rfl) ?_; clear hf; intro a hf
          obtain ⟨q90, hi91, hm76⟩ := bind_some hm76
          obtain ⟨hi91a, hi91b, hi91q⟩ := idx_some hi91
          refine sY hf hs rfl rfl rfl (Y_index rfl rfl rfl el23 ti2 (Rd.isAt (hs.rd (i := 0) rfl) (at1 (ints_at hi91q))) hi91a hi91b) ?_; clear hf; intro a hf
          obtain ⟨xs92, hu93, hm76⟩ := bind_some hm76
          refine sStoreL (i := 0) (us := [.int .i64 (-1000000000000000)]) (enc := ints) hf hs rfl rfl rfl rfl rfl rfl rfl hu93 ti2 rfl rfl rfl rfl rfl ints_len1 (ints_set (-1000000000000000)) ?_; clear hs; intro w hs
          have hs : St (muL [.blk b_p0_s 145 [.slice A_p0_s_code p0_s_code.length c_p0_s_code, .int .i64 p0_s_at, .int .i64 p0_s_seed]]) W w [.row A83 xs85.length c84 2 1 (ints xs92), .row A81 1 1 2 1 (ints ([(IntKind.i64.wrap (r79.1 - 15))])), .blk b_p0_s 145 [.slice A_p0_s_code p0_s_code.length c_p0_s_code, .int .i64 r87.2.1, .int .i64 r87.2.2]] := hs
          refine wpO_nil ?_
          refine wpL_nil (Qb_normal ?_)
          refine wpL_region ?_
          refine sY hf hs rfl rfl rfl (Y_move rfl rfl) ?_; clear hf; intro a hf
          refine sY hf hs rfl rfl rfl (Y_sub rfl rfl rfl) ?_; clear hf; intro a hf
          refine sY hf hs rfl rfl rfl (Y_assign rfl rfl) ?_; clear hf; intro a hf
          refine wpO_nil ?_
          refine wpL_nil (Ql_normal ?_)
          exact ⟨r87.2.1, r87.2.2, (IntKind.i64.wrap (x45 - 1)), xs92, A83, xs85.length, c84, hm76, (upd_len hu93).symm, (FrD.pick (FrD.pick (FrD.pick hf.none hf rfl) hf rfl) hf rfl), hs.sel [2, 0] (by decide)⟩
        · have hm76 := bif_f hm76 hb89
          refine wpL_skip ?_
          refine wpL_nil (Qb_normal ?_)
          refine wpL_region ?_
          refine sY hf hs rfl rfl rfl (Y_move rfl rfl) ?_; clear hf; intro a hf
          refine sY hf hs rfl rfl rfl (Y_sub rfl rfl rfl) ?_; clear hf; intro a hf
          refine sY hf hs rfl rfl rfl (Y_assign rfl rfl) ?_; clear hf; intro a hf
          refine wpO_nil ?_
          refine wpL_nil (Ql_normal ?_)
          exact ⟨r87.2.1, r87.2.2, (IntKind.i64.wrap (x45 - 1)), xs85, A83, xs85.length, c84, hm76, rfl, (FrD.pick (FrD.pick (FrD.pick hf.none hf rfl) hf rfl) hf rfl), hs.sel [2, 0] (by decide)⟩
      · have hm76 := bif_f hm76 hb78
        refine wpL_exit (Ql_exit (Qb_exit ?_))
        exact ⟨x43, x44, xs46, A47, n48, c49, Option.some.inj hm76, hn50, (FrD.pick (FrD.pick hf.none hf rfl) hf rfl), hs⟩
  · rintro a w ⟨x67, x68, xs69, A70, n71, c72, hr_, hn73, hf, hs⟩
    subst hr_
    try dsimp only at hm
    refine wpL_seq ?_
    refine wpL_seq ?_
    refine wpL_region ?_
    refine sY hf hs rfl rfl rfl (Y_move rfl rfl) ?_; clear hf; intro a hf
    obtain ⟨r94, hc95, hm⟩ := bind_some hm
    refine sCall hf rfl rfl rfl rfl (cap := []) rfl rfl en107 (spec_l01Next_ok F b_p0_s p0_s_code A_p0_s_code p0_s_code.length c_p0_s_code rfl x67 x68 60 _ _ hc95 (h_p0_s_code.pass hs [0]) (hs.sel [0] (by decide)).rebase) ?_; clear hf
    rintro _ w ⟨rfl, hs1⟩ a hf
    have hs : St (muL [.blk b_p0_s 145 [.slice A_p0_s_code p0_s_code.length c_p0_s_code, .int .i64 p0_s_at, .int .i64 p0_s_seed]]) W w [.row A70 n71 c72 2 1 (ints xs69), .blk b_p0_s 145 [.slice A_p0_s_code p0_s_code.length c_p0_s_code, .int .i64 r94.2.1, .int .i64 r94.2.2]] := St.mutTail (La := [.row A70 n71 c72 2 1 (ints xs69)]) (Lb := [.blk b_p0_s 145 [.slice A_p0_s_code p0_s_code.length c_p0_s_code, .int .i64 x67, .int .i64 x68]]) (hs.sel [1, 0] (by decide)) hs1
    clear hs1
    refine wpO_nil ?_
    refine wpL_block0 ?_
    refine wpL_seq ?_
    refine wpL_region ?_
    refine sY hf hs rfl rfl rfl (Y_eql rfl rfl rfl) ?_; clear hf; intro a hf
    refine sY hf hs rfl rfl rfl (Y_assign rfl rfl) ?_; clear hf; intro a hf
    refine wpO_nil ?_
    refine wpL_cond hf rfl (fun hb96 => ?_) (fun hb96 => ?_)
    · have hm := bif_t hm hb96
      refine wpL_seq ?_
      refine wpL_region ?_
      refine sY hf hs rfl rfl rfl (Y_move rfl rfl) ?_; clear hf; intro a hf
      refine sY hf hs rfl rfl rfl (Y_move rfl rfl) ?_; clear hf; intro a hf
      obtain ⟨r97, hc98, hm⟩ := bind_some hm
      refine sCall hf rfl rfl rfl rfl (cap := []) rfl rfl en166 (spec_l01DrawValue_ok F b_p0_s p0_s_code A_p0_s_code p0_s_code.length c_p0_s_code rfl r94.2.1 r94.2.2 _ _ hc98 (h_p0_s_code.pass hs [1]) (hs.sel [1] (by decide)).rebase) ?_; clear hf
      rintro _ w ⟨rfl, hs1⟩ a hf
      have hs : St (muL [.blk b_p0_s 145 [.slice A_p0_s_code p0_s_code.length c_p0_s_code, .int .i64 p0_s_at, .int .i64 p0_s_seed]]) W w [.row A70 n71 c72 2 1 (ints xs69), .blk b_p0_s 145 [.slice A_p0_s_code p0_s_code.length c_p0_s_code, .int .i64 r97.2.1, .int .i64 r97.2.2]] := St.mutTail (La := [.row A70 n71 c72 2 1 (ints xs69)]) (Lb := [.blk b_p0_s 145 [.slice A_p0_s_code p0_s_code.length c_p0_s_code, .int .i64 r94.2.1, .int .i64 r94.2.2]]) (hs.sel [0, 1] (by decide)) hs1
      clear hs1
      refine sBuildSlice (parts := [(0, .tmp 31)]) (vs := [.int .i64 r97.1]) (cells := [.int .i64 r97.1]) hf hs rfl rfl rfl rfl rfl el23 ti2 rfl rfl rfl rfl ?_; clear hf hs; intro a w A99 hs hA100 hf
      have hs : St (muL [.blk b_p0_s 145 [.slice A_p0_s_code p0_s_code.length c_p0_s_code, .int .i64 p0_s_at, .int .i64 p0_s_seed]]) W w [.row A70 n71 c72 2 1 (ints xs69), .blk b_p0_s 145 [.slice A_p0_s_code p0_s_code.length c_p0_s_code, .int .i64 r97.2.1, .int .i64 r97.2.2], .row A99 1 1 2 1 (ints ([r97.1]))] := hs
      obtain ⟨xs103, ha104, hm⟩ := bind_some hm
      refine sAppendL (i := 0) (xs := xs69) (ys := [r97.1]) (enc := ints) hf hs rfl rfl rfl rfl rfl rfl hn73 rfl rfl ha104 el23 ti2 rfl rfl rfl (hs.rd (i := 2) rfl) (Nat.succ_pos _) ints_len1 ints_append ints_one ?_; clear hf hs; intro a w A101 c102 hs hf
      have hs : St (muL [.blk b_p0_s 145 [.slice A_p0_s_code p0_s_code.length c_p0_s_code, .int .i64 p0_s_at, .int .i64 p0_s_seed]]) W w [.row A101 xs103.length c102 2 1 (ints xs103), .blk b_p0_s 145 [.slice A_p0_s_code p0_s_code.length c_p0_s_code, .int .i64 r97.2.1, .int .i64 r97.2.2], .row A99 1 1 2 1 (ints ([r97.1]))] := hs
      refine sY hf hs rfl rfl rfl (Y_assign rfl rfl) ?_; clear hf; intro a hf
      refine wpO_nil ?_
      obtain rfl := Option.some.inj hm
      refine wpL_ret (Qb_ret (ret_tmp rfl hf rfl ?_))
      exact ⟨_, rfl, A101, xs103.length, c102, rfl, rfl, hs.sel [0, 1] (by decide)⟩
    · have hm := bif_f hm hb96
      refine wpL_seq ?_
      refine wpL_region ?_
      refine sY hf hs rfl rfl rfl (Y_eql rfl rfl rfl) ?_; clear hf; intro a hf
      refine sY hf hs rfl rfl rfl (Y_assign rfl rfl) ?_; clear hf; intro a hf
      refine wpO_nil ?_
      refine wpL_cond hf rfl (fun hb105 => ?_) (fun hb105 => ?_)
      · have hm := bif_t hm hb105
        refine wpL_seq ?_
        refine wpL_region ?_
        refine sY hf hs rfl rfl rfl (Y_assign rfl rfl) ?_; clear hf; intro a hf
        refine wpO_nil ?_
        have hs : St (muL [.blk b_p0_s 145 [.slice A_p0_s_code p0_s_code.length c_p0_s_code, .int .i64 p0_s_at, .int .i64 p0_s_seed]]) W _ [.row A70 n71 c72 2 1 (ints xs69), .blk b_p0_s 145 [.slice A_p0_s_code p0_s_code.length c_p0_s_code, .int .i64 r94.2.1, .int .i64 r94.2.2], .row none 0 0 2 1 (ints ([] : List Int))] := hs.addNil 2 1
        obtain rfl := Option.some.inj hm
        refine wpL_ret (Qb_ret (ret_tmp rfl hf rfl ?_))
        exact ⟨_, rfl, none, 0, 0, rfl, rfl, hs.sel [2, 1] (by decide)⟩
      · have hm := bif_f hm hb105
        refine wpL_skip ?_
        refine wpL_nil (Qb_normal ?_)
        refine wpL_seq ?_
        refine wpL_region ?_
        refine sY hf hs rfl rfl rfl (Y_move rfl rfl) ?_; clear hf; intro a hf
        refine sY hf hs rfl rfl rfl (Y_assign rfl rfl) ?_; clear hf; intro a hf
        refine wpO_nil ?_
        obtain rfl := Option.some.inj hm
        refine wpL_ret (ret_tmp rfl hf rfl ?_)
        exact ⟨_, rfl, A70, n71, c72, rfl, hn73, hs⟩

set_option maxRecDepth 100000 in
theorem spec_l24DrawSystem_ok (F : Nat) (b_p0_s : Nat) (p0_s_code : List Int) (A_p0_s_code : Option Addr) (n_p0_s_code c_p0_s_code : Nat) (hn_p0_s_code : n_p0_s_code = p0_s_code.length) (p0_s_at : Int) (p0_s_seed : Int) (r : (GSystem) × Int × Int) (W : World) (hm : spec_l24DrawSystem F p0_s_code p0_s_at p0_s_seed = some r) (h_p0_s_code : KR (muL [.blk b_p0_s 145 [.slice A_p0_s_code n_p0_s_code c_p0_s_code, .int .i64 p0_s_at, .int .i64 p0_s_seed]]) W A_p0_s_code (bytes p0_s_code)) (hst : St (muL [.blk b_p0_s 145 [.slice A_p0_s_code n_p0_s_code c_p0_s_code, .int .i64 p0_s_at, .int .i64 p0_s_seed]]) W W [.blk b_p0_s 145 [.slice A_p0_s_code n_p0_s_code c_p0_s_code, .int .i64 p0_s_at, .int .i64 p0_s_seed]]) :
    Calls Try.prog 102 [.pointer (some ⟨b_p0_s, 0, none⟩)].toArray W fun e w' => ∃ v, e = .returned v ∧ ∃ A42, ∃ n43, ∃ c44, ∃ vs46, ∃ A47, ∃ n48, ∃ c49, ∃ A51, ∃ n52, ∃ c53, v = .agg #[.slice A42 n43 c44, .slice A47 n48 c49, .slice A51 n52 c53] ∧ n43 = r.1.A.length ∧ n48 = r.1.B.length ∧ n52 = r.1.C.length ∧ St (muL [.blk b_p0_s 145 [.slice A_p0_s_code n_p0_s_code c_p0_s_code, .int .i64 p0_s_at, .int .i64 p0_s_seed]]) W w' [.mat A42 n43 c44 23 2 vs46 r.1.A, .row A47 n48 c49 2 1 (ints r.1.B), .row A51 n52 c53 2 1 (ints r.1.C), .blk b_p0_s 145 [.slice A_p0_s_code n_p0_s_code c_p0_s_code, .int .i64 r.2.1, .int .i64 r.2.2]] := by
  subst hn_p0_s_code
  unfold spec_l24DrawSystem at hm
  refine Calls.enter (N := 38) Try.func102 rfl rfl rfl (fun a hf => ?_)
  have hs := hst
  obtain ⟨w, hw_⟩ : ∃ w, w = W := ⟨W, rfl⟩
  clear hw_ w
  refine wpL_seq ?_
  refine wpL_region ?_
  refine sAlloc hf hs rfl rfl rfl rfl ti27 ?_; clear hf hs; intro a w b1 hs hf
  have hs : St (muL [.blk b_p0_s 145 [.slice A_p0_s_code p0_s_code.length c_p0_s_code, .int .i64 p0_s_at, .int .i64 p0_s_seed]]) W w [.blk b_p0_s 145 [.slice A_p0_s_code p0_s_code.length c_p0_s_code, .int .i64 p0_s_at, .int .i64 p0_s_seed], .blk b1 27 [.slice none 0 0, .slice none 0 0, .slice none 0 0]] := hs
  refine wpO_nil ?_
  refine wpL_seq ?_
  refine wpL_region ?_
  refine sY hf hs rfl rfl rfl (Y_move rfl rfl) ?_; clear hf; intro a hf
  obtain ⟨r2, hc3, hm⟩ := bind_some hm
  refine sCall hf rfl rfl rfl rfl (cap := []) rfl rfl en107 (spec_l01Next_ok F b_p0_s p0_s_code A_p0_s_code p0_s_code.length c_p0_s_code rfl p0_s_at p0_s_seed 4 _ _ hc3 (h_p0_s_code.pass hs [0]) (hs.sel [0] (by decide)).rebase) ?_; clear hf
  rintro _ w ⟨rfl, hs1⟩ a hf
  have hs : St (muL [.blk b_p0_s 145 [.slice A_p0_s_code p0_s_code.length c_p0_s_code, .int .i64 p0_s_at, .int .i64 p0_s_seed]]) W w [.blk b1 27 [.slice none 0 0, .slice none 0 0, .slice none 0 0], .blk b_p0_s 145 [.slice A_p0_s_code p0_s_code.length c_p0_s_code, .int .i64 r2.2.1, .int .i64 r2.2.2]] := St.mutTail (La := [.blk b1 27 [.slice none 0 0, .slice none 0 0, .slice none 0 0]]) (Lb := [.blk b_p0_s 145 [.slice A_p0_s_code p0_s_code.length c_p0_s_code, .int .i64 p0_s_at, .int .i64 p0_s_seed]]) (hs.sel [1, 0] (by decide)) hs1
  clear hs1
  refine sY hf hs rfl rfl rfl (Y_add rfl rfl rfl) ?_; clear hf; intro a hf
  refine sY hf hs rfl rfl rfl (Y_assign rfl rfl) ?_; clear hf; intro a hf
  refine wpO_nil ?_
  refine wpL_seq ?_
  refine wpL_region ?_
  refine sY hf hs rfl rfl rfl (Y_move rfl rfl) ?_; clear hf; intro a hf
  refine sY hf hs rfl rfl rfl (Y_move rfl rfl) ?_; clear hf; intro a hf
  refine sY hf hs rfl rfl rfl (Y_move rfl rfl) ?_; clear hf; intro a hf
  obtain ⟨r4, hc5, hm⟩ := bind_some hm
  refine sCall hf rfl rfl rfl rfl (cap := []) rfl rfl en165 (spec_l02DrawSize_ok F b_p0_s p0_s_code A_p0_s_code p0_s_code.length c_p0_s_code rfl r2.2.1 r2.2.2 (IntKind.i64.wrap (1 + r2.1)) (IntKind.i64.wrap (1 + r2.1)) _ _ hc5 (h_p0_s_code.pass hs [1]) (hs.sel [1] (by decide)).rebase) ?_; clear hf
  rintro _ w ⟨A6, n7, c8, vs10, rfl, hn9, hs1⟩ a hf
  have hs : St (muL [.blk b_p0_s 145 [.slice A_p0_s_code p0_s_code.length c_p0_s_code, .int .i64 p0_s_at, .int .i64 p0_s_seed]]) W w [.blk b1 27 [.slice none 0 0, .slice none 0 0, .slice none 0 0], .mat A6 n7 c8 23 2 vs10 r4.1, .blk b_p0_s 145 [.slice A_p0_s_code p0_s_code.length c_p0_s_code, .int .i64 r4.2.1, .int .i64 r4.2.2]] := St.mutTail (La := [.blk b1 27 [.slice none 0 0, .slice none 0 0, .slice none 0 0]]) (Lb := [.blk b_p0_s 145 [.slice A_p0_s_code p0_s_code.length c_p0_s_code, .int .i64 r2.2.1, .int .i64 r2.2.2]]) (hs.sel [0, 1] (by decide)) hs1
  clear hs1
  refine sY hf hs rfl rfl rfl (Y_assign rfl rfl) ?_; clear hf; intro a hf
  refine wpO_nil ?_
  refine wpL_seq ?_
  refine wpL_region ?_
  refine sY hf hs rfl rfl rfl (Y_move rfl rfl) ?_; clear hf; intro a hf
  refine sY hf hs rfl rfl rfl (Y_move rfl rfl) ?_; clear hf; intro a hf
  obtain ⟨r11, hc12, hm⟩ := bind_some hm
  refine sCall hf rfl rfl rfl rfl (cap := []) rfl rfl en108 (spec_l02DrawVector_ok F b_p0_s p0_s_code A_p0_s_code p0_s_code.length c_p0_s_code rfl r4.2.1 r4.2.2 (IntKind.i64.wrap (1 + r2.1)) _ _ hc12 (h_p0_s_code.pass hs [2]) (hs.sel [2] (by decide)).rebase) ?_; clear hf
  rintro _ w ⟨A13, n14, c15, rfl, hn16, hs1⟩ a hf
  have hs : St (muL [.blk b_p0_s 145 [.slice A_p0_s_code p0_s_code.length c_p0_s_code, .int .i64 p0_s_at, .int .i64 p0_s_seed]]) W w [.blk b1 27 [.slice none 0 0, .slice none 0 0, .slice none 0 0], .mat A6 n7 c8 23 2 vs10 r4.1, .row A13 n14 c15 2 1 (ints r11.1), .blk b_p0_s 145 [.slice A_p0_s_code p0_s_code.length c_p0_s_code, .int .i64 r11.2.1, .int .i64 r11.2.2]] := St.mutTail (La := [.blk b1 27 [.slice none 0 0, .slice none 0 0, .slice none 0 0], .mat A6 n7 c8 23 2 vs10 r4.1]) (Lb := [.blk b_p0_s 145 [.slice A_p0_s_code p0_s_code.length c_p0_s_code, .int .i64 r4.2.1, .int .i64 r4.2.2]]) (hs.sel [0, 1, 2] (by decide)) hs1
  clear hs1
  refine sY hf hs rfl rfl rfl (Y_move rfl rfl) ?_; clear hf; intro a hf
  refine sY hf hs rfl rfl rfl (Y_move rfl rfl) ?_; clear hf; intro a hf
  obtain ⟨r17, hc18, hm⟩ := bind_some hm
  refine sCall hf rfl rfl rfl rfl (cap := []) rfl rfl en108 (spec_l02DrawVector_ok F b_p0_s p0_s_code A_p0_s_code p0_s_code.length c_p0_s_code rfl r11.2.1 r11.2.2 (IntKind.i64.wrap (1 + r2.1)) _ _ hc18 (h_p0_s_code.pass hs [3]) (hs.sel [3] (by decide)).rebase) ?_; clear hf
  rintro _ w ⟨A19, n20, c21, rfl, hn22, hs1⟩ a hf
  have hs : St (muL [.blk b_p0_s 145 [.slice A_p0_s_code p0_s_code.length c_p0_s_code, .int .i64 p0_s_at, .int .i64 p0_s_seed]]) W w [.blk b1 27 [.slice none 0 0, .slice none 0 0, .slice none 0 0], .mat A6 n7 c8 23 2 vs10 r4.1, .row A13 n14 c15 2 1 (ints r11.1), .row A19 n20 c21 2 1 (ints r17.1), .blk b_p0_s 145 [.slice A_p0_s_code p0_s_code.length c_p0_s_code, .int .i64 r17.2.1, .int .i64 r17.2.2]] := St.mutTail (La := [.blk b1 27 [.slice none 0 0, .slice none 0 0, .slice none 0 0], .mat A6 n7 c8 23 2 vs10 r4.1, .row A13 n14 c15 2 1 (ints r11.1)]) (Lb := [.blk b_p0_s 145 [.slice A_p0_s_code p0_s_code.length c_p0_s_code, .int .i64 r11.2.1, .int .i64 r11.2.2]]) (hs.sel [0, 1, 2, 3] (by decide)) hs1
  clear hs1
  refine sY hf hs rfl rfl rfl (Y_assign rfl rfl) ?_; clear hf; intro a hf
  refine sY hf hs rfl rfl rfl (Y_assign rfl rfl) ?_; clear hf; intro a hf
  refine wpO_nil ?_
  refine wpL_seq ?_
  refine wpL_seq ?_
  refine wpL_region ?_
  refine sY hf hs rfl rfl rfl (Y_move rfl rfl) ?_; clear hf; intro a hf
  obtain ⟨r23, hc24, hm⟩ := bind_some hm
  refine sCall hf rfl rfl rfl rfl (cap := []) rfl rfl en107 (spec_l01Next_ok F b_p0_s p0_s_code A_p0_s_code p0_s_code.length c_p0_s_code rfl r17.2.1 r17.2.2 30 _ _ hc24 (h_p0_s_code.pass hs [4]) (hs.sel [4] (by decide)).rebase) ?_; clear hf
  rintro _ w ⟨rfl, hs1⟩ a hf
  have hs : St (muL [.blk b_p0_s 145 [.slice A_p0_s_code p0_s_code.length c_p0_s_code, .int .i64 p0_s_at, .int .i64 p0_s_seed]]) W w [.blk b1 27 [.slice none 0 0, .slice none 0 0, .slice none 0 0], .mat A6 n7 c8 23 2 vs10 r4.1, .row A13 n14 c15 2 1 (ints r11.1), .row A19 n20 c21 2 1 (ints r17.1), .blk b_p0_s 145 [.slice A_p0_s_code p0_s_code.length c_p0_s_code, .int .i64 r23.2.1, .int .i64 r23.2.2]] := St.mutTail (La := [.blk b1 27 [.slice none 0 0, .slice none 0 0, .slice none 0 0], .mat A6 n7 c8 23 2 vs10 r4.1, .row A13 n14 c15 2 1 (ints r11.1), .row A19 n20 c21 2 1 (ints r17.1)]) (Lb := [.blk b_p0_s 145 [.slice A_p0_s_code p0_s_code.length c_p0_s_code, .int .i64 r17.2.1, .int .i64 r17.2.2]]) (hs.sel [0, 1, 2, 3, 4] (by decide)) hs1
  clear hs1
  refine sY hf hs rfl rfl rfl (Y_eql rfl rfl rfl) ?_; clear hf; intro a hf
  refine wpO_nil ?_
  refine wpL_cond hf rfl (fun hb25 => ?_) (fun hb25 => ?_)
  · have hm := bif_t hm hb25
    refine wpL_seq ?_
    refine wpL_region ?_
    refine sY hf hs rfl rfl rfl (Y_move rfl rfl) ?_; clear hf; intro a hf
    refine sBuildSlice (parts := [(0, .const (.int .i64 30000)), (1, .const (.int .i64 5))]) (vs := [.int .i64 30000, .int .i64 5]) (cells := [.int .i64 30000, .int .i64 5]) hf hs rfl rfl rfl rfl rfl el23 ti2 rfl rfl rfl rfl ?_; clear hf hs; intro a w A26 hs hA27 hf
    have hs : St (muL [.blk b_p0_s 145 [.slice A_p0_s_code p0_s_code.length c_p0_s_code, .int .i64 p0_s_at, .int .i64 p0_s_seed]]) W w [.blk b1 27 [.slice none 0 0, .slice none 0 0, .slice none 0 0], .mat A6 n7 c8 23 2 vs10 r4.1, .row A13 n14 c15 2 1 (ints r11.1), .row A19 n20 c21 2 1 (ints r17.1), .blk b_p0_s 145 [.slice A_p0_s_code p0_s_code.length c_p0_s_code, .int .i64 r23.2.1, .int .i64 r23.2.2], .row A26 2 2 2 1 (ints ([30000, 5]))] := hs
    obtain ⟨r28, hc29, hm⟩ := bind_some hm
    refine sCall hf rfl rfl rfl rfl (cap := []) rfl rfl en114 (spec_l01Pick_ok F b_p0_s p0_s_code A_p0_s_code p0_s_code.length c_p0_s_code rfl r23.2.1 r23.2.2 ([30000, 5]) A26 2 2 rfl _ _ hc29 (h_p0_s_code.pass hs [4]) (hs.keepR (i := 5) rfl [4] (by decide)) (hs.sel [4] (by decide)).rebase) ?_; clear hf
    rintro _ w ⟨rfl, hs1⟩ a hf
    have hs : St (muL [.blk b_p0_s 145 [.slice A_p0_s_code p0_s_code.length c_p0_s_code, .int .i64 p0_s_at, .int .i64 p0_s_seed]]) W w [.blk b1 27 [.slice none 0 0, .slice none 0 0, .slice none 0 0], .mat A6 n7 c8 23 2 vs10 r4.1, .row A13 n14 c15 2 1 (ints r11.1), .row A19 n20 c21 2 1 (ints r17.1), .row A26 2 2 2 1 (ints ([30000, 5])), .blk b_p0_s 145 [.slice A_p0_s_code p0_s_code.length c_p0_s_code, .int .i64 r28.2.1, .int .i64 r28.2.2]] := St.mutTail (La := [.blk b1 27 [.slice none 0 0, .slice none 0 0, .slice none 0 0], .mat A6 n7 c8 23 2 vs10 r4.1, .row A13 n14 c15 2 1 (ints r11.1), .row A19 n20 c21 2 1 (ints r17.1), .row A26 2 2 2 1 (ints ([30000, 5]))]) (Lb := [.blk b_p0_s 145 [.slice A_p0_s_code p0_s_code.length c_p0_s_code, .int .i64 r23.2.1, .int .i64 r23.2.2]]) (hs.sel [0, 1, 2, 3, 5, 4] (by decide)) hs1
    clear hs1
    refine sBuildSlice (parts := [(0, .tmp 25)]) (vs := [.int .i64 r28.1]) (cells := [.int .i64 r28.1]) hf hs rfl rfl rfl rfl rfl el23 ti2 rfl rfl rfl rfl ?_; clear hf hs; intro a w A30 hs hA31 hf
    have hs : St (muL [.blk b_p0_s 145 [.slice A_p0_s_code p0_s_code.length c_p0_s_code, .int .i64 p0_s_at, .int .i64 p0_s_seed]]) W w [.blk b1 27 [.slice none 0 0, .slice none 0 0, .slice none 0 0], .mat A6 n7 c8 23 2 vs10 r4.1, .row A13 n14 c15 2 1 (ints r11.1), .row A19 n20 c21 2 1 (ints r17.1), .row A26 2 2 2 1 (ints ([30000, 5])), .blk b_p0_s 145 [.slice A_p0_s_code p0_s_code.length c_p0_s_code, .int .i64 r28.2.1, .int .i64 r28.2.2], .row A30 1 1 2 1 (ints ([r28.1]))] := hs
    refine sOneM (j := 6) hf hs rfl rfl rfl rfl rfl rfl rfl el22 ti23 ?_; clear hf hs; intro a w A32 hs hf
    have hs : St (muL [.blk b_p0_s 145 [.slice A_p0_s_code p0_s_code.length c_p0_s_code, .int .i64 p0_s_at, .int .i64 p0_s_seed]]) W w [.blk b1 27 [.slice none 0 0, .slice none 0 0, .slice none 0 0], .mat A6 n7 c8 23 2 vs10 r4.1, .row A13 n14 c15 2 1 (ints r11.1), .row A19 n20 c21 2 1 (ints r17.1), .row A26 2 2 2 1 (ints ([30000, 5])), .blk b_p0_s 145 [.slice A_p0_s_code p0_s_code.length c_p0_s_code, .int .i64 r28.2.1, .int .i64 r28.2.2], .mat A32 1 1 23 2 ([Value.slice A30 ([r28.1]).length 1]) ([[r28.1]])] := hs
    refine sBuildSlice (parts := [(0, .const (.int .i64 0))]) (vs := [.int .i64 0]) (cells := [.int .i64 0]) hf hs rfl rfl rfl rfl rfl el23 ti2 rfl rfl rfl rfl ?_; clear hf hs; intro a w A34 hs hA35 hf
    have hs : St (muL [.blk b_p0_s 145 [.slice A_p0_s_code p0_s_code.length c_p0_s_code, .int .i64 p0_s_at, .int .i64 p0_s_seed]]) W w [.blk b1 27 [.slice none 0 0, .slice none 0 0, .slice none 0 0], .mat A6 n7 c8 23 2 vs10 r4.1, .row A13 n14 c15 2 1 (ints r11.1), .row A19 n20 c21 2 1 (ints r17.1), .row A26 2 2 2 1 (ints ([30000, 5])), .blk b_p0_s 145 [.slice A_p0_s_code p0_s_code.length c_p0_s_code, .int .i64 r28.2.1, .int .i64 r28.2.2], .mat A32 1 1 23 2 ([Value.slice A30 ([r28.1]).length 1]) ([[r28.1]]), .row A34 1 1 2 1 (ints ([0]))] := hs
    refine sY hf hs rfl rfl rfl (Y_move rfl rfl) ?_; clear hf; intro a hf
    refine sBuildSlice (parts := [(0, .const (.int .i64 1000000)), (1, .const (.int .i64 0))]) (vs := [.int .i64 1000000, .int .i64 0]) (cells := [.int .i64 1000000, .int .i64 0]) hf hs rfl rfl rfl rfl rfl el23 ti2 rfl rfl rfl rfl ?_; clear hf hs; intro a w A36 hs hA37 hf
    have hs : St (muL [.blk b_p0_s 145 [.slice A_p0_s_code p0_s_code.length c_p0_s_code, .int .i64 p0_s_at, .int .i64 p0_s_seed]]) W w [.blk b1 27 [.slice none 0 0, .slice none 0 0, .slice none 0 0], .mat A6 n7 c8 23 2 vs10 r4.1, .row A13 n14 c15 2 1 (ints r11.1), .row A19 n20 c21 2 1 (ints r17.1), .row A26 2 2 2 1 (ints ([30000, 5])), .blk b_p0_s 145 [.slice A_p0_s_code p0_s_code.length c_p0_s_code, .int .i64 r28.2.1, .int .i64 r28.2.2], .mat A32 1 1 23 2 ([Value.slice A30 ([r28.1]).length 1]) ([[r28.1]]), .row A34 1 1 2 1 (ints ([0])), .row A36 2 2 2 1 (ints ([1000000, 0]))] := hs
    obtain ⟨r38, hc39, hm⟩ := bind_some hm
    refine sCall hf rfl rfl rfl rfl (cap := []) rfl rfl en114 (spec_l01Pick_ok F b_p0_s p0_s_code A_p0_s_code p0_s_code.length c_p0_s_code rfl r28.2.1 r28.2.2 ([1000000, 0]) A36 2 2 rfl _ _ hc39 (h_p0_s_code.pass hs [5]) (hs.keepR (i := 8) rfl [5] (by decide)) (hs.sel [5] (by decide)).rebase) ?_; clear hf
    rintro _ w ⟨rfl, hs1⟩ a hf
    have hs : St (muL [.blk b_p0_s 145 [.slice A_p0_s_code p0_s_code.length c_p0_s_code, .int .i64 p0_s_at, .int .i64 p0_s_seed]]) W w [.blk b1 27 [.slice none 0 0, .slice none 0 0, .slice none 0 0], .mat A6 n7 c8 23 2 vs10 r4.1, .row A13 n14 c15 2 1 (ints r11.1), .row A19 n20 c21 2 1 (ints r17.1), .row A26 2 2 2 1 (ints ([30000, 5])), .mat A32 1 1 23 2 ([Value.slice A30 ([r28.1]).length 1]) ([[r28.1]]), .row A34 1 1 2 1 (ints ([0])), .row A36 2 2 2 1 (ints ([1000000, 0])), .blk b_p0_s 145 [.slice A_p0_s_code p0_s_code.length c_p0_s_code, .int .i64 r38.2.1, .int .i64 r38.2.2]] := St.mutTail (La := [.blk b1 27 [.slice none 0 0, .slice none 0 0, .slice none 0 0], .mat A6 n7 c8 23 2 vs10 r4.1, .row A13 n14 c15 2 1 (ints r11.1), .row A19 n20 c21 2 1 (ints r17.1), .row A26 2 2 2 1 (ints ([30000, 5])), .mat A32 1 1 23 2 ([Value.slice A30 ([r28.1]).length 1]) ([[r28.1]]), .row A34 1 1 2 1 (ints ([0])), .row A36 2 2 2 1 (ints ([1000000, 0]))]) (Lb := [.blk b_p0_s 145 [.slice A_p0_s_code p0_s_code.length c_p0_s_code, .int .i64 r28.2.1, .int .i64 r28.2.2]]) (hs.sel [0, 1, 2, 3, 4, 6, 7, 8, 5] (by decide)) hs1
    clear hs1
    refine sBuildSlice (parts := [(0, .tmp 31)]) (vs := [.int .i64 r38.1]) (cells := [.int .i64 r38.1]) hf hs rfl rfl rfl rfl rfl el23 ti2 rfl rfl rfl rfl ?_; clear hf hs; intro a w A40 hs hA41 hf
    have hs : St (muL [.blk b_p0_s 145 [.slice A_p0_s_code p0_s_code.length c_p0_s_code, .int .i64 p0_s_at, .int .i64 p0_s_seed]]) W w [.blk b1 27 [.slice none 0 0, .slice none 0 0, .slice none 0 0], .mat A6 n7 c8 23 2 vs10 r4.1, .row A13 n14 c15 2 1 (ints r11.1), .row A19 n20 c21 2 1 (ints r17.1), .row A26 2 2 2 1 (ints ([30000, 5])), .mat A32 1 1 23 2 ([Value.slice A30 ([r28.1]).length 1]) ([[r28.1]]), .row A34 1 1 2 1 (ints ([0])), .row A36 2 2 2 1 (ints ([1000000, 0])), .blk b_p0_s 145 [.slice A_p0_s_code p0_s_code.length c_p0_s_code, .int .i64 r38.2.1, .int .i64 r38.2.2], .row A40 1 1 2 1 (ints ([r38.1]))] := hs
    refine sY hf hs rfl rfl rfl (Y_build (parts := [(0, .tmp 27), (1, .tmp 28), (2, .tmp 32)]) (vs := [.slice A32 1 1, .slice A34 1 1, .slice A40 1 1]) rfl rfl (run_build (parts := [(0, .slice A32 1 1), (1, .slice A34 1 1), (2, .slice A40 1 1)]) (cells := [.slice A32 1 1, .slice A34 1 1, .slice A40 1 1]) (places := #[(0, 1), (1, 1), (2, 1)]) ti27 Try.underlying27 (fun w => by simp [go_sem]) rfl)) ?_; clear hf; intro a hf
    refine sStore (i := 0) (us := [.slice A32 1 1, .slice A34 1 1, .slice A40 1 1]) hf hs rfl rfl rfl rfl rfl rfl ti27 rfl rfl rfl (Nat.le_of_ble_eq_true rfl) rfl ?_; clear hs; intro w hs
    have hs : St (muL [.blk b_p0_s 145 [.slice A_p0_s_code p0_s_code.length c_p0_s_code, .int .i64 p0_s_at, .int .i64 p0_s_seed]]) W w [.blk b1 27 [.slice A32 1 1, .slice A34 1 1, .slice A40 1 1], .mat A6 n7 c8 23 2 vs10 r4.1, .row A13 n14 c15 2 1 (ints r11.1), .row A19 n20 c21 2 1 (ints r17.1), .row A26 2 2 2 1 (ints ([30000, 5])), .mat A32 1 1 23 2 ([Value.slice A30 ([r28.1]).length 1]) ([[r28.1]]), .row A34 1 1 2 1 (ints ([0])), .row A36 2 2 2 1 (ints ([1000000, 0])), .blk b_p0_s 145 [.slice A_p0_s_code p0_s_code.length c_p0_s_code, .int .i64 r38.2.1, .int .i64 r38.2.2], .row A40 1 1 2 1 (ints ([r38.1]))] := hs
    refine wpO_nil ?_
    obtain rfl := Option.some.inj hm
    refine wpL_ret (ret_cell rfl hf rfl hs (i := 0) rfl ag27 ti27 rfl ?_)
    exact ⟨_, rfl, A32, 1, 1, [Value.slice A30 ([r28.1]).length 1], A34, 1, 1, A40, 1, 1, rfl, rfl, rfl, rfl, hs.sel [5, 6, 9, 8] (by decide)⟩
  · have hm := bif_f hm hb25
    refine wpL_skip ?_
    refine wpL_seq ?_
    refine wpL_region ?_
    refine sY hf hs rfl rfl rfl (Y_move rfl rfl) ?_; clear hf; intro a hf
    refine sY hf hs rfl rfl rfl (Y_move rfl rfl) ?_; clear hf; intro a hf
    refine sY hf hs rfl rfl rfl (Y_move rfl rfl) ?_; clear hf; intro a hf
    refine sY hf hs rfl rfl rfl (Y_build (parts := [(0, .tmp 34), (1, .tmp 35), (2, .tmp 36)]) (vs := [.slice A6 n7 c8, .slice A13 n14 c15, .slice A19 n20 c21]) rfl rfl (run_build (parts := [(0, .slice A6 n7 c8), (1, .slice A13 n14 c15), (2, .slice A19 n20 c21)]) (cells := [.slice A6 n7 c8, .slice A13 n14 c15, .slice A19 n20 c21]) (places := #[(0, 1), (1, 1), (2, 1)]) ti27 Try.underlying27 (fun w => by simp [go_sem]) rfl)) ?_; clear hf; intro a hf
    refine sStore (i := 0) (us := [.slice A6 n7 c8, .slice A13 n14 c15, .slice A19 n20 c21]) hf hs rfl rfl rfl rfl rfl rfl ti27 rfl rfl rfl (Nat.le_of_ble_eq_true rfl) rfl ?_; clear hs; intro w hs
    have hs : St (muL [.blk b_p0_s 145 [.slice A_p0_s_code p0_s_code.length c_p0_s_code, .int .i64 p0_s_at, .int .i64 p0_s_seed]]) W w [.blk b1 27 [.slice A6 n7 c8, .slice A13 n14 c15, .slice A19 n20 c21], .mat A6 n7 c8 23 2 vs10 r4.1, .row A13 n14 c15 2 1 (ints r11.1), .row A19 n20 c21 2 1 (ints r17.1), .blk b_p0_s 145 [.slice A_p0_s_code p0_s_code.length c_p0_s_code, .int .i64 r23.2.1, .int .i64 r23.2.2]] := hs
    refine wpO_nil ?_
    obtain rfl := Option.some.inj hm
    refine wpL_ret (ret_cell rfl hf rfl hs (i := 0) rfl ag27 ti27 rfl ?_)
    exact ⟨_, rfl, A6, n7, c8, vs10, A13, n14, c15, A19, n20, c21, rfl, hn9, hn16, hn22, hs.sel [1, 2, 3, 4] (by decide)⟩

set_option maxRecDepth 100000 in
theorem spec_l24DrawInputs_ok (F : Nat) (b_p0_s : Nat) (p0_s_code : List Int) (A_p0_s_code : Option Addr) (n_p0_s_code c_p0_s_code : Nat) (hn_p0_s_code : n_p0_s_code = p0_s_code.length) (p0_s_at : Int) (p0_s_seed : Int) (p1_bottom : Bool) (r : (List Int) × Int × Int) (W : World) (hm : spec_l24DrawInputs F p0_s_code p0_s_at p0_s_seed p1_bottom = some r) (h_p0_s_code : KR (muL [.blk b_p0_s 145 [.slice A_p0_s_code n_p0_s_code c_p0_s_code, .int .i64 p0_s_at, .int .i64 p0_s_seed]]) W A_p0_s_code (bytes p0_s_code)) (hst : St (muL [.blk b_p0_s 145 [.slice A_p0_s_code n_p0_s_code c_p0_s_code, .int .i64 p0_s_at, .int .i64 p0_s_seed]]) W W [.blk b_p0_s 145 [.slice A_p0_s_code n_p0_s_code c_p0_s_code, .int .i64 p0_s_at, .int .i64 p0_s_seed]]) :
    Calls Try.prog 109 [.pointer (some ⟨b_p0_s, 0, none⟩), .bool p1_bottom].toArray W fun e w' => ∃ v, e = .returned v ∧ ∃ A153, ∃ n154, ∃ c155, v = .slice A153 n154 c155 ∧ n154 = r.1.length ∧ St (muL [.blk b_p0_s 145 [.slice A_p0_s_code n_p0_s_code c_p0_s_code, .int .i64 p0_s_at, .int .i64 p0_s_seed]]) W w' [.row A153 n154 c155 2 1 (ints r.1), .blk b_p0_s 145 [.slice A_p0_s_code n_p0_s_code c_p0_s_code, .int .i64 r.2.1, .int .i64 r.2.2]] := by
  subst hn_p0_s_code
  unfold spec_l24DrawInputs at hm
  refine Calls.enter (N := 53) Try.func109 rfl rfl rfl (fun a hf => ?_)
  have hs := hst
  obtain ⟨w, hw_⟩ : ∃ w, w = W := ⟨W, rfl⟩
  clear hw_ w
  refine wpL_seq ?_
  refine wpL_region ?_
  refine sY hf hs rfl rfl rfl (Y_assign rfl rfl) ?_; clear hf; intro a hf
  refine wpO_nil ?_
  refine wpL_seq ?_
  refine wpL_region ?_
  refine sEmpty hf hs rfl rfl rfl rfl el23 ti2 ?_; clear hf hs; intro a w A1 hs hf
  have hs : St (muL [.blk b_p0_s 145 [.slice A_p0_s_code p0_s_code.length c_p0_s_code, .int .i64 p0_s_at, .int .i64 p0_s_seed]]) W w [.blk b_p0_s 145 [.slice A_p0_s_code p0_s_code.length c_p0_s_code, .int .i64 p0_s_at, .int .i64 p0_s_seed], .row A1 0 0 2 1 (ints ([] : List Int))] := hs
  refine sY hf hs rfl rfl rfl (Y_assign rfl rfl) ?_; clear hf; intro a hf
  refine wpO_nil ?_
  refine wpL_seq ?_
  refine wpL_region ?_
  refine sY hf hs rfl rfl rfl (Y_move rfl rfl) ?_; clear hf; intro a hf
  obtain ⟨r3, hc4, hm⟩ := bind_some hm
  refine sCall hf rfl rfl rfl rfl (cap := []) rfl rfl en107 (spec_l01Next_ok F b_p0_s p0_s_code A_p0_s_code p0_s_code.length c_p0_s_code rfl p0_s_at p0_s_seed 10 _ _ hc4 (h_p0_s_code.pass hs [0]) (hs.sel [0] (by decide)).rebase) ?_; clear hf
  rintro _ w ⟨rfl, hs1⟩ a hf
  have hs : St (muL [.blk b_p0_s 145 [.slice A_p0_s_code p0_s_code.length c_p0_s_code, .int .i64 p0_s_at, .int .i64 p0_s_seed]]) W w [.row A1 0 0 2 1 (ints ([] : List Int)), .blk b_p0_s 145 [.slice A_p0_s_code p0_s_code.length c_p0_s_code, .int .i64 r3.2.1, .int .i64 r3.2.2]] := St.mutTail (La := [.row A1 0 0 2 1 (ints ([] : List Int))]) (Lb := [.blk b_p0_s 145 [.slice A_p0_s_code p0_s_code.length c_p0_s_code, .int .i64 p0_s_at, .int .i64 p0_s_seed]]) (hs.sel [1, 0] (by decide)) hs1
  clear hs1
  refine sY hf hs rfl rfl rfl (Y_assign rfl rfl) ?_; clear hf; intro a hf
  refine wpO_nil ?_
  refine wpL_seq ?_
  refine wpL_seq ?_
  refine wpL_region ?_
  refine sY hf hs rfl rfl rfl (Y_move rfl rfl) ?_; clear hf; intro a hf
  obtain ⟨r5, hc6, hm⟩ := bind_some hm
  refine sCall hf rfl rfl rfl rfl (cap := []) rfl rfl en107 (spec_l01Next_ok F b_p0_s p0_s_code A_p0_s_code p0_s_code.length c_p0_s_code rfl r3.2.1 r3.2.2 8 _ _ hc6 (h_p0_s_code.pass hs [1]) (hs.sel [1] (by decide)).rebase) ?_; clear hf
  rintro _ w ⟨rfl, hs1⟩ a hf
  have hs : St (muL [.blk b_p0_s 145 [.slice A_p0_s_code p0_s_code.length c_p0_s_code, .int .i64 p0_s_at, .int .i64 p0_s_seed]]) W w [.row A1 0 0 2 1 (ints ([] : List Int)), .blk b_p0_s 145 [.slice A_p0_s_code p0_s_code.length c_p0_s_code, .int .i64 r5.2.1, .int .i64 r5.2.2]] := St.mutTail (La := [.row A1 0 0 2 1 (ints ([] : List Int))]) (Lb := [.blk b_p0_s 145 [.slice A_p0_s_code p0_s_code.length c_p0_s_code, .int .i64 r3.2.1, .int .i64 r3.2.2]]) (hs.sel [0, 1] (by decide)) hs1
  clear hs1
  refine sY hf hs rfl rfl rfl (Y_assign rfl rfl) ?_; clear hf; intro a hf
  refine wpO_nil ?_
  obtain ⟨r107, hl108, hm⟩ := bind_some hm
  refine wpL_block (fun a w => ∃ x100 : Int, ∃ x101 : Int, ∃ xs102 : List Int, ∃ A103, ∃ n104, ∃ c105, (x100, x101, xs102) = r107 ∧ n104 = xs102.length ∧ Fr a 53 [(0, .pointer (some ⟨b_p0_s, 0, none⟩)), (5, .slice A103 n104 c105)] ∧ St (muL [.blk b_p0_s 145 [.slice A_p0_s_code p0_s_code.length c_p0_s_code, .int .i64 p0_s_at, .int .i64 p0_s_seed]]) W w [.blk b_p0_s 145 [.slice A_p0_s_code p0_s_code.length c_p0_s_code, .int .i64 x100, .int .i64 x101], .row A103 n104 c105 2 1 (ints xs102)]) ?_ ?_
  · refine wpL_loop (fun n a w => ∃ x66 : Int, ∃ x67 : Int, ∃ xs68 : List Int, ∃ x73 : Int, ∃ x74 : Int, ∃ A69, ∃ n70, ∃ c71, spec_l24DrawInputs_L1 F p0_s_code p1_bottom n x66 x67 xs68 x73 x74 = some r107 ∧ n70 = xs68.length ∧ Fr a 53 [(0, .pointer (some ⟨b_p0_s, 0, none⟩)), (1, .bool p1_bottom), (5, .slice A69 n70 c71), (6, .int .i64 x73), (7, .int .i64 x74)] ∧ St (muL [.blk b_p0_s 145 [.slice A_p0_s_code p0_s_code.length c_p0_s_code, .int .i64 p0_s_at, .int .i64 p0_s_seed]]) W w [.blk b_p0_s 145 [.slice A_p0_s_code p0_s_code.length c_p0_s_code, .int .i64 x66, .int .i64 x67], .row A69 n70 c71 2 1 (ints xs68)]) F ?_ ?_ ?_
    · exact ⟨r5.2.1, r5.2.2, ([] : List Int), r3.1, r5.1, A1, 0, 0, hl108, rfl, (FrD.pick (FrD.pick (FrD.pick (FrD.pick (FrD.pick hf.none hf rfl) hf rfl) hf rfl) hf rfl) hf rfl), hs.sel [1, 0] (by decide)⟩
    · rintro a w ⟨x66, x67, xs68, x73, x74, A69, n70, c71, h0_, -, -, -⟩; simp [spec_l24DrawInputs_L1] at h0_
    · rintro n110 a w ⟨x66, x67, xs68, x73, x74, A69, n70, c71, hm109, hn72, hf, hs⟩
      rw [spec_l24DrawInputs_L1] at hm109
      refine wpL_seq ?_
      refine wpL_seq ?_
      refine wpL_region ?_
      refine sY hf hs rfl rfl rfl (Y_move rfl rfl) ?_; clear hf; intro a hf
      refine sY hf hs rfl rfl rfl (Y_gtr rfl rfl rfl) ?_; clear hf; intro a hf
      refine wpO_nil ?_
      refine wpL_cond hf rfl (fun hb111 => ?_) (fun hb111 => ?_)
      · have hm109 := bif_t hm109 hb111
        refine wpL_skip ?_
        refine wpL_seq ?_
        refine wpL_block0 ?_
        refine wpL_seq ?_
        refine wpL_region ?_
        refine sY hf hs rfl rfl rfl (Y_move rfl rfl) ?_; clear hf; intro a hf
        refine sY hf hs rfl rfl rfl (Y_move rfl rfl) ?_; clear hf; intro a hf
        refine sBuildSlice (parts := [(0, .tmp 18)]) (vs := [.int .i64 x73]) (cells := [.int .i64 x73]) hf hs rfl rfl rfl rfl rfl el23 ti2 rfl rfl rfl rfl ?_; clear hf hs; intro a w A112 hs hA113 hf
        have hs : St (muL [.blk b_p0_s 145 [.slice A_p0_s_code p0_s_code.length c_p0_s_code, .int .i64 p0_s_at, .int .i64 p0_s_seed]]) W w [.blk b_p0_s 145 [.slice A_p0_s_code p0_s_code.length c_p0_s_code, .int .i64 x66, .int .i64 x67], .row A69 n70 c71 2 1 (ints xs68), .row A112 1 1 2 1 (ints ([x73]))] := hs
        obtain ⟨xs116, ha117, hm109⟩ := bind_some hm109
        refine sAppendL (i := 1) (xs := xs68) (ys := [x73]) (enc := ints) hf hs rfl rfl rfl rfl rfl rfl hn72 rfl rfl ha117 el23 ti2 rfl rfl rfl (hs.rd (i := 2) rfl) (Nat.succ_pos _) ints_len1 ints_append ints_one ?_; clear hf hs; intro a w A114 c115 hs hf
        have hs : St (muL [.blk b_p0_s 145 [.slice A_p0_s_code p0_s_code.length c_p0_s_code, .int .i64 p0_s_at, .int .i64 p0_s_seed]]) W w [.blk b_p0_s 145 [.slice A_p0_s_code p0_s_code.length c_p0_s_code, .int .i64 x66, .int .i64 x67], .row A114 xs116.length c115 2 1 (ints xs116), .row A112 1 1 2 1 (ints ([x73]))] := hs
        refine sY hf hs rfl rfl rfl (Y_assign rfl rfl) ?_; clear hf; intro a hf
        refine wpO_nil ?_
        refine wpL_seq ?_
        refine wpL_region ?_
        refine sY hf hs rfl rfl rfl (Y_move rfl rfl) ?_; clear hf; intro a hf
        refine sY hf hs rfl rfl rfl (Y_move rfl rfl) ?_; clear hf; intro a hf
        obtain ⟨r118, hc119, hm109⟩ := bind_some hm109
        refine sCall hf rfl rfl rfl rfl (cap := []) rfl rfl en107 (spec_l01Next_ok F b_p0_s p0_s_code A_p0_s_code p0_s_code.length c_p0_s_code rfl x66 x67 9 _ _ hc119 (h_p0_s_code.pass hs [0]) (hs.sel [0] (by decide)).rebase) ?_; clear hf
        rintro _ w ⟨rfl, hs1⟩ a hf
        have hs : St (muL [.blk b_p0_s 145 [.slice A_p0_s_code p0_s_code.length c_p0_s_code, .int .i64 p0_s_at, .int .i64 p0_s_seed]]) W w [.row A114 xs116.length c115 2 1 (ints xs116), .row A112 1 1 2 1 (ints ([x73])), .blk b_p0_s 145 [.slice A_p0_s_code p0_s_code.length c_p0_s_code, .int .i64 r118.2.1, .int .i64 r118.2.2]] := St.mutTail (La := [.row A114 xs116.length c115 2 1 (ints xs116), .row A112 1 1 2 1 (ints ([x73]))]) (Lb := [.blk b_p0_s 145 [.slice A_p0_s_code p0_s_code.length c_p0_s_code, .int .i64 x66, .int .i64 x67]]) (hs.sel [1, 2, 0] (by decide)) hs1
        clear hs1
        refine sY hf hs rfl rfl rfl (Y_add rfl rfl rfl) ?_; clear hf; intro a hf
        refine sY hf hs rfl rfl rfl (Y_sub rfl rfl rfl) ?_; clear hf; intro a hf
        refine sY hf hs rfl rfl rfl (Y_assign rfl rfl) ?_; clear hf; intro a hf
        refine wpO_nil ?_
        refine wpL_seq ?_
        obtain ⟨r126, hj127, hm109⟩ := bind_some hm109
        refine wpL_cut (fun a w => ∃ x123 : Int, ∃ x124 : Int, ∃ b125 : Bool, (x123, x124, b125) = r126 ∧ Fr a 53 [(0, .pointer (some ⟨b_p0_s, 0, none⟩)), (1, .bool p1_bottom), (5, .slice A114 xs116.length c115), (6, .int .i64 (IntKind.i64.wrap ((IntKind.i64.wrap (x73 + r118.1)) - 1))), (7, .int .i64 x74), (31, .bool b125)] ∧ St (muL [.blk b_p0_s 145 [.slice A_p0_s_code p0_s_code.length c_p0_s_code, .int .i64 p0_s_at, .int .i64 p0_s_seed]]) W w [.blk b_p0_s 145 [.slice A_p0_s_code p0_s_code.length c_p0_s_code, .int .i64 x123, .int .i64 x124], .row A114 xs116.length c115 2 1 (ints xs116)]) ?_ ?_
        · refine wpL_region ?_
          refine sY hf hs rfl rfl rfl (Y_move rfl rfl) ?_; clear hf; intro a hf
          refine sY hf hs rfl rfl rfl (Y_move rfl rfl) ?_; clear hf; intro a hf
          refine bsplit p1_bottom (fun hb128 => ?_) (fun hb128 => ?_)
          · have hj127 := bif_t hj127 hb128
            refine sYg hf hs rfl rfl rfl (congrArg (fun b => some (Value.bool b)) hb128) rfl rfl rfl (Y_move rfl rfl) ?_; clear hf; intro a hf
            obtain ⟨r129, hc130, hj127⟩ := bind_some hj127
            refine sCallg hf rfl rfl rfl (congrArg (fun b => some (Value.bool b)) hb128) rfl rfl rfl rfl (cap := []) rfl rfl en107 (spec_l01Next_ok F b_p0_s p0_s_code A_p0_s_code p0_s_code.length c_p0_s_code rfl r118.2.1 r118.2.2 9 _ _ hc130 (h_p0_s_code.pass hs [2]) (hs.sel [2] (by decide)).rebase) ?_; clear hf
            rintro _ w ⟨rfl, hs1⟩ a hf
            have hs : St (muL [.blk b_p0_s 145 [.slice A_p0_s_code p0_s_code.length c_p0_s_code, .int .i64 p0_s_at, .int .i64 p0_s_seed]]) W w [.row A114 xs116.length c115 2 1 (ints xs116), .row A112 1 1 2 1 (ints ([x73])), .blk b_p0_s 145 [.slice A_p0_s_code p0_s_code.length c_p0_s_code, .int .i64 r129.2.1, .int .i64 r129.2.2]] := St.mutTail (La := [.row A114 xs116.length c115 2 1 (ints xs116), .row A112 1 1 2 1 (ints ([x73]))]) (Lb := [.blk b_p0_s 145 [.slice A_p0_s_code p0_s_code.length c_p0_s_code, .int .i64 r118.2.1, .int .i64 r118.2.2]]) (hs.sel [0, 1, 2] (by decide)) hs1
            clear hs1
            refine sYg hf hs rfl rfl rfl (congrArg (fun b => some (Value.bool b)) hb128) rfl rfl rfl (Y_eql rfl rfl rfl) ?_; clear hf; intro a hf
            refine sY hf hs rfl rfl rfl (Y_pickT rfl (congrArg (fun b => some (Value.bool b)) hb128) rfl) ?_; clear hf; intro a hf
            refine wpO_nil ?_
            refine wpL_nil (then_normal ?_)
            exact ⟨r129.2.1, r129.2.2, (r129.1 == 0), Option.some.inj hj127, (FrD.pick (FrD.pick (FrD.pick (FrD.pick (FrD.pick (FrD.pick hf.none hf rfl) hf rfl) hf rfl) hf rfl) hf rfl) hf rfl), hs.sel [2, 0] (by decide)⟩
          · have hj127 := bif_f hj127 hb128
            refine sNo hf rfl rfl rfl (congrArg (fun b => some (Value.bool b)) hb128) rfl rfl rfl ?_; clear hf; intro a hf
            refine sNo hf rfl rfl rfl (congrArg (fun b => some (Value.bool b)) hb128) rfl rfl rfl ?_; clear hf; intro a hf
            refine sNo hf rfl rfl rfl (congrArg (fun b => some (Value.bool b)) hb128) rfl rfl rfl ?_; clear hf; intro a hf
            refine sY hf hs rfl rfl rfl (Y_pickF rfl (congrArg (fun b => some (Value.bool b)) hb128) rfl) ?_; clear hf; intro a hf
            refine wpO_nil ?_
            refine wpL_nil (then_normal ?_)
            exact ⟨r118.2.1, r118.2.2, false, Option.some.inj hj127, (FrD.pick (FrD.pick (FrD.pick (FrD.pick (FrD.pick (FrD.pick hf.none hf rfl) hf rfl) hf rfl) hf rfl) hf rfl) hf rfl), hs.sel [2, 0] (by decide)⟩
        · rintro a w ⟨x123, x124, b125, hr_, hf, hs⟩
          subst hr_
          try dsimp only at hm109
          refine wpL_cond hf rfl (fun hb131 => ?_) (fun hb131 => ?_)
          · have hm109 := bif_t hm109 hb131
            refine wpL_region ?_
            refine sY hf hs rfl rfl rfl (Y_move rfl rfl) ?_; clear hf; intro a hf
            refine sY hf hs rfl rfl rfl (Y_move rfl rfl) ?_; clear hf; intro a hf
            refine sY hf hs rfl rfl rfl (Y_lenH rfl rfl el23 rfl) ?_; clear hf; intro a hf
            refine sY hf hs rfl rfl rfl (Y_sub rfl rfl rfl) ?_; clear hf; intro a hf
            obtain ⟨q132, hi133, hm109⟩ := bind_some hm109
            obtain ⟨hi133a, hi133b, hi133q⟩ := idx_some hi133
            refine sY hf hs rfl rfl rfl (Y_index rfl rfl rfl el23 ti2 (Rd.isAt (hs.rd (i := 1) rfl) (at1 (ints_at hi133q))) hi133a hi133b) ?_; clear hf; intro a hf
            obtain ⟨xs134, hu135, hm109⟩ := bind_some hm109
            refine sStoreL (i := 1) (us := [.int .i64 (-1000000000000000)]) (enc := ints) hf hs rfl rfl rfl rfl rfl rfl rfl hu135 ti2 rfl rfl rfl rfl rfl ints_len1 (ints_set (-1000000000000000)) ?_; clear hs; intro w hs
            have hs : St (muL [.blk b_p0_s 145 [.slice A_p0_s_code p0_s_code.length c_p0_s_code, .int .i64 p0_s_at, .int .i64 p0_s_seed]]) W w [.blk b_p0_s 145 [.slice A_p0_s_code p0_s_code.length c_p0_s_code, .int .i64 x123, .int .i64 x124], .row A114 xs116.length c115 2 1 (ints xs134)] := hs
            refine wpO_nil ?_
            refine wpL_nil (Qb_normal ?_)
            refine wpL_region ?_
            refine sY hf hs rfl rfl rfl (Y_move rfl rfl) ?_; clear hf; intro a hf
            refine sY hf hs rfl rfl rfl (Y_sub rfl rfl rfl) ?_; clear hf; intro a hf
            refine sY hf hs rfl rfl rfl (Y_assign rfl rfl) ?_; clear hf; intro a hf
            refine wpO_nil ?_
            refine wpL_nil (Ql_normal ?_)
            exact ⟨x123, x124, xs134, (IntKind.i64.wrap ((IntKind.i64.wrap (x73 + r118.1)) - 1)), (IntKind.i64.wrap (x74 - 1)), A114, xs116.length, c115, hm109, (upd_len hu135).symm, (FrD.pick (FrD.pick (FrD.pick (FrD.pick (FrD.pick hf.none hf rfl) hf rfl) hf rfl) hf rfl) hf rfl), hs⟩
          · have hm109 := bif_f hm109 hb131
            refine wpL_skip ?_
            refine wpL_nil (Qb_normal ?_)
            refine wpL_region ?_
            refine sY hf hs rfl rfl rfl (Y_move rfl rfl) ?_; clear hf; intro a hf
            refine sY hf hs rfl rfl rfl (Y_sub rfl rfl rfl) ?_; clear hf; intro a hf
            refine sY hf hs rfl rfl rfl (Y_assign rfl rfl) ?_; clear hf; intro a hf
            refine wpO_nil ?_
            refine wpL_nil (Ql_normal ?_)
            exact ⟨x123, x124, xs116, (IntKind.i64.wrap ((IntKind.i64.wrap (x73 + r118.1)) - 1)), (IntKind.i64.wrap (x74 - 1)), A114, xs116.length, c115, hm109, rfl, (FrD.pick (FrD.pick (FrD.pick (FrD.pick (FrD.pick hf.none hf rfl) hf rfl) hf rfl) hf rfl) hf rfl), hs⟩
      · have hm109 := bif_f hm109 hb111
        refine wpL_exit (Ql_exit (Qb_exit ?_))
        exact ⟨x66, x67, xs68, A69, n70, c71, Option.some.inj hm109, hn72, (FrD.pick (FrD.pick hf.none hf rfl) hf rfl), hs⟩
  · rintro a w ⟨x100, x101, xs102, A103, n104, c105, hr_, hn106, hf, hs⟩
    subst hr_
    try dsimp only at hm
    refine wpL_seq ?_
    refine wpL_seq ?_
    refine wpL_region ?_
    refine sY hf hs rfl rfl rfl (Y_move rfl rfl) ?_; clear hf; intro a hf
    obtain ⟨r136, hc137, hm⟩ := bind_some hm
    refine sCall hf rfl rfl rfl rfl (cap := []) rfl rfl en107 (spec_l01Next_ok F b_p0_s p0_s_code A_p0_s_code p0_s_code.length c_p0_s_code rfl x100 x101 60 _ _ hc137 (h_p0_s_code.pass hs [0]) (hs.sel [0] (by decide)).rebase) ?_; clear hf
    rintro _ w ⟨rfl, hs1⟩ a hf
    have hs : St (muL [.blk b_p0_s 145 [.slice A_p0_s_code p0_s_code.length c_p0_s_code, .int .i64 p0_s_at, .int .i64 p0_s_seed]]) W w [.row A103 n104 c105 2 1 (ints xs102), .blk b_p0_s 145 [.slice A_p0_s_code p0_s_code.length c_p0_s_code, .int .i64 r136.2.1, .int .i64 r136.2.2]] := St.mutTail (La := [.row A103 n104 c105 2 1 (ints xs102)]) (Lb := [.blk b_p0_s 145 [.slice A_p0_s_code p0_s_code.length c_p0_s_code, .int .i64 x100, .int .i64 x101]]) (hs.sel [1, 0] (by decide)) hs1
    clear hs1
    refine wpO_nil ?_
    refine wpL_block0 ?_
    refine wpL_seq ?_
    refine wpL_region ?_
    refine sY hf hs rfl rfl rfl (Y_eql rfl rfl rfl) ?_; clear hf; intro a hf
    refine sY hf hs rfl rfl rfl (Y_assign rfl rfl) ?_; clear hf; intro a hf
    refine wpO_nil ?_
    refine wpL_cond hf rfl (fun hb138 => ?_) (fun hb138 => ?_)
    · have hm := bif_t hm hb138
      refine wpL_seq ?_
      refine wpL_region ?_
      refine sY hf hs rfl rfl rfl (Y_move rfl rfl) ?_; clear hf; intro a hf
      refine sY hf hs rfl rfl rfl (Y_move rfl rfl) ?_; clear hf; intro a hf
      obtain ⟨r139, hc140, hm⟩ := bind_some hm
      refine sCall hf rfl rfl rfl rfl (cap := []) rfl rfl en166 (spec_l01DrawValue_ok F b_p0_s p0_s_code A_p0_s_code p0_s_code.length c_p0_s_code rfl r136.2.1 r136.2.2 _ _ hc140 (h_p0_s_code.pass hs [1]) (hs.sel [1] (by decide)).rebase) ?_; clear hf
      rintro _ w ⟨rfl, hs1⟩ a hf
      have hs : St (muL [.blk b_p0_s 145 [.slice A_p0_s_code p0_s_code.length c_p0_s_code, .int .i64 p0_s_at, .int .i64 p0_s_seed]]) W w [.row A103 n104 c105 2 1 (ints xs102), .blk b_p0_s 145 [.slice A_p0_s_code p0_s_code.length c_p0_s_code, .int .i64 r139.2.1, .int .i64 r139.2.2]] := St.mutTail (La := [.row A103 n104 c105 2 1 (ints xs102)]) (Lb := [.blk b_p0_s 145 [.slice A_p0_s_code p0_s_code.length c_p0_s_code, .int .i64 r136.2.1, .int .i64 r136.2.2]]) (hs.sel [0, 1] (by decide)) hs1
      clear hs1
      refine sBuildSlice (parts := [(0, .tmp 43)]) (vs := [.int .i64 r139.1]) (cells := [.int .i64 r139.1]) hf hs rfl rfl rfl rfl rfl el23 ti2 rfl rfl rfl rfl ?_; clear hf hs; intro a w A141 hs hA142 hf
      have hs : St (muL [.blk b_p0_s 145 [.slice A_p0_s_code p0_s_code.length c_p0_s_code, .int .i64 p0_s_at, .int .i64 p0_s_seed]]) W w [.row A103 n104 c105 2 1 (ints xs102), .blk b_p0_s 145 [.slice A_p0_s_code p0_s_code.length c_p0_s_code, .int .i64 r139.2.1, .int .i64 r139.2.2], .row A141 1 1 2 1 (ints ([r139.1]))] := hs
      obtain ⟨xs145, ha146, hm⟩ := bind_some hm
      refine sAppendL (i := 0) (xs := xs102) (ys := [r139.1]) (enc := ints) hf hs rfl rfl rfl rfl rfl rfl hn106 rfl rfl ha146 el23 ti2 rfl rfl rfl (hs.rd (i := 2) rfl) (Nat.succ_pos _) ints_len1 ints_append ints_one ?_; clear hf hs; intro a w A143 c144 hs hf
      have hs : St (muL [.blk b_p0_s 145 [.slice A_p0_s_code p0_s_code.length c_p0_s_code, .int .i64 p0_s_at, .int .i64 p0_s_seed]]) W w [.row A143 xs145.length c144 2 1 (ints xs145), .blk b_p0_s 145 [.slice A_p0_s_code p0_s_code.length c_p0_s_code, .int .i64 r139.2.1, .int .i64 r139.2.2], .row A141 1 1 2 1 (ints ([r139.1]))] := hs
      refine sY hf hs rfl rfl rfl (Y_assign rfl rfl) ?_; clear hf; intro a hf
      refine wpO_nil ?_
      obtain rfl := Option.some.inj hm
      refine wpL_ret (Qb_ret (ret_tmp rfl hf rfl ?_))
      exact ⟨_, rfl, A143, xs145.length, c144, rfl, rfl, hs.sel [0, 1] (by decide)⟩
    · have hm := bif_f hm hb138
      refine wpL_seq ?_
      refine wpL_region ?_
      refine sY hf hs rfl rfl rfl (Y_eql rfl rfl rfl) ?_; clear hf; intro a hf
      refine sY hf hs rfl rfl rfl (Y_assign rfl rfl) ?_; clear hf; intro a hf
      refine wpO_nil ?_
      refine wpL_cond hf rfl (fun hb147 => ?_) (fun hb147 => ?_)
      · have hm := bif_t hm hb147
        refine wpL_seq ?_
        refine wpL_region ?_
        refine sY hf hs rfl rfl rfl (Y_move rfl rfl) ?_; clear hf; intro a hf
        obtain ⟨r148, hc149, hm⟩ := bind_some hm
        refine sCall hf rfl rfl rfl rfl (cap := []) rfl rfl en107 (spec_l01Next_ok F b_p0_s p0_s_code A_p0_s_code p0_s_code.length c_p0_s_code rfl r136.2.1 r136.2.2 2 _ _ hc149 (h_p0_s_code.pass hs [1]) (hs.sel [1] (by decide)).rebase) ?_; clear hf
        rintro _ w ⟨rfl, hs1⟩ a hf
        have hs : St (muL [.blk b_p0_s 145 [.slice A_p0_s_code p0_s_code.length c_p0_s_code, .int .i64 p0_s_at, .int .i64 p0_s_seed]]) W w [.row A103 n104 c105 2 1 (ints xs102), .blk b_p0_s 145 [.slice A_p0_s_code p0_s_code.length c_p0_s_code, .int .i64 r148.2.1, .int .i64 r148.2.2]] := St.mutTail (La := [.row A103 n104 c105 2 1 (ints xs102)]) (Lb := [.blk b_p0_s 145 [.slice A_p0_s_code p0_s_code.length c_p0_s_code, .int .i64 r136.2.1, .int .i64 r136.2.2]]) (hs.sel [0, 1] (by decide)) hs1
        clear hs1
        refine sY hf hs rfl rfl rfl (Y_add rfl rfl rfl) ?_; clear hf; intro a hf
        obtain ⟨xs152, hk151, hm⟩ := bind_some hm
        refine sMakeL (enc := ints) hf hs rfl rfl rfl rfl rfl hk151 el23 ti2 rfl ints_made ?_; clear hf hs; intro a w A150 hs hf
        have hs : St (muL [.blk b_p0_s 145 [.slice A_p0_s_code p0_s_code.length c_p0_s_code, .int .i64 p0_s_at, .int .i64 p0_s_seed]]) W w [.row A103 n104 c105 2 1 (ints xs102), .blk b_p0_s 145 [.slice A_p0_s_code p0_s_code.length c_p0_s_code, .int .i64 r148.2.1, .int .i64 r148.2.2], .row A150 xs152.length xs152.length 2 1 (ints xs152)] := hs
        refine sY hf hs rfl rfl rfl (Y_assign rfl rfl) ?_; clear hf; intro a hf
        refine wpO_nil ?_
        obtain rfl := Option.some.inj hm
        refine wpL_ret (Qb_ret (ret_tmp rfl hf rfl ?_))
        exact ⟨_, rfl, A150, xs152.length, xs152.length, rfl, rfl, hs.sel [2, 1] (by decide)⟩
      · have hm := bif_f hm hb147
        refine wpL_skip ?_
        refine wpL_nil (Qb_normal ?_)
        refine wpL_seq ?_
        refine wpL_region ?_
        refine sY hf hs rfl rfl rfl (Y_move rfl rfl) ?_; clear hf; intro a hf
        refine sY hf hs rfl rfl rfl (Y_assign rfl rfl) ?_; clear hf; intro a hf
        refine wpO_nil ?_
        obtain rfl := Option.some.inj hm
        refine wpL_ret (ret_tmp rfl hf rfl ?_)
        exact ⟨_, rfl, A103, n104, c105, rfl, hn106, hs⟩

set_option maxRecDepth 100000 in
theorem spec_DrawLatestInputs_ok (F : Nat) (p0_code : List Int) (A_p0_code_1 : Option Addr) (n_p0_code_1 c_p0_code_1 : Nat) (hn_p0_code_1 : n_p0_code_1 = p0_code.length) (r : GSystem × List Int) (W : World) (hm : spec_DrawLatestInputs F p0_code = some r) (h_p0_code_1 : Rd W A_p0_code_1 (bytes p0_code)) :
    Calls Try.prog 35 [.slice A_p0_code_1 n_p0_code_1 c_p0_code_1].toArray W fun e w' => ∃ v, e = .returned v ∧ ∃ A26, ∃ n27, ∃ c28, ∃ vs30, ∃ A31, ∃ n32, ∃ c33, ∃ A35, ∃ n36, ∃ c37, ∃ A39, ∃ n40, ∃ c41, v = .tuple #[.agg #[.slice A26 n27 c28, .slice A31 n32 c33, .slice A35 n36 c37], .slice A39 n40 c41] ∧ n27 = r.1.A.length ∧ n32 = r.1.B.length ∧ n36 = r.1.C.length ∧ n40 = r.2.length ∧ St [] W w' [.mat A26 n27 c28 23 2 vs30 r.1.A, .row A31 n32 c33 2 1 (ints r.1.B), .row A35 n36 c37 2 1 (ints r.1.C), .row A39 n40 c41 2 1 (ints r.2)] := by
  subst hn_p0_code_1
  unfold spec_DrawLatestInputs at hm
  refine Calls.enter (N := 11) Try.func35 rfl rfl rfl (fun a hf => ?_)
  have hs := St.start W
  obtain ⟨w, hw_⟩ : ∃ w, w = W := ⟨W, rfl⟩
  clear hw_ w
  refine wpL_seq ?_
  refine wpL_region ?_
  refine sAlloc hf hs rfl rfl rfl rfl ti27 ?_; clear hf hs; intro a w b1 hs hf
  have hs : St [] W w [.blk b1 27 [.slice none 0 0, .slice none 0 0, .slice none 0 0]] := hs
  refine sY hf hs rfl rfl rfl (Y_assign rfl rfl) ?_; clear hf; intro a hf
  refine wpO_nil ?_
  refine wpL_seq ?_
  refine wpL_region ?_
  refine sY hf hs rfl rfl rfl (Y_move rfl rfl) ?_; clear hf; intro a hf
  obtain ⟨r2, hc3, hm⟩ := bind_some hm
  refine sCall hf rfl rfl rfl rfl (cap := []) rfl rfl en101 (spec_l01From_ok F p0_code A_p0_code_1 p0_code.length c_p0_code_1 rfl _ _ hc3 (h_p0_code_1.at hs)) ?_; clear hf
  rintro _ w ⟨b4, rfl, hs1⟩ a hf
  have hs : St [] W w [.blk b1 27 [.slice none 0 0, .slice none 0 0, .slice none 0 0], .blk b4 145 [.slice A_p0_code_1 p0_code.length c_p0_code_1, .int .i64 r2.1, .int .i64 r2.2]] := hs.join hs1
  clear hs1
  refine sY hf hs rfl rfl rfl (Y_assign rfl rfl) ?_; clear hf; intro a hf
  refine wpO_nil ?_
  refine wpL_seq ?_
  refine wpL_region ?_
  refine sY hf hs rfl rfl rfl (Y_move rfl rfl) ?_; clear hf; intro a hf
  obtain ⟨r5, hc6, hm⟩ := bind_some hm
  refine sCall hf rfl rfl rfl rfl (cap := []) rfl rfl en102 (spec_l24DrawSystem_ok F b4 p0_code A_p0_code_1 p0_code.length c_p0_code_1 rfl r2.1 r2.2 _ _ hc6 (h_p0_code_1.pass hs [1]) (hs.sel [1] (by decide)).rebase) ?_; clear hf
  rintro _ w ⟨A7, n8, c9, vs11, A12, n13, c14, A16, n17, c18, rfl, hn10, hn15, hn19, hs1⟩ a hf
  have hs : St [] W w [.blk b1 27 [.slice none 0 0, .slice none 0 0, .slice none 0 0], .mat A7 n8 c9 23 2 vs11 r5.1.A, .row A12 n13 c14 2 1 (ints r5.1.B), .row A16 n17 c18 2 1 (ints r5.1.C), .blk b4 145 [.slice A_p0_code_1 p0_code.length c_p0_code_1, .int .i64 r5.2.1, .int .i64 r5.2.2]] := St.mutTail (La := [.blk b1 27 [.slice none 0 0, .slice none 0 0, .slice none 0 0]]) (Lb := [.blk b4 145 [.slice A_p0_code_1 p0_code.length c_p0_code_1, .int .i64 r2.1, .int .i64 r2.2]]) (hs.sel [0, 1] (by decide)) hs1
  clear hs1
  refine sY hf hs rfl rfl rfl (Y_move rfl rfl) ?_; clear hf; intro a hf
  obtain ⟨r20, hc21, hm⟩ := bind_some hm
  refine sCall hf rfl rfl rfl rfl (cap := []) rfl rfl en109 (spec_l24DrawInputs_ok F b4 p0_code A_p0_code_1 p0_code.length c_p0_code_1 rfl r5.2.1 r5.2.2 false _ _ hc21 (h_p0_code_1.pass hs [4]) (hs.sel [4] (by decide)).rebase) ?_; clear hf
  rintro _ w ⟨A22, n23, c24, rfl, hn25, hs1⟩ a hf
  have hs : St [] W w [.blk b1 27 [.slice none 0 0, .slice none 0 0, .slice none 0 0], .mat A7 n8 c9 23 2 vs11 r5.1.A, .row A12 n13 c14 2 1 (ints r5.1.B), .row A16 n17 c18 2 1 (ints r5.1.C), .row A22 n23 c24 2 1 (ints r20.1), .blk b4 145 [.slice A_p0_code_1 p0_code.length c_p0_code_1, .int .i64 r20.2.1, .int .i64 r20.2.2]] := St.mutTail (La := [.blk b1 27 [.slice none 0 0, .slice none 0 0, .slice none 0 0], .mat A7 n8 c9 23 2 vs11 r5.1.A, .row A12 n13 c14 2 1 (ints r5.1.B), .row A16 n17 c18 2 1 (ints r5.1.C)]) (Lb := [.blk b4 145 [.slice A_p0_code_1 p0_code.length c_p0_code_1, .int .i64 r5.2.1, .int .i64 r5.2.2]]) (hs.sel [0, 1, 2, 3, 4] (by decide)) hs1
  clear hs1
  refine sStore (i := 0) (us := [.slice A7 n8 c9, .slice A12 n13 c14, .slice A16 n17 c18]) hf hs rfl rfl rfl rfl rfl rfl ti27 rfl rfl rfl (Nat.le_of_ble_eq_true rfl) rfl ?_; clear hs; intro w hs
  have hs : St [] W w [.blk b1 27 [.slice A7 n8 c9, .slice A12 n13 c14, .slice A16 n17 c18], .mat A7 n8 c9 23 2 vs11 r5.1.A, .row A12 n13 c14 2 1 (ints r5.1.B), .row A16 n17 c18 2 1 (ints r5.1.C), .row A22 n23 c24 2 1 (ints r20.1), .blk b4 145 [.slice A_p0_code_1 p0_code.length c_p0_code_1, .int .i64 r20.2.1, .int .i64 r20.2.2]] := hs
  refine sY hf hs rfl rfl rfl (Y_assign rfl rfl) ?_; clear hf; intro a hf
  refine wpO_nil ?_
  obtain rfl := Option.some.inj hm
  refine wpL_ret (ret_cell_tmp rfl hf rfl rfl hs (i := 0) rfl ag27 ti27 rfl ?_)
  exact ⟨_, rfl, A7, n8, c9, vs11, A12, n13, c14, A16, n17, c18, A22, n23, c24, rfl, hn10, hn15, hn19, hn25, hs.sel [1, 2, 3, 4] (by decide)⟩

set_option maxRecDepth 100000 in
theorem impl_within_ok (F : Nat) (p0_n : Int) (p1_low : Int) (p2_high : Int) (r : Bool) (W : World) (hm : impl_within F p0_n p1_low p2_high = some r) :
    Calls Try.prog 105 [.int .i64 p0_n, .int .i64 p1_low, .int .i64 p2_high].toArray W fun e w' => ∃ v, e = .returned v ∧ v = .bool r ∧ St [] W w' [] := by
  unfold impl_within at hm
  refine Calls.enter (N := 15) Try.func105 rfl rfl rfl (fun a hf => ?_)
  have hs := St.start W
  obtain ⟨w, hw_⟩ : ∃ w, w = W := ⟨W, rfl⟩
  clear hw_ w
  refine wpL_seq ?_
  refine wpL_region ?_
  refine sY hf hs rfl rfl rfl (Y_assign rfl rfl) ?_; clear hf; intro a hf
  refine wpO_nil ?_
  refine wpL_seq ?_
  obtain ⟨r3, hj4, hm⟩ := bind_some hm
  refine wpL_cut (fun a w => ∃ b2 : Bool, b2 = r3 ∧ Fr a 15 [(6, .bool b2)] ∧ St [] W w []) ?_ ?_
  · refine wpL_region ?_
    refine sY hf hs rfl rfl rfl (Y_move rfl rfl) ?_; clear hf; intro a hf
    refine sY hf hs rfl rfl rfl (Y_move rfl rfl) ?_; clear hf; intro a hf
    refine sY hf hs rfl rfl rfl (Y_geq rfl rfl rfl) ?_; clear hf; intro a hf
    refine sY hf hs rfl rfl rfl (Y_move rfl rfl) ?_; clear hf; intro a hf
    refine bsplit (decide (p1_low ≤ p0_n)) (fun hb5 => ?_) (fun hb5 => ?_)
    · have hj4 := bif_t hj4 hb5
      refine sYg hf hs rfl rfl rfl (congrArg (fun b => some (Value.bool b)) hb5) rfl rfl rfl (Y_move rfl rfl) ?_; clear hf; intro a hf
      refine sYg hf hs rfl rfl rfl (congrArg (fun b => some (Value.bool b)) hb5) rfl rfl rfl (Y_move rfl rfl) ?_; clear hf; intro a hf
      refine sYg hf hs rfl rfl rfl (congrArg (fun b => some (Value.bool b)) hb5) rfl rfl rfl (Y_leq rfl rfl rfl) ?_; clear hf; intro a hf
      refine sY hf hs rfl rfl rfl (Y_pickT rfl (congrArg (fun b => some (Value.bool b)) hb5) rfl) ?_; clear hf; intro a hf
      refine sY hf hs rfl rfl rfl (Y_assign rfl rfl) ?_; clear hf; intro a hf
      refine wpO_nil ?_
      refine wpL_nil (then_normal ?_)
      exact ⟨(decide (p0_n ≤ p2_high)), Option.some.inj hj4, (FrD.pick hf.none hf rfl), hs⟩
    · have hj4 := bif_f hj4 hb5
      refine sNo hf rfl rfl rfl (congrArg (fun b => some (Value.bool b)) hb5) rfl rfl rfl ?_; clear hf; intro a hf
      refine sNo hf rfl rfl rfl (congrArg (fun b => some (Value.bool b)) hb5) rfl rfl rfl ?_; clear hf; intro a hf
      refine sNo hf rfl rfl rfl (congrArg (fun b => some (Value.bool b)) hb5) rfl rfl rfl ?_; clear hf; intro a hf
      refine sY hf hs rfl rfl rfl (Y_pickF rfl (congrArg (fun b => some (Value.bool b)) hb5) rfl) ?_; clear hf; intro a hf
      refine sY hf hs rfl rfl rfl (Y_assign rfl rfl) ?_; clear hf; intro a hf
      refine wpO_nil ?_
      refine wpL_nil (then_normal ?_)
      exact ⟨false, Option.some.inj hj4, (FrD.pick hf.none hf rfl), hs⟩
  · rintro a w ⟨b2, hr_, hf, hs⟩
    subst hr_
    try dsimp only at hm
    obtain rfl := Option.some.inj hm
    refine wpL_ret (ret_tmp rfl hf rfl ?_)
    exact ⟨_, rfl, rfl, hs⟩

set_option maxRecDepth 100000 in
theorem slices_IndexFunc_int64_ok (F : Nat) (p0_s : List Int) (A_p0_s_1 : Option Addr) (n_p0_s_1 c_p0_s_1 : Nat) (hn_p0_s_1 : n_p0_s_1 = p0_s.length) (m_p1_f : Int → Option Bool) (f_p1_f : FuncId) (k_p1_f : List Value) (r : Int) (W : World) (hm : slices_IndexFunc_int64 F p0_s m_p1_f = some r) (h_p0_s_1 : Rd W A_p0_s_1 (ints p0_s)) (h_p1_f : ∀ (x0 : Int) (r : Bool) (w : World), m_p1_f x0 = some r → Below W.heap.size W w → Calls Try.prog f_p1_f (([.int .i64 x0] : List Value) ++ k_p1_f).toArray w fun e w' => ∃ v, e = .returned v ∧ v = .bool r ∧ St [] w w' []) (e_p1_f : En Try.prog f_p1_f) :
    Calls Try.prog 181 [.slice A_p0_s_1 n_p0_s_1 c_p0_s_1, .func (.func f_p1_f) #[] k_p1_f.toArray].toArray W fun e w' => ∃ v, e = .returned v ∧ v = .int .i64 r ∧ St [] W w' [] := by
  subst hn_p0_s_1
  unfold slices_IndexFunc_int64 at hm
  refine Calls.enter (N := 19) Try.func181 rfl rfl rfl (fun a hf => ?_)
  have hs := St.start W
  obtain ⟨w, hw_⟩ : ∃ w, w = W := ⟨W, rfl⟩
  clear hw_ w
  refine wpL_seq ?_
  refine wpL_region ?_
  refine sY hf hs rfl rfl rfl (Y_assign rfl rfl) ?_; clear hf; intro a hf
  refine wpO_nil ?_
  refine wpL_seq ?_
  refine wpL_seq ?_
  refine wpL_region ?_
  refine sY hf hs rfl rfl rfl (Y_move rfl rfl) ?_; clear hf; intro a hf
  refine sY hf hs rfl rfl rfl (Y_lenH rfl rfl el23 rfl) ?_; clear hf; intro a hf
  refine sY hf hs rfl rfl rfl (Y_move rfl rfl) ?_; clear hf; intro a hf
  refine wpO_nil ?_
  obtain ⟨r21, hl22, hm⟩ := bind_some hm
  refine wpL_block (fun a w => Sum.inr () = r21 ∧ Fr a 19 [] ∧ St [] W w []) ?_ ?_
  · refine wpL_loop (fun n a w => ∃ x14 : Int, slices_IndexFunc_int64_L1 F p0_s m_p1_f n x14 = some r21 ∧ Fr a 19 [(0, .slice A_p0_s_1 p0_s.length c_p0_s_1), (1, .func (.func f_p1_f) #[] k_p1_f.toArray), (7, .int .i64 (p0_s.length : Int)), (8, .int .i64 x14)] ∧ St [] W w []) F ?_ ?_ ?_
    · exact ⟨0, hl22, (FrD.pick (FrD.pick (FrD.pick (FrD.pick hf.none hf rfl) hf rfl) hf rfl) hf rfl), hs⟩
    · rintro a w ⟨x14, h0_, -, -⟩; simp [slices_IndexFunc_int64_L1] at h0_
    · rintro n24 a w ⟨x14, hm23, hf, hs⟩
      rw [slices_IndexFunc_int64_L1] at hm23
      refine wpL_seq ?_
      refine wpL_region ?_
      refine sY hf hs rfl rfl rfl (Y_lss rfl rfl rfl) ?_; clear hf; intro a hf
      refine wpO_nil ?_
      refine wpL_seq ?_
      refine wpL_cond hf rfl (fun hb25 => ?_) (fun hb25 => ?_)
      · have hm23 := bif_t hm23 hb25
        refine wpL_skip ?_
        refine wpL_seq ?_
        refine wpL_block0 ?_
        refine wpL_seq ?_
        refine wpL_region ?_
        refine sY hf hs rfl rfl rfl (Y_move rfl rfl) ?_; clear hf; intro a hf
        refine sY hf hs rfl rfl rfl (Y_assign rfl rfl) ?_; clear hf; intro a hf
        refine wpO_nil ?_
        refine wpL_seq ?_
        refine wpL_region ?_
        refine sY hf hs rfl rfl rfl (Y_move rfl rfl) ?_; clear hf; intro a hf
        refine sY hf hs rfl rfl rfl (Y_move rfl rfl) ?_; clear hf; intro a hf
        refine sY hf hs rfl rfl rfl (Y_move rfl rfl) ?_; clear hf; intro a hf
        obtain ⟨q26, hi27, hm23⟩ := bind_some hm23
        obtain ⟨hi27a, hi27b, hi27q⟩ := idx_some hi27
        refine sY hf hs rfl rfl rfl (Y_index rfl rfl rfl el23 ti2 (Rd.isAt (h_p0_s_1.at hs) (at1 (ints_at hi27q))) hi27a hi27b) ?_; clear hf; intro a hf
        refine sY hf hs rfl rfl rfl (Y_load_rd rfl rfl (fun w hs => h_p0_s_1.at hs) (at1 (ints_at hi27q)) ag2) ?_; clear hf; intro a hf
        obtain ⟨r28, hc29, hm23⟩ := bind_some hm23
        refine sCall hf rfl rfl rfl rfl (cap := k_p1_f) rfl rfl e_p1_f (h_p1_f q26 _ _ hc29 hs.below) ?_; clear hf; rintro _ w ⟨rfl, hs1⟩ a hf; have hs := hs.ext hs1.below; clear hs1
        refine wpO_nil ?_
        refine wpL_cond hf rfl (fun hb30 => ?_) (fun hb30 => ?_)
        · have hm23 := bif_t hm23 hb30
          refine wpL_seq ?_
          refine wpL_region ?_
          refine sY hf hs rfl rfl rfl (Y_move rfl rfl) ?_; clear hf; intro a hf
          refine sY hf hs rfl rfl rfl (Y_assign rfl rfl) ?_; clear hf; intro a hf
          refine wpO_nil ?_
          obtain rfl := Option.some.inj hm23
          try dsimp only at hm
          obtain rfl := Option.some.inj hm
          refine wpL_ret (Qb_ret (Ql_ret (Qb_ret (ret_tmp rfl hf rfl ?_))))
          exact ⟨_, rfl, rfl, hs⟩
        · have hm23 := bif_f hm23 hb30
          refine wpL_skip ?_
          refine wpL_nil (Qb_normal ?_)
          refine wpL_region ?_
          refine sY hf hs rfl rfl rfl (Y_add rfl rfl rfl) ?_; clear hf; intro a hf
          refine sY hf hs rfl rfl rfl (Y_move rfl rfl) ?_; clear hf; intro a hf
          refine wpO_nil ?_
          refine wpL_nil (Ql_normal ?_)
          exact ⟨(IntKind.i64.wrap (x14 + 1)), hm23, (FrD.pick (FrD.pick (FrD.pick (FrD.pick hf.none hf rfl) hf rfl) hf rfl) hf rfl), hs⟩
      · have hm23 := bif_f hm23 hb25
        refine wpL_exit (Ql_exit (Qb_exit ?_))
        exact ⟨Option.some.inj hm23, hf.none, hs⟩
  · rintro a w ⟨hr_, hf, hs⟩
    subst hr_
    try dsimp only at hm
    refine wpL_seq ?_
    refine wpL_region ?_
    refine sY hf hs rfl rfl rfl (Y_assign rfl rfl) ?_; clear hf; intro a hf
    refine wpO_nil ?_
    obtain rfl := Option.some.inj hm
    refine wpL_ret (ret_tmp rfl hf rfl ?_)
    exact ⟨_, rfl, rfl, hs⟩

set_option maxRecDepth 100000 in
theorem slices_ContainsFunc_int64_ok (F : Nat) (p0_s : List Int) (A_p0_s_1 : Option Addr) (n_p0_s_1 c_p0_s_1 : Nat) (hn_p0_s_1 : n_p0_s_1 = p0_s.length) (m_p1_f : Int → Option Bool) (f_p1_f : FuncId) (k_p1_f : List Value) (r : Bool) (W : World) (hm : slices_ContainsFunc_int64 F p0_s m_p1_f = some r) (h_p0_s_1 : Rd W A_p0_s_1 (ints p0_s)) (h_p1_f : ∀ (x0 : Int) (r : Bool) (w : World), m_p1_f x0 = some r → Below W.heap.size W w → Calls Try.prog f_p1_f (([.int .i64 x0] : List Value) ++ k_p1_f).toArray w fun e w' => ∃ v, e = .returned v ∧ v = .bool r ∧ St [] w w' []) (e_p1_f : En Try.prog f_p1_f) :
    Calls Try.prog 159 [.slice A_p0_s_1 n_p0_s_1 c_p0_s_1, .func (.func f_p1_f) #[] k_p1_f.toArray].toArray W fun e w' => ∃ v, e = .returned v ∧ v = .bool r ∧ St [] W w' [] := by
  subst hn_p0_s_1
  unfold slices_ContainsFunc_int64 at hm
  refine Calls.enter (N := 9) Try.func159 rfl rfl rfl (fun a hf => ?_)
  have hs := St.start W
  obtain ⟨w, hw_⟩ : ∃ w, w = W := ⟨W, rfl⟩
  clear hw_ w
  refine wpL_seq ?_
  refine wpL_region ?_
  refine sY hf hs rfl rfl rfl (Y_assign rfl rfl) ?_; clear hf; intro a hf
  refine wpO_nil ?_
  refine wpL_seq ?_
  refine wpL_region ?_
  refine sY hf hs rfl rfl rfl (Y_move rfl rfl) ?_; clear hf; intro a hf
  refine sY hf hs rfl rfl rfl (Y_move rfl rfl) ?_; clear hf; intro a hf
  obtain ⟨r1, hc2, hm⟩ := bind_some hm
  refine sCall hf rfl rfl rfl rfl (cap := []) rfl rfl en181 (slices_IndexFunc_int64_ok F p0_s A_p0_s_1 p0_s.length c_p0_s_1 rfl m_p1_f f_p1_f k_p1_f _ _ hc2 (h_p0_s_1.at hs) (fun x0 r w' hm_ hb => h_p1_f x0 r w' hm_ (hs.below.trans (hb.mono hs.below.size))) e_p1_f) ?_; clear hf
  rintro _ w ⟨rfl, hs1⟩ a hf
  have hs : St [] W w [] := hs.ext hs1.below
  clear hs1
  refine sY hf hs rfl rfl rfl (Y_geq rfl rfl rfl) ?_; clear hf; intro a hf
  refine sY hf hs rfl rfl rfl (Y_assign rfl rfl) ?_; clear hf; intro a hf
  refine wpO_nil ?_
  obtain rfl := Option.some.inj hm
  refine wpL_ret (ret_tmp rfl hf rfl ?_)
  exact ⟨_, rfl, rfl, hs⟩

set_option maxRecDepth 100000 in
theorem impl_isFinite_ok (F : Nat) (p0_n : Int) (r : Bool) (W : World) (hm : impl_isFinite F p0_n = some r) :
    Calls Try.prog 161 [.int .i64 p0_n].toArray W fun e w' => ∃ v, e = .returned v ∧ v = .bool r ∧ St [] W w' [] := by
  unfold impl_isFinite at hm
  refine Calls.enter (N := 5) Try.func161 rfl rfl rfl (fun a hf => ?_)
  have hs := St.start W
  obtain ⟨w, hw_⟩ : ∃ w, w = W := ⟨W, rfl⟩
  clear hw_ w
  refine wpL_seq ?_
  refine wpL_region ?_
  refine sY hf hs rfl rfl rfl (Y_assign rfl rfl) ?_; clear hf; intro a hf
  refine wpO_nil ?_
  refine wpL_seq ?_
  refine wpL_region ?_
  refine sY hf hs rfl rfl rfl (Y_move rfl rfl) ?_; clear hf; intro a hf
  obtain ⟨r1, hc2, hm⟩ := bind_some hm
  refine sCall hf rfl rfl rfl rfl (cap := []) rfl rfl en105 (impl_within_ok F p0_n (-1000000) 1000000 _ _ hc2) ?_; clear hf
  rintro _ w ⟨rfl, hs1⟩ a hf
  have hs : St [] W w [] := hs.ext hs1.below
  clear hs1
  refine sY hf hs rfl rfl rfl (Y_assign rfl rfl) ?_; clear hf; intro a hf
  refine wpO_nil ?_
  obtain rfl := Option.some.inj hm
  refine wpL_ret (ret_tmp rfl hf rfl ?_)
  exact ⟨_, rfl, rfl, hs⟩

set_option maxRecDepth 100000 in
theorem impl_IsValue_ok (F : Nat) (p0_a : Int) (r : Bool) (W : World) (hm : impl_IsValue F p0_a = some r) :
    Calls Try.prog 87 [.int .i64 p0_a].toArray W fun e w' => ∃ v, e = .returned v ∧ v = .bool r ∧ St [] W w' [] := by
  unfold impl_IsValue at hm
  refine Calls.enter (N := 9) Try.func87 rfl rfl rfl (fun a hf => ?_)
  have hs := St.start W
  obtain ⟨w, hw_⟩ : ∃ w, w = W := ⟨W, rfl⟩
  clear hw_ w
  refine wpL_seq ?_
  refine wpL_region ?_
  refine sY hf hs rfl rfl rfl (Y_assign rfl rfl) ?_; clear hf; intro a hf
  refine wpO_nil ?_
  refine wpL_seq ?_
  obtain ⟨r5, hj6, hm⟩ := bind_some hm
  refine wpL_cut (fun a w => ∃ b4 : Bool, b4 = r5 ∧ Fr a 9 [(2, .bool b4)] ∧ St [] W w []) ?_ ?_
  · refine wpL_region ?_
    refine sY hf hs rfl rfl rfl (Y_move rfl rfl) ?_; clear hf; intro a hf
    refine sY hf hs rfl rfl rfl (Y_eql rfl rfl rfl) ?_; clear hf; intro a hf
    refine sY hf hs rfl rfl rfl (Y_move rfl rfl) ?_; clear hf; intro a hf
    refine bsplit (p0_a == (-1000000000000000)) (fun hb7 => ?_) (fun hb7 => ?_)
    · have hj6 := bif_t hj6 hb7
      refine sNo hf rfl rfl rfl (congrArg (fun b => some (Value.bool b)) hb7) rfl rfl rfl ?_; clear hf; intro a hf
      refine sNo hf rfl rfl rfl (congrArg (fun b => some (Value.bool b)) hb7) rfl rfl rfl ?_; clear hf; intro a hf
      refine sY hf hs rfl rfl rfl (Y_pickT rfl (congrArg (fun b => some (Value.bool b)) hb7) rfl) ?_; clear hf; intro a hf
      refine sY hf hs rfl rfl rfl (Y_assign rfl rfl) ?_; clear hf; intro a hf
      refine wpO_nil ?_
      refine wpL_nil (then_normal ?_)
      exact ⟨true, Option.some.inj hj6, (FrD.pick hf.none hf rfl), hs⟩
    · have hj6 := bif_f hj6 hb7
      refine sYg hf hs rfl rfl rfl (congrArg (fun b => some (Value.bool b)) hb7) rfl rfl rfl (Y_move rfl rfl) ?_; clear hf; intro a hf
      obtain ⟨r8, hc9, hj6⟩ := bind_some hj6
      refine sCallg hf rfl rfl rfl (congrArg (fun b => some (Value.bool b)) hb7) rfl rfl rfl rfl (cap := []) rfl rfl en161 (impl_isFinite_ok F p0_a _ _ hc9) ?_; clear hf
      rintro _ w ⟨rfl, hs1⟩ a hf
      have hs : St [] W w [] := hs.ext hs1.below
      clear hs1
      refine sY hf hs rfl rfl rfl (Y_pickF rfl (congrArg (fun b => some (Value.bool b)) hb7) rfl) ?_; clear hf; intro a hf
      refine sY hf hs rfl rfl rfl (Y_assign rfl rfl) ?_; clear hf; intro a hf
      refine wpO_nil ?_
      refine wpL_nil (then_normal ?_)
      exact ⟨r8, Option.some.inj hj6, (FrD.pick hf.none hf rfl), hs⟩
  · rintro a w ⟨b4, hr_, hf, hs⟩
    subst hr_
    try dsimp only at hm
    obtain rfl := Option.some.inj hm
    refine wpL_ret (ret_tmp rfl hf rfl ?_)
    exact ⟨_, rfl, rfl, hs⟩

set_option maxRecDepth 100000 in
theorem impl_areValues_c1_ok (F : Nat) (p0_n : Int) (r : Bool) (W : World) (hm : impl_areValues_c1 F p0_n = some r) :
    Calls Try.prog 160 [.int .i64 p0_n].toArray W fun e w' => ∃ v, e = .returned v ∧ v = .bool r ∧ St [] W w' [] := by
  unfold impl_areValues_c1 at hm
  refine Calls.enter (N := 6) Try.func160 rfl rfl rfl (fun a hf => ?_)
  have hs := St.start W
  obtain ⟨w, hw_⟩ : ∃ w, w = W := ⟨W, rfl⟩
  clear hw_ w
  refine wpL_seq ?_
  refine wpL_region ?_
  refine sY hf hs rfl rfl rfl (Y_assign rfl rfl) ?_; clear hf; intro a hf
  refine wpO_nil ?_
  refine wpL_seq ?_
  refine wpL_region ?_
  refine sY hf hs rfl rfl rfl (Y_move rfl rfl) ?_; clear hf; intro a hf
  obtain ⟨r1, hc2, hm⟩ := bind_some hm
  refine sCall hf rfl rfl rfl rfl (cap := []) rfl rfl en87 (impl_IsValue_ok F p0_n _ _ hc2) ?_; clear hf
  rintro _ w ⟨rfl, hs1⟩ a hf
  have hs : St [] W w [] := hs.ext hs1.below
  clear hs1
  refine sY hf hs rfl rfl rfl (Y_not rfl rfl) ?_; clear hf; intro a hf
  refine sY hf hs rfl rfl rfl (Y_assign rfl rfl) ?_; clear hf; intro a hf
  refine wpO_nil ?_
  obtain rfl := Option.some.inj hm
  refine wpL_ret (ret_tmp rfl hf rfl ?_)
  exact ⟨_, rfl, rfl, hs⟩

set_option maxRecDepth 100000 in
theorem impl_areValues_ok (F : Nat) (p0_list : List Int) (A_p0_list_1 : Option Addr) (n_p0_list_1 c_p0_list_1 : Nat) (hn_p0_list_1 : n_p0_list_1 = p0_list.length) (r : Bool) (W : World) (hm : impl_areValues F p0_list = some r) (h_p0_list_1 : Rd W A_p0_list_1 (ints p0_list)) :
    Calls Try.prog 86 [.slice A_p0_list_1 n_p0_list_1 c_p0_list_1].toArray W fun e w' => ∃ v, e = .returned v ∧ v = .bool r ∧ St [] W w' [] := by
  subst hn_p0_list_1
  unfold impl_areValues at hm
  refine Calls.enter (N := 6) Try.func86 rfl rfl rfl (fun a hf => ?_)
  have hs := St.start W
  obtain ⟨w, hw_⟩ : ∃ w, w = W := ⟨W, rfl⟩
  clear hw_ w
  refine wpL_seq ?_
  refine wpL_region ?_
  refine sY hf hs rfl rfl rfl (Y_assign rfl rfl) ?_; clear hf; intro a hf
  refine wpO_nil ?_
  refine wpL_seq ?_
  refine wpL_region ?_
  refine sY hf hs rfl rfl rfl (Y_move rfl rfl) ?_; clear hf; intro a hf
  obtain ⟨r1, hc2, hm⟩ := bind_some hm
  refine sCall hf rfl rfl rfl rfl (cap := []) rfl rfl en159 (slices_ContainsFunc_int64_ok F p0_list A_p0_list_1 p0_list.length c_p0_list_1 rfl (fun x0 => impl_areValues_c1 F x0) 160 [] _ _ hc2 (h_p0_list_1.at hs) (fun x0 r w' hm_ hb => impl_areValues_c1_ok F x0 r w' hm_ ) en160) ?_; clear hf
  rintro _ w ⟨rfl, hs1⟩ a hf
  have hs : St [] W w [] := hs.ext hs1.below
  clear hs1
  refine sY hf hs rfl rfl rfl (Y_not rfl rfl) ?_; clear hf; intro a hf
  refine sY hf hs rfl rfl rfl (Y_assign rfl rfl) ?_; clear hf; intro a hf
  refine wpO_nil ?_
  obtain rfl := Option.some.inj hm
  refine wpL_ret (ret_tmp rfl hf rfl ?_)
  exact ⟨_, rfl, rfl, hs⟩

set_option maxRecDepth 100000 in
theorem impl_IsMatrix_c1_ok (F : Nat) (p0_row : List Int) (A_p0_row_1 : Option Addr) (n_p0_row_1 c_p0_row_1 : Nat) (hn_p0_row_1 : n_p0_row_1 = p0_row.length) (b_z0 : Nat) (z0 : List (List Int)) (A_z0_1 : Option Addr) (n_z0_1 c_z0_1 : Nat) (hn_z0_1 : n_z0_1 = z0.length) (r : Bool) (W : World) (hm : impl_IsMatrix_c1 F p0_row z0 = some r) (h_p0_row_1 : Rd W A_p0_row_1 (ints p0_row)) (h_z0_1 : RdM W A_z0_1 z0) (h_z0 : PB W b_z0 22 [.slice A_z0_1 n_z0_1 c_z0_1]) :
    Calls Try.prog 186 [.slice A_p0_row_1 n_p0_row_1 c_p0_row_1, .pointer (some ⟨b_z0, 0, none⟩)].toArray W fun e w' => ∃ v, e = .returned v ∧ v = .bool r ∧ St [] W w' [] := by
  subst hn_p0_row_1
  subst hn_z0_1
  unfold impl_IsMatrix_c1 at hm
  refine Calls.enter (N := 16) Try.func186 rfl rfl rfl (fun a hf => ?_)
  have hs := St.start W
  obtain ⟨w, hw_⟩ : ∃ w, w = W := ⟨W, rfl⟩
  clear hw_ w
  refine wpL_seq ?_
  refine wpL_region ?_
  refine sY hf hs rfl rfl rfl (Y_assign rfl rfl) ?_; clear hf; intro a hf
  refine wpO_nil ?_
  refine wpL_seq ?_
  obtain ⟨r14, hj15, hm⟩ := bind_some hm
  refine wpL_cut (fun a w => ∃ b13 : Bool, b13 = r14 ∧ Fr a 16 [(3, .bool b13)] ∧ St [] W w []) ?_ ?_
  · refine wpL_region ?_
    refine sY hf hs rfl rfl rfl (Y_move rfl rfl) ?_; clear hf; intro a hf
    refine sY hf hs rfl rfl rfl (Y_lenH rfl rfl el23 rfl) ?_; clear hf; intro a hf
    refine sY hf hs rfl rfl rfl (Y_load_pb rfl rfl h_z0 rfl ag22) ?_; clear hf; intro a hf
    obtain ⟨q16, hi17, hj15⟩ := bind_some hj15
    obtain ⟨hi17a, hi17b, hi17q⟩ := idx_some hi17
    obtain ⟨vs18, hv19, hr20⟩ := id h_z0_1
    obtain ⟨A21, c22, hv23, hR24⟩ := hr20 _ _ hi17q
    refine sY hf hs rfl rfl rfl (Y_index rfl rfl rfl el22 ti23 (Rd.isAt hv19 hv23) hi17a hi17b) ?_; clear hf; intro a hf
    refine sY hf hs rfl rfl rfl (Y_load_rd rfl rfl (fun w hs => hv19.at hs) (at1 hv23) ag23) ?_; clear hf; intro a hf
    refine sY hf hs rfl rfl rfl (Y_lenH rfl rfl el23 rfl) ?_; clear hf; intro a hf
    refine sY hf hs rfl rfl rfl (Y_neq rfl rfl rfl) ?_; clear hf; intro a hf
    refine sY hf hs rfl rfl rfl (Y_move rfl rfl) ?_; clear hf; intro a hf
    refine bsplit ((p0_row.length : Int) != (q16.length : Int)) (fun hb25 => ?_) (fun hb25 => ?_)
    · have hj15 := bif_t hj15 hb25
      refine sNo hf rfl rfl rfl (congrArg (fun b => some (Value.bool b)) hb25) rfl rfl rfl ?_; clear hf; intro a hf
      refine sNo hf rfl rfl rfl (congrArg (fun b => some (Value.bool b)) hb25) rfl rfl rfl ?_; clear hf; intro a hf
      refine sNo hf rfl rfl rfl (congrArg (fun b => some (Value.bool b)) hb25) rfl rfl rfl ?_; clear hf; intro a hf
      refine sY hf hs rfl rfl rfl (Y_pickT rfl (congrArg (fun b => some (Value.bool b)) hb25) rfl) ?_; clear hf; intro a hf
      refine sY hf hs rfl rfl rfl (Y_assign rfl rfl) ?_; clear hf; intro a hf
      refine wpO_nil ?_
      refine wpL_nil (then_normal ?_)
      exact ⟨true, Option.some.inj hj15, (FrD.pick hf.none hf rfl), hs⟩
    · have hj15 := bif_f hj15 hb25
      refine sYg hf hs rfl rfl rfl (congrArg (fun b => some (Value.bool b)) hb25) rfl rfl rfl (Y_move rfl rfl) ?_; clear hf; intro a hf
      obtain ⟨r26, hc27, hj15⟩ := bind_some hj15
      refine sCallg hf rfl rfl rfl (congrArg (fun b => some (Value.bool b)) hb25) rfl rfl rfl rfl (cap := []) rfl rfl en86 (impl_areValues_ok F p0_row A_p0_row_1 p0_row.length c_p0_row_1 rfl _ _ hc27 (h_p0_row_1.at hs)) ?_; clear hf
      rintro _ w ⟨rfl, hs1⟩ a hf
      have hs : St [] W w [] := hs.ext hs1.below
      clear hs1
      refine sYg hf hs rfl rfl rfl (congrArg (fun b => some (Value.bool b)) hb25) rfl rfl rfl (Y_not rfl rfl) ?_; clear hf; intro a hf
      refine sY hf hs rfl rfl rfl (Y_pickF rfl (congrArg (fun b => some (Value.bool b)) hb25) rfl) ?_; clear hf; intro a hf
      refine sY hf hs rfl rfl rfl (Y_assign rfl rfl) ?_; clear hf; intro a hf
      refine wpO_nil ?_
      refine wpL_nil (then_normal ?_)
      exact ⟨(!r26), Option.some.inj hj15, (FrD.pick hf.none hf rfl), hs⟩
  · rintro a w ⟨b13, hr_, hf, hs⟩
    subst hr_
    try dsimp only at hm
    obtain rfl := Option.some.inj hm
    refine wpL_ret (ret_tmp rfl hf rfl ?_)
    exact ⟨_, rfl, rfl, hs⟩

set_option maxRecDepth 100000 in
theorem slices_IndexFunc_sint64_ok (F : Nat) (p0_s : List (List Int)) (A_p0_s_1 : Option Addr) (n_p0_s_1 c_p0_s_1 : Nat) (hn_p0_s_1 : n_p0_s_1 = p0_s.length) (m_p1_f : (List Int) → Option Bool) (f_p1_f : FuncId) (k_p1_f : List Value) (r : Int) (W : World) (hm : slices_IndexFunc_sint64 F p0_s m_p1_f = some r) (h_p0_s_1 : RdM W A_p0_s_1 p0_s) (h_p1_f : ∀ (x0 : List Int) (Ax0_1 : Option Addr) (nx0_1 cx0_1 : Nat) (_hnx0_1 : nx0_1 = x0.length) (r : Bool) (w : World), m_p1_f x0 = some r → Below W.heap.size W w → Rd w Ax0_1 (ints x0) → Calls Try.prog f_p1_f (([.slice Ax0_1 nx0_1 cx0_1] : List Value) ++ k_p1_f).toArray w fun e w' => ∃ v, e = .returned v ∧ v = .bool r ∧ St [] w w' []) (e_p1_f : En Try.prog f_p1_f) :
    Calls Try.prog 194 [.slice A_p0_s_1 n_p0_s_1 c_p0_s_1, .func (.func f_p1_f) #[] k_p1_f.toArray].toArray W fun e w' => ∃ v, e = .returned v ∧ v = .int .i64 r ∧ St [] W w' [] := by
  subst hn_p0_s_1
  unfold slices_IndexFunc_sint64 at hm
  refine Calls.enter (N := 19) Try.func194 rfl rfl rfl (fun a hf => ?_)
  have hs := St.start W
  obtain ⟨w, hw_⟩ : ∃ w, w = W := ⟨W, rfl⟩
  clear hw_ w
  refine wpL_seq ?_
  refine wpL_region ?_
  refine sY hf hs rfl rfl rfl (Y_assign rfl rfl) ?_; clear hf; intro a hf
  refine wpO_nil ?_
  refine wpL_seq ?_
  refine wpL_seq ?_
  refine wpL_region ?_
  refine sY hf hs rfl rfl rfl (Y_move rfl rfl) ?_; clear hf; intro a hf
  refine sY hf hs rfl rfl rfl (Y_lenH rfl rfl el22 rfl) ?_; clear hf; intro a hf
  refine sY hf hs rfl rfl rfl (Y_move rfl rfl) ?_; clear hf; intro a hf
  refine wpO_nil ?_
  obtain ⟨r42, hl43, hm⟩ := bind_some hm
  refine wpL_block (fun a w => Sum.inr () = r42 ∧ Fr a 19 [] ∧ St [] W w []) ?_ ?_
  · refine wpL_loop (fun n a w => ∃ x28 : Int, slices_IndexFunc_sint64_L1 F p0_s m_p1_f n x28 = some r42 ∧ Fr a 19 [(0, .slice A_p0_s_1 p0_s.length c_p0_s_1), (1, .func (.func f_p1_f) #[] k_p1_f.toArray), (7, .int .i64 (p0_s.length : Int)), (8, .int .i64 x28)] ∧ St [] W w []) F ?_ ?_ ?_
    · exact ⟨0, hl43, (FrD.pick (FrD.pick (FrD.pick (FrD.pick hf.none hf rfl) hf rfl) hf rfl) hf rfl), hs⟩
    · rintro a w ⟨x28, h0_, -, -⟩; simp [slices_IndexFunc_sint64_L1] at h0_
    · rintro n45 a w ⟨x28, hm44, hf, hs⟩
      rw [slices_IndexFunc_sint64_L1] at hm44
      refine wpL_seq ?_
      refine wpL_region ?_
      refine sY hf hs rfl rfl rfl (Y_lss rfl rfl rfl) ?_; clear hf; intro a hf
      refine wpO_nil ?_
      refine wpL_seq ?_
      refine wpL_cond hf rfl (fun hb46 => ?_) (fun hb46 => ?_)
      · have hm44 := bif_t hm44 hb46
        refine wpL_skip ?_
        refine wpL_seq ?_
        refine wpL_block0 ?_
        refine wpL_seq ?_
        refine wpL_region ?_
        refine sY hf hs rfl rfl rfl (Y_move rfl rfl) ?_; clear hf; intro a hf
        refine sY hf hs rfl rfl rfl (Y_assign rfl rfl) ?_; clear hf; intro a hf
        refine wpO_nil ?_
        refine wpL_seq ?_
        refine wpL_region ?_
        refine sY hf hs rfl rfl rfl (Y_move rfl rfl) ?_; clear hf; intro a hf
        refine sY hf hs rfl rfl rfl (Y_move rfl rfl) ?_; clear hf; intro a hf
        refine sY hf hs rfl rfl rfl (Y_move rfl rfl) ?_; clear hf; intro a hf
        obtain ⟨q47, hi48, hm44⟩ := bind_some hm44
        obtain ⟨hi48a, hi48b, hi48q⟩ := idx_some hi48
        obtain ⟨vs49, hv50, hr51⟩ := id h_p0_s_1
        obtain ⟨A52, c53, hv54, hR55⟩ := hr51 _ _ hi48q
        refine sY hf hs rfl rfl rfl (Y_index rfl rfl rfl el22 ti23 (Rd.isAt hv50 hv54) hi48a hi48b) ?_; clear hf; intro a hf
        refine sY hf hs rfl rfl rfl (Y_load_rd rfl rfl (fun w hs => hv50.at hs) (at1 hv54) ag23) ?_; clear hf; intro a hf
        obtain ⟨r56, hc57, hm44⟩ := bind_some hm44
        refine sCall hf rfl rfl rfl rfl (cap := k_p1_f) rfl rfl e_p1_f (h_p1_f q47 A52 q47.length c53 rfl _ _ hc57 hs.below (hR55.at hs)) ?_; clear hf; rintro _ w ⟨rfl, hs1⟩ a hf; have hs := hs.ext hs1.below; clear hs1
        refine wpO_nil ?_
        refine wpL_cond hf rfl (fun hb58 => ?_) (fun hb58 => ?_)
        · have hm44 := bif_t hm44 hb58
          refine wpL_seq ?_
          refine wpL_region ?_
          refine sY hf hs rfl rfl rfl (Y_move rfl rfl) ?_; clear hf; intro a hf
          refine sY hf hs rfl rfl rfl (Y_assign rfl rfl) ?_; clear hf; intro a hf
          refine wpO_nil ?_
          obtain rfl := Option.some.inj hm44
          try dsimp only at hm
          obtain rfl := Option.some.inj hm
          refine wpL_ret (Qb_ret (Ql_ret (Qb_ret (ret_tmp rfl hf rfl ?_))))
          exact ⟨_, rfl, rfl, hs⟩
        · have hm44 := bif_f hm44 hb58
          refine wpL_skip ?_
          refine wpL_nil (Qb_normal ?_)
          refine wpL_region ?_
          refine sY hf hs rfl rfl rfl (Y_add rfl rfl rfl) ?_; clear hf; intro a hf
          refine sY hf hs rfl rfl rfl (Y_move rfl rfl) ?_; clear hf; intro a hf
          refine wpO_nil ?_
          refine wpL_nil (Ql_normal ?_)
          exact ⟨(IntKind.i64.wrap (x28 + 1)), hm44, (FrD.pick (FrD.pick (FrD.pick (FrD.pick hf.none hf rfl) hf rfl) hf rfl) hf rfl), hs⟩
      · have hm44 := bif_f hm44 hb46
        refine wpL_exit (Ql_exit (Qb_exit ?_))
        exact ⟨Option.some.inj hm44, hf.none, hs⟩
  · rintro a w ⟨hr_, hf, hs⟩
    subst hr_
    try dsimp only at hm
    refine wpL_seq ?_
    refine wpL_region ?_
    refine sY hf hs rfl rfl rfl (Y_assign rfl rfl) ?_; clear hf; intro a hf
    refine wpO_nil ?_
    obtain rfl := Option.some.inj hm
    refine wpL_ret (ret_tmp rfl hf rfl ?_)
    exact ⟨_, rfl, rfl, hs⟩

set_option maxRecDepth 100000 in
theorem slices_ContainsFunc_sint64_ok (F : Nat) (p0_s : List (List Int)) (A_p0_s_1 : Option Addr) (n_p0_s_1 c_p0_s_1 : Nat) (hn_p0_s_1 : n_p0_s_1 = p0_s.length) (m_p1_f : (List Int) → Option Bool) (f_p1_f : FuncId) (k_p1_f : List Value) (r : Bool) (W : World) (hm : slices_ContainsFunc_sint64 F p0_s m_p1_f = some r) (h_p0_s_1 : RdM W A_p0_s_1 p0_s) (h_p1_f : ∀ (x0 : List Int) (Ax0_1 : Option Addr) (nx0_1 cx0_1 : Nat) (_hnx0_1 : nx0_1 = x0.length) (r : Bool) (w : World), m_p1_f x0 = some r → Below W.heap.size W w → Rd w Ax0_1 (ints x0) → Calls Try.prog f_p1_f (([.slice Ax0_1 nx0_1 cx0_1] : List Value) ++ k_p1_f).toArray w fun e w' => ∃ v, e = .returned v ∧ v = .bool r ∧ St [] w w' []) (e_p1_f : En Try.prog f_p1_f) :
    Calls Try.prog 185 [.slice A_p0_s_1 n_p0_s_1 c_p0_s_1, .func (.func f_p1_f) #[] k_p1_f.toArray].toArray W fun e w' => ∃ v, e = .returned v ∧ v = .bool r ∧ St [] W w' [] := by
  subst hn_p0_s_1
  unfold slices_ContainsFunc_sint64 at hm
  refine Calls.enter (N := 9) Try.func185 rfl rfl rfl (fun a hf => ?_)
  have hs := St.start W
  obtain ⟨w, hw_⟩ : ∃ w, w = W := ⟨W, rfl⟩
  clear hw_ w
  refine wpL_seq ?_
  refine wpL_region ?_
  refine sY hf hs rfl rfl rfl (Y_assign rfl rfl) ?_; clear hf; intro a hf
  refine wpO_nil ?_
  refine wpL_seq ?_
  refine wpL_region ?_
  refine sY hf hs rfl rfl rfl (Y_move rfl rfl) ?_; clear hf; intro a hf
  refine sY hf hs rfl rfl rfl (Y_move rfl rfl) ?_; clear hf; intro a hf
  obtain ⟨r1, hc2, hm⟩ := bind_some hm
  refine sCall hf rfl rfl rfl rfl (cap := []) rfl rfl en194 (slices_IndexFunc_sint64_ok F p0_s A_p0_s_1 p0_s.length c_p0_s_1 rfl m_p1_f f_p1_f k_p1_f _ _ hc2 (h_p0_s_1.at hs) (fun x0 A0_0 n0_0 c0_0 h0_0 r w' hm_ hb r0_0 => h_p1_f x0 A0_0 n0_0 c0_0 h0_0 r w' hm_ (hs.below.trans (hb.mono hs.below.size)) r0_0) e_p1_f) ?_; clear hf
  rintro _ w ⟨rfl, hs1⟩ a hf
  have hs : St [] W w [] := hs.ext hs1.below
  clear hs1
  refine sY hf hs rfl rfl rfl (Y_geq rfl rfl rfl) ?_; clear hf; intro a hf
  refine sY hf hs rfl rfl rfl (Y_assign rfl rfl) ?_; clear hf; intro a hf
  refine wpO_nil ?_
  obtain rfl := Option.some.inj hm
  refine wpL_ret (ret_tmp rfl hf rfl ?_)
  exact ⟨_, rfl, rfl, hs⟩

set_option maxRecDepth 100000 in
theorem impl_IsMatrix_ok (F : Nat) (p0_a : List (List Int)) (A_p0_a_1 : Option Addr) (n_p0_a_1 c_p0_a_1 : Nat) (hn_p0_a_1 : n_p0_a_1 = p0_a.length) (r : Bool) (W : World) (hm : impl_IsMatrix F p0_a = some r) (h_p0_a_1 : RdM W A_p0_a_1 p0_a) :
    Calls Try.prog 170 [.slice A_p0_a_1 n_p0_a_1 c_p0_a_1].toArray W fun e w' => ∃ v, e = .returned v ∧ v = .bool r ∧ St [] W w' [] := by
  subst hn_p0_a_1
  unfold impl_IsMatrix at hm
  refine Calls.enter (N := 19) Try.func170 rfl rfl rfl (fun a hf => ?_)
  have hs := St.start W
  obtain ⟨w, hw_⟩ : ∃ w, w = W := ⟨W, rfl⟩
  clear hw_ w
  refine wpL_seq ?_
  refine wpL_region ?_
  refine sBox hf hs rfl rfl rfl rfl rfl (cs := [.slice A_p0_a_1 p0_a.length c_p0_a_1]) rfl ?_; clear hf hs; intro a w b1 hs hf
  have hs : St [] W w [.blk b1 22 [.slice A_p0_a_1 p0_a.length c_p0_a_1]] := hs
  refine sY hf hs rfl rfl rfl (Y_assign rfl rfl) ?_; clear hf; intro a hf
  refine wpO_nil ?_
  refine wpL_seq ?_
  refine wpL_seq ?_
  obtain ⟨r17, hj18, hm⟩ := bind_some hm
  refine wpL_cut (fun a w => ∃ b16 : Bool, b16 = r17 ∧ Fr a 19 [(1, .pointer (some ⟨b1, 0, none⟩)), (14, .bool b16)] ∧ St [] W w [.blk b1 22 [.slice A_p0_a_1 p0_a.length c_p0_a_1]]) ?_ ?_
  · refine wpL_region ?_
    refine sY hf hs rfl rfl rfl (Y_load_blk rfl rfl (i := 0) rfl rfl ag22) ?_; clear hf; intro a hf
    refine sY hf hs rfl rfl rfl (Y_lenH rfl rfl el22 rfl) ?_; clear hf; intro a hf
    obtain ⟨r19, hc20, hj18⟩ := bind_some hj18
    refine sCall hf rfl rfl rfl rfl (cap := []) rfl rfl en105 (impl_within_ok F (p0_a.length : Int) 1 10 _ _ hc20) ?_; clear hf
    rintro _ w ⟨rfl, hs1⟩ a hf
    have hs : St [] W w [.blk b1 22 [.slice A_p0_a_1 p0_a.length c_p0_a_1]] := hs.ext hs1.below
    clear hs1
    refine sY hf hs rfl rfl rfl (Y_not rfl rfl) ?_; clear hf; intro a hf
    refine sY hf hs rfl rfl rfl (Y_move rfl rfl) ?_; clear hf; intro a hf
    refine bsplit (!r19) (fun hb21 => ?_) (fun hb21 => ?_)
    · have hj18 := bif_t hj18 hb21
      refine sNo hf rfl rfl rfl (congrArg (fun b => some (Value.bool b)) hb21) rfl rfl rfl ?_; clear hf; intro a hf
      refine sNo hf rfl rfl rfl (congrArg (fun b => some (Value.bool b)) hb21) rfl rfl rfl ?_; clear hf; intro a hf
      refine sNo hf rfl rfl rfl (congrArg (fun b => some (Value.bool b)) hb21) rfl rfl rfl ?_; clear hf; intro a hf
      refine sNo hf rfl rfl rfl (congrArg (fun b => some (Value.bool b)) hb21) rfl rfl rfl ?_; clear hf; intro a hf
      refine sNo hf rfl rfl rfl (congrArg (fun b => some (Value.bool b)) hb21) rfl rfl rfl ?_; clear hf; intro a hf
      refine sNo hf rfl rfl rfl (congrArg (fun b => some (Value.bool b)) hb21) rfl rfl rfl ?_; clear hf; intro a hf
      refine sY hf hs rfl rfl rfl (Y_pickT rfl (congrArg (fun b => some (Value.bool b)) hb21) rfl) ?_; clear hf; intro a hf
      refine wpO_nil ?_
      refine wpL_nil (then_normal ?_)
      exact ⟨true, Option.some.inj hj18, (FrD.pick (FrD.pick hf.none hf rfl) hf rfl), hs⟩
    · have hj18 := bif_f hj18 hb21
      refine sYg hf hs rfl rfl rfl (congrArg (fun b => some (Value.bool b)) hb21) rfl rfl rfl (Y_load_blk rfl rfl (i := 0) rfl rfl ag22) ?_; clear hf; intro a hf
      obtain ⟨q22, hi23, hj18⟩ := bind_some hj18
      obtain ⟨hi23a, hi23b, hi23q⟩ := idx_some hi23
      obtain ⟨vs24, hv25, hr26⟩ := id h_p0_a_1
      obtain ⟨A27, c28, hv29, hR30⟩ := hr26 _ _ hi23q
      refine sYg hf hs rfl rfl rfl (congrArg (fun b => some (Value.bool b)) hb21) rfl rfl rfl (Y_index rfl rfl rfl el22 ti23 (Rd.isAt hv25 hv29) hi23a hi23b) ?_; clear hf; intro a hf
      refine sYg hf hs rfl rfl rfl (congrArg (fun b => some (Value.bool b)) hb21) rfl rfl rfl (Y_load_rd rfl rfl (fun w hs => hv25.at hs) (at1 hv29) ag23) ?_; clear hf; intro a hf
      refine sYg hf hs rfl rfl rfl (congrArg (fun b => some (Value.bool b)) hb21) rfl rfl rfl (Y_lenH rfl rfl el23 rfl) ?_; clear hf; intro a hf
      obtain ⟨r31, hc32, hj18⟩ := bind_some hj18
      refine sCallg hf rfl rfl rfl (congrArg (fun b => some (Value.bool b)) hb21) rfl rfl rfl rfl (cap := []) rfl rfl en105 (impl_within_ok F (q22.length : Int) 1 10 _ _ hc32) ?_; clear hf
      rintro _ w ⟨rfl, hs1⟩ a hf
      have hs : St [] W w [.blk b1 22 [.slice A_p0_a_1 p0_a.length c_p0_a_1]] := hs.ext hs1.below
      clear hs1
      refine sYg hf hs rfl rfl rfl (congrArg (fun b => some (Value.bool b)) hb21) rfl rfl rfl (Y_not rfl rfl) ?_; clear hf; intro a hf
      refine sY hf hs rfl rfl rfl (Y_pickF rfl (congrArg (fun b => some (Value.bool b)) hb21) rfl) ?_; clear hf; intro a hf
      refine wpO_nil ?_
      refine wpL_nil (then_normal ?_)
      exact ⟨(!r31), Option.some.inj hj18, (FrD.pick (FrD.pick hf.none hf rfl) hf rfl), hs⟩
  · rintro a w ⟨b16, hr_, hf, hs⟩
    subst hr_
    try dsimp only at hm
    refine wpL_cond hf rfl (fun hb33 => ?_) (fun hb33 => ?_)
    · have hm := bif_t hm hb33
      refine wpL_seq ?_
      refine wpL_region ?_
      refine sY hf hs rfl rfl rfl (Y_assign rfl rfl) ?_; clear hf; intro a hf
      refine wpO_nil ?_
      obtain rfl := Option.some.inj hm
      refine wpL_ret (ret_tmp rfl hf rfl ?_)
      exact ⟨_, rfl, rfl, hs.sel [] (by decide)⟩
    · have hm := bif_f hm hb33
      refine wpL_skip ?_
      refine wpL_seq ?_
      refine wpL_region ?_
      refine sY hf hs rfl rfl rfl (Y_load_blk rfl rfl (i := 0) rfl rfl ag22) ?_; clear hf; intro a hf
      refine sY hf hs rfl rfl rfl (Y_makeFunc (us := []) (vs := [.pointer (some ⟨b1, 0, none⟩)]) rfl rfl rfl) ?_; clear hf; intro a hf
      obtain ⟨r34, hc35, hm⟩ := bind_some hm
      refine sCall hf rfl rfl rfl rfl (cap := []) rfl rfl en185 (slices_ContainsFunc_sint64_ok F p0_a A_p0_a_1 p0_a.length c_p0_a_1 rfl (fun x0 => impl_IsMatrix_c1 F x0 p0_a) 186 ([.pointer (some ⟨b1, 0, none⟩)]) _ _ hc35 (h_p0_a_1.at hs) (fun x0 Ax00 nx00 cx00 hx00 r w' hm_ hb rx00 => impl_IsMatrix_c1_ok F x0 Ax00 nx00 cx00 hx00 b1 p0_a A_p0_a_1 p0_a.length c_p0_a_1 rfl r w' hm_ rx00 ((h_p0_a_1.at hs).below hb (Nat.le_refl _)) ((hs.pb (i := 0) rfl).below hb (Nat.le_refl _))) en186) ?_; clear hf
      rintro _ w ⟨rfl, hs1⟩ a hf
      have hs : St [] W w [.blk b1 22 [.slice A_p0_a_1 p0_a.length c_p0_a_1]] := hs.ext hs1.below
      clear hs1
      refine sY hf hs rfl rfl rfl (Y_not rfl rfl) ?_; clear hf; intro a hf
      refine sY hf hs rfl rfl rfl (Y_assign rfl rfl) ?_; clear hf; intro a hf
      refine wpO_nil ?_
      obtain rfl := Option.some.inj hm
      refine wpL_ret (ret_tmp rfl hf rfl ?_)
      exact ⟨_, rfl, rfl, hs.sel [] (by decide)⟩

set_option maxRecDepth 100000 in
theorem impl_isSquare_ok (F : Nat) (p0_a : List (List Int)) (A_p0_a_1 : Option Addr) (n_p0_a_1 c_p0_a_1 : Nat) (hn_p0_a_1 : n_p0_a_1 = p0_a.length) (r : Bool) (W : World) (hm : impl_isSquare F p0_a = some r) (h_p0_a_1 : RdM W A_p0_a_1 p0_a) :
    Calls Try.prog 117 [.slice A_p0_a_1 n_p0_a_1 c_p0_a_1].toArray W fun e w' => ∃ v, e = .returned v ∧ v = .bool r ∧ St [] W w' [] := by
  subst hn_p0_a_1
  unfold impl_isSquare at hm
  refine Calls.enter (N := 14) Try.func117 rfl rfl rfl (fun a hf => ?_)
  have hs := St.start W
  obtain ⟨w, hw_⟩ : ∃ w, w = W := ⟨W, rfl⟩
  clear hw_ w
  refine wpL_seq ?_
  refine wpL_region ?_
  refine sY hf hs rfl rfl rfl (Y_assign rfl rfl) ?_; clear hf; intro a hf
  refine wpO_nil ?_
  refine wpL_seq ?_
  obtain ⟨r14, hj15, hm⟩ := bind_some hm
  refine wpL_cut (fun a w => ∃ b13 : Bool, b13 = r14 ∧ Fr a 14 [(2, .bool b13)] ∧ St [] W w []) ?_ ?_
  · refine wpL_region ?_
    refine sY hf hs rfl rfl rfl (Y_move rfl rfl) ?_; clear hf; intro a hf
    obtain ⟨r16, hc17, hj15⟩ := bind_some hj15
    refine sCall hf rfl rfl rfl rfl (cap := []) rfl rfl en170 (impl_IsMatrix_ok F p0_a A_p0_a_1 p0_a.length c_p0_a_1 rfl _ _ hc17 (h_p0_a_1.at hs)) ?_; clear hf
    rintro _ w ⟨rfl, hs1⟩ a hf
    have hs : St [] W w [] := hs.ext hs1.below
    clear hs1
    refine sY hf hs rfl rfl rfl (Y_move rfl rfl) ?_; clear hf; intro a hf
    refine bsplit r16 (fun hb18 => ?_) (fun hb18 => ?_)
    · have hj15 := bif_t hj15 hb18
      refine sYg hf hs rfl rfl rfl (congrArg (fun b => some (Value.bool b)) hb18) rfl rfl rfl (Y_move rfl rfl) ?_; clear hf; intro a hf
      refine sYg hf hs rfl rfl rfl (congrArg (fun b => some (Value.bool b)) hb18) rfl rfl rfl (Y_lenH rfl rfl el22 rfl) ?_; clear hf; intro a hf
      refine sYg hf hs rfl rfl rfl (congrArg (fun b => some (Value.bool b)) hb18) rfl rfl rfl (Y_move rfl rfl) ?_; clear hf; intro a hf
      obtain ⟨q19, hi20, hj15⟩ := bind_some hj15
      obtain ⟨hi20a, hi20b, hi20q⟩ := idx_some hi20
      obtain ⟨vs21, hv22, hr23⟩ := id h_p0_a_1
      obtain ⟨A24, c25, hv26, hR27⟩ := hr23 _ _ hi20q
      refine sYg hf hs rfl rfl rfl (congrArg (fun b => some (Value.bool b)) hb18) rfl rfl rfl (Y_index rfl rfl rfl el22 ti23 (Rd.isAt hv22 hv26) hi20a hi20b) ?_; clear hf; intro a hf
      refine sYg hf hs rfl rfl rfl (congrArg (fun b => some (Value.bool b)) hb18) rfl rfl rfl (Y_load_rd rfl rfl (fun w hs => hv22.at hs) (at1 hv26) ag23) ?_; clear hf; intro a hf
      refine sYg hf hs rfl rfl rfl (congrArg (fun b => some (Value.bool b)) hb18) rfl rfl rfl (Y_lenH rfl rfl el23 rfl) ?_; clear hf; intro a hf
      refine sYg hf hs rfl rfl rfl (congrArg (fun b => some (Value.bool b)) hb18) rfl rfl rfl (Y_eql rfl rfl rfl) ?_; clear hf; intro a hf
      refine sY hf hs rfl rfl rfl (Y_pickT rfl (congrArg (fun b => some (Value.bool b)) hb18) rfl) ?_; clear hf; intro a hf
      refine sY hf hs rfl rfl rfl (Y_assign rfl rfl) ?_; clear hf; intro a hf
      refine wpO_nil ?_
      refine wpL_nil (then_normal ?_)
      exact ⟨((p0_a.length : Int) == (q19.length : Int)), Option.some.inj hj15, (FrD.pick hf.none hf rfl), hs⟩
    · have hj15 := bif_f hj15 hb18
      refine sNo hf rfl rfl rfl (congrArg (fun b => some (Value.bool b)) hb18) rfl rfl rfl ?_; clear hf; intro a hf
      refine sNo hf rfl rfl rfl (congrArg (fun b => some (Value.bool b)) hb18) rfl rfl rfl ?_; clear hf; intro a hf
      refine sNo hf rfl rfl rfl (congrArg (fun b => some (Value.bool b)) hb18) rfl rfl rfl ?_; clear hf; intro a hf
      refine sNo hf rfl rfl rfl (congrArg (fun b => some (Value.bool b)) hb18) rfl rfl rfl ?_; clear hf; intro a hf
      refine sNo hf rfl rfl rfl (congrArg (fun b => some (Value.bool b)) hb18) rfl rfl rfl ?_; clear hf; intro a hf
      refine sNo hf rfl rfl rfl (congrArg (fun b => some (Value.bool b)) hb18) rfl rfl rfl ?_; clear hf; intro a hf
      refine sNo hf rfl rfl rfl (congrArg (fun b => some (Value.bool b)) hb18) rfl rfl rfl ?_; clear hf; intro a hf
      refine sY hf hs rfl rfl rfl (Y_pickF rfl (congrArg (fun b => some (Value.bool b)) hb18) rfl) ?_; clear hf; intro a hf
      refine sY hf hs rfl rfl rfl (Y_assign rfl rfl) ?_; clear hf; intro a hf
      refine wpO_nil ?_
      refine wpL_nil (then_normal ?_)
      exact ⟨false, Option.some.inj hj15, (FrD.pick hf.none hf rfl), hs⟩
  · rintro a w ⟨b13, hr_, hf, hs⟩
    subst hr_
    try dsimp only at hm
    obtain rfl := Option.some.inj hm
    refine wpL_ret (ret_tmp rfl hf rfl ?_)
    exact ⟨_, rfl, rfl, hs⟩

set_option maxRecDepth 100000 in
theorem impl_isVector_ok (F : Nat) (p0_x : List Int) (A_p0_x_1 : Option Addr) (n_p0_x_1 c_p0_x_1 : Nat) (hn_p0_x_1 : n_p0_x_1 = p0_x.length) (r : Bool) (W : World) (hm : impl_isVector F p0_x = some r) (h_p0_x_1 : Rd W A_p0_x_1 (ints p0_x)) :
    Calls Try.prog 118 [.slice A_p0_x_1 n_p0_x_1 c_p0_x_1].toArray W fun e w' => ∃ v, e = .returned v ∧ v = .bool r ∧ St [] W w' [] := by
  subst hn_p0_x_1
  unfold impl_isVector at hm
  refine Calls.enter (N := 10) Try.func118 rfl rfl rfl (fun a hf => ?_)
  have hs := St.start W
  obtain ⟨w, hw_⟩ : ∃ w, w = W := ⟨W, rfl⟩
  clear hw_ w
  refine wpL_seq ?_
  refine wpL_region ?_
  refine sY hf hs rfl rfl rfl (Y_assign rfl rfl) ?_; clear hf; intro a hf
  refine wpO_nil ?_
  refine wpL_seq ?_
  obtain ⟨r7, hj8, hm⟩ := bind_some hm
  refine wpL_cut (fun a w => ∃ b6 : Bool, b6 = r7 ∧ Fr a 10 [(2, .bool b6)] ∧ St [] W w []) ?_ ?_
  · refine wpL_region ?_
    refine sY hf hs rfl rfl rfl (Y_move rfl rfl) ?_; clear hf; intro a hf
    refine sY hf hs rfl rfl rfl (Y_lenH rfl rfl el23 rfl) ?_; clear hf; intro a hf
    obtain ⟨r9, hc10, hj8⟩ := bind_some hj8
    refine sCall hf rfl rfl rfl rfl (cap := []) rfl rfl en105 (impl_within_ok F (p0_x.length : Int) 1 10 _ _ hc10) ?_; clear hf
    rintro _ w ⟨rfl, hs1⟩ a hf
    have hs : St [] W w [] := hs.ext hs1.below
    clear hs1
    refine sY hf hs rfl rfl rfl (Y_move rfl rfl) ?_; clear hf; intro a hf
    refine bsplit r9 (fun hb11 => ?_) (fun hb11 => ?_)
    · have hj8 := bif_t hj8 hb11
      refine sYg hf hs rfl rfl rfl (congrArg (fun b => some (Value.bool b)) hb11) rfl rfl rfl (Y_move rfl rfl) ?_; clear hf; intro a hf
      obtain ⟨r12, hc13, hj8⟩ := bind_some hj8
      refine sCallg hf rfl rfl rfl (congrArg (fun b => some (Value.bool b)) hb11) rfl rfl rfl rfl (cap := []) rfl rfl en86 (impl_areValues_ok F p0_x A_p0_x_1 p0_x.length c_p0_x_1 rfl _ _ hc13 (h_p0_x_1.at hs)) ?_; clear hf
      rintro _ w ⟨rfl, hs1⟩ a hf
      have hs : St [] W w [] := hs.ext hs1.below
      clear hs1
      refine sY hf hs rfl rfl rfl (Y_pickT rfl (congrArg (fun b => some (Value.bool b)) hb11) rfl) ?_; clear hf; intro a hf
      refine sY hf hs rfl rfl rfl (Y_assign rfl rfl) ?_; clear hf; intro a hf
      refine wpO_nil ?_
      refine wpL_nil (then_normal ?_)
      exact ⟨r12, Option.some.inj hj8, (FrD.pick hf.none hf rfl), hs⟩
    · have hj8 := bif_f hj8 hb11
      refine sNo hf rfl rfl rfl (congrArg (fun b => some (Value.bool b)) hb11) rfl rfl rfl ?_; clear hf; intro a hf
      refine sNo hf rfl rfl rfl (congrArg (fun b => some (Value.bool b)) hb11) rfl rfl rfl ?_; clear hf; intro a hf
      refine sY hf hs rfl rfl rfl (Y_pickF rfl (congrArg (fun b => some (Value.bool b)) hb11) rfl) ?_; clear hf; intro a hf
      refine sY hf hs rfl rfl rfl (Y_assign rfl rfl) ?_; clear hf; intro a hf
      refine wpO_nil ?_
      refine wpL_nil (then_normal ?_)
      exact ⟨false, Option.some.inj hj8, (FrD.pick hf.none hf rfl), hs⟩
  · rintro a w ⟨b6, hr_, hf, hs⟩
    subst hr_
    try dsimp only at hm
    obtain rfl := Option.some.inj hm
    refine wpL_ret (ret_tmp rfl hf rfl ?_)
    exact ⟨_, rfl, rfl, hs⟩

set_option maxRecDepth 100000 in
theorem impl_IsSystem_ok (F : Nat) (p0_s : GSystem) (A_p0_s_1 : Option Addr) (n_p0_s_1 c_p0_s_1 : Nat) (hn_p0_s_1 : n_p0_s_1 = p0_s.A.length) (A_p0_s_2 : Option Addr) (n_p0_s_2 c_p0_s_2 : Nat) (hn_p0_s_2 : n_p0_s_2 = p0_s.B.length) (A_p0_s_3 : Option Addr) (n_p0_s_3 c_p0_s_3 : Nat) (hn_p0_s_3 : n_p0_s_3 = p0_s.C.length) (r : Bool) (W : World) (hm : impl_IsSystem F p0_s = some r) (h_p0_s_1 : RdM W A_p0_s_1 p0_s.A) (h_p0_s_2 : Rd W A_p0_s_2 (ints p0_s.B)) (h_p0_s_3 : Rd W A_p0_s_3 (ints p0_s.C)) :
    Calls Try.prog 31 [.agg #[.slice A_p0_s_1 n_p0_s_1 c_p0_s_1, .slice A_p0_s_2 n_p0_s_2 c_p0_s_2, .slice A_p0_s_3 n_p0_s_3 c_p0_s_3]].toArray W fun e w' => ∃ v, e = .returned v ∧ v = .bool r ∧ St [] W w' [] := by
  subst hn_p0_s_1
  subst hn_p0_s_2
  subst hn_p0_s_3
  unfold impl_IsSystem at hm
  refine Calls.enter (N := 34) Try.func31 rfl rfl rfl (fun a hf => ?_)
  have hs := St.start W
  obtain ⟨w, hw_⟩ : ∃ w, w = W := ⟨W, rfl⟩
  clear hw_ w
  refine wpL_seq ?_
  refine wpL_region ?_
  refine sBox hf hs rfl rfl rfl rfl rfl (cs := [.slice A_p0_s_1 p0_s.A.length c_p0_s_1, .slice A_p0_s_2 p0_s.B.length c_p0_s_2, .slice A_p0_s_3 p0_s.C.length c_p0_s_3]) rfl ?_; clear hf hs; intro a w b1 hs hf
  have hs : St [] W w [.blk b1 27 [.slice A_p0_s_1 p0_s.A.length c_p0_s_1, .slice A_p0_s_2 p0_s.B.length c_p0_s_2, .slice A_p0_s_3 p0_s.C.length c_p0_s_3]] := hs
  refine sY hf hs rfl rfl rfl (Y_assign rfl rfl) ?_; clear hf; intro a hf
  refine wpO_nil ?_
  refine wpL_seq ?_
  obtain ⟨r13, hj14, hm⟩ := bind_some hm
  refine wpL_cut (fun a w => ∃ b12 : Bool, b12 = r13 ∧ Fr a 34 [(2, .bool b12)] ∧ St [] W w []) ?_ ?_
  · refine wpL_region ?_
    refine sY hf hs rfl rfl rfl (Y_fieldAddr rfl rfl fo27_0) ?_; clear hf; intro a hf
    refine sY hf hs rfl rfl rfl (Y_load_blk rfl rfl (i := 0) rfl rfl ag22) ?_; clear hf; intro a hf
    obtain ⟨r15, hc16, hj14⟩ := bind_some hj14
    refine sCall hf rfl rfl rfl rfl (cap := []) rfl rfl en117 (impl_isSquare_ok F p0_s.A A_p0_s_1 p0_s.A.length c_p0_s_1 rfl _ _ hc16 (h_p0_s_1.at hs)) ?_; clear hf
    rintro _ w ⟨rfl, hs1⟩ a hf
    have hs : St [] W w [.blk b1 27 [.slice A_p0_s_1 p0_s.A.length c_p0_s_1, .slice A_p0_s_2 p0_s.B.length c_p0_s_2, .slice A_p0_s_3 p0_s.C.length c_p0_s_3]] := hs.ext hs1.below
    clear hs1
    refine sY hf hs rfl rfl rfl (Y_move rfl rfl) ?_; clear hf; intro a hf
    refine bsplit r15 (fun hb17 => ?_) (fun hb17 => ?_)
    · have hj14 := bif_t hj14 hb17
      refine sYg hf hs rfl rfl rfl (congrArg (fun b => some (Value.bool b)) hb17) rfl rfl rfl (Y_fieldAddr rfl rfl fo27_1) ?_; clear hf; intro a hf
      refine sYg hf hs rfl rfl rfl (congrArg (fun b => some (Value.bool b)) hb17) rfl rfl rfl (Y_load_blk rfl rfl (i := 0) rfl rfl ag23) ?_; clear hf; intro a hf
      obtain ⟨r18, hc19, hj14⟩ := bind_some hj14
      refine sCallg hf rfl rfl rfl (congrArg (fun b => some (Value.bool b)) hb17) rfl rfl rfl rfl (cap := []) rfl rfl en118 (impl_isVector_ok F p0_s.B A_p0_s_2 p0_s.B.length c_p0_s_2 rfl _ _ hc19 (h_p0_s_2.at hs)) ?_; clear hf
      rintro _ w ⟨rfl, hs1⟩ a hf
      have hs : St [] W w [.blk b1 27 [.slice A_p0_s_1 p0_s.A.length c_p0_s_1, .slice A_p0_s_2 p0_s.B.length c_p0_s_2, .slice A_p0_s_3 p0_s.C.length c_p0_s_3]] := hs.ext hs1.below
      clear hs1
      refine sY hf hs rfl rfl rfl (Y_pickT rfl (congrArg (fun b => some (Value.bool b)) hb17) rfl) ?_; clear hf; intro a hf
      refine sY hf hs rfl rfl rfl (Y_move rfl rfl) ?_; clear hf; intro a hf
      refine bsplit r18 (fun hb20 => ?_) (fun hb20 => ?_)
      · have hj14 := bif_t hj14 hb20
        refine sYg hf hs rfl rfl rfl (congrArg (fun b => some (Value.bool b)) hb20) rfl rfl rfl (Y_fieldAddr rfl rfl fo27_2) ?_; clear hf; intro a hf
        refine sYg hf hs rfl rfl rfl (congrArg (fun b => some (Value.bool b)) hb20) rfl rfl rfl (Y_load_blk rfl rfl (i := 0) rfl rfl ag23) ?_; clear hf; intro a hf
        obtain ⟨r21, hc22, hj14⟩ := bind_some hj14
        refine sCallg hf rfl rfl rfl (congrArg (fun b => some (Value.bool b)) hb20) rfl rfl rfl rfl (cap := []) rfl rfl en118 (impl_isVector_ok F p0_s.C A_p0_s_3 p0_s.C.length c_p0_s_3 rfl _ _ hc22 (h_p0_s_3.at hs)) ?_; clear hf
        rintro _ w ⟨rfl, hs1⟩ a hf
        have hs : St [] W w [.blk b1 27 [.slice A_p0_s_1 p0_s.A.length c_p0_s_1, .slice A_p0_s_2 p0_s.B.length c_p0_s_2, .slice A_p0_s_3 p0_s.C.length c_p0_s_3]] := hs.ext hs1.below
        clear hs1
        refine sY hf hs rfl rfl rfl (Y_pickT rfl (congrArg (fun b => some (Value.bool b)) hb20) rfl) ?_; clear hf; intro a hf
        refine sY hf hs rfl rfl rfl (Y_move rfl rfl) ?_; clear hf; intro a hf
        refine bsplit r21 (fun hb23 => ?_) (fun hb23 => ?_)
        · have hj14 := bif_t hj14 hb23
          refine sYg hf hs rfl rfl rfl (congrArg (fun b => some (Value.bool b)) hb23) rfl rfl rfl (Y_fieldAddr rfl rfl fo27_1) ?_; clear hf; intro a hf
          refine sYg hf hs rfl rfl rfl (congrArg (fun b => some (Value.bool b)) hb23) rfl rfl rfl (Y_load_blk rfl rfl (i := 0) rfl rfl ag23) ?_; clear hf; intro a hf
          refine sYg hf hs rfl rfl rfl (congrArg (fun b => some (Value.bool b)) hb23) rfl rfl rfl (Y_lenH rfl rfl el23 rfl) ?_; clear hf; intro a hf
          refine sYg hf hs rfl rfl rfl (congrArg (fun b => some (Value.bool b)) hb23) rfl rfl rfl (Y_fieldAddr rfl rfl fo27_0) ?_; clear hf; intro a hf
          refine sYg hf hs rfl rfl rfl (congrArg (fun b => some (Value.bool b)) hb23) rfl rfl rfl (Y_load_blk rfl rfl (i := 0) rfl rfl ag22) ?_; clear hf; intro a hf
          refine sYg hf hs rfl rfl rfl (congrArg (fun b => some (Value.bool b)) hb23) rfl rfl rfl (Y_lenH rfl rfl el22 rfl) ?_; clear hf; intro a hf
          refine sYg hf hs rfl rfl rfl (congrArg (fun b => some (Value.bool b)) hb23) rfl rfl rfl (Y_eql rfl rfl rfl) ?_; clear hf; intro a hf
          refine sY hf hs rfl rfl rfl (Y_pickT rfl (congrArg (fun b => some (Value.bool b)) hb23) rfl) ?_; clear hf; intro a hf
          refine sY hf hs rfl rfl rfl (Y_move rfl rfl) ?_; clear hf; intro a hf
          refine bsplit ((p0_s.B.length : Int) == (p0_s.A.length : Int)) (fun hb24 => ?_) (fun hb24 => ?_)
          · have hj14 := bif_t hj14 hb24
            refine sYg hf hs rfl rfl rfl (congrArg (fun b => some (Value.bool b)) hb24) rfl rfl rfl (Y_fieldAddr rfl rfl fo27_2) ?_; clear hf; intro a hf
            refine sYg hf hs rfl rfl rfl (congrArg (fun b => some (Value.bool b)) hb24) rfl rfl rfl (Y_load_blk rfl rfl (i := 0) rfl rfl ag23) ?_; clear hf; intro a hf
            refine sYg hf hs rfl rfl rfl (congrArg (fun b => some (Value.bool b)) hb24) rfl rfl rfl (Y_lenH rfl rfl el23 rfl) ?_; clear hf; intro a hf
            refine sYg hf hs rfl rfl rfl (congrArg (fun b => some (Value.bool b)) hb24) rfl rfl rfl (Y_fieldAddr rfl rfl fo27_0) ?_; clear hf; intro a hf
            refine sYg hf hs rfl rfl rfl (congrArg (fun b => some (Value.bool b)) hb24) rfl rfl rfl (Y_load_blk rfl rfl (i := 0) rfl rfl ag22) ?_; clear hf; intro a hf
            refine sYg hf hs rfl rfl rfl (congrArg (fun b => some (Value.bool b)) hb24) rfl rfl rfl (Y_lenH rfl rfl el22 rfl) ?_; clear hf; intro a hf
            refine sYg hf hs rfl rfl rfl (congrArg (fun b => some (Value.bool b)) hb24) rfl rfl rfl (Y_eql rfl rfl rfl) ?_; clear hf; intro a hf
            refine sY hf hs rfl rfl rfl (Y_pickT rfl (congrArg (fun b => some (Value.bool b)) hb24) rfl) ?_; clear hf; intro a hf
            refine sY hf hs rfl rfl rfl (Y_assign rfl rfl) ?_; clear hf; intro a hf
            refine wpO_nil ?_
            refine wpL_nil (then_normal ?_)
            exact ⟨((p0_s.C.length : Int) == (p0_s.A.length : Int)), Option.some.inj hj14, (FrD.pick hf.none hf rfl), hs.sel [] (by decide)⟩
          · have hj14 := bif_f hj14 hb24
            refine sNo hf rfl rfl rfl (congrArg (fun b => some (Value.bool b)) hb24) rfl rfl rfl ?_; clear hf; intro a hf
            refine sNo hf rfl rfl rfl (congrArg (fun b => some (Value.bool b)) hb24) rfl rfl rfl ?_; clear hf; intro a hf
            refine sNo hf rfl rfl rfl (congrArg (fun b => some (Value.bool b)) hb24) rfl rfl rfl ?_; clear hf; intro a hf
            refine sNo hf rfl rfl rfl (congrArg (fun b => some (Value.bool b)) hb24) rfl rfl rfl ?_; clear hf; intro a hf
            refine sNo hf rfl rfl rfl (congrArg (fun b => some (Value.bool b)) hb24) rfl rfl rfl ?_; clear hf; intro a hf
            refine sNo hf rfl rfl rfl (congrArg (fun b => some (Value.bool b)) hb24) rfl rfl rfl ?_; clear hf; intro a hf
            refine sNo hf rfl rfl rfl (congrArg (fun b => some (Value.bool b)) hb24) rfl rfl rfl ?_; clear hf; intro a hf
            refine sY hf hs rfl rfl rfl (Y_pickF rfl (congrArg (fun b => some (Value.bool b)) hb24) rfl) ?_; clear hf; intro a hf
            refine sY hf hs rfl rfl rfl (Y_assign rfl rfl) ?_; clear hf; intro a hf
            refine wpO_nil ?_
            refine wpL_nil (then_normal ?_)
            exact ⟨false, Option.some.inj hj14, (FrD.pick hf.none hf rfl), hs.sel [] (by decide)⟩
        · have hj14 := bif_f hj14 hb23
          refine sNo hf rfl rfl rfl (congrArg (fun b => some (Value.bool b)) hb23) rfl rfl rfl ?_; clear hf; intro a hf
          refine sNo hf rfl rfl rfl (congrArg (fun b => some (Value.bool b)) hb23) rfl rfl rfl ?_; clear hf; intro a hf
          refine sNo hf rfl rfl rfl (congrArg (fun b => some (Value.bool b)) hb23) rfl rfl rfl ?_; clear hf; intro a hf
          refine sNo hf rfl rfl rfl (congrArg (fun b => some (Value.bool b)) hb23) rfl rfl rfl ?_; clear hf; intro a hf
          refine sNo hf rfl rfl rfl (congrArg (fun b => some (Value.bool b)) hb23) rfl rfl rfl ?_; clear hf; intro a hf
          refine sNo hf rfl rfl rfl (congrArg (fun b => some (Value.bool b)) hb23) rfl rfl rfl ?_; clear hf; intro a hf
          refine sNo hf rfl rfl rfl (congrArg (fun b => some (Value.bool b)) hb23) rfl rfl rfl ?_; clear hf; intro a hf
          refine sY hf hs rfl rfl rfl (Y_pickF rfl (congrArg (fun b => some (Value.bool b)) hb23) rfl) ?_; clear hf; intro a hf
          refine sY hf hs rfl rfl rfl (Y_move rfl rfl) ?_; clear hf; intro a hf
          refine sNo hf rfl rfl rfl rfl rfl rfl rfl ?_; clear hf; intro a hf
          refine sNo hf rfl rfl rfl rfl rfl rfl rfl ?_; clear hf; intro a hf
          refine sNo hf rfl rfl rfl rfl rfl rfl rfl ?_; clear hf; intro a hf
          refine sNo hf rfl rfl rfl rfl rfl rfl rfl ?_; clear hf; intro a hf
          refine sNo hf rfl rfl rfl rfl rfl rfl rfl ?_; clear hf; intro a hf
          refine sNo hf rfl rfl rfl rfl rfl rfl rfl ?_; clear hf; intro a hf
          refine sNo hf rfl rfl rfl rfl rfl rfl rfl ?_; clear hf; intro a hf
          refine sY hf hs rfl rfl rfl (Y_pickF rfl rfl rfl) ?_; clear hf; intro a hf
          refine sY hf hs rfl rfl rfl (Y_assign rfl rfl) ?_; clear hf; intro a hf
          refine wpO_nil ?_
          refine wpL_nil (then_normal ?_)
          exact ⟨false, Option.some.inj hj14, (FrD.pick hf.none hf rfl), hs.sel [] (by decide)⟩
      · have hj14 := bif_f hj14 hb20
        refine sNo hf rfl rfl rfl (congrArg (fun b => some (Value.bool b)) hb20) rfl rfl rfl ?_; clear hf; intro a hf
        refine sNo hf rfl rfl rfl (congrArg (fun b => some (Value.bool b)) hb20) rfl rfl rfl ?_; clear hf; intro a hf
        refine sNo hf rfl rfl rfl (congrArg (fun b => some (Value.bool b)) hb20) rfl rfl rfl ?_; clear hf; intro a hf
        refine sY hf hs rfl rfl rfl (Y_pickF rfl (congrArg (fun b => some (Value.bool b)) hb20) rfl) ?_; clear hf; intro a hf
        refine sY hf hs rfl rfl rfl (Y_move rfl rfl) ?_; clear hf; intro a hf
        refine sNo hf rfl rfl rfl rfl rfl rfl rfl ?_; clear hf; intro a hf
        refine sNo hf rfl rfl rfl rfl rfl rfl rfl ?_; clear hf; intro a hf
        refine sNo hf rfl rfl rfl rfl rfl rfl rfl ?_; clear hf; intro a hf
        refine sNo hf rfl rfl rfl rfl rfl rfl rfl ?_; clear hf; intro a hf
        refine sNo hf rfl rfl rfl rfl rfl rfl rfl ?_; clear hf; intro a hf
        refine sNo hf rfl rfl rfl rfl rfl rfl rfl ?_; clear hf; intro a hf
        refine sNo hf rfl rfl rfl rfl rfl rfl rfl ?_; clear hf; intro a hf
        refine sY hf hs rfl rfl rfl (Y_pickF rfl rfl rfl) ?_; clear hf; intro a hf
        refine sY hf hs rfl rfl rfl (Y_move rfl rfl) ?_; clear hf; intro a hf
        refine sNo hf rfl rfl rfl rfl rfl rfl rfl ?_; clear hf; intro a hf
        refine sNo hf rfl rfl rfl rfl rfl rfl rfl ?_; clear hf; intro a hf
        refine sNo hf rfl rfl rfl rfl rfl rfl rfl ?_; clear hf; intro a hf
        refine sNo hf rfl rfl rfl rfl rfl rfl rfl ?_; clear hf; intro a hf
        refine sNo hf rfl rfl rfl rfl rfl rfl rfl ?_; clear hf; intro a hf
        refine sNo hf rfl rfl rfl rfl rfl rfl rfl ?_; clear hf; intro a hf
        refine sNo hf rfl rfl rfl rfl rfl rfl rfl ?_; clear hf; intro a hf
        refine sY hf hs rfl rfl rfl (Y_pickF rfl rfl rfl) ?_; clear hf; intro a hf
        refine sY hf hs rfl rfl rfl (Y_assign rfl rfl) ?_; clear hf; intro a hf
        refine wpO_nil ?_
        refine wpL_nil (then_normal ?_)
        exact ⟨false, Option.some.inj hj14, (FrD.pick hf.none hf rfl), hs.sel [] (by decide)⟩
    · have hj14 := bif_f hj14 hb17
      refine sNo hf rfl rfl rfl (congrArg (fun b => some (Value.bool b)) hb17) rfl rfl rfl ?_; clear hf; intro a hf
      refine sNo hf rfl rfl rfl (congrArg (fun b => some (Value.bool b)) hb17) rfl rfl rfl ?_; clear hf; intro a hf
      refine sNo hf rfl rfl rfl (congrArg (fun b => some (Value.bool b)) hb17) rfl rfl rfl ?_; clear hf; intro a hf
      refine sY hf hs rfl rfl rfl (Y_pickF rfl (congrArg (fun b => some (Value.bool b)) hb17) rfl) ?_; clear hf; intro a hf
      refine sY hf hs rfl rfl rfl (Y_move rfl rfl) ?_; clear hf; intro a hf
      refine sNo hf rfl rfl rfl rfl rfl rfl rfl ?_; clear hf; intro a hf
      refine sNo hf rfl rfl rfl rfl rfl rfl rfl ?_; clear hf; intro a hf
      refine sNo hf rfl rfl rfl rfl rfl rfl rfl ?_; clear hf; intro a hf
      refine sY hf hs rfl rfl rfl (Y_pickF rfl rfl rfl) ?_; clear hf; intro a hf
      refine sY hf hs rfl rfl rfl (Y_move rfl rfl) ?_; clear hf; intro a hf
      refine sNo hf rfl rfl rfl rfl rfl rfl rfl ?_; clear hf; intro a hf
      refine sNo hf rfl rfl rfl rfl rfl rfl rfl ?_; clear hf; intro a hf
      refine sNo hf rfl rfl rfl rfl rfl rfl rfl ?_; clear hf; intro a hf
      refine sNo hf rfl rfl rfl rfl rfl rfl rfl ?_; clear hf; intro a hf
      refine sNo hf rfl rfl rfl rfl rfl rfl rfl ?_; clear hf; intro a hf
      refine sNo hf rfl rfl rfl rfl rfl rfl rfl ?_; clear hf; intro a hf
      refine sNo hf rfl rfl rfl rfl rfl rfl rfl ?_; clear hf; intro a hf
      refine sY hf hs rfl rfl rfl (Y_pickF rfl rfl rfl) ?_; clear hf; intro a hf
      refine sY hf hs rfl rfl rfl (Y_move rfl rfl) ?_; clear hf; intro a hf
      refine sNo hf rfl rfl rfl rfl rfl rfl rfl ?_; clear hf; intro a hf
      refine sNo hf rfl rfl rfl rfl rfl rfl rfl ?_; clear hf; intro a hf
      refine sNo hf rfl rfl rfl rfl rfl rfl rfl ?_; clear hf; intro a hf
      refine sNo hf rfl rfl rfl rfl rfl rfl rfl ?_; clear hf; intro a hf
      refine sNo hf rfl rfl rfl rfl rfl rfl rfl ?_; clear hf; intro a hf
      refine sNo hf rfl rfl rfl rfl rfl rfl rfl ?_; clear hf; intro a hf
      refine sNo hf rfl rfl rfl rfl rfl rfl rfl ?_; clear hf; intro a hf
      refine sY hf hs rfl rfl rfl (Y_pickF rfl rfl rfl) ?_; clear hf; intro a hf
      refine sY hf hs rfl rfl rfl (Y_assign rfl rfl) ?_; clear hf; intro a hf
      refine wpO_nil ?_
      refine wpL_nil (then_normal ?_)
      exact ⟨false, Option.some.inj hj14, (FrD.pick hf.none hf rfl), hs.sel [] (by decide)⟩
  · rintro a w ⟨b12, hr_, hf, hs⟩
    subst hr_
    try dsimp only at hm
    obtain rfl := Option.some.inj hm
    refine wpL_ret (ret_tmp rfl hf rfl ?_)
    exact ⟨_, rfl, rfl, hs⟩

end Go.Proofs.Ytgkgimglgjfcjaa
