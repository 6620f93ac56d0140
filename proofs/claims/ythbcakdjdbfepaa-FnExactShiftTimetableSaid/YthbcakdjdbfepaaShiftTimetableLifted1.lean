/- The functions do what their models say. -/
import Derived.Test.YthbcakdjdbfepaaShiftTimetableFacts
import Derived.Test.YthbcakdjdbfepaaRows
namespace Go.Proofs.Ythbcakdjdbfepaa
open Go.RowKit

set_option maxRecDepth 100000 in
theorem laws_szPlaceS_ok (F : Nat) (p0_a : List LPlace) (A_p0_a_1 : Option Addr) (n_p0_a_1 c_p0_a_1 : Nat) (hn_p0_a_1 : n_p0_a_1 = p0_a.length) (p1_left : Int) (r : Int) (W : World) (hm : laws_szPlaceS F p0_a p1_left = some r) (_h_p0_a_1 : Rd W A_p0_a_1 ((recs LPlace.cells) p0_a)) :
    Calls Try.prog 57 [.slice A_p0_a_1 n_p0_a_1 c_p0_a_1, .int .i64 p1_left].toArray W fun e w' => ∃ v, e = .returned v ∧ v = .int .i64 r ∧ St [] W w' [] := by
  subst hn_p0_a_1
  unfold laws_szPlaceS at hm
  refine Calls.enter (N := 12) Try.func57 rfl rfl rfl (fun a hf => ?_)
  have hs := St.start W
  obtain ⟨w, hw_⟩ : ∃ w, w = W := ⟨W, rfl⟩
  clear hw_ w
  refine wpL_seq ?_
  refine wpL_region ?_
  refine sY hf hs rfl rfl rfl (Y_assign rfl rfl) ?_; clear hf; intro a hf
  refine wpO_nil ?_
  refine wpL_seq ?_
  refine wpL_region ?_
  refine sY hf hs rfl rfl rfl (Y_move rfl rfl) ?_; clear hf; intro a hf
  refine sY hf hs rfl rfl rfl (Y_move rfl rfl) ?_; clear hf; intro a hf
  refine sY hf hs rfl rfl rfl (Y_lenH rfl rfl el22 rfl) ?_; clear hf; intro a hf
  refine sY hf hs rfl rfl rfl (Y_sub rfl rfl rfl) ?_; clear hf; intro a hf
  refine sY hf hs rfl rfl rfl (Y_assign rfl rfl) ?_; clear hf; intro a hf
  refine wpO_nil ?_
  refine wpL_seq ?_
  refine wpL_seq ?_
  refine wpL_region ?_
  refine sY hf hs rfl rfl rfl (Y_move rfl rfl) ?_; clear hf; intro a hf
  refine sY hf hs rfl rfl rfl (Y_lss rfl rfl rfl) ?_; clear hf; intro a hf
  refine wpO_nil ?_
  refine wpL_cond hf rfl (fun hb1 => ?_) (fun hb1 => ?_)
  · have hm := bif_t hm hb1
    refine wpL_seq ?_
    refine wpL_region ?_
    refine sY hf hs rfl rfl rfl (Y_assign rfl rfl) ?_; clear hf; intro a hf
    refine wpO_nil ?_
    obtain rfl := Option.some.inj hm
    refine wpL_ret (ret_tmp rfl hf rfl ?_)
    exact ⟨_, rfl, rfl, hs⟩
  · have hm := bif_f hm hb1
    refine wpL_skip ?_
    refine wpL_seq ?_
    refine wpL_region ?_
    refine sY hf hs rfl rfl rfl (Y_move rfl rfl) ?_; clear hf; intro a hf
    refine sY hf hs rfl rfl rfl (Y_assign rfl rfl) ?_; clear hf; intro a hf
    refine wpO_nil ?_
    obtain rfl := Option.some.inj hm
    refine wpL_ret (ret_tmp rfl hf rfl ?_)
    exact ⟨_, rfl, rfl, hs⟩

set_option maxRecDepth 100000 in
theorem laws_szEventGraph_ok (F : Nat) (p0_a : LEventGraph) (A_p0_a_1 : Option Addr) (n_p0_a_1 c_p0_a_1 : Nat) (hn_p0_a_1 : n_p0_a_1 = p0_a.Places.length) (p1_left : Int) (r : Int) (W : World) (hm : laws_szEventGraph F p0_a p1_left = some r) (h_p0_a_1 : Rd W A_p0_a_1 ((recs LPlace.cells) p0_a.Places)) :
    Calls Try.prog 15 [.agg #[.int .i64 p0_a.Events, .slice A_p0_a_1 n_p0_a_1 c_p0_a_1], .int .i64 p1_left].toArray W fun e w' => ∃ v, e = .returned v ∧ v = .int .i64 r ∧ St [] W w' [] := by
  subst hn_p0_a_1
  unfold laws_szEventGraph at hm
  refine Calls.enter (N := 12) Try.func15 rfl rfl rfl (fun a hf => ?_)
  have hs := St.start W
  obtain ⟨w, hw_⟩ : ∃ w, w = W := ⟨W, rfl⟩
  clear hw_ w
  refine wpL_seq ?_
  refine wpL_region ?_
  refine sBox hf hs rfl rfl rfl rfl rfl (cs := [.int .i64 p0_a.Events, .slice A_p0_a_1 p0_a.Places.length c_p0_a_1]) rfl ?_; clear hf hs; intro a w b1 hs hf
  have hs : St [] W w [.blk b1 24 [.int .i64 p0_a.Events, .slice A_p0_a_1 p0_a.Places.length c_p0_a_1]] := hs
  refine sY hf hs rfl rfl rfl (Y_assign rfl rfl) ?_; clear hf; intro a hf
  refine wpO_nil ?_
  refine wpL_seq ?_
  refine wpL_region ?_
  refine sY hf hs rfl rfl rfl (Y_fieldAddr rfl rfl fo24_1) ?_; clear hf; intro a hf
  refine sY hf hs rfl rfl rfl (Y_load_blk rfl rfl (i := 0) rfl rfl ag22) ?_; clear hf; intro a hf
  refine sY hf hs rfl rfl rfl (Y_move rfl rfl) ?_; clear hf; intro a hf
  obtain ⟨r2, hc3, hm⟩ := bind_some hm
  refine sCall hf rfl rfl rfl rfl (cap := []) rfl rfl en57 (laws_szPlaceS_ok F p0_a.Places A_p0_a_1 p0_a.Places.length c_p0_a_1 rfl p1_left _ _ hc3 (h_p0_a_1.at hs)) ?_; clear hf
  rintro _ w ⟨rfl, hs1⟩ a hf
  have hs : St [] W w [.blk b1 24 [.int .i64 p0_a.Events, .slice A_p0_a_1 p0_a.Places.length c_p0_a_1]] := hs.ext hs1.below
  clear hs1
  refine sY hf hs rfl rfl rfl (Y_assign rfl rfl) ?_; clear hf; intro a hf
  refine wpO_nil ?_
  refine wpL_seq ?_
  refine wpL_seq ?_
  refine wpL_region ?_
  refine sY hf hs rfl rfl rfl (Y_move rfl rfl) ?_; clear hf; intro a hf
  refine sY hf hs rfl rfl rfl (Y_lss rfl rfl rfl) ?_; clear hf; intro a hf
  refine wpO_nil ?_
  refine wpL_cond hf rfl (fun hb4 => ?_) (fun hb4 => ?_)
  · have hm := bif_t hm hb4
    refine wpL_seq ?_
    refine wpL_region ?_
    refine sY hf hs rfl rfl rfl (Y_assign rfl rfl) ?_; clear hf; intro a hf
    refine wpO_nil ?_
    obtain rfl := Option.some.inj hm
    refine wpL_ret (ret_tmp rfl hf rfl ?_)
    exact ⟨_, rfl, rfl, hs.sel [] (by decide)⟩
  · have hm := bif_f hm hb4
    refine wpL_skip ?_
    refine wpL_seq ?_
    refine wpL_region ?_
    refine sY hf hs rfl rfl rfl (Y_move rfl rfl) ?_; clear hf; intro a hf
    refine sY hf hs rfl rfl rfl (Y_assign rfl rfl) ?_; clear hf; intro a hf
    refine wpO_nil ?_
    obtain rfl := Option.some.inj hm
    refine wpL_ret (ret_tmp rfl hf rfl ?_)
    exact ⟨_, rfl, rfl, hs.sel [] (by decide)⟩

set_option maxRecDepth 100000 in
theorem laws_szInt64S_ok (F : Nat) (p0_a : List Int) (A_p0_a_1 : Option Addr) (n_p0_a_1 c_p0_a_1 : Nat) (hn_p0_a_1 : n_p0_a_1 = p0_a.length) (p1_left : Int) (r : Int) (W : World) (hm : laws_szInt64S F p0_a p1_left = some r) (_h_p0_a_1 : Rd W A_p0_a_1 (ints p0_a)) :
    Calls Try.prog 58 [.slice A_p0_a_1 n_p0_a_1 c_p0_a_1, .int .i64 p1_left].toArray W fun e w' => ∃ v, e = .returned v ∧ v = .int .i64 r ∧ St [] W w' [] := by
  subst hn_p0_a_1
  unfold laws_szInt64S at hm
  refine Calls.enter (N := 12) Try.func58 rfl rfl rfl (fun a hf => ?_)
  have hs := St.start W
  obtain ⟨w, hw_⟩ : ∃ w, w = W := ⟨W, rfl⟩
  clear hw_ w
  refine wpL_seq ?_
  refine wpL_region ?_
  refine sY hf hs rfl rfl rfl (Y_assign rfl rfl) ?_; clear hf; intro a hf
  refine wpO_nil ?_
  refine wpL_seq ?_
  refine wpL_region ?_
  refine sY hf hs rfl rfl rfl (Y_move rfl rfl) ?_; clear hf; intro a hf
  refine sY hf hs rfl rfl rfl (Y_move rfl rfl) ?_; clear hf; intro a hf
  refine sY hf hs rfl rfl rfl (Y_lenH rfl rfl el25 rfl) ?_; clear hf; intro a hf
  refine sY hf hs rfl rfl rfl (Y_sub rfl rfl rfl) ?_; clear hf; intro a hf
  refine sY hf hs rfl rfl rfl (Y_assign rfl rfl) ?_; clear hf; intro a hf
  refine wpO_nil ?_
  refine wpL_seq ?_
  refine wpL_seq ?_
  refine wpL_region ?_
  refine sY hf hs rfl rfl rfl (Y_move rfl rfl) ?_; clear hf; intro a hf
  refine sY hf hs rfl rfl rfl (Y_lss rfl rfl rfl) ?_; clear hf; intro a hf
  refine wpO_nil ?_
  refine wpL_cond hf rfl (fun hb1 => ?_) (fun hb1 => ?_)
  · have hm := bif_t hm hb1
    refine wpL_seq ?_
    refine wpL_region ?_
    refine sY hf hs rfl rfl rfl (Y_assign rfl rfl) ?_; clear hf; intro a hf
    refine wpO_nil ?_
    obtain rfl := Option.some.inj hm
    refine wpL_ret (ret_tmp rfl hf rfl ?_)
    exact ⟨_, rfl, rfl, hs⟩
  · have hm := bif_f hm hb1
    refine wpL_skip ?_
    refine wpL_seq ?_
    refine wpL_region ?_
    refine sY hf hs rfl rfl rfl (Y_move rfl rfl) ?_; clear hf; intro a hf
    refine sY hf hs rfl rfl rfl (Y_assign rfl rfl) ?_; clear hf; intro a hf
    refine wpO_nil ?_
    obtain rfl := Option.some.inj hm
    refine wpL_ret (ret_tmp rfl hf rfl ?_)
    exact ⟨_, rfl, rfl, hs⟩

set_option maxRecDepth 100000 in
theorem laws_szTimetable_ok (F : Nat) (p0_a : LTimetable) (A_p0_a_1 : Option Addr) (n_p0_a_1 c_p0_a_1 : Nat) (hn_p0_a_1 : n_p0_a_1 = p0_a.Starts.length) (p1_left : Int) (r : Int) (W : World) (hm : laws_szTimetable F p0_a p1_left = some r) (h_p0_a_1 : Rd W A_p0_a_1 (ints p0_a.Starts)) :
    Calls Try.prog 16 [.agg #[.int .i64 p0_a.Period, .slice A_p0_a_1 n_p0_a_1 c_p0_a_1], .int .i64 p1_left].toArray W fun e w' => ∃ v, e = .returned v ∧ v = .int .i64 r ∧ St [] W w' [] := by
  subst hn_p0_a_1
  unfold laws_szTimetable at hm
  refine Calls.enter (N := 12) Try.func16 rfl rfl rfl (fun a hf => ?_)
  have hs := St.start W
  obtain ⟨w, hw_⟩ : ∃ w, w = W := ⟨W, rfl⟩
  clear hw_ w
  refine wpL_seq ?_
  refine wpL_region ?_
  refine sBox hf hs rfl rfl rfl rfl rfl (cs := [.int .i64 p0_a.Period, .slice A_p0_a_1 p0_a.Starts.length c_p0_a_1]) rfl ?_; clear hf hs; intro a w b1 hs hf
  have hs : St [] W w [.blk b1 27 [.int .i64 p0_a.Period, .slice A_p0_a_1 p0_a.Starts.length c_p0_a_1]] := hs
  refine sY hf hs rfl rfl rfl (Y_assign rfl rfl) ?_; clear hf; intro a hf
  refine wpO_nil ?_
  refine wpL_seq ?_
  refine wpL_region ?_
  refine sY hf hs rfl rfl rfl (Y_fieldAddr rfl rfl fo27_1) ?_; clear hf; intro a hf
  refine sY hf hs rfl rfl rfl (Y_load_blk rfl rfl (i := 0) rfl rfl ag25) ?_; clear hf; intro a hf
  refine sY hf hs rfl rfl rfl (Y_move rfl rfl) ?_; clear hf; intro a hf
  obtain ⟨r2, hc3, hm⟩ := bind_some hm
  refine sCall hf rfl rfl rfl rfl (cap := []) rfl rfl en58 (laws_szInt64S_ok F p0_a.Starts A_p0_a_1 p0_a.Starts.length c_p0_a_1 rfl p1_left _ _ hc3 (h_p0_a_1.at hs)) ?_; clear hf
  rintro _ w ⟨rfl, hs1⟩ a hf
  have hs : St [] W w [.blk b1 27 [.int .i64 p0_a.Period, .slice A_p0_a_1 p0_a.Starts.length c_p0_a_1]] := hs.ext hs1.below
  clear hs1
  refine sY hf hs rfl rfl rfl (Y_assign rfl rfl) ?_; clear hf; intro a hf
  refine wpO_nil ?_
  refine wpL_seq ?_
  refine wpL_seq ?_
  refine wpL_region ?_
  refine sY hf hs rfl rfl rfl (Y_move rfl rfl) ?_; clear hf; intro a hf
  refine sY hf hs rfl rfl rfl (Y_lss rfl rfl rfl) ?_; clear hf; intro a hf
  refine wpO_nil ?_
  refine wpL_cond hf rfl (fun hb4 => ?_) (fun hb4 => ?_)
  · have hm := bif_t hm hb4
    refine wpL_seq ?_
    refine wpL_region ?_
    refine sY hf hs rfl rfl rfl (Y_assign rfl rfl) ?_; clear hf; intro a hf
    refine wpO_nil ?_
    obtain rfl := Option.some.inj hm
    refine wpL_ret (ret_tmp rfl hf rfl ?_)
    exact ⟨_, rfl, rfl, hs.sel [] (by decide)⟩
  · have hm := bif_f hm hb4
    refine wpL_skip ?_
    refine wpL_seq ?_
    refine wpL_region ?_
    refine sY hf hs rfl rfl rfl (Y_move rfl rfl) ?_; clear hf; intro a hf
    refine sY hf hs rfl rfl rfl (Y_assign rfl rfl) ?_; clear hf; intro a hf
    refine wpO_nil ?_
    obtain rfl := Option.some.inj hm
    refine wpL_ret (ret_tmp rfl hf rfl ?_)
    exact ⟨_, rfl, rfl, hs.sel [] (by decide)⟩

set_option maxRecDepth 100000 in
theorem laws_toPlace_ok (F : Nat) (p0_a : LPlace) (r : GPlace) (W : World) (hm : laws_toPlace F p0_a = some r) :
    Calls Try.prog 102 [.agg #[.int .i64 p0_a.From, .int .i64 p0_a.To, .int .i64 p0_a.Delay, .int .i64 p0_a.Tokens]].toArray W fun e w' => ∃ v, e = .returned v ∧ v = .agg #[.int .i64 r.From, .int .i64 r.To, .int .i64 r.Delay, .int .i64 r.Tokens] ∧ St [] W w' [] := by
  unfold laws_toPlace at hm
  refine Calls.enter (N := 17) Try.func102 rfl rfl rfl (fun a hf => ?_)
  have hs := St.start W
  obtain ⟨w, hw_⟩ : ∃ w, w = W := ⟨W, rfl⟩
  clear hw_ w
  refine wpL_seq ?_
  refine wpL_region ?_
  refine sBox hf hs rfl rfl rfl rfl rfl (cs := [.int .i64 p0_a.From, .int .i64 p0_a.To, .int .i64 p0_a.Delay, .int .i64 p0_a.Tokens]) rfl ?_; clear hf hs; intro a w b1 hs hf
  have hs : St [] W w [.blk b1 99 [.int .i64 p0_a.From, .int .i64 p0_a.To, .int .i64 p0_a.Delay, .int .i64 p0_a.Tokens]] := hs
  refine sAlloc hf hs rfl rfl rfl rfl ti71 ?_; clear hf hs; intro a w b2 hs hf
  have hs : St [] W w [.blk b1 99 [.int .i64 p0_a.From, .int .i64 p0_a.To, .int .i64 p0_a.Delay, .int .i64 p0_a.Tokens], .blk b2 71 [.int .i64 0, .int .i64 0, .int .i64 0, .int .i64 0]] := hs
  refine wpO_nil ?_
  refine wpL_seq ?_
  refine wpL_region ?_
  refine sAlloc hf hs rfl rfl rfl rfl ti71 ?_; clear hf hs; intro a w b3 hs hf
  have hs : St [] W w [.blk b1 99 [.int .i64 p0_a.From, .int .i64 p0_a.To, .int .i64 p0_a.Delay, .int .i64 p0_a.Tokens], .blk b2 71 [.int .i64 0, .int .i64 0, .int .i64 0, .int .i64 0], .blk b3 71 [.int .i64 0, .int .i64 0, .int .i64 0, .int .i64 0]] := hs
  refine wpO_nil ?_
  refine wpL_seq ?_
  refine wpL_region ?_
  refine sY hf hs rfl rfl rfl (Y_fieldAddr rfl rfl fo99_0) ?_; clear hf; intro a hf
  refine sY hf hs rfl rfl rfl (Y_load_blk rfl rfl (i := 0) rfl rfl ag2) ?_; clear hf; intro a hf
  refine sY hf hs rfl rfl rfl (Y_fieldAddr rfl rfl fo71_0) ?_; clear hf; intro a hf
  refine sStore (i := 2) (us := [.int .i64 p0_a.From]) hf hs rfl rfl rfl rfl rfl rfl ti2 rfl rfl rfl (Nat.le_of_ble_eq_true rfl) rfl ?_; clear hs; intro w hs
  have hs : St [] W w [.blk b1 99 [.int .i64 p0_a.From, .int .i64 p0_a.To, .int .i64 p0_a.Delay, .int .i64 p0_a.Tokens], .blk b2 71 [.int .i64 0, .int .i64 0, .int .i64 0, .int .i64 0], .blk b3 71 [.int .i64 p0_a.From, .int .i64 0, .int .i64 0, .int .i64 0]] := hs
  refine wpO_nil ?_
  refine wpL_seq ?_
  refine wpL_region ?_
  refine sY hf hs rfl rfl rfl (Y_fieldAddr rfl rfl fo99_1) ?_; clear hf; intro a hf
  refine sY hf hs rfl rfl rfl (Y_load_blk rfl rfl (i := 0) rfl rfl ag2) ?_; clear hf; intro a hf
  refine sY hf hs rfl rfl rfl (Y_fieldAddr rfl rfl fo71_1) ?_; clear hf; intro a hf
  refine sStore (i := 2) (us := [.int .i64 p0_a.To]) hf hs rfl rfl rfl rfl rfl rfl ti2 rfl rfl rfl (Nat.le_of_ble_eq_true rfl) rfl ?_; clear hs; intro w hs
  have hs : St [] W w [.blk b1 99 [.int .i64 p0_a.From, .int .i64 p0_a.To, .int .i64 p0_a.Delay, .int .i64 p0_a.Tokens], .blk b2 71 [.int .i64 0, .int .i64 0, .int .i64 0, .int .i64 0], .blk b3 71 [.int .i64 p0_a.From, .int .i64 p0_a.To, .int .i64 0, .int .i64 0]] := hs
  refine wpO_nil ?_
  refine wpL_seq ?_
  refine wpL_region ?_
  refine sY hf hs rfl rfl rfl (Y_fieldAddr rfl rfl fo99_2) ?_; clear hf; intro a hf
  refine sY hf hs rfl rfl rfl (Y_load_blk rfl rfl (i := 0) rfl rfl ag2) ?_; clear hf; intro a hf
  refine sY hf hs rfl rfl rfl (Y_fieldAddr rfl rfl fo71_2) ?_; clear hf; intro a hf
  refine sStore (i := 2) (us := [.int .i64 p0_a.Delay]) hf hs rfl rfl rfl rfl rfl rfl ti2 rfl rfl rfl (Nat.le_of_ble_eq_true rfl) rfl ?_; clear hs; intro w hs
  have hs : St [] W w [.blk b1 99 [.int .i64 p0_a.From, .int .i64 p0_a.To, .int .i64 p0_a.Delay, .int .i64 p0_a.Tokens], .blk b2 71 [.int .i64 0, .int .i64 0, .int .i64 0, .int .i64 0], .blk b3 71 [.int .i64 p0_a.From, .int .i64 p0_a.To, .int .i64 p0_a.Delay, .int .i64 0]] := hs
  refine wpO_nil ?_
  refine wpL_seq ?_
  refine wpL_region ?_
  refine sY hf hs rfl rfl rfl (Y_fieldAddr rfl rfl fo99_3) ?_; clear hf; intro a hf
  refine sY hf hs rfl rfl rfl (Y_load_blk rfl rfl (i := 0) rfl rfl ag2) ?_; clear hf; intro a hf
  refine sY hf hs rfl rfl rfl (Y_fieldAddr rfl rfl fo71_3) ?_; clear hf; intro a hf
  refine sStore (i := 2) (us := [.int .i64 p0_a.Tokens]) hf hs rfl rfl rfl rfl rfl rfl ti2 rfl rfl rfl (Nat.le_of_ble_eq_true rfl) rfl ?_; clear hs; intro w hs
  have hs : St [] W w [.blk b1 99 [.int .i64 p0_a.From, .int .i64 p0_a.To, .int .i64 p0_a.Delay, .int .i64 p0_a.Tokens], .blk b2 71 [.int .i64 0, .int .i64 0, .int .i64 0, .int .i64 0], .blk b3 71 [.int .i64 p0_a.From, .int .i64 p0_a.To, .int .i64 p0_a.Delay, .int .i64 p0_a.Tokens]] := hs
  refine wpO_nil ?_
  refine wpL_seq ?_
  refine wpL_region ?_
  refine sY hf hs rfl rfl rfl (Y_load_blkS rfl rfl (i := 2) rfl ag71 ti71 rfl) ?_; clear hf; intro a hf
  refine sStore (i := 1) (us := [.int .i64 p0_a.From, .int .i64 p0_a.To, .int .i64 p0_a.Delay, .int .i64 p0_a.Tokens]) hf hs rfl rfl rfl rfl rfl rfl ti71 rfl rfl rfl (Nat.le_of_ble_eq_true rfl) rfl ?_; clear hs; intro w hs
  have hs : St [] W w [.blk b1 99 [.int .i64 p0_a.From, .int .i64 p0_a.To, .int .i64 p0_a.Delay, .int .i64 p0_a.Tokens], .blk b2 71 [.int .i64 p0_a.From, .int .i64 p0_a.To, .int .i64 p0_a.Delay, .int .i64 p0_a.Tokens], .blk b3 71 [.int .i64 p0_a.From, .int .i64 p0_a.To, .int .i64 p0_a.Delay, .int .i64 p0_a.Tokens]] := hs
  refine wpO_nil ?_
  obtain rfl := Option.some.inj hm
  refine wpL_ret (ret_cell rfl hf rfl hs (i := 1) rfl ag71 ti71 rfl ?_)
  exact ⟨_, rfl, rfl, hs.sel [] (by decide)⟩

set_option maxRecDepth 100000 in
theorem laws_toPlaceS_ok (F : Nat) (p0_a : List LPlace) (A_p0_a_1 : Option Addr) (n_p0_a_1 c_p0_a_1 : Nat) (hn_p0_a_1 : n_p0_a_1 = p0_a.length) (r : List GPlace) (W : World) (hm : laws_toPlaceS F p0_a = some r) (h_p0_a_1 : Rd W A_p0_a_1 ((recs LPlace.cells) p0_a)) :
    Calls Try.prog 63 [.slice A_p0_a_1 n_p0_a_1 c_p0_a_1].toArray W fun e w' => ∃ v, e = .returned v ∧ ∃ A52, ∃ n53, ∃ c54, v = .slice A52 n53 c54 ∧ n53 = r.length ∧ St [] W w' [.row A52 n53 c54 71 4 ((recs GPlace.cells) r)] := by
  subst hn_p0_a_1
  unfold laws_toPlaceS at hm
  refine Calls.enter (N := 23) Try.func63 rfl rfl rfl (fun a hf => ?_)
  have hs := St.start W
  obtain ⟨w, hw_⟩ : ∃ w, w = W := ⟨W, rfl⟩
  clear hw_ w
  refine wpL_seq ?_
  refine wpL_region ?_
  refine sY hf hs rfl rfl rfl (Y_assign rfl rfl) ?_; clear hf; intro a hf
  refine wpO_nil ?_
  refine wpL_seq ?_
  refine wpL_region ?_
  refine sY hf hs rfl rfl rfl (Y_move rfl rfl) ?_; clear hf; intro a hf
  refine sY hf hs rfl rfl rfl (Y_lenH rfl rfl el22 rfl) ?_; clear hf; intro a hf
  obtain ⟨xs3, hk2, hm⟩ := bind_some hm
  refine sMakeL (enc := (recs GPlace.cells)) hf hs rfl rfl rfl rfl rfl hk2 el32 ti71 rfl (recs_made (f := GPlace.cells) (z0 := (GPlace.mk 0 0 0 0)) rfl) ?_; clear hf hs; intro a w A1 hs hf
  have hs : St [] W w [.row A1 xs3.length xs3.length 71 4 ((recs GPlace.cells) xs3)] := hs
  refine sY hf hs rfl rfl rfl (Y_assign rfl rfl) ?_; clear hf; intro a hf
  refine wpO_nil ?_
  refine wpL_seq ?_
  refine wpL_seq ?_
  refine wpL_region ?_
  refine sY hf hs rfl rfl rfl (Y_assign rfl rfl) ?_; clear hf; intro a hf
  refine wpO_nil ?_
  obtain ⟨r39, hl40, hm⟩ := bind_some hm
  refine wpL_block (fun a w => ∃ xs37 : List GPlace, xs37 = r39 ∧ xs3.length = xs37.length ∧ Fr a 23 [(3, .slice A1 xs3.length xs3.length)] ∧ St [] W w [.row A1 xs3.length xs3.length 71 4 ((recs GPlace.cells) xs37)]) ?_ ?_
  · refine wpL_loop (fun n a w => ∃ xs25 : List GPlace, ∃ x27 : Int, laws_toPlaceS_L1 F p0_a n xs25 x27 = some r39 ∧ xs3.length = xs25.length ∧ Fr a 23 [(0, .slice A_p0_a_1 p0_a.length c_p0_a_1), (3, .slice A1 xs3.length xs3.length), (4, .int .i64 x27)] ∧ St [] W w [.row A1 xs3.length xs3.length 71 4 ((recs GPlace.cells) xs25)]) F ?_ ?_ ?_
    · exact ⟨xs3, 0, hl40, rfl, (Fr.pick (Fr.pick (Fr.pick hf.none hf rfl) hf rfl) hf rfl), hs⟩
    · rintro a w ⟨xs25, x27, h0_, -, -, -⟩; simp [laws_toPlaceS_L1] at h0_
    · rintro n42 a w ⟨xs25, x27, hm41, hn26, hf, hs⟩
      rw [laws_toPlaceS_L1] at hm41
      refine wpL_seq ?_
      refine wpL_seq ?_
      refine wpL_region ?_
      refine sY hf hs rfl rfl rfl (Y_move rfl rfl) ?_; clear hf; intro a hf
      refine sY hf hs rfl rfl rfl (Y_move rfl rfl) ?_; clear hf; intro a hf
      refine sY hf hs rfl rfl rfl (Y_lenH rfl rfl el22 rfl) ?_; clear hf; intro a hf
      refine sY hf hs rfl rfl rfl (Y_lss rfl rfl rfl) ?_; clear hf; intro a hf
      refine wpO_nil ?_
      refine wpL_cond hf rfl (fun hb43 => ?_) (fun hb43 => ?_)
      · have hm41 := bif_t hm41 hb43
        refine wpL_skip ?_
        refine wpL_seq ?_
        refine wpL_block0 ?_
        refine wpL_region ?_
        refine sY hf hs rfl rfl rfl (Y_move rfl rfl) ?_; clear hf; intro a hf
        refine sY hf hs rfl rfl rfl (Y_move rfl rfl) ?_; clear hf; intro a hf
        refine sY hf hs rfl rfl rfl (Y_move rfl rfl) ?_; clear hf; intro a hf
        refine sY hf hs rfl rfl rfl (Y_move rfl rfl) ?_; clear hf; intro a hf
        obtain ⟨q44, hi45, hm41⟩ := bind_some hm41
        obtain ⟨hi45a, hi45b, hi45q⟩ := idx_some hi45
        refine sY hf hs rfl rfl rfl (Y_index rfl rfl rfl el22 ti99 (Rd.isAt (h_p0_a_1.at hs) (recs_at (s := 4) LPlace.len hi45q (j := 0) rfl)) hi45a hi45b) ?_; clear hf; intro a hf
        refine sY hf hs rfl rfl rfl (Y_load_rdS rfl rfl (us := [.int .i64 q44.From, .int .i64 q44.To, .int .i64 q44.Delay, .int .i64 q44.Tokens]) (fun w hs => h_p0_a_1.at hs) (fun j u hj => recs_at (s := 4) LPlace.len hi45q hj) (Nat.succ_pos _) ag99 ti99 rfl) ?_; clear hf; intro a hf
        obtain ⟨r46, hc47, hm41⟩ := bind_some hm41
        refine sCall hf rfl rfl rfl rfl (cap := []) rfl rfl en102 (laws_toPlace_ok F q44 _ _ hc47) ?_; clear hf
        rintro _ w ⟨rfl, hs1⟩ a hf
        have hs : St [] W w [.row A1 xs3.length xs3.length 71 4 ((recs GPlace.cells) xs25)] := hs.ext hs1.below
        clear hs1
        obtain ⟨q48, hi49, hm41⟩ := bind_some hm41
        obtain ⟨hi49a, hi49b, hi49q⟩ := idx_some hi49
        refine sY hf hs rfl rfl rfl (Y_index rfl rfl rfl el32 ti71 (Rd.isAt (hs.rd (i := 0) rfl) (recs_at (s := 4) GPlace.len hi49q (j := 0) rfl)) hi49a (ltn hn26 hi49b)) ?_; clear hf; intro a hf
        obtain ⟨xs50, hu51, hm41⟩ := bind_some hm41
        refine sStoreL (i := 0) (us := [.int .i64 r46.From, .int .i64 r46.To, .int .i64 r46.Delay, .int .i64 r46.Tokens]) (enc := (recs GPlace.cells)) hf hs rfl rfl rfl rfl rfl rfl hn26 hu51 ti71 rfl rfl rfl rfl rfl (recs_length GPlace.len) (recs_set (s := 4) GPlace.len r46) ?_; clear hs; intro w hs
        have hs : St [] W w [.row A1 xs3.length xs3.length 71 4 ((recs GPlace.cells) xs50)] := hs
        refine wpO_nil ?_
        refine wpL_nil (Qb_normal ?_)
        refine wpL_region ?_
        refine sY hf hs rfl rfl rfl (Y_move rfl rfl) ?_; clear hf; intro a hf
        refine sY hf hs rfl rfl rfl (Y_add rfl rfl rfl) ?_; clear hf; intro a hf
        refine sY hf hs rfl rfl rfl (Y_assign rfl rfl) ?_; clear hf; intro a hf
        refine wpO_nil ?_
        refine wpL_nil (Ql_normal ?_)
        exact ⟨xs50, (IntKind.i64.wrap (x27 + 1)), hm41, ((hn26).trans (upd_len hu51).symm), (Fr.pick (Fr.pick (Fr.pick hf.none hf rfl) hf rfl) hf rfl), hs⟩
      · have hm41 := bif_f hm41 hb43
        refine wpL_exit (Ql_exit (Qb_exit ?_))
        exact ⟨xs25, Option.some.inj hm41, hn26, (Fr.pick hf.none hf rfl), hs⟩
  · rintro a w ⟨xs37, hr_, hn38, hf, hs⟩
    subst hr_
    try dsimp only at hm
    refine wpL_seq ?_
    refine wpL_region ?_
    refine sY hf hs rfl rfl rfl (Y_move rfl rfl) ?_; clear hf; intro a hf
    refine sY hf hs rfl rfl rfl (Y_assign rfl rfl) ?_; clear hf; intro a hf
    refine wpO_nil ?_
    obtain rfl := Option.some.inj hm
    refine wpL_ret (ret_tmp rfl hf rfl ?_)
    exact ⟨_, rfl, A1, xs3.length, xs3.length, rfl, hn38, hs⟩

set_option maxRecDepth 100000 in
theorem laws_toEventGraph_ok (F : Nat) (p0_a : LEventGraph) (A_p0_a_1 : Option Addr) (n_p0_a_1 c_p0_a_1 : Nat) (hn_p0_a_1 : n_p0_a_1 = p0_a.Places.length) (r : GEventGraph) (W : World) (hm : laws_toEventGraph F p0_a = some r) (h_p0_a_1 : Rd W A_p0_a_1 ((recs LPlace.cells) p0_a.Places)) :
    Calls Try.prog 18 [.agg #[.int .i64 p0_a.Events, .slice A_p0_a_1 n_p0_a_1 c_p0_a_1]].toArray W fun e w' => ∃ v, e = .returned v ∧ ∃ A10, ∃ n11, ∃ c12, v = .agg #[.int .i64 r.Events, .slice A10 n11 c12] ∧ n11 = r.Places.length ∧ St [] W w' [.row A10 n11 c12 71 4 ((recs GPlace.cells) r.Places)] := by
  subst hn_p0_a_1
  unfold laws_toEventGraph at hm
  refine Calls.enter (N := 12) Try.func18 rfl rfl rfl (fun a hf => ?_)
  have hs := St.start W
  obtain ⟨w, hw_⟩ : ∃ w, w = W := ⟨W, rfl⟩
  clear hw_ w
  refine wpL_seq ?_
  refine wpL_region ?_
  refine sBox hf hs rfl rfl rfl rfl rfl (cs := [.int .i64 p0_a.Events, .slice A_p0_a_1 p0_a.Places.length c_p0_a_1]) rfl ?_; clear hf hs; intro a w b1 hs hf
  have hs : St [] W w [.blk b1 24 [.int .i64 p0_a.Events, .slice A_p0_a_1 p0_a.Places.length c_p0_a_1]] := hs
  refine sAlloc hf hs rfl rfl rfl rfl ti34 ?_; clear hf hs; intro a w b2 hs hf
  have hs : St [] W w [.blk b1 24 [.int .i64 p0_a.Events, .slice A_p0_a_1 p0_a.Places.length c_p0_a_1], .blk b2 34 [.int .i64 0, .slice none 0 0]] := hs
  refine wpO_nil ?_
  refine wpL_seq ?_
  refine wpL_region ?_
  refine sAlloc hf hs rfl rfl rfl rfl ti34 ?_; clear hf hs; intro a w b3 hs hf
  have hs : St [] W w [.blk b1 24 [.int .i64 p0_a.Events, .slice A_p0_a_1 p0_a.Places.length c_p0_a_1], .blk b2 34 [.int .i64 0, .slice none 0 0], .blk b3 34 [.int .i64 0, .slice none 0 0]] := hs
  refine wpO_nil ?_
  refine wpL_seq ?_
  refine wpL_region ?_
  refine sY hf hs rfl rfl rfl (Y_fieldAddr rfl rfl fo24_0) ?_; clear hf; intro a hf
  refine sY hf hs rfl rfl rfl (Y_load_blk rfl rfl (i := 0) rfl rfl ag2) ?_; clear hf; intro a hf
  refine sY hf hs rfl rfl rfl (Y_fieldAddr rfl rfl fo34_0) ?_; clear hf; intro a hf
  refine sStore (i := 2) (us := [.int .i64 p0_a.Events]) hf hs rfl rfl rfl rfl rfl rfl ti2 rfl rfl rfl (Nat.le_of_ble_eq_true rfl) rfl ?_; clear hs; intro w hs
  have hs : St [] W w [.blk b1 24 [.int .i64 p0_a.Events, .slice A_p0_a_1 p0_a.Places.length c_p0_a_1], .blk b2 34 [.int .i64 0, .slice none 0 0], .blk b3 34 [.int .i64 p0_a.Events, .slice none 0 0]] := hs
  refine wpO_nil ?_
  refine wpL_seq ?_
  refine wpL_region ?_
  refine sY hf hs rfl rfl rfl (Y_fieldAddr rfl rfl fo24_1) ?_; clear hf; intro a hf
  refine sY hf hs rfl rfl rfl (Y_load_blk rfl rfl (i := 0) rfl rfl ag22) ?_; clear hf; intro a hf
  obtain ⟨r4, hc5, hm⟩ := bind_some hm
  refine sCall hf rfl rfl rfl rfl (cap := []) rfl rfl en63 (laws_toPlaceS_ok F p0_a.Places A_p0_a_1 p0_a.Places.length c_p0_a_1 rfl _ _ hc5 (h_p0_a_1.at hs)) ?_; clear hf
  rintro _ w ⟨A6, n7, c8, rfl, hn9, hs1⟩ a hf
  have hs : St [] W w [.blk b1 24 [.int .i64 p0_a.Events, .slice A_p0_a_1 p0_a.Places.length c_p0_a_1], .blk b2 34 [.int .i64 0, .slice none 0 0], .blk b3 34 [.int .i64 p0_a.Events, .slice none 0 0], .row A6 n7 c8 71 4 ((recs GPlace.cells) r4)] := hs.join hs1
  clear hs1
  refine sY hf hs rfl rfl rfl (Y_fieldAddr rfl rfl fo34_1) ?_; clear hf; intro a hf
  refine sStore (i := 2) (us := [.slice A6 n7 c8]) hf hs rfl rfl rfl rfl rfl rfl ti32 rfl rfl rfl (Nat.le_of_ble_eq_true rfl) rfl ?_; clear hs; intro w hs
  have hs : St [] W w [.blk b1 24 [.int .i64 p0_a.Events, .slice A_p0_a_1 p0_a.Places.length c_p0_a_1], .blk b2 34 [.int .i64 0, .slice none 0 0], .blk b3 34 [.int .i64 p0_a.Events, .slice A6 n7 c8], .row A6 n7 c8 71 4 ((recs GPlace.cells) r4)] := hs
  refine wpO_nil ?_
  refine wpL_seq ?_
  refine wpL_region ?_
  refine sY hf hs rfl rfl rfl (Y_load_blkS rfl rfl (i := 2) rfl ag34 ti34 rfl) ?_; clear hf; intro a hf
  refine sStore (i := 1) (us := [.int .i64 p0_a.Events, .slice A6 n7 c8]) hf hs rfl rfl rfl rfl rfl rfl ti34 rfl rfl rfl (Nat.le_of_ble_eq_true rfl) rfl ?_; clear hs; intro w hs
  have hs : St [] W w [.blk b1 24 [.int .i64 p0_a.Events, .slice A_p0_a_1 p0_a.Places.length c_p0_a_1], .blk b2 34 [.int .i64 p0_a.Events, .slice A6 n7 c8], .blk b3 34 [.int .i64 p0_a.Events, .slice A6 n7 c8], .row A6 n7 c8 71 4 ((recs GPlace.cells) r4)] := hs
  refine wpO_nil ?_
  obtain rfl := Option.some.inj hm
  refine wpL_ret (ret_cell rfl hf rfl hs (i := 1) rfl ag34 ti34 rfl ?_)
  exact ⟨_, rfl, A6, n7, c8, rfl, hn9, hs.sel [3] (by decide)⟩

set_option maxRecDepth 100000 in
theorem laws_toInt64S_ok (F : Nat) (p0_a : List Int) (A_p0_a_1 : Option Addr) (n_p0_a_1 c_p0_a_1 : Nat) (hn_p0_a_1 : n_p0_a_1 = p0_a.length) (r : List Int) (W : World) (hm : laws_toInt64S F p0_a = some r) (h_p0_a_1 : Rd W A_p0_a_1 (ints p0_a)) :
    Calls Try.prog 32 [.slice A_p0_a_1 n_p0_a_1 c_p0_a_1].toArray W fun e w' => ∃ v, e = .returned v ∧ ∃ A44, ∃ n45, ∃ c46, v = .slice A44 n45 c46 ∧ n45 = r.length ∧ St [] W w' [.row A44 n45 c46 2 1 (ints r)] := by
  subst hn_p0_a_1
  unfold laws_toInt64S at hm
  refine Calls.enter (N := 22) Try.func32 rfl rfl rfl (fun a hf => ?_)
  have hs := St.start W
  obtain ⟨w, hw_⟩ : ∃ w, w = W := ⟨W, rfl⟩
  clear hw_ w
  refine wpL_seq ?_
  refine wpL_region ?_
  refine sY hf hs rfl rfl rfl (Y_assign rfl rfl) ?_; clear hf; intro a hf
  refine wpO_nil ?_
  refine wpL_seq ?_
  refine wpL_region ?_
  refine sY hf hs rfl rfl rfl (Y_move rfl rfl) ?_; clear hf; intro a hf
  refine sY hf hs rfl rfl rfl (Y_lenH rfl rfl el25 rfl) ?_; clear hf; intro a hf
  obtain ⟨xs3, hk2, hm⟩ := bind_some hm
  refine sMakeL (enc := ints) hf hs rfl rfl rfl rfl rfl hk2 el25 ti2 rfl ints_made ?_; clear hf hs; intro a w A1 hs hf
  have hs : St [] W w [.row A1 xs3.length xs3.length 2 1 (ints xs3)] := hs
  refine sY hf hs rfl rfl rfl (Y_assign rfl rfl) ?_; clear hf; intro a hf
  refine wpO_nil ?_
  refine wpL_seq ?_
  refine wpL_seq ?_
  refine wpL_region ?_
  refine sY hf hs rfl rfl rfl (Y_assign rfl rfl) ?_; clear hf; intro a hf
  refine wpO_nil ?_
  obtain ⟨r33, hl34, hm⟩ := bind_some hm
  refine wpL_block (fun a w => ∃ xs31 : List Int, xs31 = r33 ∧ xs3.length = xs31.length ∧ Fr a 22 [(3, .slice A1 xs3.length xs3.length)] ∧ St [] W w [.row A1 xs3.length xs3.length 2 1 (ints xs31)]) ?_ ?_
  · refine wpL_loop (fun n a w => ∃ xs21 : List Int, ∃ x23 : Int, laws_toInt64S_L1 F p0_a n xs21 x23 = some r33 ∧ xs3.length = xs21.length ∧ Fr a 22 [(0, .slice A_p0_a_1 p0_a.length c_p0_a_1), (3, .slice A1 xs3.length xs3.length), (4, .int .i64 x23)] ∧ St [] W w [.row A1 xs3.length xs3.length 2 1 (ints xs21)]) F ?_ ?_ ?_
    · exact ⟨xs3, 0, hl34, rfl, (Fr.pick (Fr.pick (Fr.pick hf.none hf rfl) hf rfl) hf rfl), hs⟩
    · rintro a w ⟨xs21, x23, h0_, -, -, -⟩; simp [laws_toInt64S_L1] at h0_
    · rintro n36 a w ⟨xs21, x23, hm35, hn22, hf, hs⟩
      rw [laws_toInt64S_L1] at hm35
      refine wpL_seq ?_
      refine wpL_seq ?_
      refine wpL_region ?_
      refine sY hf hs rfl rfl rfl (Y_move rfl rfl) ?_; clear hf; intro a hf
      refine sY hf hs rfl rfl rfl (Y_move rfl rfl) ?_; clear hf; intro a hf
      refine sY hf hs rfl rfl rfl (Y_lenH rfl rfl el25 rfl) ?_; clear hf; intro a hf
      refine sY hf hs rfl rfl rfl (Y_lss rfl rfl rfl) ?_; clear hf; intro a hf
      refine wpO_nil ?_
      refine wpL_cond hf rfl (fun hb37 => ?_) (fun hb37 => ?_)
      · have hm35 := bif_t hm35 hb37
        refine wpL_skip ?_
        refine wpL_seq ?_
        refine wpL_block0 ?_
        refine wpL_region ?_
        refine sY hf hs rfl rfl rfl (Y_move rfl rfl) ?_; clear hf; intro a hf
        refine sY hf hs rfl rfl rfl (Y_move rfl rfl) ?_; clear hf; intro a hf
        refine sY hf hs rfl rfl rfl (Y_move rfl rfl) ?_; clear hf; intro a hf
        refine sY hf hs rfl rfl rfl (Y_move rfl rfl) ?_; clear hf; intro a hf
        obtain ⟨q38, hi39, hm35⟩ := bind_some hm35
        obtain ⟨hi39a, hi39b, hi39q⟩ := idx_some hi39
        refine sY hf hs rfl rfl rfl (Y_index rfl rfl rfl el25 ti2 (Rd.isAt (h_p0_a_1.at hs) (at1 (ints_at hi39q))) hi39a hi39b) ?_; clear hf; intro a hf
        refine sY hf hs rfl rfl rfl (Y_load_rd rfl rfl (fun w hs => h_p0_a_1.at hs) (at1 (ints_at hi39q)) ag2) ?_; clear hf; intro a hf
        obtain ⟨q40, hi41, hm35⟩ := bind_some hm35
        obtain ⟨hi41a, hi41b, hi41q⟩ := idx_some hi41
        refine sY hf hs rfl rfl rfl (Y_index rfl rfl rfl el25 ti2 (Rd.isAt (hs.rd (i := 0) rfl) (at1 (ints_at hi41q))) hi41a (ltn hn22 hi41b)) ?_; clear hf; intro a hf
        obtain ⟨xs42, hu43, hm35⟩ := bind_some hm35
        refine sStoreL (i := 0) (us := [.int .i64 q38]) (enc := ints) hf hs rfl rfl rfl rfl rfl rfl hn22 hu43 ti2 rfl rfl rfl rfl rfl ints_len1 (ints_set q38) ?_; clear hs; intro w hs
        have hs : St [] W w [.row A1 xs3.length xs3.length 2 1 (ints xs42)] := hs
        refine wpO_nil ?_
        refine wpL_nil (Qb_normal ?_)
        refine wpL_region ?_
        refine sY hf hs rfl rfl rfl (Y_move rfl rfl) ?_; clear hf; intro a hf
        refine sY hf hs rfl rfl rfl (Y_add rfl rfl rfl) ?_; clear hf; intro a hf
        refine sY hf hs rfl rfl rfl (Y_assign rfl rfl) ?_; clear hf; intro a hf
        refine wpO_nil ?_
        refine wpL_nil (Ql_normal ?_)
        exact ⟨xs42, (IntKind.i64.wrap (x23 + 1)), hm35, ((hn22).trans (upd_len hu43).symm), (Fr.pick (Fr.pick (Fr.pick hf.none hf rfl) hf rfl) hf rfl), hs⟩
      · have hm35 := bif_f hm35 hb37
        refine wpL_exit (Ql_exit (Qb_exit ?_))
        exact ⟨xs21, Option.some.inj hm35, hn22, (Fr.pick hf.none hf rfl), hs⟩
  · rintro a w ⟨xs31, hr_, hn32, hf, hs⟩
    subst hr_
    try dsimp only at hm
    refine wpL_seq ?_
    refine wpL_region ?_
    refine sY hf hs rfl rfl rfl (Y_move rfl rfl) ?_; clear hf; intro a hf
    refine sY hf hs rfl rfl rfl (Y_assign rfl rfl) ?_; clear hf; intro a hf
    refine wpO_nil ?_
    obtain rfl := Option.some.inj hm
    refine wpL_ret (ret_tmp rfl hf rfl ?_)
    exact ⟨_, rfl, A1, xs3.length, xs3.length, rfl, hn32, hs⟩

set_option maxRecDepth 100000 in
theorem laws_toTimetable_ok (F : Nat) (p0_a : LTimetable) (A_p0_a_1 : Option Addr) (n_p0_a_1 c_p0_a_1 : Nat) (hn_p0_a_1 : n_p0_a_1 = p0_a.Starts.length) (r : GTimetable) (W : World) (hm : laws_toTimetable F p0_a = some r) (h_p0_a_1 : Rd W A_p0_a_1 (ints p0_a.Starts)) :
    Calls Try.prog 19 [.agg #[.int .i64 p0_a.Period, .slice A_p0_a_1 n_p0_a_1 c_p0_a_1]].toArray W fun e w' => ∃ v, e = .returned v ∧ ∃ A10, ∃ n11, ∃ c12, v = .agg #[.int .i64 r.Period, .slice A10 n11 c12] ∧ n11 = r.Starts.length ∧ St [] W w' [.row A10 n11 c12 2 1 (ints r.Starts)] := by
  subst hn_p0_a_1
  unfold laws_toTimetable at hm
  refine Calls.enter (N := 12) Try.func19 rfl rfl rfl (fun a hf => ?_)
  have hs := St.start W
  obtain ⟨w, hw_⟩ : ∃ w, w = W := ⟨W, rfl⟩
  clear hw_ w
  refine wpL_seq ?_
  refine wpL_region ?_
  refine sBox hf hs rfl rfl rfl rfl rfl (cs := [.int .i64 p0_a.Period, .slice A_p0_a_1 p0_a.Starts.length c_p0_a_1]) rfl ?_; clear hf hs; intro a w b1 hs hf
  have hs : St [] W w [.blk b1 27 [.int .i64 p0_a.Period, .slice A_p0_a_1 p0_a.Starts.length c_p0_a_1]] := hs
  refine sAlloc hf hs rfl rfl rfl rfl ti36 ?_; clear hf hs; intro a w b2 hs hf
  have hs : St [] W w [.blk b1 27 [.int .i64 p0_a.Period, .slice A_p0_a_1 p0_a.Starts.length c_p0_a_1], .blk b2 36 [.int .i64 0, .slice none 0 0]] := hs
  refine wpO_nil ?_
  refine wpL_seq ?_
  refine wpL_region ?_
  refine sAlloc hf hs rfl rfl rfl rfl ti36 ?_; clear hf hs; intro a w b3 hs hf
  have hs : St [] W w [.blk b1 27 [.int .i64 p0_a.Period, .slice A_p0_a_1 p0_a.Starts.length c_p0_a_1], .blk b2 36 [.int .i64 0, .slice none 0 0], .blk b3 36 [.int .i64 0, .slice none 0 0]] := hs
  refine wpO_nil ?_
  refine wpL_seq ?_
  refine wpL_region ?_
  refine sY hf hs rfl rfl rfl (Y_fieldAddr rfl rfl fo27_0) ?_; clear hf; intro a hf
  refine sY hf hs rfl rfl rfl (Y_load_blk rfl rfl (i := 0) rfl rfl ag2) ?_; clear hf; intro a hf
  refine sY hf hs rfl rfl rfl (Y_fieldAddr rfl rfl fo36_0) ?_; clear hf; intro a hf
  refine sStore (i := 2) (us := [.int .i64 p0_a.Period]) hf hs rfl rfl rfl rfl rfl rfl ti2 rfl rfl rfl (Nat.le_of_ble_eq_true rfl) rfl ?_; clear hs; intro w hs
  have hs : St [] W w [.blk b1 27 [.int .i64 p0_a.Period, .slice A_p0_a_1 p0_a.Starts.length c_p0_a_1], .blk b2 36 [.int .i64 0, .slice none 0 0], .blk b3 36 [.int .i64 p0_a.Period, .slice none 0 0]] := hs
  refine wpO_nil ?_
  refine wpL_seq ?_
  refine wpL_region ?_
  refine sY hf hs rfl rfl rfl (Y_fieldAddr rfl rfl fo27_1) ?_; clear hf; intro a hf
  refine sY hf hs rfl rfl rfl (Y_load_blk rfl rfl (i := 0) rfl rfl ag25) ?_; clear hf; intro a hf
  obtain ⟨r4, hc5, hm⟩ := bind_some hm
  refine sCall hf rfl rfl rfl rfl (cap := []) rfl rfl en32 (laws_toInt64S_ok F p0_a.Starts A_p0_a_1 p0_a.Starts.length c_p0_a_1 rfl _ _ hc5 (h_p0_a_1.at hs)) ?_; clear hf
  rintro _ w ⟨A6, n7, c8, rfl, hn9, hs1⟩ a hf
  have hs : St [] W w [.blk b1 27 [.int .i64 p0_a.Period, .slice A_p0_a_1 p0_a.Starts.length c_p0_a_1], .blk b2 36 [.int .i64 0, .slice none 0 0], .blk b3 36 [.int .i64 p0_a.Period, .slice none 0 0], .row A6 n7 c8 2 1 (ints r4)] := hs.join hs1
  clear hs1
  refine sY hf hs rfl rfl rfl (Y_fieldAddr rfl rfl fo36_1) ?_; clear hf; intro a hf
  refine sStore (i := 2) (us := [.slice A6 n7 c8]) hf hs rfl rfl rfl rfl rfl rfl ti25 rfl rfl rfl (Nat.le_of_ble_eq_true rfl) rfl ?_; clear hs; intro w hs
  have hs : St [] W w [.blk b1 27 [.int .i64 p0_a.Period, .slice A_p0_a_1 p0_a.Starts.length c_p0_a_1], .blk b2 36 [.int .i64 0, .slice none 0 0], .blk b3 36 [.int .i64 p0_a.Period, .slice A6 n7 c8], .row A6 n7 c8 2 1 (ints r4)] := hs
  refine wpO_nil ?_
  refine wpL_seq ?_
  refine wpL_region ?_
  refine sY hf hs rfl rfl rfl (Y_load_blkS rfl rfl (i := 2) rfl ag36 ti36 rfl) ?_; clear hf; intro a hf
  refine sStore (i := 1) (us := [.int .i64 p0_a.Period, .slice A6 n7 c8]) hf hs rfl rfl rfl rfl rfl rfl ti36 rfl rfl rfl (Nat.le_of_ble_eq_true rfl) rfl ?_; clear hs; intro w hs
  have hs : St [] W w [.blk b1 27 [.int .i64 p0_a.Period, .slice A_p0_a_1 p0_a.Starts.length c_p0_a_1], .blk b2 36 [.int .i64 p0_a.Period, .slice A6 n7 c8], .blk b3 36 [.int .i64 p0_a.Period, .slice A6 n7 c8], .row A6 n7 c8 2 1 (ints r4)] := hs
  refine wpO_nil ?_
  obtain rfl := Option.some.inj hm
  refine wpL_ret (ret_cell rfl hf rfl hs (i := 1) rfl ag36 ti36 rfl ?_)
  exact ⟨_, rfl, A6, n7, c8, rfl, hn9, hs.sel [3] (by decide)⟩

set_option maxRecDepth 100000 in
theorem spec_l01In_ok (F : Nat) (p0_n : Int) (p1_low : Int) (p2_high : Int) (r : Bool) (W : World) (hm : spec_l01In F p0_n p1_low p2_high = some r) :
    Calls Try.prog 61 [.int .i64 p0_n, .int .i64 p1_low, .int .i64 p2_high].toArray W fun e w' => ∃ v, e = .returned v ∧ v = .bool r ∧ St [] W w' [] := by
  unfold spec_l01In at hm
  refine Calls.enter (N := 15) Try.func61 rfl rfl rfl (fun a hf => ?_)
  have hs := St.start W
  obtain ⟨w, hw_⟩ : ∃ w, w = W := ⟨W, rfl⟩
  clear hw_ w
  refine wpL_seq ?_
  refine wpL_region ?_
  refine sY hf hs rfl rfl rfl (Y_assign rfl rfl) ?_; clear hf; intro a hf
  refine wpO_nil ?_
  refine wpL_seq ?_
  obtain ⟨r3, hj4, hm⟩ := bind_some hm
  refine wpL_cut (fun a w => ∃ b2 : Bool, b2 = r3 ∧ Fr a 15 [(6, .bool b2)] ∧ St [] W w []) ?_ ?_
  · refine wpL_region ?_
    refine sY hf hs rfl rfl rfl (Y_move rfl rfl) ?_; clear hf; intro a hf
    refine sY hf hs rfl rfl rfl (Y_move rfl rfl) ?_; clear hf; intro a hf
    refine sY hf hs rfl rfl rfl (Y_geq rfl rfl rfl) ?_; clear hf; intro a hf
    refine sY hf hs rfl rfl rfl (Y_move rfl rfl) ?_; clear hf; intro a hf
    refine bsplit (decide (p1_low ≤ p0_n)) (fun hb5 => ?_) (fun hb5 => ?_)
    · have hj4 := bif_t hj4 hb5
      refine sYg hf hs rfl rfl rfl (congrArg (fun b => some (Value.bool b)) hb5) rfl rfl rfl (Y_move rfl rfl) ?_; clear hf; intro a hf
      refine sYg hf hs rfl rfl rfl (congrArg (fun b => some (Value.bool b)) hb5) rfl rfl rfl (Y_move rfl rfl) ?_; clear hf; intro a hf
      refine sYg hf hs rfl rfl rfl (congrArg (fun b => some (Value.bool b)) hb5) rfl rfl rfl (Y_leq rfl rfl rfl) ?_; clear hf; intro a hf
      refine sY hf hs rfl rfl rfl (Y_pickT rfl (congrArg (fun b => some (Value.bool b)) hb5) rfl) ?_; clear hf; intro a hf
      refine sY hf hs rfl rfl rfl (Y_assign rfl rfl) ?_; clear hf; intro a hf
      refine wpO_nil ?_
      refine wpL_nil (then_normal ?_)
      exact ⟨(decide (p0_n ≤ p2_high)), Option.some.inj hj4, (Fr.pick hf.none hf rfl), hs⟩
    · have hj4 := bif_f hj4 hb5
      refine sNo hf rfl rfl rfl (congrArg (fun b => some (Value.bool b)) hb5) rfl rfl rfl ?_; clear hf; intro a hf
      refine sNo hf rfl rfl rfl (congrArg (fun b => some (Value.bool b)) hb5) rfl rfl rfl ?_; clear hf; intro a hf
      refine sNo hf rfl rfl rfl (congrArg (fun b => some (Value.bool b)) hb5) rfl rfl rfl ?_; clear hf; intro a hf
      refine sY hf hs rfl rfl rfl (Y_pickF rfl (congrArg (fun b => some (Value.bool b)) hb5) rfl) ?_; clear hf; intro a hf
      refine sY hf hs rfl rfl rfl (Y_assign rfl rfl) ?_; clear hf; intro a hf
      refine wpO_nil ?_
      refine wpL_nil (then_normal ?_)
      exact ⟨false, Option.some.inj hj4, (Fr.pick hf.none hf rfl), hs⟩
  · rintro a w ⟨b2, hr_, hf, hs⟩
    subst hr_
    try dsimp only at hm
    obtain rfl := Option.some.inj hm
    refine wpL_ret (ret_tmp rfl hf rfl ?_)
    exact ⟨_, rfl, rfl, hs⟩

set_option maxRecDepth 100000 in
theorem spec_l11Place_ok (F : Nat) (p0_p : GPlace) (p1_events : Int) (r : Bool) (W : World) (hm : spec_l11Place F p0_p p1_events = some r) :
    Calls Try.prog 131 [.agg #[.int .i64 p0_p.From, .int .i64 p0_p.To, .int .i64 p0_p.Delay, .int .i64 p0_p.Tokens], .int .i64 p1_events].toArray W fun e w' => ∃ v, e = .returned v ∧ v = .bool r ∧ St [] W w' [] := by
  unfold spec_l11Place at hm
  refine Calls.enter (N := 27) Try.func131 rfl rfl rfl (fun a hf => ?_)
  have hs := St.start W
  obtain ⟨w, hw_⟩ : ∃ w, w = W := ⟨W, rfl⟩
  clear hw_ w
  refine wpL_seq ?_
  refine wpL_region ?_
  refine sBox hf hs rfl rfl rfl rfl rfl (cs := [.int .i64 p0_p.From, .int .i64 p0_p.To, .int .i64 p0_p.Delay, .int .i64 p0_p.Tokens]) rfl ?_; clear hf hs; intro a w b1 hs hf
  have hs : St [] W w [.blk b1 71 [.int .i64 p0_p.From, .int .i64 p0_p.To, .int .i64 p0_p.Delay, .int .i64 p0_p.Tokens]] := hs
  refine sY hf hs rfl rfl rfl (Y_assign rfl rfl) ?_; clear hf; intro a hf
  refine wpO_nil ?_
  refine wpL_seq ?_
  obtain ⟨r14, hj15, hm⟩ := bind_some hm
  refine wpL_cut (fun a w => ∃ b13 : Bool, b13 = r14 ∧ Fr a 27 [(4, .bool b13)] ∧ St [] W w []) ?_ ?_
  · refine wpL_region ?_
    refine sY hf hs rfl rfl rfl (Y_fieldAddr rfl rfl fo71_0) ?_; clear hf; intro a hf
    refine sY hf hs rfl rfl rfl (Y_load_blk rfl rfl (i := 0) rfl rfl ag2) ?_; clear hf; intro a hf
    refine sY hf hs rfl rfl rfl (Y_move rfl rfl) ?_; clear hf; intro a hf
    refine sY hf hs rfl rfl rfl (Y_sub rfl rfl rfl) ?_; clear hf; intro a hf
    obtain ⟨r16, hc17, hj15⟩ := bind_some hj15
    refine sCall hf rfl rfl rfl rfl (cap := []) rfl rfl en61 (spec_l01In_ok F p0_p.From 0 (IntKind.i64.wrap (p1_events - 1)) _ _ hc17) ?_; clear hf
    rintro _ w ⟨rfl, hs1⟩ a hf
    have hs : St [] W w [.blk b1 71 [.int .i64 p0_p.From, .int .i64 p0_p.To, .int .i64 p0_p.Delay, .int .i64 p0_p.Tokens]] := hs.ext hs1.below
    clear hs1
    refine sY hf hs rfl rfl rfl (Y_move rfl rfl) ?_; clear hf; intro a hf
    refine bsplit r16 (fun hb18 => ?_) (fun hb18 => ?_)
    · have hj15 := bif_t hj15 hb18
      refine sYg hf hs rfl rfl rfl (congrArg (fun b => some (Value.bool b)) hb18) rfl rfl rfl (Y_fieldAddr rfl rfl fo71_1) ?_; clear hf; intro a hf
      refine sYg hf hs rfl rfl rfl (congrArg (fun b => some (Value.bool b)) hb18) rfl rfl rfl (Y_load_blk rfl rfl (i := 0) rfl rfl ag2) ?_; clear hf; intro a hf
      refine sYg hf hs rfl rfl rfl (congrArg (fun b => some (Value.bool b)) hb18) rfl rfl rfl (Y_move rfl rfl) ?_; clear hf; intro a hf
      refine sYg hf hs rfl rfl rfl (congrArg (fun b => some (Value.bool b)) hb18) rfl rfl rfl (Y_sub rfl rfl rfl) ?_; clear hf; intro a hf
      obtain ⟨r19, hc20, hj15⟩ := bind_some hj15
      refine sCallg hf rfl rfl rfl (congrArg (fun b => some (Value.bool b)) hb18) rfl rfl rfl rfl (cap := []) rfl rfl en61 (spec_l01In_ok F p0_p.To 0 (IntKind.i64.wrap (p1_events - 1)) _ _ hc20) ?_; clear hf
      rintro _ w ⟨rfl, hs1⟩ a hf
      have hs : St [] W w [.blk b1 71 [.int .i64 p0_p.From, .int .i64 p0_p.To, .int .i64 p0_p.Delay, .int .i64 p0_p.Tokens]] := hs.ext hs1.below
      clear hs1
      refine sY hf hs rfl rfl rfl (Y_pickT rfl (congrArg (fun b => some (Value.bool b)) hb18) rfl) ?_; clear hf; intro a hf
      refine sY hf hs rfl rfl rfl (Y_move rfl rfl) ?_; clear hf; intro a hf
      refine bsplit r19 (fun hb21 => ?_) (fun hb21 => ?_)
      · have hj15 := bif_t hj15 hb21
        refine sYg hf hs rfl rfl rfl (congrArg (fun b => some (Value.bool b)) hb21) rfl rfl rfl (Y_fieldAddr rfl rfl fo71_2) ?_; clear hf; intro a hf
        refine sYg hf hs rfl rfl rfl (congrArg (fun b => some (Value.bool b)) hb21) rfl rfl rfl (Y_load_blk rfl rfl (i := 0) rfl rfl ag2) ?_; clear hf; intro a hf
        obtain ⟨r22, hc23, hj15⟩ := bind_some hj15
        refine sCallg hf rfl rfl rfl (congrArg (fun b => some (Value.bool b)) hb21) rfl rfl rfl rfl (cap := []) rfl rfl en61 (spec_l01In_ok F p0_p.Delay 0 1000 _ _ hc23) ?_; clear hf
        rintro _ w ⟨rfl, hs1⟩ a hf
        have hs : St [] W w [.blk b1 71 [.int .i64 p0_p.From, .int .i64 p0_p.To, .int .i64 p0_p.Delay, .int .i64 p0_p.Tokens]] := hs.ext hs1.below
        clear hs1
        refine sY hf hs rfl rfl rfl (Y_pickT rfl (congrArg (fun b => some (Value.bool b)) hb21) rfl) ?_; clear hf; intro a hf
        refine sY hf hs rfl rfl rfl (Y_move rfl rfl) ?_; clear hf; intro a hf
        refine bsplit r22 (fun hb24 => ?_) (fun hb24 => ?_)
        · have hj15 := bif_t hj15 hb24
          refine sYg hf hs rfl rfl rfl (congrArg (fun b => some (Value.bool b)) hb24) rfl rfl rfl (Y_fieldAddr rfl rfl fo71_3) ?_; clear hf; intro a hf
          refine sYg hf hs rfl rfl rfl (congrArg (fun b => some (Value.bool b)) hb24) rfl rfl rfl (Y_load_blk rfl rfl (i := 0) rfl rfl ag2) ?_; clear hf; intro a hf
          obtain ⟨r25, hc26, hj15⟩ := bind_some hj15
          refine sCallg hf rfl rfl rfl (congrArg (fun b => some (Value.bool b)) hb24) rfl rfl rfl rfl (cap := []) rfl rfl en61 (spec_l01In_ok F p0_p.Tokens 0 5 _ _ hc26) ?_; clear hf
          rintro _ w ⟨rfl, hs1⟩ a hf
          have hs : St [] W w [.blk b1 71 [.int .i64 p0_p.From, .int .i64 p0_p.To, .int .i64 p0_p.Delay, .int .i64 p0_p.Tokens]] := hs.ext hs1.below
          clear hs1
          refine sY hf hs rfl rfl rfl (Y_pickT rfl (congrArg (fun b => some (Value.bool b)) hb24) rfl) ?_; clear hf; intro a hf
          refine sY hf hs rfl rfl rfl (Y_assign rfl rfl) ?_; clear hf; intro a hf
          refine wpO_nil ?_
          refine wpL_nil (then_normal ?_)
          exact ⟨r25, Option.some.inj hj15, (Fr.pick hf.none hf rfl), hs.sel [] (by decide)⟩
        · have hj15 := bif_f hj15 hb24
          refine sNo hf rfl rfl rfl (congrArg (fun b => some (Value.bool b)) hb24) rfl rfl rfl ?_; clear hf; intro a hf
          refine sNo hf rfl rfl rfl (congrArg (fun b => some (Value.bool b)) hb24) rfl rfl rfl ?_; clear hf; intro a hf
          refine sNo hf rfl rfl rfl (congrArg (fun b => some (Value.bool b)) hb24) rfl rfl rfl ?_; clear hf; intro a hf
          refine sY hf hs rfl rfl rfl (Y_pickF rfl (congrArg (fun b => some (Value.bool b)) hb24) rfl) ?_; clear hf; intro a hf
          refine sY hf hs rfl rfl rfl (Y_assign rfl rfl) ?_; clear hf; intro a hf
          refine wpO_nil ?_
          refine wpL_nil (then_normal ?_)
          exact ⟨false, Option.some.inj hj15, (Fr.pick hf.none hf rfl), hs.sel [] (by decide)⟩
      · have hj15 := bif_f hj15 hb21
        refine sNo hf rfl rfl rfl (congrArg (fun b => some (Value.bool b)) hb21) rfl rfl rfl ?_; clear hf; intro a hf
        refine sNo hf rfl rfl rfl (congrArg (fun b => some (Value.bool b)) hb21) rfl rfl rfl ?_; clear hf; intro a hf
        refine sNo hf rfl rfl rfl (congrArg (fun b => some (Value.bool b)) hb21) rfl rfl rfl ?_; clear hf; intro a hf
        refine sY hf hs rfl rfl rfl (Y_pickF rfl (congrArg (fun b => some (Value.bool b)) hb21) rfl) ?_; clear hf; intro a hf
        refine sY hf hs rfl rfl rfl (Y_move rfl rfl) ?_; clear hf; intro a hf
        refine sNo hf rfl rfl rfl rfl rfl rfl rfl ?_; clear hf; intro a hf
        refine sNo hf rfl rfl rfl rfl rfl rfl rfl ?_; clear hf; intro a hf
        refine sNo hf rfl rfl rfl rfl rfl rfl rfl ?_; clear hf; intro a hf
        refine sY hf hs rfl rfl rfl (Y_pickF rfl rfl rfl) ?_; clear hf; intro a hf
        refine sY hf hs rfl rfl rfl (Y_assign rfl rfl) ?_; clear hf; intro a hf
        refine wpO_nil ?_
        refine wpL_nil (then_normal ?_)
        exact ⟨false, Option.some.inj hj15, (Fr.pick hf.none hf rfl), hs.sel [] (by decide)⟩
    · have hj15 := bif_f hj15 hb18
      refine sNo hf rfl rfl rfl (congrArg (fun b => some (Value.bool b)) hb18) rfl rfl rfl ?_; clear hf; intro a hf
      refine sNo hf rfl rfl rfl (congrArg (fun b => some (Value.bool b)) hb18) rfl rfl rfl ?_; clear hf; intro a hf
      refine sNo hf rfl rfl rfl (congrArg (fun b => some (Value.bool b)) hb18) rfl rfl rfl ?_; clear hf; intro a hf
      refine sNo hf rfl rfl rfl (congrArg (fun b => some (Value.bool b)) hb18) rfl rfl rfl ?_; clear hf; intro a hf
      refine sNo hf rfl rfl rfl (congrArg (fun b => some (Value.bool b)) hb18) rfl rfl rfl ?_; clear hf; intro a hf
      refine sY hf hs rfl rfl rfl (Y_pickF rfl (congrArg (fun b => some (Value.bool b)) hb18) rfl) ?_; clear hf; intro a hf
      refine sY hf hs rfl rfl rfl (Y_move rfl rfl) ?_; clear hf; intro a hf
      refine sNo hf rfl rfl rfl rfl rfl rfl rfl ?_; clear hf; intro a hf
      refine sNo hf rfl rfl rfl rfl rfl rfl rfl ?_; clear hf; intro a hf
      refine sNo hf rfl rfl rfl rfl rfl rfl rfl ?_; clear hf; intro a hf
      refine sY hf hs rfl rfl rfl (Y_pickF rfl rfl rfl) ?_; clear hf; intro a hf
      refine sY hf hs rfl rfl rfl (Y_move rfl rfl) ?_; clear hf; intro a hf
      refine sNo hf rfl rfl rfl rfl rfl rfl rfl ?_; clear hf; intro a hf
      refine sNo hf rfl rfl rfl rfl rfl rfl rfl ?_; clear hf; intro a hf
      refine sNo hf rfl rfl rfl rfl rfl rfl rfl ?_; clear hf; intro a hf
      refine sY hf hs rfl rfl rfl (Y_pickF rfl rfl rfl) ?_; clear hf; intro a hf
      refine sY hf hs rfl rfl rfl (Y_assign rfl rfl) ?_; clear hf; intro a hf
      refine wpO_nil ?_
      refine wpL_nil (then_normal ?_)
      exact ⟨false, Option.some.inj hj15, (Fr.pick hf.none hf rfl), hs.sel [] (by decide)⟩
  · rintro a w ⟨b13, hr_, hf, hs⟩
    subst hr_
    try dsimp only at hm
    obtain rfl := Option.some.inj hm
    refine wpL_ret (ret_tmp rfl hf rfl ?_)
    exact ⟨_, rfl, rfl, hs⟩

set_option maxRecDepth 100000 in
theorem spec_IsEventGraph_ok (F : Nat) (p0_g : GEventGraph) (A_p0_g_1 : Option Addr) (n_p0_g_1 c_p0_g_1 : Nat) (hn_p0_g_1 : n_p0_g_1 = p0_g.Places.length) (r : Bool) (W : World) (hm : spec_IsEventGraph F p0_g = some r) (h_p0_g_1 : Rd W A_p0_g_1 ((recs GPlace.cells) p0_g.Places)) :
    Calls Try.prog 116 [.agg #[.int .i64 p0_g.Events, .slice A_p0_g_1 n_p0_g_1 c_p0_g_1]].toArray W fun e w' => ∃ v, e = .returned v ∧ v = .bool r ∧ St [] W w' [] := by
  subst hn_p0_g_1
  unfold spec_IsEventGraph at hm
  refine Calls.enter (N := 29) Try.func116 rfl rfl rfl (fun a hf => ?_)
  have hs := St.start W
  obtain ⟨w, hw_⟩ : ∃ w, w = W := ⟨W, rfl⟩
  clear hw_ w
  refine wpL_seq ?_
  refine wpL_region ?_
  refine sBox hf hs rfl rfl rfl rfl rfl (cs := [.int .i64 p0_g.Events, .slice A_p0_g_1 p0_g.Places.length c_p0_g_1]) rfl ?_; clear hf hs; intro a w b1 hs hf
  have hs : St [] W w [.blk b1 34 [.int .i64 p0_g.Events, .slice A_p0_g_1 p0_g.Places.length c_p0_g_1]] := hs
  refine sY hf hs rfl rfl rfl (Y_assign rfl rfl) ?_; clear hf; intro a hf
  refine wpO_nil ?_
  refine wpL_seq ?_
  refine wpL_seq ?_
  refine wpL_region ?_
  refine sY hf hs rfl rfl rfl (Y_assign rfl rfl) ?_; clear hf; intro a hf
  refine wpO_nil ?_
  obtain ⟨r22, hl23, hm⟩ := bind_some hm
  refine wpL_block (fun a w => Sum.inr () = r22 ∧ Fr a 29 [(1, .pointer (some ⟨b1, 0, none⟩))] ∧ St [] W w [.blk b1 34 [.int .i64 p0_g.Events, .slice A_p0_g_1 p0_g.Places.length c_p0_g_1]]) ?_ ?_
  · refine wpL_loop (fun n a w => ∃ x15 : Int, spec_IsEventGraph_L1 F p0_g n x15 = some r22 ∧ Fr a 29 [(1, .pointer (some ⟨b1, 0, none⟩)), (3, .int .i64 x15)] ∧ St [] W w [.blk b1 34 [.int .i64 p0_g.Events, .slice A_p0_g_1 p0_g.Places.length c_p0_g_1]]) F ?_ ?_ ?_
    · exact ⟨0, hl23, (Fr.pick (Fr.pick hf.none hf rfl) hf rfl), hs⟩
    · rintro a w ⟨x15, h0_, -, -⟩; simp [spec_IsEventGraph_L1] at h0_
    · rintro n25 a w ⟨x15, hm24, hf, hs⟩
      rw [spec_IsEventGraph_L1] at hm24
      refine wpL_seq ?_
      refine wpL_seq ?_
      refine wpL_region ?_
      refine sY hf hs rfl rfl rfl (Y_move rfl rfl) ?_; clear hf; intro a hf
      refine sY hf hs rfl rfl rfl (Y_fieldAddr rfl rfl fo34_1) ?_; clear hf; intro a hf
      refine sY hf hs rfl rfl rfl (Y_load_blk rfl rfl (i := 0) rfl rfl ag32) ?_; clear hf; intro a hf
      refine sY hf hs rfl rfl rfl (Y_lenH rfl rfl el32 rfl) ?_; clear hf; intro a hf
      refine sY hf hs rfl rfl rfl (Y_lss rfl rfl rfl) ?_; clear hf; intro a hf
      refine wpO_nil ?_
      refine wpL_cond hf rfl (fun hb26 => ?_) (fun hb26 => ?_)
      · have hm24 := bif_t hm24 hb26
        refine wpL_skip ?_
        refine wpL_seq ?_
        refine wpL_block0 ?_
        refine wpL_seq ?_
        refine wpL_draw (by kernel_rfl) (by kernel_rfl) hs ?_
        refine qY hf rfl rfl rfl (Y_fieldAddr rfl rfl fo34_1) ?_; clear hf; intro a hf
        refine qY hf rfl rfl rfl (Y_load_blk rfl rfl (i := 0) rfl rfl ag32) ?_; clear hf; intro a hf
        refine qY hf rfl rfl rfl (Y_move rfl rfl) ?_; clear hf; intro a hf
        obtain ⟨q27, hi28, hm24⟩ := bind_some hm24
        obtain ⟨hi28a, hi28b, hi28q⟩ := idx_some hi28
        refine qY hf rfl rfl rfl (Y_index rfl rfl rfl el32 ti71 (Rd.isAt (h_p0_g_1.at hs) (recs_at (s := 4) GPlace.len hi28q (j := 0) rfl)) hi28a hi28b) ?_; clear hf; intro a hf
        refine qY hf rfl rfl rfl (Y_load_rdS rfl rfl (us := [.int .i64 q27.From, .int .i64 q27.To, .int .i64 q27.Delay, .int .i64 q27.Tokens]) (fun w hs => h_p0_g_1.at hs) (fun j u hj => recs_at (s := 4) GPlace.len hi28q hj) (Nat.succ_pos _) ag71 ti71 rfl) ?_; clear hf; intro a hf
        refine qY hf rfl rfl rfl (Y_fieldAddr rfl rfl fo34_0) ?_; clear hf; intro a hf
        refine qY hf rfl rfl rfl (Y_load_blk rfl rfl (i := 0) rfl rfl ag2) ?_; clear hf; intro a hf
        obtain ⟨r29, hc30, hm24⟩ := bind_some hm24
        refine qCall hf rfl rfl rfl rfl (cap := []) rfl rfl en131 (v := .bool r29) (fun w hs => Calls.scal (spec_l11Place_ok F q27 p0_g.Events _ _ hc30)) ?_; clear hf; intro a hf
        refine qY hf rfl rfl rfl (Y_not rfl rfl) ?_; clear hf; intro a hf
        refine qNil ?_; clear hs; intro w hs
        refine wpL_cond hf rfl (fun hb31 => ?_) (fun hb31 => ?_)
        · have hm24 := bif_t hm24 hb31
          refine wpL_seq ?_
          refine wpL_region ?_
          refine sY hf hs rfl rfl rfl (Y_assign rfl rfl) ?_; clear hf; intro a hf
          refine wpO_nil ?_
          obtain rfl := Option.some.inj hm24
          try dsimp only at hm
          obtain rfl := Option.some.inj hm
          refine wpL_ret (Qb_ret (Ql_ret (Qb_ret (ret_tmp rfl hf rfl ?_))))
          exact ⟨_, rfl, rfl, hs.sel [] (by decide)⟩
        · have hm24 := bif_f hm24 hb31
          refine wpL_skip ?_
          refine wpL_nil (Qb_normal ?_)
          refine wpL_region ?_
          refine sY hf hs rfl rfl rfl (Y_move rfl rfl) ?_; clear hf; intro a hf
          refine sY hf hs rfl rfl rfl (Y_add rfl rfl rfl) ?_; clear hf; intro a hf
          refine sY hf hs rfl rfl rfl (Y_assign rfl rfl) ?_; clear hf; intro a hf
          refine wpO_nil ?_
          refine wpL_nil (Ql_normal ?_)
          exact ⟨(IntKind.i64.wrap (x15 + 1)), hm24, (Fr.pick (Fr.pick hf.none hf rfl) hf rfl), hs⟩
      · have hm24 := bif_f hm24 hb26
        refine wpL_exit (Ql_exit (Qb_exit ?_))
        exact ⟨Option.some.inj hm24, (Fr.pick hf.none hf rfl), hs⟩
  · rintro a w ⟨hr_, hf, hs⟩
    subst hr_
    try dsimp only at hm
    refine wpL_seq ?_
    obtain ⟨r36, hj37, hm⟩ := bind_some hm
    refine wpL_cut (fun a w => ∃ b35 : Bool, b35 = r36 ∧ Fr a 29 [(2, .bool b35)] ∧ St [] W w []) ?_ ?_
    · refine wpL_region ?_
      refine sY hf hs rfl rfl rfl (Y_fieldAddr rfl rfl fo34_0) ?_; clear hf; intro a hf
      refine sY hf hs rfl rfl rfl (Y_load_blk rfl rfl (i := 0) rfl rfl ag2) ?_; clear hf; intro a hf
      obtain ⟨r38, hc39, hj37⟩ := bind_some hj37
      refine sCall hf rfl rfl rfl rfl (cap := []) rfl rfl en61 (spec_l01In_ok F p0_g.Events 1 10 _ _ hc39) ?_; clear hf
      rintro _ w ⟨rfl, hs1⟩ a hf
      have hs : St [] W w [.blk b1 34 [.int .i64 p0_g.Events, .slice A_p0_g_1 p0_g.Places.length c_p0_g_1]] := hs.ext hs1.below
      clear hs1
      refine sY hf hs rfl rfl rfl (Y_move rfl rfl) ?_; clear hf; intro a hf
      refine bsplit r38 (fun hb40 => ?_) (fun hb40 => ?_)
      · have hj37 := bif_t hj37 hb40
        refine sYg hf hs rfl rfl rfl (congrArg (fun b => some (Value.bool b)) hb40) rfl rfl rfl (Y_fieldAddr rfl rfl fo34_1) ?_; clear hf; intro a hf
        refine sYg hf hs rfl rfl rfl (congrArg (fun b => some (Value.bool b)) hb40) rfl rfl rfl (Y_load_blk rfl rfl (i := 0) rfl rfl ag32) ?_; clear hf; intro a hf
        refine sYg hf hs rfl rfl rfl (congrArg (fun b => some (Value.bool b)) hb40) rfl rfl rfl (Y_lenH rfl rfl el32 rfl) ?_; clear hf; intro a hf
        refine sYg hf hs rfl rfl rfl (congrArg (fun b => some (Value.bool b)) hb40) rfl rfl rfl (Y_leq rfl rfl rfl) ?_; clear hf; intro a hf
        refine sY hf hs rfl rfl rfl (Y_pickT rfl (congrArg (fun b => some (Value.bool b)) hb40) rfl) ?_; clear hf; intro a hf
        refine sY hf hs rfl rfl rfl (Y_assign rfl rfl) ?_; clear hf; intro a hf
        refine wpO_nil ?_
        refine wpL_nil (then_normal ?_)
        exact ⟨(decide ((p0_g.Places.length : Int) ≤ 30)), Option.some.inj hj37, (Fr.pick hf.none hf rfl), hs.sel [] (by decide)⟩
      · have hj37 := bif_f hj37 hb40
        refine sNo hf rfl rfl rfl (congrArg (fun b => some (Value.bool b)) hb40) rfl rfl rfl ?_; clear hf; intro a hf
        refine sNo hf rfl rfl rfl (congrArg (fun b => some (Value.bool b)) hb40) rfl rfl rfl ?_; clear hf; intro a hf
        refine sNo hf rfl rfl rfl (congrArg (fun b => some (Value.bool b)) hb40) rfl rfl rfl ?_; clear hf; intro a hf
        refine sNo hf rfl rfl rfl (congrArg (fun b => some (Value.bool b)) hb40) rfl rfl rfl ?_; clear hf; intro a hf
        refine sY hf hs rfl rfl rfl (Y_pickF rfl (congrArg (fun b => some (Value.bool b)) hb40) rfl) ?_; clear hf; intro a hf
        refine sY hf hs rfl rfl rfl (Y_assign rfl rfl) ?_; clear hf; intro a hf
        refine wpO_nil ?_
        refine wpL_nil (then_normal ?_)
        exact ⟨false, Option.some.inj hj37, (Fr.pick hf.none hf rfl), hs.sel [] (by decide)⟩
    · rintro a w ⟨b35, hr_, hf, hs⟩
      subst hr_
      try dsimp only at hm
      obtain rfl := Option.some.inj hm
      refine wpL_ret (ret_tmp rfl hf rfl ?_)
      exact ⟨_, rfl, rfl, hs⟩

set_option maxRecDepth 100000 in
theorem spec_l01Within_ok (F : Nat) (p0_list : List Int) (A_p0_list_1 : Option Addr) (n_p0_list_1 c_p0_list_1 : Nat) (hn_p0_list_1 : n_p0_list_1 = p0_list.length) (p1_most : Int) (p2_low : Int) (p3_high : Int) (r : Bool) (W : World) (hm : spec_l01Within F p0_list p1_most p2_low p3_high = some r) (h_p0_list_1 : Rd W A_p0_list_1 (ints p0_list)) :
    Calls Try.prog 99 [.slice A_p0_list_1 n_p0_list_1 c_p0_list_1, .int .i64 p1_most, .int .i64 p2_low, .int .i64 p3_high].toArray W fun e w' => ∃ v, e = .returned v ∧ v = .bool r ∧ St [] W w' [] := by
  subst hn_p0_list_1
  unfold spec_l01Within at hm
  refine Calls.enter (N := 28) Try.func99 rfl rfl rfl (fun a hf => ?_)
  have hs := St.start W
  obtain ⟨w, hw_⟩ : ∃ w, w = W := ⟨W, rfl⟩
  clear hw_ w
  refine wpL_seq ?_
  refine wpL_region ?_
  refine sY hf hs rfl rfl rfl (Y_assign rfl rfl) ?_; clear hf; intro a hf
  refine wpO_nil ?_
  refine wpL_seq ?_
  refine wpL_seq ?_
  refine wpL_region ?_
  refine sY hf hs rfl rfl rfl (Y_assign rfl rfl) ?_; clear hf; intro a hf
  refine wpO_nil ?_
  obtain ⟨r21, hl22, hm⟩ := bind_some hm
  refine wpL_block (fun a w => Sum.inr () = r21 ∧ Fr a 28 [(0, .slice A_p0_list_1 p0_list.length c_p0_list_1), (1, .int .i64 p1_most)] ∧ St [] W w []) ?_ ?_
  · refine wpL_loop (fun n a w => ∃ x14 : Int, spec_l01Within_L1 F p0_list p2_low p3_high n x14 = some r21 ∧ Fr a 28 [(0, .slice A_p0_list_1 p0_list.length c_p0_list_1), (1, .int .i64 p1_most), (2, .int .i64 p2_low), (3, .int .i64 p3_high), (9, .int .i64 x14)] ∧ St [] W w []) F ?_ ?_ ?_
    · exact ⟨0, hl22, (Fr.pick (Fr.pick (Fr.pick (Fr.pick (Fr.pick hf.none hf rfl) hf rfl) hf rfl) hf rfl) hf rfl), hs⟩
    · rintro a w ⟨x14, h0_, -, -⟩; simp [spec_l01Within_L1] at h0_
    · rintro n24 a w ⟨x14, hm23, hf, hs⟩
      rw [spec_l01Within_L1] at hm23
      refine wpL_seq ?_
      refine wpL_seq ?_
      refine wpL_region ?_
      refine sY hf hs rfl rfl rfl (Y_move rfl rfl) ?_; clear hf; intro a hf
      refine sY hf hs rfl rfl rfl (Y_move rfl rfl) ?_; clear hf; intro a hf
      refine sY hf hs rfl rfl rfl (Y_lenH rfl rfl el25 rfl) ?_; clear hf; intro a hf
      refine sY hf hs rfl rfl rfl (Y_lss rfl rfl rfl) ?_; clear hf; intro a hf
      refine wpO_nil ?_
      refine wpL_cond hf rfl (fun hb25 => ?_) (fun hb25 => ?_)
      · have hm23 := bif_t hm23 hb25
        refine wpL_skip ?_
        refine wpL_seq ?_
        refine wpL_block0 ?_
        refine wpL_seq ?_
        refine wpL_region ?_
        refine sY hf hs rfl rfl rfl (Y_move rfl rfl) ?_; clear hf; intro a hf
        refine sY hf hs rfl rfl rfl (Y_move rfl rfl) ?_; clear hf; intro a hf
        obtain ⟨q26, hi27, hm23⟩ := bind_some hm23
        obtain ⟨hi27a, hi27b, hi27q⟩ := idx_some hi27
        refine sY hf hs rfl rfl rfl (Y_index rfl rfl rfl el25 ti2 (Rd.isAt (h_p0_list_1.at hs) (at1 (ints_at hi27q))) hi27a hi27b) ?_; clear hf; intro a hf
        refine sY hf hs rfl rfl rfl (Y_load_rd rfl rfl (fun w hs => h_p0_list_1.at hs) (at1 (ints_at hi27q)) ag2) ?_; clear hf; intro a hf
        refine sY hf hs rfl rfl rfl (Y_move rfl rfl) ?_; clear hf; intro a hf
        refine sY hf hs rfl rfl rfl (Y_move rfl rfl) ?_; clear hf; intro a hf
        obtain ⟨r28, hc29, hm23⟩ := bind_some hm23
        refine sCall hf rfl rfl rfl rfl (cap := []) rfl rfl en61 (spec_l01In_ok F q26 p2_low p3_high _ _ hc29) ?_; clear hf
        rintro _ w ⟨rfl, hs1⟩ a hf
        have hs : St [] W w [] := hs.ext hs1.below
        clear hs1
        refine sY hf hs rfl rfl rfl (Y_not rfl rfl) ?_; clear hf; intro a hf
        refine wpO_nil ?_
        refine wpL_cond hf rfl (fun hb30 => ?_) (fun hb30 => ?_)
        · have hm23 := bif_t hm23 hb30
          refine wpL_seq ?_
          refine wpL_region ?_
          refine sY hf hs rfl rfl rfl (Y_assign rfl rfl) ?_; clear hf; intro a hf
          refine wpO_nil ?_
          obtain rfl := Option.some.inj hm23
          try dsimp only at hm
          obtain rfl := Option.some.inj hm
          refine wpL_ret (Qb_ret (Ql_ret (Qb_ret (ret_tmp rfl hf rfl ?_))))
          exact ⟨_, rfl, rfl, hs⟩
        · have hm23 := bif_f hm23 hb30
          refine wpL_skip ?_
          refine wpL_nil (Qb_normal ?_)
          refine wpL_region ?_
          refine sY hf hs rfl rfl rfl (Y_move rfl rfl) ?_; clear hf; intro a hf
          refine sY hf hs rfl rfl rfl (Y_add rfl rfl rfl) ?_; clear hf; intro a hf
          refine sY hf hs rfl rfl rfl (Y_assign rfl rfl) ?_; clear hf; intro a hf
          refine wpO_nil ?_
          refine wpL_nil (Ql_normal ?_)
          exact ⟨(IntKind.i64.wrap (x14 + 1)), hm23, (Fr.pick (Fr.pick (Fr.pick (Fr.pick (Fr.pick hf.none hf rfl) hf rfl) hf rfl) hf rfl) hf rfl), hs⟩
      · have hm23 := bif_f hm23 hb25
        refine wpL_exit (Ql_exit (Qb_exit ?_))
        exact ⟨Option.some.inj hm23, (Fr.pick (Fr.pick hf.none hf rfl) hf rfl), hs⟩
  · rintro a w ⟨hr_, hf, hs⟩
    subst hr_
    try dsimp only at hm
    refine wpL_seq ?_
    refine wpL_region ?_
    refine sY hf hs rfl rfl rfl (Y_move rfl rfl) ?_; clear hf; intro a hf
    refine sY hf hs rfl rfl rfl (Y_lenH rfl rfl el25 rfl) ?_; clear hf; intro a hf
    refine sY hf hs rfl rfl rfl (Y_move rfl rfl) ?_; clear hf; intro a hf
    refine sY hf hs rfl rfl rfl (Y_leq rfl rfl rfl) ?_; clear hf; intro a hf
    refine sY hf hs rfl rfl rfl (Y_assign rfl rfl) ?_; clear hf; intro a hf
    refine wpO_nil ?_
    obtain rfl := Option.some.inj hm
    refine wpL_ret (ret_tmp rfl hf rfl ?_)
    exact ⟨_, rfl, rfl, hs⟩

set_option maxRecDepth 100000 in
theorem spec_IsTimetable_ok (F : Nat) (p0_g : GEventGraph) (A_p0_g_1 : Option Addr) (n_p0_g_1 c_p0_g_1 : Nat) (hn_p0_g_1 : n_p0_g_1 = p0_g.Places.length) (p1_t : GTimetable) (A_p1_t_1 : Option Addr) (n_p1_t_1 c_p1_t_1 : Nat) (hn_p1_t_1 : n_p1_t_1 = p1_t.Starts.length) (r : Bool) (W : World) (hm : spec_IsTimetable F p0_g p1_t = some r) (h_p0_g_1 : Rd W A_p0_g_1 ((recs GPlace.cells) p0_g.Places)) (h_p1_t_1 : Rd W A_p1_t_1 (ints p1_t.Starts)) :
    Calls Try.prog 94 [.agg #[.int .i64 p0_g.Events, .slice A_p0_g_1 n_p0_g_1 c_p0_g_1], .agg #[.int .i64 p1_t.Period, .slice A_p1_t_1 n_p1_t_1 c_p1_t_1]].toArray W fun e w' => ∃ v, e = .returned v ∧ v = .bool r ∧ St [] W w' [] := by
  subst hn_p0_g_1
  subst hn_p1_t_1
  unfold spec_IsTimetable at hm
  refine Calls.enter (N := 25) Try.func94 rfl rfl rfl (fun a hf => ?_)
  have hs := St.start W
  obtain ⟨w, hw_⟩ : ∃ w, w = W := ⟨W, rfl⟩
  clear hw_ w
  refine wpL_seq ?_
  refine wpL_region ?_
  refine sBox hf hs rfl rfl rfl rfl rfl (cs := [.int .i64 p0_g.Events, .slice A_p0_g_1 p0_g.Places.length c_p0_g_1]) rfl ?_; clear hf hs; intro a w b1 hs hf
  have hs : St [] W w [.blk b1 34 [.int .i64 p0_g.Events, .slice A_p0_g_1 p0_g.Places.length c_p0_g_1]] := hs
  refine sBox hf hs rfl rfl rfl rfl rfl (cs := [.int .i64 p1_t.Period, .slice A_p1_t_1 p1_t.Starts.length c_p1_t_1]) rfl ?_; clear hf hs; intro a w b2 hs hf
  have hs : St [] W w [.blk b1 34 [.int .i64 p0_g.Events, .slice A_p0_g_1 p0_g.Places.length c_p0_g_1], .blk b2 36 [.int .i64 p1_t.Period, .slice A_p1_t_1 p1_t.Starts.length c_p1_t_1]] := hs
  refine sY hf hs rfl rfl rfl (Y_assign rfl rfl) ?_; clear hf; intro a hf
  refine wpO_nil ?_
  refine wpL_seq ?_
  obtain ⟨r13, hj14, hm⟩ := bind_some hm
  refine wpL_cut (fun a w => ∃ b12 : Bool, b12 = r13 ∧ Fr a 25 [(4, .bool b12)] ∧ St [] W w []) ?_ ?_
  · refine wpL_region ?_
    refine sY hf hs rfl rfl rfl (Y_load_blkS rfl rfl (i := 0) rfl ag34 ti34 rfl) ?_; clear hf; intro a hf
    obtain ⟨r15, hc16, hj14⟩ := bind_some hj14
    refine sCall hf rfl rfl rfl rfl (cap := []) rfl rfl en116 (spec_IsEventGraph_ok F p0_g A_p0_g_1 p0_g.Places.length c_p0_g_1 rfl _ _ hc16 (h_p0_g_1.at hs)) ?_; clear hf
    rintro _ w ⟨rfl, hs1⟩ a hf
    have hs : St [] W w [.blk b1 34 [.int .i64 p0_g.Events, .slice A_p0_g_1 p0_g.Places.length c_p0_g_1], .blk b2 36 [.int .i64 p1_t.Period, .slice A_p1_t_1 p1_t.Starts.length c_p1_t_1]] := hs.ext hs1.below
    clear hs1
    refine sY hf hs rfl rfl rfl (Y_move rfl rfl) ?_; clear hf; intro a hf
    refine bsplit r15 (fun hb17 => ?_) (fun hb17 => ?_)
    · have hj14 := bif_t hj14 hb17
      refine sYg hf hs rfl rfl rfl (congrArg (fun b => some (Value.bool b)) hb17) rfl rfl rfl (Y_fieldAddr rfl rfl fo36_0) ?_; clear hf; intro a hf
      refine sYg hf hs rfl rfl rfl (congrArg (fun b => some (Value.bool b)) hb17) rfl rfl rfl (Y_load_blk rfl rfl (i := 1) rfl rfl ag2) ?_; clear hf; intro a hf
      obtain ⟨r18, hc19, hj14⟩ := bind_some hj14
      refine sCallg hf rfl rfl rfl (congrArg (fun b => some (Value.bool b)) hb17) rfl rfl rfl rfl (cap := []) rfl rfl en61 (spec_l01In_ok F p1_t.Period 0 100000 _ _ hc19) ?_; clear hf
      rintro _ w ⟨rfl, hs1⟩ a hf
      have hs : St [] W w [.blk b1 34 [.int .i64 p0_g.Events, .slice A_p0_g_1 p0_g.Places.length c_p0_g_1], .blk b2 36 [.int .i64 p1_t.Period, .slice A_p1_t_1 p1_t.Starts.length c_p1_t_1]] := hs.ext hs1.below
      clear hs1
      refine sY hf hs rfl rfl rfl (Y_pickT rfl (congrArg (fun b => some (Value.bool b)) hb17) rfl) ?_; clear hf; intro a hf
      refine sY hf hs rfl rfl rfl (Y_move rfl rfl) ?_; clear hf; intro a hf
      refine bsplit r18 (fun hb20 => ?_) (fun hb20 => ?_)
      · have hj14 := bif_t hj14 hb20
        refine sYg hf hs rfl rfl rfl (congrArg (fun b => some (Value.bool b)) hb20) rfl rfl rfl (Y_fieldAddr rfl rfl fo36_1) ?_; clear hf; intro a hf
        refine sYg hf hs rfl rfl rfl (congrArg (fun b => some (Value.bool b)) hb20) rfl rfl rfl (Y_load_blk rfl rfl (i := 1) rfl rfl ag25) ?_; clear hf; intro a hf
        refine sYg hf hs rfl rfl rfl (congrArg (fun b => some (Value.bool b)) hb20) rfl rfl rfl (Y_lenH rfl rfl el25 rfl) ?_; clear hf; intro a hf
        refine sYg hf hs rfl rfl rfl (congrArg (fun b => some (Value.bool b)) hb20) rfl rfl rfl (Y_fieldAddr rfl rfl fo34_0) ?_; clear hf; intro a hf
        refine sYg hf hs rfl rfl rfl (congrArg (fun b => some (Value.bool b)) hb20) rfl rfl rfl (Y_load_blk rfl rfl (i := 0) rfl rfl ag2) ?_; clear hf; intro a hf
        refine sYg hf hs rfl rfl rfl (congrArg (fun b => some (Value.bool b)) hb20) rfl rfl rfl (Y_eql rfl rfl rfl) ?_; clear hf; intro a hf
        refine sY hf hs rfl rfl rfl (Y_pickT rfl (congrArg (fun b => some (Value.bool b)) hb20) rfl) ?_; clear hf; intro a hf
        refine sY hf hs rfl rfl rfl (Y_move rfl rfl) ?_; clear hf; intro a hf
        refine bsplit ((p1_t.Starts.length : Int) == p0_g.Events) (fun hb21 => ?_) (fun hb21 => ?_)
        · have hj14 := bif_t hj14 hb21
          refine sYg hf hs rfl rfl rfl (congrArg (fun b => some (Value.bool b)) hb21) rfl rfl rfl (Y_fieldAddr rfl rfl fo36_1) ?_; clear hf; intro a hf
          refine sYg hf hs rfl rfl rfl (congrArg (fun b => some (Value.bool b)) hb21) rfl rfl rfl (Y_load_blk rfl rfl (i := 1) rfl rfl ag25) ?_; clear hf; intro a hf
          obtain ⟨r22, hc23, hj14⟩ := bind_some hj14
          refine sCallg hf rfl rfl rfl (congrArg (fun b => some (Value.bool b)) hb21) rfl rfl rfl rfl (cap := []) rfl rfl en99 (spec_l01Within_ok F p1_t.Starts A_p1_t_1 p1_t.Starts.length c_p1_t_1 rfl 10 0 1000000 _ _ hc23 (h_p1_t_1.at hs)) ?_; clear hf
          rintro _ w ⟨rfl, hs1⟩ a hf
          have hs : St [] W w [.blk b1 34 [.int .i64 p0_g.Events, .slice A_p0_g_1 p0_g.Places.length c_p0_g_1], .blk b2 36 [.int .i64 p1_t.Period, .slice A_p1_t_1 p1_t.Starts.length c_p1_t_1]] := hs.ext hs1.below
          clear hs1
          refine sY hf hs rfl rfl rfl (Y_pickT rfl (congrArg (fun b => some (Value.bool b)) hb21) rfl) ?_; clear hf; intro a hf
          refine sY hf hs rfl rfl rfl (Y_assign rfl rfl) ?_; clear hf; intro a hf
          refine wpO_nil ?_
          refine wpL_nil (then_normal ?_)
          exact ⟨r22, Option.some.inj hj14, (Fr.pick hf.none hf rfl), hs.sel [] (by decide)⟩
        · have hj14 := bif_f hj14 hb21
          refine sNo hf rfl rfl rfl (congrArg (fun b => some (Value.bool b)) hb21) rfl rfl rfl ?_; clear hf; intro a hf
          refine sNo hf rfl rfl rfl (congrArg (fun b => some (Value.bool b)) hb21) rfl rfl rfl ?_; clear hf; intro a hf
          refine sNo hf rfl rfl rfl (congrArg (fun b => some (Value.bool b)) hb21) rfl rfl rfl ?_; clear hf; intro a hf
          refine sY hf hs rfl rfl rfl (Y_pickF rfl (congrArg (fun b => some (Value.bool b)) hb21) rfl) ?_; clear hf; intro a hf
          refine sY hf hs rfl rfl rfl (Y_assign rfl rfl) ?_; clear hf; intro a hf
          refine wpO_nil ?_
          refine wpL_nil (then_normal ?_)
          exact ⟨false, Option.some.inj hj14, (Fr.pick hf.none hf rfl), hs.sel [] (by decide)⟩
      · have hj14 := bif_f hj14 hb20
        refine sNo hf rfl rfl rfl (congrArg (fun b => some (Value.bool b)) hb20) rfl rfl rfl ?_; clear hf; intro a hf
        refine sNo hf rfl rfl rfl (congrArg (fun b => some (Value.bool b)) hb20) rfl rfl rfl ?_; clear hf; intro a hf
        refine sNo hf rfl rfl rfl (congrArg (fun b => some (Value.bool b)) hb20) rfl rfl rfl ?_; clear hf; intro a hf
        refine sNo hf rfl rfl rfl (congrArg (fun b => some (Value.bool b)) hb20) rfl rfl rfl ?_; clear hf; intro a hf
        refine sNo hf rfl rfl rfl (congrArg (fun b => some (Value.bool b)) hb20) rfl rfl rfl ?_; clear hf; intro a hf
        refine sNo hf rfl rfl rfl (congrArg (fun b => some (Value.bool b)) hb20) rfl rfl rfl ?_; clear hf; intro a hf
        refine sY hf hs rfl rfl rfl (Y_pickF rfl (congrArg (fun b => some (Value.bool b)) hb20) rfl) ?_; clear hf; intro a hf
        refine sY hf hs rfl rfl rfl (Y_move rfl rfl) ?_; clear hf; intro a hf
        refine sNo hf rfl rfl rfl rfl rfl rfl rfl ?_; clear hf; intro a hf
        refine sNo hf rfl rfl rfl rfl rfl rfl rfl ?_; clear hf; intro a hf
        refine sNo hf rfl rfl rfl rfl rfl rfl rfl ?_; clear hf; intro a hf
        refine sY hf hs rfl rfl rfl (Y_pickF rfl rfl rfl) ?_; clear hf; intro a hf
        refine sY hf hs rfl rfl rfl (Y_assign rfl rfl) ?_; clear hf; intro a hf
        refine wpO_nil ?_
        refine wpL_nil (then_normal ?_)
        exact ⟨false, Option.some.inj hj14, (Fr.pick hf.none hf rfl), hs.sel [] (by decide)⟩
    · have hj14 := bif_f hj14 hb17
      refine sNo hf rfl rfl rfl (congrArg (fun b => some (Value.bool b)) hb17) rfl rfl rfl ?_; clear hf; intro a hf
      refine sNo hf rfl rfl rfl (congrArg (fun b => some (Value.bool b)) hb17) rfl rfl rfl ?_; clear hf; intro a hf
      refine sNo hf rfl rfl rfl (congrArg (fun b => some (Value.bool b)) hb17) rfl rfl rfl ?_; clear hf; intro a hf
      refine sY hf hs rfl rfl rfl (Y_pickF rfl (congrArg (fun b => some (Value.bool b)) hb17) rfl) ?_; clear hf; intro a hf
      refine sY hf hs rfl rfl rfl (Y_move rfl rfl) ?_; clear hf; intro a hf
      refine sNo hf rfl rfl rfl rfl rfl rfl rfl ?_; clear hf; intro a hf
      refine sNo hf rfl rfl rfl rfl rfl rfl rfl ?_; clear hf; intro a hf
      refine sNo hf rfl rfl rfl rfl rfl rfl rfl ?_; clear hf; intro a hf
      refine sNo hf rfl rfl rfl rfl rfl rfl rfl ?_; clear hf; intro a hf
      refine sNo hf rfl rfl rfl rfl rfl rfl rfl ?_; clear hf; intro a hf
      refine sNo hf rfl rfl rfl rfl rfl rfl rfl ?_; clear hf; intro a hf
      refine sY hf hs rfl rfl rfl (Y_pickF rfl rfl rfl) ?_; clear hf; intro a hf
      refine sY hf hs rfl rfl rfl (Y_move rfl rfl) ?_; clear hf; intro a hf
      refine sNo hf rfl rfl rfl rfl rfl rfl rfl ?_; clear hf; intro a hf
      refine sNo hf rfl rfl rfl rfl rfl rfl rfl ?_; clear hf; intro a hf
      refine sNo hf rfl rfl rfl rfl rfl rfl rfl ?_; clear hf; intro a hf
      refine sY hf hs rfl rfl rfl (Y_pickF rfl rfl rfl) ?_; clear hf; intro a hf
      refine sY hf hs rfl rfl rfl (Y_assign rfl rfl) ?_; clear hf; intro a hf
      refine wpO_nil ?_
      refine wpL_nil (then_normal ?_)
      exact ⟨false, Option.some.inj hj14, (Fr.pick hf.none hf rfl), hs.sel [] (by decide)⟩
  · rintro a w ⟨b12, hr_, hf, hs⟩
    subst hr_
    try dsimp only at hm
    obtain rfl := Option.some.inj hm
    refine wpL_ret (ret_tmp rfl hf rfl ?_)
    exact ⟨_, rfl, rfl, hs⟩

set_option maxRecDepth 100000 in
theorem spec_l20Code_ok (F : Nat) (p0_g : GEventGraph) (A_p0_g_1 : Option Addr) (n_p0_g_1 c_p0_g_1 : Nat) (hn_p0_g_1 : n_p0_g_1 = p0_g.Places.length) (p1_t : GTimetable) (A_p1_t_1 : Option Addr) (n_p1_t_1 c_p1_t_1 : Nat) (hn_p1_t_1 : n_p1_t_1 = p1_t.Starts.length) (r : Int) (W : World) (hm : spec_l20Code F p0_g p1_t = some r) (h_p0_g_1 : Rd W A_p0_g_1 ((recs GPlace.cells) p0_g.Places)) (h_p1_t_1 : Rd W A_p1_t_1 (ints p1_t.Starts)) :
    Calls Try.prog 91 [.agg #[.int .i64 p0_g.Events, .slice A_p0_g_1 n_p0_g_1 c_p0_g_1], .agg #[.int .i64 p1_t.Period, .slice A_p1_t_1 n_p1_t_1 c_p1_t_1]].toArray W fun e w' => ∃ v, e = .returned v ∧ v = .int .i64 r ∧ St [] W w' [] := by
  subst hn_p0_g_1
  subst hn_p1_t_1
  unfold spec_l20Code at hm
  refine Calls.enter (N := 14) Try.func91 rfl rfl rfl (fun a hf => ?_)
  have hs := St.start W
  obtain ⟨w, hw_⟩ : ∃ w, w = W := ⟨W, rfl⟩
  clear hw_ w
  refine wpL_seq ?_
  refine wpL_region ?_
  refine sBox hf hs rfl rfl rfl rfl rfl (cs := [.int .i64 p0_g.Events, .slice A_p0_g_1 p0_g.Places.length c_p0_g_1]) rfl ?_; clear hf hs; intro a w b1 hs hf
  have hs : St [] W w [.blk b1 34 [.int .i64 p0_g.Events, .slice A_p0_g_1 p0_g.Places.length c_p0_g_1]] := hs
  refine sBox hf hs rfl rfl rfl rfl rfl (cs := [.int .i64 p1_t.Period, .slice A_p1_t_1 p1_t.Starts.length c_p1_t_1]) rfl ?_; clear hf hs; intro a w b2 hs hf
  have hs : St [] W w [.blk b1 34 [.int .i64 p0_g.Events, .slice A_p0_g_1 p0_g.Places.length c_p0_g_1], .blk b2 36 [.int .i64 p1_t.Period, .slice A_p1_t_1 p1_t.Starts.length c_p1_t_1]] := hs
  refine sY hf hs rfl rfl rfl (Y_assign rfl rfl) ?_; clear hf; intro a hf
  refine wpO_nil ?_
  refine wpL_seq ?_
  refine wpL_block0 ?_
  refine wpL_seq ?_
  refine wpL_region ?_
  refine sY hf hs rfl rfl rfl (Y_load_blkS rfl rfl (i := 0) rfl ag34 ti34 rfl) ?_; clear hf; intro a hf
  obtain ⟨r3, hc4, hm⟩ := bind_some hm
  refine sCall hf rfl rfl rfl rfl (cap := []) rfl rfl en116 (spec_IsEventGraph_ok F p0_g A_p0_g_1 p0_g.Places.length c_p0_g_1 rfl _ _ hc4 (h_p0_g_1.at hs)) ?_; clear hf
  rintro _ w ⟨rfl, hs1⟩ a hf
  have hs : St [] W w [.blk b1 34 [.int .i64 p0_g.Events, .slice A_p0_g_1 p0_g.Places.length c_p0_g_1], .blk b2 36 [.int .i64 p1_t.Period, .slice A_p1_t_1 p1_t.Starts.length c_p1_t_1]] := hs.ext hs1.below
  clear hs1
  refine sY hf hs rfl rfl rfl (Y_not rfl rfl) ?_; clear hf; intro a hf
  refine sY hf hs rfl rfl rfl (Y_assign rfl rfl) ?_; clear hf; intro a hf
  refine wpO_nil ?_
  refine wpL_cond hf rfl (fun hb5 => ?_) (fun hb5 => ?_)
  · have hm := bif_t hm hb5
    refine wpL_seq ?_
    refine wpL_region ?_
    refine sY hf hs rfl rfl rfl (Y_assign rfl rfl) ?_; clear hf; intro a hf
    refine wpO_nil ?_
    obtain rfl := Option.some.inj hm
    refine wpL_ret (Qb_ret (ret_tmp rfl hf rfl ?_))
    exact ⟨_, rfl, rfl, hs.sel [] (by decide)⟩
  · have hm := bif_f hm hb5
    refine wpL_seq ?_
    refine wpL_region ?_
    refine sY hf hs rfl rfl rfl (Y_load_blkS rfl rfl (i := 0) rfl ag34 ti34 rfl) ?_; clear hf; intro a hf
    refine sY hf hs rfl rfl rfl (Y_load_blkS rfl rfl (i := 1) rfl ag36 ti36 rfl) ?_; clear hf; intro a hf
    obtain ⟨r6, hc7, hm⟩ := bind_some hm
    refine sCall hf rfl rfl rfl rfl (cap := []) rfl rfl en94 (spec_IsTimetable_ok F p0_g A_p0_g_1 p0_g.Places.length c_p0_g_1 rfl p1_t A_p1_t_1 p1_t.Starts.length c_p1_t_1 rfl _ _ hc7 (h_p0_g_1.at hs) (h_p1_t_1.at hs)) ?_; clear hf
    rintro _ w ⟨rfl, hs1⟩ a hf
    have hs : St [] W w [.blk b1 34 [.int .i64 p0_g.Events, .slice A_p0_g_1 p0_g.Places.length c_p0_g_1], .blk b2 36 [.int .i64 p1_t.Period, .slice A_p1_t_1 p1_t.Starts.length c_p1_t_1]] := hs.ext hs1.below
    clear hs1
    refine sY hf hs rfl rfl rfl (Y_not rfl rfl) ?_; clear hf; intro a hf
    refine sY hf hs rfl rfl rfl (Y_assign rfl rfl) ?_; clear hf; intro a hf
    refine wpO_nil ?_
    refine wpL_cond hf rfl (fun hb8 => ?_) (fun hb8 => ?_)
    · have hm := bif_t hm hb8
      refine wpL_seq ?_
      refine wpL_region ?_
      refine sY hf hs rfl rfl rfl (Y_assign rfl rfl) ?_; clear hf; intro a hf
      refine wpO_nil ?_
      obtain rfl := Option.some.inj hm
      refine wpL_ret (Qb_ret (ret_tmp rfl hf rfl ?_))
      exact ⟨_, rfl, rfl, hs.sel [] (by decide)⟩
    · have hm := bif_f hm hb8
      refine wpL_skip ?_
      refine wpL_nil (Qb_normal ?_)
      refine wpL_seq ?_
      refine wpL_region ?_
      refine sY hf hs rfl rfl rfl (Y_assign rfl rfl) ?_; clear hf; intro a hf
      refine wpO_nil ?_
      obtain rfl := Option.some.inj hm
      refine wpL_ret (ret_tmp rfl hf rfl ?_)
      exact ⟨_, rfl, rfl, hs.sel [] (by decide)⟩

set_option maxRecDepth 100000 in
theorem spec_l01Finite_ok (F : Nat) (p0_a : Int) (r : Bool) (W : World) (hm : spec_l01Finite F p0_a = some r) :
    Calls Try.prog 92 [.int .i64 p0_a].toArray W fun e w' => ∃ v, e = .returned v ∧ v = .bool r ∧ St [] W w' [] := by
  unfold spec_l01Finite at hm
  refine Calls.enter (N := 5) Try.func92 rfl rfl rfl (fun a hf => ?_)
  have hs := St.start W
  obtain ⟨w, hw_⟩ : ∃ w, w = W := ⟨W, rfl⟩
  clear hw_ w
  refine wpL_seq ?_
  refine wpL_region ?_
  refine sY hf hs rfl rfl rfl (Y_assign rfl rfl) ?_; clear hf; intro a hf
  refine wpO_nil ?_
  refine wpL_seq ?_
  refine wpL_region ?_
  refine sY hf hs rfl rfl rfl (Y_move rfl rfl) ?_; clear hf; intro a hf
  obtain ⟨r1, hc2, hm⟩ := bind_some hm
  refine sCall hf rfl rfl rfl rfl (cap := []) rfl rfl en61 (spec_l01In_ok F p0_a (-1000000) 1000000 _ _ hc2) ?_; clear hf
  rintro _ w ⟨rfl, hs1⟩ a hf
  have hs : St [] W w [] := hs.ext hs1.below
  clear hs1
  refine sY hf hs rfl rfl rfl (Y_assign rfl rfl) ?_; clear hf; intro a hf
  refine wpO_nil ?_
  obtain rfl := Option.some.inj hm
  refine wpL_ret (ret_tmp rfl hf rfl ?_)
  exact ⟨_, rfl, rfl, hs⟩

set_option maxRecDepth 100000 in
theorem spec_l01Times_ok (F : Nat) (p0_a : Int) (p1_b : Int) (r : Int) (W : World) (hm : spec_l01Times F p0_a p1_b = some r) :
    Calls Try.prog 117 [.int .i64 p0_a, .int .i64 p1_b].toArray W fun e w' => ∃ v, e = .returned v ∧ v = .int .i64 r ∧ St [] W w' [] := by
  unfold spec_l01Times at hm
  refine Calls.enter (N := 14) Try.func117 rfl rfl rfl (fun a hf => ?_)
  have hs := St.start W
  obtain ⟨w, hw_⟩ : ∃ w, w = W := ⟨W, rfl⟩
  clear hw_ w
  refine wpL_seq ?_
  refine wpL_region ?_
  refine sY hf hs rfl rfl rfl (Y_assign rfl rfl) ?_; clear hf; intro a hf
  refine wpO_nil ?_
  refine wpL_seq ?_
  refine wpL_seq ?_
  obtain ⟨r3, hj4, hm⟩ := bind_some hm
  refine wpL_cut (fun a w => ∃ b2 : Bool, b2 = r3 ∧ Fr a 14 [(0, .int .i64 p0_a), (1, .int .i64 p1_b), (10, .bool b2)] ∧ St [] W w []) ?_ ?_
  · refine wpL_region ?_
    refine sY hf hs rfl rfl rfl (Y_move rfl rfl) ?_; clear hf; intro a hf
    refine sY hf hs rfl rfl rfl (Y_eql rfl rfl rfl) ?_; clear hf; intro a hf
    refine sY hf hs rfl rfl rfl (Y_move rfl rfl) ?_; clear hf; intro a hf
    refine bsplit (p0_a == (-1000000000000000)) (fun hb5 => ?_) (fun hb5 => ?_)
    · have hj4 := bif_t hj4 hb5
      refine sNo hf rfl rfl rfl (congrArg (fun b => some (Value.bool b)) hb5) rfl rfl rfl ?_; clear hf; intro a hf
      refine sNo hf rfl rfl rfl (congrArg (fun b => some (Value.bool b)) hb5) rfl rfl rfl ?_; clear hf; intro a hf
      refine sY hf hs rfl rfl rfl (Y_pickT rfl (congrArg (fun b => some (Value.bool b)) hb5) rfl) ?_; clear hf; intro a hf
      refine wpO_nil ?_
      refine wpL_nil (then_normal ?_)
      exact ⟨true, Option.some.inj hj4, (Fr.pick (Fr.pick (Fr.pick hf.none hf rfl) hf rfl) hf rfl), hs⟩
    · have hj4 := bif_f hj4 hb5
      refine sYg hf hs rfl rfl rfl (congrArg (fun b => some (Value.bool b)) hb5) rfl rfl rfl (Y_move rfl rfl) ?_; clear hf; intro a hf
      refine sYg hf hs rfl rfl rfl (congrArg (fun b => some (Value.bool b)) hb5) rfl rfl rfl (Y_eql rfl rfl rfl) ?_; clear hf; intro a hf
      refine sY hf hs rfl rfl rfl (Y_pickF rfl (congrArg (fun b => some (Value.bool b)) hb5) rfl) ?_; clear hf; intro a hf
      refine wpO_nil ?_
      refine wpL_nil (then_normal ?_)
      exact ⟨(p1_b == (-1000000000000000)), Option.some.inj hj4, (Fr.pick (Fr.pick (Fr.pick hf.none hf rfl) hf rfl) hf rfl), hs⟩
  · rintro a w ⟨b2, hr_, hf, hs⟩
    subst hr_
    try dsimp only at hm
    refine wpL_cond hf rfl (fun hb6 => ?_) (fun hb6 => ?_)
    · have hm := bif_t hm hb6
      refine wpL_seq ?_
      refine wpL_region ?_
      refine sY hf hs rfl rfl rfl (Y_assign rfl rfl) ?_; clear hf; intro a hf
      refine wpO_nil ?_
      obtain rfl := Option.some.inj hm
      refine wpL_ret (ret_tmp rfl hf rfl ?_)
      exact ⟨_, rfl, rfl, hs⟩
    · have hm := bif_f hm hb6
      refine wpL_skip ?_
      refine wpL_seq ?_
      refine wpL_region ?_
      refine sY hf hs rfl rfl rfl (Y_move rfl rfl) ?_; clear hf; intro a hf
      refine sY hf hs rfl rfl rfl (Y_move rfl rfl) ?_; clear hf; intro a hf
      refine sY hf hs rfl rfl rfl (Y_add rfl rfl rfl) ?_; clear hf; intro a hf
      refine sY hf hs rfl rfl rfl (Y_assign rfl rfl) ?_; clear hf; intro a hf
      refine wpO_nil ?_
      obtain rfl := Option.some.inj hm
      refine wpL_ret (ret_tmp rfl hf rfl ?_)
      exact ⟨_, rfl, rfl, hs⟩

set_option maxRecDepth 100000 in
theorem spec_l07Shift_ok (F : Nat) (p0_x : List Int) (A_p0_x_1 : Option Addr) (n_p0_x_1 c_p0_x_1 : Nat) (hn_p0_x_1 : n_p0_x_1 = p0_x.length) (p1_g : Int) (r : List Int) (W : World) (hm : spec_l07Shift F p0_x p1_g = some r) (h_p0_x_1 : Rd W A_p0_x_1 (ints p0_x)) :
    Calls Try.prog 93 [.slice A_p0_x_1 n_p0_x_1 c_p0_x_1, .int .i64 p1_g].toArray W fun e w' => ∃ v, e = .returned v ∧ ∃ A68, ∃ n69, ∃ c70, v = .slice A68 n69 c70 ∧ n69 = r.length ∧ St [] W w' [.row A68 n69 c70 2 1 (ints r)] := by
  subst hn_p0_x_1
  unfold spec_l07Shift at hm
  refine Calls.enter (N := 24) Try.func93 rfl rfl rfl (fun a hf => ?_)
  have hs := St.start W
  obtain ⟨w, hw_⟩ : ∃ w, w = W := ⟨W, rfl⟩
  clear hw_ w
  refine wpL_seq ?_
  refine wpL_region ?_
  refine sY hf hs rfl rfl rfl (Y_assign rfl rfl) ?_; clear hf; intro a hf
  refine wpO_nil ?_
  refine wpL_seq ?_
  refine wpL_region ?_
  refine sEmpty hf hs rfl rfl rfl rfl el25 ti2 ?_; clear hf hs; intro a w A1 hs hf
  have hs : St [] W w [.row A1 0 0 2 1 (ints ([] : List Int))] := hs
  refine sY hf hs rfl rfl rfl (Y_assign rfl rfl) ?_; clear hf; intro a hf
  refine wpO_nil ?_
  refine wpL_seq ?_
  refine wpL_seq ?_
  refine wpL_region ?_
  refine sY hf hs rfl rfl rfl (Y_assign rfl rfl) ?_; clear hf; intro a hf
  refine wpO_nil ?_
  obtain ⟨r53, hl54, hm⟩ := bind_some hm
  refine wpL_block (fun a w => ∃ xs48 : List Int, ∃ A49, ∃ n50, ∃ c51, xs48 = r53 ∧ n50 = xs48.length ∧ Fr a 24 [(5, .slice A49 n50 c51)] ∧ St [] W w [.row A49 n50 c51 2 1 (ints xs48)]) ?_ ?_
  · refine wpL_loop (fun n a w => ∃ xs31 : List Int, ∃ x36 : Int, ∃ A32, ∃ n33, ∃ c34, spec_l07Shift_L1 F p0_x p1_g n xs31 x36 = some r53 ∧ n33 = xs31.length ∧ Fr a 24 [(0, .slice A_p0_x_1 p0_x.length c_p0_x_1), (1, .int .i64 p1_g), (5, .slice A32 n33 c34), (6, .int .i64 x36)] ∧ St [] W w [.row A32 n33 c34 2 1 (ints xs31)]) F ?_ ?_ ?_
    · exact ⟨([] : List Int), 0, A1, 0, 0, hl54, rfl, (Fr.pick (Fr.pick (Fr.pick (Fr.pick hf.none hf rfl) hf rfl) hf rfl) hf rfl), hs⟩
    · rintro a w ⟨xs31, x36, A32, n33, c34, h0_, -, -, -⟩; simp [spec_l07Shift_L1] at h0_
    · rintro n56 a w ⟨xs31, x36, A32, n33, c34, hm55, hn35, hf, hs⟩
      rw [spec_l07Shift_L1] at hm55
      refine wpL_seq ?_
      refine wpL_seq ?_
      refine wpL_region ?_
      refine sY hf hs rfl rfl rfl (Y_move rfl rfl) ?_; clear hf; intro a hf
      refine sY hf hs rfl rfl rfl (Y_move rfl rfl) ?_; clear hf; intro a hf
      refine sY hf hs rfl rfl rfl (Y_lenH rfl rfl el25 rfl) ?_; clear hf; intro a hf
      refine sY hf hs rfl rfl rfl (Y_lss rfl rfl rfl) ?_; clear hf; intro a hf
      refine wpO_nil ?_
      refine wpL_cond hf rfl (fun hb57 => ?_) (fun hb57 => ?_)
      · have hm55 := bif_t hm55 hb57
        refine wpL_skip ?_
        refine wpL_seq ?_
        refine wpL_block0 ?_
        refine wpL_region ?_
        refine sY hf hs rfl rfl rfl (Y_move rfl rfl) ?_; clear hf; intro a hf
        refine sY hf hs rfl rfl rfl (Y_move rfl rfl) ?_; clear hf; intro a hf
        refine sY hf hs rfl rfl rfl (Y_move rfl rfl) ?_; clear hf; intro a hf
        obtain ⟨q58, hi59, hm55⟩ := bind_some hm55
        obtain ⟨hi59a, hi59b, hi59q⟩ := idx_some hi59
        refine sY hf hs rfl rfl rfl (Y_index rfl rfl rfl el25 ti2 (Rd.isAt (h_p0_x_1.at hs) (at1 (ints_at hi59q))) hi59a hi59b) ?_; clear hf; intro a hf
        refine sY hf hs rfl rfl rfl (Y_load_rd rfl rfl (fun w hs => h_p0_x_1.at hs) (at1 (ints_at hi59q)) ag2) ?_; clear hf; intro a hf
        refine sY hf hs rfl rfl rfl (Y_move rfl rfl) ?_; clear hf; intro a hf
        obtain ⟨r60, hc61, hm55⟩ := bind_some hm55
        refine sCall hf rfl rfl rfl rfl (cap := []) rfl rfl en117 (spec_l01Times_ok F q58 p1_g _ _ hc61) ?_; clear hf
        rintro _ w ⟨rfl, hs1⟩ a hf
        have hs : St [] W w [.row A32 n33 c34 2 1 (ints xs31)] := hs.ext hs1.below
        clear hs1
        refine sBuildSlice (parts := [(0, .tmp 20)]) (vs := [.int .i64 r60]) (cells := [.int .i64 r60]) hf hs rfl rfl rfl rfl rfl el25 ti2 rfl rfl rfl rfl ?_; clear hf hs; intro a w A62 hs hA63 hf
        have hs : St [] W w [.row A32 n33 c34 2 1 (ints xs31), .row A62 1 1 2 1 (ints ([r60]))] := hs
        obtain ⟨xs66, ha67, hm55⟩ := bind_some hm55
        refine sAppendL (i := 0) (xs := xs31) (ys := [r60]) (enc := ints) hf hs rfl rfl rfl rfl rfl rfl hn35 rfl rfl ha67 el25 ti2 rfl rfl rfl (hs.rd (i := 1) rfl) (Nat.succ_pos _) ints_len1 ints_append ints_one ?_; clear hf hs; intro a w A64 c65 hs hf
        have hs : St [] W w [.row A64 xs66.length c65 2 1 (ints xs66), .row A62 1 1 2 1 (ints ([r60]))] := hs
        refine sY hf hs rfl rfl rfl (Y_assign rfl rfl) ?_; clear hf; intro a hf
        refine wpO_nil ?_
        refine wpL_nil (Qb_normal ?_)
        refine wpL_region ?_
        refine sY hf hs rfl rfl rfl (Y_move rfl rfl) ?_; clear hf; intro a hf
        refine sY hf hs rfl rfl rfl (Y_add rfl rfl rfl) ?_; clear hf; intro a hf
        refine sY hf hs rfl rfl rfl (Y_assign rfl rfl) ?_; clear hf; intro a hf
        refine wpO_nil ?_
        refine wpL_nil (Ql_normal ?_)
        exact ⟨xs66, (IntKind.i64.wrap (x36 + 1)), A64, xs66.length, c65, hm55, rfl, (Fr.pick (Fr.pick (Fr.pick (Fr.pick hf.none hf rfl) hf rfl) hf rfl) hf rfl), hs.sel [0] (by decide)⟩
      · have hm55 := bif_f hm55 hb57
        refine wpL_exit (Ql_exit (Qb_exit ?_))
        exact ⟨xs31, A32, n33, c34, Option.some.inj hm55, hn35, (Fr.pick hf.none hf rfl), hs⟩
  · rintro a w ⟨xs48, A49, n50, c51, hr_, hn52, hf, hs⟩
    subst hr_
    try dsimp only at hm
    refine wpL_seq ?_
    refine wpL_region ?_
    refine sY hf hs rfl rfl rfl (Y_move rfl rfl) ?_; clear hf; intro a hf
    refine sY hf hs rfl rfl rfl (Y_assign rfl rfl) ?_; clear hf; intro a hf
    refine wpO_nil ?_
    obtain rfl := Option.some.inj hm
    refine wpL_ret (ret_tmp rfl hf rfl ?_)
    exact ⟨_, rfl, A49, n50, c51, rfl, hn52, hs⟩

set_option maxRecDepth 100000 in
theorem spec_ShiftTimetable_ok (F : Nat) (p0_g : GEventGraph) (A_p0_g_1 : Option Addr) (n_p0_g_1 c_p0_g_1 : Nat) (hn_p0_g_1 : n_p0_g_1 = p0_g.Places.length) (p1_t : GTimetable) (A_p1_t_1 : Option Addr) (n_p1_t_1 c_p1_t_1 : Nat) (hn_p1_t_1 : n_p1_t_1 = p1_t.Starts.length) (p2_by : Int) (r : GTimetable × Int) (W : World) (hm : spec_ShiftTimetable F p0_g p1_t p2_by = some r) (h_p0_g_1 : Rd W A_p0_g_1 ((recs GPlace.cells) p0_g.Places)) (h_p1_t_1 : Rd W A_p1_t_1 (ints p1_t.Starts)) :
    Calls Try.prog 54 [.agg #[.int .i64 p0_g.Events, .slice A_p0_g_1 n_p0_g_1 c_p0_g_1], .agg #[.int .i64 p1_t.Period, .slice A_p1_t_1 n_p1_t_1 c_p1_t_1], .int .i64 p2_by].toArray W fun e w' => ∃ v, e = .returned v ∧ ∃ A77, ∃ n78, ∃ c79, v = .tuple #[.agg #[.int .i64 r.1.Period, .slice A77 n78 c79], .int .i64 r.2] ∧ n78 = r.1.Starts.length ∧ St [] W w' [.row A77 n78 c79 2 1 (ints r.1.Starts)] := by
  subst hn_p0_g_1
  subst hn_p1_t_1
  unfold spec_ShiftTimetable at hm
  refine Calls.enter (N := 37) Try.func54 rfl rfl rfl (fun a hf => ?_)
  have hs := St.start W
  obtain ⟨w, hw_⟩ : ∃ w, w = W := ⟨W, rfl⟩
  clear hw_ w
  refine wpL_seq ?_
  refine wpL_region ?_
  refine sBox hf hs rfl rfl rfl rfl rfl (cs := [.int .i64 p0_g.Events, .slice A_p0_g_1 p0_g.Places.length c_p0_g_1]) rfl ?_; clear hf hs; intro a w b1 hs hf
  have hs : St [] W w [.blk b1 34 [.int .i64 p0_g.Events, .slice A_p0_g_1 p0_g.Places.length c_p0_g_1]] := hs
  refine sBox hf hs rfl rfl rfl rfl rfl (cs := [.int .i64 p1_t.Period, .slice A_p1_t_1 p1_t.Starts.length c_p1_t_1]) rfl ?_; clear hf hs; intro a w b2 hs hf
  have hs : St [] W w [.blk b1 34 [.int .i64 p0_g.Events, .slice A_p0_g_1 p0_g.Places.length c_p0_g_1], .blk b2 36 [.int .i64 p1_t.Period, .slice A_p1_t_1 p1_t.Starts.length c_p1_t_1]] := hs
  refine sAlloc hf hs rfl rfl rfl rfl ti36 ?_; clear hf hs; intro a w b3 hs hf
  have hs : St [] W w [.blk b1 34 [.int .i64 p0_g.Events, .slice A_p0_g_1 p0_g.Places.length c_p0_g_1], .blk b2 36 [.int .i64 p1_t.Period, .slice A_p1_t_1 p1_t.Starts.length c_p1_t_1], .blk b3 36 [.int .i64 0, .slice none 0 0]] := hs
  refine sY hf hs rfl rfl rfl (Y_assign rfl rfl) ?_; clear hf; intro a hf
  refine wpO_nil ?_
  refine wpL_seq ?_
  refine wpL_region ?_
  refine sY hf hs rfl rfl rfl (Y_load_blkS rfl rfl (i := 0) rfl ag34 ti34 rfl) ?_; clear hf; intro a hf
  refine sY hf hs rfl rfl rfl (Y_load_blkS rfl rfl (i := 1) rfl ag36 ti36 rfl) ?_; clear hf; intro a hf
  obtain ⟨r4, hc5, hm⟩ := bind_some hm
  refine sCall hf rfl rfl rfl rfl (cap := []) rfl rfl en91 (spec_l20Code_ok F p0_g A_p0_g_1 p0_g.Places.length c_p0_g_1 rfl p1_t A_p1_t_1 p1_t.Starts.length c_p1_t_1 rfl _ _ hc5 (h_p0_g_1.at hs) (h_p1_t_1.at hs)) ?_; clear hf
  rintro _ w ⟨rfl, hs1⟩ a hf
  have hs : St [] W w [.blk b1 34 [.int .i64 p0_g.Events, .slice A_p0_g_1 p0_g.Places.length c_p0_g_1], .blk b2 36 [.int .i64 p1_t.Period, .slice A_p1_t_1 p1_t.Starts.length c_p1_t_1], .blk b3 36 [.int .i64 0, .slice none 0 0]] := hs.ext hs1.below
  clear hs1
  refine sY hf hs rfl rfl rfl (Y_assign rfl rfl) ?_; clear hf; intro a hf
  refine wpO_nil ?_
  refine wpL_seq ?_
  refine wpL_seq ?_
  obtain ⟨r10, hj11, hm⟩ := bind_some hm
  refine wpL_cut (fun a w => ∃ b9 : Bool, b9 = r10 ∧ Fr a 37 [(2, .int .i64 p2_by), (3, .pointer (some ⟨b1, 0, none⟩)), (4, .pointer (some ⟨b2, 0, none⟩)), (6, .pointer (some ⟨b3, 0, none⟩)), (8, .int .i64 r4), (19, .bool b9)] ∧ St [] W w [.blk b1 34 [.int .i64 p0_g.Events, .slice A_p0_g_1 p0_g.Places.length c_p0_g_1], .blk b2 36 [.int .i64 p1_t.Period, .slice A_p1_t_1 p1_t.Starts.length c_p1_t_1], .blk b3 36 [.int .i64 0, .slice none 0 0]]) ?_ ?_
  · refine wpL_region ?_
    refine sY hf hs rfl rfl rfl (Y_move rfl rfl) ?_; clear hf; intro a hf
    refine sY hf hs rfl rfl rfl (Y_eql rfl rfl rfl) ?_; clear hf; intro a hf
    refine sY hf hs rfl rfl rfl (Y_move rfl rfl) ?_; clear hf; intro a hf
    refine bsplit (r4 == 0) (fun hb12 => ?_) (fun hb12 => ?_)
    · have hj11 := bif_t hj11 hb12
      refine sYg hf hs rfl rfl rfl (congrArg (fun b => some (Value.bool b)) hb12) rfl rfl rfl (Y_move rfl rfl) ?_; clear hf; intro a hf
      obtain ⟨r13, hc14, hj11⟩ := bind_some hj11
      refine sCallg hf rfl rfl rfl (congrArg (fun b => some (Value.bool b)) hb12) rfl rfl rfl rfl (cap := []) rfl rfl en92 (spec_l01Finite_ok F p2_by _ _ hc14) ?_; clear hf
      rintro _ w ⟨rfl, hs1⟩ a hf
      have hs : St [] W w [.blk b1 34 [.int .i64 p0_g.Events, .slice A_p0_g_1 p0_g.Places.length c_p0_g_1], .blk b2 36 [.int .i64 p1_t.Period, .slice A_p1_t_1 p1_t.Starts.length c_p1_t_1], .blk b3 36 [.int .i64 0, .slice none 0 0]] := hs.ext hs1.below
      clear hs1
      refine sYg hf hs rfl rfl rfl (congrArg (fun b => some (Value.bool b)) hb12) rfl rfl rfl (Y_not rfl rfl) ?_; clear hf; intro a hf
      refine sY hf hs rfl rfl rfl (Y_pickT rfl (congrArg (fun b => some (Value.bool b)) hb12) rfl) ?_; clear hf; intro a hf
      refine wpO_nil ?_
      refine wpL_nil (then_normal ?_)
      exact ⟨(!r13), Option.some.inj hj11, (Fr.pick (Fr.pick (Fr.pick (Fr.pick (Fr.pick (Fr.pick hf.none hf rfl) hf rfl) hf rfl) hf rfl) hf rfl) hf rfl), hs⟩
    · have hj11 := bif_f hj11 hb12
      refine sNo hf rfl rfl rfl (congrArg (fun b => some (Value.bool b)) hb12) rfl rfl rfl ?_; clear hf; intro a hf
      refine sNo hf rfl rfl rfl (congrArg (fun b => some (Value.bool b)) hb12) rfl rfl rfl ?_; clear hf; intro a hf
      refine sNo hf rfl rfl rfl (congrArg (fun b => some (Value.bool b)) hb12) rfl rfl rfl ?_; clear hf; intro a hf
      refine sY hf hs rfl rfl rfl (Y_pickF rfl (congrArg (fun b => some (Value.bool b)) hb12) rfl) ?_; clear hf; intro a hf
      refine wpO_nil ?_
      refine wpL_nil (then_normal ?_)
      exact ⟨false, Option.some.inj hj11, (Fr.pick (Fr.pick (Fr.pick (Fr.pick (Fr.pick (Fr.pick hf.none hf rfl) hf rfl) hf rfl) hf rfl) hf rfl) hf rfl), hs⟩
  · rintro a w ⟨b9, hr_, hf, hs⟩
    subst hr_
    try dsimp only at hm
    obtain ⟨r17, hj18, hm⟩ := bind_some hm
    refine wpL_cut (fun a w => ∃ x16 : Int, x16 = r17 ∧ Fr a 37 [(2, .int .i64 p2_by), (3, .pointer (some ⟨b1, 0, none⟩)), (4, .pointer (some ⟨b2, 0, none⟩)), (6, .pointer (some ⟨b3, 0, none⟩)), (8, .int .i64 x16)] ∧ St [] W w [.blk b1 34 [.int .i64 p0_g.Events, .slice A_p0_g_1 p0_g.Places.length c_p0_g_1], .blk b2 36 [.int .i64 p1_t.Period, .slice A_p1_t_1 p1_t.Starts.length c_p1_t_1], .blk b3 36 [.int .i64 0, .slice none 0 0]]) ?_ ?_
    · refine wpL_cond hf rfl (fun hb19 => ?_) (fun hb19 => ?_)
      · have hj18 := bif_t hj18 hb19
        refine wpL_region ?_
        refine sY hf hs rfl rfl rfl (Y_assign rfl rfl) ?_; clear hf; intro a hf
        refine wpO_nil ?_
        refine wpL_nil (then_normal ?_)
        exact ⟨2, Option.some.inj hj18, (Fr.pick (Fr.pick (Fr.pick (Fr.pick (Fr.pick hf.none hf rfl) hf rfl) hf rfl) hf rfl) hf rfl), hs⟩
      · have hj18 := bif_f hj18 hb19
        refine wpL_skip ?_
        refine wpL_nil (then_normal ?_)
        exact ⟨r4, Option.some.inj hj18, (Fr.pick (Fr.pick (Fr.pick (Fr.pick (Fr.pick hf.none hf rfl) hf rfl) hf rfl) hf rfl) hf rfl), hs⟩
    · rintro a w ⟨x16, hr_, hf, hs⟩
      subst hr_
      try dsimp only at hm
      refine wpL_seq ?_
      refine wpL_seq ?_
      refine wpL_region ?_
      refine sY hf hs rfl rfl rfl (Y_move rfl rfl) ?_; clear hf; intro a hf
      refine sY hf hs rfl rfl rfl (Y_neq rfl rfl rfl) ?_; clear hf; intro a hf
      refine wpO_nil ?_
      refine wpL_cond hf rfl (fun hb20 => ?_) (fun hb20 => ?_)
      · have hm := bif_t hm hb20
        refine wpL_seq ?_
        refine wpL_region ?_
        refine sY hf hs rfl rfl rfl (Y_build (parts := []) (vs := []) rfl rfl (run_build (parts := []) (cells := [.int .i64 0, .slice none 0 0]) (places := #[(0, 1), (1, 1)]) ti36 Try.underlying36 (fun w => by simp [go_sem]) rfl)) ?_; clear hf; intro a hf
        refine sY hf hs rfl rfl rfl (Y_move rfl rfl) ?_; clear hf; intro a hf
        refine sStore (i := 2) (us := [.int .i64 0, .slice none 0 0]) hf hs rfl rfl rfl rfl rfl rfl ti36 rfl rfl rfl (Nat.le_of_ble_eq_true rfl) rfl ?_; clear hs; intro w hs
        have hs : St [] W w [.blk b1 34 [.int .i64 p0_g.Events, .slice A_p0_g_1 p0_g.Places.length c_p0_g_1], .blk b2 36 [.int .i64 p1_t.Period, .slice A_p1_t_1 p1_t.Starts.length c_p1_t_1], .blk b3 36 [.int .i64 0, .slice none 0 0]] := hs
        refine sY hf hs rfl rfl rfl (Y_assign rfl rfl) ?_; clear hf; intro a hf
        refine wpO_nil ?_
        have hs : St [] W _ [.blk b1 34 [.int .i64 p0_g.Events, .slice A_p0_g_1 p0_g.Places.length c_p0_g_1], .blk b2 36 [.int .i64 p1_t.Period, .slice A_p1_t_1 p1_t.Starts.length c_p1_t_1], .blk b3 36 [.int .i64 0, .slice none 0 0], .row none 0 0 2 1 (ints ([] : List Int))] := hs.addNil 2 1
        obtain rfl := Option.some.inj hm
        refine wpL_ret (ret_cell_tmp rfl hf rfl rfl hs (i := 2) rfl ag36 ti36 rfl ?_)
        exact ⟨_, rfl, none, 0, 0, rfl, rfl, hs.sel [3] (by decide)⟩
      · have hm := bif_f hm hb20
        refine wpL_skip ?_
        refine wpL_seq ?_
        obtain ⟨r50, hj51, hm⟩ := bind_some hm
        refine wpL_cut (fun a w => ∃ x44 : Int, ∃ xs45 : List Int, ∃ b43, ∃ A46, ∃ n47, ∃ c48, (x44, xs45) = r50 ∧ n47 = xs45.length ∧ Fr a 37 [(3, .pointer (some ⟨b1, 0, none⟩)), (6, .pointer (some ⟨b3, 0, none⟩)), (9, .pointer (some ⟨b43, 0, none⟩))] ∧ St [] W w [.blk b1 34 [.int .i64 p0_g.Events, .slice A_p0_g_1 p0_g.Places.length c_p0_g_1], .blk b3 36 [.int .i64 0, .slice none 0 0], .blk b43 36 [.int .i64 x44, .slice A46 n47 c48], .row A46 n47 c48 2 1 (ints xs45)]) ?_ ?_
        · refine wpL_drawG [.blk b1 34 [.int .i64 p0_g.Events, .slice A_p0_g_1 p0_g.Places.length c_p0_g_1], .blk b2 36 [.int .i64 p1_t.Period, .slice A_p1_t_1 p1_t.Starts.length c_p1_t_1], .blk b3 36 [.int .i64 0, .slice none 0 0]] 8 (by kernel_rfl) hs ?_; clear hs; intro w hs
          have hs0 : St [] W w [.blk b1 34 [.int .i64 p0_g.Events, .slice A_p0_g_1 p0_g.Places.length c_p0_g_1], .blk b2 36 [.int .i64 p1_t.Period, .slice A_p1_t_1 p1_t.Starts.length c_p1_t_1], .blk b3 36 [.int .i64 0, .slice none 0 0]] := hs
          refine gY (i := 0) [] rfl (by kernel_rfl) (by kernel_rfl) hf hs0 rfl rfl rfl (Y_fieldAddr rfl rfl fo36_0) ?_; clear hf; intro a hf
          refine gY (i := 1) [] rfl (by kernel_rfl) (by kernel_rfl) hf hs0 rfl rfl rfl (Y_load_blk rfl rfl (i := 1) rfl rfl ag2) ?_; clear hf; intro a hf
          refine gY (i := 2) [] rfl (by kernel_rfl) (by kernel_rfl) hf hs0 rfl rfl rfl (Y_fieldAddr rfl rfl fo36_1) ?_; clear hf; intro a hf
          refine gY (i := 3) [] rfl (by kernel_rfl) (by kernel_rfl) hf hs0 rfl rfl rfl (Y_load_blk rfl rfl (i := 1) rfl rfl ag25) ?_; clear hf; intro a hf
          refine gY (i := 4) [] rfl (by kernel_rfl) (by kernel_rfl) hf hs0 rfl rfl rfl (Y_move rfl rfl) ?_; clear hf; intro a hf
          refine gRun2 (i := 5) (j := 7) rfl rfl (by kernel_rfl) ?_ ?_
          · obtain ⟨r59, hc60, hj51⟩ := bind_some hj51
            refine sCall hf rfl rfl rfl rfl (cap := []) rfl rfl en93 (spec_l07Shift_ok F p1_t.Starts A_p1_t_1 p1_t.Starts.length c_p1_t_1 rfl p2_by _ _ hc60 (h_p1_t_1.at hs)) ?_; clear hf
            rintro _ w ⟨A61, n62, c63, rfl, hn64, hs1⟩ a hf
            have hs : St [] W w [.blk b1 34 [.int .i64 p0_g.Events, .slice A_p0_g_1 p0_g.Places.length c_p0_g_1], .blk b2 36 [.int .i64 p1_t.Period, .slice A_p1_t_1 p1_t.Starts.length c_p1_t_1], .blk b3 36 [.int .i64 0, .slice none 0 0], .row A61 n62 c63 2 1 (ints r59)] := hs.join hs1
            clear hs1
            have hs0 : St [] W w [.blk b1 34 [.int .i64 p0_g.Events, .slice A_p0_g_1 p0_g.Places.length c_p0_g_1], .blk b2 36 [.int .i64 p1_t.Period, .slice A_p1_t_1 p1_t.Starts.length c_p1_t_1], .blk b3 36 [.int .i64 0, .slice none 0 0]] := hs.sel [0, 1, 2] (by decide)
            refine wpO_nil ⟨Or.inr hs0, ?_⟩
            refine gY (i := 6) [] rfl (by kernel_rfl) (by kernel_rfl) hf hs0 rfl rfl rfl (Y_build (parts := [(0, .tmp 25), (1, .tmp 29)]) (vs := [.int .i64 p1_t.Period, .slice A61 n62 c63]) rfl rfl (run_build (parts := [(0, .int .i64 p1_t.Period), (1, .slice A61 n62 c63)]) (cells := [.int .i64 p1_t.Period, .slice A61 n62 c63]) (places := #[(0, 1), (1, 1)]) ti36 Try.underlying36 (fun w => by simp [go_sem]) rfl)) ?_; clear hf; intro a hf
            refine gRun (i := 7) rfl (by kernel_rfl) ?_
            refine sAlloc hf hs rfl rfl rfl rfl ti36 ?_; clear hf hs; intro a w b65 hs hf
            have hs : St [] W w [.blk b1 34 [.int .i64 p0_g.Events, .slice A_p0_g_1 p0_g.Places.length c_p0_g_1], .blk b2 36 [.int .i64 p1_t.Period, .slice A_p1_t_1 p1_t.Starts.length c_p1_t_1], .blk b3 36 [.int .i64 0, .slice none 0 0], .row A61 n62 c63 2 1 (ints r59), .blk b65 36 [.int .i64 0, .slice none 0 0]] := hs
            have hs0 : St [] W w [.blk b1 34 [.int .i64 p0_g.Events, .slice A_p0_g_1 p0_g.Places.length c_p0_g_1], .blk b2 36 [.int .i64 p1_t.Period, .slice A_p1_t_1 p1_t.Starts.length c_p1_t_1], .blk b3 36 [.int .i64 0, .slice none 0 0]] := hs.sel [0, 1, 2] (by decide)
            refine wpO_nil ⟨Or.inr hs0, ?_⟩
            refine gRun (i := 8) rfl (by kernel_rfl) ?_
            refine sStore (i := 4) (us := [.int .i64 p1_t.Period, .slice A61 n62 c63]) hf hs rfl rfl rfl rfl rfl rfl ti36 rfl rfl rfl (Nat.le_of_ble_eq_true rfl) rfl ?_; clear hs; intro w hs
            have hs : St [] W w [.blk b1 34 [.int .i64 p0_g.Events, .slice A_p0_g_1 p0_g.Places.length c_p0_g_1], .blk b2 36 [.int .i64 p1_t.Period, .slice A_p1_t_1 p1_t.Starts.length c_p1_t_1], .blk b3 36 [.int .i64 0, .slice none 0 0], .row A61 n62 c63 2 1 (ints r59), .blk b65 36 [.int .i64 p1_t.Period, .slice A61 n62 c63]] := hs
            refine wpO_nil ⟨Or.inl rfl, ?_⟩
            refine gDone (by kernel_rfl) ?_
            clear hs0
            refine wpL_nil (then_normal ?_)
            exact ⟨p1_t.Period, r59, b65, A61, n62, c63, Option.some.inj hj51, hn64, (Fr.pick (Fr.pick (Fr.pick hf.none hf rfl) hf rfl) hf rfl), hs.sel [0, 2, 4, 3] (by decide)⟩
          · refine sAlloc hf hs rfl rfl rfl rfl ti36 ?_; clear hf hs; intro a w b66 hs hf
            have hs : St [] W w [.blk b1 34 [.int .i64 p0_g.Events, .slice A_p0_g_1 p0_g.Places.length c_p0_g_1], .blk b2 36 [.int .i64 p1_t.Period, .slice A_p1_t_1 p1_t.Starts.length c_p1_t_1], .blk b3 36 [.int .i64 0, .slice none 0 0], .blk b66 36 [.int .i64 0, .slice none 0 0]] := hs
            have hs0 : St [] W w [.blk b1 34 [.int .i64 p0_g.Events, .slice A_p0_g_1 p0_g.Places.length c_p0_g_1], .blk b2 36 [.int .i64 p1_t.Period, .slice A_p1_t_1 p1_t.Starts.length c_p1_t_1], .blk b3 36 [.int .i64 0, .slice none 0 0]] := hs.sel [0, 1, 2] (by decide)
            refine wpO_nil ⟨Or.inr hs0, ?_⟩
            refine gRun (i := 5) rfl (by kernel_rfl) ?_
            obtain ⟨r67, hc68, hj51⟩ := bind_some hj51
            refine sCall hf rfl rfl rfl rfl (cap := []) rfl rfl en93 (spec_l07Shift_ok F p1_t.Starts A_p1_t_1 p1_t.Starts.length c_p1_t_1 rfl p2_by _ _ hc68 (h_p1_t_1.at hs)) ?_; clear hf
            rintro _ w ⟨A69, n70, c71, rfl, hn72, hs1⟩ a hf
            have hs : St [] W w [.blk b1 34 [.int .i64 p0_g.Events, .slice A_p0_g_1 p0_g.Places.length c_p0_g_1], .blk b2 36 [.int .i64 p1_t.Period, .slice A_p1_t_1 p1_t.Starts.length c_p1_t_1], .blk b3 36 [.int .i64 0, .slice none 0 0], .blk b66 36 [.int .i64 0, .slice none 0 0], .row A69 n70 c71 2 1 (ints r67)] := hs.join hs1
            clear hs1
            have hs0 : St [] W w [.blk b1 34 [.int .i64 p0_g.Events, .slice A_p0_g_1 p0_g.Places.length c_p0_g_1], .blk b2 36 [.int .i64 p1_t.Period, .slice A_p1_t_1 p1_t.Starts.length c_p1_t_1], .blk b3 36 [.int .i64 0, .slice none 0 0]] := hs.sel [0, 1, 2] (by decide)
            refine wpO_nil ⟨Or.inr hs0, ?_⟩
            refine gY (i := 6) [] rfl (by kernel_rfl) (by kernel_rfl) hf hs0 rfl rfl rfl (Y_build (parts := [(0, .tmp 25), (1, .tmp 29)]) (vs := [.int .i64 p1_t.Period, .slice A69 n70 c71]) rfl rfl (run_build (parts := [(0, .int .i64 p1_t.Period), (1, .slice A69 n70 c71)]) (cells := [.int .i64 p1_t.Period, .slice A69 n70 c71]) (places := #[(0, 1), (1, 1)]) ti36 Try.underlying36 (fun w => by simp [go_sem]) rfl)) ?_; clear hf; intro a hf
            refine gRun (i := 8) rfl (by kernel_rfl) ?_
            refine sStore (i := 3) (us := [.int .i64 p1_t.Period, .slice A69 n70 c71]) hf hs rfl rfl rfl rfl rfl rfl ti36 rfl rfl rfl (Nat.le_of_ble_eq_true rfl) rfl ?_; clear hs; intro w hs
            have hs : St [] W w [.blk b1 34 [.int .i64 p0_g.Events, .slice A_p0_g_1 p0_g.Places.length c_p0_g_1], .blk b2 36 [.int .i64 p1_t.Period, .slice A_p1_t_1 p1_t.Starts.length c_p1_t_1], .blk b3 36 [.int .i64 0, .slice none 0 0], .blk b66 36 [.int .i64 p1_t.Period, .slice A69 n70 c71], .row A69 n70 c71 2 1 (ints r67)] := hs
            refine wpO_nil ⟨Or.inl rfl, ?_⟩
            refine gDone (by kernel_rfl) ?_
            clear hs0
            refine wpL_nil (then_normal ?_)
            exact ⟨p1_t.Period, r67, b66, A69, n70, c71, Option.some.inj hj51, hn72, (Fr.pick (Fr.pick (Fr.pick hf.none hf rfl) hf rfl) hf rfl), hs.sel [0, 2, 3, 4] (by decide)⟩
        · rintro a w ⟨x44, xs45, b43, A46, n47, c48, hr_, hn49, hf, hs⟩
          subst hr_
          try dsimp only at hm
          refine wpL_seq ?_
          refine wpL_seq ?_
          refine wpL_region ?_
          refine sY hf hs rfl rfl rfl (Y_load_blkS rfl rfl (i := 0) rfl ag34 ti34 rfl) ?_; clear hf; intro a hf
          refine sY hf hs rfl rfl rfl (Y_load_blkS rfl rfl (i := 2) rfl ag36 ti36 rfl) ?_; clear hf; intro a hf
          obtain ⟨r73, hc74, hm⟩ := bind_some hm
          refine sCall hf rfl rfl rfl rfl (cap := []) rfl rfl en94 (spec_IsTimetable_ok F p0_g A_p0_g_1 p0_g.Places.length c_p0_g_1 rfl (GTimetable.mk x44 xs45) A46 n47 c48 hn49 _ _ hc74 (h_p0_g_1.at hs) (hs.rd (i := 3) rfl)) ?_; clear hf
          rintro _ w ⟨rfl, hs1⟩ a hf
          have hs : St [] W w [.blk b1 34 [.int .i64 p0_g.Events, .slice A_p0_g_1 p0_g.Places.length c_p0_g_1], .blk b3 36 [.int .i64 0, .slice none 0 0], .blk b43 36 [.int .i64 x44, .slice A46 n47 c48], .row A46 n47 c48 2 1 (ints xs45)] := hs.ext hs1.below
          clear hs1
          refine sY hf hs rfl rfl rfl (Y_not rfl rfl) ?_; clear hf; intro a hf
          refine wpO_nil ?_
          refine wpL_cond hf rfl (fun hb75 => ?_) (fun hb75 => ?_)
          · have hm := bif_t hm hb75
            refine wpL_seq ?_
            refine wpL_region ?_
            refine sY hf hs rfl rfl rfl (Y_build (parts := []) (vs := []) rfl rfl (run_build (parts := []) (cells := [.int .i64 0, .slice none 0 0]) (places := #[(0, 1), (1, 1)]) ti36 Try.underlying36 (fun w => by simp [go_sem]) rfl)) ?_; clear hf; intro a hf
            refine sStore (i := 1) (us := [.int .i64 0, .slice none 0 0]) hf hs rfl rfl rfl rfl rfl rfl ti36 rfl rfl rfl (Nat.le_of_ble_eq_true rfl) rfl ?_; clear hs; intro w hs
            have hs : St [] W w [.blk b1 34 [.int .i64 p0_g.Events, .slice A_p0_g_1 p0_g.Places.length c_p0_g_1], .blk b3 36 [.int .i64 0, .slice none 0 0], .blk b43 36 [.int .i64 x44, .slice A46 n47 c48], .row A46 n47 c48 2 1 (ints xs45)] := hs
            refine sY hf hs rfl rfl rfl (Y_assign rfl rfl) ?_; clear hf; intro a hf
            refine wpO_nil ?_
            have hs : St [] W _ [.blk b1 34 [.int .i64 p0_g.Events, .slice A_p0_g_1 p0_g.Places.length c_p0_g_1], .blk b3 36 [.int .i64 0, .slice none 0 0], .blk b43 36 [.int .i64 x44, .slice A46 n47 c48], .row A46 n47 c48 2 1 (ints xs45), .row none 0 0 2 1 (ints ([] : List Int))] := hs.addNil 2 1
            obtain rfl := Option.some.inj hm
            refine wpL_ret (ret_cell_tmp rfl hf rfl rfl hs (i := 1) rfl ag36 ti36 rfl ?_)
            exact ⟨_, rfl, none, 0, 0, rfl, rfl, hs.sel [4] (by decide)⟩
          · have hm := bif_f hm hb75
            refine wpL_skip ?_
            refine wpL_seq ?_
            refine wpL_region ?_
            refine sY hf hs rfl rfl rfl (Y_load_blkS rfl rfl (i := 2) rfl ag36 ti36 rfl) ?_; clear hf; intro a hf
            refine sStore (i := 1) (us := [.int .i64 x44, .slice A46 n47 c48]) hf hs rfl rfl rfl rfl rfl rfl ti36 rfl rfl rfl (Nat.le_of_ble_eq_true rfl) rfl ?_; clear hs; intro w hs
            have hs : St [] W w [.blk b1 34 [.int .i64 p0_g.Events, .slice A_p0_g_1 p0_g.Places.length c_p0_g_1], .blk b3 36 [.int .i64 x44, .slice A46 n47 c48], .blk b43 36 [.int .i64 x44, .slice A46 n47 c48], .row A46 n47 c48 2 1 (ints xs45)] := hs
            refine sY hf hs rfl rfl rfl (Y_assign rfl rfl) ?_; clear hf; intro a hf
            refine wpO_nil ?_
            obtain rfl := Option.some.inj hm
            refine wpL_ret (ret_cell_tmp rfl hf rfl rfl hs (i := 1) rfl ag36 ti36 rfl ?_)
            exact ⟨_, rfl, A46, n47, c48, rfl, hn49, hs.sel [3] (by decide)⟩

set_option maxRecDepth 100000 in
theorem impl_within_ok (F : Nat) (p0_n : Int) (p1_low : Int) (p2_high : Int) (r : Bool) (W : World) (hm : impl_within F p0_n p1_low p2_high = some r) :
    Calls Try.prog 65 [.int .i64 p0_n, .int .i64 p1_low, .int .i64 p2_high].toArray W fun e w' => ∃ v, e = .returned v ∧ v = .bool r ∧ St [] W w' [] := by
  unfold impl_within at hm
  refine Calls.enter (N := 15) Try.func65 rfl rfl rfl (fun a hf => ?_)
  have hs := St.start W
  obtain ⟨w, hw_⟩ : ∃ w, w = W := ⟨W, rfl⟩
  clear hw_ w
  refine wpL_seq ?_
  refine wpL_region ?_
  refine sY hf hs rfl rfl rfl (Y_assign rfl rfl) ?_; clear hf; intro a hf
  refine wpO_nil ?_
  refine wpL_seq ?_
  obtain ⟨r3, hj4, hm⟩ := bind_some hm
  refine wpL_cut (fun a w => ∃ b2 : Bool, b2 = r3 ∧ Fr a 15 [(6, .bool b2)] ∧ St [] W w []) ?_ ?_
  · refine wpL_region ?_
    refine sY hf hs rfl rfl rfl (Y_move rfl rfl) ?_; clear hf; intro a hf
    refine sY hf hs rfl rfl rfl (Y_move rfl rfl) ?_; clear hf; intro a hf
    refine sY hf hs rfl rfl rfl (Y_geq rfl rfl rfl) ?_; clear hf; intro a hf
    refine sY hf hs rfl rfl rfl (Y_move rfl rfl) ?_; clear hf; intro a hf
    refine bsplit (decide (p1_low ≤ p0_n)) (fun hb5 => ?_) (fun hb5 => ?_)
    · have hj4 := bif_t hj4 hb5
      refine sYg hf hs rfl rfl rfl (congrArg (fun b => some (Value.bool b)) hb5) rfl rfl rfl (Y_move rfl rfl) ?_; clear hf; intro a hf
      refine sYg hf hs rfl rfl rfl (congrArg (fun b => some (Value.bool b)) hb5) rfl rfl rfl (Y_move rfl rfl) ?_; clear hf; intro a hf
      refine sYg hf hs rfl rfl rfl (congrArg (fun b => some (Value.bool b)) hb5) rfl rfl rfl (Y_leq rfl rfl rfl) ?_; clear hf; intro a hf
      refine sY hf hs rfl rfl rfl (Y_pickT rfl (congrArg (fun b => some (Value.bool b)) hb5) rfl) ?_; clear hf; intro a hf
      refine sY hf hs rfl rfl rfl (Y_assign rfl rfl) ?_; clear hf; intro a hf
      refine wpO_nil ?_
      refine wpL_nil (then_normal ?_)
      exact ⟨(decide (p0_n ≤ p2_high)), Option.some.inj hj4, (Fr.pick hf.none hf rfl), hs⟩
    · have hj4 := bif_f hj4 hb5
      refine sNo hf rfl rfl rfl (congrArg (fun b => some (Value.bool b)) hb5) rfl rfl rfl ?_; clear hf; intro a hf
      refine sNo hf rfl rfl rfl (congrArg (fun b => some (Value.bool b)) hb5) rfl rfl rfl ?_; clear hf; intro a hf
      refine sNo hf rfl rfl rfl (congrArg (fun b => some (Value.bool b)) hb5) rfl rfl rfl ?_; clear hf; intro a hf
      refine sY hf hs rfl rfl rfl (Y_pickF rfl (congrArg (fun b => some (Value.bool b)) hb5) rfl) ?_; clear hf; intro a hf
      refine sY hf hs rfl rfl rfl (Y_assign rfl rfl) ?_; clear hf; intro a hf
      refine wpO_nil ?_
      refine wpL_nil (then_normal ?_)
      exact ⟨false, Option.some.inj hj4, (Fr.pick hf.none hf rfl), hs⟩
  · rintro a w ⟨b2, hr_, hf, hs⟩
    subst hr_
    try dsimp only at hm
    obtain rfl := Option.some.inj hm
    refine wpL_ret (ret_tmp rfl hf rfl ?_)
    exact ⟨_, rfl, rfl, hs⟩

set_option maxRecDepth 100000 in
theorem impl_isEvent_ok (F : Nat) (p0_g : GEventGraph) (A_p0_g_1 : Option Addr) (n_p0_g_1 c_p0_g_1 : Nat) (hn_p0_g_1 : n_p0_g_1 = p0_g.Places.length) (p1_event : Int) (r : Bool) (W : World) (hm : impl_isEvent F p0_g p1_event = some r) (_h_p0_g_1 : Rd W A_p0_g_1 ((recs GPlace.cells) p0_g.Places)) :
    Calls Try.prog 133 [.agg #[.int .i64 p0_g.Events, .slice A_p0_g_1 n_p0_g_1 c_p0_g_1], .int .i64 p1_event].toArray W fun e w' => ∃ v, e = .returned v ∧ v = .bool r ∧ St [] W w' [] := by
  subst hn_p0_g_1
  unfold impl_isEvent at hm
  refine Calls.enter (N := 10) Try.func133 rfl rfl rfl (fun a hf => ?_)
  have hs := St.start W
  obtain ⟨w, hw_⟩ : ∃ w, w = W := ⟨W, rfl⟩
  clear hw_ w
  refine wpL_seq ?_
  refine wpL_region ?_
  refine sBox hf hs rfl rfl rfl rfl rfl (cs := [.int .i64 p0_g.Events, .slice A_p0_g_1 p0_g.Places.length c_p0_g_1]) rfl ?_; clear hf hs; intro a w b1 hs hf
  have hs : St [] W w [.blk b1 34 [.int .i64 p0_g.Events, .slice A_p0_g_1 p0_g.Places.length c_p0_g_1]] := hs
  refine sY hf hs rfl rfl rfl (Y_assign rfl rfl) ?_; clear hf; intro a hf
  refine wpO_nil ?_
  refine wpL_seq ?_
  refine wpL_region ?_
  refine sY hf hs rfl rfl rfl (Y_move rfl rfl) ?_; clear hf; intro a hf
  refine sY hf hs rfl rfl rfl (Y_fieldAddr rfl rfl fo34_0) ?_; clear hf; intro a hf
  refine sY hf hs rfl rfl rfl (Y_load_blk rfl rfl (i := 0) rfl rfl ag2) ?_; clear hf; intro a hf
  refine sY hf hs rfl rfl rfl (Y_sub rfl rfl rfl) ?_; clear hf; intro a hf
  obtain ⟨r2, hc3, hm⟩ := bind_some hm
  refine sCall hf rfl rfl rfl rfl (cap := []) rfl rfl en65 (impl_within_ok F p1_event 0 (IntKind.i64.wrap (p0_g.Events - 1)) _ _ hc3) ?_; clear hf
  rintro _ w ⟨rfl, hs1⟩ a hf
  have hs : St [] W w [.blk b1 34 [.int .i64 p0_g.Events, .slice A_p0_g_1 p0_g.Places.length c_p0_g_1]] := hs.ext hs1.below
  clear hs1
  refine sY hf hs rfl rfl rfl (Y_assign rfl rfl) ?_; clear hf; intro a hf
  refine wpO_nil ?_
  obtain rfl := Option.some.inj hm
  refine wpL_ret (ret_tmp rfl hf rfl ?_)
  exact ⟨_, rfl, rfl, hs.sel [] (by decide)⟩

set_option maxRecDepth 100000 in
theorem impl_isPlace_ok (F : Nat) (p0_g : GEventGraph) (A_p0_g_1 : Option Addr) (n_p0_g_1 c_p0_g_1 : Nat) (hn_p0_g_1 : n_p0_g_1 = p0_g.Places.length) (p1_p : GPlace) (r : Bool) (W : World) (hm : impl_isPlace F p0_g p1_p = some r) (h_p0_g_1 : Rd W A_p0_g_1 ((recs GPlace.cells) p0_g.Places)) :
    Calls Try.prog 120 [.agg #[.int .i64 p0_g.Events, .slice A_p0_g_1 n_p0_g_1 c_p0_g_1], .agg #[.int .i64 p1_p.From, .int .i64 p1_p.To, .int .i64 p1_p.Delay, .int .i64 p1_p.Tokens]].toArray W fun e w' => ∃ v, e = .returned v ∧ v = .bool r ∧ St [] W w' [] := by
  subst hn_p0_g_1
  unfold impl_isPlace at hm
  refine Calls.enter (N := 25) Try.func120 rfl rfl rfl (fun a hf => ?_)
  have hs := St.start W
  obtain ⟨w, hw_⟩ : ∃ w, w = W := ⟨W, rfl⟩
  clear hw_ w
  refine wpL_seq ?_
  refine wpL_region ?_
  refine sBox hf hs rfl rfl rfl rfl rfl (cs := [.int .i64 p0_g.Events, .slice A_p0_g_1 p0_g.Places.length c_p0_g_1]) rfl ?_; clear hf hs; intro a w b1 hs hf
  have hs : St [] W w [.blk b1 34 [.int .i64 p0_g.Events, .slice A_p0_g_1 p0_g.Places.length c_p0_g_1]] := hs
  refine sBox hf hs rfl rfl rfl rfl rfl (cs := [.int .i64 p1_p.From, .int .i64 p1_p.To, .int .i64 p1_p.Delay, .int .i64 p1_p.Tokens]) rfl ?_; clear hf hs; intro a w b2 hs hf
  have hs : St [] W w [.blk b1 34 [.int .i64 p0_g.Events, .slice A_p0_g_1 p0_g.Places.length c_p0_g_1], .blk b2 71 [.int .i64 p1_p.From, .int .i64 p1_p.To, .int .i64 p1_p.Delay, .int .i64 p1_p.Tokens]] := hs
  refine sY hf hs rfl rfl rfl (Y_assign rfl rfl) ?_; clear hf; intro a hf
  refine wpO_nil ?_
  refine wpL_seq ?_
  obtain ⟨r15, hj16, hm⟩ := bind_some hm
  refine wpL_cut (fun a w => ∃ b14 : Bool, b14 = r15 ∧ Fr a 25 [(4, .bool b14)] ∧ St [] W w []) ?_ ?_
  · refine wpL_region ?_
    refine sY hf hs rfl rfl rfl (Y_load_blkS rfl rfl (i := 0) rfl ag34 ti34 rfl) ?_; clear hf; intro a hf
    refine sY hf hs rfl rfl rfl (Y_fieldAddr rfl rfl fo71_0) ?_; clear hf; intro a hf
    refine sY hf hs rfl rfl rfl (Y_load_blk rfl rfl (i := 1) rfl rfl ag2) ?_; clear hf; intro a hf
    obtain ⟨r17, hc18, hj16⟩ := bind_some hj16
    refine sCall hf rfl rfl rfl rfl (cap := []) rfl rfl en133 (impl_isEvent_ok F p0_g A_p0_g_1 p0_g.Places.length c_p0_g_1 rfl p1_p.From _ _ hc18 (h_p0_g_1.at hs)) ?_; clear hf
    rintro _ w ⟨rfl, hs1⟩ a hf
    have hs : St [] W w [.blk b1 34 [.int .i64 p0_g.Events, .slice A_p0_g_1 p0_g.Places.length c_p0_g_1], .blk b2 71 [.int .i64 p1_p.From, .int .i64 p1_p.To, .int .i64 p1_p.Delay, .int .i64 p1_p.Tokens]] := hs.ext hs1.below
    clear hs1
    refine sY hf hs rfl rfl rfl (Y_move rfl rfl) ?_; clear hf; intro a hf
    refine bsplit r17 (fun hb19 => ?_) (fun hb19 => ?_)
    · have hj16 := bif_t hj16 hb19
      refine sYg hf hs rfl rfl rfl (congrArg (fun b => some (Value.bool b)) hb19) rfl rfl rfl (Y_load_blkS rfl rfl (i := 0) rfl ag34 ti34 rfl) ?_; clear hf; intro a hf
      refine sYg hf hs rfl rfl rfl (congrArg (fun b => some (Value.bool b)) hb19) rfl rfl rfl (Y_fieldAddr rfl rfl fo71_1) ?_; clear hf; intro a hf
      refine sYg hf hs rfl rfl rfl (congrArg (fun b => some (Value.bool b)) hb19) rfl rfl rfl (Y_load_blk rfl rfl (i := 1) rfl rfl ag2) ?_; clear hf; intro a hf
      obtain ⟨r20, hc21, hj16⟩ := bind_some hj16
      refine sCallg hf rfl rfl rfl (congrArg (fun b => some (Value.bool b)) hb19) rfl rfl rfl rfl (cap := []) rfl rfl en133 (impl_isEvent_ok F p0_g A_p0_g_1 p0_g.Places.length c_p0_g_1 rfl p1_p.To _ _ hc21 (h_p0_g_1.at hs)) ?_; clear hf
      rintro _ w ⟨rfl, hs1⟩ a hf
      have hs : St [] W w [.blk b1 34 [.int .i64 p0_g.Events, .slice A_p0_g_1 p0_g.Places.length c_p0_g_1], .blk b2 71 [.int .i64 p1_p.From, .int .i64 p1_p.To, .int .i64 p1_p.Delay, .int .i64 p1_p.Tokens]] := hs.ext hs1.below
      clear hs1
      refine sY hf hs rfl rfl rfl (Y_pickT rfl (congrArg (fun b => some (Value.bool b)) hb19) rfl) ?_; clear hf; intro a hf
      refine sY hf hs rfl rfl rfl (Y_move rfl rfl) ?_; clear hf; intro a hf
      refine bsplit r20 (fun hb22 => ?_) (fun hb22 => ?_)
      · have hj16 := bif_t hj16 hb22
        refine sYg hf hs rfl rfl rfl (congrArg (fun b => some (Value.bool b)) hb22) rfl rfl rfl (Y_fieldAddr rfl rfl fo71_2) ?_; clear hf; intro a hf
        refine sYg hf hs rfl rfl rfl (congrArg (fun b => some (Value.bool b)) hb22) rfl rfl rfl (Y_load_blk rfl rfl (i := 1) rfl rfl ag2) ?_; clear hf; intro a hf
        obtain ⟨r23, hc24, hj16⟩ := bind_some hj16
        refine sCallg hf rfl rfl rfl (congrArg (fun b => some (Value.bool b)) hb22) rfl rfl rfl rfl (cap := []) rfl rfl en65 (impl_within_ok F p1_p.Delay 0 1000 _ _ hc24) ?_; clear hf
        rintro _ w ⟨rfl, hs1⟩ a hf
        have hs : St [] W w [.blk b1 34 [.int .i64 p0_g.Events, .slice A_p0_g_1 p0_g.Places.length c_p0_g_1], .blk b2 71 [.int .i64 p1_p.From, .int .i64 p1_p.To, .int .i64 p1_p.Delay, .int .i64 p1_p.Tokens]] := hs.ext hs1.below
        clear hs1
        refine sY hf hs rfl rfl rfl (Y_pickT rfl (congrArg (fun b => some (Value.bool b)) hb22) rfl) ?_; clear hf; intro a hf
        refine sY hf hs rfl rfl rfl (Y_move rfl rfl) ?_; clear hf; intro a hf
        refine bsplit r23 (fun hb25 => ?_) (fun hb25 => ?_)
        · have hj16 := bif_t hj16 hb25
          refine sYg hf hs rfl rfl rfl (congrArg (fun b => some (Value.bool b)) hb25) rfl rfl rfl (Y_fieldAddr rfl rfl fo71_3) ?_; clear hf; intro a hf
          refine sYg hf hs rfl rfl rfl (congrArg (fun b => some (Value.bool b)) hb25) rfl rfl rfl (Y_load_blk rfl rfl (i := 1) rfl rfl ag2) ?_; clear hf; intro a hf
          obtain ⟨r26, hc27, hj16⟩ := bind_some hj16
          refine sCallg hf rfl rfl rfl (congrArg (fun b => some (Value.bool b)) hb25) rfl rfl rfl rfl (cap := []) rfl rfl en65 (impl_within_ok F p1_p.Tokens 0 5 _ _ hc27) ?_; clear hf
          rintro _ w ⟨rfl, hs1⟩ a hf
          have hs : St [] W w [.blk b1 34 [.int .i64 p0_g.Events, .slice A_p0_g_1 p0_g.Places.length c_p0_g_1], .blk b2 71 [.int .i64 p1_p.From, .int .i64 p1_p.To, .int .i64 p1_p.Delay, .int .i64 p1_p.Tokens]] := hs.ext hs1.below
          clear hs1
          refine sY hf hs rfl rfl rfl (Y_pickT rfl (congrArg (fun b => some (Value.bool b)) hb25) rfl) ?_; clear hf; intro a hf
          refine sY hf hs rfl rfl rfl (Y_assign rfl rfl) ?_; clear hf; intro a hf
          refine wpO_nil ?_
          refine wpL_nil (then_normal ?_)
          exact ⟨r26, Option.some.inj hj16, (Fr.pick hf.none hf rfl), hs.sel [] (by decide)⟩
        · have hj16 := bif_f hj16 hb25
          refine sNo hf rfl rfl rfl (congrArg (fun b => some (Value.bool b)) hb25) rfl rfl rfl ?_; clear hf; intro a hf
          refine sNo hf rfl rfl rfl (congrArg (fun b => some (Value.bool b)) hb25) rfl rfl rfl ?_; clear hf; intro a hf
          refine sNo hf rfl rfl rfl (congrArg (fun b => some (Value.bool b)) hb25) rfl rfl rfl ?_; clear hf; intro a hf
          refine sY hf hs rfl rfl rfl (Y_pickF rfl (congrArg (fun b => some (Value.bool b)) hb25) rfl) ?_; clear hf; intro a hf
          refine sY hf hs rfl rfl rfl (Y_assign rfl rfl) ?_; clear hf; intro a hf
          refine wpO_nil ?_
          refine wpL_nil (then_normal ?_)
          exact ⟨false, Option.some.inj hj16, (Fr.pick hf.none hf rfl), hs.sel [] (by decide)⟩
      · have hj16 := bif_f hj16 hb22
        refine sNo hf rfl rfl rfl (congrArg (fun b => some (Value.bool b)) hb22) rfl rfl rfl ?_; clear hf; intro a hf
        refine sNo hf rfl rfl rfl (congrArg (fun b => some (Value.bool b)) hb22) rfl rfl rfl ?_; clear hf; intro a hf
        refine sNo hf rfl rfl rfl (congrArg (fun b => some (Value.bool b)) hb22) rfl rfl rfl ?_; clear hf; intro a hf
        refine sY hf hs rfl rfl rfl (Y_pickF rfl (congrArg (fun b => some (Value.bool b)) hb22) rfl) ?_; clear hf; intro a hf
        refine sY hf hs rfl rfl rfl (Y_move rfl rfl) ?_; clear hf; intro a hf
        refine sNo hf rfl rfl rfl rfl rfl rfl rfl ?_; clear hf; intro a hf
        refine sNo hf rfl rfl rfl rfl rfl rfl rfl ?_; clear hf; intro a hf
        refine sNo hf rfl rfl rfl rfl rfl rfl rfl ?_; clear hf; intro a hf
        refine sY hf hs rfl rfl rfl (Y_pickF rfl rfl rfl) ?_; clear hf; intro a hf
        refine sY hf hs rfl rfl rfl (Y_assign rfl rfl) ?_; clear hf; intro a hf
        refine wpO_nil ?_
        refine wpL_nil (then_normal ?_)
        exact ⟨false, Option.some.inj hj16, (Fr.pick hf.none hf rfl), hs.sel [] (by decide)⟩
    · have hj16 := bif_f hj16 hb19
      refine sNo hf rfl rfl rfl (congrArg (fun b => some (Value.bool b)) hb19) rfl rfl rfl ?_; clear hf; intro a hf
      refine sNo hf rfl rfl rfl (congrArg (fun b => some (Value.bool b)) hb19) rfl rfl rfl ?_; clear hf; intro a hf
      refine sNo hf rfl rfl rfl (congrArg (fun b => some (Value.bool b)) hb19) rfl rfl rfl ?_; clear hf; intro a hf
      refine sNo hf rfl rfl rfl (congrArg (fun b => some (Value.bool b)) hb19) rfl rfl rfl ?_; clear hf; intro a hf
      refine sY hf hs rfl rfl rfl (Y_pickF rfl (congrArg (fun b => some (Value.bool b)) hb19) rfl) ?_; clear hf; intro a hf
      refine sY hf hs rfl rfl rfl (Y_move rfl rfl) ?_; clear hf; intro a hf
      refine sNo hf rfl rfl rfl rfl rfl rfl rfl ?_; clear hf; intro a hf
      refine sNo hf rfl rfl rfl rfl rfl rfl rfl ?_; clear hf; intro a hf
      refine sNo hf rfl rfl rfl rfl rfl rfl rfl ?_; clear hf; intro a hf
      refine sY hf hs rfl rfl rfl (Y_pickF rfl rfl rfl) ?_; clear hf; intro a hf
      refine sY hf hs rfl rfl rfl (Y_move rfl rfl) ?_; clear hf; intro a hf
      refine sNo hf rfl rfl rfl rfl rfl rfl rfl ?_; clear hf; intro a hf
      refine sNo hf rfl rfl rfl rfl rfl rfl rfl ?_; clear hf; intro a hf
      refine sNo hf rfl rfl rfl rfl rfl rfl rfl ?_; clear hf; intro a hf
      refine sY hf hs rfl rfl rfl (Y_pickF rfl rfl rfl) ?_; clear hf; intro a hf
      refine sY hf hs rfl rfl rfl (Y_assign rfl rfl) ?_; clear hf; intro a hf
      refine wpO_nil ?_
      refine wpL_nil (then_normal ?_)
      exact ⟨false, Option.some.inj hj16, (Fr.pick hf.none hf rfl), hs.sel [] (by decide)⟩
  · rintro a w ⟨b14, hr_, hf, hs⟩
    subst hr_
    try dsimp only at hm
    obtain rfl := Option.some.inj hm
    refine wpL_ret (ret_tmp rfl hf rfl ?_)
    exact ⟨_, rfl, rfl, hs⟩

set_option maxRecDepth 100000 in
theorem impl_IsEventGraph_c1_ok (F : Nat) (p0_p : GPlace) (b_z0 : Nat) (z0 : GEventGraph) (A_z0_1 : Option Addr) (n_z0_1 c_z0_1 : Nat) (hn_z0_1 : n_z0_1 = z0.Places.length) (r : Bool) (W : World) (hm : impl_IsEventGraph_c1 F p0_p z0 = some r) (h_z0_1 : Rd W A_z0_1 ((recs GPlace.cells) z0.Places)) (h_z0 : PB W b_z0 34 [.int .i64 z0.Events, .slice A_z0_1 n_z0_1 c_z0_1]) :
    Calls Try.prog 119 [.agg #[.int .i64 p0_p.From, .int .i64 p0_p.To, .int .i64 p0_p.Delay, .int .i64 p0_p.Tokens], .pointer (some ⟨b_z0, 0, none⟩)].toArray W fun e w' => ∃ v, e = .returned v ∧ v = .bool r ∧ St [] W w' [] := by
  subst hn_z0_1
  unfold impl_IsEventGraph_c1 at hm
  refine Calls.enter (N := 8) Try.func119 rfl rfl rfl (fun a hf => ?_)
  have hs := St.start W
  obtain ⟨w, hw_⟩ : ∃ w, w = W := ⟨W, rfl⟩
  clear hw_ w
  refine wpL_seq ?_
  refine wpL_region ?_
  refine sBox hf hs rfl rfl rfl rfl rfl (cs := [.int .i64 p0_p.From, .int .i64 p0_p.To, .int .i64 p0_p.Delay, .int .i64 p0_p.Tokens]) rfl ?_; clear hf hs; intro a w b1 hs hf
  have hs : St [] W w [.blk b1 71 [.int .i64 p0_p.From, .int .i64 p0_p.To, .int .i64 p0_p.Delay, .int .i64 p0_p.Tokens]] := hs
  refine sY hf hs rfl rfl rfl (Y_assign rfl rfl) ?_; clear hf; intro a hf
  refine wpO_nil ?_
  refine wpL_seq ?_
  refine wpL_region ?_
  refine sY hf hs rfl rfl rfl (Y_load_pbS rfl rfl h_z0 ag34 ti34 rfl) ?_; clear hf; intro a hf
  refine sY hf hs rfl rfl rfl (Y_load_blkS rfl rfl (i := 0) rfl ag71 ti71 rfl) ?_; clear hf; intro a hf
  obtain ⟨r2, hc3, hm⟩ := bind_some hm
  refine sCall hf rfl rfl rfl rfl (cap := []) rfl rfl en120 (impl_isPlace_ok F z0 A_z0_1 z0.Places.length c_z0_1 rfl p0_p _ _ hc3 (h_z0_1.at hs)) ?_; clear hf
  rintro _ w ⟨rfl, hs1⟩ a hf
  have hs : St [] W w [.blk b1 71 [.int .i64 p0_p.From, .int .i64 p0_p.To, .int .i64 p0_p.Delay, .int .i64 p0_p.Tokens]] := hs.ext hs1.below
  clear hs1
  refine sY hf hs rfl rfl rfl (Y_not rfl rfl) ?_; clear hf; intro a hf
  refine sY hf hs rfl rfl rfl (Y_assign rfl rfl) ?_; clear hf; intro a hf
  refine wpO_nil ?_
  obtain rfl := Option.some.inj hm
  refine wpL_ret (ret_tmp rfl hf rfl ?_)
  exact ⟨_, rfl, rfl, hs.sel [] (by decide)⟩

set_option maxRecDepth 100000 in
theorem slices_IndexFunc_Place_ok (F : Nat) (p0_s : List GPlace) (A_p0_s_1 : Option Addr) (n_p0_s_1 c_p0_s_1 : Nat) (hn_p0_s_1 : n_p0_s_1 = p0_s.length) (m_p1_f : GPlace → Option Bool) (f_p1_f : FuncId) (k_p1_f : List Value) (r : Int) (W : World) (hm : slices_IndexFunc_Place F p0_s m_p1_f = some r) (h_p0_s_1 : Rd W A_p0_s_1 ((recs GPlace.cells) p0_s)) (h_p1_f : ∀ (x0 : GPlace) (r : Bool) (w : World), m_p1_f x0 = some r → Below W.heap.size W w → Calls Try.prog f_p1_f (([.agg #[.int .i64 x0.From, .int .i64 x0.To, .int .i64 x0.Delay, .int .i64 x0.Tokens]] : List Value) ++ k_p1_f).toArray w fun e w' => ∃ v, e = .returned v ∧ v = .bool r ∧ St [] w w' []) (e_p1_f : En Try.prog f_p1_f) :
    Calls Try.prog 132 [.slice A_p0_s_1 n_p0_s_1 c_p0_s_1, .func (.func f_p1_f) #[] k_p1_f.toArray].toArray W fun e w' => ∃ v, e = .returned v ∧ v = .int .i64 r ∧ St [] W w' [] := by
  subst hn_p0_s_1
  unfold slices_IndexFunc_Place at hm
  refine Calls.enter (N := 19) Try.func132 rfl rfl rfl (fun a hf => ?_)
  have hs := St.start W
  obtain ⟨w, hw_⟩ : ∃ w, w = W := ⟨W, rfl⟩
  clear hw_ w
  refine wpL_seq ?_
  refine wpL_region ?_
  refine sY hf hs rfl rfl rfl (Y_assign rfl rfl) ?_; clear hf; intro a hf
  refine wpO_nil ?_
  refine wpL_seq ?_
  refine wpL_seq ?_
  refine wpL_region ?_
  refine sY hf hs rfl rfl rfl (Y_move rfl rfl) ?_; clear hf; intro a hf
  refine sY hf hs rfl rfl rfl (Y_lenH rfl rfl el32 rfl) ?_; clear hf; intro a hf
  refine sY hf hs rfl rfl rfl (Y_move rfl rfl) ?_; clear hf; intro a hf
  refine wpO_nil ?_
  obtain ⟨r21, hl22, hm⟩ := bind_some hm
  refine wpL_block (fun a w => Sum.inr () = r21 ∧ Fr a 19 [] ∧ St [] W w []) ?_ ?_
  · refine wpL_loop (fun n a w => ∃ x14 : Int, slices_IndexFunc_Place_L1 F p0_s m_p1_f n x14 = some r21 ∧ Fr a 19 [(0, .slice A_p0_s_1 p0_s.length c_p0_s_1), (1, .func (.func f_p1_f) #[] k_p1_f.toArray), (7, .int .i64 (p0_s.length : Int)), (8, .int .i64 x14)] ∧ St [] W w []) F ?_ ?_ ?_
    · exact ⟨0, hl22, (Fr.pick (Fr.pick (Fr.pick (Fr.pick hf.none hf rfl) hf rfl) hf rfl) hf rfl), hs⟩
    · rintro a w ⟨x14, h0_, -, -⟩; simp [slices_IndexFunc_Place_L1] at h0_
    · rintro n24 a w ⟨x14, hm23, hf, hs⟩
      rw [slices_IndexFunc_Place_L1] at hm23
      refine wpL_seq ?_
      refine wpL_region ?_
      refine sY hf hs rfl rfl rfl (Y_lss rfl rfl rfl) ?_; clear hf; intro a hf
      refine wpO_nil ?_
      refine wpL_seq ?_
      refine wpL_cond hf rfl (fun hb25 => ?_) (fun hb25 => ?_)
      · have hm23 := bif_t hm23 hb25
        refine wpL_skip ?_
        refine wpL_seq ?_
        refine wpL_block0 ?_
        refine wpL_seq ?_
        refine wpL_region ?_
        refine sY hf hs rfl rfl rfl (Y_move rfl rfl) ?_; clear hf; intro a hf
        refine sY hf hs rfl rfl rfl (Y_assign rfl rfl) ?_; clear hf; intro a hf
        refine wpO_nil ?_
        refine wpL_seq ?_
        refine wpL_region ?_
        refine sY hf hs rfl rfl rfl (Y_move rfl rfl) ?_; clear hf; intro a hf
        refine sY hf hs rfl rfl rfl (Y_move rfl rfl) ?_; clear hf; intro a hf
        refine sY hf hs rfl rfl rfl (Y_move rfl rfl) ?_; clear hf; intro a hf
        obtain ⟨q26, hi27, hm23⟩ := bind_some hm23
        obtain ⟨hi27a, hi27b, hi27q⟩ := idx_some hi27
        refine sY hf hs rfl rfl rfl (Y_index rfl rfl rfl el32 ti71 (Rd.isAt (h_p0_s_1.at hs) (recs_at (s := 4) GPlace.len hi27q (j := 0) rfl)) hi27a hi27b) ?_; clear hf; intro a hf
        refine sY hf hs rfl rfl rfl (Y_load_rdS rfl rfl (us := [.int .i64 q26.From, .int .i64 q26.To, .int .i64 q26.Delay, .int .i64 q26.Tokens]) (fun w hs => h_p0_s_1.at hs) (fun j u hj => recs_at (s := 4) GPlace.len hi27q hj) (Nat.succ_pos _) ag71 ti71 rfl) ?_; clear hf; intro a hf
        obtain ⟨r28, hc29, hm23⟩ := bind_some hm23
        refine sCall hf rfl rfl rfl rfl (cap := k_p1_f) rfl rfl e_p1_f (h_p1_f q26 _ _ hc29 hs.below) ?_; clear hf; rintro _ w ⟨rfl, hs1⟩ a hf; have hs := hs.ext hs1.below; clear hs1
        refine wpO_nil ?_
        refine wpL_cond hf rfl (fun hb30 => ?_) (fun hb30 => ?_)
        · have hm23 := bif_t hm23 hb30
          refine wpL_seq ?_
          refine wpL_region ?_
          refine sY hf hs rfl rfl rfl (Y_move rfl rfl) ?_; clear hf; intro a hf
          refine sY hf hs rfl rfl rfl (Y_assign rfl rfl) ?_; clear hf; intro a hf
          refine wpO_nil ?_
          obtain rfl := Option.some.inj hm23
          try dsimp only at hm
          obtain rfl := Option.some.inj hm
          refine wpL_ret (Qb_ret (Ql_ret (Qb_ret (ret_tmp rfl hf rfl ?_))))
          exact ⟨_, rfl, rfl, hs⟩
        · have hm23 := bif_f hm23 hb30
          refine wpL_skip ?_
          refine wpL_nil (Qb_normal ?_)
          refine wpL_region ?_
          refine sY hf hs rfl rfl rfl (Y_add rfl rfl rfl) ?_; clear hf; intro a hf
          refine sY hf hs rfl rfl rfl (Y_move rfl rfl) ?_; clear hf; intro a hf
          refine wpO_nil ?_
          refine wpL_nil (Ql_normal ?_)
          exact ⟨(IntKind.i64.wrap (x14 + 1)), hm23, (Fr.pick (Fr.pick (Fr.pick (Fr.pick hf.none hf rfl) hf rfl) hf rfl) hf rfl), hs⟩
      · have hm23 := bif_f hm23 hb25
        refine wpL_exit (Ql_exit (Qb_exit ?_))
        exact ⟨Option.some.inj hm23, hf.none, hs⟩
  · rintro a w ⟨hr_, hf, hs⟩
    subst hr_
    try dsimp only at hm
    refine wpL_seq ?_
    refine wpL_region ?_
    refine sY hf hs rfl rfl rfl (Y_assign rfl rfl) ?_; clear hf; intro a hf
    refine wpO_nil ?_
    obtain rfl := Option.some.inj hm
    refine wpL_ret (ret_tmp rfl hf rfl ?_)
    exact ⟨_, rfl, rfl, hs⟩

set_option maxRecDepth 100000 in
theorem slices_ContainsFunc_Place_ok (F : Nat) (p0_s : List GPlace) (A_p0_s_1 : Option Addr) (n_p0_s_1 c_p0_s_1 : Nat) (hn_p0_s_1 : n_p0_s_1 = p0_s.length) (m_p1_f : GPlace → Option Bool) (f_p1_f : FuncId) (k_p1_f : List Value) (r : Bool) (W : World) (hm : slices_ContainsFunc_Place F p0_s m_p1_f = some r) (h_p0_s_1 : Rd W A_p0_s_1 ((recs GPlace.cells) p0_s)) (h_p1_f : ∀ (x0 : GPlace) (r : Bool) (w : World), m_p1_f x0 = some r → Below W.heap.size W w → Calls Try.prog f_p1_f (([.agg #[.int .i64 x0.From, .int .i64 x0.To, .int .i64 x0.Delay, .int .i64 x0.Tokens]] : List Value) ++ k_p1_f).toArray w fun e w' => ∃ v, e = .returned v ∧ v = .bool r ∧ St [] w w' []) (e_p1_f : En Try.prog f_p1_f) :
    Calls Try.prog 118 [.slice A_p0_s_1 n_p0_s_1 c_p0_s_1, .func (.func f_p1_f) #[] k_p1_f.toArray].toArray W fun e w' => ∃ v, e = .returned v ∧ v = .bool r ∧ St [] W w' [] := by
  subst hn_p0_s_1
  unfold slices_ContainsFunc_Place at hm
  refine Calls.enter (N := 9) Try.func118 rfl rfl rfl (fun a hf => ?_)
  have hs := St.start W
  obtain ⟨w, hw_⟩ : ∃ w, w = W := ⟨W, rfl⟩
  clear hw_ w
  refine wpL_seq ?_
  refine wpL_region ?_
  refine sY hf hs rfl rfl rfl (Y_assign rfl rfl) ?_; clear hf; intro a hf
  refine wpO_nil ?_
  refine wpL_seq ?_
  refine wpL_region ?_
  refine sY hf hs rfl rfl rfl (Y_move rfl rfl) ?_; clear hf; intro a hf
  refine sY hf hs rfl rfl rfl (Y_move rfl rfl) ?_; clear hf; intro a hf
  obtain ⟨r1, hc2, hm⟩ := bind_some hm
  refine sCall hf rfl rfl rfl rfl (cap := []) rfl rfl en132 (slices_IndexFunc_Place_ok F p0_s A_p0_s_1 p0_s.length c_p0_s_1 rfl m_p1_f f_p1_f k_p1_f _ _ hc2 (h_p0_s_1.at hs) (fun x0 r w' hm_ hb => h_p1_f x0 r w' hm_ (hs.below.trans (hb.mono hs.below.size))) e_p1_f) ?_; clear hf
  rintro _ w ⟨rfl, hs1⟩ a hf
  have hs : St [] W w [] := hs.ext hs1.below
  clear hs1
  refine sY hf hs rfl rfl rfl (Y_geq rfl rfl rfl) ?_; clear hf; intro a hf
  refine sY hf hs rfl rfl rfl (Y_assign rfl rfl) ?_; clear hf; intro a hf
  refine wpO_nil ?_
  obtain rfl := Option.some.inj hm
  refine wpL_ret (ret_tmp rfl hf rfl ?_)
  exact ⟨_, rfl, rfl, hs⟩

set_option maxRecDepth 100000 in
theorem impl_IsEventGraph_ok (F : Nat) (p0_g : GEventGraph) (A_p0_g_1 : Option Addr) (n_p0_g_1 c_p0_g_1 : Nat) (hn_p0_g_1 : n_p0_g_1 = p0_g.Places.length) (r : Bool) (W : World) (hm : impl_IsEventGraph F p0_g = some r) (h_p0_g_1 : Rd W A_p0_g_1 ((recs GPlace.cells) p0_g.Places)) :
    Calls Try.prog 95 [.agg #[.int .i64 p0_g.Events, .slice A_p0_g_1 n_p0_g_1 c_p0_g_1]].toArray W fun e w' => ∃ v, e = .returned v ∧ v = .bool r ∧ St [] W w' [] := by
  subst hn_p0_g_1
  unfold impl_IsEventGraph at hm
  refine Calls.enter (N := 19) Try.func95 rfl rfl rfl (fun a hf => ?_)
  have hs := St.start W
  obtain ⟨w, hw_⟩ : ∃ w, w = W := ⟨W, rfl⟩
  clear hw_ w
  refine wpL_seq ?_
  refine wpL_region ?_
  refine sBox hf hs rfl rfl rfl rfl rfl (cs := [.int .i64 p0_g.Events, .slice A_p0_g_1 p0_g.Places.length c_p0_g_1]) rfl ?_; clear hf hs; intro a w b1 hs hf
  have hs : St [] W w [.blk b1 34 [.int .i64 p0_g.Events, .slice A_p0_g_1 p0_g.Places.length c_p0_g_1]] := hs
  refine sY hf hs rfl rfl rfl (Y_assign rfl rfl) ?_; clear hf; intro a hf
  refine wpO_nil ?_
  refine wpL_seq ?_
  obtain ⟨r9, hj10, hm⟩ := bind_some hm
  refine wpL_cut (fun a w => ∃ b8 : Bool, b8 = r9 ∧ Fr a 19 [(2, .bool b8)] ∧ St [] W w []) ?_ ?_
  · refine wpL_region ?_
    refine sY hf hs rfl rfl rfl (Y_fieldAddr rfl rfl fo34_0) ?_; clear hf; intro a hf
    refine sY hf hs rfl rfl rfl (Y_load_blk rfl rfl (i := 0) rfl rfl ag2) ?_; clear hf; intro a hf
    obtain ⟨r11, hc12, hj10⟩ := bind_some hj10
    refine sCall hf rfl rfl rfl rfl (cap := []) rfl rfl en65 (impl_within_ok F p0_g.Events 1 10 _ _ hc12) ?_; clear hf
    rintro _ w ⟨rfl, hs1⟩ a hf
    have hs : St [] W w [.blk b1 34 [.int .i64 p0_g.Events, .slice A_p0_g_1 p0_g.Places.length c_p0_g_1]] := hs.ext hs1.below
    clear hs1
    refine sY hf hs rfl rfl rfl (Y_move rfl rfl) ?_; clear hf; intro a hf
    refine bsplit r11 (fun hb13 => ?_) (fun hb13 => ?_)
    · have hj10 := bif_t hj10 hb13
      refine sYg hf hs rfl rfl rfl (congrArg (fun b => some (Value.bool b)) hb13) rfl rfl rfl (Y_fieldAddr rfl rfl fo34_1) ?_; clear hf; intro a hf
      refine sYg hf hs rfl rfl rfl (congrArg (fun b => some (Value.bool b)) hb13) rfl rfl rfl (Y_load_blk rfl rfl (i := 0) rfl rfl ag32) ?_; clear hf; intro a hf
      refine sYg hf hs rfl rfl rfl (congrArg (fun b => some (Value.bool b)) hb13) rfl rfl rfl (Y_lenH rfl rfl el32 rfl) ?_; clear hf; intro a hf
      refine sYg hf hs rfl rfl rfl (congrArg (fun b => some (Value.bool b)) hb13) rfl rfl rfl (Y_leq rfl rfl rfl) ?_; clear hf; intro a hf
      refine sY hf hs rfl rfl rfl (Y_pickT rfl (congrArg (fun b => some (Value.bool b)) hb13) rfl) ?_; clear hf; intro a hf
      refine sY hf hs rfl rfl rfl (Y_move rfl rfl) ?_; clear hf; intro a hf
      refine bsplit (decide ((p0_g.Places.length : Int) ≤ 30)) (fun hb14 => ?_) (fun hb14 => ?_)
      · have hj10 := bif_t hj10 hb14
        refine sYg hf hs rfl rfl rfl (congrArg (fun b => some (Value.bool b)) hb14) rfl rfl rfl (Y_fieldAddr rfl rfl fo34_1) ?_; clear hf; intro a hf
        refine sYg hf hs rfl rfl rfl (congrArg (fun b => some (Value.bool b)) hb14) rfl rfl rfl (Y_load_blk rfl rfl (i := 0) rfl rfl ag32) ?_; clear hf; intro a hf
        refine sYg hf hs rfl rfl rfl (congrArg (fun b => some (Value.bool b)) hb14) rfl rfl rfl (Y_makeFunc (us := []) (vs := [.pointer (some ⟨b1, 0, none⟩)]) rfl rfl rfl) ?_; clear hf; intro a hf
        obtain ⟨r15, hc16, hj10⟩ := bind_some hj10
        refine sCallg hf rfl rfl rfl (congrArg (fun b => some (Value.bool b)) hb14) rfl rfl rfl rfl (cap := []) rfl rfl en118 (slices_ContainsFunc_Place_ok F p0_g.Places A_p0_g_1 p0_g.Places.length c_p0_g_1 rfl (fun x0 => impl_IsEventGraph_c1 F x0 p0_g) 119 ([.pointer (some ⟨b1, 0, none⟩)]) _ _ hc16 (h_p0_g_1.at hs) (fun x0 r w' hm_ hb => impl_IsEventGraph_c1_ok F x0 b1 p0_g A_p0_g_1 p0_g.Places.length c_p0_g_1 rfl r w' hm_ ((h_p0_g_1.at hs).below hb (Nat.le_refl _)) ((hs.pb (i := 0) rfl).below hb (Nat.le_refl _))) en119) ?_; clear hf
        rintro _ w ⟨rfl, hs1⟩ a hf
        have hs : St [] W w [.blk b1 34 [.int .i64 p0_g.Events, .slice A_p0_g_1 p0_g.Places.length c_p0_g_1]] := hs.ext hs1.below
        clear hs1
        refine sYg hf hs rfl rfl rfl (congrArg (fun b => some (Value.bool b)) hb14) rfl rfl rfl (Y_not rfl rfl) ?_; clear hf; intro a hf
        refine sY hf hs rfl rfl rfl (Y_pickT rfl (congrArg (fun b => some (Value.bool b)) hb14) rfl) ?_; clear hf; intro a hf
        refine sY hf hs rfl rfl rfl (Y_assign rfl rfl) ?_; clear hf; intro a hf
        refine wpO_nil ?_
        refine wpL_nil (then_normal ?_)
        exact ⟨(!r15), Option.some.inj hj10, (Fr.pick hf.none hf rfl), hs.sel [] (by decide)⟩
      · have hj10 := bif_f hj10 hb14
        refine sNo hf rfl rfl rfl (congrArg (fun b => some (Value.bool b)) hb14) rfl rfl rfl ?_; clear hf; intro a hf
        refine sNo hf rfl rfl rfl (congrArg (fun b => some (Value.bool b)) hb14) rfl rfl rfl ?_; clear hf; intro a hf
        refine sNo hf rfl rfl rfl (congrArg (fun b => some (Value.bool b)) hb14) rfl rfl rfl ?_; clear hf; intro a hf
        refine sNo hf rfl rfl rfl (congrArg (fun b => some (Value.bool b)) hb14) rfl rfl rfl ?_; clear hf; intro a hf
        refine sNo hf rfl rfl rfl (congrArg (fun b => some (Value.bool b)) hb14) rfl rfl rfl ?_; clear hf; intro a hf
        refine sY hf hs rfl rfl rfl (Y_pickF rfl (congrArg (fun b => some (Value.bool b)) hb14) rfl) ?_; clear hf; intro a hf
        refine sY hf hs rfl rfl rfl (Y_assign rfl rfl) ?_; clear hf; intro a hf
        refine wpO_nil ?_
        refine wpL_nil (then_normal ?_)
        exact ⟨false, Option.some.inj hj10, (Fr.pick hf.none hf rfl), hs.sel [] (by decide)⟩
    · have hj10 := bif_f hj10 hb13
      refine sNo hf rfl rfl rfl (congrArg (fun b => some (Value.bool b)) hb13) rfl rfl rfl ?_; clear hf; intro a hf
      refine sNo hf rfl rfl rfl (congrArg (fun b => some (Value.bool b)) hb13) rfl rfl rfl ?_; clear hf; intro a hf
      refine sNo hf rfl rfl rfl (congrArg (fun b => some (Value.bool b)) hb13) rfl rfl rfl ?_; clear hf; intro a hf
      refine sNo hf rfl rfl rfl (congrArg (fun b => some (Value.bool b)) hb13) rfl rfl rfl ?_; clear hf; intro a hf
      refine sY hf hs rfl rfl rfl (Y_pickF rfl (congrArg (fun b => some (Value.bool b)) hb13) rfl) ?_; clear hf; intro a hf
      refine sY hf hs rfl rfl rfl (Y_move rfl rfl) ?_; clear hf; intro a hf
      refine sNo hf rfl rfl rfl rfl rfl rfl rfl ?_; clear hf; intro a hf
      refine sNo hf rfl rfl rfl rfl rfl rfl rfl ?_; clear hf; intro a hf
      refine sNo hf rfl rfl rfl rfl rfl rfl rfl ?_; clear hf; intro a hf
      refine sNo hf rfl rfl rfl rfl rfl rfl rfl ?_; clear hf; intro a hf
      refine sNo hf rfl rfl rfl rfl rfl rfl rfl ?_; clear hf; intro a hf
      refine sY hf hs rfl rfl rfl (Y_pickF rfl rfl rfl) ?_; clear hf; intro a hf
      refine sY hf hs rfl rfl rfl (Y_assign rfl rfl) ?_; clear hf; intro a hf
      refine wpO_nil ?_
      refine wpL_nil (then_normal ?_)
      exact ⟨false, Option.some.inj hj10, (Fr.pick hf.none hf rfl), hs.sel [] (by decide)⟩
  · rintro a w ⟨b8, hr_, hf, hs⟩
    subst hr_
    try dsimp only at hm
    obtain rfl := Option.some.inj hm
    refine wpL_ret (ret_tmp rfl hf rfl ?_)
    exact ⟨_, rfl, rfl, hs⟩

set_option maxRecDepth 100000 in
theorem impl_allWithin_ok (F : Nat) (p0_list : List Int) (A_p0_list_1 : Option Addr) (n_p0_list_1 c_p0_list_1 : Nat) (hn_p0_list_1 : n_p0_list_1 = p0_list.length) (p1_low : Int) (p2_high : Int) (r : Bool) (W : World) (hm : impl_allWithin F p0_list p1_low p2_high = some r) (h_p0_list_1 : Rd W A_p0_list_1 (ints p0_list)) :
    Calls Try.prog 103 [.slice A_p0_list_1 n_p0_list_1 c_p0_list_1, .int .i64 p1_low, .int .i64 p2_high].toArray W fun e w' => ∃ v, e = .returned v ∧ v = .bool r ∧ St [] W w' [] := by
  subst hn_p0_list_1
  unfold impl_allWithin at hm
  refine Calls.enter (N := 21) Try.func103 rfl rfl rfl (fun a hf => ?_)
  have hs := St.start W
  obtain ⟨w, hw_⟩ : ∃ w, w = W := ⟨W, rfl⟩
  clear hw_ w
  refine wpL_seq ?_
  refine wpL_region ?_
  refine sY hf hs rfl rfl rfl (Y_assign rfl rfl) ?_; clear hf; intro a hf
  refine wpO_nil ?_
  refine wpL_seq ?_
  refine wpL_seq ?_
  refine wpL_region ?_
  refine sY hf hs rfl rfl rfl (Y_move rfl rfl) ?_; clear hf; intro a hf
  refine sY hf hs rfl rfl rfl (Y_lenH rfl rfl el25 rfl) ?_; clear hf; intro a hf
  refine sY hf hs rfl rfl rfl (Y_move rfl rfl) ?_; clear hf; intro a hf
  refine wpO_nil ?_
  obtain ⟨r21, hl22, hm⟩ := bind_some hm
  refine wpL_block (fun a w => Sum.inr () = r21 ∧ Fr a 21 [] ∧ St [] W w []) ?_ ?_
  · refine wpL_loop (fun n a w => ∃ x14 : Int, impl_allWithin_L1 F p0_list p1_low p2_high n x14 = some r21 ∧ Fr a 21 [(1, .int .i64 p1_low), (2, .int .i64 p2_high), (9, .slice A_p0_list_1 p0_list.length c_p0_list_1), (10, .int .i64 (p0_list.length : Int)), (11, .int .i64 x14)] ∧ St [] W w []) F ?_ ?_ ?_
    · exact ⟨0, hl22, (Fr.pick (Fr.pick (Fr.pick (Fr.pick (Fr.pick hf.none hf rfl) hf rfl) hf rfl) hf rfl) hf rfl), hs⟩
    · rintro a w ⟨x14, h0_, -, -⟩; simp [impl_allWithin_L1] at h0_
    · rintro n24 a w ⟨x14, hm23, hf, hs⟩
      rw [impl_allWithin_L1] at hm23
      refine wpL_seq ?_
      refine wpL_region ?_
      refine sY hf hs rfl rfl rfl (Y_lss rfl rfl rfl) ?_; clear hf; intro a hf
      refine wpO_nil ?_
      refine wpL_seq ?_
      refine wpL_cond hf rfl (fun hb25 => ?_) (fun hb25 => ?_)
      · have hm23 := bif_t hm23 hb25
        refine wpL_skip ?_
        refine wpL_seq ?_
        refine wpL_block0 ?_
        refine wpL_seq ?_
        refine wpL_region ?_
        obtain ⟨q26, hi27, hm23⟩ := bind_some hm23
        obtain ⟨hi27a, hi27b, hi27q⟩ := idx_some hi27
        refine sY hf hs rfl rfl rfl (Y_index rfl rfl rfl el25 ti2 (Rd.isAt (h_p0_list_1.at hs) (at1 (ints_at hi27q))) hi27a hi27b) ?_; clear hf; intro a hf
        refine sY hf hs rfl rfl rfl (Y_load_rd rfl rfl (fun w hs => h_p0_list_1.at hs) (at1 (ints_at hi27q)) ag2) ?_; clear hf; intro a hf
        refine sY hf hs rfl rfl rfl (Y_assign rfl rfl) ?_; clear hf; intro a hf
        refine wpO_nil ?_
        refine wpL_seq ?_
        refine wpL_region ?_
        refine sY hf hs rfl rfl rfl (Y_move rfl rfl) ?_; clear hf; intro a hf
        refine sY hf hs rfl rfl rfl (Y_move rfl rfl) ?_; clear hf; intro a hf
        refine sY hf hs rfl rfl rfl (Y_move rfl rfl) ?_; clear hf; intro a hf
        obtain ⟨r28, hc29, hm23⟩ := bind_some hm23
        refine sCall hf rfl rfl rfl rfl (cap := []) rfl rfl en65 (impl_within_ok F q26 p1_low p2_high _ _ hc29) ?_; clear hf
        rintro _ w ⟨rfl, hs1⟩ a hf
        have hs : St [] W w [] := hs.ext hs1.below
        clear hs1
        refine sY hf hs rfl rfl rfl (Y_not rfl rfl) ?_; clear hf; intro a hf
        refine wpO_nil ?_
        refine wpL_cond hf rfl (fun hb30 => ?_) (fun hb30 => ?_)
        · have hm23 := bif_t hm23 hb30
          refine wpL_seq ?_
          refine wpL_region ?_
          refine sY hf hs rfl rfl rfl (Y_assign rfl rfl) ?_; clear hf; intro a hf
          refine wpO_nil ?_
          obtain rfl := Option.some.inj hm23
          try dsimp only at hm
          obtain rfl := Option.some.inj hm
          refine wpL_ret (Qb_ret (Ql_ret (Qb_ret (ret_tmp rfl hf rfl ?_))))
          exact ⟨_, rfl, rfl, hs⟩
        · have hm23 := bif_f hm23 hb30
          refine wpL_skip ?_
          refine wpL_nil (Qb_normal ?_)
          refine wpL_region ?_
          refine sY hf hs rfl rfl rfl (Y_add rfl rfl rfl) ?_; clear hf; intro a hf
          refine sY hf hs rfl rfl rfl (Y_move rfl rfl) ?_; clear hf; intro a hf
          refine wpO_nil ?_
          refine wpL_nil (Ql_normal ?_)
          exact ⟨(IntKind.i64.wrap (x14 + 1)), hm23, (Fr.pick (Fr.pick (Fr.pick (Fr.pick (Fr.pick hf.none hf rfl) hf rfl) hf rfl) hf rfl) hf rfl), hs⟩
      · have hm23 := bif_f hm23 hb25
        refine wpL_exit (Ql_exit (Qb_exit ?_))
        exact ⟨Option.some.inj hm23, hf.none, hs⟩
  · rintro a w ⟨hr_, hf, hs⟩
    subst hr_
    try dsimp only at hm
    refine wpL_seq ?_
    refine wpL_region ?_
    refine sY hf hs rfl rfl rfl (Y_assign rfl rfl) ?_; clear hf; intro a hf
    refine wpO_nil ?_
    obtain rfl := Option.some.inj hm
    refine wpL_ret (ret_tmp rfl hf rfl ?_)
    exact ⟨_, rfl, rfl, hs⟩

set_option maxRecDepth 100000 in
theorem impl_isTimetable_ok (F : Nat) (p0_g : GEventGraph) (A_p0_g_1 : Option Addr) (n_p0_g_1 c_p0_g_1 : Nat) (hn_p0_g_1 : n_p0_g_1 = p0_g.Places.length) (p1_t : GTimetable) (A_p1_t_1 : Option Addr) (n_p1_t_1 c_p1_t_1 : Nat) (hn_p1_t_1 : n_p1_t_1 = p1_t.Starts.length) (r : Bool) (W : World) (hm : impl_isTimetable F p0_g p1_t = some r) (_h_p0_g_1 : Rd W A_p0_g_1 ((recs GPlace.cells) p0_g.Places)) (h_p1_t_1 : Rd W A_p1_t_1 (ints p1_t.Starts)) :
    Calls Try.prog 96 [.agg #[.int .i64 p0_g.Events, .slice A_p0_g_1 n_p0_g_1 c_p0_g_1], .agg #[.int .i64 p1_t.Period, .slice A_p1_t_1 n_p1_t_1 c_p1_t_1]].toArray W fun e w' => ∃ v, e = .returned v ∧ v = .bool r ∧ St [] W w' [] := by
  subst hn_p0_g_1
  subst hn_p1_t_1
  unfold impl_isTimetable at hm
  refine Calls.enter (N := 21) Try.func96 rfl rfl rfl (fun a hf => ?_)
  have hs := St.start W
  obtain ⟨w, hw_⟩ : ∃ w, w = W := ⟨W, rfl⟩
  clear hw_ w
  refine wpL_seq ?_
  refine wpL_region ?_
  refine sBox hf hs rfl rfl rfl rfl rfl (cs := [.int .i64 p0_g.Events, .slice A_p0_g_1 p0_g.Places.length c_p0_g_1]) rfl ?_; clear hf hs; intro a w b1 hs hf
  have hs : St [] W w [.blk b1 34 [.int .i64 p0_g.Events, .slice A_p0_g_1 p0_g.Places.length c_p0_g_1]] := hs
  refine sBox hf hs rfl rfl rfl rfl rfl (cs := [.int .i64 p1_t.Period, .slice A_p1_t_1 p1_t.Starts.length c_p1_t_1]) rfl ?_; clear hf hs; intro a w b2 hs hf
  have hs : St [] W w [.blk b1 34 [.int .i64 p0_g.Events, .slice A_p0_g_1 p0_g.Places.length c_p0_g_1], .blk b2 36 [.int .i64 p1_t.Period, .slice A_p1_t_1 p1_t.Starts.length c_p1_t_1]] := hs
  refine sY hf hs rfl rfl rfl (Y_assign rfl rfl) ?_; clear hf; intro a hf
  refine wpO_nil ?_
  refine wpL_seq ?_
  obtain ⟨r10, hj11, hm⟩ := bind_some hm
  refine wpL_cut (fun a w => ∃ b9 : Bool, b9 = r10 ∧ Fr a 21 [(4, .bool b9)] ∧ St [] W w []) ?_ ?_
  · refine wpL_region ?_
    refine sY hf hs rfl rfl rfl (Y_fieldAddr rfl rfl fo36_0) ?_; clear hf; intro a hf
    refine sY hf hs rfl rfl rfl (Y_load_blk rfl rfl (i := 1) rfl rfl ag2) ?_; clear hf; intro a hf
    obtain ⟨r12, hc13, hj11⟩ := bind_some hj11
    refine sCall hf rfl rfl rfl rfl (cap := []) rfl rfl en65 (impl_within_ok F p1_t.Period 0 100000 _ _ hc13) ?_; clear hf
    rintro _ w ⟨rfl, hs1⟩ a hf
    have hs : St [] W w [.blk b1 34 [.int .i64 p0_g.Events, .slice A_p0_g_1 p0_g.Places.length c_p0_g_1], .blk b2 36 [.int .i64 p1_t.Period, .slice A_p1_t_1 p1_t.Starts.length c_p1_t_1]] := hs.ext hs1.below
    clear hs1
    refine sY hf hs rfl rfl rfl (Y_move rfl rfl) ?_; clear hf; intro a hf
    refine bsplit r12 (fun hb14 => ?_) (fun hb14 => ?_)
    · have hj11 := bif_t hj11 hb14
      refine sYg hf hs rfl rfl rfl (congrArg (fun b => some (Value.bool b)) hb14) rfl rfl rfl (Y_fieldAddr rfl rfl fo36_1) ?_; clear hf; intro a hf
      refine sYg hf hs rfl rfl rfl (congrArg (fun b => some (Value.bool b)) hb14) rfl rfl rfl (Y_load_blk rfl rfl (i := 1) rfl rfl ag25) ?_; clear hf; intro a hf
      refine sYg hf hs rfl rfl rfl (congrArg (fun b => some (Value.bool b)) hb14) rfl rfl rfl (Y_lenH rfl rfl el25 rfl) ?_; clear hf; intro a hf
      refine sYg hf hs rfl rfl rfl (congrArg (fun b => some (Value.bool b)) hb14) rfl rfl rfl (Y_fieldAddr rfl rfl fo34_0) ?_; clear hf; intro a hf
      refine sYg hf hs rfl rfl rfl (congrArg (fun b => some (Value.bool b)) hb14) rfl rfl rfl (Y_load_blk rfl rfl (i := 0) rfl rfl ag2) ?_; clear hf; intro a hf
      refine sYg hf hs rfl rfl rfl (congrArg (fun b => some (Value.bool b)) hb14) rfl rfl rfl (Y_eql rfl rfl rfl) ?_; clear hf; intro a hf
      refine sY hf hs rfl rfl rfl (Y_pickT rfl (congrArg (fun b => some (Value.bool b)) hb14) rfl) ?_; clear hf; intro a hf
      refine sY hf hs rfl rfl rfl (Y_move rfl rfl) ?_; clear hf; intro a hf
      refine bsplit ((p1_t.Starts.length : Int) == p0_g.Events) (fun hb15 => ?_) (fun hb15 => ?_)
      · have hj11 := bif_t hj11 hb15
        refine sYg hf hs rfl rfl rfl (congrArg (fun b => some (Value.bool b)) hb15) rfl rfl rfl (Y_fieldAddr rfl rfl fo36_1) ?_; clear hf; intro a hf
        refine sYg hf hs rfl rfl rfl (congrArg (fun b => some (Value.bool b)) hb15) rfl rfl rfl (Y_load_blk rfl rfl (i := 1) rfl rfl ag25) ?_; clear hf; intro a hf
        obtain ⟨r16, hc17, hj11⟩ := bind_some hj11
        refine sCallg hf rfl rfl rfl (congrArg (fun b => some (Value.bool b)) hb15) rfl rfl rfl rfl (cap := []) rfl rfl en103 (impl_allWithin_ok F p1_t.Starts A_p1_t_1 p1_t.Starts.length c_p1_t_1 rfl 0 1000000 _ _ hc17 (h_p1_t_1.at hs)) ?_; clear hf
        rintro _ w ⟨rfl, hs1⟩ a hf
        have hs : St [] W w [.blk b1 34 [.int .i64 p0_g.Events, .slice A_p0_g_1 p0_g.Places.length c_p0_g_1], .blk b2 36 [.int .i64 p1_t.Period, .slice A_p1_t_1 p1_t.Starts.length c_p1_t_1]] := hs.ext hs1.below
        clear hs1
        refine sY hf hs rfl rfl rfl (Y_pickT rfl (congrArg (fun b => some (Value.bool b)) hb15) rfl) ?_; clear hf; intro a hf
        refine sY hf hs rfl rfl rfl (Y_assign rfl rfl) ?_; clear hf; intro a hf
        refine wpO_nil ?_
        refine wpL_nil (then_normal ?_)
        exact ⟨r16, Option.some.inj hj11, (Fr.pick hf.none hf rfl), hs.sel [] (by decide)⟩
      · have hj11 := bif_f hj11 hb15
        refine sNo hf rfl rfl rfl (congrArg (fun b => some (Value.bool b)) hb15) rfl rfl rfl ?_; clear hf; intro a hf
        refine sNo hf rfl rfl rfl (congrArg (fun b => some (Value.bool b)) hb15) rfl rfl rfl ?_; clear hf; intro a hf
        refine sNo hf rfl rfl rfl (congrArg (fun b => some (Value.bool b)) hb15) rfl rfl rfl ?_; clear hf; intro a hf
        refine sY hf hs rfl rfl rfl (Y_pickF rfl (congrArg (fun b => some (Value.bool b)) hb15) rfl) ?_; clear hf; intro a hf
        refine sY hf hs rfl rfl rfl (Y_assign rfl rfl) ?_; clear hf; intro a hf
        refine wpO_nil ?_
        refine wpL_nil (then_normal ?_)
        exact ⟨false, Option.some.inj hj11, (Fr.pick hf.none hf rfl), hs.sel [] (by decide)⟩
    · have hj11 := bif_f hj11 hb14
      refine sNo hf rfl rfl rfl (congrArg (fun b => some (Value.bool b)) hb14) rfl rfl rfl ?_; clear hf; intro a hf
      refine sNo hf rfl rfl rfl (congrArg (fun b => some (Value.bool b)) hb14) rfl rfl rfl ?_; clear hf; intro a hf
      refine sNo hf rfl rfl rfl (congrArg (fun b => some (Value.bool b)) hb14) rfl rfl rfl ?_; clear hf; intro a hf
      refine sNo hf rfl rfl rfl (congrArg (fun b => some (Value.bool b)) hb14) rfl rfl rfl ?_; clear hf; intro a hf
      refine sNo hf rfl rfl rfl (congrArg (fun b => some (Value.bool b)) hb14) rfl rfl rfl ?_; clear hf; intro a hf
      refine sNo hf rfl rfl rfl (congrArg (fun b => some (Value.bool b)) hb14) rfl rfl rfl ?_; clear hf; intro a hf
      refine sY hf hs rfl rfl rfl (Y_pickF rfl (congrArg (fun b => some (Value.bool b)) hb14) rfl) ?_; clear hf; intro a hf
      refine sY hf hs rfl rfl rfl (Y_move rfl rfl) ?_; clear hf; intro a hf
      refine sNo hf rfl rfl rfl rfl rfl rfl rfl ?_; clear hf; intro a hf
      refine sNo hf rfl rfl rfl rfl rfl rfl rfl ?_; clear hf; intro a hf
      refine sNo hf rfl rfl rfl rfl rfl rfl rfl ?_; clear hf; intro a hf
      refine sY hf hs rfl rfl rfl (Y_pickF rfl rfl rfl) ?_; clear hf; intro a hf
      refine sY hf hs rfl rfl rfl (Y_assign rfl rfl) ?_; clear hf; intro a hf
      refine wpO_nil ?_
      refine wpL_nil (then_normal ?_)
      exact ⟨false, Option.some.inj hj11, (Fr.pick hf.none hf rfl), hs.sel [] (by decide)⟩
  · rintro a w ⟨b9, hr_, hf, hs⟩
    subst hr_
    try dsimp only at hm
    obtain rfl := Option.some.inj hm
    refine wpL_ret (ret_tmp rfl hf rfl ?_)
    exact ⟨_, rfl, rfl, hs⟩

set_option maxRecDepth 100000 in
theorem impl_isFinite_ok (F : Nat) (p0_n : Int) (r : Bool) (W : World) (hm : impl_isFinite F p0_n = some r) :
    Calls Try.prog 97 [.int .i64 p0_n].toArray W fun e w' => ∃ v, e = .returned v ∧ v = .bool r ∧ St [] W w' [] := by
  unfold impl_isFinite at hm
  refine Calls.enter (N := 5) Try.func97 rfl rfl rfl (fun a hf => ?_)
  have hs := St.start W
  obtain ⟨w, hw_⟩ : ∃ w, w = W := ⟨W, rfl⟩
  clear hw_ w
  refine wpL_seq ?_
  refine wpL_region ?_
  refine sY hf hs rfl rfl rfl (Y_assign rfl rfl) ?_; clear hf; intro a hf
  refine wpO_nil ?_
  refine wpL_seq ?_
  refine wpL_region ?_
  refine sY hf hs rfl rfl rfl (Y_move rfl rfl) ?_; clear hf; intro a hf
  obtain ⟨r1, hc2, hm⟩ := bind_some hm
  refine sCall hf rfl rfl rfl rfl (cap := []) rfl rfl en65 (impl_within_ok F p0_n (-1000000) 1000000 _ _ hc2) ?_; clear hf
  rintro _ w ⟨rfl, hs1⟩ a hf
  have hs : St [] W w [] := hs.ext hs1.below
  clear hs1
  refine sY hf hs rfl rfl rfl (Y_assign rfl rfl) ?_; clear hf; intro a hf
  refine wpO_nil ?_
  obtain rfl := Option.some.inj hm
  refine wpL_ret (ret_tmp rfl hf rfl ?_)
  exact ⟨_, rfl, rfl, hs⟩

set_option maxRecDepth 100000 in
theorem slices_Clone_int64_ok (F : Nat) (p0_s : List Int) (A_p0_s_1 : Option Addr) (n_p0_s_1 c_p0_s_1 : Nat) (hn_p0_s_1 : n_p0_s_1 = p0_s.length) (r : List Int) (W : World) (hm : slices_Clone_int64 F p0_s = some r) (h_p0_s_1 : Rd W A_p0_s_1 (ints p0_s)) :
    Calls Try.prog 98 [.slice A_p0_s_1 n_p0_s_1 c_p0_s_1].toArray W fun e w' => ∃ v, e = .returned v ∧ ∃ A7, ∃ n8, ∃ c9, v = .slice A7 n8 c9 ∧ n8 = r.length ∧ St [] W w' [.row A7 n8 c9 2 1 (ints r)] := by
  subst hn_p0_s_1
  cases A_p0_s_1 with
  | none =>
    obtain rfl : p0_s = [] := rd_none_ints h_p0_s_1
    have hm : some ([] : List Int) = some r := hm
    refine Calls.enter (N := 8) Try.func98 rfl rfl rfl (fun a hf => ?_)
    have hs := St.start W
    obtain ⟨w, hw_⟩ : ∃ w, w = W := ⟨W, rfl⟩
    clear hw_ w
    refine wpL_seq ?_
    refine wpL_region ?_
    refine sY hf hs rfl rfl rfl (Y_assign rfl rfl) ?_; clear hf; intro a hf
    refine wpO_nil ?_
    refine wpL_seq ?_
    refine wpL_seq ?_
    refine wpL_region ?_
    refine sY hf hs rfl rfl rfl (Y_move rfl rfl) ?_; clear hf; intro a hf
    refine sY hf hs rfl rfl rfl (Y_eqnil rfl rfl rfl un25) ?_; clear hf; intro a hf
    refine wpO_nil ?_
    refine wpL_cond hf rfl (fun _ => ?_) (fun e => absurd e (by decide))
    refine wpL_seq ?_
    refine wpL_region ?_
    refine sY hf hs rfl rfl rfl (Y_assign rfl rfl) ?_; clear hf; intro a hf
    refine wpO_nil ?_
    have hs : St [] W _ [.row none 0 0 2 1 (ints ([] : List Int))] := hs.addNil 2 1
    obtain rfl := Option.some.inj hm
    refine wpL_ret (ret_tmp rfl hf rfl ?_)
    exact ⟨_, rfl, none, 0, 0, rfl, rfl, hs⟩
  | some a_ =>
    unfold slices_Clone_int64 at hm
    refine Calls.enter (N := 8) Try.func98 rfl rfl rfl (fun a hf => ?_)
    have hs := St.start W
    obtain ⟨w, hw_⟩ : ∃ w, w = W := ⟨W, rfl⟩
    clear hw_ w
    refine wpL_seq ?_
    refine wpL_region ?_
    refine sY hf hs rfl rfl rfl (Y_assign rfl rfl) ?_; clear hf; intro a hf
    refine wpO_nil ?_
    refine wpL_seq ?_
    refine wpL_seq ?_
    refine wpL_region ?_
    refine sY hf hs rfl rfl rfl (Y_move rfl rfl) ?_; clear hf; intro a hf
    refine sY hf hs rfl rfl rfl (Y_eqnil rfl rfl rfl un25) ?_; clear hf; intro a hf
    refine wpO_nil ?_
    refine wpL_cond hf rfl (fun e => absurd e Bool.false_ne_true) (fun _ => ?_)
    refine wpL_skip ?_
    refine wpL_seq ?_
    refine wpL_region ?_
    refine sEmpty hf hs rfl rfl rfl rfl el25 ti2 ?_; clear hf hs; intro a w A1 hs hf
    have hs : St [] W w [.row A1 0 0 2 1 (ints ([] : List Int))] := hs
    refine sY hf hs rfl rfl rfl (Y_move rfl rfl) ?_; clear hf; intro a hf
    obtain ⟨xs5, ha6, hm⟩ := bind_some hm
    refine sAppendG (i := 0) (xs := ([] : List Int)) (ys := p0_s) (enc := ints) hf hs rfl rfl rfl rfl rfl rfl rfl rfl rfl ha6 el25 ti2 rfl rfl rfl (h_p0_s_1.at hs) ints_len1 ints_append ints_one ?_; clear hf hs; intro a w A3 c4 hs hf
    have hs : St [] W w [.row A3 xs5.length c4 2 1 (ints xs5)] := hs
    refine sY hf hs rfl rfl rfl (Y_assign rfl rfl) ?_; clear hf; intro a hf
    refine wpO_nil ?_
    obtain rfl := Option.some.inj hm
    refine wpL_ret (ret_tmp rfl hf rfl ?_)
    exact ⟨_, rfl, A3, xs5.length, c4, rfl, rfl, hs⟩

set_option maxRecDepth 100000 in
theorem impl_ShiftTimetable_ok (F : Nat) (p0_g : GEventGraph) (A_p0_g_1 : Option Addr) (n_p0_g_1 c_p0_g_1 : Nat) (hn_p0_g_1 : n_p0_g_1 = p0_g.Places.length) (p1_t : GTimetable) (A_p1_t_1 : Option Addr) (n_p1_t_1 c_p1_t_1 : Nat) (hn_p1_t_1 : n_p1_t_1 = p1_t.Starts.length) (p2_by : Int) (r : GTimetable × Int) (W : World) (hm : impl_ShiftTimetable F p0_g p1_t p2_by = some r) (h_p0_g_1 : Rd W A_p0_g_1 ((recs GPlace.cells) p0_g.Places)) (h_p1_t_1 : Rd W A_p1_t_1 (ints p1_t.Starts)) :
    Calls Try.prog 55 [.agg #[.int .i64 p0_g.Events, .slice A_p0_g_1 n_p0_g_1 c_p0_g_1], .agg #[.int .i64 p1_t.Period, .slice A_p1_t_1 n_p1_t_1 c_p1_t_1], .int .i64 p2_by].toArray W fun e w' => ∃ v, e = .returned v ∧ ∃ A118, ∃ n119, ∃ c120, v = .tuple #[.agg #[.int .i64 r.1.Period, .slice A118 n119 c120], .int .i64 r.2] ∧ n119 = r.1.Starts.length ∧ St [] W w' [.row A118 n119 c120 2 1 (ints r.1.Starts)] := by
  subst hn_p0_g_1
  subst hn_p1_t_1
  unfold impl_ShiftTimetable at hm
  refine Calls.enter (N := 51) Try.func55 rfl rfl rfl (fun a hf => ?_)
  have hs := St.start W
  obtain ⟨w, hw_⟩ : ∃ w, w = W := ⟨W, rfl⟩
  clear hw_ w
  refine wpL_seq ?_
  refine wpL_region ?_
  refine sBox hf hs rfl rfl rfl rfl rfl (cs := [.int .i64 p0_g.Events, .slice A_p0_g_1 p0_g.Places.length c_p0_g_1]) rfl ?_; clear hf hs; intro a w b1 hs hf
  have hs : St [] W w [.blk b1 34 [.int .i64 p0_g.Events, .slice A_p0_g_1 p0_g.Places.length c_p0_g_1]] := hs
  refine sBox hf hs rfl rfl rfl rfl rfl (cs := [.int .i64 p1_t.Period, .slice A_p1_t_1 p1_t.Starts.length c_p1_t_1]) rfl ?_; clear hf hs; intro a w b2 hs hf
  have hs : St [] W w [.blk b1 34 [.int .i64 p0_g.Events, .slice A_p0_g_1 p0_g.Places.length c_p0_g_1], .blk b2 36 [.int .i64 p1_t.Period, .slice A_p1_t_1 p1_t.Starts.length c_p1_t_1]] := hs
  refine sAlloc hf hs rfl rfl rfl rfl ti36 ?_; clear hf hs; intro a w b3 hs hf
  have hs : St [] W w [.blk b1 34 [.int .i64 p0_g.Events, .slice A_p0_g_1 p0_g.Places.length c_p0_g_1], .blk b2 36 [.int .i64 p1_t.Period, .slice A_p1_t_1 p1_t.Starts.length c_p1_t_1], .blk b3 36 [.int .i64 0, .slice none 0 0]] := hs
  refine sY hf hs rfl rfl rfl (Y_assign rfl rfl) ?_; clear hf; intro a hf
  refine wpO_nil ?_
  refine wpL_seq ?_
  refine wpL_seq ?_
  refine wpL_region ?_
  refine sY hf hs rfl rfl rfl (Y_load_blkS rfl rfl (i := 0) rfl ag34 ti34 rfl) ?_; clear hf; intro a hf
  obtain ⟨r4, hc5, hm⟩ := bind_some hm
  refine sCall hf rfl rfl rfl rfl (cap := []) rfl rfl en95 (impl_IsEventGraph_ok F p0_g A_p0_g_1 p0_g.Places.length c_p0_g_1 rfl _ _ hc5 (h_p0_g_1.at hs)) ?_; clear hf
  rintro _ w ⟨rfl, hs1⟩ a hf
  have hs : St [] W w [.blk b1 34 [.int .i64 p0_g.Events, .slice A_p0_g_1 p0_g.Places.length c_p0_g_1], .blk b2 36 [.int .i64 p1_t.Period, .slice A_p1_t_1 p1_t.Starts.length c_p1_t_1], .blk b3 36 [.int .i64 0, .slice none 0 0]] := hs.ext hs1.below
  clear hs1
  refine sY hf hs rfl rfl rfl (Y_not rfl rfl) ?_; clear hf; intro a hf
  refine wpO_nil ?_
  refine wpL_cond hf rfl (fun hb6 => ?_) (fun hb6 => ?_)
  · have hm := bif_t hm hb6
    refine wpL_seq ?_
    refine wpL_region ?_
    refine sY hf hs rfl rfl rfl (Y_build (parts := []) (vs := []) rfl rfl (run_build (parts := []) (cells := [.int .i64 0, .slice none 0 0]) (places := #[(0, 1), (1, 1)]) ti36 Try.underlying36 (fun w => by simp [go_sem]) rfl)) ?_; clear hf; intro a hf
    refine sStore (i := 2) (us := [.int .i64 0, .slice none 0 0]) hf hs rfl rfl rfl rfl rfl rfl ti36 rfl rfl rfl (Nat.le_of_ble_eq_true rfl) rfl ?_; clear hs; intro w hs
    have hs : St [] W w [.blk b1 34 [.int .i64 p0_g.Events, .slice A_p0_g_1 p0_g.Places.length c_p0_g_1], .blk b2 36 [.int .i64 p1_t.Period, .slice A_p1_t_1 p1_t.Starts.length c_p1_t_1], .blk b3 36 [.int .i64 0, .slice none 0 0]] := hs
    refine sY hf hs rfl rfl rfl (Y_assign rfl rfl) ?_; clear hf; intro a hf
    refine wpO_nil ?_
    have hs : St [] W _ [.blk b1 34 [.int .i64 p0_g.Events, .slice A_p0_g_1 p0_g.Places.length c_p0_g_1], .blk b2 36 [.int .i64 p1_t.Period, .slice A_p1_t_1 p1_t.Starts.length c_p1_t_1], .blk b3 36 [.int .i64 0, .slice none 0 0], .row none 0 0 2 1 (ints ([] : List Int))] := hs.addNil 2 1
    obtain rfl := Option.some.inj hm
    refine wpL_ret (ret_cell_tmp rfl hf rfl rfl hs (i := 2) rfl ag36 ti36 rfl ?_)
    exact ⟨_, rfl, none, 0, 0, rfl, rfl, hs.sel [3] (by decide)⟩
  · have hm := bif_f hm hb6
    refine wpL_skip ?_
    refine wpL_seq ?_
    refine wpL_seq ?_
    obtain ⟨r14, hj15, hm⟩ := bind_some hm
    refine wpL_cut (fun a w => ∃ b13 : Bool, b13 = r14 ∧ Fr a 51 [(2, .int .i64 p2_by), (3, .pointer (some ⟨b1, 0, none⟩)), (4, .pointer (some ⟨b2, 0, none⟩)), (6, .pointer (some ⟨b3, 0, none⟩)), (22, .bool b13)] ∧ St [] W w [.blk b1 34 [.int .i64 p0_g.Events, .slice A_p0_g_1 p0_g.Places.length c_p0_g_1], .blk b2 36 [.int .i64 p1_t.Period, .slice A_p1_t_1 p1_t.Starts.length c_p1_t_1], .blk b3 36 [.int .i64 0, .slice none 0 0]]) ?_ ?_
    · refine wpL_region ?_
      refine sY hf hs rfl rfl rfl (Y_load_blkS rfl rfl (i := 0) rfl ag34 ti34 rfl) ?_; clear hf; intro a hf
      refine sY hf hs rfl rfl rfl (Y_load_blkS rfl rfl (i := 1) rfl ag36 ti36 rfl) ?_; clear hf; intro a hf
      obtain ⟨r16, hc17, hj15⟩ := bind_some hj15
      refine sCall hf rfl rfl rfl rfl (cap := []) rfl rfl en96 (impl_isTimetable_ok F p0_g A_p0_g_1 p0_g.Places.length c_p0_g_1 rfl p1_t A_p1_t_1 p1_t.Starts.length c_p1_t_1 rfl _ _ hc17 (h_p0_g_1.at hs) (h_p1_t_1.at hs)) ?_; clear hf
      rintro _ w ⟨rfl, hs1⟩ a hf
      have hs : St [] W w [.blk b1 34 [.int .i64 p0_g.Events, .slice A_p0_g_1 p0_g.Places.length c_p0_g_1], .blk b2 36 [.int .i64 p1_t.Period, .slice A_p1_t_1 p1_t.Starts.length c_p1_t_1], .blk b3 36 [.int .i64 0, .slice none 0 0]] := hs.ext hs1.below
      clear hs1
      refine sY hf hs rfl rfl rfl (Y_not rfl rfl) ?_; clear hf; intro a hf
      refine sY hf hs rfl rfl rfl (Y_move rfl rfl) ?_; clear hf; intro a hf
      refine bsplit (!r16) (fun hb18 => ?_) (fun hb18 => ?_)
      · have hj15 := bif_t hj15 hb18
        refine sNo hf rfl rfl rfl (congrArg (fun b => some (Value.bool b)) hb18) rfl rfl rfl ?_; clear hf; intro a hf
        refine sNo hf rfl rfl rfl (congrArg (fun b => some (Value.bool b)) hb18) rfl rfl rfl ?_; clear hf; intro a hf
        refine sNo hf rfl rfl rfl (congrArg (fun b => some (Value.bool b)) hb18) rfl rfl rfl ?_; clear hf; intro a hf
        refine sY hf hs rfl rfl rfl (Y_pickT rfl (congrArg (fun b => some (Value.bool b)) hb18) rfl) ?_; clear hf; intro a hf
        refine wpO_nil ?_
        refine wpL_nil (then_normal ?_)
        exact ⟨true, Option.some.inj hj15, (Fr.pick (Fr.pick (Fr.pick (Fr.pick (Fr.pick hf.none hf rfl) hf rfl) hf rfl) hf rfl) hf rfl), hs⟩
      · have hj15 := bif_f hj15 hb18
        refine sYg hf hs rfl rfl rfl (congrArg (fun b => some (Value.bool b)) hb18) rfl rfl rfl (Y_move rfl rfl) ?_; clear hf; intro a hf
        obtain ⟨r19, hc20, hj15⟩ := bind_some hj15
        refine sCallg hf rfl rfl rfl (congrArg (fun b => some (Value.bool b)) hb18) rfl rfl rfl rfl (cap := []) rfl rfl en97 (impl_isFinite_ok F p2_by _ _ hc20) ?_; clear hf
        rintro _ w ⟨rfl, hs1⟩ a hf
        have hs : St [] W w [.blk b1 34 [.int .i64 p0_g.Events, .slice A_p0_g_1 p0_g.Places.length c_p0_g_1], .blk b2 36 [.int .i64 p1_t.Period, .slice A_p1_t_1 p1_t.Starts.length c_p1_t_1], .blk b3 36 [.int .i64 0, .slice none 0 0]] := hs.ext hs1.below
        clear hs1
        refine sYg hf hs rfl rfl rfl (congrArg (fun b => some (Value.bool b)) hb18) rfl rfl rfl (Y_not rfl rfl) ?_; clear hf; intro a hf
        refine sY hf hs rfl rfl rfl (Y_pickF rfl (congrArg (fun b => some (Value.bool b)) hb18) rfl) ?_; clear hf; intro a hf
        refine wpO_nil ?_
        refine wpL_nil (then_normal ?_)
        exact ⟨(!r19), Option.some.inj hj15, (Fr.pick (Fr.pick (Fr.pick (Fr.pick (Fr.pick hf.none hf rfl) hf rfl) hf rfl) hf rfl) hf rfl), hs⟩
    · rintro a w ⟨b13, hr_, hf, hs⟩
      subst hr_
      try dsimp only at hm
      refine wpL_cond hf rfl (fun hb21 => ?_) (fun hb21 => ?_)
      · have hm := bif_t hm hb21
        refine wpL_seq ?_
        refine wpL_region ?_
        refine sY hf hs rfl rfl rfl (Y_build (parts := []) (vs := []) rfl rfl (run_build (parts := []) (cells := [.int .i64 0, .slice none 0 0]) (places := #[(0, 1), (1, 1)]) ti36 Try.underlying36 (fun w => by simp [go_sem]) rfl)) ?_; clear hf; intro a hf
        refine sStore (i := 2) (us := [.int .i64 0, .slice none 0 0]) hf hs rfl rfl rfl rfl rfl rfl ti36 rfl rfl rfl (Nat.le_of_ble_eq_true rfl) rfl ?_; clear hs; intro w hs
        have hs : St [] W w [.blk b1 34 [.int .i64 p0_g.Events, .slice A_p0_g_1 p0_g.Places.length c_p0_g_1], .blk b2 36 [.int .i64 p1_t.Period, .slice A_p1_t_1 p1_t.Starts.length c_p1_t_1], .blk b3 36 [.int .i64 0, .slice none 0 0]] := hs
        refine sY hf hs rfl rfl rfl (Y_assign rfl rfl) ?_; clear hf; intro a hf
        refine wpO_nil ?_
        have hs : St [] W _ [.blk b1 34 [.int .i64 p0_g.Events, .slice A_p0_g_1 p0_g.Places.length c_p0_g_1], .blk b2 36 [.int .i64 p1_t.Period, .slice A_p1_t_1 p1_t.Starts.length c_p1_t_1], .blk b3 36 [.int .i64 0, .slice none 0 0], .row none 0 0 2 1 (ints ([] : List Int))] := hs.addNil 2 1
        obtain rfl := Option.some.inj hm
        refine wpL_ret (ret_cell_tmp rfl hf rfl rfl hs (i := 2) rfl ag36 ti36 rfl ?_)
        exact ⟨_, rfl, none, 0, 0, rfl, rfl, hs.sel [3] (by decide)⟩
      · have hm := bif_f hm hb21
        refine wpL_skip ?_
        refine wpL_seq ?_
        obtain ⟨r51, hj52, hm⟩ := bind_some hm
        refine wpL_cut (fun a w => ∃ x45 : Int, ∃ xs46 : List Int, ∃ b44, ∃ A47, ∃ n48, ∃ c49, (x45, xs46) = r51 ∧ n48 = xs46.length ∧ Fr a 51 [(2, .int .i64 p2_by), (3, .pointer (some ⟨b1, 0, none⟩)), (6, .pointer (some ⟨b3, 0, none⟩)), (8, .pointer (some ⟨b44, 0, none⟩))] ∧ St [] W w [.blk b1 34 [.int .i64 p0_g.Events, .slice A_p0_g_1 p0_g.Places.length c_p0_g_1], .blk b3 36 [.int .i64 0, .slice none 0 0], .blk b44 36 [.int .i64 x45, .slice A47 n48 c49], .row A47 n48 c49 2 1 (ints xs46)]) ?_ ?_
        · refine wpL_drawG [.blk b1 34 [.int .i64 p0_g.Events, .slice A_p0_g_1 p0_g.Places.length c_p0_g_1], .blk b2 36 [.int .i64 p1_t.Period, .slice A_p1_t_1 p1_t.Starts.length c_p1_t_1], .blk b3 36 [.int .i64 0, .slice none 0 0]] 7 (by kernel_rfl) hs ?_; clear hs; intro w hs
          have hs0 : St [] W w [.blk b1 34 [.int .i64 p0_g.Events, .slice A_p0_g_1 p0_g.Places.length c_p0_g_1], .blk b2 36 [.int .i64 p1_t.Period, .slice A_p1_t_1 p1_t.Starts.length c_p1_t_1], .blk b3 36 [.int .i64 0, .slice none 0 0]] := hs
          refine gY (i := 0) [] rfl (by kernel_rfl) (by kernel_rfl) hf hs0 rfl rfl rfl (Y_fieldAddr rfl rfl fo36_0) ?_; clear hf; intro a hf
          refine gY (i := 1) [] rfl (by kernel_rfl) (by kernel_rfl) hf hs0 rfl rfl rfl (Y_load_blk rfl rfl (i := 1) rfl rfl ag2) ?_; clear hf; intro a hf
          refine gY (i := 2) [] rfl (by kernel_rfl) (by kernel_rfl) hf hs0 rfl rfl rfl (Y_fieldAddr rfl rfl fo36_1) ?_; clear hf; intro a hf
          refine gY (i := 3) [] rfl (by kernel_rfl) (by kernel_rfl) hf hs0 rfl rfl rfl (Y_load_blk rfl rfl (i := 1) rfl rfl ag25) ?_; clear hf; intro a hf
          refine gRun2 (i := 4) (j := 6) rfl rfl (by kernel_rfl) ?_ ?_
          · obtain ⟨r60, hc61, hj52⟩ := bind_some hj52
            refine sCall hf rfl rfl rfl rfl (cap := []) rfl rfl en98 (slices_Clone_int64_ok F p1_t.Starts A_p1_t_1 p1_t.Starts.length c_p1_t_1 rfl _ _ hc61 (h_p1_t_1.at hs)) ?_; clear hf
            rintro _ w ⟨A62, n63, c64, rfl, hn65, hs1⟩ a hf
            have hs : St [] W w [.blk b1 34 [.int .i64 p0_g.Events, .slice A_p0_g_1 p0_g.Places.length c_p0_g_1], .blk b2 36 [.int .i64 p1_t.Period, .slice A_p1_t_1 p1_t.Starts.length c_p1_t_1], .blk b3 36 [.int .i64 0, .slice none 0 0], .row A62 n63 c64 2 1 (ints r60)] := hs.join hs1
            clear hs1
            have hs0 : St [] W w [.blk b1 34 [.int .i64 p0_g.Events, .slice A_p0_g_1 p0_g.Places.length c_p0_g_1], .blk b2 36 [.int .i64 p1_t.Period, .slice A_p1_t_1 p1_t.Starts.length c_p1_t_1], .blk b3 36 [.int .i64 0, .slice none 0 0]] := hs.sel [0, 1, 2] (by decide)
            refine wpO_nil ⟨Or.inr hs0, ?_⟩
            refine gY (i := 5) [] rfl (by kernel_rfl) (by kernel_rfl) hf hs0 rfl rfl rfl (Y_build (parts := [(0, .tmp 25), (1, .tmp 28)]) (vs := [.int .i64 p1_t.Period, .slice A62 n63 c64]) rfl rfl (run_build (parts := [(0, .int .i64 p1_t.Period), (1, .slice A62 n63 c64)]) (cells := [.int .i64 p1_t.Period, .slice A62 n63 c64]) (places := #[(0, 1), (1, 1)]) ti36 Try.underlying36 (fun w => by simp [go_sem]) rfl)) ?_; clear hf; intro a hf
            refine gRun (i := 6) rfl (by kernel_rfl) ?_
            refine sAlloc hf hs rfl rfl rfl rfl ti36 ?_; clear hf hs; intro a w b66 hs hf
            have hs : St [] W w [.blk b1 34 [.int .i64 p0_g.Events, .slice A_p0_g_1 p0_g.Places.length c_p0_g_1], .blk b2 36 [.int .i64 p1_t.Period, .slice A_p1_t_1 p1_t.Starts.length c_p1_t_1], .blk b3 36 [.int .i64 0, .slice none 0 0], .row A62 n63 c64 2 1 (ints r60), .blk b66 36 [.int .i64 0, .slice none 0 0]] := hs
            have hs0 : St [] W w [.blk b1 34 [.int .i64 p0_g.Events, .slice A_p0_g_1 p0_g.Places.length c_p0_g_1], .blk b2 36 [.int .i64 p1_t.Period, .slice A_p1_t_1 p1_t.Starts.length c_p1_t_1], .blk b3 36 [.int .i64 0, .slice none 0 0]] := hs.sel [0, 1, 2] (by decide)
            refine wpO_nil ⟨Or.inr hs0, ?_⟩
            refine gRun (i := 7) rfl (by kernel_rfl) ?_
            refine sStore (i := 4) (us := [.int .i64 p1_t.Period, .slice A62 n63 c64]) hf hs rfl rfl rfl rfl rfl rfl ti36 rfl rfl rfl (Nat.le_of_ble_eq_true rfl) rfl ?_; clear hs; intro w hs
            have hs : St [] W w [.blk b1 34 [.int .i64 p0_g.Events, .slice A_p0_g_1 p0_g.Places.length c_p0_g_1], .blk b2 36 [.int .i64 p1_t.Period, .slice A_p1_t_1 p1_t.Starts.length c_p1_t_1], .blk b3 36 [.int .i64 0, .slice none 0 0], .row A62 n63 c64 2 1 (ints r60), .blk b66 36 [.int .i64 p1_t.Period, .slice A62 n63 c64]] := hs
            refine wpO_nil ⟨Or.inl rfl, ?_⟩
            refine gDone (by kernel_rfl) ?_
            clear hs0
            refine wpL_nil (then_normal ?_)
            exact ⟨p1_t.Period, r60, b66, A62, n63, c64, Option.some.inj hj52, hn65, (Fr.pick (Fr.pick (Fr.pick (Fr.pick hf.none hf rfl) hf rfl) hf rfl) hf rfl), hs.sel [0, 2, 4, 3] (by decide)⟩
          · refine sAlloc hf hs rfl rfl rfl rfl ti36 ?_; clear hf hs; intro a w b67 hs hf
            have hs : St [] W w [.blk b1 34 [.int .i64 p0_g.Events, .slice A_p0_g_1 p0_g.Places.length c_p0_g_1], .blk b2 36 [.int .i64 p1_t.Period, .slice A_p1_t_1 p1_t.Starts.length c_p1_t_1], .blk b3 36 [.int .i64 0, .slice none 0 0], .blk b67 36 [.int .i64 0, .slice none 0 0]] := hs
            have hs0 : St [] W w [.blk b1 34 [.int .i64 p0_g.Events, .slice A_p0_g_1 p0_g.Places.length c_p0_g_1], .blk b2 36 [.int .i64 p1_t.Period, .slice A_p1_t_1 p1_t.Starts.length c_p1_t_1], .blk b3 36 [.int .i64 0, .slice none 0 0]] := hs.sel [0, 1, 2] (by decide)
            refine wpO_nil ⟨Or.inr hs0, ?_⟩
            refine gRun (i := 4) rfl (by kernel_rfl) ?_
            obtain ⟨r68, hc69, hj52⟩ := bind_some hj52
            refine sCall hf rfl rfl rfl rfl (cap := []) rfl rfl en98 (slices_Clone_int64_ok F p1_t.Starts A_p1_t_1 p1_t.Starts.length c_p1_t_1 rfl _ _ hc69 (h_p1_t_1.at hs)) ?_; clear hf
            rintro _ w ⟨A70, n71, c72, rfl, hn73, hs1⟩ a hf
            have hs : St [] W w [.blk b1 34 [.int .i64 p0_g.Events, .slice A_p0_g_1 p0_g.Places.length c_p0_g_1], .blk b2 36 [.int .i64 p1_t.Period, .slice A_p1_t_1 p1_t.Starts.length c_p1_t_1], .blk b3 36 [.int .i64 0, .slice none 0 0], .blk b67 36 [.int .i64 0, .slice none 0 0], .row A70 n71 c72 2 1 (ints r68)] := hs.join hs1
            clear hs1
            have hs0 : St [] W w [.blk b1 34 [.int .i64 p0_g.Events, .slice A_p0_g_1 p0_g.Places.length c_p0_g_1], .blk b2 36 [.int .i64 p1_t.Period, .slice A_p1_t_1 p1_t.Starts.length c_p1_t_1], .blk b3 36 [.int .i64 0, .slice none 0 0]] := hs.sel [0, 1, 2] (by decide)
            refine wpO_nil ⟨Or.inr hs0, ?_⟩
            refine gY (i := 5) [] rfl (by kernel_rfl) (by kernel_rfl) hf hs0 rfl rfl rfl (Y_build (parts := [(0, .tmp 25), (1, .tmp 28)]) (vs := [.int .i64 p1_t.Period, .slice A70 n71 c72]) rfl rfl (run_build (parts := [(0, .int .i64 p1_t.Period), (1, .slice A70 n71 c72)]) (cells := [.int .i64 p1_t.Period, .slice A70 n71 c72]) (places := #[(0, 1), (1, 1)]) ti36 Try.underlying36 (fun w => by simp [go_sem]) rfl)) ?_; clear hf; intro a hf
            refine gRun (i := 7) rfl (by kernel_rfl) ?_
            refine sStore (i := 3) (us := [.int .i64 p1_t.Period, .slice A70 n71 c72]) hf hs rfl rfl rfl rfl rfl rfl ti36 rfl rfl rfl (Nat.le_of_ble_eq_true rfl) rfl ?_; clear hs; intro w hs
            have hs : St [] W w [.blk b1 34 [.int .i64 p0_g.Events, .slice A_p0_g_1 p0_g.Places.length c_p0_g_1], .blk b2 36 [.int .i64 p1_t.Period, .slice A_p1_t_1 p1_t.Starts.length c_p1_t_1], .blk b3 36 [.int .i64 0, .slice none 0 0], .blk b67 36 [.int .i64 p1_t.Period, .slice A70 n71 c72], .row A70 n71 c72 2 1 (ints r68)] := hs
            refine wpO_nil ⟨Or.inl rfl, ?_⟩
            refine gDone (by kernel_rfl) ?_
            clear hs0
            refine wpL_nil (then_normal ?_)
            exact ⟨p1_t.Period, r68, b67, A70, n71, c72, Option.some.inj hj52, hn73, (Fr.pick (Fr.pick (Fr.pick (Fr.pick hf.none hf rfl) hf rfl) hf rfl) hf rfl), hs.sel [0, 2, 3, 4] (by decide)⟩
        · rintro a w ⟨x45, xs46, b44, A47, n48, c49, hr_, hn50, hf, hs⟩
          subst hr_
          try dsimp only at hm
          refine wpL_seq ?_
          refine wpL_seq ?_
          refine wpL_region ?_
          refine sY hf hs rfl rfl rfl (Y_fieldAddr rfl rfl fo36_1) ?_; clear hf; intro a hf
          refine sY hf hs rfl rfl rfl (Y_load_blk rfl rfl (i := 2) rfl rfl ag25) ?_; clear hf; intro a hf
          refine sY hf hs rfl rfl rfl (Y_lenH rfl rfl el25 hn50) ?_; clear hf; intro a hf
          refine sY hf hs rfl rfl rfl (Y_move rfl rfl) ?_; clear hf; intro a hf
          refine wpO_nil ?_
          obtain ⟨r103, hl104, hm⟩ := bind_some hm
          refine wpL_block (fun a w => ∃ xs101 : List Int, xs101 = r103 ∧ n48 = xs101.length ∧ Fr a 51 [(3, .pointer (some ⟨b1, 0, none⟩)), (6, .pointer (some ⟨b3, 0, none⟩)), (8, .pointer (some ⟨b44, 0, none⟩))] ∧ St [] W w [.blk b1 34 [.int .i64 p0_g.Events, .slice A_p0_g_1 p0_g.Places.length c_p0_g_1], .blk b3 36 [.int .i64 0, .slice none 0 0], .blk b44 36 [.int .i64 x45, .slice A47 n48 c49], .row A47 n48 c49 2 1 (ints xs101)]) ?_ ?_
          · refine wpL_loop (fun n a w => ∃ xs91 : List Int, ∃ x93 : Int, impl_ShiftTimetable_L1 F p2_by xs46 n xs91 x93 = some r103 ∧ n48 = xs91.length ∧ Fr a 51 [(2, .int .i64 p2_by), (3, .pointer (some ⟨b1, 0, none⟩)), (6, .pointer (some ⟨b3, 0, none⟩)), (8, .pointer (some ⟨b44, 0, none⟩)), (32, .int .i64 (xs46.length : Int)), (33, .int .i64 x93)] ∧ St [] W w [.blk b1 34 [.int .i64 p0_g.Events, .slice A_p0_g_1 p0_g.Places.length c_p0_g_1], .blk b3 36 [.int .i64 0, .slice none 0 0], .blk b44 36 [.int .i64 x45, .slice A47 n48 c49], .row A47 n48 c49 2 1 (ints xs91)]) F ?_ ?_ ?_
            · exact ⟨xs46, 0, hl104, hn50, (Fr.pick (Fr.pick (Fr.pick (Fr.pick (Fr.pick (Fr.pick hf.none hf rfl) hf rfl) hf rfl) hf rfl) hf rfl) hf rfl), hs⟩
            · rintro a w ⟨xs91, x93, h0_, -, -, -⟩; simp [impl_ShiftTimetable_L1] at h0_
            · rintro n106 a w ⟨xs91, x93, hm105, hn92, hf, hs⟩
              rw [impl_ShiftTimetable_L1] at hm105
              refine wpL_seq ?_
              refine wpL_region ?_
              refine sY hf hs rfl rfl rfl (Y_lss rfl rfl rfl) ?_; clear hf; intro a hf
              refine wpO_nil ?_
              refine wpL_seq ?_
              refine wpL_cond hf rfl (fun hb107 => ?_) (fun hb107 => ?_)
              · have hm105 := bif_t hm105 hb107
                refine wpL_skip ?_
                refine wpL_seq ?_
                refine wpL_block0 ?_
                refine wpL_seq ?_
                refine wpL_region ?_
                refine sY hf hs rfl rfl rfl (Y_move rfl rfl) ?_; clear hf; intro a hf
                refine sY hf hs rfl rfl rfl (Y_assign rfl rfl) ?_; clear hf; intro a hf
                refine wpO_nil ?_
                refine wpL_region ?_
                refine sY hf hs rfl rfl rfl (Y_fieldAddr rfl rfl fo36_1) ?_; clear hf; intro a hf
                refine sY hf hs rfl rfl rfl (Y_load_blk rfl rfl (i := 2) rfl rfl ag25) ?_; clear hf; intro a hf
                refine sY hf hs rfl rfl rfl (Y_move rfl rfl) ?_; clear hf; intro a hf
                obtain ⟨q108, hi109, hm105⟩ := bind_some hm105
                obtain ⟨hi109a, hi109b, hi109q⟩ := idx_some hi109
                refine sY hf hs rfl rfl rfl (Y_index rfl rfl rfl el25 ti2 (Rd.isAt (hs.rd (i := 3) rfl) (at1 (ints_at hi109q))) hi109a (ltn hn92 hi109b)) ?_; clear hf; intro a hf
                refine sY hf hs rfl rfl rfl (Y_load_rd rfl rfl (fun w hs => hs.rd (i := 3) rfl) (at1 (ints_at hi109q)) ag2) ?_; clear hf; intro a hf
                refine sY hf hs rfl rfl rfl (Y_move rfl rfl) ?_; clear hf; intro a hf
                refine sY hf hs rfl rfl rfl (Y_add rfl rfl rfl) ?_; clear hf; intro a hf
                obtain ⟨q110, hi111, hm105⟩ := bind_some hm105
                obtain ⟨hi111a, hi111b, hi111q⟩ := idx_some hi111
                refine sY hf hs rfl rfl rfl (Y_index rfl rfl rfl el25 ti2 (Rd.isAt (hs.rd (i := 3) rfl) (at1 (ints_at hi111q))) hi111a (ltn hn92 hi111b)) ?_; clear hf; intro a hf
                obtain ⟨xs112, hu113, hm105⟩ := bind_some hm105
                refine sStoreL (i := 3) (us := [.int .i64 (IntKind.i64.wrap (q108 + p2_by))]) (enc := ints) hf hs rfl rfl rfl rfl rfl rfl hn92 hu113 ti2 rfl rfl rfl rfl rfl ints_len1 (ints_set (IntKind.i64.wrap (q108 + p2_by))) ?_; clear hs; intro w hs
                have hs : St [] W w [.blk b1 34 [.int .i64 p0_g.Events, .slice A_p0_g_1 p0_g.Places.length c_p0_g_1], .blk b3 36 [.int .i64 0, .slice none 0 0], .blk b44 36 [.int .i64 x45, .slice A47 n48 c49], .row A47 n48 c49 2 1 (ints xs112)] := hs
                refine wpO_nil ?_
                refine wpL_nil (Qb_normal ?_)
                refine wpL_region ?_
                refine sY hf hs rfl rfl rfl (Y_add rfl rfl rfl) ?_; clear hf; intro a hf
                refine sY hf hs rfl rfl rfl (Y_move rfl rfl) ?_; clear hf; intro a hf
                refine wpO_nil ?_
                refine wpL_nil (Ql_normal ?_)
                exact ⟨xs112, (IntKind.i64.wrap (x93 + 1)), hm105, ((hn92).trans (upd_len hu113).symm), (Fr.pick (Fr.pick (Fr.pick (Fr.pick (Fr.pick (Fr.pick hf.none hf rfl) hf rfl) hf rfl) hf rfl) hf rfl) hf rfl), hs⟩
              · have hm105 := bif_f hm105 hb107
                refine wpL_exit (Ql_exit (Qb_exit ?_))
                exact ⟨xs91, Option.some.inj hm105, hn92, (Fr.pick (Fr.pick (Fr.pick hf.none hf rfl) hf rfl) hf rfl), hs⟩
          · rintro a w ⟨xs101, hr_, hn102, hf, hs⟩
            subst hr_
            try dsimp only at hm
            refine wpL_seq ?_
            refine wpL_seq ?_
            refine wpL_region ?_
            refine sY hf hs rfl rfl rfl (Y_load_blkS rfl rfl (i := 0) rfl ag34 ti34 rfl) ?_; clear hf; intro a hf
            refine sY hf hs rfl rfl rfl (Y_load_blkS rfl rfl (i := 2) rfl ag36 ti36 rfl) ?_; clear hf; intro a hf
            obtain ⟨r114, hc115, hm⟩ := bind_some hm
            refine sCall hf rfl rfl rfl rfl (cap := []) rfl rfl en96 (impl_isTimetable_ok F p0_g A_p0_g_1 p0_g.Places.length c_p0_g_1 rfl (GTimetable.mk x45 xs101) A47 n48 c49 hn102 _ _ hc115 (h_p0_g_1.at hs) (hs.rd (i := 3) rfl)) ?_; clear hf
            rintro _ w ⟨rfl, hs1⟩ a hf
            have hs : St [] W w [.blk b1 34 [.int .i64 p0_g.Events, .slice A_p0_g_1 p0_g.Places.length c_p0_g_1], .blk b3 36 [.int .i64 0, .slice none 0 0], .blk b44 36 [.int .i64 x45, .slice A47 n48 c49], .row A47 n48 c49 2 1 (ints xs101)] := hs.ext hs1.below
            clear hs1
            refine sY hf hs rfl rfl rfl (Y_not rfl rfl) ?_; clear hf; intro a hf
            refine wpO_nil ?_
            refine wpL_cond hf rfl (fun hb116 => ?_) (fun hb116 => ?_)
            · have hm := bif_t hm hb116
              refine wpL_seq ?_
              refine wpL_region ?_
              refine sY hf hs rfl rfl rfl (Y_build (parts := []) (vs := []) rfl rfl (run_build (parts := []) (cells := [.int .i64 0, .slice none 0 0]) (places := #[(0, 1), (1, 1)]) ti36 Try.underlying36 (fun w => by simp [go_sem]) rfl)) ?_; clear hf; intro a hf
              refine sStore (i := 1) (us := [.int .i64 0, .slice none 0 0]) hf hs rfl rfl rfl rfl rfl rfl ti36 rfl rfl rfl (Nat.le_of_ble_eq_true rfl) rfl ?_; clear hs; intro w hs
              have hs : St [] W w [.blk b1 34 [.int .i64 p0_g.Events, .slice A_p0_g_1 p0_g.Places.length c_p0_g_1], .blk b3 36 [.int .i64 0, .slice none 0 0], .blk b44 36 [.int .i64 x45, .slice A47 n48 c49], .row A47 n48 c49 2 1 (ints xs101)] := hs
              refine sY hf hs rfl rfl rfl (Y_assign rfl rfl) ?_; clear hf; intro a hf
              refine wpO_nil ?_
              have hs : St [] W _ [.blk b1 34 [.int .i64 p0_g.Events, .slice A_p0_g_1 p0_g.Places.length c_p0_g_1], .blk b3 36 [.int .i64 0, .slice none 0 0], .blk b44 36 [.int .i64 x45, .slice A47 n48 c49], .row A47 n48 c49 2 1 (ints xs101), .row none 0 0 2 1 (ints ([] : List Int))] := hs.addNil 2 1
              obtain rfl := Option.some.inj hm
              refine wpL_ret (ret_cell_tmp rfl hf rfl rfl hs (i := 1) rfl ag36 ti36 rfl ?_)
              exact ⟨_, rfl, none, 0, 0, rfl, rfl, hs.sel [4] (by decide)⟩
            · have hm := bif_f hm hb116
              refine wpL_skip ?_
              refine wpL_seq ?_
              refine wpL_region ?_
              refine sY hf hs rfl rfl rfl (Y_load_blkS rfl rfl (i := 2) rfl ag36 ti36 rfl) ?_; clear hf; intro a hf
              refine sStore (i := 1) (us := [.int .i64 x45, .slice A47 n48 c49]) hf hs rfl rfl rfl rfl rfl rfl ti36 rfl rfl rfl (Nat.le_of_ble_eq_true rfl) rfl ?_; clear hs; intro w hs
              have hs : St [] W w [.blk b1 34 [.int .i64 p0_g.Events, .slice A_p0_g_1 p0_g.Places.length c_p0_g_1], .blk b3 36 [.int .i64 x45, .slice A47 n48 c49], .blk b44 36 [.int .i64 x45, .slice A47 n48 c49], .row A47 n48 c49 2 1 (ints xs101)] := hs
              refine sY hf hs rfl rfl rfl (Y_assign rfl rfl) ?_; clear hf; intro a hf
              refine wpO_nil ?_
              obtain rfl := Option.some.inj hm
              refine wpL_ret (ret_cell_tmp rfl hf rfl rfl hs (i := 1) rfl ag36 ti36 rfl ?_)
              exact ⟨_, rfl, A47, n48, c49, rfl, hn102, hs.sel [3] (by decide)⟩

set_option maxRecDepth 100000 in
theorem laws_eqInt64S_ok (F : Nat) (p0_a : List Int) (A_p0_a_1 : Option Addr) (n_p0_a_1 c_p0_a_1 : Nat) (hn_p0_a_1 : n_p0_a_1 = p0_a.length) (p1_b : List Int) (A_p1_b_1 : Option Addr) (n_p1_b_1 c_p1_b_1 : Nat) (hn_p1_b_1 : n_p1_b_1 = p1_b.length) (r : Bool) (W : World) (hm : laws_eqInt64S F p0_a p1_b = some r) (h_p0_a_1 : Rd W A_p0_a_1 (ints p0_a)) (h_p1_b_1 : Rd W A_p1_b_1 (ints p1_b)) :
    Calls Try.prog 34 [.slice A_p0_a_1 n_p0_a_1 c_p0_a_1, .slice A_p1_b_1 n_p1_b_1 c_p1_b_1].toArray W fun e w' => ∃ v, e = .returned v ∧ v = .bool r ∧ St [] W w' [] := by
  subst hn_p0_a_1
  subst hn_p1_b_1
  unfold laws_eqInt64S at hm
  refine Calls.enter (N := 26) Try.func34 rfl rfl rfl (fun a hf => ?_)
  have hs := St.start W
  obtain ⟨w, hw_⟩ : ∃ w, w = W := ⟨W, rfl⟩
  clear hw_ w
  refine wpL_seq ?_
  refine wpL_region ?_
  refine sY hf hs rfl rfl rfl (Y_assign rfl rfl) ?_; clear hf; intro a hf
  refine wpO_nil ?_
  refine wpL_seq ?_
  refine wpL_seq ?_
  refine wpL_region ?_
  refine sY hf hs rfl rfl rfl (Y_move rfl rfl) ?_; clear hf; intro a hf
  refine sY hf hs rfl rfl rfl (Y_lenH rfl rfl el25 rfl) ?_; clear hf; intro a hf
  refine sY hf hs rfl rfl rfl (Y_move rfl rfl) ?_; clear hf; intro a hf
  refine sY hf hs rfl rfl rfl (Y_lenH rfl rfl el25 rfl) ?_; clear hf; intro a hf
  refine sY hf hs rfl rfl rfl (Y_neq rfl rfl rfl) ?_; clear hf; intro a hf
  refine wpO_nil ?_
  refine wpL_cond hf rfl (fun hb1 => ?_) (fun hb1 => ?_)
  · have hm := bif_t hm hb1
    refine wpL_seq ?_
    refine wpL_region ?_
    refine sY hf hs rfl rfl rfl (Y_assign rfl rfl) ?_; clear hf; intro a hf
    refine wpO_nil ?_
    obtain rfl := Option.some.inj hm
    refine wpL_ret (ret_tmp rfl hf rfl ?_)
    exact ⟨_, rfl, rfl, hs⟩
  · have hm := bif_f hm hb1
    refine wpL_skip ?_
    refine wpL_seq ?_
    refine wpL_seq ?_
    refine wpL_region ?_
    refine sY hf hs rfl rfl rfl (Y_assign rfl rfl) ?_; clear hf; intro a hf
    refine wpO_nil ?_
    obtain ⟨r22, hl23, hm⟩ := bind_some hm
    refine wpL_block (fun a w => Sum.inr () = r22 ∧ Fr a 26 [] ∧ St [] W w []) ?_ ?_
    · refine wpL_loop (fun n a w => ∃ x15 : Int, laws_eqInt64S_L1 F p0_a p1_b n x15 = some r22 ∧ Fr a 26 [(0, .slice A_p0_a_1 p0_a.length c_p0_a_1), (1, .slice A_p1_b_1 p1_b.length c_p1_b_1), (5, .int .i64 x15)] ∧ St [] W w []) F ?_ ?_ ?_
      · exact ⟨0, hl23, (Fr.pick (Fr.pick (Fr.pick hf.none hf rfl) hf rfl) hf rfl), hs⟩
      · rintro a w ⟨x15, h0_, -, -⟩; simp [laws_eqInt64S_L1] at h0_
      · rintro n25 a w ⟨x15, hm24, hf, hs⟩
        rw [laws_eqInt64S_L1] at hm24
        refine wpL_seq ?_
        refine wpL_seq ?_
        refine wpL_region ?_
        refine sY hf hs rfl rfl rfl (Y_move rfl rfl) ?_; clear hf; intro a hf
        refine sY hf hs rfl rfl rfl (Y_move rfl rfl) ?_; clear hf; intro a hf
        refine sY hf hs rfl rfl rfl (Y_lenH rfl rfl el25 rfl) ?_; clear hf; intro a hf
        refine sY hf hs rfl rfl rfl (Y_lss rfl rfl rfl) ?_; clear hf; intro a hf
        refine wpO_nil ?_
        refine wpL_cond hf rfl (fun hb26 => ?_) (fun hb26 => ?_)
        · have hm24 := bif_t hm24 hb26
          refine wpL_skip ?_
          refine wpL_seq ?_
          refine wpL_block0 ?_
          refine wpL_seq ?_
          refine wpL_draw (by kernel_rfl) (by kernel_rfl) hs ?_
          refine qY hf rfl rfl rfl (Y_move rfl rfl) ?_; clear hf; intro a hf
          refine qY hf rfl rfl rfl (Y_move rfl rfl) ?_; clear hf; intro a hf
          obtain ⟨q27, hi28, hm24⟩ := bind_some hm24
          obtain ⟨hi28a, hi28b, hi28q⟩ := idx_some hi28
          refine qY hf rfl rfl rfl (Y_index rfl rfl rfl el25 ti2 (Rd.isAt (h_p0_a_1.at hs) (at1 (ints_at hi28q))) hi28a hi28b) ?_; clear hf; intro a hf
          refine qY hf rfl rfl rfl (Y_load_rd rfl rfl (fun w hs => h_p0_a_1.at hs) (at1 (ints_at hi28q)) ag2) ?_; clear hf; intro a hf
          refine qY hf rfl rfl rfl (Y_move rfl rfl) ?_; clear hf; intro a hf
          refine qY hf rfl rfl rfl (Y_move rfl rfl) ?_; clear hf; intro a hf
          obtain ⟨q29, hi30, hm24⟩ := bind_some hm24
          obtain ⟨hi30a, hi30b, hi30q⟩ := idx_some hi30
          refine qY hf rfl rfl rfl (Y_index rfl rfl rfl el25 ti2 (Rd.isAt (h_p1_b_1.at hs) (at1 (ints_at hi30q))) hi30a hi30b) ?_; clear hf; intro a hf
          refine qY hf rfl rfl rfl (Y_load_rd rfl rfl (fun w hs => h_p1_b_1.at hs) (at1 (ints_at hi30q)) ag2) ?_; clear hf; intro a hf
          refine qY hf rfl rfl rfl (Y_neq rfl rfl rfl) ?_; clear hf; intro a hf
          refine qNil ?_; clear hs; intro w hs
          refine wpL_cond hf rfl (fun hb31 => ?_) (fun hb31 => ?_)
          · have hm24 := bif_t hm24 hb31
            refine wpL_seq ?_
            refine wpL_region ?_
            refine sY hf hs rfl rfl rfl (Y_assign rfl rfl) ?_; clear hf; intro a hf
            refine wpO_nil ?_
            obtain rfl := Option.some.inj hm24
            try dsimp only at hm
            obtain rfl := Option.some.inj hm
            refine wpL_ret (Qb_ret (Ql_ret (Qb_ret (ret_tmp rfl hf rfl ?_))))
            exact ⟨_, rfl, rfl, hs⟩
          · have hm24 := bif_f hm24 hb31
            refine wpL_skip ?_
            refine wpL_nil (Qb_normal ?_)
            refine wpL_region ?_
            refine sY hf hs rfl rfl rfl (Y_move rfl rfl) ?_; clear hf; intro a hf
            refine sY hf hs rfl rfl rfl (Y_add rfl rfl rfl) ?_; clear hf; intro a hf
            refine sY hf hs rfl rfl rfl (Y_assign rfl rfl) ?_; clear hf; intro a hf
            refine wpO_nil ?_
            refine wpL_nil (Ql_normal ?_)
            exact ⟨(IntKind.i64.wrap (x15 + 1)), hm24, (Fr.pick (Fr.pick (Fr.pick hf.none hf rfl) hf rfl) hf rfl), hs⟩
        · have hm24 := bif_f hm24 hb26
          refine wpL_exit (Ql_exit (Qb_exit ?_))
          exact ⟨Option.some.inj hm24, hf.none, hs⟩
    · rintro a w ⟨hr_, hf, hs⟩
      subst hr_
      try dsimp only at hm
      refine wpL_seq ?_
      refine wpL_region ?_
      refine sY hf hs rfl rfl rfl (Y_assign rfl rfl) ?_; clear hf; intro a hf
      refine wpO_nil ?_
      obtain rfl := Option.some.inj hm
      refine wpL_ret (ret_tmp rfl hf rfl ?_)
      exact ⟨_, rfl, rfl, hs⟩

set_option maxRecDepth 100000 in
theorem laws_eqTimetable_ok (F : Nat) (p0_a : GTimetable) (A_p0_a_1 : Option Addr) (n_p0_a_1 c_p0_a_1 : Nat) (hn_p0_a_1 : n_p0_a_1 = p0_a.Starts.length) (p1_b : GTimetable) (A_p1_b_1 : Option Addr) (n_p1_b_1 c_p1_b_1 : Nat) (hn_p1_b_1 : n_p1_b_1 = p1_b.Starts.length) (r : Bool) (W : World) (hm : laws_eqTimetable F p0_a p1_b = some r) (h_p0_a_1 : Rd W A_p0_a_1 (ints p0_a.Starts)) (h_p1_b_1 : Rd W A_p1_b_1 (ints p1_b.Starts)) :
    Calls Try.prog 22 [.agg #[.int .i64 p0_a.Period, .slice A_p0_a_1 n_p0_a_1 c_p0_a_1], .agg #[.int .i64 p1_b.Period, .slice A_p1_b_1 n_p1_b_1 c_p1_b_1]].toArray W fun e w' => ∃ v, e = .returned v ∧ v = .bool r ∧ St [] W w' [] := by
  subst hn_p0_a_1
  subst hn_p1_b_1
  unfold laws_eqTimetable at hm
  refine Calls.enter (N := 16) Try.func22 rfl rfl rfl (fun a hf => ?_)
  have hs := St.start W
  obtain ⟨w, hw_⟩ : ∃ w, w = W := ⟨W, rfl⟩
  clear hw_ w
  refine wpL_seq ?_
  refine wpL_region ?_
  refine sBox hf hs rfl rfl rfl rfl rfl (cs := [.int .i64 p0_a.Period, .slice A_p0_a_1 p0_a.Starts.length c_p0_a_1]) rfl ?_; clear hf hs; intro a w b1 hs hf
  have hs : St [] W w [.blk b1 36 [.int .i64 p0_a.Period, .slice A_p0_a_1 p0_a.Starts.length c_p0_a_1]] := hs
  refine sBox hf hs rfl rfl rfl rfl rfl (cs := [.int .i64 p1_b.Period, .slice A_p1_b_1 p1_b.Starts.length c_p1_b_1]) rfl ?_; clear hf hs; intro a w b2 hs hf
  have hs : St [] W w [.blk b1 36 [.int .i64 p0_a.Period, .slice A_p0_a_1 p0_a.Starts.length c_p0_a_1], .blk b2 36 [.int .i64 p1_b.Period, .slice A_p1_b_1 p1_b.Starts.length c_p1_b_1]] := hs
  refine sY hf hs rfl rfl rfl (Y_assign rfl rfl) ?_; clear hf; intro a hf
  refine wpO_nil ?_
  refine wpL_seq ?_
  refine wpL_seq ?_
  refine wpL_region ?_
  refine sY hf hs rfl rfl rfl (Y_fieldAddr rfl rfl fo36_0) ?_; clear hf; intro a hf
  refine sY hf hs rfl rfl rfl (Y_load_blk rfl rfl (i := 0) rfl rfl ag2) ?_; clear hf; intro a hf
  refine sY hf hs rfl rfl rfl (Y_fieldAddr rfl rfl fo36_0) ?_; clear hf; intro a hf
  refine sY hf hs rfl rfl rfl (Y_load_blk rfl rfl (i := 1) rfl rfl ag2) ?_; clear hf; intro a hf
  refine sY hf hs rfl rfl rfl (Y_neq rfl rfl rfl) ?_; clear hf; intro a hf
  refine wpO_nil ?_
  refine wpL_cond hf rfl (fun hb3 => ?_) (fun hb3 => ?_)
  · have hm := bif_t hm hb3
    refine wpL_seq ?_
    refine wpL_region ?_
    refine sY hf hs rfl rfl rfl (Y_assign rfl rfl) ?_; clear hf; intro a hf
    refine wpO_nil ?_
    obtain rfl := Option.some.inj hm
    refine wpL_ret (ret_tmp rfl hf rfl ?_)
    exact ⟨_, rfl, rfl, hs.sel [] (by decide)⟩
  · have hm := bif_f hm hb3
    refine wpL_skip ?_
    refine wpL_seq ?_
    refine wpL_seq ?_
    refine wpL_region ?_
    refine sY hf hs rfl rfl rfl (Y_fieldAddr rfl rfl fo36_1) ?_; clear hf; intro a hf
    refine sY hf hs rfl rfl rfl (Y_load_blk rfl rfl (i := 0) rfl rfl ag25) ?_; clear hf; intro a hf
    refine sY hf hs rfl rfl rfl (Y_fieldAddr rfl rfl fo36_1) ?_; clear hf; intro a hf
    refine sY hf hs rfl rfl rfl (Y_load_blk rfl rfl (i := 1) rfl rfl ag25) ?_; clear hf; intro a hf
    obtain ⟨r4, hc5, hm⟩ := bind_some hm
    refine sCall hf rfl rfl rfl rfl (cap := []) rfl rfl en34 (laws_eqInt64S_ok F p0_a.Starts A_p0_a_1 p0_a.Starts.length c_p0_a_1 rfl p1_b.Starts A_p1_b_1 p1_b.Starts.length c_p1_b_1 rfl _ _ hc5 (h_p0_a_1.at hs) (h_p1_b_1.at hs)) ?_; clear hf
    rintro _ w ⟨rfl, hs1⟩ a hf
    have hs : St [] W w [.blk b1 36 [.int .i64 p0_a.Period, .slice A_p0_a_1 p0_a.Starts.length c_p0_a_1], .blk b2 36 [.int .i64 p1_b.Period, .slice A_p1_b_1 p1_b.Starts.length c_p1_b_1]] := hs.ext hs1.below
    clear hs1
    refine sY hf hs rfl rfl rfl (Y_not rfl rfl) ?_; clear hf; intro a hf
    refine wpO_nil ?_
    refine wpL_cond hf rfl (fun hb6 => ?_) (fun hb6 => ?_)
    · have hm := bif_t hm hb6
      refine wpL_seq ?_
      refine wpL_region ?_
      refine sY hf hs rfl rfl rfl (Y_assign rfl rfl) ?_; clear hf; intro a hf
      refine wpO_nil ?_
      obtain rfl := Option.some.inj hm
      refine wpL_ret (ret_tmp rfl hf rfl ?_)
      exact ⟨_, rfl, rfl, hs.sel [] (by decide)⟩
    · have hm := bif_f hm hb6
      refine wpL_skip ?_
      refine wpL_seq ?_
      refine wpL_region ?_
      refine sY hf hs rfl rfl rfl (Y_assign rfl rfl) ?_; clear hf; intro a hf
      refine wpO_nil ?_
      obtain rfl := Option.some.inj hm
      refine wpL_ret (ret_tmp rfl hf rfl ?_)
      exact ⟨_, rfl, rfl, hs.sel [] (by decide)⟩

end Go.Proofs.Ythbcakdjdbfepaa
