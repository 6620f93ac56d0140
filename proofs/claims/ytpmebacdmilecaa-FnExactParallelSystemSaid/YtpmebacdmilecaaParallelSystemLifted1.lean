/- The functions do what their models say. -/
import Derived.Test.YtpmebacdmilecaaParallelSystemFacts
import Derived.Test.YtpmebacdmilecaaRows
namespace Go.Proofs.Ytpmebacdmilecaa
open Go.RowKit

set_option maxRecDepth 100000 in
theorem laws_szInt64S_ok (F : Nat) (p0_a : List Int) (A_p0_a_1 : Option Addr) (n_p0_a_1 c_p0_a_1 : Nat) (hn_p0_a_1 : n_p0_a_1 = p0_a.length) (p1_left : Int) (r : Int) (W : World) (hm : laws_szInt64S F p0_a p1_left = some r) (_h_p0_a_1 : Rd W A_p0_a_1 (ints p0_a)) :
    Calls Try.prog 96 [.slice A_p0_a_1 n_p0_a_1 c_p0_a_1, .int .i64 p1_left].toArray W fun e w' => ∃ v, e = .returned v ∧ v = .int .i64 r ∧ St [] W w' [] := by
  subst hn_p0_a_1
  unfold laws_szInt64S at hm
  refine Calls.enter (N := 12) Try.func96 rfl rfl rfl (fun a hf => ?_)
  have hs := St.start W
  obtain ⟨w, hw_⟩ : ∃ w, w = W := ⟨W, rfl⟩
  clear hw_ w
  refine wpL_seq ?_
  refine wpL_region ?_
  refine sY hf hs rfl rfl rfl (Y_assign rfl rfl) ?_; clear hf; intro a hf
  refine wpO_nil ?_
  refine wpL_seq ?_
  refine wpL_region ?_
  refine sY hf hs rfl rfl rfl (Y_move rfl rfl) ?_; clear hf; intro a hf
  refine sY hf hs rfl rfl rfl (Y_move rfl rfl) ?_; clear hf; intro a hf
  refine sY hf hs rfl rfl rfl (Y_lenH rfl rfl el23 rfl) ?_; clear hf; intro a hf
  refine sY hf hs rfl rfl rfl (Y_sub rfl rfl rfl) ?_; clear hf; intro a hf
  refine sY hf hs rfl rfl rfl (Y_assign rfl rfl) ?_; clear hf; intro a hf
  refine wpO_nil ?_
  refine wpL_seq ?_
  refine wpL_seq ?_
  refine wpL_region ?_
  refine sY hf hs rfl rfl rfl (Y_move rfl rfl) ?_; clear hf; intro a hf
  refine sY hf hs rfl rfl rfl (Y_lss rfl rfl rfl) ?_; clear hf; intro a hf
  refine wpO_nil ?_
  refine wpL_cond hf rfl (fun hb1 => ?_) (fun hb1 => ?_)
  · have hm := bif_t hm hb1
    refine wpL_seq ?_
    refine wpL_region ?_
    refine sY hf hs rfl rfl rfl (Y_assign rfl rfl) ?_; clear hf; intro a hf
    refine wpO_nil ?_
    obtain rfl := Option.some.inj hm
    refine wpL_ret (ret_tmp rfl hf rfl ?_)
    exact ⟨_, rfl, rfl, hs⟩
  · have hm := bif_f hm hb1
    refine wpL_skip ?_
    refine wpL_seq ?_
    refine wpL_region ?_
    refine sY hf hs rfl rfl rfl (Y_move rfl rfl) ?_; clear hf; intro a hf
    refine sY hf hs rfl rfl rfl (Y_assign rfl rfl) ?_; clear hf; intro a hf
    refine wpO_nil ?_
    obtain rfl := Option.some.inj hm
    refine wpL_ret (ret_tmp rfl hf rfl ?_)
    exact ⟨_, rfl, rfl, hs⟩

set_option maxRecDepth 100000 in
theorem laws_szInt64SS_ok (F : Nat) (p0_a : List (List Int)) (A_p0_a_1 : Option Addr) (n_p0_a_1 c_p0_a_1 : Nat) (hn_p0_a_1 : n_p0_a_1 = p0_a.length) (p1_left : Int) (r : Int) (W : World) (hm : laws_szInt64SS F p0_a p1_left = some r) (h_p0_a_1 : RdM W A_p0_a_1 p0_a) :
    Calls Try.prog 52 [.slice A_p0_a_1 n_p0_a_1 c_p0_a_1, .int .i64 p1_left].toArray W fun e w' => ∃ v, e = .returned v ∧ v = .int .i64 r ∧ St [] W w' [] := by
  subst hn_p0_a_1
  unfold laws_szInt64SS at hm
  refine Calls.enter (N := 27) Try.func52 rfl rfl rfl (fun a hf => ?_)
  have hs := St.start W
  obtain ⟨w, hw_⟩ : ∃ w, w = W := ⟨W, rfl⟩
  clear hw_ w
  refine wpL_seq ?_
  refine wpL_region ?_
  refine sY hf hs rfl rfl rfl (Y_assign rfl rfl) ?_; clear hf; intro a hf
  refine wpO_nil ?_
  refine wpL_seq ?_
  refine wpL_region ?_
  refine sY hf hs rfl rfl rfl (Y_move rfl rfl) ?_; clear hf; intro a hf
  refine sY hf hs rfl rfl rfl (Y_move rfl rfl) ?_; clear hf; intro a hf
  refine sY hf hs rfl rfl rfl (Y_lenH rfl rfl el46 rfl) ?_; clear hf; intro a hf
  refine sY hf hs rfl rfl rfl (Y_sub rfl rfl rfl) ?_; clear hf; intro a hf
  refine sY hf hs rfl rfl rfl (Y_assign rfl rfl) ?_; clear hf; intro a hf
  refine wpO_nil ?_
  refine wpL_seq ?_
  refine wpL_seq ?_
  refine wpL_region ?_
  refine sY hf hs rfl rfl rfl (Y_move rfl rfl) ?_; clear hf; intro a hf
  refine sY hf hs rfl rfl rfl (Y_lss rfl rfl rfl) ?_; clear hf; intro a hf
  refine wpO_nil ?_
  refine wpL_cond hf rfl (fun hb1 => ?_) (fun hb1 => ?_)
  · have hm := bif_t hm hb1
    refine wpL_seq ?_
    refine wpL_region ?_
    refine sY hf hs rfl rfl rfl (Y_assign rfl rfl) ?_; clear hf; intro a hf
    refine wpO_nil ?_
    obtain rfl := Option.some.inj hm
    refine wpL_ret (ret_tmp rfl hf rfl ?_)
    exact ⟨_, rfl, rfl, hs⟩
  · have hm := bif_f hm hb1
    refine wpL_skip ?_
    refine wpL_seq ?_
    refine wpL_seq ?_
    refine wpL_region ?_
    refine sY hf hs rfl rfl rfl (Y_assign rfl rfl) ?_; clear hf; intro a hf
    refine wpO_nil ?_
    obtain ⟨r46, hl47, hm⟩ := bind_some hm
    refine wpL_block (fun a w => ∃ x45 : Int, Sum.inr x45 = r46 ∧ Fr a 27 [(1, .int .i64 x45)] ∧ St [] W w []) ?_ ?_
    · refine wpL_loop (fun n a w => ∃ x30 : Int, ∃ x31 : Int, laws_szInt64SS_L1 F p0_a n x30 x31 = some r46 ∧ Fr a 27 [(0, .slice A_p0_a_1 p0_a.length c_p0_a_1), (1, .int .i64 x30), (5, .int .i64 x31)] ∧ St [] W w []) F ?_ ?_ ?_
      · exact ⟨(IntKind.i64.wrap (p1_left - (p0_a.length : Int))), 0, hl47, (FrD.pick (FrD.pick (FrD.pick hf.none hf rfl) hf rfl) hf rfl), hs⟩
      · rintro a w ⟨x30, x31, h0_, -, -⟩; simp [laws_szInt64SS_L1] at h0_
      · rintro n49 a w ⟨x30, x31, hm48, hf, hs⟩
        rw [laws_szInt64SS_L1] at hm48
        refine wpL_seq ?_
        refine wpL_seq ?_
        refine wpL_region ?_
        refine sY hf hs rfl rfl rfl (Y_move rfl rfl) ?_; clear hf; intro a hf
        refine sY hf hs rfl rfl rfl (Y_move rfl rfl) ?_; clear hf; intro a hf
        refine sY hf hs rfl rfl rfl (Y_lenH rfl rfl el46 rfl) ?_; clear hf; intro a hf
        refine sY hf hs rfl rfl rfl (Y_lss rfl rfl rfl) ?_; clear hf; intro a hf
        refine wpO_nil ?_
        refine wpL_cond hf rfl (fun hb50 => ?_) (fun hb50 => ?_)
        · have hm48 := bif_t hm48 hb50
          refine wpL_skip ?_
          refine wpL_seq ?_
          refine wpL_block0 ?_
          refine wpL_seq ?_
          refine wpL_region ?_
          refine sY hf hs rfl rfl rfl (Y_move rfl rfl) ?_; clear hf; intro a hf
          refine sY hf hs rfl rfl rfl (Y_move rfl rfl) ?_; clear hf; intro a hf
          obtain ⟨q51, hi52, hm48⟩ := bind_some hm48
          obtain ⟨hi52a, hi52b, hi52q⟩ := idx_some hi52
          obtain ⟨vs53, hv54, hr55⟩ := id h_p0_a_1
          obtain ⟨A56, c57, hv58, hR59⟩ := hr55 _ _ hi52q
          refine sY hf hs rfl rfl rfl (Y_index rfl rfl rfl el46 ti23 (Rd.isAt hv54 hv58) hi52a hi52b) ?_; clear hf; intro a hf
          refine sY hf hs rfl rfl rfl (Y_load_rd rfl rfl (fun w hs => hv54.at hs) (at1 hv58) ag23) ?_; clear hf; intro a hf
          refine sY hf hs rfl rfl rfl (Y_move rfl rfl) ?_; clear hf; intro a hf
          obtain ⟨r60, hc61, hm48⟩ := bind_some hm48
          refine sCall hf rfl rfl rfl rfl (cap := []) rfl rfl en96 (laws_szInt64S_ok F q51 A56 q51.length c57 rfl x30 _ _ hc61 (hR59.at hs)) ?_; clear hf
          rintro _ w ⟨rfl, hs1⟩ a hf
          have hs : St [] W w [] := hs.ext hs1.below
          clear hs1
          refine sY hf hs rfl rfl rfl (Y_assign rfl rfl) ?_; clear hf; intro a hf
          refine wpO_nil ?_
          refine wpL_seq ?_
          refine wpL_region ?_
          refine sY hf hs rfl rfl rfl (Y_move rfl rfl) ?_; clear hf; intro a hf
          refine sY hf hs rfl rfl rfl (Y_lss rfl rfl rfl) ?_; clear hf; intro a hf
          refine wpO_nil ?_
          refine wpL_cond hf rfl (fun hb62 => ?_) (fun hb62 => ?_)
          · have hm48 := bif_t hm48 hb62
            refine wpL_seq ?_
            refine wpL_region ?_
            refine sY hf hs rfl rfl rfl (Y_assign rfl rfl) ?_; clear hf; intro a hf
            refine wpO_nil ?_
            obtain rfl := Option.some.inj hm48
            try dsimp only at hm
            obtain rfl := Option.some.inj hm
            refine wpL_ret (Qb_ret (Ql_ret (Qb_ret (ret_tmp rfl hf rfl ?_))))
            exact ⟨_, rfl, rfl, hs⟩
          · have hm48 := bif_f hm48 hb62
            refine wpL_skip ?_
            refine wpL_nil (Qb_normal ?_)
            refine wpL_region ?_
            refine sY hf hs rfl rfl rfl (Y_move rfl rfl) ?_; clear hf; intro a hf
            refine sY hf hs rfl rfl rfl (Y_add rfl rfl rfl) ?_; clear hf; intro a hf
            refine sY hf hs rfl rfl rfl (Y_assign rfl rfl) ?_; clear hf; intro a hf
            refine wpO_nil ?_
            refine wpL_nil (Ql_normal ?_)
            exact ⟨r60, (IntKind.i64.wrap (x31 + 1)), hm48, (FrD.pick (FrD.pick (FrD.pick hf.none hf rfl) hf rfl) hf rfl), hs⟩
        · have hm48 := bif_f hm48 hb50
          refine wpL_exit (Ql_exit (Qb_exit ?_))
          exact ⟨x30, Option.some.inj hm48, (FrD.pick hf.none hf rfl), hs⟩
    · rintro a w ⟨x45, hr_, hf, hs⟩
      subst hr_
      try dsimp only at hm
      refine wpL_seq ?_
      refine wpL_region ?_
      refine sY hf hs rfl rfl rfl (Y_move rfl rfl) ?_; clear hf; intro a hf
      refine sY hf hs rfl rfl rfl (Y_assign rfl rfl) ?_; clear hf; intro a hf
      refine wpO_nil ?_
      obtain rfl := Option.some.inj hm
      refine wpL_ret (ret_tmp rfl hf rfl ?_)
      exact ⟨_, rfl, rfl, hs⟩

set_option maxRecDepth 100000 in
theorem laws_szSystem_ok (F : Nat) (p0_a : LSystem) (A_p0_a_1 : Option Addr) (n_p0_a_1 c_p0_a_1 : Nat) (hn_p0_a_1 : n_p0_a_1 = p0_a.A.length) (A_p0_a_2 : Option Addr) (n_p0_a_2 c_p0_a_2 : Nat) (hn_p0_a_2 : n_p0_a_2 = p0_a.B.length) (A_p0_a_3 : Option Addr) (n_p0_a_3 c_p0_a_3 : Nat) (hn_p0_a_3 : n_p0_a_3 = p0_a.C.length) (p1_left : Int) (r : Int) (W : World) (hm : laws_szSystem F p0_a p1_left = some r) (h_p0_a_1 : RdM W A_p0_a_1 p0_a.A) (h_p0_a_2 : Rd W A_p0_a_2 (ints p0_a.B)) (h_p0_a_3 : Rd W A_p0_a_3 (ints p0_a.C)) :
    Calls Try.prog 38 [.agg #[.slice A_p0_a_1 n_p0_a_1 c_p0_a_1, .slice A_p0_a_2 n_p0_a_2 c_p0_a_2, .slice A_p0_a_3 n_p0_a_3 c_p0_a_3], .int .i64 p1_left].toArray W fun e w' => ∃ v, e = .returned v ∧ v = .int .i64 r ∧ St [] W w' [] := by
  subst hn_p0_a_1
  subst hn_p0_a_2
  subst hn_p0_a_3
  unfold laws_szSystem at hm
  refine Calls.enter (N := 24) Try.func38 rfl rfl rfl (fun a hf => ?_)
  have hs := St.start W
  obtain ⟨w, hw_⟩ : ∃ w, w = W := ⟨W, rfl⟩
  clear hw_ w
  refine wpL_seq ?_
  refine wpL_region ?_
  refine sBox hf hs rfl rfl rfl rfl rfl (cs := [.slice A_p0_a_1 p0_a.A.length c_p0_a_1, .slice A_p0_a_2 p0_a.B.length c_p0_a_2, .slice A_p0_a_3 p0_a.C.length c_p0_a_3]) rfl ?_; clear hf hs; intro a w b1 hs hf
  have hs : St [] W w [.blk b1 53 [.slice A_p0_a_1 p0_a.A.length c_p0_a_1, .slice A_p0_a_2 p0_a.B.length c_p0_a_2, .slice A_p0_a_3 p0_a.C.length c_p0_a_3]] := hs
  refine sY hf hs rfl rfl rfl (Y_assign rfl rfl) ?_; clear hf; intro a hf
  refine wpO_nil ?_
  refine wpL_seq ?_
  refine wpL_region ?_
  refine sY hf hs rfl rfl rfl (Y_fieldAddr rfl rfl fo53_0) ?_; clear hf; intro a hf
  refine sY hf hs rfl rfl rfl (Y_load_blk rfl rfl (i := 0) rfl rfl ag46) ?_; clear hf; intro a hf
  refine sY hf hs rfl rfl rfl (Y_move rfl rfl) ?_; clear hf; intro a hf
  obtain ⟨r2, hc3, hm⟩ := bind_some hm
  refine sCall hf rfl rfl rfl rfl (cap := []) rfl rfl en52 (laws_szInt64SS_ok F p0_a.A A_p0_a_1 p0_a.A.length c_p0_a_1 rfl p1_left _ _ hc3 (h_p0_a_1.at hs)) ?_; clear hf
  rintro _ w ⟨rfl, hs1⟩ a hf
  have hs : St [] W w [.blk b1 53 [.slice A_p0_a_1 p0_a.A.length c_p0_a_1, .slice A_p0_a_2 p0_a.B.length c_p0_a_2, .slice A_p0_a_3 p0_a.C.length c_p0_a_3]] := hs.ext hs1.below
  clear hs1
  refine sY hf hs rfl rfl rfl (Y_assign rfl rfl) ?_; clear hf; intro a hf
  refine wpO_nil ?_
  refine wpL_seq ?_
  refine wpL_seq ?_
  refine wpL_region ?_
  refine sY hf hs rfl rfl rfl (Y_move rfl rfl) ?_; clear hf; intro a hf
  refine sY hf hs rfl rfl rfl (Y_lss rfl rfl rfl) ?_; clear hf; intro a hf
  refine wpO_nil ?_
  refine wpL_cond hf rfl (fun hb4 => ?_) (fun hb4 => ?_)
  · have hm := bif_t hm hb4
    refine wpL_seq ?_
    refine wpL_region ?_
    refine sY hf hs rfl rfl rfl (Y_assign rfl rfl) ?_; clear hf; intro a hf
    refine wpO_nil ?_
    obtain rfl := Option.some.inj hm
    refine wpL_ret (ret_tmp rfl hf rfl ?_)
    exact ⟨_, rfl, rfl, hs.sel [] (by decide)⟩
  · have hm := bif_f hm hb4
    refine wpL_skip ?_
    refine wpL_seq ?_
    refine wpL_region ?_
    refine sY hf hs rfl rfl rfl (Y_fieldAddr rfl rfl fo53_1) ?_; clear hf; intro a hf
    refine sY hf hs rfl rfl rfl (Y_load_blk rfl rfl (i := 0) rfl rfl ag23) ?_; clear hf; intro a hf
    refine sY hf hs rfl rfl rfl (Y_move rfl rfl) ?_; clear hf; intro a hf
    obtain ⟨r5, hc6, hm⟩ := bind_some hm
    refine sCall hf rfl rfl rfl rfl (cap := []) rfl rfl en96 (laws_szInt64S_ok F p0_a.B A_p0_a_2 p0_a.B.length c_p0_a_2 rfl r2 _ _ hc6 (h_p0_a_2.at hs)) ?_; clear hf
    rintro _ w ⟨rfl, hs1⟩ a hf
    have hs : St [] W w [.blk b1 53 [.slice A_p0_a_1 p0_a.A.length c_p0_a_1, .slice A_p0_a_2 p0_a.B.length c_p0_a_2, .slice A_p0_a_3 p0_a.C.length c_p0_a_3]] := hs.ext hs1.below
    clear hs1
    refine sY hf hs rfl rfl rfl (Y_assign rfl rfl) ?_; clear hf; intro a hf
    refine wpO_nil ?_
    refine wpL_seq ?_
    refine wpL_seq ?_
    refine wpL_region ?_
    refine sY hf hs rfl rfl rfl (Y_move rfl rfl) ?_; clear hf; intro a hf
    refine sY hf hs rfl rfl rfl (Y_lss rfl rfl rfl) ?_; clear hf; intro a hf
    refine wpO_nil ?_
    refine wpL_cond hf rfl (fun hb7 => ?_) (fun hb7 => ?_)
    · have hm := bif_t hm hb7
      refine wpL_seq ?_
      refine wpL_region ?_
      refine sY hf hs rfl rfl rfl (Y_assign rfl rfl) ?_; clear hf; intro a hf
      refine wpO_nil ?_
      obtain rfl := Option.some.inj hm
      refine wpL_ret (ret_tmp rfl hf rfl ?_)
      exact ⟨_, rfl, rfl, hs.sel [] (by decide)⟩
    · have hm := bif_f hm hb7
      refine wpL_skip ?_
      refine wpL_seq ?_
      refine wpL_region ?_
      refine sY hf hs rfl rfl rfl (Y_fieldAddr rfl rfl fo53_2) ?_; clear hf; intro a hf
      refine sY hf hs rfl rfl rfl (Y_load_blk rfl rfl (i := 0) rfl rfl ag23) ?_; clear hf; intro a hf
      refine sY hf hs rfl rfl rfl (Y_move rfl rfl) ?_; clear hf; intro a hf
      obtain ⟨r8, hc9, hm⟩ := bind_some hm
      refine sCall hf rfl rfl rfl rfl (cap := []) rfl rfl en96 (laws_szInt64S_ok F p0_a.C A_p0_a_3 p0_a.C.length c_p0_a_3 rfl r5 _ _ hc9 (h_p0_a_3.at hs)) ?_; clear hf
      rintro _ w ⟨rfl, hs1⟩ a hf
      have hs : St [] W w [.blk b1 53 [.slice A_p0_a_1 p0_a.A.length c_p0_a_1, .slice A_p0_a_2 p0_a.B.length c_p0_a_2, .slice A_p0_a_3 p0_a.C.length c_p0_a_3]] := hs.ext hs1.below
      clear hs1
      refine sY hf hs rfl rfl rfl (Y_assign rfl rfl) ?_; clear hf; intro a hf
      refine wpO_nil ?_
      refine wpL_seq ?_
      refine wpL_seq ?_
      refine wpL_region ?_
      refine sY hf hs rfl rfl rfl (Y_move rfl rfl) ?_; clear hf; intro a hf
      refine sY hf hs rfl rfl rfl (Y_lss rfl rfl rfl) ?_; clear hf; intro a hf
      refine wpO_nil ?_
      refine wpL_cond hf rfl (fun hb10 => ?_) (fun hb10 => ?_)
      · have hm := bif_t hm hb10
        refine wpL_seq ?_
        refine wpL_region ?_
        refine sY hf hs rfl rfl rfl (Y_assign rfl rfl) ?_; clear hf; intro a hf
        refine wpO_nil ?_
        obtain rfl := Option.some.inj hm
        refine wpL_ret (ret_tmp rfl hf rfl ?_)
        exact ⟨_, rfl, rfl, hs.sel [] (by decide)⟩
      · have hm := bif_f hm hb10
        refine wpL_skip ?_
        refine wpL_seq ?_
        refine wpL_region ?_
        refine sY hf hs rfl rfl rfl (Y_move rfl rfl) ?_; clear hf; intro a hf
        refine sY hf hs rfl rfl rfl (Y_assign rfl rfl) ?_; clear hf; intro a hf
        refine wpO_nil ?_
        obtain rfl := Option.some.inj hm
        refine wpL_ret (ret_tmp rfl hf rfl ?_)
        exact ⟨_, rfl, rfl, hs.sel [] (by decide)⟩

set_option maxRecDepth 100000 in
theorem laws_toInt64S_ok (F : Nat) (p0_a : List Int) (A_p0_a_1 : Option Addr) (n_p0_a_1 c_p0_a_1 : Nat) (hn_p0_a_1 : n_p0_a_1 = p0_a.length) (r : List Int) (W : World) (hm : laws_toInt64S F p0_a = some r) (h_p0_a_1 : Rd W A_p0_a_1 (ints p0_a)) :
    Calls Try.prog 17 [.slice A_p0_a_1 n_p0_a_1 c_p0_a_1].toArray W fun e w' => ∃ v, e = .returned v ∧ ∃ A44, ∃ n45, ∃ c46, v = .slice A44 n45 c46 ∧ n45 = r.length ∧ St [] W w' [.row A44 n45 c46 2 1 (ints r)] := by
  subst hn_p0_a_1
  unfold laws_toInt64S at hm
  refine Calls.enter (N := 22) Try.func17 rfl rfl rfl (fun a hf => ?_)
  have hs := St.start W
  obtain ⟨w, hw_⟩ : ∃ w, w = W := ⟨W, rfl⟩
  clear hw_ w
  refine wpL_seq ?_
  refine wpL_region ?_
  refine sY hf hs rfl rfl rfl (Y_assign rfl rfl) ?_; clear hf; intro a hf
  refine wpO_nil ?_
  refine wpL_seq ?_
  refine wpL_region ?_
  refine sY hf hs rfl rfl rfl (Y_move rfl rfl) ?_; clear hf; intro a hf
  refine sY hf hs rfl rfl rfl (Y_lenH rfl rfl el23 rfl) ?_; clear hf; intro a hf
  obtain ⟨xs3, hk2, hm⟩ := bind_some hm
  refine sMakeL (enc := ints) hf hs rfl rfl rfl rfl rfl hk2 el23 ti2 rfl ints_made ?_; clear hf hs; intro a w A1 hs hf
  have hs : St [] W w [.row A1 xs3.length xs3.length 2 1 (ints xs3)] := hs
  refine sY hf hs rfl rfl rfl (Y_assign rfl rfl) ?_; clear hf; intro a hf
  refine wpO_nil ?_
  refine wpL_seq ?_
  refine wpL_seq ?_
  refine wpL_region ?_
  refine sY hf hs rfl rfl rfl (Y_assign rfl rfl) ?_; clear hf; intro a hf
  refine wpO_nil ?_
  obtain ⟨r33, hl34, hm⟩ := bind_some hm
  refine wpL_block (fun a w => ∃ xs31 : List Int, xs31 = r33 ∧ xs3.length = xs31.length ∧ Fr a 22 [(3, .slice A1 xs3.length xs3.length)] ∧ St [] W w [.row A1 xs3.length xs3.length 2 1 (ints xs31)]) ?_ ?_
  · refine wpL_loop (fun n a w => ∃ xs21 : List Int, ∃ x23 : Int, laws_toInt64S_L1 F p0_a n xs21 x23 = some r33 ∧ xs3.length = xs21.length ∧ Fr a 22 [(0, .slice A_p0_a_1 p0_a.length c_p0_a_1), (3, .slice A1 xs3.length xs3.length), (4, .int .i64 x23)] ∧ St [] W w [.row A1 xs3.length xs3.length 2 1 (ints xs21)]) F ?_ ?_ ?_
    · exact ⟨xs3, 0, hl34, rfl, (FrD.pick (FrD.pick (FrD.pick hf.none hf rfl) hf rfl) hf rfl), hs⟩
    · rintro a w ⟨xs21, x23, h0_, -, -, -⟩; simp [laws_toInt64S_L1] at h0_
    · rintro n36 a w ⟨xs21, x23, hm35, hn22, hf, hs⟩
      rw [laws_toInt64S_L1] at hm35
      refine wpL_seq ?_
      refine wpL_seq ?_
      refine wpL_region ?_
      refine sY hf hs rfl rfl rfl (Y_move rfl rfl) ?_; clear hf; intro a hf
      refine sY hf hs rfl rfl rfl (Y_move rfl rfl) ?_; clear hf; intro a hf
      refine sY hf hs rfl rfl rfl (Y_lenH rfl rfl el23 rfl) ?_; clear hf; intro a hf
      refine sY hf hs rfl rfl rfl (Y_lss rfl rfl rfl) ?_; clear hf; intro a hf
      refine wpO_nil ?_
      refine wpL_cond hf rfl (fun hb37 => ?_) (fun hb37 => ?_)
      · have hm35 := bif_t hm35 hb37
        refine wpL_skip ?_
        refine wpL_seq ?_
        refine wpL_block0 ?_
        refine wpL_region ?_
        refine sY hf hs rfl rfl rfl (Y_move rfl rfl) ?_; clear hf; intro a hf
        refine sY hf hs rfl rfl rfl (Y_move rfl rfl) ?_; clear hf; intro a hf
        refine sY hf hs rfl rfl rfl (Y_move rfl rfl) ?_; clear hf; intro a hf
        refine sY hf hs rfl rfl rfl (Y_move rfl rfl) ?_; clear hf; intro a hf
        obtain ⟨q38, hi39, hm35⟩ := bind_some hm35
        obtain ⟨hi39a, hi39b, hi39q⟩ := idx_some hi39
        refine sY hf hs rfl rfl rfl (Y_index rfl rfl rfl el23 ti2 (Rd.isAt (h_p0_a_1.at hs) (at1 (ints_at hi39q))) hi39a hi39b) ?_; clear hf; intro a hf
        refine sY hf hs rfl rfl rfl (Y_load_rd rfl rfl (fun w hs => h_p0_a_1.at hs) (at1 (ints_at hi39q)) ag2) ?_; clear hf; intro a hf
        obtain ⟨q40, hi41, hm35⟩ := bind_some hm35
        obtain ⟨hi41a, hi41b, hi41q⟩ := idx_some hi41
        refine sY hf hs rfl rfl rfl (Y_index rfl rfl rfl el23 ti2 (Rd.isAt (hs.rd (i := 0) rfl) (at1 (ints_at hi41q))) hi41a (ltn hn22 hi41b)) ?_; clear hf; intro a hf
        obtain ⟨xs42, hu43, hm35⟩ := bind_some hm35
        refine sStoreL (i := 0) (us := [.int .i64 q38]) (enc := ints) hf hs rfl rfl rfl rfl rfl rfl hn22 hu43 ti2 rfl rfl rfl rfl rfl ints_len1 (ints_set q38) ?_; clear hs; intro w hs
        have hs : St [] W w [.row A1 xs3.length xs3.length 2 1 (ints xs42)] := hs
        refine wpO_nil ?_
        refine wpL_nil (Qb_normal ?_)
        refine wpL_region ?_
        refine sY hf hs rfl rfl rfl (Y_move rfl rfl) ?_; clear hf; intro a hf
        refine sY hf hs rfl rfl rfl (Y_add rfl rfl rfl) ?_; clear hf; intro a hf
        refine sY hf hs rfl rfl rfl (Y_assign rfl rfl) ?_; clear hf; intro a hf
        refine wpO_nil ?_
        refine wpL_nil (Ql_normal ?_)
        exact ⟨xs42, (IntKind.i64.wrap (x23 + 1)), hm35, ((hn22).trans (upd_len hu43).symm), (FrD.pick (FrD.pick (FrD.pick hf.none hf rfl) hf rfl) hf rfl), hs⟩
      · have hm35 := bif_f hm35 hb37
        refine wpL_exit (Ql_exit (Qb_exit ?_))
        exact ⟨xs21, Option.some.inj hm35, hn22, (FrD.pick hf.none hf rfl), hs⟩
  · rintro a w ⟨xs31, hr_, hn32, hf, hs⟩
    subst hr_
    try dsimp only at hm
    refine wpL_seq ?_
    refine wpL_region ?_
    refine sY hf hs rfl rfl rfl (Y_move rfl rfl) ?_; clear hf; intro a hf
    refine sY hf hs rfl rfl rfl (Y_assign rfl rfl) ?_; clear hf; intro a hf
    refine wpO_nil ?_
    obtain rfl := Option.some.inj hm
    refine wpL_ret (ret_tmp rfl hf rfl ?_)
    exact ⟨_, rfl, A1, xs3.length, xs3.length, rfl, hn32, hs⟩

set_option maxRecDepth 100000 in
theorem laws_toInt64SS_ok (F : Nat) (p0_a : List (List Int)) (A_p0_a_1 : Option Addr) (n_p0_a_1 c_p0_a_1 : Nat) (hn_p0_a_1 : n_p0_a_1 = p0_a.length) (r : List (List Int)) (W : World) (hm : laws_toInt64SS F p0_a = some r) (h_p0_a_1 : RdM W A_p0_a_1 p0_a) :
    Calls Try.prog 54 [.slice A_p0_a_1 n_p0_a_1 c_p0_a_1].toArray W fun e w' => ∃ v, e = .returned v ∧ ∃ A125, ∃ n126, ∃ c127, ∃ vs129, v = .slice A125 n126 c127 ∧ n126 = r.length ∧ St [] W w' [.mat A125 n126 c127 23 2 vs129 r] := by
  subst hn_p0_a_1
  unfold laws_toInt64SS at hm
  refine Calls.enter (N := 23) Try.func54 rfl rfl rfl (fun a hf => ?_)
  have hs := St.start W
  obtain ⟨w, hw_⟩ : ∃ w, w = W := ⟨W, rfl⟩
  clear hw_ w
  refine wpL_seq ?_
  refine wpL_region ?_
  refine sY hf hs rfl rfl rfl (Y_assign rfl rfl) ?_; clear hf; intro a hf
  refine wpO_nil ?_
  refine wpL_seq ?_
  refine wpL_region ?_
  refine sY hf hs rfl rfl rfl (Y_move rfl rfl) ?_; clear hf; intro a hf
  refine sY hf hs rfl rfl rfl (Y_lenH rfl rfl el46 rfl) ?_; clear hf; intro a hf
  obtain ⟨ms3, hk2, hm⟩ := bind_some hm
  refine sMakeM 2 hf hs rfl rfl rfl rfl rfl hk2 el46 ti23 rfl ?_; clear hf hs; intro a w A1 vs4 hs hf
  have hs : St [] W w [.mat A1 ms3.length ms3.length 23 2 vs4 ms3] := hs
  refine sY hf hs rfl rfl rfl (Y_assign rfl rfl) ?_; clear hf; intro a hf
  refine wpO_nil ?_
  refine wpL_seq ?_
  refine wpL_seq ?_
  refine wpL_region ?_
  refine sY hf hs rfl rfl rfl (Y_assign rfl rfl) ?_; clear hf; intro a hf
  refine wpO_nil ?_
  obtain ⟨r97, hl98, hm⟩ := bind_some hm
  refine wpL_block (fun a w => ∃ ms91 : List (List Int), ∃ A92, ∃ n93, ∃ c94, ∃ vs96, ms91 = r97 ∧ n93 = ms91.length ∧ Fr a 23 [(3, .slice A92 n93 c94)] ∧ St [] W w [.mat A92 n93 c94 23 2 vs96 ms91]) ?_ ?_
  · refine wpL_loop (fun n a w => ∃ ms60 : List (List Int), ∃ x66 : Int, ∃ A61, ∃ n62, ∃ c63, ∃ vs65, laws_toInt64SS_L1 F p0_a n ms60 x66 = some r97 ∧ n62 = ms60.length ∧ Fr a 23 [(0, .slice A_p0_a_1 p0_a.length c_p0_a_1), (3, .slice A61 n62 c63), (4, .int .i64 x66)] ∧ St [] W w [.mat A61 n62 c63 23 2 vs65 ms60]) F ?_ ?_ ?_
    · exact ⟨ms3, 0, A1, ms3.length, ms3.length, vs4, hl98, rfl, (FrD.pick (FrD.pick (FrD.pick hf.none hf rfl) hf rfl) hf rfl), hs⟩
    · rintro a w ⟨ms60, x66, A61, n62, c63, vs65, h0_, -, -, -⟩; simp [laws_toInt64SS_L1] at h0_
    · rintro n100 a w ⟨ms60, x66, A61, n62, c63, vs65, hm99, hn64, hf, hs⟩
      rw [laws_toInt64SS_L1] at hm99
      refine wpL_seq ?_
      refine wpL_seq ?_
      refine wpL_region ?_
      refine sY hf hs rfl rfl rfl (Y_move rfl rfl) ?_; clear hf; intro a hf
      refine sY hf hs rfl rfl rfl (Y_move rfl rfl) ?_; clear hf; intro a hf
      refine sY hf hs rfl rfl rfl (Y_lenH rfl rfl el46 rfl) ?_; clear hf; intro a hf
      refine sY hf hs rfl rfl rfl (Y_lss rfl rfl rfl) ?_; clear hf; intro a hf
      refine wpO_nil ?_
      refine wpL_cond hf rfl (fun hb101 => ?_) (fun hb101 => ?_)
      · have hm99 := bif_t hm99 hb101
        refine wpL_skip ?_
        refine wpL_seq ?_
        refine wpL_block0 ?_
        refine wpL_region ?_
        refine sY hf hs rfl rfl rfl (Y_move rfl rfl) ?_; clear hf; intro a hf
        refine sY hf hs rfl rfl rfl (Y_move rfl rfl) ?_; clear hf; intro a hf
        refine sY hf hs rfl rfl rfl (Y_move rfl rfl) ?_; clear hf; intro a hf
        refine sY hf hs rfl rfl rfl (Y_move rfl rfl) ?_; clear hf; intro a hf
        obtain ⟨q102, hi103, hm99⟩ := bind_some hm99
        obtain ⟨hi103a, hi103b, hi103q⟩ := idx_some hi103
        obtain ⟨vs104, hv105, hr106⟩ := id h_p0_a_1
        obtain ⟨A107, c108, hv109, hR110⟩ := hr106 _ _ hi103q
        refine sY hf hs rfl rfl rfl (Y_index rfl rfl rfl el46 ti23 (Rd.isAt hv105 hv109) hi103a hi103b) ?_; clear hf; intro a hf
        refine sY hf hs rfl rfl rfl (Y_load_rd rfl rfl (fun w hs => hv105.at hs) (at1 hv109) ag23) ?_; clear hf; intro a hf
        obtain ⟨r111, hc112, hm99⟩ := bind_some hm99
        refine sCall hf rfl rfl rfl rfl (cap := []) rfl rfl en17 (laws_toInt64S_ok F q102 A107 q102.length c108 rfl _ _ hc112 (hR110.at hs)) ?_; clear hf
        rintro _ w ⟨A113, n114, c115, rfl, hn116, hs1⟩ a hf
        have hs : St [] W w [.mat A61 n62 c63 23 2 vs65 ms60, .row A113 n114 c115 2 1 (ints r111)] := hs.join hs1
        clear hs1
        obtain ⟨q117, hi118, hm99⟩ := bind_some hm99
        obtain ⟨hi118a, hi118b, hi118q⟩ := idx_some hi118
        obtain ⟨A119, c120, hv121⟩ := hs.matRow (i := 0) rfl hi118q
        refine sY hf hs rfl rfl rfl (Y_index rfl rfl rfl el46 ti23 (Rd.isAt (hs.rdV (i := 0) rfl) hv121) hi118a (ltn hn64 hi118b)) ?_; clear hf; intro a hf
        obtain ⟨ms122, hu123, hm99⟩ := bind_some hm99
        refine sStoreRowM (i := 0) (j := 1) (k := x66) hf hs rfl rfl rfl rfl rfl rfl rfl (by decide) hn116 hu123 ti23 ?_; clear hs; intro w vs124 hs
        have hs : St [] W w [.mat A61 n62 c63 23 2 vs124 ms122] := hs
        refine wpO_nil ?_
        refine wpL_nil (Qb_normal ?_)
        refine wpL_region ?_
        refine sY hf hs rfl rfl rfl (Y_move rfl rfl) ?_; clear hf; intro a hf
        refine sY hf hs rfl rfl rfl (Y_add rfl rfl rfl) ?_; clear hf; intro a hf
        refine sY hf hs rfl rfl rfl (Y_assign rfl rfl) ?_; clear hf; intro a hf
        refine wpO_nil ?_
        refine wpL_nil (Ql_normal ?_)
        exact ⟨ms122, (IntKind.i64.wrap (x66 + 1)), A61, n62, c63, vs124, hm99, ((hn64).trans (upd_len hu123).symm), (FrD.pick (FrD.pick (FrD.pick hf.none hf rfl) hf rfl) hf rfl), hs⟩
      · have hm99 := bif_f hm99 hb101
        refine wpL_exit (Ql_exit (Qb_exit ?_))
        exact ⟨ms60, A61, n62, c63, vs65, Option.some.inj hm99, hn64, (FrD.pick hf.none hf rfl), hs⟩
  · rintro a w ⟨ms91, A92, n93, c94, vs96, hr_, hn95, hf, hs⟩
    subst hr_
    try dsimp only at hm
    refine wpL_seq ?_
    refine wpL_region ?_
    refine sY hf hs rfl rfl rfl (Y_move rfl rfl) ?_; clear hf; intro a hf
    refine sY hf hs rfl rfl rfl (Y_assign rfl rfl) ?_; clear hf; intro a hf
    refine wpO_nil ?_
    obtain rfl := Option.some.inj hm
    refine wpL_ret (ret_tmp rfl hf rfl ?_)
    exact ⟨_, rfl, A92, n93, c94, vs96, rfl, hn95, hs⟩

set_option maxRecDepth 100000 in
theorem laws_toSystem_ok (F : Nat) (p0_a : LSystem) (A_p0_a_1 : Option Addr) (n_p0_a_1 c_p0_a_1 : Nat) (hn_p0_a_1 : n_p0_a_1 = p0_a.A.length) (A_p0_a_2 : Option Addr) (n_p0_a_2 c_p0_a_2 : Nat) (hn_p0_a_2 : n_p0_a_2 = p0_a.B.length) (A_p0_a_3 : Option Addr) (n_p0_a_3 c_p0_a_3 : Nat) (hn_p0_a_3 : n_p0_a_3 = p0_a.C.length) (r : GSystem) (W : World) (hm : laws_toSystem F p0_a = some r) (h_p0_a_1 : RdM W A_p0_a_1 p0_a.A) (h_p0_a_2 : Rd W A_p0_a_2 (ints p0_a.B)) (h_p0_a_3 : Rd W A_p0_a_3 (ints p0_a.C)) :
    Calls Try.prog 40 [.agg #[.slice A_p0_a_1 n_p0_a_1 c_p0_a_1, .slice A_p0_a_2 n_p0_a_2 c_p0_a_2, .slice A_p0_a_3 n_p0_a_3 c_p0_a_3]].toArray W fun e w' => ∃ v, e = .returned v ∧ ∃ A23, ∃ n24, ∃ c25, ∃ vs27, ∃ A28, ∃ n29, ∃ c30, ∃ A32, ∃ n33, ∃ c34, v = .agg #[.slice A23 n24 c25, .slice A28 n29 c30, .slice A32 n33 c34] ∧ n24 = r.A.length ∧ n29 = r.B.length ∧ n33 = r.C.length ∧ St [] W w' [.mat A23 n24 c25 23 2 vs27 r.A, .row A28 n29 c30 2 1 (ints r.B), .row A32 n33 c34 2 1 (ints r.C)] := by
  subst hn_p0_a_1
  subst hn_p0_a_2
  subst hn_p0_a_3
  unfold laws_toSystem at hm
  refine Calls.enter (N := 17) Try.func40 rfl rfl rfl (fun a hf => ?_)
  have hs := St.start W
  obtain ⟨w, hw_⟩ : ∃ w, w = W := ⟨W, rfl⟩
  clear hw_ w
  refine wpL_seq ?_
  refine wpL_region ?_
  refine sBox hf hs rfl rfl rfl rfl rfl (cs := [.slice A_p0_a_1 p0_a.A.length c_p0_a_1, .slice A_p0_a_2 p0_a.B.length c_p0_a_2, .slice A_p0_a_3 p0_a.C.length c_p0_a_3]) rfl ?_; clear hf hs; intro a w b1 hs hf
  have hs : St [] W w [.blk b1 53 [.slice A_p0_a_1 p0_a.A.length c_p0_a_1, .slice A_p0_a_2 p0_a.B.length c_p0_a_2, .slice A_p0_a_3 p0_a.C.length c_p0_a_3]] := hs
  refine sAlloc hf hs rfl rfl rfl rfl ti55 ?_; clear hf hs; intro a w b2 hs hf
  have hs : St [] W w [.blk b1 53 [.slice A_p0_a_1 p0_a.A.length c_p0_a_1, .slice A_p0_a_2 p0_a.B.length c_p0_a_2, .slice A_p0_a_3 p0_a.C.length c_p0_a_3], .blk b2 55 [.slice none 0 0, .slice none 0 0, .slice none 0 0]] := hs
  refine wpO_nil ?_
  refine wpL_seq ?_
  refine wpL_region ?_
  refine sAlloc hf hs rfl rfl rfl rfl ti55 ?_; clear hf hs; intro a w b3 hs hf
  have hs : St [] W w [.blk b1 53 [.slice A_p0_a_1 p0_a.A.length c_p0_a_1, .slice A_p0_a_2 p0_a.B.length c_p0_a_2, .slice A_p0_a_3 p0_a.C.length c_p0_a_3], .blk b2 55 [.slice none 0 0, .slice none 0 0, .slice none 0 0], .blk b3 55 [.slice none 0 0, .slice none 0 0, .slice none 0 0]] := hs
  refine wpO_nil ?_
  refine wpL_seq ?_
  refine wpL_region ?_
  refine sY hf hs rfl rfl rfl (Y_fieldAddr rfl rfl fo53_0) ?_; clear hf; intro a hf
  refine sY hf hs rfl rfl rfl (Y_load_blk rfl rfl (i := 0) rfl rfl ag46) ?_; clear hf; intro a hf
  obtain ⟨r4, hc5, hm⟩ := bind_some hm
  refine sCall hf rfl rfl rfl rfl (cap := []) rfl rfl en54 (laws_toInt64SS_ok F p0_a.A A_p0_a_1 p0_a.A.length c_p0_a_1 rfl _ _ hc5 (h_p0_a_1.at hs)) ?_; clear hf
  rintro _ w ⟨A6, n7, c8, vs10, rfl, hn9, hs1⟩ a hf
  have hs : St [] W w [.blk b1 53 [.slice A_p0_a_1 p0_a.A.length c_p0_a_1, .slice A_p0_a_2 p0_a.B.length c_p0_a_2, .slice A_p0_a_3 p0_a.C.length c_p0_a_3], .blk b2 55 [.slice none 0 0, .slice none 0 0, .slice none 0 0], .blk b3 55 [.slice none 0 0, .slice none 0 0, .slice none 0 0], .mat A6 n7 c8 23 2 vs10 r4] := hs.join hs1
  clear hs1
  refine sY hf hs rfl rfl rfl (Y_fieldAddr rfl rfl fo55_0) ?_; clear hf; intro a hf
  refine sStore (i := 2) (us := [.slice A6 n7 c8]) hf hs rfl rfl rfl rfl rfl rfl ti46 rfl rfl rfl (Nat.le_of_ble_eq_true rfl) rfl ?_; clear hs; intro w hs
  have hs : St [] W w [.blk b1 53 [.slice A_p0_a_1 p0_a.A.length c_p0_a_1, .slice A_p0_a_2 p0_a.B.length c_p0_a_2, .slice A_p0_a_3 p0_a.C.length c_p0_a_3], .blk b2 55 [.slice none 0 0, .slice none 0 0, .slice none 0 0], .blk b3 55 [.slice A6 n7 c8, .slice none 0 0, .slice none 0 0], .mat A6 n7 c8 23 2 vs10 r4] := hs
  refine wpO_nil ?_
  refine wpL_seq ?_
  refine wpL_region ?_
  refine sY hf hs rfl rfl rfl (Y_fieldAddr rfl rfl fo53_1) ?_; clear hf; intro a hf
  refine sY hf hs rfl rfl rfl (Y_load_blk rfl rfl (i := 0) rfl rfl ag23) ?_; clear hf; intro a hf
  obtain ⟨r11, hc12, hm⟩ := bind_some hm
  refine sCall hf rfl rfl rfl rfl (cap := []) rfl rfl en17 (laws_toInt64S_ok F p0_a.B A_p0_a_2 p0_a.B.length c_p0_a_2 rfl _ _ hc12 (h_p0_a_2.at hs)) ?_; clear hf
  rintro _ w ⟨A13, n14, c15, rfl, hn16, hs1⟩ a hf
  have hs : St [] W w [.blk b1 53 [.slice A_p0_a_1 p0_a.A.length c_p0_a_1, .slice A_p0_a_2 p0_a.B.length c_p0_a_2, .slice A_p0_a_3 p0_a.C.length c_p0_a_3], .blk b2 55 [.slice none 0 0, .slice none 0 0, .slice none 0 0], .blk b3 55 [.slice A6 n7 c8, .slice none 0 0, .slice none 0 0], .mat A6 n7 c8 23 2 vs10 r4, .row A13 n14 c15 2 1 (ints r11)] := hs.join hs1
  clear hs1
  refine sY hf hs rfl rfl rfl (Y_fieldAddr rfl rfl fo55_1) ?_; clear hf; intro a hf
  refine sStore (i := 2) (us := [.slice A13 n14 c15]) hf hs rfl rfl rfl rfl rfl rfl ti23 rfl rfl rfl (Nat.le_of_ble_eq_true rfl) rfl ?_; clear hs; intro w hs
  have hs : St [] W w [.blk b1 53 [.slice A_p0_a_1 p0_a.A.length c_p0_a_1, .slice A_p0_a_2 p0_a.B.length c_p0_a_2, .slice A_p0_a_3 p0_a.C.length c_p0_a_3], .blk b2 55 [.slice none 0 0, .slice none 0 0, .slice none 0 0], .blk b3 55 [.slice A6 n7 c8, .slice A13 n14 c15, .slice none 0 0], .mat A6 n7 c8 23 2 vs10 r4, .row A13 n14 c15 2 1 (ints r11)] := hs
  refine wpO_nil ?_
  refine wpL_seq ?_
  refine wpL_region ?_
  refine sY hf hs rfl rfl rfl (Y_fieldAddr rfl rfl fo53_2) ?_; clear hf; intro a hf
  refine sY hf hs rfl rfl rfl (Y_load_blk rfl rfl (i := 0) rfl rfl ag23) ?_; clear hf; intro a hf
  obtain ⟨r17, hc18, hm⟩ := bind_some hm
  refine sCall hf rfl rfl rfl rfl (cap := []) rfl rfl en17 (laws_toInt64S_ok F p0_a.C A_p0_a_3 p0_a.C.length c_p0_a_3 rfl _ _ hc18 (h_p0_a_3.at hs)) ?_; clear hf
  rintro _ w ⟨A19, n20, c21, rfl, hn22, hs1⟩ a hf
  have hs : St [] W w [.blk b1 53 [.slice A_p0_a_1 p0_a.A.length c_p0_a_1, .slice A_p0_a_2 p0_a.B.length c_p0_a_2, .slice A_p0_a_3 p0_a.C.length c_p0_a_3], .blk b2 55 [.slice none 0 0, .slice none 0 0, .slice none 0 0], .blk b3 55 [.slice A6 n7 c8, .slice A13 n14 c15, .slice none 0 0], .mat A6 n7 c8 23 2 vs10 r4, .row A13 n14 c15 2 1 (ints r11), .row A19 n20 c21 2 1 (ints r17)] := hs.join hs1
  clear hs1
  refine sY hf hs rfl rfl rfl (Y_fieldAddr rfl rfl fo55_2) ?_; clear hf; intro a hf
  refine sStore (i := 2) (us := [.slice A19 n20 c21]) hf hs rfl rfl rfl rfl rfl rfl ti23 rfl rfl rfl (Nat.le_of_ble_eq_true rfl) rfl ?_; clear hs; intro w hs
  have hs : St [] W w [.blk b1 53 [.slice A_p0_a_1 p0_a.A.length c_p0_a_1, .slice A_p0_a_2 p0_a.B.length c_p0_a_2, .slice A_p0_a_3 p0_a.C.length c_p0_a_3], .blk b2 55 [.slice none 0 0, .slice none 0 0, .slice none 0 0], .blk b3 55 [.slice A6 n7 c8, .slice A13 n14 c15, .slice A19 n20 c21], .mat A6 n7 c8 23 2 vs10 r4, .row A13 n14 c15 2 1 (ints r11), .row A19 n20 c21 2 1 (ints r17)] := hs
  refine wpO_nil ?_
  refine wpL_seq ?_
  refine wpL_region ?_
  refine sY hf hs rfl rfl rfl (Y_load_blkS rfl rfl (i := 2) rfl ag55 ti55 rfl) ?_; clear hf; intro a hf
  refine sStore (i := 1) (us := [.slice A6 n7 c8, .slice A13 n14 c15, .slice A19 n20 c21]) hf hs rfl rfl rfl rfl rfl rfl ti55 rfl rfl rfl (Nat.le_of_ble_eq_true rfl) rfl ?_; clear hs; intro w hs
  have hs : St [] W w [.blk b1 53 [.slice A_p0_a_1 p0_a.A.length c_p0_a_1, .slice A_p0_a_2 p0_a.B.length c_p0_a_2, .slice A_p0_a_3 p0_a.C.length c_p0_a_3], .blk b2 55 [.slice A6 n7 c8, .slice A13 n14 c15, .slice A19 n20 c21], .blk b3 55 [.slice A6 n7 c8, .slice A13 n14 c15, .slice A19 n20 c21], .mat A6 n7 c8 23 2 vs10 r4, .row A13 n14 c15 2 1 (ints r11), .row A19 n20 c21 2 1 (ints r17)] := hs
  refine wpO_nil ?_
  obtain rfl := Option.some.inj hm
  refine wpL_ret (ret_cell rfl hf rfl hs (i := 1) rfl ag55 ti55 rfl ?_)
  exact ⟨_, rfl, A6, n7, c8, vs10, A13, n14, c15, A19, n20, c21, rfl, hn9, hn16, hn22, hs.sel [3, 4, 5] (by decide)⟩

set_option maxRecDepth 100000 in
theorem spec_l01In_ok (F : Nat) (p0_n : Int) (p1_low : Int) (p2_high : Int) (r : Bool) (W : World) (hm : spec_l01In F p0_n p1_low p2_high = some r) :
    Calls Try.prog 63 [.int .i64 p0_n, .int .i64 p1_low, .int .i64 p2_high].toArray W fun e w' => ∃ v, e = .returned v ∧ v = .bool r ∧ St [] W w' [] := by
  unfold spec_l01In at hm
  refine Calls.enter (N := 15) Try.func63 rfl rfl rfl (fun a hf => ?_)
  have hs := St.start W
  obtain ⟨w, hw_⟩ : ∃ w, w = W := ⟨W, rfl⟩
  clear hw_ w
  refine wpL_seq ?_
  refine wpL_region ?_
  refine sY hf hs rfl rfl rfl (Y_assign rfl rfl) ?_; clear hf; intro a hf
  refine wpO_nil ?_
  refine wpL_seq ?_
  obtain ⟨r3, hj4, hm⟩ := bind_some hm
  refine wpL_cut (fun a w => ∃ b2 : Bool, b2 = r3 ∧ Fr a 15 [(6, .bool b2)] ∧ St [] W w []) ?_ ?_
  · refine wpL_region ?_
    refine sY hf hs rfl rfl rfl (Y_move rfl rfl) ?_; clear hf; intro a hf
    refine sY hf hs rfl rfl rfl (Y_move rfl rfl) ?_; clear hf; intro a hf
    refine sY hf hs rfl rfl rfl (Y_geq rfl rfl rfl) ?_; clear hf; intro a hf
    refine sY hf hs rfl rfl rfl (Y_move rfl rfl) ?_; clear hf; intro a hf
    refine bsplit (decide (p1_low ≤ p0_n)) (fun hb5 => ?_) (fun hb5 => ?_)
    · have hj4 := bif_t hj4 hb5
      refine sYg hf hs rfl rfl rfl (congrArg (fun b => some (Value.bool b)) hb5) rfl rfl rfl (Y_move rfl rfl) ?_; clear hf; intro a hf
      refine sYg hf hs rfl rfl rfl (congrArg (fun b => some (Value.bool b)) hb5) rfl rfl rfl (Y_move rfl rfl) ?_; clear hf; intro a hf
      refine sYg hf hs rfl rfl rfl (congrArg (fun b => some (Value.bool b)) hb5) rfl rfl rfl (Y_leq rfl rfl rfl) ?_; clear hf; intro a hf
      refine sY hf hs rfl rfl rfl (Y_pickT rfl (congrArg (fun b => some (Value.bool b)) hb5) rfl) ?_; clear hf; intro a hf
      refine sY hf hs rfl rfl rfl (Y_assign rfl rfl) ?_; clear hf; intro a hf
      refine wpO_nil ?_
      refine wpL_nil (then_normal ?_)
      exact ⟨(decide (p0_n ≤ p2_high)), Option.some.inj hj4, (FrD.pick hf.none hf rfl), hs⟩
    · have hj4 := bif_f hj4 hb5
      refine sNo hf rfl rfl rfl (congrArg (fun b => some (Value.bool b)) hb5) rfl rfl rfl ?_; clear hf; intro a hf
      refine sNo hf rfl rfl rfl (congrArg (fun b => some (Value.bool b)) hb5) rfl rfl rfl ?_; clear hf; intro a hf
      refine sNo hf rfl rfl rfl (congrArg (fun b => some (Value.bool b)) hb5) rfl rfl rfl ?_; clear hf; intro a hf
      refine sY hf hs rfl rfl rfl (Y_pickF rfl (congrArg (fun b => some (Value.bool b)) hb5) rfl) ?_; clear hf; intro a hf
      refine sY hf hs rfl rfl rfl (Y_assign rfl rfl) ?_; clear hf; intro a hf
      refine wpO_nil ?_
      refine wpL_nil (then_normal ?_)
      exact ⟨false, Option.some.inj hj4, (FrD.pick hf.none hf rfl), hs⟩
  · rintro a w ⟨b2, hr_, hf, hs⟩
    subst hr_
    try dsimp only at hm
    obtain rfl := Option.some.inj hm
    refine wpL_ret (ret_tmp rfl hf rfl ?_)
    exact ⟨_, rfl, rfl, hs⟩

set_option maxRecDepth 100000 in
theorem spec_l01Finite_ok (F : Nat) (p0_a : Int) (r : Bool) (W : World) (hm : spec_l01Finite F p0_a = some r) :
    Calls Try.prog 158 [.int .i64 p0_a].toArray W fun e w' => ∃ v, e = .returned v ∧ v = .bool r ∧ St [] W w' [] := by
  unfold spec_l01Finite at hm
  refine Calls.enter (N := 5) Try.func158 rfl rfl rfl (fun a hf => ?_)
  have hs := St.start W
  obtain ⟨w, hw_⟩ : ∃ w, w = W := ⟨W, rfl⟩
  clear hw_ w
  refine wpL_seq ?_
  refine wpL_region ?_
  refine sY hf hs rfl rfl rfl (Y_assign rfl rfl) ?_; clear hf; intro a hf
  refine wpO_nil ?_
  refine wpL_seq ?_
  refine wpL_region ?_
  refine sY hf hs rfl rfl rfl (Y_move rfl rfl) ?_; clear hf; intro a hf
  obtain ⟨r1, hc2, hm⟩ := bind_some hm
  refine sCall hf rfl rfl rfl rfl (cap := []) rfl rfl en63 (spec_l01In_ok F p0_a (-1000000) 1000000 _ _ hc2) ?_; clear hf
  rintro _ w ⟨rfl, hs1⟩ a hf
  have hs : St [] W w [] := hs.ext hs1.below
  clear hs1
  refine sY hf hs rfl rfl rfl (Y_assign rfl rfl) ?_; clear hf; intro a hf
  refine wpO_nil ?_
  obtain rfl := Option.some.inj hm
  refine wpL_ret (ret_tmp rfl hf rfl ?_)
  exact ⟨_, rfl, rfl, hs⟩

set_option maxRecDepth 100000 in
theorem spec_IsValue_ok (F : Nat) (p0_a : Int) (r : Bool) (W : World) (hm : spec_IsValue F p0_a = some r) :
    Calls Try.prog 108 [.int .i64 p0_a].toArray W fun e w' => ∃ v, e = .returned v ∧ v = .bool r ∧ St [] W w' [] := by
  unfold spec_IsValue at hm
  refine Calls.enter (N := 9) Try.func108 rfl rfl rfl (fun a hf => ?_)
  have hs := St.start W
  obtain ⟨w, hw_⟩ : ∃ w, w = W := ⟨W, rfl⟩
  clear hw_ w
  refine wpL_seq ?_
  refine wpL_region ?_
  refine sY hf hs rfl rfl rfl (Y_assign rfl rfl) ?_; clear hf; intro a hf
  refine wpO_nil ?_
  refine wpL_seq ?_
  obtain ⟨r5, hj6, hm⟩ := bind_some hm
  refine wpL_cut (fun a w => ∃ b4 : Bool, b4 = r5 ∧ Fr a 9 [(2, .bool b4)] ∧ St [] W w []) ?_ ?_
  · refine wpL_region ?_
    refine sY hf hs rfl rfl rfl (Y_move rfl rfl) ?_; clear hf; intro a hf
    refine sY hf hs rfl rfl rfl (Y_eql rfl rfl rfl) ?_; clear hf; intro a hf
    refine sY hf hs rfl rfl rfl (Y_move rfl rfl) ?_; clear hf; intro a hf
    refine bsplit (p0_a == (-1000000000000000)) (fun hb7 => ?_) (fun hb7 => ?_)
    · have hj6 := bif_t hj6 hb7
      refine sNo hf rfl rfl rfl (congrArg (fun b => some (Value.bool b)) hb7) rfl rfl rfl ?_; clear hf; intro a hf
      refine sNo hf rfl rfl rfl (congrArg (fun b => some (Value.bool b)) hb7) rfl rfl rfl ?_; clear hf; intro a hf
      refine sY hf hs rfl rfl rfl (Y_pickT rfl (congrArg (fun b => some (Value.bool b)) hb7) rfl) ?_; clear hf; intro a hf
      refine sY hf hs rfl rfl rfl (Y_assign rfl rfl) ?_; clear hf; intro a hf
      refine wpO_nil ?_
      refine wpL_nil (then_normal ?_)
      exact ⟨true, Option.some.inj hj6, (FrD.pick hf.none hf rfl), hs⟩
    · have hj6 := bif_f hj6 hb7
      refine sYg hf hs rfl rfl rfl (congrArg (fun b => some (Value.bool b)) hb7) rfl rfl rfl (Y_move rfl rfl) ?_; clear hf; intro a hf
      obtain ⟨r8, hc9, hj6⟩ := bind_some hj6
      refine sCallg hf rfl rfl rfl (congrArg (fun b => some (Value.bool b)) hb7) rfl rfl rfl rfl (cap := []) rfl rfl en158 (spec_l01Finite_ok F p0_a _ _ hc9) ?_; clear hf
      rintro _ w ⟨rfl, hs1⟩ a hf
      have hs : St [] W w [] := hs.ext hs1.below
      clear hs1
      refine sY hf hs rfl rfl rfl (Y_pickF rfl (congrArg (fun b => some (Value.bool b)) hb7) rfl) ?_; clear hf; intro a hf
      refine sY hf hs rfl rfl rfl (Y_assign rfl rfl) ?_; clear hf; intro a hf
      refine wpO_nil ?_
      refine wpL_nil (then_normal ?_)
      exact ⟨r8, Option.some.inj hj6, (FrD.pick hf.none hf rfl), hs⟩
  · rintro a w ⟨b4, hr_, hf, hs⟩
    subst hr_
    try dsimp only at hm
    obtain rfl := Option.some.inj hm
    refine wpL_ret (ret_tmp rfl hf rfl ?_)
    exact ⟨_, rfl, rfl, hs⟩

set_option maxRecDepth 100000 in
theorem spec_l01All_ok (F : Nat) (p0_list : List Int) (A_p0_list_1 : Option Addr) (n_p0_list_1 c_p0_list_1 : Nat) (hn_p0_list_1 : n_p0_list_1 = p0_list.length) (p1_finite : Bool) (r : Bool) (W : World) (hm : spec_l01All F p0_list p1_finite = some r) (h_p0_list_1 : Rd W A_p0_list_1 (ints p0_list)) :
    Calls Try.prog 137 [.slice A_p0_list_1 n_p0_list_1 c_p0_list_1, .bool p1_finite].toArray W fun e w' => ∃ v, e = .returned v ∧ v = .bool r ∧ St [] W w' [] := by
  subst hn_p0_list_1
  unfold spec_l01All at hm
  refine Calls.enter (N := 28) Try.func137 rfl rfl rfl (fun a hf => ?_)
  have hs := St.start W
  obtain ⟨w, hw_⟩ : ∃ w, w = W := ⟨W, rfl⟩
  clear hw_ w
  refine wpL_seq ?_
  refine wpL_region ?_
  refine sY hf hs rfl rfl rfl (Y_assign rfl rfl) ?_; clear hf; intro a hf
  refine wpO_nil ?_
  refine wpL_seq ?_
  refine wpL_seq ?_
  refine wpL_region ?_
  refine sY hf hs rfl rfl rfl (Y_assign rfl rfl) ?_; clear hf; intro a hf
  refine wpO_nil ?_
  obtain ⟨r66, hl67, hm⟩ := bind_some hm
  refine wpL_block (fun a w => Sum.inr () = r66 ∧ Fr a 28 [] ∧ St [] W w []) ?_ ?_
  · refine wpL_loop (fun n a w => ∃ x44 : Int, spec_l01All_L1 F p0_list p1_finite n x44 = some r66 ∧ Fr a 28 [(0, .slice A_p0_list_1 p0_list.length c_p0_list_1), (1, .bool p1_finite), (5, .int .i64 x44)] ∧ St [] W w []) F ?_ ?_ ?_
    · exact ⟨0, hl67, (FrD.pick (FrD.pick (FrD.pick hf.none hf rfl) hf rfl) hf rfl), hs⟩
    · rintro a w ⟨x44, h0_, -, -⟩; simp [spec_l01All_L1] at h0_
    · rintro n69 a w ⟨x44, hm68, hf, hs⟩
      rw [spec_l01All_L1] at hm68
      refine wpL_seq ?_
      refine wpL_seq ?_
      refine wpL_region ?_
      refine sY hf hs rfl rfl rfl (Y_move rfl rfl) ?_; clear hf; intro a hf
      refine sY hf hs rfl rfl rfl (Y_move rfl rfl) ?_; clear hf; intro a hf
      refine sY hf hs rfl rfl rfl (Y_lenH rfl rfl el23 rfl) ?_; clear hf; intro a hf
      refine sY hf hs rfl rfl rfl (Y_lss rfl rfl rfl) ?_; clear hf; intro a hf
      refine wpO_nil ?_
      refine wpL_cond hf rfl (fun hb70 => ?_) (fun hb70 => ?_)
      · have hm68 := bif_t hm68 hb70
        refine wpL_skip ?_
        refine wpL_seq ?_
        refine wpL_block0 ?_
        refine wpL_seq ?_
        obtain ⟨r80, hj81, hm68⟩ := bind_some hm68
        refine wpL_cut (fun a w => ∃ b79 : Bool, b79 = r80 ∧ Fr a 28 [(0, .slice A_p0_list_1 p0_list.length c_p0_list_1), (1, .bool p1_finite), (5, .int .i64 x44), (27, .bool b79)] ∧ St [] W w []) ?_ ?_
        · refine wpL_region ?_
          refine sY hf hs rfl rfl rfl (Y_move rfl rfl) ?_; clear hf; intro a hf
          refine sY hf hs rfl rfl rfl (Y_move rfl rfl) ?_; clear hf; intro a hf
          obtain ⟨q82, hi83, hj81⟩ := bind_some hj81
          obtain ⟨hi83a, hi83b, hi83q⟩ := idx_some hi83
          refine sY hf hs rfl rfl rfl (Y_index rfl rfl rfl el23 ti2 (Rd.isAt (h_p0_list_1.at hs) (at1 (ints_at hi83q))) hi83a hi83b) ?_; clear hf; intro a hf
          refine sY hf hs rfl rfl rfl (Y_load_rd rfl rfl (fun w hs => h_p0_list_1.at hs) (at1 (ints_at hi83q)) ag2) ?_; clear hf; intro a hf
          obtain ⟨r84, hc85, hj81⟩ := bind_some hj81
          refine sCall hf rfl rfl rfl rfl (cap := []) rfl rfl en108 (spec_IsValue_ok F q82 _ _ hc85) ?_; clear hf
          rintro _ w ⟨rfl, hs1⟩ a hf
          have hs : St [] W w [] := hs.ext hs1.below
          clear hs1
          refine sY hf hs rfl rfl rfl (Y_not rfl rfl) ?_; clear hf; intro a hf
          refine sY hf hs rfl rfl rfl (Y_move rfl rfl) ?_; clear hf; intro a hf
          refine bsplit (!r84) (fun hb86 => ?_) (fun hb86 => ?_)
          · have hj81 := bif_t hj81 hb86
            refine sNo hf rfl rfl rfl (congrArg (fun b => some (Value.bool b)) hb86) rfl rfl rfl ?_; clear hf; intro a hf
            refine sNo hf rfl rfl rfl (congrArg (fun b => some (Value.bool b)) hb86) rfl rfl rfl ?_; clear hf; intro a hf
            refine sNoU hf rfl rfl rfl rfl rfl rfl rfl ?_; clear hf; intro a hf
            refine sNoU hf rfl rfl rfl rfl rfl rfl rfl ?_; clear hf; intro a hf
            refine sNoU hf rfl rfl rfl rfl rfl rfl rfl ?_; clear hf; intro a hf
            refine sNoU hf rfl rfl rfl rfl rfl rfl rfl ?_; clear hf; intro a hf
            refine sNoU hf rfl rfl rfl rfl rfl rfl rfl ?_; clear hf; intro a hf
            refine sNo hf rfl rfl rfl (congrArg (fun b => some (Value.bool b)) hb86) rfl rfl rfl ?_; clear hf; intro a hf
            refine sY hf hs rfl rfl rfl (Y_pickT rfl (congrArg (fun b => some (Value.bool b)) hb86) rfl) ?_; clear hf; intro a hf
            refine wpO_nil ?_
            refine wpL_nil (then_normal ?_)
            exact ⟨true, Option.some.inj hj81, (FrD.pick (FrD.pick (FrD.pick (FrD.pick hf.none hf rfl) hf rfl) hf rfl) hf rfl), hs⟩
          · have hj81 := bif_f hj81 hb86
            refine sYg hf hs rfl rfl rfl (congrArg (fun b => some (Value.bool b)) hb86) rfl rfl rfl (Y_move rfl rfl) ?_; clear hf; intro a hf
            refine sYg hf hs rfl rfl rfl (congrArg (fun b => some (Value.bool b)) hb86) rfl rfl rfl (Y_move rfl rfl) ?_; clear hf; intro a hf
            refine bsplit p1_finite (fun hb87 => ?_) (fun hb87 => ?_)
            · have hj81 := bif_t hj81 hb87
              refine sYg hf hs rfl rfl rfl (congrArg (fun b => some (Value.bool b)) hb87) rfl rfl rfl (Y_move rfl rfl) ?_; clear hf; intro a hf
              refine sYg hf hs rfl rfl rfl (congrArg (fun b => some (Value.bool b)) hb87) rfl rfl rfl (Y_move rfl rfl) ?_; clear hf; intro a hf
              obtain ⟨q88, hi89, hj81⟩ := bind_some hj81
              obtain ⟨hi89a, hi89b, hi89q⟩ := idx_some hi89
              refine sYg hf hs rfl rfl rfl (congrArg (fun b => some (Value.bool b)) hb87) rfl rfl rfl (Y_index rfl rfl rfl el23 ti2 (Rd.isAt (h_p0_list_1.at hs) (at1 (ints_at hi89q))) hi89a hi89b) ?_; clear hf; intro a hf
              refine sYg hf hs rfl rfl rfl (congrArg (fun b => some (Value.bool b)) hb87) rfl rfl rfl (Y_load_rd rfl rfl (fun w hs => h_p0_list_1.at hs) (at1 (ints_at hi89q)) ag2) ?_; clear hf; intro a hf
              refine sYg hf hs rfl rfl rfl (congrArg (fun b => some (Value.bool b)) hb87) rfl rfl rfl (Y_eql rfl rfl rfl) ?_; clear hf; intro a hf
              refine sYg hf hs rfl rfl rfl (congrArg (fun b => some (Value.bool b)) hb86) rfl rfl rfl (Y_pickT rfl (congrArg (fun b => some (Value.bool b)) hb87) rfl) ?_; clear hf; intro a hf
              refine sY hf hs rfl rfl rfl (Y_pickF rfl (congrArg (fun b => some (Value.bool b)) hb86) rfl) ?_; clear hf; intro a hf
              refine wpO_nil ?_
              refine wpL_nil (then_normal ?_)
              exact ⟨(q88 == (-1000000000000000)), Option.some.inj hj81, (FrD.pick (FrD.pick (FrD.pick (FrD.pick hf.none hf rfl) hf rfl) hf rfl) hf rfl), hs⟩
            · have hj81 := bif_f hj81 hb87
              refine sNo hf rfl rfl rfl (congrArg (fun b => some (Value.bool b)) hb87) rfl rfl rfl ?_; clear hf; intro a hf
              refine sNo hf rfl rfl rfl (congrArg (fun b => some (Value.bool b)) hb87) rfl rfl rfl ?_; clear hf; intro a hf
              refine sNo hf rfl rfl rfl (congrArg (fun b => some (Value.bool b)) hb87) rfl rfl rfl ?_; clear hf; intro a hf
              refine sNo hf rfl rfl rfl (congrArg (fun b => some (Value.bool b)) hb87) rfl rfl rfl ?_; clear hf; intro a hf
              refine sNo hf rfl rfl rfl (congrArg (fun b => some (Value.bool b)) hb87) rfl rfl rfl ?_; clear hf; intro a hf
              refine sYg hf hs rfl rfl rfl (congrArg (fun b => some (Value.bool b)) hb86) rfl rfl rfl (Y_pickF rfl (congrArg (fun b => some (Value.bool b)) hb87) rfl) ?_; clear hf; intro a hf
              refine sY hf hs rfl rfl rfl (Y_pickF rfl (congrArg (fun b => some (Value.bool b)) hb86) rfl) ?_; clear hf; intro a hf
              refine wpO_nil ?_
              refine wpL_nil (then_normal ?_)
              exact ⟨false, Option.some.inj hj81, (FrD.pick (FrD.pick (FrD.pick (FrD.pick hf.none hf rfl) hf rfl) hf rfl) hf rfl), hs⟩
        · rintro a w ⟨b79, hr_, hf, hs⟩
          subst hr_
          try dsimp only at hm68
          refine wpL_cond hf rfl (fun hb90 => ?_) (fun hb90 => ?_)
          · have hm68 := bif_t hm68 hb90
            refine wpL_seq ?_
            refine wpL_region ?_
            refine sY hf hs rfl rfl rfl (Y_assign rfl rfl) ?_; clear hf; intro a hf
            refine wpO_nil ?_
            obtain rfl := Option.some.inj hm68
            try dsimp only at hm
            obtain rfl := Option.some.inj hm
            refine wpL_ret (Qb_ret (Ql_ret (Qb_ret (ret_tmp rfl hf rfl ?_))))
            exact ⟨_, rfl, rfl, hs⟩
          · have hm68 := bif_f hm68 hb90
            refine wpL_skip ?_
            refine wpL_nil (Qb_normal ?_)
            refine wpL_region ?_
            refine sY hf hs rfl rfl rfl (Y_move rfl rfl) ?_; clear hf; intro a hf
            refine sY hf hs rfl rfl rfl (Y_add rfl rfl rfl) ?_; clear hf; intro a hf
            refine sY hf hs rfl rfl rfl (Y_assign rfl rfl) ?_; clear hf; intro a hf
            refine wpO_nil ?_
            refine wpL_nil (Ql_normal ?_)
            exact ⟨(IntKind.i64.wrap (x44 + 1)), hm68, (FrD.pick (FrD.pick (FrD.pick hf.none hf rfl) hf rfl) hf rfl), hs⟩
      · have hm68 := bif_f hm68 hb70
        refine wpL_exit (Ql_exit (Qb_exit ?_))
        exact ⟨Option.some.inj hm68, hf.none, hs⟩
  · rintro a w ⟨hr_, hf, hs⟩
    subst hr_
    try dsimp only at hm
    refine wpL_seq ?_
    refine wpL_region ?_
    refine sY hf hs rfl rfl rfl (Y_assign rfl rfl) ?_; clear hf; intro a hf
    refine wpO_nil ?_
    obtain rfl := Option.some.inj hm
    refine wpL_ret (ret_tmp rfl hf rfl ?_)
    exact ⟨_, rfl, rfl, hs⟩

set_option maxRecDepth 100000 in
theorem spec_l02Vector_ok (F : Nat) (p0_x : List Int) (A_p0_x_1 : Option Addr) (n_p0_x_1 c_p0_x_1 : Nat) (hn_p0_x_1 : n_p0_x_1 = p0_x.length) (r : Bool) (W : World) (hm : spec_l02Vector F p0_x = some r) (h_p0_x_1 : Rd W A_p0_x_1 (ints p0_x)) :
    Calls Try.prog 67 [.slice A_p0_x_1 n_p0_x_1 c_p0_x_1].toArray W fun e w' => ∃ v, e = .returned v ∧ v = .bool r ∧ St [] W w' [] := by
  subst hn_p0_x_1
  unfold spec_l02Vector at hm
  refine Calls.enter (N := 10) Try.func67 rfl rfl rfl (fun a hf => ?_)
  have hs := St.start W
  obtain ⟨w, hw_⟩ : ∃ w, w = W := ⟨W, rfl⟩
  clear hw_ w
  refine wpL_seq ?_
  refine wpL_region ?_
  refine sY hf hs rfl rfl rfl (Y_assign rfl rfl) ?_; clear hf; intro a hf
  refine wpO_nil ?_
  refine wpL_seq ?_
  obtain ⟨r7, hj8, hm⟩ := bind_some hm
  refine wpL_cut (fun a w => ∃ b6 : Bool, b6 = r7 ∧ Fr a 10 [(2, .bool b6)] ∧ St [] W w []) ?_ ?_
  · refine wpL_region ?_
    refine sY hf hs rfl rfl rfl (Y_move rfl rfl) ?_; clear hf; intro a hf
    refine sY hf hs rfl rfl rfl (Y_lenH rfl rfl el23 rfl) ?_; clear hf; intro a hf
    obtain ⟨r9, hc10, hj8⟩ := bind_some hj8
    refine sCall hf rfl rfl rfl rfl (cap := []) rfl rfl en63 (spec_l01In_ok F (p0_x.length : Int) 1 10 _ _ hc10) ?_; clear hf
    rintro _ w ⟨rfl, hs1⟩ a hf
    have hs : St [] W w [] := hs.ext hs1.below
    clear hs1
    refine sY hf hs rfl rfl rfl (Y_move rfl rfl) ?_; clear hf; intro a hf
    refine bsplit r9 (fun hb11 => ?_) (fun hb11 => ?_)
    · have hj8 := bif_t hj8 hb11
      refine sYg hf hs rfl rfl rfl (congrArg (fun b => some (Value.bool b)) hb11) rfl rfl rfl (Y_move rfl rfl) ?_; clear hf; intro a hf
      obtain ⟨r12, hc13, hj8⟩ := bind_some hj8
      refine sCallg hf rfl rfl rfl (congrArg (fun b => some (Value.bool b)) hb11) rfl rfl rfl rfl (cap := []) rfl rfl en137 (spec_l01All_ok F p0_x A_p0_x_1 p0_x.length c_p0_x_1 rfl false _ _ hc13 (h_p0_x_1.at hs)) ?_; clear hf
      rintro _ w ⟨rfl, hs1⟩ a hf
      have hs : St [] W w [] := hs.ext hs1.below
      clear hs1
      refine sY hf hs rfl rfl rfl (Y_pickT rfl (congrArg (fun b => some (Value.bool b)) hb11) rfl) ?_; clear hf; intro a hf
      refine sY hf hs rfl rfl rfl (Y_assign rfl rfl) ?_; clear hf; intro a hf
      refine wpO_nil ?_
      refine wpL_nil (then_normal ?_)
      exact ⟨r12, Option.some.inj hj8, (FrD.pick hf.none hf rfl), hs⟩
    · have hj8 := bif_f hj8 hb11
      refine sNo hf rfl rfl rfl (congrArg (fun b => some (Value.bool b)) hb11) rfl rfl rfl ?_; clear hf; intro a hf
      refine sNo hf rfl rfl rfl (congrArg (fun b => some (Value.bool b)) hb11) rfl rfl rfl ?_; clear hf; intro a hf
      refine sY hf hs rfl rfl rfl (Y_pickF rfl (congrArg (fun b => some (Value.bool b)) hb11) rfl) ?_; clear hf; intro a hf
      refine sY hf hs rfl rfl rfl (Y_assign rfl rfl) ?_; clear hf; intro a hf
      refine wpO_nil ?_
      refine wpL_nil (then_normal ?_)
      exact ⟨false, Option.some.inj hj8, (FrD.pick hf.none hf rfl), hs⟩
  · rintro a w ⟨b6, hr_, hf, hs⟩
    subst hr_
    try dsimp only at hm
    obtain rfl := Option.some.inj hm
    refine wpL_ret (ret_tmp rfl hf rfl ?_)
    exact ⟨_, rfl, rfl, hs⟩

set_option maxRecDepth 100000 in
theorem spec_IsMatrix_ok (F : Nat) (p0_a : List (List Int)) (A_p0_a_1 : Option Addr) (n_p0_a_1 c_p0_a_1 : Nat) (hn_p0_a_1 : n_p0_a_1 = p0_a.length) (r : Bool) (W : World) (hm : spec_IsMatrix F p0_a = some r) (h_p0_a_1 : RdM W A_p0_a_1 p0_a) :
    Calls Try.prog 107 [.slice A_p0_a_1 n_p0_a_1 c_p0_a_1].toArray W fun e w' => ∃ v, e = .returned v ∧ v = .bool r ∧ St [] W w' [] := by
  subst hn_p0_a_1
  unfold spec_IsMatrix at hm
  refine Calls.enter (N := 36) Try.func107 rfl rfl rfl (fun a hf => ?_)
  have hs := St.start W
  obtain ⟨w, hw_⟩ : ∃ w, w = W := ⟨W, rfl⟩
  clear hw_ w
  refine wpL_seq ?_
  refine wpL_region ?_
  refine sY hf hs rfl rfl rfl (Y_assign rfl rfl) ?_; clear hf; intro a hf
  refine wpO_nil ?_
  refine wpL_seq ?_
  refine wpL_seq ?_
  obtain ⟨r3, hj4, hm⟩ := bind_some hm
  refine wpL_cut (fun a w => ∃ b2 : Bool, b2 = r3 ∧ Fr a 36 [(0, .slice A_p0_a_1 p0_a.length c_p0_a_1), (11, .bool b2)] ∧ St [] W w []) ?_ ?_
  · refine wpL_region ?_
    refine sY hf hs rfl rfl rfl (Y_move rfl rfl) ?_; clear hf; intro a hf
    refine sY hf hs rfl rfl rfl (Y_lenH rfl rfl el46 rfl) ?_; clear hf; intro a hf
    refine sY hf hs rfl rfl rfl (Y_lss rfl rfl rfl) ?_; clear hf; intro a hf
    refine sY hf hs rfl rfl rfl (Y_move rfl rfl) ?_; clear hf; intro a hf
    refine bsplit (decide ((p0_a.length : Int) < 1)) (fun hb5 => ?_) (fun hb5 => ?_)
    · have hj4 := bif_t hj4 hb5
      refine sNo hf rfl rfl rfl (congrArg (fun b => some (Value.bool b)) hb5) rfl rfl rfl ?_; clear hf; intro a hf
      refine sNo hf rfl rfl rfl (congrArg (fun b => some (Value.bool b)) hb5) rfl rfl rfl ?_; clear hf; intro a hf
      refine sNo hf rfl rfl rfl (congrArg (fun b => some (Value.bool b)) hb5) rfl rfl rfl ?_; clear hf; intro a hf
      refine sY hf hs rfl rfl rfl (Y_pickT rfl (congrArg (fun b => some (Value.bool b)) hb5) rfl) ?_; clear hf; intro a hf
      refine wpO_nil ?_
      refine wpL_nil (then_normal ?_)
      exact ⟨true, Option.some.inj hj4, (FrD.pick (FrD.pick hf.none hf rfl) hf rfl), hs⟩
    · have hj4 := bif_f hj4 hb5
      refine sYg hf hs rfl rfl rfl (congrArg (fun b => some (Value.bool b)) hb5) rfl rfl rfl (Y_move rfl rfl) ?_; clear hf; intro a hf
      refine sYg hf hs rfl rfl rfl (congrArg (fun b => some (Value.bool b)) hb5) rfl rfl rfl (Y_lenH rfl rfl el46 rfl) ?_; clear hf; intro a hf
      refine sYg hf hs rfl rfl rfl (congrArg (fun b => some (Value.bool b)) hb5) rfl rfl rfl (Y_gtr rfl rfl rfl) ?_; clear hf; intro a hf
      refine sY hf hs rfl rfl rfl (Y_pickF rfl (congrArg (fun b => some (Value.bool b)) hb5) rfl) ?_; clear hf; intro a hf
      refine wpO_nil ?_
      refine wpL_nil (then_normal ?_)
      exact ⟨(decide (10 < (p0_a.length : Int))), Option.some.inj hj4, (FrD.pick (FrD.pick hf.none hf rfl) hf rfl), hs⟩
  · rintro a w ⟨b2, hr_, hf, hs⟩
    subst hr_
    try dsimp only at hm
    refine wpL_cond hf rfl (fun hb6 => ?_) (fun hb6 => ?_)
    · have hm := bif_t hm hb6
      refine wpL_seq ?_
      refine wpL_region ?_
      refine sY hf hs rfl rfl rfl (Y_assign rfl rfl) ?_; clear hf; intro a hf
      refine wpO_nil ?_
      obtain rfl := Option.some.inj hm
      refine wpL_ret (ret_tmp rfl hf rfl ?_)
      exact ⟨_, rfl, rfl, hs⟩
    · have hm := bif_f hm hb6
      refine wpL_skip ?_
      refine wpL_seq ?_
      refine wpL_seq ?_
      refine wpL_region ?_
      refine sY hf hs rfl rfl rfl (Y_assign rfl rfl) ?_; clear hf; intro a hf
      refine wpO_nil ?_
      obtain ⟨r204, hl205, hm⟩ := bind_some hm
      refine wpL_block (fun a w => Sum.inr () = r204 ∧ Fr a 36 [] ∧ St [] W w []) ?_ ?_
      · refine wpL_loop (fun n a w => ∃ x138 : Int, spec_IsMatrix_L1 F p0_a n x138 = some r204 ∧ Fr a 36 [(0, .slice A_p0_a_1 p0_a.length c_p0_a_1), (3, .int .i64 x138)] ∧ St [] W w []) F ?_ ?_ ?_
        · exact ⟨0, hl205, (FrD.pick (FrD.pick hf.none hf rfl) hf rfl), hs⟩
        · rintro a w ⟨x138, h0_, -, -⟩; simp [spec_IsMatrix_L1] at h0_
        · rintro n207 a w ⟨x138, hm206, hf, hs⟩
          rw [spec_IsMatrix_L1] at hm206
          refine wpL_seq ?_
          refine wpL_seq ?_
          refine wpL_region ?_
          refine sY hf hs rfl rfl rfl (Y_move rfl rfl) ?_; clear hf; intro a hf
          refine sY hf hs rfl rfl rfl (Y_move rfl rfl) ?_; clear hf; intro a hf
          refine sY hf hs rfl rfl rfl (Y_lenH rfl rfl el46 rfl) ?_; clear hf; intro a hf
          refine sY hf hs rfl rfl rfl (Y_lss rfl rfl rfl) ?_; clear hf; intro a hf
          refine wpO_nil ?_
          refine wpL_cond hf rfl (fun hb208 => ?_) (fun hb208 => ?_)
          · have hm206 := bif_t hm206 hb208
            refine wpL_skip ?_
            refine wpL_seq ?_
            refine wpL_block0 ?_
            refine wpL_seq ?_
            obtain ⟨r240, hj241, hm206⟩ := bind_some hm206
            refine wpL_cut (fun a w => ∃ b239 : Bool, b239 = r240 ∧ Fr a 36 [(0, .slice A_p0_a_1 p0_a.length c_p0_a_1), (3, .int .i64 x138), (35, .bool b239)] ∧ St [] W w []) ?_ ?_
            · refine wpL_draw (by kernel_rfl) (by kernel_rfl) hs ?_
              refine qY hf rfl rfl rfl (Y_move rfl rfl) ?_; clear hf; intro a hf
              refine qY hf rfl rfl rfl (Y_move rfl rfl) ?_; clear hf; intro a hf
              obtain ⟨q242, hi243, hj241⟩ := bind_some hj241
              obtain ⟨hi243a, hi243b, hi243q⟩ := idx_some hi243
              obtain ⟨vs244, hv245, hr246⟩ := id h_p0_a_1
              obtain ⟨A247, c248, hv249, hR250⟩ := hr246 _ _ hi243q
              refine qY hf rfl rfl rfl (Y_index rfl rfl rfl el46 ti23 (Rd.isAt hv245 hv249) hi243a hi243b) ?_; clear hf; intro a hf
              refine qY hf rfl rfl rfl (Y_load_rd rfl rfl (fun w hs => hv245.at hs) (at1 hv249) ag23) ?_; clear hf; intro a hf
              obtain ⟨r251, hc252, hj241⟩ := bind_some hj241
              refine qCall hf rfl rfl rfl rfl (cap := []) rfl rfl en67 (v := .bool r251) (fun w hs => Calls.scal (spec_l02Vector_ok F q242 A247 q242.length c248 rfl _ _ hc252 (hR250.at hs))) ?_; clear hf; intro a hf
              refine qY hf rfl rfl rfl (Y_not rfl rfl) ?_; clear hf; intro a hf
              refine qY hf rfl rfl rfl (Y_move rfl rfl) ?_; clear hf; intro a hf
              refine bsplit (!r251) (fun hb253 => ?_) (fun hb253 => ?_)
              · have hj241 := bif_t hj241 hb253
                refine qNo hf rfl rfl rfl (congrArg (fun b => some (Value.bool b)) hb253) rfl rfl rfl ?_; clear hf; intro a hf
                refine qNo hf rfl rfl rfl (congrArg (fun b => some (Value.bool b)) hb253) rfl rfl rfl ?_; clear hf; intro a hf
                refine qNo hf rfl rfl rfl (congrArg (fun b => some (Value.bool b)) hb253) rfl rfl rfl ?_; clear hf; intro a hf
                refine qNo hf rfl rfl rfl (congrArg (fun b => some (Value.bool b)) hb253) rfl rfl rfl ?_; clear hf; intro a hf
                refine qNo hf rfl rfl rfl (congrArg (fun b => some (Value.bool b)) hb253) rfl rfl rfl ?_; clear hf; intro a hf
                refine qNo hf rfl rfl rfl (congrArg (fun b => some (Value.bool b)) hb253) rfl rfl rfl ?_; clear hf; intro a hf
                refine qNo hf rfl rfl rfl (congrArg (fun b => some (Value.bool b)) hb253) rfl rfl rfl ?_; clear hf; intro a hf
                refine qNo hf rfl rfl rfl (congrArg (fun b => some (Value.bool b)) hb253) rfl rfl rfl ?_; clear hf; intro a hf
                refine qNo hf rfl rfl rfl (congrArg (fun b => some (Value.bool b)) hb253) rfl rfl rfl ?_; clear hf; intro a hf
                refine qNo hf rfl rfl rfl (congrArg (fun b => some (Value.bool b)) hb253) rfl rfl rfl ?_; clear hf; intro a hf
                refine qY hf rfl rfl rfl (Y_pickT rfl (congrArg (fun b => some (Value.bool b)) hb253) rfl) ?_; clear hf; intro a hf
                refine qNil ?_; clear hs; intro w hs
                refine wpL_nil (then_normal ?_)
                exact ⟨true, Option.some.inj hj241, (FrD.pick (FrD.pick (FrD.pick hf.none hf rfl) hf rfl) hf rfl), hs⟩
              · have hj241 := bif_f hj241 hb253
                refine qYg hf rfl rfl rfl (congrArg (fun b => some (Value.bool b)) hb253) rfl rfl rfl (Y_move rfl rfl) ?_; clear hf; intro a hf
                refine qYg hf rfl rfl rfl (congrArg (fun b => some (Value.bool b)) hb253) rfl rfl rfl (Y_move rfl rfl) ?_; clear hf; intro a hf
                obtain ⟨q254, hi255, hj241⟩ := bind_some hj241
                obtain ⟨hi255a, hi255b, hi255q⟩ := idx_some hi255
                obtain ⟨vs256, hv257, hr258⟩ := id h_p0_a_1
                obtain ⟨A259, c260, hv261, hR262⟩ := hr258 _ _ hi255q
                refine qYg hf rfl rfl rfl (congrArg (fun b => some (Value.bool b)) hb253) rfl rfl rfl (Y_index rfl rfl rfl el46 ti23 (Rd.isAt hv257 hv261) hi255a hi255b) ?_; clear hf; intro a hf
                refine qYg hf rfl rfl rfl (congrArg (fun b => some (Value.bool b)) hb253) rfl rfl rfl (Y_load_rd rfl rfl (fun w hs => hv257.at hs) (at1 hv261) ag23) ?_; clear hf; intro a hf
                refine qYg hf rfl rfl rfl (congrArg (fun b => some (Value.bool b)) hb253) rfl rfl rfl (Y_lenH rfl rfl el23 rfl) ?_; clear hf; intro a hf
                refine qYg hf rfl rfl rfl (congrArg (fun b => some (Value.bool b)) hb253) rfl rfl rfl (Y_move rfl rfl) ?_; clear hf; intro a hf
                obtain ⟨q263, hi264, hj241⟩ := bind_some hj241
                obtain ⟨hi264a, hi264b, hi264q⟩ := idx_some hi264
                obtain ⟨vs265, hv266, hr267⟩ := id h_p0_a_1
                obtain ⟨A268, c269, hv270, hR271⟩ := hr267 _ _ hi264q
                refine qYg hf rfl rfl rfl (congrArg (fun b => some (Value.bool b)) hb253) rfl rfl rfl (Y_index rfl rfl rfl el46 ti23 (Rd.isAt hv266 hv270) hi264a hi264b) ?_; clear hf; intro a hf
                refine qYg hf rfl rfl rfl (congrArg (fun b => some (Value.bool b)) hb253) rfl rfl rfl (Y_load_rd rfl rfl (fun w hs => hv266.at hs) (at1 hv270) ag23) ?_; clear hf; intro a hf
                refine qYg hf rfl rfl rfl (congrArg (fun b => some (Value.bool b)) hb253) rfl rfl rfl (Y_lenH rfl rfl el23 rfl) ?_; clear hf; intro a hf
                refine qYg hf rfl rfl rfl (congrArg (fun b => some (Value.bool b)) hb253) rfl rfl rfl (Y_neq rfl rfl rfl) ?_; clear hf; intro a hf
                refine qY hf rfl rfl rfl (Y_pickF rfl (congrArg (fun b => some (Value.bool b)) hb253) rfl) ?_; clear hf; intro a hf
                refine qNil ?_; clear hs; intro w hs
                refine wpL_nil (then_normal ?_)
                exact ⟨((q254.length : Int) != (q263.length : Int)), Option.some.inj hj241, (FrD.pick (FrD.pick (FrD.pick hf.none hf rfl) hf rfl) hf rfl), hs⟩
            · rintro a w ⟨b239, hr_, hf, hs⟩
              subst hr_
              try dsimp only at hm206
              refine wpL_cond hf rfl (fun hb272 => ?_) (fun hb272 => ?_)
              · have hm206 := bif_t hm206 hb272
                refine wpL_seq ?_
                refine wpL_region ?_
                refine sY hf hs rfl rfl rfl (Y_assign rfl rfl) ?_; clear hf; intro a hf
                refine wpO_nil ?_
                obtain rfl := Option.some.inj hm206
                try dsimp only at hm
                obtain rfl := Option.some.inj hm
                refine wpL_ret (Qb_ret (Ql_ret (Qb_ret (ret_tmp rfl hf rfl ?_))))
                exact ⟨_, rfl, rfl, hs⟩
              · have hm206 := bif_f hm206 hb272
                refine wpL_skip ?_
                refine wpL_nil (Qb_normal ?_)
                refine wpL_region ?_
                refine sY hf hs rfl rfl rfl (Y_move rfl rfl) ?_; clear hf; intro a hf
                refine sY hf hs rfl rfl rfl (Y_add rfl rfl rfl) ?_; clear hf; intro a hf
                refine sY hf hs rfl rfl rfl (Y_assign rfl rfl) ?_; clear hf; intro a hf
                refine wpO_nil ?_
                refine wpL_nil (Ql_normal ?_)
                exact ⟨(IntKind.i64.wrap (x138 + 1)), hm206, (FrD.pick (FrD.pick hf.none hf rfl) hf rfl), hs⟩
          · have hm206 := bif_f hm206 hb208
            refine wpL_exit (Ql_exit (Qb_exit ?_))
            exact ⟨Option.some.inj hm206, hf.none, hs⟩
      · rintro a w ⟨hr_, hf, hs⟩
        subst hr_
        try dsimp only at hm
        refine wpL_seq ?_
        refine wpL_region ?_
        refine sY hf hs rfl rfl rfl (Y_assign rfl rfl) ?_; clear hf; intro a hf
        refine wpO_nil ?_
        obtain rfl := Option.some.inj hm
        refine wpL_ret (ret_tmp rfl hf rfl ?_)
        exact ⟨_, rfl, rfl, hs⟩

set_option maxRecDepth 100000 in
theorem spec_l02Square_ok (F : Nat) (p0_a : List (List Int)) (A_p0_a_1 : Option Addr) (n_p0_a_1 c_p0_a_1 : Nat) (hn_p0_a_1 : n_p0_a_1 = p0_a.length) (r : Bool) (W : World) (hm : spec_l02Square F p0_a = some r) (h_p0_a_1 : RdM W A_p0_a_1 p0_a) :
    Calls Try.prog 153 [.slice A_p0_a_1 n_p0_a_1 c_p0_a_1].toArray W fun e w' => ∃ v, e = .returned v ∧ v = .bool r ∧ St [] W w' [] := by
  subst hn_p0_a_1
  unfold spec_l02Square at hm
  refine Calls.enter (N := 14) Try.func153 rfl rfl rfl (fun a hf => ?_)
  have hs := St.start W
  obtain ⟨w, hw_⟩ : ∃ w, w = W := ⟨W, rfl⟩
  clear hw_ w
  refine wpL_seq ?_
  refine wpL_region ?_
  refine sY hf hs rfl rfl rfl (Y_assign rfl rfl) ?_; clear hf; intro a hf
  refine wpO_nil ?_
  refine wpL_seq ?_
  obtain ⟨r14, hj15, hm⟩ := bind_some hm
  refine wpL_cut (fun a w => ∃ b13 : Bool, b13 = r14 ∧ Fr a 14 [(2, .bool b13)] ∧ St [] W w []) ?_ ?_
  · refine wpL_region ?_
    refine sY hf hs rfl rfl rfl (Y_move rfl rfl) ?_; clear hf; intro a hf
    obtain ⟨r16, hc17, hj15⟩ := bind_some hj15
    refine sCall hf rfl rfl rfl rfl (cap := []) rfl rfl en107 (spec_IsMatrix_ok F p0_a A_p0_a_1 p0_a.length c_p0_a_1 rfl _ _ hc17 (h_p0_a_1.at hs)) ?_; clear hf
    rintro _ w ⟨rfl, hs1⟩ a hf
    have hs : St [] W w [] := hs.ext hs1.below
    clear hs1
    refine sY hf hs rfl rfl rfl (Y_move rfl rfl) ?_; clear hf; intro a hf
    refine bsplit r16 (fun hb18 => ?_) (fun hb18 => ?_)
    · have hj15 := bif_t hj15 hb18
      refine sYg hf hs rfl rfl rfl (congrArg (fun b => some (Value.bool b)) hb18) rfl rfl rfl (Y_move rfl rfl) ?_; clear hf; intro a hf
      refine sYg hf hs rfl rfl rfl (congrArg (fun b => some (Value.bool b)) hb18) rfl rfl rfl (Y_lenH rfl rfl el46 rfl) ?_; clear hf; intro a hf
      refine sYg hf hs rfl rfl rfl (congrArg (fun b => some (Value.bool b)) hb18) rfl rfl rfl (Y_move rfl rfl) ?_; clear hf; intro a hf
      obtain ⟨q19, hi20, hj15⟩ := bind_some hj15
      obtain ⟨hi20a, hi20b, hi20q⟩ := idx_some hi20
      obtain ⟨vs21, hv22, hr23⟩ := id h_p0_a_1
      obtain ⟨A24, c25, hv26, hR27⟩ := hr23 _ _ hi20q
      refine sYg hf hs rfl rfl rfl (congrArg (fun b => some (Value.bool b)) hb18) rfl rfl rfl (Y_index rfl rfl rfl el46 ti23 (Rd.isAt hv22 hv26) hi20a hi20b) ?_; clear hf; intro a hf
      refine sYg hf hs rfl rfl rfl (congrArg (fun b => some (Value.bool b)) hb18) rfl rfl rfl (Y_load_rd rfl rfl (fun w hs => hv22.at hs) (at1 hv26) ag23) ?_; clear hf; intro a hf
      refine sYg hf hs rfl rfl rfl (congrArg (fun b => some (Value.bool b)) hb18) rfl rfl rfl (Y_lenH rfl rfl el23 rfl) ?_; clear hf; intro a hf
      refine sYg hf hs rfl rfl rfl (congrArg (fun b => some (Value.bool b)) hb18) rfl rfl rfl (Y_eql rfl rfl rfl) ?_; clear hf; intro a hf
      refine sY hf hs rfl rfl rfl (Y_pickT rfl (congrArg (fun b => some (Value.bool b)) hb18) rfl) ?_; clear hf; intro a hf
      refine sY hf hs rfl rfl rfl (Y_assign rfl rfl) ?_; clear hf; intro a hf
      refine wpO_nil ?_
      refine wpL_nil (then_normal ?_)
      exact ⟨((p0_a.length : Int) == (q19.length : Int)), Option.some.inj hj15, (FrD.pick hf.none hf rfl), hs⟩
    · have hj15 := bif_f hj15 hb18
      refine sNo hf rfl rfl rfl (congrArg (fun b => some (Value.bool b)) hb18) rfl rfl rfl ?_; clear hf; intro a hf
      refine sNo hf rfl rfl rfl (congrArg (fun b => some (Value.bool b)) hb18) rfl rfl rfl ?_; clear hf; intro a hf
      refine sNo hf rfl rfl rfl (congrArg (fun b => some (Value.bool b)) hb18) rfl rfl rfl ?_; clear hf; intro a hf
      refine sNo hf rfl rfl rfl (congrArg (fun b => some (Value.bool b)) hb18) rfl rfl rfl ?_; clear hf; intro a hf
      refine sNo hf rfl rfl rfl (congrArg (fun b => some (Value.bool b)) hb18) rfl rfl rfl ?_; clear hf; intro a hf
      refine sNo hf rfl rfl rfl (congrArg (fun b => some (Value.bool b)) hb18) rfl rfl rfl ?_; clear hf; intro a hf
      refine sNo hf rfl rfl rfl (congrArg (fun b => some (Value.bool b)) hb18) rfl rfl rfl ?_; clear hf; intro a hf
      refine sY hf hs rfl rfl rfl (Y_pickF rfl (congrArg (fun b => some (Value.bool b)) hb18) rfl) ?_; clear hf; intro a hf
      refine sY hf hs rfl rfl rfl (Y_assign rfl rfl) ?_; clear hf; intro a hf
      refine wpO_nil ?_
      refine wpL_nil (then_normal ?_)
      exact ⟨false, Option.some.inj hj15, (FrD.pick hf.none hf rfl), hs⟩
  · rintro a w ⟨b13, hr_, hf, hs⟩
    subst hr_
    try dsimp only at hm
    obtain rfl := Option.some.inj hm
    refine wpL_ret (ret_tmp rfl hf rfl ?_)
    exact ⟨_, rfl, rfl, hs⟩

set_option maxRecDepth 100000 in
theorem spec_IsSystem_ok (F : Nat) (p0_s : GSystem) (A_p0_s_1 : Option Addr) (n_p0_s_1 c_p0_s_1 : Nat) (hn_p0_s_1 : n_p0_s_1 = p0_s.A.length) (A_p0_s_2 : Option Addr) (n_p0_s_2 c_p0_s_2 : Nat) (hn_p0_s_2 : n_p0_s_2 = p0_s.B.length) (A_p0_s_3 : Option Addr) (n_p0_s_3 c_p0_s_3 : Nat) (hn_p0_s_3 : n_p0_s_3 = p0_s.C.length) (r : Bool) (W : World) (hm : spec_IsSystem F p0_s = some r) (h_p0_s_1 : RdM W A_p0_s_1 p0_s.A) (h_p0_s_2 : Rd W A_p0_s_2 (ints p0_s.B)) (h_p0_s_3 : Rd W A_p0_s_3 (ints p0_s.C)) :
    Calls Try.prog 97 [.agg #[.slice A_p0_s_1 n_p0_s_1 c_p0_s_1, .slice A_p0_s_2 n_p0_s_2 c_p0_s_2, .slice A_p0_s_3 n_p0_s_3 c_p0_s_3]].toArray W fun e w' => ∃ v, e = .returned v ∧ v = .bool r ∧ St [] W w' [] := by
  subst hn_p0_s_1
  subst hn_p0_s_2
  subst hn_p0_s_3
  unfold spec_IsSystem at hm
  refine Calls.enter (N := 34) Try.func97 rfl rfl rfl (fun a hf => ?_)
  have hs := St.start W
  obtain ⟨w, hw_⟩ : ∃ w, w = W := ⟨W, rfl⟩
  clear hw_ w
  refine wpL_seq ?_
  refine wpL_region ?_
  refine sBox hf hs rfl rfl rfl rfl rfl (cs := [.slice A_p0_s_1 p0_s.A.length c_p0_s_1, .slice A_p0_s_2 p0_s.B.length c_p0_s_2, .slice A_p0_s_3 p0_s.C.length c_p0_s_3]) rfl ?_; clear hf hs; intro a w b1 hs hf
  have hs : St [] W w [.blk b1 55 [.slice A_p0_s_1 p0_s.A.length c_p0_s_1, .slice A_p0_s_2 p0_s.B.length c_p0_s_2, .slice A_p0_s_3 p0_s.C.length c_p0_s_3]] := hs
  refine sY hf hs rfl rfl rfl (Y_assign rfl rfl) ?_; clear hf; intro a hf
  refine wpO_nil ?_
  refine wpL_seq ?_
  obtain ⟨r13, hj14, hm⟩ := bind_some hm
  refine wpL_cut (fun a w => ∃ b12 : Bool, b12 = r13 ∧ Fr a 34 [(2, .bool b12)] ∧ St [] W w []) ?_ ?_
  · refine wpL_region ?_
    refine sY hf hs rfl rfl rfl (Y_fieldAddr rfl rfl fo55_0) ?_; clear hf; intro a hf
    refine sY hf hs rfl rfl rfl (Y_load_blk rfl rfl (i := 0) rfl rfl ag46) ?_; clear hf; intro a hf
    obtain ⟨r15, hc16, hj14⟩ := bind_some hj14
    refine sCall hf rfl rfl rfl rfl (cap := []) rfl rfl en153 (spec_l02Square_ok F p0_s.A A_p0_s_1 p0_s.A.length c_p0_s_1 rfl _ _ hc16 (h_p0_s_1.at hs)) ?_; clear hf
    rintro _ w ⟨rfl, hs1⟩ a hf
    have hs : St [] W w [.blk b1 55 [.slice A_p0_s_1 p0_s.A.length c_p0_s_1, .slice A_p0_s_2 p0_s.B.length c_p0_s_2, .slice A_p0_s_3 p0_s.C.length c_p0_s_3]] := hs.ext hs1.below
    clear hs1
    refine sY hf hs rfl rfl rfl (Y_move rfl rfl) ?_; clear hf; intro a hf
    refine bsplit r15 (fun hb17 => ?_) (fun hb17 => ?_)
    · have hj14 := bif_t hj14 hb17
      refine sYg hf hs rfl rfl rfl (congrArg (fun b => some (Value.bool b)) hb17) rfl rfl rfl (Y_fieldAddr rfl rfl fo55_1) ?_; clear hf; intro a hf
      refine sYg hf hs rfl rfl rfl (congrArg (fun b => some (Value.bool b)) hb17) rfl rfl rfl (Y_load_blk rfl rfl (i := 0) rfl rfl ag23) ?_; clear hf; intro a hf
      obtain ⟨r18, hc19, hj14⟩ := bind_some hj14
      refine sCallg hf rfl rfl rfl (congrArg (fun b => some (Value.bool b)) hb17) rfl rfl rfl rfl (cap := []) rfl rfl en67 (spec_l02Vector_ok F p0_s.B A_p0_s_2 p0_s.B.length c_p0_s_2 rfl _ _ hc19 (h_p0_s_2.at hs)) ?_; clear hf
      rintro _ w ⟨rfl, hs1⟩ a hf
      have hs : St [] W w [.blk b1 55 [.slice A_p0_s_1 p0_s.A.length c_p0_s_1, .slice A_p0_s_2 p0_s.B.length c_p0_s_2, .slice A_p0_s_3 p0_s.C.length c_p0_s_3]] := hs.ext hs1.below
      clear hs1
      refine sY hf hs rfl rfl rfl (Y_pickT rfl (congrArg (fun b => some (Value.bool b)) hb17) rfl) ?_; clear hf; intro a hf
      refine sY hf hs rfl rfl rfl (Y_move rfl rfl) ?_; clear hf; intro a hf
      refine bsplit r18 (fun hb20 => ?_) (fun hb20 => ?_)
      · have hj14 := bif_t hj14 hb20
        refine sYg hf hs rfl rfl rfl (congrArg (fun b => some (Value.bool b)) hb20) rfl rfl rfl (Y_fieldAddr rfl rfl fo55_2) ?_; clear hf; intro a hf
        refine sYg hf hs rfl rfl rfl (congrArg (fun b => some (Value.bool b)) hb20) rfl rfl rfl (Y_load_blk rfl rfl (i := 0) rfl rfl ag23) ?_; clear hf; intro a hf
        obtain ⟨r21, hc22, hj14⟩ := bind_some hj14
        refine sCallg hf rfl rfl rfl (congrArg (fun b => some (Value.bool b)) hb20) rfl rfl rfl rfl (cap := []) rfl rfl en67 (spec_l02Vector_ok F p0_s.C A_p0_s_3 p0_s.C.length c_p0_s_3 rfl _ _ hc22 (h_p0_s_3.at hs)) ?_; clear hf
        rintro _ w ⟨rfl, hs1⟩ a hf
        have hs : St [] W w [.blk b1 55 [.slice A_p0_s_1 p0_s.A.length c_p0_s_1, .slice A_p0_s_2 p0_s.B.length c_p0_s_2, .slice A_p0_s_3 p0_s.C.length c_p0_s_3]] := hs.ext hs1.below
        clear hs1
        refine sY hf hs rfl rfl rfl (Y_pickT rfl (congrArg (fun b => some (Value.bool b)) hb20) rfl) ?_; clear hf; intro a hf
        refine sY hf hs rfl rfl rfl (Y_move rfl rfl) ?_; clear hf; intro a hf
        refine bsplit r21 (fun hb23 => ?_) (fun hb23 => ?_)
        · have hj14 := bif_t hj14 hb23
          refine sYg hf hs rfl rfl rfl (congrArg (fun b => some (Value.bool b)) hb23) rfl rfl rfl (Y_fieldAddr rfl rfl fo55_1) ?_; clear hf; intro a hf
          refine sYg hf hs rfl rfl rfl (congrArg (fun b => some (Value.bool b)) hb23) rfl rfl rfl (Y_load_blk rfl rfl (i := 0) rfl rfl ag23) ?_; clear hf; intro a hf
          refine sYg hf hs rfl rfl rfl (congrArg (fun b => some (Value.bool b)) hb23) rfl rfl rfl (Y_lenH rfl rfl el23 rfl) ?_; clear hf; intro a hf
          refine sYg hf hs rfl rfl rfl (congrArg (fun b => some (Value.bool b)) hb23) rfl rfl rfl (Y_fieldAddr rfl rfl fo55_0) ?_; clear hf; intro a hf
          refine sYg hf hs rfl rfl rfl (congrArg (fun b => some (Value.bool b)) hb23) rfl rfl rfl (Y_load_blk rfl rfl (i := 0) rfl rfl ag46) ?_; clear hf; intro a hf
          refine sYg hf hs rfl rfl rfl (congrArg (fun b => some (Value.bool b)) hb23) rfl rfl rfl (Y_lenH rfl rfl el46 rfl) ?_; clear hf; intro a hf
          refine sYg hf hs rfl rfl rfl (congrArg (fun b => some (Value.bool b)) hb23) rfl rfl rfl (Y_eql rfl rfl rfl) ?_; clear hf; intro a hf
          refine sY hf hs rfl rfl rfl (Y_pickT rfl (congrArg (fun b => some (Value.bool b)) hb23) rfl) ?_; clear hf; intro a hf
          refine sY hf hs rfl rfl rfl (Y_move rfl rfl) ?_; clear hf; intro a hf
          refine bsplit ((p0_s.B.length : Int) == (p0_s.A.length : Int)) (fun hb24 => ?_) (fun hb24 => ?_)
          · have hj14 := bif_t hj14 hb24
            refine sYg hf hs rfl rfl rfl (congrArg (fun b => some (Value.bool b)) hb24) rfl rfl rfl (Y_fieldAddr rfl rfl fo55_2) ?_; clear hf; intro a hf
            refine sYg hf hs rfl rfl rfl (congrArg (fun b => some (Value.bool b)) hb24) rfl rfl rfl (Y_load_blk rfl rfl (i := 0) rfl rfl ag23) ?_; clear hf; intro a hf
            refine sYg hf hs rfl rfl rfl (congrArg (fun b => some (Value.bool b)) hb24) rfl rfl rfl (Y_lenH rfl rfl el23 rfl) ?_; clear hf; intro a hf
            refine sYg hf hs rfl rfl rfl (congrArg (fun b => some (Value.bool b)) hb24) rfl rfl rfl (Y_fieldAddr rfl rfl fo55_0) ?_; clear hf; intro a hf
            refine sYg hf hs rfl rfl rfl (congrArg (fun b => some (Value.bool b)) hb24) rfl rfl rfl (Y_load_blk rfl rfl (i := 0) rfl rfl ag46) ?_; clear hf; intro a hf
            refine sYg hf hs rfl rfl rfl (congrArg (fun b => some (Value.bool b)) hb24) rfl rfl rfl (Y_lenH rfl rfl el46 rfl) ?_; clear hf; intro a hf
            refine sYg hf hs rfl rfl rfl (congrArg (fun b => some (Value.bool b)) hb24) rfl rfl rfl (Y_eql rfl rfl rfl) ?_; clear hf; intro a hf
            refine sY hf hs rfl rfl rfl (Y_pickT rfl (congrArg (fun b => some (Value.bool b)) hb24) rfl) ?_; clear hf; intro a hf
            refine sY hf hs rfl rfl rfl (Y_assign rfl rfl) ?_; clear hf; intro a hf
            refine wpO_nil ?_
            refine wpL_nil (then_normal ?_)
            exact ⟨((p0_s.C.length : Int) == (p0_s.A.length : Int)), Option.some.inj hj14, (FrD.pick hf.none hf rfl), hs.sel [] (by decide)⟩
          · have hj14 := bif_f hj14 hb24
            refine sNo hf rfl rfl rfl (congrArg (fun b => some (Value.bool b)) hb24) rfl rfl rfl ?_; clear hf; intro a hf
            refine sNo hf rfl rfl rfl (congrArg (fun b => some (Value.bool b)) hb24) rfl rfl rfl ?_; clear hf; intro a hf
            refine sNo hf rfl rfl rfl (congrArg (fun b => some (Value.bool b)) hb24) rfl rfl rfl ?_; clear hf; intro a hf
            refine sNo hf rfl rfl rfl (congrArg (fun b => some (Value.bool b)) hb24) rfl rfl rfl ?_; clear hf; intro a hf
            refine sNo hf rfl rfl rfl (congrArg (fun b => some (Value.bool b)) hb24) rfl rfl rfl ?_; clear hf; intro a hf
            refine sNo hf rfl rfl rfl (congrArg (fun b => some (Value.bool b)) hb24) rfl rfl rfl ?_; clear hf; intro a hf
            refine sNo hf rfl rfl rfl (congrArg (fun b => some (Value.bool b)) hb24) rfl rfl rfl ?_; clear hf; intro a hf
            refine sY hf hs rfl rfl rfl (Y_pickF rfl (congrArg (fun b => some (Value.bool b)) hb24) rfl) ?_; clear hf; intro a hf
            refine sY hf hs rfl rfl rfl (Y_assign rfl rfl) ?_; clear hf; intro a hf
            refine wpO_nil ?_
            refine wpL_nil (then_normal ?_)
            exact ⟨false, Option.some.inj hj14, (FrD.pick hf.none hf rfl), hs.sel [] (by decide)⟩
        · have hj14 := bif_f hj14 hb23
          refine sNo hf rfl rfl rfl (congrArg (fun b => some (Value.bool b)) hb23) rfl rfl rfl ?_; clear hf; intro a hf
          refine sNo hf rfl rfl rfl (congrArg (fun b => some (Value.bool b)) hb23) rfl rfl rfl ?_; clear hf; intro a hf
          refine sNo hf rfl rfl rfl (congrArg (fun b => some (Value.bool b)) hb23) rfl rfl rfl ?_; clear hf; intro a hf
          refine sNo hf rfl rfl rfl (congrArg (fun b => some (Value.bool b)) hb23) rfl rfl rfl ?_; clear hf; intro a hf
          refine sNo hf rfl rfl rfl (congrArg (fun b => some (Value.bool b)) hb23) rfl rfl rfl ?_; clear hf; intro a hf
          refine sNo hf rfl rfl rfl (congrArg (fun b => some (Value.bool b)) hb23) rfl rfl rfl ?_; clear hf; intro a hf
          refine sNo hf rfl rfl rfl (congrArg (fun b => some (Value.bool b)) hb23) rfl rfl rfl ?_; clear hf; intro a hf
          refine sY hf hs rfl rfl rfl (Y_pickF rfl (congrArg (fun b => some (Value.bool b)) hb23) rfl) ?_; clear hf; intro a hf
          refine sY hf hs rfl rfl rfl (Y_move rfl rfl) ?_; clear hf; intro a hf
          refine sNo hf rfl rfl rfl rfl rfl rfl rfl ?_; clear hf; intro a hf
          refine sNo hf rfl rfl rfl rfl rfl rfl rfl ?_; clear hf; intro a hf
          refine sNo hf rfl rfl rfl rfl rfl rfl rfl ?_; clear hf; intro a hf
          refine sNo hf rfl rfl rfl rfl rfl rfl rfl ?_; clear hf; intro a hf
          refine sNo hf rfl rfl rfl rfl rfl rfl rfl ?_; clear hf; intro a hf
          refine sNo hf rfl rfl rfl rfl rfl rfl rfl ?_; clear hf; intro a hf
          refine sNo hf rfl rfl rfl rfl rfl rfl rfl ?_; clear hf; intro a hf
          refine sY hf hs rfl rfl rfl (Y_pickF rfl rfl rfl) ?_; clear hf; intro a hf
          refine sY hf hs rfl rfl rfl (Y_assign rfl rfl) ?_; clear hf; intro a hf
          refine wpO_nil ?_
          refine wpL_nil (then_normal ?_)
          exact ⟨false, Option.some.inj hj14, (FrD.pick hf.none hf rfl), hs.sel [] (by decide)⟩
      · have hj14 := bif_f hj14 hb20
        refine sNo hf rfl rfl rfl (congrArg (fun b => some (Value.bool b)) hb20) rfl rfl rfl ?_; clear hf; intro a hf
        refine sNo hf rfl rfl rfl (congrArg (fun b => some (Value.bool b)) hb20) rfl rfl rfl ?_; clear hf; intro a hf
        refine sNo hf rfl rfl rfl (congrArg (fun b => some (Value.bool b)) hb20) rfl rfl rfl ?_; clear hf; intro a hf
        refine sY hf hs rfl rfl rfl (Y_pickF rfl (congrArg (fun b => some (Value.bool b)) hb20) rfl) ?_; clear hf; intro a hf
        refine sY hf hs rfl rfl rfl (Y_move rfl rfl) ?_; clear hf; intro a hf
        refine sNo hf rfl rfl rfl rfl rfl rfl rfl ?_; clear hf; intro a hf
        refine sNo hf rfl rfl rfl rfl rfl rfl rfl ?_; clear hf; intro a hf
        refine sNo hf rfl rfl rfl rfl rfl rfl rfl ?_; clear hf; intro a hf
        refine sNo hf rfl rfl rfl rfl rfl rfl rfl ?_; clear hf; intro a hf
        refine sNo hf rfl rfl rfl rfl rfl rfl rfl ?_; clear hf; intro a hf
        refine sNo hf rfl rfl rfl rfl rfl rfl rfl ?_; clear hf; intro a hf
        refine sNo hf rfl rfl rfl rfl rfl rfl rfl ?_; clear hf; intro a hf
        refine sY hf hs rfl rfl rfl (Y_pickF rfl rfl rfl) ?_; clear hf; intro a hf
        refine sY hf hs rfl rfl rfl (Y_move rfl rfl) ?_; clear hf; intro a hf
        refine sNo hf rfl rfl rfl rfl rfl rfl rfl ?_; clear hf; intro a hf
        refine sNo hf rfl rfl rfl rfl rfl rfl rfl ?_; clear hf; intro a hf
        refine sNo hf rfl rfl rfl rfl rfl rfl rfl ?_; clear hf; intro a hf
        refine sNo hf rfl rfl rfl rfl rfl rfl rfl ?_; clear hf; intro a hf
        refine sNo hf rfl rfl rfl rfl rfl rfl rfl ?_; clear hf; intro a hf
        refine sNo hf rfl rfl rfl rfl rfl rfl rfl ?_; clear hf; intro a hf
        refine sNo hf rfl rfl rfl rfl rfl rfl rfl ?_; clear hf; intro a hf
        refine sY hf hs rfl rfl rfl (Y_pickF rfl rfl rfl) ?_; clear hf; intro a hf
        refine sY hf hs rfl rfl rfl (Y_assign rfl rfl) ?_; clear hf; intro a hf
        refine wpO_nil ?_
        refine wpL_nil (then_normal ?_)
        exact ⟨false, Option.some.inj hj14, (FrD.pick hf.none hf rfl), hs.sel [] (by decide)⟩
    · have hj14 := bif_f hj14 hb17
      refine sNo hf rfl rfl rfl (congrArg (fun b => some (Value.bool b)) hb17) rfl rfl rfl ?_; clear hf; intro a hf
      refine sNo hf rfl rfl rfl (congrArg (fun b => some (Value.bool b)) hb17) rfl rfl rfl ?_; clear hf; intro a hf
      refine sNo hf rfl rfl rfl (congrArg (fun b => some (Value.bool b)) hb17) rfl rfl rfl ?_; clear hf; intro a hf
      refine sY hf hs rfl rfl rfl (Y_pickF rfl (congrArg (fun b => some (Value.bool b)) hb17) rfl) ?_; clear hf; intro a hf
      refine sY hf hs rfl rfl rfl (Y_move rfl rfl) ?_; clear hf; intro a hf
      refine sNo hf rfl rfl rfl rfl rfl rfl rfl ?_; clear hf; intro a hf
      refine sNo hf rfl rfl rfl rfl rfl rfl rfl ?_; clear hf; intro a hf
      refine sNo hf rfl rfl rfl rfl rfl rfl rfl ?_; clear hf; intro a hf
      refine sY hf hs rfl rfl rfl (Y_pickF rfl rfl rfl) ?_; clear hf; intro a hf
      refine sY hf hs rfl rfl rfl (Y_move rfl rfl) ?_; clear hf; intro a hf
      refine sNo hf rfl rfl rfl rfl rfl rfl rfl ?_; clear hf; intro a hf
      refine sNo hf rfl rfl rfl rfl rfl rfl rfl ?_; clear hf; intro a hf
      refine sNo hf rfl rfl rfl rfl rfl rfl rfl ?_; clear hf; intro a hf
      refine sNo hf rfl rfl rfl rfl rfl rfl rfl ?_; clear hf; intro a hf
      refine sNo hf rfl rfl rfl rfl rfl rfl rfl ?_; clear hf; intro a hf
      refine sNo hf rfl rfl rfl rfl rfl rfl rfl ?_; clear hf; intro a hf
      refine sNo hf rfl rfl rfl rfl rfl rfl rfl ?_; clear hf; intro a hf
      refine sY hf hs rfl rfl rfl (Y_pickF rfl rfl rfl) ?_; clear hf; intro a hf
      refine sY hf hs rfl rfl rfl (Y_move rfl rfl) ?_; clear hf; intro a hf
      refine sNo hf rfl rfl rfl rfl rfl rfl rfl ?_; clear hf; intro a hf
      refine sNo hf rfl rfl rfl rfl rfl rfl rfl ?_; clear hf; intro a hf
      refine sNo hf rfl rfl rfl rfl rfl rfl rfl ?_; clear hf; intro a hf
      refine sNo hf rfl rfl rfl rfl rfl rfl rfl ?_; clear hf; intro a hf
      refine sNo hf rfl rfl rfl rfl rfl rfl rfl ?_; clear hf; intro a hf
      refine sNo hf rfl rfl rfl rfl rfl rfl rfl ?_; clear hf; intro a hf
      refine sNo hf rfl rfl rfl rfl rfl rfl rfl ?_; clear hf; intro a hf
      refine sY hf hs rfl rfl rfl (Y_pickF rfl rfl rfl) ?_; clear hf; intro a hf
      refine sY hf hs rfl rfl rfl (Y_assign rfl rfl) ?_; clear hf; intro a hf
      refine wpO_nil ?_
      refine wpL_nil (then_normal ?_)
      exact ⟨false, Option.some.inj hj14, (FrD.pick hf.none hf rfl), hs.sel [] (by decide)⟩
  · rintro a w ⟨b12, hr_, hf, hs⟩
    subst hr_
    try dsimp only at hm
    obtain rfl := Option.some.inj hm
    refine wpL_ret (ret_tmp rfl hf rfl ?_)
    exact ⟨_, rfl, rfl, hs⟩

set_option maxRecDepth 100000 in
theorem spec_l02Bottom_ok (F : Nat) (p0_m : Int) (p1_n : Int) (r : List (List Int)) (W : World) (hm : spec_l02Bottom F p0_m p1_n = some r) :
    Calls Try.prog 87 [.int .i64 p0_m, .int .i64 p1_n].toArray W fun e w' => ∃ v, e = .returned v ∧ ∃ A268, ∃ n269, ∃ c270, ∃ vs272, v = .slice A268 n269 c270 ∧ n269 = r.length ∧ St [] W w' [.mat A268 n269 c270 23 2 vs272 r] := by
  unfold spec_l02Bottom at hm
  refine Calls.enter (N := 29) Try.func87 rfl rfl rfl (fun a hf => ?_)
  have hs := St.start W
  obtain ⟨w, hw_⟩ : ∃ w, w = W := ⟨W, rfl⟩
  clear hw_ w
  refine wpL_seq ?_
  refine wpL_region ?_
  refine sY hf hs rfl rfl rfl (Y_assign rfl rfl) ?_; clear hf; intro a hf
  refine wpO_nil ?_
  refine wpL_seq ?_
  refine wpL_region ?_
  refine sEmptyM 2 hf hs rfl rfl rfl rfl el46 ti23 rfl ?_; clear hf hs; intro a w A1 hs hf
  have hs : St [] W w [.mat A1 0 0 23 2 [] []] := hs
  refine sY hf hs rfl rfl rfl (Y_assign rfl rfl) ?_; clear hf; intro a hf
  refine wpO_nil ?_
  refine wpL_seq ?_
  refine wpL_seq ?_
  refine wpL_region ?_
  refine sY hf hs rfl rfl rfl (Y_assign rfl rfl) ?_; clear hf; intro a hf
  refine wpO_nil ?_
  obtain ⟨r204, hl205, hm⟩ := bind_some hm
  refine wpL_block (fun a w => ∃ ms198 : List (List Int), ∃ A199, ∃ n200, ∃ c201, ∃ vs203, ms198 = r204 ∧ n200 = ms198.length ∧ Fr a 29 [(5, .slice A199 n200 c201)] ∧ St [] W w [.mat A199 n200 c201 23 2 vs203 ms198]) ?_ ?_
  · refine wpL_loop (fun n a w => ∃ ms131 : List (List Int), ∃ x137 : Int, ∃ A132, ∃ n133, ∃ c134, ∃ vs136, spec_l02Bottom_L4 F p0_m p1_n n ms131 x137 = some r204 ∧ n133 = ms131.length ∧ Fr a 29 [(0, .int .i64 p0_m), (1, .int .i64 p1_n), (5, .slice A132 n133 c134), (6, .int .i64 x137)] ∧ St [] W w [.mat A132 n133 c134 23 2 vs136 ms131]) F ?_ ?_ ?_
    · exact ⟨[], 0, A1, 0, 0, [], hl205, rfl, (FrD.pick (FrD.pick (FrD.pick (FrD.pick hf.none hf rfl) hf rfl) hf rfl) hf rfl), hs⟩
    · rintro a w ⟨ms131, x137, A132, n133, c134, vs136, h0_, -, -, -⟩; simp [spec_l02Bottom_L4] at h0_
    · rintro n207 a w ⟨ms131, x137, A132, n133, c134, vs136, hm206, hn135, hf, hs⟩
      rw [spec_l02Bottom_L4] at hm206
      refine wpL_seq ?_
      refine wpL_seq ?_
      refine wpL_region ?_
      refine sY hf hs rfl rfl rfl (Y_move rfl rfl) ?_; clear hf; intro a hf
      refine sY hf hs rfl rfl rfl (Y_move rfl rfl) ?_; clear hf; intro a hf
      refine sY hf hs rfl rfl rfl (Y_lss rfl rfl rfl) ?_; clear hf; intro a hf
      refine wpO_nil ?_
      refine wpL_cond hf rfl (fun hb208 => ?_) (fun hb208 => ?_)
      · have hm206 := bif_t hm206 hb208
        refine wpL_skip ?_
        refine wpL_seq ?_
        refine wpL_block0 ?_
        refine wpL_seq ?_
        refine wpL_region ?_
        refine sEmpty hf hs rfl rfl rfl rfl el23 ti2 ?_; clear hf hs; intro a w A209 hs hf
        have hs : St [] W w [.mat A132 n133 c134 23 2 vs136 ms131, .row A209 0 0 2 1 (ints ([] : List Int))] := hs
        refine sY hf hs rfl rfl rfl (Y_assign rfl rfl) ?_; clear hf; intro a hf
        refine wpO_nil ?_
        refine wpL_seq ?_
        refine wpL_seq ?_
        refine wpL_region ?_
        refine sY hf hs rfl rfl rfl (Y_assign rfl rfl) ?_; clear hf; intro a hf
        refine wpO_nil ?_
        obtain ⟨r249, hl250, hm206⟩ := bind_some hm206
        refine wpL_block (fun a w => ∃ xs244 : List Int, ∃ A245, ∃ n246, ∃ c247, xs244 = r249 ∧ n246 = xs244.length ∧ Fr a 29 [(0, .int .i64 p0_m), (1, .int .i64 p1_n), (5, .slice A132 n133 c134), (6, .int .i64 x137), (7, .slice A245 n246 c247)] ∧ St [] W w [.mat A132 n133 c134 23 2 vs136 ms131, .row A245 n246 c247 2 1 (ints xs244)]) ?_ ?_
        · refine wpL_loop (fun n a w => ∃ xs231 : List Int, ∃ x236 : Int, ∃ A232, ∃ n233, ∃ c234, spec_l02Bottom_L5 F p1_n n xs231 x236 = some r249 ∧ n233 = xs231.length ∧ Fr a 29 [(0, .int .i64 p0_m), (1, .int .i64 p1_n), (5, .slice A132 n133 c134), (6, .int .i64 x137), (7, .slice A232 n233 c234), (8, .int .i64 x236)] ∧ St [] W w [.mat A132 n133 c134 23 2 vs136 ms131, .row A232 n233 c234 2 1 (ints xs231)]) F ?_ ?_ ?_
          · exact ⟨([] : List Int), 0, A209, 0, 0, hl250, rfl, (FrD.pick (FrD.pick (FrD.pick (FrD.pick (FrD.pick (FrD.pick hf.none hf rfl) hf rfl) hf rfl) hf rfl) hf rfl) hf rfl), hs⟩
          · rintro a w ⟨xs231, x236, A232, n233, c234, h0_, -, -, -⟩; simp [spec_l02Bottom_L5] at h0_
          · rintro n252 a w ⟨xs231, x236, A232, n233, c234, hm251, hn235, hf, hs⟩
            rw [spec_l02Bottom_L5] at hm251
            refine wpL_seq ?_
            refine wpL_seq ?_
            refine wpL_region ?_
            refine sY hf hs rfl rfl rfl (Y_move rfl rfl) ?_; clear hf; intro a hf
            refine sY hf hs rfl rfl rfl (Y_move rfl rfl) ?_; clear hf; intro a hf
            refine sY hf hs rfl rfl rfl (Y_lss rfl rfl rfl) ?_; clear hf; intro a hf
            refine wpO_nil ?_
            refine wpL_cond hf rfl (fun hb253 => ?_) (fun hb253 => ?_)
            · have hm251 := bif_t hm251 hb253
              refine wpL_skip ?_
              refine wpL_seq ?_
              refine wpL_block0 ?_
              refine wpL_region ?_
              refine sY hf hs rfl rfl rfl (Y_move rfl rfl) ?_; clear hf; intro a hf
              refine sBuildSlice (parts := [(0, .const (.int .i64 (-1000000000000000)))]) (vs := [.int .i64 (-1000000000000000)]) (cells := [.int .i64 (-1000000000000000)]) hf hs rfl rfl rfl rfl rfl el23 ti2 rfl rfl rfl rfl ?_; clear hf hs; intro a w A254 hs hA255 hf
              have hs : St [] W w [.mat A132 n133 c134 23 2 vs136 ms131, .row A232 n233 c234 2 1 (ints xs231), .row A254 1 1 2 1 (ints ([(-1000000000000000)]))] := hs
              obtain ⟨xs258, ha259, hm251⟩ := bind_some hm251
              refine sAppendL (i := 1) (xs := xs231) (ys := [(-1000000000000000)]) (enc := ints) hf hs rfl rfl rfl rfl rfl rfl hn235 rfl rfl ha259 el23 ti2 rfl rfl rfl (hs.rd (i := 2) rfl) (Nat.succ_pos _) ints_len1 ints_append ints_one ?_; clear hf hs; intro a w A256 c257 hs hf
              have hs : St [] W w [.mat A132 n133 c134 23 2 vs136 ms131, .row A256 xs258.length c257 2 1 (ints xs258), .row A254 1 1 2 1 (ints ([(-1000000000000000)]))] := hs
              refine sY hf hs rfl rfl rfl (Y_assign rfl rfl) ?_; clear hf; intro a hf
              refine wpO_nil ?_
              refine wpL_nil (Qb_normal ?_)
              refine wpL_region ?_
              refine sY hf hs rfl rfl rfl (Y_move rfl rfl) ?_; clear hf; intro a hf
              refine sY hf hs rfl rfl rfl (Y_add rfl rfl rfl) ?_; clear hf; intro a hf
              refine sY hf hs rfl rfl rfl (Y_assign rfl rfl) ?_; clear hf; intro a hf
              refine wpO_nil ?_
              refine wpL_nil (Ql_normal ?_)
              exact ⟨xs258, (IntKind.i64.wrap (x236 + 1)), A256, xs258.length, c257, hm251, rfl, (FrD.pick (FrD.pick (FrD.pick (FrD.pick (FrD.pick (FrD.pick hf.none hf rfl) hf rfl) hf rfl) hf rfl) hf rfl) hf rfl), hs.sel [0, 1] (by decide)⟩
            · have hm251 := bif_f hm251 hb253
              refine wpL_exit (Ql_exit (Qb_exit ?_))
              exact ⟨xs231, A232, n233, c234, Option.some.inj hm251, hn235, (FrD.pick (FrD.pick (FrD.pick (FrD.pick (FrD.pick hf.none hf rfl) hf rfl) hf rfl) hf rfl) hf rfl), hs⟩
        · rintro a w ⟨xs244, A245, n246, c247, hr_, hn248, hf, hs⟩
          subst hr_
          try dsimp only at hm206
          refine wpL_region ?_
          refine sY hf hs rfl rfl rfl (Y_move rfl rfl) ?_; clear hf; intro a hf
          refine sY hf hs rfl rfl rfl (Y_move rfl rfl) ?_; clear hf; intro a hf
          refine sOneM (j := 1) hf hs rfl rfl rfl rfl rfl rfl hn248 el46 ti23 ?_; clear hf hs; intro a w A260 hs hf
          have hs : St [] W w [.mat A132 n133 c134 23 2 vs136 ms131, .mat A260 1 1 23 2 ([.slice A245 xs244.length c247]) ([xs244])] := hs
          obtain ⟨ms264, ha265, hm206⟩ := bind_some hm206
          refine sAppendM (i := 0) (j := 1) hf hs rfl rfl rfl rfl rfl rfl hn135 rfl (by decide) rfl rfl (by decide) ha265 el46 ti23 rfl ?_; clear hf hs; intro a w A262 c263 hs hf
          have hs : St [] W w [.mat A262 ms264.length c263 23 2 (vs136 ++ ([.slice A245 xs244.length c247])) ms264] := hs
          obtain ⟨hq266, hv267⟩ := hs.appended (i := 0) rfl ha265
          refine sY hf hs rfl rfl rfl (Y_assign rfl rfl) ?_; clear hf; intro a hf
          refine wpO_nil ?_
          refine wpL_nil (Qb_normal ?_)
          refine wpL_region ?_
          refine sY hf hs rfl rfl rfl (Y_move rfl rfl) ?_; clear hf; intro a hf
          refine sY hf hs rfl rfl rfl (Y_add rfl rfl rfl) ?_; clear hf; intro a hf
          refine sY hf hs rfl rfl rfl (Y_assign rfl rfl) ?_; clear hf; intro a hf
          refine wpO_nil ?_
          refine wpL_nil (Ql_normal ?_)
          exact ⟨ms264, (IntKind.i64.wrap (x137 + 1)), A262, ms264.length, c263, (vs136 ++ ([.slice A245 xs244.length c247])), hm206, rfl, (FrD.pick (FrD.pick (FrD.pick (FrD.pick hf.none hf rfl) hf rfl) hf rfl) hf rfl), hs⟩
      · have hm206 := bif_f hm206 hb208
        refine wpL_exit (Ql_exit (Qb_exit ?_))
        exact ⟨ms131, A132, n133, c134, vs136, Option.some.inj hm206, hn135, (FrD.pick hf.none hf rfl), hs⟩
  · rintro a w ⟨ms198, A199, n200, c201, vs203, hr_, hn202, hf, hs⟩
    subst hr_
    try dsimp only at hm
    refine wpL_seq ?_
    refine wpL_region ?_
    refine sY hf hs rfl rfl rfl (Y_move rfl rfl) ?_; clear hf; intro a hf
    refine sY hf hs rfl rfl rfl (Y_assign rfl rfl) ?_; clear hf; intro a hf
    refine wpO_nil ?_
    obtain rfl := Option.some.inj hm
    refine wpL_ret (ret_tmp rfl hf rfl ?_)
    exact ⟨_, rfl, A199, n200, c201, vs203, rfl, hn202, hs⟩

set_option maxHeartbeats 2000000 in
set_option maxRecDepth 100000 in
theorem spec_l24Stack_ok (F : Nat) (p0 : List (List Int)) (A_p0_1 : Option Addr) (n_p0_1 c_p0_1 : Nat) (hn_p0_1 : n_p0_1 = p0.length) (p1 : List (List Int)) (A_p1_1 : Option Addr) (n_p1_1 c_p1_1 : Nat) (hn_p1_1 : n_p1_1 = p1.length) (p2 : List (List Int)) (A_p2_1 : Option Addr) (n_p2_1 c_p2_1 : Nat) (hn_p2_1 : n_p2_1 = p2.length) (r : List (List Int)) (W : World) (hm : spec_l24Stack F p0 p1 p2 = some r) (h_p0_1 : RdM W A_p0_1 p0) (h_p1_1 : RdM W A_p1_1 p1) (h_p2_1 : RdM W A_p2_1 p2) :
    Calls Try.prog 98 [.slice A_p0_1 n_p0_1 c_p0_1, .slice A_p1_1 n_p1_1 c_p1_1, .slice A_p2_1 n_p2_1 c_p2_1].toArray W fun e w' => ∃ v, e = .returned v ∧ ∃ A1384, ∃ n1385, ∃ c1386, ∃ vs1388, v = .slice A1384 n1385 c1386 ∧ n1385 = r.length ∧ St [] W w' [.mat A1384 n1385 c1386 23 2 vs1388 r] := by
  subst hn_p0_1
  subst hn_p1_1
  subst hn_p2_1
  unfold spec_l24Stack at hm
  refine Calls.enter (N := 98) Try.func98 rfl rfl rfl (fun a hf => ?_)
  have hs := St.start W
  obtain ⟨w, hw_⟩ : ∃ w, w = W := ⟨W, rfl⟩
  clear hw_ w
  refine wpL_seq ?_
  refine wpL_region ?_
  refine sY hf hs rfl rfl rfl (Y_assign rfl rfl) ?_; clear hf; intro a hf
  refine wpO_nil ?_
  refine wpL_seq ?_
  refine wpL_region ?_
  refine sY hf hs rfl rfl rfl (Y_move rfl rfl) ?_; clear hf; intro a hf
  refine sY hf hs rfl rfl rfl (Y_lenH rfl rfl el46 rfl) ?_; clear hf; intro a hf
  refine sY hf hs rfl rfl rfl (Y_assign rfl rfl) ?_; clear hf; intro a hf
  refine wpO_nil ?_
  refine wpL_seq ?_
  refine wpL_region ?_
  refine sY hf hs rfl rfl rfl (Y_move rfl rfl) ?_; clear hf; intro a hf
  refine sY hf hs rfl rfl rfl (Y_move rfl rfl) ?_; clear hf; intro a hf
  refine sY hf hs rfl rfl rfl (Y_lenH rfl rfl el46 rfl) ?_; clear hf; intro a hf
  refine sY hf hs rfl rfl rfl (Y_add rfl rfl rfl) ?_; clear hf; intro a hf
  refine sY hf hs rfl rfl rfl (Y_move rfl rfl) ?_; clear hf; intro a hf
  refine sY hf hs rfl rfl rfl (Y_move rfl rfl) ?_; clear hf; intro a hf
  refine sY hf hs rfl rfl rfl (Y_lenH rfl rfl el46 rfl) ?_; clear hf; intro a hf
  refine sY hf hs rfl rfl rfl (Y_add rfl rfl rfl) ?_; clear hf; intro a hf
  obtain ⟨r1, hc2, hm⟩ := bind_some hm
  refine sCall hf rfl rfl rfl rfl (cap := []) rfl rfl en87 (spec_l02Bottom_ok F (IntKind.i64.wrap ((p0.length : Int) + (p1.length : Int))) (IntKind.i64.wrap ((p0.length : Int) + (p1.length : Int))) _ _ hc2) ?_; clear hf
  rintro _ w ⟨A3, n4, c5, vs7, rfl, hn6, hs1⟩ a hf
  have hs : St [] W w [.mat A3 n4 c5 23 2 vs7 r1] := hs.join hs1
  clear hs1
  refine sY hf hs rfl rfl rfl (Y_assign rfl rfl) ?_; clear hf; intro a hf
  refine wpO_nil ?_
  refine wpL_seq ?_
  refine wpL_seq ?_
  refine wpL_region ?_
  refine sY hf hs rfl rfl rfl (Y_assign rfl rfl) ?_; clear hf; intro a hf
  refine wpO_nil ?_
  obtain ⟨r355, hl356, hm⟩ := bind_some hm
  refine wpL_block (fun a w => ∃ ms353 : List (List Int), ms353 = r355 ∧ n4 = ms353.length ∧ Fr a 98 [(1, .slice A_p1_1 p1.length c_p1_1), (2, .slice A_p2_1 p2.length c_p2_1), (7, .int .i64 (p0.length : Int)), (8, .slice A3 n4 c5)] ∧ St [] W w [.mat A3 n4 c5 23 2 vs7 ms353]) ?_ ?_
  · refine wpL_loop (fun n a w => ∃ ms237 : List (List Int), ∃ x239 : Int, spec_l24Stack_L4 F p0 n ms237 x239 = some r355 ∧ n4 = ms237.length ∧ Fr a 98 [(0, .slice A_p0_1 p0.length c_p0_1), (1, .slice A_p1_1 p1.length c_p1_1), (2, .slice A_p2_1 p2.length c_p2_1), (7, .int .i64 (p0.length : Int)), (8, .slice A3 n4 c5), (9, .int .i64 x239)] ∧ St [] W w [.mat A3 n4 c5 23 2 vs7 ms237]) F ?_ ?_ ?_
    · exact ⟨r1, 0, hl356, hn6, (FrD.pick (FrD.pick (FrD.pick (FrD.pick (FrD.pick (FrD.pick hf.none hf rfl) hf rfl) hf rfl) hf rfl) hf rfl) hf rfl), hs⟩
    · rintro a w ⟨ms237, x239, h0_, -, -, -⟩; simp [spec_l24Stack_L4] at h0_
    · rintro n358 a w ⟨ms237, x239, hm357, hn238, hf, hs⟩
      rw [spec_l24Stack_L4] at hm357
      refine wpL_seq ?_
      refine wpL_seq ?_
      refine wpL_region ?_
      refine sY hf hs rfl rfl rfl (Y_move rfl rfl) ?_; clear hf; intro a hf
      refine sY hf hs rfl rfl rfl (Y_move rfl rfl) ?_; clear hf; intro a hf
      refine sY hf hs rfl rfl rfl (Y_lss rfl rfl rfl) ?_; clear hf; intro a hf
      refine wpO_nil ?_
      refine wpL_cond hf rfl (fun hb359 => ?_) (fun hb359 => ?_)
      · have hm357 := bif_t hm357 hb359
        refine wpL_skip ?_
        refine wpL_seq ?_
        refine wpL_block0 ?_
        refine wpL_seq ?_
        refine wpL_region ?_
        refine sY hf hs rfl rfl rfl (Y_assign rfl rfl) ?_; clear hf; intro a hf
        refine wpO_nil ?_
        obtain ⟨r443, hl444, hm357⟩ := bind_some hm357
        refine wpL_block (fun a w => ∃ ms441 : List (List Int), ms441 = r443 ∧ n4 = ms441.length ∧ Fr a 98 [(0, .slice A_p0_1 p0.length c_p0_1), (1, .slice A_p1_1 p1.length c_p1_1), (2, .slice A_p2_1 p2.length c_p2_1), (7, .int .i64 (p0.length : Int)), (8, .slice A3 n4 c5), (9, .int .i64 x239)] ∧ St [] W w [.mat A3 n4 c5 23 2 vs7 ms441]) ?_ ?_
        · refine wpL_loop (fun n a w => ∃ ms413 : List (List Int), ∃ x415 : Int, spec_l24Stack_L5 F p0 x239 n ms413 x415 = some r443 ∧ n4 = ms413.length ∧ Fr a 98 [(0, .slice A_p0_1 p0.length c_p0_1), (1, .slice A_p1_1 p1.length c_p1_1), (2, .slice A_p2_1 p2.length c_p2_1), (7, .int .i64 (p0.length : Int)), (8, .slice A3 n4 c5), (9, .int .i64 x239), (10, .int .i64 x415)] ∧ St [] W w [.mat A3 n4 c5 23 2 vs7 ms413]) F ?_ ?_ ?_
          · exact ⟨ms237, 0, hl444, hn238, (FrD.pick (FrD.pick (FrD.pick (FrD.pick (FrD.pick (FrD.pick (FrD.pick hf.none hf rfl) hf rfl) hf rfl) hf rfl) hf rfl) hf rfl) hf rfl), hs⟩
          · rintro a w ⟨ms413, x415, h0_, -, -, -⟩; simp [spec_l24Stack_L5] at h0_
          · rintro n446 a w ⟨ms413, x415, hm445, hn414, hf, hs⟩
            rw [spec_l24Stack_L5] at hm445
            refine wpL_seq ?_
            refine wpL_seq ?_
            refine wpL_region ?_
            refine sY hf hs rfl rfl rfl (Y_move rfl rfl) ?_; clear hf; intro a hf
            refine sY hf hs rfl rfl rfl (Y_move rfl rfl) ?_; clear hf; intro a hf
            refine sY hf hs rfl rfl rfl (Y_lss rfl rfl rfl) ?_; clear hf; intro a hf
            refine wpO_nil ?_
            refine wpL_cond hf rfl (fun hb447 => ?_) (fun hb447 => ?_)
            · have hm445 := bif_t hm445 hb447
              refine wpL_skip ?_
              refine wpL_seq ?_
              refine wpL_block0 ?_
              refine wpL_drawM [.mat A3 n4 c5 23 2 vs7 ms413] [13] (by kernel_rfl) hs ?_; clear hs; intro w hs
              have hs0 : St [] W w [.mat A3 n4 c5 23 2 vs7 ms413] := hs
              refine mYp (i := 0) rfl (by kernel_rfl) (by kernel_rfl) hf rfl rfl rfl (fun _ => Y_move rfl rfl) ?_; clear hf; intro a hf
              refine mYp (i := 1) rfl (by kernel_rfl) (by kernel_rfl) hf rfl rfl rfl (fun _ => Y_move rfl rfl) ?_; clear hf; intro a hf
              obtain ⟨q448, hi449, hm445⟩ := bind_some hm445
              obtain ⟨hi449a, hi449b, hi449q⟩ := idx_some hi449
              obtain ⟨A450, c451, hv452⟩ := hs.matRow (i := 0) rfl hi449q
              refine mYp (i := 2) rfl (by kernel_rfl) (by kernel_rfl) hf rfl rfl rfl (fun _ => Y_index rfl rfl rfl el46 ti23 (Rd.isAt (hs.rdV (i := 0) rfl) hv452) hi449a (ltn hn414 hi449b)) ?_; clear hf; intro a hf
              refine mY (i := 3) [[]] rfl (by kernel_rfl) (by kernel_rfl) hf hs0 rfl rfl rfl (Y_load_rd rfl rfl (fun w hs => hs.rdV (i := 0) rfl) (at1 hv452) ag23) ?_; clear hf; intro a hf
              refine mYp (i := 4) rfl (by kernel_rfl) (by kernel_rfl) hf rfl rfl rfl (fun _ => Y_move rfl rfl) ?_; clear hf; intro a hf
              refine mYp (i := 5) rfl (by kernel_rfl) (by kernel_rfl) hf rfl rfl rfl (fun _ => Y_move rfl rfl) ?_; clear hf; intro a hf
              refine mYp (i := 6) rfl (by kernel_rfl) (by kernel_rfl) hf rfl rfl rfl (fun _ => Y_move rfl rfl) ?_; clear hf; intro a hf
              obtain ⟨q453, hi454, hm445⟩ := bind_some hm445
              obtain ⟨hi454a, hi454b, hi454q⟩ := idx_some hi454
              obtain ⟨vs455, hv456, hr457⟩ := id h_p0_1
              obtain ⟨A458, c459, hv460, hR461⟩ := hr457 _ _ hi454q
              refine mYp (i := 7) rfl (by kernel_rfl) (by kernel_rfl) hf rfl rfl rfl (fun _ => Y_index rfl rfl rfl el46 ti23 (Rd.isAt hv456 hv460) hi454a hi454b) ?_; clear hf; intro a hf
              refine mY (i := 8) [[]] rfl (by kernel_rfl) (by kernel_rfl) hf hs0 rfl rfl rfl (Y_load_rd rfl rfl (fun w hs => hv456.at hs) (at1 hv460) ag23) ?_; clear hf; intro a hf
              refine mYp (i := 9) rfl (by kernel_rfl) (by kernel_rfl) hf rfl rfl rfl (fun _ => Y_move rfl rfl) ?_; clear hf; intro a hf
              obtain ⟨q462, hi463, hm445⟩ := bind_some hm445
              obtain ⟨hi463a, hi463b, hi463q⟩ := idx_some hi463
              refine mYp (i := 10) rfl (by kernel_rfl) (by kernel_rfl) hf rfl rfl rfl (fun _ => Y_index rfl rfl rfl el23 ti2 (Rd.isAt (hR461.at hs) (at1 (ints_at hi463q))) hi463a hi463b) ?_; clear hf; intro a hf
              refine mY (i := 11) [[]] rfl (by kernel_rfl) (by kernel_rfl) hf hs0 rfl rfl rfl (Y_load_rd rfl rfl (fun w hs => hR461.at hs) (at1 (ints_at hi463q)) ag2) ?_; clear hf; intro a hf
              obtain ⟨q464, hi465, hm445⟩ := bind_some hm445
              obtain ⟨hi465a, hi465b, hi465q⟩ := idx_some hi465
              refine mYp (i := 12) rfl (by kernel_rfl) (by kernel_rfl) hf rfl rfl rfl (fun _ => Y_index rfl rfl rfl el23 ti2 (Rd.isAt (hs.rdRow (i := 0) rfl ⟨hi449q, hv452⟩) (at1 (ints_at hi465q))) hi465a hi465b) ?_; clear hf; intro a hf
              refine mRun (i := 13) rfl (by kernel_rfl) ?_
              obtain ⟨xs466, hu468, hm445⟩ := bind_some hm445
              obtain ⟨ms467, hu469, hm445⟩ := bind_some hm445
              refine sStoreM (i := 0) (k := x239) hf hs rfl rfl rfl rfl rfl rfl hi449q hv452 rfl hu468 hu469 ti2 ?_; clear hs; intro w hs
              obtain ⟨hq470, hv471⟩ := rowUpd hu468 hu469 hv452
              have hs : St [] W w [.mat A3 n4 c5 23 2 vs7 ms467] := hs
              refine wpO_nil ⟨Or.inl (by decide), ?_⟩
              refine mDone (by kernel_rfl) ?_
              clear hs0
              refine wpL_nil (Qb_normal ?_)
              refine wpL_region ?_
              refine sY hf hs rfl rfl rfl (Y_move rfl rfl) ?_; clear hf; intro a hf
              refine sY hf hs rfl rfl rfl (Y_add rfl rfl rfl) ?_; clear hf; intro a hf
              refine sY hf hs rfl rfl rfl (Y_assign rfl rfl) ?_; clear hf; intro a hf
              refine wpO_nil ?_
              refine wpL_nil (Ql_normal ?_)
              exact ⟨ms467, (IntKind.i64.wrap (x415 + 1)), hm445, ((hn414).trans (upd_len hu469).symm), (FrD.pick (FrD.pick (FrD.pick (FrD.pick (FrD.pick (FrD.pick (FrD.pick hf.none hf rfl) hf rfl) hf rfl) hf rfl) hf rfl) hf rfl) hf rfl), hs⟩
            · have hm445 := bif_f hm445 hb447
              refine wpL_exit (Ql_exit (Qb_exit ?_))
              exact ⟨ms413, Option.some.inj hm445, hn414, (FrD.pick (FrD.pick (FrD.pick (FrD.pick (FrD.pick (FrD.pick hf.none hf rfl) hf rfl) hf rfl) hf rfl) hf rfl) hf rfl), hs⟩
        · rintro a w ⟨ms441, hr_, hn442, hf, hs⟩
          subst hr_
          try dsimp only at hm357
          refine wpL_nil (Qb_normal ?_)
          refine wpL_region ?_
          refine sY hf hs rfl rfl rfl (Y_move rfl rfl) ?_; clear hf; intro a hf
          refine sY hf hs rfl rfl rfl (Y_add rfl rfl rfl) ?_; clear hf; intro a hf
          refine sY hf hs rfl rfl rfl (Y_assign rfl rfl) ?_; clear hf; intro a hf
          refine wpO_nil ?_
          refine wpL_nil (Ql_normal ?_)
          exact ⟨ms441, (IntKind.i64.wrap (x239 + 1)), hm357, hn442, (FrD.pick (FrD.pick (FrD.pick (FrD.pick (FrD.pick (FrD.pick hf.none hf rfl) hf rfl) hf rfl) hf rfl) hf rfl) hf rfl), hs⟩
      · have hm357 := bif_f hm357 hb359
        refine wpL_exit (Ql_exit (Qb_exit ?_))
        exact ⟨ms237, Option.some.inj hm357, hn238, (FrD.pick (FrD.pick (FrD.pick (FrD.pick hf.none hf rfl) hf rfl) hf rfl) hf rfl), hs⟩
  · rintro a w ⟨ms353, hr_, hn354, hf, hs⟩
    subst hr_
    try dsimp only at hm
    refine wpL_seq ?_
    refine wpL_seq ?_
    refine wpL_region ?_
    refine sY hf hs rfl rfl rfl (Y_assign rfl rfl) ?_; clear hf; intro a hf
    refine wpO_nil ?_
    obtain ⟨r1155, hl1156, hm⟩ := bind_some hm
    refine wpL_block (fun a w => ∃ ms1153 : List (List Int), ms1153 = r1155 ∧ n4 = ms1153.length ∧ Fr a 98 [(8, .slice A3 n4 c5)] ∧ St [] W w [.mat A3 n4 c5 23 2 vs7 ms1153]) ?_ ?_
    · refine wpL_loop (fun n a w => ∃ ms925 : List (List Int), ∃ x927 : Int, spec_l24Stack_L12 F p0 p1 p2 n ms925 x927 = some r1155 ∧ n4 = ms925.length ∧ Fr a 98 [(1, .slice A_p1_1 p1.length c_p1_1), (2, .slice A_p2_1 p2.length c_p2_1), (7, .int .i64 (p0.length : Int)), (8, .slice A3 n4 c5), (11, .int .i64 x927)] ∧ St [] W w [.mat A3 n4 c5 23 2 vs7 ms925]) F ?_ ?_ ?_
      · exact ⟨ms353, 0, hl1156, hn354, (FrD.pick (FrD.pick (FrD.pick (FrD.pick (FrD.pick hf.none hf rfl) hf rfl) hf rfl) hf rfl) hf rfl), hs⟩
      · rintro a w ⟨ms925, x927, h0_, -, -, -⟩; simp [spec_l24Stack_L12] at h0_
      · rintro n1158 a w ⟨ms925, x927, hm1157, hn926, hf, hs⟩
        rw [spec_l24Stack_L12] at hm1157
        refine wpL_seq ?_
        refine wpL_seq ?_
        refine wpL_region ?_
        refine sY hf hs rfl rfl rfl (Y_move rfl rfl) ?_; clear hf; intro a hf
        refine sY hf hs rfl rfl rfl (Y_move rfl rfl) ?_; clear hf; intro a hf
        refine sY hf hs rfl rfl rfl (Y_lenH rfl rfl el46 rfl) ?_; clear hf; intro a hf
        refine sY hf hs rfl rfl rfl (Y_lss rfl rfl rfl) ?_; clear hf; intro a hf
        refine wpO_nil ?_
        refine wpL_cond hf rfl (fun hb1159 => ?_) (fun hb1159 => ?_)
        · have hm1157 := bif_t hm1157 hb1159
          refine wpL_skip ?_
          refine wpL_seq ?_
          refine wpL_block0 ?_
          refine wpL_seq ?_
          refine wpL_seq ?_
          refine wpL_region ?_
          refine sY hf hs rfl rfl rfl (Y_assign rfl rfl) ?_; clear hf; intro a hf
          refine wpO_nil ?_
          obtain ⟨r1243, hl1244, hm1157⟩ := bind_some hm1157
          refine wpL_block (fun a w => ∃ ms1241 : List (List Int), ms1241 = r1243 ∧ n4 = ms1241.length ∧ Fr a 98 [(1, .slice A_p1_1 p1.length c_p1_1), (2, .slice A_p2_1 p2.length c_p2_1), (7, .int .i64 (p0.length : Int)), (8, .slice A3 n4 c5), (11, .int .i64 x927)] ∧ St [] W w [.mat A3 n4 c5 23 2 vs7 ms1241]) ?_ ?_
          · refine wpL_loop (fun n a w => ∃ ms1213 : List (List Int), ∃ x1215 : Int, spec_l24Stack_L13 F p0 p1 x927 n ms1213 x1215 = some r1243 ∧ n4 = ms1213.length ∧ Fr a 98 [(1, .slice A_p1_1 p1.length c_p1_1), (2, .slice A_p2_1 p2.length c_p2_1), (7, .int .i64 (p0.length : Int)), (8, .slice A3 n4 c5), (11, .int .i64 x927), (12, .int .i64 x1215)] ∧ St [] W w [.mat A3 n4 c5 23 2 vs7 ms1213]) F ?_ ?_ ?_
            · exact ⟨ms925, 0, hl1244, hn926, (FrD.pick (FrD.pick (FrD.pick (FrD.pick (FrD.pick (FrD.pick hf.none hf rfl) hf rfl) hf rfl) hf rfl) hf rfl) hf rfl), hs⟩
            · rintro a w ⟨ms1213, x1215, h0_, -, -, -⟩; simp [spec_l24Stack_L13] at h0_
            · rintro n1246 a w ⟨ms1213, x1215, hm1245, hn1214, hf, hs⟩
              rw [spec_l24Stack_L13] at hm1245
              refine wpL_seq ?_
              refine wpL_seq ?_
              refine wpL_region ?_
              refine sY hf hs rfl rfl rfl (Y_move rfl rfl) ?_; clear hf; intro a hf
              refine sY hf hs rfl rfl rfl (Y_move rfl rfl) ?_; clear hf; intro a hf
              refine sY hf hs rfl rfl rfl (Y_lenH rfl rfl el46 rfl) ?_; clear hf; intro a hf
              refine sY hf hs rfl rfl rfl (Y_lss rfl rfl rfl) ?_; clear hf; intro a hf
              refine wpO_nil ?_
              refine wpL_cond hf rfl (fun hb1247 => ?_) (fun hb1247 => ?_)
              · have hm1245 := bif_t hm1245 hb1247
                refine wpL_skip ?_
                refine wpL_seq ?_
                refine wpL_block0 ?_
                refine wpL_drawM [.mat A3 n4 c5 23 2 vs7 ms1213] [17] (by kernel_rfl) hs ?_; clear hs; intro w hs
                have hs0 : St [] W w [.mat A3 n4 c5 23 2 vs7 ms1213] := hs
                refine mYp (i := 0) rfl (by kernel_rfl) (by kernel_rfl) hf rfl rfl rfl (fun _ => Y_move rfl rfl) ?_; clear hf; intro a hf
                refine mYp (i := 1) rfl (by kernel_rfl) (by kernel_rfl) hf rfl rfl rfl (fun _ => Y_move rfl rfl) ?_; clear hf; intro a hf
                refine mYp (i := 2) rfl (by kernel_rfl) (by kernel_rfl) hf rfl rfl rfl (fun _ => Y_move rfl rfl) ?_; clear hf; intro a hf
                refine mYp (i := 3) rfl (by kernel_rfl) (by kernel_rfl) hf rfl rfl rfl (fun _ => Y_add rfl rfl rfl) ?_; clear hf; intro a hf
                obtain ⟨q1248, hi1249, hm1245⟩ := bind_some hm1245
                obtain ⟨hi1249a, hi1249b, hi1249q⟩ := idx_some hi1249
                obtain ⟨A1250, c1251, hv1252⟩ := hs.matRow (i := 0) rfl hi1249q
                refine mYp (i := 4) rfl (by kernel_rfl) (by kernel_rfl) hf rfl rfl rfl (fun _ => Y_index rfl rfl rfl el46 ti23 (Rd.isAt (hs.rdV (i := 0) rfl) hv1252) hi1249a (ltn hn1214 hi1249b)) ?_; clear hf; intro a hf
                refine mY (i := 5) [[]] rfl (by kernel_rfl) (by kernel_rfl) hf hs0 rfl rfl rfl (Y_load_rd rfl rfl (fun w hs => hs.rdV (i := 0) rfl) (at1 hv1252) ag23) ?_; clear hf; intro a hf
                refine mYp (i := 6) rfl (by kernel_rfl) (by kernel_rfl) hf rfl rfl rfl (fun _ => Y_move rfl rfl) ?_; clear hf; intro a hf
                refine mYp (i := 7) rfl (by kernel_rfl) (by kernel_rfl) hf rfl rfl rfl (fun _ => Y_move rfl rfl) ?_; clear hf; intro a hf
                refine mYp (i := 8) rfl (by kernel_rfl) (by kernel_rfl) hf rfl rfl rfl (fun _ => Y_add rfl rfl rfl) ?_; clear hf; intro a hf
                refine mYp (i := 9) rfl (by kernel_rfl) (by kernel_rfl) hf rfl rfl rfl (fun _ => Y_move rfl rfl) ?_; clear hf; intro a hf
                refine mYp (i := 10) rfl (by kernel_rfl) (by kernel_rfl) hf rfl rfl rfl (fun _ => Y_move rfl rfl) ?_; clear hf; intro a hf
                obtain ⟨q1253, hi1254, hm1245⟩ := bind_some hm1245
                obtain ⟨hi1254a, hi1254b, hi1254q⟩ := idx_some hi1254
                obtain ⟨vs1255, hv1256, hr1257⟩ := id h_p1_1
                obtain ⟨A1258, c1259, hv1260, hR1261⟩ := hr1257 _ _ hi1254q
                refine mYp (i := 11) rfl (by kernel_rfl) (by kernel_rfl) hf rfl rfl rfl (fun _ => Y_index rfl rfl rfl el46 ti23 (Rd.isAt hv1256 hv1260) hi1254a hi1254b) ?_; clear hf; intro a hf
                refine mY (i := 12) [[]] rfl (by kernel_rfl) (by kernel_rfl) hf hs0 rfl rfl rfl (Y_load_rd rfl rfl (fun w hs => hv1256.at hs) (at1 hv1260) ag23) ?_; clear hf; intro a hf
                refine mYp (i := 13) rfl (by kernel_rfl) (by kernel_rfl) hf rfl rfl rfl (fun _ => Y_move rfl rfl) ?_; clear hf; intro a hf
                obtain ⟨q1262, hi1263, hm1245⟩ := bind_some hm1245
                obtain ⟨hi1263a, hi1263b, hi1263q⟩ := idx_some hi1263
                refine mYp (i := 14) rfl (by kernel_rfl) (by kernel_rfl) hf rfl rfl rfl (fun _ => Y_index rfl rfl rfl el23 ti2 (Rd.isAt (hR1261.at hs) (at1 (ints_at hi1263q))) hi1263a hi1263b) ?_; clear hf; intro a hf
                refine mY (i := 15) [[]] rfl (by kernel_rfl) (by kernel_rfl) hf hs0 rfl rfl rfl (Y_load_rd rfl rfl (fun w hs => hR1261.at hs) (at1 (ints_at hi1263q)) ag2) ?_; clear hf; intro a hf
                obtain ⟨q1264, hi1265, hm1245⟩ := bind_some hm1245
                obtain ⟨hi1265a, hi1265b, hi1265q⟩ := idx_some hi1265
                refine mYp (i := 16) rfl (by kernel_rfl) (by kernel_rfl) hf rfl rfl rfl (fun _ => Y_index rfl rfl rfl el23 ti2 (Rd.isAt (hs.rdRow (i := 0) rfl ⟨hi1249q, hv1252⟩) (at1 (ints_at hi1265q))) hi1265a hi1265b) ?_; clear hf; intro a hf
                refine mRun (i := 17) rfl (by kernel_rfl) ?_
                obtain ⟨xs1266, hu1268, hm1245⟩ := bind_some hm1245
                obtain ⟨ms1267, hu1269, hm1245⟩ := bind_some hm1245
                refine sStoreM (i := 0) (k := (IntKind.i64.wrap ((p0.length : Int) + x927))) hf hs rfl rfl rfl rfl rfl rfl hi1249q hv1252 rfl hu1268 hu1269 ti2 ?_; clear hs; intro w hs
                obtain ⟨hq1270, hv1271⟩ := rowUpd hu1268 hu1269 hv1252
                have hs : St [] W w [.mat A3 n4 c5 23 2 vs7 ms1267] := hs
                refine wpO_nil ⟨Or.inl (by decide), ?_⟩
                refine mDone (by kernel_rfl) ?_
                clear hs0
                refine wpL_nil (Qb_normal ?_)
                refine wpL_region ?_
                refine sY hf hs rfl rfl rfl (Y_move rfl rfl) ?_; clear hf; intro a hf
                refine sY hf hs rfl rfl rfl (Y_add rfl rfl rfl) ?_; clear hf; intro a hf
                refine sY hf hs rfl rfl rfl (Y_assign rfl rfl) ?_; clear hf; intro a hf
                refine wpO_nil ?_
                refine wpL_nil (Ql_normal ?_)
                exact ⟨ms1267, (IntKind.i64.wrap (x1215 + 1)), hm1245, ((hn1214).trans (upd_len hu1269).symm), (FrD.pick (FrD.pick (FrD.pick (FrD.pick (FrD.pick (FrD.pick hf.none hf rfl) hf rfl) hf rfl) hf rfl) hf rfl) hf rfl), hs⟩
              · have hm1245 := bif_f hm1245 hb1247
                refine wpL_exit (Ql_exit (Qb_exit ?_))
                exact ⟨ms1213, Option.some.inj hm1245, hn1214, (FrD.pick (FrD.pick (FrD.pick (FrD.pick (FrD.pick hf.none hf rfl) hf rfl) hf rfl) hf rfl) hf rfl), hs⟩
          · rintro a w ⟨ms1241, hr_, hn1242, hf, hs⟩
            subst hr_
            try dsimp only at hm1157
            refine wpL_seq ?_
            refine wpL_region ?_
            refine sY hf hs rfl rfl rfl (Y_assign rfl rfl) ?_; clear hf; intro a hf
            refine wpO_nil ?_
            obtain ⟨r1355, hl1356, hm1157⟩ := bind_some hm1157
            refine wpL_block (fun a w => ∃ ms1353 : List (List Int), ms1353 = r1355 ∧ n4 = ms1353.length ∧ Fr a 98 [(1, .slice A_p1_1 p1.length c_p1_1), (2, .slice A_p2_1 p2.length c_p2_1), (7, .int .i64 (p0.length : Int)), (8, .slice A3 n4 c5), (11, .int .i64 x927)] ∧ St [] W w [.mat A3 n4 c5 23 2 vs7 ms1353]) ?_ ?_
            · refine wpL_loop (fun n a w => ∃ ms1325 : List (List Int), ∃ x1327 : Int, spec_l24Stack_L14 F p0 p2 x927 n ms1325 x1327 = some r1355 ∧ n4 = ms1325.length ∧ Fr a 98 [(1, .slice A_p1_1 p1.length c_p1_1), (2, .slice A_p2_1 p2.length c_p2_1), (7, .int .i64 (p0.length : Int)), (8, .slice A3 n4 c5), (11, .int .i64 x927), (13, .int .i64 x1327)] ∧ St [] W w [.mat A3 n4 c5 23 2 vs7 ms1325]) F ?_ ?_ ?_
              · exact ⟨ms1241, 0, hl1356, hn1242, (FrD.pick (FrD.pick (FrD.pick (FrD.pick (FrD.pick (FrD.pick hf.none hf rfl) hf rfl) hf rfl) hf rfl) hf rfl) hf rfl), hs⟩
              · rintro a w ⟨ms1325, x1327, h0_, -, -, -⟩; simp [spec_l24Stack_L14] at h0_
              · rintro n1358 a w ⟨ms1325, x1327, hm1357, hn1326, hf, hs⟩
                rw [spec_l24Stack_L14] at hm1357
                refine wpL_seq ?_
                refine wpL_seq ?_
                refine wpL_region ?_
                refine sY hf hs rfl rfl rfl (Y_move rfl rfl) ?_; clear hf; intro a hf
                refine sY hf hs rfl rfl rfl (Y_move rfl rfl) ?_; clear hf; intro a hf
                refine sY hf hs rfl rfl rfl (Y_lss rfl rfl rfl) ?_; clear hf; intro a hf
                refine wpO_nil ?_
                refine wpL_cond hf rfl (fun hb1359 => ?_) (fun hb1359 => ?_)
                · have hm1357 := bif_t hm1357 hb1359
                  refine wpL_skip ?_
                  refine wpL_seq ?_
                  refine wpL_block0 ?_
                  refine wpL_drawM [.mat A3 n4 c5 23 2 vs7 ms1325] [15] (by kernel_rfl) hs ?_; clear hs; intro w hs
                  have hs0 : St [] W w [.mat A3 n4 c5 23 2 vs7 ms1325] := hs
                  refine mYp (i := 0) rfl (by kernel_rfl) (by kernel_rfl) hf rfl rfl rfl (fun _ => Y_move rfl rfl) ?_; clear hf; intro a hf
                  refine mYp (i := 1) rfl (by kernel_rfl) (by kernel_rfl) hf rfl rfl rfl (fun _ => Y_move rfl rfl) ?_; clear hf; intro a hf
                  refine mYp (i := 2) rfl (by kernel_rfl) (by kernel_rfl) hf rfl rfl rfl (fun _ => Y_move rfl rfl) ?_; clear hf; intro a hf
                  refine mYp (i := 3) rfl (by kernel_rfl) (by kernel_rfl) hf rfl rfl rfl (fun _ => Y_add rfl rfl rfl) ?_; clear hf; intro a hf
                  obtain ⟨q1360, hi1361, hm1357⟩ := bind_some hm1357
                  obtain ⟨hi1361a, hi1361b, hi1361q⟩ := idx_some hi1361
                  obtain ⟨A1362, c1363, hv1364⟩ := hs.matRow (i := 0) rfl hi1361q
                  refine mYp (i := 4) rfl (by kernel_rfl) (by kernel_rfl) hf rfl rfl rfl (fun _ => Y_index rfl rfl rfl el46 ti23 (Rd.isAt (hs.rdV (i := 0) rfl) hv1364) hi1361a (ltn hn1326 hi1361b)) ?_; clear hf; intro a hf
                  refine mY (i := 5) [[]] rfl (by kernel_rfl) (by kernel_rfl) hf hs0 rfl rfl rfl (Y_load_rd rfl rfl (fun w hs => hs.rdV (i := 0) rfl) (at1 hv1364) ag23) ?_; clear hf; intro a hf
                  refine mYp (i := 6) rfl (by kernel_rfl) (by kernel_rfl) hf rfl rfl rfl (fun _ => Y_move rfl rfl) ?_; clear hf; intro a hf
                  refine mYp (i := 7) rfl (by kernel_rfl) (by kernel_rfl) hf rfl rfl rfl (fun _ => Y_move rfl rfl) ?_; clear hf; intro a hf
                  refine mYp (i := 8) rfl (by kernel_rfl) (by kernel_rfl) hf rfl rfl rfl (fun _ => Y_move rfl rfl) ?_; clear hf; intro a hf
                  obtain ⟨q1365, hi1366, hm1357⟩ := bind_some hm1357
                  obtain ⟨hi1366a, hi1366b, hi1366q⟩ := idx_some hi1366
                  obtain ⟨vs1367, hv1368, hr1369⟩ := id h_p2_1
                  obtain ⟨A1370, c1371, hv1372, hR1373⟩ := hr1369 _ _ hi1366q
                  refine mYp (i := 9) rfl (by kernel_rfl) (by kernel_rfl) hf rfl rfl rfl (fun _ => Y_index rfl rfl rfl el46 ti23 (Rd.isAt hv1368 hv1372) hi1366a hi1366b) ?_; clear hf; intro a hf
                  refine mY (i := 10) [[]] rfl (by kernel_rfl) (by kernel_rfl) hf hs0 rfl rfl rfl (Y_load_rd rfl rfl (fun w hs => hv1368.at hs) (at1 hv1372) ag23) ?_; clear hf; intro a hf
                  refine mYp (i := 11) rfl (by kernel_rfl) (by kernel_rfl) hf rfl rfl rfl (fun _ => Y_move rfl rfl) ?_; clear hf; intro a hf
                  obtain ⟨q1374, hi1375, hm1357⟩ := bind_some hm1357
                  obtain ⟨hi1375a, hi1375b, hi1375q⟩ := idx_some hi1375
                  refine mYp (i := 12) rfl (by kernel_rfl) (by kernel_rfl) hf rfl rfl rfl (fun _ => Y_index rfl rfl rfl el23 ti2 (Rd.isAt (hR1373.at hs) (at1 (ints_at hi1375q))) hi1375a hi1375b) ?_; clear hf; intro a hf
                  refine mY (i := 13) [[]] rfl (by kernel_rfl) (by kernel_rfl) hf hs0 rfl rfl rfl (Y_load_rd rfl rfl (fun w hs => hR1373.at hs) (at1 (ints_at hi1375q)) ag2) ?_; clear hf; intro a hf
                  obtain ⟨q1376, hi1377, hm1357⟩ := bind_some hm1357
                  obtain ⟨hi1377a, hi1377b, hi1377q⟩ := idx_some hi1377
                  refine mYp (i := 14) rfl (by kernel_rfl) (by kernel_rfl) hf rfl rfl rfl (fun _ => Y_index rfl rfl rfl el23 ti2 (Rd.isAt (hs.rdRow (i := 0) rfl ⟨hi1361q, hv1364⟩) (at1 (ints_at hi1377q))) hi1377a hi1377b) ?_; clear hf; intro a hf
                  refine mRun (i := 15) rfl (by kernel_rfl) ?_
                  obtain ⟨xs1378, hu1380, hm1357⟩ := bind_some hm1357
                  obtain ⟨ms1379, hu1381, hm1357⟩ := bind_some hm1357
                  refine sStoreM (i := 0) (k := (IntKind.i64.wrap ((p0.length : Int) + x927))) hf hs rfl rfl rfl rfl rfl rfl hi1361q hv1364 rfl hu1380 hu1381 ti2 ?_; clear hs; intro w hs
                  obtain ⟨hq1382, hv1383⟩ := rowUpd hu1380 hu1381 hv1364
                  have hs : St [] W w [.mat A3 n4 c5 23 2 vs7 ms1379] := hs
                  refine wpO_nil ⟨Or.inl (by decide), ?_⟩
                  refine mDone (by kernel_rfl) ?_
                  clear hs0
                  refine wpL_nil (Qb_normal ?_)
                  refine wpL_region ?_
                  refine sY hf hs rfl rfl rfl (Y_move rfl rfl) ?_; clear hf; intro a hf
                  refine sY hf hs rfl rfl rfl (Y_add rfl rfl rfl) ?_; clear hf; intro a hf
                  refine sY hf hs rfl rfl rfl (Y_assign rfl rfl) ?_; clear hf; intro a hf
                  refine wpO_nil ?_
                  refine wpL_nil (Ql_normal ?_)
                  exact ⟨ms1379, (IntKind.i64.wrap (x1327 + 1)), hm1357, ((hn1326).trans (upd_len hu1381).symm), (FrD.pick (FrD.pick (FrD.pick (FrD.pick (FrD.pick (FrD.pick hf.none hf rfl) hf rfl) hf rfl) hf rfl) hf rfl) hf rfl), hs⟩
                · have hm1357 := bif_f hm1357 hb1359
                  refine wpL_exit (Ql_exit (Qb_exit ?_))
                  exact ⟨ms1325, Option.some.inj hm1357, hn1326, (FrD.pick (FrD.pick (FrD.pick (FrD.pick (FrD.pick hf.none hf rfl) hf rfl) hf rfl) hf rfl) hf rfl), hs⟩
            · rintro a w ⟨ms1353, hr_, hn1354, hf, hs⟩
              subst hr_
              try dsimp only at hm1157
              refine wpL_nil (Qb_normal ?_)
              refine wpL_region ?_
              refine sY hf hs rfl rfl rfl (Y_move rfl rfl) ?_; clear hf; intro a hf
              refine sY hf hs rfl rfl rfl (Y_add rfl rfl rfl) ?_; clear hf; intro a hf
              refine sY hf hs rfl rfl rfl (Y_assign rfl rfl) ?_; clear hf; intro a hf
              refine wpO_nil ?_
              refine wpL_nil (Ql_normal ?_)
              exact ⟨ms1353, (IntKind.i64.wrap (x927 + 1)), hm1157, hn1354, (FrD.pick (FrD.pick (FrD.pick (FrD.pick (FrD.pick hf.none hf rfl) hf rfl) hf rfl) hf rfl) hf rfl), hs⟩
        · have hm1157 := bif_f hm1157 hb1159
          refine wpL_exit (Ql_exit (Qb_exit ?_))
          exact ⟨ms925, Option.some.inj hm1157, hn926, (FrD.pick hf.none hf rfl), hs⟩
    · rintro a w ⟨ms1153, hr_, hn1154, hf, hs⟩
      subst hr_
      try dsimp only at hm
      refine wpL_seq ?_
      refine wpL_region ?_
      refine sY hf hs rfl rfl rfl (Y_move rfl rfl) ?_; clear hf; intro a hf
      refine sY hf hs rfl rfl rfl (Y_assign rfl rfl) ?_; clear hf; intro a hf
      refine wpO_nil ?_
      obtain rfl := Option.some.inj hm
      refine wpL_ret (ret_tmp rfl hf rfl ?_)
      exact ⟨_, rfl, A3, n4, c5, vs7, rfl, hn1154, hs⟩

set_option maxRecDepth 100000 in
theorem spec_l01Own_ok (F : Nat) (p0_list : List Int) (A_p0_list_1 : Option Addr) (n_p0_list_1 c_p0_list_1 : Nat) (hn_p0_list_1 : n_p0_list_1 = p0_list.length) (r : List Int) (W : World) (hm : spec_l01Own F p0_list = some r) (h_p0_list_1 : Rd W A_p0_list_1 (ints p0_list)) :
    Calls Try.prog 65 [.slice A_p0_list_1 n_p0_list_1 c_p0_list_1].toArray W fun e w' => ∃ v, e = .returned v ∧ ∃ A7, ∃ n8, ∃ c9, v = .slice A7 n8 c9 ∧ n8 = r.length ∧ St [] W w' [.row A7 n8 c9 2 1 (ints r)] := by
  subst hn_p0_list_1
  unfold spec_l01Own at hm
  refine Calls.enter (N := 6) Try.func65 rfl rfl rfl (fun a hf => ?_)
  have hs := St.start W
  obtain ⟨w, hw_⟩ : ∃ w, w = W := ⟨W, rfl⟩
  clear hw_ w
  refine wpL_seq ?_
  refine wpL_region ?_
  refine sY hf hs rfl rfl rfl (Y_assign rfl rfl) ?_; clear hf; intro a hf
  refine wpO_nil ?_
  refine wpL_seq ?_
  refine wpL_region ?_
  refine sEmpty hf hs rfl rfl rfl rfl el23 ti2 ?_; clear hf hs; intro a w A1 hs hf
  have hs : St [] W w [.row A1 0 0 2 1 (ints ([] : List Int))] := hs
  refine sY hf hs rfl rfl rfl (Y_move rfl rfl) ?_; clear hf; intro a hf
  obtain ⟨xs5, ha6, hm⟩ := bind_some hm
  refine sAppendG (i := 0) (xs := ([] : List Int)) (ys := p0_list) (enc := ints) hf hs rfl rfl rfl rfl rfl rfl rfl rfl rfl ha6 el23 ti2 rfl rfl rfl (h_p0_list_1.at hs) ints_len1 ints_append ints_one ?_; clear hf hs; intro a w A3 c4 hs hf
  have hs : St [] W w [.row A3 xs5.length c4 2 1 (ints xs5)] := hs
  refine sY hf hs rfl rfl rfl (Y_assign rfl rfl) ?_; clear hf; intro a hf
  refine wpO_nil ?_
  obtain rfl := Option.some.inj hm
  refine wpL_ret (ret_tmp rfl hf rfl ?_)
  exact ⟨_, rfl, A3, xs5.length, c4, rfl, rfl, hs⟩

set_option maxHeartbeats 2000000 in
set_option maxRecDepth 100000 in
theorem spec_ParallelSystem_ok (F : Nat) (p0_s : GSystem) (A_p0_s_1 : Option Addr) (n_p0_s_1 c_p0_s_1 : Nat) (hn_p0_s_1 : n_p0_s_1 = p0_s.A.length) (A_p0_s_2 : Option Addr) (n_p0_s_2 c_p0_s_2 : Nat) (hn_p0_s_2 : n_p0_s_2 = p0_s.B.length) (A_p0_s_3 : Option Addr) (n_p0_s_3 c_p0_s_3 : Nat) (hn_p0_s_3 : n_p0_s_3 = p0_s.C.length) (p1_t : GSystem) (A_p1_t_1 : Option Addr) (n_p1_t_1 c_p1_t_1 : Nat) (hn_p1_t_1 : n_p1_t_1 = p1_t.A.length) (A_p1_t_2 : Option Addr) (n_p1_t_2 c_p1_t_2 : Nat) (hn_p1_t_2 : n_p1_t_2 = p1_t.B.length) (A_p1_t_3 : Option Addr) (n_p1_t_3 c_p1_t_3 : Nat) (hn_p1_t_3 : n_p1_t_3 = p1_t.C.length) (r : GSystem × Int) (W : World) (hm : spec_ParallelSystem F p0_s p1_t = some r) (h_p0_s_1 : RdM W A_p0_s_1 p0_s.A) (h_p0_s_2 : Rd W A_p0_s_2 (ints p0_s.B)) (h_p0_s_3 : Rd W A_p0_s_3 (ints p0_s.C)) (h_p1_t_1 : RdM W A_p1_t_1 p1_t.A) (h_p1_t_2 : Rd W A_p1_t_2 (ints p1_t.B)) (h_p1_t_3 : Rd W A_p1_t_3 (ints p1_t.C)) :
    Calls Try.prog 39 [.agg #[.slice A_p0_s_1 n_p0_s_1 c_p0_s_1, .slice A_p0_s_2 n_p0_s_2 c_p0_s_2, .slice A_p0_s_3 n_p0_s_3 c_p0_s_3], .agg #[.slice A_p1_t_1 n_p1_t_1 c_p1_t_1, .slice A_p1_t_2 n_p1_t_2 c_p1_t_2, .slice A_p1_t_3 n_p1_t_3 c_p1_t_3]].toArray W fun e w' => ∃ v, e = .returned v ∧ ∃ A86, ∃ n87, ∃ c88, ∃ vs90, ∃ A91, ∃ n92, ∃ c93, ∃ A95, ∃ n96, ∃ c97, v = .tuple #[.agg #[.slice A86 n87 c88, .slice A91 n92 c93, .slice A95 n96 c97], .int .i64 r.2] ∧ n87 = r.1.A.length ∧ n92 = r.1.B.length ∧ n96 = r.1.C.length ∧ St [] W w' [.mat A86 n87 c88 23 2 vs90 r.1.A, .row A91 n92 c93 2 1 (ints r.1.B), .row A95 n96 c97 2 1 (ints r.1.C)] := by
  subst hn_p0_s_1
  subst hn_p0_s_2
  subst hn_p0_s_3
  subst hn_p1_t_1
  subst hn_p1_t_2
  subst hn_p1_t_3
  unfold spec_ParallelSystem at hm
  refine Calls.enter (N := 53) Try.func39 rfl rfl rfl (fun a hf => ?_)
  have hs := St.start W
  obtain ⟨w, hw_⟩ : ∃ w, w = W := ⟨W, rfl⟩
  clear hw_ w
  refine wpL_seq ?_
  refine wpL_region ?_
  refine sBox hf hs rfl rfl rfl rfl rfl (cs := [.slice A_p0_s_1 p0_s.A.length c_p0_s_1, .slice A_p0_s_2 p0_s.B.length c_p0_s_2, .slice A_p0_s_3 p0_s.C.length c_p0_s_3]) rfl ?_; clear hf hs; intro a w b1 hs hf
  have hs : St [] W w [.blk b1 55 [.slice A_p0_s_1 p0_s.A.length c_p0_s_1, .slice A_p0_s_2 p0_s.B.length c_p0_s_2, .slice A_p0_s_3 p0_s.C.length c_p0_s_3]] := hs
  refine sBox hf hs rfl rfl rfl rfl rfl (cs := [.slice A_p1_t_1 p1_t.A.length c_p1_t_1, .slice A_p1_t_2 p1_t.B.length c_p1_t_2, .slice A_p1_t_3 p1_t.C.length c_p1_t_3]) rfl ?_; clear hf hs; intro a w b2 hs hf
  have hs : St [] W w [.blk b1 55 [.slice A_p0_s_1 p0_s.A.length c_p0_s_1, .slice A_p0_s_2 p0_s.B.length c_p0_s_2, .slice A_p0_s_3 p0_s.C.length c_p0_s_3], .blk b2 55 [.slice A_p1_t_1 p1_t.A.length c_p1_t_1, .slice A_p1_t_2 p1_t.B.length c_p1_t_2, .slice A_p1_t_3 p1_t.C.length c_p1_t_3]] := hs
  refine sAlloc hf hs rfl rfl rfl rfl ti55 ?_; clear hf hs; intro a w b3 hs hf
  have hs : St [] W w [.blk b1 55 [.slice A_p0_s_1 p0_s.A.length c_p0_s_1, .slice A_p0_s_2 p0_s.B.length c_p0_s_2, .slice A_p0_s_3 p0_s.C.length c_p0_s_3], .blk b2 55 [.slice A_p1_t_1 p1_t.A.length c_p1_t_1, .slice A_p1_t_2 p1_t.B.length c_p1_t_2, .slice A_p1_t_3 p1_t.C.length c_p1_t_3], .blk b3 55 [.slice none 0 0, .slice none 0 0, .slice none 0 0]] := hs
  refine sY hf hs rfl rfl rfl (Y_assign rfl rfl) ?_; clear hf; intro a hf
  refine wpO_nil ?_
  refine wpL_seq ?_
  refine wpL_block0 ?_
  refine wpL_seq ?_
  obtain ⟨r10, hj11, hm⟩ := bind_some hm
  refine wpL_cut (fun a w => ∃ b9 : Bool, b9 = r10 ∧ Fr a 53 [(2, .pointer (some ⟨b1, 0, none⟩)), (3, .pointer (some ⟨b2, 0, none⟩)), (4, .pointer (some ⟨b3, 0, none⟩)), (7, .bool b9)] ∧ St [] W w [.blk b1 55 [.slice A_p0_s_1 p0_s.A.length c_p0_s_1, .slice A_p0_s_2 p0_s.B.length c_p0_s_2, .slice A_p0_s_3 p0_s.C.length c_p0_s_3], .blk b2 55 [.slice A_p1_t_1 p1_t.A.length c_p1_t_1, .slice A_p1_t_2 p1_t.B.length c_p1_t_2, .slice A_p1_t_3 p1_t.C.length c_p1_t_3], .blk b3 55 [.slice none 0 0, .slice none 0 0, .slice none 0 0]]) ?_ ?_
  · refine wpL_region ?_
    refine sY hf hs rfl rfl rfl (Y_load_blkS rfl rfl (i := 0) rfl ag55 ti55 rfl) ?_; clear hf; intro a hf
    obtain ⟨r12, hc13, hj11⟩ := bind_some hj11
    refine sCall hf rfl rfl rfl rfl (cap := []) rfl rfl en97 (spec_IsSystem_ok F p0_s A_p0_s_1 p0_s.A.length c_p0_s_1 rfl A_p0_s_2 p0_s.B.length c_p0_s_2 rfl A_p0_s_3 p0_s.C.length c_p0_s_3 rfl _ _ hc13 (h_p0_s_1.at hs) (h_p0_s_2.at hs) (h_p0_s_3.at hs)) ?_; clear hf
    rintro _ w ⟨rfl, hs1⟩ a hf
    have hs : St [] W w [.blk b1 55 [.slice A_p0_s_1 p0_s.A.length c_p0_s_1, .slice A_p0_s_2 p0_s.B.length c_p0_s_2, .slice A_p0_s_3 p0_s.C.length c_p0_s_3], .blk b2 55 [.slice A_p1_t_1 p1_t.A.length c_p1_t_1, .slice A_p1_t_2 p1_t.B.length c_p1_t_2, .slice A_p1_t_3 p1_t.C.length c_p1_t_3], .blk b3 55 [.slice none 0 0, .slice none 0 0, .slice none 0 0]] := hs.ext hs1.below
    clear hs1
    refine sY hf hs rfl rfl rfl (Y_not rfl rfl) ?_; clear hf; intro a hf
    refine sY hf hs rfl rfl rfl (Y_move rfl rfl) ?_; clear hf; intro a hf
    refine bsplit (!r12) (fun hb14 => ?_) (fun hb14 => ?_)
    · have hj11 := bif_t hj11 hb14
      refine sNo hf rfl rfl rfl (congrArg (fun b => some (Value.bool b)) hb14) rfl rfl rfl ?_; clear hf; intro a hf
      refine sNo hf rfl rfl rfl (congrArg (fun b => some (Value.bool b)) hb14) rfl rfl rfl ?_; clear hf; intro a hf
      refine sNo hf rfl rfl rfl (congrArg (fun b => some (Value.bool b)) hb14) rfl rfl rfl ?_; clear hf; intro a hf
      refine sY hf hs rfl rfl rfl (Y_pickT rfl (congrArg (fun b => some (Value.bool b)) hb14) rfl) ?_; clear hf; intro a hf
      refine sY hf hs rfl rfl rfl (Y_assign rfl rfl) ?_; clear hf; intro a hf
      refine wpO_nil ?_
      refine wpL_nil (then_normal ?_)
      exact ⟨true, Option.some.inj hj11, (FrD.pick (FrD.pick (FrD.pick (FrD.pick hf.none hf rfl) hf rfl) hf rfl) hf rfl), hs⟩
    · have hj11 := bif_f hj11 hb14
      refine sYg hf hs rfl rfl rfl (congrArg (fun b => some (Value.bool b)) hb14) rfl rfl rfl (Y_load_blkS rfl rfl (i := 1) rfl ag55 ti55 rfl) ?_; clear hf; intro a hf
      obtain ⟨r15, hc16, hj11⟩ := bind_some hj11
      refine sCallg hf rfl rfl rfl (congrArg (fun b => some (Value.bool b)) hb14) rfl rfl rfl rfl (cap := []) rfl rfl en97 (spec_IsSystem_ok F p1_t A_p1_t_1 p1_t.A.length c_p1_t_1 rfl A_p1_t_2 p1_t.B.length c_p1_t_2 rfl A_p1_t_3 p1_t.C.length c_p1_t_3 rfl _ _ hc16 (h_p1_t_1.at hs) (h_p1_t_2.at hs) (h_p1_t_3.at hs)) ?_; clear hf
      rintro _ w ⟨rfl, hs1⟩ a hf
      have hs : St [] W w [.blk b1 55 [.slice A_p0_s_1 p0_s.A.length c_p0_s_1, .slice A_p0_s_2 p0_s.B.length c_p0_s_2, .slice A_p0_s_3 p0_s.C.length c_p0_s_3], .blk b2 55 [.slice A_p1_t_1 p1_t.A.length c_p1_t_1, .slice A_p1_t_2 p1_t.B.length c_p1_t_2, .slice A_p1_t_3 p1_t.C.length c_p1_t_3], .blk b3 55 [.slice none 0 0, .slice none 0 0, .slice none 0 0]] := hs.ext hs1.below
      clear hs1
      refine sYg hf hs rfl rfl rfl (congrArg (fun b => some (Value.bool b)) hb14) rfl rfl rfl (Y_not rfl rfl) ?_; clear hf; intro a hf
      refine sY hf hs rfl rfl rfl (Y_pickF rfl (congrArg (fun b => some (Value.bool b)) hb14) rfl) ?_; clear hf; intro a hf
      refine sY hf hs rfl rfl rfl (Y_assign rfl rfl) ?_; clear hf; intro a hf
      refine wpO_nil ?_
      refine wpL_nil (then_normal ?_)
      exact ⟨(!r15), Option.some.inj hj11, (FrD.pick (FrD.pick (FrD.pick (FrD.pick hf.none hf rfl) hf rfl) hf rfl) hf rfl), hs⟩
  · rintro a w ⟨b9, hr_, hf, hs⟩
    subst hr_
    try dsimp only at hm
    refine wpL_cond hf rfl (fun hb17 => ?_) (fun hb17 => ?_)
    · have hm := bif_t hm hb17
      refine wpL_seq ?_
      refine wpL_region ?_
      refine sY hf hs rfl rfl rfl (Y_build (parts := []) (vs := []) rfl rfl (run_build (parts := []) (cells := [.slice none 0 0, .slice none 0 0, .slice none 0 0]) (places := #[(0, 1), (1, 1), (2, 1)]) ti55 Try.underlying55 (fun w => by simp [go_sem]) rfl)) ?_; clear hf; intro a hf
      refine sStore (i := 2) (us := [.slice none 0 0, .slice none 0 0, .slice none 0 0]) hf hs rfl rfl rfl rfl rfl rfl ti55 rfl rfl rfl (Nat.le_of_ble_eq_true rfl) rfl ?_; clear hs; intro w hs
      have hs : St [] W w [.blk b1 55 [.slice A_p0_s_1 p0_s.A.length c_p0_s_1, .slice A_p0_s_2 p0_s.B.length c_p0_s_2, .slice A_p0_s_3 p0_s.C.length c_p0_s_3], .blk b2 55 [.slice A_p1_t_1 p1_t.A.length c_p1_t_1, .slice A_p1_t_2 p1_t.B.length c_p1_t_2, .slice A_p1_t_3 p1_t.C.length c_p1_t_3], .blk b3 55 [.slice none 0 0, .slice none 0 0, .slice none 0 0]] := hs
      refine sY hf hs rfl rfl rfl (Y_assign rfl rfl) ?_; clear hf; intro a hf
      refine wpO_nil ?_
      have hs : St [] W _ [.blk b1 55 [.slice A_p0_s_1 p0_s.A.length c_p0_s_1, .slice A_p0_s_2 p0_s.B.length c_p0_s_2, .slice A_p0_s_3 p0_s.C.length c_p0_s_3], .blk b2 55 [.slice A_p1_t_1 p1_t.A.length c_p1_t_1, .slice A_p1_t_2 p1_t.B.length c_p1_t_2, .slice A_p1_t_3 p1_t.C.length c_p1_t_3], .blk b3 55 [.slice none 0 0, .slice none 0 0, .slice none 0 0], .mat none 0 0 23 2 [] ([] : List (List Int))] := hs.addNilM 23 2
      have hs : St [] W _ [.blk b1 55 [.slice A_p0_s_1 p0_s.A.length c_p0_s_1, .slice A_p0_s_2 p0_s.B.length c_p0_s_2, .slice A_p0_s_3 p0_s.C.length c_p0_s_3], .blk b2 55 [.slice A_p1_t_1 p1_t.A.length c_p1_t_1, .slice A_p1_t_2 p1_t.B.length c_p1_t_2, .slice A_p1_t_3 p1_t.C.length c_p1_t_3], .blk b3 55 [.slice none 0 0, .slice none 0 0, .slice none 0 0], .mat none 0 0 23 2 [] ([] : List (List Int)), .row none 0 0 2 1 (ints ([] : List Int))] := hs.addNil 2 1
      have hs : St [] W _ [.blk b1 55 [.slice A_p0_s_1 p0_s.A.length c_p0_s_1, .slice A_p0_s_2 p0_s.B.length c_p0_s_2, .slice A_p0_s_3 p0_s.C.length c_p0_s_3], .blk b2 55 [.slice A_p1_t_1 p1_t.A.length c_p1_t_1, .slice A_p1_t_2 p1_t.B.length c_p1_t_2, .slice A_p1_t_3 p1_t.C.length c_p1_t_3], .blk b3 55 [.slice none 0 0, .slice none 0 0, .slice none 0 0], .mat none 0 0 23 2 [] ([] : List (List Int)), .row none 0 0 2 1 (ints ([] : List Int)), .row none 0 0 2 1 (ints ([] : List Int))] := hs.addNil 2 1
      obtain rfl := Option.some.inj hm
      refine wpL_ret (Qb_ret (ret_cell_tmp rfl hf rfl rfl hs (i := 2) rfl ag55 ti55 rfl ?_))
      exact ⟨_, rfl, none, 0, 0, [], none, 0, 0, none, 0, 0, rfl, rfl, rfl, rfl, hs.sel [3, 4, 5] (by decide)⟩
    · have hm := bif_f hm hb17
      refine wpL_seq ?_
      refine wpL_region ?_
      refine sY hf hs rfl rfl rfl (Y_fieldAddr rfl rfl fo55_0) ?_; clear hf; intro a hf
      refine sY hf hs rfl rfl rfl (Y_load_blk rfl rfl (i := 0) rfl rfl ag46) ?_; clear hf; intro a hf
      refine sY hf hs rfl rfl rfl (Y_lenH rfl rfl el46 rfl) ?_; clear hf; intro a hf
      refine sY hf hs rfl rfl rfl (Y_fieldAddr rfl rfl fo55_0) ?_; clear hf; intro a hf
      refine sY hf hs rfl rfl rfl (Y_load_blk rfl rfl (i := 1) rfl rfl ag46) ?_; clear hf; intro a hf
      refine sY hf hs rfl rfl rfl (Y_lenH rfl rfl el46 rfl) ?_; clear hf; intro a hf
      refine sY hf hs rfl rfl rfl (Y_add rfl rfl rfl) ?_; clear hf; intro a hf
      refine sY hf hs rfl rfl rfl (Y_gtr rfl rfl rfl) ?_; clear hf; intro a hf
      refine sY hf hs rfl rfl rfl (Y_assign rfl rfl) ?_; clear hf; intro a hf
      refine wpO_nil ?_
      refine wpL_cond hf rfl (fun hb21 => ?_) (fun hb21 => ?_)
      · have hm := bif_t hm hb21
        refine wpL_seq ?_
        refine wpL_region ?_
        refine sY hf hs rfl rfl rfl (Y_build (parts := []) (vs := []) rfl rfl (run_build (parts := []) (cells := [.slice none 0 0, .slice none 0 0, .slice none 0 0]) (places := #[(0, 1), (1, 1), (2, 1)]) ti55 Try.underlying55 (fun w => by simp [go_sem]) rfl)) ?_; clear hf; intro a hf
        refine sStore (i := 2) (us := [.slice none 0 0, .slice none 0 0, .slice none 0 0]) hf hs rfl rfl rfl rfl rfl rfl ti55 rfl rfl rfl (Nat.le_of_ble_eq_true rfl) rfl ?_; clear hs; intro w hs
        have hs : St [] W w [.blk b1 55 [.slice A_p0_s_1 p0_s.A.length c_p0_s_1, .slice A_p0_s_2 p0_s.B.length c_p0_s_2, .slice A_p0_s_3 p0_s.C.length c_p0_s_3], .blk b2 55 [.slice A_p1_t_1 p1_t.A.length c_p1_t_1, .slice A_p1_t_2 p1_t.B.length c_p1_t_2, .slice A_p1_t_3 p1_t.C.length c_p1_t_3], .blk b3 55 [.slice none 0 0, .slice none 0 0, .slice none 0 0]] := hs
        refine sY hf hs rfl rfl rfl (Y_assign rfl rfl) ?_; clear hf; intro a hf
        refine wpO_nil ?_
        have hs : St [] W _ [.blk b1 55 [.slice A_p0_s_1 p0_s.A.length c_p0_s_1, .slice A_p0_s_2 p0_s.B.length c_p0_s_2, .slice A_p0_s_3 p0_s.C.length c_p0_s_3], .blk b2 55 [.slice A_p1_t_1 p1_t.A.length c_p1_t_1, .slice A_p1_t_2 p1_t.B.length c_p1_t_2, .slice A_p1_t_3 p1_t.C.length c_p1_t_3], .blk b3 55 [.slice none 0 0, .slice none 0 0, .slice none 0 0], .mat none 0 0 23 2 [] ([] : List (List Int))] := hs.addNilM 23 2
        have hs : St [] W _ [.blk b1 55 [.slice A_p0_s_1 p0_s.A.length c_p0_s_1, .slice A_p0_s_2 p0_s.B.length c_p0_s_2, .slice A_p0_s_3 p0_s.C.length c_p0_s_3], .blk b2 55 [.slice A_p1_t_1 p1_t.A.length c_p1_t_1, .slice A_p1_t_2 p1_t.B.length c_p1_t_2, .slice A_p1_t_3 p1_t.C.length c_p1_t_3], .blk b3 55 [.slice none 0 0, .slice none 0 0, .slice none 0 0], .mat none 0 0 23 2 [] ([] : List (List Int)), .row none 0 0 2 1 (ints ([] : List Int))] := hs.addNil 2 1
        have hs : St [] W _ [.blk b1 55 [.slice A_p0_s_1 p0_s.A.length c_p0_s_1, .slice A_p0_s_2 p0_s.B.length c_p0_s_2, .slice A_p0_s_3 p0_s.C.length c_p0_s_3], .blk b2 55 [.slice A_p1_t_1 p1_t.A.length c_p1_t_1, .slice A_p1_t_2 p1_t.B.length c_p1_t_2, .slice A_p1_t_3 p1_t.C.length c_p1_t_3], .blk b3 55 [.slice none 0 0, .slice none 0 0, .slice none 0 0], .mat none 0 0 23 2 [] ([] : List (List Int)), .row none 0 0 2 1 (ints ([] : List Int)), .row none 0 0 2 1 (ints ([] : List Int))] := hs.addNil 2 1
        obtain rfl := Option.some.inj hm
        refine wpL_ret (Qb_ret (ret_cell_tmp rfl hf rfl rfl hs (i := 2) rfl ag55 ti55 rfl ?_))
        exact ⟨_, rfl, none, 0, 0, [], none, 0, 0, none, 0, 0, rfl, rfl, rfl, rfl, hs.sel [3, 4, 5] (by decide)⟩
      · have hm := bif_f hm hb21
        refine wpL_skip ?_
        refine wpL_nil (Qb_normal ?_)
        refine wpL_seq ?_
        refine wpL_region ?_
        refine sY hf hs rfl rfl rfl (Y_fieldAddr rfl rfl fo55_0) ?_; clear hf; intro a hf
        refine sY hf hs rfl rfl rfl (Y_load_blk rfl rfl (i := 1) rfl rfl ag46) ?_; clear hf; intro a hf
        refine sY hf hs rfl rfl rfl (Y_lenH rfl rfl el46 rfl) ?_; clear hf; intro a hf
        refine sY hf hs rfl rfl rfl (Y_fieldAddr rfl rfl fo55_0) ?_; clear hf; intro a hf
        refine sY hf hs rfl rfl rfl (Y_load_blk rfl rfl (i := 0) rfl rfl ag46) ?_; clear hf; intro a hf
        refine sY hf hs rfl rfl rfl (Y_lenH rfl rfl el46 rfl) ?_; clear hf; intro a hf
        obtain ⟨r25, hc26, hm⟩ := bind_some hm
        refine sCall hf rfl rfl rfl rfl (cap := []) rfl rfl en87 (spec_l02Bottom_ok F (p1_t.A.length : Int) (p0_s.A.length : Int) _ _ hc26) ?_; clear hf
        rintro _ w ⟨A27, n28, c29, vs31, rfl, hn30, hs1⟩ a hf
        have hs : St [] W w [.blk b1 55 [.slice A_p0_s_1 p0_s.A.length c_p0_s_1, .slice A_p0_s_2 p0_s.B.length c_p0_s_2, .slice A_p0_s_3 p0_s.C.length c_p0_s_3], .blk b2 55 [.slice A_p1_t_1 p1_t.A.length c_p1_t_1, .slice A_p1_t_2 p1_t.B.length c_p1_t_2, .slice A_p1_t_3 p1_t.C.length c_p1_t_3], .blk b3 55 [.slice none 0 0, .slice none 0 0, .slice none 0 0], .mat A27 n28 c29 23 2 vs31 r25] := hs.join hs1
        clear hs1
        refine sY hf hs rfl rfl rfl (Y_assign rfl rfl) ?_; clear hf; intro a hf
        refine wpO_nil ?_
        refine wpL_seq ?_
        refine wpL_drawM [.blk b1 55 [.slice A_p0_s_1 p0_s.A.length c_p0_s_1, .slice A_p0_s_2 p0_s.B.length c_p0_s_2, .slice A_p0_s_3 p0_s.C.length c_p0_s_3], .blk b2 55 [.slice A_p1_t_1 p1_t.A.length c_p1_t_1, .slice A_p1_t_2 p1_t.B.length c_p1_t_2, .slice A_p1_t_3 p1_t.C.length c_p1_t_3], .blk b3 55 [.slice none 0 0, .slice none 0 0, .slice none 0 0], .mat A27 n28 c29 23 2 vs31 r25] [17, 19] (by kernel_rfl) hs ?_; clear hs; intro w hs
        have hs0 : St [] W w [.blk b1 55 [.slice A_p0_s_1 p0_s.A.length c_p0_s_1, .slice A_p0_s_2 p0_s.B.length c_p0_s_2, .slice A_p0_s_3 p0_s.C.length c_p0_s_3], .blk b2 55 [.slice A_p1_t_1 p1_t.A.length c_p1_t_1, .slice A_p1_t_2 p1_t.B.length c_p1_t_2, .slice A_p1_t_3 p1_t.C.length c_p1_t_3], .blk b3 55 [.slice none 0 0, .slice none 0 0, .slice none 0 0], .mat A27 n28 c29 23 2 vs31 r25] := hs
        refine mYp (i := 0) rfl (by kernel_rfl) (by kernel_rfl) hf rfl rfl rfl (fun _ => Y_fieldAddr rfl rfl fo55_0) ?_; clear hf; intro a hf
        refine mY (i := 1) [[5, 8, 11, 14], []] rfl (by kernel_rfl) (by kernel_rfl) hf hs0 rfl rfl rfl (Y_load_blk rfl rfl (i := 0) rfl rfl ag46) ?_; clear hf; intro a hf
        refine mYp (i := 2) rfl (by kernel_rfl) (by kernel_rfl) hf rfl rfl rfl (fun _ => Y_fieldAddr rfl rfl fo55_0) ?_; clear hf; intro a hf
        refine mY (i := 3) [[5, 8, 11, 14], []] rfl (by kernel_rfl) (by kernel_rfl) hf hs0 rfl rfl rfl (Y_load_blk rfl rfl (i := 1) rfl rfl ag46) ?_; clear hf; intro a hf
        refine mYp (i := 4) rfl (by kernel_rfl) (by kernel_rfl) hf rfl rfl rfl (fun _ => Y_move rfl rfl) ?_; clear hf; intro a hf
        refine mYp (i := 6) rfl (by kernel_rfl) (by kernel_rfl) hf rfl rfl rfl (fun _ => Y_fieldAddr rfl rfl fo55_1) ?_; clear hf; intro a hf
        refine mY (i := 7) [[8, 11, 14], []] rfl (by kernel_rfl) (by kernel_rfl) hf hs0 rfl rfl rfl (Y_load_blk rfl rfl (i := 0) rfl rfl ag23) ?_; clear hf; intro a hf
        refine mYp (i := 9) rfl (by kernel_rfl) (by kernel_rfl) hf rfl rfl rfl (fun _ => Y_fieldAddr rfl rfl fo55_1) ?_; clear hf; intro a hf
        refine mY (i := 10) [[11, 14], []] rfl (by kernel_rfl) (by kernel_rfl) hf hs0 rfl rfl rfl (Y_load_blk rfl rfl (i := 1) rfl rfl ag23) ?_; clear hf; intro a hf
        refine mYp (i := 12) rfl (by kernel_rfl) (by kernel_rfl) hf rfl rfl rfl (fun _ => Y_fieldAddr rfl rfl fo55_2) ?_; clear hf; intro a hf
        refine mY (i := 13) [[14], []] rfl (by kernel_rfl) (by kernel_rfl) hf hs0 rfl rfl rfl (Y_load_blk rfl rfl (i := 0) rfl rfl ag23) ?_; clear hf; intro a hf
        refine mYp (i := 15) rfl (by kernel_rfl) (by kernel_rfl) hf rfl rfl rfl (fun _ => Y_fieldAddr rfl rfl fo55_2) ?_; clear hf; intro a hf
        refine mY (i := 16) [[], []] rfl (by kernel_rfl) (by kernel_rfl) hf hs0 rfl rfl rfl (Y_load_blk rfl rfl (i := 1) rfl rfl ag23) ?_; clear hf; intro a hf
        refine mRun (i := 5) rfl (by kernel_rfl) ?_
        obtain ⟨r59, hc60, hm⟩ := bind_some hm
        refine sCall hf rfl rfl rfl rfl (cap := []) rfl rfl en98 (spec_l24Stack_ok F p0_s.A A_p0_s_1 p0_s.A.length c_p0_s_1 rfl p1_t.A A_p1_t_1 p1_t.A.length c_p1_t_1 rfl r25 A27 n28 c29 hn30 _ _ hc60 (h_p0_s_1.at hs) (h_p1_t_1.at hs) (hs.rdM (i := 3) rfl)) ?_; clear hf
        rintro _ w ⟨A61, n62, c63, vs65, rfl, hn64, hs1⟩ a hf
        have hs : St [] W w [.blk b1 55 [.slice A_p0_s_1 p0_s.A.length c_p0_s_1, .slice A_p0_s_2 p0_s.B.length c_p0_s_2, .slice A_p0_s_3 p0_s.C.length c_p0_s_3], .blk b2 55 [.slice A_p1_t_1 p1_t.A.length c_p1_t_1, .slice A_p1_t_2 p1_t.B.length c_p1_t_2, .slice A_p1_t_3 p1_t.C.length c_p1_t_3], .blk b3 55 [.slice none 0 0, .slice none 0 0, .slice none 0 0], .mat A27 n28 c29 23 2 vs31 r25, .mat A61 n62 c63 23 2 vs65 r59] := hs.join hs1
        clear hs1
        have hs0 : St [] W w [.blk b1 55 [.slice A_p0_s_1 p0_s.A.length c_p0_s_1, .slice A_p0_s_2 p0_s.B.length c_p0_s_2, .slice A_p0_s_3 p0_s.C.length c_p0_s_3], .blk b2 55 [.slice A_p1_t_1 p1_t.A.length c_p1_t_1, .slice A_p1_t_2 p1_t.B.length c_p1_t_2, .slice A_p1_t_3 p1_t.C.length c_p1_t_3], .blk b3 55 [.slice none 0 0, .slice none 0 0, .slice none 0 0], .mat A27 n28 c29 23 2 vs31 r25] := hs.sel [0, 1, 2, 3] (by decide)
        refine wpO_nil ⟨Or.inr (fun _ => hs0), ?_⟩
        refine mRun (i := 8) rfl (by kernel_rfl) ?_
        obtain ⟨r66, hc67, hm⟩ := bind_some hm
        refine sCall hf rfl rfl rfl rfl (cap := []) rfl rfl en65 (spec_l01Own_ok F p0_s.B A_p0_s_2 p0_s.B.length c_p0_s_2 rfl _ _ hc67 (h_p0_s_2.at hs)) ?_; clear hf
        rintro _ w ⟨A68, n69, c70, rfl, hn71, hs1⟩ a hf
        have hs : St [] W w [.blk b1 55 [.slice A_p0_s_1 p0_s.A.length c_p0_s_1, .slice A_p0_s_2 p0_s.B.length c_p0_s_2, .slice A_p0_s_3 p0_s.C.length c_p0_s_3], .blk b2 55 [.slice A_p1_t_1 p1_t.A.length c_p1_t_1, .slice A_p1_t_2 p1_t.B.length c_p1_t_2, .slice A_p1_t_3 p1_t.C.length c_p1_t_3], .blk b3 55 [.slice none 0 0, .slice none 0 0, .slice none 0 0], .mat A27 n28 c29 23 2 vs31 r25, .mat A61 n62 c63 23 2 vs65 r59, .row A68 n69 c70 2 1 (ints r66)] := hs.join hs1
        clear hs1
        have hs0 : St [] W w [.blk b1 55 [.slice A_p0_s_1 p0_s.A.length c_p0_s_1, .slice A_p0_s_2 p0_s.B.length c_p0_s_2, .slice A_p0_s_3 p0_s.C.length c_p0_s_3], .blk b2 55 [.slice A_p1_t_1 p1_t.A.length c_p1_t_1, .slice A_p1_t_2 p1_t.B.length c_p1_t_2, .slice A_p1_t_3 p1_t.C.length c_p1_t_3], .blk b3 55 [.slice none 0 0, .slice none 0 0, .slice none 0 0], .mat A27 n28 c29 23 2 vs31 r25] := hs.sel [0, 1, 2, 3] (by decide)
        refine wpO_nil ⟨Or.inr (fun _ => hs0), ?_⟩
        refine mRun (i := 11) rfl (by kernel_rfl) ?_
        obtain ⟨xs74, ha75, hm⟩ := bind_some hm
        refine sAppendG (i := 5) (xs := r66) (ys := p1_t.B) (enc := ints) hf hs rfl rfl rfl rfl rfl rfl hn71 rfl rfl ha75 el23 ti2 rfl rfl rfl (h_p1_t_2.at hs) ints_len1 ints_append ints_one ?_; clear hf hs; intro a w A72 c73 hs hf
        have hs : St [] W w [.blk b1 55 [.slice A_p0_s_1 p0_s.A.length c_p0_s_1, .slice A_p0_s_2 p0_s.B.length c_p0_s_2, .slice A_p0_s_3 p0_s.C.length c_p0_s_3], .blk b2 55 [.slice A_p1_t_1 p1_t.A.length c_p1_t_1, .slice A_p1_t_2 p1_t.B.length c_p1_t_2, .slice A_p1_t_3 p1_t.C.length c_p1_t_3], .blk b3 55 [.slice none 0 0, .slice none 0 0, .slice none 0 0], .mat A27 n28 c29 23 2 vs31 r25, .mat A61 n62 c63 23 2 vs65 r59, .row A72 xs74.length c73 2 1 (ints xs74)] := hs
        have hs0 : St [] W w [.blk b1 55 [.slice A_p0_s_1 p0_s.A.length c_p0_s_1, .slice A_p0_s_2 p0_s.B.length c_p0_s_2, .slice A_p0_s_3 p0_s.C.length c_p0_s_3], .blk b2 55 [.slice A_p1_t_1 p1_t.A.length c_p1_t_1, .slice A_p1_t_2 p1_t.B.length c_p1_t_2, .slice A_p1_t_3 p1_t.C.length c_p1_t_3], .blk b3 55 [.slice none 0 0, .slice none 0 0, .slice none 0 0], .mat A27 n28 c29 23 2 vs31 r25] := hs.sel [0, 1, 2, 3] (by decide)
        refine wpO_nil ⟨Or.inr (fun _ => hs0), ?_⟩
        refine mRun (i := 14) rfl (by kernel_rfl) ?_
        obtain ⟨r76, hc77, hm⟩ := bind_some hm
        refine sCall hf rfl rfl rfl rfl (cap := []) rfl rfl en65 (spec_l01Own_ok F p0_s.C A_p0_s_3 p0_s.C.length c_p0_s_3 rfl _ _ hc77 (h_p0_s_3.at hs)) ?_; clear hf
        rintro _ w ⟨A78, n79, c80, rfl, hn81, hs1⟩ a hf
        have hs : St [] W w [.blk b1 55 [.slice A_p0_s_1 p0_s.A.length c_p0_s_1, .slice A_p0_s_2 p0_s.B.length c_p0_s_2, .slice A_p0_s_3 p0_s.C.length c_p0_s_3], .blk b2 55 [.slice A_p1_t_1 p1_t.A.length c_p1_t_1, .slice A_p1_t_2 p1_t.B.length c_p1_t_2, .slice A_p1_t_3 p1_t.C.length c_p1_t_3], .blk b3 55 [.slice none 0 0, .slice none 0 0, .slice none 0 0], .mat A27 n28 c29 23 2 vs31 r25, .mat A61 n62 c63 23 2 vs65 r59, .row A72 xs74.length c73 2 1 (ints xs74), .row A78 n79 c80 2 1 (ints r76)] := hs.join hs1
        clear hs1
        have hs0 : St [] W w [.blk b1 55 [.slice A_p0_s_1 p0_s.A.length c_p0_s_1, .slice A_p0_s_2 p0_s.B.length c_p0_s_2, .slice A_p0_s_3 p0_s.C.length c_p0_s_3], .blk b2 55 [.slice A_p1_t_1 p1_t.A.length c_p1_t_1, .slice A_p1_t_2 p1_t.B.length c_p1_t_2, .slice A_p1_t_3 p1_t.C.length c_p1_t_3], .blk b3 55 [.slice none 0 0, .slice none 0 0, .slice none 0 0], .mat A27 n28 c29 23 2 vs31 r25] := hs.sel [0, 1, 2, 3] (by decide)
        refine wpO_nil ⟨Or.inr (fun _ => hs0), ?_⟩
        refine mRun (i := 17) rfl (by kernel_rfl) ?_
        obtain ⟨xs84, ha85, hm⟩ := bind_some hm
        refine sAppendG (i := 6) (xs := r76) (ys := p1_t.C) (enc := ints) hf hs rfl rfl rfl rfl rfl rfl hn81 rfl rfl ha85 el23 ti2 rfl rfl rfl (h_p1_t_3.at hs) ints_len1 ints_append ints_one ?_; clear hf hs; intro a w A82 c83 hs hf
        have hs : St [] W w [.blk b1 55 [.slice A_p0_s_1 p0_s.A.length c_p0_s_1, .slice A_p0_s_2 p0_s.B.length c_p0_s_2, .slice A_p0_s_3 p0_s.C.length c_p0_s_3], .blk b2 55 [.slice A_p1_t_1 p1_t.A.length c_p1_t_1, .slice A_p1_t_2 p1_t.B.length c_p1_t_2, .slice A_p1_t_3 p1_t.C.length c_p1_t_3], .blk b3 55 [.slice none 0 0, .slice none 0 0, .slice none 0 0], .mat A27 n28 c29 23 2 vs31 r25, .mat A61 n62 c63 23 2 vs65 r59, .row A72 xs74.length c73 2 1 (ints xs74), .row A82 xs84.length c83 2 1 (ints xs84)] := hs
        refine wpO_nil ⟨Or.inl (by decide), ?_⟩
        refine mYp (i := 18) rfl (by kernel_rfl) (by kernel_rfl) hf rfl rfl rfl (fun _ => Y_build (parts := [(0, .tmp 39), (1, .tmp 45), (2, .tmp 51)]) (vs := [.slice A61 n62 c63, .slice A72 xs74.length c73, .slice A82 xs84.length c83]) rfl rfl (run_build (parts := [(0, .slice A61 n62 c63), (1, .slice A72 xs74.length c73), (2, .slice A82 xs84.length c83)]) (cells := [.slice A61 n62 c63, .slice A72 xs74.length c73, .slice A82 xs84.length c83]) (places := #[(0, 1), (1, 1), (2, 1)]) ti55 Try.underlying55 (fun w => by simp [go_sem]) rfl)) ?_; clear hf; intro a hf
        refine mRun (i := 19) rfl (by kernel_rfl) ?_
        refine sStore (i := 2) (us := [.slice A61 n62 c63, .slice A72 xs74.length c73, .slice A82 xs84.length c83]) hf hs rfl rfl rfl rfl rfl rfl ti55 rfl rfl rfl (Nat.le_of_ble_eq_true rfl) rfl ?_; clear hs; intro w hs
        have hs : St [] W w [.blk b1 55 [.slice A_p0_s_1 p0_s.A.length c_p0_s_1, .slice A_p0_s_2 p0_s.B.length c_p0_s_2, .slice A_p0_s_3 p0_s.C.length c_p0_s_3], .blk b2 55 [.slice A_p1_t_1 p1_t.A.length c_p1_t_1, .slice A_p1_t_2 p1_t.B.length c_p1_t_2, .slice A_p1_t_3 p1_t.C.length c_p1_t_3], .blk b3 55 [.slice A61 n62 c63, .slice A72 xs74.length c73, .slice A82 xs84.length c83], .mat A27 n28 c29 23 2 vs31 r25, .mat A61 n62 c63 23 2 vs65 r59, .row A72 xs74.length c73 2 1 (ints xs74), .row A82 xs84.length c83 2 1 (ints xs84)] := hs
        refine wpO_nil ⟨Or.inl (by decide), ?_⟩
        refine mYp (i := 20) rfl (by kernel_rfl) (by kernel_rfl) hf rfl rfl rfl (fun _ => Y_assign rfl rfl) ?_; clear hf; intro a hf
        refine mDone (by kernel_rfl) ?_
        clear hs0
        obtain rfl := Option.some.inj hm
        refine wpL_ret (ret_cell_tmp rfl hf rfl rfl hs (i := 2) rfl ag55 ti55 rfl ?_)
        exact ⟨_, rfl, A61, n62, c63, vs65, A72, xs74.length, c73, A82, xs84.length, c83, rfl, hn64, rfl, rfl, hs.sel [4, 5, 6] (by decide)⟩

set_option maxRecDepth 100000 in
theorem impl_within_ok (F : Nat) (p0_n : Int) (p1_low : Int) (p2_high : Int) (r : Bool) (W : World) (hm : impl_within F p0_n p1_low p2_high = some r) :
    Calls Try.prog 69 [.int .i64 p0_n, .int .i64 p1_low, .int .i64 p2_high].toArray W fun e w' => ∃ v, e = .returned v ∧ v = .bool r ∧ St [] W w' [] := by
  unfold impl_within at hm
  refine Calls.enter (N := 15) Try.func69 rfl rfl rfl (fun a hf => ?_)
  have hs := St.start W
  obtain ⟨w, hw_⟩ : ∃ w, w = W := ⟨W, rfl⟩
  clear hw_ w
  refine wpL_seq ?_
  refine wpL_region ?_
  refine sY hf hs rfl rfl rfl (Y_assign rfl rfl) ?_; clear hf; intro a hf
  refine wpO_nil ?_
  refine wpL_seq ?_
  obtain ⟨r3, hj4, hm⟩ := bind_some hm
  refine wpL_cut (fun a w => ∃ b2 : Bool, b2 = r3 ∧ Fr a 15 [(6, .bool b2)] ∧ St [] W w []) ?_ ?_
  · refine wpL_region ?_
    refine sY hf hs rfl rfl rfl (Y_move rfl rfl) ?_; clear hf; intro a hf
    refine sY hf hs rfl rfl rfl (Y_move rfl rfl) ?_; clear hf; intro a hf
    refine sY hf hs rfl rfl rfl (Y_geq rfl rfl rfl) ?_; clear hf; intro a hf
    refine sY hf hs rfl rfl rfl (Y_move rfl rfl) ?_; clear hf; intro a hf
    refine bsplit (decide (p1_low ≤ p0_n)) (fun hb5 => ?_) (fun hb5 => ?_)
    · have hj4 := bif_t hj4 hb5
      refine sYg hf hs rfl rfl rfl (congrArg (fun b => some (Value.bool b)) hb5) rfl rfl rfl (Y_move rfl rfl) ?_; clear hf; intro a hf
      refine sYg hf hs rfl rfl rfl (congrArg (fun b => some (Value.bool b)) hb5) rfl rfl rfl (Y_move rfl rfl) ?_; clear hf; intro a hf
      refine sYg hf hs rfl rfl rfl (congrArg (fun b => some (Value.bool b)) hb5) rfl rfl rfl (Y_leq rfl rfl rfl) ?_; clear hf; intro a hf
      refine sY hf hs rfl rfl rfl (Y_pickT rfl (congrArg (fun b => some (Value.bool b)) hb5) rfl) ?_; clear hf; intro a hf
      refine sY hf hs rfl rfl rfl (Y_assign rfl rfl) ?_; clear hf; intro a hf
      refine wpO_nil ?_
      refine wpL_nil (then_normal ?_)
      exact ⟨(decide (p0_n ≤ p2_high)), Option.some.inj hj4, (FrD.pick hf.none hf rfl), hs⟩
    · have hj4 := bif_f hj4 hb5
      refine sNo hf rfl rfl rfl (congrArg (fun b => some (Value.bool b)) hb5) rfl rfl rfl ?_; clear hf; intro a hf
      refine sNo hf rfl rfl rfl (congrArg (fun b => some (Value.bool b)) hb5) rfl rfl rfl ?_; clear hf; intro a hf
      refine sNo hf rfl rfl rfl (congrArg (fun b => some (Value.bool b)) hb5) rfl rfl rfl ?_; clear hf; intro a hf
      refine sY hf hs rfl rfl rfl (Y_pickF rfl (congrArg (fun b => some (Value.bool b)) hb5) rfl) ?_; clear hf; intro a hf
      refine sY hf hs rfl rfl rfl (Y_assign rfl rfl) ?_; clear hf; intro a hf
      refine wpO_nil ?_
      refine wpL_nil (then_normal ?_)
      exact ⟨false, Option.some.inj hj4, (FrD.pick hf.none hf rfl), hs⟩
  · rintro a w ⟨b2, hr_, hf, hs⟩
    subst hr_
    try dsimp only at hm
    obtain rfl := Option.some.inj hm
    refine wpL_ret (ret_tmp rfl hf rfl ?_)
    exact ⟨_, rfl, rfl, hs⟩

set_option maxRecDepth 100000 in
theorem slices_IndexFunc_int64_ok (F : Nat) (p0_s : List Int) (A_p0_s_1 : Option Addr) (n_p0_s_1 c_p0_s_1 : Nat) (hn_p0_s_1 : n_p0_s_1 = p0_s.length) (m_p1_f : Int → Option Bool) (f_p1_f : FuncId) (k_p1_f : List Value) (r : Int) (W : World) (hm : slices_IndexFunc_int64 F p0_s m_p1_f = some r) (h_p0_s_1 : Rd W A_p0_s_1 (ints p0_s)) (h_p1_f : ∀ (x0 : Int) (r : Bool) (w : World), m_p1_f x0 = some r → Below W.heap.size W w → Calls Try.prog f_p1_f (([.int .i64 x0] : List Value) ++ k_p1_f).toArray w fun e w' => ∃ v, e = .returned v ∧ v = .bool r ∧ St [] w w' []) (e_p1_f : En Try.prog f_p1_f) :
    Calls Try.prog 180 [.slice A_p0_s_1 n_p0_s_1 c_p0_s_1, .func (.func f_p1_f) #[] k_p1_f.toArray].toArray W fun e w' => ∃ v, e = .returned v ∧ v = .int .i64 r ∧ St [] W w' [] := by
  subst hn_p0_s_1
  unfold slices_IndexFunc_int64 at hm
  refine Calls.enter (N := 19) Try.func180 rfl rfl rfl (fun a hf => ?_)
  have hs := St.start W
  obtain ⟨w, hw_⟩ : ∃ w, w = W := ⟨W, rfl⟩
  clear hw_ w
  refine wpL_seq ?_
  refine wpL_region ?_
  refine sY hf hs rfl rfl rfl (Y_assign rfl rfl) ?_; clear hf; intro a hf
  refine wpO_nil ?_
  refine wpL_seq ?_
  refine wpL_seq ?_
  refine wpL_region ?_
  refine sY hf hs rfl rfl rfl (Y_move rfl rfl) ?_; clear hf; intro a hf
  refine sY hf hs rfl rfl rfl (Y_lenH rfl rfl el23 rfl) ?_; clear hf; intro a hf
  refine sY hf hs rfl rfl rfl (Y_move rfl rfl) ?_; clear hf; intro a hf
  refine wpO_nil ?_
  obtain ⟨r21, hl22, hm⟩ := bind_some hm
  refine wpL_block (fun a w => Sum.inr () = r21 ∧ Fr a 19 [] ∧ St [] W w []) ?_ ?_
  · refine wpL_loop (fun n a w => ∃ x14 : Int, slices_IndexFunc_int64_L1 F p0_s m_p1_f n x14 = some r21 ∧ Fr a 19 [(0, .slice A_p0_s_1 p0_s.length c_p0_s_1), (1, .func (.func f_p1_f) #[] k_p1_f.toArray), (7, .int .i64 (p0_s.length : Int)), (8, .int .i64 x14)] ∧ St [] W w []) F ?_ ?_ ?_
    · exact ⟨0, hl22, (FrD.pick (FrD.pick (FrD.pick (FrD.pick hf.none hf rfl) hf rfl) hf rfl) hf rfl), hs⟩
    · rintro a w ⟨x14, h0_, -, -⟩; simp [slices_IndexFunc_int64_L1] at h0_
    · rintro n24 a w ⟨x14, hm23, hf, hs⟩
      rw [slices_IndexFunc_int64_L1] at hm23
      refine wpL_seq ?_
      refine wpL_region ?_
      refine sY hf hs rfl rfl rfl (Y_lss rfl rfl rfl) ?_; clear hf; intro a hf
      refine wpO_nil ?_
      refine wpL_seq ?_
      refine wpL_cond hf rfl (fun hb25 => ?_) (fun hb25 => ?_)
      · have hm23 := bif_t hm23 hb25
        refine wpL_skip ?_
        refine wpL_seq ?_
        refine wpL_block0 ?_
        refine wpL_seq ?_
        refine wpL_region ?_
        refine sY hf hs rfl rfl rfl (Y_move rfl rfl) ?_; clear hf; intro a hf
        refine sY hf hs rfl rfl rfl (Y_assign rfl rfl) ?_; clear hf; intro a hf
        refine wpO_nil ?_
        refine wpL_seq ?_
        refine wpL_region ?_
        refine sY hf hs rfl rfl rfl (Y_move rfl rfl) ?_; clear hf; intro a hf
        refine sY hf hs rfl rfl rfl (Y_move rfl rfl) ?_; clear hf; intro a hf
        refine sY hf hs rfl rfl rfl (Y_move rfl rfl) ?_; clear hf; intro a hf
        obtain ⟨q26, hi27, hm23⟩ := bind_some hm23
        obtain ⟨hi27a, hi27b, hi27q⟩ := idx_some hi27
        refine sY hf hs rfl rfl rfl (Y_index rfl rfl rfl el23 ti2 (Rd.isAt (h_p0_s_1.at hs) (at1 (ints_at hi27q))) hi27a hi27b) ?_; clear hf; intro a hf
        refine sY hf hs rfl rfl rfl (Y_load_rd rfl rfl (fun w hs => h_p0_s_1.at hs) (at1 (ints_at hi27q)) ag2) ?_; clear hf; intro a hf
        obtain ⟨r28, hc29, hm23⟩ := bind_some hm23
        refine sCall hf rfl rfl rfl rfl (cap := k_p1_f) rfl rfl e_p1_f (h_p1_f q26 _ _ hc29 hs.below) ?_; clear hf; rintro _ w ⟨rfl, hs1⟩ a hf; have hs := hs.ext hs1.below; clear hs1
        refine wpO_nil ?_
        refine wpL_cond hf rfl (fun hb30 => ?_) (fun hb30 => ?_)
        · have hm23 := bif_t hm23 hb30
          refine wpL_seq ?_
          refine wpL_region ?_
          refine sY hf hs rfl rfl rfl (Y_move rfl rfl) ?_; clear hf; intro a hf
          refine sY hf hs rfl rfl rfl (Y_assign rfl rfl) ?_; clear hf; intro a hf
          refine wpO_nil ?_
          obtain rfl := Option.some.inj hm23
          try dsimp only at hm
          obtain rfl := Option.some.inj hm
          refine wpL_ret (Qb_ret (Ql_ret (Qb_ret (ret_tmp rfl hf rfl ?_))))
          exact ⟨_, rfl, rfl, hs⟩
        · have hm23 := bif_f hm23 hb30
          refine wpL_skip ?_
          refine wpL_nil (Qb_normal ?_)
          refine wpL_region ?_
          refine sY hf hs rfl rfl rfl (Y_add rfl rfl rfl) ?_; clear hf; intro a hf
          refine sY hf hs rfl rfl rfl (Y_move rfl rfl) ?_; clear hf; intro a hf
          refine wpO_nil ?_
          refine wpL_nil (Ql_normal ?_)
          exact ⟨(IntKind.i64.wrap (x14 + 1)), hm23, (FrD.pick (FrD.pick (FrD.pick (FrD.pick hf.none hf rfl) hf rfl) hf rfl) hf rfl), hs⟩
      · have hm23 := bif_f hm23 hb25
        refine wpL_exit (Ql_exit (Qb_exit ?_))
        exact ⟨Option.some.inj hm23, hf.none, hs⟩
  · rintro a w ⟨hr_, hf, hs⟩
    subst hr_
    try dsimp only at hm
    refine wpL_seq ?_
    refine wpL_region ?_
    refine sY hf hs rfl rfl rfl (Y_assign rfl rfl) ?_; clear hf; intro a hf
    refine wpO_nil ?_
    obtain rfl := Option.some.inj hm
    refine wpL_ret (ret_tmp rfl hf rfl ?_)
    exact ⟨_, rfl, rfl, hs⟩

set_option maxRecDepth 100000 in
theorem slices_ContainsFunc_int64_ok (F : Nat) (p0_s : List Int) (A_p0_s_1 : Option Addr) (n_p0_s_1 c_p0_s_1 : Nat) (hn_p0_s_1 : n_p0_s_1 = p0_s.length) (m_p1_f : Int → Option Bool) (f_p1_f : FuncId) (k_p1_f : List Value) (r : Bool) (W : World) (hm : slices_ContainsFunc_int64 F p0_s m_p1_f = some r) (h_p0_s_1 : Rd W A_p0_s_1 (ints p0_s)) (h_p1_f : ∀ (x0 : Int) (r : Bool) (w : World), m_p1_f x0 = some r → Below W.heap.size W w → Calls Try.prog f_p1_f (([.int .i64 x0] : List Value) ++ k_p1_f).toArray w fun e w' => ∃ v, e = .returned v ∧ v = .bool r ∧ St [] w w' []) (e_p1_f : En Try.prog f_p1_f) :
    Calls Try.prog 142 [.slice A_p0_s_1 n_p0_s_1 c_p0_s_1, .func (.func f_p1_f) #[] k_p1_f.toArray].toArray W fun e w' => ∃ v, e = .returned v ∧ v = .bool r ∧ St [] W w' [] := by
  subst hn_p0_s_1
  unfold slices_ContainsFunc_int64 at hm
  refine Calls.enter (N := 9) Try.func142 rfl rfl rfl (fun a hf => ?_)
  have hs := St.start W
  obtain ⟨w, hw_⟩ : ∃ w, w = W := ⟨W, rfl⟩
  clear hw_ w
  refine wpL_seq ?_
  refine wpL_region ?_
  refine sY hf hs rfl rfl rfl (Y_assign rfl rfl) ?_; clear hf; intro a hf
  refine wpO_nil ?_
  refine wpL_seq ?_
  refine wpL_region ?_
  refine sY hf hs rfl rfl rfl (Y_move rfl rfl) ?_; clear hf; intro a hf
  refine sY hf hs rfl rfl rfl (Y_move rfl rfl) ?_; clear hf; intro a hf
  obtain ⟨r1, hc2, hm⟩ := bind_some hm
  refine sCall hf rfl rfl rfl rfl (cap := []) rfl rfl en180 (slices_IndexFunc_int64_ok F p0_s A_p0_s_1 p0_s.length c_p0_s_1 rfl m_p1_f f_p1_f k_p1_f _ _ hc2 (h_p0_s_1.at hs) (fun x0 r w' hm_ hb => h_p1_f x0 r w' hm_ (hs.below.trans (hb.mono hs.below.size))) e_p1_f) ?_; clear hf
  rintro _ w ⟨rfl, hs1⟩ a hf
  have hs : St [] W w [] := hs.ext hs1.below
  clear hs1
  refine sY hf hs rfl rfl rfl (Y_geq rfl rfl rfl) ?_; clear hf; intro a hf
  refine sY hf hs rfl rfl rfl (Y_assign rfl rfl) ?_; clear hf; intro a hf
  refine wpO_nil ?_
  obtain rfl := Option.some.inj hm
  refine wpL_ret (ret_tmp rfl hf rfl ?_)
  exact ⟨_, rfl, rfl, hs⟩

set_option maxRecDepth 100000 in
theorem impl_isFinite_ok (F : Nat) (p0_n : Int) (r : Bool) (W : World) (hm : impl_isFinite F p0_n = some r) :
    Calls Try.prog 160 [.int .i64 p0_n].toArray W fun e w' => ∃ v, e = .returned v ∧ v = .bool r ∧ St [] W w' [] := by
  unfold impl_isFinite at hm
  refine Calls.enter (N := 5) Try.func160 rfl rfl rfl (fun a hf => ?_)
  have hs := St.start W
  obtain ⟨w, hw_⟩ : ∃ w, w = W := ⟨W, rfl⟩
  clear hw_ w
  refine wpL_seq ?_
  refine wpL_region ?_
  refine sY hf hs rfl rfl rfl (Y_assign rfl rfl) ?_; clear hf; intro a hf
  refine wpO_nil ?_
  refine wpL_seq ?_
  refine wpL_region ?_
  refine sY hf hs rfl rfl rfl (Y_move rfl rfl) ?_; clear hf; intro a hf
  obtain ⟨r1, hc2, hm⟩ := bind_some hm
  refine sCall hf rfl rfl rfl rfl (cap := []) rfl rfl en69 (impl_within_ok F p0_n (-1000000) 1000000 _ _ hc2) ?_; clear hf
  rintro _ w ⟨rfl, hs1⟩ a hf
  have hs : St [] W w [] := hs.ext hs1.below
  clear hs1
  refine sY hf hs rfl rfl rfl (Y_assign rfl rfl) ?_; clear hf; intro a hf
  refine wpO_nil ?_
  obtain rfl := Option.some.inj hm
  refine wpL_ret (ret_tmp rfl hf rfl ?_)
  exact ⟨_, rfl, rfl, hs⟩

set_option maxRecDepth 100000 in
theorem impl_IsValue_ok (F : Nat) (p0_a : Int) (r : Bool) (W : World) (hm : impl_IsValue F p0_a = some r) :
    Calls Try.prog 112 [.int .i64 p0_a].toArray W fun e w' => ∃ v, e = .returned v ∧ v = .bool r ∧ St [] W w' [] := by
  unfold impl_IsValue at hm
  refine Calls.enter (N := 9) Try.func112 rfl rfl rfl (fun a hf => ?_)
  have hs := St.start W
  obtain ⟨w, hw_⟩ : ∃ w, w = W := ⟨W, rfl⟩
  clear hw_ w
  refine wpL_seq ?_
  refine wpL_region ?_
  refine sY hf hs rfl rfl rfl (Y_assign rfl rfl) ?_; clear hf; intro a hf
  refine wpO_nil ?_
  refine wpL_seq ?_
  obtain ⟨r5, hj6, hm⟩ := bind_some hm
  refine wpL_cut (fun a w => ∃ b4 : Bool, b4 = r5 ∧ Fr a 9 [(2, .bool b4)] ∧ St [] W w []) ?_ ?_
  · refine wpL_region ?_
    refine sY hf hs rfl rfl rfl (Y_move rfl rfl) ?_; clear hf; intro a hf
    refine sY hf hs rfl rfl rfl (Y_eql rfl rfl rfl) ?_; clear hf; intro a hf
    refine sY hf hs rfl rfl rfl (Y_move rfl rfl) ?_; clear hf; intro a hf
    refine bsplit (p0_a == (-1000000000000000)) (fun hb7 => ?_) (fun hb7 => ?_)
    · have hj6 := bif_t hj6 hb7
      refine sNo hf rfl rfl rfl (congrArg (fun b => some (Value.bool b)) hb7) rfl rfl rfl ?_; clear hf; intro a hf
      refine sNo hf rfl rfl rfl (congrArg (fun b => some (Value.bool b)) hb7) rfl rfl rfl ?_; clear hf; intro a hf
      refine sY hf hs rfl rfl rfl (Y_pickT rfl (congrArg (fun b => some (Value.bool b)) hb7) rfl) ?_; clear hf; intro a hf
      refine sY hf hs rfl rfl rfl (Y_assign rfl rfl) ?_; clear hf; intro a hf
      refine wpO_nil ?_
      refine wpL_nil (then_normal ?_)
      exact ⟨true, Option.some.inj hj6, (FrD.pick hf.none hf rfl), hs⟩
    · have hj6 := bif_f hj6 hb7
      refine sYg hf hs rfl rfl rfl (congrArg (fun b => some (Value.bool b)) hb7) rfl rfl rfl (Y_move rfl rfl) ?_; clear hf; intro a hf
      obtain ⟨r8, hc9, hj6⟩ := bind_some hj6
      refine sCallg hf rfl rfl rfl (congrArg (fun b => some (Value.bool b)) hb7) rfl rfl rfl rfl (cap := []) rfl rfl en160 (impl_isFinite_ok F p0_a _ _ hc9) ?_; clear hf
      rintro _ w ⟨rfl, hs1⟩ a hf
      have hs : St [] W w [] := hs.ext hs1.below
      clear hs1
      refine sY hf hs rfl rfl rfl (Y_pickF rfl (congrArg (fun b => some (Value.bool b)) hb7) rfl) ?_; clear hf; intro a hf
      refine sY hf hs rfl rfl rfl (Y_assign rfl rfl) ?_; clear hf; intro a hf
      refine wpO_nil ?_
      refine wpL_nil (then_normal ?_)
      exact ⟨r8, Option.some.inj hj6, (FrD.pick hf.none hf rfl), hs⟩
  · rintro a w ⟨b4, hr_, hf, hs⟩
    subst hr_
    try dsimp only at hm
    obtain rfl := Option.some.inj hm
    refine wpL_ret (ret_tmp rfl hf rfl ?_)
    exact ⟨_, rfl, rfl, hs⟩

set_option maxRecDepth 100000 in
theorem impl_areValues_c1_ok (F : Nat) (p0_n : Int) (r : Bool) (W : World) (hm : impl_areValues_c1 F p0_n = some r) :
    Calls Try.prog 143 [.int .i64 p0_n].toArray W fun e w' => ∃ v, e = .returned v ∧ v = .bool r ∧ St [] W w' [] := by
  unfold impl_areValues_c1 at hm
  refine Calls.enter (N := 6) Try.func143 rfl rfl rfl (fun a hf => ?_)
  have hs := St.start W
  obtain ⟨w, hw_⟩ : ∃ w, w = W := ⟨W, rfl⟩
  clear hw_ w
  refine wpL_seq ?_
  refine wpL_region ?_
  refine sY hf hs rfl rfl rfl (Y_assign rfl rfl) ?_; clear hf; intro a hf
  refine wpO_nil ?_
  refine wpL_seq ?_
  refine wpL_region ?_
  refine sY hf hs rfl rfl rfl (Y_move rfl rfl) ?_; clear hf; intro a hf
  obtain ⟨r1, hc2, hm⟩ := bind_some hm
  refine sCall hf rfl rfl rfl rfl (cap := []) rfl rfl en112 (impl_IsValue_ok F p0_n _ _ hc2) ?_; clear hf
  rintro _ w ⟨rfl, hs1⟩ a hf
  have hs : St [] W w [] := hs.ext hs1.below
  clear hs1
  refine sY hf hs rfl rfl rfl (Y_not rfl rfl) ?_; clear hf; intro a hf
  refine sY hf hs rfl rfl rfl (Y_assign rfl rfl) ?_; clear hf; intro a hf
  refine wpO_nil ?_
  obtain rfl := Option.some.inj hm
  refine wpL_ret (ret_tmp rfl hf rfl ?_)
  exact ⟨_, rfl, rfl, hs⟩

set_option maxRecDepth 100000 in
theorem impl_areValues_ok (F : Nat) (p0_list : List Int) (A_p0_list_1 : Option Addr) (n_p0_list_1 c_p0_list_1 : Nat) (hn_p0_list_1 : n_p0_list_1 = p0_list.length) (r : Bool) (W : World) (hm : impl_areValues F p0_list = some r) (h_p0_list_1 : Rd W A_p0_list_1 (ints p0_list)) :
    Calls Try.prog 73 [.slice A_p0_list_1 n_p0_list_1 c_p0_list_1].toArray W fun e w' => ∃ v, e = .returned v ∧ v = .bool r ∧ St [] W w' [] := by
  subst hn_p0_list_1
  unfold impl_areValues at hm
  refine Calls.enter (N := 6) Try.func73 rfl rfl rfl (fun a hf => ?_)
  have hs := St.start W
  obtain ⟨w, hw_⟩ : ∃ w, w = W := ⟨W, rfl⟩
  clear hw_ w
  refine wpL_seq ?_
  refine wpL_region ?_
  refine sY hf hs rfl rfl rfl (Y_assign rfl rfl) ?_; clear hf; intro a hf
  refine wpO_nil ?_
  refine wpL_seq ?_
  refine wpL_region ?_
  refine sY hf hs rfl rfl rfl (Y_move rfl rfl) ?_; clear hf; intro a hf
  obtain ⟨r1, hc2, hm⟩ := bind_some hm
  refine sCall hf rfl rfl rfl rfl (cap := []) rfl rfl en142 (slices_ContainsFunc_int64_ok F p0_list A_p0_list_1 p0_list.length c_p0_list_1 rfl (fun x0 => impl_areValues_c1 F x0) 143 [] _ _ hc2 (h_p0_list_1.at hs) (fun x0 r w' hm_ hb => impl_areValues_c1_ok F x0 r w' hm_ ) en143) ?_; clear hf
  rintro _ w ⟨rfl, hs1⟩ a hf
  have hs : St [] W w [] := hs.ext hs1.below
  clear hs1
  refine sY hf hs rfl rfl rfl (Y_not rfl rfl) ?_; clear hf; intro a hf
  refine sY hf hs rfl rfl rfl (Y_assign rfl rfl) ?_; clear hf; intro a hf
  refine wpO_nil ?_
  obtain rfl := Option.some.inj hm
  refine wpL_ret (ret_tmp rfl hf rfl ?_)
  exact ⟨_, rfl, rfl, hs⟩

set_option maxRecDepth 100000 in
theorem impl_IsMatrix_c1_ok (F : Nat) (p0_row : List Int) (A_p0_row_1 : Option Addr) (n_p0_row_1 c_p0_row_1 : Nat) (hn_p0_row_1 : n_p0_row_1 = p0_row.length) (b_z0 : Nat) (z0 : List (List Int)) (A_z0_1 : Option Addr) (n_z0_1 c_z0_1 : Nat) (hn_z0_1 : n_z0_1 = z0.length) (r : Bool) (W : World) (hm : impl_IsMatrix_c1 F p0_row z0 = some r) (h_p0_row_1 : Rd W A_p0_row_1 (ints p0_row)) (h_z0_1 : RdM W A_z0_1 z0) (h_z0 : PB W b_z0 46 [.slice A_z0_1 n_z0_1 c_z0_1]) :
    Calls Try.prog 196 [.slice A_p0_row_1 n_p0_row_1 c_p0_row_1, .pointer (some ⟨b_z0, 0, none⟩)].toArray W fun e w' => ∃ v, e = .returned v ∧ v = .bool r ∧ St [] W w' [] := by
  subst hn_p0_row_1
  subst hn_z0_1
  unfold impl_IsMatrix_c1 at hm
  refine Calls.enter (N := 16) Try.func196 rfl rfl rfl (fun a hf => ?_)
  have hs := St.start W
  obtain ⟨w, hw_⟩ : ∃ w, w = W := ⟨W, rfl⟩
  clear hw_ w
  refine wpL_seq ?_
  refine wpL_region ?_
  refine sY hf hs rfl rfl rfl (Y_assign rfl rfl) ?_; clear hf; intro a hf
  refine wpO_nil ?_
  refine wpL_seq ?_
  obtain ⟨r14, hj15, hm⟩ := bind_some hm
  refine wpL_cut (fun a w => ∃ b13 : Bool, b13 = r14 ∧ Fr a 16 [(3, .bool b13)] ∧ St [] W w []) ?_ ?_
  · refine wpL_region ?_
    refine sY hf hs rfl rfl rfl (Y_move rfl rfl) ?_; clear hf; intro a hf
    refine sY hf hs rfl rfl rfl (Y_lenH rfl rfl el23 rfl) ?_; clear hf; intro a hf
    refine sY hf hs rfl rfl rfl (Y_load_pb rfl rfl h_z0 rfl ag46) ?_; clear hf; intro a hf
    obtain ⟨q16, hi17, hj15⟩ := bind_some hj15
    obtain ⟨hi17a, hi17b, hi17q⟩ := idx_some hi17
    obtain ⟨vs18, hv19, hr20⟩ := id h_z0_1
    obtain ⟨A21, c22, hv23, hR24⟩ := hr20 _ _ hi17q
    refine sY hf hs rfl rfl rfl (Y_index rfl rfl rfl el46 ti23 (Rd.isAt hv19 hv23) hi17a hi17b) ?_; clear hf; intro a hf
    refine sY hf hs rfl rfl rfl (Y_load_rd rfl rfl (fun w hs => hv19.at hs) (at1 hv23) ag23) ?_; clear hf; intro a hf
    refine sY hf hs rfl rfl rfl (Y_lenH rfl rfl el23 rfl) ?_; clear hf; intro a hf
    refine sY hf hs rfl rfl rfl (Y_neq rfl rfl rfl) ?_; clear hf; intro a hf
    refine sY hf hs rfl rfl rfl (Y_move rfl rfl) ?_; clear hf; intro a hf
    refine bsplit ((p0_row.length : Int) != (q16.length : Int)) (fun hb25 => ?_) (fun hb25 => ?_)
    · have hj15 := bif_t hj15 hb25
      refine sNo hf rfl rfl rfl (congrArg (fun b => some (Value.bool b)) hb25) rfl rfl rfl ?_; clear hf; intro a hf
      refine sNo hf rfl rfl rfl (congrArg (fun b => some (Value.bool b)) hb25) rfl rfl rfl ?_; clear hf; intro a hf
      refine sNo hf rfl rfl rfl (congrArg (fun b => some (Value.bool b)) hb25) rfl rfl rfl ?_; clear hf; intro a hf
      refine sY hf hs rfl rfl rfl (Y_pickT rfl (congrArg (fun b => some (Value.bool b)) hb25) rfl) ?_; clear hf; intro a hf
      refine sY hf hs rfl rfl rfl (Y_assign rfl rfl) ?_; clear hf; intro a hf
      refine wpO_nil ?_
      refine wpL_nil (then_normal ?_)
      exact ⟨true, Option.some.inj hj15, (FrD.pick hf.none hf rfl), hs⟩
    · have hj15 := bif_f hj15 hb25
      refine sYg hf hs rfl rfl rfl (congrArg (fun b => some (Value.bool b)) hb25) rfl rfl rfl (Y_move rfl rfl) ?_; clear hf; intro a hf
      obtain ⟨r26, hc27, hj15⟩ := bind_some hj15
      refine sCallg hf rfl rfl rfl (congrArg (fun b => some (Value.bool b)) hb25) rfl rfl rfl rfl (cap := []) rfl rfl en73 (impl_areValues_ok F p0_row A_p0_row_1 p0_row.length c_p0_row_1 rfl _ _ hc27 (h_p0_row_1.at hs)) ?_; clear hf
      rintro _ w ⟨rfl, hs1⟩ a hf
      have hs : St [] W w [] := hs.ext hs1.below
      clear hs1
      refine sYg hf hs rfl rfl rfl (congrArg (fun b => some (Value.bool b)) hb25) rfl rfl rfl (Y_not rfl rfl) ?_; clear hf; intro a hf
      refine sY hf hs rfl rfl rfl (Y_pickF rfl (congrArg (fun b => some (Value.bool b)) hb25) rfl) ?_; clear hf; intro a hf
      refine sY hf hs rfl rfl rfl (Y_assign rfl rfl) ?_; clear hf; intro a hf
      refine wpO_nil ?_
      refine wpL_nil (then_normal ?_)
      exact ⟨(!r26), Option.some.inj hj15, (FrD.pick hf.none hf rfl), hs⟩
  · rintro a w ⟨b13, hr_, hf, hs⟩
    subst hr_
    try dsimp only at hm
    obtain rfl := Option.some.inj hm
    refine wpL_ret (ret_tmp rfl hf rfl ?_)
    exact ⟨_, rfl, rfl, hs⟩

set_option maxRecDepth 100000 in
theorem slices_IndexFunc_sint64_ok (F : Nat) (p0_s : List (List Int)) (A_p0_s_1 : Option Addr) (n_p0_s_1 c_p0_s_1 : Nat) (hn_p0_s_1 : n_p0_s_1 = p0_s.length) (m_p1_f : (List Int) → Option Bool) (f_p1_f : FuncId) (k_p1_f : List Value) (r : Int) (W : World) (hm : slices_IndexFunc_sint64 F p0_s m_p1_f = some r) (h_p0_s_1 : RdM W A_p0_s_1 p0_s) (h_p1_f : ∀ (x0 : List Int) (Ax0_1 : Option Addr) (nx0_1 cx0_1 : Nat) (_hnx0_1 : nx0_1 = x0.length) (r : Bool) (w : World), m_p1_f x0 = some r → Below W.heap.size W w → Rd w Ax0_1 (ints x0) → Calls Try.prog f_p1_f (([.slice Ax0_1 nx0_1 cx0_1] : List Value) ++ k_p1_f).toArray w fun e w' => ∃ v, e = .returned v ∧ v = .bool r ∧ St [] w w' []) (e_p1_f : En Try.prog f_p1_f) :
    Calls Try.prog 198 [.slice A_p0_s_1 n_p0_s_1 c_p0_s_1, .func (.func f_p1_f) #[] k_p1_f.toArray].toArray W fun e w' => ∃ v, e = .returned v ∧ v = .int .i64 r ∧ St [] W w' [] := by
  subst hn_p0_s_1
  unfold slices_IndexFunc_sint64 at hm
  refine Calls.enter (N := 19) Try.func198 rfl rfl rfl (fun a hf => ?_)
  have hs := St.start W
  obtain ⟨w, hw_⟩ : ∃ w, w = W := ⟨W, rfl⟩
  clear hw_ w
  refine wpL_seq ?_
  refine wpL_region ?_
  refine sY hf hs rfl rfl rfl (Y_assign rfl rfl) ?_; clear hf; intro a hf
  refine wpO_nil ?_
  refine wpL_seq ?_
  refine wpL_seq ?_
  refine wpL_region ?_
  refine sY hf hs rfl rfl rfl (Y_move rfl rfl) ?_; clear hf; intro a hf
  refine sY hf hs rfl rfl rfl (Y_lenH rfl rfl el46 rfl) ?_; clear hf; intro a hf
  refine sY hf hs rfl rfl rfl (Y_move rfl rfl) ?_; clear hf; intro a hf
  refine wpO_nil ?_
  obtain ⟨r42, hl43, hm⟩ := bind_some hm
  refine wpL_block (fun a w => Sum.inr () = r42 ∧ Fr a 19 [] ∧ St [] W w []) ?_ ?_
  · refine wpL_loop (fun n a w => ∃ x28 : Int, slices_IndexFunc_sint64_L1 F p0_s m_p1_f n x28 = some r42 ∧ Fr a 19 [(0, .slice A_p0_s_1 p0_s.length c_p0_s_1), (1, .func (.func f_p1_f) #[] k_p1_f.toArray), (7, .int .i64 (p0_s.length : Int)), (8, .int .i64 x28)] ∧ St [] W w []) F ?_ ?_ ?_
    · exact ⟨0, hl43, (FrD.pick (FrD.pick (FrD.pick (FrD.pick hf.none hf rfl) hf rfl) hf rfl) hf rfl), hs⟩
    · rintro a w ⟨x28, h0_, -, -⟩; simp [slices_IndexFunc_sint64_L1] at h0_
    · rintro n45 a w ⟨x28, hm44, hf, hs⟩
      rw [slices_IndexFunc_sint64_L1] at hm44
      refine wpL_seq ?_
      refine wpL_region ?_
      refine sY hf hs rfl rfl rfl (Y_lss rfl rfl rfl) ?_; clear hf; intro a hf
      refine wpO_nil ?_
      refine wpL_seq ?_
      refine wpL_cond hf rfl (fun hb46 => ?_) (fun hb46 => ?_)
      · have hm44 := bif_t hm44 hb46
        refine wpL_skip ?_
        refine wpL_seq ?_
        refine wpL_block0 ?_
        refine wpL_seq ?_
        refine wpL_region ?_
        refine sY hf hs rfl rfl rfl (Y_move rfl rfl) ?_; clear hf; intro a hf
        refine sY hf hs rfl rfl rfl (Y_assign rfl rfl) ?_; clear hf; intro a hf
        refine wpO_nil ?_
        refine wpL_seq ?_
        refine wpL_region ?_
        refine sY hf hs rfl rfl rfl (Y_move rfl rfl) ?_; clear hf; intro a hf
        refine sY hf hs rfl rfl rfl (Y_move rfl rfl) ?_; clear hf; intro a hf
        refine sY hf hs rfl rfl rfl (Y_move rfl rfl) ?_; clear hf; intro a hf
        obtain ⟨q47, hi48, hm44⟩ := bind_some hm44
        obtain ⟨hi48a, hi48b, hi48q⟩ := idx_some hi48
        obtain ⟨vs49, hv50, hr51⟩ := id h_p0_s_1
        obtain ⟨A52, c53, hv54, hR55⟩ := hr51 _ _ hi48q
        refine sY hf hs rfl rfl rfl (Y_index rfl rfl rfl el46 ti23 (Rd.isAt hv50 hv54) hi48a hi48b) ?_; clear hf; intro a hf
        refine sY hf hs rfl rfl rfl (Y_load_rd rfl rfl (fun w hs => hv50.at hs) (at1 hv54) ag23) ?_; clear hf; intro a hf
        obtain ⟨r56, hc57, hm44⟩ := bind_some hm44
        refine sCall hf rfl rfl rfl rfl (cap := k_p1_f) rfl rfl e_p1_f (h_p1_f q47 A52 q47.length c53 rfl _ _ hc57 hs.below (hR55.at hs)) ?_; clear hf; rintro _ w ⟨rfl, hs1⟩ a hf; have hs := hs.ext hs1.below; clear hs1
        refine wpO_nil ?_
        refine wpL_cond hf rfl (fun hb58 => ?_) (fun hb58 => ?_)
        · have hm44 := bif_t hm44 hb58
          refine wpL_seq ?_
          refine wpL_region ?_
          refine sY hf hs rfl rfl rfl (Y_move rfl rfl) ?_; clear hf; intro a hf
          refine sY hf hs rfl rfl rfl (Y_assign rfl rfl) ?_; clear hf; intro a hf
          refine wpO_nil ?_
          obtain rfl := Option.some.inj hm44
          try dsimp only at hm
          obtain rfl := Option.some.inj hm
          refine wpL_ret (Qb_ret (Ql_ret (Qb_ret (ret_tmp rfl hf rfl ?_))))
          exact ⟨_, rfl, rfl, hs⟩
        · have hm44 := bif_f hm44 hb58
          refine wpL_skip ?_
          refine wpL_nil (Qb_normal ?_)
          refine wpL_region ?_
          refine sY hf hs rfl rfl rfl (Y_add rfl rfl rfl) ?_; clear hf; intro a hf
          refine sY hf hs rfl rfl rfl (Y_move rfl rfl) ?_; clear hf; intro a hf
          refine wpO_nil ?_
          refine wpL_nil (Ql_normal ?_)
          exact ⟨(IntKind.i64.wrap (x28 + 1)), hm44, (FrD.pick (FrD.pick (FrD.pick (FrD.pick hf.none hf rfl) hf rfl) hf rfl) hf rfl), hs⟩
      · have hm44 := bif_f hm44 hb46
        refine wpL_exit (Ql_exit (Qb_exit ?_))
        exact ⟨Option.some.inj hm44, hf.none, hs⟩
  · rintro a w ⟨hr_, hf, hs⟩
    subst hr_
    try dsimp only at hm
    refine wpL_seq ?_
    refine wpL_region ?_
    refine sY hf hs rfl rfl rfl (Y_assign rfl rfl) ?_; clear hf; intro a hf
    refine wpO_nil ?_
    obtain rfl := Option.some.inj hm
    refine wpL_ret (ret_tmp rfl hf rfl ?_)
    exact ⟨_, rfl, rfl, hs⟩

set_option maxRecDepth 100000 in
theorem slices_ContainsFunc_sint64_ok (F : Nat) (p0_s : List (List Int)) (A_p0_s_1 : Option Addr) (n_p0_s_1 c_p0_s_1 : Nat) (hn_p0_s_1 : n_p0_s_1 = p0_s.length) (m_p1_f : (List Int) → Option Bool) (f_p1_f : FuncId) (k_p1_f : List Value) (r : Bool) (W : World) (hm : slices_ContainsFunc_sint64 F p0_s m_p1_f = some r) (h_p0_s_1 : RdM W A_p0_s_1 p0_s) (h_p1_f : ∀ (x0 : List Int) (Ax0_1 : Option Addr) (nx0_1 cx0_1 : Nat) (_hnx0_1 : nx0_1 = x0.length) (r : Bool) (w : World), m_p1_f x0 = some r → Below W.heap.size W w → Rd w Ax0_1 (ints x0) → Calls Try.prog f_p1_f (([.slice Ax0_1 nx0_1 cx0_1] : List Value) ++ k_p1_f).toArray w fun e w' => ∃ v, e = .returned v ∧ v = .bool r ∧ St [] w w' []) (e_p1_f : En Try.prog f_p1_f) :
    Calls Try.prog 191 [.slice A_p0_s_1 n_p0_s_1 c_p0_s_1, .func (.func f_p1_f) #[] k_p1_f.toArray].toArray W fun e w' => ∃ v, e = .returned v ∧ v = .bool r ∧ St [] W w' [] := by
  subst hn_p0_s_1
  unfold slices_ContainsFunc_sint64 at hm
  refine Calls.enter (N := 9) Try.func191 rfl rfl rfl (fun a hf => ?_)
  have hs := St.start W
  obtain ⟨w, hw_⟩ : ∃ w, w = W := ⟨W, rfl⟩
  clear hw_ w
  refine wpL_seq ?_
  refine wpL_region ?_
  refine sY hf hs rfl rfl rfl (Y_assign rfl rfl) ?_; clear hf; intro a hf
  refine wpO_nil ?_
  refine wpL_seq ?_
  refine wpL_region ?_
  refine sY hf hs rfl rfl rfl (Y_move rfl rfl) ?_; clear hf; intro a hf
  refine sY hf hs rfl rfl rfl (Y_move rfl rfl) ?_; clear hf; intro a hf
  obtain ⟨r1, hc2, hm⟩ := bind_some hm
  refine sCall hf rfl rfl rfl rfl (cap := []) rfl rfl en198 (slices_IndexFunc_sint64_ok F p0_s A_p0_s_1 p0_s.length c_p0_s_1 rfl m_p1_f f_p1_f k_p1_f _ _ hc2 (h_p0_s_1.at hs) (fun x0 A0_0 n0_0 c0_0 h0_0 r w' hm_ hb r0_0 => h_p1_f x0 A0_0 n0_0 c0_0 h0_0 r w' hm_ (hs.below.trans (hb.mono hs.below.size)) r0_0) e_p1_f) ?_; clear hf
  rintro _ w ⟨rfl, hs1⟩ a hf
  have hs : St [] W w [] := hs.ext hs1.below
  clear hs1
  refine sY hf hs rfl rfl rfl (Y_geq rfl rfl rfl) ?_; clear hf; intro a hf
  refine sY hf hs rfl rfl rfl (Y_assign rfl rfl) ?_; clear hf; intro a hf
  refine wpO_nil ?_
  obtain rfl := Option.some.inj hm
  refine wpL_ret (ret_tmp rfl hf rfl ?_)
  exact ⟨_, rfl, rfl, hs⟩

set_option maxRecDepth 100000 in
theorem impl_IsMatrix_ok (F : Nat) (p0_a : List (List Int)) (A_p0_a_1 : Option Addr) (n_p0_a_1 c_p0_a_1 : Nat) (hn_p0_a_1 : n_p0_a_1 = p0_a.length) (r : Bool) (W : World) (hm : impl_IsMatrix F p0_a = some r) (h_p0_a_1 : RdM W A_p0_a_1 p0_a) :
    Calls Try.prog 182 [.slice A_p0_a_1 n_p0_a_1 c_p0_a_1].toArray W fun e w' => ∃ v, e = .returned v ∧ v = .bool r ∧ St [] W w' [] := by
  subst hn_p0_a_1
  unfold impl_IsMatrix at hm
  refine Calls.enter (N := 19) Try.func182 rfl rfl rfl (fun a hf => ?_)
  have hs := St.start W
  obtain ⟨w, hw_⟩ : ∃ w, w = W := ⟨W, rfl⟩
  clear hw_ w
  refine wpL_seq ?_
  refine wpL_region ?_
  refine sBox hf hs rfl rfl rfl rfl rfl (cs := [.slice A_p0_a_1 p0_a.length c_p0_a_1]) rfl ?_; clear hf hs; intro a w b1 hs hf
  have hs : St [] W w [.blk b1 46 [.slice A_p0_a_1 p0_a.length c_p0_a_1]] := hs
  refine sY hf hs rfl rfl rfl (Y_assign rfl rfl) ?_; clear hf; intro a hf
  refine wpO_nil ?_
  refine wpL_seq ?_
  refine wpL_seq ?_
  obtain ⟨r17, hj18, hm⟩ := bind_some hm
  refine wpL_cut (fun a w => ∃ b16 : Bool, b16 = r17 ∧ Fr a 19 [(1, .pointer (some ⟨b1, 0, none⟩)), (14, .bool b16)] ∧ St [] W w [.blk b1 46 [.slice A_p0_a_1 p0_a.length c_p0_a_1]]) ?_ ?_
  · refine wpL_region ?_
    refine sY hf hs rfl rfl rfl (Y_load_blk rfl rfl (i := 0) rfl rfl ag46) ?_; clear hf; intro a hf
    refine sY hf hs rfl rfl rfl (Y_lenH rfl rfl el46 rfl) ?_; clear hf; intro a hf
    obtain ⟨r19, hc20, hj18⟩ := bind_some hj18
    refine sCall hf rfl rfl rfl rfl (cap := []) rfl rfl en69 (impl_within_ok F (p0_a.length : Int) 1 10 _ _ hc20) ?_; clear hf
    rintro _ w ⟨rfl, hs1⟩ a hf
    have hs : St [] W w [.blk b1 46 [.slice A_p0_a_1 p0_a.length c_p0_a_1]] := hs.ext hs1.below
    clear hs1
    refine sY hf hs rfl rfl rfl (Y_not rfl rfl) ?_; clear hf; intro a hf
    refine sY hf hs rfl rfl rfl (Y_move rfl rfl) ?_; clear hf; intro a hf
    refine bsplit (!r19) (fun hb21 => ?_) (fun hb21 => ?_)
    · have hj18 := bif_t hj18 hb21
      refine sNo hf rfl rfl rfl (congrArg (fun b => some (Value.bool b)) hb21) rfl rfl rfl ?_; clear hf; intro a hf
      refine sNo hf rfl rfl rfl (congrArg (fun b => some (Value.bool b)) hb21) rfl rfl rfl ?_; clear hf; intro a hf
      refine sNo hf rfl rfl rfl (congrArg (fun b => some (Value.bool b)) hb21) rfl rfl rfl ?_; clear hf; intro a hf
      refine sNo hf rfl rfl rfl (congrArg (fun b => some (Value.bool b)) hb21) rfl rfl rfl ?_; clear hf; intro a hf
      refine sNo hf rfl rfl rfl (congrArg (fun b => some (Value.bool b)) hb21) rfl rfl rfl ?_; clear hf; intro a hf
      refine sNo hf rfl rfl rfl (congrArg (fun b => some (Value.bool b)) hb21) rfl rfl rfl ?_; clear hf; intro a hf
      refine sY hf hs rfl rfl rfl (Y_pickT rfl (congrArg (fun b => some (Value.bool b)) hb21) rfl) ?_; clear hf; intro a hf
      refine wpO_nil ?_
      refine wpL_nil (then_normal ?_)
      exact ⟨true, Option.some.inj hj18, (FrD.pick (FrD.pick hf.none hf rfl) hf rfl), hs⟩
    · have hj18 := bif_f hj18 hb21
      refine sYg hf hs rfl rfl rfl (congrArg (fun b => some (Value.bool b)) hb21) rfl rfl rfl (Y_load_blk rfl rfl (i := 0) rfl rfl ag46) ?_; clear hf; intro a hf
      obtain ⟨q22, hi23, hj18⟩ := bind_some hj18
      obtain ⟨hi23a, hi23b, hi23q⟩ := idx_some hi23
      obtain ⟨vs24, hv25, hr26⟩ := id h_p0_a_1
      obtain ⟨A27, c28, hv29, hR30⟩ := hr26 _ _ hi23q
      refine sYg hf hs rfl rfl rfl (congrArg (fun b => some (Value.bool b)) hb21) rfl rfl rfl (Y_index rfl rfl rfl el46 ti23 (Rd.isAt hv25 hv29) hi23a hi23b) ?_; clear hf; intro a hf
      refine sYg hf hs rfl rfl rfl (congrArg (fun b => some (Value.bool b)) hb21) rfl rfl rfl (Y_load_rd rfl rfl (fun w hs => hv25.at hs) (at1 hv29) ag23) ?_; clear hf; intro a hf
      refine sYg hf hs rfl rfl rfl (congrArg (fun b => some (Value.bool b)) hb21) rfl rfl rfl (Y_lenH rfl rfl el23 rfl) ?_; clear hf; intro a hf
      obtain ⟨r31, hc32, hj18⟩ := bind_some hj18
      refine sCallg hf rfl rfl rfl (congrArg (fun b => some (Value.bool b)) hb21) rfl rfl rfl rfl (cap := []) rfl rfl en69 (impl_within_ok F (q22.length : Int) 1 10 _ _ hc32) ?_; clear hf
      rintro _ w ⟨rfl, hs1⟩ a hf
      have hs : St [] W w [.blk b1 46 [.slice A_p0_a_1 p0_a.length c_p0_a_1]] := hs.ext hs1.below
      clear hs1
      refine sYg hf hs rfl rfl rfl (congrArg (fun b => some (Value.bool b)) hb21) rfl rfl rfl (Y_not rfl rfl) ?_; clear hf; intro a hf
      refine sY hf hs rfl rfl rfl (Y_pickF rfl (congrArg (fun b => some (Value.bool b)) hb21) rfl) ?_; clear hf; intro a hf
      refine wpO_nil ?_
      refine wpL_nil (then_normal ?_)
      exact ⟨(!r31), Option.some.inj hj18, (FrD.pick (FrD.pick hf.none hf rfl) hf rfl), hs⟩
  · rintro a w ⟨b16, hr_, hf, hs⟩
    subst hr_
    try dsimp only at hm
    refine wpL_cond hf rfl (fun hb33 => ?_) (fun hb33 => ?_)
    · have hm := bif_t hm hb33
      refine wpL_seq ?_
      refine wpL_region ?_
      refine sY hf hs rfl rfl rfl (Y_assign rfl rfl) ?_; clear hf; intro a hf
      refine wpO_nil ?_
      obtain rfl := Option.some.inj hm
      refine wpL_ret (ret_tmp rfl hf rfl ?_)
      exact ⟨_, rfl, rfl, hs.sel [] (by decide)⟩
    · have hm := bif_f hm hb33
      refine wpL_skip ?_
      refine wpL_seq ?_
      refine wpL_region ?_
      refine sY hf hs rfl rfl rfl (Y_load_blk rfl rfl (i := 0) rfl rfl ag46) ?_; clear hf; intro a hf
      refine sY hf hs rfl rfl rfl (Y_makeFunc (us := []) (vs := [.pointer (some ⟨b1, 0, none⟩)]) rfl rfl rfl) ?_; clear hf; intro a hf
      obtain ⟨r34, hc35, hm⟩ := bind_some hm
      refine sCall hf rfl rfl rfl rfl (cap := []) rfl rfl en191 (slices_ContainsFunc_sint64_ok F p0_a A_p0_a_1 p0_a.length c_p0_a_1 rfl (fun x0 => impl_IsMatrix_c1 F x0 p0_a) 196 ([.pointer (some ⟨b1, 0, none⟩)]) _ _ hc35 (h_p0_a_1.at hs) (fun x0 Ax00 nx00 cx00 hx00 r w' hm_ hb rx00 => impl_IsMatrix_c1_ok F x0 Ax00 nx00 cx00 hx00 b1 p0_a A_p0_a_1 p0_a.length c_p0_a_1 rfl r w' hm_ rx00 ((h_p0_a_1.at hs).below hb (Nat.le_refl _)) ((hs.pb (i := 0) rfl).below hb (Nat.le_refl _))) en196) ?_; clear hf
      rintro _ w ⟨rfl, hs1⟩ a hf
      have hs : St [] W w [.blk b1 46 [.slice A_p0_a_1 p0_a.length c_p0_a_1]] := hs.ext hs1.below
      clear hs1
      refine sY hf hs rfl rfl rfl (Y_not rfl rfl) ?_; clear hf; intro a hf
      refine sY hf hs rfl rfl rfl (Y_assign rfl rfl) ?_; clear hf; intro a hf
      refine wpO_nil ?_
      obtain rfl := Option.some.inj hm
      refine wpL_ret (ret_tmp rfl hf rfl ?_)
      exact ⟨_, rfl, rfl, hs.sel [] (by decide)⟩

set_option maxRecDepth 100000 in
theorem impl_isSquare_ok (F : Nat) (p0_a : List (List Int)) (A_p0_a_1 : Option Addr) (n_p0_a_1 c_p0_a_1 : Nat) (hn_p0_a_1 : n_p0_a_1 = p0_a.length) (r : Bool) (W : World) (hm : impl_isSquare F p0_a = some r) (h_p0_a_1 : RdM W A_p0_a_1 p0_a) :
    Calls Try.prog 154 [.slice A_p0_a_1 n_p0_a_1 c_p0_a_1].toArray W fun e w' => ∃ v, e = .returned v ∧ v = .bool r ∧ St [] W w' [] := by
  subst hn_p0_a_1
  unfold impl_isSquare at hm
  refine Calls.enter (N := 14) Try.func154 rfl rfl rfl (fun a hf => ?_)
  have hs := St.start W
  obtain ⟨w, hw_⟩ : ∃ w, w = W := ⟨W, rfl⟩
  clear hw_ w
  refine wpL_seq ?_
  refine wpL_region ?_
  refine sY hf hs rfl rfl rfl (Y_assign rfl rfl) ?_; clear hf; intro a hf
  refine wpO_nil ?_
  refine wpL_seq ?_
  obtain ⟨r14, hj15, hm⟩ := bind_some hm
  refine wpL_cut (fun a w => ∃ b13 : Bool, b13 = r14 ∧ Fr a 14 [(2, .bool b13)] ∧ St [] W w []) ?_ ?_
  · refine wpL_region ?_
    refine sY hf hs rfl rfl rfl (Y_move rfl rfl) ?_; clear hf; intro a hf
    obtain ⟨r16, hc17, hj15⟩ := bind_some hj15
    refine sCall hf rfl rfl rfl rfl (cap := []) rfl rfl en182 (impl_IsMatrix_ok F p0_a A_p0_a_1 p0_a.length c_p0_a_1 rfl _ _ hc17 (h_p0_a_1.at hs)) ?_; clear hf
    rintro _ w ⟨rfl, hs1⟩ a hf
    have hs : St [] W w [] := hs.ext hs1.below
    clear hs1
    refine sY hf hs rfl rfl rfl (Y_move rfl rfl) ?_; clear hf; intro a hf
    refine bsplit r16 (fun hb18 => ?_) (fun hb18 => ?_)
    · have hj15 := bif_t hj15 hb18
      refine sYg hf hs rfl rfl rfl (congrArg (fun b => some (Value.bool b)) hb18) rfl rfl rfl (Y_move rfl rfl) ?_; clear hf; intro a hf
      refine sYg hf hs rfl rfl rfl (congrArg (fun b => some (Value.bool b)) hb18) rfl rfl rfl (Y_lenH rfl rfl el46 rfl) ?_; clear hf; intro a hf
      refine sYg hf hs rfl rfl rfl (congrArg (fun b => some (Value.bool b)) hb18) rfl rfl rfl (Y_move rfl rfl) ?_; clear hf; intro a hf
      obtain ⟨q19, hi20, hj15⟩ := bind_some hj15
      obtain ⟨hi20a, hi20b, hi20q⟩ := idx_some hi20
      obtain ⟨vs21, hv22, hr23⟩ := id h_p0_a_1
      obtain ⟨A24, c25, hv26, hR27⟩ := hr23 _ _ hi20q
      refine sYg hf hs rfl rfl rfl (congrArg (fun b => some (Value.bool b)) hb18) rfl rfl rfl (Y_index rfl rfl rfl el46 ti23 (Rd.isAt hv22 hv26) hi20a hi20b) ?_; clear hf; intro a hf
      refine sYg hf hs rfl rfl rfl (congrArg (fun b => some (Value.bool b)) hb18) rfl rfl rfl (Y_load_rd rfl rfl (fun w hs => hv22.at hs) (at1 hv26) ag23) ?_; clear hf; intro a hf
      refine sYg hf hs rfl rfl rfl (congrArg (fun b => some (Value.bool b)) hb18) rfl rfl rfl (Y_lenH rfl rfl el23 rfl) ?_; clear hf; intro a hf
      refine sYg hf hs rfl rfl rfl (congrArg (fun b => some (Value.bool b)) hb18) rfl rfl rfl (Y_eql rfl rfl rfl) ?_; clear hf; intro a hf
      refine sY hf hs rfl rfl rfl (Y_pickT rfl (congrArg (fun b => some (Value.bool b)) hb18) rfl) ?_; clear hf; intro a hf
      refine sY hf hs rfl rfl rfl (Y_assign rfl rfl) ?_; clear hf; intro a hf
      refine wpO_nil ?_
      refine wpL_nil (then_normal ?_)
      exact ⟨((p0_a.length : Int) == (q19.length : Int)), Option.some.inj hj15, (FrD.pick hf.none hf rfl), hs⟩
    · have hj15 := bif_f hj15 hb18
      refine sNo hf rfl rfl rfl (congrArg (fun b => some (Value.bool b)) hb18) rfl rfl rfl ?_; clear hf; intro a hf
      refine sNo hf rfl rfl rfl (congrArg (fun b => some (Value.bool b)) hb18) rfl rfl rfl ?_; clear hf; intro a hf
      refine sNo hf rfl rfl rfl (congrArg (fun b => some (Value.bool b)) hb18) rfl rfl rfl ?_; clear hf; intro a hf
      refine sNo hf rfl rfl rfl (congrArg (fun b => some (Value.bool b)) hb18) rfl rfl rfl ?_; clear hf; intro a hf
      refine sNo hf rfl rfl rfl (congrArg (fun b => some (Value.bool b)) hb18) rfl rfl rfl ?_; clear hf; intro a hf
      refine sNo hf rfl rfl rfl (congrArg (fun b => some (Value.bool b)) hb18) rfl rfl rfl ?_; clear hf; intro a hf
      refine sNo hf rfl rfl rfl (congrArg (fun b => some (Value.bool b)) hb18) rfl rfl rfl ?_; clear hf; intro a hf
      refine sY hf hs rfl rfl rfl (Y_pickF rfl (congrArg (fun b => some (Value.bool b)) hb18) rfl) ?_; clear hf; intro a hf
      refine sY hf hs rfl rfl rfl (Y_assign rfl rfl) ?_; clear hf; intro a hf
      refine wpO_nil ?_
      refine wpL_nil (then_normal ?_)
      exact ⟨false, Option.some.inj hj15, (FrD.pick hf.none hf rfl), hs⟩
  · rintro a w ⟨b13, hr_, hf, hs⟩
    subst hr_
    try dsimp only at hm
    obtain rfl := Option.some.inj hm
    refine wpL_ret (ret_tmp rfl hf rfl ?_)
    exact ⟨_, rfl, rfl, hs⟩

set_option maxRecDepth 100000 in
theorem impl_isVector_ok (F : Nat) (p0_x : List Int) (A_p0_x_1 : Option Addr) (n_p0_x_1 c_p0_x_1 : Nat) (hn_p0_x_1 : n_p0_x_1 = p0_x.length) (r : Bool) (W : World) (hm : impl_isVector F p0_x = some r) (h_p0_x_1 : Rd W A_p0_x_1 (ints p0_x)) :
    Calls Try.prog 139 [.slice A_p0_x_1 n_p0_x_1 c_p0_x_1].toArray W fun e w' => ∃ v, e = .returned v ∧ v = .bool r ∧ St [] W w' [] := by
  subst hn_p0_x_1
  unfold impl_isVector at hm
  refine Calls.enter (N := 10) Try.func139 rfl rfl rfl (fun a hf => ?_)
  have hs := St.start W
  obtain ⟨w, hw_⟩ : ∃ w, w = W := ⟨W, rfl⟩
  clear hw_ w
  refine wpL_seq ?_
  refine wpL_region ?_
  refine sY hf hs rfl rfl rfl (Y_assign rfl rfl) ?_; clear hf; intro a hf
  refine wpO_nil ?_
  refine wpL_seq ?_
  obtain ⟨r7, hj8, hm⟩ := bind_some hm
  refine wpL_cut (fun a w => ∃ b6 : Bool, b6 = r7 ∧ Fr a 10 [(2, .bool b6)] ∧ St [] W w []) ?_ ?_
  · refine wpL_region ?_
    refine sY hf hs rfl rfl rfl (Y_move rfl rfl) ?_; clear hf; intro a hf
    refine sY hf hs rfl rfl rfl (Y_lenH rfl rfl el23 rfl) ?_; clear hf; intro a hf
    obtain ⟨r9, hc10, hj8⟩ := bind_some hj8
    refine sCall hf rfl rfl rfl rfl (cap := []) rfl rfl en69 (impl_within_ok F (p0_x.length : Int) 1 10 _ _ hc10) ?_; clear hf
    rintro _ w ⟨rfl, hs1⟩ a hf
    have hs : St [] W w [] := hs.ext hs1.below
    clear hs1
    refine sY hf hs rfl rfl rfl (Y_move rfl rfl) ?_; clear hf; intro a hf
    refine bsplit r9 (fun hb11 => ?_) (fun hb11 => ?_)
    · have hj8 := bif_t hj8 hb11
      refine sYg hf hs rfl rfl rfl (congrArg (fun b => some (Value.bool b)) hb11) rfl rfl rfl (Y_move rfl rfl) ?_; clear hf; intro a hf
      obtain ⟨r12, hc13, hj8⟩ := bind_some hj8
      refine sCallg hf rfl rfl rfl (congrArg (fun b => some (Value.bool b)) hb11) rfl rfl rfl rfl (cap := []) rfl rfl en73 (impl_areValues_ok F p0_x A_p0_x_1 p0_x.length c_p0_x_1 rfl _ _ hc13 (h_p0_x_1.at hs)) ?_; clear hf
      rintro _ w ⟨rfl, hs1⟩ a hf
      have hs : St [] W w [] := hs.ext hs1.below
      clear hs1
      refine sY hf hs rfl rfl rfl (Y_pickT rfl (congrArg (fun b => some (Value.bool b)) hb11) rfl) ?_; clear hf; intro a hf
      refine sY hf hs rfl rfl rfl (Y_assign rfl rfl) ?_; clear hf; intro a hf
      refine wpO_nil ?_
      refine wpL_nil (then_normal ?_)
      exact ⟨r12, Option.some.inj hj8, (FrD.pick hf.none hf rfl), hs⟩
    · have hj8 := bif_f hj8 hb11
      refine sNo hf rfl rfl rfl (congrArg (fun b => some (Value.bool b)) hb11) rfl rfl rfl ?_; clear hf; intro a hf
      refine sNo hf rfl rfl rfl (congrArg (fun b => some (Value.bool b)) hb11) rfl rfl rfl ?_; clear hf; intro a hf
      refine sY hf hs rfl rfl rfl (Y_pickF rfl (congrArg (fun b => some (Value.bool b)) hb11) rfl) ?_; clear hf; intro a hf
      refine sY hf hs rfl rfl rfl (Y_assign rfl rfl) ?_; clear hf; intro a hf
      refine wpO_nil ?_
      refine wpL_nil (then_normal ?_)
      exact ⟨false, Option.some.inj hj8, (FrD.pick hf.none hf rfl), hs⟩
  · rintro a w ⟨b6, hr_, hf, hs⟩
    subst hr_
    try dsimp only at hm
    obtain rfl := Option.some.inj hm
    refine wpL_ret (ret_tmp rfl hf rfl ?_)
    exact ⟨_, rfl, rfl, hs⟩

end Go.Proofs.Ytpmebacdmilecaa
