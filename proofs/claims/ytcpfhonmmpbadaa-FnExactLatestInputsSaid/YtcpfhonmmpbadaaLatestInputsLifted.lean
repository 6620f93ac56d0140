/- The functions do what their models say. -/
import Derived.Test.YtcpfhonmmpbadaaLatestInputsLifted1
import Derived.Test.YtcpfhonmmpbadaaRows
namespace Go.Proofs.Ytcpfhonmmpbadaa
open Go.RowKit

set_option maxRecDepth 100000 in
theorem impl_IsSystem_ok (F : Nat) (p0_s : GSystem) (A_p0_s_1 : Option Addr) (n_p0_s_1 c_p0_s_1 : Nat) (hn_p0_s_1 : n_p0_s_1 = p0_s.A.length) (A_p0_s_2 : Option Addr) (n_p0_s_2 c_p0_s_2 : Nat) (hn_p0_s_2 : n_p0_s_2 = p0_s.B.length) (A_p0_s_3 : Option Addr) (n_p0_s_3 c_p0_s_3 : Nat) (hn_p0_s_3 : n_p0_s_3 = p0_s.C.length) (r : Bool) (W : World) (hm : impl_IsSystem F p0_s = some r) (h_p0_s_1 : RdM W A_p0_s_1 p0_s.A) (h_p0_s_2 : Rd W A_p0_s_2 (ints p0_s.B)) (h_p0_s_3 : Rd W A_p0_s_3 (ints p0_s.C)) :
    Calls Try.prog 68 [.agg #[.slice A_p0_s_1 n_p0_s_1 c_p0_s_1, .slice A_p0_s_2 n_p0_s_2 c_p0_s_2, .slice A_p0_s_3 n_p0_s_3 c_p0_s_3]].toArray W fun e w' => ∃ v, e = .returned v ∧ v = .bool r ∧ St [] W w' [] := by
  subst hn_p0_s_1
  subst hn_p0_s_2
  subst hn_p0_s_3
  unfold impl_IsSystem at hm
  refine Calls.enter (N := 34) Try.func68 rfl rfl rfl (fun a hf => ?_)
  have hs := St.start W
  obtain ⟨w, hw_⟩ : ∃ w, w = W := ⟨W, rfl⟩
  clear hw_ w
  refine wpL_seq ?_
  refine wpL_region ?_
  refine sBox hf hs rfl rfl rfl rfl rfl (cs := [.slice A_p0_s_1 p0_s.A.length c_p0_s_1, .slice A_p0_s_2 p0_s.B.length c_p0_s_2, .slice A_p0_s_3 p0_s.C.length c_p0_s_3]) rfl ?_; clear hf hs; intro a w b1 hs hf
  have hs : St [] W w [.blk b1 29 [.slice A_p0_s_1 p0_s.A.length c_p0_s_1, .slice A_p0_s_2 p0_s.B.length c_p0_s_2, .slice A_p0_s_3 p0_s.C.length c_p0_s_3]] := hs
  refine sY hf hs rfl rfl rfl (Y_assign rfl rfl) ?_; clear hf; intro a hf
  refine wpO_nil ?_
  refine wpL_seq ?_
  obtain ⟨r13, hj14, hm⟩ := bind_some hm
  refine wpL_cut (fun a w => ∃ b12 : Bool, b12 = r13 ∧ Fr a 34 [(2, .bool b12)] ∧ St [] W w []) ?_ ?_
  · refine wpL_region ?_
    refine sY hf hs rfl rfl rfl (Y_fieldAddr rfl rfl fo29_0) ?_; clear hf; intro a hf
    refine sY hf hs rfl rfl rfl (Y_load_blk rfl rfl (i := 0) rfl rfl ag22) ?_; clear hf; intro a hf
    obtain ⟨r15, hc16, hj14⟩ := bind_some hj14
    refine sCall hf rfl rfl rfl rfl (cap := []) rfl rfl en136 (impl_isSquare_ok F p0_s.A A_p0_s_1 p0_s.A.length c_p0_s_1 rfl _ _ hc16 (h_p0_s_1.at hs)) ?_; clear hf
    rintro _ w ⟨rfl, hs1⟩ a hf
    have hs : St [] W w [.blk b1 29 [.slice A_p0_s_1 p0_s.A.length c_p0_s_1, .slice A_p0_s_2 p0_s.B.length c_p0_s_2, .slice A_p0_s_3 p0_s.C.length c_p0_s_3]] := hs.ext hs1.below
    clear hs1
    refine sY hf hs rfl rfl rfl (Y_move rfl rfl) ?_; clear hf; intro a hf
    refine bsplit r15 (fun hb17 => ?_) (fun hb17 => ?_)
    · have hj14 := bif_t hj14 hb17
      refine sYg hf hs rfl rfl rfl (congrArg (fun b => some (Value.bool b)) hb17) rfl rfl rfl (Y_fieldAddr rfl rfl fo29_1) ?_; clear hf; intro a hf
      refine sYg hf hs rfl rfl rfl (congrArg (fun b => some (Value.bool b)) hb17) rfl rfl rfl (Y_load_blk rfl rfl (i := 0) rfl rfl ag23) ?_; clear hf; intro a hf
      obtain ⟨r18, hc19, hj14⟩ := bind_some hj14
      refine sCallg hf rfl rfl rfl (congrArg (fun b => some (Value.bool b)) hb17) rfl rfl rfl rfl (cap := []) rfl rfl en137 (impl_isVector_ok F p0_s.B A_p0_s_2 p0_s.B.length c_p0_s_2 rfl _ _ hc19 (h_p0_s_2.at hs)) ?_; clear hf
      rintro _ w ⟨rfl, hs1⟩ a hf
      have hs : St [] W w [.blk b1 29 [.slice A_p0_s_1 p0_s.A.length c_p0_s_1, .slice A_p0_s_2 p0_s.B.length c_p0_s_2, .slice A_p0_s_3 p0_s.C.length c_p0_s_3]] := hs.ext hs1.below
      clear hs1
      refine sY hf hs rfl rfl rfl (Y_pickT rfl (congrArg (fun b => some (Value.bool b)) hb17) rfl) ?_; clear hf; intro a hf
      refine sY hf hs rfl rfl rfl (Y_move rfl rfl) ?_; clear hf; intro a hf
      refine bsplit r18 (fun hb20 => ?_) (fun hb20 => ?_)
      · have hj14 := bif_t hj14 hb20
        refine sYg hf hs rfl rfl rfl (congrArg (fun b => some (Value.bool b)) hb20) rfl rfl rfl (Y_fieldAddr rfl rfl fo29_2) ?_; clear hf; intro a hf
        refine sYg hf hs rfl rfl rfl (congrArg (fun b => some (Value.bool b)) hb20) rfl rfl rfl (Y_load_blk rfl rfl (i := 0) rfl rfl ag23) ?_; clear hf; intro a hf
        obtain ⟨r21, hc22, hj14⟩ := bind_some hj14
        refine sCallg hf rfl rfl rfl (congrArg (fun b => some (Value.bool b)) hb20) rfl rfl rfl rfl (cap := []) rfl rfl en137 (impl_isVector_ok F p0_s.C A_p0_s_3 p0_s.C.length c_p0_s_3 rfl _ _ hc22 (h_p0_s_3.at hs)) ?_; clear hf
        rintro _ w ⟨rfl, hs1⟩ a hf
        have hs : St [] W w [.blk b1 29 [.slice A_p0_s_1 p0_s.A.length c_p0_s_1, .slice A_p0_s_2 p0_s.B.length c_p0_s_2, .slice A_p0_s_3 p0_s.C.length c_p0_s_3]] := hs.ext hs1.below
        clear hs1
        refine sY hf hs rfl rfl rfl (Y_pickT rfl (congrArg (fun b => some (Value.bool b)) hb20) rfl) ?_; clear hf; intro a hf
        refine sY hf hs rfl rfl rfl (Y_move rfl rfl) ?_; clear hf; intro a hf
        refine bsplit r21 (fun hb23 => ?_) (fun hb23 => ?_)
        · have hj14 := bif_t hj14 hb23
          refine sYg hf hs rfl rfl rfl (congrArg (fun b => some (Value.bool b)) hb23) rfl rfl rfl (Y_fieldAddr rfl rfl fo29_1) ?_; clear hf; intro a hf
          refine sYg hf hs rfl rfl rfl (congrArg (fun b => some (Value.bool b)) hb23) rfl rfl rfl (Y_load_blk rfl rfl (i := 0) rfl rfl ag23) ?_; clear hf; intro a hf
          refine sYg hf hs rfl rfl rfl (congrArg (fun b => some (Value.bool b)) hb23) rfl rfl rfl (Y_lenH rfl rfl el23 rfl) ?_; clear hf; intro a hf
          refine sYg hf hs rfl rfl rfl (congrArg (fun b => some (Value.bool b)) hb23) rfl rfl rfl (Y_fieldAddr rfl rfl fo29_0) ?_; clear hf; intro a hf
          refine sYg hf hs rfl rfl rfl (congrArg (fun b => some (Value.bool b)) hb23) rfl rfl rfl (Y_load_blk rfl rfl (i := 0) rfl rfl ag22) ?_; clear hf; intro a hf
          refine sYg hf hs rfl rfl rfl (congrArg (fun b => some (Value.bool b)) hb23) rfl rfl rfl (Y_lenH rfl rfl el22 rfl) ?_; clear hf; intro a hf
          refine sYg hf hs rfl rfl rfl (congrArg (fun b => some (Value.bool b)) hb23) rfl rfl rfl (Y_eql rfl rfl rfl) ?_; clear hf; intro a hf
          refine sY hf hs rfl rfl rfl (Y_pickT rfl (congrArg (fun b => some (Value.bool b)) hb23) rfl) ?_; clear hf; intro a hf
          refine sY hf hs rfl rfl rfl (Y_move rfl rfl) ?_; clear hf; intro a hf
          refine bsplit ((p0_s.B.length : Int) == (p0_s.A.length : Int)) (fun hb24 => ?_) (fun hb24 => ?_)
          · have hj14 := bif_t hj14 hb24
            refine sYg hf hs rfl rfl rfl (congrArg (fun b => some (Value.bool b)) hb24) rfl rfl rfl (Y_fieldAddr rfl rfl fo29_2) ?_; clear hf; intro a hf
            refine sYg hf hs rfl rfl rfl (congrArg (fun b => some (Value.bool b)) hb24) rfl rfl rfl (Y_load_blk rfl rfl (i := 0) rfl rfl ag23) ?_; clear hf; intro a hf
            refine sYg hf hs rfl rfl rfl (congrArg (fun b => some (Value.bool b)) hb24) rfl rfl rfl (Y_lenH rfl rfl el23 rfl) ?_; clear hf; intro a hf
            refine sYg hf hs rfl rfl rfl (congrArg (fun b => some (Value.bool b)) hb24) rfl rfl rfl (Y_fieldAddr rfl rfl fo29_0) ?_; clear hf; intro a hf
            refine sYg hf hs rfl rfl rfl (congrArg (fun b => some (Value.bool b)) hb24) rfl rfl rfl (Y_load_blk rfl rfl (i := 0) rfl rfl ag22) ?_; clear hf; intro a hf
            refine sYg hf hs rfl rfl rfl (congrArg (fun b => some (Value.bool b)) hb24) rfl rfl rfl (Y_lenH rfl rfl el22 rfl) ?_; clear hf; intro a hf
            refine sYg hf hs rfl rfl rfl (congrArg (fun b => some (Value.bool b)) hb24) rfl rfl rfl (Y_eql rfl rfl rfl) ?_; clear hf; intro a hf
            refine sY hf hs rfl rfl rfl (Y_pickT rfl (congrArg (fun b => some (Value.bool b)) hb24) rfl) ?_; clear hf; intro a hf
            refine sY hf hs rfl rfl rfl (Y_assign rfl rfl) ?_; clear hf; intro a hf
            refine wpO_nil ?_
            refine wpL_nil (then_normal ?_)
            exact ⟨((p0_s.C.length : Int) == (p0_s.A.length : Int)), Option.some.inj hj14, (Fr.pick hf.none hf rfl), hs.sel [] (by decide)⟩
          · have hj14 := bif_f hj14 hb24
            refine sNo hf rfl rfl rfl (congrArg (fun b => some (Value.bool b)) hb24) rfl rfl rfl ?_; clear hf; intro a hf
            refine sNo hf rfl rfl rfl (congrArg (fun b => some (Value.bool b)) hb24) rfl rfl rfl ?_; clear hf; intro a hf
            refine sNo hf rfl rfl rfl (congrArg (fun b => some (Value.bool b)) hb24) rfl rfl rfl ?_; clear hf; intro a hf
            refine sNo hf rfl rfl rfl (congrArg (fun b => some (Value.bool b)) hb24) rfl rfl rfl ?_; clear hf; intro a hf
            refine sNo hf rfl rfl rfl (congrArg (fun b => some (Value.bool b)) hb24) rfl rfl rfl ?_; clear hf; intro a hf
            refine sNo hf rfl rfl rfl (congrArg (fun b => some (Value.bool b)) hb24) rfl rfl rfl ?_; clear hf; intro a hf
            refine sNo hf rfl rfl rfl (congrArg (fun b => some (Value.bool b)) hb24) rfl rfl rfl ?_; clear hf; intro a hf
            refine sY hf hs rfl rfl rfl (Y_pickF rfl (congrArg (fun b => some (Value.bool b)) hb24) rfl) ?_; clear hf; intro a hf
            refine sY hf hs rfl rfl rfl (Y_assign rfl rfl) ?_; clear hf; intro a hf
            refine wpO_nil ?_
            refine wpL_nil (then_normal ?_)
            exact ⟨false, Option.some.inj hj14, (Fr.pick hf.none hf rfl), hs.sel [] (by decide)⟩
        · have hj14 := bif_f hj14 hb23
          refine sNo hf rfl rfl rfl (congrArg (fun b => some (Value.bool b)) hb23) rfl rfl rfl ?_; clear hf; intro a hf
          refine sNo hf rfl rfl rfl (congrArg (fun b => some (Value.bool b)) hb23) rfl rfl rfl ?_; clear hf; intro a hf
          refine sNo hf rfl rfl rfl (congrArg (fun b => some (Value.bool b)) hb23) rfl rfl rfl ?_; clear hf; intro a hf
          refine sNo hf rfl rfl rfl (congrArg (fun b => some (Value.bool b)) hb23) rfl rfl rfl ?_; clear hf; intro a hf
          refine sNo hf rfl rfl rfl (congrArg (fun b => some (Value.bool b)) hb23) rfl rfl rfl ?_; clear hf; intro a hf
          refine sNo hf rfl rfl rfl (congrArg (fun b => some (Value.bool b)) hb23) rfl rfl rfl ?_; clear hf; intro a hf
          refine sNo hf rfl rfl rfl (congrArg (fun b => some (Value.bool b)) hb23) rfl rfl rfl ?_; clear hf; intro a hf
          refine sY hf hs rfl rfl rfl (Y_pickF rfl (congrArg (fun b => some (Value.bool b)) hb23) rfl) ?_; clear hf; intro a hf
          refine sY hf hs rfl rfl rfl (Y_move rfl rfl) ?_; clear hf; intro a hf
          refine sNo hf rfl rfl rfl rfl rfl rfl rfl ?_; clear hf; intro a hf
          refine sNo hf rfl rfl rfl rfl rfl rfl rfl ?_; clear hf; intro a hf
          refine sNo hf rfl rfl rfl rfl rfl rfl rfl ?_; clear hf; intro a hf
          refine sNo hf rfl rfl rfl rfl rfl rfl rfl ?_; clear hf; intro a hf
          refine sNo hf rfl rfl rfl rfl rfl rfl rfl ?_; clear hf; intro a hf
          refine sNo hf rfl rfl rfl rfl rfl rfl rfl ?_; clear hf; intro a hf
          refine sNo hf rfl rfl rfl rfl rfl rfl rfl ?_; clear hf; intro a hf
          refine sY hf hs rfl rfl rfl (Y_pickF rfl rfl rfl) ?_; clear hf; intro a hf
          refine sY hf hs rfl rfl rfl (Y_assign rfl rfl) ?_; clear hf; intro a hf
          refine wpO_nil ?_
          refine wpL_nil (then_normal ?_)
          exact ⟨false, Option.some.inj hj14, (Fr.pick hf.none hf rfl), hs.sel [] (by decide)⟩
      · have hj14 := bif_f hj14 hb20
        refine sNo hf rfl rfl rfl (congrArg (fun b => some (Value.bool b)) hb20) rfl rfl rfl ?_; clear hf; intro a hf
        refine sNo hf rfl rfl rfl (congrArg (fun b => some (Value.bool b)) hb20) rfl rfl rfl ?_; clear hf; intro a hf
        refine sNo hf rfl rfl rfl (congrArg (fun b => some (Value.bool b)) hb20) rfl rfl rfl ?_; clear hf; intro a hf
        refine sY hf hs rfl rfl rfl (Y_pickF rfl (congrArg (fun b => some (Value.bool b)) hb20) rfl) ?_; clear hf; intro a hf
        refine sY hf hs rfl rfl rfl (Y_move rfl rfl) ?_; clear hf; intro a hf
        refine sNo hf rfl rfl rfl rfl rfl rfl rfl ?_; clear hf; intro a hf
        refine sNo hf rfl rfl rfl rfl rfl rfl rfl ?_; clear hf; intro a hf
        refine sNo hf rfl rfl rfl rfl rfl rfl rfl ?_; clear hf; intro a hf
        refine sNo hf rfl rfl rfl rfl rfl rfl rfl ?_; clear hf; intro a hf
        refine sNo hf rfl rfl rfl rfl rfl rfl rfl ?_; clear hf; intro a hf
        refine sNo hf rfl rfl rfl rfl rfl rfl rfl ?_; clear hf; intro a hf
        refine sNo hf rfl rfl rfl rfl rfl rfl rfl ?_; clear hf; intro a hf
        refine sY hf hs rfl rfl rfl (Y_pickF rfl rfl rfl) ?_; clear hf; intro a hf
        refine sY hf hs rfl rfl rfl (Y_move rfl rfl) ?_; clear hf; intro a hf
        refine sNo hf rfl rfl rfl rfl rfl rfl rfl ?_; clear hf; intro a hf
        refine sNo hf rfl rfl rfl rfl rfl rfl rfl ?_; clear hf; intro a hf
        refine sNo hf rfl rfl rfl rfl rfl rfl rfl ?_; clear hf; intro a hf
        refine sNo hf rfl rfl rfl rfl rfl rfl rfl ?_; clear hf; intro a hf
        refine sNo hf rfl rfl rfl rfl rfl rfl rfl ?_; clear hf; intro a hf
        refine sNo hf rfl rfl rfl rfl rfl rfl rfl ?_; clear hf; intro a hf
        refine sNo hf rfl rfl rfl rfl rfl rfl rfl ?_; clear hf; intro a hf
        refine sY hf hs rfl rfl rfl (Y_pickF rfl rfl rfl) ?_; clear hf; intro a hf
        refine sY hf hs rfl rfl rfl (Y_assign rfl rfl) ?_; clear hf; intro a hf
        refine wpO_nil ?_
        refine wpL_nil (then_normal ?_)
        exact ⟨false, Option.some.inj hj14, (Fr.pick hf.none hf rfl), hs.sel [] (by decide)⟩
    · have hj14 := bif_f hj14 hb17
      refine sNo hf rfl rfl rfl (congrArg (fun b => some (Value.bool b)) hb17) rfl rfl rfl ?_; clear hf; intro a hf
      refine sNo hf rfl rfl rfl (congrArg (fun b => some (Value.bool b)) hb17) rfl rfl rfl ?_; clear hf; intro a hf
      refine sNo hf rfl rfl rfl (congrArg (fun b => some (Value.bool b)) hb17) rfl rfl rfl ?_; clear hf; intro a hf
      refine sY hf hs rfl rfl rfl (Y_pickF rfl (congrArg (fun b => some (Value.bool b)) hb17) rfl) ?_; clear hf; intro a hf
      refine sY hf hs rfl rfl rfl (Y_move rfl rfl) ?_; clear hf; intro a hf
      refine sNo hf rfl rfl rfl rfl rfl rfl rfl ?_; clear hf; intro a hf
      refine sNo hf rfl rfl rfl rfl rfl rfl rfl ?_; clear hf; intro a hf
      refine sNo hf rfl rfl rfl rfl rfl rfl rfl ?_; clear hf; intro a hf
      refine sY hf hs rfl rfl rfl (Y_pickF rfl rfl rfl) ?_; clear hf; intro a hf
      refine sY hf hs rfl rfl rfl (Y_move rfl rfl) ?_; clear hf; intro a hf
      refine sNo hf rfl rfl rfl rfl rfl rfl rfl ?_; clear hf; intro a hf
      refine sNo hf rfl rfl rfl rfl rfl rfl rfl ?_; clear hf; intro a hf
      refine sNo hf rfl rfl rfl rfl rfl rfl rfl ?_; clear hf; intro a hf
      refine sNo hf rfl rfl rfl rfl rfl rfl rfl ?_; clear hf; intro a hf
      refine sNo hf rfl rfl rfl rfl rfl rfl rfl ?_; clear hf; intro a hf
      refine sNo hf rfl rfl rfl rfl rfl rfl rfl ?_; clear hf; intro a hf
      refine sNo hf rfl rfl rfl rfl rfl rfl rfl ?_; clear hf; intro a hf
      refine sY hf hs rfl rfl rfl (Y_pickF rfl rfl rfl) ?_; clear hf; intro a hf
      refine sY hf hs rfl rfl rfl (Y_move rfl rfl) ?_; clear hf; intro a hf
      refine sNo hf rfl rfl rfl rfl rfl rfl rfl ?_; clear hf; intro a hf
      refine sNo hf rfl rfl rfl rfl rfl rfl rfl ?_; clear hf; intro a hf
      refine sNo hf rfl rfl rfl rfl rfl rfl rfl ?_; clear hf; intro a hf
      refine sNo hf rfl rfl rfl rfl rfl rfl rfl ?_; clear hf; intro a hf
      refine sNo hf rfl rfl rfl rfl rfl rfl rfl ?_; clear hf; intro a hf
      refine sNo hf rfl rfl rfl rfl rfl rfl rfl ?_; clear hf; intro a hf
      refine sNo hf rfl rfl rfl rfl rfl rfl rfl ?_; clear hf; intro a hf
      refine sY hf hs rfl rfl rfl (Y_pickF rfl rfl rfl) ?_; clear hf; intro a hf
      refine sY hf hs rfl rfl rfl (Y_assign rfl rfl) ?_; clear hf; intro a hf
      refine wpO_nil ?_
      refine wpL_nil (then_normal ?_)
      exact ⟨false, Option.some.inj hj14, (Fr.pick hf.none hf rfl), hs.sel [] (by decide)⟩
  · rintro a w ⟨b12, hr_, hf, hs⟩
    subst hr_
    try dsimp only at hm
    obtain rfl := Option.some.inj hm
    refine wpL_ret (ret_tmp rfl hf rfl ?_)
    exact ⟨_, rfl, rfl, hs⟩

set_option maxRecDepth 100000 in
theorem impl_allWithin_ok (F : Nat) (p0_list : List Int) (A_p0_list_1 : Option Addr) (n_p0_list_1 c_p0_list_1 : Nat) (hn_p0_list_1 : n_p0_list_1 = p0_list.length) (p1_low : Int) (p2_high : Int) (r : Bool) (W : World) (hm : impl_allWithin F p0_list p1_low p2_high = some r) (h_p0_list_1 : Rd W A_p0_list_1 (ints p0_list)) :
    Calls Try.prog 69 [.slice A_p0_list_1 n_p0_list_1 c_p0_list_1, .int .i64 p1_low, .int .i64 p2_high].toArray W fun e w' => ∃ v, e = .returned v ∧ v = .bool r ∧ St [] W w' [] := by
  subst hn_p0_list_1
  unfold impl_allWithin at hm
  refine Calls.enter (N := 21) Try.func69 rfl rfl rfl (fun a hf => ?_)
  have hs := St.start W
  obtain ⟨w, hw_⟩ : ∃ w, w = W := ⟨W, rfl⟩
  clear hw_ w
  refine wpL_seq ?_
  refine wpL_region ?_
  refine sY hf hs rfl rfl rfl (Y_assign rfl rfl) ?_; clear hf; intro a hf
  refine wpO_nil ?_
  refine wpL_seq ?_
  refine wpL_seq ?_
  refine wpL_region ?_
  refine sY hf hs rfl rfl rfl (Y_move rfl rfl) ?_; clear hf; intro a hf
  refine sY hf hs rfl rfl rfl (Y_lenH rfl rfl el23 rfl) ?_; clear hf; intro a hf
  refine sY hf hs rfl rfl rfl (Y_move rfl rfl) ?_; clear hf; intro a hf
  refine wpO_nil ?_
  obtain ⟨r21, hl22, hm⟩ := bind_some hm
  refine wpL_block (fun a w => Sum.inr () = r21 ∧ Fr a 21 [] ∧ St [] W w []) ?_ ?_
  · refine wpL_loop (fun n a w => ∃ x14 : Int, impl_allWithin_L1 F p0_list p1_low p2_high n x14 = some r21 ∧ Fr a 21 [(1, .int .i64 p1_low), (2, .int .i64 p2_high), (9, .slice A_p0_list_1 p0_list.length c_p0_list_1), (10, .int .i64 (p0_list.length : Int)), (11, .int .i64 x14)] ∧ St [] W w []) F ?_ ?_ ?_
    · exact ⟨0, hl22, (Fr.pick (Fr.pick (Fr.pick (Fr.pick (Fr.pick hf.none hf rfl) hf rfl) hf rfl) hf rfl) hf rfl), hs⟩
    · rintro a w ⟨x14, h0_, -, -⟩; simp [impl_allWithin_L1] at h0_
    · rintro n24 a w ⟨x14, hm23, hf, hs⟩
      rw [impl_allWithin_L1] at hm23
      refine wpL_seq ?_
      refine wpL_region ?_
      refine sY hf hs rfl rfl rfl (Y_lss rfl rfl rfl) ?_; clear hf; intro a hf
      refine wpO_nil ?_
      refine wpL_seq ?_
      refine wpL_cond hf rfl (fun hb25 => ?_) (fun hb25 => ?_)
      · have hm23 := bif_t hm23 hb25
        refine wpL_skip ?_
        refine wpL_seq ?_
        refine wpL_block0 ?_
        refine wpL_seq ?_
        refine wpL_region ?_
        obtain ⟨q26, hi27, hm23⟩ := bind_some hm23
        obtain ⟨hi27a, hi27b, hi27q⟩ := idx_some hi27
        refine sY hf hs rfl rfl rfl (Y_index rfl rfl rfl el23 ti2 (Rd.isAt (h_p0_list_1.at hs) (at1 (ints_at hi27q))) hi27a hi27b) ?_; clear hf; intro a hf
        refine sY hf hs rfl rfl rfl (Y_load_rd rfl rfl (fun w hs => h_p0_list_1.at hs) (at1 (ints_at hi27q)) ag2) ?_; clear hf; intro a hf
        refine sY hf hs rfl rfl rfl (Y_assign rfl rfl) ?_; clear hf; intro a hf
        refine wpO_nil ?_
        refine wpL_seq ?_
        refine wpL_region ?_
        refine sY hf hs rfl rfl rfl (Y_move rfl rfl) ?_; clear hf; intro a hf
        refine sY hf hs rfl rfl rfl (Y_move rfl rfl) ?_; clear hf; intro a hf
        refine sY hf hs rfl rfl rfl (Y_move rfl rfl) ?_; clear hf; intro a hf
        obtain ⟨r28, hc29, hm23⟩ := bind_some hm23
        refine sCall hf rfl rfl rfl rfl (cap := []) rfl rfl en97 (impl_within_ok F q26 p1_low p2_high _ _ hc29) ?_; clear hf
        rintro _ w ⟨rfl, hs1⟩ a hf
        have hs : St [] W w [] := hs.ext hs1.below
        clear hs1
        refine sY hf hs rfl rfl rfl (Y_not rfl rfl) ?_; clear hf; intro a hf
        refine wpO_nil ?_
        refine wpL_cond hf rfl (fun hb30 => ?_) (fun hb30 => ?_)
        · have hm23 := bif_t hm23 hb30
          refine wpL_seq ?_
          refine wpL_region ?_
          refine sY hf hs rfl rfl rfl (Y_assign rfl rfl) ?_; clear hf; intro a hf
          refine wpO_nil ?_
          obtain rfl := Option.some.inj hm23
          try dsimp only at hm
          obtain rfl := Option.some.inj hm
          refine wpL_ret (Qb_ret (Ql_ret (Qb_ret (ret_tmp rfl hf rfl ?_))))
          exact ⟨_, rfl, rfl, hs⟩
        · have hm23 := bif_f hm23 hb30
          refine wpL_skip ?_
          refine wpL_nil (Qb_normal ?_)
          refine wpL_region ?_
          refine sY hf hs rfl rfl rfl (Y_add rfl rfl rfl) ?_; clear hf; intro a hf
          refine sY hf hs rfl rfl rfl (Y_move rfl rfl) ?_; clear hf; intro a hf
          refine wpO_nil ?_
          refine wpL_nil (Ql_normal ?_)
          exact ⟨(IntKind.i64.wrap (x14 + 1)), hm23, (Fr.pick (Fr.pick (Fr.pick (Fr.pick (Fr.pick hf.none hf rfl) hf rfl) hf rfl) hf rfl) hf rfl), hs⟩
      · have hm23 := bif_f hm23 hb25
        refine wpL_exit (Ql_exit (Qb_exit ?_))
        exact ⟨Option.some.inj hm23, hf.none, hs⟩
  · rintro a w ⟨hr_, hf, hs⟩
    subst hr_
    try dsimp only at hm
    refine wpL_seq ?_
    refine wpL_region ?_
    refine sY hf hs rfl rfl rfl (Y_assign rfl rfl) ?_; clear hf; intro a hf
    refine wpO_nil ?_
    obtain rfl := Option.some.inj hm
    refine wpL_ret (ret_tmp rfl hf rfl ?_)
    exact ⟨_, rfl, rfl, hs⟩

set_option maxRecDepth 100000 in
theorem impl_times_ok (F : Nat) (p0_a : Int) (p1_b : Int) (r : Int) (W : World) (hm : impl_times F p0_a p1_b = some r) :
    Calls Try.prog 111 [.int .i64 p0_a, .int .i64 p1_b].toArray W fun e w' => ∃ v, e = .returned v ∧ v = .int .i64 r ∧ St [] W w' [] := by
  unfold impl_times at hm
  refine Calls.enter (N := 14) Try.func111 rfl rfl rfl (fun a hf => ?_)
  have hs := St.start W
  obtain ⟨w, hw_⟩ : ∃ w, w = W := ⟨W, rfl⟩
  clear hw_ w
  refine wpL_seq ?_
  refine wpL_region ?_
  refine sY hf hs rfl rfl rfl (Y_assign rfl rfl) ?_; clear hf; intro a hf
  refine wpO_nil ?_
  refine wpL_seq ?_
  refine wpL_seq ?_
  obtain ⟨r3, hj4, hm⟩ := bind_some hm
  refine wpL_cut (fun a w => ∃ b2 : Bool, b2 = r3 ∧ Fr a 14 [(0, .int .i64 p0_a), (1, .int .i64 p1_b), (10, .bool b2)] ∧ St [] W w []) ?_ ?_
  · refine wpL_region ?_
    refine sY hf hs rfl rfl rfl (Y_move rfl rfl) ?_; clear hf; intro a hf
    refine sY hf hs rfl rfl rfl (Y_eql rfl rfl rfl) ?_; clear hf; intro a hf
    refine sY hf hs rfl rfl rfl (Y_move rfl rfl) ?_; clear hf; intro a hf
    refine bsplit (p0_a == (-1000000000000000)) (fun hb5 => ?_) (fun hb5 => ?_)
    · have hj4 := bif_t hj4 hb5
      refine sNo hf rfl rfl rfl (congrArg (fun b => some (Value.bool b)) hb5) rfl rfl rfl ?_; clear hf; intro a hf
      refine sNo hf rfl rfl rfl (congrArg (fun b => some (Value.bool b)) hb5) rfl rfl rfl ?_; clear hf; intro a hf
      refine sY hf hs rfl rfl rfl (Y_pickT rfl (congrArg (fun b => some (Value.bool b)) hb5) rfl) ?_; clear hf; intro a hf
      refine wpO_nil ?_
      refine wpL_nil (then_normal ?_)
      exact ⟨true, Option.some.inj hj4, (Fr.pick (Fr.pick (Fr.pick hf.none hf rfl) hf rfl) hf rfl), hs⟩
    · have hj4 := bif_f hj4 hb5
      refine sYg hf hs rfl rfl rfl (congrArg (fun b => some (Value.bool b)) hb5) rfl rfl rfl (Y_move rfl rfl) ?_; clear hf; intro a hf
      refine sYg hf hs rfl rfl rfl (congrArg (fun b => some (Value.bool b)) hb5) rfl rfl rfl (Y_eql rfl rfl rfl) ?_; clear hf; intro a hf
      refine sY hf hs rfl rfl rfl (Y_pickF rfl (congrArg (fun b => some (Value.bool b)) hb5) rfl) ?_; clear hf; intro a hf
      refine wpO_nil ?_
      refine wpL_nil (then_normal ?_)
      exact ⟨(p1_b == (-1000000000000000)), Option.some.inj hj4, (Fr.pick (Fr.pick (Fr.pick hf.none hf rfl) hf rfl) hf rfl), hs⟩
  · rintro a w ⟨b2, hr_, hf, hs⟩
    subst hr_
    try dsimp only at hm
    refine wpL_cond hf rfl (fun hb6 => ?_) (fun hb6 => ?_)
    · have hm := bif_t hm hb6
      refine wpL_seq ?_
      refine wpL_region ?_
      refine sY hf hs rfl rfl rfl (Y_assign rfl rfl) ?_; clear hf; intro a hf
      refine wpO_nil ?_
      obtain rfl := Option.some.inj hm
      refine wpL_ret (ret_tmp rfl hf rfl ?_)
      exact ⟨_, rfl, rfl, hs⟩
    · have hm := bif_f hm hb6
      refine wpL_skip ?_
      refine wpL_seq ?_
      refine wpL_region ?_
      refine sY hf hs rfl rfl rfl (Y_move rfl rfl) ?_; clear hf; intro a hf
      refine sY hf hs rfl rfl rfl (Y_move rfl rfl) ?_; clear hf; intro a hf
      refine sY hf hs rfl rfl rfl (Y_add rfl rfl rfl) ?_; clear hf; intro a hf
      refine sY hf hs rfl rfl rfl (Y_assign rfl rfl) ?_; clear hf; intro a hf
      refine wpO_nil ?_
      obtain rfl := Option.some.inj hm
      refine wpL_ret (ret_tmp rfl hf rfl ?_)
      exact ⟨_, rfl, rfl, hs⟩

set_option maxRecDepth 100000 in
theorem impl_innerProduct_ok (F : Nat) (p0_a : List Int) (A_p0_a_1 : Option Addr) (n_p0_a_1 c_p0_a_1 : Nat) (hn_p0_a_1 : n_p0_a_1 = p0_a.length) (p1_b : List Int) (A_p1_b_1 : Option Addr) (n_p1_b_1 c_p1_b_1 : Nat) (hn_p1_b_1 : n_p1_b_1 = p1_b.length) (r : Int) (W : World) (hm : impl_innerProduct F p0_a p1_b = some r) (h_p0_a_1 : Rd W A_p0_a_1 (ints p0_a)) (h_p1_b_1 : Rd W A_p1_b_1 (ints p1_b)) :
    Calls Try.prog 70 [.slice A_p0_a_1 n_p0_a_1 c_p0_a_1, .slice A_p1_b_1 n_p1_b_1 c_p1_b_1].toArray W fun e w' => ∃ v, e = .returned v ∧ v = .int .i64 r ∧ St [] W w' [] := by
  subst hn_p0_a_1
  subst hn_p1_b_1
  unfold impl_innerProduct at hm
  refine Calls.enter (N := 25) Try.func70 rfl rfl rfl (fun a hf => ?_)
  have hs := St.start W
  obtain ⟨w, hw_⟩ : ∃ w, w = W := ⟨W, rfl⟩
  clear hw_ w
  refine wpL_seq ?_
  refine wpL_region ?_
  refine sY hf hs rfl rfl rfl (Y_assign rfl rfl) ?_; clear hf; intro a hf
  refine wpO_nil ?_
  refine wpL_seq ?_
  refine wpL_region ?_
  refine sY hf hs rfl rfl rfl (Y_assign rfl rfl) ?_; clear hf; intro a hf
  refine wpO_nil ?_
  refine wpL_seq ?_
  refine wpL_seq ?_
  refine wpL_region ?_
  refine sY hf hs rfl rfl rfl (Y_move rfl rfl) ?_; clear hf; intro a hf
  refine sY hf hs rfl rfl rfl (Y_lenH rfl rfl el23 rfl) ?_; clear hf; intro a hf
  refine sY hf hs rfl rfl rfl (Y_move rfl rfl) ?_; clear hf; intro a hf
  refine wpO_nil ?_
  obtain ⟨r27, hl28, hm⟩ := bind_some hm
  refine wpL_block (fun a w => ∃ x26 : Int, x26 = r27 ∧ Fr a 25 [(5, .int .i64 x26)] ∧ St [] W w []) ?_ ?_
  · refine wpL_loop (fun n a w => ∃ x17 : Int, ∃ x18 : Int, impl_innerProduct_L1 F p0_a p1_b n x17 x18 = some r27 ∧ Fr a 25 [(1, .slice A_p1_b_1 p1_b.length c_p1_b_1), (5, .int .i64 x17), (8, .slice A_p0_a_1 p0_a.length c_p0_a_1), (9, .int .i64 (p0_a.length : Int)), (10, .int .i64 x18)] ∧ St [] W w []) F ?_ ?_ ?_
    · exact ⟨(-1000000000000000), 0, hl28, (Fr.pick (Fr.pick (Fr.pick (Fr.pick (Fr.pick hf.none hf rfl) hf rfl) hf rfl) hf rfl) hf rfl), hs⟩
    · rintro a w ⟨x17, x18, h0_, -, -⟩; simp [impl_innerProduct_L1] at h0_
    · rintro n30 a w ⟨x17, x18, hm29, hf, hs⟩
      rw [impl_innerProduct_L1] at hm29
      refine wpL_seq ?_
      refine wpL_region ?_
      refine sY hf hs rfl rfl rfl (Y_lss rfl rfl rfl) ?_; clear hf; intro a hf
      refine wpO_nil ?_
      refine wpL_seq ?_
      refine wpL_cond hf rfl (fun hb31 => ?_) (fun hb31 => ?_)
      · have hm29 := bif_t hm29 hb31
        refine wpL_skip ?_
        refine wpL_seq ?_
        refine wpL_block0 ?_
        refine wpL_seq ?_
        refine wpL_region ?_
        refine sY hf hs rfl rfl rfl (Y_move rfl rfl) ?_; clear hf; intro a hf
        obtain ⟨q32, hi33, hm29⟩ := bind_some hm29
        obtain ⟨hi33a, hi33b, hi33q⟩ := idx_some hi33
        refine sY hf hs rfl rfl rfl (Y_index rfl rfl rfl el23 ti2 (Rd.isAt (h_p0_a_1.at hs) (at1 (ints_at hi33q))) hi33a hi33b) ?_; clear hf; intro a hf
        refine sY hf hs rfl rfl rfl (Y_load_rd rfl rfl (fun w hs => h_p0_a_1.at hs) (at1 (ints_at hi33q)) ag2) ?_; clear hf; intro a hf
        refine sY hf hs rfl rfl rfl (Y_assign rfl rfl) ?_; clear hf; intro a hf
        refine sY hf hs rfl rfl rfl (Y_assign rfl rfl) ?_; clear hf; intro a hf
        refine wpO_nil ?_
        refine wpL_region ?_
        refine sY hf hs rfl rfl rfl (Y_move rfl rfl) ?_; clear hf; intro a hf
        refine sY hf hs rfl rfl rfl (Y_move rfl rfl) ?_; clear hf; intro a hf
        refine sY hf hs rfl rfl rfl (Y_move rfl rfl) ?_; clear hf; intro a hf
        refine sY hf hs rfl rfl rfl (Y_move rfl rfl) ?_; clear hf; intro a hf
        obtain ⟨q34, hi35, hm29⟩ := bind_some hm29
        obtain ⟨hi35a, hi35b, hi35q⟩ := idx_some hi35
        refine sY hf hs rfl rfl rfl (Y_index rfl rfl rfl el23 ti2 (Rd.isAt (h_p1_b_1.at hs) (at1 (ints_at hi35q))) hi35a hi35b) ?_; clear hf; intro a hf
        refine sY hf hs rfl rfl rfl (Y_load_rd rfl rfl (fun w hs => h_p1_b_1.at hs) (at1 (ints_at hi35q)) ag2) ?_; clear hf; intro a hf
        obtain ⟨r36, hc37, hm29⟩ := bind_some hm29
        refine sCall hf rfl rfl rfl rfl (cap := []) rfl rfl en111 (impl_times_ok F q32 q34 _ _ hc37) ?_; clear hf
        rintro _ w ⟨rfl, hs1⟩ a hf
        have hs : St [] W w [] := hs.ext hs1.below
        clear hs1
        refine sY hf hs rfl rfl rfl (Y_max rfl rfl rfl) ?_; clear hf; intro a hf
        refine sY hf hs rfl rfl rfl (Y_assign rfl rfl) ?_; clear hf; intro a hf
        refine wpO_nil ?_
        refine wpL_nil (Qb_normal ?_)
        refine wpL_region ?_
        refine sY hf hs rfl rfl rfl (Y_add rfl rfl rfl) ?_; clear hf; intro a hf
        refine sY hf hs rfl rfl rfl (Y_move rfl rfl) ?_; clear hf; intro a hf
        refine wpO_nil ?_
        refine wpL_nil (Ql_normal ?_)
        exact ⟨(max x17 r36), (IntKind.i64.wrap (x18 + 1)), hm29, (Fr.pick (Fr.pick (Fr.pick (Fr.pick (Fr.pick hf.none hf rfl) hf rfl) hf rfl) hf rfl) hf rfl), hs⟩
      · have hm29 := bif_f hm29 hb31
        refine wpL_exit (Ql_exit (Qb_exit ?_))
        exact ⟨x17, Option.some.inj hm29, (Fr.pick hf.none hf rfl), hs⟩
  · rintro a w ⟨x26, hr_, hf, hs⟩
    subst hr_
    try dsimp only at hm
    refine wpL_seq ?_
    refine wpL_region ?_
    refine sY hf hs rfl rfl rfl (Y_move rfl rfl) ?_; clear hf; intro a hf
    refine sY hf hs rfl rfl rfl (Y_assign rfl rfl) ?_; clear hf; intro a hf
    refine wpO_nil ?_
    obtain rfl := Option.some.inj hm
    refine wpL_ret (ret_tmp rfl hf rfl ?_)
    exact ⟨_, rfl, rfl, hs⟩

set_option maxRecDepth 100000 in
theorem slices_Clone_int64_ok (F : Nat) (p0_s : List Int) (A_p0_s_1 : Option Addr) (n_p0_s_1 c_p0_s_1 : Nat) (hn_p0_s_1 : n_p0_s_1 = p0_s.length) (r : List Int) (W : World) (hm : slices_Clone_int64 F p0_s = some r) (h_p0_s_1 : Rd W A_p0_s_1 (ints p0_s)) :
    Calls Try.prog 84 [.slice A_p0_s_1 n_p0_s_1 c_p0_s_1].toArray W fun e w' => ∃ v, e = .returned v ∧ ∃ A7, ∃ n8, ∃ c9, v = .slice A7 n8 c9 ∧ n8 = r.length ∧ St [] W w' [.row A7 n8 c9 2 1 (ints r)] := by
  subst hn_p0_s_1
  cases A_p0_s_1 with
  | none =>
    obtain rfl : p0_s = [] := rd_none_ints h_p0_s_1
    have hm : some ([] : List Int) = some r := hm
    refine Calls.enter (N := 8) Try.func84 rfl rfl rfl (fun a hf => ?_)
    have hs := St.start W
    obtain ⟨w, hw_⟩ : ∃ w, w = W := ⟨W, rfl⟩
    clear hw_ w
    refine wpL_seq ?_
    refine wpL_region ?_
    refine sY hf hs rfl rfl rfl (Y_assign rfl rfl) ?_; clear hf; intro a hf
    refine wpO_nil ?_
    refine wpL_seq ?_
    refine wpL_seq ?_
    refine wpL_region ?_
    refine sY hf hs rfl rfl rfl (Y_move rfl rfl) ?_; clear hf; intro a hf
    refine sY hf hs rfl rfl rfl (Y_eqnil rfl rfl rfl un23) ?_; clear hf; intro a hf
    refine wpO_nil ?_
    refine wpL_cond hf rfl (fun _ => ?_) (fun e => absurd e (by decide))
    refine wpL_seq ?_
    refine wpL_region ?_
    refine sY hf hs rfl rfl rfl (Y_assign rfl rfl) ?_; clear hf; intro a hf
    refine wpO_nil ?_
    have hs : St [] W _ [.row none 0 0 2 1 (ints ([] : List Int))] := hs.addNil 2 1
    obtain rfl := Option.some.inj hm
    refine wpL_ret (ret_tmp rfl hf rfl ?_)
    exact ⟨_, rfl, none, 0, 0, rfl, rfl, hs⟩
  | some a_ =>
    unfold slices_Clone_int64 at hm
    refine Calls.enter (N := 8) Try.func84 rfl rfl rfl (fun a hf => ?_)
    have hs := St.start W
    obtain ⟨w, hw_⟩ : ∃ w, w = W := ⟨W, rfl⟩
    clear hw_ w
    refine wpL_seq ?_
    refine wpL_region ?_
    refine sY hf hs rfl rfl rfl (Y_assign rfl rfl) ?_; clear hf; intro a hf
    refine wpO_nil ?_
    refine wpL_seq ?_
    refine wpL_seq ?_
    refine wpL_region ?_
    refine sY hf hs rfl rfl rfl (Y_move rfl rfl) ?_; clear hf; intro a hf
    refine sY hf hs rfl rfl rfl (Y_eqnil rfl rfl rfl un23) ?_; clear hf; intro a hf
    refine wpO_nil ?_
    refine wpL_cond hf rfl (fun e => absurd e Bool.false_ne_true) (fun _ => ?_)
    refine wpL_skip ?_
    refine wpL_seq ?_
    refine wpL_region ?_
    refine sEmpty hf hs rfl rfl rfl rfl el23 ti2 ?_; clear hf hs; intro a w A1 hs hf
    have hs : St [] W w [.row A1 0 0 2 1 (ints ([] : List Int))] := hs
    refine sY hf hs rfl rfl rfl (Y_move rfl rfl) ?_; clear hf; intro a hf
    obtain ⟨xs5, ha6, hm⟩ := bind_some hm
    refine sAppendG (i := 0) (xs := ([] : List Int)) (ys := p0_s) (enc := ints) hf hs rfl rfl rfl rfl rfl rfl rfl rfl rfl ha6 el23 ti2 rfl rfl rfl (h_p0_s_1.at hs) ints_len1 ints_append ints_one ?_; clear hf hs; intro a w A3 c4 hs hf
    have hs : St [] W w [.row A3 xs5.length c4 2 1 (ints xs5)] := hs
    refine sY hf hs rfl rfl rfl (Y_assign rfl rfl) ?_; clear hf; intro a hf
    refine wpO_nil ?_
    obtain rfl := Option.some.inj hm
    refine wpL_ret (ret_tmp rfl hf rfl ?_)
    exact ⟨_, rfl, A3, xs5.length, c4, rfl, rfl, hs⟩

set_option maxRecDepth 100000 in
theorem impl_timesVector_ok (F : Nat) (p0_a : List (List Int)) (A_p0_a_1 : Option Addr) (n_p0_a_1 c_p0_a_1 : Nat) (hn_p0_a_1 : n_p0_a_1 = p0_a.length) (p1_x : List Int) (A_p1_x_1 : Option Addr) (n_p1_x_1 c_p1_x_1 : Nat) (hn_p1_x_1 : n_p1_x_1 = p1_x.length) (r : List Int) (W : World) (hm : impl_timesVector F p0_a p1_x = some r) (h_p0_a_1 : RdM W A_p0_a_1 p0_a) (h_p1_x_1 : Rd W A_p1_x_1 (ints p1_x)) :
    Calls Try.prog 85 [.slice A_p0_a_1 n_p0_a_1 c_p0_a_1, .slice A_p1_x_1 n_p1_x_1 c_p1_x_1].toArray W fun e w' => ∃ v, e = .returned v ∧ ∃ A488, ∃ n489, ∃ c490, v = .slice A488 n489 c490 ∧ n489 = r.length ∧ St [] W w' [.row A488 n489 c490 2 1 (ints r)] := by
  subst hn_p0_a_1
  subst hn_p1_x_1
  unfold impl_timesVector at hm
  refine Calls.enter (N := 47) Try.func85 rfl rfl rfl (fun a hf => ?_)
  have hs := St.start W
  obtain ⟨w, hw_⟩ : ∃ w, w = W := ⟨W, rfl⟩
  clear hw_ w
  refine wpL_seq ?_
  refine wpL_region ?_
  refine sY hf hs rfl rfl rfl (Y_assign rfl rfl) ?_; clear hf; intro a hf
  refine wpO_nil ?_
  refine wpL_seq ?_
  refine wpL_region ?_
  refine sY hf hs rfl rfl rfl (Y_move rfl rfl) ?_; clear hf; intro a hf
  refine sY hf hs rfl rfl rfl (Y_lenH rfl rfl el22 rfl) ?_; clear hf; intro a hf
  obtain ⟨xs3, hk2, hm⟩ := bind_some hm
  refine sMakeL (enc := ints) hf hs rfl rfl rfl rfl rfl hk2 el23 ti2 rfl ints_made ?_; clear hf hs; intro a w A1 hs hf
  have hs : St [] W w [.row A1 xs3.length xs3.length 2 1 (ints xs3)] := hs
  refine sY hf hs rfl rfl rfl (Y_assign rfl rfl) ?_; clear hf; intro a hf
  refine wpO_nil ?_
  refine wpL_seq ?_
  refine wpL_seq ?_
  refine wpL_region ?_
  refine sY hf hs rfl rfl rfl (Y_move rfl rfl) ?_; clear hf; intro a hf
  refine sY hf hs rfl rfl rfl (Y_lenH rfl rfl el22 rfl) ?_; clear hf; intro a hf
  refine sY hf hs rfl rfl rfl (Y_move rfl rfl) ?_; clear hf; intro a hf
  refine wpO_nil ?_
  obtain ⟨r366, hl367, hm⟩ := bind_some hm
  refine wpL_block (fun a w => ∃ xs364 : List Int, xs364 = r366 ∧ xs3.length = xs364.length ∧ Fr a 47 [(5, .slice A1 xs3.length xs3.length)] ∧ St [] W w [.row A1 xs3.length xs3.length 2 1 (ints xs364)]) ?_ ?_
  · refine wpL_loop (fun n a w => ∃ xs243 : List Int, ∃ x245 : Int, impl_timesVector_L4 F p0_a p1_x n xs243 x245 = some r366 ∧ xs3.length = xs243.length ∧ Fr a 47 [(1, .slice A_p1_x_1 p1_x.length c_p1_x_1), (5, .slice A1 xs3.length xs3.length), (13, .slice A_p0_a_1 p0_a.length c_p0_a_1), (14, .int .i64 (p0_a.length : Int)), (15, .int .i64 x245)] ∧ St [] W w [.row A1 xs3.length xs3.length 2 1 (ints xs243)]) F ?_ ?_ ?_
    · exact ⟨xs3, 0, hl367, rfl, (Fr.pick (Fr.pick (Fr.pick (Fr.pick (Fr.pick hf.none hf rfl) hf rfl) hf rfl) hf rfl) hf rfl), hs⟩
    · rintro a w ⟨xs243, x245, h0_, -, -, -⟩; simp [impl_timesVector_L4] at h0_
    · rintro n369 a w ⟨xs243, x245, hm368, hn244, hf, hs⟩
      rw [impl_timesVector_L4] at hm368
      refine wpL_seq ?_
      refine wpL_region ?_
      refine sY hf hs rfl rfl rfl (Y_lss rfl rfl rfl) ?_; clear hf; intro a hf
      refine wpO_nil ?_
      refine wpL_seq ?_
      refine wpL_cond hf rfl (fun hb370 => ?_) (fun hb370 => ?_)
      · have hm368 := bif_t hm368 hb370
        refine wpL_skip ?_
        refine wpL_seq ?_
        refine wpL_block0 ?_
        refine wpL_seq ?_
        refine wpL_region ?_
        refine sY hf hs rfl rfl rfl (Y_move rfl rfl) ?_; clear hf; intro a hf
        obtain ⟨q371, hi372, hm368⟩ := bind_some hm368
        obtain ⟨hi372a, hi372b, hi372q⟩ := idx_some hi372
        obtain ⟨vs373, hv374, hr375⟩ := id h_p0_a_1
        obtain ⟨A376, c377, hv378, hR379⟩ := hr375 _ _ hi372q
        refine sY hf hs rfl rfl rfl (Y_index rfl rfl rfl el22 ti23 (Rd.isAt hv374 hv378) hi372a hi372b) ?_; clear hf; intro a hf
        refine sY hf hs rfl rfl rfl (Y_load_rd rfl rfl (fun w hs => hv374.at hs) (at1 hv378) ag23) ?_; clear hf; intro a hf
        refine sY hf hs rfl rfl rfl (Y_assign rfl rfl) ?_; clear hf; intro a hf
        refine sY hf hs rfl rfl rfl (Y_assign rfl rfl) ?_; clear hf; intro a hf
        refine wpO_nil ?_
        refine wpL_seq ?_
        refine wpL_region ?_
        refine sY hf hs rfl rfl rfl (Y_move rfl rfl) ?_; clear hf; intro a hf
        refine sY hf hs rfl rfl rfl (Y_move rfl rfl) ?_; clear hf; intro a hf
        obtain ⟨q380, hi381, hm368⟩ := bind_some hm368
        obtain ⟨hi381a, hi381b, hi381q⟩ := idx_some hi381
        refine sY hf hs rfl rfl rfl (Y_index rfl rfl rfl el23 ti2 (Rd.isAt (hs.rd (i := 0) rfl) (at1 (ints_at hi381q))) hi381a (ltn hn244 hi381b)) ?_; clear hf; intro a hf
        obtain ⟨xs382, hu383, hm368⟩ := bind_some hm368
        refine sStoreL (i := 0) (us := [.int .i64 (-1000000000000000)]) (enc := ints) hf hs rfl rfl rfl rfl rfl rfl hn244 hu383 ti2 rfl rfl rfl rfl rfl ints_len1 (ints_set (-1000000000000000)) ?_; clear hs; intro w hs
        have hs : St [] W w [.row A1 xs3.length xs3.length 2 1 (ints xs382)] := hs
        refine wpO_nil ?_
        refine wpL_seq ?_
        refine wpL_region ?_
        refine sY hf hs rfl rfl rfl (Y_move rfl rfl) ?_; clear hf; intro a hf
        refine sY hf hs rfl rfl rfl (Y_lenH rfl rfl el23 rfl) ?_; clear hf; intro a hf
        refine sY hf hs rfl rfl rfl (Y_move rfl rfl) ?_; clear hf; intro a hf
        refine wpO_nil ?_
        obtain ⟨r461, hl462, hm368⟩ := bind_some hm368
        refine wpL_block (fun a w => ∃ xs459 : List Int, xs459 = r461 ∧ xs3.length = xs459.length ∧ Fr a 47 [(1, .slice A_p1_x_1 p1_x.length c_p1_x_1), (5, .slice A1 xs3.length xs3.length), (13, .slice A_p0_a_1 p0_a.length c_p0_a_1), (14, .int .i64 (p0_a.length : Int)), (15, .int .i64 x245)] ∧ St [] W w [.row A1 xs3.length xs3.length 2 1 (ints xs459)]) ?_ ?_
        · refine wpL_loop (fun n a w => ∃ xs433 : List Int, ∃ x435 : Int, impl_timesVector_L5 F p1_x x245 q371 n xs433 x435 = some r461 ∧ xs3.length = xs433.length ∧ Fr a 47 [(1, .slice A_p1_x_1 p1_x.length c_p1_x_1), (5, .slice A1 xs3.length xs3.length), (6, .int .i64 x245), (13, .slice A_p0_a_1 p0_a.length c_p0_a_1), (14, .int .i64 (p0_a.length : Int)), (15, .int .i64 x245), (23, .slice A376 q371.length c377), (24, .int .i64 (q371.length : Int)), (25, .int .i64 x435)] ∧ St [] W w [.row A1 xs3.length xs3.length 2 1 (ints xs433)]) F ?_ ?_ ?_
          · exact ⟨xs382, 0, hl462, ((hn244).trans (upd_len hu383).symm), (Fr.pick (Fr.pick (Fr.pick (Fr.pick (Fr.pick (Fr.pick (Fr.pick (Fr.pick (Fr.pick hf.none hf rfl) hf rfl) hf rfl) hf rfl) hf rfl) hf rfl) hf rfl) hf rfl) hf rfl), hs⟩
          · rintro a w ⟨xs433, x435, h0_, -, -, -⟩; simp [impl_timesVector_L5] at h0_
          · rintro n464 a w ⟨xs433, x435, hm463, hn434, hf, hs⟩
            rw [impl_timesVector_L5] at hm463
            refine wpL_seq ?_
            refine wpL_region ?_
            refine sY hf hs rfl rfl rfl (Y_lss rfl rfl rfl) ?_; clear hf; intro a hf
            refine wpO_nil ?_
            refine wpL_seq ?_
            refine wpL_cond hf rfl (fun hb465 => ?_) (fun hb465 => ?_)
            · have hm463 := bif_t hm463 hb465
              refine wpL_skip ?_
              refine wpL_seq ?_
              refine wpL_block0 ?_
              refine wpL_seq ?_
              refine wpL_region ?_
              refine sY hf hs rfl rfl rfl (Y_move rfl rfl) ?_; clear hf; intro a hf
              obtain ⟨q466, hi467, hm463⟩ := bind_some hm463
              obtain ⟨hi467a, hi467b, hi467q⟩ := idx_some hi467
              refine sY hf hs rfl rfl rfl (Y_index rfl rfl rfl el23 ti2 (Rd.isAt (hR379.at hs) (at1 (ints_at hi467q))) hi467a hi467b) ?_; clear hf; intro a hf
              refine sY hf hs rfl rfl rfl (Y_load_rd rfl rfl (fun w hs => hR379.at hs) (at1 (ints_at hi467q)) ag2) ?_; clear hf; intro a hf
              refine sY hf hs rfl rfl rfl (Y_assign rfl rfl) ?_; clear hf; intro a hf
              refine sY hf hs rfl rfl rfl (Y_assign rfl rfl) ?_; clear hf; intro a hf
              refine wpO_nil ?_
              refine wpL_drawG [.row A1 xs3.length xs3.length 2 1 (ints xs433)] 14 (by kernel_rfl) hs ?_; clear hs; intro w hs
              have hs0 : St [] W w [.row A1 xs3.length xs3.length 2 1 (ints xs433)] := hs
              refine gY (i := 0) [] rfl (by kernel_rfl) (by kernel_rfl) hf hs0 rfl rfl rfl (Y_move rfl rfl) ?_; clear hf; intro a hf
              refine gY (i := 1) [] rfl (by kernel_rfl) (by kernel_rfl) hf hs0 rfl rfl rfl (Y_move rfl rfl) ?_; clear hf; intro a hf
              refine gY (i := 2) [] rfl (by kernel_rfl) (by kernel_rfl) hf hs0 rfl rfl rfl (Y_move rfl rfl) ?_; clear hf; intro a hf
              refine gY (i := 3) [] rfl (by kernel_rfl) (by kernel_rfl) hf hs0 rfl rfl rfl (Y_move rfl rfl) ?_; clear hf; intro a hf
              obtain ⟨q478, hi479, hm463⟩ := bind_some hm463
              obtain ⟨hi479a, hi479b, hi479q⟩ := idx_some hi479
              refine gY (i := 4) [] rfl (by kernel_rfl) (by kernel_rfl) hf hs0 rfl rfl rfl (Y_index rfl rfl rfl el23 ti2 (Rd.isAt (hs0.rd (i := 0) rfl) (at1 (ints_at hi479q))) hi479a (ltn hn434 hi479b)) ?_; clear hf; intro a hf
              refine gY (i := 5) [] rfl (by kernel_rfl) (by kernel_rfl) hf hs0 rfl rfl rfl (Y_load_rd rfl rfl (fun w hs => hs.rd (i := 0) rfl) (at1 (ints_at hi479q)) ag2) ?_; clear hf; intro a hf
              refine gY (i := 6) [] rfl (by kernel_rfl) (by kernel_rfl) hf hs0 rfl rfl rfl (Y_move rfl rfl) ?_; clear hf; intro a hf
              refine gY (i := 7) [] rfl (by kernel_rfl) (by kernel_rfl) hf hs0 rfl rfl rfl (Y_move rfl rfl) ?_; clear hf; intro a hf
              refine gY (i := 8) [] rfl (by kernel_rfl) (by kernel_rfl) hf hs0 rfl rfl rfl (Y_move rfl rfl) ?_; clear hf; intro a hf
              obtain ⟨q480, hi481, hm463⟩ := bind_some hm463
              obtain ⟨hi481a, hi481b, hi481q⟩ := idx_some hi481
              refine gY (i := 9) [] rfl (by kernel_rfl) (by kernel_rfl) hf hs0 rfl rfl rfl (Y_index rfl rfl rfl el23 ti2 (Rd.isAt (h_p1_x_1.at hs0) (at1 (ints_at hi481q))) hi481a hi481b) ?_; clear hf; intro a hf
              refine gY (i := 10) [] rfl (by kernel_rfl) (by kernel_rfl) hf hs0 rfl rfl rfl (Y_load_rd rfl rfl (fun w hs => h_p1_x_1.at hs) (at1 (ints_at hi481q)) ag2) ?_; clear hf; intro a hf
              refine gRun (i := 11) rfl (by kernel_rfl) ?_
              obtain ⟨r482, hc483, hm463⟩ := bind_some hm463
              refine sCall hf rfl rfl rfl rfl (cap := []) rfl rfl en111 (impl_times_ok F q466 q480 _ _ hc483) ?_; clear hf
              rintro _ w ⟨rfl, hs1⟩ a hf
              have hs : St [] W w [.row A1 xs3.length xs3.length 2 1 (ints xs433)] := hs.ext hs1.below
              clear hs1
              have hs0 : St [] W w [.row A1 xs3.length xs3.length 2 1 (ints xs433)] := hs
              refine wpO_nil ⟨Or.inr hs0, ?_⟩
              refine gY (i := 12) [] rfl (by kernel_rfl) (by kernel_rfl) hf hs0 rfl rfl rfl (Y_max rfl rfl rfl) ?_; clear hf; intro a hf
              obtain ⟨q484, hi485, hm463⟩ := bind_some hm463
              obtain ⟨hi485a, hi485b, hi485q⟩ := idx_some hi485
              refine gY (i := 13) [] rfl (by kernel_rfl) (by kernel_rfl) hf hs0 rfl rfl rfl (Y_index rfl rfl rfl el23 ti2 (Rd.isAt (hs0.rd (i := 0) rfl) (at1 (ints_at hi485q))) hi485a (ltn hn434 hi485b)) ?_; clear hf; intro a hf
              refine gRun (i := 14) rfl (by kernel_rfl) ?_
              obtain ⟨xs486, hu487, hm463⟩ := bind_some hm463
              refine sStoreL (i := 0) (us := [.int .i64 (max q478 r482)]) (enc := ints) hf hs rfl rfl rfl rfl rfl rfl hn434 hu487 ti2 rfl rfl rfl rfl rfl ints_len1 (ints_set (max q478 r482)) ?_; clear hs; intro w hs
              have hs : St [] W w [.row A1 xs3.length xs3.length 2 1 (ints xs486)] := hs
              refine wpO_nil ⟨Or.inl rfl, ?_⟩
              refine gDone (by kernel_rfl) ?_
              clear hs0
              refine wpL_nil (Qb_normal ?_)
              refine wpL_region ?_
              refine sY hf hs rfl rfl rfl (Y_add rfl rfl rfl) ?_; clear hf; intro a hf
              refine sY hf hs rfl rfl rfl (Y_move rfl rfl) ?_; clear hf; intro a hf
              refine wpO_nil ?_
              refine wpL_nil (Ql_normal ?_)
              exact ⟨xs486, (IntKind.i64.wrap (x435 + 1)), hm463, ((hn434).trans (upd_len hu487).symm), (Fr.pick (Fr.pick (Fr.pick (Fr.pick (Fr.pick (Fr.pick (Fr.pick (Fr.pick (Fr.pick hf.none hf rfl) hf rfl) hf rfl) hf rfl) hf rfl) hf rfl) hf rfl) hf rfl) hf rfl), hs⟩
            · have hm463 := bif_f hm463 hb465
              refine wpL_exit (Ql_exit (Qb_exit ?_))
              exact ⟨xs433, Option.some.inj hm463, hn434, (Fr.pick (Fr.pick (Fr.pick (Fr.pick (Fr.pick hf.none hf rfl) hf rfl) hf rfl) hf rfl) hf rfl), hs⟩
        · rintro a w ⟨xs459, hr_, hn460, hf, hs⟩
          subst hr_
          try dsimp only at hm368
          refine wpL_nil (Qb_normal ?_)
          refine wpL_region ?_
          refine sY hf hs rfl rfl rfl (Y_add rfl rfl rfl) ?_; clear hf; intro a hf
          refine sY hf hs rfl rfl rfl (Y_move rfl rfl) ?_; clear hf; intro a hf
          refine wpO_nil ?_
          refine wpL_nil (Ql_normal ?_)
          exact ⟨xs459, (IntKind.i64.wrap (x245 + 1)), hm368, hn460, (Fr.pick (Fr.pick (Fr.pick (Fr.pick (Fr.pick hf.none hf rfl) hf rfl) hf rfl) hf rfl) hf rfl), hs⟩
      · have hm368 := bif_f hm368 hb370
        refine wpL_exit (Ql_exit (Qb_exit ?_))
        exact ⟨xs243, Option.some.inj hm368, hn244, (Fr.pick hf.none hf rfl), hs⟩
  · rintro a w ⟨xs364, hr_, hn365, hf, hs⟩
    subst hr_
    try dsimp only at hm
    refine wpL_seq ?_
    refine wpL_region ?_
    refine sY hf hs rfl rfl rfl (Y_move rfl rfl) ?_; clear hf; intro a hf
    refine sY hf hs rfl rfl rfl (Y_assign rfl rfl) ?_; clear hf; intro a hf
    refine wpO_nil ?_
    obtain rfl := Option.some.inj hm
    refine wpL_ret (ret_tmp rfl hf rfl ?_)
    exact ⟨_, rfl, A1, xs3.length, xs3.length, rfl, hn365, hs⟩

set_option maxRecDepth 100000 in
theorem impl_responseOf_ok (F : Nat) (p0_s : GSystem) (A_p0_s_1 : Option Addr) (n_p0_s_1 c_p0_s_1 : Nat) (hn_p0_s_1 : n_p0_s_1 = p0_s.A.length) (A_p0_s_2 : Option Addr) (n_p0_s_2 c_p0_s_2 : Nat) (hn_p0_s_2 : n_p0_s_2 = p0_s.B.length) (A_p0_s_3 : Option Addr) (n_p0_s_3 c_p0_s_3 : Nat) (hn_p0_s_3 : n_p0_s_3 = p0_s.C.length) (p1_n : Int) (r : List Int × Int) (W : World) (hm : impl_responseOf F p0_s p1_n = some r) (h_p0_s_1 : RdM W A_p0_s_1 p0_s.A) (h_p0_s_2 : Rd W A_p0_s_2 (ints p0_s.B)) (h_p0_s_3 : Rd W A_p0_s_3 (ints p0_s.C)) :
    Calls Try.prog 71 [.agg #[.slice A_p0_s_1 n_p0_s_1 c_p0_s_1, .slice A_p0_s_2 n_p0_s_2 c_p0_s_2, .slice A_p0_s_3 n_p0_s_3 c_p0_s_3], .int .i64 p1_n].toArray W fun e w' => ∃ v, e = .returned v ∧ ∃ A220, ∃ n221, ∃ c222, v = .tuple #[.slice A220 n221 c222, .int .i64 r.2] ∧ n221 = r.1.length ∧ St [] W w' [.row A220 n221 c222 2 1 (ints r.1)] := by
  subst hn_p0_s_1
  subst hn_p0_s_2
  subst hn_p0_s_3
  unfold impl_responseOf at hm
  refine Calls.enter (N := 41) Try.func71 rfl rfl rfl (fun a hf => ?_)
  have hs := St.start W
  obtain ⟨w, hw_⟩ : ∃ w, w = W := ⟨W, rfl⟩
  clear hw_ w
  refine wpL_seq ?_
  refine wpL_region ?_
  refine sBox hf hs rfl rfl rfl rfl rfl (cs := [.slice A_p0_s_1 p0_s.A.length c_p0_s_1, .slice A_p0_s_2 p0_s.B.length c_p0_s_2, .slice A_p0_s_3 p0_s.C.length c_p0_s_3]) rfl ?_; clear hf hs; intro a w b1 hs hf
  have hs : St [] W w [.blk b1 29 [.slice A_p0_s_1 p0_s.A.length c_p0_s_1, .slice A_p0_s_2 p0_s.B.length c_p0_s_2, .slice A_p0_s_3 p0_s.C.length c_p0_s_3]] := hs
  refine sY hf hs rfl rfl rfl (Y_assign rfl rfl) ?_; clear hf; intro a hf
  refine sY hf hs rfl rfl rfl (Y_assign rfl rfl) ?_; clear hf; intro a hf
  refine wpO_nil ?_
  refine wpL_seq ?_
  refine wpL_region ?_
  refine sY hf hs rfl rfl rfl (Y_fieldAddr rfl rfl fo29_1) ?_; clear hf; intro a hf
  refine sY hf hs rfl rfl rfl (Y_load_blk rfl rfl (i := 0) rfl rfl ag23) ?_; clear hf; intro a hf
  obtain ⟨r2, hc3, hm⟩ := bind_some hm
  refine sCall hf rfl rfl rfl rfl (cap := []) rfl rfl en84 (slices_Clone_int64_ok F p0_s.B A_p0_s_2 p0_s.B.length c_p0_s_2 rfl _ _ hc3 (h_p0_s_2.at hs)) ?_; clear hf
  rintro _ w ⟨A4, n5, c6, rfl, hn7, hs1⟩ a hf
  have hs : St [] W w [.blk b1 29 [.slice A_p0_s_1 p0_s.A.length c_p0_s_1, .slice A_p0_s_2 p0_s.B.length c_p0_s_2, .slice A_p0_s_3 p0_s.C.length c_p0_s_3], .row A4 n5 c6 2 1 (ints r2)] := hs.join hs1
  clear hs1
  refine sY hf hs rfl rfl rfl (Y_assign rfl rfl) ?_; clear hf; intro a hf
  refine wpO_nil ?_
  refine wpL_seq ?_
  refine wpL_region ?_
  refine sY hf hs rfl rfl rfl (Y_assign rfl rfl) ?_; clear hf; intro a hf
  refine wpO_nil ?_
  refine wpL_seq ?_
  refine wpL_seq ?_
  refine wpL_region ?_
  refine sY hf hs rfl rfl rfl (Y_move rfl rfl) ?_; clear hf; intro a hf
  refine sY hf hs rfl rfl rfl (Y_move rfl rfl) ?_; clear hf; intro a hf
  refine wpO_nil ?_
  obtain ⟨r170, hl171, hm⟩ := bind_some hm
  have hs : St [] W _ [.blk b1 29 [.slice A_p0_s_1 p0_s.A.length c_p0_s_1, .slice A_p0_s_2 p0_s.B.length c_p0_s_2, .slice A_p0_s_3 p0_s.C.length c_p0_s_3], .row A4 n5 c6 2 1 (ints r2), .row none 0 0 2 1 (ints ([] : List Int))] := hs.addNil 2 1
  refine wpL_block (fun a w => ∃ xs165 : List Int, ∃ A166, ∃ n167, ∃ c168, Sum.inr xs165 = r170 ∧ n167 = xs165.length ∧ Fr a 41 [(7, .slice A166 n167 c168)] ∧ St [] W w [.row A166 n167 c168 2 1 (ints xs165)]) ?_ ?_
  · refine wpL_loop (fun n a w => ∃ xs109 : List Int, ∃ xs115 : List Int, ∃ x120 : Int, ∃ A110, ∃ n111, ∃ c112, ∃ A116, ∃ n117, ∃ c118, impl_responseOf_L1 F p0_s p1_n n xs109 xs115 x120 = some r170 ∧ n111 = xs109.length ∧ n117 = xs115.length ∧ Fr a 41 [(2, .pointer (some ⟨b1, 0, none⟩)), (6, .slice A110 n111 c112), (7, .slice A116 n117 c118), (13, .int .i64 p1_n), (14, .int .i64 x120)] ∧ St [] W w [.blk b1 29 [.slice A_p0_s_1 p0_s.A.length c_p0_s_1, .slice A_p0_s_2 p0_s.B.length c_p0_s_2, .slice A_p0_s_3 p0_s.C.length c_p0_s_3], .row A110 n111 c112 2 1 (ints xs109), .row A116 n117 c118 2 1 (ints xs115)]) F ?_ ?_ ?_
    · exact ⟨r2, ([] : List Int), 0, A4, n5, c6, none, 0, 0, hl171, hn7, rfl, (Fr.pick (Fr.pick (Fr.pick (Fr.pick (Fr.pick hf.none hf rfl) hf rfl) hf rfl) hf rfl) hf rfl), hs⟩
    · rintro a w ⟨xs109, xs115, x120, A110, n111, c112, A116, n117, c118, h0_, -, -, -, -⟩; simp [impl_responseOf_L1] at h0_
    · rintro n173 a w ⟨xs109, xs115, x120, A110, n111, c112, A116, n117, c118, hm172, hn113, hn119, hf, hs⟩
      rw [impl_responseOf_L1] at hm172
      refine wpL_seq ?_
      refine wpL_region ?_
      refine sY hf hs rfl rfl rfl (Y_lss rfl rfl rfl) ?_; clear hf; intro a hf
      refine wpO_nil ?_
      refine wpL_seq ?_
      refine wpL_cond hf rfl (fun hb174 => ?_) (fun hb174 => ?_)
      · have hm172 := bif_t hm172 hb174
        refine wpL_skip ?_
        refine wpL_seq ?_
        refine wpL_block0 ?_
        refine wpL_seq ?_
        refine wpL_region ?_
        refine sY hf hs rfl rfl rfl (Y_move rfl rfl) ?_; clear hf; intro a hf
        refine sY hf hs rfl rfl rfl (Y_assign rfl rfl) ?_; clear hf; intro a hf
        refine wpO_nil ?_
        refine wpL_seq ?_
        refine wpL_seq ?_
        refine wpL_region ?_
        refine sY hf hs rfl rfl rfl (Y_move rfl rfl) ?_; clear hf; intro a hf
        refine sY hf hs rfl rfl rfl (Y_gtr rfl rfl rfl) ?_; clear hf; intro a hf
        refine wpO_nil ?_
        obtain ⟨r187, hj188, hm172⟩ := bind_some hm172
        refine wpL_cut (fun a w => ∃ xs182 : List Int, ∃ A183, ∃ n184, ∃ c185, xs182 = r187 ∧ n184 = xs182.length ∧ Fr a 41 [(2, .pointer (some ⟨b1, 0, none⟩)), (6, .slice A183 n184 c185), (7, .slice A116 n117 c118), (13, .int .i64 p1_n), (14, .int .i64 x120)] ∧ St [] W w [.blk b1 29 [.slice A_p0_s_1 p0_s.A.length c_p0_s_1, .slice A_p0_s_2 p0_s.B.length c_p0_s_2, .slice A_p0_s_3 p0_s.C.length c_p0_s_3], .row A183 n184 c185 2 1 (ints xs182), .row A116 n117 c118 2 1 (ints xs115)]) ?_ ?_
        · refine wpL_cond hf rfl (fun hb189 => ?_) (fun hb189 => ?_)
          · have hj188 := bif_t hj188 hb189
            refine wpL_region ?_
            refine sY hf hs rfl rfl rfl (Y_fieldAddr rfl rfl fo29_0) ?_; clear hf; intro a hf
            refine sY hf hs rfl rfl rfl (Y_load_blk rfl rfl (i := 0) rfl rfl ag22) ?_; clear hf; intro a hf
            refine sY hf hs rfl rfl rfl (Y_move rfl rfl) ?_; clear hf; intro a hf
            obtain ⟨r190, hc191, hj188⟩ := bind_some hj188
            refine sCall hf rfl rfl rfl rfl (cap := []) rfl rfl en85 (impl_timesVector_ok F p0_s.A A_p0_s_1 p0_s.A.length c_p0_s_1 rfl xs109 A110 n111 c112 hn113 _ _ hc191 (h_p0_s_1.at hs) (hs.rd (i := 1) rfl)) ?_; clear hf
            rintro _ w ⟨A192, n193, c194, rfl, hn195, hs1⟩ a hf
            have hs : St [] W w [.blk b1 29 [.slice A_p0_s_1 p0_s.A.length c_p0_s_1, .slice A_p0_s_2 p0_s.B.length c_p0_s_2, .slice A_p0_s_3 p0_s.C.length c_p0_s_3], .row A110 n111 c112 2 1 (ints xs109), .row A116 n117 c118 2 1 (ints xs115), .row A192 n193 c194 2 1 (ints r190)] := hs.join hs1
            clear hs1
            refine sY hf hs rfl rfl rfl (Y_assign rfl rfl) ?_; clear hf; intro a hf
            refine wpO_nil ?_
            refine wpL_nil (then_normal ?_)
            exact ⟨r190, A192, n193, c194, Option.some.inj hj188, hn195, (Fr.pick (Fr.pick (Fr.pick (Fr.pick (Fr.pick hf.none hf rfl) hf rfl) hf rfl) hf rfl) hf rfl), hs.sel [0, 3, 2] (by decide)⟩
          · have hj188 := bif_f hj188 hb189
            refine wpL_skip ?_
            refine wpL_nil (then_normal ?_)
            exact ⟨xs109, A110, n111, c112, Option.some.inj hj188, hn113, (Fr.pick (Fr.pick (Fr.pick (Fr.pick (Fr.pick hf.none hf rfl) hf rfl) hf rfl) hf rfl) hf rfl), hs⟩
        · rintro a w ⟨xs182, A183, n184, c185, hr_, hn186, hf, hs⟩
          subst hr_
          try dsimp only at hm172
          refine wpL_seq ?_
          refine wpL_region ?_
          refine sY hf hs rfl rfl rfl (Y_fieldAddr rfl rfl fo29_2) ?_; clear hf; intro a hf
          refine sY hf hs rfl rfl rfl (Y_load_blk rfl rfl (i := 0) rfl rfl ag23) ?_; clear hf; intro a hf
          refine sY hf hs rfl rfl rfl (Y_move rfl rfl) ?_; clear hf; intro a hf
          obtain ⟨r196, hc197, hm172⟩ := bind_some hm172
          refine sCall hf rfl rfl rfl rfl (cap := []) rfl rfl en70 (impl_innerProduct_ok F p0_s.C A_p0_s_3 p0_s.C.length c_p0_s_3 rfl xs182 A183 n184 c185 hn186 _ _ hc197 (h_p0_s_3.at hs) (hs.rd (i := 1) rfl)) ?_; clear hf
          rintro _ w ⟨rfl, hs1⟩ a hf
          have hs : St [] W w [.blk b1 29 [.slice A_p0_s_1 p0_s.A.length c_p0_s_1, .slice A_p0_s_2 p0_s.B.length c_p0_s_2, .slice A_p0_s_3 p0_s.C.length c_p0_s_3], .row A183 n184 c185 2 1 (ints xs182), .row A116 n117 c118 2 1 (ints xs115)] := hs.ext hs1.below
          clear hs1
          refine sY hf hs rfl rfl rfl (Y_assign rfl rfl) ?_; clear hf; intro a hf
          refine wpO_nil ?_
          refine wpL_seq ?_
          refine wpL_seq ?_
          obtain ⟨r204, hj205, hm172⟩ := bind_some hm172
          refine wpL_cut (fun a w => ∃ b203 : Bool, b203 = r204 ∧ Fr a 41 [(2, .pointer (some ⟨b1, 0, none⟩)), (6, .slice A183 n184 c185), (7, .slice A116 n117 c118), (9, .int .i64 r196), (13, .int .i64 p1_n), (14, .int .i64 x120), (34, .bool b203)] ∧ St [] W w [.blk b1 29 [.slice A_p0_s_1 p0_s.A.length c_p0_s_1, .slice A_p0_s_2 p0_s.B.length c_p0_s_2, .slice A_p0_s_3 p0_s.C.length c_p0_s_3], .row A183 n184 c185 2 1 (ints xs182), .row A116 n117 c118 2 1 (ints xs115)]) ?_ ?_
          · refine wpL_region ?_
            refine sY hf hs rfl rfl rfl (Y_move rfl rfl) ?_; clear hf; intro a hf
            obtain ⟨r206, hc207, hj205⟩ := bind_some hj205
            refine sCall hf rfl rfl rfl rfl (cap := []) rfl rfl en86 (impl_areValues_ok F xs182 A183 n184 c185 hn186 _ _ hc207 (hs.rd (i := 1) rfl)) ?_; clear hf
            rintro _ w ⟨rfl, hs1⟩ a hf
            have hs : St [] W w [.blk b1 29 [.slice A_p0_s_1 p0_s.A.length c_p0_s_1, .slice A_p0_s_2 p0_s.B.length c_p0_s_2, .slice A_p0_s_3 p0_s.C.length c_p0_s_3], .row A183 n184 c185 2 1 (ints xs182), .row A116 n117 c118 2 1 (ints xs115)] := hs.ext hs1.below
            clear hs1
            refine sY hf hs rfl rfl rfl (Y_not rfl rfl) ?_; clear hf; intro a hf
            refine sY hf hs rfl rfl rfl (Y_move rfl rfl) ?_; clear hf; intro a hf
            refine bsplit (!r206) (fun hb208 => ?_) (fun hb208 => ?_)
            · have hj205 := bif_t hj205 hb208
              refine sNo hf rfl rfl rfl (congrArg (fun b => some (Value.bool b)) hb208) rfl rfl rfl ?_; clear hf; intro a hf
              refine sNo hf rfl rfl rfl (congrArg (fun b => some (Value.bool b)) hb208) rfl rfl rfl ?_; clear hf; intro a hf
              refine sNo hf rfl rfl rfl (congrArg (fun b => some (Value.bool b)) hb208) rfl rfl rfl ?_; clear hf; intro a hf
              refine sY hf hs rfl rfl rfl (Y_pickT rfl (congrArg (fun b => some (Value.bool b)) hb208) rfl) ?_; clear hf; intro a hf
              refine wpO_nil ?_
              refine wpL_nil (then_normal ?_)
              exact ⟨true, Option.some.inj hj205, (Fr.pick (Fr.pick (Fr.pick (Fr.pick (Fr.pick (Fr.pick (Fr.pick hf.none hf rfl) hf rfl) hf rfl) hf rfl) hf rfl) hf rfl) hf rfl), hs⟩
            · have hj205 := bif_f hj205 hb208
              refine sYg hf hs rfl rfl rfl (congrArg (fun b => some (Value.bool b)) hb208) rfl rfl rfl (Y_move rfl rfl) ?_; clear hf; intro a hf
              obtain ⟨r209, hc210, hj205⟩ := bind_some hj205
              refine sCallg hf rfl rfl rfl (congrArg (fun b => some (Value.bool b)) hb208) rfl rfl rfl rfl (cap := []) rfl rfl en109 (impl_IsValue_ok F r196 _ _ hc210) ?_; clear hf
              rintro _ w ⟨rfl, hs1⟩ a hf
              have hs : St [] W w [.blk b1 29 [.slice A_p0_s_1 p0_s.A.length c_p0_s_1, .slice A_p0_s_2 p0_s.B.length c_p0_s_2, .slice A_p0_s_3 p0_s.C.length c_p0_s_3], .row A183 n184 c185 2 1 (ints xs182), .row A116 n117 c118 2 1 (ints xs115)] := hs.ext hs1.below
              clear hs1
              refine sYg hf hs rfl rfl rfl (congrArg (fun b => some (Value.bool b)) hb208) rfl rfl rfl (Y_not rfl rfl) ?_; clear hf; intro a hf
              refine sY hf hs rfl rfl rfl (Y_pickF rfl (congrArg (fun b => some (Value.bool b)) hb208) rfl) ?_; clear hf; intro a hf
              refine wpO_nil ?_
              refine wpL_nil (then_normal ?_)
              exact ⟨(!r209), Option.some.inj hj205, (Fr.pick (Fr.pick (Fr.pick (Fr.pick (Fr.pick (Fr.pick (Fr.pick hf.none hf rfl) hf rfl) hf rfl) hf rfl) hf rfl) hf rfl) hf rfl), hs⟩
          · rintro a w ⟨b203, hr_, hf, hs⟩
            subst hr_
            try dsimp only at hm172
            refine wpL_cond hf rfl (fun hb211 => ?_) (fun hb211 => ?_)
            · have hm172 := bif_t hm172 hb211
              refine wpL_seq ?_
              refine wpL_region ?_
              refine sY hf hs rfl rfl rfl (Y_assign rfl rfl) ?_; clear hf; intro a hf
              refine sY hf hs rfl rfl rfl (Y_assign rfl rfl) ?_; clear hf; intro a hf
              refine wpO_nil ?_
              have hs : St [] W _ [.blk b1 29 [.slice A_p0_s_1 p0_s.A.length c_p0_s_1, .slice A_p0_s_2 p0_s.B.length c_p0_s_2, .slice A_p0_s_3 p0_s.C.length c_p0_s_3], .row A183 n184 c185 2 1 (ints xs182), .row A116 n117 c118 2 1 (ints xs115), .row none 0 0 2 1 (ints ([] : List Int))] := hs.addNil 2 1
              obtain rfl := Option.some.inj hm172
              try dsimp only at hm
              obtain rfl := Option.some.inj hm
              refine wpL_ret (Qb_ret (Ql_ret (Qb_ret (ret_tmp2 rfl hf rfl rfl ?_))))
              exact ⟨_, rfl, none, 0, 0, rfl, rfl, hs.sel [3] (by decide)⟩
            · have hm172 := bif_f hm172 hb211
              refine wpL_skip ?_
              refine wpL_region ?_
              refine sY hf hs rfl rfl rfl (Y_move rfl rfl) ?_; clear hf; intro a hf
              refine sY hf hs rfl rfl rfl (Y_move rfl rfl) ?_; clear hf; intro a hf
              refine sBuildSlice (parts := [(0, .tmp 36)]) (vs := [.int .i64 r196]) (cells := [.int .i64 r196]) hf hs rfl rfl rfl rfl rfl el23 ti2 rfl rfl rfl rfl ?_; clear hf hs; intro a w A213 hs hA214 hf
              have hs : St [] W w [.blk b1 29 [.slice A_p0_s_1 p0_s.A.length c_p0_s_1, .slice A_p0_s_2 p0_s.B.length c_p0_s_2, .slice A_p0_s_3 p0_s.C.length c_p0_s_3], .row A183 n184 c185 2 1 (ints xs182), .row A116 n117 c118 2 1 (ints xs115), .row A213 1 1 2 1 (ints ([r196]))] := hs
              obtain ⟨xs217, ha218, hm172⟩ := bind_some hm172
              refine sAppendL (i := 2) (xs := xs115) (ys := [r196]) (enc := ints) hf hs rfl rfl rfl rfl rfl rfl hn119 rfl rfl ha218 el23 ti2 rfl rfl rfl (hs.rd (i := 3) rfl) (Nat.succ_pos _) ints_len1 ints_append ints_one ?_; clear hf hs; intro a w A215 c216 hs hf
              have hs : St [] W w [.blk b1 29 [.slice A_p0_s_1 p0_s.A.length c_p0_s_1, .slice A_p0_s_2 p0_s.B.length c_p0_s_2, .slice A_p0_s_3 p0_s.C.length c_p0_s_3], .row A183 n184 c185 2 1 (ints xs182), .row A215 xs217.length c216 2 1 (ints xs217), .row A213 1 1 2 1 (ints ([r196]))] := hs
              refine sY hf hs rfl rfl rfl (Y_assign rfl rfl) ?_; clear hf; intro a hf
              refine wpO_nil ?_
              refine wpL_nil (Qb_normal ?_)
              refine wpL_region ?_
              refine sY hf hs rfl rfl rfl (Y_add rfl rfl rfl) ?_; clear hf; intro a hf
              refine sY hf hs rfl rfl rfl (Y_move rfl rfl) ?_; clear hf; intro a hf
              refine wpO_nil ?_
              refine wpL_nil (Ql_normal ?_)
              exact ⟨xs182, xs217, (IntKind.i64.wrap (x120 + 1)), A183, n184, c185, A215, xs217.length, c216, hm172, hn186, rfl, (Fr.pick (Fr.pick (Fr.pick (Fr.pick (Fr.pick hf.none hf rfl) hf rfl) hf rfl) hf rfl) hf rfl), hs.sel [0, 1, 2] (by decide)⟩
      · have hm172 := bif_f hm172 hb174
        refine wpL_exit (Ql_exit (Qb_exit ?_))
        exact ⟨xs115, A116, n117, c118, Option.some.inj hm172, hn119, (Fr.pick hf.none hf rfl), hs.sel [2] (by decide)⟩
  · rintro a w ⟨xs165, A166, n167, c168, hr_, hn169, hf, hs⟩
    subst hr_
    try dsimp only at hm
    refine wpL_seq ?_
    refine wpL_region ?_
    refine sY hf hs rfl rfl rfl (Y_move rfl rfl) ?_; clear hf; intro a hf
    refine sY hf hs rfl rfl rfl (Y_assign rfl rfl) ?_; clear hf; intro a hf
    refine sY hf hs rfl rfl rfl (Y_assign rfl rfl) ?_; clear hf; intro a hf
    refine wpO_nil ?_
    obtain rfl := Option.some.inj hm
    refine wpL_ret (ret_tmp2 rfl hf rfl rfl ?_)
    exact ⟨_, rfl, A166, n167, c168, rfl, hn169, hs⟩

set_option maxRecDepth 100000 in
theorem impl_checkedVector_ok (F : Nat) (p0_x : List Int) (A_p0_x_1 : Option Addr) (n_p0_x_1 c_p0_x_1 : Nat) (hn_p0_x_1 : n_p0_x_1 = p0_x.length) (r : List Int × Int) (W : World) (hm : impl_checkedVector F p0_x = some r) (h_p0_x_1 : Rd W A_p0_x_1 (ints p0_x)) :
    Calls Try.prog 72 [.slice A_p0_x_1 n_p0_x_1 c_p0_x_1].toArray W fun e w' => ∃ v, e = .returned v ∧ ∃ A4, ∃ n5, ∃ c6, v = .tuple #[.slice A4 n5 c6, .int .i64 r.2] ∧ n5 = r.1.length ∧ Al A_p0_x_1 n_p0_x_1 c_p0_x_1 p0_x A4 n5 c6 r.1 ∧ St [] W w' [] := by
  subst hn_p0_x_1
  unfold impl_checkedVector at hm
  refine Calls.enter (N := 8) Try.func72 rfl rfl rfl (fun a hf => ?_)
  have hs := St.start W
  obtain ⟨w, hw_⟩ : ∃ w, w = W := ⟨W, rfl⟩
  clear hw_ w
  refine wpL_seq ?_
  refine wpL_region ?_
  refine sY hf hs rfl rfl rfl (Y_assign rfl rfl) ?_; clear hf; intro a hf
  refine sY hf hs rfl rfl rfl (Y_assign rfl rfl) ?_; clear hf; intro a hf
  refine wpO_nil ?_
  refine wpL_seq ?_
  refine wpL_seq ?_
  refine wpL_region ?_
  refine sY hf hs rfl rfl rfl (Y_move rfl rfl) ?_; clear hf; intro a hf
  obtain ⟨r1, hc2, hm⟩ := bind_some hm
  refine sCall hf rfl rfl rfl rfl (cap := []) rfl rfl en86 (impl_areValues_ok F p0_x A_p0_x_1 p0_x.length c_p0_x_1 rfl _ _ hc2 (h_p0_x_1.at hs)) ?_; clear hf
  rintro _ w ⟨rfl, hs1⟩ a hf
  have hs : St [] W w [] := hs.ext hs1.below
  clear hs1
  refine sY hf hs rfl rfl rfl (Y_not rfl rfl) ?_; clear hf; intro a hf
  refine wpO_nil ?_
  refine wpL_cond hf rfl (fun hb3 => ?_) (fun hb3 => ?_)
  · have hm := bif_t hm hb3
    refine wpL_seq ?_
    refine wpL_region ?_
    refine sY hf hs rfl rfl rfl (Y_assign rfl rfl) ?_; clear hf; intro a hf
    refine sY hf hs rfl rfl rfl (Y_assign rfl rfl) ?_; clear hf; intro a hf
    refine wpO_nil ?_
    obtain rfl := Option.some.inj hm
    refine wpL_ret (ret_tmp2 rfl hf rfl rfl ?_)
    exact ⟨_, rfl, none, 0, 0, rfl, rfl, .inr ⟨rfl, rfl, rfl, rfl⟩, hs⟩
  · have hm := bif_f hm hb3
    refine wpL_skip ?_
    refine wpL_seq ?_
    refine wpL_region ?_
    refine sY hf hs rfl rfl rfl (Y_move rfl rfl) ?_; clear hf; intro a hf
    refine sY hf hs rfl rfl rfl (Y_assign rfl rfl) ?_; clear hf; intro a hf
    refine sY hf hs rfl rfl rfl (Y_assign rfl rfl) ?_; clear hf; intro a hf
    refine wpO_nil ?_
    obtain rfl := Option.some.inj hm
    refine wpL_ret (ret_tmp2 rfl hf rfl rfl ?_)
    exact ⟨_, rfl, A_p0_x_1, p0_x.length, c_p0_x_1, rfl, rfl, .inl ⟨rfl, rfl, rfl, rfl⟩, hs⟩

set_option maxRecDepth 100000 in
theorem impl_LatestInputs_ok (F : Nat) (p0 : GSystem) (A_p0_1 : Option Addr) (n_p0_1 c_p0_1 : Nat) (hn_p0_1 : n_p0_1 = p0.A.length) (A_p0_2 : Option Addr) (n_p0_2 c_p0_2 : Nat) (hn_p0_2 : n_p0_2 = p0.B.length) (A_p0_3 : Option Addr) (n_p0_3 c_p0_3 : Nat) (hn_p0_3 : n_p0_3 = p0.C.length) (p1 : List Int) (A_p1_1 : Option Addr) (n_p1_1 c_p1_1 : Nat) (hn_p1_1 : n_p1_1 = p1.length) (r : List Int × Int) (W : World) (hm : impl_LatestInputs F p0 p1 = some r) (h_p0_1 : RdM W A_p0_1 p0.A) (h_p0_2 : Rd W A_p0_2 (ints p0.B)) (h_p0_3 : Rd W A_p0_3 (ints p0.C)) (h_p1_1 : Rd W A_p1_1 (ints p1)) :
    Calls Try.prog 19 [.agg #[.slice A_p0_1 n_p0_1 c_p0_1, .slice A_p0_2 n_p0_2 c_p0_2, .slice A_p0_3 n_p0_3 c_p0_3], .slice A_p1_1 n_p1_1 c_p1_1].toArray W fun e w' => ∃ v, e = .returned v ∧ ∃ A553, ∃ n554, ∃ c555, v = .tuple #[.slice A553 n554 c555, .int .i64 r.2] ∧ n554 = r.1.length ∧ St [] W w' [.row A553 n554 c555 2 1 (ints r.1)] := by
  subst hn_p0_1
  subst hn_p0_2
  subst hn_p0_3
  subst hn_p1_1
  unfold impl_LatestInputs at hm
  refine Calls.enter (N := 97) Try.func19 rfl rfl rfl (fun a hf => ?_)
  have hs := St.start W
  obtain ⟨w, hw_⟩ : ∃ w, w = W := ⟨W, rfl⟩
  clear hw_ w
  refine wpL_seq ?_
  refine wpL_region ?_
  refine sBox hf hs rfl rfl rfl rfl rfl (cs := [.slice A_p0_1 p0.A.length c_p0_1, .slice A_p0_2 p0.B.length c_p0_2, .slice A_p0_3 p0.C.length c_p0_3]) rfl ?_; clear hf hs; intro a w b1 hs hf
  have hs : St [] W w [.blk b1 29 [.slice A_p0_1 p0.A.length c_p0_1, .slice A_p0_2 p0.B.length c_p0_2, .slice A_p0_3 p0.C.length c_p0_3]] := hs
  refine sY hf hs rfl rfl rfl (Y_assign rfl rfl) ?_; clear hf; intro a hf
  refine sY hf hs rfl rfl rfl (Y_assign rfl rfl) ?_; clear hf; intro a hf
  refine wpO_nil ?_
  refine wpL_seq ?_
  refine wpL_seq ?_
  obtain ⟨r9, hj10, hm⟩ := bind_some hm
  refine wpL_cut (fun a w => ∃ b8 : Bool, b8 = r9 ∧ Fr a 97 [(1, .slice A_p1_1 p1.length c_p1_1), (2, .pointer (some ⟨b1, 0, none⟩)), (23, .bool b8)] ∧ St [] W w [.blk b1 29 [.slice A_p0_1 p0.A.length c_p0_1, .slice A_p0_2 p0.B.length c_p0_2, .slice A_p0_3 p0.C.length c_p0_3]]) ?_ ?_
  · refine wpL_region ?_
    refine sY hf hs rfl rfl rfl (Y_load_blkS rfl rfl (i := 0) rfl ag29 ti29 rfl) ?_; clear hf; intro a hf
    obtain ⟨r11, hc12, hj10⟩ := bind_some hj10
    refine sCall hf rfl rfl rfl rfl (cap := []) rfl rfl en68 (impl_IsSystem_ok F p0 A_p0_1 p0.A.length c_p0_1 rfl A_p0_2 p0.B.length c_p0_2 rfl A_p0_3 p0.C.length c_p0_3 rfl _ _ hc12 (h_p0_1.at hs) (h_p0_2.at hs) (h_p0_3.at hs)) ?_; clear hf
    rintro _ w ⟨rfl, hs1⟩ a hf
    have hs : St [] W w [.blk b1 29 [.slice A_p0_1 p0.A.length c_p0_1, .slice A_p0_2 p0.B.length c_p0_2, .slice A_p0_3 p0.C.length c_p0_3]] := hs.ext hs1.below
    clear hs1
    refine sY hf hs rfl rfl rfl (Y_not rfl rfl) ?_; clear hf; intro a hf
    refine sY hf hs rfl rfl rfl (Y_move rfl rfl) ?_; clear hf; intro a hf
    refine bsplit (!r11) (fun hb13 => ?_) (fun hb13 => ?_)
    · have hj10 := bif_t hj10 hb13
      refine sNo hf rfl rfl rfl (congrArg (fun b => some (Value.bool b)) hb13) rfl rfl rfl ?_; clear hf; intro a hf
      refine sNo hf rfl rfl rfl (congrArg (fun b => some (Value.bool b)) hb13) rfl rfl rfl ?_; clear hf; intro a hf
      refine sNo hf rfl rfl rfl (congrArg (fun b => some (Value.bool b)) hb13) rfl rfl rfl ?_; clear hf; intro a hf
      refine sY hf hs rfl rfl rfl (Y_pickT rfl (congrArg (fun b => some (Value.bool b)) hb13) rfl) ?_; clear hf; intro a hf
      refine sY hf hs rfl rfl rfl (Y_move rfl rfl) ?_; clear hf; intro a hf
      refine sNo hf rfl rfl rfl rfl rfl rfl rfl ?_; clear hf; intro a hf
      refine sNo hf rfl rfl rfl rfl rfl rfl rfl ?_; clear hf; intro a hf
      refine sNo hf rfl rfl rfl rfl rfl rfl rfl ?_; clear hf; intro a hf
      refine sY hf hs rfl rfl rfl (Y_pickT rfl rfl rfl) ?_; clear hf; intro a hf
      refine wpO_nil ?_
      refine wpL_nil (then_normal ?_)
      exact ⟨true, Option.some.inj hj10, (Fr.pick (Fr.pick (Fr.pick hf.none hf rfl) hf rfl) hf rfl), hs⟩
    · have hj10 := bif_f hj10 hb13
      refine sYg hf hs rfl rfl rfl (congrArg (fun b => some (Value.bool b)) hb13) rfl rfl rfl (Y_move rfl rfl) ?_; clear hf; intro a hf
      refine sYg hf hs rfl rfl rfl (congrArg (fun b => some (Value.bool b)) hb13) rfl rfl rfl (Y_lenH rfl rfl el23 rfl) ?_; clear hf; intro a hf
      refine sYg hf hs rfl rfl rfl (congrArg (fun b => some (Value.bool b)) hb13) rfl rfl rfl (Y_gtr rfl rfl rfl) ?_; clear hf; intro a hf
      refine sY hf hs rfl rfl rfl (Y_pickF rfl (congrArg (fun b => some (Value.bool b)) hb13) rfl) ?_; clear hf; intro a hf
      refine sY hf hs rfl rfl rfl (Y_move rfl rfl) ?_; clear hf; intro a hf
      refine bsplit (decide (50 < (p1.length : Int))) (fun hb14 => ?_) (fun hb14 => ?_)
      · have hj10 := bif_t hj10 hb14
        refine sNo hf rfl rfl rfl (congrArg (fun b => some (Value.bool b)) hb14) rfl rfl rfl ?_; clear hf; intro a hf
        refine sNo hf rfl rfl rfl (congrArg (fun b => some (Value.bool b)) hb14) rfl rfl rfl ?_; clear hf; intro a hf
        refine sNo hf rfl rfl rfl (congrArg (fun b => some (Value.bool b)) hb14) rfl rfl rfl ?_; clear hf; intro a hf
        refine sY hf hs rfl rfl rfl (Y_pickT rfl (congrArg (fun b => some (Value.bool b)) hb14) rfl) ?_; clear hf; intro a hf
        refine wpO_nil ?_
        refine wpL_nil (then_normal ?_)
        exact ⟨true, Option.some.inj hj10, (Fr.pick (Fr.pick (Fr.pick hf.none hf rfl) hf rfl) hf rfl), hs⟩
      · have hj10 := bif_f hj10 hb14
        refine sYg hf hs rfl rfl rfl (congrArg (fun b => some (Value.bool b)) hb14) rfl rfl rfl (Y_move rfl rfl) ?_; clear hf; intro a hf
        obtain ⟨r15, hc16, hj10⟩ := bind_some hj10
        refine sCallg hf rfl rfl rfl (congrArg (fun b => some (Value.bool b)) hb14) rfl rfl rfl rfl (cap := []) rfl rfl en69 (impl_allWithin_ok F p1 A_p1_1 p1.length c_p1_1 rfl (-1000000) 1000000 _ _ hc16 (h_p1_1.at hs)) ?_; clear hf
        rintro _ w ⟨rfl, hs1⟩ a hf
        have hs : St [] W w [.blk b1 29 [.slice A_p0_1 p0.A.length c_p0_1, .slice A_p0_2 p0.B.length c_p0_2, .slice A_p0_3 p0.C.length c_p0_3]] := hs.ext hs1.below
        clear hs1
        refine sYg hf hs rfl rfl rfl (congrArg (fun b => some (Value.bool b)) hb14) rfl rfl rfl (Y_not rfl rfl) ?_; clear hf; intro a hf
        refine sY hf hs rfl rfl rfl (Y_pickF rfl (congrArg (fun b => some (Value.bool b)) hb14) rfl) ?_; clear hf; intro a hf
        refine wpO_nil ?_
        refine wpL_nil (then_normal ?_)
        exact ⟨(!r15), Option.some.inj hj10, (Fr.pick (Fr.pick (Fr.pick hf.none hf rfl) hf rfl) hf rfl), hs⟩
  · rintro a w ⟨b8, hr_, hf, hs⟩
    subst hr_
    try dsimp only at hm
    refine wpL_cond hf rfl (fun hb17 => ?_) (fun hb17 => ?_)
    · have hm := bif_t hm hb17
      refine wpL_seq ?_
      refine wpL_region ?_
      refine sY hf hs rfl rfl rfl (Y_assign rfl rfl) ?_; clear hf; intro a hf
      refine sY hf hs rfl rfl rfl (Y_assign rfl rfl) ?_; clear hf; intro a hf
      refine wpO_nil ?_
      have hs : St [] W _ [.blk b1 29 [.slice A_p0_1 p0.A.length c_p0_1, .slice A_p0_2 p0.B.length c_p0_2, .slice A_p0_3 p0.C.length c_p0_3], .row none 0 0 2 1 (ints ([] : List Int))] := hs.addNil 2 1
      obtain rfl := Option.some.inj hm
      refine wpL_ret (ret_tmp2 rfl hf rfl rfl ?_)
      exact ⟨_, rfl, none, 0, 0, rfl, rfl, hs.sel [1] (by decide)⟩
    · have hm := bif_f hm hb17
      refine wpL_skip ?_
      refine wpL_seq ?_
      refine wpL_seq ?_
      refine wpL_region ?_
      refine sY hf hs rfl rfl rfl (Y_fieldAddr rfl rfl fo29_2) ?_; clear hf; intro a hf
      refine sY hf hs rfl rfl rfl (Y_load_blk rfl rfl (i := 0) rfl rfl ag23) ?_; clear hf; intro a hf
      refine sY hf hs rfl rfl rfl (Y_fieldAddr rfl rfl fo29_1) ?_; clear hf; intro a hf
      refine sY hf hs rfl rfl rfl (Y_load_blk rfl rfl (i := 0) rfl rfl ag23) ?_; clear hf; intro a hf
      obtain ⟨r19, hc20, hm⟩ := bind_some hm
      refine sCall hf rfl rfl rfl rfl (cap := []) rfl rfl en70 (impl_innerProduct_ok F p0.C A_p0_3 p0.C.length c_p0_3 rfl p0.B A_p0_2 p0.B.length c_p0_2 rfl _ _ hc20 (h_p0_3.at hs) (h_p0_2.at hs)) ?_; clear hf
      rintro _ w ⟨rfl, hs1⟩ a hf
      have hs : St [] W w [.blk b1 29 [.slice A_p0_1 p0.A.length c_p0_1, .slice A_p0_2 p0.B.length c_p0_2, .slice A_p0_3 p0.C.length c_p0_3]] := hs.ext hs1.below
      clear hs1
      refine sY hf hs rfl rfl rfl (Y_eql rfl rfl rfl) ?_; clear hf; intro a hf
      refine wpO_nil ?_
      refine wpL_cond hf rfl (fun hb21 => ?_) (fun hb21 => ?_)
      · have hm := bif_t hm hb21
        refine wpL_seq ?_
        refine wpL_region ?_
        refine sY hf hs rfl rfl rfl (Y_assign rfl rfl) ?_; clear hf; intro a hf
        refine sY hf hs rfl rfl rfl (Y_assign rfl rfl) ?_; clear hf; intro a hf
        refine wpO_nil ?_
        have hs : St [] W _ [.blk b1 29 [.slice A_p0_1 p0.A.length c_p0_1, .slice A_p0_2 p0.B.length c_p0_2, .slice A_p0_3 p0.C.length c_p0_3], .row none 0 0 2 1 (ints ([] : List Int))] := hs.addNil 2 1
        obtain rfl := Option.some.inj hm
        refine wpL_ret (ret_tmp2 rfl hf rfl rfl ?_)
        exact ⟨_, rfl, none, 0, 0, rfl, rfl, hs.sel [1] (by decide)⟩
      · have hm := bif_f hm hb21
        refine wpL_skip ?_
        refine wpL_seq ?_
        refine wpL_region ?_
        refine sY hf hs rfl rfl rfl (Y_load_blkS rfl rfl (i := 0) rfl ag29 ti29 rfl) ?_; clear hf; intro a hf
        refine sY hf hs rfl rfl rfl (Y_move rfl rfl) ?_; clear hf; intro a hf
        refine sY hf hs rfl rfl rfl (Y_lenH rfl rfl el23 rfl) ?_; clear hf; intro a hf
        obtain ⟨r23, hc24, hm⟩ := bind_some hm
        refine sCall hf rfl rfl rfl rfl (cap := []) rfl rfl en71 (impl_responseOf_ok F p0 A_p0_1 p0.A.length c_p0_1 rfl A_p0_2 p0.B.length c_p0_2 rfl A_p0_3 p0.C.length c_p0_3 rfl (p1.length : Int) _ _ hc24 (h_p0_1.at hs) (h_p0_2.at hs) (h_p0_3.at hs)) ?_; clear hf
        rintro _ w ⟨A25, n26, c27, rfl, hn28, hs1⟩ a hf
        have hs : St [] W w [.blk b1 29 [.slice A_p0_1 p0.A.length c_p0_1, .slice A_p0_2 p0.B.length c_p0_2, .slice A_p0_3 p0.C.length c_p0_3], .row A25 n26 c27 2 1 (ints r23.1)] := hs.join hs1
        clear hs1
        refine sY hf hs rfl rfl rfl (Y_move rfl rfl) ?_; clear hf; intro a hf
        refine sY hf hs rfl rfl rfl (Y_extract rfl rfl rfl) ?_; clear hf; intro a hf
        refine sY hf hs rfl rfl rfl (Y_extract rfl rfl rfl) ?_; clear hf; intro a hf
        refine sY hf hs rfl rfl rfl (Y_assign rfl rfl) ?_; clear hf; intro a hf
        refine sY hf hs rfl rfl rfl (Y_assign rfl rfl) ?_; clear hf; intro a hf
        refine wpO_nil ?_
        refine wpL_seq ?_
        refine wpL_seq ?_
        refine wpL_region ?_
        refine sY hf hs rfl rfl rfl (Y_move rfl rfl) ?_; clear hf; intro a hf
        refine sY hf hs rfl rfl rfl (Y_neq rfl rfl rfl) ?_; clear hf; intro a hf
        refine wpO_nil ?_
        refine wpL_cond hf rfl (fun hb29 => ?_) (fun hb29 => ?_)
        · have hm := bif_t hm hb29
          refine wpL_seq ?_
          refine wpL_region ?_
          refine sY hf hs rfl rfl rfl (Y_move rfl rfl) ?_; clear hf; intro a hf
          refine sY hf hs rfl rfl rfl (Y_assign rfl rfl) ?_; clear hf; intro a hf
          refine sY hf hs rfl rfl rfl (Y_assign rfl rfl) ?_; clear hf; intro a hf
          refine wpO_nil ?_
          have hs : St [] W _ [.blk b1 29 [.slice A_p0_1 p0.A.length c_p0_1, .slice A_p0_2 p0.B.length c_p0_2, .slice A_p0_3 p0.C.length c_p0_3], .row A25 n26 c27 2 1 (ints r23.1), .row none 0 0 2 1 (ints ([] : List Int))] := hs.addNil 2 1
          obtain rfl := Option.some.inj hm
          refine wpL_ret (ret_tmp2 rfl hf rfl rfl ?_)
          exact ⟨_, rfl, none, 0, 0, rfl, rfl, hs.sel [2] (by decide)⟩
        · have hm := bif_f hm hb29
          refine wpL_skip ?_
          refine wpL_seq ?_
          refine wpL_region ?_
          refine sY hf hs rfl rfl rfl (Y_move rfl rfl) ?_; clear hf; intro a hf
          refine sY hf hs rfl rfl rfl (Y_lenH rfl rfl el23 rfl) ?_; clear hf; intro a hf
          obtain ⟨xs33, hk32, hm⟩ := bind_some hm
          refine sMakeL (enc := ints) hf hs rfl rfl rfl rfl rfl hk32 el23 ti2 rfl ints_made ?_; clear hf hs; intro a w A31 hs hf
          have hs : St [] W w [.blk b1 29 [.slice A_p0_1 p0.A.length c_p0_1, .slice A_p0_2 p0.B.length c_p0_2, .slice A_p0_3 p0.C.length c_p0_3], .row A25 n26 c27 2 1 (ints r23.1), .row A31 xs33.length xs33.length 2 1 (ints xs33)] := hs
          refine sY hf hs rfl rfl rfl (Y_assign rfl rfl) ?_; clear hf; intro a hf
          refine wpO_nil ?_
          refine wpL_seq ?_
          refine wpL_seq ?_
          refine wpL_region ?_
          refine sY hf hs rfl rfl rfl (Y_move rfl rfl) ?_; clear hf; intro a hf
          refine sY hf hs rfl rfl rfl (Y_lenH rfl rfl el23 rfl) ?_; clear hf; intro a hf
          refine sY hf hs rfl rfl rfl (Y_move rfl rfl) ?_; clear hf; intro a hf
          refine wpO_nil ?_
          obtain ⟨r417, hl418, hm⟩ := bind_some hm
          refine wpL_block (fun a w => ∃ xs415 : List Int, xs415 = r417 ∧ xs33.length = xs415.length ∧ Fr a 97 [(8, .slice A31 xs33.length xs33.length)] ∧ St [] W w [.row A31 xs33.length xs33.length 2 1 (ints xs415)]) ?_ ?_
          · refine wpL_loop (fun n a w => ∃ xs287 : List Int, ∃ x289 : Int, impl_LatestInputs_L4 F p1 r23 xs33 n xs287 x289 = some r417 ∧ xs33.length = xs287.length ∧ Fr a 97 [(1, .slice A_p1_1 p1.length c_p1_1), (6, .slice A25 n26 c27), (8, .slice A31 xs33.length xs33.length), (44, .int .i64 (xs33.length : Int)), (45, .int .i64 x289)] ∧ St [] W w [.row A25 n26 c27 2 1 (ints r23.1), .row A31 xs33.length xs33.length 2 1 (ints xs287)]) F ?_ ?_ ?_
            · exact ⟨xs33, 0, hl418, rfl, (Fr.pick (Fr.pick (Fr.pick (Fr.pick (Fr.pick hf.none hf rfl) hf rfl) hf rfl) hf rfl) hf rfl), hs.sel [1, 2] (by decide)⟩
            · rintro a w ⟨xs287, x289, h0_, -, -, -⟩; simp [impl_LatestInputs_L4] at h0_
            · rintro n420 a w ⟨xs287, x289, hm419, hn288, hf, hs⟩
              rw [impl_LatestInputs_L4] at hm419
              refine wpL_seq ?_
              refine wpL_region ?_
              refine sY hf hs rfl rfl rfl (Y_lss rfl rfl rfl) ?_; clear hf; intro a hf
              refine wpO_nil ?_
              refine wpL_seq ?_
              refine wpL_cond hf rfl (fun hb421 => ?_) (fun hb421 => ?_)
              · have hm419 := bif_t hm419 hb421
                refine wpL_skip ?_
                refine wpL_seq ?_
                refine wpL_block0 ?_
                refine wpL_seq ?_
                refine wpL_region ?_
                refine sY hf hs rfl rfl rfl (Y_move rfl rfl) ?_; clear hf; intro a hf
                refine sY hf hs rfl rfl rfl (Y_assign rfl rfl) ?_; clear hf; intro a hf
                refine wpO_nil ?_
                refine wpL_seq ?_
                refine wpL_drawG [.row A25 n26 c27 2 1 (ints r23.1), .row A31 xs33.length xs33.length 2 1 (ints xs287)] 11 (by kernel_rfl) hs ?_; clear hs; intro w hs
                have hs0 : St [] W w [.row A25 n26 c27 2 1 (ints r23.1), .row A31 xs33.length xs33.length 2 1 (ints xs287)] := hs
                refine gY (i := 0) [] rfl (by kernel_rfl) (by kernel_rfl) hf hs0 rfl rfl rfl (Y_move rfl rfl) ?_; clear hf; intro a hf
                refine gY (i := 1) [] rfl (by kernel_rfl) (by kernel_rfl) hf hs0 rfl rfl rfl (Y_move rfl rfl) ?_; clear hf; intro a hf
                refine gY (i := 2) [] rfl (by kernel_rfl) (by kernel_rfl) hf hs0 rfl rfl rfl (Y_move rfl rfl) ?_; clear hf; intro a hf
                refine gY (i := 3) [] rfl (by kernel_rfl) (by kernel_rfl) hf hs0 rfl rfl rfl (Y_move rfl rfl) ?_; clear hf; intro a hf
                obtain ⟨q430, hi431, hm419⟩ := bind_some hm419
                obtain ⟨hi431a, hi431b, hi431q⟩ := idx_some hi431
                refine gY (i := 4) [] rfl (by kernel_rfl) (by kernel_rfl) hf hs0 rfl rfl rfl (Y_index rfl rfl rfl el23 ti2 (Rd.isAt (h_p1_1.at hs0) (at1 (ints_at hi431q))) hi431a hi431b) ?_; clear hf; intro a hf
                refine gY (i := 5) [] rfl (by kernel_rfl) (by kernel_rfl) hf hs0 rfl rfl rfl (Y_load_rd rfl rfl (fun w hs => h_p1_1.at hs) (at1 (ints_at hi431q)) ag2) ?_; clear hf; intro a hf
                refine gY (i := 6) [] rfl (by kernel_rfl) (by kernel_rfl) hf hs0 rfl rfl rfl (Y_move rfl rfl) ?_; clear hf; intro a hf
                obtain ⟨q432, hi433, hm419⟩ := bind_some hm419
                obtain ⟨hi433a, hi433b, hi433q⟩ := idx_some hi433
                refine gY (i := 7) [] rfl (by kernel_rfl) (by kernel_rfl) hf hs0 rfl rfl rfl (Y_index rfl rfl rfl el23 ti2 (Rd.isAt (hs0.rd (i := 0) rfl) (at1 (ints_at hi433q))) hi433a (ltn hn28 hi433b)) ?_; clear hf; intro a hf
                refine gY (i := 8) [] rfl (by kernel_rfl) (by kernel_rfl) hf hs0 rfl rfl rfl (Y_load_rd rfl rfl (fun w hs => hs.rd (i := 0) rfl) (at1 (ints_at hi433q)) ag2) ?_; clear hf; intro a hf
                refine gY (i := 9) [] rfl (by kernel_rfl) (by kernel_rfl) hf hs0 rfl rfl rfl (Y_sub rfl rfl rfl) ?_; clear hf; intro a hf
                obtain ⟨q434, hi435, hm419⟩ := bind_some hm419
                obtain ⟨hi435a, hi435b, hi435q⟩ := idx_some hi435
                refine gY (i := 10) [] rfl (by kernel_rfl) (by kernel_rfl) hf hs0 rfl rfl rfl (Y_index rfl rfl rfl el23 ti2 (Rd.isAt (hs0.rd (i := 1) rfl) (at1 (ints_at hi435q))) hi435a (ltn hn288 hi435b)) ?_; clear hf; intro a hf
                refine gRun (i := 11) rfl (by kernel_rfl) ?_
                obtain ⟨xs436, hu437, hm419⟩ := bind_some hm419
                refine sStoreL (i := 1) (us := [.int .i64 (IntKind.i64.wrap (q430 - q432))]) (enc := ints) hf hs rfl rfl rfl rfl rfl rfl hn288 hu437 ti2 rfl rfl rfl rfl rfl ints_len1 (ints_set (IntKind.i64.wrap (q430 - q432))) ?_; clear hs; intro w hs
                have hs : St [] W w [.row A25 n26 c27 2 1 (ints r23.1), .row A31 xs33.length xs33.length 2 1 (ints xs436)] := hs
                refine wpO_nil ⟨Or.inl rfl, ?_⟩
                refine gDone (by kernel_rfl) ?_
                clear hs0
                refine wpL_seq ?_
                refine wpL_region ?_
                refine sY hf hs rfl rfl rfl (Y_move rfl rfl) ?_; clear hf; intro a hf
                refine sY hf hs rfl rfl rfl (Y_assign rfl rfl) ?_; clear hf; intro a hf
                refine wpO_nil ?_
                obtain ⟨r518, hl519, hm419⟩ := bind_some hm419
                refine wpL_block (fun a w => ∃ xs516 : List Int, xs516 = r518 ∧ xs33.length = xs516.length ∧ Fr a 97 [(1, .slice A_p1_1 p1.length c_p1_1), (6, .slice A25 n26 c27), (8, .slice A31 xs33.length xs33.length), (44, .int .i64 (xs33.length : Int)), (45, .int .i64 x289)] ∧ St [] W w [.row A25 n26 c27 2 1 (ints r23.1), .row A31 xs33.length xs33.length 2 1 (ints xs516)]) ?_ ?_
                · refine wpL_loop (fun n a w => ∃ xs489 : List Int, ∃ x491 : Int, impl_LatestInputs_L5 F p1 r23 x289 n xs489 x491 = some r518 ∧ xs33.length = xs489.length ∧ Fr a 97 [(1, .slice A_p1_1 p1.length c_p1_1), (6, .slice A25 n26 c27), (8, .slice A31 xs33.length xs33.length), (9, .int .i64 x289), (10, .int .i64 x491), (44, .int .i64 (xs33.length : Int)), (45, .int .i64 x289)] ∧ St [] W w [.row A25 n26 c27 2 1 (ints r23.1), .row A31 xs33.length xs33.length 2 1 (ints xs489)]) F ?_ ?_ ?_
                  · exact ⟨xs436, x289, hl519, ((hn288).trans (upd_len hu437).symm), (Fr.pick (Fr.pick (Fr.pick (Fr.pick (Fr.pick (Fr.pick (Fr.pick hf.none hf rfl) hf rfl) hf rfl) hf rfl) hf rfl) hf rfl) hf rfl), hs⟩
                  · rintro a w ⟨xs489, x491, h0_, -, -, -⟩; simp [impl_LatestInputs_L5] at h0_
                  · rintro n521 a w ⟨xs489, x491, hm520, hn490, hf, hs⟩
                    rw [impl_LatestInputs_L5] at hm520
                    refine wpL_seq ?_
                    refine wpL_seq ?_
                    refine wpL_region ?_
                    refine sY hf hs rfl rfl rfl (Y_move rfl rfl) ?_; clear hf; intro a hf
                    refine sY hf hs rfl rfl rfl (Y_move rfl rfl) ?_; clear hf; intro a hf
                    refine sY hf hs rfl rfl rfl (Y_lenH rfl rfl el23 rfl) ?_; clear hf; intro a hf
                    refine sY hf hs rfl rfl rfl (Y_lss rfl rfl rfl) ?_; clear hf; intro a hf
                    refine wpO_nil ?_
                    refine wpL_cond hf rfl (fun hb522 => ?_) (fun hb522 => ?_)
                    · have hm520 := bif_t hm520 hb522
                      refine wpL_skip ?_
                      refine wpL_seq ?_
                      refine wpL_block0 ?_
                      refine wpL_seq ?_
                      refine wpL_region ?_
                      refine sY hf hs rfl rfl rfl (Y_move rfl rfl) ?_; clear hf; intro a hf
                      refine sY hf hs rfl rfl rfl (Y_move rfl rfl) ?_; clear hf; intro a hf
                      refine sY hf hs rfl rfl rfl (Y_move rfl rfl) ?_; clear hf; intro a hf
                      refine sY hf hs rfl rfl rfl (Y_sub rfl rfl rfl) ?_; clear hf; intro a hf
                      obtain ⟨q523, hi524, hm520⟩ := bind_some hm520
                      obtain ⟨hi524a, hi524b, hi524q⟩ := idx_some hi524
                      refine sY hf hs rfl rfl rfl (Y_index rfl rfl rfl el23 ti2 (Rd.isAt (hs.rd (i := 0) rfl) (at1 (ints_at hi524q))) hi524a (ltn hn28 hi524b)) ?_; clear hf; intro a hf
                      refine sY hf hs rfl rfl rfl (Y_load_rd rfl rfl (fun w hs => hs.rd (i := 0) rfl) (at1 (ints_at hi524q)) ag2) ?_; clear hf; intro a hf
                      refine sY hf hs rfl rfl rfl (Y_neq rfl rfl rfl) ?_; clear hf; intro a hf
                      refine wpO_nil ?_
                      refine wpL_cond hf rfl (fun hb525 => ?_) (fun hb525 => ?_)
                      · have hm520 := bif_t hm520 hb525
                        refine wpL_drawG [.row A25 n26 c27 2 1 (ints r23.1), .row A31 xs33.length xs33.length 2 1 (ints xs489)] 19 (by kernel_rfl) hs ?_; clear hs; intro w hs
                        have hs0 : St [] W w [.row A25 n26 c27 2 1 (ints r23.1), .row A31 xs33.length xs33.length 2 1 (ints xs489)] := hs
                        refine gY (i := 0) [] rfl (by kernel_rfl) (by kernel_rfl) hf hs0 rfl rfl rfl (Y_move rfl rfl) ?_; clear hf; intro a hf
                        refine gY (i := 1) [] rfl (by kernel_rfl) (by kernel_rfl) hf hs0 rfl rfl rfl (Y_move rfl rfl) ?_; clear hf; intro a hf
                        refine gY (i := 2) [] rfl (by kernel_rfl) (by kernel_rfl) hf hs0 rfl rfl rfl (Y_move rfl rfl) ?_; clear hf; intro a hf
                        refine gY (i := 3) [] rfl (by kernel_rfl) (by kernel_rfl) hf hs0 rfl rfl rfl (Y_move rfl rfl) ?_; clear hf; intro a hf
                        obtain ⟨q536, hi537, hm520⟩ := bind_some hm520
                        obtain ⟨hi537a, hi537b, hi537q⟩ := idx_some hi537
                        refine gY (i := 4) [] rfl (by kernel_rfl) (by kernel_rfl) hf hs0 rfl rfl rfl (Y_index rfl rfl rfl el23 ti2 (Rd.isAt (hs0.rd (i := 1) rfl) (at1 (ints_at hi537q))) hi537a (ltn hn490 hi537b)) ?_; clear hf; intro a hf
                        refine gY (i := 5) [] rfl (by kernel_rfl) (by kernel_rfl) hf hs0 rfl rfl rfl (Y_load_rd rfl rfl (fun w hs => hs.rd (i := 1) rfl) (at1 (ints_at hi537q)) ag2) ?_; clear hf; intro a hf
                        refine gY (i := 6) [] rfl (by kernel_rfl) (by kernel_rfl) hf hs0 rfl rfl rfl (Y_move rfl rfl) ?_; clear hf; intro a hf
                        refine gY (i := 7) [] rfl (by kernel_rfl) (by kernel_rfl) hf hs0 rfl rfl rfl (Y_move rfl rfl) ?_; clear hf; intro a hf
                        obtain ⟨q538, hi539, hm520⟩ := bind_some hm520
                        obtain ⟨hi539a, hi539b, hi539q⟩ := idx_some hi539
                        refine gY (i := 8) [] rfl (by kernel_rfl) (by kernel_rfl) hf hs0 rfl rfl rfl (Y_index rfl rfl rfl el23 ti2 (Rd.isAt (h_p1_1.at hs0) (at1 (ints_at hi539q))) hi539a hi539b) ?_; clear hf; intro a hf
                        refine gY (i := 9) [] rfl (by kernel_rfl) (by kernel_rfl) hf hs0 rfl rfl rfl (Y_load_rd rfl rfl (fun w hs => h_p1_1.at hs) (at1 (ints_at hi539q)) ag2) ?_; clear hf; intro a hf
                        refine gY (i := 10) [] rfl (by kernel_rfl) (by kernel_rfl) hf hs0 rfl rfl rfl (Y_move rfl rfl) ?_; clear hf; intro a hf
                        refine gY (i := 11) [] rfl (by kernel_rfl) (by kernel_rfl) hf hs0 rfl rfl rfl (Y_move rfl rfl) ?_; clear hf; intro a hf
                        refine gY (i := 12) [] rfl (by kernel_rfl) (by kernel_rfl) hf hs0 rfl rfl rfl (Y_move rfl rfl) ?_; clear hf; intro a hf
                        refine gY (i := 13) [] rfl (by kernel_rfl) (by kernel_rfl) hf hs0 rfl rfl rfl (Y_sub rfl rfl rfl) ?_; clear hf; intro a hf
                        obtain ⟨q540, hi541, hm520⟩ := bind_some hm520
                        obtain ⟨hi541a, hi541b, hi541q⟩ := idx_some hi541
                        refine gY (i := 14) [] rfl (by kernel_rfl) (by kernel_rfl) hf hs0 rfl rfl rfl (Y_index rfl rfl rfl el23 ti2 (Rd.isAt (hs0.rd (i := 0) rfl) (at1 (ints_at hi541q))) hi541a (ltn hn28 hi541b)) ?_; clear hf; intro a hf
                        refine gY (i := 15) [] rfl (by kernel_rfl) (by kernel_rfl) hf hs0 rfl rfl rfl (Y_load_rd rfl rfl (fun w hs => hs.rd (i := 0) rfl) (at1 (ints_at hi541q)) ag2) ?_; clear hf; intro a hf
                        refine gY (i := 16) [] rfl (by kernel_rfl) (by kernel_rfl) hf hs0 rfl rfl rfl (Y_sub rfl rfl rfl) ?_; clear hf; intro a hf
                        refine gY (i := 17) [] rfl (by kernel_rfl) (by kernel_rfl) hf hs0 rfl rfl rfl (Y_min rfl rfl rfl) ?_; clear hf; intro a hf
                        obtain ⟨q542, hi543, hm520⟩ := bind_some hm520
                        obtain ⟨hi543a, hi543b, hi543q⟩ := idx_some hi543
                        refine gY (i := 18) [] rfl (by kernel_rfl) (by kernel_rfl) hf hs0 rfl rfl rfl (Y_index rfl rfl rfl el23 ti2 (Rd.isAt (hs0.rd (i := 1) rfl) (at1 (ints_at hi543q))) hi543a (ltn hn490 hi543b)) ?_; clear hf; intro a hf
                        refine gRun (i := 19) rfl (by kernel_rfl) ?_
                        obtain ⟨xs544, hu545, hm520⟩ := bind_some hm520
                        refine sStoreL (i := 1) (us := [.int .i64 (min q536 (IntKind.i64.wrap (q538 - q540)))]) (enc := ints) hf hs rfl rfl rfl rfl rfl rfl hn490 hu545 ti2 rfl rfl rfl rfl rfl ints_len1 (ints_set (min q536 (IntKind.i64.wrap (q538 - q540)))) ?_; clear hs; intro w hs
                        have hs : St [] W w [.row A25 n26 c27 2 1 (ints r23.1), .row A31 xs33.length xs33.length 2 1 (ints xs544)] := hs
                        refine wpO_nil ⟨Or.inl rfl, ?_⟩
                        refine gDone (by kernel_rfl) ?_
                        clear hs0
                        refine wpL_nil (Qb_normal ?_)
                        refine wpL_region ?_
                        refine sY hf hs rfl rfl rfl (Y_move rfl rfl) ?_; clear hf; intro a hf
                        refine sY hf hs rfl rfl rfl (Y_add rfl rfl rfl) ?_; clear hf; intro a hf
                        refine sY hf hs rfl rfl rfl (Y_assign rfl rfl) ?_; clear hf; intro a hf
                        refine wpO_nil ?_
                        refine wpL_nil (Ql_normal ?_)
                        exact ⟨xs544, (IntKind.i64.wrap (x491 + 1)), hm520, ((hn490).trans (upd_len hu545).symm), (Fr.pick (Fr.pick (Fr.pick (Fr.pick (Fr.pick (Fr.pick (Fr.pick hf.none hf rfl) hf rfl) hf rfl) hf rfl) hf rfl) hf rfl) hf rfl), hs⟩
                      · have hm520 := bif_f hm520 hb525
                        refine wpL_skip ?_
                        refine wpL_nil (Qb_normal ?_)
                        refine wpL_region ?_
                        refine sY hf hs rfl rfl rfl (Y_move rfl rfl) ?_; clear hf; intro a hf
                        refine sY hf hs rfl rfl rfl (Y_add rfl rfl rfl) ?_; clear hf; intro a hf
                        refine sY hf hs rfl rfl rfl (Y_assign rfl rfl) ?_; clear hf; intro a hf
                        refine wpO_nil ?_
                        refine wpL_nil (Ql_normal ?_)
                        exact ⟨xs489, (IntKind.i64.wrap (x491 + 1)), hm520, hn490, (Fr.pick (Fr.pick (Fr.pick (Fr.pick (Fr.pick (Fr.pick (Fr.pick hf.none hf rfl) hf rfl) hf rfl) hf rfl) hf rfl) hf rfl) hf rfl), hs⟩
                    · have hm520 := bif_f hm520 hb522
                      refine wpL_exit (Ql_exit (Qb_exit ?_))
                      exact ⟨xs489, Option.some.inj hm520, hn490, (Fr.pick (Fr.pick (Fr.pick (Fr.pick (Fr.pick hf.none hf rfl) hf rfl) hf rfl) hf rfl) hf rfl), hs⟩
                · rintro a w ⟨xs516, hr_, hn517, hf, hs⟩
                  subst hr_
                  try dsimp only at hm419
                  refine wpL_nil (Qb_normal ?_)
                  refine wpL_region ?_
                  refine sY hf hs rfl rfl rfl (Y_add rfl rfl rfl) ?_; clear hf; intro a hf
                  refine sY hf hs rfl rfl rfl (Y_move rfl rfl) ?_; clear hf; intro a hf
                  refine wpO_nil ?_
                  refine wpL_nil (Ql_normal ?_)
                  exact ⟨xs516, (IntKind.i64.wrap (x289 + 1)), hm419, hn517, (Fr.pick (Fr.pick (Fr.pick (Fr.pick (Fr.pick hf.none hf rfl) hf rfl) hf rfl) hf rfl) hf rfl), hs⟩
              · have hm419 := bif_f hm419 hb421
                refine wpL_exit (Ql_exit (Qb_exit ?_))
                exact ⟨xs287, Option.some.inj hm419, hn288, (Fr.pick hf.none hf rfl), hs.sel [1] (by decide)⟩
          · rintro a w ⟨xs415, hr_, hn416, hf, hs⟩
            subst hr_
            try dsimp only at hm
            refine wpL_seq ?_
            refine wpL_region ?_
            refine sY hf hs rfl rfl rfl (Y_move rfl rfl) ?_; clear hf; intro a hf
            obtain ⟨r546, hc547, hm⟩ := bind_some hm
            refine sCall hf rfl rfl rfl rfl (cap := []) rfl rfl en72 (impl_checkedVector_ok F xs415 A31 xs33.length xs33.length hn416 _ _ hc547 (hs.rd (i := 0) rfl)) ?_; clear hf
            rintro _ w ⟨A548, n549, c550, rfl, hn551, hal552, hs1⟩ a hf
            have hs : St [] W w [.row A31 xs33.length xs33.length 2 1 (ints xs415)] := hs.ext hs1.below
            clear hs1
            have hs : St [] W w [.row A548 n549 c550 2 1 (ints r546.1)] := hs.alias (i := 0) (enc := ints) rfl rfl hal552
            refine sY hf hs rfl rfl rfl (Y_extract rfl rfl rfl) ?_; clear hf; intro a hf
            refine sY hf hs rfl rfl rfl (Y_extract rfl rfl rfl) ?_; clear hf; intro a hf
            refine sY hf hs rfl rfl rfl (Y_assign rfl rfl) ?_; clear hf; intro a hf
            refine sY hf hs rfl rfl rfl (Y_assign rfl rfl) ?_; clear hf; intro a hf
            refine wpO_nil ?_
            obtain rfl := Option.some.inj hm
            refine wpL_ret (ret_tmp2 rfl hf rfl rfl ?_)
            exact ⟨_, rfl, A548, n549, c550, rfl, hn551, hs⟩

set_option maxRecDepth 100000 in
theorem laws_eqInt64S_ok (F : Nat) (p0_a : List Int) (A_p0_a_1 : Option Addr) (n_p0_a_1 c_p0_a_1 : Nat) (hn_p0_a_1 : n_p0_a_1 = p0_a.length) (p1_b : List Int) (A_p1_b_1 : Option Addr) (n_p1_b_1 c_p1_b_1 : Nat) (hn_p1_b_1 : n_p1_b_1 = p1_b.length) (r : Bool) (W : World) (hm : laws_eqInt64S F p0_a p1_b = some r) (h_p0_a_1 : Rd W A_p0_a_1 (ints p0_a)) (h_p1_b_1 : Rd W A_p1_b_1 (ints p1_b)) :
    Calls Try.prog 20 [.slice A_p0_a_1 n_p0_a_1 c_p0_a_1, .slice A_p1_b_1 n_p1_b_1 c_p1_b_1].toArray W fun e w' => ∃ v, e = .returned v ∧ v = .bool r ∧ St [] W w' [] := by
  subst hn_p0_a_1
  subst hn_p1_b_1
  unfold laws_eqInt64S at hm
  refine Calls.enter (N := 26) Try.func20 rfl rfl rfl (fun a hf => ?_)
  have hs := St.start W
  obtain ⟨w, hw_⟩ : ∃ w, w = W := ⟨W, rfl⟩
  clear hw_ w
  refine wpL_seq ?_
  refine wpL_region ?_
  refine sY hf hs rfl rfl rfl (Y_assign rfl rfl) ?_; clear hf; intro a hf
  refine wpO_nil ?_
  refine wpL_seq ?_
  refine wpL_seq ?_
  refine wpL_region ?_
  refine sY hf hs rfl rfl rfl (Y_move rfl rfl) ?_; clear hf; intro a hf
  refine sY hf hs rfl rfl rfl (Y_lenH rfl rfl el23 rfl) ?_; clear hf; intro a hf
  refine sY hf hs rfl rfl rfl (Y_move rfl rfl) ?_; clear hf; intro a hf
  refine sY hf hs rfl rfl rfl (Y_lenH rfl rfl el23 rfl) ?_; clear hf; intro a hf
  refine sY hf hs rfl rfl rfl (Y_neq rfl rfl rfl) ?_; clear hf; intro a hf
  refine wpO_nil ?_
  refine wpL_cond hf rfl (fun hb1 => ?_) (fun hb1 => ?_)
  · have hm := bif_t hm hb1
    refine wpL_seq ?_
    refine wpL_region ?_
    refine sY hf hs rfl rfl rfl (Y_assign rfl rfl) ?_; clear hf; intro a hf
    refine wpO_nil ?_
    obtain rfl := Option.some.inj hm
    refine wpL_ret (ret_tmp rfl hf rfl ?_)
    exact ⟨_, rfl, rfl, hs⟩
  · have hm := bif_f hm hb1
    refine wpL_skip ?_
    refine wpL_seq ?_
    refine wpL_seq ?_
    refine wpL_region ?_
    refine sY hf hs rfl rfl rfl (Y_assign rfl rfl) ?_; clear hf; intro a hf
    refine wpO_nil ?_
    obtain ⟨r22, hl23, hm⟩ := bind_some hm
    refine wpL_block (fun a w => Sum.inr () = r22 ∧ Fr a 26 [] ∧ St [] W w []) ?_ ?_
    · refine wpL_loop (fun n a w => ∃ x15 : Int, laws_eqInt64S_L1 F p0_a p1_b n x15 = some r22 ∧ Fr a 26 [(0, .slice A_p0_a_1 p0_a.length c_p0_a_1), (1, .slice A_p1_b_1 p1_b.length c_p1_b_1), (5, .int .i64 x15)] ∧ St [] W w []) F ?_ ?_ ?_
      · exact ⟨0, hl23, (Fr.pick (Fr.pick (Fr.pick hf.none hf rfl) hf rfl) hf rfl), hs⟩
      · rintro a w ⟨x15, h0_, -, -⟩; simp [laws_eqInt64S_L1] at h0_
      · rintro n25 a w ⟨x15, hm24, hf, hs⟩
        rw [laws_eqInt64S_L1] at hm24
        refine wpL_seq ?_
        refine wpL_seq ?_
        refine wpL_region ?_
        refine sY hf hs rfl rfl rfl (Y_move rfl rfl) ?_; clear hf; intro a hf
        refine sY hf hs rfl rfl rfl (Y_move rfl rfl) ?_; clear hf; intro a hf
        refine sY hf hs rfl rfl rfl (Y_lenH rfl rfl el23 rfl) ?_; clear hf; intro a hf
        refine sY hf hs rfl rfl rfl (Y_lss rfl rfl rfl) ?_; clear hf; intro a hf
        refine wpO_nil ?_
        refine wpL_cond hf rfl (fun hb26 => ?_) (fun hb26 => ?_)
        · have hm24 := bif_t hm24 hb26
          refine wpL_skip ?_
          refine wpL_seq ?_
          refine wpL_block0 ?_
          refine wpL_seq ?_
          refine wpL_draw (by kernel_rfl) (by kernel_rfl) hs ?_
          refine qY hf rfl rfl rfl (Y_move rfl rfl) ?_; clear hf; intro a hf
          refine qY hf rfl rfl rfl (Y_move rfl rfl) ?_; clear hf; intro a hf
          obtain ⟨q27, hi28, hm24⟩ := bind_some hm24
          obtain ⟨hi28a, hi28b, hi28q⟩ := idx_some hi28
          refine qY hf rfl rfl rfl (Y_index rfl rfl rfl el23 ti2 (Rd.isAt (h_p0_a_1.at hs) (at1 (ints_at hi28q))) hi28a hi28b) ?_; clear hf; intro a hf
          refine qY hf rfl rfl rfl (Y_load_rd rfl rfl (fun w hs => h_p0_a_1.at hs) (at1 (ints_at hi28q)) ag2) ?_; clear hf; intro a hf
          refine qY hf rfl rfl rfl (Y_move rfl rfl) ?_; clear hf; intro a hf
          refine qY hf rfl rfl rfl (Y_move rfl rfl) ?_; clear hf; intro a hf
          obtain ⟨q29, hi30, hm24⟩ := bind_some hm24
          obtain ⟨hi30a, hi30b, hi30q⟩ := idx_some hi30
          refine qY hf rfl rfl rfl (Y_index rfl rfl rfl el23 ti2 (Rd.isAt (h_p1_b_1.at hs) (at1 (ints_at hi30q))) hi30a hi30b) ?_; clear hf; intro a hf
          refine qY hf rfl rfl rfl (Y_load_rd rfl rfl (fun w hs => h_p1_b_1.at hs) (at1 (ints_at hi30q)) ag2) ?_; clear hf; intro a hf
          refine qY hf rfl rfl rfl (Y_neq rfl rfl rfl) ?_; clear hf; intro a hf
          refine qNil ?_; clear hs; intro w hs
          refine wpL_cond hf rfl (fun hb31 => ?_) (fun hb31 => ?_)
          · have hm24 := bif_t hm24 hb31
            refine wpL_seq ?_
            refine wpL_region ?_
            refine sY hf hs rfl rfl rfl (Y_assign rfl rfl) ?_; clear hf; intro a hf
            refine wpO_nil ?_
            obtain rfl := Option.some.inj hm24
            try dsimp only at hm
            obtain rfl := Option.some.inj hm
            refine wpL_ret (Qb_ret (Ql_ret (Qb_ret (ret_tmp rfl hf rfl ?_))))
            exact ⟨_, rfl, rfl, hs⟩
          · have hm24 := bif_f hm24 hb31
            refine wpL_skip ?_
            refine wpL_nil (Qb_normal ?_)
            refine wpL_region ?_
            refine sY hf hs rfl rfl rfl (Y_move rfl rfl) ?_; clear hf; intro a hf
            refine sY hf hs rfl rfl rfl (Y_add rfl rfl rfl) ?_; clear hf; intro a hf
            refine sY hf hs rfl rfl rfl (Y_assign rfl rfl) ?_; clear hf; intro a hf
            refine wpO_nil ?_
            refine wpL_nil (Ql_normal ?_)
            exact ⟨(IntKind.i64.wrap (x15 + 1)), hm24, (Fr.pick (Fr.pick (Fr.pick hf.none hf rfl) hf rfl) hf rfl), hs⟩
        · have hm24 := bif_f hm24 hb26
          refine wpL_exit (Ql_exit (Qb_exit ?_))
          exact ⟨Option.some.inj hm24, hf.none, hs⟩
    · rintro a w ⟨hr_, hf, hs⟩
      subst hr_
      try dsimp only at hm
      refine wpL_seq ?_
      refine wpL_region ?_
      refine sY hf hs rfl rfl rfl (Y_assign rfl rfl) ?_; clear hf; intro a hf
      refine wpO_nil ?_
      obtain rfl := Option.some.inj hm
      refine wpL_ret (ret_tmp rfl hf rfl ?_)
      exact ⟨_, rfl, rfl, hs⟩

set_option maxRecDepth 100000 in
theorem laws_eqInt64SS_ok (F : Nat) (p0_a : List (List Int)) (A_p0_a_1 : Option Addr) (n_p0_a_1 c_p0_a_1 : Nat) (hn_p0_a_1 : n_p0_a_1 = p0_a.length) (p1_b : List (List Int)) (A_p1_b_1 : Option Addr) (n_p1_b_1 c_p1_b_1 : Nat) (hn_p1_b_1 : n_p1_b_1 = p1_b.length) (r : Bool) (W : World) (hm : laws_eqInt64SS F p0_a p1_b = some r) (h_p0_a_1 : RdM W A_p0_a_1 p0_a) (h_p1_b_1 : RdM W A_p1_b_1 p1_b) :
    Calls Try.prog 39 [.slice A_p0_a_1 n_p0_a_1 c_p0_a_1, .slice A_p1_b_1 n_p1_b_1 c_p1_b_1].toArray W fun e w' => ∃ v, e = .returned v ∧ v = .bool r ∧ St [] W w' [] := by
  subst hn_p0_a_1
  subst hn_p1_b_1
  unfold laws_eqInt64SS at hm
  refine Calls.enter (N := 27) Try.func39 rfl rfl rfl (fun a hf => ?_)
  have hs := St.start W
  obtain ⟨w, hw_⟩ : ∃ w, w = W := ⟨W, rfl⟩
  clear hw_ w
  refine wpL_seq ?_
  refine wpL_region ?_
  refine sY hf hs rfl rfl rfl (Y_assign rfl rfl) ?_; clear hf; intro a hf
  refine wpO_nil ?_
  refine wpL_seq ?_
  refine wpL_seq ?_
  refine wpL_region ?_
  refine sY hf hs rfl rfl rfl (Y_move rfl rfl) ?_; clear hf; intro a hf
  refine sY hf hs rfl rfl rfl (Y_lenH rfl rfl el22 rfl) ?_; clear hf; intro a hf
  refine sY hf hs rfl rfl rfl (Y_move rfl rfl) ?_; clear hf; intro a hf
  refine sY hf hs rfl rfl rfl (Y_lenH rfl rfl el22 rfl) ?_; clear hf; intro a hf
  refine sY hf hs rfl rfl rfl (Y_neq rfl rfl rfl) ?_; clear hf; intro a hf
  refine wpO_nil ?_
  refine wpL_cond hf rfl (fun hb1 => ?_) (fun hb1 => ?_)
  · have hm := bif_t hm hb1
    refine wpL_seq ?_
    refine wpL_region ?_
    refine sY hf hs rfl rfl rfl (Y_assign rfl rfl) ?_; clear hf; intro a hf
    refine wpO_nil ?_
    obtain rfl := Option.some.inj hm
    refine wpL_ret (ret_tmp rfl hf rfl ?_)
    exact ⟨_, rfl, rfl, hs⟩
  · have hm := bif_f hm hb1
    refine wpL_skip ?_
    refine wpL_seq ?_
    refine wpL_seq ?_
    refine wpL_region ?_
    refine sY hf hs rfl rfl rfl (Y_assign rfl rfl) ?_; clear hf; intro a hf
    refine wpO_nil ?_
    obtain ⟨r70, hl71, hm⟩ := bind_some hm
    refine wpL_block (fun a w => Sum.inr () = r70 ∧ Fr a 27 [] ∧ St [] W w []) ?_ ?_
    · refine wpL_loop (fun n a w => ∃ x47 : Int, laws_eqInt64SS_L1 F p0_a p1_b n x47 = some r70 ∧ Fr a 27 [(0, .slice A_p0_a_1 p0_a.length c_p0_a_1), (1, .slice A_p1_b_1 p1_b.length c_p1_b_1), (5, .int .i64 x47)] ∧ St [] W w []) F ?_ ?_ ?_
      · exact ⟨0, hl71, (Fr.pick (Fr.pick (Fr.pick hf.none hf rfl) hf rfl) hf rfl), hs⟩
      · rintro a w ⟨x47, h0_, -, -⟩; simp [laws_eqInt64SS_L1] at h0_
      · rintro n73 a w ⟨x47, hm72, hf, hs⟩
        rw [laws_eqInt64SS_L1] at hm72
        refine wpL_seq ?_
        refine wpL_seq ?_
        refine wpL_region ?_
        refine sY hf hs rfl rfl rfl (Y_move rfl rfl) ?_; clear hf; intro a hf
        refine sY hf hs rfl rfl rfl (Y_move rfl rfl) ?_; clear hf; intro a hf
        refine sY hf hs rfl rfl rfl (Y_lenH rfl rfl el22 rfl) ?_; clear hf; intro a hf
        refine sY hf hs rfl rfl rfl (Y_lss rfl rfl rfl) ?_; clear hf; intro a hf
        refine wpO_nil ?_
        refine wpL_cond hf rfl (fun hb74 => ?_) (fun hb74 => ?_)
        · have hm72 := bif_t hm72 hb74
          refine wpL_skip ?_
          refine wpL_seq ?_
          refine wpL_block0 ?_
          refine wpL_seq ?_
          refine wpL_draw (by kernel_rfl) (by kernel_rfl) hs ?_
          refine qY hf rfl rfl rfl (Y_move rfl rfl) ?_; clear hf; intro a hf
          refine qY hf rfl rfl rfl (Y_move rfl rfl) ?_; clear hf; intro a hf
          obtain ⟨q75, hi76, hm72⟩ := bind_some hm72
          obtain ⟨hi76a, hi76b, hi76q⟩ := idx_some hi76
          obtain ⟨vs77, hv78, hr79⟩ := id h_p0_a_1
          obtain ⟨A80, c81, hv82, hR83⟩ := hr79 _ _ hi76q
          refine qY hf rfl rfl rfl (Y_index rfl rfl rfl el22 ti23 (Rd.isAt hv78 hv82) hi76a hi76b) ?_; clear hf; intro a hf
          refine qY hf rfl rfl rfl (Y_load_rd rfl rfl (fun w hs => hv78.at hs) (at1 hv82) ag23) ?_; clear hf; intro a hf
          refine qY hf rfl rfl rfl (Y_move rfl rfl) ?_; clear hf; intro a hf
          refine qY hf rfl rfl rfl (Y_move rfl rfl) ?_; clear hf; intro a hf
          obtain ⟨q84, hi85, hm72⟩ := bind_some hm72
          obtain ⟨hi85a, hi85b, hi85q⟩ := idx_some hi85
          obtain ⟨vs86, hv87, hr88⟩ := id h_p1_b_1
          obtain ⟨A89, c90, hv91, hR92⟩ := hr88 _ _ hi85q
          refine qY hf rfl rfl rfl (Y_index rfl rfl rfl el22 ti23 (Rd.isAt hv87 hv91) hi85a hi85b) ?_; clear hf; intro a hf
          refine qY hf rfl rfl rfl (Y_load_rd rfl rfl (fun w hs => hv87.at hs) (at1 hv91) ag23) ?_; clear hf; intro a hf
          obtain ⟨r93, hc94, hm72⟩ := bind_some hm72
          refine qCall hf rfl rfl rfl rfl (cap := []) rfl rfl en20 (v := .bool r93) (fun w hs => Calls.scal (laws_eqInt64S_ok F q75 A80 q75.length c81 rfl q84 A89 q84.length c90 rfl _ _ hc94 (hR83.at hs) (hR92.at hs))) ?_; clear hf; intro a hf
          refine qY hf rfl rfl rfl (Y_not rfl rfl) ?_; clear hf; intro a hf
          refine qNil ?_; clear hs; intro w hs
          refine wpL_cond hf rfl (fun hb95 => ?_) (fun hb95 => ?_)
          · have hm72 := bif_t hm72 hb95
            refine wpL_seq ?_
            refine wpL_region ?_
            refine sY hf hs rfl rfl rfl (Y_assign rfl rfl) ?_; clear hf; intro a hf
            refine wpO_nil ?_
            obtain rfl := Option.some.inj hm72
            try dsimp only at hm
            obtain rfl := Option.some.inj hm
            refine wpL_ret (Qb_ret (Ql_ret (Qb_ret (ret_tmp rfl hf rfl ?_))))
            exact ⟨_, rfl, rfl, hs⟩
          · have hm72 := bif_f hm72 hb95
            refine wpL_skip ?_
            refine wpL_nil (Qb_normal ?_)
            refine wpL_region ?_
            refine sY hf hs rfl rfl rfl (Y_move rfl rfl) ?_; clear hf; intro a hf
            refine sY hf hs rfl rfl rfl (Y_add rfl rfl rfl) ?_; clear hf; intro a hf
            refine sY hf hs rfl rfl rfl (Y_assign rfl rfl) ?_; clear hf; intro a hf
            refine wpO_nil ?_
            refine wpL_nil (Ql_normal ?_)
            exact ⟨(IntKind.i64.wrap (x47 + 1)), hm72, (Fr.pick (Fr.pick (Fr.pick hf.none hf rfl) hf rfl) hf rfl), hs⟩
        · have hm72 := bif_f hm72 hb74
          refine wpL_exit (Ql_exit (Qb_exit ?_))
          exact ⟨Option.some.inj hm72, hf.none, hs⟩
    · rintro a w ⟨hr_, hf, hs⟩
      subst hr_
      try dsimp only at hm
      refine wpL_seq ?_
      refine wpL_region ?_
      refine sY hf hs rfl rfl rfl (Y_assign rfl rfl) ?_; clear hf; intro a hf
      refine wpO_nil ?_
      obtain rfl := Option.some.inj hm
      refine wpL_ret (ret_tmp rfl hf rfl ?_)
      exact ⟨_, rfl, rfl, hs⟩

set_option maxRecDepth 100000 in
theorem laws_eqSystem_ok (F : Nat) (p0_a : GSystem) (A_p0_a_1 : Option Addr) (n_p0_a_1 c_p0_a_1 : Nat) (hn_p0_a_1 : n_p0_a_1 = p0_a.A.length) (A_p0_a_2 : Option Addr) (n_p0_a_2 c_p0_a_2 : Nat) (hn_p0_a_2 : n_p0_a_2 = p0_a.B.length) (A_p0_a_3 : Option Addr) (n_p0_a_3 c_p0_a_3 : Nat) (hn_p0_a_3 : n_p0_a_3 = p0_a.C.length) (p1_b : GSystem) (A_p1_b_1 : Option Addr) (n_p1_b_1 c_p1_b_1 : Nat) (hn_p1_b_1 : n_p1_b_1 = p1_b.A.length) (A_p1_b_2 : Option Addr) (n_p1_b_2 c_p1_b_2 : Nat) (hn_p1_b_2 : n_p1_b_2 = p1_b.B.length) (A_p1_b_3 : Option Addr) (n_p1_b_3 c_p1_b_3 : Nat) (hn_p1_b_3 : n_p1_b_3 = p1_b.C.length) (r : Bool) (W : World) (hm : laws_eqSystem F p0_a p1_b = some r) (h_p0_a_1 : RdM W A_p0_a_1 p0_a.A) (h_p0_a_2 : Rd W A_p0_a_2 (ints p0_a.B)) (h_p0_a_3 : Rd W A_p0_a_3 (ints p0_a.C)) (h_p1_b_1 : RdM W A_p1_b_1 p1_b.A) (h_p1_b_2 : Rd W A_p1_b_2 (ints p1_b.B)) (h_p1_b_3 : Rd W A_p1_b_3 (ints p1_b.C)) :
    Calls Try.prog 21 [.agg #[.slice A_p0_a_1 n_p0_a_1 c_p0_a_1, .slice A_p0_a_2 n_p0_a_2 c_p0_a_2, .slice A_p0_a_3 n_p0_a_3 c_p0_a_3], .agg #[.slice A_p1_b_1 n_p1_b_1 c_p1_b_1, .slice A_p1_b_2 n_p1_b_2 c_p1_b_2, .slice A_p1_b_3 n_p1_b_3 c_p1_b_3]].toArray W fun e w' => ∃ v, e = .returned v ∧ v = .bool r ∧ St [] W w' [] := by
  subst hn_p0_a_1
  subst hn_p0_a_2
  subst hn_p0_a_3
  subst hn_p1_b_1
  subst hn_p1_b_2
  subst hn_p1_b_3
  unfold laws_eqSystem at hm
  refine Calls.enter (N := 23) Try.func21 rfl rfl rfl (fun a hf => ?_)
  have hs := St.start W
  obtain ⟨w, hw_⟩ : ∃ w, w = W := ⟨W, rfl⟩
  clear hw_ w
  refine wpL_seq ?_
  refine wpL_region ?_
  refine sBox hf hs rfl rfl rfl rfl rfl (cs := [.slice A_p0_a_1 p0_a.A.length c_p0_a_1, .slice A_p0_a_2 p0_a.B.length c_p0_a_2, .slice A_p0_a_3 p0_a.C.length c_p0_a_3]) rfl ?_; clear hf hs; intro a w b1 hs hf
  have hs : St [] W w [.blk b1 29 [.slice A_p0_a_1 p0_a.A.length c_p0_a_1, .slice A_p0_a_2 p0_a.B.length c_p0_a_2, .slice A_p0_a_3 p0_a.C.length c_p0_a_3]] := hs
  refine sBox hf hs rfl rfl rfl rfl rfl (cs := [.slice A_p1_b_1 p1_b.A.length c_p1_b_1, .slice A_p1_b_2 p1_b.B.length c_p1_b_2, .slice A_p1_b_3 p1_b.C.length c_p1_b_3]) rfl ?_; clear hf hs; intro a w b2 hs hf
  have hs : St [] W w [.blk b1 29 [.slice A_p0_a_1 p0_a.A.length c_p0_a_1, .slice A_p0_a_2 p0_a.B.length c_p0_a_2, .slice A_p0_a_3 p0_a.C.length c_p0_a_3], .blk b2 29 [.slice A_p1_b_1 p1_b.A.length c_p1_b_1, .slice A_p1_b_2 p1_b.B.length c_p1_b_2, .slice A_p1_b_3 p1_b.C.length c_p1_b_3]] := hs
  refine sY hf hs rfl rfl rfl (Y_assign rfl rfl) ?_; clear hf; intro a hf
  refine wpO_nil ?_
  refine wpL_seq ?_
  refine wpL_seq ?_
  refine wpL_region ?_
  refine sY hf hs rfl rfl rfl (Y_fieldAddr rfl rfl fo29_0) ?_; clear hf; intro a hf
  refine sY hf hs rfl rfl rfl (Y_load_blk rfl rfl (i := 0) rfl rfl ag22) ?_; clear hf; intro a hf
  refine sY hf hs rfl rfl rfl (Y_fieldAddr rfl rfl fo29_0) ?_; clear hf; intro a hf
  refine sY hf hs rfl rfl rfl (Y_load_blk rfl rfl (i := 1) rfl rfl ag22) ?_; clear hf; intro a hf
  obtain ⟨r3, hc4, hm⟩ := bind_some hm
  refine sCall hf rfl rfl rfl rfl (cap := []) rfl rfl en39 (laws_eqInt64SS_ok F p0_a.A A_p0_a_1 p0_a.A.length c_p0_a_1 rfl p1_b.A A_p1_b_1 p1_b.A.length c_p1_b_1 rfl _ _ hc4 (h_p0_a_1.at hs) (h_p1_b_1.at hs)) ?_; clear hf
  rintro _ w ⟨rfl, hs1⟩ a hf
  have hs : St [] W w [.blk b1 29 [.slice A_p0_a_1 p0_a.A.length c_p0_a_1, .slice A_p0_a_2 p0_a.B.length c_p0_a_2, .slice A_p0_a_3 p0_a.C.length c_p0_a_3], .blk b2 29 [.slice A_p1_b_1 p1_b.A.length c_p1_b_1, .slice A_p1_b_2 p1_b.B.length c_p1_b_2, .slice A_p1_b_3 p1_b.C.length c_p1_b_3]] := hs.ext hs1.below
  clear hs1
  refine sY hf hs rfl rfl rfl (Y_not rfl rfl) ?_; clear hf; intro a hf
  refine wpO_nil ?_
  refine wpL_cond hf rfl (fun hb5 => ?_) (fun hb5 => ?_)
  · have hm := bif_t hm hb5
    refine wpL_seq ?_
    refine wpL_region ?_
    refine sY hf hs rfl rfl rfl (Y_assign rfl rfl) ?_; clear hf; intro a hf
    refine wpO_nil ?_
    obtain rfl := Option.some.inj hm
    refine wpL_ret (ret_tmp rfl hf rfl ?_)
    exact ⟨_, rfl, rfl, hs.sel [] (by decide)⟩
  · have hm := bif_f hm hb5
    refine wpL_skip ?_
    refine wpL_seq ?_
    refine wpL_seq ?_
    refine wpL_region ?_
    refine sY hf hs rfl rfl rfl (Y_fieldAddr rfl rfl fo29_1) ?_; clear hf; intro a hf
    refine sY hf hs rfl rfl rfl (Y_load_blk rfl rfl (i := 0) rfl rfl ag23) ?_; clear hf; intro a hf
    refine sY hf hs rfl rfl rfl (Y_fieldAddr rfl rfl fo29_1) ?_; clear hf; intro a hf
    refine sY hf hs rfl rfl rfl (Y_load_blk rfl rfl (i := 1) rfl rfl ag23) ?_; clear hf; intro a hf
    obtain ⟨r6, hc7, hm⟩ := bind_some hm
    refine sCall hf rfl rfl rfl rfl (cap := []) rfl rfl en20 (laws_eqInt64S_ok F p0_a.B A_p0_a_2 p0_a.B.length c_p0_a_2 rfl p1_b.B A_p1_b_2 p1_b.B.length c_p1_b_2 rfl _ _ hc7 (h_p0_a_2.at hs) (h_p1_b_2.at hs)) ?_; clear hf
    rintro _ w ⟨rfl, hs1⟩ a hf
    have hs : St [] W w [.blk b1 29 [.slice A_p0_a_1 p0_a.A.length c_p0_a_1, .slice A_p0_a_2 p0_a.B.length c_p0_a_2, .slice A_p0_a_3 p0_a.C.length c_p0_a_3], .blk b2 29 [.slice A_p1_b_1 p1_b.A.length c_p1_b_1, .slice A_p1_b_2 p1_b.B.length c_p1_b_2, .slice A_p1_b_3 p1_b.C.length c_p1_b_3]] := hs.ext hs1.below
    clear hs1
    refine sY hf hs rfl rfl rfl (Y_not rfl rfl) ?_; clear hf; intro a hf
    refine wpO_nil ?_
    refine wpL_cond hf rfl (fun hb8 => ?_) (fun hb8 => ?_)
    · have hm := bif_t hm hb8
      refine wpL_seq ?_
      refine wpL_region ?_
      refine sY hf hs rfl rfl rfl (Y_assign rfl rfl) ?_; clear hf; intro a hf
      refine wpO_nil ?_
      obtain rfl := Option.some.inj hm
      refine wpL_ret (ret_tmp rfl hf rfl ?_)
      exact ⟨_, rfl, rfl, hs.sel [] (by decide)⟩
    · have hm := bif_f hm hb8
      refine wpL_skip ?_
      refine wpL_seq ?_
      refine wpL_seq ?_
      refine wpL_region ?_
      refine sY hf hs rfl rfl rfl (Y_fieldAddr rfl rfl fo29_2) ?_; clear hf; intro a hf
      refine sY hf hs rfl rfl rfl (Y_load_blk rfl rfl (i := 0) rfl rfl ag23) ?_; clear hf; intro a hf
      refine sY hf hs rfl rfl rfl (Y_fieldAddr rfl rfl fo29_2) ?_; clear hf; intro a hf
      refine sY hf hs rfl rfl rfl (Y_load_blk rfl rfl (i := 1) rfl rfl ag23) ?_; clear hf; intro a hf
      obtain ⟨r9, hc10, hm⟩ := bind_some hm
      refine sCall hf rfl rfl rfl rfl (cap := []) rfl rfl en20 (laws_eqInt64S_ok F p0_a.C A_p0_a_3 p0_a.C.length c_p0_a_3 rfl p1_b.C A_p1_b_3 p1_b.C.length c_p1_b_3 rfl _ _ hc10 (h_p0_a_3.at hs) (h_p1_b_3.at hs)) ?_; clear hf
      rintro _ w ⟨rfl, hs1⟩ a hf
      have hs : St [] W w [.blk b1 29 [.slice A_p0_a_1 p0_a.A.length c_p0_a_1, .slice A_p0_a_2 p0_a.B.length c_p0_a_2, .slice A_p0_a_3 p0_a.C.length c_p0_a_3], .blk b2 29 [.slice A_p1_b_1 p1_b.A.length c_p1_b_1, .slice A_p1_b_2 p1_b.B.length c_p1_b_2, .slice A_p1_b_3 p1_b.C.length c_p1_b_3]] := hs.ext hs1.below
      clear hs1
      refine sY hf hs rfl rfl rfl (Y_not rfl rfl) ?_; clear hf; intro a hf
      refine wpO_nil ?_
      refine wpL_cond hf rfl (fun hb11 => ?_) (fun hb11 => ?_)
      · have hm := bif_t hm hb11
        refine wpL_seq ?_
        refine wpL_region ?_
        refine sY hf hs rfl rfl rfl (Y_assign rfl rfl) ?_; clear hf; intro a hf
        refine wpO_nil ?_
        obtain rfl := Option.some.inj hm
        refine wpL_ret (ret_tmp rfl hf rfl ?_)
        exact ⟨_, rfl, rfl, hs.sel [] (by decide)⟩
      · have hm := bif_f hm hb11
        refine wpL_skip ?_
        refine wpL_seq ?_
        refine wpL_region ?_
        refine sY hf hs rfl rfl rfl (Y_assign rfl rfl) ?_; clear hf; intro a hf
        refine wpO_nil ?_
        obtain rfl := Option.some.inj hm
        refine wpL_ret (ret_tmp rfl hf rfl ?_)
        exact ⟨_, rfl, rfl, hs.sel [] (by decide)⟩

set_option maxRecDepth 100000 in
theorem laws_markInt64S_ok (F : Nat) (p0_a : List Int) (A_p0_a_1 : Option Addr) (n_p0_a_1 c_p0_a_1 : Nat) (hn_p0_a_1 : n_p0_a_1 = p0_a.length) (p1_k : Int) (r : (Int) × List Int) (W : World) (hm : laws_markInt64S F p0_a p1_k = some r) (h_p0_a_1 : (Res.row A_p0_a_1 n_p0_a_1 c_p0_a_1 2 1 (ints p0_a) : Res).holds 0 W) :
    Calls Try.prog 23 [.slice A_p0_a_1 n_p0_a_1 c_p0_a_1, .int .i64 p1_k].toArray W fun e w' => ∃ v, e = .returned v ∧ v = .int .i64 r.1 ∧ n_p0_a_1 = r.2.length ∧ St (muA A_p0_a_1) W w' [.row A_p0_a_1 n_p0_a_1 c_p0_a_1 2 1 (ints r.2)] := by
  subst hn_p0_a_1
  unfold laws_markInt64S at hm
  refine Calls.enter (N := 19) Try.func23 rfl rfl rfl (fun a hf => ?_)
  have hs : St (muA A_p0_a_1) W W [.row A_p0_a_1 p0_a.length c_p0_a_1 2 1 (ints p0_a)] := St.startMut h_p0_a_1 (fun b hb => mem_muA hb)
  obtain ⟨w, hw_⟩ : ∃ w, w = W := ⟨W, rfl⟩
  clear hw_ w
  refine wpL_seq ?_
  refine wpL_region ?_
  refine sY hf hs rfl rfl rfl (Y_assign rfl rfl) ?_; clear hf; intro a hf
  refine wpO_nil ?_
  refine wpL_seq ?_
  refine wpL_seq ?_
  refine wpL_region ?_
  refine sY hf hs rfl rfl rfl (Y_assign rfl rfl) ?_; clear hf; intro a hf
  refine wpO_nil ?_
  obtain ⟨r27, hl28, hm⟩ := bind_some hm
  refine wpL_block (fun a w => ∃ xs24 : List Int, ∃ x26 : Int, (xs24, x26) = r27 ∧ p0_a.length = xs24.length ∧ Fr a 19 [(1, .int .i64 x26)] ∧ St (muA A_p0_a_1) W w [.row A_p0_a_1 p0_a.length c_p0_a_1 2 1 (ints xs24)]) ?_ ?_
  · refine wpL_loop (fun n a w => ∃ xs15 : List Int, ∃ x17 : Int, ∃ x18 : Int, laws_markInt64S_L1 F n xs15 x17 x18 = some r27 ∧ p0_a.length = xs15.length ∧ Fr a 19 [(0, .slice A_p0_a_1 p0_a.length c_p0_a_1), (1, .int .i64 x17), (5, .int .i64 x18)] ∧ St (muA A_p0_a_1) W w [.row A_p0_a_1 p0_a.length c_p0_a_1 2 1 (ints xs15)]) F ?_ ?_ ?_
    · exact ⟨p0_a, p1_k, 0, hl28, rfl, (Fr.pick (Fr.pick (Fr.pick hf.none hf rfl) hf rfl) hf rfl), hs⟩
    · rintro a w ⟨xs15, x17, x18, h0_, -, -, -⟩; simp [laws_markInt64S_L1] at h0_
    · rintro n30 a w ⟨xs15, x17, x18, hm29, hn16, hf, hs⟩
      rw [laws_markInt64S_L1] at hm29
      refine wpL_seq ?_
      refine wpL_seq ?_
      refine wpL_region ?_
      refine sY hf hs rfl rfl rfl (Y_move rfl rfl) ?_; clear hf; intro a hf
      refine sY hf hs rfl rfl rfl (Y_move rfl rfl) ?_; clear hf; intro a hf
      refine sY hf hs rfl rfl rfl (Y_lenH rfl rfl el23 hn16) ?_; clear hf; intro a hf
      refine sY hf hs rfl rfl rfl (Y_lss rfl rfl rfl) ?_; clear hf; intro a hf
      refine wpO_nil ?_
      refine wpL_cond hf rfl (fun hb31 => ?_) (fun hb31 => ?_)
      · have hm29 := bif_t hm29 hb31
        refine wpL_skip ?_
        refine wpL_seq ?_
        refine wpL_block0 ?_
        refine wpL_seq ?_
        refine wpL_region ?_
        refine sY hf hs rfl rfl rfl (Y_move rfl rfl) ?_; clear hf; intro a hf
        refine sY hf hs rfl rfl rfl (Y_move rfl rfl) ?_; clear hf; intro a hf
        refine sY hf hs rfl rfl rfl (Y_move rfl rfl) ?_; clear hf; intro a hf
        obtain ⟨q32, hi33, hm29⟩ := bind_some hm29
        obtain ⟨hi33a, hi33b, hi33q⟩ := idx_some hi33
        refine sY hf hs rfl rfl rfl (Y_index rfl rfl rfl el23 ti2 (Rd.isAt (hs.rd (i := 0) rfl) (at1 (ints_at hi33q))) hi33a (ltn hn16 hi33b)) ?_; clear hf; intro a hf
        obtain ⟨xs34, hu35, hm29⟩ := bind_some hm29
        refine sStoreL (i := 0) (us := [.int .i64 x17]) (enc := ints) hf hs rfl rfl rfl rfl rfl rfl hn16 hu35 ti2 rfl rfl rfl rfl rfl ints_len1 (ints_set x17) ?_; clear hs; intro w hs
        have hs : St (muA A_p0_a_1) W w [.row A_p0_a_1 p0_a.length c_p0_a_1 2 1 (ints xs34)] := hs
        refine wpO_nil ?_
        refine wpL_region ?_
        refine sY hf hs rfl rfl rfl (Y_move rfl rfl) ?_; clear hf; intro a hf
        refine sY hf hs rfl rfl rfl (Y_add rfl rfl rfl) ?_; clear hf; intro a hf
        refine sY hf hs rfl rfl rfl (Y_assign rfl rfl) ?_; clear hf; intro a hf
        refine wpO_nil ?_
        refine wpL_nil (Qb_normal ?_)
        refine wpL_region ?_
        refine sY hf hs rfl rfl rfl (Y_move rfl rfl) ?_; clear hf; intro a hf
        refine sY hf hs rfl rfl rfl (Y_add rfl rfl rfl) ?_; clear hf; intro a hf
        refine sY hf hs rfl rfl rfl (Y_assign rfl rfl) ?_; clear hf; intro a hf
        refine wpO_nil ?_
        refine wpL_nil (Ql_normal ?_)
        exact ⟨xs34, (IntKind.i64.wrap (x17 + 1)), (IntKind.i64.wrap (x18 + 1)), hm29, ((hn16).trans (upd_len hu35).symm), (Fr.pick (Fr.pick (Fr.pick hf.none hf rfl) hf rfl) hf rfl), hs⟩
      · have hm29 := bif_f hm29 hb31
        refine wpL_exit (Ql_exit (Qb_exit ?_))
        exact ⟨xs15, x17, Option.some.inj hm29, hn16, (Fr.pick hf.none hf rfl), hs⟩
  · rintro a w ⟨xs24, x26, hr_, hn25, hf, hs⟩
    subst hr_
    try dsimp only at hm
    refine wpL_seq ?_
    refine wpL_region ?_
    refine sY hf hs rfl rfl rfl (Y_move rfl rfl) ?_; clear hf; intro a hf
    refine sY hf hs rfl rfl rfl (Y_assign rfl rfl) ?_; clear hf; intro a hf
    refine wpO_nil ?_
    obtain rfl := Option.some.inj hm
    refine wpL_ret (ret_tmp rfl hf rfl ?_)
    exact ⟨_, rfl, rfl, hn25, hs⟩

set_option maxRecDepth 100000 in
theorem laws_markInt64SS_ok (F : Nat) (p0_a : List (List Int)) (A_p0_a_1 : Option Addr) (n_p0_a_1 c_p0_a_1 : Nat) (hn_p0_a_1 : n_p0_a_1 = p0_a.length) (vs_p0_a : List Value) (p1_k : Int) (r : (Int) × List (List Int)) (W : World) (hm : laws_markInt64SS F p0_a p1_k = some r) (h_p0_a_1 : (Res.mat A_p0_a_1 n_p0_a_1 c_p0_a_1 23 2 vs_p0_a p0_a : Res).holds 0 W) :
    Calls Try.prog 40 [.slice A_p0_a_1 n_p0_a_1 c_p0_a_1, .int .i64 p1_k].toArray W fun e w' => ∃ v, e = .returned v ∧ v = .int .i64 r.1 ∧ n_p0_a_1 = r.2.length ∧ St (muM A_p0_a_1 vs_p0_a) W w' [.mat A_p0_a_1 n_p0_a_1 c_p0_a_1 23 2 vs_p0_a r.2] := by
  subst hn_p0_a_1
  unfold laws_markInt64SS at hm
  refine Calls.enter (N := 19) Try.func40 rfl rfl rfl (fun a hf => ?_)
  have hs : St (muM A_p0_a_1 vs_p0_a) W W [.mat A_p0_a_1 p0_a.length c_p0_a_1 23 2 vs_p0_a p0_a] := St.startMut h_p0_a_1 (fun b hb => muM_mem.2 hb)
  obtain ⟨w, hw_⟩ : ∃ w, w = W := ⟨W, rfl⟩
  clear hw_ w
  refine wpL_seq ?_
  refine wpL_region ?_
  refine sY hf hs rfl rfl rfl (Y_assign rfl rfl) ?_; clear hf; intro a hf
  refine wpO_nil ?_
  refine wpL_seq ?_
  refine wpL_seq ?_
  refine wpL_region ?_
  refine sY hf hs rfl rfl rfl (Y_assign rfl rfl) ?_; clear hf; intro a hf
  refine wpO_nil ?_
  obtain ⟨r45, hl46, hm⟩ := bind_some hm
  refine wpL_block (fun a w => ∃ ms42 : List (List Int), ∃ x44 : Int, (ms42, x44) = r45 ∧ p0_a.length = ms42.length ∧ Fr a 19 [(1, .int .i64 x44)] ∧ St (muM A_p0_a_1 vs_p0_a) W w [.mat A_p0_a_1 p0_a.length c_p0_a_1 23 2 vs_p0_a ms42]) ?_ ?_
  · refine wpL_loop (fun n a w => ∃ ms27 : List (List Int), ∃ x29 : Int, ∃ x30 : Int, laws_markInt64SS_L1 F n ms27 x29 x30 = some r45 ∧ p0_a.length = ms27.length ∧ Fr a 19 [(0, .slice A_p0_a_1 p0_a.length c_p0_a_1), (1, .int .i64 x29), (5, .int .i64 x30)] ∧ St (muM A_p0_a_1 vs_p0_a) W w [.mat A_p0_a_1 p0_a.length c_p0_a_1 23 2 vs_p0_a ms27]) F ?_ ?_ ?_
    · exact ⟨p0_a, p1_k, 0, hl46, rfl, (Fr.pick (Fr.pick (Fr.pick hf.none hf rfl) hf rfl) hf rfl), hs⟩
    · rintro a w ⟨ms27, x29, x30, h0_, -, -, -⟩; simp [laws_markInt64SS_L1] at h0_
    · rintro n48 a w ⟨ms27, x29, x30, hm47, hn28, hf, hs⟩
      rw [laws_markInt64SS_L1] at hm47
      refine wpL_seq ?_
      refine wpL_seq ?_
      refine wpL_region ?_
      refine sY hf hs rfl rfl rfl (Y_move rfl rfl) ?_; clear hf; intro a hf
      refine sY hf hs rfl rfl rfl (Y_move rfl rfl) ?_; clear hf; intro a hf
      refine sY hf hs rfl rfl rfl (Y_lenH rfl rfl el22 hn28) ?_; clear hf; intro a hf
      refine sY hf hs rfl rfl rfl (Y_lss rfl rfl rfl) ?_; clear hf; intro a hf
      refine wpO_nil ?_
      refine wpL_cond hf rfl (fun hb49 => ?_) (fun hb49 => ?_)
      · have hm47 := bif_t hm47 hb49
        refine wpL_skip ?_
        refine wpL_seq ?_
        refine wpL_block0 ?_
        refine wpL_region ?_
        refine sY hf hs rfl rfl rfl (Y_move rfl rfl) ?_; clear hf; intro a hf
        refine sY hf hs rfl rfl rfl (Y_move rfl rfl) ?_; clear hf; intro a hf
        obtain ⟨q50, hi51, hm47⟩ := bind_some hm47
        obtain ⟨hi51a, hi51b, hi51q⟩ := idx_some hi51
        obtain ⟨A52, c53, hv54⟩ := hs.matRow (i := 0) rfl hi51q
        refine sY hf hs rfl rfl rfl (Y_index rfl rfl rfl el22 ti23 (Rd.isAt (hs.rdV (i := 0) rfl) hv54) hi51a (ltn hn28 hi51b)) ?_; clear hf; intro a hf
        refine sY hf hs rfl rfl rfl (Y_load_rd rfl rfl (fun w hs => hs.rdV (i := 0) rfl) (at1 hv54) ag23) ?_; clear hf; intro a hf
        refine sY hf hs rfl rfl rfl (Y_move rfl rfl) ?_; clear hf; intro a hf
        obtain ⟨r55, hc56, hm47⟩ := bind_some hm47
        refine sCall hf rfl rfl rfl rfl (cap := []) rfl rfl en23 (laws_markInt64S_ok F q50 A52 q50.length c53 rfl x29 _ _ hc56 (hs.rowHolds (i := 0) rfl ⟨hi51q, hv54⟩)) ?_; clear hf
        obtain ⟨ms59, hu58, hm47⟩ := bind_some hm47
        rintro _ w ⟨rfl, hn57, hs1⟩ a hf
        have hs : St (muM A_p0_a_1 vs_p0_a) W w [.mat A_p0_a_1 p0_a.length c_p0_a_1 23 2 vs_p0_a ms59] := hs.mutRow (i := 0) rfl ⟨hi51q, hv54⟩ hs1 hn57 hu58
        clear hs1
        refine sY hf hs rfl rfl rfl (Y_assign rfl rfl) ?_; clear hf; intro a hf
        refine wpO_nil ?_
        refine wpL_nil (Qb_normal ?_)
        refine wpL_region ?_
        refine sY hf hs rfl rfl rfl (Y_move rfl rfl) ?_; clear hf; intro a hf
        refine sY hf hs rfl rfl rfl (Y_add rfl rfl rfl) ?_; clear hf; intro a hf
        refine sY hf hs rfl rfl rfl (Y_assign rfl rfl) ?_; clear hf; intro a hf
        refine wpO_nil ?_
        refine wpL_nil (Ql_normal ?_)
        exact ⟨ms59, r55.1, (IntKind.i64.wrap (x30 + 1)), hm47, ((hn28).trans (upd_len hu58).symm), (Fr.pick (Fr.pick (Fr.pick hf.none hf rfl) hf rfl) hf rfl), hs⟩
      · have hm47 := bif_f hm47 hb49
        refine wpL_exit (Ql_exit (Qb_exit ?_))
        exact ⟨ms27, x29, Option.some.inj hm47, hn28, (Fr.pick hf.none hf rfl), hs⟩
  · rintro a w ⟨ms42, x44, hr_, hn43, hf, hs⟩
    subst hr_
    try dsimp only at hm
    refine wpL_seq ?_
    refine wpL_region ?_
    refine sY hf hs rfl rfl rfl (Y_move rfl rfl) ?_; clear hf; intro a hf
    refine sY hf hs rfl rfl rfl (Y_assign rfl rfl) ?_; clear hf; intro a hf
    refine wpO_nil ?_
    obtain rfl := Option.some.inj hm
    refine wpL_ret (ret_tmp rfl hf rfl ?_)
    exact ⟨_, rfl, rfl, hn43, hs⟩

set_option maxRecDepth 100000 in
theorem laws_markSystem_ok (F : Nat) (p0_a : GSystem) (A_p0_a_1 : Option Addr) (n_p0_a_1 c_p0_a_1 : Nat) (hn_p0_a_1 : n_p0_a_1 = p0_a.A.length) (vs_p0_a_1 : List Value) (A_p0_a_2 : Option Addr) (n_p0_a_2 c_p0_a_2 : Nat) (hn_p0_a_2 : n_p0_a_2 = p0_a.B.length) (A_p0_a_3 : Option Addr) (n_p0_a_3 c_p0_a_3 : Nat) (hn_p0_a_3 : n_p0_a_3 = p0_a.C.length) (p1_k : Int) (r : (Int) × List (List Int) × List Int × List Int) (W : World) (hm : laws_markSystem F p0_a p1_k = some r) (hst : St (muL [.mat A_p0_a_1 n_p0_a_1 c_p0_a_1 23 2 vs_p0_a_1 p0_a.A, .row A_p0_a_2 n_p0_a_2 c_p0_a_2 2 1 (ints p0_a.B), .row A_p0_a_3 n_p0_a_3 c_p0_a_3 2 1 (ints p0_a.C)]) W W [.mat A_p0_a_1 n_p0_a_1 c_p0_a_1 23 2 vs_p0_a_1 p0_a.A, .row A_p0_a_2 n_p0_a_2 c_p0_a_2 2 1 (ints p0_a.B), .row A_p0_a_3 n_p0_a_3 c_p0_a_3 2 1 (ints p0_a.C)]) :
    Calls Try.prog 22 [.agg #[.slice A_p0_a_1 n_p0_a_1 c_p0_a_1, .slice A_p0_a_2 n_p0_a_2 c_p0_a_2, .slice A_p0_a_3 n_p0_a_3 c_p0_a_3], .int .i64 p1_k].toArray W fun e w' => ∃ v, e = .returned v ∧ v = .int .i64 r.1 ∧ n_p0_a_1 = r.2.1.length ∧ n_p0_a_2 = r.2.2.1.length ∧ n_p0_a_3 = r.2.2.2.length ∧ St (muL [.mat A_p0_a_1 n_p0_a_1 c_p0_a_1 23 2 vs_p0_a_1 p0_a.A, .row A_p0_a_2 n_p0_a_2 c_p0_a_2 2 1 (ints p0_a.B), .row A_p0_a_3 n_p0_a_3 c_p0_a_3 2 1 (ints p0_a.C)]) W w' [.mat A_p0_a_1 n_p0_a_1 c_p0_a_1 23 2 vs_p0_a_1 r.2.1, .row A_p0_a_2 n_p0_a_2 c_p0_a_2 2 1 (ints r.2.2.1), .row A_p0_a_3 n_p0_a_3 c_p0_a_3 2 1 (ints r.2.2.2)] := by
  subst hn_p0_a_1
  subst hn_p0_a_2
  subst hn_p0_a_3
  unfold laws_markSystem at hm
  refine Calls.enter (N := 18) Try.func22 rfl rfl rfl (fun a hf => ?_)
  have hs := hst
  obtain ⟨w, hw_⟩ : ∃ w, w = W := ⟨W, rfl⟩
  clear hw_ w
  refine wpL_seq ?_
  refine wpL_region ?_
  refine sBox hf hs rfl rfl rfl rfl rfl (cs := [.slice A_p0_a_1 p0_a.A.length c_p0_a_1, .slice A_p0_a_2 p0_a.B.length c_p0_a_2, .slice A_p0_a_3 p0_a.C.length c_p0_a_3]) rfl ?_; clear hf hs; intro a w b1 hs hf
  have hs : St (muL [.mat A_p0_a_1 p0_a.A.length c_p0_a_1 23 2 vs_p0_a_1 p0_a.A, .row A_p0_a_2 p0_a.B.length c_p0_a_2 2 1 (ints p0_a.B), .row A_p0_a_3 p0_a.C.length c_p0_a_3 2 1 (ints p0_a.C)]) W w [.mat A_p0_a_1 p0_a.A.length c_p0_a_1 23 2 vs_p0_a_1 p0_a.A, .row A_p0_a_2 p0_a.B.length c_p0_a_2 2 1 (ints p0_a.B), .row A_p0_a_3 p0_a.C.length c_p0_a_3 2 1 (ints p0_a.C), .blk b1 29 [.slice A_p0_a_1 p0_a.A.length c_p0_a_1, .slice A_p0_a_2 p0_a.B.length c_p0_a_2, .slice A_p0_a_3 p0_a.C.length c_p0_a_3]] := hs
  refine sY hf hs rfl rfl rfl (Y_assign rfl rfl) ?_; clear hf; intro a hf
  refine wpO_nil ?_
  refine wpL_seq ?_
  refine wpL_region ?_
  refine sY hf hs rfl rfl rfl (Y_fieldAddr rfl rfl fo29_0) ?_; clear hf; intro a hf
  refine sY hf hs rfl rfl rfl (Y_load_blk rfl rfl (i := 3) rfl rfl ag22) ?_; clear hf; intro a hf
  refine sY hf hs rfl rfl rfl (Y_move rfl rfl) ?_; clear hf; intro a hf
  obtain ⟨r2, hc3, hm⟩ := bind_some hm
  refine sCall hf rfl rfl rfl rfl (cap := []) rfl rfl en40 (laws_markInt64SS_ok F p0_a.A A_p0_a_1 p0_a.A.length c_p0_a_1 rfl vs_p0_a_1 p1_k _ _ hc3 (hs.res _ _ (show _[0]? = some _ from rfl))) ?_; clear hf
  rintro _ w ⟨rfl, hn4, hs1⟩ a hf
  have hs : St (muL [.mat A_p0_a_1 p0_a.A.length c_p0_a_1 23 2 vs_p0_a_1 p0_a.A, .row A_p0_a_2 p0_a.B.length c_p0_a_2 2 1 (ints p0_a.B), .row A_p0_a_3 p0_a.C.length c_p0_a_3 2 1 (ints p0_a.C)]) W w [.mat A_p0_a_1 p0_a.A.length c_p0_a_1 23 2 vs_p0_a_1 r2.2, .row A_p0_a_2 p0_a.B.length c_p0_a_2 2 1 (ints p0_a.B), .row A_p0_a_3 p0_a.C.length c_p0_a_3 2 1 (ints p0_a.C), .blk b1 29 [.slice A_p0_a_1 p0_a.A.length c_p0_a_1, .slice A_p0_a_2 p0_a.B.length c_p0_a_2, .slice A_p0_a_3 p0_a.C.length c_p0_a_3]] := hs.mut (i := 0) rfl (fun b hb => muM_mem.1 hb) hs1
  clear hs1
  refine sY hf hs rfl rfl rfl (Y_assign rfl rfl) ?_; clear hf; intro a hf
  refine wpO_nil ?_
  refine wpL_seq ?_
  refine wpL_region ?_
  refine sY hf hs rfl rfl rfl (Y_fieldAddr rfl rfl fo29_1) ?_; clear hf; intro a hf
  refine sY hf hs rfl rfl rfl (Y_load_blk rfl rfl (i := 3) rfl rfl ag23) ?_; clear hf; intro a hf
  refine sY hf hs rfl rfl rfl (Y_move rfl rfl) ?_; clear hf; intro a hf
  obtain ⟨r5, hc6, hm⟩ := bind_some hm
  refine sCall hf rfl rfl rfl rfl (cap := []) rfl rfl en23 (laws_markInt64S_ok F p0_a.B A_p0_a_2 p0_a.B.length c_p0_a_2 rfl r2.1 _ _ hc6 (hs.res _ _ (show _[1]? = some _ from rfl))) ?_; clear hf
  rintro _ w ⟨rfl, hn7, hs1⟩ a hf
  have hs : St (muL [.mat A_p0_a_1 p0_a.A.length c_p0_a_1 23 2 vs_p0_a_1 p0_a.A, .row A_p0_a_2 p0_a.B.length c_p0_a_2 2 1 (ints p0_a.B), .row A_p0_a_3 p0_a.C.length c_p0_a_3 2 1 (ints p0_a.C)]) W w [.mat A_p0_a_1 p0_a.A.length c_p0_a_1 23 2 vs_p0_a_1 r2.2, .row A_p0_a_2 p0_a.B.length c_p0_a_2 2 1 (ints r5.2), .row A_p0_a_3 p0_a.C.length c_p0_a_3 2 1 (ints p0_a.C), .blk b1 29 [.slice A_p0_a_1 p0_a.A.length c_p0_a_1, .slice A_p0_a_2 p0_a.B.length c_p0_a_2, .slice A_p0_a_3 p0_a.C.length c_p0_a_3]] := hs.mut (i := 1) rfl (fun b hb => muA_mem hb) hs1
  clear hs1
  refine sY hf hs rfl rfl rfl (Y_assign rfl rfl) ?_; clear hf; intro a hf
  refine wpO_nil ?_
  refine wpL_seq ?_
  refine wpL_region ?_
  refine sY hf hs rfl rfl rfl (Y_fieldAddr rfl rfl fo29_2) ?_; clear hf; intro a hf
  refine sY hf hs rfl rfl rfl (Y_load_blk rfl rfl (i := 3) rfl rfl ag23) ?_; clear hf; intro a hf
  refine sY hf hs rfl rfl rfl (Y_move rfl rfl) ?_; clear hf; intro a hf
  obtain ⟨r8, hc9, hm⟩ := bind_some hm
  refine sCall hf rfl rfl rfl rfl (cap := []) rfl rfl en23 (laws_markInt64S_ok F p0_a.C A_p0_a_3 p0_a.C.length c_p0_a_3 rfl r5.1 _ _ hc9 (hs.res _ _ (show _[2]? = some _ from rfl))) ?_; clear hf
  rintro _ w ⟨rfl, hn10, hs1⟩ a hf
  have hs : St (muL [.mat A_p0_a_1 p0_a.A.length c_p0_a_1 23 2 vs_p0_a_1 p0_a.A, .row A_p0_a_2 p0_a.B.length c_p0_a_2 2 1 (ints p0_a.B), .row A_p0_a_3 p0_a.C.length c_p0_a_3 2 1 (ints p0_a.C)]) W w [.mat A_p0_a_1 p0_a.A.length c_p0_a_1 23 2 vs_p0_a_1 r2.2, .row A_p0_a_2 p0_a.B.length c_p0_a_2 2 1 (ints r5.2), .row A_p0_a_3 p0_a.C.length c_p0_a_3 2 1 (ints r8.2), .blk b1 29 [.slice A_p0_a_1 p0_a.A.length c_p0_a_1, .slice A_p0_a_2 p0_a.B.length c_p0_a_2, .slice A_p0_a_3 p0_a.C.length c_p0_a_3]] := hs.mut (i := 2) rfl (fun b hb => muA_mem hb) hs1
  clear hs1
  refine sY hf hs rfl rfl rfl (Y_assign rfl rfl) ?_; clear hf; intro a hf
  refine wpO_nil ?_
  refine wpL_seq ?_
  refine wpL_region ?_
  refine sY hf hs rfl rfl rfl (Y_move rfl rfl) ?_; clear hf; intro a hf
  refine sY hf hs rfl rfl rfl (Y_assign rfl rfl) ?_; clear hf; intro a hf
  refine wpO_nil ?_
  obtain rfl := Option.some.inj hm
  refine wpL_ret (ret_tmp rfl hf rfl ?_)
  exact ⟨_, rfl, rfl, hn4, hn7, hn10, hs.sel [0, 1, 2] (by decide)⟩

set_option maxRecDepth 100000 in
theorem laws_heldInt64S_ok (F : Nat) (p0_a : List Int) (A_p0_a_1 : Option Addr) (n_p0_a_1 c_p0_a_1 : Nat) (hn_p0_a_1 : n_p0_a_1 = p0_a.length) (p1_k : Int) (r : Int) (W : World) (hm : laws_heldInt64S F p0_a p1_k = some r) (h_p0_a_1 : Rd W A_p0_a_1 (ints p0_a)) :
    Calls Try.prog 24 [.slice A_p0_a_1 n_p0_a_1 c_p0_a_1, .int .i64 p1_k].toArray W fun e w' => ∃ v, e = .returned v ∧ v = .int .i64 r ∧ St [] W w' [] := by
  subst hn_p0_a_1
  unfold laws_heldInt64S at hm
  refine Calls.enter (N := 21) Try.func24 rfl rfl rfl (fun a hf => ?_)
  have hs := St.start W
  obtain ⟨w, hw_⟩ : ∃ w, w = W := ⟨W, rfl⟩
  clear hw_ w
  refine wpL_seq ?_
  refine wpL_region ?_
  refine sY hf hs rfl rfl rfl (Y_assign rfl rfl) ?_; clear hf; intro a hf
  refine wpO_nil ?_
  refine wpL_seq ?_
  refine wpL_seq ?_
  refine wpL_region ?_
  refine sY hf hs rfl rfl rfl (Y_assign rfl rfl) ?_; clear hf; intro a hf
  refine wpO_nil ?_
  obtain ⟨r18, hl19, hm⟩ := bind_some hm
  refine wpL_block (fun a w => ∃ x17 : Int, Sum.inr x17 = r18 ∧ Fr a 21 [(1, .int .i64 x17)] ∧ St [] W w []) ?_ ?_
  · refine wpL_loop (fun n a w => ∃ x11 : Int, ∃ x12 : Int, laws_heldInt64S_L1 F p0_a n x11 x12 = some r18 ∧ Fr a 21 [(0, .slice A_p0_a_1 p0_a.length c_p0_a_1), (1, .int .i64 x11), (5, .int .i64 x12)] ∧ St [] W w []) F ?_ ?_ ?_
    · exact ⟨p1_k, 0, hl19, (Fr.pick (Fr.pick (Fr.pick hf.none hf rfl) hf rfl) hf rfl), hs⟩
    · rintro a w ⟨x11, x12, h0_, -, -⟩; simp [laws_heldInt64S_L1] at h0_
    · rintro n21 a w ⟨x11, x12, hm20, hf, hs⟩
      rw [laws_heldInt64S_L1] at hm20
      refine wpL_seq ?_
      refine wpL_seq ?_
      refine wpL_region ?_
      refine sY hf hs rfl rfl rfl (Y_move rfl rfl) ?_; clear hf; intro a hf
      refine sY hf hs rfl rfl rfl (Y_move rfl rfl) ?_; clear hf; intro a hf
      refine sY hf hs rfl rfl rfl (Y_lenH rfl rfl el23 rfl) ?_; clear hf; intro a hf
      refine sY hf hs rfl rfl rfl (Y_lss rfl rfl rfl) ?_; clear hf; intro a hf
      refine wpO_nil ?_
      refine wpL_cond hf rfl (fun hb22 => ?_) (fun hb22 => ?_)
      · have hm20 := bif_t hm20 hb22
        refine wpL_skip ?_
        refine wpL_seq ?_
        refine wpL_block0 ?_
        refine wpL_seq ?_
        refine wpL_seq ?_
        refine wpL_region ?_
        refine sY hf hs rfl rfl rfl (Y_move rfl rfl) ?_; clear hf; intro a hf
        refine sY hf hs rfl rfl rfl (Y_move rfl rfl) ?_; clear hf; intro a hf
        obtain ⟨q23, hi24, hm20⟩ := bind_some hm20
        obtain ⟨hi24a, hi24b, hi24q⟩ := idx_some hi24
        refine sY hf hs rfl rfl rfl (Y_index rfl rfl rfl el23 ti2 (Rd.isAt (h_p0_a_1.at hs) (at1 (ints_at hi24q))) hi24a hi24b) ?_; clear hf; intro a hf
        refine sY hf hs rfl rfl rfl (Y_load_rd rfl rfl (fun w hs => h_p0_a_1.at hs) (at1 (ints_at hi24q)) ag2) ?_; clear hf; intro a hf
        refine sY hf hs rfl rfl rfl (Y_move rfl rfl) ?_; clear hf; intro a hf
        refine sY hf hs rfl rfl rfl (Y_neq rfl rfl rfl) ?_; clear hf; intro a hf
        refine wpO_nil ?_
        refine wpL_cond hf rfl (fun hb25 => ?_) (fun hb25 => ?_)
        · have hm20 := bif_t hm20 hb25
          refine wpL_seq ?_
          refine wpL_region ?_
          refine sY hf hs rfl rfl rfl (Y_assign rfl rfl) ?_; clear hf; intro a hf
          refine wpO_nil ?_
          obtain rfl := Option.some.inj hm20
          try dsimp only at hm
          obtain rfl := Option.some.inj hm
          refine wpL_ret (Qb_ret (Ql_ret (Qb_ret (ret_tmp rfl hf rfl ?_))))
          exact ⟨_, rfl, rfl, hs⟩
        · have hm20 := bif_f hm20 hb25
          refine wpL_skip ?_
          refine wpL_region ?_
          refine sY hf hs rfl rfl rfl (Y_move rfl rfl) ?_; clear hf; intro a hf
          refine sY hf hs rfl rfl rfl (Y_add rfl rfl rfl) ?_; clear hf; intro a hf
          refine sY hf hs rfl rfl rfl (Y_assign rfl rfl) ?_; clear hf; intro a hf
          refine wpO_nil ?_
          refine wpL_nil (Qb_normal ?_)
          refine wpL_region ?_
          refine sY hf hs rfl rfl rfl (Y_move rfl rfl) ?_; clear hf; intro a hf
          refine sY hf hs rfl rfl rfl (Y_add rfl rfl rfl) ?_; clear hf; intro a hf
          refine sY hf hs rfl rfl rfl (Y_assign rfl rfl) ?_; clear hf; intro a hf
          refine wpO_nil ?_
          refine wpL_nil (Ql_normal ?_)
          exact ⟨(IntKind.i64.wrap (x11 + 1)), (IntKind.i64.wrap (x12 + 1)), hm20, (Fr.pick (Fr.pick (Fr.pick hf.none hf rfl) hf rfl) hf rfl), hs⟩
      · have hm20 := bif_f hm20 hb22
        refine wpL_exit (Ql_exit (Qb_exit ?_))
        exact ⟨x11, Option.some.inj hm20, (Fr.pick hf.none hf rfl), hs⟩
  · rintro a w ⟨x17, hr_, hf, hs⟩
    subst hr_
    try dsimp only at hm
    refine wpL_seq ?_
    refine wpL_region ?_
    refine sY hf hs rfl rfl rfl (Y_move rfl rfl) ?_; clear hf; intro a hf
    refine sY hf hs rfl rfl rfl (Y_assign rfl rfl) ?_; clear hf; intro a hf
    refine wpO_nil ?_
    obtain rfl := Option.some.inj hm
    refine wpL_ret (ret_tmp rfl hf rfl ?_)
    exact ⟨_, rfl, rfl, hs⟩

set_option maxRecDepth 100000 in
theorem laws_FnExactLatestInputs_ok (F : Nat) (p0 : LSystem) (A_p0_1 : Option Addr) (n_p0_1 c_p0_1 : Nat) (hn_p0_1 : n_p0_1 = p0.A.length) (A_p0_2 : Option Addr) (n_p0_2 c_p0_2 : Nat) (hn_p0_2 : n_p0_2 = p0.B.length) (A_p0_3 : Option Addr) (n_p0_3 c_p0_3 : Nat) (hn_p0_3 : n_p0_3 = p0.C.length) (p1 : List Int) (A_p1_1 : Option Addr) (n_p1_1 c_p1_1 : Nat) (hn_p1_1 : n_p1_1 = p1.length) (r : Bool) (W : World) (hm : laws_FnExactLatestInputs F p0 p1 = some r) (h_p0_1 : RdM W A_p0_1 p0.A) (h_p0_2 : Rd W A_p0_2 (ints p0.B)) (h_p0_3 : Rd W A_p0_3 (ints p0.C)) (h_p1_1 : Rd W A_p1_1 (ints p1)) :
    Calls Try.prog 3 [.agg #[.slice A_p0_1 n_p0_1 c_p0_1, .slice A_p0_2 n_p0_2 c_p0_2, .slice A_p0_3 n_p0_3 c_p0_3], .slice A_p1_1 n_p1_1 c_p1_1].toArray W fun e w' => ∃ v, e = .returned v ∧ v = .bool r ∧ St [] W w' [] := by
  subst hn_p0_1
  subst hn_p0_2
  subst hn_p0_3
  subst hn_p1_1
  unfold laws_FnExactLatestInputs at hm
  refine Calls.enter (N := 117) Try.func3 rfl rfl rfl (fun a hf => ?_)
  have hs := St.start W
  obtain ⟨w, hw_⟩ : ∃ w, w = W := ⟨W, rfl⟩
  clear hw_ w
  refine wpL_seq ?_
  refine wpL_region ?_
  refine sBox hf hs rfl rfl rfl rfl rfl (cs := [.slice A_p0_1 p0.A.length c_p0_1, .slice A_p0_2 p0.B.length c_p0_2, .slice A_p0_3 p0.C.length c_p0_3]) rfl ?_; clear hf hs; intro a w b1 hs hf
  have hs : St [] W w [.blk b1 25 [.slice A_p0_1 p0.A.length c_p0_1, .slice A_p0_2 p0.B.length c_p0_2, .slice A_p0_3 p0.C.length c_p0_3]] := hs
  refine sY hf hs rfl rfl rfl (Y_assign rfl rfl) ?_; clear hf; intro a hf
  refine wpO_nil ?_
  refine wpL_seq ?_
  refine wpL_seq ?_
  refine wpL_region ?_
  refine sY hf hs rfl rfl rfl (Y_move rfl rfl) ?_; clear hf; intro a hf
  refine sY hf hs rfl rfl rfl (Y_lenH rfl rfl el23 rfl) ?_; clear hf; intro a hf
  refine sY hf hs rfl rfl rfl (Y_gtr rfl rfl rfl) ?_; clear hf; intro a hf
  refine wpO_nil ?_
  refine wpL_cond hf rfl (fun hb2 => ?_) (fun hb2 => ?_)
  · have hm := bif_t hm hb2
    refine wpL_seq ?_
    refine wpL_region ?_
    refine sY hf hs rfl rfl rfl (Y_assign rfl rfl) ?_; clear hf; intro a hf
    refine wpO_nil ?_
    obtain rfl := Option.some.inj hm
    refine wpL_ret (ret_tmp rfl hf rfl ?_)
    exact ⟨_, rfl, rfl, hs.sel [] (by decide)⟩
  · have hm := bif_f hm hb2
    refine wpL_skip ?_
    refine wpL_seq ?_
    refine wpL_region ?_
    refine sY hf hs rfl rfl rfl (Y_assign rfl rfl) ?_; clear hf; intro a hf
    refine wpO_nil ?_
    refine wpL_seq ?_
    refine wpL_region ?_
    refine sY hf hs rfl rfl rfl (Y_load_blkS rfl rfl (i := 0) rfl ag25 ti25 rfl) ?_; clear hf; intro a hf
    refine sY hf hs rfl rfl rfl (Y_move rfl rfl) ?_; clear hf; intro a hf
    obtain ⟨r3, hc4, hm⟩ := bind_some hm
    refine sCall hf rfl rfl rfl rfl (cap := []) rfl rfl en15 (laws_szSystem_ok F p0 A_p0_1 p0.A.length c_p0_1 rfl A_p0_2 p0.B.length c_p0_2 rfl A_p0_3 p0.C.length c_p0_3 rfl 1048576 _ _ hc4 (h_p0_1.at hs) (h_p0_2.at hs) (h_p0_3.at hs)) ?_; clear hf
    rintro _ w ⟨rfl, hs1⟩ a hf
    have hs : St [] W w [.blk b1 25 [.slice A_p0_1 p0.A.length c_p0_1, .slice A_p0_2 p0.B.length c_p0_2, .slice A_p0_3 p0.C.length c_p0_3]] := hs.ext hs1.below
    clear hs1
    refine sY hf hs rfl rfl rfl (Y_assign rfl rfl) ?_; clear hf; intro a hf
    refine wpO_nil ?_
    refine wpL_seq ?_
    refine wpL_seq ?_
    refine wpL_region ?_
    refine sY hf hs rfl rfl rfl (Y_move rfl rfl) ?_; clear hf; intro a hf
    refine sY hf hs rfl rfl rfl (Y_lss rfl rfl rfl) ?_; clear hf; intro a hf
    refine wpO_nil ?_
    refine wpL_cond hf rfl (fun hb5 => ?_) (fun hb5 => ?_)
    · have hm := bif_t hm hb5
      refine wpL_seq ?_
      refine wpL_region ?_
      refine sY hf hs rfl rfl rfl (Y_assign rfl rfl) ?_; clear hf; intro a hf
      refine wpO_nil ?_
      obtain rfl := Option.some.inj hm
      refine wpL_ret (ret_tmp rfl hf rfl ?_)
      exact ⟨_, rfl, rfl, hs.sel [] (by decide)⟩
    · have hm := bif_f hm hb5
      refine wpL_skip ?_
      refine wpL_seq ?_
      refine wpL_region ?_
      refine sY hf hs rfl rfl rfl (Y_load_blkS rfl rfl (i := 0) rfl ag25 ti25 rfl) ?_; clear hf; intro a hf
      obtain ⟨r6, hc7, hm⟩ := bind_some hm
      refine sCall hf rfl rfl rfl rfl (cap := []) rfl rfl en17 (laws_toSystem_ok F p0 A_p0_1 p0.A.length c_p0_1 rfl A_p0_2 p0.B.length c_p0_2 rfl A_p0_3 p0.C.length c_p0_3 rfl _ _ hc7 (h_p0_1.at hs) (h_p0_2.at hs) (h_p0_3.at hs)) ?_; clear hf
      rintro _ w ⟨A8, n9, c10, vs12, A13, n14, c15, A17, n18, c19, rfl, hn11, hn16, hn20, hs1⟩ a hf
      have hs : St [] W w [.blk b1 25 [.slice A_p0_1 p0.A.length c_p0_1, .slice A_p0_2 p0.B.length c_p0_2, .slice A_p0_3 p0.C.length c_p0_3], .mat A8 n9 c10 23 2 vs12 r6.A, .row A13 n14 c15 2 1 (ints r6.B), .row A17 n18 c19 2 1 (ints r6.C)] := hs.join hs1
      clear hs1
      refine sY hf hs rfl rfl rfl (Y_move rfl rfl) ?_; clear hf; intro a hf
      obtain ⟨r21, hc22, hm⟩ := bind_some hm
      refine sCall hf rfl rfl rfl rfl (cap := []) rfl rfl en18 (laws_toInt64S_ok F p1 A_p1_1 p1.length c_p1_1 rfl _ _ hc22 (h_p1_1.at hs)) ?_; clear hf
      rintro _ w ⟨A23, n24, c25, rfl, hn26, hs1⟩ a hf
      have hs : St [] W w [.blk b1 25 [.slice A_p0_1 p0.A.length c_p0_1, .slice A_p0_2 p0.B.length c_p0_2, .slice A_p0_3 p0.C.length c_p0_3], .mat A8 n9 c10 23 2 vs12 r6.A, .row A13 n14 c15 2 1 (ints r6.B), .row A17 n18 c19 2 1 (ints r6.C), .row A23 n24 c25 2 1 (ints r21)] := hs.join hs1
      clear hs1
      obtain ⟨r27, hc28, hm⟩ := bind_some hm
      refine sCall hf rfl rfl rfl rfl (cap := []) rfl rfl en16 (spec_LatestInputs_ok F r6 A8 n9 c10 hn11 A13 n14 c15 hn16 A17 n18 c19 hn20 r21 A23 n24 c25 hn26 _ _ hc28 (hs.rdM (i := 1) rfl) (hs.rd (i := 2) rfl) (hs.rd (i := 3) rfl) (hs.rd (i := 4) rfl)) ?_; clear hf
      rintro _ w ⟨A29, n30, c31, rfl, hn32, hs1⟩ a hf
      have hs : St [] W w [.blk b1 25 [.slice A_p0_1 p0.A.length c_p0_1, .slice A_p0_2 p0.B.length c_p0_2, .slice A_p0_3 p0.C.length c_p0_3], .mat A8 n9 c10 23 2 vs12 r6.A, .row A13 n14 c15 2 1 (ints r6.B), .row A17 n18 c19 2 1 (ints r6.C), .row A23 n24 c25 2 1 (ints r21), .row A29 n30 c31 2 1 (ints r27.1)] := hs.join hs1
      clear hs1
      refine sY hf hs rfl rfl rfl (Y_move rfl rfl) ?_; clear hf; intro a hf
      refine sY hf hs rfl rfl rfl (Y_extract rfl rfl rfl) ?_; clear hf; intro a hf
      refine sY hf hs rfl rfl rfl (Y_extract rfl rfl rfl) ?_; clear hf; intro a hf
      refine sY hf hs rfl rfl rfl (Y_assign rfl rfl) ?_; clear hf; intro a hf
      refine sY hf hs rfl rfl rfl (Y_assign rfl rfl) ?_; clear hf; intro a hf
      refine wpO_nil ?_
      refine wpL_seq ?_
      refine wpL_region ?_
      refine sY hf hs rfl rfl rfl (Y_load_blkS rfl rfl (i := 0) rfl ag25 ti25 rfl) ?_; clear hf; intro a hf
      obtain ⟨r33, hc34, hm⟩ := bind_some hm
      refine sCall hf rfl rfl rfl rfl (cap := []) rfl rfl en17 (laws_toSystem_ok F p0 A_p0_1 p0.A.length c_p0_1 rfl A_p0_2 p0.B.length c_p0_2 rfl A_p0_3 p0.C.length c_p0_3 rfl _ _ hc34 (h_p0_1.at hs) (h_p0_2.at hs) (h_p0_3.at hs)) ?_; clear hf
      rintro _ w ⟨A35, n36, c37, vs39, A40, n41, c42, A44, n45, c46, rfl, hn38, hn43, hn47, hs1⟩ a hf
      have hs : St [] W w [.blk b1 25 [.slice A_p0_1 p0.A.length c_p0_1, .slice A_p0_2 p0.B.length c_p0_2, .slice A_p0_3 p0.C.length c_p0_3], .mat A8 n9 c10 23 2 vs12 r6.A, .row A13 n14 c15 2 1 (ints r6.B), .row A17 n18 c19 2 1 (ints r6.C), .row A23 n24 c25 2 1 (ints r21), .row A29 n30 c31 2 1 (ints r27.1), .mat A35 n36 c37 23 2 vs39 r33.A, .row A40 n41 c42 2 1 (ints r33.B), .row A44 n45 c46 2 1 (ints r33.C)] := hs.join hs1
      clear hs1
      refine sAlloc hf hs rfl rfl rfl rfl ti29 ?_; clear hf hs; intro a w b48 hs hf
      have hs : St [] W w [.blk b1 25 [.slice A_p0_1 p0.A.length c_p0_1, .slice A_p0_2 p0.B.length c_p0_2, .slice A_p0_3 p0.C.length c_p0_3], .mat A8 n9 c10 23 2 vs12 r6.A, .row A13 n14 c15 2 1 (ints r6.B), .row A17 n18 c19 2 1 (ints r6.C), .row A23 n24 c25 2 1 (ints r21), .row A29 n30 c31 2 1 (ints r27.1), .mat A35 n36 c37 23 2 vs39 r33.A, .row A40 n41 c42 2 1 (ints r33.B), .row A44 n45 c46 2 1 (ints r33.C), .blk b48 29 [.slice none 0 0, .slice none 0 0, .slice none 0 0]] := hs
      refine sStore (i := 9) (us := [.slice A35 n36 c37, .slice A40 n41 c42, .slice A44 n45 c46]) hf hs rfl rfl rfl rfl rfl rfl ti29 rfl rfl rfl (Nat.le_of_ble_eq_true rfl) rfl ?_; clear hs; intro w hs
      have hs : St [] W w [.blk b1 25 [.slice A_p0_1 p0.A.length c_p0_1, .slice A_p0_2 p0.B.length c_p0_2, .slice A_p0_3 p0.C.length c_p0_3], .mat A8 n9 c10 23 2 vs12 r6.A, .row A13 n14 c15 2 1 (ints r6.B), .row A17 n18 c19 2 1 (ints r6.C), .row A23 n24 c25 2 1 (ints r21), .row A29 n30 c31 2 1 (ints r27.1), .mat A35 n36 c37 23 2 vs39 r33.A, .row A40 n41 c42 2 1 (ints r33.B), .row A44 n45 c46 2 1 (ints r33.C), .blk b48 29 [.slice A35 n36 c37, .slice A40 n41 c42, .slice A44 n45 c46]] := hs
      refine wpO_nil ?_
      refine wpL_seq ?_
      refine wpL_region ?_
      refine sY hf hs rfl rfl rfl (Y_move rfl rfl) ?_; clear hf; intro a hf
      obtain ⟨r49, hc50, hm⟩ := bind_some hm
      refine sCall hf rfl rfl rfl rfl (cap := []) rfl rfl en18 (laws_toInt64S_ok F p1 A_p1_1 p1.length c_p1_1 rfl _ _ hc50 (h_p1_1.at hs)) ?_; clear hf
      rintro _ w ⟨A51, n52, c53, rfl, hn54, hs1⟩ a hf
      have hs : St [] W w [.blk b1 25 [.slice A_p0_1 p0.A.length c_p0_1, .slice A_p0_2 p0.B.length c_p0_2, .slice A_p0_3 p0.C.length c_p0_3], .mat A8 n9 c10 23 2 vs12 r6.A, .row A13 n14 c15 2 1 (ints r6.B), .row A17 n18 c19 2 1 (ints r6.C), .row A23 n24 c25 2 1 (ints r21), .row A29 n30 c31 2 1 (ints r27.1), .mat A35 n36 c37 23 2 vs39 r33.A, .row A40 n41 c42 2 1 (ints r33.B), .row A44 n45 c46 2 1 (ints r33.C), .blk b48 29 [.slice A35 n36 c37, .slice A40 n41 c42, .slice A44 n45 c46], .row A51 n52 c53 2 1 (ints r49)] := hs.join hs1
      clear hs1
      refine sY hf hs rfl rfl rfl (Y_assign rfl rfl) ?_; clear hf; intro a hf
      refine wpO_nil ?_
      refine wpL_seq ?_
      refine wpL_region ?_
      refine sY hf hs rfl rfl rfl (Y_load_blkS rfl rfl (i := 9) rfl ag29 ti29 rfl) ?_; clear hf; intro a hf
      refine sY hf hs rfl rfl rfl (Y_move rfl rfl) ?_; clear hf; intro a hf
      obtain ⟨r55, hc56, hm⟩ := bind_some hm
      refine sCall hf rfl rfl rfl rfl (cap := []) rfl rfl en19 (impl_LatestInputs_ok F r33 A35 n36 c37 hn38 A40 n41 c42 hn43 A44 n45 c46 hn47 r49 A51 n52 c53 hn54 _ _ hc56 (hs.rdM (i := 6) rfl) (hs.rd (i := 7) rfl) (hs.rd (i := 8) rfl) (hs.rd (i := 10) rfl)) ?_; clear hf
      rintro _ w ⟨A57, n58, c59, rfl, hn60, hs1⟩ a hf
      have hs : St [] W w [.blk b1 25 [.slice A_p0_1 p0.A.length c_p0_1, .slice A_p0_2 p0.B.length c_p0_2, .slice A_p0_3 p0.C.length c_p0_3], .mat A8 n9 c10 23 2 vs12 r6.A, .row A13 n14 c15 2 1 (ints r6.B), .row A17 n18 c19 2 1 (ints r6.C), .row A23 n24 c25 2 1 (ints r21), .row A29 n30 c31 2 1 (ints r27.1), .mat A35 n36 c37 23 2 vs39 r33.A, .row A40 n41 c42 2 1 (ints r33.B), .row A44 n45 c46 2 1 (ints r33.C), .blk b48 29 [.slice A35 n36 c37, .slice A40 n41 c42, .slice A44 n45 c46], .row A51 n52 c53 2 1 (ints r49), .row A57 n58 c59 2 1 (ints r55.1)] := hs.join hs1
      clear hs1
      refine sY hf hs rfl rfl rfl (Y_move rfl rfl) ?_; clear hf; intro a hf
      refine sY hf hs rfl rfl rfl (Y_extract rfl rfl rfl) ?_; clear hf; intro a hf
      refine sY hf hs rfl rfl rfl (Y_extract rfl rfl rfl) ?_; clear hf; intro a hf
      refine sY hf hs rfl rfl rfl (Y_assign rfl rfl) ?_; clear hf; intro a hf
      refine sY hf hs rfl rfl rfl (Y_assign rfl rfl) ?_; clear hf; intro a hf
      refine wpO_nil ?_
      refine wpL_seq ?_
      refine wpL_seq ?_
      obtain ⟨r65, hj66, hm⟩ := bind_some hm
      refine wpL_cut (fun a w => ∃ b64 : Bool, b64 = r65 ∧ Fr a 117 [(1, .slice A_p1_1 p1.length c_p1_1), (2, .pointer (some ⟨b1, 0, none⟩)), (6, .slice A29 n30 c31), (7, .int .i64 r27.2), (8, .pointer (some ⟨b48, 0, none⟩)), (9, .slice A51 n52 c53), (10, .slice A57 n58 c59), (11, .int .i64 r55.2), (51, .bool b64)] ∧ St [] W w [.blk b1 25 [.slice A_p0_1 p0.A.length c_p0_1, .slice A_p0_2 p0.B.length c_p0_2, .slice A_p0_3 p0.C.length c_p0_3], .row A29 n30 c31 2 1 (ints r27.1), .blk b48 29 [.slice A35 n36 c37, .slice A40 n41 c42, .slice A44 n45 c46], .mat A35 n36 c37 23 2 vs39 r33.A, .row A40 n41 c42 2 1 (ints r33.B), .row A44 n45 c46 2 1 (ints r33.C), .row A51 n52 c53 2 1 (ints r49), .row A57 n58 c59 2 1 (ints r55.1)]) ?_ ?_
      · refine wpL_region ?_
        refine sY hf hs rfl rfl rfl (Y_move rfl rfl) ?_; clear hf; intro a hf
        refine sY hf hs rfl rfl rfl (Y_move rfl rfl) ?_; clear hf; intro a hf
        obtain ⟨r67, hc68, hj66⟩ := bind_some hj66
        refine sCall hf rfl rfl rfl rfl (cap := []) rfl rfl en20 (laws_eqInt64S_ok F r55.1 A57 n58 c59 hn60 r27.1 A29 n30 c31 hn32 _ _ hc68 (hs.rd (i := 11) rfl) (hs.rd (i := 5) rfl)) ?_; clear hf
        rintro _ w ⟨rfl, hs1⟩ a hf
        have hs : St [] W w [.blk b1 25 [.slice A_p0_1 p0.A.length c_p0_1, .slice A_p0_2 p0.B.length c_p0_2, .slice A_p0_3 p0.C.length c_p0_3], .mat A8 n9 c10 23 2 vs12 r6.A, .row A13 n14 c15 2 1 (ints r6.B), .row A17 n18 c19 2 1 (ints r6.C), .row A23 n24 c25 2 1 (ints r21), .row A29 n30 c31 2 1 (ints r27.1), .mat A35 n36 c37 23 2 vs39 r33.A, .row A40 n41 c42 2 1 (ints r33.B), .row A44 n45 c46 2 1 (ints r33.C), .blk b48 29 [.slice A35 n36 c37, .slice A40 n41 c42, .slice A44 n45 c46], .row A51 n52 c53 2 1 (ints r49), .row A57 n58 c59 2 1 (ints r55.1)] := hs.ext hs1.below
        clear hs1
        refine sY hf hs rfl rfl rfl (Y_not rfl rfl) ?_; clear hf; intro a hf
        refine sY hf hs rfl rfl rfl (Y_move rfl rfl) ?_; clear hf; intro a hf
        refine bsplit (!r67) (fun hb69 => ?_) (fun hb69 => ?_)
        · have hj66 := bif_t hj66 hb69
          refine sNo hf rfl rfl rfl (congrArg (fun b => some (Value.bool b)) hb69) rfl rfl rfl ?_; clear hf; intro a hf
          refine sNo hf rfl rfl rfl (congrArg (fun b => some (Value.bool b)) hb69) rfl rfl rfl ?_; clear hf; intro a hf
          refine sNo hf rfl rfl rfl (congrArg (fun b => some (Value.bool b)) hb69) rfl rfl rfl ?_; clear hf; intro a hf
          refine sY hf hs rfl rfl rfl (Y_pickT rfl (congrArg (fun b => some (Value.bool b)) hb69) rfl) ?_; clear hf; intro a hf
          refine wpO_nil ?_
          refine wpL_nil (then_normal ?_)
          exact ⟨true, Option.some.inj hj66, (Fr.pick (Fr.pick (Fr.pick (Fr.pick (Fr.pick (Fr.pick (Fr.pick (Fr.pick (Fr.pick hf.none hf rfl) hf rfl) hf rfl) hf rfl) hf rfl) hf rfl) hf rfl) hf rfl) hf rfl), hs.sel [0, 5, 9, 6, 7, 8, 10, 11] (by decide)⟩
        · have hj66 := bif_f hj66 hb69
          refine sYg hf hs rfl rfl rfl (congrArg (fun b => some (Value.bool b)) hb69) rfl rfl rfl (Y_move rfl rfl) ?_; clear hf; intro a hf
          refine sYg hf hs rfl rfl rfl (congrArg (fun b => some (Value.bool b)) hb69) rfl rfl rfl (Y_move rfl rfl) ?_; clear hf; intro a hf
          refine sYg hf hs rfl rfl rfl (congrArg (fun b => some (Value.bool b)) hb69) rfl rfl rfl (Y_neq rfl rfl rfl) ?_; clear hf; intro a hf
          refine sY hf hs rfl rfl rfl (Y_pickF rfl (congrArg (fun b => some (Value.bool b)) hb69) rfl) ?_; clear hf; intro a hf
          refine wpO_nil ?_
          refine wpL_nil (then_normal ?_)
          exact ⟨(r55.2 != r27.2), Option.some.inj hj66, (Fr.pick (Fr.pick (Fr.pick (Fr.pick (Fr.pick (Fr.pick (Fr.pick (Fr.pick (Fr.pick hf.none hf rfl) hf rfl) hf rfl) hf rfl) hf rfl) hf rfl) hf rfl) hf rfl) hf rfl), hs.sel [0, 5, 9, 6, 7, 8, 10, 11] (by decide)⟩
      · rintro a w ⟨b64, hr_, hf, hs⟩
        subst hr_
        try dsimp only at hm
        refine wpL_cond hf rfl (fun hb70 => ?_) (fun hb70 => ?_)
        · have hm := bif_t hm hb70
          refine wpL_seq ?_
          refine wpL_region ?_
          refine sY hf hs rfl rfl rfl (Y_assign rfl rfl) ?_; clear hf; intro a hf
          refine wpO_nil ?_
          obtain rfl := Option.some.inj hm
          refine wpL_ret (ret_tmp rfl hf rfl ?_)
          exact ⟨_, rfl, rfl, hs.sel [] (by decide)⟩
        · have hm := bif_f hm hb70
          refine wpL_skip ?_
          refine wpL_seq ?_
          refine wpL_seq ?_
          refine wpL_drawG [.blk b1 25 [.slice A_p0_1 p0.A.length c_p0_1, .slice A_p0_2 p0.B.length c_p0_2, .slice A_p0_3 p0.C.length c_p0_3], .row A29 n30 c31 2 1 (ints r27.1), .blk b48 29 [.slice A35 n36 c37, .slice A40 n41 c42, .slice A44 n45 c46], .mat A35 n36 c37 23 2 vs39 r33.A, .row A40 n41 c42 2 1 (ints r33.B), .row A44 n45 c46 2 1 (ints r33.C), .row A51 n52 c53 2 1 (ints r49), .row A57 n58 c59 2 1 (ints r55.1)] 5 (by kernel_rfl) hs ?_; clear hs; intro w hs
          have hs0 : St [] W w [.blk b1 25 [.slice A_p0_1 p0.A.length c_p0_1, .slice A_p0_2 p0.B.length c_p0_2, .slice A_p0_3 p0.C.length c_p0_3], .row A29 n30 c31 2 1 (ints r27.1), .blk b48 29 [.slice A35 n36 c37, .slice A40 n41 c42, .slice A44 n45 c46], .mat A35 n36 c37 23 2 vs39 r33.A, .row A40 n41 c42 2 1 (ints r33.B), .row A44 n45 c46 2 1 (ints r33.C), .row A51 n52 c53 2 1 (ints r49), .row A57 n58 c59 2 1 (ints r55.1)] := hs
          refine gY (i := 0) [] rfl (by kernel_rfl) (by kernel_rfl) hf hs0 rfl rfl rfl (Y_load_blkS rfl rfl (i := 2) rfl ag29 ti29 rfl) ?_; clear hf; intro a hf
          refine gY (i := 1) [] rfl (by kernel_rfl) (by kernel_rfl) hf hs0 rfl rfl rfl (Y_load_blkS rfl rfl (i := 0) rfl ag25 ti25 rfl) ?_; clear hf; intro a hf
          refine gRun (i := 2) rfl (by kernel_rfl) ?_
          obtain ⟨r88, hc89, hm⟩ := bind_some hm
          refine sCall hf rfl rfl rfl rfl (cap := []) rfl rfl en17 (laws_toSystem_ok F p0 A_p0_1 p0.A.length c_p0_1 rfl A_p0_2 p0.B.length c_p0_2 rfl A_p0_3 p0.C.length c_p0_3 rfl _ _ hc89 (h_p0_1.at hs) (h_p0_2.at hs) (h_p0_3.at hs)) ?_; clear hf
          rintro _ w ⟨A90, n91, c92, vs94, A95, n96, c97, A99, n100, c101, rfl, hn93, hn98, hn102, hs1⟩ a hf
          have hs : St [] W w [.blk b1 25 [.slice A_p0_1 p0.A.length c_p0_1, .slice A_p0_2 p0.B.length c_p0_2, .slice A_p0_3 p0.C.length c_p0_3], .row A29 n30 c31 2 1 (ints r27.1), .blk b48 29 [.slice A35 n36 c37, .slice A40 n41 c42, .slice A44 n45 c46], .mat A35 n36 c37 23 2 vs39 r33.A, .row A40 n41 c42 2 1 (ints r33.B), .row A44 n45 c46 2 1 (ints r33.C), .row A51 n52 c53 2 1 (ints r49), .row A57 n58 c59 2 1 (ints r55.1), .mat A90 n91 c92 23 2 vs94 r88.A, .row A95 n96 c97 2 1 (ints r88.B), .row A99 n100 c101 2 1 (ints r88.C)] := hs.join hs1
          clear hs1
          have hs0 : St [] W w [.blk b1 25 [.slice A_p0_1 p0.A.length c_p0_1, .slice A_p0_2 p0.B.length c_p0_2, .slice A_p0_3 p0.C.length c_p0_3], .row A29 n30 c31 2 1 (ints r27.1), .blk b48 29 [.slice A35 n36 c37, .slice A40 n41 c42, .slice A44 n45 c46], .mat A35 n36 c37 23 2 vs39 r33.A, .row A40 n41 c42 2 1 (ints r33.B), .row A44 n45 c46 2 1 (ints r33.C), .row A51 n52 c53 2 1 (ints r49), .row A57 n58 c59 2 1 (ints r55.1)] := hs.sel [0, 1, 2, 3, 4, 5, 6, 7] (by decide)
          refine wpO_nil ⟨Or.inr hs0, ?_⟩
          refine gRun (i := 3) rfl (by kernel_rfl) ?_
          obtain ⟨r103, hc104, hm⟩ := bind_some hm
          refine sCall hf rfl rfl rfl rfl (cap := []) rfl rfl en21 (laws_eqSystem_ok F r33 A35 n36 c37 hn38 A40 n41 c42 hn43 A44 n45 c46 hn47 r88 A90 n91 c92 hn93 A95 n96 c97 hn98 A99 n100 c101 hn102 _ _ hc104 (hs.rdM (i := 3) rfl) (hs.rd (i := 4) rfl) (hs.rd (i := 5) rfl) (hs.rdM (i := 8) rfl) (hs.rd (i := 9) rfl) (hs.rd (i := 10) rfl)) ?_; clear hf
          rintro _ w ⟨rfl, hs1⟩ a hf
          have hs : St [] W w [.blk b1 25 [.slice A_p0_1 p0.A.length c_p0_1, .slice A_p0_2 p0.B.length c_p0_2, .slice A_p0_3 p0.C.length c_p0_3], .row A29 n30 c31 2 1 (ints r27.1), .blk b48 29 [.slice A35 n36 c37, .slice A40 n41 c42, .slice A44 n45 c46], .mat A35 n36 c37 23 2 vs39 r33.A, .row A40 n41 c42 2 1 (ints r33.B), .row A44 n45 c46 2 1 (ints r33.C), .row A51 n52 c53 2 1 (ints r49), .row A57 n58 c59 2 1 (ints r55.1), .mat A90 n91 c92 23 2 vs94 r88.A, .row A95 n96 c97 2 1 (ints r88.B), .row A99 n100 c101 2 1 (ints r88.C)] := hs.ext hs1.below
          clear hs1
          have hs0 : St [] W w [.blk b1 25 [.slice A_p0_1 p0.A.length c_p0_1, .slice A_p0_2 p0.B.length c_p0_2, .slice A_p0_3 p0.C.length c_p0_3], .row A29 n30 c31 2 1 (ints r27.1), .blk b48 29 [.slice A35 n36 c37, .slice A40 n41 c42, .slice A44 n45 c46], .mat A35 n36 c37 23 2 vs39 r33.A, .row A40 n41 c42 2 1 (ints r33.B), .row A44 n45 c46 2 1 (ints r33.C), .row A51 n52 c53 2 1 (ints r49), .row A57 n58 c59 2 1 (ints r55.1)] := hs.sel [0, 1, 2, 3, 4, 5, 6, 7] (by decide)
          refine wpO_nil ⟨Or.inr hs0, ?_⟩
          refine gY (i := 4) [] rfl (by kernel_rfl) (by kernel_rfl) hf hs0 rfl rfl rfl (Y_not rfl rfl) ?_; clear hf; intro a hf
          refine gDone (by kernel_rfl) ?_
          clear hs0
          refine wpL_cond hf rfl (fun hb105 => ?_) (fun hb105 => ?_)
          · have hm := bif_t hm hb105
            refine wpL_seq ?_
            refine wpL_region ?_
            refine sY hf hs rfl rfl rfl (Y_assign rfl rfl) ?_; clear hf; intro a hf
            refine wpO_nil ?_
            obtain rfl := Option.some.inj hm
            refine wpL_ret (ret_tmp rfl hf rfl ?_)
            exact ⟨_, rfl, rfl, hs.sel [] (by decide)⟩
          · have hm := bif_f hm hb105
            refine wpL_skip ?_
            refine wpL_seq ?_
            refine wpL_seq ?_
            refine wpL_region ?_
            refine sY hf hs rfl rfl rfl (Y_move rfl rfl) ?_; clear hf; intro a hf
            refine sY hf hs rfl rfl rfl (Y_move rfl rfl) ?_; clear hf; intro a hf
            obtain ⟨r106, hc107, hm⟩ := bind_some hm
            refine sCall hf rfl rfl rfl rfl (cap := []) rfl rfl en18 (laws_toInt64S_ok F p1 A_p1_1 p1.length c_p1_1 rfl _ _ hc107 (h_p1_1.at hs)) ?_; clear hf
            rintro _ w ⟨A108, n109, c110, rfl, hn111, hs1⟩ a hf
            have hs : St [] W w [.blk b1 25 [.slice A_p0_1 p0.A.length c_p0_1, .slice A_p0_2 p0.B.length c_p0_2, .slice A_p0_3 p0.C.length c_p0_3], .row A29 n30 c31 2 1 (ints r27.1), .blk b48 29 [.slice A35 n36 c37, .slice A40 n41 c42, .slice A44 n45 c46], .mat A35 n36 c37 23 2 vs39 r33.A, .row A40 n41 c42 2 1 (ints r33.B), .row A44 n45 c46 2 1 (ints r33.C), .row A51 n52 c53 2 1 (ints r49), .row A57 n58 c59 2 1 (ints r55.1), .mat A90 n91 c92 23 2 vs94 r88.A, .row A95 n96 c97 2 1 (ints r88.B), .row A99 n100 c101 2 1 (ints r88.C), .row A108 n109 c110 2 1 (ints r106)] := hs.join hs1
            clear hs1
            obtain ⟨r112, hc113, hm⟩ := bind_some hm
            refine sCall hf rfl rfl rfl rfl (cap := []) rfl rfl en20 (laws_eqInt64S_ok F r49 A51 n52 c53 hn54 r106 A108 n109 c110 hn111 _ _ hc113 (hs.rd (i := 6) rfl) (hs.rd (i := 11) rfl)) ?_; clear hf
            rintro _ w ⟨rfl, hs1⟩ a hf
            have hs : St [] W w [.blk b1 25 [.slice A_p0_1 p0.A.length c_p0_1, .slice A_p0_2 p0.B.length c_p0_2, .slice A_p0_3 p0.C.length c_p0_3], .row A29 n30 c31 2 1 (ints r27.1), .blk b48 29 [.slice A35 n36 c37, .slice A40 n41 c42, .slice A44 n45 c46], .mat A35 n36 c37 23 2 vs39 r33.A, .row A40 n41 c42 2 1 (ints r33.B), .row A44 n45 c46 2 1 (ints r33.C), .row A51 n52 c53 2 1 (ints r49), .row A57 n58 c59 2 1 (ints r55.1), .mat A90 n91 c92 23 2 vs94 r88.A, .row A95 n96 c97 2 1 (ints r88.B), .row A99 n100 c101 2 1 (ints r88.C), .row A108 n109 c110 2 1 (ints r106)] := hs.ext hs1.below
            clear hs1
            refine sY hf hs rfl rfl rfl (Y_not rfl rfl) ?_; clear hf; intro a hf
            refine wpO_nil ?_
            refine wpL_cond hf rfl (fun hb114 => ?_) (fun hb114 => ?_)
            · have hm := bif_t hm hb114
              refine wpL_seq ?_
              refine wpL_region ?_
              refine sY hf hs rfl rfl rfl (Y_assign rfl rfl) ?_; clear hf; intro a hf
              refine wpO_nil ?_
              obtain rfl := Option.some.inj hm
              refine wpL_ret (ret_tmp rfl hf rfl ?_)
              exact ⟨_, rfl, rfl, hs.sel [] (by decide)⟩
            · have hm := bif_f hm hb114
              refine wpL_skip ?_
              refine wpL_seq ?_
              refine wpL_region ?_
              refine sY hf hs rfl rfl rfl (Y_assign rfl rfl) ?_; clear hf; intro a hf
              refine wpO_nil ?_
              refine wpL_seq ?_
              refine wpL_region ?_
              refine sY hf hs rfl rfl rfl (Y_load_blkS rfl rfl (i := 2) rfl ag29 ti29 rfl) ?_; clear hf; intro a hf
              refine sY hf hs rfl rfl rfl (Y_move rfl rfl) ?_; clear hf; intro a hf
              obtain ⟨r115, hc116, hm⟩ := bind_some hm
              refine sCall hf rfl rfl rfl rfl (cap := []) rfl rfl en22 (laws_markSystem_ok F r33 A35 n36 c37 hn38 vs39 A40 n41 c42 hn43 A44 n45 c46 hn47 1 _ _ hc116 (hs.sel [3, 4, 5] (by decide)).rebase) ?_; clear hf
              rintro _ w ⟨rfl, hn117, hn118, hn119, hs1⟩ a hf
              have hs : St [] W w [.blk b1 25 [.slice A_p0_1 p0.A.length c_p0_1, .slice A_p0_2 p0.B.length c_p0_2, .slice A_p0_3 p0.C.length c_p0_3], .row A29 n30 c31 2 1 (ints r27.1), .blk b48 29 [.slice A35 n36 c37, .slice A40 n41 c42, .slice A44 n45 c46], .row A51 n52 c53 2 1 (ints r49), .row A57 n58 c59 2 1 (ints r55.1), .mat A90 n91 c92 23 2 vs94 r88.A, .row A95 n96 c97 2 1 (ints r88.B), .row A99 n100 c101 2 1 (ints r88.C), .row A108 n109 c110 2 1 (ints r106), .mat A35 n36 c37 23 2 vs39 r115.2.1, .row A40 n41 c42 2 1 (ints r115.2.2.1), .row A44 n45 c46 2 1 (ints r115.2.2.2)] := St.mutTail (La := [.blk b1 25 [.slice A_p0_1 p0.A.length c_p0_1, .slice A_p0_2 p0.B.length c_p0_2, .slice A_p0_3 p0.C.length c_p0_3], .row A29 n30 c31 2 1 (ints r27.1), .blk b48 29 [.slice A35 n36 c37, .slice A40 n41 c42, .slice A44 n45 c46], .row A51 n52 c53 2 1 (ints r49), .row A57 n58 c59 2 1 (ints r55.1), .mat A90 n91 c92 23 2 vs94 r88.A, .row A95 n96 c97 2 1 (ints r88.B), .row A99 n100 c101 2 1 (ints r88.C), .row A108 n109 c110 2 1 (ints r106)]) (Lb := [.mat A35 n36 c37 23 2 vs39 r33.A, .row A40 n41 c42 2 1 (ints r33.B), .row A44 n45 c46 2 1 (ints r33.C)]) (hs.sel [0, 1, 2, 6, 7, 8, 9, 10, 11, 3, 4, 5] (by decide)) hs1
              clear hs1
              refine sY hf hs rfl rfl rfl (Y_assign rfl rfl) ?_; clear hf; intro a hf
              refine wpO_nil ?_
              refine wpL_seq ?_
              refine wpL_region ?_
              refine sY hf hs rfl rfl rfl (Y_move rfl rfl) ?_; clear hf; intro a hf
              refine sY hf hs rfl rfl rfl (Y_move rfl rfl) ?_; clear hf; intro a hf
              obtain ⟨r120, hc121, hm⟩ := bind_some hm
              refine sCall hf rfl rfl rfl rfl (cap := []) rfl rfl en23 (laws_markInt64S_ok F r49 A51 n52 c53 hn54 r115.1 _ _ hc121 (hs.res _ _ (show _[3]? = some _ from rfl))) ?_; clear hf
              rintro _ w ⟨rfl, hn122, hs1⟩ a hf
              have hs : St [] W w [.blk b1 25 [.slice A_p0_1 p0.A.length c_p0_1, .slice A_p0_2 p0.B.length c_p0_2, .slice A_p0_3 p0.C.length c_p0_3], .row A29 n30 c31 2 1 (ints r27.1), .blk b48 29 [.slice A35 n36 c37, .slice A40 n41 c42, .slice A44 n45 c46], .row A51 n52 c53 2 1 (ints r120.2), .row A57 n58 c59 2 1 (ints r55.1), .mat A90 n91 c92 23 2 vs94 r88.A, .row A95 n96 c97 2 1 (ints r88.B), .row A99 n100 c101 2 1 (ints r88.C), .row A108 n109 c110 2 1 (ints r106), .mat A35 n36 c37 23 2 vs39 r115.2.1, .row A40 n41 c42 2 1 (ints r115.2.2.1), .row A44 n45 c46 2 1 (ints r115.2.2.2)] := hs.mut (i := 3) rfl (fun b hb => muA_mem hb) hs1
              clear hs1
              refine sY hf hs rfl rfl rfl (Y_assign rfl rfl) ?_; clear hf; intro a hf
              refine wpO_nil ?_
              refine wpL_seq ?_
              refine wpL_seq ?_
              obtain ⟨r128, hj129, hm⟩ := bind_some hm
              refine wpL_cut (fun a w => ∃ b127 : Bool, b127 = r128 ∧ Fr a 117 [(1, .slice A_p1_1 p1.length c_p1_1), (2, .pointer (some ⟨b1, 0, none⟩)), (6, .slice A29 n30 c31), (7, .int .i64 r27.2), (10, .slice A57 n58 c59), (80, .bool b127)] ∧ St [] W w [.blk b1 25 [.slice A_p0_1 p0.A.length c_p0_1, .slice A_p0_2 p0.B.length c_p0_2, .slice A_p0_3 p0.C.length c_p0_3], .row A29 n30 c31 2 1 (ints r27.1), .row A57 n58 c59 2 1 (ints r55.1)]) ?_ ?_
              · refine wpL_region ?_
                refine sY hf hs rfl rfl rfl (Y_move rfl rfl) ?_; clear hf; intro a hf
                refine sY hf hs rfl rfl rfl (Y_lss rfl rfl rfl) ?_; clear hf; intro a hf
                refine sY hf hs rfl rfl rfl (Y_move rfl rfl) ?_; clear hf; intro a hf
                refine bsplit (decide (r120.1 < 0)) (fun hb130 => ?_) (fun hb130 => ?_)
                · have hj129 := bif_t hj129 hb130
                  refine sNo hf rfl rfl rfl (congrArg (fun b => some (Value.bool b)) hb130) rfl rfl rfl ?_; clear hf; intro a hf
                  refine sNo hf rfl rfl rfl (congrArg (fun b => some (Value.bool b)) hb130) rfl rfl rfl ?_; clear hf; intro a hf
                  refine sNo hf rfl rfl rfl (congrArg (fun b => some (Value.bool b)) hb130) rfl rfl rfl ?_; clear hf; intro a hf
                  refine sNo hf rfl rfl rfl (congrArg (fun b => some (Value.bool b)) hb130) rfl rfl rfl ?_; clear hf; intro a hf
                  refine sY hf hs rfl rfl rfl (Y_pickT rfl (congrArg (fun b => some (Value.bool b)) hb130) rfl) ?_; clear hf; intro a hf
                  refine sY hf hs rfl rfl rfl (Y_move rfl rfl) ?_; clear hf; intro a hf
                  refine sNo hf rfl rfl rfl rfl rfl rfl rfl ?_; clear hf; intro a hf
                  refine sNo hf rfl rfl rfl rfl rfl rfl rfl ?_; clear hf; intro a hf
                  refine sNo hf rfl rfl rfl rfl rfl rfl rfl ?_; clear hf; intro a hf
                  refine sY hf hs rfl rfl rfl (Y_pickT rfl rfl rfl) ?_; clear hf; intro a hf
                  refine wpO_nil ?_
                  refine wpL_nil (then_normal ?_)
                  exact ⟨true, Option.some.inj hj129, (Fr.pick (Fr.pick (Fr.pick (Fr.pick (Fr.pick (Fr.pick hf.none hf rfl) hf rfl) hf rfl) hf rfl) hf rfl) hf rfl), hs.sel [0, 1, 4] (by decide)⟩
                · have hj129 := bif_f hj129 hb130
                  refine sYg hf hs rfl rfl rfl (congrArg (fun b => some (Value.bool b)) hb130) rfl rfl rfl (Y_move rfl rfl) ?_; clear hf; intro a hf
                  refine sYg hf hs rfl rfl rfl (congrArg (fun b => some (Value.bool b)) hb130) rfl rfl rfl (Y_move rfl rfl) ?_; clear hf; intro a hf
                  obtain ⟨r131, hc132, hj129⟩ := bind_some hj129
                  refine sCallg hf rfl rfl rfl (congrArg (fun b => some (Value.bool b)) hb130) rfl rfl rfl rfl (cap := []) rfl rfl en20 (laws_eqInt64S_ok F r55.1 A57 n58 c59 hn60 r27.1 A29 n30 c31 hn32 _ _ hc132 (hs.rd (i := 4) rfl) (hs.rd (i := 1) rfl)) ?_; clear hf
                  rintro _ w ⟨rfl, hs1⟩ a hf
                  have hs : St [] W w [.blk b1 25 [.slice A_p0_1 p0.A.length c_p0_1, .slice A_p0_2 p0.B.length c_p0_2, .slice A_p0_3 p0.C.length c_p0_3], .row A29 n30 c31 2 1 (ints r27.1), .blk b48 29 [.slice A35 n36 c37, .slice A40 n41 c42, .slice A44 n45 c46], .row A51 n52 c53 2 1 (ints r120.2), .row A57 n58 c59 2 1 (ints r55.1), .mat A90 n91 c92 23 2 vs94 r88.A, .row A95 n96 c97 2 1 (ints r88.B), .row A99 n100 c101 2 1 (ints r88.C), .row A108 n109 c110 2 1 (ints r106), .mat A35 n36 c37 23 2 vs39 r115.2.1, .row A40 n41 c42 2 1 (ints r115.2.2.1), .row A44 n45 c46 2 1 (ints r115.2.2.2)] := hs.ext hs1.below
                  clear hs1
                  refine sYg hf hs rfl rfl rfl (congrArg (fun b => some (Value.bool b)) hb130) rfl rfl rfl (Y_not rfl rfl) ?_; clear hf; intro a hf
                  refine sY hf hs rfl rfl rfl (Y_pickF rfl (congrArg (fun b => some (Value.bool b)) hb130) rfl) ?_; clear hf; intro a hf
                  refine sY hf hs rfl rfl rfl (Y_move rfl rfl) ?_; clear hf; intro a hf
                  refine bsplit (!r131) (fun hb133 => ?_) (fun hb133 => ?_)
                  · have hj129 := bif_t hj129 hb133
                    refine sNo hf rfl rfl rfl (congrArg (fun b => some (Value.bool b)) hb133) rfl rfl rfl ?_; clear hf; intro a hf
                    refine sNo hf rfl rfl rfl (congrArg (fun b => some (Value.bool b)) hb133) rfl rfl rfl ?_; clear hf; intro a hf
                    refine sNo hf rfl rfl rfl (congrArg (fun b => some (Value.bool b)) hb133) rfl rfl rfl ?_; clear hf; intro a hf
                    refine sY hf hs rfl rfl rfl (Y_pickT rfl (congrArg (fun b => some (Value.bool b)) hb133) rfl) ?_; clear hf; intro a hf
                    refine wpO_nil ?_
                    refine wpL_nil (then_normal ?_)
                    exact ⟨true, Option.some.inj hj129, (Fr.pick (Fr.pick (Fr.pick (Fr.pick (Fr.pick (Fr.pick hf.none hf rfl) hf rfl) hf rfl) hf rfl) hf rfl) hf rfl), hs.sel [0, 1, 4] (by decide)⟩
                  · have hj129 := bif_f hj129 hb133
                    refine sYg hf hs rfl rfl rfl (congrArg (fun b => some (Value.bool b)) hb133) rfl rfl rfl (Y_move rfl rfl) ?_; clear hf; intro a hf
                    refine sYg hf hs rfl rfl rfl (congrArg (fun b => some (Value.bool b)) hb133) rfl rfl rfl (Y_move rfl rfl) ?_; clear hf; intro a hf
                    refine sYg hf hs rfl rfl rfl (congrArg (fun b => some (Value.bool b)) hb133) rfl rfl rfl (Y_neq rfl rfl rfl) ?_; clear hf; intro a hf
                    refine sY hf hs rfl rfl rfl (Y_pickF rfl (congrArg (fun b => some (Value.bool b)) hb133) rfl) ?_; clear hf; intro a hf
                    refine wpO_nil ?_
                    refine wpL_nil (then_normal ?_)
                    exact ⟨(r55.2 != r27.2), Option.some.inj hj129, (Fr.pick (Fr.pick (Fr.pick (Fr.pick (Fr.pick (Fr.pick hf.none hf rfl) hf rfl) hf rfl) hf rfl) hf rfl) hf rfl), hs.sel [0, 1, 4] (by decide)⟩
              · rintro a w ⟨b127, hr_, hf, hs⟩
                subst hr_
                try dsimp only at hm
                refine wpL_cond hf rfl (fun hb134 => ?_) (fun hb134 => ?_)
                · have hm := bif_t hm hb134
                  refine wpL_seq ?_
                  refine wpL_region ?_
                  refine sY hf hs rfl rfl rfl (Y_assign rfl rfl) ?_; clear hf; intro a hf
                  refine wpO_nil ?_
                  obtain rfl := Option.some.inj hm
                  refine wpL_ret (ret_tmp rfl hf rfl ?_)
                  exact ⟨_, rfl, rfl, hs.sel [] (by decide)⟩
                · have hm := bif_f hm hb134
                  refine wpL_skip ?_
                  refine wpL_seq ?_
                  refine wpL_region ?_
                  refine sY hf hs rfl rfl rfl (Y_assign rfl rfl) ?_; clear hf; intro a hf
                  refine wpO_nil ?_
                  refine wpL_seq ?_
                  refine wpL_region ?_
                  refine sY hf hs rfl rfl rfl (Y_move rfl rfl) ?_; clear hf; intro a hf
                  refine sY hf hs rfl rfl rfl (Y_move rfl rfl) ?_; clear hf; intro a hf
                  obtain ⟨r135, hc136, hm⟩ := bind_some hm
                  refine sCall hf rfl rfl rfl rfl (cap := []) rfl rfl en23 (laws_markInt64S_ok F r55.1 A57 n58 c59 hn60 1 _ _ hc136 (hs.res _ _ (show _[2]? = some _ from rfl))) ?_; clear hf
                  rintro _ w ⟨rfl, hn137, hs1⟩ a hf
                  have hs : St [] W w [.blk b1 25 [.slice A_p0_1 p0.A.length c_p0_1, .slice A_p0_2 p0.B.length c_p0_2, .slice A_p0_3 p0.C.length c_p0_3], .row A29 n30 c31 2 1 (ints r27.1), .row A57 n58 c59 2 1 (ints r135.2)] := hs.mut (i := 2) rfl (fun b hb => muA_mem hb) hs1
                  clear hs1
                  refine sY hf hs rfl rfl rfl (Y_assign rfl rfl) ?_; clear hf; intro a hf
                  refine wpO_nil ?_
                  refine wpL_seq ?_
                  refine wpL_region ?_
                  refine sY hf hs rfl rfl rfl (Y_assign rfl rfl) ?_; clear hf; intro a hf
                  refine wpO_nil ?_
                  refine wpL_seq ?_
                  refine wpL_region ?_
                  refine sY hf hs rfl rfl rfl (Y_move rfl rfl) ?_; clear hf; intro a hf
                  refine sY hf hs rfl rfl rfl (Y_move rfl rfl) ?_; clear hf; intro a hf
                  obtain ⟨r138, hc139, hm⟩ := bind_some hm
                  refine sCall hf rfl rfl rfl rfl (cap := []) rfl rfl en24 (laws_heldInt64S_ok F r135.2 A57 n58 c59 hn137 1 _ _ hc139 (hs.rd (i := 2) rfl)) ?_; clear hf
                  rintro _ w ⟨rfl, hs1⟩ a hf
                  have hs : St [] W w [.blk b1 25 [.slice A_p0_1 p0.A.length c_p0_1, .slice A_p0_2 p0.B.length c_p0_2, .slice A_p0_3 p0.C.length c_p0_3], .row A29 n30 c31 2 1 (ints r27.1), .row A57 n58 c59 2 1 (ints r135.2)] := hs.ext hs1.below
                  clear hs1
                  refine sY hf hs rfl rfl rfl (Y_assign rfl rfl) ?_; clear hf; intro a hf
                  refine wpO_nil ?_
                  refine wpL_seq ?_
                  refine wpL_seq ?_
                  refine wpL_region ?_
                  refine sY hf hs rfl rfl rfl (Y_move rfl rfl) ?_; clear hf; intro a hf
                  refine sY hf hs rfl rfl rfl (Y_lss rfl rfl rfl) ?_; clear hf; intro a hf
                  refine wpO_nil ?_
                  refine wpL_cond hf rfl (fun hb140 => ?_) (fun hb140 => ?_)
                  · have hm := bif_t hm hb140
                    refine wpL_seq ?_
                    refine wpL_region ?_
                    refine sY hf hs rfl rfl rfl (Y_assign rfl rfl) ?_; clear hf; intro a hf
                    refine wpO_nil ?_
                    obtain rfl := Option.some.inj hm
                    refine wpL_ret (ret_tmp rfl hf rfl ?_)
                    exact ⟨_, rfl, rfl, hs.sel [] (by decide)⟩
                  · have hm := bif_f hm hb140
                    refine wpL_skip ?_
                    refine wpL_seq ?_
                    refine wpL_seq ?_
                    refine wpL_region ?_
                    refine sY hf hs rfl rfl rfl (Y_move rfl rfl) ?_; clear hf; intro a hf
                    refine sY hf hs rfl rfl rfl (Y_move rfl rfl) ?_; clear hf; intro a hf
                    refine sY hf hs rfl rfl rfl (Y_neq rfl rfl rfl) ?_; clear hf; intro a hf
                    refine wpO_nil ?_
                    refine wpL_cond hf rfl (fun hb141 => ?_) (fun hb141 => ?_)
                    · have hm := bif_t hm hb141
                      refine wpL_seq ?_
                      refine wpL_region ?_
                      refine sY hf hs rfl rfl rfl (Y_assign rfl rfl) ?_; clear hf; intro a hf
                      refine wpO_nil ?_
                      obtain rfl := Option.some.inj hm
                      refine wpL_ret (ret_tmp rfl hf rfl ?_)
                      exact ⟨_, rfl, rfl, hs.sel [] (by decide)⟩
                    · have hm := bif_f hm hb141
                      refine wpL_skip ?_
                      refine wpL_seq ?_
                      refine wpL_region ?_
                      refine sY hf hs rfl rfl rfl (Y_load_blkS rfl rfl (i := 0) rfl ag25 ti25 rfl) ?_; clear hf; intro a hf
                      obtain ⟨r142, hc143, hm⟩ := bind_some hm
                      refine sCall hf rfl rfl rfl rfl (cap := []) rfl rfl en17 (laws_toSystem_ok F p0 A_p0_1 p0.A.length c_p0_1 rfl A_p0_2 p0.B.length c_p0_2 rfl A_p0_3 p0.C.length c_p0_3 rfl _ _ hc143 (h_p0_1.at hs) (h_p0_2.at hs) (h_p0_3.at hs)) ?_; clear hf
                      rintro _ w ⟨A144, n145, c146, vs148, A149, n150, c151, A153, n154, c155, rfl, hn147, hn152, hn156, hs1⟩ a hf
                      have hs : St [] W w [.blk b1 25 [.slice A_p0_1 p0.A.length c_p0_1, .slice A_p0_2 p0.B.length c_p0_2, .slice A_p0_3 p0.C.length c_p0_3], .row A29 n30 c31 2 1 (ints r27.1), .row A57 n58 c59 2 1 (ints r135.2), .mat A144 n145 c146 23 2 vs148 r142.A, .row A149 n150 c151 2 1 (ints r142.B), .row A153 n154 c155 2 1 (ints r142.C)] := hs.join hs1
                      clear hs1
                      refine sY hf hs rfl rfl rfl (Y_move rfl rfl) ?_; clear hf; intro a hf
                      obtain ⟨r157, hc158, hm⟩ := bind_some hm
                      refine sCall hf rfl rfl rfl rfl (cap := []) rfl rfl en18 (laws_toInt64S_ok F p1 A_p1_1 p1.length c_p1_1 rfl _ _ hc158 (h_p1_1.at hs)) ?_; clear hf
                      rintro _ w ⟨A159, n160, c161, rfl, hn162, hs1⟩ a hf
                      have hs : St [] W w [.blk b1 25 [.slice A_p0_1 p0.A.length c_p0_1, .slice A_p0_2 p0.B.length c_p0_2, .slice A_p0_3 p0.C.length c_p0_3], .row A29 n30 c31 2 1 (ints r27.1), .row A57 n58 c59 2 1 (ints r135.2), .mat A144 n145 c146 23 2 vs148 r142.A, .row A149 n150 c151 2 1 (ints r142.B), .row A153 n154 c155 2 1 (ints r142.C), .row A159 n160 c161 2 1 (ints r157)] := hs.join hs1
                      clear hs1
                      obtain ⟨r163, hc164, hm⟩ := bind_some hm
                      refine sCall hf rfl rfl rfl rfl (cap := []) rfl rfl en19 (impl_LatestInputs_ok F r142 A144 n145 c146 hn147 A149 n150 c151 hn152 A153 n154 c155 hn156 r157 A159 n160 c161 hn162 _ _ hc164 (hs.rdM (i := 3) rfl) (hs.rd (i := 4) rfl) (hs.rd (i := 5) rfl) (hs.rd (i := 6) rfl)) ?_; clear hf
                      rintro _ w ⟨A165, n166, c167, rfl, hn168, hs1⟩ a hf
                      have hs : St [] W w [.blk b1 25 [.slice A_p0_1 p0.A.length c_p0_1, .slice A_p0_2 p0.B.length c_p0_2, .slice A_p0_3 p0.C.length c_p0_3], .row A29 n30 c31 2 1 (ints r27.1), .row A57 n58 c59 2 1 (ints r135.2), .mat A144 n145 c146 23 2 vs148 r142.A, .row A149 n150 c151 2 1 (ints r142.B), .row A153 n154 c155 2 1 (ints r142.C), .row A159 n160 c161 2 1 (ints r157), .row A165 n166 c167 2 1 (ints r163.1)] := hs.join hs1
                      clear hs1
                      refine sY hf hs rfl rfl rfl (Y_move rfl rfl) ?_; clear hf; intro a hf
                      refine sY hf hs rfl rfl rfl (Y_extract rfl rfl rfl) ?_; clear hf; intro a hf
                      refine sY hf hs rfl rfl rfl (Y_extract rfl rfl rfl) ?_; clear hf; intro a hf
                      refine sY hf hs rfl rfl rfl (Y_assign rfl rfl) ?_; clear hf; intro a hf
                      refine sY hf hs rfl rfl rfl (Y_assign rfl rfl) ?_; clear hf; intro a hf
                      refine wpO_nil ?_
                      refine wpL_seq ?_
                      refine wpL_seq ?_
                      obtain ⟨r173, hj174, hm⟩ := bind_some hm
                      refine wpL_cut (fun a w => ∃ b172 : Bool, b172 = r173 ∧ Fr a 117 [(10, .slice A57 n58 c59), (13, .int .i64 r135.1), (108, .bool b172)] ∧ St [] W w [.row A57 n58 c59 2 1 (ints r135.2)]) ?_ ?_
                      · refine wpL_region ?_
                        refine sY hf hs rfl rfl rfl (Y_move rfl rfl) ?_; clear hf; intro a hf
                        refine sY hf hs rfl rfl rfl (Y_move rfl rfl) ?_; clear hf; intro a hf
                        obtain ⟨r175, hc176, hj174⟩ := bind_some hj174
                        refine sCall hf rfl rfl rfl rfl (cap := []) rfl rfl en20 (laws_eqInt64S_ok F r163.1 A165 n166 c167 hn168 r27.1 A29 n30 c31 hn32 _ _ hc176 (hs.rd (i := 7) rfl) (hs.rd (i := 1) rfl)) ?_; clear hf
                        rintro _ w ⟨rfl, hs1⟩ a hf
                        have hs : St [] W w [.blk b1 25 [.slice A_p0_1 p0.A.length c_p0_1, .slice A_p0_2 p0.B.length c_p0_2, .slice A_p0_3 p0.C.length c_p0_3], .row A29 n30 c31 2 1 (ints r27.1), .row A57 n58 c59 2 1 (ints r135.2), .mat A144 n145 c146 23 2 vs148 r142.A, .row A149 n150 c151 2 1 (ints r142.B), .row A153 n154 c155 2 1 (ints r142.C), .row A159 n160 c161 2 1 (ints r157), .row A165 n166 c167 2 1 (ints r163.1)] := hs.ext hs1.below
                        clear hs1
                        refine sY hf hs rfl rfl rfl (Y_not rfl rfl) ?_; clear hf; intro a hf
                        refine sY hf hs rfl rfl rfl (Y_move rfl rfl) ?_; clear hf; intro a hf
                        refine bsplit (!r175) (fun hb177 => ?_) (fun hb177 => ?_)
                        · have hj174 := bif_t hj174 hb177
                          refine sNo hf rfl rfl rfl (congrArg (fun b => some (Value.bool b)) hb177) rfl rfl rfl ?_; clear hf; intro a hf
                          refine sNo hf rfl rfl rfl (congrArg (fun b => some (Value.bool b)) hb177) rfl rfl rfl ?_; clear hf; intro a hf
                          refine sNo hf rfl rfl rfl (congrArg (fun b => some (Value.bool b)) hb177) rfl rfl rfl ?_; clear hf; intro a hf
                          refine sY hf hs rfl rfl rfl (Y_pickT rfl (congrArg (fun b => some (Value.bool b)) hb177) rfl) ?_; clear hf; intro a hf
                          refine wpO_nil ?_
                          refine wpL_nil (then_normal ?_)
                          exact ⟨true, Option.some.inj hj174, (Fr.pick (Fr.pick (Fr.pick hf.none hf rfl) hf rfl) hf rfl), hs.sel [2] (by decide)⟩
                        · have hj174 := bif_f hj174 hb177
                          refine sYg hf hs rfl rfl rfl (congrArg (fun b => some (Value.bool b)) hb177) rfl rfl rfl (Y_move rfl rfl) ?_; clear hf; intro a hf
                          refine sYg hf hs rfl rfl rfl (congrArg (fun b => some (Value.bool b)) hb177) rfl rfl rfl (Y_move rfl rfl) ?_; clear hf; intro a hf
                          refine sYg hf hs rfl rfl rfl (congrArg (fun b => some (Value.bool b)) hb177) rfl rfl rfl (Y_neq rfl rfl rfl) ?_; clear hf; intro a hf
                          refine sY hf hs rfl rfl rfl (Y_pickF rfl (congrArg (fun b => some (Value.bool b)) hb177) rfl) ?_; clear hf; intro a hf
                          refine wpO_nil ?_
                          refine wpL_nil (then_normal ?_)
                          exact ⟨(r163.2 != r27.2), Option.some.inj hj174, (Fr.pick (Fr.pick (Fr.pick hf.none hf rfl) hf rfl) hf rfl), hs.sel [2] (by decide)⟩
                      · rintro a w ⟨b172, hr_, hf, hs⟩
                        subst hr_
                        try dsimp only at hm
                        refine wpL_cond hf rfl (fun hb178 => ?_) (fun hb178 => ?_)
                        · have hm := bif_t hm hb178
                          refine wpL_seq ?_
                          refine wpL_region ?_
                          refine sY hf hs rfl rfl rfl (Y_assign rfl rfl) ?_; clear hf; intro a hf
                          refine wpO_nil ?_
                          obtain rfl := Option.some.inj hm
                          refine wpL_ret (ret_tmp rfl hf rfl ?_)
                          exact ⟨_, rfl, rfl, hs.sel [] (by decide)⟩
                        · have hm := bif_f hm hb178
                          refine wpL_skip ?_
                          refine wpL_seq ?_
                          refine wpL_region ?_
                          refine sY hf hs rfl rfl rfl (Y_assign rfl rfl) ?_; clear hf; intro a hf
                          refine wpO_nil ?_
                          refine wpL_seq ?_
                          refine wpL_region ?_
                          refine sY hf hs rfl rfl rfl (Y_move rfl rfl) ?_; clear hf; intro a hf
                          refine sY hf hs rfl rfl rfl (Y_move rfl rfl) ?_; clear hf; intro a hf
                          obtain ⟨r179, hc180, hm⟩ := bind_some hm
                          refine sCall hf rfl rfl rfl rfl (cap := []) rfl rfl en24 (laws_heldInt64S_ok F r135.2 A57 n58 c59 hn137 1 _ _ hc180 (hs.rd (i := 0) rfl)) ?_; clear hf
                          rintro _ w ⟨rfl, hs1⟩ a hf
                          have hs : St [] W w [.row A57 n58 c59 2 1 (ints r135.2)] := hs.ext hs1.below
                          clear hs1
                          refine sY hf hs rfl rfl rfl (Y_assign rfl rfl) ?_; clear hf; intro a hf
                          refine wpO_nil ?_
                          refine wpL_seq ?_
                          refine wpL_seq ?_
                          refine wpL_region ?_
                          refine sY hf hs rfl rfl rfl (Y_move rfl rfl) ?_; clear hf; intro a hf
                          refine sY hf hs rfl rfl rfl (Y_lss rfl rfl rfl) ?_; clear hf; intro a hf
                          refine wpO_nil ?_
                          refine wpL_cond hf rfl (fun hb181 => ?_) (fun hb181 => ?_)
                          · have hm := bif_t hm hb181
                            refine wpL_seq ?_
                            refine wpL_region ?_
                            refine sY hf hs rfl rfl rfl (Y_assign rfl rfl) ?_; clear hf; intro a hf
                            refine wpO_nil ?_
                            obtain rfl := Option.some.inj hm
                            refine wpL_ret (ret_tmp rfl hf rfl ?_)
                            exact ⟨_, rfl, rfl, hs.sel [] (by decide)⟩
                          · have hm := bif_f hm hb181
                            refine wpL_skip ?_
                            refine wpL_seq ?_
                            refine wpL_seq ?_
                            refine wpL_region ?_
                            refine sY hf hs rfl rfl rfl (Y_move rfl rfl) ?_; clear hf; intro a hf
                            refine sY hf hs rfl rfl rfl (Y_move rfl rfl) ?_; clear hf; intro a hf
                            refine sY hf hs rfl rfl rfl (Y_neq rfl rfl rfl) ?_; clear hf; intro a hf
                            refine wpO_nil ?_
                            refine wpL_cond hf rfl (fun hb182 => ?_) (fun hb182 => ?_)
                            · have hm := bif_t hm hb182
                              refine wpL_seq ?_
                              refine wpL_region ?_
                              refine sY hf hs rfl rfl rfl (Y_assign rfl rfl) ?_; clear hf; intro a hf
                              refine wpO_nil ?_
                              obtain rfl := Option.some.inj hm
                              refine wpL_ret (ret_tmp rfl hf rfl ?_)
                              exact ⟨_, rfl, rfl, hs.sel [] (by decide)⟩
                            · have hm := bif_f hm hb182
                              refine wpL_skip ?_
                              refine wpL_seq ?_
                              refine wpL_region ?_
                              refine sY hf hs rfl rfl rfl (Y_assign rfl rfl) ?_; clear hf; intro a hf
                              refine wpO_nil ?_
                              obtain rfl := Option.some.inj hm
                              refine wpL_ret (ret_tmp rfl hf rfl ?_)
                              exact ⟨_, rfl, rfl, hs.sel [] (by decide)⟩

end Go.Proofs.Ytcpfhonmmpbadaa
