/- The functions do what their models say. -/
import Derived.Test.YtgkgimglgjfcjaaOutputsLifted1
import Derived.Test.YtgkgimglgjfcjaaRows
namespace Go.Proofs.Ytgkgimglgjfcjaa
open Go.RowKit

set_option maxRecDepth 100000 in
theorem impl_IsSystem_ok (F : Nat) (p0_s : GSystem) (A_p0_s_1 : Option Addr) (n_p0_s_1 c_p0_s_1 : Nat) (hn_p0_s_1 : n_p0_s_1 = p0_s.A.length) (A_p0_s_2 : Option Addr) (n_p0_s_2 c_p0_s_2 : Nat) (hn_p0_s_2 : n_p0_s_2 = p0_s.B.length) (A_p0_s_3 : Option Addr) (n_p0_s_3 c_p0_s_3 : Nat) (hn_p0_s_3 : n_p0_s_3 = p0_s.C.length) (r : Bool) (W : World) (hm : impl_IsSystem F p0_s = some r) (h_p0_s_1 : RdM W A_p0_s_1 p0_s.A) (h_p0_s_2 : Rd W A_p0_s_2 (ints p0_s.B)) (h_p0_s_3 : Rd W A_p0_s_3 (ints p0_s.C)) :
    Calls Try.prog 31 [.agg #[.slice A_p0_s_1 n_p0_s_1 c_p0_s_1, .slice A_p0_s_2 n_p0_s_2 c_p0_s_2, .slice A_p0_s_3 n_p0_s_3 c_p0_s_3]].toArray W fun e w' => ∃ v, e = .returned v ∧ v = .bool r ∧ St [] W w' [] := by
  subst hn_p0_s_1
  subst hn_p0_s_2
  subst hn_p0_s_3
  unfold impl_IsSystem at hm
  refine Calls.enter (N := 34) Try.func31 rfl rfl rfl (fun a hf => ?_)
  have hs := St.start W
  obtain ⟨w, hw_⟩ : ∃ w, w = W := ⟨W, rfl⟩
  clear hw_ w
  refine wpL_seq ?_
  refine wpL_region ?_
  refine sBox hf hs rfl rfl rfl rfl rfl (cs := [.slice A_p0_s_1 p0_s.A.length c_p0_s_1, .slice A_p0_s_2 p0_s.B.length c_p0_s_2, .slice A_p0_s_3 p0_s.C.length c_p0_s_3]) rfl ?_; clear hf hs; intro a w b1 hs hf
  have hs : St [] W w [.blk b1 27 [.slice A_p0_s_1 p0_s.A.length c_p0_s_1, .slice A_p0_s_2 p0_s.B.length c_p0_s_2, .slice A_p0_s_3 p0_s.C.length c_p0_s_3]] := hs
  refine sY hf hs rfl rfl rfl (Y_assign rfl rfl) ?_; clear hf; intro a hf
  refine wpO_nil ?_
  refine wpL_seq ?_
  obtain ⟨r13, hj14, hm⟩ := bind_some hm
  refine wpL_cut (fun a w => ∃ b12 : Bool, b12 = r13 ∧ Fr a 34 [(2, .bool b12)] ∧ St [] W w []) ?_ ?_
  · refine wpL_region ?_
    refine sY hf hs rfl rfl rfl (Y_fieldAddr rfl rfl fo27_0) ?_; clear hf; intro a hf
    refine sY hf hs rfl rfl rfl (Y_load_blk rfl rfl (i := 0) rfl rfl ag22) ?_; clear hf; intro a hf
    obtain ⟨r15, hc16, hj14⟩ := bind_some hj14
    refine sCall hf rfl rfl rfl rfl (cap := []) rfl rfl en117 (impl_isSquare_ok F p0_s.A A_p0_s_1 p0_s.A.length c_p0_s_1 rfl _ _ hc16 (h_p0_s_1.at hs)) ?_; clear hf
    rintro _ w ⟨rfl, hs1⟩ a hf
    have hs : St [] W w [.blk b1 27 [.slice A_p0_s_1 p0_s.A.length c_p0_s_1, .slice A_p0_s_2 p0_s.B.length c_p0_s_2, .slice A_p0_s_3 p0_s.C.length c_p0_s_3]] := hs.ext hs1.below
    clear hs1
    refine sY hf hs rfl rfl rfl (Y_move rfl rfl) ?_; clear hf; intro a hf
    refine bsplit r15 (fun hb17 => ?_) (fun hb17 => ?_)
    · have hj14 := bif_t hj14 hb17
      refine sYg hf hs rfl rfl rfl (congrArg (fun b => some (Value.bool b)) hb17) rfl rfl rfl (Y_fieldAddr rfl rfl fo27_1) ?_; clear hf; intro a hf
      refine sYg hf hs rfl rfl rfl (congrArg (fun b => some (Value.bool b)) hb17) rfl rfl rfl (Y_load_blk rfl rfl (i := 0) rfl rfl ag23) ?_; clear hf; intro a hf
      obtain ⟨r18, hc19, hj14⟩ := bind_some hj14
      refine sCallg hf rfl rfl rfl (congrArg (fun b => some (Value.bool b)) hb17) rfl rfl rfl rfl (cap := []) rfl rfl en118 (impl_isVector_ok F p0_s.B A_p0_s_2 p0_s.B.length c_p0_s_2 rfl _ _ hc19 (h_p0_s_2.at hs)) ?_; clear hf
      rintro _ w ⟨rfl, hs1⟩ a hf
      have hs : St [] W w [.blk b1 27 [.slice A_p0_s_1 p0_s.A.length c_p0_s_1, .slice A_p0_s_2 p0_s.B.length c_p0_s_2, .slice A_p0_s_3 p0_s.C.length c_p0_s_3]] := hs.ext hs1.below
      clear hs1
      refine sY hf hs rfl rfl rfl (Y_pickT rfl (congrArg (fun b => some (Value.bool b)) hb17) rfl) ?_; clear hf; intro a hf
      refine sY hf hs rfl rfl rfl (Y_move rfl rfl) ?_; clear hf; intro a hf
      refine bsplit r18 (fun hb20 => ?_) (fun hb20 => ?_)
      · have hj14 := bif_t hj14 hb20
        refine sYg hf hs rfl rfl rfl (congrArg (fun b => some (Value.bool b)) hb20) rfl rfl rfl (Y_fieldAddr rfl rfl fo27_2) ?_; clear hf; intro a hf
        refine sYg hf hs rfl rfl rfl (congrArg (fun b => some (Value.bool b)) hb20) rfl rfl rfl (Y_load_blk rfl rfl (i := 0) rfl rfl ag23) ?_; clear hf; intro a hf
        obtain ⟨r21, hc22, hj14⟩ := bind_some hj14
        refine sCallg hf rfl rfl rfl (congrArg (fun b => some (Value.bool b)) hb20) rfl rfl rfl rfl (cap := []) rfl rfl en118 (impl_isVector_ok F p0_s.C A_p0_s_3 p0_s.C.length c_p0_s_3 rfl _ _ hc22 (h_p0_s_3.at hs)) ?_; clear hf
        rintro _ w ⟨rfl, hs1⟩ a hf
        have hs : St [] W w [.blk b1 27 [.slice A_p0_s_1 p0_s.A.length c_p0_s_1, .slice A_p0_s_2 p0_s.B.length c_p0_s_2, .slice A_p0_s_3 p0_s.C.length c_p0_s_3]] := hs.ext hs1.below
        clear hs1
        refine sY hf hs rfl rfl rfl (Y_pickT rfl (congrArg (fun b => some (Value.bool b)) hb20) rfl) ?_; clear hf; intro a hf
        refine sY hf hs rfl rfl rfl (Y_move rfl rfl) ?_; clear hf; intro a hf
        refine bsplit r21 (fun hb23 => ?_) (fun hb23 => ?_)
        · have hj14 := bif_t hj14 hb23
          refine sYg hf hs rfl rfl rfl (congrArg (fun b => some (Value.bool b)) hb23) rfl rfl rfl (Y_fieldAddr rfl rfl fo27_1) ?_; clear hf; intro a hf
          refine sYg hf hs rfl rfl rfl (congrArg (fun b => some (Value.bool b)) hb23) rfl rfl rfl (Y_load_blk rfl rfl (i := 0) rfl rfl ag23) ?_; clear hf; intro a hf
          refine sYg hf hs rfl rfl rfl (congrArg (fun b => some (Value.bool b)) hb23) rfl rfl rfl (Y_lenH rfl rfl el23 rfl) ?_; clear hf; intro a hf
          refine sYg hf hs rfl rfl rfl (congrArg (fun b => some (Value.bool b)) hb23) rfl rfl rfl (Y_fieldAddr rfl rfl fo27_0) ?_; clear hf; intro a hf
          refine sYg hf hs rfl rfl rfl (congrArg (fun b => some (Value.bool b)) hb23) rfl rfl rfl (Y_load_blk rfl rfl (i := 0) rfl rfl ag22) ?_; clear hf; intro a hf
          refine sYg hf hs rfl rfl rfl (congrArg (fun b => some (Value.bool b)) hb23) rfl rfl rfl (Y_lenH rfl rfl el22 rfl) ?_; clear hf; intro a hf
          refine sYg hf hs rfl rfl rfl (congrArg (fun b => some (Value.bool b)) hb23) rfl rfl rfl (Y_eql rfl rfl rfl) ?_; clear hf; intro a hf
          refine sY hf hs rfl rfl rfl (Y_pickT rfl (congrArg (fun b => some (Value.bool b)) hb23) rfl) ?_; clear hf; intro a hf
          refine sY hf hs rfl rfl rfl (Y_move rfl rfl) ?_; clear hf; intro a hf
          refine bsplit ((p0_s.B.length : Int) == (p0_s.A.length : Int)) (fun hb24 => ?_) (fun hb24 => ?_)
          · have hj14 := bif_t hj14 hb24
            refine sYg hf hs rfl rfl rfl (congrArg (fun b => some (Value.bool b)) hb24) rfl rfl rfl (Y_fieldAddr rfl rfl fo27_2) ?_; clear hf; intro a hf
            refine sYg hf hs rfl rfl rfl (congrArg (fun b => some (Value.bool b)) hb24) rfl rfl rfl (Y_load_blk rfl rfl (i := 0) rfl rfl ag23) ?_; clear hf; intro a hf
            refine sYg hf hs rfl rfl rfl (congrArg (fun b => some (Value.bool b)) hb24) rfl rfl rfl (Y_lenH rfl rfl el23 rfl) ?_; clear hf; intro a hf
            refine sYg hf hs rfl rfl rfl (congrArg (fun b => some (Value.bool b)) hb24) rfl rfl rfl (Y_fieldAddr rfl rfl fo27_0) ?_; clear hf; intro a hf
            refine sYg hf hs rfl rfl rfl (congrArg (fun b => some (Value.bool b)) hb24) rfl rfl rfl (Y_load_blk rfl rfl (i := 0) rfl rfl ag22) ?_; clear hf; intro a hf
            refine sYg hf hs rfl rfl rfl (congrArg (fun b => some (Value.bool b)) hb24) rfl rfl rfl (Y_lenH rfl rfl el22 rfl) ?_; clear hf; intro a hf
            refine sYg hf hs rfl rfl rfl (congrArg (fun b => some (Value.bool b)) hb24) rfl rfl rfl (Y_eql rfl rfl rfl) ?_; clear hf; intro a hf
            refine sY hf hs rfl rfl rfl (Y_pickT rfl (congrArg (fun b => some (Value.bool b)) hb24) rfl) ?_; clear hf; intro a hf
            refine sY hf hs rfl rfl rfl (Y_assign rfl rfl) ?_; clear hf; intro a hf
            refine wpO_nil ?_
            refine wpL_nil (then_normal ?_)
            exact ⟨((p0_s.C.length : Int) == (p0_s.A.length : Int)), Option.some.inj hj14, (FrD.pick hf.none hf rfl), hs.sel [] (by decide)⟩
          · have hj14 := bif_f hj14 hb24
            refine sNo hf rfl rfl rfl (congrArg (fun b => some (Value.bool b)) hb24) rfl rfl rfl ?_; clear hf; intro a hf
            refine sNo hf rfl rfl rfl (congrArg (fun b => some (Value.bool b)) hb24) rfl rfl rfl ?_; clear hf; intro a hf
            refine sNo hf rfl rfl rfl (congrArg (fun b => some (Value.bool b)) hb24) rfl rfl rfl ?_; clear hf; intro a hf
            refine sNo hf rfl rfl rfl (congrArg (fun b => some (Value.bool b)) hb24) rfl rfl rfl ?_; clear hf; intro a hf
            refine sNo hf rfl rfl rfl (congrArg (fun b => some (Value.bool b)) hb24) rfl rfl rfl ?_; clear hf; intro a hf
            refine sNo hf rfl rfl rfl (congrArg (fun b => some (Value.bool b)) hb24) rfl rfl rfl ?_; clear hf; intro a hf
            refine sNo hf rfl rfl rfl (congrArg (fun b => some (Value.bool b)) hb24) rfl rfl rfl ?_; clear hf; intro a hf
            refine sY hf hs rfl rfl rfl (Y_pickF rfl (congrArg (fun b => some (Value.bool b)) hb24) rfl) ?_; clear hf; intro a hf
            refine sY hf hs rfl rfl rfl (Y_assign rfl rfl) ?_; clear hf; intro a hf
            refine wpO_nil ?_
            refine wpL_nil (then_normal ?_)
            exact ⟨false, Option.some.inj hj14, (FrD.pick hf.none hf rfl), hs.sel [] (by decide)⟩
        · have hj14 := bif_f hj14 hb23
          refine sNo hf rfl rfl rfl (congrArg (fun b => some (Value.bool b)) hb23) rfl rfl rfl ?_; clear hf; intro a hf
          refine sNo hf rfl rfl rfl (congrArg (fun b => some (Value.bool b)) hb23) rfl rfl rfl ?_; clear hf; intro a hf
          refine sNo hf rfl rfl rfl (congrArg (fun b => some (Value.bool b)) hb23) rfl rfl rfl ?_; clear hf; intro a hf
          refine sNo hf rfl rfl rfl (congrArg (fun b => some (Value.bool b)) hb23) rfl rfl rfl ?_; clear hf; intro a hf
          refine sNo hf rfl rfl rfl (congrArg (fun b => some (Value.bool b)) hb23) rfl rfl rfl ?_; clear hf; intro a hf
          refine sNo hf rfl rfl rfl (congrArg (fun b => some (Value.bool b)) hb23) rfl rfl rfl ?_; clear hf; intro a hf
          refine sNo hf rfl rfl rfl (congrArg (fun b => some (Value.bool b)) hb23) rfl rfl rfl ?_; clear hf; intro a hf
          refine sY hf hs rfl rfl rfl (Y_pickF rfl (congrArg (fun b => some (Value.bool b)) hb23) rfl) ?_; clear hf; intro a hf
          refine sY hf hs rfl rfl rfl (Y_move rfl rfl) ?_; clear hf; intro a hf
          refine sNo hf rfl rfl rfl rfl rfl rfl rfl ?_; clear hf; intro a hf
          refine sNo hf rfl rfl rfl rfl rfl rfl rfl ?_; clear hf; intro a hf
          refine sNo hf rfl rfl rfl rfl rfl rfl rfl ?_; clear hf; intro a hf
          refine sNo hf rfl rfl rfl rfl rfl rfl rfl ?_; clear hf; intro a hf
          refine sNo hf rfl rfl rfl rfl rfl rfl rfl ?_; clear hf; intro a hf
          refine sNo hf rfl rfl rfl rfl rfl rfl rfl ?_; clear hf; intro a hf
          refine sNo hf rfl rfl rfl rfl rfl rfl rfl ?_; clear hf; intro a hf
          refine sY hf hs rfl rfl rfl (Y_pickF rfl rfl rfl) ?_; clear hf; intro a hf
          refine sY hf hs rfl rfl rfl (Y_assign rfl rfl) ?_; clear hf; intro a hf
          refine wpO_nil ?_
          refine wpL_nil (then_normal ?_)
          exact ⟨false, Option.some.inj hj14, (FrD.pick hf.none hf rfl), hs.sel [] (by decide)⟩
      · have hj14 := bif_f hj14 hb20
        refine sNo hf rfl rfl rfl (congrArg (fun b => some (Value.bool b)) hb20) rfl rfl rfl ?_; clear hf; intro a hf
        refine sNo hf rfl rfl rfl (congrArg (fun b => some (Value.bool b)) hb20) rfl rfl rfl ?_; clear hf; intro a hf
        refine sNo hf rfl rfl rfl (congrArg (fun b => some (Value.bool b)) hb20) rfl rfl rfl ?_; clear hf; intro a hf
        refine sY hf hs rfl rfl rfl (Y_pickF rfl (congrArg (fun b => some (Value.bool b)) hb20) rfl) ?_; clear hf; intro a hf
        refine sY hf hs rfl rfl rfl (Y_move rfl rfl) ?_; clear hf; intro a hf
        refine sNo hf rfl rfl rfl rfl rfl rfl rfl ?_; clear hf; intro a hf
        refine sNo hf rfl rfl rfl rfl rfl rfl rfl ?_; clear hf; intro a hf
        refine sNo hf rfl rfl rfl rfl rfl rfl rfl ?_; clear hf; intro a hf
        refine sNo hf rfl rfl rfl rfl rfl rfl rfl ?_; clear hf; intro a hf
        refine sNo hf rfl rfl rfl rfl rfl rfl rfl ?_; clear hf; intro a hf
        refine sNo hf rfl rfl rfl rfl rfl rfl rfl ?_; clear hf; intro a hf
        refine sNo hf rfl rfl rfl rfl rfl rfl rfl ?_; clear hf; intro a hf
        refine sY hf hs rfl rfl rfl (Y_pickF rfl rfl rfl) ?_; clear hf; intro a hf
        refine sY hf hs rfl rfl rfl (Y_move rfl rfl) ?_; clear hf; intro a hf
        refine sNo hf rfl rfl rfl rfl rfl rfl rfl ?_; clear hf; intro a hf
        refine sNo hf rfl rfl rfl rfl rfl rfl rfl ?_; clear hf; intro a hf
        refine sNo hf rfl rfl rfl rfl rfl rfl rfl ?_; clear hf; intro a hf
        refine sNo hf rfl rfl rfl rfl rfl rfl rfl ?_; clear hf; intro a hf
        refine sNo hf rfl rfl rfl rfl rfl rfl rfl ?_; clear hf; intro a hf
        refine sNo hf rfl rfl rfl rfl rfl rfl rfl ?_; clear hf; intro a hf
        refine sNo hf rfl rfl rfl rfl rfl rfl rfl ?_; clear hf; intro a hf
        refine sY hf hs rfl rfl rfl (Y_pickF rfl rfl rfl) ?_; clear hf; intro a hf
        refine sY hf hs rfl rfl rfl (Y_assign rfl rfl) ?_; clear hf; intro a hf
        refine wpO_nil ?_
        refine wpL_nil (then_normal ?_)
        exact ⟨false, Option.some.inj hj14, (FrD.pick hf.none hf rfl), hs.sel [] (by decide)⟩
    · have hj14 := bif_f hj14 hb17
      refine sNo hf rfl rfl rfl (congrArg (fun b => some (Value.bool b)) hb17) rfl rfl rfl ?_; clear hf; intro a hf
      refine sNo hf rfl rfl rfl (congrArg (fun b => some (Value.bool b)) hb17) rfl rfl rfl ?_; clear hf; intro a hf
      refine sNo hf rfl rfl rfl (congrArg (fun b => some (Value.bool b)) hb17) rfl rfl rfl ?_; clear hf; intro a hf
      refine sY hf hs rfl rfl rfl (Y_pickF rfl (congrArg (fun b => some (Value.bool b)) hb17) rfl) ?_; clear hf; intro a hf
      refine sY hf hs rfl rfl rfl (Y_move rfl rfl) ?_; clear hf; intro a hf
      refine sNo hf rfl rfl rfl rfl rfl rfl rfl ?_; clear hf; intro a hf
      refine sNo hf rfl rfl rfl rfl rfl rfl rfl ?_; clear hf; intro a hf
      refine sNo hf rfl rfl rfl rfl rfl rfl rfl ?_; clear hf; intro a hf
      refine sY hf hs rfl rfl rfl (Y_pickF rfl rfl rfl) ?_; clear hf; intro a hf
      refine sY hf hs rfl rfl rfl (Y_move rfl rfl) ?_; clear hf; intro a hf
      refine sNo hf rfl rfl rfl rfl rfl rfl rfl ?_; clear hf; intro a hf
      refine sNo hf rfl rfl rfl rfl rfl rfl rfl ?_; clear hf; intro a hf
      refine sNo hf rfl rfl rfl rfl rfl rfl rfl ?_; clear hf; intro a hf
      refine sNo hf rfl rfl rfl rfl rfl rfl rfl ?_; clear hf; intro a hf
      refine sNo hf rfl rfl rfl rfl rfl rfl rfl ?_; clear hf; intro a hf
      refine sNo hf rfl rfl rfl rfl rfl rfl rfl ?_; clear hf; intro a hf
      refine sNo hf rfl rfl rfl rfl rfl rfl rfl ?_; clear hf; intro a hf
      refine sY hf hs rfl rfl rfl (Y_pickF rfl rfl rfl) ?_; clear hf; intro a hf
      refine sY hf hs rfl rfl rfl (Y_move rfl rfl) ?_; clear hf; intro a hf
      refine sNo hf rfl rfl rfl rfl rfl rfl rfl ?_; clear hf; intro a hf
      refine sNo hf rfl rfl rfl rfl rfl rfl rfl ?_; clear hf; intro a hf
      refine sNo hf rfl rfl rfl rfl rfl rfl rfl ?_; clear hf; intro a hf
      refine sNo hf rfl rfl rfl rfl rfl rfl rfl ?_; clear hf; intro a hf
      refine sNo hf rfl rfl rfl rfl rfl rfl rfl ?_; clear hf; intro a hf
      refine sNo hf rfl rfl rfl rfl rfl rfl rfl ?_; clear hf; intro a hf
      refine sNo hf rfl rfl rfl rfl rfl rfl rfl ?_; clear hf; intro a hf
      refine sY hf hs rfl rfl rfl (Y_pickF rfl rfl rfl) ?_; clear hf; intro a hf
      refine sY hf hs rfl rfl rfl (Y_assign rfl rfl) ?_; clear hf; intro a hf
      refine wpO_nil ?_
      refine wpL_nil (then_normal ?_)
      exact ⟨false, Option.some.inj hj14, (FrD.pick hf.none hf rfl), hs.sel [] (by decide)⟩
  · rintro a w ⟨b12, hr_, hf, hs⟩
    subst hr_
    try dsimp only at hm
    obtain rfl := Option.some.inj hm
    refine wpL_ret (ret_tmp rfl hf rfl ?_)
    exact ⟨_, rfl, rfl, hs⟩

set_option maxRecDepth 100000 in
theorem impl_checkSystem_ok (F : Nat) (p0_s : GSystem) (A_p0_s_1 : Option Addr) (n_p0_s_1 c_p0_s_1 : Nat) (hn_p0_s_1 : n_p0_s_1 = p0_s.A.length) (A_p0_s_2 : Option Addr) (n_p0_s_2 c_p0_s_2 : Nat) (hn_p0_s_2 : n_p0_s_2 = p0_s.B.length) (A_p0_s_3 : Option Addr) (n_p0_s_3 c_p0_s_3 : Nat) (hn_p0_s_3 : n_p0_s_3 = p0_s.C.length) (p1_x : List Int) (A_p1_x_1 : Option Addr) (n_p1_x_1 c_p1_x_1 : Nat) (hn_p1_x_1 : n_p1_x_1 = p1_x.length) (p2_inputs : List Int) (A_p2_inputs_1 : Option Addr) (n_p2_inputs_1 c_p2_inputs_1 : Nat) (hn_p2_inputs_1 : n_p2_inputs_1 = p2_inputs.length) (r : Int) (W : World) (hm : impl_checkSystem F p0_s p1_x p2_inputs = some r) (h_p0_s_1 : RdM W A_p0_s_1 p0_s.A) (h_p0_s_2 : Rd W A_p0_s_2 (ints p0_s.B)) (h_p0_s_3 : Rd W A_p0_s_3 (ints p0_s.C)) (h_p1_x_1 : Rd W A_p1_x_1 (ints p1_x)) (h_p2_inputs_1 : Rd W A_p2_inputs_1 (ints p2_inputs)) :
    Calls Try.prog 110 [.agg #[.slice A_p0_s_1 n_p0_s_1 c_p0_s_1, .slice A_p0_s_2 n_p0_s_2 c_p0_s_2, .slice A_p0_s_3 n_p0_s_3 c_p0_s_3], .slice A_p1_x_1 n_p1_x_1 c_p1_x_1, .slice A_p2_inputs_1 n_p2_inputs_1 c_p2_inputs_1].toArray W fun e w' => ∃ v, e = .returned v ∧ v = .int .i64 r ∧ St [] W w' [] := by
  subst hn_p0_s_1
  subst hn_p0_s_2
  subst hn_p0_s_3
  subst hn_p1_x_1
  subst hn_p2_inputs_1
  unfold impl_checkSystem at hm
  refine Calls.enter (N := 33) Try.func110 rfl rfl rfl (fun a hf => ?_)
  have hs := St.start W
  obtain ⟨w, hw_⟩ : ∃ w, w = W := ⟨W, rfl⟩
  clear hw_ w
  refine wpL_seq ?_
  refine wpL_region ?_
  refine sBox hf hs rfl rfl rfl rfl rfl (cs := [.slice A_p0_s_1 p0_s.A.length c_p0_s_1, .slice A_p0_s_2 p0_s.B.length c_p0_s_2, .slice A_p0_s_3 p0_s.C.length c_p0_s_3]) rfl ?_; clear hf hs; intro a w b1 hs hf
  have hs : St [] W w [.blk b1 27 [.slice A_p0_s_1 p0_s.A.length c_p0_s_1, .slice A_p0_s_2 p0_s.B.length c_p0_s_2, .slice A_p0_s_3 p0_s.C.length c_p0_s_3]] := hs
  refine sY hf hs rfl rfl rfl (Y_assign rfl rfl) ?_; clear hf; intro a hf
  refine wpO_nil ?_
  refine wpL_seq ?_
  refine wpL_seq ?_
  obtain ⟨r13, hj14, hm⟩ := bind_some hm
  refine wpL_cut (fun a w => ∃ b12 : Bool, b12 = r13 ∧ Fr a 33 [(32, .bool b12)] ∧ St [] W w []) ?_ ?_
  · refine wpL_region ?_
    refine sY hf hs rfl rfl rfl (Y_load_blkS rfl rfl (i := 0) rfl ag27 ti27 rfl) ?_; clear hf; intro a hf
    obtain ⟨r15, hc16, hj14⟩ := bind_some hj14
    refine sCall hf rfl rfl rfl rfl (cap := []) rfl rfl en31 (impl_IsSystem_ok F p0_s A_p0_s_1 p0_s.A.length c_p0_s_1 rfl A_p0_s_2 p0_s.B.length c_p0_s_2 rfl A_p0_s_3 p0_s.C.length c_p0_s_3 rfl _ _ hc16 (h_p0_s_1.at hs) (h_p0_s_2.at hs) (h_p0_s_3.at hs)) ?_; clear hf
    rintro _ w ⟨rfl, hs1⟩ a hf
    have hs : St [] W w [.blk b1 27 [.slice A_p0_s_1 p0_s.A.length c_p0_s_1, .slice A_p0_s_2 p0_s.B.length c_p0_s_2, .slice A_p0_s_3 p0_s.C.length c_p0_s_3]] := hs.ext hs1.below
    clear hs1
    refine sY hf hs rfl rfl rfl (Y_not rfl rfl) ?_; clear hf; intro a hf
    refine sY hf hs rfl rfl rfl (Y_move rfl rfl) ?_; clear hf; intro a hf
    refine bsplit (!r15) (fun hb17 => ?_) (fun hb17 => ?_)
    · have hj14 := bif_t hj14 hb17
      refine sNo hf rfl rfl rfl (congrArg (fun b => some (Value.bool b)) hb17) rfl rfl rfl ?_; clear hf; intro a hf
      refine sNo hf rfl rfl rfl (congrArg (fun b => some (Value.bool b)) hb17) rfl rfl rfl ?_; clear hf; intro a hf
      refine sNo hf rfl rfl rfl (congrArg (fun b => some (Value.bool b)) hb17) rfl rfl rfl ?_; clear hf; intro a hf
      refine sY hf hs rfl rfl rfl (Y_pickT rfl (congrArg (fun b => some (Value.bool b)) hb17) rfl) ?_; clear hf; intro a hf
      refine sY hf hs rfl rfl rfl (Y_move rfl rfl) ?_; clear hf; intro a hf
      refine sNo hf rfl rfl rfl rfl rfl rfl rfl ?_; clear hf; intro a hf
      refine sNo hf rfl rfl rfl rfl rfl rfl rfl ?_; clear hf; intro a hf
      refine sNo hf rfl rfl rfl rfl rfl rfl rfl ?_; clear hf; intro a hf
      refine sNo hf rfl rfl rfl rfl rfl rfl rfl ?_; clear hf; intro a hf
      refine sNo hf rfl rfl rfl rfl rfl rfl rfl ?_; clear hf; intro a hf
      refine sNo hf rfl rfl rfl rfl rfl rfl rfl ?_; clear hf; intro a hf
      refine sY hf hs rfl rfl rfl (Y_pickT rfl rfl rfl) ?_; clear hf; intro a hf
      refine sY hf hs rfl rfl rfl (Y_move rfl rfl) ?_; clear hf; intro a hf
      refine sNo hf rfl rfl rfl rfl rfl rfl rfl ?_; clear hf; intro a hf
      refine sNo hf rfl rfl rfl rfl rfl rfl rfl ?_; clear hf; intro a hf
      refine sNo hf rfl rfl rfl rfl rfl rfl rfl ?_; clear hf; intro a hf
      refine sY hf hs rfl rfl rfl (Y_pickT rfl rfl rfl) ?_; clear hf; intro a hf
      refine sY hf hs rfl rfl rfl (Y_move rfl rfl) ?_; clear hf; intro a hf
      refine sNo hf rfl rfl rfl rfl rfl rfl rfl ?_; clear hf; intro a hf
      refine sNo hf rfl rfl rfl rfl rfl rfl rfl ?_; clear hf; intro a hf
      refine sNo hf rfl rfl rfl rfl rfl rfl rfl ?_; clear hf; intro a hf
      refine sY hf hs rfl rfl rfl (Y_pickT rfl rfl rfl) ?_; clear hf; intro a hf
      refine wpO_nil ?_
      refine wpL_nil (then_normal ?_)
      exact ⟨true, Option.some.inj hj14, (FrD.pick hf.none hf rfl), hs.sel [] (by decide)⟩
    · have hj14 := bif_f hj14 hb17
      refine sYg hf hs rfl rfl rfl (congrArg (fun b => some (Value.bool b)) hb17) rfl rfl rfl (Y_move rfl rfl) ?_; clear hf; intro a hf
      obtain ⟨r18, hc19, hj14⟩ := bind_some hj14
      refine sCallg hf rfl rfl rfl (congrArg (fun b => some (Value.bool b)) hb17) rfl rfl rfl rfl (cap := []) rfl rfl en118 (impl_isVector_ok F p1_x A_p1_x_1 p1_x.length c_p1_x_1 rfl _ _ hc19 (h_p1_x_1.at hs)) ?_; clear hf
      rintro _ w ⟨rfl, hs1⟩ a hf
      have hs : St [] W w [.blk b1 27 [.slice A_p0_s_1 p0_s.A.length c_p0_s_1, .slice A_p0_s_2 p0_s.B.length c_p0_s_2, .slice A_p0_s_3 p0_s.C.length c_p0_s_3]] := hs.ext hs1.below
      clear hs1
      refine sYg hf hs rfl rfl rfl (congrArg (fun b => some (Value.bool b)) hb17) rfl rfl rfl (Y_not rfl rfl) ?_; clear hf; intro a hf
      refine sY hf hs rfl rfl rfl (Y_pickF rfl (congrArg (fun b => some (Value.bool b)) hb17) rfl) ?_; clear hf; intro a hf
      refine sY hf hs rfl rfl rfl (Y_move rfl rfl) ?_; clear hf; intro a hf
      refine bsplit (!r18) (fun hb20 => ?_) (fun hb20 => ?_)
      · have hj14 := bif_t hj14 hb20
        refine sNo hf rfl rfl rfl (congrArg (fun b => some (Value.bool b)) hb20) rfl rfl rfl ?_; clear hf; intro a hf
        refine sNo hf rfl rfl rfl (congrArg (fun b => some (Value.bool b)) hb20) rfl rfl rfl ?_; clear hf; intro a hf
        refine sNo hf rfl rfl rfl (congrArg (fun b => some (Value.bool b)) hb20) rfl rfl rfl ?_; clear hf; intro a hf
        refine sNo hf rfl rfl rfl (congrArg (fun b => some (Value.bool b)) hb20) rfl rfl rfl ?_; clear hf; intro a hf
        refine sNo hf rfl rfl rfl (congrArg (fun b => some (Value.bool b)) hb20) rfl rfl rfl ?_; clear hf; intro a hf
        refine sNo hf rfl rfl rfl (congrArg (fun b => some (Value.bool b)) hb20) rfl rfl rfl ?_; clear hf; intro a hf
        refine sY hf hs rfl rfl rfl (Y_pickT rfl (congrArg (fun b => some (Value.bool b)) hb20) rfl) ?_; clear hf; intro a hf
        refine sY hf hs rfl rfl rfl (Y_move rfl rfl) ?_; clear hf; intro a hf
        refine sNo hf rfl rfl rfl rfl rfl rfl rfl ?_; clear hf; intro a hf
        refine sNo hf rfl rfl rfl rfl rfl rfl rfl ?_; clear hf; intro a hf
        refine sNo hf rfl rfl rfl rfl rfl rfl rfl ?_; clear hf; intro a hf
        refine sY hf hs rfl rfl rfl (Y_pickT rfl rfl rfl) ?_; clear hf; intro a hf
        refine sY hf hs rfl rfl rfl (Y_move rfl rfl) ?_; clear hf; intro a hf
        refine sNo hf rfl rfl rfl rfl rfl rfl rfl ?_; clear hf; intro a hf
        refine sNo hf rfl rfl rfl rfl rfl rfl rfl ?_; clear hf; intro a hf
        refine sNo hf rfl rfl rfl rfl rfl rfl rfl ?_; clear hf; intro a hf
        refine sY hf hs rfl rfl rfl (Y_pickT rfl rfl rfl) ?_; clear hf; intro a hf
        refine wpO_nil ?_
        refine wpL_nil (then_normal ?_)
        exact ⟨true, Option.some.inj hj14, (FrD.pick hf.none hf rfl), hs.sel [] (by decide)⟩
      · have hj14 := bif_f hj14 hb20
        refine sYg hf hs rfl rfl rfl (congrArg (fun b => some (Value.bool b)) hb20) rfl rfl rfl (Y_move rfl rfl) ?_; clear hf; intro a hf
        refine sYg hf hs rfl rfl rfl (congrArg (fun b => some (Value.bool b)) hb20) rfl rfl rfl (Y_lenH rfl rfl el23 rfl) ?_; clear hf; intro a hf
        refine sYg hf hs rfl rfl rfl (congrArg (fun b => some (Value.bool b)) hb20) rfl rfl rfl (Y_fieldAddr rfl rfl fo27_0) ?_; clear hf; intro a hf
        refine sYg hf hs rfl rfl rfl (congrArg (fun b => some (Value.bool b)) hb20) rfl rfl rfl (Y_load_blk rfl rfl (i := 0) rfl rfl ag22) ?_; clear hf; intro a hf
        refine sYg hf hs rfl rfl rfl (congrArg (fun b => some (Value.bool b)) hb20) rfl rfl rfl (Y_lenH rfl rfl el22 rfl) ?_; clear hf; intro a hf
        refine sYg hf hs rfl rfl rfl (congrArg (fun b => some (Value.bool b)) hb20) rfl rfl rfl (Y_neq rfl rfl rfl) ?_; clear hf; intro a hf
        refine sY hf hs rfl rfl rfl (Y_pickF rfl (congrArg (fun b => some (Value.bool b)) hb20) rfl) ?_; clear hf; intro a hf
        refine sY hf hs rfl rfl rfl (Y_move rfl rfl) ?_; clear hf; intro a hf
        refine bsplit ((p1_x.length : Int) != (p0_s.A.length : Int)) (fun hb21 => ?_) (fun hb21 => ?_)
        · have hj14 := bif_t hj14 hb21
          refine sNo hf rfl rfl rfl (congrArg (fun b => some (Value.bool b)) hb21) rfl rfl rfl ?_; clear hf; intro a hf
          refine sNo hf rfl rfl rfl (congrArg (fun b => some (Value.bool b)) hb21) rfl rfl rfl ?_; clear hf; intro a hf
          refine sNo hf rfl rfl rfl (congrArg (fun b => some (Value.bool b)) hb21) rfl rfl rfl ?_; clear hf; intro a hf
          refine sY hf hs rfl rfl rfl (Y_pickT rfl (congrArg (fun b => some (Value.bool b)) hb21) rfl) ?_; clear hf; intro a hf
          refine sY hf hs rfl rfl rfl (Y_move rfl rfl) ?_; clear hf; intro a hf
          refine sNo hf rfl rfl rfl rfl rfl rfl rfl ?_; clear hf; intro a hf
          refine sNo hf rfl rfl rfl rfl rfl rfl rfl ?_; clear hf; intro a hf
          refine sNo hf rfl rfl rfl rfl rfl rfl rfl ?_; clear hf; intro a hf
          refine sY hf hs rfl rfl rfl (Y_pickT rfl rfl rfl) ?_; clear hf; intro a hf
          refine wpO_nil ?_
          refine wpL_nil (then_normal ?_)
          exact ⟨true, Option.some.inj hj14, (FrD.pick hf.none hf rfl), hs.sel [] (by decide)⟩
        · have hj14 := bif_f hj14 hb21
          refine sYg hf hs rfl rfl rfl (congrArg (fun b => some (Value.bool b)) hb21) rfl rfl rfl (Y_move rfl rfl) ?_; clear hf; intro a hf
          refine sYg hf hs rfl rfl rfl (congrArg (fun b => some (Value.bool b)) hb21) rfl rfl rfl (Y_lenH rfl rfl el23 rfl) ?_; clear hf; intro a hf
          refine sYg hf hs rfl rfl rfl (congrArg (fun b => some (Value.bool b)) hb21) rfl rfl rfl (Y_gtr rfl rfl rfl) ?_; clear hf; intro a hf
          refine sY hf hs rfl rfl rfl (Y_pickF rfl (congrArg (fun b => some (Value.bool b)) hb21) rfl) ?_; clear hf; intro a hf
          refine sY hf hs rfl rfl rfl (Y_move rfl rfl) ?_; clear hf; intro a hf
          refine bsplit (decide (50 < (p2_inputs.length : Int))) (fun hb22 => ?_) (fun hb22 => ?_)
          · have hj14 := bif_t hj14 hb22
            refine sNo hf rfl rfl rfl (congrArg (fun b => some (Value.bool b)) hb22) rfl rfl rfl ?_; clear hf; intro a hf
            refine sNo hf rfl rfl rfl (congrArg (fun b => some (Value.bool b)) hb22) rfl rfl rfl ?_; clear hf; intro a hf
            refine sNo hf rfl rfl rfl (congrArg (fun b => some (Value.bool b)) hb22) rfl rfl rfl ?_; clear hf; intro a hf
            refine sY hf hs rfl rfl rfl (Y_pickT rfl (congrArg (fun b => some (Value.bool b)) hb22) rfl) ?_; clear hf; intro a hf
            refine wpO_nil ?_
            refine wpL_nil (then_normal ?_)
            exact ⟨true, Option.some.inj hj14, (FrD.pick hf.none hf rfl), hs.sel [] (by decide)⟩
          · have hj14 := bif_f hj14 hb22
            refine sYg hf hs rfl rfl rfl (congrArg (fun b => some (Value.bool b)) hb22) rfl rfl rfl (Y_move rfl rfl) ?_; clear hf; intro a hf
            obtain ⟨r23, hc24, hj14⟩ := bind_some hj14
            refine sCallg hf rfl rfl rfl (congrArg (fun b => some (Value.bool b)) hb22) rfl rfl rfl rfl (cap := []) rfl rfl en86 (impl_areValues_ok F p2_inputs A_p2_inputs_1 p2_inputs.length c_p2_inputs_1 rfl _ _ hc24 (h_p2_inputs_1.at hs)) ?_; clear hf
            rintro _ w ⟨rfl, hs1⟩ a hf
            have hs : St [] W w [.blk b1 27 [.slice A_p0_s_1 p0_s.A.length c_p0_s_1, .slice A_p0_s_2 p0_s.B.length c_p0_s_2, .slice A_p0_s_3 p0_s.C.length c_p0_s_3]] := hs.ext hs1.below
            clear hs1
            refine sYg hf hs rfl rfl rfl (congrArg (fun b => some (Value.bool b)) hb22) rfl rfl rfl (Y_not rfl rfl) ?_; clear hf; intro a hf
            refine sY hf hs rfl rfl rfl (Y_pickF rfl (congrArg (fun b => some (Value.bool b)) hb22) rfl) ?_; clear hf; intro a hf
            refine wpO_nil ?_
            refine wpL_nil (then_normal ?_)
            exact ⟨(!r23), Option.some.inj hj14, (FrD.pick hf.none hf rfl), hs.sel [] (by decide)⟩
  · rintro a w ⟨b12, hr_, hf, hs⟩
    subst hr_
    try dsimp only at hm
    refine wpL_cond hf rfl (fun hb25 => ?_) (fun hb25 => ?_)
    · have hm := bif_t hm hb25
      refine wpL_seq ?_
      refine wpL_region ?_
      refine sY hf hs rfl rfl rfl (Y_assign rfl rfl) ?_; clear hf; intro a hf
      refine wpO_nil ?_
      obtain rfl := Option.some.inj hm
      refine wpL_ret (ret_tmp rfl hf rfl ?_)
      exact ⟨_, rfl, rfl, hs⟩
    · have hm := bif_f hm hb25
      refine wpL_skip ?_
      refine wpL_seq ?_
      refine wpL_region ?_
      refine sY hf hs rfl rfl rfl (Y_assign rfl rfl) ?_; clear hf; intro a hf
      refine wpO_nil ?_
      obtain rfl := Option.some.inj hm
      refine wpL_ret (ret_tmp rfl hf rfl ?_)
      exact ⟨_, rfl, rfl, hs⟩

set_option maxRecDepth 100000 in
theorem slices_Clone_int64_ok (F : Nat) (p0_s : List Int) (A_p0_s_1 : Option Addr) (n_p0_s_1 c_p0_s_1 : Nat) (hn_p0_s_1 : n_p0_s_1 = p0_s.length) (r : List Int) (W : World) (hm : slices_Clone_int64 F p0_s = some r) (h_p0_s_1 : Rd W A_p0_s_1 (ints p0_s)) :
    Calls Try.prog 91 [.slice A_p0_s_1 n_p0_s_1 c_p0_s_1].toArray W fun e w' => ∃ v, e = .returned v ∧ ∃ A7, ∃ n8, ∃ c9, v = .slice A7 n8 c9 ∧ n8 = r.length ∧ St [] W w' [.row A7 n8 c9 2 1 (ints r)] := by
  subst hn_p0_s_1
  cases A_p0_s_1 with
  | none =>
    obtain rfl : p0_s = [] := rd_none_ints h_p0_s_1
    have hm : some ([] : List Int) = some r := hm
    refine Calls.enter (N := 8) Try.func91 rfl rfl rfl (fun a hf => ?_)
    have hs := St.start W
    obtain ⟨w, hw_⟩ : ∃ w, w = W := ⟨W, rfl⟩
    clear hw_ w
    refine wpL_seq ?_
    refine wpL_region ?_
    refine sY hf hs rfl rfl rfl (Y_assign rfl rfl) ?_; clear hf; intro a hf
    refine wpO_nil ?_
    refine wpL_seq ?_
    refine wpL_seq ?_
    refine wpL_region ?_
    refine sY hf hs rfl rfl rfl (Y_move rfl rfl) ?_; clear hf; intro a hf
    refine sY hf hs rfl rfl rfl (Y_eqnil rfl rfl rfl un23) ?_; clear hf; intro a hf
    refine wpO_nil ?_
    refine wpL_cond hf rfl (fun _ => ?_) (fun e => absurd e (by decide))
    refine wpL_seq ?_
    refine wpL_region ?_
    refine sY hf hs rfl rfl rfl (Y_assign rfl rfl) ?_; clear hf; intro a hf
    refine wpO_nil ?_
    have hs : St [] W _ [.row none 0 0 2 1 (ints ([] : List Int))] := hs.addNil 2 1
    obtain rfl := Option.some.inj hm
    refine wpL_ret (ret_tmp rfl hf rfl ?_)
    exact ⟨_, rfl, none, 0, 0, rfl, rfl, hs⟩
  | some a_ =>
    unfold slices_Clone_int64 at hm
    refine Calls.enter (N := 8) Try.func91 rfl rfl rfl (fun a hf => ?_)
    have hs := St.start W
    obtain ⟨w, hw_⟩ : ∃ w, w = W := ⟨W, rfl⟩
    clear hw_ w
    refine wpL_seq ?_
    refine wpL_region ?_
    refine sY hf hs rfl rfl rfl (Y_assign rfl rfl) ?_; clear hf; intro a hf
    refine wpO_nil ?_
    refine wpL_seq ?_
    refine wpL_seq ?_
    refine wpL_region ?_
    refine sY hf hs rfl rfl rfl (Y_move rfl rfl) ?_; clear hf; intro a hf
    refine sY hf hs rfl rfl rfl (Y_eqnil rfl rfl rfl un23) ?_; clear hf; intro a hf
    refine wpO_nil ?_
    refine wpL_cond hf rfl (fun e => absurd e Bool.false_ne_true) (fun _ => ?_)
    refine wpL_skip ?_
    refine wpL_seq ?_
    refine wpL_region ?_
    refine sEmpty hf hs rfl rfl rfl rfl el23 ti2 ?_; clear hf hs; intro a w A1 hs hf
    have hs : St [] W w [.row A1 0 0 2 1 (ints ([] : List Int))] := hs
    refine sY hf hs rfl rfl rfl (Y_move rfl rfl) ?_; clear hf; intro a hf
    obtain ⟨xs5, ha6, hm⟩ := bind_some hm
    refine sAppendG (i := 0) (xs := ([] : List Int)) (ys := p0_s) (enc := ints) hf hs rfl rfl rfl rfl rfl rfl rfl rfl rfl ha6 el23 ti2 rfl rfl rfl (h_p0_s_1.at hs) ints_len1 ints_append ints_one ?_; clear hf hs; intro a w A3 c4 hs hf
    have hs : St [] W w [.row A3 xs5.length c4 2 1 (ints xs5)] := hs
    refine sY hf hs rfl rfl rfl (Y_assign rfl rfl) ?_; clear hf; intro a hf
    refine wpO_nil ?_
    obtain rfl := Option.some.inj hm
    refine wpL_ret (ret_tmp rfl hf rfl ?_)
    exact ⟨_, rfl, A3, xs5.length, c4, rfl, rfl, hs⟩

set_option maxRecDepth 100000 in
theorem impl_times_ok (F : Nat) (p0_a : Int) (p1_b : Int) (r : Int) (W : World) (hm : impl_times F p0_a p1_b = some r) :
    Calls Try.prog 90 [.int .i64 p0_a, .int .i64 p1_b].toArray W fun e w' => ∃ v, e = .returned v ∧ v = .int .i64 r ∧ St [] W w' [] := by
  unfold impl_times at hm
  refine Calls.enter (N := 14) Try.func90 rfl rfl rfl (fun a hf => ?_)
  have hs := St.start W
  obtain ⟨w, hw_⟩ : ∃ w, w = W := ⟨W, rfl⟩
  clear hw_ w
  refine wpL_seq ?_
  refine wpL_region ?_
  refine sY hf hs rfl rfl rfl (Y_assign rfl rfl) ?_; clear hf; intro a hf
  refine wpO_nil ?_
  refine wpL_seq ?_
  refine wpL_seq ?_
  obtain ⟨r3, hj4, hm⟩ := bind_some hm
  refine wpL_cut (fun a w => ∃ b2 : Bool, b2 = r3 ∧ Fr a 14 [(0, .int .i64 p0_a), (1, .int .i64 p1_b), (10, .bool b2)] ∧ St [] W w []) ?_ ?_
  · refine wpL_region ?_
    refine sY hf hs rfl rfl rfl (Y_move rfl rfl) ?_; clear hf; intro a hf
    refine sY hf hs rfl rfl rfl (Y_eql rfl rfl rfl) ?_; clear hf; intro a hf
    refine sY hf hs rfl rfl rfl (Y_move rfl rfl) ?_; clear hf; intro a hf
    refine bsplit (p0_a == (-1000000000000000)) (fun hb5 => ?_) (fun hb5 => ?_)
    · have hj4 := bif_t hj4 hb5
      refine sNo hf rfl rfl rfl (congrArg (fun b => some (Value.bool b)) hb5) rfl rfl rfl ?_; clear hf; intro a hf
      refine sNo hf rfl rfl rfl (congrArg (fun b => some (Value.bool b)) hb5) rfl rfl rfl ?_; clear hf; intro a hf
      refine sY hf hs rfl rfl rfl (Y_pickT rfl (congrArg (fun b => some (Value.bool b)) hb5) rfl) ?_; clear hf; intro a hf
      refine wpO_nil ?_
      refine wpL_nil (then_normal ?_)
      exact ⟨true, Option.some.inj hj4, (FrD.pick (FrD.pick (FrD.pick hf.none hf rfl) hf rfl) hf rfl), hs⟩
    · have hj4 := bif_f hj4 hb5
      refine sYg hf hs rfl rfl rfl (congrArg (fun b => some (Value.bool b)) hb5) rfl rfl rfl (Y_move rfl rfl) ?_; clear hf; intro a hf
      refine sYg hf hs rfl rfl rfl (congrArg (fun b => some (Value.bool b)) hb5) rfl rfl rfl (Y_eql rfl rfl rfl) ?_; clear hf; intro a hf
      refine sY hf hs rfl rfl rfl (Y_pickF rfl (congrArg (fun b => some (Value.bool b)) hb5) rfl) ?_; clear hf; intro a hf
      refine wpO_nil ?_
      refine wpL_nil (then_normal ?_)
      exact ⟨(p1_b == (-1000000000000000)), Option.some.inj hj4, (FrD.pick (FrD.pick (FrD.pick hf.none hf rfl) hf rfl) hf rfl), hs⟩
  · rintro a w ⟨b2, hr_, hf, hs⟩
    subst hr_
    try dsimp only at hm
    refine wpL_cond hf rfl (fun hb6 => ?_) (fun hb6 => ?_)
    · have hm := bif_t hm hb6
      refine wpL_seq ?_
      refine wpL_region ?_
      refine sY hf hs rfl rfl rfl (Y_assign rfl rfl) ?_; clear hf; intro a hf
      refine wpO_nil ?_
      obtain rfl := Option.some.inj hm
      refine wpL_ret (ret_tmp rfl hf rfl ?_)
      exact ⟨_, rfl, rfl, hs⟩
    · have hm := bif_f hm hb6
      refine wpL_skip ?_
      refine wpL_seq ?_
      refine wpL_region ?_
      refine sY hf hs rfl rfl rfl (Y_move rfl rfl) ?_; clear hf; intro a hf
      refine sY hf hs rfl rfl rfl (Y_move rfl rfl) ?_; clear hf; intro a hf
      refine sY hf hs rfl rfl rfl (Y_add rfl rfl rfl) ?_; clear hf; intro a hf
      refine sY hf hs rfl rfl rfl (Y_assign rfl rfl) ?_; clear hf; intro a hf
      refine wpO_nil ?_
      obtain rfl := Option.some.inj hm
      refine wpL_ret (ret_tmp rfl hf rfl ?_)
      exact ⟨_, rfl, rfl, hs⟩

set_option maxRecDepth 100000 in
theorem impl_timesVector_ok (F : Nat) (p0_a : List (List Int)) (A_p0_a_1 : Option Addr) (n_p0_a_1 c_p0_a_1 : Nat) (hn_p0_a_1 : n_p0_a_1 = p0_a.length) (p1_x : List Int) (A_p1_x_1 : Option Addr) (n_p1_x_1 c_p1_x_1 : Nat) (hn_p1_x_1 : n_p1_x_1 = p1_x.length) (r : List Int) (W : World) (hm : impl_timesVector F p0_a p1_x = some r) (h_p0_a_1 : RdM W A_p0_a_1 p0_a) (h_p1_x_1 : Rd W A_p1_x_1 (ints p1_x)) :
    Calls Try.prog 83 [.slice A_p0_a_1 n_p0_a_1 c_p0_a_1, .slice A_p1_x_1 n_p1_x_1 c_p1_x_1].toArray W fun e w' => ∃ v, e = .returned v ∧ ∃ A488, ∃ n489, ∃ c490, v = .slice A488 n489 c490 ∧ n489 = r.length ∧ St [] W w' [.row A488 n489 c490 2 1 (ints r)] := by
  subst hn_p0_a_1
  subst hn_p1_x_1
  unfold impl_timesVector at hm
  refine Calls.enter (N := 47) Try.func83 rfl rfl rfl (fun a hf => ?_)
  have hs := St.start W
  obtain ⟨w, hw_⟩ : ∃ w, w = W := ⟨W, rfl⟩
  clear hw_ w
  refine wpL_seq ?_
  refine wpL_region ?_
  refine sY hf hs rfl rfl rfl (Y_assign rfl rfl) ?_; clear hf; intro a hf
  refine wpO_nil ?_
  refine wpL_seq ?_
  refine wpL_region ?_
  refine sY hf hs rfl rfl rfl (Y_move rfl rfl) ?_; clear hf; intro a hf
  refine sY hf hs rfl rfl rfl (Y_lenH rfl rfl el22 rfl) ?_; clear hf; intro a hf
  obtain ⟨xs3, hk2, hm⟩ := bind_some hm
  refine sMakeL (enc := ints) hf hs rfl rfl rfl rfl rfl hk2 el23 ti2 rfl ints_made ?_; clear hf hs; intro a w A1 hs hf
  have hs : St [] W w [.row A1 xs3.length xs3.length 2 1 (ints xs3)] := hs
  refine sY hf hs rfl rfl rfl (Y_assign rfl rfl) ?_; clear hf; intro a hf
  refine wpO_nil ?_
  refine wpL_seq ?_
  refine wpL_seq ?_
  refine wpL_region ?_
  refine sY hf hs rfl rfl rfl (Y_move rfl rfl) ?_; clear hf; intro a hf
  refine sY hf hs rfl rfl rfl (Y_lenH rfl rfl el22 rfl) ?_; clear hf; intro a hf
  refine sY hf hs rfl rfl rfl (Y_move rfl rfl) ?_; clear hf; intro a hf
  refine wpO_nil ?_
  obtain ⟨r366, hl367, hm⟩ := bind_some hm
  refine wpL_block (fun a w => ∃ xs364 : List Int, xs364 = r366 ∧ xs3.length = xs364.length ∧ Fr a 47 [(5, .slice A1 xs3.length xs3.length)] ∧ St [] W w [.row A1 xs3.length xs3.length 2 1 (ints xs364)]) ?_ ?_
  · refine wpL_loop (fun n a w => ∃ xs243 : List Int, ∃ x245 : Int, impl_timesVector_L4 F p0_a p1_x n xs243 x245 = some r366 ∧ xs3.length = xs243.length ∧ Fr a 47 [(1, .slice A_p1_x_1 p1_x.length c_p1_x_1), (5, .slice A1 xs3.length xs3.length), (13, .slice A_p0_a_1 p0_a.length c_p0_a_1), (14, .int .i64 (p0_a.length : Int)), (15, .int .i64 x245)] ∧ St [] W w [.row A1 xs3.length xs3.length 2 1 (ints xs243)]) F ?_ ?_ ?_
    · exact ⟨xs3, 0, hl367, rfl, (FrD.pick (FrD.pick (FrD.pick (FrD.pick (FrD.pick hf.none hf rfl) hf rfl) hf rfl) hf rfl) hf rfl), hs⟩
    · rintro a w ⟨xs243, x245, h0_, -, -, -⟩; simp [impl_timesVector_L4] at h0_
    · rintro n369 a w ⟨xs243, x245, hm368, hn244, hf, hs⟩
      rw [impl_timesVector_L4] at hm368
      refine wpL_seq ?_
      refine wpL_region ?_
      refine sY hf hs rfl rfl rfl (Y_lss rfl rfl rfl) ?_; clear hf; intro a hf
      refine wpO_nil ?_
      refine wpL_seq ?_
      refine wpL_cond hf rfl (fun hb370 => ?_) (fun hb370 => ?_)
      · have hm368 := bif_t hm368 hb370
        refine wpL_skip ?_
        refine wpL_seq ?_
        refine wpL_block0 ?_
        refine wpL_seq ?_
        refine wpL_region ?_
        refine sY hf hs rfl rfl rfl (Y_move rfl rfl) ?_; clear hf; intro a hf
        obtain ⟨q371, hi372, hm368⟩ := bind_some hm368
        obtain ⟨hi372a, hi372b, hi372q⟩ := idx_some hi372
        obtain ⟨vs373, hv374, hr375⟩ := id h_p0_a_1
        obtain ⟨A376, c377, hv378, hR379⟩ := hr375 _ _ hi372q
        refine sY hf hs rfl rfl rfl (Y_index rfl rfl rfl el22 ti23 (Rd.isAt hv374 hv378) hi372a hi372b) ?_; clear hf; intro a hf
        refine sY hf hs rfl rfl rfl (Y_load_rd rfl rfl (fun w hs => hv374.at hs) (at1 hv378) ag23) ?_; clear hf; intro a hf
        refine sY hf hs rfl rfl rfl (Y_assign rfl rfl) ?_; clear hf; intro a hf
        refine sY hf hs rfl rfl rfl (Y_assign rfl rfl) ?_; clear hf; intro a hf
        refine wpO_nil ?_
        refine wpL_seq ?_
        refine wpL_region ?_
        refine sY hf hs rfl rfl rfl (Y_move rfl rfl) ?_; clear hf; intro a hf
        refine sY hf hs rfl rfl rfl (Y_move rfl rfl) ?_; clear hf; intro a hf
        obtain ⟨q380, hi381, hm368⟩ := bind_some hm368
        obtain ⟨hi381a, hi381b, hi381q⟩ := idx_some hi381
        refine sY hf hs rfl rfl rfl (Y_index rfl rfl rfl el23 ti2 (Rd.isAt (hs.rd (i := 0) rfl) (at1 (ints_at hi381q))) hi381a (ltn hn244 hi381b)) ?_; clear hf; intro a hf
        obtain ⟨xs382, hu383, hm368⟩ := bind_some hm368
        refine sStoreL (i := 0) (us := [.int .i64 (-1000000000000000)]) (enc := ints) hf hs rfl rfl rfl rfl rfl rfl hn244 hu383 ti2 rfl rfl rfl rfl rfl ints_len1 (ints_set (-1000000000000000)) ?_; clear hs; intro w hs
        have hs : St [] W w [.row A1 xs3.length xs3.length 2 1 (ints xs382)] := hs
        refine wpO_nil ?_
        refine wpL_seq ?_
        refine wpL_region ?_
        refine sY hf hs rfl rfl rfl (Y_move rfl rfl) ?_; clear hf; intro a hf
        refine sY hf hs rfl rfl rfl (Y_lenH rfl rfl el23 rfl) ?_; clear hf; intro a hf
        refine sY hf hs rfl rfl rfl (Y_move rfl rfl) ?_; clear hf; intro a hf
        refine wpO_nil ?_
        obtain ⟨r461, hl462, hm368⟩ := bind_some hm368
        refine wpL_block (fun a w => ∃ xs459 : List Int, xs459 = r461 ∧ xs3.length = xs459.length ∧ Fr a 47 [(1, .slice A_p1_x_1 p1_x.length c_p1_x_1), (5, .slice A1 xs3.length xs3.length), (13, .slice A_p0_a_1 p0_a.length c_p0_a_1), (14, .int .i64 (p0_a.length : Int)), (15, .int .i64 x245)] ∧ St [] W w [.row A1 xs3.length xs3.length 2 1 (ints xs459)]) ?_ ?_
        · refine wpL_loop (fun n a w => ∃ xs433 : List Int, ∃ x435 : Int, impl_timesVector_L5 F p1_x x245 q371 n xs433 x435 = some r461 ∧ xs3.length = xs433.length ∧ Fr a 47 [(1, .slice A_p1_x_1 p1_x.length c_p1_x_1), (5, .slice A1 xs3.length xs3.length), (6, .int .i64 x245), (13, .slice A_p0_a_1 p0_a.length c_p0_a_1), (14, .int .i64 (p0_a.length : Int)), (15, .int .i64 x245), (23, .slice A376 q371.length c377), (24, .int .i64 (q371.length : Int)), (25, .int .i64 x435)] ∧ St [] W w [.row A1 xs3.length xs3.length 2 1 (ints xs433)]) F ?_ ?_ ?_
          · exact ⟨xs382, 0, hl462, ((hn244).trans (upd_len hu383).symm), (FrD.pick (FrD.pick (FrD.pick (FrD.pick (FrD.pick (FrD.pick (FrD.pick (FrD.pick (FrD.pick hf.none hf rfl) hf rfl) hf rfl) hf rfl) hf rfl) hf rfl) hf rfl) hf rfl) hf rfl), hs⟩
          · rintro a w ⟨xs433, x435, h0_, -, -, -⟩; simp [impl_timesVector_L5] at h0_
          · rintro n464 a w ⟨xs433, x435, hm463, hn434, hf, hs⟩
            rw [impl_timesVector_L5] at hm463
            refine wpL_seq ?_
            refine wpL_region ?_
            refine sY hf hs rfl rfl rfl (Y_lss rfl rfl rfl) ?_; clear hf; intro a hf
            refine wpO_nil ?_
            refine wpL_seq ?_
            refine wpL_cond hf rfl (fun hb465 => ?_) (fun hb465 => ?_)
            · have hm463 := bif_t hm463 hb465
              refine wpL_skip ?_
              refine wpL_seq ?_
              refine wpL_block0 ?_
              refine wpL_seq ?_
              refine wpL_region ?_
              refine sY hf hs rfl rfl rfl (Y_move rfl rfl) ?_; clear hf; intro a hf
              obtain ⟨q466, hi467, hm463⟩ := bind_some hm463
              obtain ⟨hi467a, hi467b, hi467q⟩ := idx_some hi467
              refine sY hf hs rfl rfl rfl (Y_index rfl rfl rfl el23 ti2 (Rd.isAt (hR379.at hs) (at1 (ints_at hi467q))) hi467a hi467b) ?_; clear hf; intro a hf
              refine sY hf hs rfl rfl rfl (Y_load_rd rfl rfl (fun w hs => hR379.at hs) (at1 (ints_at hi467q)) ag2) ?_; clear hf; intro a hf
              refine sY hf hs rfl rfl rfl (Y_assign rfl rfl) ?_; clear hf; intro a hf
              refine sY hf hs rfl rfl rfl (Y_assign rfl rfl) ?_; clear hf; intro a hf
              refine wpO_nil ?_
              refine wpL_drawM [.row A1 xs3.length xs3.length 2 1 (ints xs433)] [14] (by kernel_rfl) hs ?_; clear hs; intro w hs
              have hs0 : St [] W w [.row A1 xs3.length xs3.length 2 1 (ints xs433)] := hs
              refine mYp (i := 0) rfl (by kernel_rfl) (by kernel_rfl) hf rfl rfl rfl (fun _ => Y_move rfl rfl) ?_; clear hf; intro a hf
              refine mYp (i := 1) rfl (by kernel_rfl) (by kernel_rfl) hf rfl rfl rfl (fun _ => Y_move rfl rfl) ?_; clear hf; intro a hf
              refine mYp (i := 2) rfl (by kernel_rfl) (by kernel_rfl) hf rfl rfl rfl (fun _ => Y_move rfl rfl) ?_; clear hf; intro a hf
              refine mYp (i := 3) rfl (by kernel_rfl) (by kernel_rfl) hf rfl rfl rfl (fun _ => Y_move rfl rfl) ?_; clear hf; intro a hf
              obtain ⟨q478, hi479, hm463⟩ := bind_some hm463
              obtain ⟨hi479a, hi479b, hi479q⟩ := idx_some hi479
              refine mYp (i := 4) rfl (by kernel_rfl) (by kernel_rfl) hf rfl rfl rfl (fun _ => Y_index rfl rfl rfl el23 ti2 (Rd.isAt (hs.rd (i := 0) rfl) (at1 (ints_at hi479q))) hi479a (ltn hn434 hi479b)) ?_; clear hf; intro a hf
              refine mY (i := 5) [[]] rfl (by kernel_rfl) (by kernel_rfl) hf hs0 rfl rfl rfl (Y_load_rd rfl rfl (fun w hs => hs.rd (i := 0) rfl) (at1 (ints_at hi479q)) ag2) ?_; clear hf; intro a hf
              refine mYp (i := 6) rfl (by kernel_rfl) (by kernel_rfl) hf rfl rfl rfl (fun _ => Y_move rfl rfl) ?_; clear hf; intro a hf
              refine mYp (i := 7) rfl (by kernel_rfl) (by kernel_rfl) hf rfl rfl rfl (fun _ => Y_move rfl rfl) ?_; clear hf; intro a hf
              refine mYp (i := 8) rfl (by kernel_rfl) (by kernel_rfl) hf rfl rfl rfl (fun _ => Y_move rfl rfl) ?_; clear hf; intro a hf
              obtain ⟨q480, hi481, hm463⟩ := bind_some hm463
              obtain ⟨hi481a, hi481b, hi481q⟩ := idx_some hi481
              refine mYp (i := 9) rfl (by kernel_rfl) (by kernel_rfl) hf rfl rfl rfl (fun _ => Y_index rfl rfl rfl el23 ti2 (Rd.isAt (h_p1_x_1.at hs) (at1 (ints_at hi481q))) hi481a hi481b) ?_; clear hf; intro a hf
              refine mY (i := 10) [[]] rfl (by kernel_rfl) (by kernel_rfl) hf hs0 rfl rfl rfl (Y_load_rd rfl rfl (fun w hs => h_p1_x_1.at hs) (at1 (ints_at hi481q)) ag2) ?_; clear hf; intro a hf
              refine mRun (i := 11) rfl (by kernel_rfl) ?_
              obtain ⟨r482, hc483, hm463⟩ := bind_some hm463
              refine sCall hf rfl rfl rfl rfl (cap := []) rfl rfl en90 (impl_times_ok F q466 q480 _ _ hc483) ?_; clear hf
              rintro _ w ⟨rfl, hs1⟩ a hf
              have hs : St [] W w [.row A1 xs3.length xs3.length 2 1 (ints xs433)] := hs.ext hs1.below
              clear hs1
              have hs0 : St [] W w [.row A1 xs3.length xs3.length 2 1 (ints xs433)] := hs
              refine wpO_nil ⟨Or.inr (fun _ => hs0), ?_⟩
              refine mYp (i := 12) rfl (by kernel_rfl) (by kernel_rfl) hf rfl rfl rfl (fun _ => Y_max rfl rfl rfl) ?_; clear hf; intro a hf
              obtain ⟨q484, hi485, hm463⟩ := bind_some hm463
              obtain ⟨hi485a, hi485b, hi485q⟩ := idx_some hi485
              refine mYp (i := 13) rfl (by kernel_rfl) (by kernel_rfl) hf rfl rfl rfl (fun _ => Y_index rfl rfl rfl el23 ti2 (Rd.isAt (hs.rd (i := 0) rfl) (at1 (ints_at hi485q))) hi485a (ltn hn434 hi485b)) ?_; clear hf; intro a hf
              refine mRun (i := 14) rfl (by kernel_rfl) ?_
              obtain ⟨xs486, hu487, hm463⟩ := bind_some hm463
              refine sStoreL (i := 0) (us := [.int .i64 (max q478 r482)]) (enc := ints) hf hs rfl rfl rfl rfl rfl rfl hn434 hu487 ti2 rfl rfl rfl rfl rfl ints_len1 (ints_set (max q478 r482)) ?_; clear hs; intro w hs
              have hs : St [] W w [.row A1 xs3.length xs3.length 2 1 (ints xs486)] := hs
              refine wpO_nil ⟨Or.inl (by decide), ?_⟩
              refine mDone (by kernel_rfl) ?_
              clear hs0
              refine wpL_nil (Qb_normal ?_)
              refine wpL_region ?_
              refine sY hf hs rfl rfl rfl (Y_add rfl rfl rfl) ?_; clear hf; intro a hf
              refine sY hf hs rfl rfl rfl (Y_move rfl rfl) ?_; clear hf; intro a hf
              refine wpO_nil ?_
              refine wpL_nil (Ql_normal ?_)
              exact ⟨xs486, (IntKind.i64.wrap (x435 + 1)), hm463, ((hn434).trans (upd_len hu487).symm), (FrD.pick (FrD.pick (FrD.pick (FrD.pick (FrD.pick (FrD.pick (FrD.pick (FrD.pick (FrD.pick hf.none hf rfl) hf rfl) hf rfl) hf rfl) hf rfl) hf rfl) hf rfl) hf rfl) hf rfl), hs⟩
            · have hm463 := bif_f hm463 hb465
              refine wpL_exit (Ql_exit (Qb_exit ?_))
              exact ⟨xs433, Option.some.inj hm463, hn434, (FrD.pick (FrD.pick (FrD.pick (FrD.pick (FrD.pick hf.none hf rfl) hf rfl) hf rfl) hf rfl) hf rfl), hs⟩
        · rintro a w ⟨xs459, hr_, hn460, hf, hs⟩
          subst hr_
          try dsimp only at hm368
          refine wpL_nil (Qb_normal ?_)
          refine wpL_region ?_
          refine sY hf hs rfl rfl rfl (Y_add rfl rfl rfl) ?_; clear hf; intro a hf
          refine sY hf hs rfl rfl rfl (Y_move rfl rfl) ?_; clear hf; intro a hf
          refine wpO_nil ?_
          refine wpL_nil (Ql_normal ?_)
          exact ⟨xs459, (IntKind.i64.wrap (x245 + 1)), hm368, hn460, (FrD.pick (FrD.pick (FrD.pick (FrD.pick (FrD.pick hf.none hf rfl) hf rfl) hf rfl) hf rfl) hf rfl), hs⟩
      · have hm368 := bif_f hm368 hb370
        refine wpL_exit (Ql_exit (Qb_exit ?_))
        exact ⟨xs243, Option.some.inj hm368, hn244, (FrD.pick hf.none hf rfl), hs⟩
  · rintro a w ⟨xs364, hr_, hn365, hf, hs⟩
    subst hr_
    try dsimp only at hm
    refine wpL_seq ?_
    refine wpL_region ?_
    refine sY hf hs rfl rfl rfl (Y_move rfl rfl) ?_; clear hf; intro a hf
    refine sY hf hs rfl rfl rfl (Y_assign rfl rfl) ?_; clear hf; intro a hf
    refine wpO_nil ?_
    obtain rfl := Option.some.inj hm
    refine wpL_ret (ret_tmp rfl hf rfl ?_)
    exact ⟨_, rfl, A1, xs3.length, xs3.length, rfl, hn365, hs⟩

set_option maxRecDepth 100000 in
theorem impl_shiftedVector_ok (F : Nat) (p0_x : List Int) (A_p0_x_1 : Option Addr) (n_p0_x_1 c_p0_x_1 : Nat) (hn_p0_x_1 : n_p0_x_1 = p0_x.length) (p1_g : Int) (r : List Int) (W : World) (hm : impl_shiftedVector F p0_x p1_g = some r) (h_p0_x_1 : Rd W A_p0_x_1 (ints p0_x)) :
    Calls Try.prog 167 [.slice A_p0_x_1 n_p0_x_1 c_p0_x_1, .int .i64 p1_g].toArray W fun e w' => ∃ v, e = .returned v ∧ ∃ A52, ∃ n53, ∃ c54, v = .slice A52 n53 c54 ∧ n53 = r.length ∧ St [] W w' [.row A52 n53 c54 2 1 (ints r)] := by
  subst hn_p0_x_1
  unfold impl_shiftedVector at hm
  refine Calls.enter (N := 26) Try.func167 rfl rfl rfl (fun a hf => ?_)
  have hs := St.start W
  obtain ⟨w, hw_⟩ : ∃ w, w = W := ⟨W, rfl⟩
  clear hw_ w
  refine wpL_seq ?_
  refine wpL_region ?_
  refine sY hf hs rfl rfl rfl (Y_assign rfl rfl) ?_; clear hf; intro a hf
  refine wpO_nil ?_
  refine wpL_seq ?_
  refine wpL_region ?_
  refine sY hf hs rfl rfl rfl (Y_move rfl rfl) ?_; clear hf; intro a hf
  refine sY hf hs rfl rfl rfl (Y_lenH rfl rfl el23 rfl) ?_; clear hf; intro a hf
  obtain ⟨xs3, hk2, hm⟩ := bind_some hm
  refine sMakeL (enc := ints) hf hs rfl rfl rfl rfl rfl hk2 el23 ti2 rfl ints_made ?_; clear hf hs; intro a w A1 hs hf
  have hs : St [] W w [.row A1 xs3.length xs3.length 2 1 (ints xs3)] := hs
  refine sY hf hs rfl rfl rfl (Y_assign rfl rfl) ?_; clear hf; intro a hf
  refine wpO_nil ?_
  refine wpL_seq ?_
  refine wpL_seq ?_
  refine wpL_region ?_
  refine sY hf hs rfl rfl rfl (Y_move rfl rfl) ?_; clear hf; intro a hf
  refine sY hf hs rfl rfl rfl (Y_lenH rfl rfl el23 rfl) ?_; clear hf; intro a hf
  refine sY hf hs rfl rfl rfl (Y_move rfl rfl) ?_; clear hf; intro a hf
  refine wpO_nil ?_
  obtain ⟨r39, hl40, hm⟩ := bind_some hm
  refine wpL_block (fun a w => ∃ xs37 : List Int, xs37 = r39 ∧ xs3.length = xs37.length ∧ Fr a 26 [(5, .slice A1 xs3.length xs3.length)] ∧ St [] W w [.row A1 xs3.length xs3.length 2 1 (ints xs37)]) ?_ ?_
  · refine wpL_loop (fun n a w => ∃ xs25 : List Int, ∃ x27 : Int, impl_shiftedVector_L1 F p0_x p1_g n xs25 x27 = some r39 ∧ xs3.length = xs25.length ∧ Fr a 26 [(1, .int .i64 p1_g), (5, .slice A1 xs3.length xs3.length), (11, .slice A_p0_x_1 p0_x.length c_p0_x_1), (12, .int .i64 (p0_x.length : Int)), (13, .int .i64 x27)] ∧ St [] W w [.row A1 xs3.length xs3.length 2 1 (ints xs25)]) F ?_ ?_ ?_
    · exact ⟨xs3, 0, hl40, rfl, (FrD.pick (FrD.pick (FrD.pick (FrD.pick (FrD.pick hf.none hf rfl) hf rfl) hf rfl) hf rfl) hf rfl), hs⟩
    · rintro a w ⟨xs25, x27, h0_, -, -, -⟩; simp [impl_shiftedVector_L1] at h0_
    · rintro n42 a w ⟨xs25, x27, hm41, hn26, hf, hs⟩
      rw [impl_shiftedVector_L1] at hm41
      refine wpL_seq ?_
      refine wpL_region ?_
      refine sY hf hs rfl rfl rfl (Y_lss rfl rfl rfl) ?_; clear hf; intro a hf
      refine wpO_nil ?_
      refine wpL_seq ?_
      refine wpL_cond hf rfl (fun hb43 => ?_) (fun hb43 => ?_)
      · have hm41 := bif_t hm41 hb43
        refine wpL_skip ?_
        refine wpL_seq ?_
        refine wpL_block0 ?_
        refine wpL_seq ?_
        refine wpL_region ?_
        refine sY hf hs rfl rfl rfl (Y_move rfl rfl) ?_; clear hf; intro a hf
        obtain ⟨q44, hi45, hm41⟩ := bind_some hm41
        obtain ⟨hi45a, hi45b, hi45q⟩ := idx_some hi45
        refine sY hf hs rfl rfl rfl (Y_index rfl rfl rfl el23 ti2 (Rd.isAt (h_p0_x_1.at hs) (at1 (ints_at hi45q))) hi45a hi45b) ?_; clear hf; intro a hf
        refine sY hf hs rfl rfl rfl (Y_load_rd rfl rfl (fun w hs => h_p0_x_1.at hs) (at1 (ints_at hi45q)) ag2) ?_; clear hf; intro a hf
        refine sY hf hs rfl rfl rfl (Y_assign rfl rfl) ?_; clear hf; intro a hf
        refine sY hf hs rfl rfl rfl (Y_assign rfl rfl) ?_; clear hf; intro a hf
        refine wpO_nil ?_
        refine wpL_region ?_
        refine sY hf hs rfl rfl rfl (Y_move rfl rfl) ?_; clear hf; intro a hf
        refine sY hf hs rfl rfl rfl (Y_move rfl rfl) ?_; clear hf; intro a hf
        refine sY hf hs rfl rfl rfl (Y_move rfl rfl) ?_; clear hf; intro a hf
        refine sY hf hs rfl rfl rfl (Y_move rfl rfl) ?_; clear hf; intro a hf
        obtain ⟨r46, hc47, hm41⟩ := bind_some hm41
        refine sCall hf rfl rfl rfl rfl (cap := []) rfl rfl en90 (impl_times_ok F q44 p1_g _ _ hc47) ?_; clear hf
        rintro _ w ⟨rfl, hs1⟩ a hf
        have hs : St [] W w [.row A1 xs3.length xs3.length 2 1 (ints xs25)] := hs.ext hs1.below
        clear hs1
        obtain ⟨q48, hi49, hm41⟩ := bind_some hm41
        obtain ⟨hi49a, hi49b, hi49q⟩ := idx_some hi49
        refine sY hf hs rfl rfl rfl (Y_index rfl rfl rfl el23 ti2 (Rd.isAt (hs.rd (i := 0) rfl) (at1 (ints_at hi49q))) hi49a (ltn hn26 hi49b)) ?_; clear hf; intro a hf
        obtain ⟨xs50, hu51, hm41⟩ := bind_some hm41
        refine sStoreL (i := 0) (us := [.int .i64 r46]) (enc := ints) hf hs rfl rfl rfl rfl rfl rfl hn26 hu51 ti2 rfl rfl rfl rfl rfl ints_len1 (ints_set r46) ?_; clear hs; intro w hs
        have hs : St [] W w [.row A1 xs3.length xs3.length 2 1 (ints xs50)] := hs
        refine wpO_nil ?_
        refine wpL_nil (Qb_normal ?_)
        refine wpL_region ?_
        refine sY hf hs rfl rfl rfl (Y_add rfl rfl rfl) ?_; clear hf; intro a hf
        refine sY hf hs rfl rfl rfl (Y_move rfl rfl) ?_; clear hf; intro a hf
        refine wpO_nil ?_
        refine wpL_nil (Ql_normal ?_)
        exact ⟨xs50, (IntKind.i64.wrap (x27 + 1)), hm41, ((hn26).trans (upd_len hu51).symm), (FrD.pick (FrD.pick (FrD.pick (FrD.pick (FrD.pick hf.none hf rfl) hf rfl) hf rfl) hf rfl) hf rfl), hs⟩
      · have hm41 := bif_f hm41 hb43
        refine wpL_exit (Ql_exit (Qb_exit ?_))
        exact ⟨xs25, Option.some.inj hm41, hn26, (FrD.pick hf.none hf rfl), hs⟩
  · rintro a w ⟨xs37, hr_, hn38, hf, hs⟩
    subst hr_
    try dsimp only at hm
    refine wpL_seq ?_
    refine wpL_region ?_
    refine sY hf hs rfl rfl rfl (Y_move rfl rfl) ?_; clear hf; intro a hf
    refine sY hf hs rfl rfl rfl (Y_assign rfl rfl) ?_; clear hf; intro a hf
    refine wpO_nil ?_
    obtain rfl := Option.some.inj hm
    refine wpL_ret (ret_tmp rfl hf rfl ?_)
    exact ⟨_, rfl, A1, xs3.length, xs3.length, rfl, hn38, hs⟩

set_option maxRecDepth 100000 in
theorem impl_innerProduct_ok (F : Nat) (p0_a : List Int) (A_p0_a_1 : Option Addr) (n_p0_a_1 c_p0_a_1 : Nat) (hn_p0_a_1 : n_p0_a_1 = p0_a.length) (p1_b : List Int) (A_p1_b_1 : Option Addr) (n_p1_b_1 c_p1_b_1 : Nat) (hn_p1_b_1 : n_p1_b_1 = p1_b.length) (r : Int) (W : World) (hm : impl_innerProduct F p0_a p1_b = some r) (h_p0_a_1 : Rd W A_p0_a_1 (ints p0_a)) (h_p1_b_1 : Rd W A_p1_b_1 (ints p1_b)) :
    Calls Try.prog 85 [.slice A_p0_a_1 n_p0_a_1 c_p0_a_1, .slice A_p1_b_1 n_p1_b_1 c_p1_b_1].toArray W fun e w' => ∃ v, e = .returned v ∧ v = .int .i64 r ∧ St [] W w' [] := by
  subst hn_p0_a_1
  subst hn_p1_b_1
  unfold impl_innerProduct at hm
  refine Calls.enter (N := 25) Try.func85 rfl rfl rfl (fun a hf => ?_)
  have hs := St.start W
  obtain ⟨w, hw_⟩ : ∃ w, w = W := ⟨W, rfl⟩
  clear hw_ w
  refine wpL_seq ?_
  refine wpL_region ?_
  refine sY hf hs rfl rfl rfl (Y_assign rfl rfl) ?_; clear hf; intro a hf
  refine wpO_nil ?_
  refine wpL_seq ?_
  refine wpL_region ?_
  refine sY hf hs rfl rfl rfl (Y_assign rfl rfl) ?_; clear hf; intro a hf
  refine wpO_nil ?_
  refine wpL_seq ?_
  refine wpL_seq ?_
  refine wpL_region ?_
  refine sY hf hs rfl rfl rfl (Y_move rfl rfl) ?_; clear hf; intro a hf
  refine sY hf hs rfl rfl rfl (Y_lenH rfl rfl el23 rfl) ?_; clear hf; intro a hf
  refine sY hf hs rfl rfl rfl (Y_move rfl rfl) ?_; clear hf; intro a hf
  refine wpO_nil ?_
  obtain ⟨r27, hl28, hm⟩ := bind_some hm
  refine wpL_block (fun a w => ∃ x26 : Int, x26 = r27 ∧ Fr a 25 [(5, .int .i64 x26)] ∧ St [] W w []) ?_ ?_
  · refine wpL_loop (fun n a w => ∃ x17 : Int, ∃ x18 : Int, impl_innerProduct_L1 F p0_a p1_b n x17 x18 = some r27 ∧ Fr a 25 [(1, .slice A_p1_b_1 p1_b.length c_p1_b_1), (5, .int .i64 x17), (8, .slice A_p0_a_1 p0_a.length c_p0_a_1), (9, .int .i64 (p0_a.length : Int)), (10, .int .i64 x18)] ∧ St [] W w []) F ?_ ?_ ?_
    · exact ⟨(-1000000000000000), 0, hl28, (FrD.pick (FrD.pick (FrD.pick (FrD.pick (FrD.pick hf.none hf rfl) hf rfl) hf rfl) hf rfl) hf rfl), hs⟩
    · rintro a w ⟨x17, x18, h0_, -, -⟩; simp [impl_innerProduct_L1] at h0_
    · rintro n30 a w ⟨x17, x18, hm29, hf, hs⟩
      rw [impl_innerProduct_L1] at hm29
      refine wpL_seq ?_
      refine wpL_region ?_
      refine sY hf hs rfl rfl rfl (Y_lss rfl rfl rfl) ?_; clear hf; intro a hf
      refine wpO_nil ?_
      refine wpL_seq ?_
      refine wpL_cond hf rfl (fun hb31 => ?_) (fun hb31 => ?_)
      · have hm29 := bif_t hm29 hb31
        refine wpL_skip ?_
        refine wpL_seq ?_
        refine wpL_block0 ?_
        refine wpL_seq ?_
        refine wpL_region ?_
        refine sY hf hs rfl rfl rfl (Y_move rfl rfl) ?_; clear hf; intro a hf
        obtain ⟨q32, hi33, hm29⟩ := bind_some hm29
        obtain ⟨hi33a, hi33b, hi33q⟩ := idx_some hi33
        refine sY hf hs rfl rfl rfl (Y_index rfl rfl rfl el23 ti2 (Rd.isAt (h_p0_a_1.at hs) (at1 (ints_at hi33q))) hi33a hi33b) ?_; clear hf; intro a hf
        refine sY hf hs rfl rfl rfl (Y_load_rd rfl rfl (fun w hs => h_p0_a_1.at hs) (at1 (ints_at hi33q)) ag2) ?_; clear hf; intro a hf
        refine sY hf hs rfl rfl rfl (Y_assign rfl rfl) ?_; clear hf; intro a hf
        refine sY hf hs rfl rfl rfl (Y_assign rfl rfl) ?_; clear hf; intro a hf
        refine wpO_nil ?_
        refine wpL_region ?_
        refine sY hf hs rfl rfl rfl (Y_move rfl rfl) ?_; clear hf; intro a hf
        refine sY hf hs rfl rfl rfl (Y_move rfl rfl) ?_; clear hf; intro a hf
        refine sY hf hs rfl rfl rfl (Y_move rfl rfl) ?_; clear hf; intro a hf
        refine sY hf hs rfl rfl rfl (Y_move rfl rfl) ?_; clear hf; intro a hf
        obtain ⟨q34, hi35, hm29⟩ := bind_some hm29
        obtain ⟨hi35a, hi35b, hi35q⟩ := idx_some hi35
        refine sY hf hs rfl rfl rfl (Y_index rfl rfl rfl el23 ti2 (Rd.isAt (h_p1_b_1.at hs) (at1 (ints_at hi35q))) hi35a hi35b) ?_; clear hf; intro a hf
        refine sY hf hs rfl rfl rfl (Y_load_rd rfl rfl (fun w hs => h_p1_b_1.at hs) (at1 (ints_at hi35q)) ag2) ?_; clear hf; intro a hf
        obtain ⟨r36, hc37, hm29⟩ := bind_some hm29
        refine sCall hf rfl rfl rfl rfl (cap := []) rfl rfl en90 (impl_times_ok F q32 q34 _ _ hc37) ?_; clear hf
        rintro _ w ⟨rfl, hs1⟩ a hf
        have hs : St [] W w [] := hs.ext hs1.below
        clear hs1
        refine sY hf hs rfl rfl rfl (Y_max rfl rfl rfl) ?_; clear hf; intro a hf
        refine sY hf hs rfl rfl rfl (Y_assign rfl rfl) ?_; clear hf; intro a hf
        refine wpO_nil ?_
        refine wpL_nil (Qb_normal ?_)
        refine wpL_region ?_
        refine sY hf hs rfl rfl rfl (Y_add rfl rfl rfl) ?_; clear hf; intro a hf
        refine sY hf hs rfl rfl rfl (Y_move rfl rfl) ?_; clear hf; intro a hf
        refine wpO_nil ?_
        refine wpL_nil (Ql_normal ?_)
        exact ⟨(max x17 r36), (IntKind.i64.wrap (x18 + 1)), hm29, (FrD.pick (FrD.pick (FrD.pick (FrD.pick (FrD.pick hf.none hf rfl) hf rfl) hf rfl) hf rfl) hf rfl), hs⟩
      · have hm29 := bif_f hm29 hb31
        refine wpL_exit (Ql_exit (Qb_exit ?_))
        exact ⟨x17, Option.some.inj hm29, (FrD.pick hf.none hf rfl), hs⟩
  · rintro a w ⟨x26, hr_, hf, hs⟩
    subst hr_
    try dsimp only at hm
    refine wpL_seq ?_
    refine wpL_region ?_
    refine sY hf hs rfl rfl rfl (Y_move rfl rfl) ?_; clear hf; intro a hf
    refine sY hf hs rfl rfl rfl (Y_assign rfl rfl) ?_; clear hf; intro a hf
    refine wpO_nil ?_
    obtain rfl := Option.some.inj hm
    refine wpL_ret (ret_tmp rfl hf rfl ?_)
    exact ⟨_, rfl, rfl, hs⟩

set_option maxHeartbeats 2000000 in
set_option maxRecDepth 100000 in
theorem impl_runSystem_ok (F : Nat) (p0 : GSystem) (A_p0_1 : Option Addr) (n_p0_1 c_p0_1 : Nat) (hn_p0_1 : n_p0_1 = p0.A.length) (A_p0_2 : Option Addr) (n_p0_2 c_p0_2 : Nat) (hn_p0_2 : n_p0_2 = p0.B.length) (A_p0_3 : Option Addr) (n_p0_3 c_p0_3 : Nat) (hn_p0_3 : n_p0_3 = p0.C.length) (p1 : List Int) (A_p1_1 : Option Addr) (n_p1_1 c_p1_1 : Nat) (hn_p1_1 : n_p1_1 = p1.length) (p2 : List Int) (A_p2_1 : Option Addr) (n_p2_1 c_p2_1 : Nat) (hn_p2_1 : n_p2_1 = p2.length) (r : List Int × List Int × Int) (W : World) (hm : impl_runSystem F p0 p1 p2 = some r) (h_p0_1 : RdM W A_p0_1 p0.A) (h_p0_2 : Rd W A_p0_2 (ints p0.B)) (h_p0_3 : Rd W A_p0_3 (ints p0.C)) (h_p1_1 : Rd W A_p1_1 (ints p1)) (h_p2_1 : Rd W A_p2_1 (ints p2)) :
    Calls Try.prog 111 [.agg #[.slice A_p0_1 n_p0_1 c_p0_1, .slice A_p0_2 n_p0_2 c_p0_2, .slice A_p0_3 n_p0_3 c_p0_3], .slice A_p1_1 n_p1_1 c_p1_1, .slice A_p2_1 n_p2_1 c_p2_1].toArray W fun e w' => ∃ v, e = .returned v ∧ ∃ A395, ∃ n396, ∃ c397, ∃ A399, ∃ n400, ∃ c401, v = .tuple #[.slice A395 n396 c397, .slice A399 n400 c401, .int .i64 r.2.2] ∧ n396 = r.1.length ∧ n400 = r.2.1.length ∧ St [] W w' [.row A395 n396 c397 2 1 (ints r.1), .row A399 n400 c401 2 1 (ints r.2.1)] := by
  subst hn_p0_1
  subst hn_p0_2
  subst hn_p0_3
  subst hn_p1_1
  subst hn_p2_1
  unfold impl_runSystem at hm
  refine Calls.enter (N := 72) Try.func111 rfl rfl rfl (fun a hf => ?_)
  have hs := St.start W
  obtain ⟨w, hw_⟩ : ∃ w, w = W := ⟨W, rfl⟩
  clear hw_ w
  refine wpL_seq ?_
  refine wpL_region ?_
  refine sBox hf hs rfl rfl rfl rfl rfl (cs := [.slice A_p0_1 p0.A.length c_p0_1, .slice A_p0_2 p0.B.length c_p0_2, .slice A_p0_3 p0.C.length c_p0_3]) rfl ?_; clear hf hs; intro a w b1 hs hf
  have hs : St [] W w [.blk b1 27 [.slice A_p0_1 p0.A.length c_p0_1, .slice A_p0_2 p0.B.length c_p0_2, .slice A_p0_3 p0.C.length c_p0_3]] := hs
  refine sY hf hs rfl rfl rfl (Y_assign rfl rfl) ?_; clear hf; intro a hf
  refine sY hf hs rfl rfl rfl (Y_assign rfl rfl) ?_; clear hf; intro a hf
  refine sY hf hs rfl rfl rfl (Y_assign rfl rfl) ?_; clear hf; intro a hf
  refine wpO_nil ?_
  refine wpL_seq ?_
  refine wpL_region ?_
  refine sY hf hs rfl rfl rfl (Y_move rfl rfl) ?_; clear hf; intro a hf
  obtain ⟨r2, hc3, hm⟩ := bind_some hm
  refine sCall hf rfl rfl rfl rfl (cap := []) rfl rfl en91 (slices_Clone_int64_ok F p1 A_p1_1 p1.length c_p1_1 rfl _ _ hc3 (h_p1_1.at hs)) ?_; clear hf
  rintro _ w ⟨A4, n5, c6, rfl, hn7, hs1⟩ a hf
  have hs : St [] W w [.blk b1 27 [.slice A_p0_1 p0.A.length c_p0_1, .slice A_p0_2 p0.B.length c_p0_2, .slice A_p0_3 p0.C.length c_p0_3], .row A4 n5 c6 2 1 (ints r2)] := hs.join hs1
  clear hs1
  refine sY hf hs rfl rfl rfl (Y_assign rfl rfl) ?_; clear hf; intro a hf
  refine wpO_nil ?_
  refine wpL_seq ?_
  refine wpL_region ?_
  refine sY hf hs rfl rfl rfl (Y_assign rfl rfl) ?_; clear hf; intro a hf
  refine wpO_nil ?_
  refine wpL_seq ?_
  refine wpL_seq ?_
  refine wpL_region ?_
  refine sY hf hs rfl rfl rfl (Y_move rfl rfl) ?_; clear hf; intro a hf
  refine sY hf hs rfl rfl rfl (Y_lenH rfl rfl el23 rfl) ?_; clear hf; intro a hf
  refine sY hf hs rfl rfl rfl (Y_move rfl rfl) ?_; clear hf; intro a hf
  refine wpO_nil ?_
  obtain ⟨r298, hl299, hm⟩ := bind_some hm
  have hs : St [] W _ [.blk b1 27 [.slice A_p0_1 p0.A.length c_p0_1, .slice A_p0_2 p0.B.length c_p0_2, .slice A_p0_3 p0.C.length c_p0_3], .row A4 n5 c6 2 1 (ints r2), .row none 0 0 2 1 (ints ([] : List Int))] := hs.addNil 2 1
  refine wpL_block (fun a w => ∃ xs291 : List Int, ∃ xs293 : List Int, ∃ A294, ∃ n295, ∃ c296, Sum.inr (xs291, xs293) = r298 ∧ n5 = xs291.length ∧ n295 = xs293.length ∧ Fr a 72 [(1, .slice A4 n5 c6), (9, .slice A294 n295 c296)] ∧ St [] W w [.row A4 n5 c6 2 1 (ints xs291), .row A294 n295 c296 2 1 (ints xs293)]) ?_ ?_
  · refine wpL_loop (fun n a w => ∃ xs194 : List Int, ∃ xs197 : List Int, ∃ x202 : Int, ∃ A198, ∃ n199, ∃ c200, impl_runSystem_L4 F p0 p2 n xs194 xs197 x202 = some r298 ∧ n5 = xs194.length ∧ n199 = xs197.length ∧ Fr a 72 [(1, .slice A4 n5 c6), (3, .pointer (some ⟨b1, 0, none⟩)), (9, .slice A198 n199 c200), (18, .slice A_p2_1 p2.length c_p2_1), (19, .int .i64 (p2.length : Int)), (20, .int .i64 x202)] ∧ St [] W w [.row A4 n5 c6 2 1 (ints xs194), .blk b1 27 [.slice A_p0_1 p0.A.length c_p0_1, .slice A_p0_2 p0.B.length c_p0_2, .slice A_p0_3 p0.C.length c_p0_3], .row A198 n199 c200 2 1 (ints xs197)]) F ?_ ?_ ?_
    · exact ⟨r2, ([] : List Int), 0, none, 0, 0, hl299, hn7, rfl, (FrD.pick (FrD.pick (FrD.pick (FrD.pick (FrD.pick (FrD.pick hf.none hf rfl) hf rfl) hf rfl) hf rfl) hf rfl) hf rfl), hs.sel [1, 0, 2] (by decide)⟩
    · rintro a w ⟨xs194, xs197, x202, A198, n199, c200, h0_, -, -, -, -⟩; simp [impl_runSystem_L4] at h0_
    · rintro n301 a w ⟨xs194, xs197, x202, A198, n199, c200, hm300, hn195, hn201, hf, hs⟩
      rw [impl_runSystem_L4] at hm300
      refine wpL_seq ?_
      refine wpL_region ?_
      refine sY hf hs rfl rfl rfl (Y_lss rfl rfl rfl) ?_; clear hf; intro a hf
      refine wpO_nil ?_
      refine wpL_seq ?_
      refine wpL_cond hf rfl (fun hb302 => ?_) (fun hb302 => ?_)
      · have hm300 := bif_t hm300 hb302
        refine wpL_skip ?_
        refine wpL_seq ?_
        refine wpL_block0 ?_
        refine wpL_seq ?_
        refine wpL_region ?_
        obtain ⟨q303, hi304, hm300⟩ := bind_some hm300
        obtain ⟨hi304a, hi304b, hi304q⟩ := idx_some hi304
        refine sY hf hs rfl rfl rfl (Y_index rfl rfl rfl el23 ti2 (Rd.isAt (h_p2_1.at hs) (at1 (ints_at hi304q))) hi304a hi304b) ?_; clear hf; intro a hf
        refine sY hf hs rfl rfl rfl (Y_load_rd rfl rfl (fun w hs => h_p2_1.at hs) (at1 (ints_at hi304q)) ag2) ?_; clear hf; intro a hf
        refine sY hf hs rfl rfl rfl (Y_assign rfl rfl) ?_; clear hf; intro a hf
        refine wpO_nil ?_
        refine wpL_seq ?_
        refine wpL_region ?_
        refine sY hf hs rfl rfl rfl (Y_fieldAddr rfl rfl fo27_0) ?_; clear hf; intro a hf
        refine sY hf hs rfl rfl rfl (Y_load_blk rfl rfl (i := 1) rfl rfl ag22) ?_; clear hf; intro a hf
        refine sY hf hs rfl rfl rfl (Y_move rfl rfl) ?_; clear hf; intro a hf
        obtain ⟨r305, hc306, hm300⟩ := bind_some hm300
        refine sCall hf rfl rfl rfl rfl (cap := []) rfl rfl en83 (impl_timesVector_ok F p0.A A_p0_1 p0.A.length c_p0_1 rfl xs194 A4 n5 c6 hn195 _ _ hc306 (h_p0_1.at hs) (hs.rd (i := 0) rfl)) ?_; clear hf
        rintro _ w ⟨A307, n308, c309, rfl, hn310, hs1⟩ a hf
        have hs : St [] W w [.row A4 n5 c6 2 1 (ints xs194), .blk b1 27 [.slice A_p0_1 p0.A.length c_p0_1, .slice A_p0_2 p0.B.length c_p0_2, .slice A_p0_3 p0.C.length c_p0_3], .row A198 n199 c200 2 1 (ints xs197), .row A307 n308 c309 2 1 (ints r305)] := hs.join hs1
        clear hs1
        refine sY hf hs rfl rfl rfl (Y_assign rfl rfl) ?_; clear hf; intro a hf
        refine wpO_nil ?_
        refine wpL_seq ?_
        refine wpL_region ?_
        refine sY hf hs rfl rfl rfl (Y_fieldAddr rfl rfl fo27_1) ?_; clear hf; intro a hf
        refine sY hf hs rfl rfl rfl (Y_load_blk rfl rfl (i := 1) rfl rfl ag23) ?_; clear hf; intro a hf
        refine sY hf hs rfl rfl rfl (Y_move rfl rfl) ?_; clear hf; intro a hf
        obtain ⟨r311, hc312, hm300⟩ := bind_some hm300
        refine sCall hf rfl rfl rfl rfl (cap := []) rfl rfl en167 (impl_shiftedVector_ok F p0.B A_p0_2 p0.B.length c_p0_2 rfl q303 _ _ hc312 (h_p0_2.at hs)) ?_; clear hf
        rintro _ w ⟨A313, n314, c315, rfl, hn316, hs1⟩ a hf
        have hs : St [] W w [.row A4 n5 c6 2 1 (ints xs194), .blk b1 27 [.slice A_p0_1 p0.A.length c_p0_1, .slice A_p0_2 p0.B.length c_p0_2, .slice A_p0_3 p0.C.length c_p0_3], .row A198 n199 c200 2 1 (ints xs197), .row A307 n308 c309 2 1 (ints r305), .row A313 n314 c315 2 1 (ints r311)] := hs.join hs1
        clear hs1
        refine sY hf hs rfl rfl rfl (Y_assign rfl rfl) ?_; clear hf; intro a hf
        refine wpO_nil ?_
        refine wpL_seq ?_
        refine wpL_seq ?_
        obtain ⟨r323, hj324, hm300⟩ := bind_some hm300
        refine wpL_cut (fun a w => ∃ b322 : Bool, b322 = r323 ∧ Fr a 72 [(1, .slice A4 n5 c6), (3, .pointer (some ⟨b1, 0, none⟩)), (9, .slice A198 n199 c200), (12, .slice A307 n308 c309), (13, .slice A313 n314 c315), (18, .slice A_p2_1 p2.length c_p2_1), (19, .int .i64 (p2.length : Int)), (20, .int .i64 x202), (39, .bool b322)] ∧ St [] W w [.row A4 n5 c6 2 1 (ints xs194), .blk b1 27 [.slice A_p0_1 p0.A.length c_p0_1, .slice A_p0_2 p0.B.length c_p0_2, .slice A_p0_3 p0.C.length c_p0_3], .row A198 n199 c200 2 1 (ints xs197), .row A307 n308 c309 2 1 (ints r305), .row A313 n314 c315 2 1 (ints r311)]) ?_ ?_
        · refine wpL_region ?_
          refine sY hf hs rfl rfl rfl (Y_move rfl rfl) ?_; clear hf; intro a hf
          obtain ⟨r325, hc326, hj324⟩ := bind_some hj324
          refine sCall hf rfl rfl rfl rfl (cap := []) rfl rfl en86 (impl_areValues_ok F r305 A307 n308 c309 hn310 _ _ hc326 (hs.rd (i := 3) rfl)) ?_; clear hf
          rintro _ w ⟨rfl, hs1⟩ a hf
          have hs : St [] W w [.row A4 n5 c6 2 1 (ints xs194), .blk b1 27 [.slice A_p0_1 p0.A.length c_p0_1, .slice A_p0_2 p0.B.length c_p0_2, .slice A_p0_3 p0.C.length c_p0_3], .row A198 n199 c200 2 1 (ints xs197), .row A307 n308 c309 2 1 (ints r305), .row A313 n314 c315 2 1 (ints r311)] := hs.ext hs1.below
          clear hs1
          refine sY hf hs rfl rfl rfl (Y_not rfl rfl) ?_; clear hf; intro a hf
          refine sY hf hs rfl rfl rfl (Y_move rfl rfl) ?_; clear hf; intro a hf
          refine bsplit (!r325) (fun hb327 => ?_) (fun hb327 => ?_)
          · have hj324 := bif_t hj324 hb327
            refine sNo hf rfl rfl rfl (congrArg (fun b => some (Value.bool b)) hb327) rfl rfl rfl ?_; clear hf; intro a hf
            refine sNo hf rfl rfl rfl (congrArg (fun b => some (Value.bool b)) hb327) rfl rfl rfl ?_; clear hf; intro a hf
            refine sNo hf rfl rfl rfl (congrArg (fun b => some (Value.bool b)) hb327) rfl rfl rfl ?_; clear hf; intro a hf
            refine sY hf hs rfl rfl rfl (Y_pickT rfl (congrArg (fun b => some (Value.bool b)) hb327) rfl) ?_; clear hf; intro a hf
            refine wpO_nil ?_
            refine wpL_nil (then_normal ?_)
            exact ⟨true, Option.some.inj hj324, (FrD.pick (FrD.pick (FrD.pick (FrD.pick (FrD.pick (FrD.pick (FrD.pick (FrD.pick (FrD.pick hf.none hf rfl) hf rfl) hf rfl) hf rfl) hf rfl) hf rfl) hf rfl) hf rfl) hf rfl), hs⟩
          · have hj324 := bif_f hj324 hb327
            refine sYg hf hs rfl rfl rfl (congrArg (fun b => some (Value.bool b)) hb327) rfl rfl rfl (Y_move rfl rfl) ?_; clear hf; intro a hf
            obtain ⟨r328, hc329, hj324⟩ := bind_some hj324
            refine sCallg hf rfl rfl rfl (congrArg (fun b => some (Value.bool b)) hb327) rfl rfl rfl rfl (cap := []) rfl rfl en86 (impl_areValues_ok F r311 A313 n314 c315 hn316 _ _ hc329 (hs.rd (i := 4) rfl)) ?_; clear hf
            rintro _ w ⟨rfl, hs1⟩ a hf
            have hs : St [] W w [.row A4 n5 c6 2 1 (ints xs194), .blk b1 27 [.slice A_p0_1 p0.A.length c_p0_1, .slice A_p0_2 p0.B.length c_p0_2, .slice A_p0_3 p0.C.length c_p0_3], .row A198 n199 c200 2 1 (ints xs197), .row A307 n308 c309 2 1 (ints r305), .row A313 n314 c315 2 1 (ints r311)] := hs.ext hs1.below
            clear hs1
            refine sYg hf hs rfl rfl rfl (congrArg (fun b => some (Value.bool b)) hb327) rfl rfl rfl (Y_not rfl rfl) ?_; clear hf; intro a hf
            refine sY hf hs rfl rfl rfl (Y_pickF rfl (congrArg (fun b => some (Value.bool b)) hb327) rfl) ?_; clear hf; intro a hf
            refine wpO_nil ?_
            refine wpL_nil (then_normal ?_)
            exact ⟨(!r328), Option.some.inj hj324, (FrD.pick (FrD.pick (FrD.pick (FrD.pick (FrD.pick (FrD.pick (FrD.pick (FrD.pick (FrD.pick hf.none hf rfl) hf rfl) hf rfl) hf rfl) hf rfl) hf rfl) hf rfl) hf rfl) hf rfl), hs⟩
        · rintro a w ⟨b322, hr_, hf, hs⟩
          subst hr_
          try dsimp only at hm300
          refine wpL_cond hf rfl (fun hb330 => ?_) (fun hb330 => ?_)
          · have hm300 := bif_t hm300 hb330
            refine wpL_seq ?_
            refine wpL_region ?_
            refine sY hf hs rfl rfl rfl (Y_assign rfl rfl) ?_; clear hf; intro a hf
            refine sY hf hs rfl rfl rfl (Y_assign rfl rfl) ?_; clear hf; intro a hf
            refine sY hf hs rfl rfl rfl (Y_assign rfl rfl) ?_; clear hf; intro a hf
            refine wpO_nil ?_
            have hs : St [] W _ [.row A4 n5 c6 2 1 (ints xs194), .blk b1 27 [.slice A_p0_1 p0.A.length c_p0_1, .slice A_p0_2 p0.B.length c_p0_2, .slice A_p0_3 p0.C.length c_p0_3], .row A198 n199 c200 2 1 (ints xs197), .row A307 n308 c309 2 1 (ints r305), .row A313 n314 c315 2 1 (ints r311), .row none 0 0 2 1 (ints ([] : List Int))] := hs.addNil 2 1
            have hs : St [] W _ [.row A4 n5 c6 2 1 (ints xs194), .blk b1 27 [.slice A_p0_1 p0.A.length c_p0_1, .slice A_p0_2 p0.B.length c_p0_2, .slice A_p0_3 p0.C.length c_p0_3], .row A198 n199 c200 2 1 (ints xs197), .row A307 n308 c309 2 1 (ints r305), .row A313 n314 c315 2 1 (ints r311), .row none 0 0 2 1 (ints ([] : List Int)), .row none 0 0 2 1 (ints ([] : List Int))] := hs.addNil 2 1
            obtain rfl := Option.some.inj hm300
            try dsimp only at hm
            obtain rfl := Option.some.inj hm
            refine wpL_ret (Qb_ret (Ql_ret (Qb_ret (ret_tmp3 rfl hf rfl rfl rfl ?_))))
            exact ⟨_, rfl, none, 0, 0, none, 0, 0, rfl, rfl, rfl, hs.sel [5, 6] (by decide)⟩
          · have hm300 := bif_f hm300 hb330
            refine wpL_skip ?_
            refine wpL_seq ?_
            refine wpL_seq ?_
            refine wpL_region ?_
            refine sY hf hs rfl rfl rfl (Y_move rfl rfl) ?_; clear hf; intro a hf
            refine sY hf hs rfl rfl rfl (Y_lenH rfl rfl el23 hn310) ?_; clear hf; intro a hf
            refine sY hf hs rfl rfl rfl (Y_move rfl rfl) ?_; clear hf; intro a hf
            refine wpO_nil ?_
            obtain ⟨r368, hl369, hm300⟩ := bind_some hm300
            refine wpL_block (fun a w => ∃ xs366 : List Int, xs366 = r368 ∧ n5 = xs366.length ∧ Fr a 72 [(1, .slice A4 n5 c6), (3, .pointer (some ⟨b1, 0, none⟩)), (9, .slice A198 n199 c200), (18, .slice A_p2_1 p2.length c_p2_1), (19, .int .i64 (p2.length : Int)), (20, .int .i64 x202)] ∧ St [] W w [.row A4 n5 c6 2 1 (ints xs366), .blk b1 27 [.slice A_p0_1 p0.A.length c_p0_1, .slice A_p0_2 p0.B.length c_p0_2, .slice A_p0_3 p0.C.length c_p0_3], .row A198 n199 c200 2 1 (ints xs197)]) ?_ ?_
            · refine wpL_loop (fun n a w => ∃ xs354 : List Int, ∃ x356 : Int, impl_runSystem_L5 F r305 r311 n xs354 x356 = some r368 ∧ n5 = xs354.length ∧ Fr a 72 [(1, .slice A4 n5 c6), (3, .pointer (some ⟨b1, 0, none⟩)), (9, .slice A198 n199 c200), (12, .slice A307 n308 c309), (13, .slice A313 n314 c315), (18, .slice A_p2_1 p2.length c_p2_1), (19, .int .i64 (p2.length : Int)), (20, .int .i64 x202), (41, .int .i64 (r305.length : Int)), (42, .int .i64 x356)] ∧ St [] W w [.row A4 n5 c6 2 1 (ints xs354), .blk b1 27 [.slice A_p0_1 p0.A.length c_p0_1, .slice A_p0_2 p0.B.length c_p0_2, .slice A_p0_3 p0.C.length c_p0_3], .row A198 n199 c200 2 1 (ints xs197), .row A307 n308 c309 2 1 (ints r305), .row A313 n314 c315 2 1 (ints r311)]) F ?_ ?_ ?_
              · exact ⟨xs194, 0, hl369, hn195, (FrD.pick (FrD.pick (FrD.pick (FrD.pick (FrD.pick (FrD.pick (FrD.pick (FrD.pick (FrD.pick (FrD.pick hf.none hf rfl) hf rfl) hf rfl) hf rfl) hf rfl) hf rfl) hf rfl) hf rfl) hf rfl) hf rfl), hs⟩
              · rintro a w ⟨xs354, x356, h0_, -, -, -⟩; simp [impl_runSystem_L5] at h0_
              · rintro n371 a w ⟨xs354, x356, hm370, hn355, hf, hs⟩
                rw [impl_runSystem_L5] at hm370
                refine wpL_seq ?_
                refine wpL_region ?_
                refine sY hf hs rfl rfl rfl (Y_lss rfl rfl rfl) ?_; clear hf; intro a hf
                refine wpO_nil ?_
                refine wpL_seq ?_
                refine wpL_cond hf rfl (fun hb372 => ?_) (fun hb372 => ?_)
                · have hm370 := bif_t hm370 hb372
                  refine wpL_skip ?_
                  refine wpL_seq ?_
                  refine wpL_block0 ?_
                  refine wpL_seq ?_
                  refine wpL_region ?_
                  refine sY hf hs rfl rfl rfl (Y_move rfl rfl) ?_; clear hf; intro a hf
                  refine sY hf hs rfl rfl rfl (Y_assign rfl rfl) ?_; clear hf; intro a hf
                  refine wpO_nil ?_
                  refine wpL_drawM [.row A4 n5 c6 2 1 (ints xs354), .blk b1 27 [.slice A_p0_1 p0.A.length c_p0_1, .slice A_p0_2 p0.B.length c_p0_2, .slice A_p0_3 p0.C.length c_p0_3], .row A198 n199 c200 2 1 (ints xs197), .row A307 n308 c309 2 1 (ints r305), .row A313 n314 c315 2 1 (ints r311)] [12] (by kernel_rfl) hs ?_; clear hs; intro w hs
                  have hs0 : St [] W w [.row A4 n5 c6 2 1 (ints xs354), .blk b1 27 [.slice A_p0_1 p0.A.length c_p0_1, .slice A_p0_2 p0.B.length c_p0_2, .slice A_p0_3 p0.C.length c_p0_3], .row A198 n199 c200 2 1 (ints xs197), .row A307 n308 c309 2 1 (ints r305), .row A313 n314 c315 2 1 (ints r311)] := hs
                  refine mYp (i := 0) rfl (by kernel_rfl) (by kernel_rfl) hf rfl rfl rfl (fun _ => Y_move rfl rfl) ?_; clear hf; intro a hf
                  refine mYp (i := 1) rfl (by kernel_rfl) (by kernel_rfl) hf rfl rfl rfl (fun _ => Y_move rfl rfl) ?_; clear hf; intro a hf
                  refine mYp (i := 2) rfl (by kernel_rfl) (by kernel_rfl) hf rfl rfl rfl (fun _ => Y_move rfl rfl) ?_; clear hf; intro a hf
                  refine mYp (i := 3) rfl (by kernel_rfl) (by kernel_rfl) hf rfl rfl rfl (fun _ => Y_move rfl rfl) ?_; clear hf; intro a hf
                  obtain ⟨q373, hi374, hm370⟩ := bind_some hm370
                  obtain ⟨hi374a, hi374b, hi374q⟩ := idx_some hi374
                  refine mYp (i := 4) rfl (by kernel_rfl) (by kernel_rfl) hf rfl rfl rfl (fun _ => Y_index rfl rfl rfl el23 ti2 (Rd.isAt (hs.rd (i := 3) rfl) (at1 (ints_at hi374q))) hi374a (ltn hn310 hi374b)) ?_; clear hf; intro a hf
                  refine mY (i := 5) [[]] rfl (by kernel_rfl) (by kernel_rfl) hf hs0 rfl rfl rfl (Y_load_rd rfl rfl (fun w hs => hs.rd (i := 3) rfl) (at1 (ints_at hi374q)) ag2) ?_; clear hf; intro a hf
                  refine mYp (i := 6) rfl (by kernel_rfl) (by kernel_rfl) hf rfl rfl rfl (fun _ => Y_move rfl rfl) ?_; clear hf; intro a hf
                  refine mYp (i := 7) rfl (by kernel_rfl) (by kernel_rfl) hf rfl rfl rfl (fun _ => Y_move rfl rfl) ?_; clear hf; intro a hf
                  obtain ⟨q375, hi376, hm370⟩ := bind_some hm370
                  obtain ⟨hi376a, hi376b, hi376q⟩ := idx_some hi376
                  refine mYp (i := 8) rfl (by kernel_rfl) (by kernel_rfl) hf rfl rfl rfl (fun _ => Y_index rfl rfl rfl el23 ti2 (Rd.isAt (hs.rd (i := 4) rfl) (at1 (ints_at hi376q))) hi376a (ltn hn316 hi376b)) ?_; clear hf; intro a hf
                  refine mY (i := 9) [[]] rfl (by kernel_rfl) (by kernel_rfl) hf hs0 rfl rfl rfl (Y_load_rd rfl rfl (fun w hs => hs.rd (i := 4) rfl) (at1 (ints_at hi376q)) ag2) ?_; clear hf; intro a hf
                  refine mYp (i := 10) rfl (by kernel_rfl) (by kernel_rfl) hf rfl rfl rfl (fun _ => Y_max rfl rfl rfl) ?_; clear hf; intro a hf
                  obtain ⟨q377, hi378, hm370⟩ := bind_some hm370
                  obtain ⟨hi378a, hi378b, hi378q⟩ := idx_some hi378
                  refine mYp (i := 11) rfl (by kernel_rfl) (by kernel_rfl) hf rfl rfl rfl (fun _ => Y_index rfl rfl rfl el23 ti2 (Rd.isAt (hs.rd (i := 0) rfl) (at1 (ints_at hi378q))) hi378a (ltn hn355 hi378b)) ?_; clear hf; intro a hf
                  refine mRun (i := 12) rfl (by kernel_rfl) ?_
                  obtain ⟨xs379, hu380, hm370⟩ := bind_some hm370
                  refine sStoreL (i := 0) (us := [.int .i64 (max q373 q375)]) (enc := ints) hf hs rfl rfl rfl rfl rfl rfl hn355 hu380 ti2 rfl rfl rfl rfl rfl ints_len1 (ints_set (max q373 q375)) ?_; clear hs; intro w hs
                  have hs : St [] W w [.row A4 n5 c6 2 1 (ints xs379), .blk b1 27 [.slice A_p0_1 p0.A.length c_p0_1, .slice A_p0_2 p0.B.length c_p0_2, .slice A_p0_3 p0.C.length c_p0_3], .row A198 n199 c200 2 1 (ints xs197), .row A307 n308 c309 2 1 (ints r305), .row A313 n314 c315 2 1 (ints r311)] := hs
                  refine wpO_nil ⟨Or.inl (by decide), ?_⟩
                  refine mDone (by kernel_rfl) ?_
                  clear hs0
                  refine wpL_nil (Qb_normal ?_)
                  refine wpL_region ?_
                  refine sY hf hs rfl rfl rfl (Y_add rfl rfl rfl) ?_; clear hf; intro a hf
                  refine sY hf hs rfl rfl rfl (Y_move rfl rfl) ?_; clear hf; intro a hf
                  refine wpO_nil ?_
                  refine wpL_nil (Ql_normal ?_)
                  exact ⟨xs379, (IntKind.i64.wrap (x356 + 1)), hm370, ((hn355).trans (upd_len hu380).symm), (FrD.pick (FrD.pick (FrD.pick (FrD.pick (FrD.pick (FrD.pick (FrD.pick (FrD.pick (FrD.pick (FrD.pick hf.none hf rfl) hf rfl) hf rfl) hf rfl) hf rfl) hf rfl) hf rfl) hf rfl) hf rfl) hf rfl), hs⟩
                · have hm370 := bif_f hm370 hb372
                  refine wpL_exit (Ql_exit (Qb_exit ?_))
                  exact ⟨xs354, Option.some.inj hm370, hn355, (FrD.pick (FrD.pick (FrD.pick (FrD.pick (FrD.pick (FrD.pick hf.none hf rfl) hf rfl) hf rfl) hf rfl) hf rfl) hf rfl), hs.sel [0, 1, 2] (by decide)⟩
            · rintro a w ⟨xs366, hr_, hn367, hf, hs⟩
              subst hr_
              try dsimp only at hm300
              refine wpL_seq ?_
              refine wpL_region ?_
              refine sY hf hs rfl rfl rfl (Y_fieldAddr rfl rfl fo27_2) ?_; clear hf; intro a hf
              refine sY hf hs rfl rfl rfl (Y_load_blk rfl rfl (i := 1) rfl rfl ag23) ?_; clear hf; intro a hf
              refine sY hf hs rfl rfl rfl (Y_move rfl rfl) ?_; clear hf; intro a hf
              obtain ⟨r381, hc382, hm300⟩ := bind_some hm300
              refine sCall hf rfl rfl rfl rfl (cap := []) rfl rfl en85 (impl_innerProduct_ok F p0.C A_p0_3 p0.C.length c_p0_3 rfl xs366 A4 n5 c6 hn367 _ _ hc382 (h_p0_3.at hs) (hs.rd (i := 0) rfl)) ?_; clear hf
              rintro _ w ⟨rfl, hs1⟩ a hf
              have hs : St [] W w [.row A4 n5 c6 2 1 (ints xs366), .blk b1 27 [.slice A_p0_1 p0.A.length c_p0_1, .slice A_p0_2 p0.B.length c_p0_2, .slice A_p0_3 p0.C.length c_p0_3], .row A198 n199 c200 2 1 (ints xs197)] := hs.ext hs1.below
              clear hs1
              refine sY hf hs rfl rfl rfl (Y_assign rfl rfl) ?_; clear hf; intro a hf
              refine wpO_nil ?_
              refine wpL_seq ?_
              refine wpL_seq ?_
              refine wpL_region ?_
              refine sY hf hs rfl rfl rfl (Y_move rfl rfl) ?_; clear hf; intro a hf
              obtain ⟨r383, hc384, hm300⟩ := bind_some hm300
              refine sCall hf rfl rfl rfl rfl (cap := []) rfl rfl en87 (impl_IsValue_ok F r381 _ _ hc384) ?_; clear hf
              rintro _ w ⟨rfl, hs1⟩ a hf
              have hs : St [] W w [.row A4 n5 c6 2 1 (ints xs366), .blk b1 27 [.slice A_p0_1 p0.A.length c_p0_1, .slice A_p0_2 p0.B.length c_p0_2, .slice A_p0_3 p0.C.length c_p0_3], .row A198 n199 c200 2 1 (ints xs197)] := hs.ext hs1.below
              clear hs1
              refine sY hf hs rfl rfl rfl (Y_not rfl rfl) ?_; clear hf; intro a hf
              refine wpO_nil ?_
              refine wpL_cond hf rfl (fun hb385 => ?_) (fun hb385 => ?_)
              · have hm300 := bif_t hm300 hb385
                refine wpL_seq ?_
                refine wpL_region ?_
                refine sY hf hs rfl rfl rfl (Y_assign rfl rfl) ?_; clear hf; intro a hf
                refine sY hf hs rfl rfl rfl (Y_assign rfl rfl) ?_; clear hf; intro a hf
                refine sY hf hs rfl rfl rfl (Y_assign rfl rfl) ?_; clear hf; intro a hf
                refine wpO_nil ?_
                have hs : St [] W _ [.row A4 n5 c6 2 1 (ints xs366), .blk b1 27 [.slice A_p0_1 p0.A.length c_p0_1, .slice A_p0_2 p0.B.length c_p0_2, .slice A_p0_3 p0.C.length c_p0_3], .row A198 n199 c200 2 1 (ints xs197), .row none 0 0 2 1 (ints ([] : List Int))] := hs.addNil 2 1
                have hs : St [] W _ [.row A4 n5 c6 2 1 (ints xs366), .blk b1 27 [.slice A_p0_1 p0.A.length c_p0_1, .slice A_p0_2 p0.B.length c_p0_2, .slice A_p0_3 p0.C.length c_p0_3], .row A198 n199 c200 2 1 (ints xs197), .row none 0 0 2 1 (ints ([] : List Int)), .row none 0 0 2 1 (ints ([] : List Int))] := hs.addNil 2 1
                obtain rfl := Option.some.inj hm300
                try dsimp only at hm
                obtain rfl := Option.some.inj hm
                refine wpL_ret (Qb_ret (Ql_ret (Qb_ret (ret_tmp3 rfl hf rfl rfl rfl ?_))))
                exact ⟨_, rfl, none, 0, 0, none, 0, 0, rfl, rfl, rfl, hs.sel [3, 4] (by decide)⟩
              · have hm300 := bif_f hm300 hb385
                refine wpL_skip ?_
                refine wpL_region ?_
                refine sY hf hs rfl rfl rfl (Y_move rfl rfl) ?_; clear hf; intro a hf
                refine sY hf hs rfl rfl rfl (Y_move rfl rfl) ?_; clear hf; intro a hf
                refine sBuildSlice (parts := [(0, .tmp 66)]) (vs := [.int .i64 r381]) (cells := [.int .i64 r381]) hf hs rfl rfl rfl rfl rfl el23 ti2 rfl rfl rfl rfl ?_; clear hf hs; intro a w A388 hs hA389 hf
                have hs : St [] W w [.row A4 n5 c6 2 1 (ints xs366), .blk b1 27 [.slice A_p0_1 p0.A.length c_p0_1, .slice A_p0_2 p0.B.length c_p0_2, .slice A_p0_3 p0.C.length c_p0_3], .row A198 n199 c200 2 1 (ints xs197), .row A388 1 1 2 1 (ints ([r381]))] := hs
                obtain ⟨xs392, ha393, hm300⟩ := bind_some hm300
                refine sAppendL (i := 2) (xs := xs197) (ys := [r381]) (enc := ints) hf hs rfl rfl rfl rfl rfl rfl hn201 rfl rfl ha393 el23 ti2 rfl rfl rfl (hs.rd (i := 3) rfl) (Nat.succ_pos _) ints_len1 ints_append ints_one ?_; clear hf hs; intro a w A390 c391 hs hf
                have hs : St [] W w [.row A4 n5 c6 2 1 (ints xs366), .blk b1 27 [.slice A_p0_1 p0.A.length c_p0_1, .slice A_p0_2 p0.B.length c_p0_2, .slice A_p0_3 p0.C.length c_p0_3], .row A390 xs392.length c391 2 1 (ints xs392), .row A388 1 1 2 1 (ints ([r381]))] := hs
                refine sY hf hs rfl rfl rfl (Y_assign rfl rfl) ?_; clear hf; intro a hf
                refine wpO_nil ?_
                refine wpL_nil (Qb_normal ?_)
                refine wpL_region ?_
                refine sY hf hs rfl rfl rfl (Y_add rfl rfl rfl) ?_; clear hf; intro a hf
                refine sY hf hs rfl rfl rfl (Y_move rfl rfl) ?_; clear hf; intro a hf
                refine wpO_nil ?_
                refine wpL_nil (Ql_normal ?_)
                exact ⟨xs366, xs392, (IntKind.i64.wrap (x202 + 1)), A390, xs392.length, c391, hm300, hn367, rfl, (FrD.pick (FrD.pick (FrD.pick (FrD.pick (FrD.pick (FrD.pick hf.none hf rfl) hf rfl) hf rfl) hf rfl) hf rfl) hf rfl), hs.sel [0, 1, 2] (by decide)⟩
      · have hm300 := bif_f hm300 hb302
        refine wpL_exit (Ql_exit (Qb_exit ?_))
        exact ⟨xs194, xs197, A198, n199, c200, Option.some.inj hm300, hn195, hn201, (FrD.pick (FrD.pick hf.none hf rfl) hf rfl), hs.sel [0, 2] (by decide)⟩
  · rintro a w ⟨xs291, xs293, A294, n295, c296, hr_, hn292, hn297, hf, hs⟩
    subst hr_
    try dsimp only at hm
    refine wpL_seq ?_
    refine wpL_region ?_
    refine sY hf hs rfl rfl rfl (Y_move rfl rfl) ?_; clear hf; intro a hf
    refine sY hf hs rfl rfl rfl (Y_move rfl rfl) ?_; clear hf; intro a hf
    refine sY hf hs rfl rfl rfl (Y_assign rfl rfl) ?_; clear hf; intro a hf
    refine sY hf hs rfl rfl rfl (Y_assign rfl rfl) ?_; clear hf; intro a hf
    refine sY hf hs rfl rfl rfl (Y_assign rfl rfl) ?_; clear hf; intro a hf
    refine wpO_nil ?_
    obtain rfl := Option.some.inj hm
    refine wpL_ret (ret_tmp3 rfl hf rfl rfl rfl ?_)
    exact ⟨_, rfl, A294, n295, c296, A4, n5, c6, rfl, hn297, hn292, hs.sel [1, 0] (by decide)⟩

set_option maxRecDepth 100000 in
theorem impl_OutputsOf_ok (F : Nat) (p0_s : GSystem) (A_p0_s_1 : Option Addr) (n_p0_s_1 c_p0_s_1 : Nat) (hn_p0_s_1 : n_p0_s_1 = p0_s.A.length) (A_p0_s_2 : Option Addr) (n_p0_s_2 c_p0_s_2 : Nat) (hn_p0_s_2 : n_p0_s_2 = p0_s.B.length) (A_p0_s_3 : Option Addr) (n_p0_s_3 c_p0_s_3 : Nat) (hn_p0_s_3 : n_p0_s_3 = p0_s.C.length) (p1_x : List Int) (A_p1_x_1 : Option Addr) (n_p1_x_1 c_p1_x_1 : Nat) (hn_p1_x_1 : n_p1_x_1 = p1_x.length) (p2_inputs : List Int) (A_p2_inputs_1 : Option Addr) (n_p2_inputs_1 c_p2_inputs_1 : Nat) (hn_p2_inputs_1 : n_p2_inputs_1 = p2_inputs.length) (r : List Int × Int) (W : World) (hm : impl_OutputsOf F p0_s p1_x p2_inputs = some r) (h_p0_s_1 : RdM W A_p0_s_1 p0_s.A) (h_p0_s_2 : Rd W A_p0_s_2 (ints p0_s.B)) (h_p0_s_3 : Rd W A_p0_s_3 (ints p0_s.C)) (h_p1_x_1 : Rd W A_p1_x_1 (ints p1_x)) (h_p2_inputs_1 : Rd W A_p2_inputs_1 (ints p2_inputs)) :
    Calls Try.prog 24 [.agg #[.slice A_p0_s_1 n_p0_s_1 c_p0_s_1, .slice A_p0_s_2 n_p0_s_2 c_p0_s_2, .slice A_p0_s_3 n_p0_s_3 c_p0_s_3], .slice A_p1_x_1 n_p1_x_1 c_p1_x_1, .slice A_p2_inputs_1 n_p2_inputs_1 c_p2_inputs_1].toArray W fun e w' => ∃ v, e = .returned v ∧ ∃ A16, ∃ n17, ∃ c18, v = .tuple #[.slice A16 n17 c18, .int .i64 r.2] ∧ n17 = r.1.length ∧ St [] W w' [.row A16 n17 c18 2 1 (ints r.1)] := by
  subst hn_p0_s_1
  subst hn_p0_s_2
  subst hn_p0_s_3
  subst hn_p1_x_1
  subst hn_p2_inputs_1
  unfold impl_OutputsOf at hm
  refine Calls.enter (N := 29) Try.func24 rfl rfl rfl (fun a hf => ?_)
  have hs := St.start W
  obtain ⟨w, hw_⟩ : ∃ w, w = W := ⟨W, rfl⟩
  clear hw_ w
  refine wpL_seq ?_
  refine wpL_region ?_
  refine sBox hf hs rfl rfl rfl rfl rfl (cs := [.slice A_p0_s_1 p0_s.A.length c_p0_s_1, .slice A_p0_s_2 p0_s.B.length c_p0_s_2, .slice A_p0_s_3 p0_s.C.length c_p0_s_3]) rfl ?_; clear hf hs; intro a w b1 hs hf
  have hs : St [] W w [.blk b1 27 [.slice A_p0_s_1 p0_s.A.length c_p0_s_1, .slice A_p0_s_2 p0_s.B.length c_p0_s_2, .slice A_p0_s_3 p0_s.C.length c_p0_s_3]] := hs
  refine sY hf hs rfl rfl rfl (Y_assign rfl rfl) ?_; clear hf; intro a hf
  refine sY hf hs rfl rfl rfl (Y_assign rfl rfl) ?_; clear hf; intro a hf
  refine wpO_nil ?_
  refine wpL_seq ?_
  refine wpL_seq ?_
  refine wpL_region ?_
  refine sY hf hs rfl rfl rfl (Y_load_blkS rfl rfl (i := 0) rfl ag27 ti27 rfl) ?_; clear hf; intro a hf
  refine sY hf hs rfl rfl rfl (Y_move rfl rfl) ?_; clear hf; intro a hf
  refine sY hf hs rfl rfl rfl (Y_move rfl rfl) ?_; clear hf; intro a hf
  obtain ⟨r2, hc3, hm⟩ := bind_some hm
  refine sCall hf rfl rfl rfl rfl (cap := []) rfl rfl en110 (impl_checkSystem_ok F p0_s A_p0_s_1 p0_s.A.length c_p0_s_1 rfl A_p0_s_2 p0_s.B.length c_p0_s_2 rfl A_p0_s_3 p0_s.C.length c_p0_s_3 rfl p1_x A_p1_x_1 p1_x.length c_p1_x_1 rfl p2_inputs A_p2_inputs_1 p2_inputs.length c_p2_inputs_1 rfl _ _ hc3 (h_p0_s_1.at hs) (h_p0_s_2.at hs) (h_p0_s_3.at hs) (h_p1_x_1.at hs) (h_p2_inputs_1.at hs)) ?_; clear hf
  rintro _ w ⟨rfl, hs1⟩ a hf
  have hs : St [] W w [.blk b1 27 [.slice A_p0_s_1 p0_s.A.length c_p0_s_1, .slice A_p0_s_2 p0_s.B.length c_p0_s_2, .slice A_p0_s_3 p0_s.C.length c_p0_s_3]] := hs.ext hs1.below
  clear hs1
  refine sY hf hs rfl rfl rfl (Y_assign rfl rfl) ?_; clear hf; intro a hf
  refine wpO_nil ?_
  refine wpL_seq ?_
  refine wpL_region ?_
  refine sY hf hs rfl rfl rfl (Y_move rfl rfl) ?_; clear hf; intro a hf
  refine sY hf hs rfl rfl rfl (Y_neq rfl rfl rfl) ?_; clear hf; intro a hf
  refine wpO_nil ?_
  refine wpL_cond hf rfl (fun hb4 => ?_) (fun hb4 => ?_)
  · have hm := bif_t hm hb4
    refine wpL_seq ?_
    refine wpL_region ?_
    refine sY hf hs rfl rfl rfl (Y_move rfl rfl) ?_; clear hf; intro a hf
    refine sY hf hs rfl rfl rfl (Y_assign rfl rfl) ?_; clear hf; intro a hf
    refine sY hf hs rfl rfl rfl (Y_assign rfl rfl) ?_; clear hf; intro a hf
    refine wpO_nil ?_
    have hs : St [] W _ [.blk b1 27 [.slice A_p0_s_1 p0_s.A.length c_p0_s_1, .slice A_p0_s_2 p0_s.B.length c_p0_s_2, .slice A_p0_s_3 p0_s.C.length c_p0_s_3], .row none 0 0 2 1 (ints ([] : List Int))] := hs.addNil 2 1
    obtain rfl := Option.some.inj hm
    refine wpL_ret (ret_tmp2 rfl hf rfl rfl ?_)
    exact ⟨_, rfl, none, 0, 0, rfl, rfl, hs.sel [1] (by decide)⟩
  · have hm := bif_f hm hb4
    refine wpL_skip ?_
    refine wpL_seq ?_
    refine wpL_region ?_
    refine sY hf hs rfl rfl rfl (Y_load_blkS rfl rfl (i := 0) rfl ag27 ti27 rfl) ?_; clear hf; intro a hf
    refine sY hf hs rfl rfl rfl (Y_move rfl rfl) ?_; clear hf; intro a hf
    refine sY hf hs rfl rfl rfl (Y_move rfl rfl) ?_; clear hf; intro a hf
    obtain ⟨r6, hc7, hm⟩ := bind_some hm
    refine sCall hf rfl rfl rfl rfl (cap := []) rfl rfl en111 (impl_runSystem_ok F p0_s A_p0_s_1 p0_s.A.length c_p0_s_1 rfl A_p0_s_2 p0_s.B.length c_p0_s_2 rfl A_p0_s_3 p0_s.C.length c_p0_s_3 rfl p1_x A_p1_x_1 p1_x.length c_p1_x_1 rfl p2_inputs A_p2_inputs_1 p2_inputs.length c_p2_inputs_1 rfl _ _ hc7 (h_p0_s_1.at hs) (h_p0_s_2.at hs) (h_p0_s_3.at hs) (h_p1_x_1.at hs) (h_p2_inputs_1.at hs)) ?_; clear hf
    rintro _ w ⟨A8, n9, c10, A12, n13, c14, rfl, hn11, hn15, hs1⟩ a hf
    have hs : St [] W w [.blk b1 27 [.slice A_p0_s_1 p0_s.A.length c_p0_s_1, .slice A_p0_s_2 p0_s.B.length c_p0_s_2, .slice A_p0_s_3 p0_s.C.length c_p0_s_3], .row A8 n9 c10 2 1 (ints r6.1), .row A12 n13 c14 2 1 (ints r6.2.1)] := hs.join hs1
    clear hs1
    refine sY hf hs rfl rfl rfl (Y_move rfl rfl) ?_; clear hf; intro a hf
    refine sY hf hs rfl rfl rfl (Y_extract rfl rfl rfl) ?_; clear hf; intro a hf
    refine sY hf hs rfl rfl rfl (Y_extract rfl rfl rfl) ?_; clear hf; intro a hf
    refine sY hf hs rfl rfl rfl (Y_extract rfl rfl rfl) ?_; clear hf; intro a hf
    refine sY hf hs rfl rfl rfl (Y_assign rfl rfl) ?_; clear hf; intro a hf
    refine sY hf hs rfl rfl rfl (Y_assign rfl rfl) ?_; clear hf; intro a hf
    refine sY hf hs rfl rfl rfl (Y_assign rfl rfl) ?_; clear hf; intro a hf
    refine wpO_nil ?_
    refine wpL_seq ?_
    refine wpL_region ?_
    refine sY hf hs rfl rfl rfl (Y_move rfl rfl) ?_; clear hf; intro a hf
    refine sY hf hs rfl rfl rfl (Y_move rfl rfl) ?_; clear hf; intro a hf
    refine sY hf hs rfl rfl rfl (Y_assign rfl rfl) ?_; clear hf; intro a hf
    refine sY hf hs rfl rfl rfl (Y_assign rfl rfl) ?_; clear hf; intro a hf
    refine wpO_nil ?_
    obtain rfl := Option.some.inj hm
    refine wpL_ret (ret_tmp2 rfl hf rfl rfl ?_)
    exact ⟨_, rfl, A8, n9, c10, rfl, hn11, hs.sel [1] (by decide)⟩

set_option maxRecDepth 100000 in
theorem spec_l01In_ok (F : Nat) (p0_n : Int) (p1_low : Int) (p2_high : Int) (r : Bool) (W : World) (hm : spec_l01In F p0_n p1_low p2_high = some r) :
    Calls Try.prog 115 [.int .i64 p0_n, .int .i64 p1_low, .int .i64 p2_high].toArray W fun e w' => ∃ v, e = .returned v ∧ v = .bool r ∧ St [] W w' [] := by
  unfold spec_l01In at hm
  refine Calls.enter (N := 15) Try.func115 rfl rfl rfl (fun a hf => ?_)
  have hs := St.start W
  obtain ⟨w, hw_⟩ : ∃ w, w = W := ⟨W, rfl⟩
  clear hw_ w
  refine wpL_seq ?_
  refine wpL_region ?_
  refine sY hf hs rfl rfl rfl (Y_assign rfl rfl) ?_; clear hf; intro a hf
  refine wpO_nil ?_
  refine wpL_seq ?_
  obtain ⟨r3, hj4, hm⟩ := bind_some hm
  refine wpL_cut (fun a w => ∃ b2 : Bool, b2 = r3 ∧ Fr a 15 [(6, .bool b2)] ∧ St [] W w []) ?_ ?_
  · refine wpL_region ?_
    refine sY hf hs rfl rfl rfl (Y_move rfl rfl) ?_; clear hf; intro a hf
    refine sY hf hs rfl rfl rfl (Y_move rfl rfl) ?_; clear hf; intro a hf
    refine sY hf hs rfl rfl rfl (Y_geq rfl rfl rfl) ?_; clear hf; intro a hf
    refine sY hf hs rfl rfl rfl (Y_move rfl rfl) ?_; clear hf; intro a hf
    refine bsplit (decide (p1_low ≤ p0_n)) (fun hb5 => ?_) (fun hb5 => ?_)
    · have hj4 := bif_t hj4 hb5
      refine sYg hf hs rfl rfl rfl (congrArg (fun b => some (Value.bool b)) hb5) rfl rfl rfl (Y_move rfl rfl) ?_; clear hf; intro a hf
      refine sYg hf hs rfl rfl rfl (congrArg (fun b => some (Value.bool b)) hb5) rfl rfl rfl (Y_move rfl rfl) ?_; clear hf; intro a hf
      refine sYg hf hs rfl rfl rfl (congrArg (fun b => some (Value.bool b)) hb5) rfl rfl rfl (Y_leq rfl rfl rfl) ?_; clear hf; intro a hf
      refine sY hf hs rfl rfl rfl (Y_pickT rfl (congrArg (fun b => some (Value.bool b)) hb5) rfl) ?_; clear hf; intro a hf
      refine sY hf hs rfl rfl rfl (Y_assign rfl rfl) ?_; clear hf; intro a hf
      refine wpO_nil ?_
      refine wpL_nil (then_normal ?_)
      exact ⟨(decide (p0_n ≤ p2_high)), Option.some.inj hj4, (FrD.pick hf.none hf rfl), hs⟩
    · have hj4 := bif_f hj4 hb5
      refine sNo hf rfl rfl rfl (congrArg (fun b => some (Value.bool b)) hb5) rfl rfl rfl ?_; clear hf; intro a hf
      refine sNo hf rfl rfl rfl (congrArg (fun b => some (Value.bool b)) hb5) rfl rfl rfl ?_; clear hf; intro a hf
      refine sNo hf rfl rfl rfl (congrArg (fun b => some (Value.bool b)) hb5) rfl rfl rfl ?_; clear hf; intro a hf
      refine sY hf hs rfl rfl rfl (Y_pickF rfl (congrArg (fun b => some (Value.bool b)) hb5) rfl) ?_; clear hf; intro a hf
      refine sY hf hs rfl rfl rfl (Y_assign rfl rfl) ?_; clear hf; intro a hf
      refine wpO_nil ?_
      refine wpL_nil (then_normal ?_)
      exact ⟨false, Option.some.inj hj4, (FrD.pick hf.none hf rfl), hs⟩
  · rintro a w ⟨b2, hr_, hf, hs⟩
    subst hr_
    try dsimp only at hm
    obtain rfl := Option.some.inj hm
    refine wpL_ret (ret_tmp rfl hf rfl ?_)
    exact ⟨_, rfl, rfl, hs⟩

set_option maxRecDepth 100000 in
theorem spec_l01Finite_ok (F : Nat) (p0_a : Int) (r : Bool) (W : World) (hm : spec_l01Finite F p0_a = some r) :
    Calls Try.prog 156 [.int .i64 p0_a].toArray W fun e w' => ∃ v, e = .returned v ∧ v = .bool r ∧ St [] W w' [] := by
  unfold spec_l01Finite at hm
  refine Calls.enter (N := 5) Try.func156 rfl rfl rfl (fun a hf => ?_)
  have hs := St.start W
  obtain ⟨w, hw_⟩ : ∃ w, w = W := ⟨W, rfl⟩
  clear hw_ w
  refine wpL_seq ?_
  refine wpL_region ?_
  refine sY hf hs rfl rfl rfl (Y_assign rfl rfl) ?_; clear hf; intro a hf
  refine wpO_nil ?_
  refine wpL_seq ?_
  refine wpL_region ?_
  refine sY hf hs rfl rfl rfl (Y_move rfl rfl) ?_; clear hf; intro a hf
  obtain ⟨r1, hc2, hm⟩ := bind_some hm
  refine sCall hf rfl rfl rfl rfl (cap := []) rfl rfl en115 (spec_l01In_ok F p0_a (-1000000) 1000000 _ _ hc2) ?_; clear hf
  rintro _ w ⟨rfl, hs1⟩ a hf
  have hs : St [] W w [] := hs.ext hs1.below
  clear hs1
  refine sY hf hs rfl rfl rfl (Y_assign rfl rfl) ?_; clear hf; intro a hf
  refine wpO_nil ?_
  obtain rfl := Option.some.inj hm
  refine wpL_ret (ret_tmp rfl hf rfl ?_)
  exact ⟨_, rfl, rfl, hs⟩

set_option maxRecDepth 100000 in
theorem spec_IsValue_ok (F : Nat) (p0_a : Int) (r : Bool) (W : World) (hm : spec_IsValue F p0_a = some r) :
    Calls Try.prog 77 [.int .i64 p0_a].toArray W fun e w' => ∃ v, e = .returned v ∧ v = .bool r ∧ St [] W w' [] := by
  unfold spec_IsValue at hm
  refine Calls.enter (N := 9) Try.func77 rfl rfl rfl (fun a hf => ?_)
  have hs := St.start W
  obtain ⟨w, hw_⟩ : ∃ w, w = W := ⟨W, rfl⟩
  clear hw_ w
  refine wpL_seq ?_
  refine wpL_region ?_
  refine sY hf hs rfl rfl rfl (Y_assign rfl rfl) ?_; clear hf; intro a hf
  refine wpO_nil ?_
  refine wpL_seq ?_
  obtain ⟨r5, hj6, hm⟩ := bind_some hm
  refine wpL_cut (fun a w => ∃ b4 : Bool, b4 = r5 ∧ Fr a 9 [(2, .bool b4)] ∧ St [] W w []) ?_ ?_
  · refine wpL_region ?_
    refine sY hf hs rfl rfl rfl (Y_move rfl rfl) ?_; clear hf; intro a hf
    refine sY hf hs rfl rfl rfl (Y_eql rfl rfl rfl) ?_; clear hf; intro a hf
    refine sY hf hs rfl rfl rfl (Y_move rfl rfl) ?_; clear hf; intro a hf
    refine bsplit (p0_a == (-1000000000000000)) (fun hb7 => ?_) (fun hb7 => ?_)
    · have hj6 := bif_t hj6 hb7
      refine sNo hf rfl rfl rfl (congrArg (fun b => some (Value.bool b)) hb7) rfl rfl rfl ?_; clear hf; intro a hf
      refine sNo hf rfl rfl rfl (congrArg (fun b => some (Value.bool b)) hb7) rfl rfl rfl ?_; clear hf; intro a hf
      refine sY hf hs rfl rfl rfl (Y_pickT rfl (congrArg (fun b => some (Value.bool b)) hb7) rfl) ?_; clear hf; intro a hf
      refine sY hf hs rfl rfl rfl (Y_assign rfl rfl) ?_; clear hf; intro a hf
      refine wpO_nil ?_
      refine wpL_nil (then_normal ?_)
      exact ⟨true, Option.some.inj hj6, (FrD.pick hf.none hf rfl), hs⟩
    · have hj6 := bif_f hj6 hb7
      refine sYg hf hs rfl rfl rfl (congrArg (fun b => some (Value.bool b)) hb7) rfl rfl rfl (Y_move rfl rfl) ?_; clear hf; intro a hf
      obtain ⟨r8, hc9, hj6⟩ := bind_some hj6
      refine sCallg hf rfl rfl rfl (congrArg (fun b => some (Value.bool b)) hb7) rfl rfl rfl rfl (cap := []) rfl rfl en156 (spec_l01Finite_ok F p0_a _ _ hc9) ?_; clear hf
      rintro _ w ⟨rfl, hs1⟩ a hf
      have hs : St [] W w [] := hs.ext hs1.below
      clear hs1
      refine sY hf hs rfl rfl rfl (Y_pickF rfl (congrArg (fun b => some (Value.bool b)) hb7) rfl) ?_; clear hf; intro a hf
      refine sY hf hs rfl rfl rfl (Y_assign rfl rfl) ?_; clear hf; intro a hf
      refine wpO_nil ?_
      refine wpL_nil (then_normal ?_)
      exact ⟨r8, Option.some.inj hj6, (FrD.pick hf.none hf rfl), hs⟩
  · rintro a w ⟨b4, hr_, hf, hs⟩
    subst hr_
    try dsimp only at hm
    obtain rfl := Option.some.inj hm
    refine wpL_ret (ret_tmp rfl hf rfl ?_)
    exact ⟨_, rfl, rfl, hs⟩

set_option maxRecDepth 100000 in
theorem spec_l01All_ok (F : Nat) (p0_list : List Int) (A_p0_list_1 : Option Addr) (n_p0_list_1 c_p0_list_1 : Nat) (hn_p0_list_1 : n_p0_list_1 = p0_list.length) (p1_finite : Bool) (r : Bool) (W : World) (hm : spec_l01All F p0_list p1_finite = some r) (h_p0_list_1 : Rd W A_p0_list_1 (ints p0_list)) :
    Calls Try.prog 124 [.slice A_p0_list_1 n_p0_list_1 c_p0_list_1, .bool p1_finite].toArray W fun e w' => ∃ v, e = .returned v ∧ v = .bool r ∧ St [] W w' [] := by
  subst hn_p0_list_1
  unfold spec_l01All at hm
  refine Calls.enter (N := 28) Try.func124 rfl rfl rfl (fun a hf => ?_)
  have hs := St.start W
  obtain ⟨w, hw_⟩ : ∃ w, w = W := ⟨W, rfl⟩
  clear hw_ w
  refine wpL_seq ?_
  refine wpL_region ?_
  refine sY hf hs rfl rfl rfl (Y_assign rfl rfl) ?_; clear hf; intro a hf
  refine wpO_nil ?_
  refine wpL_seq ?_
  refine wpL_seq ?_
  refine wpL_region ?_
  refine sY hf hs rfl rfl rfl (Y_assign rfl rfl) ?_; clear hf; intro a hf
  refine wpO_nil ?_
  obtain ⟨r66, hl67, hm⟩ := bind_some hm
  refine wpL_block (fun a w => Sum.inr () = r66 ∧ Fr a 28 [] ∧ St [] W w []) ?_ ?_
  · refine wpL_loop (fun n a w => ∃ x44 : Int, spec_l01All_L1 F p0_list p1_finite n x44 = some r66 ∧ Fr a 28 [(0, .slice A_p0_list_1 p0_list.length c_p0_list_1), (1, .bool p1_finite), (5, .int .i64 x44)] ∧ St [] W w []) F ?_ ?_ ?_
    · exact ⟨0, hl67, (FrD.pick (FrD.pick (FrD.pick hf.none hf rfl) hf rfl) hf rfl), hs⟩
    · rintro a w ⟨x44, h0_, -, -⟩; simp [spec_l01All_L1] at h0_
    · rintro n69 a w ⟨x44, hm68, hf, hs⟩
      rw [spec_l01All_L1] at hm68
      refine wpL_seq ?_
      refine wpL_seq ?_
      refine wpL_region ?_
      refine sY hf hs rfl rfl rfl (Y_move rfl rfl) ?_; clear hf; intro a hf
      refine sY hf hs rfl rfl rfl (Y_move rfl rfl) ?_; clear hf; intro a hf
      refine sY hf hs rfl rfl rfl (Y_lenH rfl rfl el23 rfl) ?_; clear hf; intro a hf
      refine sY hf hs rfl rfl rfl (Y_lss rfl rfl rfl) ?_; clear hf; intro a hf
      refine wpO_nil ?_
      refine wpL_cond hf rfl (fun hb70 => ?_) (fun hb70 => ?_)
      · have hm68 := bif_t hm68 hb70
        refine wpL_skip ?_
        refine wpL_seq ?_
        refine wpL_block0 ?_
        refine wpL_seq ?_
        obtain ⟨r80, hj81, hm68⟩ := bind_some hm68
        refine wpL_cut (fun a w => ∃ b79 : Bool, b79 = r80 ∧ Fr a 28 [(0, .slice A_p0_list_1 p0_list.length c_p0_list_1), (1, .bool p1_finite), (5, .int .i64 x44), (27, .bool b79)] ∧ St [] W w []) ?_ ?_
        · refine wpL_region ?_
          refine sY hf hs rfl rfl rfl (Y_move rfl rfl) ?_; clear hf; intro a hf
          refine sY hf hs rfl rfl rfl (Y_move rfl rfl) ?_; clear hf; intro a hf
          obtain ⟨q82, hi83, hj81⟩ := bind_some hj81
          obtain ⟨hi83a, hi83b, hi83q⟩ := idx_some hi83
          refine sY hf hs rfl rfl rfl (Y_index rfl rfl rfl el23 ti2 (Rd.isAt (h_p0_list_1.at hs) (at1 (ints_at hi83q))) hi83a hi83b) ?_; clear hf; intro a hf
          refine sY hf hs rfl rfl rfl (Y_load_rd rfl rfl (fun w hs => h_p0_list_1.at hs) (at1 (ints_at hi83q)) ag2) ?_; clear hf; intro a hf
          obtain ⟨r84, hc85, hj81⟩ := bind_some hj81
          refine sCall hf rfl rfl rfl rfl (cap := []) rfl rfl en77 (spec_IsValue_ok F q82 _ _ hc85) ?_; clear hf
          rintro _ w ⟨rfl, hs1⟩ a hf
          have hs : St [] W w [] := hs.ext hs1.below
          clear hs1
          refine sY hf hs rfl rfl rfl (Y_not rfl rfl) ?_; clear hf; intro a hf
          refine sY hf hs rfl rfl rfl (Y_move rfl rfl) ?_; clear hf; intro a hf
          refine bsplit (!r84) (fun hb86 => ?_) (fun hb86 => ?_)
          · have hj81 := bif_t hj81 hb86
            refine sNo hf rfl rfl rfl (congrArg (fun b => some (Value.bool b)) hb86) rfl rfl rfl ?_; clear hf; intro a hf
            refine sNo hf rfl rfl rfl (congrArg (fun b => some (Value.bool b)) hb86) rfl rfl rfl ?_; clear hf; intro a hf
            refine sNoU hf rfl rfl rfl rfl rfl rfl rfl ?_; clear hf; intro a hf
            refine sNoU hf rfl rfl rfl rfl rfl rfl rfl ?_; clear hf; intro a hf
            refine sNoU hf rfl rfl rfl rfl rfl rfl rfl ?_; clear hf; intro a hf
            refine sNoU hf rfl rfl rfl rfl rfl rfl rfl ?_; clear hf; intro a hf
            refine sNoU hf rfl rfl rfl rfl rfl rfl rfl ?_; clear hf; intro a hf
            refine sNo hf rfl rfl rfl (congrArg (fun b => some (Value.bool b)) hb86) rfl rfl rfl ?_; clear hf; intro a hf
            refine sY hf hs rfl rfl rfl (Y_pickT rfl (congrArg (fun b => some (Value.bool b)) hb86) rfl) ?_; clear hf; intro a hf
            refine wpO_nil ?_
            refine wpL_nil (then_normal ?_)
            exact ⟨true, Option.some.inj hj81, (FrD.pick (FrD.pick (FrD.pick (FrD.pick hf.none hf rfl) hf rfl) hf rfl) hf rfl), hs⟩
          · have hj81 := bif_f hj81 hb86
            refine sYg hf hs rfl rfl rfl (congrArg (fun b => some (Value.bool b)) hb86) rfl rfl rfl (Y_move rfl rfl) ?_; clear hf; intro a hf
            refine sYg hf hs rfl rfl rfl (congrArg (fun b => some (Value.bool b)) hb86) rfl rfl rfl (Y_move rfl rfl) ?_; clear hf; intro a hf
            refine bsplit p1_finite (fun hb87 => ?_) (fun hb87 => ?_)
            · have hj81 := bif_t hj81 hb87
              refine sYg hf hs rfl rfl rfl (congrArg (fun b => some (Value.bool b)) hb87) rfl rfl rfl (Y_move rfl rfl) ?_; clear hf; intro a hf
              refine sYg hf hs rfl rfl rfl (congrArg (fun b => some (Value.bool b)) hb87) rfl rfl rfl (Y_move rfl rfl) ?_; clear hf; intro a hf
              obtain ⟨q88, hi89, hj81⟩ := bind_some hj81
              obtain ⟨hi89a, hi89b, hi89q⟩ := idx_some hi89
              refine sYg hf hs rfl rfl rfl (congrArg (fun b => some (Value.bool b)) hb87) rfl rfl rfl (Y_index rfl rfl rfl el23 ti2 (Rd.isAt (h_p0_list_1.at hs) (at1 (ints_at hi89q))) hi89a hi89b) ?_; clear hf; intro a hf
              refine sYg hf hs rfl rfl rfl (congrArg (fun b => some (Value.bool b)) hb87) rfl rfl rfl (Y_load_rd rfl rfl (fun w hs => h_p0_list_1.at hs) (at1 (ints_at hi89q)) ag2) ?_; clear hf; intro a hf
              refine sYg hf hs rfl rfl rfl (congrArg (fun b => some (Value.bool b)) hb87) rfl rfl rfl (Y_eql rfl rfl rfl) ?_; clear hf; intro a hf
              refine sYg hf hs rfl rfl rfl (congrArg (fun b => some (Value.bool b)) hb86) rfl rfl rfl (Y_pickT rfl (congrArg (fun b => some (Value.bool b)) hb87) rfl) ?_; clear hf; intro a hf
              refine sY hf hs rfl rfl rfl (Y_pickF rfl (congrArg (fun b => some (Value.bool b)) hb86) rfl) ?_; clear hf; intro a hf
              refine wpO_nil ?_
              refine wpL_nil (then_normal ?_)
              exact ⟨(q88 == (-1000000000000000)), Option.some.inj hj81, (FrD.pick (FrD.pick (FrD.pick (FrD.pick hf.none hf rfl) hf rfl) hf rfl) hf rfl), hs⟩
            · have hj81 := bif_f hj81 hb87
              refine sNo hf rfl rfl rfl (congrArg (fun b => some (Value.bool b)) hb87) rfl rfl rfl ?_; clear hf; intro a hf
              refine sNo hf rfl rfl rfl (congrArg (fun b => some (Value.bool b)) hb87) rfl rfl rfl ?_; clear hf; intro a hf
              refine sNo hf rfl rfl rfl (congrArg (fun b => some (Value.bool b)) hb87) rfl rfl rfl ?_; clear hf; intro a hf
              refine sNo hf rfl rfl rfl (congrArg (fun b => some (Value.bool b)) hb87) rfl rfl rfl ?_; clear hf; intro a hf
              refine sNo hf rfl rfl rfl (congrArg (fun b => some (Value.bool b)) hb87) rfl rfl rfl ?_; clear hf; intro a hf
              refine sYg hf hs rfl rfl rfl (congrArg (fun b => some (Value.bool b)) hb86) rfl rfl rfl (Y_pickF rfl (congrArg (fun b => some (Value.bool b)) hb87) rfl) ?_; clear hf; intro a hf
              refine sY hf hs rfl rfl rfl (Y_pickF rfl (congrArg (fun b => some (Value.bool b)) hb86) rfl) ?_; clear hf; intro a hf
              refine wpO_nil ?_
              refine wpL_nil (then_normal ?_)
              exact ⟨false, Option.some.inj hj81, (FrD.pick (FrD.pick (FrD.pick (FrD.pick hf.none hf rfl) hf rfl) hf rfl) hf rfl), hs⟩
        · rintro a w ⟨b79, hr_, hf, hs⟩
          subst hr_
          try dsimp only at hm68
          refine wpL_cond hf rfl (fun hb90 => ?_) (fun hb90 => ?_)
          · have hm68 := bif_t hm68 hb90
            refine wpL_seq ?_
            refine wpL_region ?_
            refine sY hf hs rfl rfl rfl (Y_assign rfl rfl) ?_; clear hf; intro a hf
            refine wpO_nil ?_
            obtain rfl := Option.some.inj hm68
            try dsimp only at hm
            obtain rfl := Option.some.inj hm
            refine wpL_ret (Qb_ret (Ql_ret (Qb_ret (ret_tmp rfl hf rfl ?_))))
            exact ⟨_, rfl, rfl, hs⟩
          · have hm68 := bif_f hm68 hb90
            refine wpL_skip ?_
            refine wpL_nil (Qb_normal ?_)
            refine wpL_region ?_
            refine sY hf hs rfl rfl rfl (Y_move rfl rfl) ?_; clear hf; intro a hf
            refine sY hf hs rfl rfl rfl (Y_add rfl rfl rfl) ?_; clear hf; intro a hf
            refine sY hf hs rfl rfl rfl (Y_assign rfl rfl) ?_; clear hf; intro a hf
            refine wpO_nil ?_
            refine wpL_nil (Ql_normal ?_)
            exact ⟨(IntKind.i64.wrap (x44 + 1)), hm68, (FrD.pick (FrD.pick (FrD.pick hf.none hf rfl) hf rfl) hf rfl), hs⟩
      · have hm68 := bif_f hm68 hb70
        refine wpL_exit (Ql_exit (Qb_exit ?_))
        exact ⟨Option.some.inj hm68, hf.none, hs⟩
  · rintro a w ⟨hr_, hf, hs⟩
    subst hr_
    try dsimp only at hm
    refine wpL_seq ?_
    refine wpL_region ?_
    refine sY hf hs rfl rfl rfl (Y_assign rfl rfl) ?_; clear hf; intro a hf
    refine wpO_nil ?_
    obtain rfl := Option.some.inj hm
    refine wpL_ret (ret_tmp rfl hf rfl ?_)
    exact ⟨_, rfl, rfl, hs⟩

set_option maxRecDepth 100000 in
theorem spec_l02Vector_ok (F : Nat) (p0_x : List Int) (A_p0_x_1 : Option Addr) (n_p0_x_1 c_p0_x_1 : Nat) (hn_p0_x_1 : n_p0_x_1 = p0_x.length) (r : Bool) (W : World) (hm : spec_l02Vector F p0_x = some r) (h_p0_x_1 : Rd W A_p0_x_1 (ints p0_x)) :
    Calls Try.prog 120 [.slice A_p0_x_1 n_p0_x_1 c_p0_x_1].toArray W fun e w' => ∃ v, e = .returned v ∧ v = .bool r ∧ St [] W w' [] := by
  subst hn_p0_x_1
  unfold spec_l02Vector at hm
  refine Calls.enter (N := 10) Try.func120 rfl rfl rfl (fun a hf => ?_)
  have hs := St.start W
  obtain ⟨w, hw_⟩ : ∃ w, w = W := ⟨W, rfl⟩
  clear hw_ w
  refine wpL_seq ?_
  refine wpL_region ?_
  refine sY hf hs rfl rfl rfl (Y_assign rfl rfl) ?_; clear hf; intro a hf
  refine wpO_nil ?_
  refine wpL_seq ?_
  obtain ⟨r7, hj8, hm⟩ := bind_some hm
  refine wpL_cut (fun a w => ∃ b6 : Bool, b6 = r7 ∧ Fr a 10 [(2, .bool b6)] ∧ St [] W w []) ?_ ?_
  · refine wpL_region ?_
    refine sY hf hs rfl rfl rfl (Y_move rfl rfl) ?_; clear hf; intro a hf
    refine sY hf hs rfl rfl rfl (Y_lenH rfl rfl el23 rfl) ?_; clear hf; intro a hf
    obtain ⟨r9, hc10, hj8⟩ := bind_some hj8
    refine sCall hf rfl rfl rfl rfl (cap := []) rfl rfl en115 (spec_l01In_ok F (p0_x.length : Int) 1 10 _ _ hc10) ?_; clear hf
    rintro _ w ⟨rfl, hs1⟩ a hf
    have hs : St [] W w [] := hs.ext hs1.below
    clear hs1
    refine sY hf hs rfl rfl rfl (Y_move rfl rfl) ?_; clear hf; intro a hf
    refine bsplit r9 (fun hb11 => ?_) (fun hb11 => ?_)
    · have hj8 := bif_t hj8 hb11
      refine sYg hf hs rfl rfl rfl (congrArg (fun b => some (Value.bool b)) hb11) rfl rfl rfl (Y_move rfl rfl) ?_; clear hf; intro a hf
      obtain ⟨r12, hc13, hj8⟩ := bind_some hj8
      refine sCallg hf rfl rfl rfl (congrArg (fun b => some (Value.bool b)) hb11) rfl rfl rfl rfl (cap := []) rfl rfl en124 (spec_l01All_ok F p0_x A_p0_x_1 p0_x.length c_p0_x_1 rfl false _ _ hc13 (h_p0_x_1.at hs)) ?_; clear hf
      rintro _ w ⟨rfl, hs1⟩ a hf
      have hs : St [] W w [] := hs.ext hs1.below
      clear hs1
      refine sY hf hs rfl rfl rfl (Y_pickT rfl (congrArg (fun b => some (Value.bool b)) hb11) rfl) ?_; clear hf; intro a hf
      refine sY hf hs rfl rfl rfl (Y_assign rfl rfl) ?_; clear hf; intro a hf
      refine wpO_nil ?_
      refine wpL_nil (then_normal ?_)
      exact ⟨r12, Option.some.inj hj8, (FrD.pick hf.none hf rfl), hs⟩
    · have hj8 := bif_f hj8 hb11
      refine sNo hf rfl rfl rfl (congrArg (fun b => some (Value.bool b)) hb11) rfl rfl rfl ?_; clear hf; intro a hf
      refine sNo hf rfl rfl rfl (congrArg (fun b => some (Value.bool b)) hb11) rfl rfl rfl ?_; clear hf; intro a hf
      refine sY hf hs rfl rfl rfl (Y_pickF rfl (congrArg (fun b => some (Value.bool b)) hb11) rfl) ?_; clear hf; intro a hf
      refine sY hf hs rfl rfl rfl (Y_assign rfl rfl) ?_; clear hf; intro a hf
      refine wpO_nil ?_
      refine wpL_nil (then_normal ?_)
      exact ⟨false, Option.some.inj hj8, (FrD.pick hf.none hf rfl), hs⟩
  · rintro a w ⟨b6, hr_, hf, hs⟩
    subst hr_
    try dsimp only at hm
    obtain rfl := Option.some.inj hm
    refine wpL_ret (ret_tmp rfl hf rfl ?_)
    exact ⟨_, rfl, rfl, hs⟩

set_option maxRecDepth 100000 in
theorem spec_IsMatrix_ok (F : Nat) (p0_a : List (List Int)) (A_p0_a_1 : Option Addr) (n_p0_a_1 c_p0_a_1 : Nat) (hn_p0_a_1 : n_p0_a_1 = p0_a.length) (r : Bool) (W : World) (hm : spec_IsMatrix F p0_a = some r) (h_p0_a_1 : RdM W A_p0_a_1 p0_a) :
    Calls Try.prog 76 [.slice A_p0_a_1 n_p0_a_1 c_p0_a_1].toArray W fun e w' => ∃ v, e = .returned v ∧ v = .bool r ∧ St [] W w' [] := by
  subst hn_p0_a_1
  unfold spec_IsMatrix at hm
  refine Calls.enter (N := 36) Try.func76 rfl rfl rfl (fun a hf => ?_)
  have hs := St.start W
  obtain ⟨w, hw_⟩ : ∃ w, w = W := ⟨W, rfl⟩
  clear hw_ w
  refine wpL_seq ?_
  refine wpL_region ?_
  refine sY hf hs rfl rfl rfl (Y_assign rfl rfl) ?_; clear hf; intro a hf
  refine wpO_nil ?_
  refine wpL_seq ?_
  refine wpL_seq ?_
  obtain ⟨r3, hj4, hm⟩ := bind_some hm
  refine wpL_cut (fun a w => ∃ b2 : Bool, b2 = r3 ∧ Fr a 36 [(0, .slice A_p0_a_1 p0_a.length c_p0_a_1), (11, .bool b2)] ∧ St [] W w []) ?_ ?_
  · refine wpL_region ?_
    refine sY hf hs rfl rfl rfl (Y_move rfl rfl) ?_; clear hf; intro a hf
    refine sY hf hs rfl rfl rfl (Y_lenH rfl rfl el22 rfl) ?_; clear hf; intro a hf
    refine sY hf hs rfl rfl rfl (Y_lss rfl rfl rfl) ?_; clear hf; intro a hf
    refine sY hf hs rfl rfl rfl (Y_move rfl rfl) ?_; clear hf; intro a hf
    refine bsplit (decide ((p0_a.length : Int) < 1)) (fun hb5 => ?_) (fun hb5 => ?_)
    · have hj4 := bif_t hj4 hb5
      refine sNo hf rfl rfl rfl (congrArg (fun b => some (Value.bool b)) hb5) rfl rfl rfl ?_; clear hf; intro a hf
      refine sNo hf rfl rfl rfl (congrArg (fun b => some (Value.bool b)) hb5) rfl rfl rfl ?_; clear hf; intro a hf
      refine sNo hf rfl rfl rfl (congrArg (fun b => some (Value.bool b)) hb5) rfl rfl rfl ?_; clear hf; intro a hf
      refine sY hf hs rfl rfl rfl (Y_pickT rfl (congrArg (fun b => some (Value.bool b)) hb5) rfl) ?_; clear hf; intro a hf
      refine wpO_nil ?_
      refine wpL_nil (then_normal ?_)
      exact ⟨true, Option.some.inj hj4, (FrD.pick (FrD.pick hf.none hf rfl) hf rfl), hs⟩
    · have hj4 := bif_f hj4 hb5
      refine sYg hf hs rfl rfl rfl (congrArg (fun b => some (Value.bool b)) hb5) rfl rfl rfl (Y_move rfl rfl) ?_; clear hf; intro a hf
      refine sYg hf hs rfl rfl rfl (congrArg (fun b => some (Value.bool b)) hb5) rfl rfl rfl (Y_lenH rfl rfl el22 rfl) ?_; clear hf; intro a hf
      refine sYg hf hs rfl rfl rfl (congrArg (fun b => some (Value.bool b)) hb5) rfl rfl rfl (Y_gtr rfl rfl rfl) ?_; clear hf; intro a hf
      refine sY hf hs rfl rfl rfl (Y_pickF rfl (congrArg (fun b => some (Value.bool b)) hb5) rfl) ?_; clear hf; intro a hf
      refine wpO_nil ?_
      refine wpL_nil (then_normal ?_)
      exact ⟨(decide (10 < (p0_a.length : Int))), Option.some.inj hj4, (FrD.pick (FrD.pick hf.none hf rfl) hf rfl), hs⟩
  · rintro a w ⟨b2, hr_, hf, hs⟩
    subst hr_
    try dsimp only at hm
    refine wpL_cond hf rfl (fun hb6 => ?_) (fun hb6 => ?_)
    · have hm := bif_t hm hb6
      refine wpL_seq ?_
      refine wpL_region ?_
      refine sY hf hs rfl rfl rfl (Y_assign rfl rfl) ?_; clear hf; intro a hf
      refine wpO_nil ?_
      obtain rfl := Option.some.inj hm
      refine wpL_ret (ret_tmp rfl hf rfl ?_)
      exact ⟨_, rfl, rfl, hs⟩
    · have hm := bif_f hm hb6
      refine wpL_skip ?_
      refine wpL_seq ?_
      refine wpL_seq ?_
      refine wpL_region ?_
      refine sY hf hs rfl rfl rfl (Y_assign rfl rfl) ?_; clear hf; intro a hf
      refine wpO_nil ?_
      obtain ⟨r204, hl205, hm⟩ := bind_some hm
      refine wpL_block (fun a w => Sum.inr () = r204 ∧ Fr a 36 [] ∧ St [] W w []) ?_ ?_
      · refine wpL_loop (fun n a w => ∃ x138 : Int, spec_IsMatrix_L1 F p0_a n x138 = some r204 ∧ Fr a 36 [(0, .slice A_p0_a_1 p0_a.length c_p0_a_1), (3, .int .i64 x138)] ∧ St [] W w []) F ?_ ?_ ?_
        · exact ⟨0, hl205, (FrD.pick (FrD.pick hf.none hf rfl) hf rfl), hs⟩
        · rintro a w ⟨x138, h0_, -, -⟩; simp [spec_IsMatrix_L1] at h0_
        · rintro n207 a w ⟨x138, hm206, hf, hs⟩
          rw [spec_IsMatrix_L1] at hm206
          refine wpL_seq ?_
          refine wpL_seq ?_
          refine wpL_region ?_
          refine sY hf hs rfl rfl rfl (Y_move rfl rfl) ?_; clear hf; intro a hf
          refine sY hf hs rfl rfl rfl (Y_move rfl rfl) ?_; clear hf; intro a hf
          refine sY hf hs rfl rfl rfl (Y_lenH rfl rfl el22 rfl) ?_; clear hf; intro a hf
          refine sY hf hs rfl rfl rfl (Y_lss rfl rfl rfl) ?_; clear hf; intro a hf
          refine wpO_nil ?_
          refine wpL_cond hf rfl (fun hb208 => ?_) (fun hb208 => ?_)
          · have hm206 := bif_t hm206 hb208
            refine wpL_skip ?_
            refine wpL_seq ?_
            refine wpL_block0 ?_
            refine wpL_seq ?_
            obtain ⟨r240, hj241, hm206⟩ := bind_some hm206
            refine wpL_cut (fun a w => ∃ b239 : Bool, b239 = r240 ∧ Fr a 36 [(0, .slice A_p0_a_1 p0_a.length c_p0_a_1), (3, .int .i64 x138), (35, .bool b239)] ∧ St [] W w []) ?_ ?_
            · refine wpL_draw (by kernel_rfl) (by kernel_rfl) hs ?_
              refine qY hf rfl rfl rfl (Y_move rfl rfl) ?_; clear hf; intro a hf
              refine qY hf rfl rfl rfl (Y_move rfl rfl) ?_; clear hf; intro a hf
              obtain ⟨q242, hi243, hj241⟩ := bind_some hj241
              obtain ⟨hi243a, hi243b, hi243q⟩ := idx_some hi243
              obtain ⟨vs244, hv245, hr246⟩ := id h_p0_a_1
              obtain ⟨A247, c248, hv249, hR250⟩ := hr246 _ _ hi243q
              refine qY hf rfl rfl rfl (Y_index rfl rfl rfl el22 ti23 (Rd.isAt hv245 hv249) hi243a hi243b) ?_; clear hf; intro a hf
              refine qY hf rfl rfl rfl (Y_load_rd rfl rfl (fun w hs => hv245.at hs) (at1 hv249) ag23) ?_; clear hf; intro a hf
              obtain ⟨r251, hc252, hj241⟩ := bind_some hj241
              refine qCall hf rfl rfl rfl rfl (cap := []) rfl rfl en120 (v := .bool r251) (fun w hs => Calls.scal (spec_l02Vector_ok F q242 A247 q242.length c248 rfl _ _ hc252 (hR250.at hs))) ?_; clear hf; intro a hf
              refine qY hf rfl rfl rfl (Y_not rfl rfl) ?_; clear hf; intro a hf
              refine qY hf rfl rfl rfl (Y_move rfl rfl) ?_; clear hf; intro a hf
              refine bsplit (!r251) (fun hb253 => ?_) (fun hb253 => ?_)
              · have hj241 := bif_t hj241 hb253
                refine qNo hf rfl rfl rfl (congrArg (fun b => some (Value.bool b)) hb253) rfl rfl rfl ?_; clear hf; intro a hf
                refine qNo hf rfl rfl rfl (congrArg (fun b => some (Value.bool b)) hb253) rfl rfl rfl ?_; clear hf; intro a hf
                refine qNo hf rfl rfl rfl (congrArg (fun b => some (Value.bool b)) hb253) rfl rfl rfl ?_; clear hf; intro a hf
                refine qNo hf rfl rfl rfl (congrArg (fun b => some (Value.bool b)) hb253) rfl rfl rfl ?_; clear hf; intro a hf
                refine qNo hf rfl rfl rfl (congrArg (fun b => some (Value.bool b)) hb253) rfl rfl rfl ?_; clear hf; intro a hf
                refine qNo hf rfl rfl rfl (congrArg (fun b => some (Value.bool b)) hb253) rfl rfl rfl ?_; clear hf; intro a hf
                refine qNo hf rfl rfl rfl (congrArg (fun b => some (Value.bool b)) hb253) rfl rfl rfl ?_; clear hf; intro a hf
                refine qNo hf rfl rfl rfl (congrArg (fun b => some (Value.bool b)) hb253) rfl rfl rfl ?_; clear hf; intro a hf
                refine qNo hf rfl rfl rfl (congrArg (fun b => some (Value.bool b)) hb253) rfl rfl rfl ?_; clear hf; intro a hf
                refine qNo hf rfl rfl rfl (congrArg (fun b => some (Value.bool b)) hb253) rfl rfl rfl ?_; clear hf; intro a hf
                refine qY hf rfl rfl rfl (Y_pickT rfl (congrArg (fun b => some (Value.bool b)) hb253) rfl) ?_; clear hf; intro a hf
                refine qNil ?_; clear hs; intro w hs
                refine wpL_nil (then_normal ?_)
                exact ⟨true, Option.some.inj hj241, (FrD.pick (FrD.pick (FrD.pick hf.none hf rfl) hf rfl) hf rfl), hs⟩
              · have hj241 := bif_f hj241 hb253
                refine qYg hf rfl rfl rfl (congrArg (fun b => some (Value.bool b)) hb253) rfl rfl rfl (Y_move rfl rfl) ?_; clear hf; intro a hf
                refine qYg hf rfl rfl rfl (congrArg (fun b => some (Value.bool b)) hb253) rfl rfl rfl (Y_move rfl rfl) ?_; clear hf; intro a hf
                obtain ⟨q254, hi255, hj241⟩ := bind_some hj241
                obtain ⟨hi255a, hi255b, hi255q⟩ := idx_some hi255
                obtain ⟨vs256, hv257, hr258⟩ := id h_p0_a_1
                obtain ⟨A259, c260, hv261, hR262⟩ := hr258 _ _ hi255q
                refine qYg hf rfl rfl rfl (congrArg (fun b => some (Value.bool b)) hb253) rfl rfl rfl (Y_index rfl rfl rfl el22 ti23 (Rd.isAt hv257 hv261) hi255a hi255b) ?_; clear hf; intro a hf
                refine qYg hf rfl rfl rfl (congrArg (fun b => some (Value.bool b)) hb253) rfl rfl rfl (Y_load_rd rfl rfl (fun w hs => hv257.at hs) (at1 hv261) ag23) ?_; clear hf; intro a hf
                refine qYg hf rfl rfl rfl (congrArg (fun b => some (Value.bool b)) hb253) rfl rfl rfl (Y_lenH rfl rfl el23 rfl) ?_; clear hf; intro a hf
                refine qYg hf rfl rfl rfl (congrArg (fun b => some (Value.bool b)) hb253) rfl rfl rfl (Y_move rfl rfl) ?_; clear hf; intro a hf
                obtain ⟨q263, hi264, hj241⟩ := bind_some hj241
                obtain ⟨hi264a, hi264b, hi264q⟩ := idx_some hi264
                obtain ⟨vs265, hv266, hr267⟩ := id h_p0_a_1
                obtain ⟨A268, c269, hv270, hR271⟩ := hr267 _ _ hi264q
                refine qYg hf rfl rfl rfl (congrArg (fun b => some (Value.bool b)) hb253) rfl rfl rfl (Y_index rfl rfl rfl el22 ti23 (Rd.isAt hv266 hv270) hi264a hi264b) ?_; clear hf; intro a hf
                refine qYg hf rfl rfl rfl (congrArg (fun b => some (Value.bool b)) hb253) rfl rfl rfl (Y_load_rd rfl rfl (fun w hs => hv266.at hs) (at1 hv270) ag23) ?_; clear hf; intro a hf
                refine qYg hf rfl rfl rfl (congrArg (fun b => some (Value.bool b)) hb253) rfl rfl rfl (Y_lenH rfl rfl el23 rfl) ?_; clear hf; intro a hf
                refine qYg hf rfl rfl rfl (congrArg (fun b => some (Value.bool b)) hb253) rfl rfl rfl (Y_neq rfl rfl rfl) ?_; clear hf; intro a hf
                refine qY hf rfl rfl rfl (Y_pickF rfl (congrArg (fun b => some (Value.bool b)) hb253) rfl) ?_; clear hf; intro a hf
                refine qNil ?_; clear hs; intro w hs
                refine wpL_nil (then_normal ?_)
                exact ⟨((q254.length : Int) != (q263.length : Int)), Option.some.inj hj241, (FrD.pick (FrD.pick (FrD.pick hf.none hf rfl) hf rfl) hf rfl), hs⟩
            · rintro a w ⟨b239, hr_, hf, hs⟩
              subst hr_
              try dsimp only at hm206
              refine wpL_cond hf rfl (fun hb272 => ?_) (fun hb272 => ?_)
              · have hm206 := bif_t hm206 hb272
                refine wpL_seq ?_
                refine wpL_region ?_
                refine sY hf hs rfl rfl rfl (Y_assign rfl rfl) ?_; clear hf; intro a hf
                refine wpO_nil ?_
                obtain rfl := Option.some.inj hm206
                try dsimp only at hm
                obtain rfl := Option.some.inj hm
                refine wpL_ret (Qb_ret (Ql_ret (Qb_ret (ret_tmp rfl hf rfl ?_))))
                exact ⟨_, rfl, rfl, hs⟩
              · have hm206 := bif_f hm206 hb272
                refine wpL_skip ?_
                refine wpL_nil (Qb_normal ?_)
                refine wpL_region ?_
                refine sY hf hs rfl rfl rfl (Y_move rfl rfl) ?_; clear hf; intro a hf
                refine sY hf hs rfl rfl rfl (Y_add rfl rfl rfl) ?_; clear hf; intro a hf
                refine sY hf hs rfl rfl rfl (Y_assign rfl rfl) ?_; clear hf; intro a hf
                refine wpO_nil ?_
                refine wpL_nil (Ql_normal ?_)
                exact ⟨(IntKind.i64.wrap (x138 + 1)), hm206, (FrD.pick (FrD.pick hf.none hf rfl) hf rfl), hs⟩
          · have hm206 := bif_f hm206 hb208
            refine wpL_exit (Ql_exit (Qb_exit ?_))
            exact ⟨Option.some.inj hm206, hf.none, hs⟩
      · rintro a w ⟨hr_, hf, hs⟩
        subst hr_
        try dsimp only at hm
        refine wpL_seq ?_
        refine wpL_region ?_
        refine sY hf hs rfl rfl rfl (Y_assign rfl rfl) ?_; clear hf; intro a hf
        refine wpO_nil ?_
        obtain rfl := Option.some.inj hm
        refine wpL_ret (ret_tmp rfl hf rfl ?_)
        exact ⟨_, rfl, rfl, hs⟩

set_option maxRecDepth 100000 in
theorem spec_l02Square_ok (F : Nat) (p0_a : List (List Int)) (A_p0_a_1 : Option Addr) (n_p0_a_1 c_p0_a_1 : Nat) (hn_p0_a_1 : n_p0_a_1 = p0_a.length) (r : Bool) (W : World) (hm : spec_l02Square F p0_a = some r) (h_p0_a_1 : RdM W A_p0_a_1 p0_a) :
    Calls Try.prog 119 [.slice A_p0_a_1 n_p0_a_1 c_p0_a_1].toArray W fun e w' => ∃ v, e = .returned v ∧ v = .bool r ∧ St [] W w' [] := by
  subst hn_p0_a_1
  unfold spec_l02Square at hm
  refine Calls.enter (N := 14) Try.func119 rfl rfl rfl (fun a hf => ?_)
  have hs := St.start W
  obtain ⟨w, hw_⟩ : ∃ w, w = W := ⟨W, rfl⟩
  clear hw_ w
  refine wpL_seq ?_
  refine wpL_region ?_
  refine sY hf hs rfl rfl rfl (Y_assign rfl rfl) ?_; clear hf; intro a hf
  refine wpO_nil ?_
  refine wpL_seq ?_
  obtain ⟨r14, hj15, hm⟩ := bind_some hm
  refine wpL_cut (fun a w => ∃ b13 : Bool, b13 = r14 ∧ Fr a 14 [(2, .bool b13)] ∧ St [] W w []) ?_ ?_
  · refine wpL_region ?_
    refine sY hf hs rfl rfl rfl (Y_move rfl rfl) ?_; clear hf; intro a hf
    obtain ⟨r16, hc17, hj15⟩ := bind_some hj15
    refine sCall hf rfl rfl rfl rfl (cap := []) rfl rfl en76 (spec_IsMatrix_ok F p0_a A_p0_a_1 p0_a.length c_p0_a_1 rfl _ _ hc17 (h_p0_a_1.at hs)) ?_; clear hf
    rintro _ w ⟨rfl, hs1⟩ a hf
    have hs : St [] W w [] := hs.ext hs1.below
    clear hs1
    refine sY hf hs rfl rfl rfl (Y_move rfl rfl) ?_; clear hf; intro a hf
    refine bsplit r16 (fun hb18 => ?_) (fun hb18 => ?_)
    · have hj15 := bif_t hj15 hb18
      refine sYg hf hs rfl rfl rfl (congrArg (fun b => some (Value.bool b)) hb18) rfl rfl rfl (Y_move rfl rfl) ?_; clear hf; intro a hf
      refine sYg hf hs rfl rfl rfl (congrArg (fun b => some (Value.bool b)) hb18) rfl rfl rfl (Y_lenH rfl rfl el22 rfl) ?_; clear hf; intro a hf
      refine sYg hf hs rfl rfl rfl (congrArg (fun b => some (Value.bool b)) hb18) rfl rfl rfl (Y_move rfl rfl) ?_; clear hf; intro a hf
      obtain ⟨q19, hi20, hj15⟩ := bind_some hj15
      obtain ⟨hi20a, hi20b, hi20q⟩ := idx_some hi20
      obtain ⟨vs21, hv22, hr23⟩ := id h_p0_a_1
      obtain ⟨A24, c25, hv26, hR27⟩ := hr23 _ _ hi20q
      refine sYg hf hs rfl rfl rfl (congrArg (fun b => some (Value.bool b)) hb18) rfl rfl rfl (Y_index rfl rfl rfl el22 ti23 (Rd.isAt hv22 hv26) hi20a hi20b) ?_; clear hf; intro a hf
      refine sYg hf hs rfl rfl rfl (congrArg (fun b => some (Value.bool b)) hb18) rfl rfl rfl (Y_load_rd rfl rfl (fun w hs => hv22.at hs) (at1 hv26) ag23) ?_; clear hf; intro a hf
      refine sYg hf hs rfl rfl rfl (congrArg (fun b => some (Value.bool b)) hb18) rfl rfl rfl (Y_lenH rfl rfl el23 rfl) ?_; clear hf; intro a hf
      refine sYg hf hs rfl rfl rfl (congrArg (fun b => some (Value.bool b)) hb18) rfl rfl rfl (Y_eql rfl rfl rfl) ?_; clear hf; intro a hf
      refine sY hf hs rfl rfl rfl (Y_pickT rfl (congrArg (fun b => some (Value.bool b)) hb18) rfl) ?_; clear hf; intro a hf
      refine sY hf hs rfl rfl rfl (Y_assign rfl rfl) ?_; clear hf; intro a hf
      refine wpO_nil ?_
      refine wpL_nil (then_normal ?_)
      exact ⟨((p0_a.length : Int) == (q19.length : Int)), Option.some.inj hj15, (FrD.pick hf.none hf rfl), hs⟩
    · have hj15 := bif_f hj15 hb18
      refine sNo hf rfl rfl rfl (congrArg (fun b => some (Value.bool b)) hb18) rfl rfl rfl ?_; clear hf; intro a hf
      refine sNo hf rfl rfl rfl (congrArg (fun b => some (Value.bool b)) hb18) rfl rfl rfl ?_; clear hf; intro a hf
      refine sNo hf rfl rfl rfl (congrArg (fun b => some (Value.bool b)) hb18) rfl rfl rfl ?_; clear hf; intro a hf
      refine sNo hf rfl rfl rfl (congrArg (fun b => some (Value.bool b)) hb18) rfl rfl rfl ?_; clear hf; intro a hf
      refine sNo hf rfl rfl rfl (congrArg (fun b => some (Value.bool b)) hb18) rfl rfl rfl ?_; clear hf; intro a hf
      refine sNo hf rfl rfl rfl (congrArg (fun b => some (Value.bool b)) hb18) rfl rfl rfl ?_; clear hf; intro a hf
      refine sNo hf rfl rfl rfl (congrArg (fun b => some (Value.bool b)) hb18) rfl rfl rfl ?_; clear hf; intro a hf
      refine sY hf hs rfl rfl rfl (Y_pickF rfl (congrArg (fun b => some (Value.bool b)) hb18) rfl) ?_; clear hf; intro a hf
      refine sY hf hs rfl rfl rfl (Y_assign rfl rfl) ?_; clear hf; intro a hf
      refine wpO_nil ?_
      refine wpL_nil (then_normal ?_)
      exact ⟨false, Option.some.inj hj15, (FrD.pick hf.none hf rfl), hs⟩
  · rintro a w ⟨b13, hr_, hf, hs⟩
    subst hr_
    try dsimp only at hm
    obtain rfl := Option.some.inj hm
    refine wpL_ret (ret_tmp rfl hf rfl ?_)
    exact ⟨_, rfl, rfl, hs⟩

set_option maxRecDepth 100000 in
theorem spec_IsSystem_ok (F : Nat) (p0_s : GSystem) (A_p0_s_1 : Option Addr) (n_p0_s_1 c_p0_s_1 : Nat) (hn_p0_s_1 : n_p0_s_1 = p0_s.A.length) (A_p0_s_2 : Option Addr) (n_p0_s_2 c_p0_s_2 : Nat) (hn_p0_s_2 : n_p0_s_2 = p0_s.B.length) (A_p0_s_3 : Option Addr) (n_p0_s_3 c_p0_s_3 : Nat) (hn_p0_s_3 : n_p0_s_3 = p0_s.C.length) (r : Bool) (W : World) (hm : spec_IsSystem F p0_s = some r) (h_p0_s_1 : RdM W A_p0_s_1 p0_s.A) (h_p0_s_2 : Rd W A_p0_s_2 (ints p0_s.B)) (h_p0_s_3 : Rd W A_p0_s_3 (ints p0_s.C)) :
    Calls Try.prog 32 [.agg #[.slice A_p0_s_1 n_p0_s_1 c_p0_s_1, .slice A_p0_s_2 n_p0_s_2 c_p0_s_2, .slice A_p0_s_3 n_p0_s_3 c_p0_s_3]].toArray W fun e w' => ∃ v, e = .returned v ∧ v = .bool r ∧ St [] W w' [] := by
  subst hn_p0_s_1
  subst hn_p0_s_2
  subst hn_p0_s_3
  unfold spec_IsSystem at hm
  refine Calls.enter (N := 34) Try.func32 rfl rfl rfl (fun a hf => ?_)
  have hs := St.start W
  obtain ⟨w, hw_⟩ : ∃ w, w = W := ⟨W, rfl⟩
  clear hw_ w
  refine wpL_seq ?_
  refine wpL_region ?_
  refine sBox hf hs rfl rfl rfl rfl rfl (cs := [.slice A_p0_s_1 p0_s.A.length c_p0_s_1, .slice A_p0_s_2 p0_s.B.length c_p0_s_2, .slice A_p0_s_3 p0_s.C.length c_p0_s_3]) rfl ?_; clear hf hs; intro a w b1 hs hf
  have hs : St [] W w [.blk b1 27 [.slice A_p0_s_1 p0_s.A.length c_p0_s_1, .slice A_p0_s_2 p0_s.B.length c_p0_s_2, .slice A_p0_s_3 p0_s.C.length c_p0_s_3]] := hs
  refine sY hf hs rfl rfl rfl (Y_assign rfl rfl) ?_; clear hf; intro a hf
  refine wpO_nil ?_
  refine wpL_seq ?_
  obtain ⟨r13, hj14, hm⟩ := bind_some hm
  refine wpL_cut (fun a w => ∃ b12 : Bool, b12 = r13 ∧ Fr a 34 [(2, .bool b12)] ∧ St [] W w []) ?_ ?_
  · refine wpL_region ?_
    refine sY hf hs rfl rfl rfl (Y_fieldAddr rfl rfl fo27_0) ?_; clear hf; intro a hf
    refine sY hf hs rfl rfl rfl (Y_load_blk rfl rfl (i := 0) rfl rfl ag22) ?_; clear hf; intro a hf
    obtain ⟨r15, hc16, hj14⟩ := bind_some hj14
    refine sCall hf rfl rfl rfl rfl (cap := []) rfl rfl en119 (spec_l02Square_ok F p0_s.A A_p0_s_1 p0_s.A.length c_p0_s_1 rfl _ _ hc16 (h_p0_s_1.at hs)) ?_; clear hf
    rintro _ w ⟨rfl, hs1⟩ a hf
    have hs : St [] W w [.blk b1 27 [.slice A_p0_s_1 p0_s.A.length c_p0_s_1, .slice A_p0_s_2 p0_s.B.length c_p0_s_2, .slice A_p0_s_3 p0_s.C.length c_p0_s_3]] := hs.ext hs1.below
    clear hs1
    refine sY hf hs rfl rfl rfl (Y_move rfl rfl) ?_; clear hf; intro a hf
    refine bsplit r15 (fun hb17 => ?_) (fun hb17 => ?_)
    · have hj14 := bif_t hj14 hb17
      refine sYg hf hs rfl rfl rfl (congrArg (fun b => some (Value.bool b)) hb17) rfl rfl rfl (Y_fieldAddr rfl rfl fo27_1) ?_; clear hf; intro a hf
      refine sYg hf hs rfl rfl rfl (congrArg (fun b => some (Value.bool b)) hb17) rfl rfl rfl (Y_load_blk rfl rfl (i := 0) rfl rfl ag23) ?_; clear hf; intro a hf
      obtain ⟨r18, hc19, hj14⟩ := bind_some hj14
      refine sCallg hf rfl rfl rfl (congrArg (fun b => some (Value.bool b)) hb17) rfl rfl rfl rfl (cap := []) rfl rfl en120 (spec_l02Vector_ok F p0_s.B A_p0_s_2 p0_s.B.length c_p0_s_2 rfl _ _ hc19 (h_p0_s_2.at hs)) ?_; clear hf
      rintro _ w ⟨rfl, hs1⟩ a hf
      have hs : St [] W w [.blk b1 27 [.slice A_p0_s_1 p0_s.A.length c_p0_s_1, .slice A_p0_s_2 p0_s.B.length c_p0_s_2, .slice A_p0_s_3 p0_s.C.length c_p0_s_3]] := hs.ext hs1.below
      clear hs1
      refine sY hf hs rfl rfl rfl (Y_pickT rfl (congrArg (fun b => some (Value.bool b)) hb17) rfl) ?_; clear hf; intro a hf
      refine sY hf hs rfl rfl rfl (Y_move rfl rfl) ?_; clear hf; intro a hf
      refine bsplit r18 (fun hb20 => ?_) (fun hb20 => ?_)
      · have hj14 := bif_t hj14 hb20
        refine sYg hf hs rfl rfl rfl (congrArg (fun b => some (Value.bool b)) hb20) rfl rfl rfl (Y_fieldAddr rfl rfl fo27_2) ?_; clear hf; intro a hf
        refine sYg hf hs rfl rfl rfl (congrArg (fun b => some (Value.bool b)) hb20) rfl rfl rfl (Y_load_blk rfl rfl (i := 0) rfl rfl ag23) ?_; clear hf; intro a hf
        obtain ⟨r21, hc22, hj14⟩ := bind_some hj14
        refine sCallg hf rfl rfl rfl (congrArg (fun b => some (Value.bool b)) hb20) rfl rfl rfl rfl (cap := []) rfl rfl en120 (spec_l02Vector_ok F p0_s.C A_p0_s_3 p0_s.C.length c_p0_s_3 rfl _ _ hc22 (h_p0_s_3.at hs)) ?_; clear hf
        rintro _ w ⟨rfl, hs1⟩ a hf
        have hs : St [] W w [.blk b1 27 [.slice A_p0_s_1 p0_s.A.length c_p0_s_1, .slice A_p0_s_2 p0_s.B.length c_p0_s_2, .slice A_p0_s_3 p0_s.C.length c_p0_s_3]] := hs.ext hs1.below
        clear hs1
        refine sY hf hs rfl rfl rfl (Y_pickT rfl (congrArg (fun b => some (Value.bool b)) hb20) rfl) ?_; clear hf; intro a hf
        refine sY hf hs rfl rfl rfl (Y_move rfl rfl) ?_; clear hf; intro a hf
        refine bsplit r21 (fun hb23 => ?_) (fun hb23 => ?_)
        · have hj14 := bif_t hj14 hb23
          refine sYg hf hs rfl rfl rfl (congrArg (fun b => some (Value.bool b)) hb23) rfl rfl rfl (Y_fieldAddr rfl rfl fo27_1) ?_; clear hf; intro a hf
          refine sYg hf hs rfl rfl rfl (congrArg (fun b => some (Value.bool b)) hb23) rfl rfl rfl (Y_load_blk rfl rfl (i := 0) rfl rfl ag23) ?_; clear hf; intro a hf
          refine sYg hf hs rfl rfl rfl (congrArg (fun b => some (Value.bool b)) hb23) rfl rfl rfl (Y_lenH rfl rfl el23 rfl) ?_; clear hf; intro a hf
          refine sYg hf hs rfl rfl rfl (congrArg (fun b => some (Value.bool b)) hb23) rfl rfl rfl (Y_fieldAddr rfl rfl fo27_0) ?_; clear hf; intro a hf
          refine sYg hf hs rfl rfl rfl (congrArg (fun b => some (Value.bool b)) hb23) rfl rfl rfl (Y_load_blk rfl rfl (i := 0) rfl rfl ag22) ?_; clear hf; intro a hf
          refine sYg hf hs rfl rfl rfl (congrArg (fun b => some (Value.bool b)) hb23) rfl rfl rfl (Y_lenH rfl rfl el22 rfl) ?_; clear hf; intro a hf
          refine sYg hf hs rfl rfl rfl (congrArg (fun b => some (Value.bool b)) hb23) rfl rfl rfl (Y_eql rfl rfl rfl) ?_; clear hf; intro a hf
          refine sY hf hs rfl rfl rfl (Y_pickT rfl (congrArg (fun b => some (Value.bool b)) hb23) rfl) ?_; clear hf; intro a hf
          refine sY hf hs rfl rfl rfl (Y_move rfl rfl) ?_; clear hf; intro a hf
          refine bsplit ((p0_s.B.length : Int) == (p0_s.A.length : Int)) (fun hb24 => ?_) (fun hb24 => ?_)
          · have hj14 := bif_t hj14 hb24
            refine sYg hf hs rfl rfl rfl (congrArg (fun b => some (Value.bool b)) hb24) rfl rfl rfl (Y_fieldAddr rfl rfl fo27_2) ?_; clear hf; intro a hf
            refine sYg hf hs rfl rfl rfl (congrArg (fun b => some (Value.bool b)) hb24) rfl rfl rfl (Y_load_blk rfl rfl (i := 0) rfl rfl ag23) ?_; clear hf; intro a hf
            refine sYg hf hs rfl rfl rfl (congrArg (fun b => some (Value.bool b)) hb24) rfl rfl rfl (Y_lenH rfl rfl el23 rfl) ?_; clear hf; intro a hf
            refine sYg hf hs rfl rfl rfl (congrArg (fun b => some (Value.bool b)) hb24) rfl rfl rfl (Y_fieldAddr rfl rfl fo27_0) ?_; clear hf; intro a hf
            refine sYg hf hs rfl rfl rfl (congrArg (fun b => some (Value.bool b)) hb24) rfl rfl rfl (Y_load_blk rfl rfl (i := 0) rfl rfl ag22) ?_; clear hf; intro a hf
            refine sYg hf hs rfl rfl rfl (congrArg (fun b => some (Value.bool b)) hb24) rfl rfl rfl (Y_lenH rfl rfl el22 rfl) ?_; clear hf; intro a hf
            refine sYg hf hs rfl rfl rfl (congrArg (fun b => some (Value.bool b)) hb24) rfl rfl rfl (Y_eql rfl rfl rfl) ?_; clear hf; intro a hf
            refine sY hf hs rfl rfl rfl (Y_pickT rfl (congrArg (fun b => some (Value.bool b)) hb24) rfl) ?_; clear hf; intro a hf
            refine sY hf hs rfl rfl rfl (Y_assign rfl rfl) ?_; clear hf; intro a hf
            refine wpO_nil ?_
            refine wpL_nil (then_normal ?_)
            exact ⟨((p0_s.C.length : Int) == (p0_s.A.length : Int)), Option.some.inj hj14, (FrD.pick hf.none hf rfl), hs.sel [] (by decide)⟩
          · have hj14 := bif_f hj14 hb24
            refine sNo hf rfl rfl rfl (congrArg (fun b => some (Value.bool b)) hb24) rfl rfl rfl ?_; clear hf; intro a hf
            refine sNo hf rfl rfl rfl (congrArg (fun b => some (Value.bool b)) hb24) rfl rfl rfl ?_; clear hf; intro a hf
            refine sNo hf rfl rfl rfl (congrArg (fun b => some (Value.bool b)) hb24) rfl rfl rfl ?_; clear hf; intro a hf
            refine sNo hf rfl rfl rfl (congrArg (fun b => some (Value.bool b)) hb24) rfl rfl rfl ?_; clear hf; intro a hf
            refine sNo hf rfl rfl rfl (congrArg (fun b => some (Value.bool b)) hb24) rfl rfl rfl ?_; clear hf; intro a hf
            refine sNo hf rfl rfl rfl (congrArg (fun b => some (Value.bool b)) hb24) rfl rfl rfl ?_; clear hf; intro a hf
            refine sNo hf rfl rfl rfl (congrArg (fun b => some (Value.bool b)) hb24) rfl rfl rfl ?_; clear hf; intro a hf
            refine sY hf hs rfl rfl rfl (Y_pickF rfl (congrArg (fun b => some (Value.bool b)) hb24) rfl) ?_; clear hf; intro a hf
            refine sY hf hs rfl rfl rfl (Y_assign rfl rfl) ?_; clear hf; intro a hf
            refine wpO_nil ?_
            refine wpL_nil (then_normal ?_)
            exact ⟨false, Option.some.inj hj14, (FrD.pick hf.none hf rfl), hs.sel [] (by decide)⟩
        · have hj14 := bif_f hj14 hb23
          refine sNo hf rfl rfl rfl (congrArg (fun b => some (Value.bool b)) hb23) rfl rfl rfl ?_; clear hf; intro a hf
          refine sNo hf rfl rfl rfl (congrArg (fun b => some (Value.bool b)) hb23) rfl rfl rfl ?_; clear hf; intro a hf
          refine sNo hf rfl rfl rfl (congrArg (fun b => some (Value.bool b)) hb23) rfl rfl rfl ?_; clear hf; intro a hf
          refine sNo hf rfl rfl rfl (congrArg (fun b => some (Value.bool b)) hb23) rfl rfl rfl ?_; clear hf; intro a hf
          refine sNo hf rfl rfl rfl (congrArg (fun b => some (Value.bool b)) hb23) rfl rfl rfl ?_; clear hf; intro a hf
          refine sNo hf rfl rfl rfl (congrArg (fun b => some (Value.bool b)) hb23) rfl rfl rfl ?_; clear hf; intro a hf
          refine sNo hf rfl rfl rfl (congrArg (fun b => some (Value.bool b)) hb23) rfl rfl rfl ?_; clear hf; intro a hf
          refine sY hf hs rfl rfl rfl (Y_pickF rfl (congrArg (fun b => some (Value.bool b)) hb23) rfl) ?_; clear hf; intro a hf
          refine sY hf hs rfl rfl rfl (Y_move rfl rfl) ?_; clear hf; intro a hf
          refine sNo hf rfl rfl rfl rfl rfl rfl rfl ?_; clear hf; intro a hf
          refine sNo hf rfl rfl rfl rfl rfl rfl rfl ?_; clear hf; intro a hf
          refine sNo hf rfl rfl rfl rfl rfl rfl rfl ?_; clear hf; intro a hf
          refine sNo hf rfl rfl rfl rfl rfl rfl rfl ?_; clear hf; intro a hf
          refine sNo hf rfl rfl rfl rfl rfl rfl rfl ?_; clear hf; intro a hf
          refine sNo hf rfl rfl rfl rfl rfl rfl rfl ?_; clear hf; intro a hf
          refine sNo hf rfl rfl rfl rfl rfl rfl rfl ?_; clear hf; intro a hf
          refine sY hf hs rfl rfl rfl (Y_pickF rfl rfl rfl) ?_; clear hf; intro a hf
          refine sY hf hs rfl rfl rfl (Y_assign rfl rfl) ?_; clear hf; intro a hf
          refine wpO_nil ?_
          refine wpL_nil (then_normal ?_)
          exact ⟨false, Option.some.inj hj14, (FrD.pick hf.none hf rfl), hs.sel [] (by decide)⟩
      · have hj14 := bif_f hj14 hb20
        refine sNo hf rfl rfl rfl (congrArg (fun b => some (Value.bool b)) hb20) rfl rfl rfl ?_; clear hf; intro a hf
        refine sNo hf rfl rfl rfl (congrArg (fun b => some (Value.bool b)) hb20) rfl rfl rfl ?_; clear hf; intro a hf
        refine sNo hf rfl rfl rfl (congrArg (fun b => some (Value.bool b)) hb20) rfl rfl rfl ?_; clear hf; intro a hf
        refine sY hf hs rfl rfl rfl (Y_pickF rfl (congrArg (fun b => some (Value.bool b)) hb20) rfl) ?_; clear hf; intro a hf
        refine sY hf hs rfl rfl rfl (Y_move rfl rfl) ?_; clear hf; intro a hf
        refine sNo hf rfl rfl rfl rfl rfl rfl rfl ?_; clear hf; intro a hf
        refine sNo hf rfl rfl rfl rfl rfl rfl rfl ?_; clear hf; intro a hf
        refine sNo hf rfl rfl rfl rfl rfl rfl rfl ?_; clear hf; intro a hf
        refine sNo hf rfl rfl rfl rfl rfl rfl rfl ?_; clear hf; intro a hf
        refine sNo hf rfl rfl rfl rfl rfl rfl rfl ?_; clear hf; intro a hf
        refine sNo hf rfl rfl rfl rfl rfl rfl rfl ?_; clear hf; intro a hf
        refine sNo hf rfl rfl rfl rfl rfl rfl rfl ?_; clear hf; intro a hf
        refine sY hf hs rfl rfl rfl (Y_pickF rfl rfl rfl) ?_; clear hf; intro a hf
        refine sY hf hs rfl rfl rfl (Y_move rfl rfl) ?_; clear hf; intro a hf
        refine sNo hf rfl rfl rfl rfl rfl rfl rfl ?_; clear hf; intro a hf
        refine sNo hf rfl rfl rfl rfl rfl rfl rfl ?_; clear hf; intro a hf
        refine sNo hf rfl rfl rfl rfl rfl rfl rfl ?_; clear hf; intro a hf
        refine sNo hf rfl rfl rfl rfl rfl rfl rfl ?_; clear hf; intro a hf
        refine sNo hf rfl rfl rfl rfl rfl rfl rfl ?_; clear hf; intro a hf
        refine sNo hf rfl rfl rfl rfl rfl rfl rfl ?_; clear hf; intro a hf
        refine sNo hf rfl rfl rfl rfl rfl rfl rfl ?_; clear hf; intro a hf
        refine sY hf hs rfl rfl rfl (Y_pickF rfl rfl rfl) ?_; clear hf; intro a hf
        refine sY hf hs rfl rfl rfl (Y_assign rfl rfl) ?_; clear hf; intro a hf
        refine wpO_nil ?_
        refine wpL_nil (then_normal ?_)
        exact ⟨false, Option.some.inj hj14, (FrD.pick hf.none hf rfl), hs.sel [] (by decide)⟩
    · have hj14 := bif_f hj14 hb17
      refine sNo hf rfl rfl rfl (congrArg (fun b => some (Value.bool b)) hb17) rfl rfl rfl ?_; clear hf; intro a hf
      refine sNo hf rfl rfl rfl (congrArg (fun b => some (Value.bool b)) hb17) rfl rfl rfl ?_; clear hf; intro a hf
      refine sNo hf rfl rfl rfl (congrArg (fun b => some (Value.bool b)) hb17) rfl rfl rfl ?_; clear hf; intro a hf
      refine sY hf hs rfl rfl rfl (Y_pickF rfl (congrArg (fun b => some (Value.bool b)) hb17) rfl) ?_; clear hf; intro a hf
      refine sY hf hs rfl rfl rfl (Y_move rfl rfl) ?_; clear hf; intro a hf
      refine sNo hf rfl rfl rfl rfl rfl rfl rfl ?_; clear hf; intro a hf
      refine sNo hf rfl rfl rfl rfl rfl rfl rfl ?_; clear hf; intro a hf
      refine sNo hf rfl rfl rfl rfl rfl rfl rfl ?_; clear hf; intro a hf
      refine sY hf hs rfl rfl rfl (Y_pickF rfl rfl rfl) ?_; clear hf; intro a hf
      refine sY hf hs rfl rfl rfl (Y_move rfl rfl) ?_; clear hf; intro a hf
      refine sNo hf rfl rfl rfl rfl rfl rfl rfl ?_; clear hf; intro a hf
      refine sNo hf rfl rfl rfl rfl rfl rfl rfl ?_; clear hf; intro a hf
      refine sNo hf rfl rfl rfl rfl rfl rfl rfl ?_; clear hf; intro a hf
      refine sNo hf rfl rfl rfl rfl rfl rfl rfl ?_; clear hf; intro a hf
      refine sNo hf rfl rfl rfl rfl rfl rfl rfl ?_; clear hf; intro a hf
      refine sNo hf rfl rfl rfl rfl rfl rfl rfl ?_; clear hf; intro a hf
      refine sNo hf rfl rfl rfl rfl rfl rfl rfl ?_; clear hf; intro a hf
      refine sY hf hs rfl rfl rfl (Y_pickF rfl rfl rfl) ?_; clear hf; intro a hf
      refine sY hf hs rfl rfl rfl (Y_move rfl rfl) ?_; clear hf; intro a hf
      refine sNo hf rfl rfl rfl rfl rfl rfl rfl ?_; clear hf; intro a hf
      refine sNo hf rfl rfl rfl rfl rfl rfl rfl ?_; clear hf; intro a hf
      refine sNo hf rfl rfl rfl rfl rfl rfl rfl ?_; clear hf; intro a hf
      refine sNo hf rfl rfl rfl rfl rfl rfl rfl ?_; clear hf; intro a hf
      refine sNo hf rfl rfl rfl rfl rfl rfl rfl ?_; clear hf; intro a hf
      refine sNo hf rfl rfl rfl rfl rfl rfl rfl ?_; clear hf; intro a hf
      refine sNo hf rfl rfl rfl rfl rfl rfl rfl ?_; clear hf; intro a hf
      refine sY hf hs rfl rfl rfl (Y_pickF rfl rfl rfl) ?_; clear hf; intro a hf
      refine sY hf hs rfl rfl rfl (Y_assign rfl rfl) ?_; clear hf; intro a hf
      refine wpO_nil ?_
      refine wpL_nil (then_normal ?_)
      exact ⟨false, Option.some.inj hj14, (FrD.pick hf.none hf rfl), hs.sel [] (by decide)⟩
  · rintro a w ⟨b12, hr_, hf, hs⟩
    subst hr_
    try dsimp only at hm
    obtain rfl := Option.some.inj hm
    refine wpL_ret (ret_tmp rfl hf rfl ?_)
    exact ⟨_, rfl, rfl, hs⟩

set_option maxRecDepth 100000 in
theorem spec_l24Inputs_ok (F : Nat) (p0_list : List Int) (A_p0_list_1 : Option Addr) (n_p0_list_1 c_p0_list_1 : Nat) (hn_p0_list_1 : n_p0_list_1 = p0_list.length) (p1_finite : Bool) (r : Bool) (W : World) (hm : spec_l24Inputs F p0_list p1_finite = some r) (h_p0_list_1 : Rd W A_p0_list_1 (ints p0_list)) :
    Calls Try.prog 123 [.slice A_p0_list_1 n_p0_list_1 c_p0_list_1, .bool p1_finite].toArray W fun e w' => ∃ v, e = .returned v ∧ v = .bool r ∧ St [] W w' [] := by
  subst hn_p0_list_1
  unfold spec_l24Inputs at hm
  refine Calls.enter (N := 13) Try.func123 rfl rfl rfl (fun a hf => ?_)
  have hs := St.start W
  obtain ⟨w, hw_⟩ : ∃ w, w = W := ⟨W, rfl⟩
  clear hw_ w
  refine wpL_seq ?_
  refine wpL_region ?_
  refine sY hf hs rfl rfl rfl (Y_assign rfl rfl) ?_; clear hf; intro a hf
  refine wpO_nil ?_
  refine wpL_seq ?_
  obtain ⟨r5, hj6, hm⟩ := bind_some hm
  refine wpL_cut (fun a w => ∃ b4 : Bool, b4 = r5 ∧ Fr a 13 [(4, .bool b4)] ∧ St [] W w []) ?_ ?_
  · refine wpL_region ?_
    refine sY hf hs rfl rfl rfl (Y_move rfl rfl) ?_; clear hf; intro a hf
    refine sY hf hs rfl rfl rfl (Y_lenH rfl rfl el23 rfl) ?_; clear hf; intro a hf
    refine sY hf hs rfl rfl rfl (Y_leq rfl rfl rfl) ?_; clear hf; intro a hf
    refine sY hf hs rfl rfl rfl (Y_move rfl rfl) ?_; clear hf; intro a hf
    refine bsplit (decide ((p0_list.length : Int) ≤ 50)) (fun hb7 => ?_) (fun hb7 => ?_)
    · have hj6 := bif_t hj6 hb7
      refine sYg hf hs rfl rfl rfl (congrArg (fun b => some (Value.bool b)) hb7) rfl rfl rfl (Y_move rfl rfl) ?_; clear hf; intro a hf
      refine sYg hf hs rfl rfl rfl (congrArg (fun b => some (Value.bool b)) hb7) rfl rfl rfl (Y_move rfl rfl) ?_; clear hf; intro a hf
      obtain ⟨r8, hc9, hj6⟩ := bind_some hj6
      refine sCallg hf rfl rfl rfl (congrArg (fun b => some (Value.bool b)) hb7) rfl rfl rfl rfl (cap := []) rfl rfl en124 (spec_l01All_ok F p0_list A_p0_list_1 p0_list.length c_p0_list_1 rfl p1_finite _ _ hc9 (h_p0_list_1.at hs)) ?_; clear hf
      rintro _ w ⟨rfl, hs1⟩ a hf
      have hs : St [] W w [] := hs.ext hs1.below
      clear hs1
      refine sY hf hs rfl rfl rfl (Y_pickT rfl (congrArg (fun b => some (Value.bool b)) hb7) rfl) ?_; clear hf; intro a hf
      refine sY hf hs rfl rfl rfl (Y_assign rfl rfl) ?_; clear hf; intro a hf
      refine wpO_nil ?_
      refine wpL_nil (then_normal ?_)
      exact ⟨r8, Option.some.inj hj6, (FrD.pick hf.none hf rfl), hs⟩
    · have hj6 := bif_f hj6 hb7
      refine sNo hf rfl rfl rfl (congrArg (fun b => some (Value.bool b)) hb7) rfl rfl rfl ?_; clear hf; intro a hf
      refine sNo hf rfl rfl rfl (congrArg (fun b => some (Value.bool b)) hb7) rfl rfl rfl ?_; clear hf; intro a hf
      refine sNo hf rfl rfl rfl (congrArg (fun b => some (Value.bool b)) hb7) rfl rfl rfl ?_; clear hf; intro a hf
      refine sY hf hs rfl rfl rfl (Y_pickF rfl (congrArg (fun b => some (Value.bool b)) hb7) rfl) ?_; clear hf; intro a hf
      refine sY hf hs rfl rfl rfl (Y_assign rfl rfl) ?_; clear hf; intro a hf
      refine wpO_nil ?_
      refine wpL_nil (then_normal ?_)
      exact ⟨false, Option.some.inj hj6, (FrD.pick hf.none hf rfl), hs⟩
  · rintro a w ⟨b4, hr_, hf, hs⟩
    subst hr_
    try dsimp only at hm
    obtain rfl := Option.some.inj hm
    refine wpL_ret (ret_tmp rfl hf rfl ?_)
    exact ⟨_, rfl, rfl, hs⟩

set_option maxRecDepth 100000 in
theorem spec_l24Code_ok (F : Nat) (p0_s : GSystem) (A_p0_s_1 : Option Addr) (n_p0_s_1 c_p0_s_1 : Nat) (hn_p0_s_1 : n_p0_s_1 = p0_s.A.length) (A_p0_s_2 : Option Addr) (n_p0_s_2 c_p0_s_2 : Nat) (hn_p0_s_2 : n_p0_s_2 = p0_s.B.length) (A_p0_s_3 : Option Addr) (n_p0_s_3 c_p0_s_3 : Nat) (hn_p0_s_3 : n_p0_s_3 = p0_s.C.length) (p1_x : List Int) (A_p1_x_1 : Option Addr) (n_p1_x_1 c_p1_x_1 : Nat) (hn_p1_x_1 : n_p1_x_1 = p1_x.length) (p2_inputs : List Int) (A_p2_inputs_1 : Option Addr) (n_p2_inputs_1 c_p2_inputs_1 : Nat) (hn_p2_inputs_1 : n_p2_inputs_1 = p2_inputs.length) (r : Int) (W : World) (hm : spec_l24Code F p0_s p1_x p2_inputs = some r) (h_p0_s_1 : RdM W A_p0_s_1 p0_s.A) (h_p0_s_2 : Rd W A_p0_s_2 (ints p0_s.B)) (h_p0_s_3 : Rd W A_p0_s_3 (ints p0_s.C)) (h_p1_x_1 : Rd W A_p1_x_1 (ints p1_x)) (h_p2_inputs_1 : Rd W A_p2_inputs_1 (ints p2_inputs)) :
    Calls Try.prog 112 [.agg #[.slice A_p0_s_1 n_p0_s_1 c_p0_s_1, .slice A_p0_s_2 n_p0_s_2 c_p0_s_2, .slice A_p0_s_3 n_p0_s_3 c_p0_s_3], .slice A_p1_x_1 n_p1_x_1 c_p1_x_1, .slice A_p2_inputs_1 n_p2_inputs_1 c_p2_inputs_1].toArray W fun e w' => ∃ v, e = .returned v ∧ v = .int .i64 r ∧ St [] W w' [] := by
  subst hn_p0_s_1
  subst hn_p0_s_2
  subst hn_p0_s_3
  subst hn_p1_x_1
  subst hn_p2_inputs_1
  unfold spec_l24Code at hm
  refine Calls.enter (N := 28) Try.func112 rfl rfl rfl (fun a hf => ?_)
  have hs := St.start W
  obtain ⟨w, hw_⟩ : ∃ w, w = W := ⟨W, rfl⟩
  clear hw_ w
  refine wpL_seq ?_
  refine wpL_region ?_
  refine sBox hf hs rfl rfl rfl rfl rfl (cs := [.slice A_p0_s_1 p0_s.A.length c_p0_s_1, .slice A_p0_s_2 p0_s.B.length c_p0_s_2, .slice A_p0_s_3 p0_s.C.length c_p0_s_3]) rfl ?_; clear hf hs; intro a w b1 hs hf
  have hs : St [] W w [.blk b1 27 [.slice A_p0_s_1 p0_s.A.length c_p0_s_1, .slice A_p0_s_2 p0_s.B.length c_p0_s_2, .slice A_p0_s_3 p0_s.C.length c_p0_s_3]] := hs
  refine sY hf hs rfl rfl rfl (Y_assign rfl rfl) ?_; clear hf; intro a hf
  refine wpO_nil ?_
  refine wpL_seq ?_
  refine wpL_seq ?_
  obtain ⟨r12, hj13, hm⟩ := bind_some hm
  refine wpL_cut (fun a w => ∃ b11 : Bool, b11 = r12 ∧ Fr a 28 [(27, .bool b11)] ∧ St [] W w []) ?_ ?_
  · refine wpL_region ?_
    refine sY hf hs rfl rfl rfl (Y_load_blkS rfl rfl (i := 0) rfl ag27 ti27 rfl) ?_; clear hf; intro a hf
    obtain ⟨r14, hc15, hj13⟩ := bind_some hj13
    refine sCall hf rfl rfl rfl rfl (cap := []) rfl rfl en32 (spec_IsSystem_ok F p0_s A_p0_s_1 p0_s.A.length c_p0_s_1 rfl A_p0_s_2 p0_s.B.length c_p0_s_2 rfl A_p0_s_3 p0_s.C.length c_p0_s_3 rfl _ _ hc15 (h_p0_s_1.at hs) (h_p0_s_2.at hs) (h_p0_s_3.at hs)) ?_; clear hf
    rintro _ w ⟨rfl, hs1⟩ a hf
    have hs : St [] W w [.blk b1 27 [.slice A_p0_s_1 p0_s.A.length c_p0_s_1, .slice A_p0_s_2 p0_s.B.length c_p0_s_2, .slice A_p0_s_3 p0_s.C.length c_p0_s_3]] := hs.ext hs1.below
    clear hs1
    refine sY hf hs rfl rfl rfl (Y_not rfl rfl) ?_; clear hf; intro a hf
    refine sY hf hs rfl rfl rfl (Y_move rfl rfl) ?_; clear hf; intro a hf
    refine bsplit (!r14) (fun hb16 => ?_) (fun hb16 => ?_)
    · have hj13 := bif_t hj13 hb16
      refine sNo hf rfl rfl rfl (congrArg (fun b => some (Value.bool b)) hb16) rfl rfl rfl ?_; clear hf; intro a hf
      refine sNo hf rfl rfl rfl (congrArg (fun b => some (Value.bool b)) hb16) rfl rfl rfl ?_; clear hf; intro a hf
      refine sNo hf rfl rfl rfl (congrArg (fun b => some (Value.bool b)) hb16) rfl rfl rfl ?_; clear hf; intro a hf
      refine sY hf hs rfl rfl rfl (Y_pickT rfl (congrArg (fun b => some (Value.bool b)) hb16) rfl) ?_; clear hf; intro a hf
      refine sY hf hs rfl rfl rfl (Y_move rfl rfl) ?_; clear hf; intro a hf
      refine sNo hf rfl rfl rfl rfl rfl rfl rfl ?_; clear hf; intro a hf
      refine sNo hf rfl rfl rfl rfl rfl rfl rfl ?_; clear hf; intro a hf
      refine sNo hf rfl rfl rfl rfl rfl rfl rfl ?_; clear hf; intro a hf
      refine sNo hf rfl rfl rfl rfl rfl rfl rfl ?_; clear hf; intro a hf
      refine sNo hf rfl rfl rfl rfl rfl rfl rfl ?_; clear hf; intro a hf
      refine sNo hf rfl rfl rfl rfl rfl rfl rfl ?_; clear hf; intro a hf
      refine sY hf hs rfl rfl rfl (Y_pickT rfl rfl rfl) ?_; clear hf; intro a hf
      refine sY hf hs rfl rfl rfl (Y_move rfl rfl) ?_; clear hf; intro a hf
      refine sNo hf rfl rfl rfl rfl rfl rfl rfl ?_; clear hf; intro a hf
      refine sNo hf rfl rfl rfl rfl rfl rfl rfl ?_; clear hf; intro a hf
      refine sNo hf rfl rfl rfl rfl rfl rfl rfl ?_; clear hf; intro a hf
      refine sY hf hs rfl rfl rfl (Y_pickT rfl rfl rfl) ?_; clear hf; intro a hf
      refine wpO_nil ?_
      refine wpL_nil (then_normal ?_)
      exact ⟨true, Option.some.inj hj13, (FrD.pick hf.none hf rfl), hs.sel [] (by decide)⟩
    · have hj13 := bif_f hj13 hb16
      refine sYg hf hs rfl rfl rfl (congrArg (fun b => some (Value.bool b)) hb16) rfl rfl rfl (Y_move rfl rfl) ?_; clear hf; intro a hf
      obtain ⟨r17, hc18, hj13⟩ := bind_some hj13
      refine sCallg hf rfl rfl rfl (congrArg (fun b => some (Value.bool b)) hb16) rfl rfl rfl rfl (cap := []) rfl rfl en120 (spec_l02Vector_ok F p1_x A_p1_x_1 p1_x.length c_p1_x_1 rfl _ _ hc18 (h_p1_x_1.at hs)) ?_; clear hf
      rintro _ w ⟨rfl, hs1⟩ a hf
      have hs : St [] W w [.blk b1 27 [.slice A_p0_s_1 p0_s.A.length c_p0_s_1, .slice A_p0_s_2 p0_s.B.length c_p0_s_2, .slice A_p0_s_3 p0_s.C.length c_p0_s_3]] := hs.ext hs1.below
      clear hs1
      refine sYg hf hs rfl rfl rfl (congrArg (fun b => some (Value.bool b)) hb16) rfl rfl rfl (Y_not rfl rfl) ?_; clear hf; intro a hf
      refine sY hf hs rfl rfl rfl (Y_pickF rfl (congrArg (fun b => some (Value.bool b)) hb16) rfl) ?_; clear hf; intro a hf
      refine sY hf hs rfl rfl rfl (Y_move rfl rfl) ?_; clear hf; intro a hf
      refine bsplit (!r17) (fun hb19 => ?_) (fun hb19 => ?_)
      · have hj13 := bif_t hj13 hb19
        refine sNo hf rfl rfl rfl (congrArg (fun b => some (Value.bool b)) hb19) rfl rfl rfl ?_; clear hf; intro a hf
        refine sNo hf rfl rfl rfl (congrArg (fun b => some (Value.bool b)) hb19) rfl rfl rfl ?_; clear hf; intro a hf
        refine sNo hf rfl rfl rfl (congrArg (fun b => some (Value.bool b)) hb19) rfl rfl rfl ?_; clear hf; intro a hf
        refine sNo hf rfl rfl rfl (congrArg (fun b => some (Value.bool b)) hb19) rfl rfl rfl ?_; clear hf; intro a hf
        refine sNo hf rfl rfl rfl (congrArg (fun b => some (Value.bool b)) hb19) rfl rfl rfl ?_; clear hf; intro a hf
        refine sNo hf rfl rfl rfl (congrArg (fun b => some (Value.bool b)) hb19) rfl rfl rfl ?_; clear hf; intro a hf
        refine sY hf hs rfl rfl rfl (Y_pickT rfl (congrArg (fun b => some (Value.bool b)) hb19) rfl) ?_; clear hf; intro a hf
        refine sY hf hs rfl rfl rfl (Y_move rfl rfl) ?_; clear hf; intro a hf
        refine sNo hf rfl rfl rfl rfl rfl rfl rfl ?_; clear hf; intro a hf
        refine sNo hf rfl rfl rfl rfl rfl rfl rfl ?_; clear hf; intro a hf
        refine sNo hf rfl rfl rfl rfl rfl rfl rfl ?_; clear hf; intro a hf
        refine sY hf hs rfl rfl rfl (Y_pickT rfl rfl rfl) ?_; clear hf; intro a hf
        refine wpO_nil ?_
        refine wpL_nil (then_normal ?_)
        exact ⟨true, Option.some.inj hj13, (FrD.pick hf.none hf rfl), hs.sel [] (by decide)⟩
      · have hj13 := bif_f hj13 hb19
        refine sYg hf hs rfl rfl rfl (congrArg (fun b => some (Value.bool b)) hb19) rfl rfl rfl (Y_move rfl rfl) ?_; clear hf; intro a hf
        refine sYg hf hs rfl rfl rfl (congrArg (fun b => some (Value.bool b)) hb19) rfl rfl rfl (Y_lenH rfl rfl el23 rfl) ?_; clear hf; intro a hf
        refine sYg hf hs rfl rfl rfl (congrArg (fun b => some (Value.bool b)) hb19) rfl rfl rfl (Y_fieldAddr rfl rfl fo27_0) ?_; clear hf; intro a hf
        refine sYg hf hs rfl rfl rfl (congrArg (fun b => some (Value.bool b)) hb19) rfl rfl rfl (Y_load_blk rfl rfl (i := 0) rfl rfl ag22) ?_; clear hf; intro a hf
        refine sYg hf hs rfl rfl rfl (congrArg (fun b => some (Value.bool b)) hb19) rfl rfl rfl (Y_lenH rfl rfl el22 rfl) ?_; clear hf; intro a hf
        refine sYg hf hs rfl rfl rfl (congrArg (fun b => some (Value.bool b)) hb19) rfl rfl rfl (Y_neq rfl rfl rfl) ?_; clear hf; intro a hf
        refine sY hf hs rfl rfl rfl (Y_pickF rfl (congrArg (fun b => some (Value.bool b)) hb19) rfl) ?_; clear hf; intro a hf
        refine sY hf hs rfl rfl rfl (Y_move rfl rfl) ?_; clear hf; intro a hf
        refine bsplit ((p1_x.length : Int) != (p0_s.A.length : Int)) (fun hb20 => ?_) (fun hb20 => ?_)
        · have hj13 := bif_t hj13 hb20
          refine sNo hf rfl rfl rfl (congrArg (fun b => some (Value.bool b)) hb20) rfl rfl rfl ?_; clear hf; intro a hf
          refine sNo hf rfl rfl rfl (congrArg (fun b => some (Value.bool b)) hb20) rfl rfl rfl ?_; clear hf; intro a hf
          refine sNo hf rfl rfl rfl (congrArg (fun b => some (Value.bool b)) hb20) rfl rfl rfl ?_; clear hf; intro a hf
          refine sY hf hs rfl rfl rfl (Y_pickT rfl (congrArg (fun b => some (Value.bool b)) hb20) rfl) ?_; clear hf; intro a hf
          refine wpO_nil ?_
          refine wpL_nil (then_normal ?_)
          exact ⟨true, Option.some.inj hj13, (FrD.pick hf.none hf rfl), hs.sel [] (by decide)⟩
        · have hj13 := bif_f hj13 hb20
          refine sYg hf hs rfl rfl rfl (congrArg (fun b => some (Value.bool b)) hb20) rfl rfl rfl (Y_move rfl rfl) ?_; clear hf; intro a hf
          obtain ⟨r21, hc22, hj13⟩ := bind_some hj13
          refine sCallg hf rfl rfl rfl (congrArg (fun b => some (Value.bool b)) hb20) rfl rfl rfl rfl (cap := []) rfl rfl en123 (spec_l24Inputs_ok F p2_inputs A_p2_inputs_1 p2_inputs.length c_p2_inputs_1 rfl false _ _ hc22 (h_p2_inputs_1.at hs)) ?_; clear hf
          rintro _ w ⟨rfl, hs1⟩ a hf
          have hs : St [] W w [.blk b1 27 [.slice A_p0_s_1 p0_s.A.length c_p0_s_1, .slice A_p0_s_2 p0_s.B.length c_p0_s_2, .slice A_p0_s_3 p0_s.C.length c_p0_s_3]] := hs.ext hs1.below
          clear hs1
          refine sYg hf hs rfl rfl rfl (congrArg (fun b => some (Value.bool b)) hb20) rfl rfl rfl (Y_not rfl rfl) ?_; clear hf; intro a hf
          refine sY hf hs rfl rfl rfl (Y_pickF rfl (congrArg (fun b => some (Value.bool b)) hb20) rfl) ?_; clear hf; intro a hf
          refine wpO_nil ?_
          refine wpL_nil (then_normal ?_)
          exact ⟨(!r21), Option.some.inj hj13, (FrD.pick hf.none hf rfl), hs.sel [] (by decide)⟩
  · rintro a w ⟨b11, hr_, hf, hs⟩
    subst hr_
    try dsimp only at hm
    refine wpL_cond hf rfl (fun hb23 => ?_) (fun hb23 => ?_)
    · have hm := bif_t hm hb23
      refine wpL_seq ?_
      refine wpL_region ?_
      refine sY hf hs rfl rfl rfl (Y_assign rfl rfl) ?_; clear hf; intro a hf
      refine wpO_nil ?_
      obtain rfl := Option.some.inj hm
      refine wpL_ret (ret_tmp rfl hf rfl ?_)
      exact ⟨_, rfl, rfl, hs⟩
    · have hm := bif_f hm hb23
      refine wpL_skip ?_
      refine wpL_seq ?_
      refine wpL_region ?_
      refine sY hf hs rfl rfl rfl (Y_assign rfl rfl) ?_; clear hf; intro a hf
      refine wpO_nil ?_
      obtain rfl := Option.some.inj hm
      refine wpL_ret (ret_tmp rfl hf rfl ?_)
      exact ⟨_, rfl, rfl, hs⟩

set_option maxRecDepth 100000 in
theorem spec_l01Times_ok (F : Nat) (p0_a : Int) (p1_b : Int) (r : Int) (W : World) (hm : spec_l01Times F p0_a p1_b = some r) :
    Calls Try.prog 154 [.int .i64 p0_a, .int .i64 p1_b].toArray W fun e w' => ∃ v, e = .returned v ∧ v = .int .i64 r ∧ St [] W w' [] := by
  unfold spec_l01Times at hm
  refine Calls.enter (N := 14) Try.func154 rfl rfl rfl (fun a hf => ?_)
  have hs := St.start W
  obtain ⟨w, hw_⟩ : ∃ w, w = W := ⟨W, rfl⟩
  clear hw_ w
  refine wpL_seq ?_
  refine wpL_region ?_
  refine sY hf hs rfl rfl rfl (Y_assign rfl rfl) ?_; clear hf; intro a hf
  refine wpO_nil ?_
  refine wpL_seq ?_
  refine wpL_seq ?_
  obtain ⟨r3, hj4, hm⟩ := bind_some hm
  refine wpL_cut (fun a w => ∃ b2 : Bool, b2 = r3 ∧ Fr a 14 [(0, .int .i64 p0_a), (1, .int .i64 p1_b), (10, .bool b2)] ∧ St [] W w []) ?_ ?_
  · refine wpL_region ?_
    refine sY hf hs rfl rfl rfl (Y_move rfl rfl) ?_; clear hf; intro a hf
    refine sY hf hs rfl rfl rfl (Y_eql rfl rfl rfl) ?_; clear hf; intro a hf
    refine sY hf hs rfl rfl rfl (Y_move rfl rfl) ?_; clear hf; intro a hf
    refine bsplit (p0_a == (-1000000000000000)) (fun hb5 => ?_) (fun hb5 => ?_)
    · have hj4 := bif_t hj4 hb5
      refine sNo hf rfl rfl rfl (congrArg (fun b => some (Value.bool b)) hb5) rfl rfl rfl ?_; clear hf; intro a hf
      refine sNo hf rfl rfl rfl (congrArg (fun b => some (Value.bool b)) hb5) rfl rfl rfl ?_; clear hf; intro a hf
      refine sY hf hs rfl rfl rfl (Y_pickT rfl (congrArg (fun b => some (Value.bool b)) hb5) rfl) ?_; clear hf; intro a hf
      refine wpO_nil ?_
      refine wpL_nil (then_normal ?_)
      exact ⟨true, Option.some.inj hj4, (FrD.pick (FrD.pick (FrD.pick hf.none hf rfl) hf rfl) hf rfl), hs⟩
    · have hj4 := bif_f hj4 hb5
      refine sYg hf hs rfl rfl rfl (congrArg (fun b => some (Value.bool b)) hb5) rfl rfl rfl (Y_move rfl rfl) ?_; clear hf; intro a hf
      refine sYg hf hs rfl rfl rfl (congrArg (fun b => some (Value.bool b)) hb5) rfl rfl rfl (Y_eql rfl rfl rfl) ?_; clear hf; intro a hf
      refine sY hf hs rfl rfl rfl (Y_pickF rfl (congrArg (fun b => some (Value.bool b)) hb5) rfl) ?_; clear hf; intro a hf
      refine wpO_nil ?_
      refine wpL_nil (then_normal ?_)
      exact ⟨(p1_b == (-1000000000000000)), Option.some.inj hj4, (FrD.pick (FrD.pick (FrD.pick hf.none hf rfl) hf rfl) hf rfl), hs⟩
  · rintro a w ⟨b2, hr_, hf, hs⟩
    subst hr_
    try dsimp only at hm
    refine wpL_cond hf rfl (fun hb6 => ?_) (fun hb6 => ?_)
    · have hm := bif_t hm hb6
      refine wpL_seq ?_
      refine wpL_region ?_
      refine sY hf hs rfl rfl rfl (Y_assign rfl rfl) ?_; clear hf; intro a hf
      refine wpO_nil ?_
      obtain rfl := Option.some.inj hm
      refine wpL_ret (ret_tmp rfl hf rfl ?_)
      exact ⟨_, rfl, rfl, hs⟩
    · have hm := bif_f hm hb6
      refine wpL_skip ?_
      refine wpL_seq ?_
      refine wpL_region ?_
      refine sY hf hs rfl rfl rfl (Y_move rfl rfl) ?_; clear hf; intro a hf
      refine sY hf hs rfl rfl rfl (Y_move rfl rfl) ?_; clear hf; intro a hf
      refine sY hf hs rfl rfl rfl (Y_add rfl rfl rfl) ?_; clear hf; intro a hf
      refine sY hf hs rfl rfl rfl (Y_assign rfl rfl) ?_; clear hf; intro a hf
      refine wpO_nil ?_
      obtain rfl := Option.some.inj hm
      refine wpL_ret (ret_tmp rfl hf rfl ?_)
      exact ⟨_, rfl, rfl, hs⟩

set_option maxRecDepth 100000 in
theorem spec_l02Apply_ok (F : Nat) (p0_a : List (List Int)) (A_p0_a_1 : Option Addr) (n_p0_a_1 c_p0_a_1 : Nat) (hn_p0_a_1 : n_p0_a_1 = p0_a.length) (p1_x : List Int) (A_p1_x_1 : Option Addr) (n_p1_x_1 c_p1_x_1 : Nat) (hn_p1_x_1 : n_p1_x_1 = p1_x.length) (r : List Int) (W : World) (hm : spec_l02Apply F p0_a p1_x = some r) (h_p0_a_1 : RdM W A_p0_a_1 p0_a) (h_p1_x_1 : Rd W A_p1_x_1 (ints p1_x)) :
    Calls Try.prog 168 [.slice A_p0_a_1 n_p0_a_1 c_p0_a_1, .slice A_p1_x_1 n_p1_x_1 c_p1_x_1].toArray W fun e w' => ∃ v, e = .returned v ∧ ∃ A344, ∃ n345, ∃ c346, v = .slice A344 n345 c346 ∧ n345 = r.length ∧ St [] W w' [.row A344 n345 c346 2 1 (ints r)] := by
  subst hn_p0_a_1
  subst hn_p1_x_1
  unfold spec_l02Apply at hm
  refine Calls.enter (N := 41) Try.func168 rfl rfl rfl (fun a hf => ?_)
  have hs := St.start W
  obtain ⟨w, hw_⟩ : ∃ w, w = W := ⟨W, rfl⟩
  clear hw_ w
  refine wpL_seq ?_
  refine wpL_region ?_
  refine sY hf hs rfl rfl rfl (Y_assign rfl rfl) ?_; clear hf; intro a hf
  refine wpO_nil ?_
  refine wpL_seq ?_
  refine wpL_region ?_
  refine sEmpty hf hs rfl rfl rfl rfl el23 ti2 ?_; clear hf hs; intro a w A1 hs hf
  have hs : St [] W w [.row A1 0 0 2 1 (ints ([] : List Int))] := hs
  refine sY hf hs rfl rfl rfl (Y_assign rfl rfl) ?_; clear hf; intro a hf
  refine wpO_nil ?_
  refine wpL_seq ?_
  refine wpL_seq ?_
  refine wpL_region ?_
  refine sY hf hs rfl rfl rfl (Y_assign rfl rfl) ?_; clear hf; intro a hf
  refine wpO_nil ?_
  obtain ⟨r260, hl261, hm⟩ := bind_some hm
  refine wpL_block (fun a w => ∃ xs255 : List Int, ∃ A256, ∃ n257, ∃ c258, xs255 = r260 ∧ n257 = xs255.length ∧ Fr a 41 [(5, .slice A256 n257 c258)] ∧ St [] W w [.row A256 n257 c258 2 1 (ints xs255)]) ?_ ?_
  · refine wpL_loop (fun n a w => ∃ xs169 : List Int, ∃ x174 : Int, ∃ A170, ∃ n171, ∃ c172, spec_l02Apply_L4 F p0_a p1_x n xs169 x174 = some r260 ∧ n171 = xs169.length ∧ Fr a 41 [(0, .slice A_p0_a_1 p0_a.length c_p0_a_1), (1, .slice A_p1_x_1 p1_x.length c_p1_x_1), (5, .slice A170 n171 c172), (6, .int .i64 x174)] ∧ St [] W w [.row A170 n171 c172 2 1 (ints xs169)]) F ?_ ?_ ?_
    · exact ⟨([] : List Int), 0, A1, 0, 0, hl261, rfl, (FrD.pick (FrD.pick (FrD.pick (FrD.pick hf.none hf rfl) hf rfl) hf rfl) hf rfl), hs⟩
    · rintro a w ⟨xs169, x174, A170, n171, c172, h0_, -, -, -⟩; simp [spec_l02Apply_L4] at h0_
    · rintro n263 a w ⟨xs169, x174, A170, n171, c172, hm262, hn173, hf, hs⟩
      rw [spec_l02Apply_L4] at hm262
      refine wpL_seq ?_
      refine wpL_seq ?_
      refine wpL_region ?_
      refine sY hf hs rfl rfl rfl (Y_move rfl rfl) ?_; clear hf; intro a hf
      refine sY hf hs rfl rfl rfl (Y_move rfl rfl) ?_; clear hf; intro a hf
      refine sY hf hs rfl rfl rfl (Y_lenH rfl rfl el22 rfl) ?_; clear hf; intro a hf
      refine sY hf hs rfl rfl rfl (Y_lss rfl rfl rfl) ?_; clear hf; intro a hf
      refine wpO_nil ?_
      refine wpL_cond hf rfl (fun hb264 => ?_) (fun hb264 => ?_)
      · have hm262 := bif_t hm262 hb264
        refine wpL_skip ?_
        refine wpL_seq ?_
        refine wpL_block0 ?_
        refine wpL_seq ?_
        refine wpL_region ?_
        refine sY hf hs rfl rfl rfl (Y_assign rfl rfl) ?_; clear hf; intro a hf
        refine wpO_nil ?_
        refine wpL_seq ?_
        refine wpL_seq ?_
        refine wpL_region ?_
        refine sY hf hs rfl rfl rfl (Y_assign rfl rfl) ?_; clear hf; intro a hf
        refine wpO_nil ?_
        obtain ⟨r318, hl319, hm262⟩ := bind_some hm262
        refine wpL_block (fun a w => ∃ x317 : Int, x317 = r318 ∧ Fr a 41 [(0, .slice A_p0_a_1 p0_a.length c_p0_a_1), (1, .slice A_p1_x_1 p1_x.length c_p1_x_1), (5, .slice A170 n171 c172), (6, .int .i64 x174), (7, .int .i64 x317)] ∧ St [] W w [.row A170 n171 c172 2 1 (ints xs169)]) ?_ ?_
        · refine wpL_loop (fun n a w => ∃ x299 : Int, ∃ x300 : Int, spec_l02Apply_L5 F p0_a p1_x x174 n x299 x300 = some r318 ∧ Fr a 41 [(0, .slice A_p0_a_1 p0_a.length c_p0_a_1), (1, .slice A_p1_x_1 p1_x.length c_p1_x_1), (5, .slice A170 n171 c172), (6, .int .i64 x174), (7, .int .i64 x299), (8, .int .i64 x300)] ∧ St [] W w [.row A170 n171 c172 2 1 (ints xs169)]) F ?_ ?_ ?_
          · exact ⟨(-1000000000000000), 0, hl319, (FrD.pick (FrD.pick (FrD.pick (FrD.pick (FrD.pick (FrD.pick hf.none hf rfl) hf rfl) hf rfl) hf rfl) hf rfl) hf rfl), hs⟩
          · rintro a w ⟨x299, x300, h0_, -, -⟩; simp [spec_l02Apply_L5] at h0_
          · rintro n321 a w ⟨x299, x300, hm320, hf, hs⟩
            rw [spec_l02Apply_L5] at hm320
            refine wpL_seq ?_
            refine wpL_seq ?_
            refine wpL_region ?_
            refine sY hf hs rfl rfl rfl (Y_move rfl rfl) ?_; clear hf; intro a hf
            refine sY hf hs rfl rfl rfl (Y_move rfl rfl) ?_; clear hf; intro a hf
            refine sY hf hs rfl rfl rfl (Y_lenH rfl rfl el23 rfl) ?_; clear hf; intro a hf
            refine sY hf hs rfl rfl rfl (Y_lss rfl rfl rfl) ?_; clear hf; intro a hf
            refine wpO_nil ?_
            refine wpL_cond hf rfl (fun hb322 => ?_) (fun hb322 => ?_)
            · have hm320 := bif_t hm320 hb322
              refine wpL_skip ?_
              refine wpL_seq ?_
              refine wpL_block0 ?_
              refine wpL_draw (by kernel_rfl) (by kernel_rfl) hs ?_
              refine qY hf rfl rfl rfl (Y_move rfl rfl) ?_; clear hf; intro a hf
              refine qY hf rfl rfl rfl (Y_move rfl rfl) ?_; clear hf; intro a hf
              refine qY hf rfl rfl rfl (Y_move rfl rfl) ?_; clear hf; intro a hf
              obtain ⟨q323, hi324, hm320⟩ := bind_some hm320
              obtain ⟨hi324a, hi324b, hi324q⟩ := idx_some hi324
              obtain ⟨vs325, hv326, hr327⟩ := id h_p0_a_1
              obtain ⟨A328, c329, hv330, hR331⟩ := hr327 _ _ hi324q
              refine qY hf rfl rfl rfl (Y_index rfl rfl rfl el22 ti23 (Rd.isAt hv326 hv330) hi324a hi324b) ?_; clear hf; intro a hf
              refine qY hf rfl rfl rfl (Y_load_rd rfl rfl (fun w hs => hv326.at hs) (at1 hv330) ag23) ?_; clear hf; intro a hf
              refine qY hf rfl rfl rfl (Y_move rfl rfl) ?_; clear hf; intro a hf
              obtain ⟨q332, hi333, hm320⟩ := bind_some hm320
              obtain ⟨hi333a, hi333b, hi333q⟩ := idx_some hi333
              refine qY hf rfl rfl rfl (Y_index rfl rfl rfl el23 ti2 (Rd.isAt (hR331.at hs) (at1 (ints_at hi333q))) hi333a hi333b) ?_; clear hf; intro a hf
              refine qY hf rfl rfl rfl (Y_load_rd rfl rfl (fun w hs => hR331.at hs) (at1 (ints_at hi333q)) ag2) ?_; clear hf; intro a hf
              refine qY hf rfl rfl rfl (Y_move rfl rfl) ?_; clear hf; intro a hf
              refine qY hf rfl rfl rfl (Y_move rfl rfl) ?_; clear hf; intro a hf
              obtain ⟨q334, hi335, hm320⟩ := bind_some hm320
              obtain ⟨hi335a, hi335b, hi335q⟩ := idx_some hi335
              refine qY hf rfl rfl rfl (Y_index rfl rfl rfl el23 ti2 (Rd.isAt (h_p1_x_1.at hs) (at1 (ints_at hi335q))) hi335a hi335b) ?_; clear hf; intro a hf
              refine qY hf rfl rfl rfl (Y_load_rd rfl rfl (fun w hs => h_p1_x_1.at hs) (at1 (ints_at hi335q)) ag2) ?_; clear hf; intro a hf
              obtain ⟨r336, hc337, hm320⟩ := bind_some hm320
              refine qCall hf rfl rfl rfl rfl (cap := []) rfl rfl en154 (v := .int .i64 r336) (fun w hs => Calls.scal (spec_l01Times_ok F q332 q334 _ _ hc337)) ?_; clear hf; intro a hf
              refine qY hf rfl rfl rfl (Y_max rfl rfl rfl) ?_; clear hf; intro a hf
              refine qY hf rfl rfl rfl (Y_assign rfl rfl) ?_; clear hf; intro a hf
              refine qNil ?_; clear hs; intro w hs
              refine wpL_nil (Qb_normal ?_)
              refine wpL_region ?_
              refine sY hf hs rfl rfl rfl (Y_move rfl rfl) ?_; clear hf; intro a hf
              refine sY hf hs rfl rfl rfl (Y_add rfl rfl rfl) ?_; clear hf; intro a hf
              refine sY hf hs rfl rfl rfl (Y_assign rfl rfl) ?_; clear hf; intro a hf
              refine wpO_nil ?_
              refine wpL_nil (Ql_normal ?_)
              exact ⟨(max x299 r336), (IntKind.i64.wrap (x300 + 1)), hm320, (FrD.pick (FrD.pick (FrD.pick (FrD.pick (FrD.pick (FrD.pick hf.none hf rfl) hf rfl) hf rfl) hf rfl) hf rfl) hf rfl), hs⟩
            · have hm320 := bif_f hm320 hb322
              refine wpL_exit (Ql_exit (Qb_exit ?_))
              exact ⟨x299, Option.some.inj hm320, (FrD.pick (FrD.pick (FrD.pick (FrD.pick (FrD.pick hf.none hf rfl) hf rfl) hf rfl) hf rfl) hf rfl), hs⟩
        · rintro a w ⟨x317, hr_, hf, hs⟩
          subst hr_
          try dsimp only at hm262
          refine wpL_region ?_
          refine sY hf hs rfl rfl rfl (Y_move rfl rfl) ?_; clear hf; intro a hf
          refine sY hf hs rfl rfl rfl (Y_move rfl rfl) ?_; clear hf; intro a hf
          refine sBuildSlice (parts := [(0, .tmp 37)]) (vs := [.int .i64 x317]) (cells := [.int .i64 x317]) hf hs rfl rfl rfl rfl rfl el23 ti2 rfl rfl rfl rfl ?_; clear hf hs; intro a w A338 hs hA339 hf
          have hs : St [] W w [.row A170 n171 c172 2 1 (ints xs169), .row A338 1 1 2 1 (ints ([x317]))] := hs
          obtain ⟨xs342, ha343, hm262⟩ := bind_some hm262
          refine sAppendL (i := 0) (xs := xs169) (ys := [x317]) (enc := ints) hf hs rfl rfl rfl rfl rfl rfl hn173 rfl rfl ha343 el23 ti2 rfl rfl rfl (hs.rd (i := 1) rfl) (Nat.succ_pos _) ints_len1 ints_append ints_one ?_; clear hf hs; intro a w A340 c341 hs hf
          have hs : St [] W w [.row A340 xs342.length c341 2 1 (ints xs342), .row A338 1 1 2 1 (ints ([x317]))] := hs
          refine sY hf hs rfl rfl rfl (Y_assign rfl rfl) ?_; clear hf; intro a hf
          refine wpO_nil ?_
          refine wpL_nil (Qb_normal ?_)
          refine wpL_region ?_
          refine sY hf hs rfl rfl rfl (Y_move rfl rfl) ?_; clear hf; intro a hf
          refine sY hf hs rfl rfl rfl (Y_add rfl rfl rfl) ?_; clear hf; intro a hf
          refine sY hf hs rfl rfl rfl (Y_assign rfl rfl) ?_; clear hf; intro a hf
          refine wpO_nil ?_
          refine wpL_nil (Ql_normal ?_)
          exact ⟨xs342, (IntKind.i64.wrap (x174 + 1)), A340, xs342.length, c341, hm262, rfl, (FrD.pick (FrD.pick (FrD.pick (FrD.pick hf.none hf rfl) hf rfl) hf rfl) hf rfl), hs.sel [0] (by decide)⟩
      · have hm262 := bif_f hm262 hb264
        refine wpL_exit (Ql_exit (Qb_exit ?_))
        exact ⟨xs169, A170, n171, c172, Option.some.inj hm262, hn173, (FrD.pick hf.none hf rfl), hs⟩
  · rintro a w ⟨xs255, A256, n257, c258, hr_, hn259, hf, hs⟩
    subst hr_
    try dsimp only at hm
    refine wpL_seq ?_
    refine wpL_region ?_
    refine sY hf hs rfl rfl rfl (Y_move rfl rfl) ?_; clear hf; intro a hf
    refine sY hf hs rfl rfl rfl (Y_assign rfl rfl) ?_; clear hf; intro a hf
    refine wpO_nil ?_
    obtain rfl := Option.some.inj hm
    refine wpL_ret (ret_tmp rfl hf rfl ?_)
    exact ⟨_, rfl, A256, n257, c258, rfl, hn259, hs⟩

set_option maxRecDepth 100000 in
theorem spec_l07Shift_ok (F : Nat) (p0_x : List Int) (A_p0_x_1 : Option Addr) (n_p0_x_1 c_p0_x_1 : Nat) (hn_p0_x_1 : n_p0_x_1 = p0_x.length) (p1_g : Int) (r : List Int) (W : World) (hm : spec_l07Shift F p0_x p1_g = some r) (h_p0_x_1 : Rd W A_p0_x_1 (ints p0_x)) :
    Calls Try.prog 75 [.slice A_p0_x_1 n_p0_x_1 c_p0_x_1, .int .i64 p1_g].toArray W fun e w' => ∃ v, e = .returned v ∧ ∃ A68, ∃ n69, ∃ c70, v = .slice A68 n69 c70 ∧ n69 = r.length ∧ St [] W w' [.row A68 n69 c70 2 1 (ints r)] := by
  subst hn_p0_x_1
  unfold spec_l07Shift at hm
  refine Calls.enter (N := 24) Try.func75 rfl rfl rfl (fun a hf => ?_)
  have hs := St.start W
  obtain ⟨w, hw_⟩ : ∃ w, w = W := ⟨W, rfl⟩
  clear hw_ w
  refine wpL_seq ?_
  refine wpL_region ?_
  refine sY hf hs rfl rfl rfl (Y_assign rfl rfl) ?_; clear hf; intro a hf
  refine wpO_nil ?_
  refine wpL_seq ?_
  refine wpL_region ?_
  refine sEmpty hf hs rfl rfl rfl rfl el23 ti2 ?_; clear hf hs; intro a w A1 hs hf
  have hs : St [] W w [.row A1 0 0 2 1 (ints ([] : List Int))] := hs
  refine sY hf hs rfl rfl rfl (Y_assign rfl rfl) ?_; clear hf; intro a hf
  refine wpO_nil ?_
  refine wpL_seq ?_
  refine wpL_seq ?_
  refine wpL_region ?_
  refine sY hf hs rfl rfl rfl (Y_assign rfl rfl) ?_; clear hf; intro a hf
  refine wpO_nil ?_
  obtain ⟨r53, hl54, hm⟩ := bind_some hm
  refine wpL_block (fun a w => ∃ xs48 : List Int, ∃ A49, ∃ n50, ∃ c51, xs48 = r53 ∧ n50 = xs48.length ∧ Fr a 24 [(5, .slice A49 n50 c51)] ∧ St [] W w [.row A49 n50 c51 2 1 (ints xs48)]) ?_ ?_
  · refine wpL_loop (fun n a w => ∃ xs31 : List Int, ∃ x36 : Int, ∃ A32, ∃ n33, ∃ c34, spec_l07Shift_L1 F p0_x p1_g n xs31 x36 = some r53 ∧ n33 = xs31.length ∧ Fr a 24 [(0, .slice A_p0_x_1 p0_x.length c_p0_x_1), (1, .int .i64 p1_g), (5, .slice A32 n33 c34), (6, .int .i64 x36)] ∧ St [] W w [.row A32 n33 c34 2 1 (ints xs31)]) F ?_ ?_ ?_
    · exact ⟨([] : List Int), 0, A1, 0, 0, hl54, rfl, (FrD.pick (FrD.pick (FrD.pick (FrD.pick hf.none hf rfl) hf rfl) hf rfl) hf rfl), hs⟩
    · rintro a w ⟨xs31, x36, A32, n33, c34, h0_, -, -, -⟩; simp [spec_l07Shift_L1] at h0_
    · rintro n56 a w ⟨xs31, x36, A32, n33, c34, hm55, hn35, hf, hs⟩
      rw [spec_l07Shift_L1] at hm55
      refine wpL_seq ?_
      refine wpL_seq ?_
      refine wpL_region ?_
      refine sY hf hs rfl rfl rfl (Y_move rfl rfl) ?_; clear hf; intro a hf
      refine sY hf hs rfl rfl rfl (Y_move rfl rfl) ?_; clear hf; intro a hf
      refine sY hf hs rfl rfl rfl (Y_lenH rfl rfl el23 rfl) ?_; clear hf; intro a hf
      refine sY hf hs rfl rfl rfl (Y_lss rfl rfl rfl) ?_; clear hf; intro a hf
      refine wpO_nil ?_
      refine wpL_cond hf rfl (fun hb57 => ?_) (fun hb57 => ?_)
      · have hm55 := bif_t hm55 hb57
        refine wpL_skip ?_
        refine wpL_seq ?_
        refine wpL_block0 ?_
        refine wpL_region ?_
        refine sY hf hs rfl rfl rfl (Y_move rfl rfl) ?_; clear hf; intro a hf
        refine sY hf hs rfl rfl rfl (Y_move rfl rfl) ?_; clear hf; intro a hf
        refine sY hf hs rfl rfl rfl (Y_move rfl rfl) ?_; clear hf; intro a hf
        obtain ⟨q58, hi59, hm55⟩ := bind_some hm55
        obtain ⟨hi59a, hi59b, hi59q⟩ := idx_some hi59
        refine sY hf hs rfl rfl rfl (Y_index rfl rfl rfl el23 ti2 (Rd.isAt (h_p0_x_1.at hs) (at1 (ints_at hi59q))) hi59a hi59b) ?_; clear hf; intro a hf
        refine sY hf hs rfl rfl rfl (Y_load_rd rfl rfl (fun w hs => h_p0_x_1.at hs) (at1 (ints_at hi59q)) ag2) ?_; clear hf; intro a hf
        refine sY hf hs rfl rfl rfl (Y_move rfl rfl) ?_; clear hf; intro a hf
        obtain ⟨r60, hc61, hm55⟩ := bind_some hm55
        refine sCall hf rfl rfl rfl rfl (cap := []) rfl rfl en154 (spec_l01Times_ok F q58 p1_g _ _ hc61) ?_; clear hf
        rintro _ w ⟨rfl, hs1⟩ a hf
        have hs : St [] W w [.row A32 n33 c34 2 1 (ints xs31)] := hs.ext hs1.below
        clear hs1
        refine sBuildSlice (parts := [(0, .tmp 20)]) (vs := [.int .i64 r60]) (cells := [.int .i64 r60]) hf hs rfl rfl rfl rfl rfl el23 ti2 rfl rfl rfl rfl ?_; clear hf hs; intro a w A62 hs hA63 hf
        have hs : St [] W w [.row A32 n33 c34 2 1 (ints xs31), .row A62 1 1 2 1 (ints ([r60]))] := hs
        obtain ⟨xs66, ha67, hm55⟩ := bind_some hm55
        refine sAppendL (i := 0) (xs := xs31) (ys := [r60]) (enc := ints) hf hs rfl rfl rfl rfl rfl rfl hn35 rfl rfl ha67 el23 ti2 rfl rfl rfl (hs.rd (i := 1) rfl) (Nat.succ_pos _) ints_len1 ints_append ints_one ?_; clear hf hs; intro a w A64 c65 hs hf
        have hs : St [] W w [.row A64 xs66.length c65 2 1 (ints xs66), .row A62 1 1 2 1 (ints ([r60]))] := hs
        refine sY hf hs rfl rfl rfl (Y_assign rfl rfl) ?_; clear hf; intro a hf
        refine wpO_nil ?_
        refine wpL_nil (Qb_normal ?_)
        refine wpL_region ?_
        refine sY hf hs rfl rfl rfl (Y_move rfl rfl) ?_; clear hf; intro a hf
        refine sY hf hs rfl rfl rfl (Y_add rfl rfl rfl) ?_; clear hf; intro a hf
        refine sY hf hs rfl rfl rfl (Y_assign rfl rfl) ?_; clear hf; intro a hf
        refine wpO_nil ?_
        refine wpL_nil (Ql_normal ?_)
        exact ⟨xs66, (IntKind.i64.wrap (x36 + 1)), A64, xs66.length, c65, hm55, rfl, (FrD.pick (FrD.pick (FrD.pick (FrD.pick hf.none hf rfl) hf rfl) hf rfl) hf rfl), hs.sel [0] (by decide)⟩
      · have hm55 := bif_f hm55 hb57
        refine wpL_exit (Ql_exit (Qb_exit ?_))
        exact ⟨xs31, A32, n33, c34, Option.some.inj hm55, hn35, (FrD.pick hf.none hf rfl), hs⟩
  · rintro a w ⟨xs48, A49, n50, c51, hr_, hn52, hf, hs⟩
    subst hr_
    try dsimp only at hm
    refine wpL_seq ?_
    refine wpL_region ?_
    refine sY hf hs rfl rfl rfl (Y_move rfl rfl) ?_; clear hf; intro a hf
    refine sY hf hs rfl rfl rfl (Y_assign rfl rfl) ?_; clear hf; intro a hf
    refine wpO_nil ?_
    obtain rfl := Option.some.inj hm
    refine wpL_ret (ret_tmp rfl hf rfl ?_)
    exact ⟨_, rfl, A49, n50, c51, rfl, hn52, hs⟩

set_option maxRecDepth 100000 in
theorem spec_l01Own_ok (F : Nat) (p0_list : List Int) (A_p0_list_1 : Option Addr) (n_p0_list_1 c_p0_list_1 : Nat) (hn_p0_list_1 : n_p0_list_1 = p0_list.length) (r : List Int) (W : World) (hm : spec_l01Own F p0_list = some r) (h_p0_list_1 : Rd W A_p0_list_1 (ints p0_list)) :
    Calls Try.prog 80 [.slice A_p0_list_1 n_p0_list_1 c_p0_list_1].toArray W fun e w' => ∃ v, e = .returned v ∧ ∃ A7, ∃ n8, ∃ c9, v = .slice A7 n8 c9 ∧ n8 = r.length ∧ St [] W w' [.row A7 n8 c9 2 1 (ints r)] := by
  subst hn_p0_list_1
  unfold spec_l01Own at hm
  refine Calls.enter (N := 6) Try.func80 rfl rfl rfl (fun a hf => ?_)
  have hs := St.start W
  obtain ⟨w, hw_⟩ : ∃ w, w = W := ⟨W, rfl⟩
  clear hw_ w
  refine wpL_seq ?_
  refine wpL_region ?_
  refine sY hf hs rfl rfl rfl (Y_assign rfl rfl) ?_; clear hf; intro a hf
  refine wpO_nil ?_
  refine wpL_seq ?_
  refine wpL_region ?_
  refine sEmpty hf hs rfl rfl rfl rfl el23 ti2 ?_; clear hf hs; intro a w A1 hs hf
  have hs : St [] W w [.row A1 0 0 2 1 (ints ([] : List Int))] := hs
  refine sY hf hs rfl rfl rfl (Y_move rfl rfl) ?_; clear hf; intro a hf
  obtain ⟨xs5, ha6, hm⟩ := bind_some hm
  refine sAppendG (i := 0) (xs := ([] : List Int)) (ys := p0_list) (enc := ints) hf hs rfl rfl rfl rfl rfl rfl rfl rfl rfl ha6 el23 ti2 rfl rfl rfl (h_p0_list_1.at hs) ints_len1 ints_append ints_one ?_; clear hf hs; intro a w A3 c4 hs hf
  have hs : St [] W w [.row A3 xs5.length c4 2 1 (ints xs5)] := hs
  refine sY hf hs rfl rfl rfl (Y_assign rfl rfl) ?_; clear hf; intro a hf
  refine wpO_nil ?_
  obtain rfl := Option.some.inj hm
  refine wpL_ret (ret_tmp rfl hf rfl ?_)
  exact ⟨_, rfl, A3, xs5.length, c4, rfl, rfl, hs⟩

set_option maxRecDepth 100000 in
theorem spec_l02Own_ok (F : Nat) (p0_a : List (List Int)) (A_p0_a_1 : Option Addr) (n_p0_a_1 c_p0_a_1 : Nat) (hn_p0_a_1 : n_p0_a_1 = p0_a.length) (r : List (List Int)) (W : World) (hm : spec_l02Own F p0_a = some r) (h_p0_a_1 : RdM W A_p0_a_1 p0_a) :
    Calls Try.prog 184 [.slice A_p0_a_1 n_p0_a_1 c_p0_a_1].toArray W fun e w' => ∃ v, e = .returned v ∧ ∃ A124, ∃ n125, ∃ c126, ∃ vs128, v = .slice A124 n125 c126 ∧ n125 = r.length ∧ St [] W w' [.mat A124 n125 c126 23 2 vs128 r] := by
  subst hn_p0_a_1
  unfold spec_l02Own at hm
  refine Calls.enter (N := 21) Try.func184 rfl rfl rfl (fun a hf => ?_)
  have hs := St.start W
  obtain ⟨w, hw_⟩ : ∃ w, w = W := ⟨W, rfl⟩
  clear hw_ w
  refine wpL_seq ?_
  refine wpL_region ?_
  refine sY hf hs rfl rfl rfl (Y_assign rfl rfl) ?_; clear hf; intro a hf
  refine wpO_nil ?_
  refine wpL_seq ?_
  refine wpL_region ?_
  refine sEmptyM 2 hf hs rfl rfl rfl rfl el22 ti23 rfl ?_; clear hf hs; intro a w A1 hs hf
  have hs : St [] W w [.mat A1 0 0 23 2 [] []] := hs
  refine sY hf hs rfl rfl rfl (Y_assign rfl rfl) ?_; clear hf; intro a hf
  refine wpO_nil ?_
  refine wpL_seq ?_
  refine wpL_seq ?_
  refine wpL_region ?_
  refine sY hf hs rfl rfl rfl (Y_assign rfl rfl) ?_; clear hf; intro a hf
  refine wpO_nil ?_
  obtain ⟨r96, hl97, hm⟩ := bind_some hm
  refine wpL_block (fun a w => ∃ ms90 : List (List Int), ∃ A91, ∃ n92, ∃ c93, ∃ vs95, ms90 = r96 ∧ n92 = ms90.length ∧ Fr a 21 [(3, .slice A91 n92 c93)] ∧ St [] W w [.mat A91 n92 c93 23 2 vs95 ms90]) ?_ ?_
  · refine wpL_loop (fun n a w => ∃ ms59 : List (List Int), ∃ x65 : Int, ∃ A60, ∃ n61, ∃ c62, ∃ vs64, spec_l02Own_L1 F p0_a n ms59 x65 = some r96 ∧ n61 = ms59.length ∧ Fr a 21 [(0, .slice A_p0_a_1 p0_a.length c_p0_a_1), (3, .slice A60 n61 c62), (4, .int .i64 x65)] ∧ St [] W w [.mat A60 n61 c62 23 2 vs64 ms59]) F ?_ ?_ ?_
    · exact ⟨[], 0, A1, 0, 0, [], hl97, rfl, (FrD.pick (FrD.pick (FrD.pick hf.none hf rfl) hf rfl) hf rfl), hs⟩
    · rintro a w ⟨ms59, x65, A60, n61, c62, vs64, h0_, -, -, -⟩; simp [spec_l02Own_L1] at h0_
    · rintro n99 a w ⟨ms59, x65, A60, n61, c62, vs64, hm98, hn63, hf, hs⟩
      rw [spec_l02Own_L1] at hm98
      refine wpL_seq ?_
      refine wpL_seq ?_
      refine wpL_region ?_
      refine sY hf hs rfl rfl rfl (Y_move rfl rfl) ?_; clear hf; intro a hf
      refine sY hf hs rfl rfl rfl (Y_move rfl rfl) ?_; clear hf; intro a hf
      refine sY hf hs rfl rfl rfl (Y_lenH rfl rfl el22 rfl) ?_; clear hf; intro a hf
      refine sY hf hs rfl rfl rfl (Y_lss rfl rfl rfl) ?_; clear hf; intro a hf
      refine wpO_nil ?_
      refine wpL_cond hf rfl (fun hb100 => ?_) (fun hb100 => ?_)
      · have hm98 := bif_t hm98 hb100
        refine wpL_skip ?_
        refine wpL_seq ?_
        refine wpL_block0 ?_
        refine wpL_region ?_
        refine sY hf hs rfl rfl rfl (Y_move rfl rfl) ?_; clear hf; intro a hf
        refine sY hf hs rfl rfl rfl (Y_move rfl rfl) ?_; clear hf; intro a hf
        refine sY hf hs rfl rfl rfl (Y_move rfl rfl) ?_; clear hf; intro a hf
        obtain ⟨q101, hi102, hm98⟩ := bind_some hm98
        obtain ⟨hi102a, hi102b, hi102q⟩ := idx_some hi102
        obtain ⟨vs103, hv104, hr105⟩ := id h_p0_a_1
        obtain ⟨A106, c107, hv108, hR109⟩ := hr105 _ _ hi102q
        refine sY hf hs rfl rfl rfl (Y_index rfl rfl rfl el22 ti23 (Rd.isAt hv104 hv108) hi102a hi102b) ?_; clear hf; intro a hf
        refine sY hf hs rfl rfl rfl (Y_load_rd rfl rfl (fun w hs => hv104.at hs) (at1 hv108) ag23) ?_; clear hf; intro a hf
        obtain ⟨r110, hc111, hm98⟩ := bind_some hm98
        refine sCall hf rfl rfl rfl rfl (cap := []) rfl rfl en80 (spec_l01Own_ok F q101 A106 q101.length c107 rfl _ _ hc111 (hR109.at hs)) ?_; clear hf
        rintro _ w ⟨A112, n113, c114, rfl, hn115, hs1⟩ a hf
        have hs : St [] W w [.mat A60 n61 c62 23 2 vs64 ms59, .row A112 n113 c114 2 1 (ints r110)] := hs.join hs1
        clear hs1
        refine sOneM (j := 1) hf hs rfl rfl rfl rfl rfl rfl hn115 el22 ti23 ?_; clear hf hs; intro a w A116 hs hf
        have hs : St [] W w [.mat A60 n61 c62 23 2 vs64 ms59, .mat A116 1 1 23 2 ([Value.slice A112 r110.length c114]) ([r110])] := hs
        obtain ⟨ms120, ha121, hm98⟩ := bind_some hm98
        refine sAppendM (i := 0) (j := 1) hf hs rfl rfl rfl rfl rfl rfl hn63 rfl (by decide) rfl rfl (by decide) ha121 el22 ti23 rfl ?_; clear hf hs; intro a w A118 c119 hs hf
        have hs : St [] W w [.mat A118 ms120.length c119 23 2 (vs64 ++ ([Value.slice A112 r110.length c114])) ms120] := hs
        obtain ⟨hq122, hv123⟩ := hs.appended (i := 0) rfl ha121
        refine sY hf hs rfl rfl rfl (Y_assign rfl rfl) ?_; clear hf; intro a hf
        refine wpO_nil ?_
        refine wpL_nil (Qb_normal ?_)
        refine wpL_region ?_
        refine sY hf hs rfl rfl rfl (Y_move rfl rfl) ?_; clear hf; intro a hf
        refine sY hf hs rfl rfl rfl (Y_add rfl rfl rfl) ?_; clear hf; intro a hf
        refine sY hf hs rfl rfl rfl (Y_assign rfl rfl) ?_; clear hf; intro a hf
        refine wpO_nil ?_
        refine wpL_nil (Ql_normal ?_)
        exact ⟨ms120, (IntKind.i64.wrap (x65 + 1)), A118, ms120.length, c119, (vs64 ++ ([Value.slice A112 r110.length c114])), hm98, rfl, (FrD.pick (FrD.pick (FrD.pick hf.none hf rfl) hf rfl) hf rfl), hs⟩
      · have hm98 := bif_f hm98 hb100
        refine wpL_exit (Ql_exit (Qb_exit ?_))
        exact ⟨ms59, A60, n61, c62, vs64, Option.some.inj hm98, hn63, (FrD.pick hf.none hf rfl), hs⟩
  · rintro a w ⟨ms90, A91, n92, c93, vs95, hr_, hn94, hf, hs⟩
    subst hr_
    try dsimp only at hm
    refine wpL_seq ?_
    refine wpL_region ?_
    refine sY hf hs rfl rfl rfl (Y_move rfl rfl) ?_; clear hf; intro a hf
    refine sY hf hs rfl rfl rfl (Y_assign rfl rfl) ?_; clear hf; intro a hf
    refine wpO_nil ?_
    obtain rfl := Option.some.inj hm
    refine wpL_ret (ret_tmp rfl hf rfl ?_)
    exact ⟨_, rfl, A91, n92, c93, vs95, rfl, hn94, hs⟩

end Go.Proofs.Ytgkgimglgjfcjaa
