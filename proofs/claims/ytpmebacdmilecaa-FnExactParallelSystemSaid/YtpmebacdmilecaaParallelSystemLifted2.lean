/- The functions do what their models say. -/
import Derived.Test.YtpmebacdmilecaaParallelSystemLifted1
import Derived.Test.YtpmebacdmilecaaRows
namespace Go.Proofs.Ytpmebacdmilecaa
open Go.RowKit

set_option maxRecDepth 100000 in
theorem impl_IsSystem_ok (F : Nat) (p0_s : GSystem) (A_p0_s_1 : Option Addr) (n_p0_s_1 c_p0_s_1 : Nat) (hn_p0_s_1 : n_p0_s_1 = p0_s.A.length) (A_p0_s_2 : Option Addr) (n_p0_s_2 c_p0_s_2 : Nat) (hn_p0_s_2 : n_p0_s_2 = p0_s.B.length) (A_p0_s_3 : Option Addr) (n_p0_s_3 c_p0_s_3 : Nat) (hn_p0_s_3 : n_p0_s_3 = p0_s.C.length) (r : Bool) (W : World) (hm : impl_IsSystem F p0_s = some r) (h_p0_s_1 : RdM W A_p0_s_1 p0_s.A) (h_p0_s_2 : Rd W A_p0_s_2 (ints p0_s.B)) (h_p0_s_3 : Rd W A_p0_s_3 (ints p0_s.C)) :
    Calls Try.prog 99 [.agg #[.slice A_p0_s_1 n_p0_s_1 c_p0_s_1, .slice A_p0_s_2 n_p0_s_2 c_p0_s_2, .slice A_p0_s_3 n_p0_s_3 c_p0_s_3]].toArray W fun e w' => ∃ v, e = .returned v ∧ v = .bool r ∧ St [] W w' [] := by
  subst hn_p0_s_1
  subst hn_p0_s_2
  subst hn_p0_s_3
  unfold impl_IsSystem at hm
  refine Calls.enter (N := 34) Try.func99 rfl rfl rfl (fun a hf => ?_)
  have hs := St.start W
  obtain ⟨w, hw_⟩ : ∃ w, w = W := ⟨W, rfl⟩
  clear hw_ w
  refine wpL_seq ?_
  refine wpL_region ?_
  refine sBox hf hs rfl rfl rfl rfl rfl (cs := [.slice A_p0_s_1 p0_s.A.length c_p0_s_1, .slice A_p0_s_2 p0_s.B.length c_p0_s_2, .slice A_p0_s_3 p0_s.C.length c_p0_s_3]) rfl ?_; clear hf hs; intro a w b1 hs hf
  have hs : St [] W w [.blk b1 55 [.slice A_p0_s_1 p0_s.A.length c_p0_s_1, .slice A_p0_s_2 p0_s.B.length c_p0_s_2, .slice A_p0_s_3 p0_s.C.length c_p0_s_3]] := hs
  refine sY hf hs rfl rfl rfl (Y_assign rfl rfl) ?_; clear hf; intro a hf
  refine wpO_nil ?_
  refine wpL_seq ?_
  obtain ⟨r13, hj14, hm⟩ := bind_some hm
  refine wpL_cut (fun a w => ∃ b12 : Bool, b12 = r13 ∧ Fr a 34 [(2, .bool b12)] ∧ St [] W w []) ?_ ?_
  · refine wpL_region ?_
    refine sY hf hs rfl rfl rfl (Y_fieldAddr rfl rfl fo55_0) ?_; clear hf; intro a hf
    refine sY hf hs rfl rfl rfl (Y_load_blk rfl rfl (i := 0) rfl rfl ag46) ?_; clear hf; intro a hf
    obtain ⟨r15, hc16, hj14⟩ := bind_some hj14
    refine sCall hf rfl rfl rfl rfl (cap := []) rfl rfl en154 (impl_isSquare_ok F p0_s.A A_p0_s_1 p0_s.A.length c_p0_s_1 rfl _ _ hc16 (h_p0_s_1.at hs)) ?_; clear hf
    rintro _ w ⟨rfl, hs1⟩ a hf
    have hs : St [] W w [.blk b1 55 [.slice A_p0_s_1 p0_s.A.length c_p0_s_1, .slice A_p0_s_2 p0_s.B.length c_p0_s_2, .slice A_p0_s_3 p0_s.C.length c_p0_s_3]] := hs.ext hs1.below
    clear hs1
    refine sY hf hs rfl rfl rfl (Y_move rfl rfl) ?_; clear hf; intro a hf
    refine bsplit r15 (fun hb17 => ?_) (fun hb17 => ?_)
    · have hj14 := bif_t hj14 hb17
      refine sYg hf hs rfl rfl rfl (congrArg (fun b => some (Value.bool b)) hb17) rfl rfl rfl (Y_fieldAddr rfl rfl fo55_1) ?_; clear hf; intro a hf
      refine sYg hf hs rfl rfl rfl (congrArg (fun b => some (Value.bool b)) hb17) rfl rfl rfl (Y_load_blk rfl rfl (i := 0) rfl rfl ag23) ?_; clear hf; intro a hf
      obtain ⟨r18, hc19, hj14⟩ := bind_some hj14
      refine sCallg hf rfl rfl rfl (congrArg (fun b => some (Value.bool b)) hb17) rfl rfl rfl rfl (cap := []) rfl rfl en139 (impl_isVector_ok F p0_s.B A_p0_s_2 p0_s.B.length c_p0_s_2 rfl _ _ hc19 (h_p0_s_2.at hs)) ?_; clear hf
      rintro _ w ⟨rfl, hs1⟩ a hf
      have hs : St [] W w [.blk b1 55 [.slice A_p0_s_1 p0_s.A.length c_p0_s_1, .slice A_p0_s_2 p0_s.B.length c_p0_s_2, .slice A_p0_s_3 p0_s.C.length c_p0_s_3]] := hs.ext hs1.below
      clear hs1
      refine sY hf hs rfl rfl rfl (Y_pickT rfl (congrArg (fun b => some (Value.bool b)) hb17) rfl) ?_; clear hf; intro a hf
      refine sY hf hs rfl rfl rfl (Y_move rfl rfl) ?_; clear hf; intro a hf
      refine bsplit r18 (fun hb20 => ?_) (fun hb20 => ?_)
      · have hj14 := bif_t hj14 hb20
        refine sYg hf hs rfl rfl rfl (congrArg (fun b => some (Value.bool b)) hb20) rfl rfl rfl (Y_fieldAddr rfl rfl fo55_2) ?_; clear hf; intro a hf
        refine sYg hf hs rfl rfl rfl (congrArg (fun b => some (Value.bool b)) hb20) rfl rfl rfl (Y_load_blk rfl rfl (i := 0) rfl rfl ag23) ?_; clear hf; intro a hf
        obtain ⟨r21, hc22, hj14⟩ := bind_some hj14
        refine sCallg hf rfl rfl rfl (congrArg (fun b => some (Value.bool b)) hb20) rfl rfl rfl rfl (cap := []) rfl rfl en139 (impl_isVector_ok F p0_s.C A_p0_s_3 p0_s.C.length c_p0_s_3 rfl _ _ hc22 (h_p0_s_3.at hs)) ?_; clear hf
        rintro _ w ⟨rfl, hs1⟩ a hf
        have hs : St [] W w [.blk b1 55 [.slice A_p0_s_1 p0_s.A.length c_p0_s_1, .slice A_p0_s_2 p0_s.B.length c_p0_s_2, .slice A_p0_s_3 p0_s.C.length c_p0_s_3]] := hs.ext hs1.below
        clear hs1
        refine sY hf hs rfl rfl rfl (Y_pickT rfl (congrArg (fun b => some (Value.bool b)) hb20) rfl) ?_; clear hf; intro a hf
        refine sY hf hs rfl rfl rfl (Y_move rfl rfl) ?_; clear hf; intro a hf
        refine bsplit r21 (fun hb23 => ?_) (fun hb23 => ?_)
        · have hj14 := bif_t hj14 hb23
          refine sYg hf hs rfl rfl rfl (congrArg (fun b => some (Value.bool b)) hb23) rfl rfl rfl (Y_fieldAddr rfl rfl fo55_1) ?_; clear hf; intro a hf
          refine sYg hf hs rfl rfl rfl (congrArg (fun b => some (Value.bool b)) hb23) rfl rfl rfl (Y_load_blk rfl rfl (i := 0) rfl rfl ag23) ?_; clear hf; intro a hf
          refine sYg hf hs rfl rfl rfl (congrArg (fun b => some (Value.bool b)) hb23) rfl rfl rfl (Y_lenH rfl rfl el23 rfl) ?_; clear hf; intro a hf
          refine sYg hf hs rfl rfl rfl (congrArg (fun b => some (Value.bool b)) hb23) rfl rfl rfl (Y_fieldAddr rfl rfl fo55_0) ?_; clear hf; intro a hf
          refine sYg hf hs rfl rfl rfl (congrArg (fun b => some (Value.bool b)) hb23) rfl rfl rfl (Y_load_blk rfl rfl (i := 0) rfl rfl ag46) ?_; clear hf; intro a hf
          refine sYg hf hs rfl rfl rfl (congrArg (fun b => some (Value.bool b)) hb23) rfl rfl rfl (Y_lenH rfl rfl el46 rfl) ?_; clear hf; intro a hf
          refine sYg hf hs rfl rfl rfl (congrArg (fun b => some (Value.bool b)) hb23) rfl rfl rfl (Y_eql rfl rfl rfl) ?_; clear hf; intro a hf
          refine sY hf hs rfl rfl rfl (Y_pickT rfl (congrArg (fun b => some (Value.bool b)) hb23) rfl) ?_; clear hf; intro a hf
          refine sY hf hs rfl rfl rfl (Y_move rfl rfl) ?_; clear hf; intro a hf
          refine bsplit ((p0_s.B.length : Int) == (p0_s.A.length : Int)) (fun hb24 => ?_) (fun hb24 => ?_)
          · have hj14 := bif_t hj14 hb24
            refine sYg hf hs rfl rfl rfl (congrArg (fun b => some (Value.bool b)) hb24) rfl rfl rfl (Y_fieldAddr rfl rfl fo55_2) ?_; clear hf; intro a hf
            refine sYg hf hs rfl rfl rfl (congrArg (fun b => some (Value.bool b)) hb24) rfl rfl rfl (Y_load_blk rfl rfl (i := 0) rfl rfl ag23) ?_; clear hf; intro a hf
            refine sYg hf hs rfl rfl rfl (congrArg (fun b => some (Value.bool b)) hb24) rfl rfl rfl (Y_lenH rfl rfl el23 rfl) ?_; clear hf; intro a hf
            refine sYg hf hs rfl rfl rfl (congrArg (fun b => some (Value.bool b)) hb24) rfl rfl rfl (Y_fieldAddr rfl rfl fo55_0) ?_; clear hf; intro a hf
            refine sYg hf hs rfl rfl rfl (congrArg (fun b => some (Value.bool b)) hb24) rfl rfl rfl (Y_load_blk rfl rfl (i := 0) rfl rfl ag46) ?_; clear hf; intro a hf
            refine sYg hf hs rfl rfl rfl (congrArg (fun b => some (Value.bool b)) hb24) rfl rfl rfl (Y_lenH rfl rfl el46 rfl) ?_; clear hf; intro a hf
            refine sYg hf hs rfl rfl rfl (congrArg (fun b => some (Value.bool b)) hb24) rfl rfl rfl (Y_eql rfl rfl rfl) ?_; clear hf; intro a hf
            refine sY hf hs rfl rfl rfl (Y_pickT rfl (congrArg (fun b => some (Value.bool b)) hb24) rfl) ?_; clear hf; intro a hf
            refine sY hf hs rfl rfl rfl (Y_assign rfl rfl) ?_; clear hf; intro a hf
            refine wpO_nil ?_
            refine wpL_nil (then_normal ?_)
            exact ⟨((p0_s.C.length : Int) == (p0_s.A.length : Int)), Option.some.inj hj14, (FrD.pick hf.none hf rfl), hs.sel [] (by decide)⟩
          · have hj14 := bif_f hj14 hb24
            refine sNo hf rfl rfl rfl (congrArg (fun b => some (Value.bool b)) hb24) rfl rfl rfl ?_; clear hf; intro a hf
            refine sNo hf rfl rfl rfl (congrArg (fun b => some (Value.bool b)) hb24) rfl rfl rfl ?_; clear hf; intro a hf
            refine sNo hf rfl rfl rfl (congrArg (fun b => some (Value.bool b)) hb24) rfl rfl rfl ?_; clear hf; intro a hf
            refine sNo hf rfl rfl rfl (congrArg (fun b => some (Value.bool b)) hb24) rfl rfl rfl ?_; clear hf; intro a hf
            refine sNo hf rfl rfl rfl (congrArg (fun b => some (Value.bool b)) hb24) rfl rfl rfl ?_; clear hf; intro a hf
            refine sNo hf rfl rfl rfl (congrArg (fun b => some (Value.bool b)) hb24) rfl rfl rfl ?_; clear hf; intro a hf
            refine sNo hf rfl rfl rfl (congrArg (fun b => some (Value.bool b)) hb24) rfl rfl rfl ?_; clear hf; intro a hf
            refine sY hf hs rfl rfl rfl (Y_pickF rfl (congrArg (fun b => some (Value.bool b)) hb24) rfl) ?_; clear hf; intro a hf
            refine sY hf hs rfl rfl rfl (Y_assign rfl rfl) ?_; clear hf; intro a hf
            refine wpO_nil ?_
            refine wpL_nil (then_normal ?_)
            exact ⟨false, Option.some.inj hj14, (FrD.pick hf.none hf rfl), hs.sel [] (by decide)⟩
        · have hj14 := bif_f hj14 hb23
          refine sNo hf rfl rfl rfl (congrArg (fun b => some (Value.bool b)) hb23) rfl rfl rfl ?_; clear hf; intro a hf
          refine sNo hf rfl rfl rfl (congrArg (fun b => some (Value.bool b)) hb23) rfl rfl rfl ?_; clear hf; intro a hf
          refine sNo hf rfl rfl rfl (congrArg (fun b => some (Value.bool b)) hb23) rfl rfl rfl ?_; clear hf; intro a hf
          refine sNo hf rfl rfl rfl (congrArg (fun b => some (Value.bool b)) hb23) rfl rfl rfl ?_; clear hf; intro a hf
          refine sNo hf rfl rfl rfl (congrArg (fun b => some (Value.bool b)) hb23) rfl rfl rfl ?_; clear hf; intro a hf
          refine sNo hf rfl rfl rfl (congrArg (fun b => some (Value.bool b)) hb23) rfl rfl rfl ?_; clear hf; intro a hf
          refine sNo hf rfl rfl rfl (congrArg (fun b => some (Value.bool b)) hb23) rfl rfl rfl ?_; clear hf; intro a hf
          refine sY hf hs rfl rfl rfl (Y_pickF rfl (congrArg (fun b => some (Value.bool b)) hb23) rfl) ?_; clear hf; intro a hf
          refine sY hf hs rfl rfl rfl (Y_move rfl rfl) ?_; clear hf; intro a hf
          refine sNo hf rfl rfl rfl rfl rfl rfl rfl ?_; clear hf; intro a hf
          refine sNo hf rfl rfl rfl rfl rfl rfl rfl ?_; clear hf; intro a hf
          refine sNo hf rfl rfl rfl rfl rfl rfl rfl ?_; clear hf; intro a hf
          refine sNo hf rfl rfl rfl rfl rfl rfl rfl ?_; clear hf; intro a hf
          refine sNo hf rfl rfl rfl rfl rfl rfl rfl ?_; clear hf; intro a hf
          refine sNo hf rfl rfl rfl rfl rfl rfl rfl ?_; clear hf; intro a hf
          refine sNo hf rfl rfl rfl rfl rfl rfl rfl ?_; clear hf; intro a hf
          refine sY hf hs rfl rfl rfl (Y_pickF rfl rfl rfl) ?_; clear hf; intro a hf
          refine sY hf hs rfl rfl rfl (Y_assign rfl rfl) ?_; clear hf; intro a hf
          refine wpO_nil ?_
          refine wpL_nil (then_normal ?_)
          exact ⟨false, Option.some.inj hj14, (FrD.pick hf.none hf rfl), hs.sel [] (by decide)⟩
      · have hj14 := bif_f hj14 hb20
        refine sNo hf rfl rfl rfl (congrArg (fun b => some (Value.bool b)) hb20) rfl rfl rfl ?_; clear hf; intro a hf
        refine sNo hf rfl rfl rfl (congrArg (fun b => some (Value.bool b)) hb20) rfl rfl rfl ?_; clear hf; intro a hf
        refine sNo hf rfl rfl rfl (congrArg (fun b => some (Value.bool b)) hb20) rfl rfl rfl ?_; clear hf; intro a hf
        refine sY hf hs rfl rfl rfl (Y_pickF rfl (congrArg (fun b => some (Value.bool b)) hb20) rfl) ?_; clear hf; intro a hf
        refine sY hf hs rfl rfl rfl (Y_move rfl rfl) ?_; clear hf; intro a hf
        refine sNo hf rfl rfl rfl rfl rfl rfl rfl ?_; clear hf; intro a hf
        refine sNo hf rfl rfl rfl rfl rfl rfl rfl ?_; clear hf; intro a hf
        refine sNo hf rfl rfl rfl rfl rfl rfl rfl ?_; clear hf; intro a hf
        refine sNo hf rfl rfl rfl rfl rfl rfl rfl ?_; clear hf; intro a hf
        refine sNo hf rfl rfl rfl rfl rfl rfl rfl ?_; clear hf; intro a hf
        refine sNo hf rfl rfl rfl rfl rfl rfl rfl ?_; clear hf; intro a hf
        refine sNo hf rfl rfl rfl rfl rfl rfl rfl ?_; clear hf; intro a hf
        refine sY hf hs rfl rfl rfl (Y_pickF rfl rfl rfl) ?_; clear hf; intro a hf
        refine sY hf hs rfl rfl rfl (Y_move rfl rfl) ?_; clear hf; intro a hf
        refine sNo hf rfl rfl rfl rfl rfl rfl rfl ?_; clear hf; intro a hf
        refine sNo hf rfl rfl rfl rfl rfl rfl rfl ?_; clear hf; intro a hf
        refine sNo hf rfl rfl rfl rfl rfl rfl rfl ?_; clear hf; intro a hf
        refine sNo hf rfl rfl rfl rfl rfl rfl rfl ?_; clear hf; intro a hf
        refine sNo hf rfl rfl rfl rfl rfl rfl rfl ?_; clear hf; intro a hf
        refine sNo hf rfl rfl rfl rfl rfl rfl rfl ?_; clear hf; intro a hf
        refine sNo hf rfl rfl rfl rfl rfl rfl rfl ?_; clear hf; intro a hf
        refine sY hf hs rfl rfl rfl (Y_pickF rfl rfl rfl) ?_; clear hf; intro a hf
        refine sY hf hs rfl rfl rfl (Y_assign rfl rfl) ?_; clear hf; intro a hf
        refine wpO_nil ?_
        refine wpL_nil (then_normal ?_)
        exact ⟨false, Option.some.inj hj14, (FrD.pick hf.none hf rfl), hs.sel [] (by decide)⟩
    · have hj14 := bif_f hj14 hb17
      refine sNo hf rfl rfl rfl (congrArg (fun b => some (Value.bool b)) hb17) rfl rfl rfl ?_; clear hf; intro a hf
      refine sNo hf rfl rfl rfl (congrArg (fun b => some (Value.bool b)) hb17) rfl rfl rfl ?_; clear hf; intro a hf
      refine sNo hf rfl rfl rfl (congrArg (fun b => some (Value.bool b)) hb17) rfl rfl rfl ?_; clear hf; intro a hf
      refine sY hf hs rfl rfl rfl (Y_pickF rfl (congrArg (fun b => some (Value.bool b)) hb17) rfl) ?_; clear hf; intro a hf
      refine sY hf hs rfl rfl rfl (Y_move rfl rfl) ?_; clear hf; intro a hf
      refine sNo hf rfl rfl rfl rfl rfl rfl rfl ?_; clear hf; intro a hf
      refine sNo hf rfl rfl rfl rfl rfl rfl rfl ?_; clear hf; intro a hf
      refine sNo hf rfl rfl rfl rfl rfl rfl rfl ?_; clear hf; intro a hf
      refine sY hf hs rfl rfl rfl (Y_pickF rfl rfl rfl) ?_; clear hf; intro a hf
      refine sY hf hs rfl rfl rfl (Y_move rfl rfl) ?_; clear hf; intro a hf
      refine sNo hf rfl rfl rfl rfl rfl rfl rfl ?_; clear hf; intro a hf
      refine sNo hf rfl rfl rfl rfl rfl rfl rfl ?_; clear hf; intro a hf
      refine sNo hf rfl rfl rfl rfl rfl rfl rfl ?_; clear hf; intro a hf
      refine sNo hf rfl rfl rfl rfl rfl rfl rfl ?_; clear hf; intro a hf
      refine sNo hf rfl rfl rfl rfl rfl rfl rfl ?_; clear hf; intro a hf
      refine sNo hf rfl rfl rfl rfl rfl rfl rfl ?_; clear hf; intro a hf
      refine sNo hf rfl rfl rfl rfl rfl rfl rfl ?_; clear hf; intro a hf
      refine sY hf hs rfl rfl rfl (Y_pickF rfl rfl rfl) ?_; clear hf; intro a hf
      refine sY hf hs rfl rfl rfl (Y_move rfl rfl) ?_; clear hf; intro a hf
      refine sNo hf rfl rfl rfl rfl rfl rfl rfl ?_; clear hf; intro a hf
      refine sNo hf rfl rfl rfl rfl rfl rfl rfl ?_; clear hf; intro a hf
      refine sNo hf rfl rfl rfl rfl rfl rfl rfl ?_; clear hf; intro a hf
      refine sNo hf rfl rfl rfl rfl rfl rfl rfl ?_; clear hf; intro a hf
      refine sNo hf rfl rfl rfl rfl rfl rfl rfl ?_; clear hf; intro a hf
      refine sNo hf rfl rfl rfl rfl rfl rfl rfl ?_; clear hf; intro a hf
      refine sNo hf rfl rfl rfl rfl rfl rfl rfl ?_; clear hf; intro a hf
      refine sY hf hs rfl rfl rfl (Y_pickF rfl rfl rfl) ?_; clear hf; intro a hf
      refine sY hf hs rfl rfl rfl (Y_assign rfl rfl) ?_; clear hf; intro a hf
      refine wpO_nil ?_
      refine wpL_nil (then_normal ?_)
      exact ⟨false, Option.some.inj hj14, (FrD.pick hf.none hf rfl), hs.sel [] (by decide)⟩
  · rintro a w ⟨b12, hr_, hf, hs⟩
    subst hr_
    try dsimp only at hm
    obtain rfl := Option.some.inj hm
    refine wpL_ret (ret_tmp rfl hf rfl ?_)
    exact ⟨_, rfl, rfl, hs⟩

set_option maxRecDepth 100000 in
theorem impl_blocks_c1_ok (F : Nat) (p0_i : Int) (p1_j : Int) (b_z0 : Nat) (z0 : Int) (b_z1 : Nat) (z1 : List (List Int)) (A_z1_1 : Option Addr) (n_z1_1 c_z1_1 : Nat) (hn_z1_1 : n_z1_1 = z1.length) (b_z2 : Nat) (z2 : List (List Int)) (A_z2_1 : Option Addr) (n_z2_1 c_z2_1 : Nat) (hn_z2_1 : n_z2_1 = z2.length) (b_z3 : Nat) (m_z3 : Int → Int → Option Int) (f_z3 : FuncId) (k_z3 : List Value) (r : Int) (W : World) (hm : impl_blocks_c1 F p0_i p1_j z0 z1 z2 m_z3 = some r) (h_z0 : PB W b_z0 3 [.int .i64 z0]) (h_z1_1 : RdM W A_z1_1 z1) (h_z1 : PB W b_z1 46 [.slice A_z1_1 n_z1_1 c_z1_1]) (h_z2_1 : RdM W A_z2_1 z2) (h_z2 : PB W b_z2 46 [.slice A_z2_1 n_z2_1 c_z2_1]) (h_z3 : ∀ (x0 : Int) (x1 : Int) (r : Int) (w : World), m_z3 x0 x1 = some r → Below W.heap.size W w → Calls Try.prog f_z3 (([.int .i64 x0, .int .i64 x1] : List Value) ++ k_z3).toArray w fun e w' => ∃ v, e = .returned v ∧ v = .int .i64 r ∧ St [] w w' []) (e_z3 : En Try.prog f_z3) (hp_z3 : PB W b_z3 100 [.func (.func f_z3) #[] k_z3.toArray]) :
    Calls Try.prog 155 [.int .i64 p0_i, .int .i64 p1_j, .pointer (some ⟨b_z0, 0, none⟩), .pointer (some ⟨b_z1, 0, none⟩), .pointer (some ⟨b_z2, 0, none⟩), .pointer (some ⟨b_z3, 0, none⟩)].toArray W fun e w' => ∃ v, e = .returned v ∧ v = .int .i64 r ∧ St [] W w' [] := by
  subst hn_z1_1
  subst hn_z2_1
  unfold impl_blocks_c1 at hm
  refine Calls.enter (N := 55) Try.func155 rfl rfl rfl (fun a hf => ?_)
  have hs := St.start W
  obtain ⟨w, hw_⟩ : ∃ w, w = W := ⟨W, rfl⟩
  clear hw_ w
  refine wpL_seq ?_
  refine wpL_region ?_
  refine sY hf hs rfl rfl rfl (Y_assign rfl rfl) ?_; clear hf; intro a hf
  refine wpO_nil ?_
  refine wpL_seq ?_
  refine wpL_block0 ?_
  refine wpL_seq ?_
  obtain ⟨r3, hj4, hm⟩ := bind_some hm
  refine wpL_cut (fun a w => ∃ b2 : Bool, b2 = r3 ∧ Fr a 55 [(0, .int .i64 p0_i), (1, .int .i64 p1_j), (2, .pointer (some ⟨b_z0, 0, none⟩)), (3, .pointer (some ⟨b_z1, 0, none⟩)), (4, .pointer (some ⟨b_z2, 0, none⟩)), (5, .pointer (some ⟨b_z3, 0, none⟩)), (9, .bool b2)] ∧ St [] W w []) ?_ ?_
  · refine wpL_region ?_
    refine sY hf hs rfl rfl rfl (Y_move rfl rfl) ?_; clear hf; intro a hf
    refine sY hf hs rfl rfl rfl (Y_load_pb rfl rfl h_z0 rfl ag3) ?_; clear hf; intro a hf
    refine sY hf hs rfl rfl rfl (Y_lss rfl rfl rfl) ?_; clear hf; intro a hf
    refine sY hf hs rfl rfl rfl (Y_move rfl rfl) ?_; clear hf; intro a hf
    refine bsplit (decide (p0_i < z0)) (fun hb5 => ?_) (fun hb5 => ?_)
    · have hj4 := bif_t hj4 hb5
      refine sYg hf hs rfl rfl rfl (congrArg (fun b => some (Value.bool b)) hb5) rfl rfl rfl (Y_move rfl rfl) ?_; clear hf; intro a hf
      refine sYg hf hs rfl rfl rfl (congrArg (fun b => some (Value.bool b)) hb5) rfl rfl rfl (Y_load_pb rfl rfl h_z0 rfl ag3) ?_; clear hf; intro a hf
      refine sYg hf hs rfl rfl rfl (congrArg (fun b => some (Value.bool b)) hb5) rfl rfl rfl (Y_lss rfl rfl rfl) ?_; clear hf; intro a hf
      refine sY hf hs rfl rfl rfl (Y_pickT rfl (congrArg (fun b => some (Value.bool b)) hb5) rfl) ?_; clear hf; intro a hf
      refine sY hf hs rfl rfl rfl (Y_assign rfl rfl) ?_; clear hf; intro a hf
      refine wpO_nil ?_
      refine wpL_nil (then_normal ?_)
      exact ⟨(decide (p1_j < z0)), Option.some.inj hj4, (FrD.pick (FrD.pick (FrD.pick (FrD.pick (FrD.pick (FrD.pick (FrD.pick hf.none hf rfl) hf rfl) hf rfl) hf rfl) hf rfl) hf rfl) hf rfl), hs⟩
    · have hj4 := bif_f hj4 hb5
      refine sNo hf rfl rfl rfl (congrArg (fun b => some (Value.bool b)) hb5) rfl rfl rfl ?_; clear hf; intro a hf
      refine sNo hf rfl rfl rfl (congrArg (fun b => some (Value.bool b)) hb5) rfl rfl rfl ?_; clear hf; intro a hf
      refine sNo hf rfl rfl rfl (congrArg (fun b => some (Value.bool b)) hb5) rfl rfl rfl ?_; clear hf; intro a hf
      refine sY hf hs rfl rfl rfl (Y_pickF rfl (congrArg (fun b => some (Value.bool b)) hb5) rfl) ?_; clear hf; intro a hf
      refine sY hf hs rfl rfl rfl (Y_assign rfl rfl) ?_; clear hf; intro a hf
      refine wpO_nil ?_
      refine wpL_nil (then_normal ?_)
      exact ⟨false, Option.some.inj hj4, (FrD.pick (FrD.pick (FrD.pick (FrD.pick (FrD.pick (FrD.pick (FrD.pick hf.none hf rfl) hf rfl) hf rfl) hf rfl) hf rfl) hf rfl) hf rfl), hs⟩
  · rintro a w ⟨b2, hr_, hf, hs⟩
    subst hr_
    try dsimp only at hm
    refine wpL_cond hf rfl (fun hb6 => ?_) (fun hb6 => ?_)
    · have hm := bif_t hm hb6
      refine wpL_seq ?_
      refine wpL_region ?_
      refine sY hf hs rfl rfl rfl (Y_load_pb rfl rfl h_z1 rfl ag46) ?_; clear hf; intro a hf
      refine sY hf hs rfl rfl rfl (Y_move rfl rfl) ?_; clear hf; intro a hf
      obtain ⟨q7, hi8, hm⟩ := bind_some hm
      obtain ⟨hi8a, hi8b, hi8q⟩ := idx_some hi8
      obtain ⟨vs9, hv10, hr11⟩ := id h_z1_1
      obtain ⟨A12, c13, hv14, hR15⟩ := hr11 _ _ hi8q
      refine sY hf hs rfl rfl rfl (Y_index rfl rfl rfl el46 ti23 (Rd.isAt hv10 hv14) hi8a hi8b) ?_; clear hf; intro a hf
      refine sY hf hs rfl rfl rfl (Y_load_rd rfl rfl (fun w hs => hv10.at hs) (at1 hv14) ag23) ?_; clear hf; intro a hf
      refine sY hf hs rfl rfl rfl (Y_move rfl rfl) ?_; clear hf; intro a hf
      obtain ⟨q16, hi17, hm⟩ := bind_some hm
      obtain ⟨hi17a, hi17b, hi17q⟩ := idx_some hi17
      refine sY hf hs rfl rfl rfl (Y_index rfl rfl rfl el23 ti2 (Rd.isAt (hR15.at hs) (at1 (ints_at hi17q))) hi17a hi17b) ?_; clear hf; intro a hf
      refine sY hf hs rfl rfl rfl (Y_load_rd rfl rfl (fun w hs => hR15.at hs) (at1 (ints_at hi17q)) ag2) ?_; clear hf; intro a hf
      refine sY hf hs rfl rfl rfl (Y_assign rfl rfl) ?_; clear hf; intro a hf
      refine wpO_nil ?_
      obtain rfl := Option.some.inj hm
      refine wpL_ret (Qb_ret (ret_tmp rfl hf rfl ?_))
      exact ⟨_, rfl, rfl, hs⟩
    · have hm := bif_f hm hb6
      refine wpL_seq ?_
      obtain ⟨r20, hj21, hm⟩ := bind_some hm
      refine wpL_cut (fun a w => ∃ b19 : Bool, b19 = r20 ∧ Fr a 55 [(0, .int .i64 p0_i), (1, .int .i64 p1_j), (2, .pointer (some ⟨b_z0, 0, none⟩)), (4, .pointer (some ⟨b_z2, 0, none⟩)), (5, .pointer (some ⟨b_z3, 0, none⟩)), (25, .bool b19)] ∧ St [] W w []) ?_ ?_
      · refine wpL_region ?_
        refine sY hf hs rfl rfl rfl (Y_move rfl rfl) ?_; clear hf; intro a hf
        refine sY hf hs rfl rfl rfl (Y_load_pb rfl rfl h_z0 rfl ag3) ?_; clear hf; intro a hf
        refine sY hf hs rfl rfl rfl (Y_geq rfl rfl rfl) ?_; clear hf; intro a hf
        refine sY hf hs rfl rfl rfl (Y_move rfl rfl) ?_; clear hf; intro a hf
        refine bsplit (decide (z0 ≤ p0_i)) (fun hb22 => ?_) (fun hb22 => ?_)
        · have hj21 := bif_t hj21 hb22
          refine sYg hf hs rfl rfl rfl (congrArg (fun b => some (Value.bool b)) hb22) rfl rfl rfl (Y_move rfl rfl) ?_; clear hf; intro a hf
          refine sYg hf hs rfl rfl rfl (congrArg (fun b => some (Value.bool b)) hb22) rfl rfl rfl (Y_load_pb rfl rfl h_z0 rfl ag3) ?_; clear hf; intro a hf
          refine sYg hf hs rfl rfl rfl (congrArg (fun b => some (Value.bool b)) hb22) rfl rfl rfl (Y_geq rfl rfl rfl) ?_; clear hf; intro a hf
          refine sY hf hs rfl rfl rfl (Y_pickT rfl (congrArg (fun b => some (Value.bool b)) hb22) rfl) ?_; clear hf; intro a hf
          refine sY hf hs rfl rfl rfl (Y_assign rfl rfl) ?_; clear hf; intro a hf
          refine wpO_nil ?_
          refine wpL_nil (then_normal ?_)
          exact ⟨(decide (z0 ≤ p1_j)), Option.some.inj hj21, (FrD.pick (FrD.pick (FrD.pick (FrD.pick (FrD.pick (FrD.pick hf.none hf rfl) hf rfl) hf rfl) hf rfl) hf rfl) hf rfl), hs⟩
        · have hj21 := bif_f hj21 hb22
          refine sNo hf rfl rfl rfl (congrArg (fun b => some (Value.bool b)) hb22) rfl rfl rfl ?_; clear hf; intro a hf
          refine sNo hf rfl rfl rfl (congrArg (fun b => some (Value.bool b)) hb22) rfl rfl rfl ?_; clear hf; intro a hf
          refine sNo hf rfl rfl rfl (congrArg (fun b => some (Value.bool b)) hb22) rfl rfl rfl ?_; clear hf; intro a hf
          refine sY hf hs rfl rfl rfl (Y_pickF rfl (congrArg (fun b => some (Value.bool b)) hb22) rfl) ?_; clear hf; intro a hf
          refine sY hf hs rfl rfl rfl (Y_assign rfl rfl) ?_; clear hf; intro a hf
          refine wpO_nil ?_
          refine wpL_nil (then_normal ?_)
          exact ⟨false, Option.some.inj hj21, (FrD.pick (FrD.pick (FrD.pick (FrD.pick (FrD.pick (FrD.pick hf.none hf rfl) hf rfl) hf rfl) hf rfl) hf rfl) hf rfl), hs⟩
      · rintro a w ⟨b19, hr_, hf, hs⟩
        subst hr_
        try dsimp only at hm
        refine wpL_cond hf rfl (fun hb23 => ?_) (fun hb23 => ?_)
        · have hm := bif_t hm hb23
          refine wpL_seq ?_
          refine wpL_draw (by kernel_rfl) (by kernel_rfl) hs ?_
          refine qY hf rfl rfl rfl (Y_load_pb rfl rfl h_z2 rfl ag46) ?_; clear hf; intro a hf
          refine qY hf rfl rfl rfl (Y_move rfl rfl) ?_; clear hf; intro a hf
          refine qY hf rfl rfl rfl (Y_load_pb rfl rfl h_z0 rfl ag3) ?_; clear hf; intro a hf
          refine qY hf rfl rfl rfl (Y_sub rfl rfl rfl) ?_; clear hf; intro a hf
          obtain ⟨q24, hi25, hm⟩ := bind_some hm
          obtain ⟨hi25a, hi25b, hi25q⟩ := idx_some hi25
          obtain ⟨vs26, hv27, hr28⟩ := id h_z2_1
          obtain ⟨A29, c30, hv31, hR32⟩ := hr28 _ _ hi25q
          refine qY hf rfl rfl rfl (Y_index rfl rfl rfl el46 ti23 (Rd.isAt hv27 hv31) hi25a hi25b) ?_; clear hf; intro a hf
          refine qY hf rfl rfl rfl (Y_load_rd rfl rfl (fun w hs => hv27.at hs) (at1 hv31) ag23) ?_; clear hf; intro a hf
          refine qY hf rfl rfl rfl (Y_move rfl rfl) ?_; clear hf; intro a hf
          refine qY hf rfl rfl rfl (Y_load_pb rfl rfl h_z0 rfl ag3) ?_; clear hf; intro a hf
          refine qY hf rfl rfl rfl (Y_sub rfl rfl rfl) ?_; clear hf; intro a hf
          obtain ⟨q33, hi34, hm⟩ := bind_some hm
          obtain ⟨hi34a, hi34b, hi34q⟩ := idx_some hi34
          refine qY hf rfl rfl rfl (Y_index rfl rfl rfl el23 ti2 (Rd.isAt (hR32.at hs) (at1 (ints_at hi34q))) hi34a hi34b) ?_; clear hf; intro a hf
          refine qY hf rfl rfl rfl (Y_load_rd rfl rfl (fun w hs => hR32.at hs) (at1 (ints_at hi34q)) ag2) ?_; clear hf; intro a hf
          refine qY hf rfl rfl rfl (Y_assign rfl rfl) ?_; clear hf; intro a hf
          refine qNil ?_; clear hs; intro w hs
          obtain rfl := Option.some.inj hm
          refine wpL_ret (Qb_ret (ret_tmp rfl hf rfl ?_))
          exact ⟨_, rfl, rfl, hs⟩
        · have hm := bif_f hm hb23
          refine wpL_seq ?_
          refine wpL_region ?_
          refine sY hf hs rfl rfl rfl (Y_move rfl rfl) ?_; clear hf; intro a hf
          refine sY hf hs rfl rfl rfl (Y_load_pb rfl rfl h_z0 rfl ag3) ?_; clear hf; intro a hf
          refine sY hf hs rfl rfl rfl (Y_geq rfl rfl rfl) ?_; clear hf; intro a hf
          refine sY hf hs rfl rfl rfl (Y_assign rfl rfl) ?_; clear hf; intro a hf
          refine wpO_nil ?_
          refine wpL_cond hf rfl (fun hb35 => ?_) (fun hb35 => ?_)
          · have hm := bif_t hm hb35
            refine wpL_seq ?_
            refine wpL_region ?_
            refine sY hf hs rfl rfl rfl (Y_load_pb rfl rfl hp_z3 rfl ag100) ?_; clear hf; intro a hf
            refine sY hf hs rfl rfl rfl (Y_move rfl rfl) ?_; clear hf; intro a hf
            refine sY hf hs rfl rfl rfl (Y_load_pb rfl rfl h_z0 rfl ag3) ?_; clear hf; intro a hf
            refine sY hf hs rfl rfl rfl (Y_sub rfl rfl rfl) ?_; clear hf; intro a hf
            refine sY hf hs rfl rfl rfl (Y_move rfl rfl) ?_; clear hf; intro a hf
            obtain ⟨r36, hc37, hm⟩ := bind_some hm
            refine sCall hf rfl rfl rfl rfl (cap := k_z3) rfl rfl e_z3 (h_z3 (IntKind.i64.wrap (p0_i - z0)) p1_j _ _ hc37 hs.below) ?_; clear hf; rintro _ w ⟨rfl, hs1⟩ a hf; have hs := hs.ext hs1.below; clear hs1
            refine sY hf hs rfl rfl rfl (Y_assign rfl rfl) ?_; clear hf; intro a hf
            refine wpO_nil ?_
            obtain rfl := Option.some.inj hm
            refine wpL_ret (Qb_ret (ret_tmp rfl hf rfl ?_))
            exact ⟨_, rfl, rfl, hs⟩
          · have hm := bif_f hm hb35
            refine wpL_skip ?_
            refine wpL_nil (Qb_normal ?_)
            refine wpL_seq ?_
            refine wpL_region ?_
            refine sY hf hs rfl rfl rfl (Y_assign rfl rfl) ?_; clear hf; intro a hf
            refine wpO_nil ?_
            obtain rfl := Option.some.inj hm
            refine wpL_ret (ret_tmp rfl hf rfl ?_)
            exact ⟨_, rfl, rfl, hs⟩

set_option maxRecDepth 100000 in
theorem impl_matrixBy_ok (F : Nat) (p0_m : Int) (p1_n : Int) (m_p2_entry : Int → Int → Option Int) (f_p2_entry : FuncId) (k_p2_entry : List Value) (r : List (List Int)) (W : World) (hm : impl_matrixBy F p0_m p1_n m_p2_entry = some r) (h_p2_entry : ∀ (x0 : Int) (x1 : Int) (r : Int) (w : World), m_p2_entry x0 x1 = some r → Below W.heap.size W w → Calls Try.prog f_p2_entry (([.int .i64 x0, .int .i64 x1] : List Value) ++ k_p2_entry).toArray w fun e w' => ∃ v, e = .returned v ∧ v = .int .i64 r ∧ St [] w w' []) (e_p2_entry : En Try.prog f_p2_entry) :
    Calls Try.prog 94 [.int .i64 p0_m, .int .i64 p1_n, .func (.func f_p2_entry) #[] k_p2_entry.toArray].toArray W fun e w' => ∃ v, e = .returned v ∧ ∃ A641, ∃ n642, ∃ c643, ∃ vs645, v = .slice A641 n642 c643 ∧ n642 = r.length ∧ St [] W w' [.mat A641 n642 c643 23 2 vs645 r] := by
  unfold impl_matrixBy at hm
  refine Calls.enter (N := 43) Try.func94 rfl rfl rfl (fun a hf => ?_)
  have hs := St.start W
  obtain ⟨w, hw_⟩ : ∃ w, w = W := ⟨W, rfl⟩
  clear hw_ w
  refine wpL_seq ?_
  refine wpL_region ?_
  refine sY hf hs rfl rfl rfl (Y_assign rfl rfl) ?_; clear hf; intro a hf
  refine wpO_nil ?_
  refine wpL_seq ?_
  refine wpL_region ?_
  refine sY hf hs rfl rfl rfl (Y_move rfl rfl) ?_; clear hf; intro a hf
  obtain ⟨ms3, hk2, hm⟩ := bind_some hm
  refine sMakeM 2 hf hs rfl rfl rfl rfl rfl hk2 el46 ti23 rfl ?_; clear hf hs; intro a w A1 vs4 hs hf
  have hs : St [] W w [.mat A1 ms3.length ms3.length 23 2 vs4 ms3] := hs
  refine sY hf hs rfl rfl rfl (Y_assign rfl rfl) ?_; clear hf; intro a hf
  refine wpO_nil ?_
  refine wpL_seq ?_
  refine wpL_seq ?_
  refine wpL_region ?_
  refine sY hf hs rfl rfl rfl (Y_move rfl rfl) ?_; clear hf; intro a hf
  refine sY hf hs rfl rfl rfl (Y_lenH rfl rfl el46 rfl) ?_; clear hf; intro a hf
  refine sY hf hs rfl rfl rfl (Y_move rfl rfl) ?_; clear hf; intro a hf
  refine wpO_nil ?_
  obtain ⟨r484, hl485, hm⟩ := bind_some hm
  refine wpL_block (fun a w => ∃ ms478 : List (List Int), ∃ A479, ∃ n480, ∃ c481, ∃ vs483, ms478 = r484 ∧ n480 = ms478.length ∧ Fr a 43 [(7, .slice A479 n480 c481)] ∧ St [] W w [.mat A479 n480 c481 23 2 vs483 ms478]) ?_ ?_
  · refine wpL_loop (fun n a w => ∃ ms318 : List (List Int), ∃ x324 : Int, ∃ A319, ∃ n320, ∃ c321, ∃ vs323, impl_matrixBy_L4 F p1_n m_p2_entry ms3 n ms318 x324 = some r484 ∧ n320 = ms318.length ∧ Fr a 43 [(1, .int .i64 p1_n), (2, .func (.func f_p2_entry) #[] k_p2_entry.toArray), (7, .slice A319 n320 c321), (13, .int .i64 (ms3.length : Int)), (14, .int .i64 x324)] ∧ St [] W w [.mat A319 n320 c321 23 2 vs323 ms318]) F ?_ ?_ ?_
    · exact ⟨ms3, 0, A1, ms3.length, ms3.length, vs4, hl485, rfl, (FrD.pick (FrD.pick (FrD.pick (FrD.pick (FrD.pick hf.none hf rfl) hf rfl) hf rfl) hf rfl) hf rfl), hs⟩
    · rintro a w ⟨ms318, x324, A319, n320, c321, vs323, h0_, -, -, -⟩; simp [impl_matrixBy_L4] at h0_
    · rintro n487 a w ⟨ms318, x324, A319, n320, c321, vs323, hm486, hn322, hf, hs⟩
      rw [impl_matrixBy_L4] at hm486
      refine wpL_seq ?_
      refine wpL_region ?_
      refine sY hf hs rfl rfl rfl (Y_lss rfl rfl rfl) ?_; clear hf; intro a hf
      refine wpO_nil ?_
      refine wpL_seq ?_
      refine wpL_cond hf rfl (fun hb488 => ?_) (fun hb488 => ?_)
      · have hm486 := bif_t hm486 hb488
        refine wpL_skip ?_
        refine wpL_seq ?_
        refine wpL_block0 ?_
        refine wpL_seq ?_
        refine wpL_region ?_
        refine sY hf hs rfl rfl rfl (Y_move rfl rfl) ?_; clear hf; intro a hf
        refine sY hf hs rfl rfl rfl (Y_assign rfl rfl) ?_; clear hf; intro a hf
        refine wpO_nil ?_
        refine wpL_seq ?_
        refine wpL_region ?_
        refine sY hf hs rfl rfl rfl (Y_move rfl rfl) ?_; clear hf; intro a hf
        refine sY hf hs rfl rfl rfl (Y_move rfl rfl) ?_; clear hf; intro a hf
        refine sY hf hs rfl rfl rfl (Y_move rfl rfl) ?_; clear hf; intro a hf
        obtain ⟨xs491, hk490, hm486⟩ := bind_some hm486
        refine sMakeL (enc := ints) hf hs rfl rfl rfl rfl rfl hk490 el23 ti2 rfl ints_made ?_; clear hf hs; intro a w A489 hs hf
        have hs : St [] W w [.mat A319 n320 c321 23 2 vs323 ms318, .row A489 xs491.length xs491.length 2 1 (ints xs491)] := hs
        obtain ⟨q492, hi493, hm486⟩ := bind_some hm486
        obtain ⟨hi493a, hi493b, hi493q⟩ := idx_some hi493
        obtain ⟨A494, c495, hv496⟩ := hs.matRow (i := 0) rfl hi493q
        refine sY hf hs rfl rfl rfl (Y_index rfl rfl rfl el46 ti23 (Rd.isAt (hs.rdV (i := 0) rfl) hv496) hi493a (ltn hn322 hi493b)) ?_; clear hf; intro a hf
        obtain ⟨ms497, hu498, hm486⟩ := bind_some hm486
        refine sStoreRowM (i := 0) (j := 1) (k := x324) hf hs rfl rfl rfl rfl rfl rfl rfl (by decide) rfl hu498 ti23 ?_; clear hs; intro w vs499 hs
        have hs : St [] W w [.mat A319 n320 c321 23 2 vs499 ms497] := hs
        refine wpO_nil ?_
        refine wpL_seq ?_
        refine wpL_region ?_
        refine sY hf hs rfl rfl rfl (Y_move rfl rfl) ?_; clear hf; intro a hf
        refine sY hf hs rfl rfl rfl (Y_move rfl rfl) ?_; clear hf; intro a hf
        obtain ⟨q500, hi501, hm486⟩ := bind_some hm486
        obtain ⟨hi501a, hi501b, hi501q⟩ := idx_some hi501
        obtain ⟨A502, c503, hv504⟩ := hs.matRow (i := 0) rfl hi501q
        refine sY hf hs rfl rfl rfl (Y_index rfl rfl rfl el46 ti23 (Rd.isAt (hs.rdV (i := 0) rfl) hv504) hi501a (ltn ((hn322).trans (upd_len hu498).symm) hi501b)) ?_; clear hf; intro a hf
        refine sY hf hs rfl rfl rfl (Y_load_rd rfl rfl (fun w hs => hs.rdV (i := 0) rfl) (at1 hv504) ag23) ?_; clear hf; intro a hf
        refine sY hf hs rfl rfl rfl (Y_lenH rfl rfl el23 rfl) ?_; clear hf; intro a hf
        refine sY hf hs rfl rfl rfl (Y_move rfl rfl) ?_; clear hf; intro a hf
        refine wpO_nil ?_
        obtain ⟨r606, hl607, hm486⟩ := bind_some hm486
        refine wpL_block (fun a w => ∃ ms604 : List (List Int), ms604 = r606 ∧ n320 = ms604.length ∧ Fr a 43 [(1, .int .i64 p1_n), (2, .func (.func f_p2_entry) #[] k_p2_entry.toArray), (7, .slice A319 n320 c321), (13, .int .i64 (ms3.length : Int)), (14, .int .i64 x324)] ∧ St [] W w [.mat A319 n320 c321 23 2 vs499 ms604]) ?_ ?_
        · refine wpL_loop (fun n a w => ∃ ms570 : List (List Int), ∃ x572 : Int, impl_matrixBy_L5 F m_p2_entry x324 q500 n ms570 x572 = some r606 ∧ n320 = ms570.length ∧ Fr a 43 [(1, .int .i64 p1_n), (2, .func (.func f_p2_entry) #[] k_p2_entry.toArray), (7, .slice A319 n320 c321), (8, .int .i64 x324), (13, .int .i64 (ms3.length : Int)), (14, .int .i64 x324), (26, .int .i64 (q500.length : Int)), (27, .int .i64 x572)] ∧ St [] W w [.mat A319 n320 c321 23 2 vs499 ms570]) F ?_ ?_ ?_
          · exact ⟨ms497, 0, hl607, ((hn322).trans (upd_len hu498).symm), (FrD.pick (FrD.pick (FrD.pick (FrD.pick (FrD.pick (FrD.pick (FrD.pick (FrD.pick hf.none hf rfl) hf rfl) hf rfl) hf rfl) hf rfl) hf rfl) hf rfl) hf rfl), hs⟩
          · rintro a w ⟨ms570, x572, h0_, -, -, -⟩; simp [impl_matrixBy_L5] at h0_
          · rintro n609 a w ⟨ms570, x572, hm608, hn571, hf, hs⟩
            rw [impl_matrixBy_L5] at hm608
            refine wpL_seq ?_
            refine wpL_region ?_
            refine sY hf hs rfl rfl rfl (Y_lss rfl rfl rfl) ?_; clear hf; intro a hf
            refine wpO_nil ?_
            refine wpL_seq ?_
            refine wpL_cond hf rfl (fun hb610 => ?_) (fun hb610 => ?_)
            · have hm608 := bif_t hm608 hb610
              refine wpL_skip ?_
              refine wpL_seq ?_
              refine wpL_block0 ?_
              refine wpL_seq ?_
              refine wpL_region ?_
              refine sY hf hs rfl rfl rfl (Y_move rfl rfl) ?_; clear hf; intro a hf
              refine sY hf hs rfl rfl rfl (Y_assign rfl rfl) ?_; clear hf; intro a hf
              refine wpO_nil ?_
              refine wpL_drawM [.mat A319 n320 c321 23 2 vs499 ms570] [10] (by kernel_rfl) hs ?_; clear hs; intro w hs
              have hs0 : St [] W w [.mat A319 n320 c321 23 2 vs499 ms570] := hs
              refine mYp (i := 0) rfl (by kernel_rfl) (by kernel_rfl) hf rfl rfl rfl (fun _ => Y_move rfl rfl) ?_; clear hf; intro a hf
              refine mYp (i := 1) rfl (by kernel_rfl) (by kernel_rfl) hf rfl rfl rfl (fun _ => Y_move rfl rfl) ?_; clear hf; intro a hf
              obtain ⟨q626, hi627, hm608⟩ := bind_some hm608
              obtain ⟨hi627a, hi627b, hi627q⟩ := idx_some hi627
              obtain ⟨A628, c629, hv630⟩ := hs.matRow (i := 0) rfl hi627q
              refine mYp (i := 2) rfl (by kernel_rfl) (by kernel_rfl) hf rfl rfl rfl (fun _ => Y_index rfl rfl rfl el46 ti23 (Rd.isAt (hs.rdV (i := 0) rfl) hv630) hi627a (ltn hn571 hi627b)) ?_; clear hf; intro a hf
              refine mY (i := 3) [[]] rfl (by kernel_rfl) (by kernel_rfl) hf hs0 rfl rfl rfl (Y_load_rd rfl rfl (fun w hs => hs.rdV (i := 0) rfl) (at1 hv630) ag23) ?_; clear hf; intro a hf
              refine mYp (i := 4) rfl (by kernel_rfl) (by kernel_rfl) hf rfl rfl rfl (fun _ => Y_move rfl rfl) ?_; clear hf; intro a hf
              refine mYp (i := 5) rfl (by kernel_rfl) (by kernel_rfl) hf rfl rfl rfl (fun _ => Y_move rfl rfl) ?_; clear hf; intro a hf
              refine mYp (i := 6) rfl (by kernel_rfl) (by kernel_rfl) hf rfl rfl rfl (fun _ => Y_move rfl rfl) ?_; clear hf; intro a hf
              refine mYp (i := 7) rfl (by kernel_rfl) (by kernel_rfl) hf rfl rfl rfl (fun _ => Y_move rfl rfl) ?_; clear hf; intro a hf
              refine mRun (i := 8) rfl (by kernel_rfl) ?_
              obtain ⟨r631, hc632, hm608⟩ := bind_some hm608
              refine sCall hf rfl rfl rfl rfl (cap := k_p2_entry) rfl rfl e_p2_entry (h_p2_entry x324 x572 _ _ hc632 hs.below) ?_; clear hf; rintro _ w ⟨rfl, hs1⟩ a hf; have hs := hs.ext hs1.below; clear hs1
              have hs0 : St [] W w [.mat A319 n320 c321 23 2 vs499 ms570] := hs
              refine wpO_nil ⟨Or.inr (fun _ => hs0), ?_⟩
              obtain ⟨q633, hi634, hm608⟩ := bind_some hm608
              obtain ⟨hi634a, hi634b, hi634q⟩ := idx_some hi634
              refine mYp (i := 9) rfl (by kernel_rfl) (by kernel_rfl) hf rfl rfl rfl (fun _ => Y_index rfl rfl rfl el23 ti2 (Rd.isAt (hs.rdRow (i := 0) rfl ⟨hi627q, hv630⟩) (at1 (ints_at hi634q))) hi634a hi634b) ?_; clear hf; intro a hf
              refine mRun (i := 10) rfl (by kernel_rfl) ?_
              obtain ⟨xs635, hu637, hm608⟩ := bind_some hm608
              obtain ⟨ms636, hu638, hm608⟩ := bind_some hm608
              refine sStoreM (i := 0) (k := x324) hf hs rfl rfl rfl rfl rfl rfl hi627q hv630 rfl hu637 hu638 ti2 ?_; clear hs; intro w hs
              obtain ⟨hq639, hv640⟩ := rowUpd hu637 hu638 hv630
              have hs : St [] W w [.mat A319 n320 c321 23 2 vs499 ms636] := hs
              refine wpO_nil ⟨Or.inl (by decide), ?_⟩
              refine mDone (by kernel_rfl) ?_
              clear hs0
              refine wpL_nil (Qb_normal ?_)
              refine wpL_region ?_
              refine sY hf hs rfl rfl rfl (Y_add rfl rfl rfl) ?_; clear hf; intro a hf
              refine sY hf hs rfl rfl rfl (Y_move rfl rfl) ?_; clear hf; intro a hf
              refine wpO_nil ?_
              refine wpL_nil (Ql_normal ?_)
              exact ⟨ms636, (IntKind.i64.wrap (x572 + 1)), hm608, ((hn571).trans (upd_len hu638).symm), (FrD.pick (FrD.pick (FrD.pick (FrD.pick (FrD.pick (FrD.pick (FrD.pick (FrD.pick hf.none hf rfl) hf rfl) hf rfl) hf rfl) hf rfl) hf rfl) hf rfl) hf rfl), hs⟩
            · have hm608 := bif_f hm608 hb610
              refine wpL_exit (Ql_exit (Qb_exit ?_))
              exact ⟨ms570, Option.some.inj hm608, hn571, (FrD.pick (FrD.pick (FrD.pick (FrD.pick (FrD.pick hf.none hf rfl) hf rfl) hf rfl) hf rfl) hf rfl), hs⟩
        · rintro a w ⟨ms604, hr_, hn605, hf, hs⟩
          subst hr_
          try dsimp only at hm486
          refine wpL_nil (Qb_normal ?_)
          refine wpL_region ?_
          refine sY hf hs rfl rfl rfl (Y_add rfl rfl rfl) ?_; clear hf; intro a hf
          refine sY hf hs rfl rfl rfl (Y_move rfl rfl) ?_; clear hf; intro a hf
          refine wpO_nil ?_
          refine wpL_nil (Ql_normal ?_)
          exact ⟨ms604, (IntKind.i64.wrap (x324 + 1)), A319, n320, c321, vs499, hm486, hn605, (FrD.pick (FrD.pick (FrD.pick (FrD.pick (FrD.pick hf.none hf rfl) hf rfl) hf rfl) hf rfl) hf rfl), hs⟩
      · have hm486 := bif_f hm486 hb488
        refine wpL_exit (Ql_exit (Qb_exit ?_))
        exact ⟨ms318, A319, n320, c321, vs323, Option.some.inj hm486, hn322, (FrD.pick hf.none hf rfl), hs⟩
  · rintro a w ⟨ms478, A479, n480, c481, vs483, hr_, hn482, hf, hs⟩
    subst hr_
    try dsimp only at hm
    refine wpL_seq ?_
    refine wpL_region ?_
    refine sY hf hs rfl rfl rfl (Y_move rfl rfl) ?_; clear hf; intro a hf
    refine sY hf hs rfl rfl rfl (Y_assign rfl rfl) ?_; clear hf; intro a hf
    refine wpO_nil ?_
    obtain rfl := Option.some.inj hm
    refine wpL_ret (ret_tmp rfl hf rfl ?_)
    exact ⟨_, rfl, A479, n480, c481, vs483, rfl, hn482, hs⟩

set_option maxRecDepth 100000 in
theorem impl_blocks_ok (F : Nat) (p0_a : List (List Int)) (A_p0_a_1 : Option Addr) (n_p0_a_1 c_p0_a_1 : Nat) (hn_p0_a_1 : n_p0_a_1 = p0_a.length) (p1_b : List (List Int)) (A_p1_b_1 : Option Addr) (n_p1_b_1 c_p1_b_1 : Nat) (hn_p1_b_1 : n_p1_b_1 = p1_b.length) (m_p2_below : Int → Int → Option Int) (f_p2_below : FuncId) (k_p2_below : List Value) (r : List (List Int)) (W : World) (hm : impl_blocks F p0_a p1_b m_p2_below = some r) (h_p0_a_1 : RdM W A_p0_a_1 p0_a) (h_p1_b_1 : RdM W A_p1_b_1 p1_b) (h_p2_below : ∀ (x0 : Int) (x1 : Int) (r : Int) (w : World), m_p2_below x0 x1 = some r → Below W.heap.size W w → Calls Try.prog f_p2_below (([.int .i64 x0, .int .i64 x1] : List Value) ++ k_p2_below).toArray w fun e w' => ∃ v, e = .returned v ∧ v = .int .i64 r ∧ St [] w w' []) (e_p2_below : En Try.prog f_p2_below) :
    Calls Try.prog 100 [.slice A_p0_a_1 n_p0_a_1 c_p0_a_1, .slice A_p1_b_1 n_p1_b_1 c_p1_b_1, .func (.func f_p2_below) #[] k_p2_below.toArray].toArray W fun e w' => ∃ v, e = .returned v ∧ ∃ A12, ∃ n13, ∃ c14, ∃ vs16, v = .slice A12 n13 c14 ∧ n13 = r.length ∧ St [] W w' [.mat A12 n13 c14 23 2 vs16 r] := by
  subst hn_p0_a_1
  subst hn_p1_b_1
  unfold impl_blocks at hm
  refine Calls.enter (N := 20) Try.func100 rfl rfl rfl (fun a hf => ?_)
  have hs := St.start W
  obtain ⟨w, hw_⟩ : ∃ w, w = W := ⟨W, rfl⟩
  clear hw_ w
  refine wpL_seq ?_
  refine wpL_region ?_
  refine sBox hf hs rfl rfl rfl rfl rfl (cs := [.slice A_p0_a_1 p0_a.length c_p0_a_1]) rfl ?_; clear hf hs; intro a w b1 hs hf
  have hs : St [] W w [.blk b1 46 [.slice A_p0_a_1 p0_a.length c_p0_a_1]] := hs
  refine sBox hf hs rfl rfl rfl rfl rfl (cs := [.slice A_p1_b_1 p1_b.length c_p1_b_1]) rfl ?_; clear hf hs; intro a w b2 hs hf
  have hs : St [] W w [.blk b1 46 [.slice A_p0_a_1 p0_a.length c_p0_a_1], .blk b2 46 [.slice A_p1_b_1 p1_b.length c_p1_b_1]] := hs
  refine sBox hf hs rfl rfl rfl rfl rfl (cs := [.func (.func f_p2_below) #[] k_p2_below.toArray]) rfl ?_; clear hf hs; intro a w b3 hs hf
  have hs : St [] W w [.blk b1 46 [.slice A_p0_a_1 p0_a.length c_p0_a_1], .blk b2 46 [.slice A_p1_b_1 p1_b.length c_p1_b_1], .blk b3 100 [.func (.func f_p2_below) #[] k_p2_below.toArray]] := hs
  refine sY hf hs rfl rfl rfl (Y_assign rfl rfl) ?_; clear hf; intro a hf
  refine wpO_nil ?_
  refine wpL_seq ?_
  refine wpL_region ?_
  refine sY hf hs rfl rfl rfl (Y_load_blk rfl rfl (i := 0) rfl rfl ag46) ?_; clear hf; intro a hf
  refine sY hf hs rfl rfl rfl (Y_lenH rfl rfl el46 rfl) ?_; clear hf; intro a hf
  refine sAlloc hf hs rfl rfl rfl rfl ti3 ?_; clear hf hs; intro a w b4 hs hf
  have hs : St [] W w [.blk b1 46 [.slice A_p0_a_1 p0_a.length c_p0_a_1], .blk b2 46 [.slice A_p1_b_1 p1_b.length c_p1_b_1], .blk b3 100 [.func (.func f_p2_below) #[] k_p2_below.toArray], .blk b4 3 [.int .i64 0]] := hs
  refine sStore (i := 3) (us := [.int .i64 (p0_a.length : Int)]) hf hs rfl rfl rfl rfl rfl rfl ti3 rfl rfl rfl (Nat.le_of_ble_eq_true rfl) rfl ?_; clear hs; intro w hs
  have hs : St [] W w [.blk b1 46 [.slice A_p0_a_1 p0_a.length c_p0_a_1], .blk b2 46 [.slice A_p1_b_1 p1_b.length c_p1_b_1], .blk b3 100 [.func (.func f_p2_below) #[] k_p2_below.toArray], .blk b4 3 [.int .i64 (p0_a.length : Int)]] := hs
  refine wpO_nil ?_
  refine wpL_seq ?_
  refine wpL_region ?_
  refine sY hf hs rfl rfl rfl (Y_load_blk rfl rfl (i := 3) rfl rfl ag3) ?_; clear hf; intro a hf
  refine sY hf hs rfl rfl rfl (Y_load_blk rfl rfl (i := 1) rfl rfl ag46) ?_; clear hf; intro a hf
  refine sY hf hs rfl rfl rfl (Y_lenH rfl rfl el46 rfl) ?_; clear hf; intro a hf
  refine sY hf hs rfl rfl rfl (Y_add rfl rfl rfl) ?_; clear hf; intro a hf
  refine sY hf hs rfl rfl rfl (Y_load_blk rfl rfl (i := 3) rfl rfl ag3) ?_; clear hf; intro a hf
  refine sY hf hs rfl rfl rfl (Y_load_blk rfl rfl (i := 1) rfl rfl ag46) ?_; clear hf; intro a hf
  refine sY hf hs rfl rfl rfl (Y_lenH rfl rfl el46 rfl) ?_; clear hf; intro a hf
  refine sY hf hs rfl rfl rfl (Y_add rfl rfl rfl) ?_; clear hf; intro a hf
  refine sY hf hs rfl rfl rfl (Y_makeFunc (us := []) (vs := [.pointer (some ⟨b4, 0, none⟩), .pointer (some ⟨b1, 0, none⟩), .pointer (some ⟨b2, 0, none⟩), .pointer (some ⟨b3, 0, none⟩)]) rfl rfl rfl) ?_; clear hf; intro a hf
  obtain ⟨r5, hc6, hm⟩ := bind_some hm
  refine sCall hf rfl rfl rfl rfl (cap := []) rfl rfl en94 (impl_matrixBy_ok F (IntKind.i64.wrap ((p0_a.length : Int) + (p1_b.length : Int))) (IntKind.i64.wrap ((p0_a.length : Int) + (p1_b.length : Int))) (fun x0 x1 => impl_blocks_c1 F x0 x1 (p0_a.length : Int) p0_a p1_b m_p2_below) 155 ([.pointer (some ⟨b4, 0, none⟩), .pointer (some ⟨b1, 0, none⟩), .pointer (some ⟨b2, 0, none⟩), .pointer (some ⟨b3, 0, none⟩)]) _ _ hc6 (fun x0 x1 r w' hm_ hb => impl_blocks_c1_ok F x0 x1 b4 (p0_a.length : Int) b1 p0_a A_p0_a_1 p0_a.length c_p0_a_1 rfl b2 p1_b A_p1_b_1 p1_b.length c_p1_b_1 rfl b3 m_p2_below f_p2_below k_p2_below r w' hm_ ((hs.pb (i := 3) rfl).below hb (Nat.le_refl _)) ((h_p0_a_1.at hs).below hb (Nat.le_refl _)) ((hs.pb (i := 0) rfl).below hb (Nat.le_refl _)) ((h_p1_b_1.at hs).below hb (Nat.le_refl _)) ((hs.pb (i := 1) rfl).below hb (Nat.le_refl _)) (fun y0 y1 r2 w2 hm2_ hb2 => h_p2_below y0 y1 r2 w2 hm2_ (hs.below.trans ((hb.trans (hb2.mono hb.size)).mono hs.below.size))) e_p2_below ((hs.pb (i := 2) rfl).below hb (Nat.le_refl _))) en155) ?_; clear hf
  rintro _ w ⟨A7, n8, c9, vs11, rfl, hn10, hs1⟩ a hf
  have hs : St [] W w [.blk b1 46 [.slice A_p0_a_1 p0_a.length c_p0_a_1], .blk b2 46 [.slice A_p1_b_1 p1_b.length c_p1_b_1], .blk b3 100 [.func (.func f_p2_below) #[] k_p2_below.toArray], .blk b4 3 [.int .i64 (p0_a.length : Int)], .mat A7 n8 c9 23 2 vs11 r5] := hs.join hs1
  clear hs1
  refine sY hf hs rfl rfl rfl (Y_assign rfl rfl) ?_; clear hf; intro a hf
  refine wpO_nil ?_
  obtain rfl := Option.some.inj hm
  refine wpL_ret (ret_tmp rfl hf rfl ?_)
  exact ⟨_, rfl, A7, n8, c9, vs11, rfl, hn10, hs.sel [4] (by decide)⟩

set_option maxRecDepth 100000 in
theorem impl_ParallelSystem_c1_ok (F : Nat) (p0 : Int) (p1 : Int) (r : Int) (W : World) (hm : impl_ParallelSystem_c1 F p0 p1 = some r) :
    Calls Try.prog 101 [.int .i64 p0, .int .i64 p1].toArray W fun e w' => ∃ v, e = .returned v ∧ v = .int .i64 r ∧ St [] W w' [] := by
  unfold impl_ParallelSystem_c1 at hm
  refine Calls.enter (N := 5) Try.func101 rfl rfl rfl (fun a hf => ?_)
  have hs := St.start W
  obtain ⟨w, hw_⟩ : ∃ w, w = W := ⟨W, rfl⟩
  clear hw_ w
  refine wpL_seq ?_
  refine wpL_region ?_
  refine sY hf hs rfl rfl rfl (Y_assign rfl rfl) ?_; clear hf; intro a hf
  refine wpO_nil ?_
  refine wpL_seq ?_
  refine wpL_region ?_
  refine sY hf hs rfl rfl rfl (Y_assign rfl rfl) ?_; clear hf; intro a hf
  refine wpO_nil ?_
  obtain rfl := Option.some.inj hm
  refine wpL_ret (ret_tmp rfl hf rfl ?_)
  exact ⟨_, rfl, rfl, hs⟩

set_option maxRecDepth 100000 in
theorem slices_Grow_int64_ok (F : Nat) (p1_n : Int) (r : List Int) (W : World) (hm : slices_Grow_int64 F p1_n = some r) :
    Calls Try.prog 156 [.slice none 0 0, .int .i64 p1_n].toArray W fun e w' => ∃ v, e = .returned v ∧ ∃ A24, ∃ n25, ∃ c26, v = .slice A24 n25 c26 ∧ n25 = r.length ∧ St [] W w' [.row A24 n25 c26 2 1 (ints r)] := by
  unfold slices_Grow_int64 at hm
  refine Calls.enter (N := 27) Try.func156 rfl rfl rfl (fun a hf => ?_)
  have hs := St.start W
  obtain ⟨w, hw_⟩ : ∃ w, w = W := ⟨W, rfl⟩
  clear hw_ w
  refine wpL_seq ?_
  refine wpL_region ?_
  refine sY hf hs rfl rfl rfl (Y_assign rfl rfl) ?_; clear hf; intro a hf
  refine wpO_nil ?_
  refine wpL_seq ?_
  refine wpL_seq ?_
  refine wpL_region ?_
  refine sY hf hs rfl rfl rfl (Y_move rfl rfl) ?_; clear hf; intro a hf
  refine sY hf hs rfl rfl rfl (Y_lss rfl rfl rfl) ?_; clear hf; intro a hf
  refine wpO_nil ?_
  refine wpL_cond hf rfl (fun hb1 => ?_) (fun hb1 => ?_)
  · have hm := bif_t hm hb1
    cases hm
  · have hm := bif_f hm hb1
    refine wpL_skip ?_
    refine wpL_seq ?_
    refine wpL_seq ?_
    refine wpL_region ?_
    refine sY hf hs rfl rfl rfl (Y_move rfl rfl) ?_; clear hf; intro a hf
    refine sY hf hs rfl rfl rfl (Y_move rfl rfl) ?_; clear hf; intro a hf
    refine sY hf hs rfl rfl rfl (Y_cap0 rfl rfl el23) ?_; clear hf; intro a hf
    refine sY hf hs rfl rfl rfl (Y_move rfl rfl) ?_; clear hf; intro a hf
    refine sY hf hs rfl rfl rfl (Y_lenH rfl rfl el23 rfl) ?_; clear hf; intro a hf
    refine sY hf hs rfl rfl rfl (Y_sub rfl rfl rfl) ?_; clear hf; intro a hf
    refine sY hf hs rfl rfl rfl (Y_sub rfl rfl rfl) ?_; clear hf; intro a hf
    refine sY hf hs rfl rfl rfl (Y_assign rfl rfl) ?_; clear hf; intro a hf
    refine wpO_nil ?_
    refine wpL_seq ?_
    refine wpL_region ?_
    refine sY hf hs rfl rfl rfl (Y_move rfl rfl) ?_; clear hf; intro a hf
    refine sY hf hs rfl rfl rfl (Y_gtr rfl rfl rfl) ?_; clear hf; intro a hf
    refine wpO_nil ?_
    obtain ⟨r14, hj15, hm⟩ := bind_some hm
    refine wpL_cut (fun a w => ∃ xs9 : List Int, ∃ A10, ∃ n11, ∃ c12, xs9 = r14 ∧ n11 = xs9.length ∧ Fr a 27 [(0, .slice A10 n11 c12)] ∧ St [] W w [.row A10 n11 c12 2 1 (ints xs9)]) ?_ ?_
    · refine wpL_cond hf rfl (fun hb16 => ?_) (fun hb16 => ?_)
      · have hj15 := bif_t hj15 hb16
        refine wpL_region ?_
        refine sY hf hs rfl rfl rfl (Y_move rfl rfl) ?_; clear hf; intro a hf
        refine sY hf hs rfl rfl rfl (Y_move rfl rfl) ?_; clear hf; intro a hf
        refine sY hf hs rfl rfl rfl (Y_cap0 rfl rfl el23) ?_; clear hf; intro a hf
        refine sY hf hs rfl rfl rfl (Y_sliceH (l := 0) rfl rfl rfl (by decide) (by decide) el23 ti2) ?_; clear hf; intro a hf
        refine sY hf hs rfl rfl rfl (Y_move rfl rfl) ?_; clear hf; intro a hf
        obtain ⟨xs19, hk20, hj15⟩ := bind_some hj15
        refine sZeros hf hs rfl rfl rfl rfl rfl rfl hk20 el23 un3 ti2 ?_; clear hf hs; intro a w A17 c18 hs hf
        have hs : St [] W w [.row A17 xs19.length c18 2 1 (ints xs19)] := hs
        refine sY hf hs rfl rfl rfl (Y_move rfl rfl) ?_; clear hf; intro a hf
        refine sY hf hs rfl rfl rfl (Y_lenH rfl rfl el23 rfl) ?_; clear hf; intro a hf
        obtain ⟨xs22, hk21, hj15⟩ := bind_some hj15
        refine sY hf hs rfl rfl rfl (Y_sliceH rfl rfl rfl (cutTo_some hk21).1 (leC rfl (hs.capR (i := 0) rfl) hk21) el23 ti2) ?_; clear hf; intro a hf
        have hs := hs.cutInts (i := 0) rfl rfl hk21
        have hs : St [] W _ [.row A17 ((([] : List Int).length : Int) : Int).toNat c18 2 1 (ints xs22)] := hs
        refine sY hf hs rfl rfl rfl (Y_assign rfl rfl) ?_; clear hf; intro a hf
        refine wpO_nil ?_
        refine wpL_nil (then_normal ?_)
        exact ⟨xs22, A17, ((([] : List Int).length : Int) : Int).toNat, c18, Option.some.inj hj15, (pre_len hk21), (FrD.pick hf.none hf rfl), hs⟩
      · have hj15 := bif_f hj15 hb16
        refine wpL_skip ?_
        have hs : St [] W _ [.row none 0 0 2 1 (ints ([] : List Int))] := hs.addNil 2 1
        refine wpL_nil (then_normal ?_)
        exact ⟨([] : List Int), none, 0, 0, Option.some.inj hj15, rfl, (FrD.pick hf.none hf rfl), hs⟩
    · rintro a w ⟨xs9, A10, n11, c12, hr_, hn13, hf, hs⟩
      subst hr_
      try dsimp only at hm
      refine wpL_seq ?_
      refine wpL_region ?_
      refine sY hf hs rfl rfl rfl (Y_move rfl rfl) ?_; clear hf; intro a hf
      refine sY hf hs rfl rfl rfl (Y_assign rfl rfl) ?_; clear hf; intro a hf
      refine wpO_nil ?_
      obtain rfl := Option.some.inj hm
      refine wpL_ret (ret_tmp rfl hf rfl ?_)
      exact ⟨_, rfl, A10, n11, c12, rfl, hn13, hs⟩

set_option maxRecDepth 100000 in
theorem slices_Concat_int64_ok (F : Nat) (p0_slices : List (List Int)) (A_p0_slices_1 : Option Addr) (n_p0_slices_1 c_p0_slices_1 : Nat) (hn_p0_slices_1 : n_p0_slices_1 = p0_slices.length) (r : List Int) (W : World) (hm : slices_Concat_int64 F p0_slices = some r) (h_p0_slices_1 : RdM W A_p0_slices_1 p0_slices) :
    Calls Try.prog 102 [.slice A_p0_slices_1 n_p0_slices_1 c_p0_slices_1].toArray W fun e w' => ∃ v, e = .returned v ∧ ∃ A137, ∃ n138, ∃ c139, v = .slice A137 n138 c139 ∧ n138 = r.length ∧ St [] W w' [.row A137 n138 c139 2 1 (ints r)] := by
  subst hn_p0_slices_1
  unfold slices_Concat_int64 at hm
  refine Calls.enter (N := 36) Try.func102 rfl rfl rfl (fun a hf => ?_)
  have hs := St.start W
  obtain ⟨w, hw_⟩ : ∃ w, w = W := ⟨W, rfl⟩
  clear hw_ w
  refine wpL_seq ?_
  refine wpL_region ?_
  refine sY hf hs rfl rfl rfl (Y_assign rfl rfl) ?_; clear hf; intro a hf
  refine wpO_nil ?_
  refine wpL_seq ?_
  refine wpL_region ?_
  refine sY hf hs rfl rfl rfl (Y_assign rfl rfl) ?_; clear hf; intro a hf
  refine wpO_nil ?_
  refine wpL_seq ?_
  refine wpL_seq ?_
  refine wpL_region ?_
  refine sY hf hs rfl rfl rfl (Y_move rfl rfl) ?_; clear hf; intro a hf
  refine sY hf hs rfl rfl rfl (Y_lenH rfl rfl el46 rfl) ?_; clear hf; intro a hf
  refine sY hf hs rfl rfl rfl (Y_move rfl rfl) ?_; clear hf; intro a hf
  refine wpO_nil ?_
  obtain ⟨r39, hl40, hm⟩ := bind_some hm
  refine wpL_block (fun a w => ∃ x38 : Int, x38 = r39 ∧ Fr a 36 [(0, .slice A_p0_slices_1 p0_slices.length c_p0_slices_1), (3, .int .i64 x38)] ∧ St [] W w []) ?_ ?_
  · refine wpL_loop (fun n a w => ∃ x25 : Int, ∃ x26 : Int, slices_Concat_int64_L1 F p0_slices n x25 x26 = some r39 ∧ Fr a 36 [(0, .slice A_p0_slices_1 p0_slices.length c_p0_slices_1), (3, .int .i64 x25), (9, .slice A_p0_slices_1 p0_slices.length c_p0_slices_1), (10, .int .i64 (p0_slices.length : Int)), (11, .int .i64 x26)] ∧ St [] W w []) F ?_ ?_ ?_
    · exact ⟨0, 0, hl40, (FrD.pick (FrD.pick (FrD.pick (FrD.pick (FrD.pick hf.none hf rfl) hf rfl) hf rfl) hf rfl) hf rfl), hs⟩
    · rintro a w ⟨x25, x26, h0_, -, -⟩; simp [slices_Concat_int64_L1] at h0_
    · rintro n42 a w ⟨x25, x26, hm41, hf, hs⟩
      rw [slices_Concat_int64_L1] at hm41
      refine wpL_seq ?_
      refine wpL_region ?_
      refine sY hf hs rfl rfl rfl (Y_lss rfl rfl rfl) ?_; clear hf; intro a hf
      refine wpO_nil ?_
      refine wpL_seq ?_
      refine wpL_cond hf rfl (fun hb43 => ?_) (fun hb43 => ?_)
      · have hm41 := bif_t hm41 hb43
        refine wpL_skip ?_
        refine wpL_seq ?_
        refine wpL_block0 ?_
        refine wpL_seq ?_
        refine wpL_region ?_
        obtain ⟨q44, hi45, hm41⟩ := bind_some hm41
        obtain ⟨hi45a, hi45b, hi45q⟩ := idx_some hi45
        obtain ⟨vs46, hv47, hr48⟩ := id h_p0_slices_1
        obtain ⟨A49, c50, hv51, hR52⟩ := hr48 _ _ hi45q
        refine sY hf hs rfl rfl rfl (Y_index rfl rfl rfl el46 ti23 (Rd.isAt hv47 hv51) hi45a hi45b) ?_; clear hf; intro a hf
        refine sY hf hs rfl rfl rfl (Y_load_rd rfl rfl (fun w hs => hv47.at hs) (at1 hv51) ag23) ?_; clear hf; intro a hf
        refine sY hf hs rfl rfl rfl (Y_assign rfl rfl) ?_; clear hf; intro a hf
        refine wpO_nil ?_
        refine wpL_seq ?_
        refine wpL_region ?_
        refine sY hf hs rfl rfl rfl (Y_move rfl rfl) ?_; clear hf; intro a hf
        refine sY hf hs rfl rfl rfl (Y_move rfl rfl) ?_; clear hf; intro a hf
        refine sY hf hs rfl rfl rfl (Y_lenH rfl rfl el23 rfl) ?_; clear hf; intro a hf
        refine sY hf hs rfl rfl rfl (Y_add rfl rfl rfl) ?_; clear hf; intro a hf
        refine sY hf hs rfl rfl rfl (Y_assign rfl rfl) ?_; clear hf; intro a hf
        refine wpO_nil ?_
        refine wpL_seq ?_
        refine wpL_region ?_
        refine sY hf hs rfl rfl rfl (Y_move rfl rfl) ?_; clear hf; intro a hf
        refine sY hf hs rfl rfl rfl (Y_lss rfl rfl rfl) ?_; clear hf; intro a hf
        refine wpO_nil ?_
        refine wpL_cond hf rfl (fun hb53 => ?_) (fun hb53 => ?_)
        · have hm41 := bif_t hm41 hb53
          cases hm41
        · have hm41 := bif_f hm41 hb53
          refine wpL_skip ?_
          refine wpL_nil (Qb_normal ?_)
          refine wpL_region ?_
          refine sY hf hs rfl rfl rfl (Y_add rfl rfl rfl) ?_; clear hf; intro a hf
          refine sY hf hs rfl rfl rfl (Y_move rfl rfl) ?_; clear hf; intro a hf
          refine wpO_nil ?_
          refine wpL_nil (Ql_normal ?_)
          exact ⟨(IntKind.i64.wrap (x25 + (q44.length : Int))), (IntKind.i64.wrap (x26 + 1)), hm41, (FrD.pick (FrD.pick (FrD.pick (FrD.pick (FrD.pick hf.none hf rfl) hf rfl) hf rfl) hf rfl) hf rfl), hs⟩
      · have hm41 := bif_f hm41 hb43
        refine wpL_exit (Ql_exit (Qb_exit ?_))
        exact ⟨x25, Option.some.inj hm41, (FrD.pick (FrD.pick hf.none hf rfl) hf rfl), hs⟩
  · rintro a w ⟨x38, hr_, hf, hs⟩
    subst hr_
    try dsimp only at hm
    refine wpL_seq ?_
    refine wpL_region ?_
    refine sY hf hs rfl rfl rfl (Y_move rfl rfl) ?_; clear hf; intro a hf
    obtain ⟨r54, hc55, hm⟩ := bind_some hm
    refine sCall hf rfl rfl rfl rfl (cap := []) rfl rfl en156 (slices_Grow_int64_ok F x38 _ _ hc55) ?_; clear hf
    rintro _ w ⟨A56, n57, c58, rfl, hn59, hs1⟩ a hf
    have hs : St [] W w [.row A56 n57 c58 2 1 (ints r54)] := hs.join hs1
    clear hs1
    refine sY hf hs rfl rfl rfl (Y_assign rfl rfl) ?_; clear hf; intro a hf
    refine wpO_nil ?_
    refine wpL_seq ?_
    refine wpL_seq ?_
    refine wpL_region ?_
    refine sY hf hs rfl rfl rfl (Y_move rfl rfl) ?_; clear hf; intro a hf
    refine sY hf hs rfl rfl rfl (Y_lenH rfl rfl el46 rfl) ?_; clear hf; intro a hf
    refine sY hf hs rfl rfl rfl (Y_move rfl rfl) ?_; clear hf; intro a hf
    refine wpO_nil ?_
    obtain ⟨r119, hl120, hm⟩ := bind_some hm
    refine wpL_block (fun a w => ∃ xs114 : List Int, ∃ A115, ∃ n116, ∃ c117, xs114 = r119 ∧ n116 = xs114.length ∧ Fr a 36 [(6, .slice A115 n116 c117)] ∧ St [] W w [.row A115 n116 c117 2 1 (ints xs114)]) ?_ ?_
    · refine wpL_loop (fun n a w => ∃ xs94 : List Int, ∃ x99 : Int, ∃ A95, ∃ n96, ∃ c97, slices_Concat_int64_L2 F p0_slices n xs94 x99 = some r119 ∧ n96 = xs94.length ∧ Fr a 36 [(6, .slice A95 n96 c97), (25, .slice A_p0_slices_1 p0_slices.length c_p0_slices_1), (26, .int .i64 (p0_slices.length : Int)), (27, .int .i64 x99)] ∧ St [] W w [.row A95 n96 c97 2 1 (ints xs94)]) F ?_ ?_ ?_
      · exact ⟨r54, 0, A56, n57, c58, hl120, hn59, (FrD.pick (FrD.pick (FrD.pick (FrD.pick hf.none hf rfl) hf rfl) hf rfl) hf rfl), hs⟩
      · rintro a w ⟨xs94, x99, A95, n96, c97, h0_, -, -, -⟩; simp [slices_Concat_int64_L2] at h0_
      · rintro n122 a w ⟨xs94, x99, A95, n96, c97, hm121, hn98, hf, hs⟩
        rw [slices_Concat_int64_L2] at hm121
        refine wpL_seq ?_
        refine wpL_region ?_
        refine sY hf hs rfl rfl rfl (Y_lss rfl rfl rfl) ?_; clear hf; intro a hf
        refine wpO_nil ?_
        refine wpL_seq ?_
        refine wpL_cond hf rfl (fun hb123 => ?_) (fun hb123 => ?_)
        · have hm121 := bif_t hm121 hb123
          refine wpL_skip ?_
          refine wpL_seq ?_
          refine wpL_block0 ?_
          refine wpL_seq ?_
          refine wpL_region ?_
          obtain ⟨q124, hi125, hm121⟩ := bind_some hm121
          obtain ⟨hi125a, hi125b, hi125q⟩ := idx_some hi125
          obtain ⟨vs126, hv127, hr128⟩ := id h_p0_slices_1
          obtain ⟨A129, c130, hv131, hR132⟩ := hr128 _ _ hi125q
          refine sY hf hs rfl rfl rfl (Y_index rfl rfl rfl el46 ti23 (Rd.isAt hv127 hv131) hi125a hi125b) ?_; clear hf; intro a hf
          refine sY hf hs rfl rfl rfl (Y_load_rd rfl rfl (fun w hs => hv127.at hs) (at1 hv131) ag23) ?_; clear hf; intro a hf
          refine sY hf hs rfl rfl rfl (Y_assign rfl rfl) ?_; clear hf; intro a hf
          refine wpO_nil ?_
          refine wpL_region ?_
          refine sY hf hs rfl rfl rfl (Y_move rfl rfl) ?_; clear hf; intro a hf
          refine sY hf hs rfl rfl rfl (Y_move rfl rfl) ?_; clear hf; intro a hf
          obtain ⟨xs135, ha136, hm121⟩ := bind_some hm121
          refine sAppendG (i := 0) (xs := xs94) (ys := q124) (enc := ints) hf hs rfl rfl rfl rfl rfl rfl hn98 rfl rfl ha136 el23 ti2 rfl rfl rfl (hR132.at hs) ints_len1 ints_append ints_one ?_; clear hf hs; intro a w A133 c134 hs hf
          have hs : St [] W w [.row A133 xs135.length c134 2 1 (ints xs135)] := hs
          refine sY hf hs rfl rfl rfl (Y_assign rfl rfl) ?_; clear hf; intro a hf
          refine wpO_nil ?_
          refine wpL_nil (Qb_normal ?_)
          refine wpL_region ?_
          refine sY hf hs rfl rfl rfl (Y_add rfl rfl rfl) ?_; clear hf; intro a hf
          refine sY hf hs rfl rfl rfl (Y_move rfl rfl) ?_; clear hf; intro a hf
          refine wpO_nil ?_
          refine wpL_nil (Ql_normal ?_)
          exact ⟨xs135, (IntKind.i64.wrap (x99 + 1)), A133, xs135.length, c134, hm121, rfl, (FrD.pick (FrD.pick (FrD.pick (FrD.pick hf.none hf rfl) hf rfl) hf rfl) hf rfl), hs⟩
        · have hm121 := bif_f hm121 hb123
          refine wpL_exit (Ql_exit (Qb_exit ?_))
          exact ⟨xs94, A95, n96, c97, Option.some.inj hm121, hn98, (FrD.pick hf.none hf rfl), hs⟩
    · rintro a w ⟨xs114, A115, n116, c117, hr_, hn118, hf, hs⟩
      subst hr_
      try dsimp only at hm
      refine wpL_seq ?_
      refine wpL_region ?_
      refine sY hf hs rfl rfl rfl (Y_move rfl rfl) ?_; clear hf; intro a hf
      refine sY hf hs rfl rfl rfl (Y_assign rfl rfl) ?_; clear hf; intro a hf
      refine wpO_nil ?_
      obtain rfl := Option.some.inj hm
      refine wpL_ret (ret_tmp rfl hf rfl ?_)
      exact ⟨_, rfl, A115, n116, c117, rfl, hn118, hs⟩

set_option maxHeartbeats 2000000 in
set_option maxRecDepth 100000 in
theorem impl_ParallelSystem_ok (F : Nat) (p0_s : GSystem) (A_p0_s_1 : Option Addr) (n_p0_s_1 c_p0_s_1 : Nat) (hn_p0_s_1 : n_p0_s_1 = p0_s.A.length) (A_p0_s_2 : Option Addr) (n_p0_s_2 c_p0_s_2 : Nat) (hn_p0_s_2 : n_p0_s_2 = p0_s.B.length) (A_p0_s_3 : Option Addr) (n_p0_s_3 c_p0_s_3 : Nat) (hn_p0_s_3 : n_p0_s_3 = p0_s.C.length) (p1_t : GSystem) (A_p1_t_1 : Option Addr) (n_p1_t_1 c_p1_t_1 : Nat) (hn_p1_t_1 : n_p1_t_1 = p1_t.A.length) (A_p1_t_2 : Option Addr) (n_p1_t_2 c_p1_t_2 : Nat) (hn_p1_t_2 : n_p1_t_2 = p1_t.B.length) (A_p1_t_3 : Option Addr) (n_p1_t_3 c_p1_t_3 : Nat) (hn_p1_t_3 : n_p1_t_3 = p1_t.C.length) (r : GSystem × Int) (W : World) (hm : impl_ParallelSystem F p0_s p1_t = some r) (h_p0_s_1 : RdM W A_p0_s_1 p0_s.A) (h_p0_s_2 : Rd W A_p0_s_2 (ints p0_s.B)) (h_p0_s_3 : Rd W A_p0_s_3 (ints p0_s.C)) (h_p1_t_1 : RdM W A_p1_t_1 p1_t.A) (h_p1_t_2 : Rd W A_p1_t_2 (ints p1_t.B)) (h_p1_t_3 : Rd W A_p1_t_3 (ints p1_t.C)) :
    Calls Try.prog 41 [.agg #[.slice A_p0_s_1 n_p0_s_1 c_p0_s_1, .slice A_p0_s_2 n_p0_s_2 c_p0_s_2, .slice A_p0_s_3 n_p0_s_3 c_p0_s_3], .agg #[.slice A_p1_t_1 n_p1_t_1 c_p1_t_1, .slice A_p1_t_2 n_p1_t_2 c_p1_t_2, .slice A_p1_t_3 n_p1_t_3 c_p1_t_3]].toArray W fun e w' => ∃ v, e = .returned v ∧ ∃ A174, ∃ n175, ∃ c176, ∃ vs178, ∃ A179, ∃ n180, ∃ c181, ∃ A183, ∃ n184, ∃ c185, v = .tuple #[.agg #[.slice A174 n175 c176, .slice A179 n180 c181, .slice A183 n184 c185], .int .i64 r.2] ∧ n175 = r.1.A.length ∧ n180 = r.1.B.length ∧ n184 = r.1.C.length ∧ St [] W w' [.mat A174 n175 c176 23 2 vs178 r.1.A, .row A179 n180 c181 2 1 (ints r.1.B), .row A183 n184 c185 2 1 (ints r.1.C)] := by
  subst hn_p0_s_1
  subst hn_p0_s_2
  subst hn_p0_s_3
  subst hn_p1_t_1
  subst hn_p1_t_2
  subst hn_p1_t_3
  unfold impl_ParallelSystem at hm
  refine Calls.enter (N := 44) Try.func41 rfl rfl rfl (fun a hf => ?_)
  have hs := St.start W
  obtain ⟨w, hw_⟩ : ∃ w, w = W := ⟨W, rfl⟩
  clear hw_ w
  refine wpL_seq ?_
  refine wpL_region ?_
  refine sBox hf hs rfl rfl rfl rfl rfl (cs := [.slice A_p0_s_1 p0_s.A.length c_p0_s_1, .slice A_p0_s_2 p0_s.B.length c_p0_s_2, .slice A_p0_s_3 p0_s.C.length c_p0_s_3]) rfl ?_; clear hf hs; intro a w b1 hs hf
  have hs : St [] W w [.blk b1 55 [.slice A_p0_s_1 p0_s.A.length c_p0_s_1, .slice A_p0_s_2 p0_s.B.length c_p0_s_2, .slice A_p0_s_3 p0_s.C.length c_p0_s_3]] := hs
  refine sBox hf hs rfl rfl rfl rfl rfl (cs := [.slice A_p1_t_1 p1_t.A.length c_p1_t_1, .slice A_p1_t_2 p1_t.B.length c_p1_t_2, .slice A_p1_t_3 p1_t.C.length c_p1_t_3]) rfl ?_; clear hf hs; intro a w b2 hs hf
  have hs : St [] W w [.blk b1 55 [.slice A_p0_s_1 p0_s.A.length c_p0_s_1, .slice A_p0_s_2 p0_s.B.length c_p0_s_2, .slice A_p0_s_3 p0_s.C.length c_p0_s_3], .blk b2 55 [.slice A_p1_t_1 p1_t.A.length c_p1_t_1, .slice A_p1_t_2 p1_t.B.length c_p1_t_2, .slice A_p1_t_3 p1_t.C.length c_p1_t_3]] := hs
  refine sAlloc hf hs rfl rfl rfl rfl ti55 ?_; clear hf hs; intro a w b3 hs hf
  have hs : St [] W w [.blk b1 55 [.slice A_p0_s_1 p0_s.A.length c_p0_s_1, .slice A_p0_s_2 p0_s.B.length c_p0_s_2, .slice A_p0_s_3 p0_s.C.length c_p0_s_3], .blk b2 55 [.slice A_p1_t_1 p1_t.A.length c_p1_t_1, .slice A_p1_t_2 p1_t.B.length c_p1_t_2, .slice A_p1_t_3 p1_t.C.length c_p1_t_3], .blk b3 55 [.slice none 0 0, .slice none 0 0, .slice none 0 0]] := hs
  refine sY hf hs rfl rfl rfl (Y_assign rfl rfl) ?_; clear hf; intro a hf
  refine wpO_nil ?_
  refine wpL_seq ?_
  refine wpL_seq ?_
  obtain ⟨r10, hj11, hm⟩ := bind_some hm
  refine wpL_cut (fun a w => ∃ b9 : Bool, b9 = r10 ∧ Fr a 44 [(2, .pointer (some ⟨b1, 0, none⟩)), (3, .pointer (some ⟨b2, 0, none⟩)), (4, .pointer (some ⟨b3, 0, none⟩)), (14, .bool b9)] ∧ St [] W w [.blk b1 55 [.slice A_p0_s_1 p0_s.A.length c_p0_s_1, .slice A_p0_s_2 p0_s.B.length c_p0_s_2, .slice A_p0_s_3 p0_s.C.length c_p0_s_3], .blk b2 55 [.slice A_p1_t_1 p1_t.A.length c_p1_t_1, .slice A_p1_t_2 p1_t.B.length c_p1_t_2, .slice A_p1_t_3 p1_t.C.length c_p1_t_3], .blk b3 55 [.slice none 0 0, .slice none 0 0, .slice none 0 0]]) ?_ ?_
  · refine wpL_region ?_
    refine sY hf hs rfl rfl rfl (Y_load_blkS rfl rfl (i := 0) rfl ag55 ti55 rfl) ?_; clear hf; intro a hf
    obtain ⟨r12, hc13, hj11⟩ := bind_some hj11
    refine sCall hf rfl rfl rfl rfl (cap := []) rfl rfl en99 (impl_IsSystem_ok F p0_s A_p0_s_1 p0_s.A.length c_p0_s_1 rfl A_p0_s_2 p0_s.B.length c_p0_s_2 rfl A_p0_s_3 p0_s.C.length c_p0_s_3 rfl _ _ hc13 (h_p0_s_1.at hs) (h_p0_s_2.at hs) (h_p0_s_3.at hs)) ?_; clear hf
    rintro _ w ⟨rfl, hs1⟩ a hf
    have hs : St [] W w [.blk b1 55 [.slice A_p0_s_1 p0_s.A.length c_p0_s_1, .slice A_p0_s_2 p0_s.B.length c_p0_s_2, .slice A_p0_s_3 p0_s.C.length c_p0_s_3], .blk b2 55 [.slice A_p1_t_1 p1_t.A.length c_p1_t_1, .slice A_p1_t_2 p1_t.B.length c_p1_t_2, .slice A_p1_t_3 p1_t.C.length c_p1_t_3], .blk b3 55 [.slice none 0 0, .slice none 0 0, .slice none 0 0]] := hs.ext hs1.below
    clear hs1
    refine sY hf hs rfl rfl rfl (Y_not rfl rfl) ?_; clear hf; intro a hf
    refine sY hf hs rfl rfl rfl (Y_move rfl rfl) ?_; clear hf; intro a hf
    refine bsplit (!r12) (fun hb14 => ?_) (fun hb14 => ?_)
    · have hj11 := bif_t hj11 hb14
      refine sNo hf rfl rfl rfl (congrArg (fun b => some (Value.bool b)) hb14) rfl rfl rfl ?_; clear hf; intro a hf
      refine sNo hf rfl rfl rfl (congrArg (fun b => some (Value.bool b)) hb14) rfl rfl rfl ?_; clear hf; intro a hf
      refine sNo hf rfl rfl rfl (congrArg (fun b => some (Value.bool b)) hb14) rfl rfl rfl ?_; clear hf; intro a hf
      refine sY hf hs rfl rfl rfl (Y_pickT rfl (congrArg (fun b => some (Value.bool b)) hb14) rfl) ?_; clear hf; intro a hf
      refine wpO_nil ?_
      refine wpL_nil (then_normal ?_)
      exact ⟨true, Option.some.inj hj11, (FrD.pick (FrD.pick (FrD.pick (FrD.pick hf.none hf rfl) hf rfl) hf rfl) hf rfl), hs⟩
    · have hj11 := bif_f hj11 hb14
      refine sYg hf hs rfl rfl rfl (congrArg (fun b => some (Value.bool b)) hb14) rfl rfl rfl (Y_load_blkS rfl rfl (i := 1) rfl ag55 ti55 rfl) ?_; clear hf; intro a hf
      obtain ⟨r15, hc16, hj11⟩ := bind_some hj11
      refine sCallg hf rfl rfl rfl (congrArg (fun b => some (Value.bool b)) hb14) rfl rfl rfl rfl (cap := []) rfl rfl en99 (impl_IsSystem_ok F p1_t A_p1_t_1 p1_t.A.length c_p1_t_1 rfl A_p1_t_2 p1_t.B.length c_p1_t_2 rfl A_p1_t_3 p1_t.C.length c_p1_t_3 rfl _ _ hc16 (h_p1_t_1.at hs) (h_p1_t_2.at hs) (h_p1_t_3.at hs)) ?_; clear hf
      rintro _ w ⟨rfl, hs1⟩ a hf
      have hs : St [] W w [.blk b1 55 [.slice A_p0_s_1 p0_s.A.length c_p0_s_1, .slice A_p0_s_2 p0_s.B.length c_p0_s_2, .slice A_p0_s_3 p0_s.C.length c_p0_s_3], .blk b2 55 [.slice A_p1_t_1 p1_t.A.length c_p1_t_1, .slice A_p1_t_2 p1_t.B.length c_p1_t_2, .slice A_p1_t_3 p1_t.C.length c_p1_t_3], .blk b3 55 [.slice none 0 0, .slice none 0 0, .slice none 0 0]] := hs.ext hs1.below
      clear hs1
      refine sYg hf hs rfl rfl rfl (congrArg (fun b => some (Value.bool b)) hb14) rfl rfl rfl (Y_not rfl rfl) ?_; clear hf; intro a hf
      refine sY hf hs rfl rfl rfl (Y_pickF rfl (congrArg (fun b => some (Value.bool b)) hb14) rfl) ?_; clear hf; intro a hf
      refine wpO_nil ?_
      refine wpL_nil (then_normal ?_)
      exact ⟨(!r15), Option.some.inj hj11, (FrD.pick (FrD.pick (FrD.pick (FrD.pick hf.none hf rfl) hf rfl) hf rfl) hf rfl), hs⟩
  · rintro a w ⟨b9, hr_, hf, hs⟩
    subst hr_
    try dsimp only at hm
    refine wpL_cond hf rfl (fun hb17 => ?_) (fun hb17 => ?_)
    · have hm := bif_t hm hb17
      refine wpL_seq ?_
      refine wpL_region ?_
      refine sY hf hs rfl rfl rfl (Y_build (parts := []) (vs := []) rfl rfl (run_build (parts := []) (cells := [.slice none 0 0, .slice none 0 0, .slice none 0 0]) (places := #[(0, 1), (1, 1), (2, 1)]) ti55 Try.underlying55 (fun w => by simp [go_sem]) rfl)) ?_; clear hf; intro a hf
      refine sStore (i := 2) (us := [.slice none 0 0, .slice none 0 0, .slice none 0 0]) hf hs rfl rfl rfl rfl rfl rfl ti55 rfl rfl rfl (Nat.le_of_ble_eq_true rfl) rfl ?_; clear hs; intro w hs
      have hs : St [] W w [.blk b1 55 [.slice A_p0_s_1 p0_s.A.length c_p0_s_1, .slice A_p0_s_2 p0_s.B.length c_p0_s_2, .slice A_p0_s_3 p0_s.C.length c_p0_s_3], .blk b2 55 [.slice A_p1_t_1 p1_t.A.length c_p1_t_1, .slice A_p1_t_2 p1_t.B.length c_p1_t_2, .slice A_p1_t_3 p1_t.C.length c_p1_t_3], .blk b3 55 [.slice none 0 0, .slice none 0 0, .slice none 0 0]] := hs
      refine sY hf hs rfl rfl rfl (Y_assign rfl rfl) ?_; clear hf; intro a hf
      refine wpO_nil ?_
      have hs : St [] W _ [.blk b1 55 [.slice A_p0_s_1 p0_s.A.length c_p0_s_1, .slice A_p0_s_2 p0_s.B.length c_p0_s_2, .slice A_p0_s_3 p0_s.C.length c_p0_s_3], .blk b2 55 [.slice A_p1_t_1 p1_t.A.length c_p1_t_1, .slice A_p1_t_2 p1_t.B.length c_p1_t_2, .slice A_p1_t_3 p1_t.C.length c_p1_t_3], .blk b3 55 [.slice none 0 0, .slice none 0 0, .slice none 0 0], .mat none 0 0 23 2 [] ([] : List (List Int))] := hs.addNilM 23 2
      have hs : St [] W _ [.blk b1 55 [.slice A_p0_s_1 p0_s.A.length c_p0_s_1, .slice A_p0_s_2 p0_s.B.length c_p0_s_2, .slice A_p0_s_3 p0_s.C.length c_p0_s_3], .blk b2 55 [.slice A_p1_t_1 p1_t.A.length c_p1_t_1, .slice A_p1_t_2 p1_t.B.length c_p1_t_2, .slice A_p1_t_3 p1_t.C.length c_p1_t_3], .blk b3 55 [.slice none 0 0, .slice none 0 0, .slice none 0 0], .mat none 0 0 23 2 [] ([] : List (List Int)), .row none 0 0 2 1 (ints ([] : List Int))] := hs.addNil 2 1
      have hs : St [] W _ [.blk b1 55 [.slice A_p0_s_1 p0_s.A.length c_p0_s_1, .slice A_p0_s_2 p0_s.B.length c_p0_s_2, .slice A_p0_s_3 p0_s.C.length c_p0_s_3], .blk b2 55 [.slice A_p1_t_1 p1_t.A.length c_p1_t_1, .slice A_p1_t_2 p1_t.B.length c_p1_t_2, .slice A_p1_t_3 p1_t.C.length c_p1_t_3], .blk b3 55 [.slice none 0 0, .slice none 0 0, .slice none 0 0], .mat none 0 0 23 2 [] ([] : List (List Int)), .row none 0 0 2 1 (ints ([] : List Int)), .row none 0 0 2 1 (ints ([] : List Int))] := hs.addNil 2 1
      obtain rfl := Option.some.inj hm
      refine wpL_ret (ret_cell_tmp rfl hf rfl rfl hs (i := 2) rfl ag55 ti55 rfl ?_)
      exact ⟨_, rfl, none, 0, 0, [], none, 0, 0, none, 0, 0, rfl, rfl, rfl, rfl, hs.sel [3, 4, 5] (by decide)⟩
    · have hm := bif_f hm hb17
      refine wpL_skip ?_
      refine wpL_seq ?_
      refine wpL_seq ?_
      refine wpL_region ?_
      refine sY hf hs rfl rfl rfl (Y_fieldAddr rfl rfl fo55_0) ?_; clear hf; intro a hf
      refine sY hf hs rfl rfl rfl (Y_load_blk rfl rfl (i := 0) rfl rfl ag46) ?_; clear hf; intro a hf
      refine sY hf hs rfl rfl rfl (Y_lenH rfl rfl el46 rfl) ?_; clear hf; intro a hf
      refine sY hf hs rfl rfl rfl (Y_fieldAddr rfl rfl fo55_0) ?_; clear hf; intro a hf
      refine sY hf hs rfl rfl rfl (Y_load_blk rfl rfl (i := 1) rfl rfl ag46) ?_; clear hf; intro a hf
      refine sY hf hs rfl rfl rfl (Y_lenH rfl rfl el46 rfl) ?_; clear hf; intro a hf
      refine sY hf hs rfl rfl rfl (Y_add rfl rfl rfl) ?_; clear hf; intro a hf
      refine sY hf hs rfl rfl rfl (Y_gtr rfl rfl rfl) ?_; clear hf; intro a hf
      refine wpO_nil ?_
      refine wpL_cond hf rfl (fun hb21 => ?_) (fun hb21 => ?_)
      · have hm := bif_t hm hb21
        refine wpL_seq ?_
        refine wpL_region ?_
        refine sY hf hs rfl rfl rfl (Y_build (parts := []) (vs := []) rfl rfl (run_build (parts := []) (cells := [.slice none 0 0, .slice none 0 0, .slice none 0 0]) (places := #[(0, 1), (1, 1), (2, 1)]) ti55 Try.underlying55 (fun w => by simp [go_sem]) rfl)) ?_; clear hf; intro a hf
        refine sStore (i := 2) (us := [.slice none 0 0, .slice none 0 0, .slice none 0 0]) hf hs rfl rfl rfl rfl rfl rfl ti55 rfl rfl rfl (Nat.le_of_ble_eq_true rfl) rfl ?_; clear hs; intro w hs
        have hs : St [] W w [.blk b1 55 [.slice A_p0_s_1 p0_s.A.length c_p0_s_1, .slice A_p0_s_2 p0_s.B.length c_p0_s_2, .slice A_p0_s_3 p0_s.C.length c_p0_s_3], .blk b2 55 [.slice A_p1_t_1 p1_t.A.length c_p1_t_1, .slice A_p1_t_2 p1_t.B.length c_p1_t_2, .slice A_p1_t_3 p1_t.C.length c_p1_t_3], .blk b3 55 [.slice none 0 0, .slice none 0 0, .slice none 0 0]] := hs
        refine sY hf hs rfl rfl rfl (Y_assign rfl rfl) ?_; clear hf; intro a hf
        refine wpO_nil ?_
        have hs : St [] W _ [.blk b1 55 [.slice A_p0_s_1 p0_s.A.length c_p0_s_1, .slice A_p0_s_2 p0_s.B.length c_p0_s_2, .slice A_p0_s_3 p0_s.C.length c_p0_s_3], .blk b2 55 [.slice A_p1_t_1 p1_t.A.length c_p1_t_1, .slice A_p1_t_2 p1_t.B.length c_p1_t_2, .slice A_p1_t_3 p1_t.C.length c_p1_t_3], .blk b3 55 [.slice none 0 0, .slice none 0 0, .slice none 0 0], .mat none 0 0 23 2 [] ([] : List (List Int))] := hs.addNilM 23 2
        have hs : St [] W _ [.blk b1 55 [.slice A_p0_s_1 p0_s.A.length c_p0_s_1, .slice A_p0_s_2 p0_s.B.length c_p0_s_2, .slice A_p0_s_3 p0_s.C.length c_p0_s_3], .blk b2 55 [.slice A_p1_t_1 p1_t.A.length c_p1_t_1, .slice A_p1_t_2 p1_t.B.length c_p1_t_2, .slice A_p1_t_3 p1_t.C.length c_p1_t_3], .blk b3 55 [.slice none 0 0, .slice none 0 0, .slice none 0 0], .mat none 0 0 23 2 [] ([] : List (List Int)), .row none 0 0 2 1 (ints ([] : List Int))] := hs.addNil 2 1
        have hs : St [] W _ [.blk b1 55 [.slice A_p0_s_1 p0_s.A.length c_p0_s_1, .slice A_p0_s_2 p0_s.B.length c_p0_s_2, .slice A_p0_s_3 p0_s.C.length c_p0_s_3], .blk b2 55 [.slice A_p1_t_1 p1_t.A.length c_p1_t_1, .slice A_p1_t_2 p1_t.B.length c_p1_t_2, .slice A_p1_t_3 p1_t.C.length c_p1_t_3], .blk b3 55 [.slice none 0 0, .slice none 0 0, .slice none 0 0], .mat none 0 0 23 2 [] ([] : List (List Int)), .row none 0 0 2 1 (ints ([] : List Int)), .row none 0 0 2 1 (ints ([] : List Int))] := hs.addNil 2 1
        obtain rfl := Option.some.inj hm
        refine wpL_ret (ret_cell_tmp rfl hf rfl rfl hs (i := 2) rfl ag55 ti55 rfl ?_)
        exact ⟨_, rfl, none, 0, 0, [], none, 0, 0, none, 0, 0, rfl, rfl, rfl, rfl, hs.sel [3, 4, 5] (by decide)⟩
      · have hm := bif_f hm hb21
        refine wpL_skip ?_
        refine wpL_seq ?_
        refine wpL_region ?_
        refine sY hf hs rfl rfl rfl (Y_fieldAddr rfl rfl fo55_0) ?_; clear hf; intro a hf
        refine sY hf hs rfl rfl rfl (Y_load_blk rfl rfl (i := 0) rfl rfl ag46) ?_; clear hf; intro a hf
        refine sY hf hs rfl rfl rfl (Y_fieldAddr rfl rfl fo55_0) ?_; clear hf; intro a hf
        refine sY hf hs rfl rfl rfl (Y_load_blk rfl rfl (i := 1) rfl rfl ag46) ?_; clear hf; intro a hf
        obtain ⟨r25, hc26, hm⟩ := bind_some hm
        refine sCall hf rfl rfl rfl rfl (cap := []) rfl rfl en100 (impl_blocks_ok F p0_s.A A_p0_s_1 p0_s.A.length c_p0_s_1 rfl p1_t.A A_p1_t_1 p1_t.A.length c_p1_t_1 rfl (fun x0 x1 => impl_ParallelSystem_c1 F x0 x1) 101 [] _ _ hc26 (h_p0_s_1.at hs) (h_p1_t_1.at hs) (fun x0 x1 r w' hm_ hb => impl_ParallelSystem_c1_ok F x0 x1 r w' hm_ ) en101) ?_; clear hf
        rintro _ w ⟨A27, n28, c29, vs31, rfl, hn30, hs1⟩ a hf
        have hs : St [] W w [.blk b1 55 [.slice A_p0_s_1 p0_s.A.length c_p0_s_1, .slice A_p0_s_2 p0_s.B.length c_p0_s_2, .slice A_p0_s_3 p0_s.C.length c_p0_s_3], .blk b2 55 [.slice A_p1_t_1 p1_t.A.length c_p1_t_1, .slice A_p1_t_2 p1_t.B.length c_p1_t_2, .slice A_p1_t_3 p1_t.C.length c_p1_t_3], .blk b3 55 [.slice none 0 0, .slice none 0 0, .slice none 0 0], .mat A27 n28 c29 23 2 vs31 r25] := hs.join hs1
        clear hs1
        refine sY hf hs rfl rfl rfl (Y_assign rfl rfl) ?_; clear hf; intro a hf
        refine wpO_nil ?_
        refine wpL_seq ?_
        obtain ⟨r110, hj111, hm⟩ := bind_some hm
        refine wpL_cut (fun a w => ∃ ms94 : List (List Int), ∃ xs100 : List Int, ∃ xs105 : List Int, ∃ A95, ∃ n96, ∃ c97, ∃ vs99, ∃ A101, ∃ n102, ∃ c103, ∃ A106, ∃ n107, ∃ c108, (ms94, xs100, xs105) = r110 ∧ n96 = ms94.length ∧ n102 = xs100.length ∧ n107 = xs105.length ∧ Fr a 44 [(4, .pointer (some ⟨b3, 0, none⟩)), (5, .int .i64 0)] ∧ St [] W w [.blk b3 55 [.slice A95 n96 c97, .slice A101 n102 c103, .slice A106 n107 c108], .mat A95 n96 c97 23 2 vs99 ms94, .row A101 n102 c103 2 1 (ints xs100), .row A106 n107 c108 2 1 (ints xs105)]) ?_ ?_
        · refine wpL_drawM [.blk b1 55 [.slice A_p0_s_1 p0_s.A.length c_p0_s_1, .slice A_p0_s_2 p0_s.B.length c_p0_s_2, .slice A_p0_s_3 p0_s.C.length c_p0_s_3], .blk b2 55 [.slice A_p1_t_1 p1_t.A.length c_p1_t_1, .slice A_p1_t_2 p1_t.B.length c_p1_t_2, .slice A_p1_t_3 p1_t.C.length c_p1_t_3], .blk b3 55 [.slice none 0 0, .slice none 0 0, .slice none 0 0], .mat A27 n28 c29 23 2 vs31 r25] [12, 14] (by kernel_rfl) hs ?_; clear hs; intro w hs
          have hs0 : St [] W w [.blk b1 55 [.slice A_p0_s_1 p0_s.A.length c_p0_s_1, .slice A_p0_s_2 p0_s.B.length c_p0_s_2, .slice A_p0_s_3 p0_s.C.length c_p0_s_3], .blk b2 55 [.slice A_p1_t_1 p1_t.A.length c_p1_t_1, .slice A_p1_t_2 p1_t.B.length c_p1_t_2, .slice A_p1_t_3 p1_t.C.length c_p1_t_3], .blk b3 55 [.slice none 0 0, .slice none 0 0, .slice none 0 0], .mat A27 n28 c29 23 2 vs31 r25] := hs
          refine mYp (i := 0) rfl (by kernel_rfl) (by kernel_rfl) hf rfl rfl rfl (fun _ => Y_move rfl rfl) ?_; clear hf; intro a hf
          refine mYp (i := 1) rfl (by kernel_rfl) (by kernel_rfl) hf rfl rfl rfl (fun _ => Y_fieldAddr rfl rfl fo55_1) ?_; clear hf; intro a hf
          refine mY (i := 2) [[5, 6], []] rfl (by kernel_rfl) (by kernel_rfl) hf hs0 rfl rfl rfl (Y_load_blk rfl rfl (i := 0) rfl rfl ag23) ?_; clear hf; intro a hf
          refine mYp (i := 3) rfl (by kernel_rfl) (by kernel_rfl) hf rfl rfl rfl (fun _ => Y_fieldAddr rfl rfl fo55_1) ?_; clear hf; intro a hf
          refine mY (i := 4) [[5, 6], []] rfl (by kernel_rfl) (by kernel_rfl) hf hs0 rfl rfl rfl (Y_load_blk rfl rfl (i := 1) rfl rfl ag23) ?_; clear hf; intro a hf
          refine mYp (i := 7) rfl (by kernel_rfl) (by kernel_rfl) hf rfl rfl rfl (fun _ => Y_fieldAddr rfl rfl fo55_2) ?_; clear hf; intro a hf
          refine mY (i := 8) [[11], []] rfl (by kernel_rfl) (by kernel_rfl) hf hs0 rfl rfl rfl (Y_load_blk rfl rfl (i := 0) rfl rfl ag23) ?_; clear hf; intro a hf
          refine mYp (i := 9) rfl (by kernel_rfl) (by kernel_rfl) hf rfl rfl rfl (fun _ => Y_fieldAddr rfl rfl fo55_2) ?_; clear hf; intro a hf
          refine mY (i := 10) [[11], []] rfl (by kernel_rfl) (by kernel_rfl) hf hs0 rfl rfl rfl (Y_load_blk rfl rfl (i := 1) rfl rfl ag23) ?_; clear hf; intro a hf
          refine mRun2 (i := 5) (j := 11) rfl rfl (by kernel_rfl) ?_ ?_
          · refine sBuildSlice (parts := [(0, .tmp 32), (1, .tmp 34)]) (vs := [.slice A_p0_s_2 p0_s.B.length c_p0_s_2, .slice A_p1_t_2 p1_t.B.length c_p1_t_2]) (cells := [.slice A_p0_s_2 p0_s.B.length c_p0_s_2, .slice A_p1_t_2 p1_t.B.length c_p1_t_2]) hf hs rfl rfl rfl rfl rfl el46 ti23 rfl rfl rfl rfl ?_; clear hf hs; intro a w A128 hs hA129 hf
            have hs : St [] W w [.blk b1 55 [.slice A_p0_s_1 p0_s.A.length c_p0_s_1, .slice A_p0_s_2 p0_s.B.length c_p0_s_2, .slice A_p0_s_3 p0_s.C.length c_p0_s_3], .blk b2 55 [.slice A_p1_t_1 p1_t.A.length c_p1_t_1, .slice A_p1_t_2 p1_t.B.length c_p1_t_2, .slice A_p1_t_3 p1_t.C.length c_p1_t_3], .blk b3 55 [.slice none 0 0, .slice none 0 0, .slice none 0 0], .mat A27 n28 c29 23 2 vs31 r25, .row A128 2 2 23 1 [.slice A_p0_s_2 p0_s.B.length c_p0_s_2, .slice A_p1_t_2 p1_t.B.length c_p1_t_2]] := hs
            have hs0 : St [] W w [.blk b1 55 [.slice A_p0_s_1 p0_s.A.length c_p0_s_1, .slice A_p0_s_2 p0_s.B.length c_p0_s_2, .slice A_p0_s_3 p0_s.C.length c_p0_s_3], .blk b2 55 [.slice A_p1_t_1 p1_t.A.length c_p1_t_1, .slice A_p1_t_2 p1_t.B.length c_p1_t_2, .slice A_p1_t_3 p1_t.C.length c_p1_t_3], .blk b3 55 [.slice none 0 0, .slice none 0 0, .slice none 0 0], .mat A27 n28 c29 23 2 vs31 r25] := hs.sel [0, 1, 2, 3] (by decide)
            refine wpO_nil ⟨Or.inr (fun _ => hs0), ?_⟩
            refine mRun2 (i := 6) (j := 11) rfl rfl (by kernel_rfl) ?_ ?_
            · obtain ⟨r130, hc131, hj111⟩ := bind_some hj111
              refine sCall hf rfl rfl rfl rfl (cap := []) rfl rfl en102 (slices_Concat_int64_ok F ([p0_s.B, p1_t.B]) A128 2 2 rfl _ _ hc131 (RdM.two (hs.rd (i := 4) rfl) rfl (h_p0_s_2.at hs) rfl (h_p1_t_2.at hs))) ?_; clear hf
              rintro _ w ⟨A132, n133, c134, rfl, hn135, hs1⟩ a hf
              have hs : St [] W w [.blk b1 55 [.slice A_p0_s_1 p0_s.A.length c_p0_s_1, .slice A_p0_s_2 p0_s.B.length c_p0_s_2, .slice A_p0_s_3 p0_s.C.length c_p0_s_3], .blk b2 55 [.slice A_p1_t_1 p1_t.A.length c_p1_t_1, .slice A_p1_t_2 p1_t.B.length c_p1_t_2, .slice A_p1_t_3 p1_t.C.length c_p1_t_3], .blk b3 55 [.slice none 0 0, .slice none 0 0, .slice none 0 0], .mat A27 n28 c29 23 2 vs31 r25, .row A128 2 2 23 1 [.slice A_p0_s_2 p0_s.B.length c_p0_s_2, .slice A_p1_t_2 p1_t.B.length c_p1_t_2], .row A132 n133 c134 2 1 (ints r130)] := hs.join hs1
              clear hs1
              have hs0 : St [] W w [.blk b1 55 [.slice A_p0_s_1 p0_s.A.length c_p0_s_1, .slice A_p0_s_2 p0_s.B.length c_p0_s_2, .slice A_p0_s_3 p0_s.C.length c_p0_s_3], .blk b2 55 [.slice A_p1_t_1 p1_t.A.length c_p1_t_1, .slice A_p1_t_2 p1_t.B.length c_p1_t_2, .slice A_p1_t_3 p1_t.C.length c_p1_t_3], .blk b3 55 [.slice none 0 0, .slice none 0 0, .slice none 0 0], .mat A27 n28 c29 23 2 vs31 r25] := hs.sel [0, 1, 2, 3] (by decide)
              refine wpO_nil ⟨Or.inr (fun _ => hs0), ?_⟩
              refine mRun (i := 11) rfl (by kernel_rfl) ?_
              refine sBuildSlice (parts := [(0, .tmp 38), (1, .tmp 40)]) (vs := [.slice A_p0_s_3 p0_s.C.length c_p0_s_3, .slice A_p1_t_3 p1_t.C.length c_p1_t_3]) (cells := [.slice A_p0_s_3 p0_s.C.length c_p0_s_3, .slice A_p1_t_3 p1_t.C.length c_p1_t_3]) hf hs rfl rfl rfl rfl rfl el46 ti23 rfl rfl rfl rfl ?_; clear hf hs; intro a w A136 hs hA137 hf
              have hs : St [] W w [.blk b1 55 [.slice A_p0_s_1 p0_s.A.length c_p0_s_1, .slice A_p0_s_2 p0_s.B.length c_p0_s_2, .slice A_p0_s_3 p0_s.C.length c_p0_s_3], .blk b2 55 [.slice A_p1_t_1 p1_t.A.length c_p1_t_1, .slice A_p1_t_2 p1_t.B.length c_p1_t_2, .slice A_p1_t_3 p1_t.C.length c_p1_t_3], .blk b3 55 [.slice none 0 0, .slice none 0 0, .slice none 0 0], .mat A27 n28 c29 23 2 vs31 r25, .row A128 2 2 23 1 [.slice A_p0_s_2 p0_s.B.length c_p0_s_2, .slice A_p1_t_2 p1_t.B.length c_p1_t_2], .row A132 n133 c134 2 1 (ints r130), .row A136 2 2 23 1 [.slice A_p0_s_3 p0_s.C.length c_p0_s_3, .slice A_p1_t_3 p1_t.C.length c_p1_t_3]] := hs
              have hs0 : St [] W w [.blk b1 55 [.slice A_p0_s_1 p0_s.A.length c_p0_s_1, .slice A_p0_s_2 p0_s.B.length c_p0_s_2, .slice A_p0_s_3 p0_s.C.length c_p0_s_3], .blk b2 55 [.slice A_p1_t_1 p1_t.A.length c_p1_t_1, .slice A_p1_t_2 p1_t.B.length c_p1_t_2, .slice A_p1_t_3 p1_t.C.length c_p1_t_3], .blk b3 55 [.slice none 0 0, .slice none 0 0, .slice none 0 0], .mat A27 n28 c29 23 2 vs31 r25] := hs.sel [0, 1, 2, 3] (by decide)
              refine wpO_nil ⟨Or.inr (fun _ => hs0), ?_⟩
              refine mRun (i := 12) rfl (by kernel_rfl) ?_
              obtain ⟨r138, hc139, hj111⟩ := bind_some hj111
              refine sCall hf rfl rfl rfl rfl (cap := []) rfl rfl en102 (slices_Concat_int64_ok F ([p0_s.C, p1_t.C]) A136 2 2 rfl _ _ hc139 (RdM.two (hs.rd (i := 6) rfl) rfl (h_p0_s_3.at hs) rfl (h_p1_t_3.at hs))) ?_; clear hf
              rintro _ w ⟨A140, n141, c142, rfl, hn143, hs1⟩ a hf
              have hs : St [] W w [.blk b1 55 [.slice A_p0_s_1 p0_s.A.length c_p0_s_1, .slice A_p0_s_2 p0_s.B.length c_p0_s_2, .slice A_p0_s_3 p0_s.C.length c_p0_s_3], .blk b2 55 [.slice A_p1_t_1 p1_t.A.length c_p1_t_1, .slice A_p1_t_2 p1_t.B.length c_p1_t_2, .slice A_p1_t_3 p1_t.C.length c_p1_t_3], .blk b3 55 [.slice none 0 0, .slice none 0 0, .slice none 0 0], .mat A27 n28 c29 23 2 vs31 r25, .row A128 2 2 23 1 [.slice A_p0_s_2 p0_s.B.length c_p0_s_2, .slice A_p1_t_2 p1_t.B.length c_p1_t_2], .row A132 n133 c134 2 1 (ints r130), .row A136 2 2 23 1 [.slice A_p0_s_3 p0_s.C.length c_p0_s_3, .slice A_p1_t_3 p1_t.C.length c_p1_t_3], .row A140 n141 c142 2 1 (ints r138)] := hs.join hs1
              clear hs1
              refine wpO_nil ⟨Or.inl (by decide), ?_⟩
              refine mYp (i := 13) rfl (by kernel_rfl) (by kernel_rfl) hf rfl rfl rfl (fun _ => Y_build (parts := [(0, .tmp 30), (1, .tmp 36), (2, .tmp 42)]) (vs := [.slice A27 n28 c29, .slice A132 n133 c134, .slice A140 n141 c142]) rfl rfl (run_build (parts := [(0, .slice A27 n28 c29), (1, .slice A132 n133 c134), (2, .slice A140 n141 c142)]) (cells := [.slice A27 n28 c29, .slice A132 n133 c134, .slice A140 n141 c142]) (places := #[(0, 1), (1, 1), (2, 1)]) ti55 Try.underlying55 (fun w => by simp [go_sem]) rfl)) ?_; clear hf; intro a hf
              refine mRun (i := 14) rfl (by kernel_rfl) ?_
              refine sStore (i := 2) (us := [.slice A27 n28 c29, .slice A132 n133 c134, .slice A140 n141 c142]) hf hs rfl rfl rfl rfl rfl rfl ti55 rfl rfl rfl (Nat.le_of_ble_eq_true rfl) rfl ?_; clear hs; intro w hs
              have hs : St [] W w [.blk b1 55 [.slice A_p0_s_1 p0_s.A.length c_p0_s_1, .slice A_p0_s_2 p0_s.B.length c_p0_s_2, .slice A_p0_s_3 p0_s.C.length c_p0_s_3], .blk b2 55 [.slice A_p1_t_1 p1_t.A.length c_p1_t_1, .slice A_p1_t_2 p1_t.B.length c_p1_t_2, .slice A_p1_t_3 p1_t.C.length c_p1_t_3], .blk b3 55 [.slice A27 n28 c29, .slice A132 n133 c134, .slice A140 n141 c142], .mat A27 n28 c29 23 2 vs31 r25, .row A128 2 2 23 1 [.slice A_p0_s_2 p0_s.B.length c_p0_s_2, .slice A_p1_t_2 p1_t.B.length c_p1_t_2], .row A132 n133 c134 2 1 (ints r130), .row A136 2 2 23 1 [.slice A_p0_s_3 p0_s.C.length c_p0_s_3, .slice A_p1_t_3 p1_t.C.length c_p1_t_3], .row A140 n141 c142 2 1 (ints r138)] := hs
              refine wpO_nil ⟨Or.inl (by decide), ?_⟩
              refine mYp (i := 15) rfl (by kernel_rfl) (by kernel_rfl) hf rfl rfl rfl (fun _ => Y_assign rfl rfl) ?_; clear hf; intro a hf
              refine mDone (by kernel_rfl) ?_
              clear hs0
              refine wpL_nil (then_normal ?_)
              exact ⟨r25, r130, r138, A27, n28, c29, vs31, A132, n133, c134, A140, n141, c142, Option.some.inj hj111, hn30, hn135, hn143, (FrD.pick (FrD.pick hf.none hf rfl) hf rfl), hs.sel [2, 3, 5, 7] (by decide)⟩
            · refine sBuildSlice (parts := [(0, .tmp 38), (1, .tmp 40)]) (vs := [.slice A_p0_s_3 p0_s.C.length c_p0_s_3, .slice A_p1_t_3 p1_t.C.length c_p1_t_3]) (cells := [.slice A_p0_s_3 p0_s.C.length c_p0_s_3, .slice A_p1_t_3 p1_t.C.length c_p1_t_3]) hf hs rfl rfl rfl rfl rfl el46 ti23 rfl rfl rfl rfl ?_; clear hf hs; intro a w A144 hs hA145 hf
              have hs : St [] W w [.blk b1 55 [.slice A_p0_s_1 p0_s.A.length c_p0_s_1, .slice A_p0_s_2 p0_s.B.length c_p0_s_2, .slice A_p0_s_3 p0_s.C.length c_p0_s_3], .blk b2 55 [.slice A_p1_t_1 p1_t.A.length c_p1_t_1, .slice A_p1_t_2 p1_t.B.length c_p1_t_2, .slice A_p1_t_3 p1_t.C.length c_p1_t_3], .blk b3 55 [.slice none 0 0, .slice none 0 0, .slice none 0 0], .mat A27 n28 c29 23 2 vs31 r25, .row A128 2 2 23 1 [.slice A_p0_s_2 p0_s.B.length c_p0_s_2, .slice A_p1_t_2 p1_t.B.length c_p1_t_2], .row A144 2 2 23 1 [.slice A_p0_s_3 p0_s.C.length c_p0_s_3, .slice A_p1_t_3 p1_t.C.length c_p1_t_3]] := hs
              have hs0 : St [] W w [.blk b1 55 [.slice A_p0_s_1 p0_s.A.length c_p0_s_1, .slice A_p0_s_2 p0_s.B.length c_p0_s_2, .slice A_p0_s_3 p0_s.C.length c_p0_s_3], .blk b2 55 [.slice A_p1_t_1 p1_t.A.length c_p1_t_1, .slice A_p1_t_2 p1_t.B.length c_p1_t_2, .slice A_p1_t_3 p1_t.C.length c_p1_t_3], .blk b3 55 [.slice none 0 0, .slice none 0 0, .slice none 0 0], .mat A27 n28 c29 23 2 vs31 r25] := hs.sel [0, 1, 2, 3] (by decide)
              refine wpO_nil ⟨Or.inr (fun _ => hs0), ?_⟩
              refine mRun (i := 6) rfl (by kernel_rfl) ?_
              obtain ⟨r146, hc147, hj111⟩ := bind_some hj111
              refine sCall hf rfl rfl rfl rfl (cap := []) rfl rfl en102 (slices_Concat_int64_ok F ([p0_s.B, p1_t.B]) A128 2 2 rfl _ _ hc147 (RdM.two (hs.rd (i := 4) rfl) rfl (h_p0_s_2.at hs) rfl (h_p1_t_2.at hs))) ?_; clear hf
              rintro _ w ⟨A148, n149, c150, rfl, hn151, hs1⟩ a hf
              have hs : St [] W w [.blk b1 55 [.slice A_p0_s_1 p0_s.A.length c_p0_s_1, .slice A_p0_s_2 p0_s.B.length c_p0_s_2, .slice A_p0_s_3 p0_s.C.length c_p0_s_3], .blk b2 55 [.slice A_p1_t_1 p1_t.A.length c_p1_t_1, .slice A_p1_t_2 p1_t.B.length c_p1_t_2, .slice A_p1_t_3 p1_t.C.length c_p1_t_3], .blk b3 55 [.slice none 0 0, .slice none 0 0, .slice none 0 0], .mat A27 n28 c29 23 2 vs31 r25, .row A128 2 2 23 1 [.slice A_p0_s_2 p0_s.B.length c_p0_s_2, .slice A_p1_t_2 p1_t.B.length c_p1_t_2], .row A144 2 2 23 1 [.slice A_p0_s_3 p0_s.C.length c_p0_s_3, .slice A_p1_t_3 p1_t.C.length c_p1_t_3], .row A148 n149 c150 2 1 (ints r146)] := hs.join hs1
              clear hs1
              have hs0 : St [] W w [.blk b1 55 [.slice A_p0_s_1 p0_s.A.length c_p0_s_1, .slice A_p0_s_2 p0_s.B.length c_p0_s_2, .slice A_p0_s_3 p0_s.C.length c_p0_s_3], .blk b2 55 [.slice A_p1_t_1 p1_t.A.length c_p1_t_1, .slice A_p1_t_2 p1_t.B.length c_p1_t_2, .slice A_p1_t_3 p1_t.C.length c_p1_t_3], .blk b3 55 [.slice none 0 0, .slice none 0 0, .slice none 0 0], .mat A27 n28 c29 23 2 vs31 r25] := hs.sel [0, 1, 2, 3] (by decide)
              refine wpO_nil ⟨Or.inr (fun _ => hs0), ?_⟩
              refine mRun (i := 12) rfl (by kernel_rfl) ?_
              obtain ⟨r152, hc153, hj111⟩ := bind_some hj111
              refine sCall hf rfl rfl rfl rfl (cap := []) rfl rfl en102 (slices_Concat_int64_ok F ([p0_s.C, p1_t.C]) A144 2 2 rfl _ _ hc153 (RdM.two (hs.rd (i := 5) rfl) rfl (h_p0_s_3.at hs) rfl (h_p1_t_3.at hs))) ?_; clear hf
              rintro _ w ⟨A154, n155, c156, rfl, hn157, hs1⟩ a hf
              have hs : St [] W w [.blk b1 55 [.slice A_p0_s_1 p0_s.A.length c_p0_s_1, .slice A_p0_s_2 p0_s.B.length c_p0_s_2, .slice A_p0_s_3 p0_s.C.length c_p0_s_3], .blk b2 55 [.slice A_p1_t_1 p1_t.A.length c_p1_t_1, .slice A_p1_t_2 p1_t.B.length c_p1_t_2, .slice A_p1_t_3 p1_t.C.length c_p1_t_3], .blk b3 55 [.slice none 0 0, .slice none 0 0, .slice none 0 0], .mat A27 n28 c29 23 2 vs31 r25, .row A128 2 2 23 1 [.slice A_p0_s_2 p0_s.B.length c_p0_s_2, .slice A_p1_t_2 p1_t.B.length c_p1_t_2], .row A144 2 2 23 1 [.slice A_p0_s_3 p0_s.C.length c_p0_s_3, .slice A_p1_t_3 p1_t.C.length c_p1_t_3], .row A148 n149 c150 2 1 (ints r146), .row A154 n155 c156 2 1 (ints r152)] := hs.join hs1
              clear hs1
              refine wpO_nil ⟨Or.inl (by decide), ?_⟩
              refine mYp (i := 13) rfl (by kernel_rfl) (by kernel_rfl) hf rfl rfl rfl (fun _ => Y_build (parts := [(0, .tmp 30), (1, .tmp 36), (2, .tmp 42)]) (vs := [.slice A27 n28 c29, .slice A148 n149 c150, .slice A154 n155 c156]) rfl rfl (run_build (parts := [(0, .slice A27 n28 c29), (1, .slice A148 n149 c150), (2, .slice A154 n155 c156)]) (cells := [.slice A27 n28 c29, .slice A148 n149 c150, .slice A154 n155 c156]) (places := #[(0, 1), (1, 1), (2, 1)]) ti55 Try.underlying55 (fun w => by simp [go_sem]) rfl)) ?_; clear hf; intro a hf
              refine mRun (i := 14) rfl (by kernel_rfl) ?_
              refine sStore (i := 2) (us := [.slice A27 n28 c29, .slice A148 n149 c150, .slice A154 n155 c156]) hf hs rfl rfl rfl rfl rfl rfl ti55 rfl rfl rfl (Nat.le_of_ble_eq_true rfl) rfl ?_; clear hs; intro w hs
              have hs : St [] W w [.blk b1 55 [.slice A_p0_s_1 p0_s.A.length c_p0_s_1, .slice A_p0_s_2 p0_s.B.length c_p0_s_2, .slice A_p0_s_3 p0_s.C.length c_p0_s_3], .blk b2 55 [.slice A_p1_t_1 p1_t.A.length c_p1_t_1, .slice A_p1_t_2 p1_t.B.length c_p1_t_2, .slice A_p1_t_3 p1_t.C.length c_p1_t_3], .blk b3 55 [.slice A27 n28 c29, .slice A148 n149 c150, .slice A154 n155 c156], .mat A27 n28 c29 23 2 vs31 r25, .row A128 2 2 23 1 [.slice A_p0_s_2 p0_s.B.length c_p0_s_2, .slice A_p1_t_2 p1_t.B.length c_p1_t_2], .row A144 2 2 23 1 [.slice A_p0_s_3 p0_s.C.length c_p0_s_3, .slice A_p1_t_3 p1_t.C.length c_p1_t_3], .row A148 n149 c150 2 1 (ints r146), .row A154 n155 c156 2 1 (ints r152)] := hs
              refine wpO_nil ⟨Or.inl (by decide), ?_⟩
              refine mYp (i := 15) rfl (by kernel_rfl) (by kernel_rfl) hf rfl rfl rfl (fun _ => Y_assign rfl rfl) ?_; clear hf; intro a hf
              refine mDone (by kernel_rfl) ?_
              clear hs0
              refine wpL_nil (then_normal ?_)
              exact ⟨r25, r146, r152, A27, n28, c29, vs31, A148, n149, c150, A154, n155, c156, Option.some.inj hj111, hn30, hn151, hn157, (FrD.pick (FrD.pick hf.none hf rfl) hf rfl), hs.sel [2, 3, 6, 7] (by decide)⟩
          · refine sBuildSlice (parts := [(0, .tmp 38), (1, .tmp 40)]) (vs := [.slice A_p0_s_3 p0_s.C.length c_p0_s_3, .slice A_p1_t_3 p1_t.C.length c_p1_t_3]) (cells := [.slice A_p0_s_3 p0_s.C.length c_p0_s_3, .slice A_p1_t_3 p1_t.C.length c_p1_t_3]) hf hs rfl rfl rfl rfl rfl el46 ti23 rfl rfl rfl rfl ?_; clear hf hs; intro a w A158 hs hA159 hf
            have hs : St [] W w [.blk b1 55 [.slice A_p0_s_1 p0_s.A.length c_p0_s_1, .slice A_p0_s_2 p0_s.B.length c_p0_s_2, .slice A_p0_s_3 p0_s.C.length c_p0_s_3], .blk b2 55 [.slice A_p1_t_1 p1_t.A.length c_p1_t_1, .slice A_p1_t_2 p1_t.B.length c_p1_t_2, .slice A_p1_t_3 p1_t.C.length c_p1_t_3], .blk b3 55 [.slice none 0 0, .slice none 0 0, .slice none 0 0], .mat A27 n28 c29 23 2 vs31 r25, .row A158 2 2 23 1 [.slice A_p0_s_3 p0_s.C.length c_p0_s_3, .slice A_p1_t_3 p1_t.C.length c_p1_t_3]] := hs
            have hs0 : St [] W w [.blk b1 55 [.slice A_p0_s_1 p0_s.A.length c_p0_s_1, .slice A_p0_s_2 p0_s.B.length c_p0_s_2, .slice A_p0_s_3 p0_s.C.length c_p0_s_3], .blk b2 55 [.slice A_p1_t_1 p1_t.A.length c_p1_t_1, .slice A_p1_t_2 p1_t.B.length c_p1_t_2, .slice A_p1_t_3 p1_t.C.length c_p1_t_3], .blk b3 55 [.slice none 0 0, .slice none 0 0, .slice none 0 0], .mat A27 n28 c29 23 2 vs31 r25] := hs.sel [0, 1, 2, 3] (by decide)
            refine wpO_nil ⟨Or.inr (fun _ => hs0), ?_⟩
            refine mRun (i := 5) rfl (by kernel_rfl) ?_
            refine sBuildSlice (parts := [(0, .tmp 32), (1, .tmp 34)]) (vs := [.slice A_p0_s_2 p0_s.B.length c_p0_s_2, .slice A_p1_t_2 p1_t.B.length c_p1_t_2]) (cells := [.slice A_p0_s_2 p0_s.B.length c_p0_s_2, .slice A_p1_t_2 p1_t.B.length c_p1_t_2]) hf hs rfl rfl rfl rfl rfl el46 ti23 rfl rfl rfl rfl ?_; clear hf hs; intro a w A160 hs hA161 hf
            have hs : St [] W w [.blk b1 55 [.slice A_p0_s_1 p0_s.A.length c_p0_s_1, .slice A_p0_s_2 p0_s.B.length c_p0_s_2, .slice A_p0_s_3 p0_s.C.length c_p0_s_3], .blk b2 55 [.slice A_p1_t_1 p1_t.A.length c_p1_t_1, .slice A_p1_t_2 p1_t.B.length c_p1_t_2, .slice A_p1_t_3 p1_t.C.length c_p1_t_3], .blk b3 55 [.slice none 0 0, .slice none 0 0, .slice none 0 0], .mat A27 n28 c29 23 2 vs31 r25, .row A158 2 2 23 1 [.slice A_p0_s_3 p0_s.C.length c_p0_s_3, .slice A_p1_t_3 p1_t.C.length c_p1_t_3], .row A160 2 2 23 1 [.slice A_p0_s_2 p0_s.B.length c_p0_s_2, .slice A_p1_t_2 p1_t.B.length c_p1_t_2]] := hs
            have hs0 : St [] W w [.blk b1 55 [.slice A_p0_s_1 p0_s.A.length c_p0_s_1, .slice A_p0_s_2 p0_s.B.length c_p0_s_2, .slice A_p0_s_3 p0_s.C.length c_p0_s_3], .blk b2 55 [.slice A_p1_t_1 p1_t.A.length c_p1_t_1, .slice A_p1_t_2 p1_t.B.length c_p1_t_2, .slice A_p1_t_3 p1_t.C.length c_p1_t_3], .blk b3 55 [.slice none 0 0, .slice none 0 0, .slice none 0 0], .mat A27 n28 c29 23 2 vs31 r25] := hs.sel [0, 1, 2, 3] (by decide)
            refine wpO_nil ⟨Or.inr (fun _ => hs0), ?_⟩
            refine mRun (i := 6) rfl (by kernel_rfl) ?_
            obtain ⟨r162, hc163, hj111⟩ := bind_some hj111
            refine sCall hf rfl rfl rfl rfl (cap := []) rfl rfl en102 (slices_Concat_int64_ok F ([p0_s.B, p1_t.B]) A160 2 2 rfl _ _ hc163 (RdM.two (hs.rd (i := 5) rfl) rfl (h_p0_s_2.at hs) rfl (h_p1_t_2.at hs))) ?_; clear hf
            rintro _ w ⟨A164, n165, c166, rfl, hn167, hs1⟩ a hf
            have hs : St [] W w [.blk b1 55 [.slice A_p0_s_1 p0_s.A.length c_p0_s_1, .slice A_p0_s_2 p0_s.B.length c_p0_s_2, .slice A_p0_s_3 p0_s.C.length c_p0_s_3], .blk b2 55 [.slice A_p1_t_1 p1_t.A.length c_p1_t_1, .slice A_p1_t_2 p1_t.B.length c_p1_t_2, .slice A_p1_t_3 p1_t.C.length c_p1_t_3], .blk b3 55 [.slice none 0 0, .slice none 0 0, .slice none 0 0], .mat A27 n28 c29 23 2 vs31 r25, .row A158 2 2 23 1 [.slice A_p0_s_3 p0_s.C.length c_p0_s_3, .slice A_p1_t_3 p1_t.C.length c_p1_t_3], .row A160 2 2 23 1 [.slice A_p0_s_2 p0_s.B.length c_p0_s_2, .slice A_p1_t_2 p1_t.B.length c_p1_t_2], .row A164 n165 c166 2 1 (ints r162)] := hs.join hs1
            clear hs1
            have hs0 : St [] W w [.blk b1 55 [.slice A_p0_s_1 p0_s.A.length c_p0_s_1, .slice A_p0_s_2 p0_s.B.length c_p0_s_2, .slice A_p0_s_3 p0_s.C.length c_p0_s_3], .blk b2 55 [.slice A_p1_t_1 p1_t.A.length c_p1_t_1, .slice A_p1_t_2 p1_t.B.length c_p1_t_2, .slice A_p1_t_3 p1_t.C.length c_p1_t_3], .blk b3 55 [.slice none 0 0, .slice none 0 0, .slice none 0 0], .mat A27 n28 c29 23 2 vs31 r25] := hs.sel [0, 1, 2, 3] (by decide)
            refine wpO_nil ⟨Or.inr (fun _ => hs0), ?_⟩
            refine mRun (i := 12) rfl (by kernel_rfl) ?_
            obtain ⟨r168, hc169, hj111⟩ := bind_some hj111
            refine sCall hf rfl rfl rfl rfl (cap := []) rfl rfl en102 (slices_Concat_int64_ok F ([p0_s.C, p1_t.C]) A158 2 2 rfl _ _ hc169 (RdM.two (hs.rd (i := 4) rfl) rfl (h_p0_s_3.at hs) rfl (h_p1_t_3.at hs))) ?_; clear hf
            rintro _ w ⟨A170, n171, c172, rfl, hn173, hs1⟩ a hf
            have hs : St [] W w [.blk b1 55 [.slice A_p0_s_1 p0_s.A.length c_p0_s_1, .slice A_p0_s_2 p0_s.B.length c_p0_s_2, .slice A_p0_s_3 p0_s.C.length c_p0_s_3], .blk b2 55 [.slice A_p1_t_1 p1_t.A.length c_p1_t_1, .slice A_p1_t_2 p1_t.B.length c_p1_t_2, .slice A_p1_t_3 p1_t.C.length c_p1_t_3], .blk b3 55 [.slice none 0 0, .slice none 0 0, .slice none 0 0], .mat A27 n28 c29 23 2 vs31 r25, .row A158 2 2 23 1 [.slice A_p0_s_3 p0_s.C.length c_p0_s_3, .slice A_p1_t_3 p1_t.C.length c_p1_t_3], .row A160 2 2 23 1 [.slice A_p0_s_2 p0_s.B.length c_p0_s_2, .slice A_p1_t_2 p1_t.B.length c_p1_t_2], .row A164 n165 c166 2 1 (ints r162), .row A170 n171 c172 2 1 (ints r168)] := hs.join hs1
            clear hs1
            refine wpO_nil ⟨Or.inl (by decide), ?_⟩
            refine mYp (i := 13) rfl (by kernel_rfl) (by kernel_rfl) hf rfl rfl rfl (fun _ => Y_build (parts := [(0, .tmp 30), (1, .tmp 36), (2, .tmp 42)]) (vs := [.slice A27 n28 c29, .slice A164 n165 c166, .slice A170 n171 c172]) rfl rfl (run_build (parts := [(0, .slice A27 n28 c29), (1, .slice A164 n165 c166), (2, .slice A170 n171 c172)]) (cells := [.slice A27 n28 c29, .slice A164 n165 c166, .slice A170 n171 c172]) (places := #[(0, 1), (1, 1), (2, 1)]) ti55 Try.underlying55 (fun w => by simp [go_sem]) rfl)) ?_; clear hf; intro a hf
            refine mRun (i := 14) rfl (by kernel_rfl) ?_
            refine sStore (i := 2) (us := [.slice A27 n28 c29, .slice A164 n165 c166, .slice A170 n171 c172]) hf hs rfl rfl rfl rfl rfl rfl ti55 rfl rfl rfl (Nat.le_of_ble_eq_true rfl) rfl ?_; clear hs; intro w hs
            have hs : St [] W w [.blk b1 55 [.slice A_p0_s_1 p0_s.A.length c_p0_s_1, .slice A_p0_s_2 p0_s.B.length c_p0_s_2, .slice A_p0_s_3 p0_s.C.length c_p0_s_3], .blk b2 55 [.slice A_p1_t_1 p1_t.A.length c_p1_t_1, .slice A_p1_t_2 p1_t.B.length c_p1_t_2, .slice A_p1_t_3 p1_t.C.length c_p1_t_3], .blk b3 55 [.slice A27 n28 c29, .slice A164 n165 c166, .slice A170 n171 c172], .mat A27 n28 c29 23 2 vs31 r25, .row A158 2 2 23 1 [.slice A_p0_s_3 p0_s.C.length c_p0_s_3, .slice A_p1_t_3 p1_t.C.length c_p1_t_3], .row A160 2 2 23 1 [.slice A_p0_s_2 p0_s.B.length c_p0_s_2, .slice A_p1_t_2 p1_t.B.length c_p1_t_2], .row A164 n165 c166 2 1 (ints r162), .row A170 n171 c172 2 1 (ints r168)] := hs
            refine wpO_nil ⟨Or.inl (by decide), ?_⟩
            refine mYp (i := 15) rfl (by kernel_rfl) (by kernel_rfl) hf rfl rfl rfl (fun _ => Y_assign rfl rfl) ?_; clear hf; intro a hf
            refine mDone (by kernel_rfl) ?_
            clear hs0
            refine wpL_nil (then_normal ?_)
            exact ⟨r25, r162, r168, A27, n28, c29, vs31, A164, n165, c166, A170, n171, c172, Option.some.inj hj111, hn30, hn167, hn173, (FrD.pick (FrD.pick hf.none hf rfl) hf rfl), hs.sel [2, 3, 6, 7] (by decide)⟩
        · rintro a w ⟨ms94, xs100, xs105, A95, n96, c97, vs99, A101, n102, c103, A106, n107, c108, hr_, hn98, hn104, hn109, hf, hs⟩
          subst hr_
          try dsimp only at hm
          obtain rfl := Option.some.inj hm
          refine wpL_ret (ret_cell_tmp rfl hf rfl rfl hs (i := 0) rfl ag55 ti55 rfl ?_)
          exact ⟨_, rfl, A95, n96, c97, vs99, A101, n102, c103, A106, n107, c108, rfl, hn98, hn104, hn109, hs.sel [1, 2, 3] (by decide)⟩

set_option maxRecDepth 100000 in
theorem laws_eqInt64S_ok (F : Nat) (p0_a : List Int) (A_p0_a_1 : Option Addr) (n_p0_a_1 c_p0_a_1 : Nat) (hn_p0_a_1 : n_p0_a_1 = p0_a.length) (p1_b : List Int) (A_p1_b_1 : Option Addr) (n_p1_b_1 c_p1_b_1 : Nat) (hn_p1_b_1 : n_p1_b_1 = p1_b.length) (r : Bool) (W : World) (hm : laws_eqInt64S F p0_a p1_b = some r) (h_p0_a_1 : Rd W A_p0_a_1 (ints p0_a)) (h_p1_b_1 : Rd W A_p1_b_1 (ints p1_b)) :
    Calls Try.prog 19 [.slice A_p0_a_1 n_p0_a_1 c_p0_a_1, .slice A_p1_b_1 n_p1_b_1 c_p1_b_1].toArray W fun e w' => ∃ v, e = .returned v ∧ v = .bool r ∧ St [] W w' [] := by
  subst hn_p0_a_1
  subst hn_p1_b_1
  unfold laws_eqInt64S at hm
  refine Calls.enter (N := 26) Try.func19 rfl rfl rfl (fun a hf => ?_)
  have hs := St.start W
  obtain ⟨w, hw_⟩ : ∃ w, w = W := ⟨W, rfl⟩
  clear hw_ w
  refine wpL_seq ?_
  refine wpL_region ?_
  refine sY hf hs rfl rfl rfl (Y_assign rfl rfl) ?_; clear hf; intro a hf
  refine wpO_nil ?_
  refine wpL_seq ?_
  refine wpL_seq ?_
  refine wpL_region ?_
  refine sY hf hs rfl rfl rfl (Y_move rfl rfl) ?_; clear hf; intro a hf
  refine sY hf hs rfl rfl rfl (Y_lenH rfl rfl el23 rfl) ?_; clear hf; intro a hf
  refine sY hf hs rfl rfl rfl (Y_move rfl rfl) ?_; clear hf; intro a hf
  refine sY hf hs rfl rfl rfl (Y_lenH rfl rfl el23 rfl) ?_; clear hf; intro a hf
  refine sY hf hs rfl rfl rfl (Y_neq rfl rfl rfl) ?_; clear hf; intro a hf
  refine wpO_nil ?_
  refine wpL_cond hf rfl (fun hb1 => ?_) (fun hb1 => ?_)
  · have hm := bif_t hm hb1
    refine wpL_seq ?_
    refine wpL_region ?_
    refine sY hf hs rfl rfl rfl (Y_assign rfl rfl) ?_; clear hf; intro a hf
    refine wpO_nil ?_
    obtain rfl := Option.some.inj hm
    refine wpL_ret (ret_tmp rfl hf rfl ?_)
    exact ⟨_, rfl, rfl, hs⟩
  · have hm := bif_f hm hb1
    refine wpL_skip ?_
    refine wpL_seq ?_
    refine wpL_seq ?_
    refine wpL_region ?_
    refine sY hf hs rfl rfl rfl (Y_assign rfl rfl) ?_; clear hf; intro a hf
    refine wpO_nil ?_
    obtain ⟨r22, hl23, hm⟩ := bind_some hm
    refine wpL_block (fun a w => Sum.inr () = r22 ∧ Fr a 26 [] ∧ St [] W w []) ?_ ?_
    · refine wpL_loop (fun n a w => ∃ x15 : Int, laws_eqInt64S_L1 F p0_a p1_b n x15 = some r22 ∧ Fr a 26 [(0, .slice A_p0_a_1 p0_a.length c_p0_a_1), (1, .slice A_p1_b_1 p1_b.length c_p1_b_1), (5, .int .i64 x15)] ∧ St [] W w []) F ?_ ?_ ?_
      · exact ⟨0, hl23, (FrD.pick (FrD.pick (FrD.pick hf.none hf rfl) hf rfl) hf rfl), hs⟩
      · rintro a w ⟨x15, h0_, -, -⟩; simp [laws_eqInt64S_L1] at h0_
      · rintro n25 a w ⟨x15, hm24, hf, hs⟩
        rw [laws_eqInt64S_L1] at hm24
        refine wpL_seq ?_
        refine wpL_seq ?_
        refine wpL_region ?_
        refine sY hf hs rfl rfl rfl (Y_move rfl rfl) ?_; clear hf; intro a hf
        refine sY hf hs rfl rfl rfl (Y_move rfl rfl) ?_; clear hf; intro a hf
        refine sY hf hs rfl rfl rfl (Y_lenH rfl rfl el23 rfl) ?_; clear hf; intro a hf
        refine sY hf hs rfl rfl rfl (Y_lss rfl rfl rfl) ?_; clear hf; intro a hf
        refine wpO_nil ?_
        refine wpL_cond hf rfl (fun hb26 => ?_) (fun hb26 => ?_)
        · have hm24 := bif_t hm24 hb26
          refine wpL_skip ?_
          refine wpL_seq ?_
          refine wpL_block0 ?_
          refine wpL_seq ?_
          refine wpL_draw (by kernel_rfl) (by kernel_rfl) hs ?_
          refine qY hf rfl rfl rfl (Y_move rfl rfl) ?_; clear hf; intro a hf
          refine qY hf rfl rfl rfl (Y_move rfl rfl) ?_; clear hf; intro a hf
          obtain ⟨q27, hi28, hm24⟩ := bind_some hm24
          obtain ⟨hi28a, hi28b, hi28q⟩ := idx_some hi28
          refine qY hf rfl rfl rfl (Y_index rfl rfl rfl el23 ti2 (Rd.isAt (h_p0_a_1.at hs) (at1 (ints_at hi28q))) hi28a hi28b) ?_; clear hf; intro a hf
          refine qY hf rfl rfl rfl (Y_load_rd rfl rfl (fun w hs => h_p0_a_1.at hs) (at1 (ints_at hi28q)) ag2) ?_; clear hf; intro a hf
          refine qY hf rfl rfl rfl (Y_move rfl rfl) ?_; clear hf; intro a hf
          refine qY hf rfl rfl rfl (Y_move rfl rfl) ?_; clear hf; intro a hf
          obtain ⟨q29, hi30, hm24⟩ := bind_some hm24
          obtain ⟨hi30a, hi30b, hi30q⟩ := idx_some hi30
          refine qY hf rfl rfl rfl (Y_index rfl rfl rfl el23 ti2 (Rd.isAt (h_p1_b_1.at hs) (at1 (ints_at hi30q))) hi30a hi30b) ?_; clear hf; intro a hf
          refine qY hf rfl rfl rfl (Y_load_rd rfl rfl (fun w hs => h_p1_b_1.at hs) (at1 (ints_at hi30q)) ag2) ?_; clear hf; intro a hf
          refine qY hf rfl rfl rfl (Y_neq rfl rfl rfl) ?_; clear hf; intro a hf
          refine qNil ?_; clear hs; intro w hs
          refine wpL_cond hf rfl (fun hb31 => ?_) (fun hb31 => ?_)
          · have hm24 := bif_t hm24 hb31
            refine wpL_seq ?_
            refine wpL_region ?_
            refine sY hf hs rfl rfl rfl (Y_assign rfl rfl) ?_; clear hf; intro a hf
            refine wpO_nil ?_
            obtain rfl := Option.some.inj hm24
            try dsimp only at hm
            obtain rfl := Option.some.inj hm
            refine wpL_ret (Qb_ret (Ql_ret (Qb_ret (ret_tmp rfl hf rfl ?_))))
            exact ⟨_, rfl, rfl, hs⟩
          · have hm24 := bif_f hm24 hb31
            refine wpL_skip ?_
            refine wpL_nil (Qb_normal ?_)
            refine wpL_region ?_
            refine sY hf hs rfl rfl rfl (Y_move rfl rfl) ?_; clear hf; intro a hf
            refine sY hf hs rfl rfl rfl (Y_add rfl rfl rfl) ?_; clear hf; intro a hf
            refine sY hf hs rfl rfl rfl (Y_assign rfl rfl) ?_; clear hf; intro a hf
            refine wpO_nil ?_
            refine wpL_nil (Ql_normal ?_)
            exact ⟨(IntKind.i64.wrap (x15 + 1)), hm24, (FrD.pick (FrD.pick (FrD.pick hf.none hf rfl) hf rfl) hf rfl), hs⟩
        · have hm24 := bif_f hm24 hb26
          refine wpL_exit (Ql_exit (Qb_exit ?_))
          exact ⟨Option.some.inj hm24, hf.none, hs⟩
    · rintro a w ⟨hr_, hf, hs⟩
      subst hr_
      try dsimp only at hm
      refine wpL_seq ?_
      refine wpL_region ?_
      refine sY hf hs rfl rfl rfl (Y_assign rfl rfl) ?_; clear hf; intro a hf
      refine wpO_nil ?_
      obtain rfl := Option.some.inj hm
      refine wpL_ret (ret_tmp rfl hf rfl ?_)
      exact ⟨_, rfl, rfl, hs⟩

set_option maxRecDepth 100000 in
theorem laws_eqInt64SS_ok (F : Nat) (p0_a : List (List Int)) (A_p0_a_1 : Option Addr) (n_p0_a_1 c_p0_a_1 : Nat) (hn_p0_a_1 : n_p0_a_1 = p0_a.length) (p1_b : List (List Int)) (A_p1_b_1 : Option Addr) (n_p1_b_1 c_p1_b_1 : Nat) (hn_p1_b_1 : n_p1_b_1 = p1_b.length) (r : Bool) (W : World) (hm : laws_eqInt64SS F p0_a p1_b = some r) (h_p0_a_1 : RdM W A_p0_a_1 p0_a) (h_p1_b_1 : RdM W A_p1_b_1 p1_b) :
    Calls Try.prog 35 [.slice A_p0_a_1 n_p0_a_1 c_p0_a_1, .slice A_p1_b_1 n_p1_b_1 c_p1_b_1].toArray W fun e w' => ∃ v, e = .returned v ∧ v = .bool r ∧ St [] W w' [] := by
  subst hn_p0_a_1
  subst hn_p1_b_1
  unfold laws_eqInt64SS at hm
  refine Calls.enter (N := 27) Try.func35 rfl rfl rfl (fun a hf => ?_)
  have hs := St.start W
  obtain ⟨w, hw_⟩ : ∃ w, w = W := ⟨W, rfl⟩
  clear hw_ w
  refine wpL_seq ?_
  refine wpL_region ?_
  refine sY hf hs rfl rfl rfl (Y_assign rfl rfl) ?_; clear hf; intro a hf
  refine wpO_nil ?_
  refine wpL_seq ?_
  refine wpL_seq ?_
  refine wpL_region ?_
  refine sY hf hs rfl rfl rfl (Y_move rfl rfl) ?_; clear hf; intro a hf
  refine sY hf hs rfl rfl rfl (Y_lenH rfl rfl el46 rfl) ?_; clear hf; intro a hf
  refine sY hf hs rfl rfl rfl (Y_move rfl rfl) ?_; clear hf; intro a hf
  refine sY hf hs rfl rfl rfl (Y_lenH rfl rfl el46 rfl) ?_; clear hf; intro a hf
  refine sY hf hs rfl rfl rfl (Y_neq rfl rfl rfl) ?_; clear hf; intro a hf
  refine wpO_nil ?_
  refine wpL_cond hf rfl (fun hb1 => ?_) (fun hb1 => ?_)
  · have hm := bif_t hm hb1
    refine wpL_seq ?_
    refine wpL_region ?_
    refine sY hf hs rfl rfl rfl (Y_assign rfl rfl) ?_; clear hf; intro a hf
    refine wpO_nil ?_
    obtain rfl := Option.some.inj hm
    refine wpL_ret (ret_tmp rfl hf rfl ?_)
    exact ⟨_, rfl, rfl, hs⟩
  · have hm := bif_f hm hb1
    refine wpL_skip ?_
    refine wpL_seq ?_
    refine wpL_seq ?_
    refine wpL_region ?_
    refine sY hf hs rfl rfl rfl (Y_assign rfl rfl) ?_; clear hf; intro a hf
    refine wpO_nil ?_
    obtain ⟨r70, hl71, hm⟩ := bind_some hm
    refine wpL_block (fun a w => Sum.inr () = r70 ∧ Fr a 27 [] ∧ St [] W w []) ?_ ?_
    · refine wpL_loop (fun n a w => ∃ x47 : Int, laws_eqInt64SS_L1 F p0_a p1_b n x47 = some r70 ∧ Fr a 27 [(0, .slice A_p0_a_1 p0_a.length c_p0_a_1), (1, .slice A_p1_b_1 p1_b.length c_p1_b_1), (5, .int .i64 x47)] ∧ St [] W w []) F ?_ ?_ ?_
      · exact ⟨0, hl71, (FrD.pick (FrD.pick (FrD.pick hf.none hf rfl) hf rfl) hf rfl), hs⟩
      · rintro a w ⟨x47, h0_, -, -⟩; simp [laws_eqInt64SS_L1] at h0_
      · rintro n73 a w ⟨x47, hm72, hf, hs⟩
        rw [laws_eqInt64SS_L1] at hm72
        refine wpL_seq ?_
        refine wpL_seq ?_
        refine wpL_region ?_
        refine sY hf hs rfl rfl rfl (Y_move rfl rfl) ?_; clear hf; intro a hf
        refine sY hf hs rfl rfl rfl (Y_move rfl rfl) ?_; clear hf; intro a hf
        refine sY hf hs rfl rfl rfl (Y_lenH rfl rfl el46 rfl) ?_; clear hf; intro a hf
        refine sY hf hs rfl rfl rfl (Y_lss rfl rfl rfl) ?_; clear hf; intro a hf
        refine wpO_nil ?_
        refine wpL_cond hf rfl (fun hb74 => ?_) (fun hb74 => ?_)
        · have hm72 := bif_t hm72 hb74
          refine wpL_skip ?_
          refine wpL_seq ?_
          refine wpL_block0 ?_
          refine wpL_seq ?_
          refine wpL_draw (by kernel_rfl) (by kernel_rfl) hs ?_
          refine qY hf rfl rfl rfl (Y_move rfl rfl) ?_; clear hf; intro a hf
          refine qY hf rfl rfl rfl (Y_move rfl rfl) ?_; clear hf; intro a hf
          obtain ⟨q75, hi76, hm72⟩ := bind_some hm72
          obtain ⟨hi76a, hi76b, hi76q⟩ := idx_some hi76
          obtain ⟨vs77, hv78, hr79⟩ := id h_p0_a_1
          obtain ⟨A80, c81, hv82, hR83⟩ := hr79 _ _ hi76q
          refine qY hf rfl rfl rfl (Y_index rfl rfl rfl el46 ti23 (Rd.isAt hv78 hv82) hi76a hi76b) ?_; clear hf; intro a hf
          refine qY hf rfl rfl rfl (Y_load_rd rfl rfl (fun w hs => hv78.at hs) (at1 hv82) ag23) ?_; clear hf; intro a hf
          refine qY hf rfl rfl rfl (Y_move rfl rfl) ?_; clear hf; intro a hf
          refine qY hf rfl rfl rfl (Y_move rfl rfl) ?_; clear hf; intro a hf
          obtain ⟨q84, hi85, hm72⟩ := bind_some hm72
          obtain ⟨hi85a, hi85b, hi85q⟩ := idx_some hi85
          obtain ⟨vs86, hv87, hr88⟩ := id h_p1_b_1
          obtain ⟨A89, c90, hv91, hR92⟩ := hr88 _ _ hi85q
          refine qY hf rfl rfl rfl (Y_index rfl rfl rfl el46 ti23 (Rd.isAt hv87 hv91) hi85a hi85b) ?_; clear hf; intro a hf
          refine qY hf rfl rfl rfl (Y_load_rd rfl rfl (fun w hs => hv87.at hs) (at1 hv91) ag23) ?_; clear hf; intro a hf
          obtain ⟨r93, hc94, hm72⟩ := bind_some hm72
          refine qCall hf rfl rfl rfl rfl (cap := []) rfl rfl en19 (v := .bool r93) (fun w hs => Calls.scal (laws_eqInt64S_ok F q75 A80 q75.length c81 rfl q84 A89 q84.length c90 rfl _ _ hc94 (hR83.at hs) (hR92.at hs))) ?_; clear hf; intro a hf
          refine qY hf rfl rfl rfl (Y_not rfl rfl) ?_; clear hf; intro a hf
          refine qNil ?_; clear hs; intro w hs
          refine wpL_cond hf rfl (fun hb95 => ?_) (fun hb95 => ?_)
          · have hm72 := bif_t hm72 hb95
            refine wpL_seq ?_
            refine wpL_region ?_
            refine sY hf hs rfl rfl rfl (Y_assign rfl rfl) ?_; clear hf; intro a hf
            refine wpO_nil ?_
            obtain rfl := Option.some.inj hm72
            try dsimp only at hm
            obtain rfl := Option.some.inj hm
            refine wpL_ret (Qb_ret (Ql_ret (Qb_ret (ret_tmp rfl hf rfl ?_))))
            exact ⟨_, rfl, rfl, hs⟩
          · have hm72 := bif_f hm72 hb95
            refine wpL_skip ?_
            refine wpL_nil (Qb_normal ?_)
            refine wpL_region ?_
            refine sY hf hs rfl rfl rfl (Y_move rfl rfl) ?_; clear hf; intro a hf
            refine sY hf hs rfl rfl rfl (Y_add rfl rfl rfl) ?_; clear hf; intro a hf
            refine sY hf hs rfl rfl rfl (Y_assign rfl rfl) ?_; clear hf; intro a hf
            refine wpO_nil ?_
            refine wpL_nil (Ql_normal ?_)
            exact ⟨(IntKind.i64.wrap (x47 + 1)), hm72, (FrD.pick (FrD.pick (FrD.pick hf.none hf rfl) hf rfl) hf rfl), hs⟩
        · have hm72 := bif_f hm72 hb74
          refine wpL_exit (Ql_exit (Qb_exit ?_))
          exact ⟨Option.some.inj hm72, hf.none, hs⟩
    · rintro a w ⟨hr_, hf, hs⟩
      subst hr_
      try dsimp only at hm
      refine wpL_seq ?_
      refine wpL_region ?_
      refine sY hf hs rfl rfl rfl (Y_assign rfl rfl) ?_; clear hf; intro a hf
      refine wpO_nil ?_
      obtain rfl := Option.some.inj hm
      refine wpL_ret (ret_tmp rfl hf rfl ?_)
      exact ⟨_, rfl, rfl, hs⟩

set_option maxRecDepth 100000 in
theorem laws_eqSystem_ok (F : Nat) (p0_a : GSystem) (A_p0_a_1 : Option Addr) (n_p0_a_1 c_p0_a_1 : Nat) (hn_p0_a_1 : n_p0_a_1 = p0_a.A.length) (A_p0_a_2 : Option Addr) (n_p0_a_2 c_p0_a_2 : Nat) (hn_p0_a_2 : n_p0_a_2 = p0_a.B.length) (A_p0_a_3 : Option Addr) (n_p0_a_3 c_p0_a_3 : Nat) (hn_p0_a_3 : n_p0_a_3 = p0_a.C.length) (p1_b : GSystem) (A_p1_b_1 : Option Addr) (n_p1_b_1 c_p1_b_1 : Nat) (hn_p1_b_1 : n_p1_b_1 = p1_b.A.length) (A_p1_b_2 : Option Addr) (n_p1_b_2 c_p1_b_2 : Nat) (hn_p1_b_2 : n_p1_b_2 = p1_b.B.length) (A_p1_b_3 : Option Addr) (n_p1_b_3 c_p1_b_3 : Nat) (hn_p1_b_3 : n_p1_b_3 = p1_b.C.length) (r : Bool) (W : World) (hm : laws_eqSystem F p0_a p1_b = some r) (h_p0_a_1 : RdM W A_p0_a_1 p0_a.A) (h_p0_a_2 : Rd W A_p0_a_2 (ints p0_a.B)) (h_p0_a_3 : Rd W A_p0_a_3 (ints p0_a.C)) (h_p1_b_1 : RdM W A_p1_b_1 p1_b.A) (h_p1_b_2 : Rd W A_p1_b_2 (ints p1_b.B)) (h_p1_b_3 : Rd W A_p1_b_3 (ints p1_b.C)) :
    Calls Try.prog 42 [.agg #[.slice A_p0_a_1 n_p0_a_1 c_p0_a_1, .slice A_p0_a_2 n_p0_a_2 c_p0_a_2, .slice A_p0_a_3 n_p0_a_3 c_p0_a_3], .agg #[.slice A_p1_b_1 n_p1_b_1 c_p1_b_1, .slice A_p1_b_2 n_p1_b_2 c_p1_b_2, .slice A_p1_b_3 n_p1_b_3 c_p1_b_3]].toArray W fun e w' => ∃ v, e = .returned v ∧ v = .bool r ∧ St [] W w' [] := by
  subst hn_p0_a_1
  subst hn_p0_a_2
  subst hn_p0_a_3
  subst hn_p1_b_1
  subst hn_p1_b_2
  subst hn_p1_b_3
  unfold laws_eqSystem at hm
  refine Calls.enter (N := 23) Try.func42 rfl rfl rfl (fun a hf => ?_)
  have hs := St.start W
  obtain ⟨w, hw_⟩ : ∃ w, w = W := ⟨W, rfl⟩
  clear hw_ w
  refine wpL_seq ?_
  refine wpL_region ?_
  refine sBox hf hs rfl rfl rfl rfl rfl (cs := [.slice A_p0_a_1 p0_a.A.length c_p0_a_1, .slice A_p0_a_2 p0_a.B.length c_p0_a_2, .slice A_p0_a_3 p0_a.C.length c_p0_a_3]) rfl ?_; clear hf hs; intro a w b1 hs hf
  have hs : St [] W w [.blk b1 55 [.slice A_p0_a_1 p0_a.A.length c_p0_a_1, .slice A_p0_a_2 p0_a.B.length c_p0_a_2, .slice A_p0_a_3 p0_a.C.length c_p0_a_3]] := hs
  refine sBox hf hs rfl rfl rfl rfl rfl (cs := [.slice A_p1_b_1 p1_b.A.length c_p1_b_1, .slice A_p1_b_2 p1_b.B.length c_p1_b_2, .slice A_p1_b_3 p1_b.C.length c_p1_b_3]) rfl ?_; clear hf hs; intro a w b2 hs hf
  have hs : St [] W w [.blk b1 55 [.slice A_p0_a_1 p0_a.A.length c_p0_a_1, .slice A_p0_a_2 p0_a.B.length c_p0_a_2, .slice A_p0_a_3 p0_a.C.length c_p0_a_3], .blk b2 55 [.slice A_p1_b_1 p1_b.A.length c_p1_b_1, .slice A_p1_b_2 p1_b.B.length c_p1_b_2, .slice A_p1_b_3 p1_b.C.length c_p1_b_3]] := hs
  refine sY hf hs rfl rfl rfl (Y_assign rfl rfl) ?_; clear hf; intro a hf
  refine wpO_nil ?_
  refine wpL_seq ?_
  refine wpL_seq ?_
  refine wpL_region ?_
  refine sY hf hs rfl rfl rfl (Y_fieldAddr rfl rfl fo55_0) ?_; clear hf; intro a hf
  refine sY hf hs rfl rfl rfl (Y_load_blk rfl rfl (i := 0) rfl rfl ag46) ?_; clear hf; intro a hf
  refine sY hf hs rfl rfl rfl (Y_fieldAddr rfl rfl fo55_0) ?_; clear hf; intro a hf
  refine sY hf hs rfl rfl rfl (Y_load_blk rfl rfl (i := 1) rfl rfl ag46) ?_; clear hf; intro a hf
  obtain ⟨r3, hc4, hm⟩ := bind_some hm
  refine sCall hf rfl rfl rfl rfl (cap := []) rfl rfl en35 (laws_eqInt64SS_ok F p0_a.A A_p0_a_1 p0_a.A.length c_p0_a_1 rfl p1_b.A A_p1_b_1 p1_b.A.length c_p1_b_1 rfl _ _ hc4 (h_p0_a_1.at hs) (h_p1_b_1.at hs)) ?_; clear hf
  rintro _ w ⟨rfl, hs1⟩ a hf
  have hs : St [] W w [.blk b1 55 [.slice A_p0_a_1 p0_a.A.length c_p0_a_1, .slice A_p0_a_2 p0_a.B.length c_p0_a_2, .slice A_p0_a_3 p0_a.C.length c_p0_a_3], .blk b2 55 [.slice A_p1_b_1 p1_b.A.length c_p1_b_1, .slice A_p1_b_2 p1_b.B.length c_p1_b_2, .slice A_p1_b_3 p1_b.C.length c_p1_b_3]] := hs.ext hs1.below
  clear hs1
  refine sY hf hs rfl rfl rfl (Y_not rfl rfl) ?_; clear hf; intro a hf
  refine wpO_nil ?_
  refine wpL_cond hf rfl (fun hb5 => ?_) (fun hb5 => ?_)
  · have hm := bif_t hm hb5
    refine wpL_seq ?_
    refine wpL_region ?_
    refine sY hf hs rfl rfl rfl (Y_assign rfl rfl) ?_; clear hf; intro a hf
    refine wpO_nil ?_
    obtain rfl := Option.some.inj hm
    refine wpL_ret (ret_tmp rfl hf rfl ?_)
    exact ⟨_, rfl, rfl, hs.sel [] (by decide)⟩
  · have hm := bif_f hm hb5
    refine wpL_skip ?_
    refine wpL_seq ?_
    refine wpL_seq ?_
    refine wpL_region ?_
    refine sY hf hs rfl rfl rfl (Y_fieldAddr rfl rfl fo55_1) ?_; clear hf; intro a hf
    refine sY hf hs rfl rfl rfl (Y_load_blk rfl rfl (i := 0) rfl rfl ag23) ?_; clear hf; intro a hf
    refine sY hf hs rfl rfl rfl (Y_fieldAddr rfl rfl fo55_1) ?_; clear hf; intro a hf
    refine sY hf hs rfl rfl rfl (Y_load_blk rfl rfl (i := 1) rfl rfl ag23) ?_; clear hf; intro a hf
    obtain ⟨r6, hc7, hm⟩ := bind_some hm
    refine sCall hf rfl rfl rfl rfl (cap := []) rfl rfl en19 (laws_eqInt64S_ok F p0_a.B A_p0_a_2 p0_a.B.length c_p0_a_2 rfl p1_b.B A_p1_b_2 p1_b.B.length c_p1_b_2 rfl _ _ hc7 (h_p0_a_2.at hs) (h_p1_b_2.at hs)) ?_; clear hf
    rintro _ w ⟨rfl, hs1⟩ a hf
    have hs : St [] W w [.blk b1 55 [.slice A_p0_a_1 p0_a.A.length c_p0_a_1, .slice A_p0_a_2 p0_a.B.length c_p0_a_2, .slice A_p0_a_3 p0_a.C.length c_p0_a_3], .blk b2 55 [.slice A_p1_b_1 p1_b.A.length c_p1_b_1, .slice A_p1_b_2 p1_b.B.length c_p1_b_2, .slice A_p1_b_3 p1_b.C.length c_p1_b_3]] := hs.ext hs1.below
    clear hs1
    refine sY hf hs rfl rfl rfl (Y_not rfl rfl) ?_; clear hf; intro a hf
    refine wpO_nil ?_
    refine wpL_cond hf rfl (fun hb8 => ?_) (fun hb8 => ?_)
    · have hm := bif_t hm hb8
      refine wpL_seq ?_
      refine wpL_region ?_
      refine sY hf hs rfl rfl rfl (Y_assign rfl rfl) ?_; clear hf; intro a hf
      refine wpO_nil ?_
      obtain rfl := Option.some.inj hm
      refine wpL_ret (ret_tmp rfl hf rfl ?_)
      exact ⟨_, rfl, rfl, hs.sel [] (by decide)⟩
    · have hm := bif_f hm hb8
      refine wpL_skip ?_
      refine wpL_seq ?_
      refine wpL_seq ?_
      refine wpL_region ?_
      refine sY hf hs rfl rfl rfl (Y_fieldAddr rfl rfl fo55_2) ?_; clear hf; intro a hf
      refine sY hf hs rfl rfl rfl (Y_load_blk rfl rfl (i := 0) rfl rfl ag23) ?_; clear hf; intro a hf
      refine sY hf hs rfl rfl rfl (Y_fieldAddr rfl rfl fo55_2) ?_; clear hf; intro a hf
      refine sY hf hs rfl rfl rfl (Y_load_blk rfl rfl (i := 1) rfl rfl ag23) ?_; clear hf; intro a hf
      obtain ⟨r9, hc10, hm⟩ := bind_some hm
      refine sCall hf rfl rfl rfl rfl (cap := []) rfl rfl en19 (laws_eqInt64S_ok F p0_a.C A_p0_a_3 p0_a.C.length c_p0_a_3 rfl p1_b.C A_p1_b_3 p1_b.C.length c_p1_b_3 rfl _ _ hc10 (h_p0_a_3.at hs) (h_p1_b_3.at hs)) ?_; clear hf
      rintro _ w ⟨rfl, hs1⟩ a hf
      have hs : St [] W w [.blk b1 55 [.slice A_p0_a_1 p0_a.A.length c_p0_a_1, .slice A_p0_a_2 p0_a.B.length c_p0_a_2, .slice A_p0_a_3 p0_a.C.length c_p0_a_3], .blk b2 55 [.slice A_p1_b_1 p1_b.A.length c_p1_b_1, .slice A_p1_b_2 p1_b.B.length c_p1_b_2, .slice A_p1_b_3 p1_b.C.length c_p1_b_3]] := hs.ext hs1.below
      clear hs1
      refine sY hf hs rfl rfl rfl (Y_not rfl rfl) ?_; clear hf; intro a hf
      refine wpO_nil ?_
      refine wpL_cond hf rfl (fun hb11 => ?_) (fun hb11 => ?_)
      · have hm := bif_t hm hb11
        refine wpL_seq ?_
        refine wpL_region ?_
        refine sY hf hs rfl rfl rfl (Y_assign rfl rfl) ?_; clear hf; intro a hf
        refine wpO_nil ?_
        obtain rfl := Option.some.inj hm
        refine wpL_ret (ret_tmp rfl hf rfl ?_)
        exact ⟨_, rfl, rfl, hs.sel [] (by decide)⟩
      · have hm := bif_f hm hb11
        refine wpL_skip ?_
        refine wpL_seq ?_
        refine wpL_region ?_
        refine sY hf hs rfl rfl rfl (Y_assign rfl rfl) ?_; clear hf; intro a hf
        refine wpO_nil ?_
        obtain rfl := Option.some.inj hm
        refine wpL_ret (ret_tmp rfl hf rfl ?_)
        exact ⟨_, rfl, rfl, hs.sel [] (by decide)⟩

set_option maxRecDepth 100000 in
theorem laws_markInt64S_ok (F : Nat) (p0_a : List Int) (A_p0_a_1 : Option Addr) (n_p0_a_1 c_p0_a_1 : Nat) (hn_p0_a_1 : n_p0_a_1 = p0_a.length) (p1_k : Int) (r : (Int) × List Int) (W : World) (hm : laws_markInt64S F p0_a p1_k = some r) (h_p0_a_1 : (Res.row A_p0_a_1 n_p0_a_1 c_p0_a_1 2 1 (ints p0_a) : Res).holds 0 W) :
    Calls Try.prog 22 [.slice A_p0_a_1 n_p0_a_1 c_p0_a_1, .int .i64 p1_k].toArray W fun e w' => ∃ v, e = .returned v ∧ v = .int .i64 r.1 ∧ n_p0_a_1 = r.2.length ∧ St (muA A_p0_a_1) W w' [.row A_p0_a_1 n_p0_a_1 c_p0_a_1 2 1 (ints r.2)] := by
  subst hn_p0_a_1
  unfold laws_markInt64S at hm
  refine Calls.enter (N := 19) Try.func22 rfl rfl rfl (fun a hf => ?_)
  have hs : St (muA A_p0_a_1) W W [.row A_p0_a_1 p0_a.length c_p0_a_1 2 1 (ints p0_a)] := St.startMut h_p0_a_1 (fun b hb => mem_muA hb)
  obtain ⟨w, hw_⟩ : ∃ w, w = W := ⟨W, rfl⟩
  clear hw_ w
  refine wpL_seq ?_
  refine wpL_region ?_
  refine sY hf hs rfl rfl rfl (Y_assign rfl rfl) ?_; clear hf; intro a hf
  refine wpO_nil ?_
  refine wpL_seq ?_
  refine wpL_seq ?_
  refine wpL_region ?_
  refine sY hf hs rfl rfl rfl (Y_assign rfl rfl) ?_; clear hf; intro a hf
  refine wpO_nil ?_
  obtain ⟨r27, hl28, hm⟩ := bind_some hm
  refine wpL_block (fun a w => ∃ xs24 : List Int, ∃ x26 : Int, (xs24, x26) = r27 ∧ p0_a.length = xs24.length ∧ Fr a 19 [(1, .int .i64 x26)] ∧ St (muA A_p0_a_1) W w [.row A_p0_a_1 p0_a.length c_p0_a_1 2 1 (ints xs24)]) ?_ ?_
  · refine wpL_loop (fun n a w => ∃ xs15 : List Int, ∃ x17 : Int, ∃ x18 : Int, laws_markInt64S_L1 F n xs15 x17 x18 = some r27 ∧ p0_a.length = xs15.length ∧ Fr a 19 [(0, .slice A_p0_a_1 p0_a.length c_p0_a_1), (1, .int .i64 x17), (5, .int .i64 x18)] ∧ St (muA A_p0_a_1) W w [.row A_p0_a_1 p0_a.length c_p0_a_1 2 1 (ints xs15)]) F ?_ ?_ ?_
    · exact ⟨p0_a, p1_k, 0, hl28, rfl, (FrD.pick (FrD.pick (FrD.pick hf.none hf rfl) hf rfl) hf rfl), hs⟩
    · rintro a w ⟨xs15, x17, x18, h0_, -, -, -⟩; simp [laws_markInt64S_L1] at h0_
    · rintro n30 a w ⟨xs15, x17, x18, hm29, hn16, hf, hs⟩
      rw [laws_markInt64S_L1] at hm29
      refine wpL_seq ?_
      refine wpL_seq ?_
      refine wpL_region ?_
      refine sY hf hs rfl rfl rfl (Y_move rfl rfl) ?_; clear hf; intro a hf
      refine sY hf hs rfl rfl rfl (Y_move rfl rfl) ?_; clear hf; intro a hf
      refine sY hf hs rfl rfl rfl (Y_lenH rfl rfl el23 hn16) ?_; clear hf; intro a hf
      refine sY hf hs rfl rfl rfl (Y_lss rfl rfl rfl) ?_; clear hf; intro a hf
      refine wpO_nil ?_
      refine wpL_cond hf rfl (fun hb31 => ?_) (fun hb31 => ?_)
      · have hm29 := bif_t hm29 hb31
        refine wpL_skip ?_
        refine wpL_seq ?_
        refine wpL_block0 ?_
        refine wpL_seq ?_
        refine wpL_region ?_
        refine sY hf hs rfl rfl rfl (Y_move rfl rfl) ?_; clear hf; intro a hf
        refine sY hf hs rfl rfl rfl (Y_move rfl rfl) ?_; clear hf; intro a hf
        refine sY hf hs rfl rfl rfl (Y_move rfl rfl) ?_; clear hf; intro a hf
        obtain ⟨q32, hi33, hm29⟩ := bind_some hm29
        obtain ⟨hi33a, hi33b, hi33q⟩ := idx_some hi33
        refine sY hf hs rfl rfl rfl (Y_index rfl rfl rfl el23 ti2 (Rd.isAt (hs.rd (i := 0) rfl) (at1 (ints_at hi33q))) hi33a (ltn hn16 hi33b)) ?_; clear hf; intro a hf
        obtain ⟨xs34, hu35, hm29⟩ := bind_some hm29
        refine sStoreL (i := 0) (us := [.int .i64 x17]) (enc := ints) hf hs rfl rfl rfl rfl rfl rfl hn16 hu35 ti2 rfl rfl rfl rfl rfl ints_len1 (ints_set x17) ?_; clear hs; intro w hs
        have hs : St (muA A_p0_a_1) W w [.row A_p0_a_1 p0_a.length c_p0_a_1 2 1 (ints xs34)] := hs
        refine wpO_nil ?_
        refine wpL_region ?_
        refine sY hf hs rfl rfl rfl (Y_move rfl rfl) ?_; clear hf; intro a hf
        refine sY hf hs rfl rfl rfl (Y_add rfl rfl rfl) ?_; clear hf; intro a hf
        refine sY hf hs rfl rfl rfl (Y_assign rfl rfl) ?_; clear hf; intro a hf
        refine wpO_nil ?_
        refine wpL_nil (Qb_normal ?_)
        refine wpL_region ?_
        refine sY hf hs rfl rfl rfl (Y_move rfl rfl) ?_; clear hf; intro a hf
        refine sY hf hs rfl rfl rfl (Y_add rfl rfl rfl) ?_; clear hf; intro a hf
        refine sY hf hs rfl rfl rfl (Y_assign rfl rfl) ?_; clear hf; intro a hf
        refine wpO_nil ?_
        refine wpL_nil (Ql_normal ?_)
        exact ⟨xs34, (IntKind.i64.wrap (x17 + 1)), (IntKind.i64.wrap (x18 + 1)), hm29, ((hn16).trans (upd_len hu35).symm), (FrD.pick (FrD.pick (FrD.pick hf.none hf rfl) hf rfl) hf rfl), hs⟩
      · have hm29 := bif_f hm29 hb31
        refine wpL_exit (Ql_exit (Qb_exit ?_))
        exact ⟨xs15, x17, Option.some.inj hm29, hn16, (FrD.pick hf.none hf rfl), hs⟩
  · rintro a w ⟨xs24, x26, hr_, hn25, hf, hs⟩
    subst hr_
    try dsimp only at hm
    refine wpL_seq ?_
    refine wpL_region ?_
    refine sY hf hs rfl rfl rfl (Y_move rfl rfl) ?_; clear hf; intro a hf
    refine sY hf hs rfl rfl rfl (Y_assign rfl rfl) ?_; clear hf; intro a hf
    refine wpO_nil ?_
    obtain rfl := Option.some.inj hm
    refine wpL_ret (ret_tmp rfl hf rfl ?_)
    exact ⟨_, rfl, rfl, hn25, hs⟩

set_option maxRecDepth 100000 in
theorem laws_markInt64SS_ok (F : Nat) (p0_a : List (List Int)) (A_p0_a_1 : Option Addr) (n_p0_a_1 c_p0_a_1 : Nat) (hn_p0_a_1 : n_p0_a_1 = p0_a.length) (vs_p0_a : List Value) (p1_k : Int) (r : (Int) × List (List Int)) (W : World) (hm : laws_markInt64SS F p0_a p1_k = some r) (h_p0_a_1 : (Res.mat A_p0_a_1 n_p0_a_1 c_p0_a_1 23 2 vs_p0_a p0_a : Res).holds 0 W) :
    Calls Try.prog 36 [.slice A_p0_a_1 n_p0_a_1 c_p0_a_1, .int .i64 p1_k].toArray W fun e w' => ∃ v, e = .returned v ∧ v = .int .i64 r.1 ∧ n_p0_a_1 = r.2.length ∧ St (muM A_p0_a_1 vs_p0_a) W w' [.mat A_p0_a_1 n_p0_a_1 c_p0_a_1 23 2 vs_p0_a r.2] := by
  subst hn_p0_a_1
  unfold laws_markInt64SS at hm
  refine Calls.enter (N := 19) Try.func36 rfl rfl rfl (fun a hf => ?_)
  have hs : St (muM A_p0_a_1 vs_p0_a) W W [.mat A_p0_a_1 p0_a.length c_p0_a_1 23 2 vs_p0_a p0_a] := St.startMut h_p0_a_1 (fun b hb => muM_mem.2 hb)
  obtain ⟨w, hw_⟩ : ∃ w, w = W := ⟨W, rfl⟩
  clear hw_ w
  refine wpL_seq ?_
  refine wpL_region ?_
  refine sY hf hs rfl rfl rfl (Y_assign rfl rfl) ?_; clear hf; intro a hf
  refine wpO_nil ?_
  refine wpL_seq ?_
  refine wpL_seq ?_
  refine wpL_region ?_
  refine sY hf hs rfl rfl rfl (Y_assign rfl rfl) ?_; clear hf; intro a hf
  refine wpO_nil ?_
  obtain ⟨r45, hl46, hm⟩ := bind_some hm
  refine wpL_block (fun a w => ∃ ms42 : List (List Int), ∃ x44 : Int, (ms42, x44) = r45 ∧ p0_a.length = ms42.length ∧ Fr a 19 [(1, .int .i64 x44)] ∧ St (muM A_p0_a_1 vs_p0_a) W w [.mat A_p0_a_1 p0_a.length c_p0_a_1 23 2 vs_p0_a ms42]) ?_ ?_
  · refine wpL_loop (fun n a w => ∃ ms27 : List (List Int), ∃ x29 : Int, ∃ x30 : Int, laws_markInt64SS_L1 F n ms27 x29 x30 = some r45 ∧ p0_a.length = ms27.length ∧ Fr a 19 [(0, .slice A_p0_a_1 p0_a.length c_p0_a_1), (1, .int .i64 x29), (5, .int .i64 x30)] ∧ St (muM A_p0_a_1 vs_p0_a) W w [.mat A_p0_a_1 p0_a.length c_p0_a_1 23 2 vs_p0_a ms27]) F ?_ ?_ ?_
    · exact ⟨p0_a, p1_k, 0, hl46, rfl, (FrD.pick (FrD.pick (FrD.pick hf.none hf rfl) hf rfl) hf rfl), hs⟩
    · rintro a w ⟨ms27, x29, x30, h0_, -, -, -⟩; simp [laws_markInt64SS_L1] at h0_
    · rintro n48 a w ⟨ms27, x29, x30, hm47, hn28, hf, hs⟩
      rw [laws_markInt64SS_L1] at hm47
      refine wpL_seq ?_
      refine wpL_seq ?_
      refine wpL_region ?_
      refine sY hf hs rfl rfl rfl (Y_move rfl rfl) ?_; clear hf; intro a hf
      refine sY hf hs rfl rfl rfl (Y_move rfl rfl) ?_; clear hf; intro a hf
      refine sY hf hs rfl rfl rfl (Y_lenH rfl rfl el46 hn28) ?_; clear hf; intro a hf
      refine sY hf hs rfl rfl rfl (Y_lss rfl rfl rfl) ?_; clear hf; intro a hf
      refine wpO_nil ?_
      refine wpL_cond hf rfl (fun hb49 => ?_) (fun hb49 => ?_)
      · have hm47 := bif_t hm47 hb49
        refine wpL_skip ?_
        refine wpL_seq ?_
        refine wpL_block0 ?_
        refine wpL_region ?_
        refine sY hf hs rfl rfl rfl (Y_move rfl rfl) ?_; clear hf; intro a hf
        refine sY hf hs rfl rfl rfl (Y_move rfl rfl) ?_; clear hf; intro a hf
        obtain ⟨q50, hi51, hm47⟩ := bind_some hm47
        obtain ⟨hi51a, hi51b, hi51q⟩ := idx_some hi51
        obtain ⟨A52, c53, hv54⟩ := hs.matRow (i := 0) rfl hi51q
        refine sY hf hs rfl rfl rfl (Y_index rfl rfl rfl el46 ti23 (Rd.isAt (hs.rdV (i := 0) rfl) hv54) hi51a (ltn hn28 hi51b)) ?_; clear hf; intro a hf
        refine sY hf hs rfl rfl rfl (Y_load_rd rfl rfl (fun w hs => hs.rdV (i := 0) rfl) (at1 hv54) ag23) ?_; clear hf; intro a hf
        refine sY hf hs rfl rfl rfl (Y_move rfl rfl) ?_; clear hf; intro a hf
        obtain ⟨r55, hc56, hm47⟩ := bind_some hm47
        refine sCall hf rfl rfl rfl rfl (cap := []) rfl rfl en22 (laws_markInt64S_ok F q50 A52 q50.length c53 rfl x29 _ _ hc56 (hs.rowHolds (i := 0) rfl ⟨hi51q, hv54⟩)) ?_; clear hf
        obtain ⟨ms59, hu58, hm47⟩ := bind_some hm47
        rintro _ w ⟨rfl, hn57, hs1⟩ a hf
        have hs : St (muM A_p0_a_1 vs_p0_a) W w [.mat A_p0_a_1 p0_a.length c_p0_a_1 23 2 vs_p0_a ms59] := hs.mutRow (i := 0) rfl ⟨hi51q, hv54⟩ hs1 hn57 hu58
        clear hs1
        refine sY hf hs rfl rfl rfl (Y_assign rfl rfl) ?_; clear hf; intro a hf
        refine wpO_nil ?_
        refine wpL_nil (Qb_normal ?_)
        refine wpL_region ?_
        refine sY hf hs rfl rfl rfl (Y_move rfl rfl) ?_; clear hf; intro a hf
        refine sY hf hs rfl rfl rfl (Y_add rfl rfl rfl) ?_; clear hf; intro a hf
        refine sY hf hs rfl rfl rfl (Y_assign rfl rfl) ?_; clear hf; intro a hf
        refine wpO_nil ?_
        refine wpL_nil (Ql_normal ?_)
        exact ⟨ms59, r55.1, (IntKind.i64.wrap (x30 + 1)), hm47, ((hn28).trans (upd_len hu58).symm), (FrD.pick (FrD.pick (FrD.pick hf.none hf rfl) hf rfl) hf rfl), hs⟩
      · have hm47 := bif_f hm47 hb49
        refine wpL_exit (Ql_exit (Qb_exit ?_))
        exact ⟨ms27, x29, Option.some.inj hm47, hn28, (FrD.pick hf.none hf rfl), hs⟩
  · rintro a w ⟨ms42, x44, hr_, hn43, hf, hs⟩
    subst hr_
    try dsimp only at hm
    refine wpL_seq ?_
    refine wpL_region ?_
    refine sY hf hs rfl rfl rfl (Y_move rfl rfl) ?_; clear hf; intro a hf
    refine sY hf hs rfl rfl rfl (Y_assign rfl rfl) ?_; clear hf; intro a hf
    refine wpO_nil ?_
    obtain rfl := Option.some.inj hm
    refine wpL_ret (ret_tmp rfl hf rfl ?_)
    exact ⟨_, rfl, rfl, hn43, hs⟩

set_option maxRecDepth 100000 in
theorem laws_markSystem_ok (F : Nat) (p0_a : GSystem) (A_p0_a_1 : Option Addr) (n_p0_a_1 c_p0_a_1 : Nat) (hn_p0_a_1 : n_p0_a_1 = p0_a.A.length) (vs_p0_a_1 : List Value) (A_p0_a_2 : Option Addr) (n_p0_a_2 c_p0_a_2 : Nat) (hn_p0_a_2 : n_p0_a_2 = p0_a.B.length) (A_p0_a_3 : Option Addr) (n_p0_a_3 c_p0_a_3 : Nat) (hn_p0_a_3 : n_p0_a_3 = p0_a.C.length) (p1_k : Int) (r : (Int) × List (List Int) × List Int × List Int) (W : World) (hm : laws_markSystem F p0_a p1_k = some r) (hst : St (muL [.mat A_p0_a_1 n_p0_a_1 c_p0_a_1 23 2 vs_p0_a_1 p0_a.A, .row A_p0_a_2 n_p0_a_2 c_p0_a_2 2 1 (ints p0_a.B), .row A_p0_a_3 n_p0_a_3 c_p0_a_3 2 1 (ints p0_a.C)]) W W [.mat A_p0_a_1 n_p0_a_1 c_p0_a_1 23 2 vs_p0_a_1 p0_a.A, .row A_p0_a_2 n_p0_a_2 c_p0_a_2 2 1 (ints p0_a.B), .row A_p0_a_3 n_p0_a_3 c_p0_a_3 2 1 (ints p0_a.C)]) :
    Calls Try.prog 43 [.agg #[.slice A_p0_a_1 n_p0_a_1 c_p0_a_1, .slice A_p0_a_2 n_p0_a_2 c_p0_a_2, .slice A_p0_a_3 n_p0_a_3 c_p0_a_3], .int .i64 p1_k].toArray W fun e w' => ∃ v, e = .returned v ∧ v = .int .i64 r.1 ∧ n_p0_a_1 = r.2.1.length ∧ n_p0_a_2 = r.2.2.1.length ∧ n_p0_a_3 = r.2.2.2.length ∧ St (muL [.mat A_p0_a_1 n_p0_a_1 c_p0_a_1 23 2 vs_p0_a_1 p0_a.A, .row A_p0_a_2 n_p0_a_2 c_p0_a_2 2 1 (ints p0_a.B), .row A_p0_a_3 n_p0_a_3 c_p0_a_3 2 1 (ints p0_a.C)]) W w' [.mat A_p0_a_1 n_p0_a_1 c_p0_a_1 23 2 vs_p0_a_1 r.2.1, .row A_p0_a_2 n_p0_a_2 c_p0_a_2 2 1 (ints r.2.2.1), .row A_p0_a_3 n_p0_a_3 c_p0_a_3 2 1 (ints r.2.2.2)] := by
  subst hn_p0_a_1
  subst hn_p0_a_2
  subst hn_p0_a_3
  unfold laws_markSystem at hm
  refine Calls.enter (N := 18) Try.func43 rfl rfl rfl (fun a hf => ?_)
  have hs := hst
  obtain ⟨w, hw_⟩ : ∃ w, w = W := ⟨W, rfl⟩
  clear hw_ w
  refine wpL_seq ?_
  refine wpL_region ?_
  refine sBox hf hs rfl rfl rfl rfl rfl (cs := [.slice A_p0_a_1 p0_a.A.length c_p0_a_1, .slice A_p0_a_2 p0_a.B.length c_p0_a_2, .slice A_p0_a_3 p0_a.C.length c_p0_a_3]) rfl ?_; clear hf hs; intro a w b1 hs hf
  have hs : St (muL [.mat A_p0_a_1 p0_a.A.length c_p0_a_1 23 2 vs_p0_a_1 p0_a.A, .row A_p0_a_2 p0_a.B.length c_p0_a_2 2 1 (ints p0_a.B), .row A_p0_a_3 p0_a.C.length c_p0_a_3 2 1 (ints p0_a.C)]) W w [.mat A_p0_a_1 p0_a.A.length c_p0_a_1 23 2 vs_p0_a_1 p0_a.A, .row A_p0_a_2 p0_a.B.length c_p0_a_2 2 1 (ints p0_a.B), .row A_p0_a_3 p0_a.C.length c_p0_a_3 2 1 (ints p0_a.C), .blk b1 55 [.slice A_p0_a_1 p0_a.A.length c_p0_a_1, .slice A_p0_a_2 p0_a.B.length c_p0_a_2, .slice A_p0_a_3 p0_a.C.length c_p0_a_3]] := hs
  refine sY hf hs rfl rfl rfl (Y_assign rfl rfl) ?_; clear hf; intro a hf
  refine wpO_nil ?_
  refine wpL_seq ?_
  refine wpL_region ?_
  refine sY hf hs rfl rfl rfl (Y_fieldAddr rfl rfl fo55_0) ?_; clear hf; intro a hf
  refine sY hf hs rfl rfl rfl (Y_load_blk rfl rfl (i := 3) rfl rfl ag46) ?_; clear hf; intro a hf
  refine sY hf hs rfl rfl rfl (Y_move rfl rfl) ?_; clear hf; intro a hf
  obtain ⟨r2, hc3, hm⟩ := bind_some hm
  refine sCall hf rfl rfl rfl rfl (cap := []) rfl rfl en36 (laws_markInt64SS_ok F p0_a.A A_p0_a_1 p0_a.A.length c_p0_a_1 rfl vs_p0_a_1 p1_k _ _ hc3 (hs.res _ _ (show _[0]? = some _ from rfl))) ?_; clear hf
  rintro _ w ⟨rfl, hn4, hs1⟩ a hf
  have hs : St (muL [.mat A_p0_a_1 p0_a.A.length c_p0_a_1 23 2 vs_p0_a_1 p0_a.A, .row A_p0_a_2 p0_a.B.length c_p0_a_2 2 1 (ints p0_a.B), .row A_p0_a_3 p0_a.C.length c_p0_a_3 2 1 (ints p0_a.C)]) W w [.mat A_p0_a_1 p0_a.A.length c_p0_a_1 23 2 vs_p0_a_1 r2.2, .row A_p0_a_2 p0_a.B.length c_p0_a_2 2 1 (ints p0_a.B), .row A_p0_a_3 p0_a.C.length c_p0_a_3 2 1 (ints p0_a.C), .blk b1 55 [.slice A_p0_a_1 p0_a.A.length c_p0_a_1, .slice A_p0_a_2 p0_a.B.length c_p0_a_2, .slice A_p0_a_3 p0_a.C.length c_p0_a_3]] := hs.mut (i := 0) rfl (fun b hb => muM_mem.1 hb) hs1
  clear hs1
  refine sY hf hs rfl rfl rfl (Y_assign rfl rfl) ?_; clear hf; intro a hf
  refine wpO_nil ?_
  refine wpL_seq ?_
  refine wpL_region ?_
  refine sY hf hs rfl rfl rfl (Y_fieldAddr rfl rfl fo55_1) ?_; clear hf; intro a hf
  refine sY hf hs rfl rfl rfl (Y_load_blk rfl rfl (i := 3) rfl rfl ag23) ?_; clear hf; intro a hf
  refine sY hf hs rfl rfl rfl (Y_move rfl rfl) ?_; clear hf; intro a hf
  obtain ⟨r5, hc6, hm⟩ := bind_some hm
  refine sCall hf rfl rfl rfl rfl (cap := []) rfl rfl en22 (laws_markInt64S_ok F p0_a.B A_p0_a_2 p0_a.B.length c_p0_a_2 rfl r2.1 _ _ hc6 (hs.res _ _ (show _[1]? = some _ from rfl))) ?_; clear hf
  rintro _ w ⟨rfl, hn7, hs1⟩ a hf
  have hs : St (muL [.mat A_p0_a_1 p0_a.A.length c_p0_a_1 23 2 vs_p0_a_1 p0_a.A, .row A_p0_a_2 p0_a.B.length c_p0_a_2 2 1 (ints p0_a.B), .row A_p0_a_3 p0_a.C.length c_p0_a_3 2 1 (ints p0_a.C)]) W w [.mat A_p0_a_1 p0_a.A.length c_p0_a_1 23 2 vs_p0_a_1 r2.2, .row A_p0_a_2 p0_a.B.length c_p0_a_2 2 1 (ints r5.2), .row A_p0_a_3 p0_a.C.length c_p0_a_3 2 1 (ints p0_a.C), .blk b1 55 [.slice A_p0_a_1 p0_a.A.length c_p0_a_1, .slice A_p0_a_2 p0_a.B.length c_p0_a_2, .slice A_p0_a_3 p0_a.C.length c_p0_a_3]] := hs.mut (i := 1) rfl (fun b hb => muA_mem hb) hs1
  clear hs1
  refine sY hf hs rfl rfl rfl (Y_assign rfl rfl) ?_; clear hf; intro a hf
  refine wpO_nil ?_
  refine wpL_seq ?_
  refine wpL_region ?_
  refine sY hf hs rfl rfl rfl (Y_fieldAddr rfl rfl fo55_2) ?_; clear hf; intro a hf
  refine sY hf hs rfl rfl rfl (Y_load_blk rfl rfl (i := 3) rfl rfl ag23) ?_; clear hf; intro a hf
  refine sY hf hs rfl rfl rfl (Y_move rfl rfl) ?_; clear hf; intro a hf
  obtain ⟨r8, hc9, hm⟩ := bind_some hm
  refine sCall hf rfl rfl rfl rfl (cap := []) rfl rfl en22 (laws_markInt64S_ok F p0_a.C A_p0_a_3 p0_a.C.length c_p0_a_3 rfl r5.1 _ _ hc9 (hs.res _ _ (show _[2]? = some _ from rfl))) ?_; clear hf
  rintro _ w ⟨rfl, hn10, hs1⟩ a hf
  have hs : St (muL [.mat A_p0_a_1 p0_a.A.length c_p0_a_1 23 2 vs_p0_a_1 p0_a.A, .row A_p0_a_2 p0_a.B.length c_p0_a_2 2 1 (ints p0_a.B), .row A_p0_a_3 p0_a.C.length c_p0_a_3 2 1 (ints p0_a.C)]) W w [.mat A_p0_a_1 p0_a.A.length c_p0_a_1 23 2 vs_p0_a_1 r2.2, .row A_p0_a_2 p0_a.B.length c_p0_a_2 2 1 (ints r5.2), .row A_p0_a_3 p0_a.C.length c_p0_a_3 2 1 (ints r8.2), .blk b1 55 [.slice A_p0_a_1 p0_a.A.length c_p0_a_1, .slice A_p0_a_2 p0_a.B.length c_p0_a_2, .slice A_p0_a_3 p0_a.C.length c_p0_a_3]] := hs.mut (i := 2) rfl (fun b hb => muA_mem hb) hs1
  clear hs1
  refine sY hf hs rfl rfl rfl (Y_assign rfl rfl) ?_; clear hf; intro a hf
  refine wpO_nil ?_
  refine wpL_seq ?_
  refine wpL_region ?_
  refine sY hf hs rfl rfl rfl (Y_move rfl rfl) ?_; clear hf; intro a hf
  refine sY hf hs rfl rfl rfl (Y_assign rfl rfl) ?_; clear hf; intro a hf
  refine wpO_nil ?_
  obtain rfl := Option.some.inj hm
  refine wpL_ret (ret_tmp rfl hf rfl ?_)
  exact ⟨_, rfl, rfl, hn4, hn7, hn10, hs.sel [0, 1, 2] (by decide)⟩

set_option maxRecDepth 100000 in
theorem laws_heldInt64S_ok (F : Nat) (p0_a : List Int) (A_p0_a_1 : Option Addr) (n_p0_a_1 c_p0_a_1 : Nat) (hn_p0_a_1 : n_p0_a_1 = p0_a.length) (p1_k : Int) (r : Int) (W : World) (hm : laws_heldInt64S F p0_a p1_k = some r) (h_p0_a_1 : Rd W A_p0_a_1 (ints p0_a)) :
    Calls Try.prog 23 [.slice A_p0_a_1 n_p0_a_1 c_p0_a_1, .int .i64 p1_k].toArray W fun e w' => ∃ v, e = .returned v ∧ v = .int .i64 r ∧ St [] W w' [] := by
  subst hn_p0_a_1
  unfold laws_heldInt64S at hm
  refine Calls.enter (N := 21) Try.func23 rfl rfl rfl (fun a hf => ?_)
  have hs := St.start W
  obtain ⟨w, hw_⟩ : ∃ w, w = W := ⟨W, rfl⟩
  clear hw_ w
  refine wpL_seq ?_
  refine wpL_region ?_
  refine sY hf hs rfl rfl rfl (Y_assign rfl rfl) ?_; clear hf; intro a hf
  refine wpO_nil ?_
  refine wpL_seq ?_
  refine wpL_seq ?_
  refine wpL_region ?_
  refine sY hf hs rfl rfl rfl (Y_assign rfl rfl) ?_; clear hf; intro a hf
  refine wpO_nil ?_
  obtain ⟨r18, hl19, hm⟩ := bind_some hm
  refine wpL_block (fun a w => ∃ x17 : Int, Sum.inr x17 = r18 ∧ Fr a 21 [(1, .int .i64 x17)] ∧ St [] W w []) ?_ ?_
  · refine wpL_loop (fun n a w => ∃ x11 : Int, ∃ x12 : Int, laws_heldInt64S_L1 F p0_a n x11 x12 = some r18 ∧ Fr a 21 [(0, .slice A_p0_a_1 p0_a.length c_p0_a_1), (1, .int .i64 x11), (5, .int .i64 x12)] ∧ St [] W w []) F ?_ ?_ ?_
    · exact ⟨p1_k, 0, hl19, (FrD.pick (FrD.pick (FrD.pick hf.none hf rfl) hf rfl) hf rfl), hs⟩
    · rintro a w ⟨x11, x12, h0_, -, -⟩; simp [laws_heldInt64S_L1] at h0_
    · rintro n21 a w ⟨x11, x12, hm20, hf, hs⟩
      rw [laws_heldInt64S_L1] at hm20
      refine wpL_seq ?_
      refine wpL_seq ?_
      refine wpL_region ?_
      refine sY hf hs rfl rfl rfl (Y_move rfl rfl) ?_; clear hf; intro a hf
      refine sY hf hs rfl rfl rfl (Y_move rfl rfl) ?_; clear hf; intro a hf
      refine sY hf hs rfl rfl rfl (Y_lenH rfl rfl el23 rfl) ?_; clear hf; intro a hf
      refine sY hf hs rfl rfl rfl (Y_lss rfl rfl rfl) ?_; clear hf; intro a hf
      refine wpO_nil ?_
      refine wpL_cond hf rfl (fun hb22 => ?_) (fun hb22 => ?_)
      · have hm20 := bif_t hm20 hb22
        refine wpL_skip ?_
        refine wpL_seq ?_
        refine wpL_block0 ?_
        refine wpL_seq ?_
        refine wpL_seq ?_
        refine wpL_region ?_
        refine sY hf hs rfl rfl rfl (Y_move rfl rfl) ?_; clear hf; intro a hf
        refine sY hf hs rfl rfl rfl (Y_move rfl rfl) ?_; clear hf; intro a hf
        obtain ⟨q23, hi24, hm20⟩ := bind_some hm20
        obtain ⟨hi24a, hi24b, hi24q⟩ := idx_some hi24
        refine sY hf hs rfl rfl rfl (Y_index rfl rfl rfl el23 ti2 (Rd.isAt (h_p0_a_1.at hs) (at1 (ints_at hi24q))) hi24a hi24b) ?_; clear hf; intro a hf
        refine sY hf hs rfl rfl rfl (Y_load_rd rfl rfl (fun w hs => h_p0_a_1.at hs) (at1 (ints_at hi24q)) ag2) ?_; clear hf; intro a hf
        refine sY hf hs rfl rfl rfl (Y_move rfl rfl) ?_; clear hf; intro a hf
        refine sY hf hs rfl rfl rfl (Y_neq rfl rfl rfl) ?_; clear hf; intro a hf
        refine wpO_nil ?_
        refine wpL_cond hf rfl (fun hb25 => ?_) (fun hb25 => ?_)
        · have hm20 := bif_t hm20 hb25
          refine wpL_seq ?_
          refine wpL_region ?_
          refine sY hf hs rfl rfl rfl (Y_assign rfl rfl) ?_; clear hf; intro a hf
          refine wpO_nil ?_
          obtain rfl := Option.some.inj hm20
          try dsimp only at hm
          obtain rfl := Option.some.inj hm
          refine wpL_ret (Qb_ret (Ql_ret (Qb_ret (ret_tmp rfl hf rfl ?_))))
          exact ⟨_, rfl, rfl, hs⟩
        · have hm20 := bif_f hm20 hb25
          refine wpL_skip ?_
          refine wpL_region ?_
          refine sY hf hs rfl rfl rfl (Y_move rfl rfl) ?_; clear hf; intro a hf
          refine sY hf hs rfl rfl rfl (Y_add rfl rfl rfl) ?_; clear hf; intro a hf
          refine sY hf hs rfl rfl rfl (Y_assign rfl rfl) ?_; clear hf; intro a hf
          refine wpO_nil ?_
          refine wpL_nil (Qb_normal ?_)
          refine wpL_region ?_
          refine sY hf hs rfl rfl rfl (Y_move rfl rfl) ?_; clear hf; intro a hf
          refine sY hf hs rfl rfl rfl (Y_add rfl rfl rfl) ?_; clear hf; intro a hf
          refine sY hf hs rfl rfl rfl (Y_assign rfl rfl) ?_; clear hf; intro a hf
          refine wpO_nil ?_
          refine wpL_nil (Ql_normal ?_)
          exact ⟨(IntKind.i64.wrap (x11 + 1)), (IntKind.i64.wrap (x12 + 1)), hm20, (FrD.pick (FrD.pick (FrD.pick hf.none hf rfl) hf rfl) hf rfl), hs⟩
      · have hm20 := bif_f hm20 hb22
        refine wpL_exit (Ql_exit (Qb_exit ?_))
        exact ⟨x11, Option.some.inj hm20, (FrD.pick hf.none hf rfl), hs⟩
  · rintro a w ⟨x17, hr_, hf, hs⟩
    subst hr_
    try dsimp only at hm
    refine wpL_seq ?_
    refine wpL_region ?_
    refine sY hf hs rfl rfl rfl (Y_move rfl rfl) ?_; clear hf; intro a hf
    refine sY hf hs rfl rfl rfl (Y_assign rfl rfl) ?_; clear hf; intro a hf
    refine wpO_nil ?_
    obtain rfl := Option.some.inj hm
    refine wpL_ret (ret_tmp rfl hf rfl ?_)
    exact ⟨_, rfl, rfl, hs⟩

set_option maxRecDepth 100000 in
theorem laws_heldInt64SS_ok (F : Nat) (p0_a : List (List Int)) (A_p0_a_1 : Option Addr) (n_p0_a_1 c_p0_a_1 : Nat) (hn_p0_a_1 : n_p0_a_1 = p0_a.length) (p1_k : Int) (r : Int) (W : World) (hm : laws_heldInt64SS F p0_a p1_k = some r) (h_p0_a_1 : RdM W A_p0_a_1 p0_a) :
    Calls Try.prog 37 [.slice A_p0_a_1 n_p0_a_1 c_p0_a_1, .int .i64 p1_k].toArray W fun e w' => ∃ v, e = .returned v ∧ v = .int .i64 r ∧ St [] W w' [] := by
  subst hn_p0_a_1
  unfold laws_heldInt64SS at hm
  refine Calls.enter (N := 21) Try.func37 rfl rfl rfl (fun a hf => ?_)
  have hs := St.start W
  obtain ⟨w, hw_⟩ : ∃ w, w = W := ⟨W, rfl⟩
  clear hw_ w
  refine wpL_seq ?_
  refine wpL_region ?_
  refine sY hf hs rfl rfl rfl (Y_assign rfl rfl) ?_; clear hf; intro a hf
  refine wpO_nil ?_
  refine wpL_seq ?_
  refine wpL_seq ?_
  refine wpL_region ?_
  refine sY hf hs rfl rfl rfl (Y_assign rfl rfl) ?_; clear hf; intro a hf
  refine wpO_nil ?_
  obtain ⟨r45, hl46, hm⟩ := bind_some hm
  refine wpL_block (fun a w => ∃ x44 : Int, Sum.inr x44 = r45 ∧ Fr a 21 [(1, .int .i64 x44)] ∧ St [] W w []) ?_ ?_
  · refine wpL_loop (fun n a w => ∃ x29 : Int, ∃ x30 : Int, laws_heldInt64SS_L1 F p0_a n x29 x30 = some r45 ∧ Fr a 21 [(0, .slice A_p0_a_1 p0_a.length c_p0_a_1), (1, .int .i64 x29), (5, .int .i64 x30)] ∧ St [] W w []) F ?_ ?_ ?_
    · exact ⟨p1_k, 0, hl46, (FrD.pick (FrD.pick (FrD.pick hf.none hf rfl) hf rfl) hf rfl), hs⟩
    · rintro a w ⟨x29, x30, h0_, -, -⟩; simp [laws_heldInt64SS_L1] at h0_
    · rintro n48 a w ⟨x29, x30, hm47, hf, hs⟩
      rw [laws_heldInt64SS_L1] at hm47
      refine wpL_seq ?_
      refine wpL_seq ?_
      refine wpL_region ?_
      refine sY hf hs rfl rfl rfl (Y_move rfl rfl) ?_; clear hf; intro a hf
      refine sY hf hs rfl rfl rfl (Y_move rfl rfl) ?_; clear hf; intro a hf
      refine sY hf hs rfl rfl rfl (Y_lenH rfl rfl el46 rfl) ?_; clear hf; intro a hf
      refine sY hf hs rfl rfl rfl (Y_lss rfl rfl rfl) ?_; clear hf; intro a hf
      refine wpO_nil ?_
      refine wpL_cond hf rfl (fun hb49 => ?_) (fun hb49 => ?_)
      · have hm47 := bif_t hm47 hb49
        refine wpL_skip ?_
        refine wpL_seq ?_
        refine wpL_block0 ?_
        refine wpL_seq ?_
        refine wpL_region ?_
        refine sY hf hs rfl rfl rfl (Y_move rfl rfl) ?_; clear hf; intro a hf
        refine sY hf hs rfl rfl rfl (Y_move rfl rfl) ?_; clear hf; intro a hf
        obtain ⟨q50, hi51, hm47⟩ := bind_some hm47
        obtain ⟨hi51a, hi51b, hi51q⟩ := idx_some hi51
        obtain ⟨vs52, hv53, hr54⟩ := id h_p0_a_1
        obtain ⟨A55, c56, hv57, hR58⟩ := hr54 _ _ hi51q
        refine sY hf hs rfl rfl rfl (Y_index rfl rfl rfl el46 ti23 (Rd.isAt hv53 hv57) hi51a hi51b) ?_; clear hf; intro a hf
        refine sY hf hs rfl rfl rfl (Y_load_rd rfl rfl (fun w hs => hv53.at hs) (at1 hv57) ag23) ?_; clear hf; intro a hf
        refine sY hf hs rfl rfl rfl (Y_move rfl rfl) ?_; clear hf; intro a hf
        obtain ⟨r59, hc60, hm47⟩ := bind_some hm47
        refine sCall hf rfl rfl rfl rfl (cap := []) rfl rfl en23 (laws_heldInt64S_ok F q50 A55 q50.length c56 rfl x29 _ _ hc60 (hR58.at hs)) ?_; clear hf
        rintro _ w ⟨rfl, hs1⟩ a hf
        have hs : St [] W w [] := hs.ext hs1.below
        clear hs1
        refine sY hf hs rfl rfl rfl (Y_assign rfl rfl) ?_; clear hf; intro a hf
        refine wpO_nil ?_
        refine wpL_seq ?_
        refine wpL_region ?_
        refine sY hf hs rfl rfl rfl (Y_move rfl rfl) ?_; clear hf; intro a hf
        refine sY hf hs rfl rfl rfl (Y_lss rfl rfl rfl) ?_; clear hf; intro a hf
        refine wpO_nil ?_
        refine wpL_cond hf rfl (fun hb61 => ?_) (fun hb61 => ?_)
        · have hm47 := bif_t hm47 hb61
          refine wpL_seq ?_
          refine wpL_region ?_
          refine sY hf hs rfl rfl rfl (Y_assign rfl rfl) ?_; clear hf; intro a hf
          refine wpO_nil ?_
          obtain rfl := Option.some.inj hm47
          try dsimp only at hm
          obtain rfl := Option.some.inj hm
          refine wpL_ret (Qb_ret (Ql_ret (Qb_ret (ret_tmp rfl hf rfl ?_))))
          exact ⟨_, rfl, rfl, hs⟩
        · have hm47 := bif_f hm47 hb61
          refine wpL_skip ?_
          refine wpL_nil (Qb_normal ?_)
          refine wpL_region ?_
          refine sY hf hs rfl rfl rfl (Y_move rfl rfl) ?_; clear hf; intro a hf
          refine sY hf hs rfl rfl rfl (Y_add rfl rfl rfl) ?_; clear hf; intro a hf
          refine sY hf hs rfl rfl rfl (Y_assign rfl rfl) ?_; clear hf; intro a hf
          refine wpO_nil ?_
          refine wpL_nil (Ql_normal ?_)
          exact ⟨r59, (IntKind.i64.wrap (x30 + 1)), hm47, (FrD.pick (FrD.pick (FrD.pick hf.none hf rfl) hf rfl) hf rfl), hs⟩
      · have hm47 := bif_f hm47 hb49
        refine wpL_exit (Ql_exit (Qb_exit ?_))
        exact ⟨x29, Option.some.inj hm47, (FrD.pick hf.none hf rfl), hs⟩
  · rintro a w ⟨x44, hr_, hf, hs⟩
    subst hr_
    try dsimp only at hm
    refine wpL_seq ?_
    refine wpL_region ?_
    refine sY hf hs rfl rfl rfl (Y_move rfl rfl) ?_; clear hf; intro a hf
    refine sY hf hs rfl rfl rfl (Y_assign rfl rfl) ?_; clear hf; intro a hf
    refine wpO_nil ?_
    obtain rfl := Option.some.inj hm
    refine wpL_ret (ret_tmp rfl hf rfl ?_)
    exact ⟨_, rfl, rfl, hs⟩

set_option maxRecDepth 100000 in
theorem laws_heldSystem_ok (F : Nat) (p0_a : GSystem) (A_p0_a_1 : Option Addr) (n_p0_a_1 c_p0_a_1 : Nat) (hn_p0_a_1 : n_p0_a_1 = p0_a.A.length) (A_p0_a_2 : Option Addr) (n_p0_a_2 c_p0_a_2 : Nat) (hn_p0_a_2 : n_p0_a_2 = p0_a.B.length) (A_p0_a_3 : Option Addr) (n_p0_a_3 c_p0_a_3 : Nat) (hn_p0_a_3 : n_p0_a_3 = p0_a.C.length) (p1_k : Int) (r : Int) (W : World) (hm : laws_heldSystem F p0_a p1_k = some r) (h_p0_a_1 : RdM W A_p0_a_1 p0_a.A) (h_p0_a_2 : Rd W A_p0_a_2 (ints p0_a.B)) (h_p0_a_3 : Rd W A_p0_a_3 (ints p0_a.C)) :
    Calls Try.prog 44 [.agg #[.slice A_p0_a_1 n_p0_a_1 c_p0_a_1, .slice A_p0_a_2 n_p0_a_2 c_p0_a_2, .slice A_p0_a_3 n_p0_a_3 c_p0_a_3], .int .i64 p1_k].toArray W fun e w' => ∃ v, e = .returned v ∧ v = .int .i64 r ∧ St [] W w' [] := by
  subst hn_p0_a_1
  subst hn_p0_a_2
  subst hn_p0_a_3
  unfold laws_heldSystem at hm
  refine Calls.enter (N := 24) Try.func44 rfl rfl rfl (fun a hf => ?_)
  have hs := St.start W
  obtain ⟨w, hw_⟩ : ∃ w, w = W := ⟨W, rfl⟩
  clear hw_ w
  refine wpL_seq ?_
  refine wpL_region ?_
  refine sBox hf hs rfl rfl rfl rfl rfl (cs := [.slice A_p0_a_1 p0_a.A.length c_p0_a_1, .slice A_p0_a_2 p0_a.B.length c_p0_a_2, .slice A_p0_a_3 p0_a.C.length c_p0_a_3]) rfl ?_; clear hf hs; intro a w b1 hs hf
  have hs : St [] W w [.blk b1 55 [.slice A_p0_a_1 p0_a.A.length c_p0_a_1, .slice A_p0_a_2 p0_a.B.length c_p0_a_2, .slice A_p0_a_3 p0_a.C.length c_p0_a_3]] := hs
  refine sY hf hs rfl rfl rfl (Y_assign rfl rfl) ?_; clear hf; intro a hf
  refine wpO_nil ?_
  refine wpL_seq ?_
  refine wpL_region ?_
  refine sY hf hs rfl rfl rfl (Y_fieldAddr rfl rfl fo55_0) ?_; clear hf; intro a hf
  refine sY hf hs rfl rfl rfl (Y_load_blk rfl rfl (i := 0) rfl rfl ag46) ?_; clear hf; intro a hf
  refine sY hf hs rfl rfl rfl (Y_move rfl rfl) ?_; clear hf; intro a hf
  obtain ⟨r2, hc3, hm⟩ := bind_some hm
  refine sCall hf rfl rfl rfl rfl (cap := []) rfl rfl en37 (laws_heldInt64SS_ok F p0_a.A A_p0_a_1 p0_a.A.length c_p0_a_1 rfl p1_k _ _ hc3 (h_p0_a_1.at hs)) ?_; clear hf
  rintro _ w ⟨rfl, hs1⟩ a hf
  have hs : St [] W w [.blk b1 55 [.slice A_p0_a_1 p0_a.A.length c_p0_a_1, .slice A_p0_a_2 p0_a.B.length c_p0_a_2, .slice A_p0_a_3 p0_a.C.length c_p0_a_3]] := hs.ext hs1.below
  clear hs1
  refine sY hf hs rfl rfl rfl (Y_assign rfl rfl) ?_; clear hf; intro a hf
  refine wpO_nil ?_
  refine wpL_seq ?_
  refine wpL_seq ?_
  refine wpL_region ?_
  refine sY hf hs rfl rfl rfl (Y_move rfl rfl) ?_; clear hf; intro a hf
  refine sY hf hs rfl rfl rfl (Y_lss rfl rfl rfl) ?_; clear hf; intro a hf
  refine wpO_nil ?_
  refine wpL_cond hf rfl (fun hb4 => ?_) (fun hb4 => ?_)
  · have hm := bif_t hm hb4
    refine wpL_seq ?_
    refine wpL_region ?_
    refine sY hf hs rfl rfl rfl (Y_assign rfl rfl) ?_; clear hf; intro a hf
    refine wpO_nil ?_
    obtain rfl := Option.some.inj hm
    refine wpL_ret (ret_tmp rfl hf rfl ?_)
    exact ⟨_, rfl, rfl, hs.sel [] (by decide)⟩
  · have hm := bif_f hm hb4
    refine wpL_skip ?_
    refine wpL_seq ?_
    refine wpL_region ?_
    refine sY hf hs rfl rfl rfl (Y_fieldAddr rfl rfl fo55_1) ?_; clear hf; intro a hf
    refine sY hf hs rfl rfl rfl (Y_load_blk rfl rfl (i := 0) rfl rfl ag23) ?_; clear hf; intro a hf
    refine sY hf hs rfl rfl rfl (Y_move rfl rfl) ?_; clear hf; intro a hf
    obtain ⟨r5, hc6, hm⟩ := bind_some hm
    refine sCall hf rfl rfl rfl rfl (cap := []) rfl rfl en23 (laws_heldInt64S_ok F p0_a.B A_p0_a_2 p0_a.B.length c_p0_a_2 rfl r2 _ _ hc6 (h_p0_a_2.at hs)) ?_; clear hf
    rintro _ w ⟨rfl, hs1⟩ a hf
    have hs : St [] W w [.blk b1 55 [.slice A_p0_a_1 p0_a.A.length c_p0_a_1, .slice A_p0_a_2 p0_a.B.length c_p0_a_2, .slice A_p0_a_3 p0_a.C.length c_p0_a_3]] := hs.ext hs1.below
    clear hs1
    refine sY hf hs rfl rfl rfl (Y_assign rfl rfl) ?_; clear hf; intro a hf
    refine wpO_nil ?_
    refine wpL_seq ?_
    refine wpL_seq ?_
    refine wpL_region ?_
    refine sY hf hs rfl rfl rfl (Y_move rfl rfl) ?_; clear hf; intro a hf
    refine sY hf hs rfl rfl rfl (Y_lss rfl rfl rfl) ?_; clear hf; intro a hf
    refine wpO_nil ?_
    refine wpL_cond hf rfl (fun hb7 => ?_) (fun hb7 => ?_)
    · have hm := bif_t hm hb7
      refine wpL_seq ?_
      refine wpL_region ?_
      refine sY hf hs rfl rfl rfl (Y_assign rfl rfl) ?_; clear hf; intro a hf
      refine wpO_nil ?_
      obtain rfl := Option.some.inj hm
      refine wpL_ret (ret_tmp rfl hf rfl ?_)
      exact ⟨_, rfl, rfl, hs.sel [] (by decide)⟩
    · have hm := bif_f hm hb7
      refine wpL_skip ?_
      refine wpL_seq ?_
      refine wpL_region ?_
      refine sY hf hs rfl rfl rfl (Y_fieldAddr rfl rfl fo55_2) ?_; clear hf; intro a hf
      refine sY hf hs rfl rfl rfl (Y_load_blk rfl rfl (i := 0) rfl rfl ag23) ?_; clear hf; intro a hf
      refine sY hf hs rfl rfl rfl (Y_move rfl rfl) ?_; clear hf; intro a hf
      obtain ⟨r8, hc9, hm⟩ := bind_some hm
      refine sCall hf rfl rfl rfl rfl (cap := []) rfl rfl en23 (laws_heldInt64S_ok F p0_a.C A_p0_a_3 p0_a.C.length c_p0_a_3 rfl r5 _ _ hc9 (h_p0_a_3.at hs)) ?_; clear hf
      rintro _ w ⟨rfl, hs1⟩ a hf
      have hs : St [] W w [.blk b1 55 [.slice A_p0_a_1 p0_a.A.length c_p0_a_1, .slice A_p0_a_2 p0_a.B.length c_p0_a_2, .slice A_p0_a_3 p0_a.C.length c_p0_a_3]] := hs.ext hs1.below
      clear hs1
      refine sY hf hs rfl rfl rfl (Y_assign rfl rfl) ?_; clear hf; intro a hf
      refine wpO_nil ?_
      refine wpL_seq ?_
      refine wpL_seq ?_
      refine wpL_region ?_
      refine sY hf hs rfl rfl rfl (Y_move rfl rfl) ?_; clear hf; intro a hf
      refine sY hf hs rfl rfl rfl (Y_lss rfl rfl rfl) ?_; clear hf; intro a hf
      refine wpO_nil ?_
      refine wpL_cond hf rfl (fun hb10 => ?_) (fun hb10 => ?_)
      · have hm := bif_t hm hb10
        refine wpL_seq ?_
        refine wpL_region ?_
        refine sY hf hs rfl rfl rfl (Y_assign rfl rfl) ?_; clear hf; intro a hf
        refine wpO_nil ?_
        obtain rfl := Option.some.inj hm
        refine wpL_ret (ret_tmp rfl hf rfl ?_)
        exact ⟨_, rfl, rfl, hs.sel [] (by decide)⟩
      · have hm := bif_f hm hb10
        refine wpL_skip ?_
        refine wpL_seq ?_
        refine wpL_region ?_
        refine sY hf hs rfl rfl rfl (Y_move rfl rfl) ?_; clear hf; intro a hf
        refine sY hf hs rfl rfl rfl (Y_assign rfl rfl) ?_; clear hf; intro a hf
        refine wpO_nil ?_
        obtain rfl := Option.some.inj hm
        refine wpL_ret (ret_tmp rfl hf rfl ?_)
        exact ⟨_, rfl, rfl, hs.sel [] (by decide)⟩

end Go.Proofs.Ytpmebacdmilecaa
