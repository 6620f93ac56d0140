/- The functions do what their models say. -/
import Derived.Test.YtebmlphobgaboabStarsLifted2
import Derived.Test.YtebmlphobgaboabRows
namespace Go.Proofs.Ytebmlphobgaboab
open Go.RowKit

set_option maxHeartbeats 2000000 in
set_option maxRecDepth 100000 in
theorem impl_cycleSearch_goOn_step (F k_ : Nat) (ih_ : ∀ (b_p0 : Nat) (p0_matrix : List (List Int)) (A_p0_matrix : Option Addr) (n_p0_matrix c_p0_matrix : Nat) (_hn_p0_matrix : n_p0_matrix = p0_matrix.length) (m_p0_wanted : (List Int) → Int → Option Bool) (f_p0_wanted : FuncId) (k_p0_wanted : List Value) (p0_path : List Int) (A_p0_path : Option Addr) (n_p0_path c_p0_path : Nat) (_hn_p0_path : n_p0_path = p0_path.length) (p0_used : List Bool) (A_p0_used : Option Addr) (n_p0_used c_p0_used : Nat) (_hn_p0_used : n_p0_used = p0_used.length) (p1 : Int) (r : (Bool) × (List Int) × (List Bool)) (W : World) (_hm : impl_cycleSearch_goOn_rec F k_ p0_matrix m_p0_wanted p0_path p0_used p1 = some r) (_h_p0_matrix : KM (muL [.blk b_p0 162 [.slice A_p0_matrix n_p0_matrix c_p0_matrix, .func (.func f_p0_wanted) #[] k_p0_wanted.toArray, .slice A_p0_path n_p0_path c_p0_path, .slice A_p0_used n_p0_used c_p0_used], .row A_p0_path n_p0_path c_p0_path 2 1 (ints p0_path), .row A_p0_used n_p0_used c_p0_used 4 1 (bools p0_used)]) W A_p0_matrix p0_matrix) (_h_p0_wanted : ∀ (x0 : List Int) (Ax0_1 : Option Addr) (nx0_1 cx0_1 : Nat) (_hnx0_1 : nx0_1 = x0.length) (x1 : Int) (r : Bool) (w : World), m_p0_wanted x0 x1 = some r → BM (muL [.blk b_p0 162 [.slice A_p0_matrix n_p0_matrix c_p0_matrix, .func (.func f_p0_wanted) #[] k_p0_wanted.toArray, .slice A_p0_path n_p0_path c_p0_path, .slice A_p0_used n_p0_used c_p0_used], .row A_p0_path n_p0_path c_p0_path 2 1 (ints p0_path), .row A_p0_used n_p0_used c_p0_used 4 1 (bools p0_used)]) W w → Rd w Ax0_1 (ints x0) → Calls Try.prog f_p0_wanted (([.slice Ax0_1 nx0_1 cx0_1, .int .i64 x1] : List Value) ++ k_p0_wanted).toArray w fun e w' => ∃ v, e = .returned v ∧ v = .bool r ∧ St [] w w' []) (_e_p0_wanted : En Try.prog f_p0_wanted) (_hst : St (muL [.blk b_p0 162 [.slice A_p0_matrix n_p0_matrix c_p0_matrix, .func (.func f_p0_wanted) #[] k_p0_wanted.toArray, .slice A_p0_path n_p0_path c_p0_path, .slice A_p0_used n_p0_used c_p0_used], .row A_p0_path n_p0_path c_p0_path 2 1 (ints p0_path), .row A_p0_used n_p0_used c_p0_used 4 1 (bools p0_used)]) W W [.blk b_p0 162 [.slice A_p0_matrix n_p0_matrix c_p0_matrix, .func (.func f_p0_wanted) #[] k_p0_wanted.toArray, .slice A_p0_path n_p0_path c_p0_path, .slice A_p0_used n_p0_used c_p0_used], .row A_p0_path n_p0_path c_p0_path 2 1 (ints p0_path), .row A_p0_used n_p0_used c_p0_used 4 1 (bools p0_used)]), Calls Try.prog 156 [.pointer (some ⟨b_p0, 0, none⟩), .int .i64 p1].toArray W fun e w' => ∃ v, e = .returned v ∧ ∃ A2_, ∃ n2_, ∃ c2_, ∃ A3_, ∃ n3_, ∃ c3_, v = .bool r.1 ∧ n2_ = r.2.1.length ∧ n3_ = r.2.2.length ∧ St (muL [.blk b_p0 162 [.slice A_p0_matrix n_p0_matrix c_p0_matrix, .func (.func f_p0_wanted) #[] k_p0_wanted.toArray, .slice A_p0_path n_p0_path c_p0_path, .slice A_p0_used n_p0_used c_p0_used], .row A_p0_path n_p0_path c_p0_path 2 1 (ints p0_path), .row A_p0_used n_p0_used c_p0_used 4 1 (bools p0_used)]) W w' [.blk b_p0 162 [.slice A_p0_matrix n_p0_matrix c_p0_matrix, .func (.func f_p0_wanted) #[] k_p0_wanted.toArray, .slice A2_ n2_ c2_, .slice A3_ n3_ c3_], .row A2_ n2_ c2_ 2 1 (ints r.2.1), .row A3_ n3_ c3_ 4 1 (bools r.2.2)]) (b_p0 : Nat) (p0_matrix : List (List Int)) (A_p0_matrix : Option Addr) (n_p0_matrix c_p0_matrix : Nat) (hn_p0_matrix : n_p0_matrix = p0_matrix.length) (m_p0_wanted : (List Int) → Int → Option Bool) (f_p0_wanted : FuncId) (k_p0_wanted : List Value) (p0_path : List Int) (A_p0_path : Option Addr) (n_p0_path c_p0_path : Nat) (hn_p0_path : n_p0_path = p0_path.length) (p0_used : List Bool) (A_p0_used : Option Addr) (n_p0_used c_p0_used : Nat) (hn_p0_used : n_p0_used = p0_used.length) (p1 : Int) (r : (Bool) × (List Int) × (List Bool)) (W : World) (hm : impl_cycleSearch_goOn_rec F (k_ + 1) p0_matrix m_p0_wanted p0_path p0_used p1 = some r) (h_p0_matrix : KM (muL [.blk b_p0 162 [.slice A_p0_matrix n_p0_matrix c_p0_matrix, .func (.func f_p0_wanted) #[] k_p0_wanted.toArray, .slice A_p0_path n_p0_path c_p0_path, .slice A_p0_used n_p0_used c_p0_used], .row A_p0_path n_p0_path c_p0_path 2 1 (ints p0_path), .row A_p0_used n_p0_used c_p0_used 4 1 (bools p0_used)]) W A_p0_matrix p0_matrix) (h_p0_wanted : ∀ (x0 : List Int) (Ax0_1 : Option Addr) (nx0_1 cx0_1 : Nat) (_hnx0_1 : nx0_1 = x0.length) (x1 : Int) (r : Bool) (w : World), m_p0_wanted x0 x1 = some r → BM (muL [.blk b_p0 162 [.slice A_p0_matrix n_p0_matrix c_p0_matrix, .func (.func f_p0_wanted) #[] k_p0_wanted.toArray, .slice A_p0_path n_p0_path c_p0_path, .slice A_p0_used n_p0_used c_p0_used], .row A_p0_path n_p0_path c_p0_path 2 1 (ints p0_path), .row A_p0_used n_p0_used c_p0_used 4 1 (bools p0_used)]) W w → Rd w Ax0_1 (ints x0) → Calls Try.prog f_p0_wanted (([.slice Ax0_1 nx0_1 cx0_1, .int .i64 x1] : List Value) ++ k_p0_wanted).toArray w fun e w' => ∃ v, e = .returned v ∧ v = .bool r ∧ St [] w w' []) (e_p0_wanted : En Try.prog f_p0_wanted) (hst : St (muL [.blk b_p0 162 [.slice A_p0_matrix n_p0_matrix c_p0_matrix, .func (.func f_p0_wanted) #[] k_p0_wanted.toArray, .slice A_p0_path n_p0_path c_p0_path, .slice A_p0_used n_p0_used c_p0_used], .row A_p0_path n_p0_path c_p0_path 2 1 (ints p0_path), .row A_p0_used n_p0_used c_p0_used 4 1 (bools p0_used)]) W W [.blk b_p0 162 [.slice A_p0_matrix n_p0_matrix c_p0_matrix, .func (.func f_p0_wanted) #[] k_p0_wanted.toArray, .slice A_p0_path n_p0_path c_p0_path, .slice A_p0_used n_p0_used c_p0_used], .row A_p0_path n_p0_path c_p0_path 2 1 (ints p0_path), .row A_p0_used n_p0_used c_p0_used 4 1 (bools p0_used)]) :
    Calls Try.prog 156 [.pointer (some ⟨b_p0, 0, none⟩), .int .i64 p1].toArray W fun e w' => ∃ v, e = .returned v ∧ ∃ A2_, ∃ n2_, ∃ c2_, ∃ A3_, ∃ n3_, ∃ c3_, v = .bool r.1 ∧ n2_ = r.2.1.length ∧ n3_ = r.2.2.length ∧ St (muL [.blk b_p0 162 [.slice A_p0_matrix n_p0_matrix c_p0_matrix, .func (.func f_p0_wanted) #[] k_p0_wanted.toArray, .slice A_p0_path n_p0_path c_p0_path, .slice A_p0_used n_p0_used c_p0_used], .row A_p0_path n_p0_path c_p0_path 2 1 (ints p0_path), .row A_p0_used n_p0_used c_p0_used 4 1 (bools p0_used)]) W w' [.blk b_p0 162 [.slice A_p0_matrix n_p0_matrix c_p0_matrix, .func (.func f_p0_wanted) #[] k_p0_wanted.toArray, .slice A2_ n2_ c2_, .slice A3_ n3_ c3_], .row A2_ n2_ c2_ 2 1 (ints r.2.1), .row A3_ n3_ c3_ 4 1 (bools r.2.2)] := by
  subst hn_p0_matrix
  subst hn_p0_path
  subst hn_p0_used
  unfold impl_cycleSearch_goOn_rec at hm
  refine Calls.enter (N := 127) Try.func156 rfl rfl rfl (fun a hf => ?_)
  have hs := hst
  obtain ⟨w, hw_⟩ : ∃ w, w = W := ⟨W, rfl⟩
  clear hw_ w
  refine wpL_seq ?_
  refine wpL_region ?_
  refine sY hf hs rfl rfl rfl (Y_assign rfl rfl) ?_; clear hf; intro a hf
  refine wpO_nil ?_
  refine wpL_seq ?_
  refine wpL_draw (by kernel_rfl) (by kernel_rfl) hs ?_
  refine qY hf rfl rfl rfl (Y_move rfl rfl) ?_; clear hf; intro a hf
  refine qY hf rfl rfl rfl (Y_nilCheck rfl rfl) ?_; clear hf; intro a hf
  refine qY hf rfl rfl rfl (Y_fieldAddr rfl rfl fo162_2) ?_; clear hf; intro a hf
  refine qY hf rfl rfl rfl (Y_load_blk rfl rfl (i := 0) rfl rfl ag28) ?_; clear hf; intro a hf
  obtain ⟨q1, hi2, hm⟩ := bind_some hm
  obtain ⟨hi2a, hi2b, hi2q⟩ := idx_some hi2
  refine qY hf rfl rfl rfl (Y_index rfl rfl rfl el28 ti2 (Rd.isAt (hs.rd (i := 1) rfl) (at1 (ints_at hi2q))) hi2a hi2b) ?_; clear hf; intro a hf
  refine qY hf rfl rfl rfl (Y_load_rd rfl rfl (fun w hs => hs.rd (i := 1) rfl) (at1 (ints_at hi2q)) ag2) ?_; clear hf; intro a hf
  refine qY hf rfl rfl rfl (Y_move rfl rfl) ?_; clear hf; intro a hf
  refine qY hf rfl rfl rfl (Y_nilCheck rfl rfl) ?_; clear hf; intro a hf
  refine qY hf rfl rfl rfl (Y_fieldAddr rfl rfl fo162_2) ?_; clear hf; intro a hf
  refine qY hf rfl rfl rfl (Y_load_blk rfl rfl (i := 0) rfl rfl ag28) ?_; clear hf; intro a hf
  refine qY hf rfl rfl rfl (Y_move rfl rfl) ?_; clear hf; intro a hf
  refine qY hf rfl rfl rfl (Y_nilCheck rfl rfl) ?_; clear hf; intro a hf
  refine qY hf rfl rfl rfl (Y_fieldAddr rfl rfl fo162_2) ?_; clear hf; intro a hf
  refine qY hf rfl rfl rfl (Y_load_blk rfl rfl (i := 0) rfl rfl ag28) ?_; clear hf; intro a hf
  refine qY hf rfl rfl rfl (Y_lenH rfl rfl el28 rfl) ?_; clear hf; intro a hf
  refine qY hf rfl rfl rfl (Y_sub rfl rfl rfl) ?_; clear hf; intro a hf
  obtain ⟨q3, hi4, hm⟩ := bind_some hm
  obtain ⟨hi4a, hi4b, hi4q⟩ := idx_some hi4
  refine qY hf rfl rfl rfl (Y_index rfl rfl rfl el28 ti2 (Rd.isAt (hs.rd (i := 1) rfl) (at1 (ints_at hi4q))) hi4a hi4b) ?_; clear hf; intro a hf
  refine qY hf rfl rfl rfl (Y_load_rd rfl rfl (fun w hs => hs.rd (i := 1) rfl) (at1 (ints_at hi4q)) ag2) ?_; clear hf; intro a hf
  refine qY hf rfl rfl rfl (Y_assign rfl rfl) ?_; clear hf; intro a hf
  refine qY hf rfl rfl rfl (Y_assign rfl rfl) ?_; clear hf; intro a hf
  refine qNil ?_; clear hs; intro w hs
  refine wpL_seq ?_
  refine wpL_seq ?_
  refine wpL_region ?_
  refine sY hf hs rfl rfl rfl (Y_move rfl rfl) ?_; clear hf; intro a hf
  refine sY hf hs rfl rfl rfl (Y_nilCheck rfl rfl) ?_; clear hf; intro a hf
  refine sY hf hs rfl rfl rfl (Y_fieldAddr rfl rfl fo162_0) ?_; clear hf; intro a hf
  refine sY hf hs rfl rfl rfl (Y_load_blk rfl rfl (i := 0) rfl rfl ag40) ?_; clear hf; intro a hf
  refine sY hf hs rfl rfl rfl (Y_move rfl rfl) ?_; clear hf; intro a hf
  obtain ⟨q5, hi6, hm⟩ := bind_some hm
  obtain ⟨hi6a, hi6b, hi6q⟩ := idx_some hi6
  obtain ⟨vs7, hv8, hr9⟩ := id h_p0_matrix
  obtain ⟨A10, c11, hv12, hR13⟩ := hr9 _ _ hi6q
  refine sY hf hs rfl rfl rfl (Y_index rfl rfl rfl el40 ti28 (Rd.isAt hv8.here hv12) hi6a hi6b) ?_; clear hf; intro a hf
  refine sY hf hs rfl rfl rfl (Y_load_rd rfl rfl (fun w hs => hv8.at hs) (at1 hv12) ag28) ?_; clear hf; intro a hf
  refine sY hf hs rfl rfl rfl (Y_move rfl rfl) ?_; clear hf; intro a hf
  obtain ⟨q14, hi15, hm⟩ := bind_some hm
  obtain ⟨hi15a, hi15b, hi15q⟩ := idx_some hi15
  refine sY hf hs rfl rfl rfl (Y_index rfl rfl rfl el28 ti2 (Rd.isAt (hR13.at hs) (at1 (ints_at hi15q))) hi15a hi15b) ?_; clear hf; intro a hf
  refine sY hf hs rfl rfl rfl (Y_load_rd rfl rfl (fun w hs => hR13.at hs) (at1 (ints_at hi15q)) ag2) ?_; clear hf; intro a hf
  refine sY hf hs rfl rfl rfl (Y_assign rfl rfl) ?_; clear hf; intro a hf
  refine wpO_nil ?_
  refine wpL_seq ?_
  obtain ⟨r20, hj21, hm⟩ := bind_some hm
  refine wpL_cut (fun a w => ∃ b19 : Bool, b19 = r20 ∧ Fr a 127 [(0, .pointer (some ⟨b_p0, 0, none⟩)), (1, .int .i64 p1), (5, .int .i64 q1), (6, .int .i64 q3), (53, .bool b19)] ∧ St (muL [.blk b_p0 162 [.slice A_p0_matrix p0_matrix.length c_p0_matrix, .func (.func f_p0_wanted) #[] k_p0_wanted.toArray, .slice A_p0_path p0_path.length c_p0_path, .slice A_p0_used p0_used.length c_p0_used], .row A_p0_path p0_path.length c_p0_path 2 1 (ints p0_path), .row A_p0_used p0_used.length c_p0_used 4 1 (bools p0_used)]) W w [.blk b_p0 162 [.slice A_p0_matrix p0_matrix.length c_p0_matrix, .func (.func f_p0_wanted) #[] k_p0_wanted.toArray, .slice A_p0_path p0_path.length c_p0_path, .slice A_p0_used p0_used.length c_p0_used], .row A_p0_path p0_path.length c_p0_path 2 1 (ints p0_path), .row A_p0_used p0_used.length c_p0_used 4 1 (bools p0_used)]) ?_ ?_
  · refine wpL_draw (by kernel_rfl) (by kernel_rfl) hs ?_
    refine qY hf rfl rfl rfl (Y_move rfl rfl) ?_; clear hf; intro a hf
    refine qY hf rfl rfl rfl (Y_neq rfl rfl rfl) ?_; clear hf; intro a hf
    refine qY hf rfl rfl rfl (Y_move rfl rfl) ?_; clear hf; intro a hf
    refine bsplit (q14 != (-1000000000000000)) (fun hb22 => ?_) (fun hb22 => ?_)
    · have hj21 := bif_t hj21 hb22
      refine qYg hf rfl rfl rfl (congrArg (fun b => some (Value.bool b)) hb22) rfl rfl rfl (Y_move rfl rfl) ?_; clear hf; intro a hf
      refine qYg hf rfl rfl rfl (congrArg (fun b => some (Value.bool b)) hb22) rfl rfl rfl (Y_nilCheck rfl rfl) ?_; clear hf; intro a hf
      refine qYg hf rfl rfl rfl (congrArg (fun b => some (Value.bool b)) hb22) rfl rfl rfl (Y_fieldAddr rfl rfl fo162_1) ?_; clear hf; intro a hf
      refine qYg hf rfl rfl rfl (congrArg (fun b => some (Value.bool b)) hb22) rfl rfl rfl (Y_load_blk rfl rfl (i := 0) rfl rfl ag105) ?_; clear hf; intro a hf
      refine qYg hf rfl rfl rfl (congrArg (fun b => some (Value.bool b)) hb22) rfl rfl rfl (Y_move rfl rfl) ?_; clear hf; intro a hf
      refine qYg hf rfl rfl rfl (congrArg (fun b => some (Value.bool b)) hb22) rfl rfl rfl (Y_nilCheck rfl rfl) ?_; clear hf; intro a hf
      refine qYg hf rfl rfl rfl (congrArg (fun b => some (Value.bool b)) hb22) rfl rfl rfl (Y_fieldAddr rfl rfl fo162_2) ?_; clear hf; intro a hf
      refine qYg hf rfl rfl rfl (congrArg (fun b => some (Value.bool b)) hb22) rfl rfl rfl (Y_load_blk rfl rfl (i := 0) rfl rfl ag28) ?_; clear hf; intro a hf
      refine qYg hf rfl rfl rfl (congrArg (fun b => some (Value.bool b)) hb22) rfl rfl rfl (Y_move rfl rfl) ?_; clear hf; intro a hf
      refine qYg hf rfl rfl rfl (congrArg (fun b => some (Value.bool b)) hb22) rfl rfl rfl (Y_move rfl rfl) ?_; clear hf; intro a hf
      refine qYg hf rfl rfl rfl (congrArg (fun b => some (Value.bool b)) hb22) rfl rfl rfl (Y_add rfl rfl rfl) ?_; clear hf; intro a hf
      obtain ⟨r23, hc24, hj21⟩ := bind_some hj21
      refine qCallg hf rfl rfl rfl (congrArg (fun b => some (Value.bool b)) hb22) rfl rfl rfl rfl (cap := k_p0_wanted) rfl rfl e_p0_wanted (v := .bool r23) (fun w hs => Calls.scal (h_p0_wanted p0_path A_p0_path p0_path.length c_p0_path rfl (IntKind.i64.wrap (p1 + q14)) _ _ hc24 hs.bm (hs.rd (i := 1) rfl))) ?_; clear hf; intro a hf
      refine qY hf rfl rfl rfl (Y_pickT rfl (congrArg (fun b => some (Value.bool b)) hb22) rfl) ?_; clear hf; intro a hf
      refine qNil ?_; clear hs; intro w hs
      refine wpL_nil (then_normal ?_)
      exact ⟨r23, Option.some.inj hj21, (FrD.pick (FrD.pick (FrD.pick (FrD.pick (FrD.pick hf.none hf rfl) hf rfl) hf rfl) hf rfl) hf rfl), hs⟩
    · have hj21 := bif_f hj21 hb22
      refine qNo hf rfl rfl rfl (congrArg (fun b => some (Value.bool b)) hb22) rfl rfl rfl ?_; clear hf; intro a hf
      refine qNo hf rfl rfl rfl (congrArg (fun b => some (Value.bool b)) hb22) rfl rfl rfl ?_; clear hf; intro a hf
      refine qNo hf rfl rfl rfl (congrArg (fun b => some (Value.bool b)) hb22) rfl rfl rfl ?_; clear hf; intro a hf
      refine qNo hf rfl rfl rfl (congrArg (fun b => some (Value.bool b)) hb22) rfl rfl rfl ?_; clear hf; intro a hf
      refine qNo hf rfl rfl rfl (congrArg (fun b => some (Value.bool b)) hb22) rfl rfl rfl ?_; clear hf; intro a hf
      refine qNo hf rfl rfl rfl (congrArg (fun b => some (Value.bool b)) hb22) rfl rfl rfl ?_; clear hf; intro a hf
      refine qNo hf rfl rfl rfl (congrArg (fun b => some (Value.bool b)) hb22) rfl rfl rfl ?_; clear hf; intro a hf
      refine qNo hf rfl rfl rfl (congrArg (fun b => some (Value.bool b)) hb22) rfl rfl rfl ?_; clear hf; intro a hf
      refine qNo hf rfl rfl rfl (congrArg (fun b => some (Value.bool b)) hb22) rfl rfl rfl ?_; clear hf; intro a hf
      refine qNo hf rfl rfl rfl (congrArg (fun b => some (Value.bool b)) hb22) rfl rfl rfl ?_; clear hf; intro a hf
      refine qNo hf rfl rfl rfl (congrArg (fun b => some (Value.bool b)) hb22) rfl rfl rfl ?_; clear hf; intro a hf
      refine qNo hf rfl rfl rfl (congrArg (fun b => some (Value.bool b)) hb22) rfl rfl rfl ?_; clear hf; intro a hf
      refine qY hf rfl rfl rfl (Y_pickF rfl (congrArg (fun b => some (Value.bool b)) hb22) rfl) ?_; clear hf; intro a hf
      refine qNil ?_; clear hs; intro w hs
      refine wpL_nil (then_normal ?_)
      exact ⟨false, Option.some.inj hj21, (FrD.pick (FrD.pick (FrD.pick (FrD.pick (FrD.pick hf.none hf rfl) hf rfl) hf rfl) hf rfl) hf rfl), hs⟩
  · rintro a w ⟨b19, hr_, hf, hs⟩
    subst hr_
    try dsimp only at hm
    refine wpL_cond hf rfl (fun hb25 => ?_) (fun hb25 => ?_)
    · have hm := bif_t hm hb25
      refine wpL_seq ?_
      refine wpL_region ?_
      refine sY hf hs rfl rfl rfl (Y_assign rfl rfl) ?_; clear hf; intro a hf
      refine wpO_nil ?_
      obtain rfl := Option.some.inj hm
      refine wpL_ret (ret_tmp rfl hf rfl ?_)
      exact ⟨_, rfl, A_p0_path, p0_path.length, c_p0_path, A_p0_used, p0_used.length, c_p0_used, rfl, rfl, rfl, hs⟩
    · have hm := bif_f hm hb25
      refine wpL_skip ?_
      refine wpL_seq ?_
      refine wpL_seq ?_
      refine wpL_region ?_
      refine sY hf hs rfl rfl rfl (Y_move rfl rfl) ?_; clear hf; intro a hf
      refine sY hf hs rfl rfl rfl (Y_add rfl rfl rfl) ?_; clear hf; intro a hf
      refine sY hf hs rfl rfl rfl (Y_assign rfl rfl) ?_; clear hf; intro a hf
      refine wpO_nil ?_
      obtain ⟨r385, hl386, hm⟩ := bind_some hm
      refine wpL_block (fun a w => ∃ xs375 : List Int, ∃ xs380 : List Bool, ∃ A376, ∃ n377, ∃ c378, ∃ A381, ∃ n382, ∃ c383, Sum.inr (xs375, xs380) = r385 ∧ n377 = xs375.length ∧ n382 = xs380.length ∧ Fr a 127 [] ∧ St (muL [.blk b_p0 162 [.slice A_p0_matrix p0_matrix.length c_p0_matrix, .func (.func f_p0_wanted) #[] k_p0_wanted.toArray, .slice A_p0_path p0_path.length c_p0_path, .slice A_p0_used p0_used.length c_p0_used], .row A_p0_path p0_path.length c_p0_path 2 1 (ints p0_path), .row A_p0_used p0_used.length c_p0_used 4 1 (bools p0_used)]) W w [.blk b_p0 162 [.slice A_p0_matrix p0_matrix.length c_p0_matrix, .func (.func f_p0_wanted) #[] k_p0_wanted.toArray, .slice A376 n377 c378, .slice A381 n382 c383], .row A376 n377 c378 2 1 (ints xs375), .row A381 n382 c383 4 1 (bools xs380)]) ?_ ?_
      · refine wpL_loop (fun n a w => ∃ xs255 : List Int, ∃ xs260 : List Bool, ∃ x265 : Int, ∃ A256, ∃ n257, ∃ c258, ∃ A261, ∃ n262, ∃ c263, impl_cycleSearch_goOn_L1 F p0_matrix m_p0_wanted p1 q3 (impl_cycleSearch_goOn_rec F k_) n xs255 xs260 x265 = some r385 ∧ n257 = xs255.length ∧ n262 = xs260.length ∧ Fr a 127 [(0, .pointer (some ⟨b_p0, 0, none⟩)), (1, .int .i64 p1), (6, .int .i64 q3), (8, .int .i64 x265)] ∧ St (muL [.blk b_p0 162 [.slice A_p0_matrix p0_matrix.length c_p0_matrix, .func (.func f_p0_wanted) #[] k_p0_wanted.toArray, .slice A_p0_path p0_path.length c_p0_path, .slice A_p0_used p0_used.length c_p0_used], .row A_p0_path p0_path.length c_p0_path 2 1 (ints p0_path), .row A_p0_used p0_used.length c_p0_used 4 1 (bools p0_used)]) W w [.blk b_p0 162 [.slice A_p0_matrix p0_matrix.length c_p0_matrix, .func (.func f_p0_wanted) #[] k_p0_wanted.toArray, .slice A256 n257 c258, .slice A261 n262 c263], .row A256 n257 c258 2 1 (ints xs255), .row A261 n262 c263 4 1 (bools xs260)]) F ?_ ?_ ?_
        · exact ⟨p0_path, p0_used, (IntKind.i64.wrap (q1 + 1)), A_p0_path, p0_path.length, c_p0_path, A_p0_used, p0_used.length, c_p0_used, hl386, rfl, rfl, (FrD.pick (FrD.pick (FrD.pick (FrD.pick hf.none hf rfl) hf rfl) hf rfl) hf rfl), hs⟩
        · rintro a w ⟨xs255, xs260, x265, A256, n257, c258, A261, n262, c263, h0_, -, -, -, -⟩; simp [impl_cycleSearch_goOn_L1] at h0_
        · rintro n388 a w ⟨xs255, xs260, x265, A256, n257, c258, A261, n262, c263, hm387, hn259, hn264, hf, hs⟩
          rw [impl_cycleSearch_goOn_L1] at hm387
          refine wpL_seq ?_
          refine wpL_seq ?_
          refine wpL_region ?_
          refine sY hf hs rfl rfl rfl (Y_move rfl rfl) ?_; clear hf; intro a hf
          refine sY hf hs rfl rfl rfl (Y_move rfl rfl) ?_; clear hf; intro a hf
          refine sY hf hs rfl rfl rfl (Y_nilCheck rfl rfl) ?_; clear hf; intro a hf
          refine sY hf hs rfl rfl rfl (Y_fieldAddr rfl rfl fo162_0) ?_; clear hf; intro a hf
          refine sY hf hs rfl rfl rfl (Y_load_blk rfl rfl (i := 0) rfl rfl ag40) ?_; clear hf; intro a hf
          refine sY hf hs rfl rfl rfl (Y_lenH rfl rfl el40 rfl) ?_; clear hf; intro a hf
          refine sY hf hs rfl rfl rfl (Y_lss rfl rfl rfl) ?_; clear hf; intro a hf
          refine wpO_nil ?_
          refine wpL_cond hf rfl (fun hb389 => ?_) (fun hb389 => ?_)
          · have hm387 := bif_t hm387 hb389
            refine wpL_skip ?_
            refine wpL_seq ?_
            obtain ⟨r448, hj449, hm387⟩ := bind_some hm387
            refine wpL_block (fun a w => ∃ xs438 : List Int, ∃ xs443 : List Bool, ∃ A439, ∃ n440, ∃ c441, ∃ A444, ∃ n445, ∃ c446, Sum.inr (xs438, xs443) = r448 ∧ n440 = xs438.length ∧ n445 = xs443.length ∧ Fr a 127 [(0, .pointer (some ⟨b_p0, 0, none⟩)), (1, .int .i64 p1), (6, .int .i64 q3), (8, .int .i64 x265)] ∧ St (muL [.blk b_p0 162 [.slice A_p0_matrix p0_matrix.length c_p0_matrix, .func (.func f_p0_wanted) #[] k_p0_wanted.toArray, .slice A_p0_path p0_path.length c_p0_path, .slice A_p0_used p0_used.length c_p0_used], .row A_p0_path p0_path.length c_p0_path 2 1 (ints p0_path), .row A_p0_used p0_used.length c_p0_used 4 1 (bools p0_used)]) W w [.blk b_p0 162 [.slice A_p0_matrix p0_matrix.length c_p0_matrix, .func (.func f_p0_wanted) #[] k_p0_wanted.toArray, .slice A439 n440 c441, .slice A444 n445 c446], .row A439 n440 c441 2 1 (ints xs438), .row A444 n445 c446 4 1 (bools xs443)]) ?_ ?_
            · refine wpL_seq ?_
              refine wpL_region ?_
              refine sY hf hs rfl rfl rfl (Y_move rfl rfl) ?_; clear hf; intro a hf
              refine sY hf hs rfl rfl rfl (Y_nilCheck rfl rfl) ?_; clear hf; intro a hf
              refine sY hf hs rfl rfl rfl (Y_fieldAddr rfl rfl fo162_0) ?_; clear hf; intro a hf
              refine sY hf hs rfl rfl rfl (Y_load_blk rfl rfl (i := 0) rfl rfl ag40) ?_; clear hf; intro a hf
              refine sY hf hs rfl rfl rfl (Y_move rfl rfl) ?_; clear hf; intro a hf
              obtain ⟨q450, hi451, hj449⟩ := bind_some hj449
              obtain ⟨hi451a, hi451b, hi451q⟩ := idx_some hi451
              obtain ⟨vs452, hv453, hr454⟩ := id h_p0_matrix
              obtain ⟨A455, c456, hv457, hR458⟩ := hr454 _ _ hi451q
              refine sY hf hs rfl rfl rfl (Y_index rfl rfl rfl el40 ti28 (Rd.isAt hv453.here hv457) hi451a hi451b) ?_; clear hf; intro a hf
              refine sY hf hs rfl rfl rfl (Y_load_rd rfl rfl (fun w hs => hv453.at hs) (at1 hv457) ag28) ?_; clear hf; intro a hf
              refine sY hf hs rfl rfl rfl (Y_move rfl rfl) ?_; clear hf; intro a hf
              obtain ⟨q459, hi460, hj449⟩ := bind_some hj449
              obtain ⟨hi460a, hi460b, hi460q⟩ := idx_some hi460
              refine sY hf hs rfl rfl rfl (Y_index rfl rfl rfl el28 ti2 (Rd.isAt (hR458.at hs) (at1 (ints_at hi460q))) hi460a hi460b) ?_; clear hf; intro a hf
              refine sY hf hs rfl rfl rfl (Y_load_rd rfl rfl (fun w hs => hR458.at hs) (at1 (ints_at hi460q)) ag2) ?_; clear hf; intro a hf
              refine sY hf hs rfl rfl rfl (Y_assign rfl rfl) ?_; clear hf; intro a hf
              refine wpO_nil ?_
              refine wpL_seq ?_
              refine wpL_seq ?_
              obtain ⟨r465, hj466, hj449⟩ := bind_some hj449
              refine wpL_cut (fun a w => ∃ b464 : Bool, b464 = r465 ∧ Fr a 127 [(0, .pointer (some ⟨b_p0, 0, none⟩)), (1, .int .i64 p1), (6, .int .i64 q3), (8, .int .i64 x265), (9, .int .i64 q459), (85, .bool b464)] ∧ St (muL [.blk b_p0 162 [.slice A_p0_matrix p0_matrix.length c_p0_matrix, .func (.func f_p0_wanted) #[] k_p0_wanted.toArray, .slice A_p0_path p0_path.length c_p0_path, .slice A_p0_used p0_used.length c_p0_used], .row A_p0_path p0_path.length c_p0_path 2 1 (ints p0_path), .row A_p0_used p0_used.length c_p0_used 4 1 (bools p0_used)]) W w [.blk b_p0 162 [.slice A_p0_matrix p0_matrix.length c_p0_matrix, .func (.func f_p0_wanted) #[] k_p0_wanted.toArray, .slice A256 n257 c258, .slice A261 n262 c263], .row A256 n257 c258 2 1 (ints xs255), .row A261 n262 c263 4 1 (bools xs260)]) ?_ ?_
              · refine wpL_region ?_
                refine sY hf hs rfl rfl rfl (Y_move rfl rfl) ?_; clear hf; intro a hf
                refine sY hf hs rfl rfl rfl (Y_eql rfl rfl rfl) ?_; clear hf; intro a hf
                refine sY hf hs rfl rfl rfl (Y_move rfl rfl) ?_; clear hf; intro a hf
                refine bsplit (q459 == (-1000000000000000)) (fun hb467 => ?_) (fun hb467 => ?_)
                · have hj466 := bif_t hj466 hb467
                  refine sNo hf rfl rfl rfl (congrArg (fun b => some (Value.bool b)) hb467) rfl rfl rfl ?_; clear hf; intro a hf
                  refine sNo hf rfl rfl rfl (congrArg (fun b => some (Value.bool b)) hb467) rfl rfl rfl ?_; clear hf; intro a hf
                  refine sNo hf rfl rfl rfl (congrArg (fun b => some (Value.bool b)) hb467) rfl rfl rfl ?_; clear hf; intro a hf
                  refine sNo hf rfl rfl rfl (congrArg (fun b => some (Value.bool b)) hb467) rfl rfl rfl ?_; clear hf; intro a hf
                  refine sNo hf rfl rfl rfl (congrArg (fun b => some (Value.bool b)) hb467) rfl rfl rfl ?_; clear hf; intro a hf
                  refine sNo hf rfl rfl rfl (congrArg (fun b => some (Value.bool b)) hb467) rfl rfl rfl ?_; clear hf; intro a hf
                  refine sNo hf rfl rfl rfl (congrArg (fun b => some (Value.bool b)) hb467) rfl rfl rfl ?_; clear hf; intro a hf
                  refine sY hf hs rfl rfl rfl (Y_pickT rfl (congrArg (fun b => some (Value.bool b)) hb467) rfl) ?_; clear hf; intro a hf
                  refine wpO_nil ?_
                  refine wpL_nil (then_normal ?_)
                  exact ⟨true, Option.some.inj hj466, (FrD.pick (FrD.pick (FrD.pick (FrD.pick (FrD.pick (FrD.pick hf.none hf rfl) hf rfl) hf rfl) hf rfl) hf rfl) hf rfl), hs⟩
                · have hj466 := bif_f hj466 hb467
                  refine sYg hf hs rfl rfl rfl (congrArg (fun b => some (Value.bool b)) hb467) rfl rfl rfl (Y_move rfl rfl) ?_; clear hf; intro a hf
                  refine sYg hf hs rfl rfl rfl (congrArg (fun b => some (Value.bool b)) hb467) rfl rfl rfl (Y_nilCheck rfl rfl) ?_; clear hf; intro a hf
                  refine sYg hf hs rfl rfl rfl (congrArg (fun b => some (Value.bool b)) hb467) rfl rfl rfl (Y_fieldAddr rfl rfl fo162_3) ?_; clear hf; intro a hf
                  refine sYg hf hs rfl rfl rfl (congrArg (fun b => some (Value.bool b)) hb467) rfl rfl rfl (Y_load_blk rfl rfl (i := 0) rfl rfl ag160) ?_; clear hf; intro a hf
                  refine sYg hf hs rfl rfl rfl (congrArg (fun b => some (Value.bool b)) hb467) rfl rfl rfl (Y_move rfl rfl) ?_; clear hf; intro a hf
                  obtain ⟨q468, hi469, hj466⟩ := bind_some hj466
                  obtain ⟨hi469a, hi469b, hi469q⟩ := idx_some hi469
                  refine sYg hf hs rfl rfl rfl (congrArg (fun b => some (Value.bool b)) hb467) rfl rfl rfl (Y_index rfl rfl rfl el160 ti4 (Rd.isAt (hs.rd (i := 2) rfl) (at1 (bools_at hi469q))) hi469a (ltn hn264 hi469b)) ?_; clear hf; intro a hf
                  refine sYg hf hs rfl rfl rfl (congrArg (fun b => some (Value.bool b)) hb467) rfl rfl rfl (Y_load_rd rfl rfl (fun w hs => hs.rd (i := 2) rfl) (at1 (bools_at hi469q)) ag4) ?_; clear hf; intro a hf
                  refine sY hf hs rfl rfl rfl (Y_pickF rfl (congrArg (fun b => some (Value.bool b)) hb467) rfl) ?_; clear hf; intro a hf
                  refine wpO_nil ?_
                  refine wpL_nil (then_normal ?_)
                  exact ⟨q468, Option.some.inj hj466, (FrD.pick (FrD.pick (FrD.pick (FrD.pick (FrD.pick (FrD.pick hf.none hf rfl) hf rfl) hf rfl) hf rfl) hf rfl) hf rfl), hs⟩
              · rintro a w ⟨b464, hr_, hf, hs⟩
                subst hr_
                try dsimp only at hj449
                refine wpL_cond hf rfl (fun hb470 => ?_) (fun hb470 => ?_)
                · have hj449 := bif_t hj449 hb470
                  refine wpL_exit (Qb_exit ?_)
                  exact ⟨xs255, xs260, A256, n257, c258, A261, n262, c263, Option.some.inj hj449, hn259, hn264, (FrD.pick (FrD.pick (FrD.pick (FrD.pick hf.none hf rfl) hf rfl) hf rfl) hf rfl), hs⟩
                · have hj449 := bif_f hj449 hb470
                  refine wpL_skip ?_
                  refine wpL_seq ?_
                  refine wpL_region ?_
                  refine sY hf hs rfl rfl rfl (Y_move rfl rfl) ?_; clear hf; intro a hf
                  refine sY hf hs rfl rfl rfl (Y_nilCheck rfl rfl) ?_; clear hf; intro a hf
                  refine sY hf hs rfl rfl rfl (Y_fieldAddr rfl rfl fo162_3) ?_; clear hf; intro a hf
                  refine sY hf hs rfl rfl rfl (Y_load_blk rfl rfl (i := 0) rfl rfl ag160) ?_; clear hf; intro a hf
                  refine sY hf hs rfl rfl rfl (Y_move rfl rfl) ?_; clear hf; intro a hf
                  obtain ⟨q471, hi472, hj449⟩ := bind_some hj449
                  obtain ⟨hi472a, hi472b, hi472q⟩ := idx_some hi472
                  refine sY hf hs rfl rfl rfl (Y_index rfl rfl rfl el160 ti4 (Rd.isAt (hs.rd (i := 2) rfl) (at1 (bools_at hi472q))) hi472a (ltn hn264 hi472b)) ?_; clear hf; intro a hf
                  obtain ⟨xs473, hu474, hj449⟩ := bind_some hj449
                  refine sStoreL (i := 2) (us := [.bool true]) (enc := bools) hf hs rfl rfl rfl rfl rfl rfl hn264 hu474 ti4 rfl rfl rfl rfl rfl bools_len1 (bools_set true) ?_; clear hs; intro w hs
                  have hs : St (muL [.blk b_p0 162 [.slice A_p0_matrix p0_matrix.length c_p0_matrix, .func (.func f_p0_wanted) #[] k_p0_wanted.toArray, .slice A_p0_path p0_path.length c_p0_path, .slice A_p0_used p0_used.length c_p0_used], .row A_p0_path p0_path.length c_p0_path 2 1 (ints p0_path), .row A_p0_used p0_used.length c_p0_used 4 1 (bools p0_used)]) W w [.blk b_p0 162 [.slice A_p0_matrix p0_matrix.length c_p0_matrix, .func (.func f_p0_wanted) #[] k_p0_wanted.toArray, .slice A256 n257 c258, .slice A261 n262 c263], .row A256 n257 c258 2 1 (ints xs255), .row A261 n262 c263 4 1 (bools xs473)] := hs
                  refine wpO_nil ?_
                  refine wpL_seq ?_
                  refine wpL_region ?_
                  refine sY hf hs rfl rfl rfl (Y_move rfl rfl) ?_; clear hf; intro a hf
                  refine sY hf hs rfl rfl rfl (Y_move rfl rfl) ?_; clear hf; intro a hf
                  refine sY hf hs rfl rfl rfl (Y_nilCheck rfl rfl) ?_; clear hf; intro a hf
                  refine sY hf hs rfl rfl rfl (Y_fieldAddr rfl rfl fo162_2) ?_; clear hf; intro a hf
                  refine sY hf hs rfl rfl rfl (Y_load_blk rfl rfl (i := 0) rfl rfl ag28) ?_; clear hf; intro a hf
                  refine sY hf hs rfl rfl rfl (Y_move rfl rfl) ?_; clear hf; intro a hf
                  refine sBuildSlice (parts := [(0, .tmp 97)]) (vs := [.int .i64 x265]) (cells := [.int .i64 x265]) hf hs rfl rfl rfl rfl rfl el28 ti2 rfl rfl rfl rfl ?_; clear hf hs; intro a w A475 hs hA476 hf
                  have hs : St (muL [.blk b_p0 162 [.slice A_p0_matrix p0_matrix.length c_p0_matrix, .func (.func f_p0_wanted) #[] k_p0_wanted.toArray, .slice A_p0_path p0_path.length c_p0_path, .slice A_p0_used p0_used.length c_p0_used], .row A_p0_path p0_path.length c_p0_path 2 1 (ints p0_path), .row A_p0_used p0_used.length c_p0_used 4 1 (bools p0_used)]) W w [.blk b_p0 162 [.slice A_p0_matrix p0_matrix.length c_p0_matrix, .func (.func f_p0_wanted) #[] k_p0_wanted.toArray, .slice A256 n257 c258, .slice A261 n262 c263], .row A256 n257 c258 2 1 (ints xs255), .row A261 n262 c263 4 1 (bools xs473), .row A475 1 1 2 1 (ints ([x265]))] := hs
                  obtain ⟨xs479, ha480, hj449⟩ := bind_some hj449
                  refine sAppendL (i := 1) (xs := xs255) (ys := [x265]) (enc := ints) hf hs rfl rfl rfl rfl rfl rfl hn259 rfl rfl ha480 el28 ti2 rfl rfl rfl (hs.rd (i := 3) rfl) (Nat.succ_pos _) ints_len1 ints_append ints_one ?_; clear hf hs; intro a w A477 c478 hs hf
                  have hs : St (muL [.blk b_p0 162 [.slice A_p0_matrix p0_matrix.length c_p0_matrix, .func (.func f_p0_wanted) #[] k_p0_wanted.toArray, .slice A_p0_path p0_path.length c_p0_path, .slice A_p0_used p0_used.length c_p0_used], .row A_p0_path p0_path.length c_p0_path 2 1 (ints p0_path), .row A_p0_used p0_used.length c_p0_used 4 1 (bools p0_used)]) W w [.blk b_p0 162 [.slice A_p0_matrix p0_matrix.length c_p0_matrix, .func (.func f_p0_wanted) #[] k_p0_wanted.toArray, .slice A256 n257 c258, .slice A261 n262 c263], .row A477 xs479.length c478 2 1 (ints xs479), .row A261 n262 c263 4 1 (bools xs473), .row A475 1 1 2 1 (ints ([x265]))] := hs
                  refine sY hf hs rfl rfl rfl (Y_nilCheck rfl rfl) ?_; clear hf; intro a hf
                  refine sY hf hs rfl rfl rfl (Y_fieldAddr rfl rfl fo162_2) ?_; clear hf; intro a hf
                  refine sStore (i := 0) (us := [.slice A477 xs479.length c478]) hf hs rfl rfl rfl rfl rfl rfl ti28 rfl rfl rfl (Nat.le_of_ble_eq_true rfl) rfl ?_; clear hs; intro w hs
                  have hs : St (muL [.blk b_p0 162 [.slice A_p0_matrix p0_matrix.length c_p0_matrix, .func (.func f_p0_wanted) #[] k_p0_wanted.toArray, .slice A_p0_path p0_path.length c_p0_path, .slice A_p0_used p0_used.length c_p0_used], .row A_p0_path p0_path.length c_p0_path 2 1 (ints p0_path), .row A_p0_used p0_used.length c_p0_used 4 1 (bools p0_used)]) W w [.blk b_p0 162 [.slice A_p0_matrix p0_matrix.length c_p0_matrix, .func (.func f_p0_wanted) #[] k_p0_wanted.toArray, .slice A477 xs479.length c478, .slice A261 n262 c263], .row A477 xs479.length c478 2 1 (ints xs479), .row A261 n262 c263 4 1 (bools xs473), .row A475 1 1 2 1 (ints ([x265]))] := hs
                  refine wpO_nil ?_
                  refine wpL_seq ?_
                  refine wpL_seq ?_
                  refine wpL_region ?_
                  refine sY hf hs rfl rfl rfl (Y_move rfl rfl) ?_; clear hf; intro a hf
                  refine sY hf hs rfl rfl rfl (Y_move rfl rfl) ?_; clear hf; intro a hf
                  refine sY hf hs rfl rfl rfl (Y_move rfl rfl) ?_; clear hf; intro a hf
                  refine sY hf hs rfl rfl rfl (Y_add rfl rfl rfl) ?_; clear hf; intro a hf
                  obtain ⟨r481, hc482, hj449⟩ := bind_some hj449
                  refine sCall hf rfl rfl rfl rfl (cap := []) rfl rfl en156 (ih_ b_p0 p0_matrix A_p0_matrix p0_matrix.length c_p0_matrix rfl m_p0_wanted f_p0_wanted k_p0_wanted xs479 A477 xs479.length c478 rfl xs473 A261 n262 c263 ((hn264).trans (upd_len hu474).symm) (IntKind.i64.wrap (p1 + q459)) _ _ hc482 (h_p0_matrix.pass hs [0, 1, 2]) (fun x0 A0_0 n0_0 c0_0 h0_0 x1 r w' hm_ hb r0_0 => h_p0_wanted x0 A0_0 n0_0 c0_0 h0_0 x1 r w' hm_ (hs.bmPass [0, 1, 2] hb) r0_0) e_p0_wanted (hs.sel [0, 1, 2] (by decide)).rebase) ?_; clear hf
                  rintro _ w ⟨A483, n484, c485, A487, n488, c489, rfl, hn486, hn490, hs1⟩ a hf
                  have hs : St (muL [.blk b_p0 162 [.slice A_p0_matrix p0_matrix.length c_p0_matrix, .func (.func f_p0_wanted) #[] k_p0_wanted.toArray, .slice A_p0_path p0_path.length c_p0_path, .slice A_p0_used p0_used.length c_p0_used], .row A_p0_path p0_path.length c_p0_path 2 1 (ints p0_path), .row A_p0_used p0_used.length c_p0_used 4 1 (bools p0_used)]) W w [.row A475 1 1 2 1 (ints ([x265])), .blk b_p0 162 [.slice A_p0_matrix p0_matrix.length c_p0_matrix, .func (.func f_p0_wanted) #[] k_p0_wanted.toArray, .slice A483 n484 c485, .slice A487 n488 c489], .row A483 n484 c485 2 1 (ints r481.2.1), .row A487 n488 c489 4 1 (bools r481.2.2)] := St.mutTail (La := [.row A475 1 1 2 1 (ints ([x265]))]) (Lb := [.blk b_p0 162 [.slice A_p0_matrix p0_matrix.length c_p0_matrix, .func (.func f_p0_wanted) #[] k_p0_wanted.toArray, .slice A477 xs479.length c478, .slice A261 n262 c263], .row A477 xs479.length c478 2 1 (ints xs479), .row A261 n262 c263 4 1 (bools xs473)]) (hs.sel [3, 0, 1, 2] (by decide)) hs1
                  clear hs1
                  refine wpO_nil ?_
                  refine wpL_cond hf rfl (fun hb491 => ?_) (fun hb491 => ?_)
                  · have hj449 := bif_t hj449 hb491
                    refine wpL_seq ?_
                    refine wpL_region ?_
                    refine sY hf hs rfl rfl rfl (Y_assign rfl rfl) ?_; clear hf; intro a hf
                    refine wpO_nil ?_
                    obtain rfl := Option.some.inj hj449
                    try dsimp only at hm387
                    obtain rfl := Option.some.inj hm387
                    try dsimp only at hm
                    obtain rfl := Option.some.inj hm
                    refine wpL_ret (Qb_ret (Ql_ret (Qb_ret (ret_tmp rfl hf rfl ?_))))
                    exact ⟨_, rfl, A483, n484, c485, A487, n488, c489, rfl, hn486, hn490, hs.sel [1, 2, 3] (by decide)⟩
                  · have hj449 := bif_f hj449 hb491
                    refine wpL_skip ?_
                    refine wpL_seq ?_
                    refine wpL_drawM [.row A475 1 1 2 1 (ints ([x265])), .blk b_p0 162 [.slice A_p0_matrix p0_matrix.length c_p0_matrix, .func (.func f_p0_wanted) #[] k_p0_wanted.toArray, .slice A483 n484 c485, .slice A487 n488 c489], .row A483 n484 c485 2 1 (ints r481.2.1), .row A487 n488 c489 4 1 (bools r481.2.2)] [14] (by kernel_rfl) hs ?_; clear hs; intro w hs
                    have hs0 : St (muL [.blk b_p0 162 [.slice A_p0_matrix p0_matrix.length c_p0_matrix, .func (.func f_p0_wanted) #[] k_p0_wanted.toArray, .slice A_p0_path p0_path.length c_p0_path, .slice A_p0_used p0_used.length c_p0_used], .row A_p0_path p0_path.length c_p0_path 2 1 (ints p0_path), .row A_p0_used p0_used.length c_p0_used 4 1 (bools p0_used)]) W w [.row A475 1 1 2 1 (ints ([x265])), .blk b_p0 162 [.slice A_p0_matrix p0_matrix.length c_p0_matrix, .func (.func f_p0_wanted) #[] k_p0_wanted.toArray, .slice A483 n484 c485, .slice A487 n488 c489], .row A483 n484 c485 2 1 (ints r481.2.1), .row A487 n488 c489 4 1 (bools r481.2.2)] := hs
                    refine mYp (i := 0) rfl (by kernel_rfl) (by kernel_rfl) hf rfl rfl rfl (fun _ => Y_move rfl rfl) ?_; clear hf; intro a hf
                    refine mYp (i := 1) rfl (by kernel_rfl) (by kernel_rfl) hf rfl rfl rfl (fun _ => Y_move rfl rfl) ?_; clear hf; intro a hf
                    refine mYp (i := 2) rfl (by kernel_rfl) (by kernel_rfl) hf rfl rfl rfl (fun _ => Y_nilCheck rfl rfl) ?_; clear hf; intro a hf
                    refine mYp (i := 3) rfl (by kernel_rfl) (by kernel_rfl) hf rfl rfl rfl (fun _ => Y_fieldAddr rfl rfl fo162_2) ?_; clear hf; intro a hf
                    refine mY (i := 4) [[]] rfl (by kernel_rfl) (by kernel_rfl) hf hs0 rfl rfl rfl (Y_load_blk rfl rfl (i := 1) rfl rfl ag28) ?_; clear hf; intro a hf
                    refine mYp (i := 5) rfl (by kernel_rfl) (by kernel_rfl) hf rfl rfl rfl (fun _ => Y_move rfl rfl) ?_; clear hf; intro a hf
                    refine mYp (i := 6) rfl (by kernel_rfl) (by kernel_rfl) hf rfl rfl rfl (fun _ => Y_nilCheck rfl rfl) ?_; clear hf; intro a hf
                    refine mYp (i := 7) rfl (by kernel_rfl) (by kernel_rfl) hf rfl rfl rfl (fun _ => Y_fieldAddr rfl rfl fo162_2) ?_; clear hf; intro a hf
                    refine mY (i := 8) [[]] rfl (by kernel_rfl) (by kernel_rfl) hf hs0 rfl rfl rfl (Y_load_blk rfl rfl (i := 1) rfl rfl ag28) ?_; clear hf; intro a hf
                    refine mYp (i := 9) rfl (by kernel_rfl) (by kernel_rfl) hf rfl rfl rfl (fun _ => Y_lenH rfl rfl el28 hn486) ?_; clear hf; intro a hf
                    refine mYp (i := 10) rfl (by kernel_rfl) (by kernel_rfl) hf rfl rfl rfl (fun _ => Y_sub rfl rfl rfl) ?_; clear hf; intro a hf
                    obtain ⟨xs493, hk492, hj449⟩ := bind_some hj449
                    refine mY (i := 11) [[]] rfl (by kernel_rfl) (by kernel_rfl) hf hs0 rfl rfl rfl (Y_sliceH rfl rfl rfl (cutTo_some hk492).1 (leC hn486 (hs0.capR (i := 2) rfl) hk492) el28 ti2) ?_; clear hf; intro a hf
                    refine mYp (i := 12) rfl (by kernel_rfl) (by kernel_rfl) hf rfl rfl rfl (fun _ => Y_nilCheck rfl rfl) ?_; clear hf; intro a hf
                    refine mYp (i := 13) rfl (by kernel_rfl) (by kernel_rfl) hf rfl rfl rfl (fun _ => Y_fieldAddr rfl rfl fo162_2) ?_; clear hf; intro a hf
                    refine mRun (i := 14) rfl (by kernel_rfl) ?_
                    have hs := hs.cutInts (i := 2) rfl hn486 hk492
                    have hs : St (muL [.blk b_p0 162 [.slice A_p0_matrix p0_matrix.length c_p0_matrix, .func (.func f_p0_wanted) #[] k_p0_wanted.toArray, .slice A_p0_path p0_path.length c_p0_path, .slice A_p0_used p0_used.length c_p0_used], .row A_p0_path p0_path.length c_p0_path 2 1 (ints p0_path), .row A_p0_used p0_used.length c_p0_used 4 1 (bools p0_used)]) W _ [.row A475 1 1 2 1 (ints ([x265])), .blk b_p0 162 [.slice A_p0_matrix p0_matrix.length c_p0_matrix, .func (.func f_p0_wanted) #[] k_p0_wanted.toArray, .slice A483 n484 c485, .slice A487 n488 c489], .row A483 ((IntKind.i64.wrap ((r481.2.1.length : Int) - 1)) : Int).toNat c485 2 1 (ints xs493), .row A487 n488 c489 4 1 (bools r481.2.2)] := hs
                    refine sStore (i := 1) (us := [.slice A483 (((IntKind.i64.wrap ((r481.2.1.length : Int) - 1)) : Int).toNat) c485]) hf hs rfl rfl rfl rfl rfl rfl ti28 rfl rfl rfl (Nat.le_of_ble_eq_true rfl) rfl ?_; clear hs; intro w hs
                    have hs : St (muL [.blk b_p0 162 [.slice A_p0_matrix p0_matrix.length c_p0_matrix, .func (.func f_p0_wanted) #[] k_p0_wanted.toArray, .slice A_p0_path p0_path.length c_p0_path, .slice A_p0_used p0_used.length c_p0_used], .row A_p0_path p0_path.length c_p0_path 2 1 (ints p0_path), .row A_p0_used p0_used.length c_p0_used 4 1 (bools p0_used)]) W w [.row A475 1 1 2 1 (ints ([x265])), .blk b_p0 162 [.slice A_p0_matrix p0_matrix.length c_p0_matrix, .func (.func f_p0_wanted) #[] k_p0_wanted.toArray, .slice A483 (((IntKind.i64.wrap ((r481.2.1.length : Int) - 1)) : Int).toNat) c485, .slice A487 n488 c489], .row A483 ((IntKind.i64.wrap ((r481.2.1.length : Int) - 1)) : Int).toNat c485 2 1 (ints xs493), .row A487 n488 c489 4 1 (bools r481.2.2)] := hs
                    refine wpO_nil ⟨Or.inl (by decide), ?_⟩
                    refine mDone (by kernel_rfl) ?_
                    clear hs0
                    refine wpL_region ?_
                    refine sY hf hs rfl rfl rfl (Y_move rfl rfl) ?_; clear hf; intro a hf
                    refine sY hf hs rfl rfl rfl (Y_nilCheck rfl rfl) ?_; clear hf; intro a hf
                    refine sY hf hs rfl rfl rfl (Y_fieldAddr rfl rfl fo162_3) ?_; clear hf; intro a hf
                    refine sY hf hs rfl rfl rfl (Y_load_blk rfl rfl (i := 1) rfl rfl ag160) ?_; clear hf; intro a hf
                    refine sY hf hs rfl rfl rfl (Y_move rfl rfl) ?_; clear hf; intro a hf
                    obtain ⟨q494, hi495, hj449⟩ := bind_some hj449
                    obtain ⟨hi495a, hi495b, hi495q⟩ := idx_some hi495
                    refine sY hf hs rfl rfl rfl (Y_index rfl rfl rfl el160 ti4 (Rd.isAt (hs.rd (i := 3) rfl) (at1 (bools_at hi495q))) hi495a (ltn hn490 hi495b)) ?_; clear hf; intro a hf
                    obtain ⟨xs496, hu497, hj449⟩ := bind_some hj449
                    refine sStoreL (i := 3) (us := [.bool false]) (enc := bools) hf hs rfl rfl rfl rfl rfl rfl hn490 hu497 ti4 rfl rfl rfl rfl rfl bools_len1 (bools_set false) ?_; clear hs; intro w hs
                    have hs : St (muL [.blk b_p0 162 [.slice A_p0_matrix p0_matrix.length c_p0_matrix, .func (.func f_p0_wanted) #[] k_p0_wanted.toArray, .slice A_p0_path p0_path.length c_p0_path, .slice A_p0_used p0_used.length c_p0_used], .row A_p0_path p0_path.length c_p0_path 2 1 (ints p0_path), .row A_p0_used p0_used.length c_p0_used 4 1 (bools p0_used)]) W w [.row A475 1 1 2 1 (ints ([x265])), .blk b_p0 162 [.slice A_p0_matrix p0_matrix.length c_p0_matrix, .func (.func f_p0_wanted) #[] k_p0_wanted.toArray, .slice A483 (((IntKind.i64.wrap ((r481.2.1.length : Int) - 1)) : Int).toNat) c485, .slice A487 n488 c489], .row A483 ((IntKind.i64.wrap ((r481.2.1.length : Int) - 1)) : Int).toNat c485 2 1 (ints xs493), .row A487 n488 c489 4 1 (bools xs496)] := hs
                    refine wpO_nil ?_
                    refine wpL_nil (Qb_normal ?_)
                    exact ⟨xs493, xs496, A483, ((IntKind.i64.wrap ((r481.2.1.length : Int) - 1)) : Int).toNat, c485, A487, n488, c489, Option.some.inj hj449, (pre_len hk492), ((hn490).trans (upd_len hu497).symm), (FrD.pick (FrD.pick (FrD.pick (FrD.pick hf.none hf rfl) hf rfl) hf rfl) hf rfl), hs.sel [1, 2, 3] (by decide)⟩
            · rintro a w ⟨xs438, xs443, A439, n440, c441, A444, n445, c446, hr_, hn442, hn447, hf, hs⟩
              subst hr_
              try dsimp only at hm387
              refine wpL_region ?_
              refine sY hf hs rfl rfl rfl (Y_move rfl rfl) ?_; clear hf; intro a hf
              refine sY hf hs rfl rfl rfl (Y_add rfl rfl rfl) ?_; clear hf; intro a hf
              refine sY hf hs rfl rfl rfl (Y_assign rfl rfl) ?_; clear hf; intro a hf
              refine wpO_nil ?_
              refine wpL_nil (Ql_normal ?_)
              exact ⟨xs438, xs443, (IntKind.i64.wrap (x265 + 1)), A439, n440, c441, A444, n445, c446, hm387, hn442, hn447, (FrD.pick (FrD.pick (FrD.pick (FrD.pick hf.none hf rfl) hf rfl) hf rfl) hf rfl), hs⟩
          · have hm387 := bif_f hm387 hb389
            refine wpL_exit (Ql_exit (Qb_exit ?_))
            exact ⟨xs255, xs260, A256, n257, c258, A261, n262, c263, Option.some.inj hm387, hn259, hn264, hf.none, hs⟩
      · rintro a w ⟨xs375, xs380, A376, n377, c378, A381, n382, c383, hr_, hn379, hn384, hf, hs⟩
        subst hr_
        try dsimp only at hm
        refine wpL_seq ?_
        refine wpL_region ?_
        refine sY hf hs rfl rfl rfl (Y_assign rfl rfl) ?_; clear hf; intro a hf
        refine wpO_nil ?_
        obtain rfl := Option.some.inj hm
        refine wpL_ret (ret_tmp rfl hf rfl ?_)
        exact ⟨_, rfl, A376, n377, c378, A381, n382, c383, rfl, hn379, hn384, hs⟩
theorem impl_cycleSearch_goOn_rec_ok (F : Nat) : ∀ (k_ : Nat) (b_p0 : Nat) (p0_matrix : List (List Int)) (A_p0_matrix : Option Addr) (n_p0_matrix c_p0_matrix : Nat) (_hn_p0_matrix : n_p0_matrix = p0_matrix.length) (m_p0_wanted : (List Int) → Int → Option Bool) (f_p0_wanted : FuncId) (k_p0_wanted : List Value) (p0_path : List Int) (A_p0_path : Option Addr) (n_p0_path c_p0_path : Nat) (_hn_p0_path : n_p0_path = p0_path.length) (p0_used : List Bool) (A_p0_used : Option Addr) (n_p0_used c_p0_used : Nat) (_hn_p0_used : n_p0_used = p0_used.length) (p1 : Int) (r : (Bool) × (List Int) × (List Bool)) (W : World) (_hm : impl_cycleSearch_goOn_rec F k_ p0_matrix m_p0_wanted p0_path p0_used p1 = some r) (_h_p0_matrix : KM (muL [.blk b_p0 162 [.slice A_p0_matrix n_p0_matrix c_p0_matrix, .func (.func f_p0_wanted) #[] k_p0_wanted.toArray, .slice A_p0_path n_p0_path c_p0_path, .slice A_p0_used n_p0_used c_p0_used], .row A_p0_path n_p0_path c_p0_path 2 1 (ints p0_path), .row A_p0_used n_p0_used c_p0_used 4 1 (bools p0_used)]) W A_p0_matrix p0_matrix) (_h_p0_wanted : ∀ (x0 : List Int) (Ax0_1 : Option Addr) (nx0_1 cx0_1 : Nat) (_hnx0_1 : nx0_1 = x0.length) (x1 : Int) (r : Bool) (w : World), m_p0_wanted x0 x1 = some r → BM (muL [.blk b_p0 162 [.slice A_p0_matrix n_p0_matrix c_p0_matrix, .func (.func f_p0_wanted) #[] k_p0_wanted.toArray, .slice A_p0_path n_p0_path c_p0_path, .slice A_p0_used n_p0_used c_p0_used], .row A_p0_path n_p0_path c_p0_path 2 1 (ints p0_path), .row A_p0_used n_p0_used c_p0_used 4 1 (bools p0_used)]) W w → Rd w Ax0_1 (ints x0) → Calls Try.prog f_p0_wanted (([.slice Ax0_1 nx0_1 cx0_1, .int .i64 x1] : List Value) ++ k_p0_wanted).toArray w fun e w' => ∃ v, e = .returned v ∧ v = .bool r ∧ St [] w w' []) (_e_p0_wanted : En Try.prog f_p0_wanted) (_hst : St (muL [.blk b_p0 162 [.slice A_p0_matrix n_p0_matrix c_p0_matrix, .func (.func f_p0_wanted) #[] k_p0_wanted.toArray, .slice A_p0_path n_p0_path c_p0_path, .slice A_p0_used n_p0_used c_p0_used], .row A_p0_path n_p0_path c_p0_path 2 1 (ints p0_path), .row A_p0_used n_p0_used c_p0_used 4 1 (bools p0_used)]) W W [.blk b_p0 162 [.slice A_p0_matrix n_p0_matrix c_p0_matrix, .func (.func f_p0_wanted) #[] k_p0_wanted.toArray, .slice A_p0_path n_p0_path c_p0_path, .slice A_p0_used n_p0_used c_p0_used], .row A_p0_path n_p0_path c_p0_path 2 1 (ints p0_path), .row A_p0_used n_p0_used c_p0_used 4 1 (bools p0_used)]), Calls Try.prog 156 [.pointer (some ⟨b_p0, 0, none⟩), .int .i64 p1].toArray W fun e w' => ∃ v, e = .returned v ∧ ∃ A2_, ∃ n2_, ∃ c2_, ∃ A3_, ∃ n3_, ∃ c3_, v = .bool r.1 ∧ n2_ = r.2.1.length ∧ n3_ = r.2.2.length ∧ St (muL [.blk b_p0 162 [.slice A_p0_matrix n_p0_matrix c_p0_matrix, .func (.func f_p0_wanted) #[] k_p0_wanted.toArray, .slice A_p0_path n_p0_path c_p0_path, .slice A_p0_used n_p0_used c_p0_used], .row A_p0_path n_p0_path c_p0_path 2 1 (ints p0_path), .row A_p0_used n_p0_used c_p0_used 4 1 (bools p0_used)]) W w' [.blk b_p0 162 [.slice A_p0_matrix n_p0_matrix c_p0_matrix, .func (.func f_p0_wanted) #[] k_p0_wanted.toArray, .slice A2_ n2_ c2_, .slice A3_ n3_ c3_], .row A2_ n2_ c2_ 2 1 (ints r.2.1), .row A3_ n3_ c3_ 4 1 (bools r.2.2)]
  | 0 => by intros; simp [impl_cycleSearch_goOn_rec] at *
  | k_ + 1 => impl_cycleSearch_goOn_step F k_ (impl_cycleSearch_goOn_rec_ok F k_)
theorem impl_cycleSearch_goOn_ok (F : Nat) : ∀ (b_p0 : Nat) (p0_matrix : List (List Int)) (A_p0_matrix : Option Addr) (n_p0_matrix c_p0_matrix : Nat) (_hn_p0_matrix : n_p0_matrix = p0_matrix.length) (m_p0_wanted : (List Int) → Int → Option Bool) (f_p0_wanted : FuncId) (k_p0_wanted : List Value) (p0_path : List Int) (A_p0_path : Option Addr) (n_p0_path c_p0_path : Nat) (_hn_p0_path : n_p0_path = p0_path.length) (p0_used : List Bool) (A_p0_used : Option Addr) (n_p0_used c_p0_used : Nat) (_hn_p0_used : n_p0_used = p0_used.length) (p1 : Int) (r : (Bool) × (List Int) × (List Bool)) (W : World) (_hm : impl_cycleSearch_goOn F p0_matrix m_p0_wanted p0_path p0_used p1 = some r) (_h_p0_matrix : KM (muL [.blk b_p0 162 [.slice A_p0_matrix n_p0_matrix c_p0_matrix, .func (.func f_p0_wanted) #[] k_p0_wanted.toArray, .slice A_p0_path n_p0_path c_p0_path, .slice A_p0_used n_p0_used c_p0_used], .row A_p0_path n_p0_path c_p0_path 2 1 (ints p0_path), .row A_p0_used n_p0_used c_p0_used 4 1 (bools p0_used)]) W A_p0_matrix p0_matrix) (_h_p0_wanted : ∀ (x0 : List Int) (Ax0_1 : Option Addr) (nx0_1 cx0_1 : Nat) (_hnx0_1 : nx0_1 = x0.length) (x1 : Int) (r : Bool) (w : World), m_p0_wanted x0 x1 = some r → BM (muL [.blk b_p0 162 [.slice A_p0_matrix n_p0_matrix c_p0_matrix, .func (.func f_p0_wanted) #[] k_p0_wanted.toArray, .slice A_p0_path n_p0_path c_p0_path, .slice A_p0_used n_p0_used c_p0_used], .row A_p0_path n_p0_path c_p0_path 2 1 (ints p0_path), .row A_p0_used n_p0_used c_p0_used 4 1 (bools p0_used)]) W w → Rd w Ax0_1 (ints x0) → Calls Try.prog f_p0_wanted (([.slice Ax0_1 nx0_1 cx0_1, .int .i64 x1] : List Value) ++ k_p0_wanted).toArray w fun e w' => ∃ v, e = .returned v ∧ v = .bool r ∧ St [] w w' []) (_e_p0_wanted : En Try.prog f_p0_wanted) (_hst : St (muL [.blk b_p0 162 [.slice A_p0_matrix n_p0_matrix c_p0_matrix, .func (.func f_p0_wanted) #[] k_p0_wanted.toArray, .slice A_p0_path n_p0_path c_p0_path, .slice A_p0_used n_p0_used c_p0_used], .row A_p0_path n_p0_path c_p0_path 2 1 (ints p0_path), .row A_p0_used n_p0_used c_p0_used 4 1 (bools p0_used)]) W W [.blk b_p0 162 [.slice A_p0_matrix n_p0_matrix c_p0_matrix, .func (.func f_p0_wanted) #[] k_p0_wanted.toArray, .slice A_p0_path n_p0_path c_p0_path, .slice A_p0_used n_p0_used c_p0_used], .row A_p0_path n_p0_path c_p0_path 2 1 (ints p0_path), .row A_p0_used n_p0_used c_p0_used 4 1 (bools p0_used)]), Calls Try.prog 156 [.pointer (some ⟨b_p0, 0, none⟩), .int .i64 p1].toArray W fun e w' => ∃ v, e = .returned v ∧ ∃ A2_, ∃ n2_, ∃ c2_, ∃ A3_, ∃ n3_, ∃ c3_, v = .bool r.1 ∧ n2_ = r.2.1.length ∧ n3_ = r.2.2.length ∧ St (muL [.blk b_p0 162 [.slice A_p0_matrix n_p0_matrix c_p0_matrix, .func (.func f_p0_wanted) #[] k_p0_wanted.toArray, .slice A_p0_path n_p0_path c_p0_path, .slice A_p0_used n_p0_used c_p0_used], .row A_p0_path n_p0_path c_p0_path 2 1 (ints p0_path), .row A_p0_used n_p0_used c_p0_used 4 1 (bools p0_used)]) W w' [.blk b_p0 162 [.slice A_p0_matrix n_p0_matrix c_p0_matrix, .func (.func f_p0_wanted) #[] k_p0_wanted.toArray, .slice A2_ n2_ c2_, .slice A3_ n3_ c3_], .row A2_ n2_ c2_ 2 1 (ints r.2.1), .row A3_ n3_ c3_ 4 1 (bools r.2.2)] := impl_cycleSearch_goOn_rec_ok F F

set_option maxRecDepth 100000 in
theorem impl_firstCycle_ok (F : Nat) (p0_a : List (List Int)) (A_p0_a_1 : Option Addr) (n_p0_a_1 c_p0_a_1 : Nat) (hn_p0_a_1 : n_p0_a_1 = p0_a.length) (m_p1_wanted : (List Int) → Int → Option Bool) (f_p1_wanted : FuncId) (k_p1_wanted : List Value) (r : List Int) (W : World) (hm : impl_firstCycle F p0_a m_p1_wanted = some r) (h_p0_a_1 : RdM W A_p0_a_1 p0_a) (h_p1_wanted : ∀ (x0 : List Int) (Ax0_1 : Option Addr) (nx0_1 cx0_1 : Nat) (_hnx0_1 : nx0_1 = x0.length) (x1 : Int) (r : Bool) (w : World), m_p1_wanted x0 x1 = some r → Below W.heap.size W w → Rd w Ax0_1 (ints x0) → Calls Try.prog f_p1_wanted (([.slice Ax0_1 nx0_1 cx0_1, .int .i64 x1] : List Value) ++ k_p1_wanted).toArray w fun e w' => ∃ v, e = .returned v ∧ v = .bool r ∧ St [] w w' []) (e_p1_wanted : En Try.prog f_p1_wanted) :
    Calls Try.prog 87 [.slice A_p0_a_1 n_p0_a_1 c_p0_a_1, .func (.func f_p1_wanted) #[] k_p1_wanted.toArray].toArray W fun e w' => ∃ v, e = .returned v ∧ ∃ A80, ∃ n81, ∃ c82, v = .slice A80 n81 c82 ∧ n81 = r.length ∧ St [] W w' [.row A80 n81 c82 2 1 (ints r)] := by
  subst hn_p0_a_1
  unfold impl_firstCycle at hm
  refine Calls.enter (N := 24) Try.func87 rfl rfl rfl (fun a hf => ?_)
  have hs := St.start W
  obtain ⟨w, hw_⟩ : ∃ w, w = W := ⟨W, rfl⟩
  clear hw_ w
  refine wpL_seq ?_
  refine wpL_region ?_
  refine sY hf hs rfl rfl rfl (Y_assign rfl rfl) ?_; clear hf; intro a hf
  refine wpO_nil ?_
  refine wpL_seq ?_
  refine wpL_seq ?_
  refine wpL_region ?_
  refine sY hf hs rfl rfl rfl (Y_move rfl rfl) ?_; clear hf; intro a hf
  refine sY hf hs rfl rfl rfl (Y_lenH rfl rfl el40 rfl) ?_; clear hf; intro a hf
  refine sY hf hs rfl rfl rfl (Y_move rfl rfl) ?_; clear hf; intro a hf
  refine wpO_nil ?_
  obtain ⟨r57, hl58, hm⟩ := bind_some hm
  refine wpL_block (fun a w => Sum.inr () = r57 ∧ Fr a 24 [] ∧ St [] W w []) ?_ ?_
  · refine wpL_loop (fun n a w => ∃ x38 : Int, impl_firstCycle_L1 F p0_a m_p1_wanted n x38 = some r57 ∧ Fr a 24 [(0, .slice A_p0_a_1 p0_a.length c_p0_a_1), (1, .func (.func f_p1_wanted) #[] k_p1_wanted.toArray), (8, .int .i64 (p0_a.length : Int)), (9, .int .i64 x38)] ∧ St [] W w []) F ?_ ?_ ?_
    · exact ⟨0, hl58, (FrD.pick (FrD.pick (FrD.pick (FrD.pick hf.none hf rfl) hf rfl) hf rfl) hf rfl), hs⟩
    · rintro a w ⟨x38, h0_, -, -⟩; simp [impl_firstCycle_L1] at h0_
    · rintro n60 a w ⟨x38, hm59, hf, hs⟩
      rw [impl_firstCycle_L1] at hm59
      refine wpL_seq ?_
      refine wpL_region ?_
      refine sY hf hs rfl rfl rfl (Y_lss rfl rfl rfl) ?_; clear hf; intro a hf
      refine wpO_nil ?_
      refine wpL_seq ?_
      refine wpL_cond hf rfl (fun hb61 => ?_) (fun hb61 => ?_)
      · have hm59 := bif_t hm59 hb61
        refine wpL_skip ?_
        refine wpL_seq ?_
        refine wpL_block0 ?_
        refine wpL_seq ?_
        refine wpL_region ?_
        refine sY hf hs rfl rfl rfl (Y_move rfl rfl) ?_; clear hf; intro a hf
        refine sY hf hs rfl rfl rfl (Y_assign rfl rfl) ?_; clear hf; intro a hf
        refine wpO_nil ?_
        refine wpL_seq ?_
        refine wpL_region ?_
        refine sY hf hs rfl rfl rfl (Y_move rfl rfl) ?_; clear hf; intro a hf
        refine sY hf hs rfl rfl rfl (Y_move rfl rfl) ?_; clear hf; intro a hf
        refine sY hf hs rfl rfl rfl (Y_move rfl rfl) ?_; clear hf; intro a hf
        refine sBuildSlice (parts := [(0, .tmp 14)]) (vs := [.int .i64 x38]) (cells := [.int .i64 x38]) hf hs rfl rfl rfl rfl rfl el28 ti2 rfl rfl rfl rfl ?_; clear hf hs; intro a w A62 hs hA63 hf
        have hs : St [] W w [.row A62 1 1 2 1 (ints ([x38]))] := hs
        refine sY hf hs rfl rfl rfl (Y_move rfl rfl) ?_; clear hf; intro a hf
        refine sY hf hs rfl rfl rfl (Y_lenH rfl rfl el40 rfl) ?_; clear hf; intro a hf
        obtain ⟨xs66, hk65, hm59⟩ := bind_some hm59
        refine sMakeL (enc := bools) hf hs rfl rfl rfl rfl rfl hk65 el160 ti4 rfl bools_made ?_; clear hf hs; intro a w A64 hs hf
        have hs : St [] W w [.row A62 1 1 2 1 (ints ([x38])), .row A64 xs66.length xs66.length 4 1 (bools xs66)] := hs
        refine sY hf hs rfl rfl rfl (Y_build (parts := [(0, .tmp 12), (1, .tmp 13), (2, .tmp 15), (3, .tmp 18)]) (vs := [.slice A_p0_a_1 p0_a.length c_p0_a_1, .func (.func f_p1_wanted) #[] k_p1_wanted.toArray, .slice A62 1 1, .slice A64 xs66.length xs66.length]) rfl rfl (run_build (parts := [(0, .slice A_p0_a_1 p0_a.length c_p0_a_1), (1, .func (.func f_p1_wanted) #[] k_p1_wanted.toArray), (2, .slice A62 1 1), (3, .slice A64 xs66.length xs66.length)]) (cells := [.slice A_p0_a_1 p0_a.length c_p0_a_1, .func (.func f_p1_wanted) #[] k_p1_wanted.toArray, .slice A62 1 1, .slice A64 xs66.length xs66.length]) (places := #[(0, 1), (1, 1), (2, 1), (3, 1)]) ti162 Try.underlying162 (fun w => by simp [go_sem]) rfl)) ?_; clear hf; intro a hf
        refine sAlloc hf hs rfl rfl rfl rfl ti162 ?_; clear hf hs; intro a w b67 hs hf
        have hs : St [] W w [.row A62 1 1 2 1 (ints ([x38])), .row A64 xs66.length xs66.length 4 1 (bools xs66), .blk b67 162 [.slice none 0 0, .nilFunc, .slice none 0 0, .slice none 0 0]] := hs
        refine sStore (i := 2) (us := [.slice A_p0_a_1 p0_a.length c_p0_a_1, .func (.func f_p1_wanted) #[] k_p1_wanted.toArray, .slice A62 1 1, .slice A64 xs66.length xs66.length]) hf hs rfl rfl rfl rfl rfl rfl ti162 rfl rfl rfl (Nat.le_of_ble_eq_true rfl) rfl ?_; clear hs; intro w hs
        have hs : St [] W w [.row A62 1 1 2 1 (ints ([x38])), .row A64 xs66.length xs66.length 4 1 (bools xs66), .blk b67 162 [.slice A_p0_a_1 p0_a.length c_p0_a_1, .func (.func f_p1_wanted) #[] k_p1_wanted.toArray, .slice A62 1 1, .slice A64 xs66.length xs66.length]] := hs
        refine wpO_nil ?_
        refine wpL_seq ?_
        refine wpL_region ?_
        obtain ⟨r68, hc69, hm59⟩ := bind_some hm59
        refine sCall hf rfl rfl rfl rfl (cap := []) rfl rfl en156 (impl_cycleSearch_goOn_ok F b67 p0_a A_p0_a_1 p0_a.length c_p0_a_1 rfl m_p1_wanted f_p1_wanted k_p1_wanted ([x38]) A62 1 1 rfl xs66 A64 xs66.length xs66.length rfl 0 _ _ hc69 (h_p0_a_1.pass hs [2, 0, 1]) (fun x0 A0_0 n0_0 c0_0 h0_0 x1 r w' hm_ hb r0_0 => h_p1_wanted x0 A0_0 n0_0 c0_0 h0_0 x1 r w' hm_ (hs.bmPass [2, 0, 1] hb).below r0_0) e_p1_wanted (hs.sel [2, 0, 1] (by decide)).rebase) ?_; clear hf
        rintro _ w ⟨A70, n71, c72, A74, n75, c76, rfl, hn73, hn77, hs1⟩ a hf
        have hs : St [] W w [.blk b67 162 [.slice A_p0_a_1 p0_a.length c_p0_a_1, .func (.func f_p1_wanted) #[] k_p1_wanted.toArray, .slice A70 n71 c72, .slice A74 n75 c76], .row A70 n71 c72 2 1 (ints r68.2.1), .row A74 n75 c76 4 1 (bools r68.2.2)] := St.mutTail (La := []) (Lb := [.blk b67 162 [.slice A_p0_a_1 p0_a.length c_p0_a_1, .func (.func f_p1_wanted) #[] k_p1_wanted.toArray, .slice A62 1 1, .slice A64 xs66.length xs66.length], .row A62 1 1 2 1 (ints ([x38])), .row A64 xs66.length xs66.length 4 1 (bools xs66)]) (hs.sel [2, 0, 1] (by decide)) hs1
        clear hs1
        refine wpO_nil ?_
        refine wpL_cond hf rfl (fun hb78 => ?_) (fun hb78 => ?_)
        · have hm59 := bif_t hm59 hb78
          refine wpL_seq ?_
          refine wpL_region ?_
          refine sY hf hs rfl rfl rfl (Y_fieldAddr rfl rfl fo162_2) ?_; clear hf; intro a hf
          refine sY hf hs rfl rfl rfl (Y_load_blk rfl rfl (i := 0) rfl rfl ag28) ?_; clear hf; intro a hf
          refine sY hf hs rfl rfl rfl (Y_assign rfl rfl) ?_; clear hf; intro a hf
          refine wpO_nil ?_
          obtain rfl := Option.some.inj hm59
          try dsimp only at hm
          obtain rfl := Option.some.inj hm
          refine wpL_ret (Qb_ret (Ql_ret (Qb_ret (ret_tmp rfl hf rfl ?_))))
          exact ⟨_, rfl, A70, n71, c72, rfl, hn73, hs.sel [1] (by decide)⟩
        · have hm59 := bif_f hm59 hb78
          refine wpL_skip ?_
          refine wpL_nil (Qb_normal ?_)
          refine wpL_region ?_
          refine sY hf hs rfl rfl rfl (Y_add rfl rfl rfl) ?_; clear hf; intro a hf
          refine sY hf hs rfl rfl rfl (Y_move rfl rfl) ?_; clear hf; intro a hf
          refine wpO_nil ?_
          refine wpL_nil (Ql_normal ?_)
          exact ⟨(IntKind.i64.wrap (x38 + 1)), hm59, (FrD.pick (FrD.pick (FrD.pick (FrD.pick hf.none hf rfl) hf rfl) hf rfl) hf rfl), hs.sel [] (by decide)⟩
      · have hm59 := bif_f hm59 hb61
        refine wpL_exit (Ql_exit (Qb_exit ?_))
        exact ⟨Option.some.inj hm59, hf.none, hs⟩
  · rintro a w ⟨hr_, hf, hs⟩
    subst hr_
    try dsimp only at hm
    refine wpL_seq ?_
    refine wpL_region ?_
    refine sY hf hs rfl rfl rfl (Y_assign rfl rfl) ?_; clear hf; intro a hf
    refine wpO_nil ?_
    have hs : St [] W _ [.row none 0 0 2 1 (ints ([] : List Int))] := hs.addNil 2 1
    obtain rfl := Option.some.inj hm
    refine wpL_ret (ret_tmp rfl hf rfl ?_)
    exact ⟨_, rfl, none, 0, 0, rfl, rfl, hs⟩

set_option maxRecDepth 100000 in
theorem impl_PositiveCycle_c1_ok (F : Nat) (p0 : List Int) (A_p0_1 : Option Addr) (n_p0_1 c_p0_1 : Nat) (hn_p0_1 : n_p0_1 = p0.length) (p1_weight : Int) (r : Bool) (W : World) (hm : impl_PositiveCycle_c1 F p0 p1_weight = some r) (_h_p0_1 : Rd W A_p0_1 (ints p0)) :
    Calls Try.prog 88 [.slice A_p0_1 n_p0_1 c_p0_1, .int .i64 p1_weight].toArray W fun e w' => ∃ v, e = .returned v ∧ v = .bool r ∧ St [] W w' [] := by
  subst hn_p0_1
  unfold impl_PositiveCycle_c1 at hm
  refine Calls.enter (N := 7) Try.func88 rfl rfl rfl (fun a hf => ?_)
  have hs := St.start W
  obtain ⟨w, hw_⟩ : ∃ w, w = W := ⟨W, rfl⟩
  clear hw_ w
  refine wpL_seq ?_
  refine wpL_region ?_
  refine sY hf hs rfl rfl rfl (Y_assign rfl rfl) ?_; clear hf; intro a hf
  refine wpO_nil ?_
  refine wpL_seq ?_
  refine wpL_region ?_
  refine sY hf hs rfl rfl rfl (Y_move rfl rfl) ?_; clear hf; intro a hf
  refine sY hf hs rfl rfl rfl (Y_gtr rfl rfl rfl) ?_; clear hf; intro a hf
  refine sY hf hs rfl rfl rfl (Y_assign rfl rfl) ?_; clear hf; intro a hf
  refine wpO_nil ?_
  obtain rfl := Option.some.inj hm
  refine wpL_ret (ret_tmp rfl hf rfl ?_)
  exact ⟨_, rfl, rfl, hs⟩

set_option maxRecDepth 100000 in
theorem impl_PositiveCycle_ok (F : Nat) (p0_a : List (List Int)) (A_p0_a_1 : Option Addr) (n_p0_a_1 c_p0_a_1 : Nat) (hn_p0_a_1 : n_p0_a_1 = p0_a.length) (r : List Int × Int) (W : World) (hm : impl_PositiveCycle F p0_a = some r) (h_p0_a_1 : RdM W A_p0_a_1 p0_a) :
    Calls Try.prog 29 [.slice A_p0_a_1 n_p0_a_1 c_p0_a_1].toArray W fun e w' => ∃ v, e = .returned v ∧ ∃ A20, ∃ n21, ∃ c22, v = .tuple #[.slice A20 n21 c22, .int .i64 r.2] ∧ n21 = r.1.length ∧ St [] W w' [.row A20 n21 c22 2 1 (ints r.1)] := by
  subst hn_p0_a_1
  unfold impl_PositiveCycle at hm
  refine Calls.enter (N := 17) Try.func29 rfl rfl rfl (fun a hf => ?_)
  have hs := St.start W
  obtain ⟨w, hw_⟩ : ∃ w, w = W := ⟨W, rfl⟩
  clear hw_ w
  refine wpL_seq ?_
  refine wpL_region ?_
  refine sY hf hs rfl rfl rfl (Y_assign rfl rfl) ?_; clear hf; intro a hf
  refine sY hf hs rfl rfl rfl (Y_assign rfl rfl) ?_; clear hf; intro a hf
  refine wpO_nil ?_
  refine wpL_seq ?_
  refine wpL_seq ?_
  refine wpL_region ?_
  refine sY hf hs rfl rfl rfl (Y_move rfl rfl) ?_; clear hf; intro a hf
  obtain ⟨r1, hc2, hm⟩ := bind_some hm
  refine sCall hf rfl rfl rfl rfl (cap := []) rfl rfl en79 (impl_isSquare_ok F p0_a A_p0_a_1 p0_a.length c_p0_a_1 rfl _ _ hc2 (h_p0_a_1.at hs)) ?_; clear hf
  rintro _ w ⟨rfl, hs1⟩ a hf
  have hs : St [] W w [] := hs.ext hs1.below
  clear hs1
  refine sY hf hs rfl rfl rfl (Y_not rfl rfl) ?_; clear hf; intro a hf
  refine wpO_nil ?_
  refine wpL_cond hf rfl (fun hb3 => ?_) (fun hb3 => ?_)
  · have hm := bif_t hm hb3
    refine wpL_seq ?_
    refine wpL_region ?_
    refine sY hf hs rfl rfl rfl (Y_assign rfl rfl) ?_; clear hf; intro a hf
    refine sY hf hs rfl rfl rfl (Y_assign rfl rfl) ?_; clear hf; intro a hf
    refine wpO_nil ?_
    have hs : St [] W _ [.row none 0 0 2 1 (ints ([] : List Int))] := hs.addNil 2 1
    obtain rfl := Option.some.inj hm
    refine wpL_ret (ret_tmp2 rfl hf rfl rfl ?_)
    exact ⟨_, rfl, none, 0, 0, rfl, rfl, hs⟩
  · have hm := bif_f hm hb3
    refine wpL_skip ?_
    refine wpL_seq ?_
    refine wpL_seq ?_
    refine wpL_region ?_
    refine sY hf hs rfl rfl rfl (Y_move rfl rfl) ?_; clear hf; intro a hf
    obtain ⟨r5, hc6, hm⟩ := bind_some hm
    refine sCall hf rfl rfl rfl rfl (cap := []) rfl rfl en80 (impl_starOf_ok F p0_a A_p0_a_1 p0_a.length c_p0_a_1 rfl _ _ hc6 (h_p0_a_1.at hs)) ?_; clear hf
    rintro _ w ⟨A7, n8, c9, vs11, rfl, hn10, hs1⟩ a hf
    have hs : St [] W w [.mat A7 n8 c9 28 2 vs11 r5.1] := hs.join hs1
    clear hs1
    refine sY hf hs rfl rfl rfl (Y_move rfl rfl) ?_; clear hf; intro a hf
    refine sY hf hs rfl rfl rfl (Y_extract rfl rfl rfl) ?_; clear hf; intro a hf
    refine sY hf hs rfl rfl rfl (Y_extract rfl rfl rfl) ?_; clear hf; intro a hf
    refine sY hf hs rfl rfl rfl (Y_assign rfl rfl) ?_; clear hf; intro a hf
    refine sY hf hs rfl rfl rfl (Y_assign rfl rfl) ?_; clear hf; intro a hf
    refine wpO_nil ?_
    refine wpL_seq ?_
    refine wpL_region ?_
    refine sY hf hs rfl rfl rfl (Y_move rfl rfl) ?_; clear hf; intro a hf
    refine wpO_nil ?_
    refine wpL_cond hf rfl (fun hb12 => ?_) (fun hb12 => ?_)
    · have hm := bif_t hm hb12
      refine wpL_seq ?_
      refine wpL_region ?_
      refine sY hf hs rfl rfl rfl (Y_assign rfl rfl) ?_; clear hf; intro a hf
      refine sY hf hs rfl rfl rfl (Y_assign rfl rfl) ?_; clear hf; intro a hf
      refine wpO_nil ?_
      have hs : St [] W _ [.mat A7 n8 c9 28 2 vs11 r5.1, .row none 0 0 2 1 (ints ([] : List Int))] := hs.addNil 2 1
      obtain rfl := Option.some.inj hm
      refine wpL_ret (ret_tmp2 rfl hf rfl rfl ?_)
      exact ⟨_, rfl, none, 0, 0, rfl, rfl, hs.sel [1] (by decide)⟩
    · have hm := bif_f hm hb12
      refine wpL_skip ?_
      refine wpL_seq ?_
      refine wpL_region ?_
      refine sY hf hs rfl rfl rfl (Y_move rfl rfl) ?_; clear hf; intro a hf
      obtain ⟨r14, hc15, hm⟩ := bind_some hm
      refine sCall hf rfl rfl rfl rfl (cap := []) rfl rfl en87 (impl_firstCycle_ok F p0_a A_p0_a_1 p0_a.length c_p0_a_1 rfl (fun x0 x1 => impl_PositiveCycle_c1 F x0 x1) 88 [] _ _ hc15 (h_p0_a_1.at hs) (fun x0 Ax00 nx00 cx00 hx00 x1 r w' hm_ hb rx00 => impl_PositiveCycle_c1_ok F x0 Ax00 nx00 cx00 hx00 x1 r w' hm_ rx00) en88) ?_; clear hf
      rintro _ w ⟨A16, n17, c18, rfl, hn19, hs1⟩ a hf
      have hs : St [] W w [.mat A7 n8 c9 28 2 vs11 r5.1, .row A16 n17 c18 2 1 (ints r14)] := hs.join hs1
      clear hs1
      refine sY hf hs rfl rfl rfl (Y_assign rfl rfl) ?_; clear hf; intro a hf
      refine sY hf hs rfl rfl rfl (Y_assign rfl rfl) ?_; clear hf; intro a hf
      refine wpO_nil ?_
      obtain rfl := Option.some.inj hm
      refine wpL_ret (ret_tmp2 rfl hf rfl rfl ?_)
      exact ⟨_, rfl, A16, n17, c18, rfl, hn19, hs.sel [1] (by decide)⟩

set_option maxRecDepth 100000 in
theorem spec_l01Has_ok (F : Nat) (p0_list : List Int) (A_p0_list_1 : Option Addr) (n_p0_list_1 c_p0_list_1 : Nat) (hn_p0_list_1 : n_p0_list_1 = p0_list.length) (p1_x : Int) (r : Bool) (W : World) (hm : spec_l01Has F p0_list p1_x = some r) (h_p0_list_1 : Rd W A_p0_list_1 (ints p0_list)) :
    Calls Try.prog 166 [.slice A_p0_list_1 n_p0_list_1 c_p0_list_1, .int .i64 p1_x].toArray W fun e w' => ∃ v, e = .returned v ∧ v = .bool r ∧ St [] W w' [] := by
  subst hn_p0_list_1
  unfold spec_l01Has at hm
  refine Calls.enter (N := 18) Try.func166 rfl rfl rfl (fun a hf => ?_)
  have hs := St.start W
  obtain ⟨w, hw_⟩ : ∃ w, w = W := ⟨W, rfl⟩
  clear hw_ w
  refine wpL_seq ?_
  refine wpL_region ?_
  refine sY hf hs rfl rfl rfl (Y_assign rfl rfl) ?_; clear hf; intro a hf
  refine wpO_nil ?_
  refine wpL_seq ?_
  refine wpL_seq ?_
  refine wpL_region ?_
  refine sY hf hs rfl rfl rfl (Y_assign rfl rfl) ?_; clear hf; intro a hf
  refine wpO_nil ?_
  obtain ⟨r15, hl16, hm⟩ := bind_some hm
  refine wpL_block (fun a w => Sum.inr () = r15 ∧ Fr a 18 [] ∧ St [] W w []) ?_ ?_
  · refine wpL_loop (fun n a w => ∃ x10 : Int, spec_l01Has_L1 F p0_list p1_x n x10 = some r15 ∧ Fr a 18 [(0, .slice A_p0_list_1 p0_list.length c_p0_list_1), (1, .int .i64 p1_x), (5, .int .i64 x10)] ∧ St [] W w []) F ?_ ?_ ?_
    · exact ⟨0, hl16, (FrD.pick (FrD.pick (FrD.pick hf.none hf rfl) hf rfl) hf rfl), hs⟩
    · rintro a w ⟨x10, h0_, -, -⟩; simp [spec_l01Has_L1] at h0_
    · rintro n18 a w ⟨x10, hm17, hf, hs⟩
      rw [spec_l01Has_L1] at hm17
      refine wpL_seq ?_
      refine wpL_seq ?_
      refine wpL_region ?_
      refine sY hf hs rfl rfl rfl (Y_move rfl rfl) ?_; clear hf; intro a hf
      refine sY hf hs rfl rfl rfl (Y_move rfl rfl) ?_; clear hf; intro a hf
      refine sY hf hs rfl rfl rfl (Y_lenH rfl rfl el28 rfl) ?_; clear hf; intro a hf
      refine sY hf hs rfl rfl rfl (Y_lss rfl rfl rfl) ?_; clear hf; intro a hf
      refine wpO_nil ?_
      refine wpL_cond hf rfl (fun hb19 => ?_) (fun hb19 => ?_)
      · have hm17 := bif_t hm17 hb19
        refine wpL_skip ?_
        refine wpL_seq ?_
        refine wpL_block0 ?_
        refine wpL_seq ?_
        refine wpL_region ?_
        refine sY hf hs rfl rfl rfl (Y_move rfl rfl) ?_; clear hf; intro a hf
        refine sY hf hs rfl rfl rfl (Y_move rfl rfl) ?_; clear hf; intro a hf
        obtain ⟨q20, hi21, hm17⟩ := bind_some hm17
        obtain ⟨hi21a, hi21b, hi21q⟩ := idx_some hi21
        refine sY hf hs rfl rfl rfl (Y_index rfl rfl rfl el28 ti2 (Rd.isAt (h_p0_list_1.at hs) (at1 (ints_at hi21q))) hi21a hi21b) ?_; clear hf; intro a hf
        refine sY hf hs rfl rfl rfl (Y_load_rd rfl rfl (fun w hs => h_p0_list_1.at hs) (at1 (ints_at hi21q)) ag2) ?_; clear hf; intro a hf
        refine sY hf hs rfl rfl rfl (Y_move rfl rfl) ?_; clear hf; intro a hf
        refine sY hf hs rfl rfl rfl (Y_eql rfl rfl rfl) ?_; clear hf; intro a hf
        refine wpO_nil ?_
        refine wpL_cond hf rfl (fun hb22 => ?_) (fun hb22 => ?_)
        · have hm17 := bif_t hm17 hb22
          refine wpL_seq ?_
          refine wpL_region ?_
          refine sY hf hs rfl rfl rfl (Y_assign rfl rfl) ?_; clear hf; intro a hf
          refine wpO_nil ?_
          obtain rfl := Option.some.inj hm17
          try dsimp only at hm
          obtain rfl := Option.some.inj hm
          refine wpL_ret (Qb_ret (Ql_ret (Qb_ret (ret_tmp rfl hf rfl ?_))))
          exact ⟨_, rfl, rfl, hs⟩
        · have hm17 := bif_f hm17 hb22
          refine wpL_skip ?_
          refine wpL_nil (Qb_normal ?_)
          refine wpL_region ?_
          refine sY hf hs rfl rfl rfl (Y_move rfl rfl) ?_; clear hf; intro a hf
          refine sY hf hs rfl rfl rfl (Y_add rfl rfl rfl) ?_; clear hf; intro a hf
          refine sY hf hs rfl rfl rfl (Y_assign rfl rfl) ?_; clear hf; intro a hf
          refine wpO_nil ?_
          refine wpL_nil (Ql_normal ?_)
          exact ⟨(IntKind.i64.wrap (x10 + 1)), hm17, (FrD.pick (FrD.pick (FrD.pick hf.none hf rfl) hf rfl) hf rfl), hs⟩
      · have hm17 := bif_f hm17 hb19
        refine wpL_exit (Ql_exit (Qb_exit ?_))
        exact ⟨Option.some.inj hm17, hf.none, hs⟩
  · rintro a w ⟨hr_, hf, hs⟩
    subst hr_
    try dsimp only at hm
    refine wpL_seq ?_
    refine wpL_region ?_
    refine sY hf hs rfl rfl rfl (Y_assign rfl rfl) ?_; clear hf; intro a hf
    refine wpO_nil ?_
    obtain rfl := Option.some.inj hm
    refine wpL_ret (ret_tmp rfl hf rfl ?_)
    exact ⟨_, rfl, rfl, hs⟩

set_option maxHeartbeats 2000000 in
set_option maxRecDepth 100000 in
theorem spec_l03Grow_step (F k_ : Nat) (ih_ : ∀ (p0 : List (List Int)) (A_p0_1 : Option Addr) (n_p0_1 c_p0_1 : Nat) (_hn_p0_1 : n_p0_1 = p0.length) (p1 : List Int) (A_p1_1 : Option Addr) (n_p1_1 c_p1_1 : Nat) (_hn_p1_1 : n_p1_1 = p1.length) (p2 : Int) (p3 : Int) (r : List Int) (W : World) (_hm : spec_l03Grow_rec F k_ p0 p1 p2 p3 = some r) (_h_p0_1 : RdM W A_p0_1 p0) (_h_p1_1 : Rd W A_p1_1 (ints p1)), Calls Try.prog 157 [.slice A_p0_1 n_p0_1 c_p0_1, .slice A_p1_1 n_p1_1 c_p1_1, .int .i64 p2, .int .i64 p3].toArray W fun e w' => ∃ v, e = .returned v ∧ ∃ A1851, ∃ n1852, ∃ c1853, ∃ A1854, ∃ n1855, ∃ c1856, ∃ ys1857, v = .slice A1851 n1852 c1853 ∧ n1852 = r.length ∧ Ei A_p1_1 n_p1_1 c_p1_1 p1 A1854 n1855 c1856 ys1857 A1851 n1852 c1853 r ∧ St [] W w' [.row A1854 n1855 c1856 2 1 (ints ys1857)]) (p0 : List (List Int)) (A_p0_1 : Option Addr) (n_p0_1 c_p0_1 : Nat) (hn_p0_1 : n_p0_1 = p0.length) (p1 : List Int) (A_p1_1 : Option Addr) (n_p1_1 c_p1_1 : Nat) (hn_p1_1 : n_p1_1 = p1.length) (p2 : Int) (p3 : Int) (r : List Int) (W : World) (hm : spec_l03Grow_rec F (k_ + 1) p0 p1 p2 p3 = some r) (h_p0_1 : RdM W A_p0_1 p0) (h_p1_1 : Rd W A_p1_1 (ints p1)) :
    Calls Try.prog 157 [.slice A_p0_1 n_p0_1 c_p0_1, .slice A_p1_1 n_p1_1 c_p1_1, .int .i64 p2, .int .i64 p3].toArray W fun e w' => ∃ v, e = .returned v ∧ ∃ A1851, ∃ n1852, ∃ c1853, ∃ A1854, ∃ n1855, ∃ c1856, ∃ ys1857, v = .slice A1851 n1852 c1853 ∧ n1852 = r.length ∧ Ei A_p1_1 n_p1_1 c_p1_1 p1 A1854 n1855 c1856 ys1857 A1851 n1852 c1853 r ∧ St [] W w' [.row A1854 n1855 c1856 2 1 (ints ys1857)] := by
  subst hn_p0_1
  subst hn_p1_1
  unfold spec_l03Grow_rec at hm
  refine Calls.enter (N := 86) Try.func157 rfl rfl rfl (fun a hf => ?_)
  have hs := St.start W
  obtain ⟨w, hw_⟩ : ∃ w, w = W := ⟨W, rfl⟩
  clear hw_ w
  refine wpL_seq ?_
  refine wpL_region ?_
  refine sY hf hs rfl rfl rfl (Y_assign rfl rfl) ?_; clear hf; intro a hf
  refine wpO_nil ?_
  refine wpL_seq ?_
  refine wpL_draw (by kernel_rfl) (by kernel_rfl) hs ?_
  refine qY hf rfl rfl rfl (Y_move rfl rfl) ?_; clear hf; intro a hf
  obtain ⟨q1, hi2, hm⟩ := bind_some hm
  obtain ⟨hi2a, hi2b, hi2q⟩ := idx_some hi2
  refine qY hf rfl rfl rfl (Y_index rfl rfl rfl el28 ti2 (Rd.isAt (h_p1_1.at hs) (at1 (ints_at hi2q))) hi2a hi2b) ?_; clear hf; intro a hf
  refine qY hf rfl rfl rfl (Y_load_rd rfl rfl (fun w hs => h_p1_1.at hs) (at1 (ints_at hi2q)) ag2) ?_; clear hf; intro a hf
  refine qY hf rfl rfl rfl (Y_move rfl rfl) ?_; clear hf; intro a hf
  refine qY hf rfl rfl rfl (Y_move rfl rfl) ?_; clear hf; intro a hf
  refine qY hf rfl rfl rfl (Y_lenH rfl rfl el28 rfl) ?_; clear hf; intro a hf
  refine qY hf rfl rfl rfl (Y_sub rfl rfl rfl) ?_; clear hf; intro a hf
  obtain ⟨q3, hi4, hm⟩ := bind_some hm
  obtain ⟨hi4a, hi4b, hi4q⟩ := idx_some hi4
  refine qY hf rfl rfl rfl (Y_index rfl rfl rfl el28 ti2 (Rd.isAt (h_p1_1.at hs) (at1 (ints_at hi4q))) hi4a hi4b) ?_; clear hf; intro a hf
  refine qY hf rfl rfl rfl (Y_load_rd rfl rfl (fun w hs => h_p1_1.at hs) (at1 (ints_at hi4q)) ag2) ?_; clear hf; intro a hf
  refine qY hf rfl rfl rfl (Y_assign rfl rfl) ?_; clear hf; intro a hf
  refine qY hf rfl rfl rfl (Y_assign rfl rfl) ?_; clear hf; intro a hf
  refine qNil ?_; clear hs; intro w hs
  refine wpL_seq ?_
  refine wpL_seq ?_
  obtain ⟨r29, hj30, hm⟩ := bind_some hm
  refine wpL_cut (fun a w => ∃ b28 : Bool, b28 = r29 ∧ Fr a 86 [(0, .slice A_p0_1 p0.length c_p0_1), (1, .slice A_p1_1 p1.length c_p1_1), (2, .int .i64 p2), (3, .int .i64 p3), (9, .int .i64 q1), (10, .int .i64 q3), (42, .bool b28)] ∧ St [] W w []) ?_ ?_
  · refine wpL_region ?_
    refine sY hf hs rfl rfl rfl (Y_move rfl rfl) ?_; clear hf; intro a hf
    refine sY hf hs rfl rfl rfl (Y_move rfl rfl) ?_; clear hf; intro a hf
    obtain ⟨q31, hi32, hj30⟩ := bind_some hj30
    obtain ⟨hi32a, hi32b, hi32q⟩ := idx_some hi32
    obtain ⟨vs33, hv34, hr35⟩ := id h_p0_1
    obtain ⟨A36, c37, hv38, hR39⟩ := hr35 _ _ hi32q
    refine sY hf hs rfl rfl rfl (Y_index rfl rfl rfl el40 ti28 (Rd.isAt hv34 hv38) hi32a hi32b) ?_; clear hf; intro a hf
    refine sY hf hs rfl rfl rfl (Y_load_rd rfl rfl (fun w hs => hv34.at hs) (at1 hv38) ag28) ?_; clear hf; intro a hf
    refine sY hf hs rfl rfl rfl (Y_move rfl rfl) ?_; clear hf; intro a hf
    obtain ⟨q40, hi41, hj30⟩ := bind_some hj30
    obtain ⟨hi41a, hi41b, hi41q⟩ := idx_some hi41
    refine sY hf hs rfl rfl rfl (Y_index rfl rfl rfl el28 ti2 (Rd.isAt (hR39.at hs) (at1 (ints_at hi41q))) hi41a hi41b) ?_; clear hf; intro a hf
    refine sY hf hs rfl rfl rfl (Y_load_rd rfl rfl (fun w hs => hR39.at hs) (at1 (ints_at hi41q)) ag2) ?_; clear hf; intro a hf
    refine sY hf hs rfl rfl rfl (Y_neq rfl rfl rfl) ?_; clear hf; intro a hf
    refine sY hf hs rfl rfl rfl (Y_move rfl rfl) ?_; clear hf; intro a hf
    refine bsplit (q40 != (-1000000000000000)) (fun hb42 => ?_) (fun hb42 => ?_)
    · have hj30 := bif_t hj30 hb42
      refine sYg hf hs rfl rfl rfl (congrArg (fun b => some (Value.bool b)) hb42) rfl rfl rfl (Y_move rfl rfl) ?_; clear hf; intro a hf
      refine sYg hf hs rfl rfl rfl (congrArg (fun b => some (Value.bool b)) hb42) rfl rfl rfl (Y_move rfl rfl) ?_; clear hf; intro a hf
      refine sYg hf hs rfl rfl rfl (congrArg (fun b => some (Value.bool b)) hb42) rfl rfl rfl (Y_move rfl rfl) ?_; clear hf; intro a hf
      obtain ⟨q43, hi44, hj30⟩ := bind_some hj30
      obtain ⟨hi44a, hi44b, hi44q⟩ := idx_some hi44
      obtain ⟨vs45, hv46, hr47⟩ := id h_p0_1
      obtain ⟨A48, c49, hv50, hR51⟩ := hr47 _ _ hi44q
      refine sYg hf hs rfl rfl rfl (congrArg (fun b => some (Value.bool b)) hb42) rfl rfl rfl (Y_index rfl rfl rfl el40 ti28 (Rd.isAt hv46 hv50) hi44a hi44b) ?_; clear hf; intro a hf
      refine sYg hf hs rfl rfl rfl (congrArg (fun b => some (Value.bool b)) hb42) rfl rfl rfl (Y_load_rd rfl rfl (fun w hs => hv46.at hs) (at1 hv50) ag28) ?_; clear hf; intro a hf
      refine sYg hf hs rfl rfl rfl (congrArg (fun b => some (Value.bool b)) hb42) rfl rfl rfl (Y_move rfl rfl) ?_; clear hf; intro a hf
      obtain ⟨q52, hi53, hj30⟩ := bind_some hj30
      obtain ⟨hi53a, hi53b, hi53q⟩ := idx_some hi53
      refine sYg hf hs rfl rfl rfl (congrArg (fun b => some (Value.bool b)) hb42) rfl rfl rfl (Y_index rfl rfl rfl el28 ti2 (Rd.isAt (hR51.at hs) (at1 (ints_at hi53q))) hi53a hi53b) ?_; clear hf; intro a hf
      refine sYg hf hs rfl rfl rfl (congrArg (fun b => some (Value.bool b)) hb42) rfl rfl rfl (Y_load_rd rfl rfl (fun w hs => hR51.at hs) (at1 (ints_at hi53q)) ag2) ?_; clear hf; intro a hf
      refine sYg hf hs rfl rfl rfl (congrArg (fun b => some (Value.bool b)) hb42) rfl rfl rfl (Y_add rfl rfl rfl) ?_; clear hf; intro a hf
      refine sYg hf hs rfl rfl rfl (congrArg (fun b => some (Value.bool b)) hb42) rfl rfl rfl (Y_move rfl rfl) ?_; clear hf; intro a hf
      refine sYg hf hs rfl rfl rfl (congrArg (fun b => some (Value.bool b)) hb42) rfl rfl rfl (Y_gtr rfl rfl rfl) ?_; clear hf; intro a hf
      refine sY hf hs rfl rfl rfl (Y_pickT rfl (congrArg (fun b => some (Value.bool b)) hb42) rfl) ?_; clear hf; intro a hf
      refine wpO_nil ?_
      refine wpL_nil (then_normal ?_)
      exact ⟨(decide (p3 < (IntKind.i64.wrap (p2 + q52)))), Option.some.inj hj30, (FrD.pick (FrD.pick (FrD.pick (FrD.pick (FrD.pick (FrD.pick (FrD.pick hf.none hf rfl) hf rfl) hf rfl) hf rfl) hf rfl) hf rfl) hf rfl), hs⟩
    · have hj30 := bif_f hj30 hb42
      refine sNo hf rfl rfl rfl (congrArg (fun b => some (Value.bool b)) hb42) rfl rfl rfl ?_; clear hf; intro a hf
      refine sNo hf rfl rfl rfl (congrArg (fun b => some (Value.bool b)) hb42) rfl rfl rfl ?_; clear hf; intro a hf
      refine sNo hf rfl rfl rfl (congrArg (fun b => some (Value.bool b)) hb42) rfl rfl rfl ?_; clear hf; intro a hf
      refine sNo hf rfl rfl rfl (congrArg (fun b => some (Value.bool b)) hb42) rfl rfl rfl ?_; clear hf; intro a hf
      refine sNo hf rfl rfl rfl (congrArg (fun b => some (Value.bool b)) hb42) rfl rfl rfl ?_; clear hf; intro a hf
      refine sNo hf rfl rfl rfl (congrArg (fun b => some (Value.bool b)) hb42) rfl rfl rfl ?_; clear hf; intro a hf
      refine sNo hf rfl rfl rfl (congrArg (fun b => some (Value.bool b)) hb42) rfl rfl rfl ?_; clear hf; intro a hf
      refine sNo hf rfl rfl rfl (congrArg (fun b => some (Value.bool b)) hb42) rfl rfl rfl ?_; clear hf; intro a hf
      refine sNo hf rfl rfl rfl (congrArg (fun b => some (Value.bool b)) hb42) rfl rfl rfl ?_; clear hf; intro a hf
      refine sNo hf rfl rfl rfl (congrArg (fun b => some (Value.bool b)) hb42) rfl rfl rfl ?_; clear hf; intro a hf
      refine sNo hf rfl rfl rfl (congrArg (fun b => some (Value.bool b)) hb42) rfl rfl rfl ?_; clear hf; intro a hf
      refine sY hf hs rfl rfl rfl (Y_pickF rfl (congrArg (fun b => some (Value.bool b)) hb42) rfl) ?_; clear hf; intro a hf
      refine wpO_nil ?_
      refine wpL_nil (then_normal ?_)
      exact ⟨false, Option.some.inj hj30, (FrD.pick (FrD.pick (FrD.pick (FrD.pick (FrD.pick (FrD.pick (FrD.pick hf.none hf rfl) hf rfl) hf rfl) hf rfl) hf rfl) hf rfl) hf rfl), hs⟩
  · rintro a w ⟨b28, hr_, hf, hs⟩
    subst hr_
    try dsimp only at hm
    refine wpL_cond hf rfl (fun hb54 => ?_) (fun hb54 => ?_)
    · have hm := bif_t hm hb54
      refine wpL_seq ?_
      refine wpL_region ?_
      refine sY hf hs rfl rfl rfl (Y_move rfl rfl) ?_; clear hf; intro a hf
      refine sY hf hs rfl rfl rfl (Y_assign rfl rfl) ?_; clear hf; intro a hf
      refine wpO_nil ?_
      have hs : St [] W _ [.row none 0 0 2 1 (ints ([] : List Int))] := hs.addNil 2 1
      obtain rfl := Option.some.inj hm
      refine wpL_ret (ret_tmp rfl hf rfl ?_)
      exact ⟨_, rfl, A_p1_1, p1.length, c_p1_1, none, 0, 0, ([] : List Int), rfl, rfl, .inl ⟨rfl, rfl, rfl, rfl⟩, hs⟩
    · have hm := bif_f hm hb54
      refine wpL_skip ?_
      refine wpL_seq ?_
      refine wpL_seq ?_
      refine wpL_region ?_
      refine sY hf hs rfl rfl rfl (Y_move rfl rfl) ?_; clear hf; intro a hf
      refine sY hf hs rfl rfl rfl (Y_add rfl rfl rfl) ?_; clear hf; intro a hf
      refine sY hf hs rfl rfl rfl (Y_assign rfl rfl) ?_; clear hf; intro a hf
      refine wpO_nil ?_
      obtain ⟨r1399, hl1400, hm⟩ := bind_some hm
      refine wpL_block (fun a w => Sum.inr () = r1399 ∧ Fr a 86 [] ∧ St [] W w []) ?_ ?_
      · refine wpL_loop (fun n a w => ∃ x951 : Int, spec_l03Grow_L1 F p0 p1 p2 p3 q3 (spec_l03Grow_rec F k_) n x951 = some r1399 ∧ Fr a 86 [(0, .slice A_p0_1 p0.length c_p0_1), (1, .slice A_p1_1 p1.length c_p1_1), (2, .int .i64 p2), (3, .int .i64 p3), (10, .int .i64 q3), (11, .int .i64 x951)] ∧ St [] W w []) F ?_ ?_ ?_
        · exact ⟨(IntKind.i64.wrap (q1 + 1)), hl1400, (FrD.pick (FrD.pick (FrD.pick (FrD.pick (FrD.pick (FrD.pick hf.none hf rfl) hf rfl) hf rfl) hf rfl) hf rfl) hf rfl), hs⟩
        · rintro a w ⟨x951, h0_, -, -⟩; simp [spec_l03Grow_L1] at h0_
        · rintro n1402 a w ⟨x951, hm1401, hf, hs⟩
          rw [spec_l03Grow_L1] at hm1401
          refine wpL_seq ?_
          refine wpL_seq ?_
          refine wpL_region ?_
          refine sY hf hs rfl rfl rfl (Y_move rfl rfl) ?_; clear hf; intro a hf
          refine sY hf hs rfl rfl rfl (Y_move rfl rfl) ?_; clear hf; intro a hf
          refine sY hf hs rfl rfl rfl (Y_lenH rfl rfl el40 rfl) ?_; clear hf; intro a hf
          refine sY hf hs rfl rfl rfl (Y_lss rfl rfl rfl) ?_; clear hf; intro a hf
          refine wpO_nil ?_
          refine wpL_cond hf rfl (fun hb1403 => ?_) (fun hb1403 => ?_)
          · have hm1401 := bif_t hm1401 hb1403
            refine wpL_skip ?_
            refine wpL_seq ?_
            obtain ⟨r1626, hj1627, hm1401⟩ := bind_some hm1401
            refine wpL_block (fun a w => Sum.inr () = r1626 ∧ Fr a 86 [(0, .slice A_p0_1 p0.length c_p0_1), (1, .slice A_p1_1 p1.length c_p1_1), (2, .int .i64 p2), (3, .int .i64 p3), (10, .int .i64 q3), (11, .int .i64 x951)] ∧ St [] W w []) ?_ ?_
            · refine wpL_seq ?_
              refine wpL_seq ?_
              obtain ⟨r1643, hj1644, hj1627⟩ := bind_some hj1627
              refine wpL_cut (fun a w => ∃ b1642 : Bool, b1642 = r1643 ∧ Fr a 86 [(0, .slice A_p0_1 p0.length c_p0_1), (1, .slice A_p1_1 p1.length c_p1_1), (2, .int .i64 p2), (3, .int .i64 p3), (10, .int .i64 q3), (11, .int .i64 x951), (64, .bool b1642)] ∧ St [] W w []) ?_ ?_
              · refine wpL_region ?_
                refine sY hf hs rfl rfl rfl (Y_move rfl rfl) ?_; clear hf; intro a hf
                refine sY hf hs rfl rfl rfl (Y_move rfl rfl) ?_; clear hf; intro a hf
                obtain ⟨q1645, hi1646, hj1644⟩ := bind_some hj1644
                obtain ⟨hi1646a, hi1646b, hi1646q⟩ := idx_some hi1646
                obtain ⟨vs1647, hv1648, hr1649⟩ := id h_p0_1
                obtain ⟨A1650, c1651, hv1652, hR1653⟩ := hr1649 _ _ hi1646q
                refine sY hf hs rfl rfl rfl (Y_index rfl rfl rfl el40 ti28 (Rd.isAt hv1648 hv1652) hi1646a hi1646b) ?_; clear hf; intro a hf
                refine sY hf hs rfl rfl rfl (Y_load_rd rfl rfl (fun w hs => hv1648.at hs) (at1 hv1652) ag28) ?_; clear hf; intro a hf
                refine sY hf hs rfl rfl rfl (Y_move rfl rfl) ?_; clear hf; intro a hf
                obtain ⟨q1654, hi1655, hj1644⟩ := bind_some hj1644
                obtain ⟨hi1655a, hi1655b, hi1655q⟩ := idx_some hi1655
                refine sY hf hs rfl rfl rfl (Y_index rfl rfl rfl el28 ti2 (Rd.isAt (hR1653.at hs) (at1 (ints_at hi1655q))) hi1655a hi1655b) ?_; clear hf; intro a hf
                refine sY hf hs rfl rfl rfl (Y_load_rd rfl rfl (fun w hs => hR1653.at hs) (at1 (ints_at hi1655q)) ag2) ?_; clear hf; intro a hf
                refine sY hf hs rfl rfl rfl (Y_eql rfl rfl rfl) ?_; clear hf; intro a hf
                refine sY hf hs rfl rfl rfl (Y_move rfl rfl) ?_; clear hf; intro a hf
                refine bsplit (q1654 == (-1000000000000000)) (fun hb1656 => ?_) (fun hb1656 => ?_)
                · have hj1644 := bif_t hj1644 hb1656
                  refine sNo hf rfl rfl rfl (congrArg (fun b => some (Value.bool b)) hb1656) rfl rfl rfl ?_; clear hf; intro a hf
                  refine sNo hf rfl rfl rfl (congrArg (fun b => some (Value.bool b)) hb1656) rfl rfl rfl ?_; clear hf; intro a hf
                  refine sNo hf rfl rfl rfl (congrArg (fun b => some (Value.bool b)) hb1656) rfl rfl rfl ?_; clear hf; intro a hf
                  refine sY hf hs rfl rfl rfl (Y_pickT rfl (congrArg (fun b => some (Value.bool b)) hb1656) rfl) ?_; clear hf; intro a hf
                  refine wpO_nil ?_
                  refine wpL_nil (then_normal ?_)
                  exact ⟨true, Option.some.inj hj1644, (FrD.pick (FrD.pick (FrD.pick (FrD.pick (FrD.pick (FrD.pick (FrD.pick hf.none hf rfl) hf rfl) hf rfl) hf rfl) hf rfl) hf rfl) hf rfl), hs⟩
                · have hj1644 := bif_f hj1644 hb1656
                  refine sYg hf hs rfl rfl rfl (congrArg (fun b => some (Value.bool b)) hb1656) rfl rfl rfl (Y_move rfl rfl) ?_; clear hf; intro a hf
                  refine sYg hf hs rfl rfl rfl (congrArg (fun b => some (Value.bool b)) hb1656) rfl rfl rfl (Y_move rfl rfl) ?_; clear hf; intro a hf
                  obtain ⟨r1657, hc1658, hj1644⟩ := bind_some hj1644
                  refine sCallg hf rfl rfl rfl (congrArg (fun b => some (Value.bool b)) hb1656) rfl rfl rfl rfl (cap := []) rfl rfl en166 (spec_l01Has_ok F p1 A_p1_1 p1.length c_p1_1 rfl x951 _ _ hc1658 (h_p1_1.at hs)) ?_; clear hf
                  rintro _ w ⟨rfl, hs1⟩ a hf
                  have hs : St [] W w [] := hs.ext hs1.below
                  clear hs1
                  refine sY hf hs rfl rfl rfl (Y_pickF rfl (congrArg (fun b => some (Value.bool b)) hb1656) rfl) ?_; clear hf; intro a hf
                  refine wpO_nil ?_
                  refine wpL_nil (then_normal ?_)
                  exact ⟨r1657, Option.some.inj hj1644, (FrD.pick (FrD.pick (FrD.pick (FrD.pick (FrD.pick (FrD.pick (FrD.pick hf.none hf rfl) hf rfl) hf rfl) hf rfl) hf rfl) hf rfl) hf rfl), hs⟩
              · rintro a w ⟨b1642, hr_, hf, hs⟩
                subst hr_
                try dsimp only at hj1627
                refine wpL_cond hf rfl (fun hb1659 => ?_) (fun hb1659 => ?_)
                · have hj1627 := bif_t hj1627 hb1659
                  refine wpL_exit (Qb_exit ?_)
                  exact ⟨Option.some.inj hj1627, (FrD.pick (FrD.pick (FrD.pick (FrD.pick (FrD.pick (FrD.pick hf.none hf rfl) hf rfl) hf rfl) hf rfl) hf rfl) hf rfl), hs⟩
                · have hj1627 := bif_f hj1627 hb1659
                  refine wpL_skip ?_
                  refine wpL_seq ?_
                  obtain ⟨r1756, hj1757, hj1627⟩ := bind_some hj1627
                  refine wpL_cut (fun a w => ∃ xs1751 : List Int, ∃ A1752, ∃ n1753, ∃ c1754, xs1751 = r1756 ∧ n1753 = xs1751.length ∧ Fr a 86 [(0, .slice A_p0_1 p0.length c_p0_1), (1, .slice A_p1_1 p1.length c_p1_1), (2, .int .i64 p2), (3, .int .i64 p3), (10, .int .i64 q3), (11, .int .i64 x951), (12, .slice A1752 n1753 c1754)] ∧ St [] W w [.row A1752 n1753 c1754 2 1 (ints xs1751)]) ?_ ?_
                  · refine wpL_drawM [] [16] (by kernel_rfl) hs ?_; clear hs; intro w hs
                    have hs0 : St [] W w [] := hs
                    refine mYp (i := 0) rfl (by kernel_rfl) (by kernel_rfl) hf rfl rfl rfl (fun _ => Y_move rfl rfl) ?_; clear hf; intro a hf
                    refine mYp (i := 1) rfl (by kernel_rfl) (by kernel_rfl) hf rfl rfl rfl (fun _ => Y_move rfl rfl) ?_; clear hf; intro a hf
                    refine mYp (i := 3) rfl (by kernel_rfl) (by kernel_rfl) hf rfl rfl rfl (fun _ => Y_move rfl rfl) ?_; clear hf; intro a hf
                    refine mYp (i := 6) rfl (by kernel_rfl) (by kernel_rfl) hf rfl rfl rfl (fun _ => Y_move rfl rfl) ?_; clear hf; intro a hf
                    refine mYp (i := 7) rfl (by kernel_rfl) (by kernel_rfl) hf rfl rfl rfl (fun _ => Y_move rfl rfl) ?_; clear hf; intro a hf
                    refine mYp (i := 8) rfl (by kernel_rfl) (by kernel_rfl) hf rfl rfl rfl (fun _ => Y_move rfl rfl) ?_; clear hf; intro a hf
                    obtain ⟨q1792, hi1793, hj1757⟩ := bind_some hj1757
                    obtain ⟨hi1793a, hi1793b, hi1793q⟩ := idx_some hi1793
                    obtain ⟨vs1794, hv1795, hr1796⟩ := id h_p0_1
                    obtain ⟨A1797, c1798, hv1799, hR1800⟩ := hr1796 _ _ hi1793q
                    refine mYp (i := 9) rfl (by kernel_rfl) (by kernel_rfl) hf rfl rfl rfl (fun _ => Y_index rfl rfl rfl el40 ti28 (Rd.isAt hv1795 hv1799) hi1793a hi1793b) ?_; clear hf; intro a hf
                    refine mY (i := 10) [[12, 13, 14]] rfl (by kernel_rfl) (by kernel_rfl) hf hs0 rfl rfl rfl (Y_load_rd rfl rfl (fun w hs => hv1795.at hs) (at1 hv1799) ag28) ?_; clear hf; intro a hf
                    refine mYp (i := 11) rfl (by kernel_rfl) (by kernel_rfl) hf rfl rfl rfl (fun _ => Y_move rfl rfl) ?_; clear hf; intro a hf
                    obtain ⟨q1801, hi1802, hj1757⟩ := bind_some hj1757
                    obtain ⟨hi1802a, hi1802b, hi1802q⟩ := idx_some hi1802
                    refine mYp (i := 12) rfl (by kernel_rfl) (by kernel_rfl) hf rfl rfl rfl (fun _ => Y_index rfl rfl rfl el28 ti2 (Rd.isAt (hR1800.at hs) (at1 (ints_at hi1802q))) hi1802a hi1802b) ?_; clear hf; intro a hf
                    refine mY (i := 13) [[14]] rfl (by kernel_rfl) (by kernel_rfl) hf hs0 rfl rfl rfl (Y_load_rd rfl rfl (fun w hs => hR1800.at hs) (at1 (ints_at hi1802q)) ag2) ?_; clear hf; intro a hf
                    refine mYp (i := 14) rfl (by kernel_rfl) (by kernel_rfl) hf rfl rfl rfl (fun _ => Y_add rfl rfl rfl) ?_; clear hf; intro a hf
                    refine mYp (i := 15) rfl (by kernel_rfl) (by kernel_rfl) hf rfl rfl rfl (fun _ => Y_move rfl rfl) ?_; clear hf; intro a hf
                    refine mRun2 (i := 2) (j := 4) rfl rfl (by kernel_rfl) ?_ ?_
                    · obtain ⟨r1803, hc1804, hj1757⟩ := bind_some hj1757
                      refine sCall hf rfl rfl rfl rfl (cap := []) rfl rfl en114 (spec_l01Own_ok F p1 A_p1_1 p1.length c_p1_1 rfl _ _ hc1804 (h_p1_1.at hs)) ?_; clear hf
                      rintro _ w ⟨A1805, n1806, c1807, rfl, hn1808, hs1⟩ a hf
                      have hs : St [] W w [.row A1805 n1806 c1807 2 1 (ints r1803)] := hs.join hs1
                      clear hs1
                      have hs0 : St [] W w [] := hs.sel [] (by decide)
                      refine wpO_nil ⟨Or.inr (fun _ => hs0), ?_⟩
                      refine mRun (i := 4) rfl (by kernel_rfl) ?_
                      refine sBuildSlice (parts := [(0, .tmp 68)]) (vs := [.int .i64 x951]) (cells := [.int .i64 x951]) hf hs rfl rfl rfl rfl rfl el28 ti2 rfl rfl rfl rfl ?_; clear hf hs; intro a w A1809 hs hA1810 hf
                      have hs : St [] W w [.row A1805 n1806 c1807 2 1 (ints r1803), .row A1809 1 1 2 1 (ints ([x951]))] := hs
                      have hs0 : St [] W w [] := hs.sel [] (by decide)
                      refine wpO_nil ⟨Or.inr (fun _ => hs0), ?_⟩
                      refine mRun (i := 5) rfl (by kernel_rfl) ?_
                      obtain ⟨xs1813, ha1814, hj1757⟩ := bind_some hj1757
                      refine sAppendL (i := 0) (xs := r1803) (ys := [x951]) (enc := ints) hf hs rfl rfl rfl rfl rfl rfl hn1808 rfl rfl ha1814 el28 ti2 rfl rfl rfl (hs.rd (i := 1) rfl) (Nat.succ_pos _) ints_len1 ints_append ints_one ?_; clear hf hs; intro a w A1811 c1812 hs hf
                      have hs : St [] W w [.row A1811 xs1813.length c1812 2 1 (ints xs1813), .row A1809 1 1 2 1 (ints ([x951]))] := hs
                      have hs0 : St [] W w [] := hs.sel [] (by decide)
                      refine wpO_nil ⟨Or.inr (fun _ => hs0), ?_⟩
                      refine mRun (i := 16) rfl (by kernel_rfl) ?_
                      obtain ⟨r1815, hc1816, hj1757⟩ := bind_some hj1757
                      refine sCall hf rfl rfl rfl rfl (cap := []) rfl rfl en157 (ih_ p0 A_p0_1 p0.length c_p0_1 rfl xs1813 A1811 xs1813.length c1812 rfl (IntKind.i64.wrap (p2 + q1801)) p3 _ _ hc1816 (h_p0_1.at hs) (hs.rd (i := 0) rfl)) ?_; clear hf
                      rintro _ w ⟨A1817, n1818, c1819, A1820, n1821, c1822, ys1823, rfl, hn1824, he1825, hs1⟩ a hf
                      have hs : St [] W w [.row A1811 xs1813.length c1812 2 1 (ints xs1813), .row A1809 1 1 2 1 (ints ([x951])), .row A1820 n1821 c1822 2 1 (ints ys1823)] := hs.join hs1
                      clear hs1
                      have hs := hs.eiOwn (i := 0) (j := 2) (enc := ints) rfl rfl (by decide) he1825
                      have hs : St [] W w [.row A1817 n1818 c1819 2 1 (ints r1815), .row A1809 1 1 2 1 (ints ([x951]))] := hs
                      refine wpO_nil ⟨Or.inl (by decide), ?_⟩
                      refine mYp (i := 17) rfl (by kernel_rfl) (by kernel_rfl) hf rfl rfl rfl (fun _ => Y_assign rfl rfl) ?_; clear hf; intro a hf
                      refine mDone (by kernel_rfl) ?_
                      clear hs0
                      refine wpL_nil (then_normal ?_)
                      exact ⟨r1815, A1817, n1818, c1819, Option.some.inj hj1757, hn1824, (FrD.pick (FrD.pick (FrD.pick (FrD.pick (FrD.pick (FrD.pick (FrD.pick hf.none hf rfl) hf rfl) hf rfl) hf rfl) hf rfl) hf rfl) hf rfl), hs.sel [0] (by decide)⟩
                    · refine sBuildSlice (parts := [(0, .tmp 68)]) (vs := [.int .i64 x951]) (cells := [.int .i64 x951]) hf hs rfl rfl rfl rfl rfl el28 ti2 rfl rfl rfl rfl ?_; clear hf hs; intro a w A1826 hs hA1827 hf
                      have hs : St [] W w [.row A1826 1 1 2 1 (ints ([x951]))] := hs
                      have hs0 : St [] W w [] := hs.sel [] (by decide)
                      refine wpO_nil ⟨Or.inr (fun _ => hs0), ?_⟩
                      refine mRun (i := 2) rfl (by kernel_rfl) ?_
                      obtain ⟨r1828, hc1829, hj1757⟩ := bind_some hj1757
                      refine sCall hf rfl rfl rfl rfl (cap := []) rfl rfl en114 (spec_l01Own_ok F p1 A_p1_1 p1.length c_p1_1 rfl _ _ hc1829 (h_p1_1.at hs)) ?_; clear hf
                      rintro _ w ⟨A1830, n1831, c1832, rfl, hn1833, hs1⟩ a hf
                      have hs : St [] W w [.row A1826 1 1 2 1 (ints ([x951])), .row A1830 n1831 c1832 2 1 (ints r1828)] := hs.join hs1
                      clear hs1
                      have hs0 : St [] W w [] := hs.sel [] (by decide)
                      refine wpO_nil ⟨Or.inr (fun _ => hs0), ?_⟩
                      refine mRun (i := 5) rfl (by kernel_rfl) ?_
                      obtain ⟨xs1836, ha1837, hj1757⟩ := bind_some hj1757
                      refine sAppendL (i := 1) (xs := r1828) (ys := [x951]) (enc := ints) hf hs rfl rfl rfl rfl rfl rfl hn1833 rfl rfl ha1837 el28 ti2 rfl rfl rfl (hs.rd (i := 0) rfl) (Nat.succ_pos _) ints_len1 ints_append ints_one ?_; clear hf hs; intro a w A1834 c1835 hs hf
                      have hs : St [] W w [.row A1826 1 1 2 1 (ints ([x951])), .row A1834 xs1836.length c1835 2 1 (ints xs1836)] := hs
                      have hs0 : St [] W w [] := hs.sel [] (by decide)
                      refine wpO_nil ⟨Or.inr (fun _ => hs0), ?_⟩
                      refine mRun (i := 16) rfl (by kernel_rfl) ?_
                      obtain ⟨r1838, hc1839, hj1757⟩ := bind_some hj1757
                      refine sCall hf rfl rfl rfl rfl (cap := []) rfl rfl en157 (ih_ p0 A_p0_1 p0.length c_p0_1 rfl xs1836 A1834 xs1836.length c1835 rfl (IntKind.i64.wrap (p2 + q1801)) p3 _ _ hc1839 (h_p0_1.at hs) (hs.rd (i := 1) rfl)) ?_; clear hf
                      rintro _ w ⟨A1840, n1841, c1842, A1843, n1844, c1845, ys1846, rfl, hn1847, he1848, hs1⟩ a hf
                      have hs : St [] W w [.row A1826 1 1 2 1 (ints ([x951])), .row A1834 xs1836.length c1835 2 1 (ints xs1836), .row A1843 n1844 c1845 2 1 (ints ys1846)] := hs.join hs1
                      clear hs1
                      have hs := hs.eiOwn (i := 1) (j := 2) (enc := ints) rfl rfl (by decide) he1848
                      have hs : St [] W w [.row A1826 1 1 2 1 (ints ([x951])), .row A1840 n1841 c1842 2 1 (ints r1838)] := hs
                      refine wpO_nil ⟨Or.inl (by decide), ?_⟩
                      refine mYp (i := 17) rfl (by kernel_rfl) (by kernel_rfl) hf rfl rfl rfl (fun _ => Y_assign rfl rfl) ?_; clear hf; intro a hf
                      refine mDone (by kernel_rfl) ?_
                      clear hs0
                      refine wpL_nil (then_normal ?_)
                      exact ⟨r1838, A1840, n1841, c1842, Option.some.inj hj1757, hn1847, (FrD.pick (FrD.pick (FrD.pick (FrD.pick (FrD.pick (FrD.pick (FrD.pick hf.none hf rfl) hf rfl) hf rfl) hf rfl) hf rfl) hf rfl) hf rfl), hs.sel [1] (by decide)⟩
                  · rintro a w ⟨xs1751, A1752, n1753, c1754, hr_, hn1755, hf, hs⟩
                    subst hr_
                    try dsimp only at hj1627
                    refine wpL_seq ?_
                    refine wpL_region ?_
                    refine sY hf hs rfl rfl rfl (Y_move rfl rfl) ?_; clear hf; intro a hf
                    refine sY hf hs rfl rfl rfl (Y_lenH rfl rfl el28 hn1755) ?_; clear hf; intro a hf
                    refine sY hf hs rfl rfl rfl (Y_gtr rfl rfl rfl) ?_; clear hf; intro a hf
                    refine wpO_nil ?_
                    refine wpL_cond hf rfl (fun hb1849 => ?_) (fun hb1849 => ?_)
                    · have hj1627 := bif_t hj1627 hb1849
                      refine wpL_seq ?_
                      refine wpL_region ?_
                      refine sY hf hs rfl rfl rfl (Y_move rfl rfl) ?_; clear hf; intro a hf
                      refine sY hf hs rfl rfl rfl (Y_assign rfl rfl) ?_; clear hf; intro a hf
                      refine wpO_nil ?_
                      obtain rfl := Option.some.inj hj1627
                      try dsimp only at hm1401
                      obtain rfl := Option.some.inj hm1401
                      try dsimp only at hm
                      obtain rfl := Option.some.inj hm
                      refine wpL_ret (Qb_ret (Ql_ret (Qb_ret (ret_tmp rfl hf rfl ?_))))
                      exact ⟨_, rfl, A1752, n1753, c1754, A1752, n1753, c1754, xs1751, rfl, hn1755, .inr ⟨rfl, rfl, rfl, rfl⟩, hs⟩
                    · have hj1627 := bif_f hj1627 hb1849
                      refine wpL_skip ?_
                      refine wpL_nil (Qb_normal ?_)
                      exact ⟨Option.some.inj hj1627, (FrD.pick (FrD.pick (FrD.pick (FrD.pick (FrD.pick (FrD.pick hf.none hf rfl) hf rfl) hf rfl) hf rfl) hf rfl) hf rfl), hs.sel [] (by decide)⟩
            · rintro a w ⟨hr_, hf, hs⟩
              subst hr_
              try dsimp only at hm1401
              refine wpL_region ?_
              refine sY hf hs rfl rfl rfl (Y_move rfl rfl) ?_; clear hf; intro a hf
              refine sY hf hs rfl rfl rfl (Y_add rfl rfl rfl) ?_; clear hf; intro a hf
              refine sY hf hs rfl rfl rfl (Y_assign rfl rfl) ?_; clear hf; intro a hf
              refine wpO_nil ?_
              refine wpL_nil (Ql_normal ?_)
              exact ⟨(IntKind.i64.wrap (x951 + 1)), hm1401, (FrD.pick (FrD.pick (FrD.pick (FrD.pick (FrD.pick (FrD.pick hf.none hf rfl) hf rfl) hf rfl) hf rfl) hf rfl) hf rfl), hs⟩
          · have hm1401 := bif_f hm1401 hb1403
            refine wpL_exit (Ql_exit (Qb_exit ?_))
            exact ⟨Option.some.inj hm1401, hf.none, hs⟩
      · rintro a w ⟨hr_, hf, hs⟩
        subst hr_
        try dsimp only at hm
        refine wpL_seq ?_
        refine wpL_region ?_
        refine sY hf hs rfl rfl rfl (Y_assign rfl rfl) ?_; clear hf; intro a hf
        refine wpO_nil ?_
        have hs : St [] W _ [.row none 0 0 2 1 (ints ([] : List Int))] := hs.addNil 2 1
        obtain rfl := Option.some.inj hm
        refine wpL_ret (ret_tmp rfl hf rfl ?_)
        exact ⟨_, rfl, none, 0, 0, none, 0, 0, ([] : List Int), rfl, rfl, .inr ⟨rfl, rfl, rfl, rfl⟩, hs⟩
theorem spec_l03Grow_rec_ok (F : Nat) : ∀ (k_ : Nat) (p0 : List (List Int)) (A_p0_1 : Option Addr) (n_p0_1 c_p0_1 : Nat) (_hn_p0_1 : n_p0_1 = p0.length) (p1 : List Int) (A_p1_1 : Option Addr) (n_p1_1 c_p1_1 : Nat) (_hn_p1_1 : n_p1_1 = p1.length) (p2 : Int) (p3 : Int) (r : List Int) (W : World) (_hm : spec_l03Grow_rec F k_ p0 p1 p2 p3 = some r) (_h_p0_1 : RdM W A_p0_1 p0) (_h_p1_1 : Rd W A_p1_1 (ints p1)), Calls Try.prog 157 [.slice A_p0_1 n_p0_1 c_p0_1, .slice A_p1_1 n_p1_1 c_p1_1, .int .i64 p2, .int .i64 p3].toArray W fun e w' => ∃ v, e = .returned v ∧ ∃ A1851, ∃ n1852, ∃ c1853, ∃ A1854, ∃ n1855, ∃ c1856, ∃ ys1857, v = .slice A1851 n1852 c1853 ∧ n1852 = r.length ∧ Ei A_p1_1 n_p1_1 c_p1_1 p1 A1854 n1855 c1856 ys1857 A1851 n1852 c1853 r ∧ St [] W w' [.row A1854 n1855 c1856 2 1 (ints ys1857)]
  | 0 => by intros; simp [spec_l03Grow_rec] at *
  | k_ + 1 => spec_l03Grow_step F k_ (spec_l03Grow_rec_ok F k_)
theorem spec_l03Grow_ok (F : Nat) : ∀ (p0 : List (List Int)) (A_p0_1 : Option Addr) (n_p0_1 c_p0_1 : Nat) (_hn_p0_1 : n_p0_1 = p0.length) (p1 : List Int) (A_p1_1 : Option Addr) (n_p1_1 c_p1_1 : Nat) (_hn_p1_1 : n_p1_1 = p1.length) (p2 : Int) (p3 : Int) (r : List Int) (W : World) (_hm : spec_l03Grow F p0 p1 p2 p3 = some r) (_h_p0_1 : RdM W A_p0_1 p0) (_h_p1_1 : Rd W A_p1_1 (ints p1)), Calls Try.prog 157 [.slice A_p0_1 n_p0_1 c_p0_1, .slice A_p1_1 n_p1_1 c_p1_1, .int .i64 p2, .int .i64 p3].toArray W fun e w' => ∃ v, e = .returned v ∧ ∃ A1851, ∃ n1852, ∃ c1853, ∃ A1854, ∃ n1855, ∃ c1856, ∃ ys1857, v = .slice A1851 n1852 c1853 ∧ n1852 = r.length ∧ Ei A_p1_1 n_p1_1 c_p1_1 p1 A1854 n1855 c1856 ys1857 A1851 n1852 c1853 r ∧ St [] W w' [.row A1854 n1855 c1856 2 1 (ints ys1857)] := spec_l03Grow_rec_ok F F

set_option maxRecDepth 100000 in
theorem spec_l03Over_ok (F : Nat) (p0_a : List (List Int)) (A_p0_a_1 : Option Addr) (n_p0_a_1 c_p0_a_1 : Nat) (hn_p0_a_1 : n_p0_a_1 = p0_a.length) (p1_over : Int) (r : List Int) (W : World) (hm : spec_l03Over F p0_a p1_over = some r) (h_p0_a_1 : RdM W A_p0_a_1 p0_a) :
    Calls Try.prog 89 [.slice A_p0_a_1 n_p0_a_1 c_p0_a_1, .int .i64 p1_over].toArray W fun e w' => ∃ v, e = .returned v ∧ ∃ A68, ∃ n69, ∃ c70, v = .slice A68 n69 c70 ∧ n69 = r.length ∧ St [] W w' [.row A68 n69 c70 2 1 (ints r)] := by
  subst hn_p0_a_1
  unfold spec_l03Over at hm
  refine Calls.enter (N := 22) Try.func89 rfl rfl rfl (fun a hf => ?_)
  have hs := St.start W
  obtain ⟨w, hw_⟩ : ∃ w, w = W := ⟨W, rfl⟩
  clear hw_ w
  refine wpL_seq ?_
  refine wpL_region ?_
  refine sY hf hs rfl rfl rfl (Y_assign rfl rfl) ?_; clear hf; intro a hf
  refine wpO_nil ?_
  refine wpL_seq ?_
  refine wpL_seq ?_
  refine wpL_region ?_
  refine sY hf hs rfl rfl rfl (Y_assign rfl rfl) ?_; clear hf; intro a hf
  refine wpO_nil ?_
  obtain ⟨r48, hl49, hm⟩ := bind_some hm
  refine wpL_block (fun a w => Sum.inr () = r48 ∧ Fr a 22 [] ∧ St [] W w []) ?_ ?_
  · refine wpL_loop (fun n a w => ∃ x32 : Int, spec_l03Over_L1 F p0_a p1_over n x32 = some r48 ∧ Fr a 22 [(0, .slice A_p0_a_1 p0_a.length c_p0_a_1), (1, .int .i64 p1_over), (5, .int .i64 x32)] ∧ St [] W w []) F ?_ ?_ ?_
    · exact ⟨0, hl49, (FrD.pick (FrD.pick (FrD.pick hf.none hf rfl) hf rfl) hf rfl), hs⟩
    · rintro a w ⟨x32, h0_, -, -⟩; simp [spec_l03Over_L1] at h0_
    · rintro n51 a w ⟨x32, hm50, hf, hs⟩
      rw [spec_l03Over_L1] at hm50
      refine wpL_seq ?_
      refine wpL_seq ?_
      refine wpL_region ?_
      refine sY hf hs rfl rfl rfl (Y_move rfl rfl) ?_; clear hf; intro a hf
      refine sY hf hs rfl rfl rfl (Y_move rfl rfl) ?_; clear hf; intro a hf
      refine sY hf hs rfl rfl rfl (Y_lenH rfl rfl el40 rfl) ?_; clear hf; intro a hf
      refine sY hf hs rfl rfl rfl (Y_lss rfl rfl rfl) ?_; clear hf; intro a hf
      refine wpO_nil ?_
      refine wpL_cond hf rfl (fun hb52 => ?_) (fun hb52 => ?_)
      · have hm50 := bif_t hm50 hb52
        refine wpL_skip ?_
        refine wpL_seq ?_
        refine wpL_block0 ?_
        refine wpL_seq ?_
        refine wpL_region ?_
        refine sY hf hs rfl rfl rfl (Y_move rfl rfl) ?_; clear hf; intro a hf
        refine sY hf hs rfl rfl rfl (Y_move rfl rfl) ?_; clear hf; intro a hf
        refine sBuildSlice (parts := [(0, .tmp 14)]) (vs := [.int .i64 x32]) (cells := [.int .i64 x32]) hf hs rfl rfl rfl rfl rfl el28 ti2 rfl rfl rfl rfl ?_; clear hf hs; intro a w A53 hs hA54 hf
        have hs : St [] W w [.row A53 1 1 2 1 (ints ([x32]))] := hs
        refine sY hf hs rfl rfl rfl (Y_move rfl rfl) ?_; clear hf; intro a hf
        obtain ⟨r55, hc56, hm50⟩ := bind_some hm50
        refine sCall hf rfl rfl rfl rfl (cap := []) rfl rfl en157 (spec_l03Grow_ok F p0_a A_p0_a_1 p0_a.length c_p0_a_1 rfl ([x32]) A53 1 1 rfl 0 p1_over _ _ hc56 (h_p0_a_1.at hs) (hs.rd (i := 0) rfl)) ?_; clear hf
        rintro _ w ⟨A57, n58, c59, A60, n61, c62, ys63, rfl, hn64, he65, hs1⟩ a hf
        have hs : St [] W w [.row A53 1 1 2 1 (ints ([x32])), .row A60 n61 c62 2 1 (ints ys63)] := hs.join hs1
        clear hs1
        have hs := hs.eiOwn (i := 0) (j := 1) (enc := ints) rfl rfl (by decide) he65
        have hs : St [] W w [.row A57 n58 c59 2 1 (ints r55)] := hs
        refine sY hf hs rfl rfl rfl (Y_assign rfl rfl) ?_; clear hf; intro a hf
        refine wpO_nil ?_
        refine wpL_seq ?_
        refine wpL_region ?_
        refine sY hf hs rfl rfl rfl (Y_move rfl rfl) ?_; clear hf; intro a hf
        refine sY hf hs rfl rfl rfl (Y_lenH rfl rfl el28 hn64) ?_; clear hf; intro a hf
        refine sY hf hs rfl rfl rfl (Y_gtr rfl rfl rfl) ?_; clear hf; intro a hf
        refine wpO_nil ?_
        refine wpL_cond hf rfl (fun hb66 => ?_) (fun hb66 => ?_)
        · have hm50 := bif_t hm50 hb66
          refine wpL_seq ?_
          refine wpL_region ?_
          refine sY hf hs rfl rfl rfl (Y_move rfl rfl) ?_; clear hf; intro a hf
          refine sY hf hs rfl rfl rfl (Y_assign rfl rfl) ?_; clear hf; intro a hf
          refine wpO_nil ?_
          obtain rfl := Option.some.inj hm50
          try dsimp only at hm
          obtain rfl := Option.some.inj hm
          refine wpL_ret (Qb_ret (Ql_ret (Qb_ret (ret_tmp rfl hf rfl ?_))))
          exact ⟨_, rfl, A57, n58, c59, rfl, hn64, hs⟩
        · have hm50 := bif_f hm50 hb66
          refine wpL_skip ?_
          refine wpL_nil (Qb_normal ?_)
          refine wpL_region ?_
          refine sY hf hs rfl rfl rfl (Y_move rfl rfl) ?_; clear hf; intro a hf
          refine sY hf hs rfl rfl rfl (Y_add rfl rfl rfl) ?_; clear hf; intro a hf
          refine sY hf hs rfl rfl rfl (Y_assign rfl rfl) ?_; clear hf; intro a hf
          refine wpO_nil ?_
          refine wpL_nil (Ql_normal ?_)
          exact ⟨(IntKind.i64.wrap (x32 + 1)), hm50, (FrD.pick (FrD.pick (FrD.pick hf.none hf rfl) hf rfl) hf rfl), hs.sel [] (by decide)⟩
      · have hm50 := bif_f hm50 hb52
        refine wpL_exit (Ql_exit (Qb_exit ?_))
        exact ⟨Option.some.inj hm50, hf.none, hs⟩
  · rintro a w ⟨hr_, hf, hs⟩
    subst hr_
    try dsimp only at hm
    refine wpL_seq ?_
    refine wpL_region ?_
    refine sY hf hs rfl rfl rfl (Y_assign rfl rfl) ?_; clear hf; intro a hf
    refine wpO_nil ?_
    have hs : St [] W _ [.row none 0 0 2 1 (ints ([] : List Int))] := hs.addNil 2 1
    obtain rfl := Option.some.inj hm
    refine wpL_ret (ret_tmp rfl hf rfl ?_)
    exact ⟨_, rfl, none, 0, 0, rfl, rfl, hs⟩

set_option maxRecDepth 100000 in
theorem spec_PositiveCycle_ok (F : Nat) (p0_a : List (List Int)) (A_p0_a_1 : Option Addr) (n_p0_a_1 c_p0_a_1 : Nat) (hn_p0_a_1 : n_p0_a_1 = p0_a.length) (r : List Int × Int) (W : World) (hm : spec_PositiveCycle F p0_a = some r) (h_p0_a_1 : RdM W A_p0_a_1 p0_a) :
    Calls Try.prog 30 [.slice A_p0_a_1 n_p0_a_1 c_p0_a_1].toArray W fun e w' => ∃ v, e = .returned v ∧ ∃ A13, ∃ n14, ∃ c15, v = .tuple #[.slice A13 n14 c15, .int .i64 r.2] ∧ n14 = r.1.length ∧ St [] W w' [.row A13 n14 c15 2 1 (ints r.1)] := by
  subst hn_p0_a_1
  unfold spec_PositiveCycle at hm
  refine Calls.enter (N := 14) Try.func30 rfl rfl rfl (fun a hf => ?_)
  have hs := St.start W
  obtain ⟨w, hw_⟩ : ∃ w, w = W := ⟨W, rfl⟩
  clear hw_ w
  refine wpL_seq ?_
  refine wpL_region ?_
  refine sY hf hs rfl rfl rfl (Y_assign rfl rfl) ?_; clear hf; intro a hf
  refine sY hf hs rfl rfl rfl (Y_assign rfl rfl) ?_; clear hf; intro a hf
  refine wpO_nil ?_
  refine wpL_seq ?_
  refine wpL_seq ?_
  refine wpL_region ?_
  refine sY hf hs rfl rfl rfl (Y_move rfl rfl) ?_; clear hf; intro a hf
  obtain ⟨r1, hc2, hm⟩ := bind_some hm
  refine sCall hf rfl rfl rfl rfl (cap := []) rfl rfl en82 (spec_l02Square_ok F p0_a A_p0_a_1 p0_a.length c_p0_a_1 rfl _ _ hc2 (h_p0_a_1.at hs)) ?_; clear hf
  rintro _ w ⟨rfl, hs1⟩ a hf
  have hs : St [] W w [] := hs.ext hs1.below
  clear hs1
  refine sY hf hs rfl rfl rfl (Y_not rfl rfl) ?_; clear hf; intro a hf
  refine wpO_nil ?_
  refine wpL_cond hf rfl (fun hb3 => ?_) (fun hb3 => ?_)
  · have hm := bif_t hm hb3
    refine wpL_seq ?_
    refine wpL_region ?_
    refine sY hf hs rfl rfl rfl (Y_assign rfl rfl) ?_; clear hf; intro a hf
    refine sY hf hs rfl rfl rfl (Y_assign rfl rfl) ?_; clear hf; intro a hf
    refine wpO_nil ?_
    have hs : St [] W _ [.row none 0 0 2 1 (ints ([] : List Int))] := hs.addNil 2 1
    obtain rfl := Option.some.inj hm
    refine wpL_ret (ret_tmp2 rfl hf rfl rfl ?_)
    exact ⟨_, rfl, none, 0, 0, rfl, rfl, hs⟩
  · have hm := bif_f hm hb3
    refine wpL_skip ?_
    refine wpL_seq ?_
    refine wpL_region ?_
    refine sY hf hs rfl rfl rfl (Y_move rfl rfl) ?_; clear hf; intro a hf
    obtain ⟨r5, hc6, hm⟩ := bind_some hm
    refine sCall hf rfl rfl rfl rfl (cap := []) rfl rfl en89 (spec_l03Over_ok F p0_a A_p0_a_1 p0_a.length c_p0_a_1 rfl 0 _ _ hc6 (h_p0_a_1.at hs)) ?_; clear hf
    rintro _ w ⟨A7, n8, c9, rfl, hn10, hs1⟩ a hf
    have hs : St [] W w [.row A7 n8 c9 2 1 (ints r5)] := hs.join hs1
    clear hs1
    refine sY hf hs rfl rfl rfl (Y_assign rfl rfl) ?_; clear hf; intro a hf
    refine wpO_nil ?_
    refine wpL_seq ?_
    refine wpL_seq ?_
    refine wpL_region ?_
    refine sY hf hs rfl rfl rfl (Y_move rfl rfl) ?_; clear hf; intro a hf
    refine sY hf hs rfl rfl rfl (Y_lenH rfl rfl el28 hn10) ?_; clear hf; intro a hf
    refine sY hf hs rfl rfl rfl (Y_eql rfl rfl rfl) ?_; clear hf; intro a hf
    refine wpO_nil ?_
    refine wpL_cond hf rfl (fun hb11 => ?_) (fun hb11 => ?_)
    · have hm := bif_t hm hb11
      refine wpL_seq ?_
      refine wpL_region ?_
      refine sY hf hs rfl rfl rfl (Y_assign rfl rfl) ?_; clear hf; intro a hf
      refine sY hf hs rfl rfl rfl (Y_assign rfl rfl) ?_; clear hf; intro a hf
      refine wpO_nil ?_
      have hs : St [] W _ [.row A7 n8 c9 2 1 (ints r5), .row none 0 0 2 1 (ints ([] : List Int))] := hs.addNil 2 1
      obtain rfl := Option.some.inj hm
      refine wpL_ret (ret_tmp2 rfl hf rfl rfl ?_)
      exact ⟨_, rfl, none, 0, 0, rfl, rfl, hs.sel [1] (by decide)⟩
    · have hm := bif_f hm hb11
      refine wpL_skip ?_
      refine wpL_seq ?_
      refine wpL_region ?_
      refine sY hf hs rfl rfl rfl (Y_move rfl rfl) ?_; clear hf; intro a hf
      refine sY hf hs rfl rfl rfl (Y_assign rfl rfl) ?_; clear hf; intro a hf
      refine sY hf hs rfl rfl rfl (Y_assign rfl rfl) ?_; clear hf; intro a hf
      refine wpO_nil ?_
      obtain rfl := Option.some.inj hm
      refine wpL_ret (ret_tmp2 rfl hf rfl rfl ?_)
      exact ⟨_, rfl, A7, n8, c9, rfl, hn10, hs⟩

set_option maxRecDepth 100000 in
theorem laws_likeInts_ok (F : Nat) (p0_a : List Int) (A_p0_a_1 : Option Addr) (n_p0_a_1 c_p0_a_1 : Nat) (hn_p0_a_1 : n_p0_a_1 = p0_a.length) (p1_b : List Int) (A_p1_b_1 : Option Addr) (n_p1_b_1 c_p1_b_1 : Nat) (hn_p1_b_1 : n_p1_b_1 = p1_b.length) (r : Bool) (W : World) (hm : laws_likeInts F p0_a p1_b = some r) (h_p0_a_1 : Rd W A_p0_a_1 (ints p0_a)) (h_p1_b_1 : Rd W A_p1_b_1 (ints p1_b)) :
    Calls Try.prog 21 [.slice A_p0_a_1 n_p0_a_1 c_p0_a_1, .slice A_p1_b_1 n_p1_b_1 c_p1_b_1].toArray W fun e w' => ∃ v, e = .returned v ∧ v = .bool r ∧ St [] W w' [] := by
  subst hn_p0_a_1
  subst hn_p1_b_1
  unfold laws_likeInts at hm
  refine Calls.enter (N := 26) Try.func21 rfl rfl rfl (fun a hf => ?_)
  have hs := St.start W
  obtain ⟨w, hw_⟩ : ∃ w, w = W := ⟨W, rfl⟩
  clear hw_ w
  refine wpL_seq ?_
  refine wpL_region ?_
  refine sY hf hs rfl rfl rfl (Y_assign rfl rfl) ?_; clear hf; intro a hf
  refine wpO_nil ?_
  refine wpL_seq ?_
  refine wpL_seq ?_
  refine wpL_region ?_
  refine sY hf hs rfl rfl rfl (Y_move rfl rfl) ?_; clear hf; intro a hf
  refine sY hf hs rfl rfl rfl (Y_lenH rfl rfl el28 rfl) ?_; clear hf; intro a hf
  refine sY hf hs rfl rfl rfl (Y_move rfl rfl) ?_; clear hf; intro a hf
  refine sY hf hs rfl rfl rfl (Y_lenH rfl rfl el28 rfl) ?_; clear hf; intro a hf
  refine sY hf hs rfl rfl rfl (Y_neq rfl rfl rfl) ?_; clear hf; intro a hf
  refine wpO_nil ?_
  refine wpL_cond hf rfl (fun hb1 => ?_) (fun hb1 => ?_)
  · have hm := bif_t hm hb1
    refine wpL_seq ?_
    refine wpL_region ?_
    refine sY hf hs rfl rfl rfl (Y_assign rfl rfl) ?_; clear hf; intro a hf
    refine wpO_nil ?_
    obtain rfl := Option.some.inj hm
    refine wpL_ret (ret_tmp rfl hf rfl ?_)
    exact ⟨_, rfl, rfl, hs⟩
  · have hm := bif_f hm hb1
    refine wpL_skip ?_
    refine wpL_seq ?_
    refine wpL_seq ?_
    refine wpL_region ?_
    refine sY hf hs rfl rfl rfl (Y_assign rfl rfl) ?_; clear hf; intro a hf
    refine wpO_nil ?_
    obtain ⟨r22, hl23, hm⟩ := bind_some hm
    refine wpL_block (fun a w => Sum.inr () = r22 ∧ Fr a 26 [] ∧ St [] W w []) ?_ ?_
    · refine wpL_loop (fun n a w => ∃ x15 : Int, laws_likeInts_L1 F p0_a p1_b n x15 = some r22 ∧ Fr a 26 [(0, .slice A_p0_a_1 p0_a.length c_p0_a_1), (1, .slice A_p1_b_1 p1_b.length c_p1_b_1), (5, .int .i64 x15)] ∧ St [] W w []) F ?_ ?_ ?_
      · exact ⟨0, hl23, (FrD.pick (FrD.pick (FrD.pick hf.none hf rfl) hf rfl) hf rfl), hs⟩
      · rintro a w ⟨x15, h0_, -, -⟩; simp [laws_likeInts_L1] at h0_
      · rintro n25 a w ⟨x15, hm24, hf, hs⟩
        rw [laws_likeInts_L1] at hm24
        refine wpL_seq ?_
        refine wpL_seq ?_
        refine wpL_region ?_
        refine sY hf hs rfl rfl rfl (Y_move rfl rfl) ?_; clear hf; intro a hf
        refine sY hf hs rfl rfl rfl (Y_move rfl rfl) ?_; clear hf; intro a hf
        refine sY hf hs rfl rfl rfl (Y_lenH rfl rfl el28 rfl) ?_; clear hf; intro a hf
        refine sY hf hs rfl rfl rfl (Y_lss rfl rfl rfl) ?_; clear hf; intro a hf
        refine wpO_nil ?_
        refine wpL_cond hf rfl (fun hb26 => ?_) (fun hb26 => ?_)
        · have hm24 := bif_t hm24 hb26
          refine wpL_skip ?_
          refine wpL_seq ?_
          refine wpL_block0 ?_
          refine wpL_seq ?_
          refine wpL_draw (by kernel_rfl) (by kernel_rfl) hs ?_
          refine qY hf rfl rfl rfl (Y_move rfl rfl) ?_; clear hf; intro a hf
          refine qY hf rfl rfl rfl (Y_move rfl rfl) ?_; clear hf; intro a hf
          obtain ⟨q27, hi28, hm24⟩ := bind_some hm24
          obtain ⟨hi28a, hi28b, hi28q⟩ := idx_some hi28
          refine qY hf rfl rfl rfl (Y_index rfl rfl rfl el28 ti2 (Rd.isAt (h_p0_a_1.at hs) (at1 (ints_at hi28q))) hi28a hi28b) ?_; clear hf; intro a hf
          refine qY hf rfl rfl rfl (Y_load_rd rfl rfl (fun w hs => h_p0_a_1.at hs) (at1 (ints_at hi28q)) ag2) ?_; clear hf; intro a hf
          refine qY hf rfl rfl rfl (Y_move rfl rfl) ?_; clear hf; intro a hf
          refine qY hf rfl rfl rfl (Y_move rfl rfl) ?_; clear hf; intro a hf
          obtain ⟨q29, hi30, hm24⟩ := bind_some hm24
          obtain ⟨hi30a, hi30b, hi30q⟩ := idx_some hi30
          refine qY hf rfl rfl rfl (Y_index rfl rfl rfl el28 ti2 (Rd.isAt (h_p1_b_1.at hs) (at1 (ints_at hi30q))) hi30a hi30b) ?_; clear hf; intro a hf
          refine qY hf rfl rfl rfl (Y_load_rd rfl rfl (fun w hs => h_p1_b_1.at hs) (at1 (ints_at hi30q)) ag2) ?_; clear hf; intro a hf
          refine qY hf rfl rfl rfl (Y_neq rfl rfl rfl) ?_; clear hf; intro a hf
          refine qNil ?_; clear hs; intro w hs
          refine wpL_cond hf rfl (fun hb31 => ?_) (fun hb31 => ?_)
          · have hm24 := bif_t hm24 hb31
            refine wpL_seq ?_
            refine wpL_region ?_
            refine sY hf hs rfl rfl rfl (Y_assign rfl rfl) ?_; clear hf; intro a hf
            refine wpO_nil ?_
            obtain rfl := Option.some.inj hm24
            try dsimp only at hm
            obtain rfl := Option.some.inj hm
            refine wpL_ret (Qb_ret (Ql_ret (Qb_ret (ret_tmp rfl hf rfl ?_))))
            exact ⟨_, rfl, rfl, hs⟩
          · have hm24 := bif_f hm24 hb31
            refine wpL_skip ?_
            refine wpL_nil (Qb_normal ?_)
            refine wpL_region ?_
            refine sY hf hs rfl rfl rfl (Y_move rfl rfl) ?_; clear hf; intro a hf
            refine sY hf hs rfl rfl rfl (Y_add rfl rfl rfl) ?_; clear hf; intro a hf
            refine sY hf hs rfl rfl rfl (Y_assign rfl rfl) ?_; clear hf; intro a hf
            refine wpO_nil ?_
            refine wpL_nil (Ql_normal ?_)
            exact ⟨(IntKind.i64.wrap (x15 + 1)), hm24, (FrD.pick (FrD.pick (FrD.pick hf.none hf rfl) hf rfl) hf rfl), hs⟩
        · have hm24 := bif_f hm24 hb26
          refine wpL_exit (Ql_exit (Qb_exit ?_))
          exact ⟨Option.some.inj hm24, hf.none, hs⟩
    · rintro a w ⟨hr_, hf, hs⟩
      subst hr_
      try dsimp only at hm
      refine wpL_seq ?_
      refine wpL_region ?_
      refine sY hf hs rfl rfl rfl (Y_assign rfl rfl) ?_; clear hf; intro a hf
      refine wpO_nil ?_
      obtain rfl := Option.some.inj hm
      refine wpL_ret (ret_tmp rfl hf rfl ?_)
      exact ⟨_, rfl, rfl, hs⟩

set_option maxRecDepth 100000 in
theorem laws_likeTables9_ok (F : Nat) (p0_a : List (List Int)) (A_p0_a_1 : Option Addr) (n_p0_a_1 c_p0_a_1 : Nat) (hn_p0_a_1 : n_p0_a_1 = p0_a.length) (p1_b : List (List Int)) (A_p1_b_1 : Option Addr) (n_p1_b_1 c_p1_b_1 : Nat) (hn_p1_b_1 : n_p1_b_1 = p1_b.length) (r : Bool) (W : World) (hm : laws_likeTables9 F p0_a p1_b = some r) (h_p0_a_1 : RdM W A_p0_a_1 p0_a) (h_p1_b_1 : RdM W A_p1_b_1 p1_b) :
    Calls Try.prog 31 [.slice A_p0_a_1 n_p0_a_1 c_p0_a_1, .slice A_p1_b_1 n_p1_b_1 c_p1_b_1].toArray W fun e w' => ∃ v, e = .returned v ∧ v = .bool r ∧ St [] W w' [] := by
  subst hn_p0_a_1
  subst hn_p1_b_1
  unfold laws_likeTables9 at hm
  refine Calls.enter (N := 27) Try.func31 rfl rfl rfl (fun a hf => ?_)
  have hs := St.start W
  obtain ⟨w, hw_⟩ : ∃ w, w = W := ⟨W, rfl⟩
  clear hw_ w
  refine wpL_seq ?_
  refine wpL_region ?_
  refine sY hf hs rfl rfl rfl (Y_assign rfl rfl) ?_; clear hf; intro a hf
  refine wpO_nil ?_
  refine wpL_seq ?_
  refine wpL_seq ?_
  refine wpL_region ?_
  refine sY hf hs rfl rfl rfl (Y_move rfl rfl) ?_; clear hf; intro a hf
  refine sY hf hs rfl rfl rfl (Y_lenH rfl rfl el40 rfl) ?_; clear hf; intro a hf
  refine sY hf hs rfl rfl rfl (Y_move rfl rfl) ?_; clear hf; intro a hf
  refine sY hf hs rfl rfl rfl (Y_lenH rfl rfl el40 rfl) ?_; clear hf; intro a hf
  refine sY hf hs rfl rfl rfl (Y_neq rfl rfl rfl) ?_; clear hf; intro a hf
  refine wpO_nil ?_
  refine wpL_cond hf rfl (fun hb1 => ?_) (fun hb1 => ?_)
  · have hm := bif_t hm hb1
    refine wpL_seq ?_
    refine wpL_region ?_
    refine sY hf hs rfl rfl rfl (Y_assign rfl rfl) ?_; clear hf; intro a hf
    refine wpO_nil ?_
    obtain rfl := Option.some.inj hm
    refine wpL_ret (ret_tmp rfl hf rfl ?_)
    exact ⟨_, rfl, rfl, hs⟩
  · have hm := bif_f hm hb1
    refine wpL_skip ?_
    refine wpL_seq ?_
    refine wpL_seq ?_
    refine wpL_region ?_
    refine sY hf hs rfl rfl rfl (Y_assign rfl rfl) ?_; clear hf; intro a hf
    refine wpO_nil ?_
    obtain ⟨r70, hl71, hm⟩ := bind_some hm
    refine wpL_block (fun a w => Sum.inr () = r70 ∧ Fr a 27 [] ∧ St [] W w []) ?_ ?_
    · refine wpL_loop (fun n a w => ∃ x47 : Int, laws_likeTables9_L1 F p0_a p1_b n x47 = some r70 ∧ Fr a 27 [(0, .slice A_p0_a_1 p0_a.length c_p0_a_1), (1, .slice A_p1_b_1 p1_b.length c_p1_b_1), (5, .int .i64 x47)] ∧ St [] W w []) F ?_ ?_ ?_
      · exact ⟨0, hl71, (FrD.pick (FrD.pick (FrD.pick hf.none hf rfl) hf rfl) hf rfl), hs⟩
      · rintro a w ⟨x47, h0_, -, -⟩; simp [laws_likeTables9_L1] at h0_
      · rintro n73 a w ⟨x47, hm72, hf, hs⟩
        rw [laws_likeTables9_L1] at hm72
        refine wpL_seq ?_
        refine wpL_seq ?_
        refine wpL_region ?_
        refine sY hf hs rfl rfl rfl (Y_move rfl rfl) ?_; clear hf; intro a hf
        refine sY hf hs rfl rfl rfl (Y_move rfl rfl) ?_; clear hf; intro a hf
        refine sY hf hs rfl rfl rfl (Y_lenH rfl rfl el40 rfl) ?_; clear hf; intro a hf
        refine sY hf hs rfl rfl rfl (Y_lss rfl rfl rfl) ?_; clear hf; intro a hf
        refine wpO_nil ?_
        refine wpL_cond hf rfl (fun hb74 => ?_) (fun hb74 => ?_)
        · have hm72 := bif_t hm72 hb74
          refine wpL_skip ?_
          refine wpL_seq ?_
          refine wpL_block0 ?_
          refine wpL_seq ?_
          refine wpL_draw (by kernel_rfl) (by kernel_rfl) hs ?_
          refine qY hf rfl rfl rfl (Y_move rfl rfl) ?_; clear hf; intro a hf
          refine qY hf rfl rfl rfl (Y_move rfl rfl) ?_; clear hf; intro a hf
          obtain ⟨q75, hi76, hm72⟩ := bind_some hm72
          obtain ⟨hi76a, hi76b, hi76q⟩ := idx_some hi76
          obtain ⟨vs77, hv78, hr79⟩ := id h_p0_a_1
          obtain ⟨A80, c81, hv82, hR83⟩ := hr79 _ _ hi76q
          refine qY hf rfl rfl rfl (Y_index rfl rfl rfl el40 ti28 (Rd.isAt hv78 hv82) hi76a hi76b) ?_; clear hf; intro a hf
          refine qY hf rfl rfl rfl (Y_load_rd rfl rfl (fun w hs => hv78.at hs) (at1 hv82) ag28) ?_; clear hf; intro a hf
          refine qY hf rfl rfl rfl (Y_move rfl rfl) ?_; clear hf; intro a hf
          refine qY hf rfl rfl rfl (Y_move rfl rfl) ?_; clear hf; intro a hf
          obtain ⟨q84, hi85, hm72⟩ := bind_some hm72
          obtain ⟨hi85a, hi85b, hi85q⟩ := idx_some hi85
          obtain ⟨vs86, hv87, hr88⟩ := id h_p1_b_1
          obtain ⟨A89, c90, hv91, hR92⟩ := hr88 _ _ hi85q
          refine qY hf rfl rfl rfl (Y_index rfl rfl rfl el40 ti28 (Rd.isAt hv87 hv91) hi85a hi85b) ?_; clear hf; intro a hf
          refine qY hf rfl rfl rfl (Y_load_rd rfl rfl (fun w hs => hv87.at hs) (at1 hv91) ag28) ?_; clear hf; intro a hf
          obtain ⟨r93, hc94, hm72⟩ := bind_some hm72
          refine qCall hf rfl rfl rfl rfl (cap := []) rfl rfl en21 (v := .bool r93) (fun w hs => Calls.scal (laws_likeInts_ok F q75 A80 q75.length c81 rfl q84 A89 q84.length c90 rfl _ _ hc94 (hR83.at hs) (hR92.at hs))) ?_; clear hf; intro a hf
          refine qY hf rfl rfl rfl (Y_not rfl rfl) ?_; clear hf; intro a hf
          refine qNil ?_; clear hs; intro w hs
          refine wpL_cond hf rfl (fun hb95 => ?_) (fun hb95 => ?_)
          · have hm72 := bif_t hm72 hb95
            refine wpL_seq ?_
            refine wpL_region ?_
            refine sY hf hs rfl rfl rfl (Y_assign rfl rfl) ?_; clear hf; intro a hf
            refine wpO_nil ?_
            obtain rfl := Option.some.inj hm72
            try dsimp only at hm
            obtain rfl := Option.some.inj hm
            refine wpL_ret (Qb_ret (Ql_ret (Qb_ret (ret_tmp rfl hf rfl ?_))))
            exact ⟨_, rfl, rfl, hs⟩
          · have hm72 := bif_f hm72 hb95
            refine wpL_skip ?_
            refine wpL_nil (Qb_normal ?_)
            refine wpL_region ?_
            refine sY hf hs rfl rfl rfl (Y_move rfl rfl) ?_; clear hf; intro a hf
            refine sY hf hs rfl rfl rfl (Y_add rfl rfl rfl) ?_; clear hf; intro a hf
            refine sY hf hs rfl rfl rfl (Y_assign rfl rfl) ?_; clear hf; intro a hf
            refine wpO_nil ?_
            refine wpL_nil (Ql_normal ?_)
            exact ⟨(IntKind.i64.wrap (x47 + 1)), hm72, (FrD.pick (FrD.pick (FrD.pick hf.none hf rfl) hf rfl) hf rfl), hs⟩
        · have hm72 := bif_f hm72 hb74
          refine wpL_exit (Ql_exit (Qb_exit ?_))
          exact ⟨Option.some.inj hm72, hf.none, hs⟩
    · rintro a w ⟨hr_, hf, hs⟩
      subst hr_
      try dsimp only at hm
      refine wpL_seq ?_
      refine wpL_region ?_
      refine sY hf hs rfl rfl rfl (Y_assign rfl rfl) ?_; clear hf; intro a hf
      refine wpO_nil ?_
      obtain rfl := Option.some.inj hm
      refine wpL_ret (ret_tmp rfl hf rfl ?_)
      exact ⟨_, rfl, rfl, hs⟩

set_option maxRecDepth 100000 in
theorem impl_UnitMatrix_ok (F : Nat) (p0_n : Int) (r : List (List Int) × Int) (W : World) (hm : impl_UnitMatrix F p0_n = some r) :
    Calls Try.prog 32 [.int .i64 p0_n].toArray W fun e w' => ∃ v, e = .returned v ∧ ∃ A12, ∃ n13, ∃ c14, ∃ vs16, v = .tuple #[.slice A12 n13 c14, .int .i64 r.2] ∧ n13 = r.1.length ∧ St [] W w' [.mat A12 n13 c14 28 2 vs16 r.1] := by
  unfold impl_UnitMatrix at hm
  refine Calls.enter (N := 9) Try.func32 rfl rfl rfl (fun a hf => ?_)
  have hs := St.start W
  obtain ⟨w, hw_⟩ : ∃ w, w = W := ⟨W, rfl⟩
  clear hw_ w
  refine wpL_seq ?_
  refine wpL_region ?_
  refine sY hf hs rfl rfl rfl (Y_assign rfl rfl) ?_; clear hf; intro a hf
  refine sY hf hs rfl rfl rfl (Y_assign rfl rfl) ?_; clear hf; intro a hf
  refine wpO_nil ?_
  refine wpL_seq ?_
  refine wpL_seq ?_
  refine wpL_region ?_
  refine sY hf hs rfl rfl rfl (Y_move rfl rfl) ?_; clear hf; intro a hf
  obtain ⟨r1, hc2, hm⟩ := bind_some hm
  refine sCall hf rfl rfl rfl rfl (cap := []) rfl rfl en71 (impl_within_ok F p0_n 1 10 _ _ hc2) ?_; clear hf
  rintro _ w ⟨rfl, hs1⟩ a hf
  have hs : St [] W w [] := hs.ext hs1.below
  clear hs1
  refine sY hf hs rfl rfl rfl (Y_not rfl rfl) ?_; clear hf; intro a hf
  refine wpO_nil ?_
  refine wpL_cond hf rfl (fun hb3 => ?_) (fun hb3 => ?_)
  · have hm := bif_t hm hb3
    refine wpL_seq ?_
    refine wpL_region ?_
    refine sY hf hs rfl rfl rfl (Y_assign rfl rfl) ?_; clear hf; intro a hf
    refine sY hf hs rfl rfl rfl (Y_assign rfl rfl) ?_; clear hf; intro a hf
    refine wpO_nil ?_
    have hs : St [] W _ [.mat none 0 0 28 2 [] ([] : List (List Int))] := hs.addNilM 28 2
    obtain rfl := Option.some.inj hm
    refine wpL_ret (ret_tmp2 rfl hf rfl rfl ?_)
    exact ⟨_, rfl, none, 0, 0, [], rfl, rfl, hs⟩
  · have hm := bif_f hm hb3
    refine wpL_skip ?_
    refine wpL_seq ?_
    refine wpL_region ?_
    refine sY hf hs rfl rfl rfl (Y_move rfl rfl) ?_; clear hf; intro a hf
    obtain ⟨r5, hc6, hm⟩ := bind_some hm
    refine sCall hf rfl rfl rfl rfl (cap := []) rfl rfl en90 (impl_unitMatrix_ok F p0_n _ _ hc6) ?_; clear hf
    rintro _ w ⟨A7, n8, c9, vs11, rfl, hn10, hs1⟩ a hf
    have hs : St [] W w [.mat A7 n8 c9 28 2 vs11 r5] := hs.join hs1
    clear hs1
    refine sY hf hs rfl rfl rfl (Y_assign rfl rfl) ?_; clear hf; intro a hf
    refine sY hf hs rfl rfl rfl (Y_assign rfl rfl) ?_; clear hf; intro a hf
    refine wpO_nil ?_
    obtain rfl := Option.some.inj hm
    refine wpL_ret (ret_tmp2 rfl hf rfl rfl ?_)
    exact ⟨_, rfl, A7, n8, c9, vs11, rfl, hn10, hs⟩

set_option maxRecDepth 100000 in
theorem impl_AddMatrices_ok (F : Nat) (p0_a : List (List Int)) (A_p0_a_1 : Option Addr) (n_p0_a_1 c_p0_a_1 : Nat) (hn_p0_a_1 : n_p0_a_1 = p0_a.length) (p1_b : List (List Int)) (A_p1_b_1 : Option Addr) (n_p1_b_1 c_p1_b_1 : Nat) (hn_p1_b_1 : n_p1_b_1 = p1_b.length) (r : List (List Int) × Int) (W : World) (hm : impl_AddMatrices F p0_a p1_b = some r) (h_p0_a_1 : RdM W A_p0_a_1 p0_a) (h_p1_b_1 : RdM W A_p1_b_1 p1_b) :
    Calls Try.prog 33 [.slice A_p0_a_1 n_p0_a_1 c_p0_a_1, .slice A_p1_b_1 n_p1_b_1 c_p1_b_1].toArray W fun e w' => ∃ v, e = .returned v ∧ ∃ A66, ∃ n67, ∃ c68, ∃ vs70, v = .tuple #[.slice A66 n67 c68, .int .i64 r.2] ∧ n67 = r.1.length ∧ St [] W w' [.mat A66 n67 c68 28 2 vs70 r.1] := by
  subst hn_p0_a_1
  subst hn_p1_b_1
  unfold impl_AddMatrices at hm
  refine Calls.enter (N := 33) Try.func33 rfl rfl rfl (fun a hf => ?_)
  have hs := St.start W
  obtain ⟨w, hw_⟩ : ∃ w, w = W := ⟨W, rfl⟩
  clear hw_ w
  refine wpL_seq ?_
  refine wpL_region ?_
  refine sY hf hs rfl rfl rfl (Y_assign rfl rfl) ?_; clear hf; intro a hf
  refine sY hf hs rfl rfl rfl (Y_assign rfl rfl) ?_; clear hf; intro a hf
  refine wpO_nil ?_
  refine wpL_seq ?_
  refine wpL_seq ?_
  obtain ⟨r7, hj8, hm⟩ := bind_some hm
  refine wpL_cut (fun a w => ∃ b6 : Bool, b6 = r7 ∧ Fr a 33 [(0, .slice A_p0_a_1 p0_a.length c_p0_a_1), (1, .slice A_p1_b_1 p1_b.length c_p1_b_1), (13, .bool b6)] ∧ St [] W w []) ?_ ?_
  · refine wpL_region ?_
    refine sY hf hs rfl rfl rfl (Y_move rfl rfl) ?_; clear hf; intro a hf
    obtain ⟨r9, hc10, hj8⟩ := bind_some hj8
    refine sCall hf rfl rfl rfl rfl (cap := []) rfl rfl en91 (impl_IsMatrix_ok F p0_a A_p0_a_1 p0_a.length c_p0_a_1 rfl _ _ hc10 (h_p0_a_1.at hs)) ?_; clear hf
    rintro _ w ⟨rfl, hs1⟩ a hf
    have hs : St [] W w [] := hs.ext hs1.below
    clear hs1
    refine sY hf hs rfl rfl rfl (Y_not rfl rfl) ?_; clear hf; intro a hf
    refine sY hf hs rfl rfl rfl (Y_move rfl rfl) ?_; clear hf; intro a hf
    refine bsplit (!r9) (fun hb11 => ?_) (fun hb11 => ?_)
    · have hj8 := bif_t hj8 hb11
      refine sNo hf rfl rfl rfl (congrArg (fun b => some (Value.bool b)) hb11) rfl rfl rfl ?_; clear hf; intro a hf
      refine sNo hf rfl rfl rfl (congrArg (fun b => some (Value.bool b)) hb11) rfl rfl rfl ?_; clear hf; intro a hf
      refine sNo hf rfl rfl rfl (congrArg (fun b => some (Value.bool b)) hb11) rfl rfl rfl ?_; clear hf; intro a hf
      refine sY hf hs rfl rfl rfl (Y_pickT rfl (congrArg (fun b => some (Value.bool b)) hb11) rfl) ?_; clear hf; intro a hf
      refine wpO_nil ?_
      refine wpL_nil (then_normal ?_)
      exact ⟨true, Option.some.inj hj8, (FrD.pick (FrD.pick (FrD.pick hf.none hf rfl) hf rfl) hf rfl), hs⟩
    · have hj8 := bif_f hj8 hb11
      refine sYg hf hs rfl rfl rfl (congrArg (fun b => some (Value.bool b)) hb11) rfl rfl rfl (Y_move rfl rfl) ?_; clear hf; intro a hf
      obtain ⟨r12, hc13, hj8⟩ := bind_some hj8
      refine sCallg hf rfl rfl rfl (congrArg (fun b => some (Value.bool b)) hb11) rfl rfl rfl rfl (cap := []) rfl rfl en91 (impl_IsMatrix_ok F p1_b A_p1_b_1 p1_b.length c_p1_b_1 rfl _ _ hc13 (h_p1_b_1.at hs)) ?_; clear hf
      rintro _ w ⟨rfl, hs1⟩ a hf
      have hs : St [] W w [] := hs.ext hs1.below
      clear hs1
      refine sYg hf hs rfl rfl rfl (congrArg (fun b => some (Value.bool b)) hb11) rfl rfl rfl (Y_not rfl rfl) ?_; clear hf; intro a hf
      refine sY hf hs rfl rfl rfl (Y_pickF rfl (congrArg (fun b => some (Value.bool b)) hb11) rfl) ?_; clear hf; intro a hf
      refine wpO_nil ?_
      refine wpL_nil (then_normal ?_)
      exact ⟨(!r12), Option.some.inj hj8, (FrD.pick (FrD.pick (FrD.pick hf.none hf rfl) hf rfl) hf rfl), hs⟩
  · rintro a w ⟨b6, hr_, hf, hs⟩
    subst hr_
    try dsimp only at hm
    refine wpL_cond hf rfl (fun hb14 => ?_) (fun hb14 => ?_)
    · have hm := bif_t hm hb14
      refine wpL_seq ?_
      refine wpL_region ?_
      refine sY hf hs rfl rfl rfl (Y_assign rfl rfl) ?_; clear hf; intro a hf
      refine sY hf hs rfl rfl rfl (Y_assign rfl rfl) ?_; clear hf; intro a hf
      refine wpO_nil ?_
      have hs : St [] W _ [.mat none 0 0 28 2 [] ([] : List (List Int))] := hs.addNilM 28 2
      obtain rfl := Option.some.inj hm
      refine wpL_ret (ret_tmp2 rfl hf rfl rfl ?_)
      exact ⟨_, rfl, none, 0, 0, [], rfl, rfl, hs⟩
    · have hm := bif_f hm hb14
      refine wpL_skip ?_
      refine wpL_seq ?_
      refine wpL_seq ?_
      obtain ⟨r36, hj37, hm⟩ := bind_some hm
      refine wpL_cut (fun a w => ∃ b35 : Bool, b35 = r36 ∧ Fr a 33 [(0, .slice A_p0_a_1 p0_a.length c_p0_a_1), (1, .slice A_p1_b_1 p1_b.length c_p1_b_1), (29, .bool b35)] ∧ St [] W w []) ?_ ?_
      · refine wpL_draw (by kernel_rfl) (by kernel_rfl) hs ?_
        refine qY hf rfl rfl rfl (Y_move rfl rfl) ?_; clear hf; intro a hf
        refine qY hf rfl rfl rfl (Y_lenH rfl rfl el40 rfl) ?_; clear hf; intro a hf
        refine qY hf rfl rfl rfl (Y_move rfl rfl) ?_; clear hf; intro a hf
        refine qY hf rfl rfl rfl (Y_lenH rfl rfl el40 rfl) ?_; clear hf; intro a hf
        refine qY hf rfl rfl rfl (Y_neq rfl rfl rfl) ?_; clear hf; intro a hf
        refine qY hf rfl rfl rfl (Y_move rfl rfl) ?_; clear hf; intro a hf
        refine bsplit ((p0_a.length : Int) != (p1_b.length : Int)) (fun hb38 => ?_) (fun hb38 => ?_)
        · have hj37 := bif_t hj37 hb38
          refine qNo hf rfl rfl rfl (congrArg (fun b => some (Value.bool b)) hb38) rfl rfl rfl ?_; clear hf; intro a hf
          refine qNo hf rfl rfl rfl (congrArg (fun b => some (Value.bool b)) hb38) rfl rfl rfl ?_; clear hf; intro a hf
          refine qNo hf rfl rfl rfl (congrArg (fun b => some (Value.bool b)) hb38) rfl rfl rfl ?_; clear hf; intro a hf
          refine qNo hf rfl rfl rfl (congrArg (fun b => some (Value.bool b)) hb38) rfl rfl rfl ?_; clear hf; intro a hf
          refine qNo hf rfl rfl rfl (congrArg (fun b => some (Value.bool b)) hb38) rfl rfl rfl ?_; clear hf; intro a hf
          refine qNo hf rfl rfl rfl (congrArg (fun b => some (Value.bool b)) hb38) rfl rfl rfl ?_; clear hf; intro a hf
          refine qNo hf rfl rfl rfl (congrArg (fun b => some (Value.bool b)) hb38) rfl rfl rfl ?_; clear hf; intro a hf
          refine qNo hf rfl rfl rfl (congrArg (fun b => some (Value.bool b)) hb38) rfl rfl rfl ?_; clear hf; intro a hf
          refine qNo hf rfl rfl rfl (congrArg (fun b => some (Value.bool b)) hb38) rfl rfl rfl ?_; clear hf; intro a hf
          refine qY hf rfl rfl rfl (Y_pickT rfl (congrArg (fun b => some (Value.bool b)) hb38) rfl) ?_; clear hf; intro a hf
          refine qNil ?_; clear hs; intro w hs
          refine wpL_nil (then_normal ?_)
          exact ⟨true, Option.some.inj hj37, (FrD.pick (FrD.pick (FrD.pick hf.none hf rfl) hf rfl) hf rfl), hs⟩
        · have hj37 := bif_f hj37 hb38
          refine qYg hf rfl rfl rfl (congrArg (fun b => some (Value.bool b)) hb38) rfl rfl rfl (Y_move rfl rfl) ?_; clear hf; intro a hf
          obtain ⟨q39, hi40, hj37⟩ := bind_some hj37
          obtain ⟨hi40a, hi40b, hi40q⟩ := idx_some hi40
          obtain ⟨vs41, hv42, hr43⟩ := id h_p0_a_1
          obtain ⟨A44, c45, hv46, hR47⟩ := hr43 _ _ hi40q
          refine qYg hf rfl rfl rfl (congrArg (fun b => some (Value.bool b)) hb38) rfl rfl rfl (Y_index rfl rfl rfl el40 ti28 (Rd.isAt hv42 hv46) hi40a hi40b) ?_; clear hf; intro a hf
          refine qYg hf rfl rfl rfl (congrArg (fun b => some (Value.bool b)) hb38) rfl rfl rfl (Y_load_rd rfl rfl (fun w hs => hv42.at hs) (at1 hv46) ag28) ?_; clear hf; intro a hf
          refine qYg hf rfl rfl rfl (congrArg (fun b => some (Value.bool b)) hb38) rfl rfl rfl (Y_lenH rfl rfl el28 rfl) ?_; clear hf; intro a hf
          refine qYg hf rfl rfl rfl (congrArg (fun b => some (Value.bool b)) hb38) rfl rfl rfl (Y_move rfl rfl) ?_; clear hf; intro a hf
          obtain ⟨q48, hi49, hj37⟩ := bind_some hj37
          obtain ⟨hi49a, hi49b, hi49q⟩ := idx_some hi49
          obtain ⟨vs50, hv51, hr52⟩ := id h_p1_b_1
          obtain ⟨A53, c54, hv55, hR56⟩ := hr52 _ _ hi49q
          refine qYg hf rfl rfl rfl (congrArg (fun b => some (Value.bool b)) hb38) rfl rfl rfl (Y_index rfl rfl rfl el40 ti28 (Rd.isAt hv51 hv55) hi49a hi49b) ?_; clear hf; intro a hf
          refine qYg hf rfl rfl rfl (congrArg (fun b => some (Value.bool b)) hb38) rfl rfl rfl (Y_load_rd rfl rfl (fun w hs => hv51.at hs) (at1 hv55) ag28) ?_; clear hf; intro a hf
          refine qYg hf rfl rfl rfl (congrArg (fun b => some (Value.bool b)) hb38) rfl rfl rfl (Y_lenH rfl rfl el28 rfl) ?_; clear hf; intro a hf
          refine qYg hf rfl rfl rfl (congrArg (fun b => some (Value.bool b)) hb38) rfl rfl rfl (Y_neq rfl rfl rfl) ?_; clear hf; intro a hf
          refine qY hf rfl rfl rfl (Y_pickF rfl (congrArg (fun b => some (Value.bool b)) hb38) rfl) ?_; clear hf; intro a hf
          refine qNil ?_; clear hs; intro w hs
          refine wpL_nil (then_normal ?_)
          exact ⟨((q39.length : Int) != (q48.length : Int)), Option.some.inj hj37, (FrD.pick (FrD.pick (FrD.pick hf.none hf rfl) hf rfl) hf rfl), hs⟩
      · rintro a w ⟨b35, hr_, hf, hs⟩
        subst hr_
        try dsimp only at hm
        refine wpL_cond hf rfl (fun hb57 => ?_) (fun hb57 => ?_)
        · have hm := bif_t hm hb57
          refine wpL_seq ?_
          refine wpL_region ?_
          refine sY hf hs rfl rfl rfl (Y_assign rfl rfl) ?_; clear hf; intro a hf
          refine sY hf hs rfl rfl rfl (Y_assign rfl rfl) ?_; clear hf; intro a hf
          refine wpO_nil ?_
          have hs : St [] W _ [.mat none 0 0 28 2 [] ([] : List (List Int))] := hs.addNilM 28 2
          obtain rfl := Option.some.inj hm
          refine wpL_ret (ret_tmp2 rfl hf rfl rfl ?_)
          exact ⟨_, rfl, none, 0, 0, [], rfl, rfl, hs⟩
        · have hm := bif_f hm hb57
          refine wpL_skip ?_
          refine wpL_seq ?_
          refine wpL_region ?_
          refine sY hf hs rfl rfl rfl (Y_move rfl rfl) ?_; clear hf; intro a hf
          refine sY hf hs rfl rfl rfl (Y_move rfl rfl) ?_; clear hf; intro a hf
          obtain ⟨r59, hc60, hm⟩ := bind_some hm
          refine sCall hf rfl rfl rfl rfl (cap := []) rfl rfl en92 (impl_addMatrices_ok F p0_a A_p0_a_1 p0_a.length c_p0_a_1 rfl p1_b A_p1_b_1 p1_b.length c_p1_b_1 rfl _ _ hc60 (h_p0_a_1.at hs) (h_p1_b_1.at hs)) ?_; clear hf
          rintro _ w ⟨A61, n62, c63, vs65, rfl, hn64, hs1⟩ a hf
          have hs : St [] W w [.mat A61 n62 c63 28 2 vs65 r59] := hs.join hs1
          clear hs1
          refine sY hf hs rfl rfl rfl (Y_assign rfl rfl) ?_; clear hf; intro a hf
          refine sY hf hs rfl rfl rfl (Y_assign rfl rfl) ?_; clear hf; intro a hf
          refine wpO_nil ?_
          obtain rfl := Option.some.inj hm
          refine wpL_ret (ret_tmp2 rfl hf rfl rfl ?_)
          exact ⟨_, rfl, A61, n62, c63, vs65, rfl, hn64, hs⟩

set_option maxHeartbeats 2000000 in
set_option maxRecDepth 100000 in
theorem laws_FnStars_ok (F : Nat) (p0 : List Int) (A_p0_1 : Option Addr) (n_p0_1 c_p0_1 : Nat) (hn_p0_1 : n_p0_1 = p0.length) (r : Bool) (W : World) (hm : laws_FnStars F p0 = some r) (h_p0_1 : Rd W A_p0_1 (bytes p0)) :
    Calls Try.prog 4 [.slice A_p0_1 n_p0_1 c_p0_1].toArray W fun e w' => ∃ v, e = .returned v ∧ v = .bool r ∧ St [] W w' [] := by
  subst hn_p0_1
  unfold laws_FnStars at hm
  refine Calls.enter (N := 131) Try.func4 rfl rfl rfl (fun a hf => ?_)
  have hs := St.start W
  obtain ⟨w, hw_⟩ : ∃ w, w = W := ⟨W, rfl⟩
  clear hw_ w
  refine wpL_seq ?_
  refine wpL_region ?_
  refine sY hf hs rfl rfl rfl (Y_assign rfl rfl) ?_; clear hf; intro a hf
  refine wpO_nil ?_
  refine wpL_seq ?_
  refine wpL_seq ?_
  refine wpL_region ?_
  refine sY hf hs rfl rfl rfl (Y_move rfl rfl) ?_; clear hf; intro a hf
  obtain ⟨r1, hc2, hm⟩ := bind_some hm
  refine sCall hf rfl rfl rfl rfl (cap := []) rfl rfl en9 (laws_big_ok F p0 A_p0_1 p0.length c_p0_1 rfl _ _ hc2 (h_p0_1.at hs)) ?_; clear hf
  rintro _ w ⟨rfl, hs1⟩ a hf
  have hs : St [] W w [] := hs.ext hs1.below
  clear hs1
  refine wpO_nil ?_
  refine wpL_cond hf rfl (fun hb3 => ?_) (fun hb3 => ?_)
  · have hm := bif_t hm hb3
    refine wpL_seq ?_
    refine wpL_region ?_
    refine sY hf hs rfl rfl rfl (Y_assign rfl rfl) ?_; clear hf; intro a hf
    refine wpO_nil ?_
    obtain rfl := Option.some.inj hm
    refine wpL_ret (ret_tmp rfl hf rfl ?_)
    exact ⟨_, rfl, rfl, hs⟩
  · have hm := bif_f hm hb3
    refine wpL_skip ?_
    refine wpL_seq ?_
    refine wpL_region ?_
    refine sY hf hs rfl rfl rfl (Y_move rfl rfl) ?_; clear hf; intro a hf
    obtain ⟨r4, hc5, hm⟩ := bind_some hm
    refine sCall hf rfl rfl rfl rfl (cap := []) rfl rfl en24 (spec_DrawStarMatrix_ok F p0 A_p0_1 p0.length c_p0_1 rfl _ _ hc5 (h_p0_1.at hs)) ?_; clear hf
    rintro _ w ⟨A6, n7, c8, vs10, rfl, hn9, hs1⟩ a hf
    have hs : St [] W w [.mat A6 n7 c8 28 2 vs10 r4] := hs.join hs1
    clear hs1
    refine sY hf hs rfl rfl rfl (Y_assign rfl rfl) ?_; clear hf; intro a hf
    refine wpO_nil ?_
    refine wpL_seq ?_
    refine wpL_region ?_
    refine sY hf hs rfl rfl rfl (Y_move rfl rfl) ?_; clear hf; intro a hf
    obtain ⟨r11, hc12, hm⟩ := bind_some hm
    refine sCall hf rfl rfl rfl rfl (cap := []) rfl rfl en25 (impl_StarMatrix_ok F r4 A6 n7 c8 hn9 _ _ hc12 (hs.rdM (i := 0) rfl)) ?_; clear hf
    rintro _ w ⟨A13, n14, c15, vs17, rfl, hn16, hs1⟩ a hf
    have hs : St [] W w [.mat A6 n7 c8 28 2 vs10 r4, .mat A13 n14 c15 28 2 vs17 r11.1] := hs.join hs1
    clear hs1
    refine sY hf hs rfl rfl rfl (Y_move rfl rfl) ?_; clear hf; intro a hf
    refine sY hf hs rfl rfl rfl (Y_extract rfl rfl rfl) ?_; clear hf; intro a hf
    refine sY hf hs rfl rfl rfl (Y_extract rfl rfl rfl) ?_; clear hf; intro a hf
    refine sY hf hs rfl rfl rfl (Y_assign rfl rfl) ?_; clear hf; intro a hf
    refine sY hf hs rfl rfl rfl (Y_assign rfl rfl) ?_; clear hf; intro a hf
    refine wpO_nil ?_
    refine wpL_seq ?_
    refine wpL_region ?_
    refine sY hf hs rfl rfl rfl (Y_move rfl rfl) ?_; clear hf; intro a hf
    obtain ⟨r18, hc19, hm⟩ := bind_some hm
    refine sCall hf rfl rfl rfl rfl (cap := []) rfl rfl en26 (spec_StarMatrix_ok F r4 A6 n7 c8 hn9 _ _ hc19 (hs.rdM (i := 0) rfl)) ?_; clear hf
    rintro _ w ⟨A20, n21, c22, vs24, rfl, hn23, hs1⟩ a hf
    have hs : St [] W w [.mat A6 n7 c8 28 2 vs10 r4, .mat A13 n14 c15 28 2 vs17 r11.1, .mat A20 n21 c22 28 2 vs24 r18.1] := hs.join hs1
    clear hs1
    refine sY hf hs rfl rfl rfl (Y_move rfl rfl) ?_; clear hf; intro a hf
    refine sY hf hs rfl rfl rfl (Y_extract rfl rfl rfl) ?_; clear hf; intro a hf
    refine sY hf hs rfl rfl rfl (Y_extract rfl rfl rfl) ?_; clear hf; intro a hf
    refine sY hf hs rfl rfl rfl (Y_assign rfl rfl) ?_; clear hf; intro a hf
    refine sY hf hs rfl rfl rfl (Y_assign rfl rfl) ?_; clear hf; intro a hf
    refine wpO_nil ?_
    refine wpL_seq ?_
    refine wpL_region ?_
    refine sY hf hs rfl rfl rfl (Y_move rfl rfl) ?_; clear hf; intro a hf
    obtain ⟨r25, hc26, hm⟩ := bind_some hm
    refine sCall hf rfl rfl rfl rfl (cap := []) rfl rfl en27 (impl_PlusMatrix_ok F r4 A6 n7 c8 hn9 _ _ hc26 (hs.rdM (i := 0) rfl)) ?_; clear hf
    rintro _ w ⟨A27, n28, c29, vs31, rfl, hn30, hs1⟩ a hf
    have hs : St [] W w [.mat A6 n7 c8 28 2 vs10 r4, .mat A13 n14 c15 28 2 vs17 r11.1, .mat A20 n21 c22 28 2 vs24 r18.1, .mat A27 n28 c29 28 2 vs31 r25.1] := hs.join hs1
    clear hs1
    refine sY hf hs rfl rfl rfl (Y_move rfl rfl) ?_; clear hf; intro a hf
    refine sY hf hs rfl rfl rfl (Y_extract rfl rfl rfl) ?_; clear hf; intro a hf
    refine sY hf hs rfl rfl rfl (Y_extract rfl rfl rfl) ?_; clear hf; intro a hf
    refine sY hf hs rfl rfl rfl (Y_assign rfl rfl) ?_; clear hf; intro a hf
    refine sY hf hs rfl rfl rfl (Y_assign rfl rfl) ?_; clear hf; intro a hf
    refine wpO_nil ?_
    refine wpL_seq ?_
    refine wpL_region ?_
    refine sY hf hs rfl rfl rfl (Y_move rfl rfl) ?_; clear hf; intro a hf
    obtain ⟨r32, hc33, hm⟩ := bind_some hm
    refine sCall hf rfl rfl rfl rfl (cap := []) rfl rfl en28 (spec_PlusMatrix_ok F r4 A6 n7 c8 hn9 _ _ hc33 (hs.rdM (i := 0) rfl)) ?_; clear hf
    rintro _ w ⟨A34, n35, c36, vs38, rfl, hn37, hs1⟩ a hf
    have hs : St [] W w [.mat A6 n7 c8 28 2 vs10 r4, .mat A13 n14 c15 28 2 vs17 r11.1, .mat A20 n21 c22 28 2 vs24 r18.1, .mat A27 n28 c29 28 2 vs31 r25.1, .mat A34 n35 c36 28 2 vs38 r32.1] := hs.join hs1
    clear hs1
    refine sY hf hs rfl rfl rfl (Y_move rfl rfl) ?_; clear hf; intro a hf
    refine sY hf hs rfl rfl rfl (Y_extract rfl rfl rfl) ?_; clear hf; intro a hf
    refine sY hf hs rfl rfl rfl (Y_extract rfl rfl rfl) ?_; clear hf; intro a hf
    refine sY hf hs rfl rfl rfl (Y_assign rfl rfl) ?_; clear hf; intro a hf
    refine sY hf hs rfl rfl rfl (Y_assign rfl rfl) ?_; clear hf; intro a hf
    refine wpO_nil ?_
    refine wpL_seq ?_
    refine wpL_region ?_
    refine sY hf hs rfl rfl rfl (Y_move rfl rfl) ?_; clear hf; intro a hf
    obtain ⟨r39, hc40, hm⟩ := bind_some hm
    refine sCall hf rfl rfl rfl rfl (cap := []) rfl rfl en29 (impl_PositiveCycle_ok F r4 A6 n7 c8 hn9 _ _ hc40 (hs.rdM (i := 0) rfl)) ?_; clear hf
    rintro _ w ⟨A41, n42, c43, rfl, hn44, hs1⟩ a hf
    have hs : St [] W w [.mat A6 n7 c8 28 2 vs10 r4, .mat A13 n14 c15 28 2 vs17 r11.1, .mat A20 n21 c22 28 2 vs24 r18.1, .mat A27 n28 c29 28 2 vs31 r25.1, .mat A34 n35 c36 28 2 vs38 r32.1, .row A41 n42 c43 2 1 (ints r39.1)] := hs.join hs1
    clear hs1
    refine sY hf hs rfl rfl rfl (Y_move rfl rfl) ?_; clear hf; intro a hf
    refine sY hf hs rfl rfl rfl (Y_extract rfl rfl rfl) ?_; clear hf; intro a hf
    refine sY hf hs rfl rfl rfl (Y_extract rfl rfl rfl) ?_; clear hf; intro a hf
    refine sY hf hs rfl rfl rfl (Y_assign rfl rfl) ?_; clear hf; intro a hf
    refine sY hf hs rfl rfl rfl (Y_assign rfl rfl) ?_; clear hf; intro a hf
    refine wpO_nil ?_
    refine wpL_seq ?_
    refine wpL_region ?_
    refine sY hf hs rfl rfl rfl (Y_move rfl rfl) ?_; clear hf; intro a hf
    obtain ⟨r45, hc46, hm⟩ := bind_some hm
    refine sCall hf rfl rfl rfl rfl (cap := []) rfl rfl en30 (spec_PositiveCycle_ok F r4 A6 n7 c8 hn9 _ _ hc46 (hs.rdM (i := 0) rfl)) ?_; clear hf
    rintro _ w ⟨A47, n48, c49, rfl, hn50, hs1⟩ a hf
    have hs : St [] W w [.mat A6 n7 c8 28 2 vs10 r4, .mat A13 n14 c15 28 2 vs17 r11.1, .mat A20 n21 c22 28 2 vs24 r18.1, .mat A27 n28 c29 28 2 vs31 r25.1, .mat A34 n35 c36 28 2 vs38 r32.1, .row A41 n42 c43 2 1 (ints r39.1), .row A47 n48 c49 2 1 (ints r45.1)] := hs.join hs1
    clear hs1
    refine sY hf hs rfl rfl rfl (Y_move rfl rfl) ?_; clear hf; intro a hf
    refine sY hf hs rfl rfl rfl (Y_extract rfl rfl rfl) ?_; clear hf; intro a hf
    refine sY hf hs rfl rfl rfl (Y_extract rfl rfl rfl) ?_; clear hf; intro a hf
    refine sY hf hs rfl rfl rfl (Y_assign rfl rfl) ?_; clear hf; intro a hf
    refine sY hf hs rfl rfl rfl (Y_assign rfl rfl) ?_; clear hf; intro a hf
    refine wpO_nil ?_
    refine wpL_seq ?_
    refine wpL_seq ?_
    obtain ⟨r63, hj64, hm⟩ := bind_some hm
    refine wpL_cut (fun a w => ∃ b62 : Bool, b62 = r63 ∧ Fr a 131 [(3, .slice A6 n7 c8), (4, .slice A13 n14 c15), (5, .int .i64 r11.2), (8, .slice A27 n28 c29), (9, .int .i64 r25.2), (13, .int .i64 r39.2), (84, .bool b62)] ∧ St [] W w [.mat A6 n7 c8 28 2 vs10 r4, .mat A13 n14 c15 28 2 vs17 r11.1, .mat A27 n28 c29 28 2 vs31 r25.1]) ?_ ?_
    · refine wpL_region ?_
      refine sY hf hs rfl rfl rfl (Y_move rfl rfl) ?_; clear hf; intro a hf
      refine sY hf hs rfl rfl rfl (Y_move rfl rfl) ?_; clear hf; intro a hf
      refine sY hf hs rfl rfl rfl (Y_neq rfl rfl rfl) ?_; clear hf; intro a hf
      refine sY hf hs rfl rfl rfl (Y_move rfl rfl) ?_; clear hf; intro a hf
      refine bsplit (r11.2 != r18.2) (fun hb65 => ?_) (fun hb65 => ?_)
      · have hj64 := bif_t hj64 hb65
        refine sNo hf rfl rfl rfl (congrArg (fun b => some (Value.bool b)) hb65) rfl rfl rfl ?_; clear hf; intro a hf
        refine sNo hf rfl rfl rfl (congrArg (fun b => some (Value.bool b)) hb65) rfl rfl rfl ?_; clear hf; intro a hf
        refine sNo hf rfl rfl rfl (congrArg (fun b => some (Value.bool b)) hb65) rfl rfl rfl ?_; clear hf; intro a hf
        refine sNo hf rfl rfl rfl (congrArg (fun b => some (Value.bool b)) hb65) rfl rfl rfl ?_; clear hf; intro a hf
        refine sY hf hs rfl rfl rfl (Y_pickT rfl (congrArg (fun b => some (Value.bool b)) hb65) rfl) ?_; clear hf; intro a hf
        refine sY hf hs rfl rfl rfl (Y_move rfl rfl) ?_; clear hf; intro a hf
        refine sNo hf rfl rfl rfl rfl rfl rfl rfl ?_; clear hf; intro a hf
        refine sNo hf rfl rfl rfl rfl rfl rfl rfl ?_; clear hf; intro a hf
        refine sNo hf rfl rfl rfl rfl rfl rfl rfl ?_; clear hf; intro a hf
        refine sY hf hs rfl rfl rfl (Y_pickT rfl rfl rfl) ?_; clear hf; intro a hf
        refine sY hf hs rfl rfl rfl (Y_move rfl rfl) ?_; clear hf; intro a hf
        refine sNo hf rfl rfl rfl rfl rfl rfl rfl ?_; clear hf; intro a hf
        refine sNo hf rfl rfl rfl rfl rfl rfl rfl ?_; clear hf; intro a hf
        refine sNo hf rfl rfl rfl rfl rfl rfl rfl ?_; clear hf; intro a hf
        refine sNo hf rfl rfl rfl rfl rfl rfl rfl ?_; clear hf; intro a hf
        refine sY hf hs rfl rfl rfl (Y_pickT rfl rfl rfl) ?_; clear hf; intro a hf
        refine sY hf hs rfl rfl rfl (Y_move rfl rfl) ?_; clear hf; intro a hf
        refine sNo hf rfl rfl rfl rfl rfl rfl rfl ?_; clear hf; intro a hf
        refine sNo hf rfl rfl rfl rfl rfl rfl rfl ?_; clear hf; intro a hf
        refine sNo hf rfl rfl rfl rfl rfl rfl rfl ?_; clear hf; intro a hf
        refine sY hf hs rfl rfl rfl (Y_pickT rfl rfl rfl) ?_; clear hf; intro a hf
        refine sY hf hs rfl rfl rfl (Y_move rfl rfl) ?_; clear hf; intro a hf
        refine sNo hf rfl rfl rfl rfl rfl rfl rfl ?_; clear hf; intro a hf
        refine sNo hf rfl rfl rfl rfl rfl rfl rfl ?_; clear hf; intro a hf
        refine sNo hf rfl rfl rfl rfl rfl rfl rfl ?_; clear hf; intro a hf
        refine sNo hf rfl rfl rfl rfl rfl rfl rfl ?_; clear hf; intro a hf
        refine sY hf hs rfl rfl rfl (Y_pickT rfl rfl rfl) ?_; clear hf; intro a hf
        refine wpO_nil ?_
        refine wpL_nil (then_normal ?_)
        exact ⟨true, Option.some.inj hj64, (FrD.pick (FrD.pick (FrD.pick (FrD.pick (FrD.pick (FrD.pick (FrD.pick hf.none hf rfl) hf rfl) hf rfl) hf rfl) hf rfl) hf rfl) hf rfl), hs.sel [0, 1, 3] (by decide)⟩
      · have hj64 := bif_f hj64 hb65
        refine sYg hf hs rfl rfl rfl (congrArg (fun b => some (Value.bool b)) hb65) rfl rfl rfl (Y_move rfl rfl) ?_; clear hf; intro a hf
        refine sYg hf hs rfl rfl rfl (congrArg (fun b => some (Value.bool b)) hb65) rfl rfl rfl (Y_move rfl rfl) ?_; clear hf; intro a hf
        obtain ⟨r66, hc67, hj64⟩ := bind_some hj64
        refine sCallg hf rfl rfl rfl (congrArg (fun b => some (Value.bool b)) hb65) rfl rfl rfl rfl (cap := []) rfl rfl en31 (laws_likeTables9_ok F r11.1 A13 n14 c15 hn16 r18.1 A20 n21 c22 hn23 _ _ hc67 (hs.rdM (i := 1) rfl) (hs.rdM (i := 2) rfl)) ?_; clear hf
        rintro _ w ⟨rfl, hs1⟩ a hf
        have hs : St [] W w [.mat A6 n7 c8 28 2 vs10 r4, .mat A13 n14 c15 28 2 vs17 r11.1, .mat A20 n21 c22 28 2 vs24 r18.1, .mat A27 n28 c29 28 2 vs31 r25.1, .mat A34 n35 c36 28 2 vs38 r32.1, .row A41 n42 c43 2 1 (ints r39.1), .row A47 n48 c49 2 1 (ints r45.1)] := hs.ext hs1.below
        clear hs1
        refine sYg hf hs rfl rfl rfl (congrArg (fun b => some (Value.bool b)) hb65) rfl rfl rfl (Y_not rfl rfl) ?_; clear hf; intro a hf
        refine sY hf hs rfl rfl rfl (Y_pickF rfl (congrArg (fun b => some (Value.bool b)) hb65) rfl) ?_; clear hf; intro a hf
        refine sY hf hs rfl rfl rfl (Y_move rfl rfl) ?_; clear hf; intro a hf
        refine bsplit (!r66) (fun hb68 => ?_) (fun hb68 => ?_)
        · have hj64 := bif_t hj64 hb68
          refine sNo hf rfl rfl rfl (congrArg (fun b => some (Value.bool b)) hb68) rfl rfl rfl ?_; clear hf; intro a hf
          refine sNo hf rfl rfl rfl (congrArg (fun b => some (Value.bool b)) hb68) rfl rfl rfl ?_; clear hf; intro a hf
          refine sNo hf rfl rfl rfl (congrArg (fun b => some (Value.bool b)) hb68) rfl rfl rfl ?_; clear hf; intro a hf
          refine sY hf hs rfl rfl rfl (Y_pickT rfl (congrArg (fun b => some (Value.bool b)) hb68) rfl) ?_; clear hf; intro a hf
          refine sY hf hs rfl rfl rfl (Y_move rfl rfl) ?_; clear hf; intro a hf
          refine sNo hf rfl rfl rfl rfl rfl rfl rfl ?_; clear hf; intro a hf
          refine sNo hf rfl rfl rfl rfl rfl rfl rfl ?_; clear hf; intro a hf
          refine sNo hf rfl rfl rfl rfl rfl rfl rfl ?_; clear hf; intro a hf
          refine sNo hf rfl rfl rfl rfl rfl rfl rfl ?_; clear hf; intro a hf
          refine sY hf hs rfl rfl rfl (Y_pickT rfl rfl rfl) ?_; clear hf; intro a hf
          refine sY hf hs rfl rfl rfl (Y_move rfl rfl) ?_; clear hf; intro a hf
          refine sNo hf rfl rfl rfl rfl rfl rfl rfl ?_; clear hf; intro a hf
          refine sNo hf rfl rfl rfl rfl rfl rfl rfl ?_; clear hf; intro a hf
          refine sNo hf rfl rfl rfl rfl rfl rfl rfl ?_; clear hf; intro a hf
          refine sY hf hs rfl rfl rfl (Y_pickT rfl rfl rfl) ?_; clear hf; intro a hf
          refine sY hf hs rfl rfl rfl (Y_move rfl rfl) ?_; clear hf; intro a hf
          refine sNo hf rfl rfl rfl rfl rfl rfl rfl ?_; clear hf; intro a hf
          refine sNo hf rfl rfl rfl rfl rfl rfl rfl ?_; clear hf; intro a hf
          refine sNo hf rfl rfl rfl rfl rfl rfl rfl ?_; clear hf; intro a hf
          refine sNo hf rfl rfl rfl rfl rfl rfl rfl ?_; clear hf; intro a hf
          refine sY hf hs rfl rfl rfl (Y_pickT rfl rfl rfl) ?_; clear hf; intro a hf
          refine wpO_nil ?_
          refine wpL_nil (then_normal ?_)
          exact ⟨true, Option.some.inj hj64, (FrD.pick (FrD.pick (FrD.pick (FrD.pick (FrD.pick (FrD.pick (FrD.pick hf.none hf rfl) hf rfl) hf rfl) hf rfl) hf rfl) hf rfl) hf rfl), hs.sel [0, 1, 3] (by decide)⟩
        · have hj64 := bif_f hj64 hb68
          refine sYg hf hs rfl rfl rfl (congrArg (fun b => some (Value.bool b)) hb68) rfl rfl rfl (Y_move rfl rfl) ?_; clear hf; intro a hf
          refine sYg hf hs rfl rfl rfl (congrArg (fun b => some (Value.bool b)) hb68) rfl rfl rfl (Y_move rfl rfl) ?_; clear hf; intro a hf
          refine sYg hf hs rfl rfl rfl (congrArg (fun b => some (Value.bool b)) hb68) rfl rfl rfl (Y_neq rfl rfl rfl) ?_; clear hf; intro a hf
          refine sY hf hs rfl rfl rfl (Y_pickF rfl (congrArg (fun b => some (Value.bool b)) hb68) rfl) ?_; clear hf; intro a hf
          refine sY hf hs rfl rfl rfl (Y_move rfl rfl) ?_; clear hf; intro a hf
          refine bsplit (r25.2 != r32.2) (fun hb69 => ?_) (fun hb69 => ?_)
          · have hj64 := bif_t hj64 hb69
            refine sNo hf rfl rfl rfl (congrArg (fun b => some (Value.bool b)) hb69) rfl rfl rfl ?_; clear hf; intro a hf
            refine sNo hf rfl rfl rfl (congrArg (fun b => some (Value.bool b)) hb69) rfl rfl rfl ?_; clear hf; intro a hf
            refine sNo hf rfl rfl rfl (congrArg (fun b => some (Value.bool b)) hb69) rfl rfl rfl ?_; clear hf; intro a hf
            refine sNo hf rfl rfl rfl (congrArg (fun b => some (Value.bool b)) hb69) rfl rfl rfl ?_; clear hf; intro a hf
            refine sY hf hs rfl rfl rfl (Y_pickT rfl (congrArg (fun b => some (Value.bool b)) hb69) rfl) ?_; clear hf; intro a hf
            refine sY hf hs rfl rfl rfl (Y_move rfl rfl) ?_; clear hf; intro a hf
            refine sNo hf rfl rfl rfl rfl rfl rfl rfl ?_; clear hf; intro a hf
            refine sNo hf rfl rfl rfl rfl rfl rfl rfl ?_; clear hf; intro a hf
            refine sNo hf rfl rfl rfl rfl rfl rfl rfl ?_; clear hf; intro a hf
            refine sY hf hs rfl rfl rfl (Y_pickT rfl rfl rfl) ?_; clear hf; intro a hf
            refine sY hf hs rfl rfl rfl (Y_move rfl rfl) ?_; clear hf; intro a hf
            refine sNo hf rfl rfl rfl rfl rfl rfl rfl ?_; clear hf; intro a hf
            refine sNo hf rfl rfl rfl rfl rfl rfl rfl ?_; clear hf; intro a hf
            refine sNo hf rfl rfl rfl rfl rfl rfl rfl ?_; clear hf; intro a hf
            refine sNo hf rfl rfl rfl rfl rfl rfl rfl ?_; clear hf; intro a hf
            refine sY hf hs rfl rfl rfl (Y_pickT rfl rfl rfl) ?_; clear hf; intro a hf
            refine wpO_nil ?_
            refine wpL_nil (then_normal ?_)
            exact ⟨true, Option.some.inj hj64, (FrD.pick (FrD.pick (FrD.pick (FrD.pick (FrD.pick (FrD.pick (FrD.pick hf.none hf rfl) hf rfl) hf rfl) hf rfl) hf rfl) hf rfl) hf rfl), hs.sel [0, 1, 3] (by decide)⟩
          · have hj64 := bif_f hj64 hb69
            refine sYg hf hs rfl rfl rfl (congrArg (fun b => some (Value.bool b)) hb69) rfl rfl rfl (Y_move rfl rfl) ?_; clear hf; intro a hf
            refine sYg hf hs rfl rfl rfl (congrArg (fun b => some (Value.bool b)) hb69) rfl rfl rfl (Y_move rfl rfl) ?_; clear hf; intro a hf
            obtain ⟨r70, hc71, hj64⟩ := bind_some hj64
            refine sCallg hf rfl rfl rfl (congrArg (fun b => some (Value.bool b)) hb69) rfl rfl rfl rfl (cap := []) rfl rfl en31 (laws_likeTables9_ok F r25.1 A27 n28 c29 hn30 r32.1 A34 n35 c36 hn37 _ _ hc71 (hs.rdM (i := 3) rfl) (hs.rdM (i := 4) rfl)) ?_; clear hf
            rintro _ w ⟨rfl, hs1⟩ a hf
            have hs : St [] W w [.mat A6 n7 c8 28 2 vs10 r4, .mat A13 n14 c15 28 2 vs17 r11.1, .mat A20 n21 c22 28 2 vs24 r18.1, .mat A27 n28 c29 28 2 vs31 r25.1, .mat A34 n35 c36 28 2 vs38 r32.1, .row A41 n42 c43 2 1 (ints r39.1), .row A47 n48 c49 2 1 (ints r45.1)] := hs.ext hs1.below
            clear hs1
            refine sYg hf hs rfl rfl rfl (congrArg (fun b => some (Value.bool b)) hb69) rfl rfl rfl (Y_not rfl rfl) ?_; clear hf; intro a hf
            refine sY hf hs rfl rfl rfl (Y_pickF rfl (congrArg (fun b => some (Value.bool b)) hb69) rfl) ?_; clear hf; intro a hf
            refine sY hf hs rfl rfl rfl (Y_move rfl rfl) ?_; clear hf; intro a hf
            refine bsplit (!r70) (fun hb72 => ?_) (fun hb72 => ?_)
            · have hj64 := bif_t hj64 hb72
              refine sNo hf rfl rfl rfl (congrArg (fun b => some (Value.bool b)) hb72) rfl rfl rfl ?_; clear hf; intro a hf
              refine sNo hf rfl rfl rfl (congrArg (fun b => some (Value.bool b)) hb72) rfl rfl rfl ?_; clear hf; intro a hf
              refine sNo hf rfl rfl rfl (congrArg (fun b => some (Value.bool b)) hb72) rfl rfl rfl ?_; clear hf; intro a hf
              refine sY hf hs rfl rfl rfl (Y_pickT rfl (congrArg (fun b => some (Value.bool b)) hb72) rfl) ?_; clear hf; intro a hf
              refine sY hf hs rfl rfl rfl (Y_move rfl rfl) ?_; clear hf; intro a hf
              refine sNo hf rfl rfl rfl rfl rfl rfl rfl ?_; clear hf; intro a hf
              refine sNo hf rfl rfl rfl rfl rfl rfl rfl ?_; clear hf; intro a hf
              refine sNo hf rfl rfl rfl rfl rfl rfl rfl ?_; clear hf; intro a hf
              refine sNo hf rfl rfl rfl rfl rfl rfl rfl ?_; clear hf; intro a hf
              refine sY hf hs rfl rfl rfl (Y_pickT rfl rfl rfl) ?_; clear hf; intro a hf
              refine wpO_nil ?_
              refine wpL_nil (then_normal ?_)
              exact ⟨true, Option.some.inj hj64, (FrD.pick (FrD.pick (FrD.pick (FrD.pick (FrD.pick (FrD.pick (FrD.pick hf.none hf rfl) hf rfl) hf rfl) hf rfl) hf rfl) hf rfl) hf rfl), hs.sel [0, 1, 3] (by decide)⟩
            · have hj64 := bif_f hj64 hb72
              refine sYg hf hs rfl rfl rfl (congrArg (fun b => some (Value.bool b)) hb72) rfl rfl rfl (Y_move rfl rfl) ?_; clear hf; intro a hf
              refine sYg hf hs rfl rfl rfl (congrArg (fun b => some (Value.bool b)) hb72) rfl rfl rfl (Y_move rfl rfl) ?_; clear hf; intro a hf
              refine sYg hf hs rfl rfl rfl (congrArg (fun b => some (Value.bool b)) hb72) rfl rfl rfl (Y_neq rfl rfl rfl) ?_; clear hf; intro a hf
              refine sY hf hs rfl rfl rfl (Y_pickF rfl (congrArg (fun b => some (Value.bool b)) hb72) rfl) ?_; clear hf; intro a hf
              refine sY hf hs rfl rfl rfl (Y_move rfl rfl) ?_; clear hf; intro a hf
              refine bsplit (r39.2 != r45.2) (fun hb73 => ?_) (fun hb73 => ?_)
              · have hj64 := bif_t hj64 hb73
                refine sNo hf rfl rfl rfl (congrArg (fun b => some (Value.bool b)) hb73) rfl rfl rfl ?_; clear hf; intro a hf
                refine sNo hf rfl rfl rfl (congrArg (fun b => some (Value.bool b)) hb73) rfl rfl rfl ?_; clear hf; intro a hf
                refine sNo hf rfl rfl rfl (congrArg (fun b => some (Value.bool b)) hb73) rfl rfl rfl ?_; clear hf; intro a hf
                refine sNo hf rfl rfl rfl (congrArg (fun b => some (Value.bool b)) hb73) rfl rfl rfl ?_; clear hf; intro a hf
                refine sY hf hs rfl rfl rfl (Y_pickT rfl (congrArg (fun b => some (Value.bool b)) hb73) rfl) ?_; clear hf; intro a hf
                refine wpO_nil ?_
                refine wpL_nil (then_normal ?_)
                exact ⟨true, Option.some.inj hj64, (FrD.pick (FrD.pick (FrD.pick (FrD.pick (FrD.pick (FrD.pick (FrD.pick hf.none hf rfl) hf rfl) hf rfl) hf rfl) hf rfl) hf rfl) hf rfl), hs.sel [0, 1, 3] (by decide)⟩
              · have hj64 := bif_f hj64 hb73
                refine sYg hf hs rfl rfl rfl (congrArg (fun b => some (Value.bool b)) hb73) rfl rfl rfl (Y_move rfl rfl) ?_; clear hf; intro a hf
                refine sYg hf hs rfl rfl rfl (congrArg (fun b => some (Value.bool b)) hb73) rfl rfl rfl (Y_move rfl rfl) ?_; clear hf; intro a hf
                obtain ⟨r74, hc75, hj64⟩ := bind_some hj64
                refine sCallg hf rfl rfl rfl (congrArg (fun b => some (Value.bool b)) hb73) rfl rfl rfl rfl (cap := []) rfl rfl en21 (laws_likeInts_ok F r39.1 A41 n42 c43 hn44 r45.1 A47 n48 c49 hn50 _ _ hc75 (hs.rd (i := 5) rfl) (hs.rd (i := 6) rfl)) ?_; clear hf
                rintro _ w ⟨rfl, hs1⟩ a hf
                have hs : St [] W w [.mat A6 n7 c8 28 2 vs10 r4, .mat A13 n14 c15 28 2 vs17 r11.1, .mat A20 n21 c22 28 2 vs24 r18.1, .mat A27 n28 c29 28 2 vs31 r25.1, .mat A34 n35 c36 28 2 vs38 r32.1, .row A41 n42 c43 2 1 (ints r39.1), .row A47 n48 c49 2 1 (ints r45.1)] := hs.ext hs1.below
                clear hs1
                refine sYg hf hs rfl rfl rfl (congrArg (fun b => some (Value.bool b)) hb73) rfl rfl rfl (Y_not rfl rfl) ?_; clear hf; intro a hf
                refine sY hf hs rfl rfl rfl (Y_pickF rfl (congrArg (fun b => some (Value.bool b)) hb73) rfl) ?_; clear hf; intro a hf
                refine wpO_nil ?_
                refine wpL_nil (then_normal ?_)
                exact ⟨(!r74), Option.some.inj hj64, (FrD.pick (FrD.pick (FrD.pick (FrD.pick (FrD.pick (FrD.pick (FrD.pick hf.none hf rfl) hf rfl) hf rfl) hf rfl) hf rfl) hf rfl) hf rfl), hs.sel [0, 1, 3] (by decide)⟩
    · rintro a w ⟨b62, hr_, hf, hs⟩
      subst hr_
      try dsimp only at hm
      refine wpL_cond hf rfl (fun hb76 => ?_) (fun hb76 => ?_)
      · have hm := bif_t hm hb76
        refine wpL_seq ?_
        refine wpL_region ?_
        refine sY hf hs rfl rfl rfl (Y_assign rfl rfl) ?_; clear hf; intro a hf
        refine wpO_nil ?_
        obtain rfl := Option.some.inj hm
        refine wpL_ret (ret_tmp rfl hf rfl ?_)
        exact ⟨_, rfl, rfl, hs.sel [] (by decide)⟩
      · have hm := bif_f hm hb76
        refine wpL_skip ?_
        refine wpL_seq ?_
        refine wpL_seq ?_
        refine wpL_region ?_
        refine sY hf hs rfl rfl rfl (Y_move rfl rfl) ?_; clear hf; intro a hf
        refine sY hf hs rfl rfl rfl (Y_eql rfl rfl rfl) ?_; clear hf; intro a hf
        refine wpO_nil ?_
        refine wpL_cond hf rfl (fun hb77 => ?_) (fun hb77 => ?_)
        · have hm := bif_t hm hb77
          refine wpL_seq ?_
          refine wpL_region ?_
          refine sY hf hs rfl rfl rfl (Y_move rfl rfl) ?_; clear hf; intro a hf
          refine sY hf hs rfl rfl rfl (Y_move rfl rfl) ?_; clear hf; intro a hf
          refine sY hf hs rfl rfl rfl (Y_eql rfl rfl rfl) ?_; clear hf; intro a hf
          refine sY hf hs rfl rfl rfl (Y_assign rfl rfl) ?_; clear hf; intro a hf
          refine wpO_nil ?_
          obtain rfl := Option.some.inj hm
          refine wpL_ret (ret_tmp rfl hf rfl ?_)
          exact ⟨_, rfl, rfl, hs.sel [] (by decide)⟩
        · have hm := bif_f hm hb77
          refine wpL_skip ?_
          refine wpL_seq ?_
          refine wpL_seq ?_
          obtain ⟨r81, hj82, hm⟩ := bind_some hm
          refine wpL_cut (fun a w => ∃ b80 : Bool, b80 = r81 ∧ Fr a 131 [(3, .slice A6 n7 c8), (4, .slice A13 n14 c15), (5, .int .i64 r11.2), (8, .slice A27 n28 c29), (13, .int .i64 r39.2), (102, .bool b80)] ∧ St [] W w [.mat A6 n7 c8 28 2 vs10 r4, .mat A13 n14 c15 28 2 vs17 r11.1, .mat A27 n28 c29 28 2 vs31 r25.1]) ?_ ?_
          · refine wpL_region ?_
            refine sY hf hs rfl rfl rfl (Y_move rfl rfl) ?_; clear hf; intro a hf
            refine sY hf hs rfl rfl rfl (Y_eql rfl rfl rfl) ?_; clear hf; intro a hf
            refine sY hf hs rfl rfl rfl (Y_move rfl rfl) ?_; clear hf; intro a hf
            refine sY hf hs rfl rfl rfl (Y_eql rfl rfl rfl) ?_; clear hf; intro a hf
            refine sY hf hs rfl rfl rfl (Y_neqB rfl rfl rfl Try.underlying4) ?_; clear hf; intro a hf
            refine sY hf hs rfl rfl rfl (Y_move rfl rfl) ?_; clear hf; intro a hf
            refine bsplit ((r11.2 == 5) != (r39.2 == 0)) (fun hb83 => ?_) (fun hb83 => ?_)
            · have hj82 := bif_t hj82 hb83
              refine sNo hf rfl rfl rfl (congrArg (fun b => some (Value.bool b)) hb83) rfl rfl rfl ?_; clear hf; intro a hf
              refine sNo hf rfl rfl rfl (congrArg (fun b => some (Value.bool b)) hb83) rfl rfl rfl ?_; clear hf; intro a hf
              refine sY hf hs rfl rfl rfl (Y_pickT rfl (congrArg (fun b => some (Value.bool b)) hb83) rfl) ?_; clear hf; intro a hf
              refine sY hf hs rfl rfl rfl (Y_move rfl rfl) ?_; clear hf; intro a hf
              refine sNo hf rfl rfl rfl rfl rfl rfl rfl ?_; clear hf; intro a hf
              refine sNo hf rfl rfl rfl rfl rfl rfl rfl ?_; clear hf; intro a hf
              refine sY hf hs rfl rfl rfl (Y_pickT rfl rfl rfl) ?_; clear hf; intro a hf
              refine wpO_nil ?_
              refine wpL_nil (then_normal ?_)
              exact ⟨true, Option.some.inj hj82, (FrD.pick (FrD.pick (FrD.pick (FrD.pick (FrD.pick (FrD.pick hf.none hf rfl) hf rfl) hf rfl) hf rfl) hf rfl) hf rfl), hs⟩
            · have hj82 := bif_f hj82 hb83
              refine sYg hf hs rfl rfl rfl (congrArg (fun b => some (Value.bool b)) hb83) rfl rfl rfl (Y_move rfl rfl) ?_; clear hf; intro a hf
              refine sYg hf hs rfl rfl rfl (congrArg (fun b => some (Value.bool b)) hb83) rfl rfl rfl (Y_neq rfl rfl rfl) ?_; clear hf; intro a hf
              refine sY hf hs rfl rfl rfl (Y_pickF rfl (congrArg (fun b => some (Value.bool b)) hb83) rfl) ?_; clear hf; intro a hf
              refine sY hf hs rfl rfl rfl (Y_move rfl rfl) ?_; clear hf; intro a hf
              refine bsplit (r11.2 != 0) (fun hb84 => ?_) (fun hb84 => ?_)
              · have hj82 := bif_t hj82 hb84
                refine sNo hf rfl rfl rfl (congrArg (fun b => some (Value.bool b)) hb84) rfl rfl rfl ?_; clear hf; intro a hf
                refine sNo hf rfl rfl rfl (congrArg (fun b => some (Value.bool b)) hb84) rfl rfl rfl ?_; clear hf; intro a hf
                refine sY hf hs rfl rfl rfl (Y_pickT rfl (congrArg (fun b => some (Value.bool b)) hb84) rfl) ?_; clear hf; intro a hf
                refine wpO_nil ?_
                refine wpL_nil (then_normal ?_)
                exact ⟨true, Option.some.inj hj82, (FrD.pick (FrD.pick (FrD.pick (FrD.pick (FrD.pick (FrD.pick hf.none hf rfl) hf rfl) hf rfl) hf rfl) hf rfl) hf rfl), hs⟩
              · have hj82 := bif_f hj82 hb84
                refine sYg hf hs rfl rfl rfl (congrArg (fun b => some (Value.bool b)) hb84) rfl rfl rfl (Y_move rfl rfl) ?_; clear hf; intro a hf
                refine sYg hf hs rfl rfl rfl (congrArg (fun b => some (Value.bool b)) hb84) rfl rfl rfl (Y_neq rfl rfl rfl) ?_; clear hf; intro a hf
                refine sY hf hs rfl rfl rfl (Y_pickF rfl (congrArg (fun b => some (Value.bool b)) hb84) rfl) ?_; clear hf; intro a hf
                refine wpO_nil ?_
                refine wpL_nil (then_normal ?_)
                exact ⟨(r25.2 != 0), Option.some.inj hj82, (FrD.pick (FrD.pick (FrD.pick (FrD.pick (FrD.pick (FrD.pick hf.none hf rfl) hf rfl) hf rfl) hf rfl) hf rfl) hf rfl), hs⟩
          · rintro a w ⟨b80, hr_, hf, hs⟩
            subst hr_
            try dsimp only at hm
            refine wpL_cond hf rfl (fun hb85 => ?_) (fun hb85 => ?_)
            · have hm := bif_t hm hb85
              refine wpL_seq ?_
              refine wpL_region ?_
              refine sY hf hs rfl rfl rfl (Y_move rfl rfl) ?_; clear hf; intro a hf
              refine sY hf hs rfl rfl rfl (Y_eql rfl rfl rfl) ?_; clear hf; intro a hf
              refine sY hf hs rfl rfl rfl (Y_move rfl rfl) ?_; clear hf; intro a hf
              refine sY hf hs rfl rfl rfl (Y_eql rfl rfl rfl) ?_; clear hf; intro a hf
              refine sY hf hs rfl rfl rfl (Y_eqlB rfl rfl rfl Try.underlying4) ?_; clear hf; intro a hf
              refine sY hf hs rfl rfl rfl (Y_assign rfl rfl) ?_; clear hf; intro a hf
              refine wpO_nil ?_
              obtain rfl := Option.some.inj hm
              refine wpL_ret (ret_tmp rfl hf rfl ?_)
              exact ⟨_, rfl, rfl, hs.sel [] (by decide)⟩
            · have hm := bif_f hm hb85
              refine wpL_skip ?_
              refine wpL_seq ?_
              refine wpL_region ?_
              refine sY hf hs rfl rfl rfl (Y_move rfl rfl) ?_; clear hf; intro a hf
              refine sY hf hs rfl rfl rfl (Y_lenH rfl rfl el40 hn9) ?_; clear hf; intro a hf
              obtain ⟨r86, hc87, hm⟩ := bind_some hm
              refine sCall hf rfl rfl rfl rfl (cap := []) rfl rfl en32 (impl_UnitMatrix_ok F (r4.length : Int) _ _ hc87) ?_; clear hf
              rintro _ w ⟨A88, n89, c90, vs92, rfl, hn91, hs1⟩ a hf
              have hs : St [] W w [.mat A6 n7 c8 28 2 vs10 r4, .mat A13 n14 c15 28 2 vs17 r11.1, .mat A27 n28 c29 28 2 vs31 r25.1, .mat A88 n89 c90 28 2 vs92 r86.1] := hs.join hs1
              clear hs1
              refine sY hf hs rfl rfl rfl (Y_move rfl rfl) ?_; clear hf; intro a hf
              refine sY hf hs rfl rfl rfl (Y_extract rfl rfl rfl) ?_; clear hf; intro a hf
              refine sY hf hs rfl rfl rfl (Y_extract rfl rfl rfl) ?_; clear hf; intro a hf
              refine sY hf hs rfl rfl rfl (Y_assign rfl rfl) ?_; clear hf; intro a hf
              refine sY hf hs rfl rfl rfl (Y_assign rfl rfl) ?_; clear hf; intro a hf
              refine wpO_nil ?_
              refine wpL_seq ?_
              refine wpL_region ?_
              refine sY hf hs rfl rfl rfl (Y_move rfl rfl) ?_; clear hf; intro a hf
              refine sY hf hs rfl rfl rfl (Y_move rfl rfl) ?_; clear hf; intro a hf
              obtain ⟨r93, hc94, hm⟩ := bind_some hm
              refine sCall hf rfl rfl rfl rfl (cap := []) rfl rfl en33 (impl_AddMatrices_ok F r86.1 A88 n89 c90 hn91 r25.1 A27 n28 c29 hn30 _ _ hc94 (hs.rdM (i := 3) rfl) (hs.rdM (i := 2) rfl)) ?_; clear hf
              rintro _ w ⟨A95, n96, c97, vs99, rfl, hn98, hs1⟩ a hf
              have hs : St [] W w [.mat A6 n7 c8 28 2 vs10 r4, .mat A13 n14 c15 28 2 vs17 r11.1, .mat A27 n28 c29 28 2 vs31 r25.1, .mat A88 n89 c90 28 2 vs92 r86.1, .mat A95 n96 c97 28 2 vs99 r93.1] := hs.join hs1
              clear hs1
              refine sY hf hs rfl rfl rfl (Y_move rfl rfl) ?_; clear hf; intro a hf
              refine sY hf hs rfl rfl rfl (Y_extract rfl rfl rfl) ?_; clear hf; intro a hf
              refine sY hf hs rfl rfl rfl (Y_extract rfl rfl rfl) ?_; clear hf; intro a hf
              refine sY hf hs rfl rfl rfl (Y_assign rfl rfl) ?_; clear hf; intro a hf
              refine sY hf hs rfl rfl rfl (Y_assign rfl rfl) ?_; clear hf; intro a hf
              refine wpO_nil ?_
              refine wpL_seq ?_
              obtain ⟨r105, hj106, hm⟩ := bind_some hm
              refine wpL_cut (fun a w => ∃ b104 : Bool, b104 = r105 ∧ Fr a 131 [(2, .bool b104)] ∧ St [] W w []) ?_ ?_
              · refine wpL_region ?_
                refine sY hf hs rfl rfl rfl (Y_move rfl rfl) ?_; clear hf; intro a hf
                refine sY hf hs rfl rfl rfl (Y_eql rfl rfl rfl) ?_; clear hf; intro a hf
                refine sY hf hs rfl rfl rfl (Y_move rfl rfl) ?_; clear hf; intro a hf
                refine bsplit (r86.2 == 0) (fun hb107 => ?_) (fun hb107 => ?_)
                · have hj106 := bif_t hj106 hb107
                  refine sYg hf hs rfl rfl rfl (congrArg (fun b => some (Value.bool b)) hb107) rfl rfl rfl (Y_move rfl rfl) ?_; clear hf; intro a hf
                  refine sYg hf hs rfl rfl rfl (congrArg (fun b => some (Value.bool b)) hb107) rfl rfl rfl (Y_eql rfl rfl rfl) ?_; clear hf; intro a hf
                  refine sY hf hs rfl rfl rfl (Y_pickT rfl (congrArg (fun b => some (Value.bool b)) hb107) rfl) ?_; clear hf; intro a hf
                  refine sY hf hs rfl rfl rfl (Y_move rfl rfl) ?_; clear hf; intro a hf
                  refine bsplit (r93.2 == 0) (fun hb108 => ?_) (fun hb108 => ?_)
                  · have hj106 := bif_t hj106 hb108
                    refine sYg hf hs rfl rfl rfl (congrArg (fun b => some (Value.bool b)) hb108) rfl rfl rfl (Y_move rfl rfl) ?_; clear hf; intro a hf
                    refine sYg hf hs rfl rfl rfl (congrArg (fun b => some (Value.bool b)) hb108) rfl rfl rfl (Y_move rfl rfl) ?_; clear hf; intro a hf
                    obtain ⟨r109, hc110, hj106⟩ := bind_some hj106
                    refine sCallg hf rfl rfl rfl (congrArg (fun b => some (Value.bool b)) hb108) rfl rfl rfl rfl (cap := []) rfl rfl en31 (laws_likeTables9_ok F r93.1 A95 n96 c97 hn98 r11.1 A13 n14 c15 hn16 _ _ hc110 (hs.rdM (i := 4) rfl) (hs.rdM (i := 1) rfl)) ?_; clear hf
                    rintro _ w ⟨rfl, hs1⟩ a hf
                    have hs : St [] W w [.mat A6 n7 c8 28 2 vs10 r4, .mat A13 n14 c15 28 2 vs17 r11.1, .mat A27 n28 c29 28 2 vs31 r25.1, .mat A88 n89 c90 28 2 vs92 r86.1, .mat A95 n96 c97 28 2 vs99 r93.1] := hs.ext hs1.below
                    clear hs1
                    refine sY hf hs rfl rfl rfl (Y_pickT rfl (congrArg (fun b => some (Value.bool b)) hb108) rfl) ?_; clear hf; intro a hf
                    refine sY hf hs rfl rfl rfl (Y_assign rfl rfl) ?_; clear hf; intro a hf
                    refine wpO_nil ?_
                    refine wpL_nil (then_normal ?_)
                    exact ⟨r109, Option.some.inj hj106, (FrD.pick hf.none hf rfl), hs.sel [] (by decide)⟩
                  · have hj106 := bif_f hj106 hb108
                    refine sNo hf rfl rfl rfl (congrArg (fun b => some (Value.bool b)) hb108) rfl rfl rfl ?_; clear hf; intro a hf
                    refine sNo hf rfl rfl rfl (congrArg (fun b => some (Value.bool b)) hb108) rfl rfl rfl ?_; clear hf; intro a hf
                    refine sNo hf rfl rfl rfl (congrArg (fun b => some (Value.bool b)) hb108) rfl rfl rfl ?_; clear hf; intro a hf
                    refine sY hf hs rfl rfl rfl (Y_pickF rfl (congrArg (fun b => some (Value.bool b)) hb108) rfl) ?_; clear hf; intro a hf
                    refine sY hf hs rfl rfl rfl (Y_assign rfl rfl) ?_; clear hf; intro a hf
                    refine wpO_nil ?_
                    refine wpL_nil (then_normal ?_)
                    exact ⟨false, Option.some.inj hj106, (FrD.pick hf.none hf rfl), hs.sel [] (by decide)⟩
                · have hj106 := bif_f hj106 hb107
                  refine sNo hf rfl rfl rfl (congrArg (fun b => some (Value.bool b)) hb107) rfl rfl rfl ?_; clear hf; intro a hf
                  refine sNo hf rfl rfl rfl (congrArg (fun b => some (Value.bool b)) hb107) rfl rfl rfl ?_; clear hf; intro a hf
                  refine sY hf hs rfl rfl rfl (Y_pickF rfl (congrArg (fun b => some (Value.bool b)) hb107) rfl) ?_; clear hf; intro a hf
                  refine sY hf hs rfl rfl rfl (Y_move rfl rfl) ?_; clear hf; intro a hf
                  refine sNo hf rfl rfl rfl rfl rfl rfl rfl ?_; clear hf; intro a hf
                  refine sNo hf rfl rfl rfl rfl rfl rfl rfl ?_; clear hf; intro a hf
                  refine sNo hf rfl rfl rfl rfl rfl rfl rfl ?_; clear hf; intro a hf
                  refine sY hf hs rfl rfl rfl (Y_pickF rfl rfl rfl) ?_; clear hf; intro a hf
                  refine sY hf hs rfl rfl rfl (Y_assign rfl rfl) ?_; clear hf; intro a hf
                  refine wpO_nil ?_
                  refine wpL_nil (then_normal ?_)
                  exact ⟨false, Option.some.inj hj106, (FrD.pick hf.none hf rfl), hs.sel [] (by decide)⟩
              · rintro a w ⟨b104, hr_, hf, hs⟩
                subst hr_
                try dsimp only at hm
                obtain rfl := Option.some.inj hm
                refine wpL_ret (ret_tmp rfl hf rfl ?_)
                exact ⟨_, rfl, rfl, hs⟩

end Go.Proofs.Ytebmlphobgaboab
