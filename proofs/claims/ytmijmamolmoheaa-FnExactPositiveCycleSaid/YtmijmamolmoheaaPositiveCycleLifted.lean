/- The functions do what their models say. -/
import Derived.Test.YtmijmamolmoheaaPositiveCycleLifted1
import Derived.Test.YtmijmamolmoheaaRows
namespace Go.Proofs.Ytmijmamolmoheaa
open Go.RowKit

set_option maxRecDepth 100000 in
theorem impl_cycleSearch_goOn_step (F k_ : Nat) (ih_ : ∀ (b_p0 : Nat) (p0_matrix : List (List Int)) (A_p0_matrix : Option Addr) (n_p0_matrix c_p0_matrix : Nat) (_hn_p0_matrix : n_p0_matrix = p0_matrix.length) (m_p0_wanted : (List Int) → Int → Option Bool) (f_p0_wanted : FuncId) (k_p0_wanted : List Value) (p0_path : List Int) (A_p0_path : Option Addr) (n_p0_path c_p0_path : Nat) (_hn_p0_path : n_p0_path = p0_path.length) (p0_used : List Bool) (A_p0_used : Option Addr) (n_p0_used c_p0_used : Nat) (_hn_p0_used : n_p0_used = p0_used.length) (p1 : Int) (r : (Bool) × (List Int) × (List Bool)) (W : World) (_hm : impl_cycleSearch_goOn_rec F k_ p0_matrix m_p0_wanted p0_path p0_used p1 = some r) (_h_p0_matrix : KM (muL [.blk b_p0 146 [.slice A_p0_matrix n_p0_matrix c_p0_matrix, .func (.func f_p0_wanted) #[] k_p0_wanted.toArray, .slice A_p0_path n_p0_path c_p0_path, .slice A_p0_used n_p0_used c_p0_used], .row A_p0_path n_p0_path c_p0_path 2 1 (ints p0_path), .row A_p0_used n_p0_used c_p0_used 4 1 (bools p0_used)]) W A_p0_matrix p0_matrix) (_h_p0_wanted : ∀ (x0 : List Int) (Ax0_1 : Option Addr) (nx0_1 cx0_1 : Nat) (_hnx0_1 : nx0_1 = x0.length) (x1 : Int) (r : Bool) (w : World), m_p0_wanted x0 x1 = some r → BM (muL [.blk b_p0 146 [.slice A_p0_matrix n_p0_matrix c_p0_matrix, .func (.func f_p0_wanted) #[] k_p0_wanted.toArray, .slice A_p0_path n_p0_path c_p0_path, .slice A_p0_used n_p0_used c_p0_used], .row A_p0_path n_p0_path c_p0_path 2 1 (ints p0_path), .row A_p0_used n_p0_used c_p0_used 4 1 (bools p0_used)]) W w → Rd w Ax0_1 (ints x0) → Calls Try.prog f_p0_wanted (([.slice Ax0_1 nx0_1 cx0_1, .int .i64 x1] : List Value) ++ k_p0_wanted).toArray w fun e w' => ∃ v, e = .returned v ∧ v = .bool r ∧ St [] w w' []) (_e_p0_wanted : En Try.prog f_p0_wanted) (_hst : St (muL [.blk b_p0 146 [.slice A_p0_matrix n_p0_matrix c_p0_matrix, .func (.func f_p0_wanted) #[] k_p0_wanted.toArray, .slice A_p0_path n_p0_path c_p0_path, .slice A_p0_used n_p0_used c_p0_used], .row A_p0_path n_p0_path c_p0_path 2 1 (ints p0_path), .row A_p0_used n_p0_used c_p0_used 4 1 (bools p0_used)]) W W [.blk b_p0 146 [.slice A_p0_matrix n_p0_matrix c_p0_matrix, .func (.func f_p0_wanted) #[] k_p0_wanted.toArray, .slice A_p0_path n_p0_path c_p0_path, .slice A_p0_used n_p0_used c_p0_used], .row A_p0_path n_p0_path c_p0_path 2 1 (ints p0_path), .row A_p0_used n_p0_used c_p0_used 4 1 (bools p0_used)]), Calls Try.prog 136 [.pointer (some ⟨b_p0, 0, none⟩), .int .i64 p1].toArray W fun e w' => ∃ v, e = .returned v ∧ ∃ A2_, ∃ n2_, ∃ c2_, ∃ A3_, ∃ n3_, ∃ c3_, v = .bool r.1 ∧ n2_ = r.2.1.length ∧ n3_ = r.2.2.length ∧ St (muL [.blk b_p0 146 [.slice A_p0_matrix n_p0_matrix c_p0_matrix, .func (.func f_p0_wanted) #[] k_p0_wanted.toArray, .slice A_p0_path n_p0_path c_p0_path, .slice A_p0_used n_p0_used c_p0_used], .row A_p0_path n_p0_path c_p0_path 2 1 (ints p0_path), .row A_p0_used n_p0_used c_p0_used 4 1 (bools p0_used)]) W w' [.blk b_p0 146 [.slice A_p0_matrix n_p0_matrix c_p0_matrix, .func (.func f_p0_wanted) #[] k_p0_wanted.toArray, .slice A2_ n2_ c2_, .slice A3_ n3_ c3_], .row A2_ n2_ c2_ 2 1 (ints r.2.1), .row A3_ n3_ c3_ 4 1 (bools r.2.2)]) (b_p0 : Nat) (p0_matrix : List (List Int)) (A_p0_matrix : Option Addr) (n_p0_matrix c_p0_matrix : Nat) (hn_p0_matrix : n_p0_matrix = p0_matrix.length) (m_p0_wanted : (List Int) → Int → Option Bool) (f_p0_wanted : FuncId) (k_p0_wanted : List Value) (p0_path : List Int) (A_p0_path : Option Addr) (n_p0_path c_p0_path : Nat) (hn_p0_path : n_p0_path = p0_path.length) (p0_used : List Bool) (A_p0_used : Option Addr) (n_p0_used c_p0_used : Nat) (hn_p0_used : n_p0_used = p0_used.length) (p1 : Int) (r : (Bool) × (List Int) × (List Bool)) (W : World) (hm : impl_cycleSearch_goOn_rec F (k_ + 1) p0_matrix m_p0_wanted p0_path p0_used p1 = some r) (h_p0_matrix : KM (muL [.blk b_p0 146 [.slice A_p0_matrix n_p0_matrix c_p0_matrix, .func (.func f_p0_wanted) #[] k_p0_wanted.toArray, .slice A_p0_path n_p0_path c_p0_path, .slice A_p0_used n_p0_used c_p0_used], .row A_p0_path n_p0_path c_p0_path 2 1 (ints p0_path), .row A_p0_used n_p0_used c_p0_used 4 1 (bools p0_used)]) W A_p0_matrix p0_matrix) (h_p0_wanted : ∀ (x0 : List Int) (Ax0_1 : Option Addr) (nx0_1 cx0_1 : Nat) (_hnx0_1 : nx0_1 = x0.length) (x1 : Int) (r : Bool) (w : World), m_p0_wanted x0 x1 = some r → BM (muL [.blk b_p0 146 [.slice A_p0_matrix n_p0_matrix c_p0_matrix, .func (.func f_p0_wanted) #[] k_p0_wanted.toArray, .slice A_p0_path n_p0_path c_p0_path, .slice A_p0_used n_p0_used c_p0_used], .row A_p0_path n_p0_path c_p0_path 2 1 (ints p0_path), .row A_p0_used n_p0_used c_p0_used 4 1 (bools p0_used)]) W w → Rd w Ax0_1 (ints x0) → Calls Try.prog f_p0_wanted (([.slice Ax0_1 nx0_1 cx0_1, .int .i64 x1] : List Value) ++ k_p0_wanted).toArray w fun e w' => ∃ v, e = .returned v ∧ v = .bool r ∧ St [] w w' []) (e_p0_wanted : En Try.prog f_p0_wanted) (hst : St (muL [.blk b_p0 146 [.slice A_p0_matrix n_p0_matrix c_p0_matrix, .func (.func f_p0_wanted) #[] k_p0_wanted.toArray, .slice A_p0_path n_p0_path c_p0_path, .slice A_p0_used n_p0_used c_p0_used], .row A_p0_path n_p0_path c_p0_path 2 1 (ints p0_path), .row A_p0_used n_p0_used c_p0_used 4 1 (bools p0_used)]) W W [.blk b_p0 146 [.slice A_p0_matrix n_p0_matrix c_p0_matrix, .func (.func f_p0_wanted) #[] k_p0_wanted.toArray, .slice A_p0_path n_p0_path c_p0_path, .slice A_p0_used n_p0_used c_p0_used], .row A_p0_path n_p0_path c_p0_path 2 1 (ints p0_path), .row A_p0_used n_p0_used c_p0_used 4 1 (bools p0_used)]) :
    Calls Try.prog 136 [.pointer (some ⟨b_p0, 0, none⟩), .int .i64 p1].toArray W fun e w' => ∃ v, e = .returned v ∧ ∃ A2_, ∃ n2_, ∃ c2_, ∃ A3_, ∃ n3_, ∃ c3_, v = .bool r.1 ∧ n2_ = r.2.1.length ∧ n3_ = r.2.2.length ∧ St (muL [.blk b_p0 146 [.slice A_p0_matrix n_p0_matrix c_p0_matrix, .func (.func f_p0_wanted) #[] k_p0_wanted.toArray, .slice A_p0_path n_p0_path c_p0_path, .slice A_p0_used n_p0_used c_p0_used], .row A_p0_path n_p0_path c_p0_path 2 1 (ints p0_path), .row A_p0_used n_p0_used c_p0_used 4 1 (bools p0_used)]) W w' [.blk b_p0 146 [.slice A_p0_matrix n_p0_matrix c_p0_matrix, .func (.func f_p0_wanted) #[] k_p0_wanted.toArray, .slice A2_ n2_ c2_, .slice A3_ n3_ c3_], .row A2_ n2_ c2_ 2 1 (ints r.2.1), .row A3_ n3_ c3_ 4 1 (bools r.2.2)] := by
  subst hn_p0_matrix
  subst hn_p0_path
  subst hn_p0_used
  unfold impl_cycleSearch_goOn_rec at hm
  refine Calls.enter (N := 127) Try.func136 rfl rfl rfl (fun a hf => ?_)
  have hs := hst
  obtain ⟨w, hw_⟩ : ∃ w, w = W := ⟨W, rfl⟩
  clear hw_ w
  refine wpL_seq ?_
  refine wpL_region ?_
  refine sY hf hs rfl rfl rfl (Y_assign rfl rfl) ?_; clear hf; intro a hf
  refine wpO_nil ?_
  refine wpL_seq ?_
  refine wpL_draw (by kernel_rfl) (by kernel_rfl) hs ?_
  refine qY hf rfl rfl rfl (Y_move rfl rfl) ?_; clear hf; intro a hf
  refine qY hf rfl rfl rfl (Y_nilCheck rfl rfl) ?_; clear hf; intro a hf
  refine qY hf rfl rfl rfl (Y_fieldAddr rfl rfl fo146_2) ?_; clear hf; intro a hf
  refine qY hf rfl rfl rfl (Y_load_blk rfl rfl (i := 0) rfl rfl ag36) ?_; clear hf; intro a hf
  obtain ⟨q1, hi2, hm⟩ := bind_some hm
  obtain ⟨hi2a, hi2b, hi2q⟩ := idx_some hi2
  refine qY hf rfl rfl rfl (Y_index rfl rfl rfl el36 ti2 (Rd.isAt (hs.rd (i := 1) rfl) (at1 (ints_at hi2q))) hi2a hi2b) ?_; clear hf; intro a hf
  refine qY hf rfl rfl rfl (Y_load_rd rfl rfl (fun w hs => hs.rd (i := 1) rfl) (at1 (ints_at hi2q)) ag2) ?_; clear hf; intro a hf
  refine qY hf rfl rfl rfl (Y_move rfl rfl) ?_; clear hf; intro a hf
  refine qY hf rfl rfl rfl (Y_nilCheck rfl rfl) ?_; clear hf; intro a hf
  refine qY hf rfl rfl rfl (Y_fieldAddr rfl rfl fo146_2) ?_; clear hf; intro a hf
  refine qY hf rfl rfl rfl (Y_load_blk rfl rfl (i := 0) rfl rfl ag36) ?_; clear hf; intro a hf
  refine qY hf rfl rfl rfl (Y_move rfl rfl) ?_; clear hf; intro a hf
  refine qY hf rfl rfl rfl (Y_nilCheck rfl rfl) ?_; clear hf; intro a hf
  refine qY hf rfl rfl rfl (Y_fieldAddr rfl rfl fo146_2) ?_; clear hf; intro a hf
  refine qY hf rfl rfl rfl (Y_load_blk rfl rfl (i := 0) rfl rfl ag36) ?_; clear hf; intro a hf
  refine qY hf rfl rfl rfl (Y_lenH rfl rfl el36 rfl) ?_; clear hf; intro a hf
  refine qY hf rfl rfl rfl (Y_sub rfl rfl rfl) ?_; clear hf; intro a hf
  obtain ⟨q3, hi4, hm⟩ := bind_some hm
  obtain ⟨hi4a, hi4b, hi4q⟩ := idx_some hi4
  refine qY hf rfl rfl rfl (Y_index rfl rfl rfl el36 ti2 (Rd.isAt (hs.rd (i := 1) rfl) (at1 (ints_at hi4q))) hi4a hi4b) ?_; clear hf; intro a hf
  refine qY hf rfl rfl rfl (Y_load_rd rfl rfl (fun w hs => hs.rd (i := 1) rfl) (at1 (ints_at hi4q)) ag2) ?_; clear hf; intro a hf
  refine qY hf rfl rfl rfl (Y_assign rfl rfl) ?_; clear hf; intro a hf
  refine qY hf rfl rfl rfl (Y_assign rfl rfl) ?_; clear hf; intro a hf
  refine qNil ?_; clear hs; intro w hs
  refine wpL_seq ?_
  refine wpL_seq ?_
  refine wpL_region ?_
  refine sY hf hs rfl rfl rfl (Y_move rfl rfl) ?_; clear hf; intro a hf
  refine sY hf hs rfl rfl rfl (Y_nilCheck rfl rfl) ?_; clear hf; intro a hf
  refine sY hf hs rfl rfl rfl (Y_fieldAddr rfl rfl fo146_0) ?_; clear hf; intro a hf
  refine sY hf hs rfl rfl rfl (Y_load_blk rfl rfl (i := 0) rfl rfl ag34) ?_; clear hf; intro a hf
  refine sY hf hs rfl rfl rfl (Y_move rfl rfl) ?_; clear hf; intro a hf
  obtain ⟨q5, hi6, hm⟩ := bind_some hm
  obtain ⟨hi6a, hi6b, hi6q⟩ := idx_some hi6
  obtain ⟨vs7, hv8, hr9⟩ := id h_p0_matrix
  obtain ⟨A10, c11, hv12, hR13⟩ := hr9 _ _ hi6q
  refine sY hf hs rfl rfl rfl (Y_index rfl rfl rfl el34 ti36 (Rd.isAt hv8.here hv12) hi6a hi6b) ?_; clear hf; intro a hf
  refine sY hf hs rfl rfl rfl (Y_load_rd rfl rfl (fun w hs => hv8.at hs) (at1 hv12) ag36) ?_; clear hf; intro a hf
  refine sY hf hs rfl rfl rfl (Y_move rfl rfl) ?_; clear hf; intro a hf
  obtain ⟨q14, hi15, hm⟩ := bind_some hm
  obtain ⟨hi15a, hi15b, hi15q⟩ := idx_some hi15
  refine sY hf hs rfl rfl rfl (Y_index rfl rfl rfl el36 ti2 (Rd.isAt (hR13.at hs) (at1 (ints_at hi15q))) hi15a hi15b) ?_; clear hf; intro a hf
  refine sY hf hs rfl rfl rfl (Y_load_rd rfl rfl (fun w hs => hR13.at hs) (at1 (ints_at hi15q)) ag2) ?_; clear hf; intro a hf
  refine sY hf hs rfl rfl rfl (Y_assign rfl rfl) ?_; clear hf; intro a hf
  refine wpO_nil ?_
  refine wpL_seq ?_
  obtain ⟨r20, hj21, hm⟩ := bind_some hm
  refine wpL_cut (fun a w => ∃ b19 : Bool, b19 = r20 ∧ Fr a 127 [(0, .pointer (some ⟨b_p0, 0, none⟩)), (1, .int .i64 p1), (5, .int .i64 q1), (6, .int .i64 q3), (53, .bool b19)] ∧ St (muL [.blk b_p0 146 [.slice A_p0_matrix p0_matrix.length c_p0_matrix, .func (.func f_p0_wanted) #[] k_p0_wanted.toArray, .slice A_p0_path p0_path.length c_p0_path, .slice A_p0_used p0_used.length c_p0_used], .row A_p0_path p0_path.length c_p0_path 2 1 (ints p0_path), .row A_p0_used p0_used.length c_p0_used 4 1 (bools p0_used)]) W w [.blk b_p0 146 [.slice A_p0_matrix p0_matrix.length c_p0_matrix, .func (.func f_p0_wanted) #[] k_p0_wanted.toArray, .slice A_p0_path p0_path.length c_p0_path, .slice A_p0_used p0_used.length c_p0_used], .row A_p0_path p0_path.length c_p0_path 2 1 (ints p0_path), .row A_p0_used p0_used.length c_p0_used 4 1 (bools p0_used)]) ?_ ?_
  · refine wpL_draw (by kernel_rfl) (by kernel_rfl) hs ?_
    refine qY hf rfl rfl rfl (Y_move rfl rfl) ?_; clear hf; intro a hf
    refine qY hf rfl rfl rfl (Y_neq rfl rfl rfl) ?_; clear hf; intro a hf
    refine qY hf rfl rfl rfl (Y_move rfl rfl) ?_; clear hf; intro a hf
    refine bsplit (q14 != (-1000000000000000)) (fun hb22 => ?_) (fun hb22 => ?_)
    · have hj21 := bif_t hj21 hb22
      refine qYg hf rfl rfl rfl (congrArg (fun b => some (Value.bool b)) hb22) rfl rfl rfl (Y_move rfl rfl) ?_; clear hf; intro a hf
      refine qYg hf rfl rfl rfl (congrArg (fun b => some (Value.bool b)) hb22) rfl rfl rfl (Y_nilCheck rfl rfl) ?_; clear hf; intro a hf
      refine qYg hf rfl rfl rfl (congrArg (fun b => some (Value.bool b)) hb22) rfl rfl rfl (Y_fieldAddr rfl rfl fo146_1) ?_; clear hf; intro a hf
      refine qYg hf rfl rfl rfl (congrArg (fun b => some (Value.bool b)) hb22) rfl rfl rfl (Y_load_blk rfl rfl (i := 0) rfl rfl ag94) ?_; clear hf; intro a hf
      refine qYg hf rfl rfl rfl (congrArg (fun b => some (Value.bool b)) hb22) rfl rfl rfl (Y_move rfl rfl) ?_; clear hf; intro a hf
      refine qYg hf rfl rfl rfl (congrArg (fun b => some (Value.bool b)) hb22) rfl rfl rfl (Y_nilCheck rfl rfl) ?_; clear hf; intro a hf
      refine qYg hf rfl rfl rfl (congrArg (fun b => some (Value.bool b)) hb22) rfl rfl rfl (Y_fieldAddr rfl rfl fo146_2) ?_; clear hf; intro a hf
      refine qYg hf rfl rfl rfl (congrArg (fun b => some (Value.bool b)) hb22) rfl rfl rfl (Y_load_blk rfl rfl (i := 0) rfl rfl ag36) ?_; clear hf; intro a hf
      refine qYg hf rfl rfl rfl (congrArg (fun b => some (Value.bool b)) hb22) rfl rfl rfl (Y_move rfl rfl) ?_; clear hf; intro a hf
      refine qYg hf rfl rfl rfl (congrArg (fun b => some (Value.bool b)) hb22) rfl rfl rfl (Y_move rfl rfl) ?_; clear hf; intro a hf
      refine qYg hf rfl rfl rfl (congrArg (fun b => some (Value.bool b)) hb22) rfl rfl rfl (Y_add rfl rfl rfl) ?_; clear hf; intro a hf
      obtain ⟨r23, hc24, hj21⟩ := bind_some hj21
      refine qCallg hf rfl rfl rfl (congrArg (fun b => some (Value.bool b)) hb22) rfl rfl rfl rfl (cap := k_p0_wanted) rfl rfl e_p0_wanted (v := .bool r23) (fun w hs => Calls.scal (h_p0_wanted p0_path A_p0_path p0_path.length c_p0_path rfl (IntKind.i64.wrap (p1 + q14)) _ _ hc24 hs.bm (hs.rd (i := 1) rfl))) ?_; clear hf; intro a hf
      refine qY hf rfl rfl rfl (Y_pickT rfl (congrArg (fun b => some (Value.bool b)) hb22) rfl) ?_; clear hf; intro a hf
      refine qNil ?_; clear hs; intro w hs
      refine wpL_nil (then_normal ?_)
      exact ⟨r23, Option.some.inj hj21, (Fr.pick (Fr.pick (Fr.pick (Fr.pick (Fr.pick hf.none hf rfl) hf rfl) hf rfl) hf rfl) hf rfl), hs⟩
    · have hj21 := bif_f hj21 hb22
      refine qNo hf rfl rfl rfl (congrArg (fun b => some (Value.bool b)) hb22) rfl rfl rfl ?_; clear hf; intro a hf
      refine qNo hf rfl rfl rfl (congrArg (fun b => some (Value.bool b)) hb22) rfl rfl rfl ?_; clear hf; intro a hf
      refine qNo hf rfl rfl rfl (congrArg (fun b => some (Value.bool b)) hb22) rfl rfl rfl ?_; clear hf; intro a hf
      refine qNo hf rfl rfl rfl (congrArg (fun b => some (Value.bool b)) hb22) rfl rfl rfl ?_; clear hf; intro a hf
      refine qNo hf rfl rfl rfl (congrArg (fun b => some (Value.bool b)) hb22) rfl rfl rfl ?_; clear hf; intro a hf
      refine qNo hf rfl rfl rfl (congrArg (fun b => some (Value.bool b)) hb22) rfl rfl rfl ?_; clear hf; intro a hf
      refine qNo hf rfl rfl rfl (congrArg (fun b => some (Value.bool b)) hb22) rfl rfl rfl ?_; clear hf; intro a hf
      refine qNo hf rfl rfl rfl (congrArg (fun b => some (Value.bool b)) hb22) rfl rfl rfl ?_; clear hf; intro a hf
      refine qNo hf rfl rfl rfl (congrArg (fun b => some (Value.bool b)) hb22) rfl rfl rfl ?_; clear hf; intro a hf
      refine qNo hf rfl rfl rfl (congrArg (fun b => some (Value.bool b)) hb22) rfl rfl rfl ?_; clear hf; intro a hf
      refine qNo hf rfl rfl rfl (congrArg (fun b => some (Value.bool b)) hb22) rfl rfl rfl ?_; clear hf; intro a hf
      refine qNo hf rfl rfl rfl (congrArg (fun b => some (Value.bool b)) hb22) rfl rfl rfl ?_; clear hf; intro a hf
      refine qY hf rfl rfl rfl (Y_pickF rfl (congrArg (fun b => some (Value.bool b)) hb22) rfl) ?_; clear hf; intro a hf
      refine qNil ?_; clear hs; intro w hs
      refine wpL_nil (then_normal ?_)
      exact ⟨false, Option.some.inj hj21, (Fr.pick (Fr.pick (Fr.pick (Fr.pick (Fr.pick hf.none hf rfl) hf rfl) hf rfl) hf rfl) hf rfl), hs⟩
  · rintro a w ⟨b19, hr_, hf, hs⟩
    subst hr_
    try dsimp only at hm
    refine wpL_cond hf rfl (fun hb25 => ?_) (fun hb25 => ?_)
    · have hm := bif_t hm hb25
      refine wpL_seq ?_
      refine wpL_region ?_
      refine sY hf hs rfl rfl rfl (Y_assign rfl rfl) ?_; clear hf; intro a hf
      refine wpO_nil ?_
      obtain rfl := Option.some.inj hm
      refine wpL_ret (ret_tmp rfl hf rfl ?_)
      exact ⟨_, rfl, A_p0_path, p0_path.length, c_p0_path, A_p0_used, p0_used.length, c_p0_used, rfl, rfl, rfl, hs⟩
    · have hm := bif_f hm hb25
      refine wpL_skip ?_
      refine wpL_seq ?_
      refine wpL_seq ?_
      refine wpL_region ?_
      refine sY hf hs rfl rfl rfl (Y_move rfl rfl) ?_; clear hf; intro a hf
      refine sY hf hs rfl rfl rfl (Y_add rfl rfl rfl) ?_; clear hf; intro a hf
      refine sY hf hs rfl rfl rfl (Y_assign rfl rfl) ?_; clear hf; intro a hf
      refine wpO_nil ?_
      obtain ⟨r397, hl398, hm⟩ := bind_some hm
      refine wpL_block (fun a w => ∃ xs387 : List Int, ∃ xs392 : List Bool, ∃ A388, ∃ n389, ∃ c390, ∃ A393, ∃ n394, ∃ c395, Sum.inr (xs387, xs392) = r397 ∧ n389 = xs387.length ∧ n394 = xs392.length ∧ Fr a 127 [] ∧ St (muL [.blk b_p0 146 [.slice A_p0_matrix p0_matrix.length c_p0_matrix, .func (.func f_p0_wanted) #[] k_p0_wanted.toArray, .slice A_p0_path p0_path.length c_p0_path, .slice A_p0_used p0_used.length c_p0_used], .row A_p0_path p0_path.length c_p0_path 2 1 (ints p0_path), .row A_p0_used p0_used.length c_p0_used 4 1 (bools p0_used)]) W w [.blk b_p0 146 [.slice A_p0_matrix p0_matrix.length c_p0_matrix, .func (.func f_p0_wanted) #[] k_p0_wanted.toArray, .slice A388 n389 c390, .slice A393 n394 c395], .row A388 n389 c390 2 1 (ints xs387), .row A393 n394 c395 4 1 (bools xs392)]) ?_ ?_
      · refine wpL_loop (fun n a w => ∃ xs263 : List Int, ∃ xs268 : List Bool, ∃ x273 : Int, ∃ A264, ∃ n265, ∃ c266, ∃ A269, ∃ n270, ∃ c271, impl_cycleSearch_goOn_L1 F p0_matrix m_p0_wanted p1 q3 (impl_cycleSearch_goOn_rec F k_) n xs263 xs268 x273 = some r397 ∧ n265 = xs263.length ∧ n270 = xs268.length ∧ Fr a 127 [(0, .pointer (some ⟨b_p0, 0, none⟩)), (1, .int .i64 p1), (6, .int .i64 q3), (8, .int .i64 x273)] ∧ St (muL [.blk b_p0 146 [.slice A_p0_matrix p0_matrix.length c_p0_matrix, .func (.func f_p0_wanted) #[] k_p0_wanted.toArray, .slice A_p0_path p0_path.length c_p0_path, .slice A_p0_used p0_used.length c_p0_used], .row A_p0_path p0_path.length c_p0_path 2 1 (ints p0_path), .row A_p0_used p0_used.length c_p0_used 4 1 (bools p0_used)]) W w [.blk b_p0 146 [.slice A_p0_matrix p0_matrix.length c_p0_matrix, .func (.func f_p0_wanted) #[] k_p0_wanted.toArray, .slice A264 n265 c266, .slice A269 n270 c271], .row A264 n265 c266 2 1 (ints xs263), .row A269 n270 c271 4 1 (bools xs268)]) F ?_ ?_ ?_
        · exact ⟨p0_path, p0_used, (IntKind.i64.wrap (q1 + 1)), A_p0_path, p0_path.length, c_p0_path, A_p0_used, p0_used.length, c_p0_used, hl398, rfl, rfl, (Fr.pick (Fr.pick (Fr.pick (Fr.pick hf.none hf rfl) hf rfl) hf rfl) hf rfl), hs⟩
        · rintro a w ⟨xs263, xs268, x273, A264, n265, c266, A269, n270, c271, h0_, -, -, -, -⟩; simp [impl_cycleSearch_goOn_L1] at h0_
        · rintro n400 a w ⟨xs263, xs268, x273, A264, n265, c266, A269, n270, c271, hm399, hn267, hn272, hf, hs⟩
          rw [impl_cycleSearch_goOn_L1] at hm399
          refine wpL_seq ?_
          refine wpL_seq ?_
          refine wpL_region ?_
          refine sY hf hs rfl rfl rfl (Y_move rfl rfl) ?_; clear hf; intro a hf
          refine sY hf hs rfl rfl rfl (Y_move rfl rfl) ?_; clear hf; intro a hf
          refine sY hf hs rfl rfl rfl (Y_nilCheck rfl rfl) ?_; clear hf; intro a hf
          refine sY hf hs rfl rfl rfl (Y_fieldAddr rfl rfl fo146_0) ?_; clear hf; intro a hf
          refine sY hf hs rfl rfl rfl (Y_load_blk rfl rfl (i := 0) rfl rfl ag34) ?_; clear hf; intro a hf
          refine sY hf hs rfl rfl rfl (Y_lenH rfl rfl el34 rfl) ?_; clear hf; intro a hf
          refine sY hf hs rfl rfl rfl (Y_lss rfl rfl rfl) ?_; clear hf; intro a hf
          refine wpO_nil ?_
          refine wpL_cond hf rfl (fun hb401 => ?_) (fun hb401 => ?_)
          · have hm399 := bif_t hm399 hb401
            refine wpL_skip ?_
            refine wpL_seq ?_
            obtain ⟨r462, hj463, hm399⟩ := bind_some hm399
            refine wpL_block (fun a w => ∃ xs452 : List Int, ∃ xs457 : List Bool, ∃ A453, ∃ n454, ∃ c455, ∃ A458, ∃ n459, ∃ c460, Sum.inr (xs452, xs457) = r462 ∧ n454 = xs452.length ∧ n459 = xs457.length ∧ Fr a 127 [(0, .pointer (some ⟨b_p0, 0, none⟩)), (1, .int .i64 p1), (6, .int .i64 q3), (8, .int .i64 x273)] ∧ St (muL [.blk b_p0 146 [.slice A_p0_matrix p0_matrix.length c_p0_matrix, .func (.func f_p0_wanted) #[] k_p0_wanted.toArray, .slice A_p0_path p0_path.length c_p0_path, .slice A_p0_used p0_used.length c_p0_used], .row A_p0_path p0_path.length c_p0_path 2 1 (ints p0_path), .row A_p0_used p0_used.length c_p0_used 4 1 (bools p0_used)]) W w [.blk b_p0 146 [.slice A_p0_matrix p0_matrix.length c_p0_matrix, .func (.func f_p0_wanted) #[] k_p0_wanted.toArray, .slice A453 n454 c455, .slice A458 n459 c460], .row A453 n454 c455 2 1 (ints xs452), .row A458 n459 c460 4 1 (bools xs457)]) ?_ ?_
            · refine wpL_seq ?_
              refine wpL_region ?_
              refine sY hf hs rfl rfl rfl (Y_move rfl rfl) ?_; clear hf; intro a hf
              refine sY hf hs rfl rfl rfl (Y_nilCheck rfl rfl) ?_; clear hf; intro a hf
              refine sY hf hs rfl rfl rfl (Y_fieldAddr rfl rfl fo146_0) ?_; clear hf; intro a hf
              refine sY hf hs rfl rfl rfl (Y_load_blk rfl rfl (i := 0) rfl rfl ag34) ?_; clear hf; intro a hf
              refine sY hf hs rfl rfl rfl (Y_move rfl rfl) ?_; clear hf; intro a hf
              obtain ⟨q464, hi465, hj463⟩ := bind_some hj463
              obtain ⟨hi465a, hi465b, hi465q⟩ := idx_some hi465
              obtain ⟨vs466, hv467, hr468⟩ := id h_p0_matrix
              obtain ⟨A469, c470, hv471, hR472⟩ := hr468 _ _ hi465q
              refine sY hf hs rfl rfl rfl (Y_index rfl rfl rfl el34 ti36 (Rd.isAt hv467.here hv471) hi465a hi465b) ?_; clear hf; intro a hf
              refine sY hf hs rfl rfl rfl (Y_load_rd rfl rfl (fun w hs => hv467.at hs) (at1 hv471) ag36) ?_; clear hf; intro a hf
              refine sY hf hs rfl rfl rfl (Y_move rfl rfl) ?_; clear hf; intro a hf
              obtain ⟨q473, hi474, hj463⟩ := bind_some hj463
              obtain ⟨hi474a, hi474b, hi474q⟩ := idx_some hi474
              refine sY hf hs rfl rfl rfl (Y_index rfl rfl rfl el36 ti2 (Rd.isAt (hR472.at hs) (at1 (ints_at hi474q))) hi474a hi474b) ?_; clear hf; intro a hf
              refine sY hf hs rfl rfl rfl (Y_load_rd rfl rfl (fun w hs => hR472.at hs) (at1 (ints_at hi474q)) ag2) ?_; clear hf; intro a hf
              refine sY hf hs rfl rfl rfl (Y_assign rfl rfl) ?_; clear hf; intro a hf
              refine wpO_nil ?_
              refine wpL_seq ?_
              refine wpL_seq ?_
              obtain ⟨r479, hj480, hj463⟩ := bind_some hj463
              refine wpL_cut (fun a w => ∃ b478 : Bool, b478 = r479 ∧ Fr a 127 [(0, .pointer (some ⟨b_p0, 0, none⟩)), (1, .int .i64 p1), (6, .int .i64 q3), (8, .int .i64 x273), (9, .int .i64 q473), (85, .bool b478)] ∧ St (muL [.blk b_p0 146 [.slice A_p0_matrix p0_matrix.length c_p0_matrix, .func (.func f_p0_wanted) #[] k_p0_wanted.toArray, .slice A_p0_path p0_path.length c_p0_path, .slice A_p0_used p0_used.length c_p0_used], .row A_p0_path p0_path.length c_p0_path 2 1 (ints p0_path), .row A_p0_used p0_used.length c_p0_used 4 1 (bools p0_used)]) W w [.blk b_p0 146 [.slice A_p0_matrix p0_matrix.length c_p0_matrix, .func (.func f_p0_wanted) #[] k_p0_wanted.toArray, .slice A264 n265 c266, .slice A269 n270 c271], .row A264 n265 c266 2 1 (ints xs263), .row A269 n270 c271 4 1 (bools xs268)]) ?_ ?_
              · refine wpL_region ?_
                refine sY hf hs rfl rfl rfl (Y_move rfl rfl) ?_; clear hf; intro a hf
                refine sY hf hs rfl rfl rfl (Y_eql rfl rfl rfl) ?_; clear hf; intro a hf
                refine sY hf hs rfl rfl rfl (Y_move rfl rfl) ?_; clear hf; intro a hf
                refine bsplit (q473 == (-1000000000000000)) (fun hb481 => ?_) (fun hb481 => ?_)
                · have hj480 := bif_t hj480 hb481
                  refine sNo hf rfl rfl rfl (congrArg (fun b => some (Value.bool b)) hb481) rfl rfl rfl ?_; clear hf; intro a hf
                  refine sNo hf rfl rfl rfl (congrArg (fun b => some (Value.bool b)) hb481) rfl rfl rfl ?_; clear hf; intro a hf
                  refine sNo hf rfl rfl rfl (congrArg (fun b => some (Value.bool b)) hb481) rfl rfl rfl ?_; clear hf; intro a hf
                  refine sNo hf rfl rfl rfl (congrArg (fun b => some (Value.bool b)) hb481) rfl rfl rfl ?_; clear hf; intro a hf
                  refine sNo hf rfl rfl rfl (congrArg (fun b => some (Value.bool b)) hb481) rfl rfl rfl ?_; clear hf; intro a hf
                  refine sNo hf rfl rfl rfl (congrArg (fun b => some (Value.bool b)) hb481) rfl rfl rfl ?_; clear hf; intro a hf
                  refine sNo hf rfl rfl rfl (congrArg (fun b => some (Value.bool b)) hb481) rfl rfl rfl ?_; clear hf; intro a hf
                  refine sY hf hs rfl rfl rfl (Y_pickT rfl (congrArg (fun b => some (Value.bool b)) hb481) rfl) ?_; clear hf; intro a hf
                  refine wpO_nil ?_
                  refine wpL_nil (then_normal ?_)
                  exact ⟨true, Option.some.inj hj480, (Fr.pick (Fr.pick (Fr.pick (Fr.pick (Fr.pick (Fr.pick hf.none hf rfl) hf rfl) hf rfl) hf rfl) hf rfl) hf rfl), hs⟩
                · have hj480 := bif_f hj480 hb481
                  refine sYg hf hs rfl rfl rfl (congrArg (fun b => some (Value.bool b)) hb481) rfl rfl rfl (Y_move rfl rfl) ?_; clear hf; intro a hf
                  refine sYg hf hs rfl rfl rfl (congrArg (fun b => some (Value.bool b)) hb481) rfl rfl rfl (Y_nilCheck rfl rfl) ?_; clear hf; intro a hf
                  refine sYg hf hs rfl rfl rfl (congrArg (fun b => some (Value.bool b)) hb481) rfl rfl rfl (Y_fieldAddr rfl rfl fo146_3) ?_; clear hf; intro a hf
                  refine sYg hf hs rfl rfl rfl (congrArg (fun b => some (Value.bool b)) hb481) rfl rfl rfl (Y_load_blk rfl rfl (i := 0) rfl rfl ag144) ?_; clear hf; intro a hf
                  refine sYg hf hs rfl rfl rfl (congrArg (fun b => some (Value.bool b)) hb481) rfl rfl rfl (Y_move rfl rfl) ?_; clear hf; intro a hf
                  obtain ⟨q482, hi483, hj480⟩ := bind_some hj480
                  obtain ⟨hi483a, hi483b, hi483q⟩ := idx_some hi483
                  refine sYg hf hs rfl rfl rfl (congrArg (fun b => some (Value.bool b)) hb481) rfl rfl rfl (Y_index rfl rfl rfl el144 ti4 (Rd.isAt (hs.rd (i := 2) rfl) (at1 (bools_at hi483q))) hi483a (ltn hn272 hi483b)) ?_; clear hf; intro a hf
                  refine sYg hf hs rfl rfl rfl (congrArg (fun b => some (Value.bool b)) hb481) rfl rfl rfl (Y_load_rd rfl rfl (fun w hs => hs.rd (i := 2) rfl) (at1 (bools_at hi483q)) ag4) ?_; clear hf; intro a hf
                  refine sY hf hs rfl rfl rfl (Y_pickF rfl (congrArg (fun b => some (Value.bool b)) hb481) rfl) ?_; clear hf; intro a hf
                  refine wpO_nil ?_
                  refine wpL_nil (then_normal ?_)
                  exact ⟨q482, Option.some.inj hj480, (Fr.pick (Fr.pick (Fr.pick (Fr.pick (Fr.pick (Fr.pick hf.none hf rfl) hf rfl) hf rfl) hf rfl) hf rfl) hf rfl), hs⟩
              · rintro a w ⟨b478, hr_, hf, hs⟩
                subst hr_
                try dsimp only at hj463
                refine wpL_cond hf rfl (fun hb484 => ?_) (fun hb484 => ?_)
                · have hj463 := bif_t hj463 hb484
                  refine wpL_exit (Qb_exit ?_)
                  exact ⟨xs263, xs268, A264, n265, c266, A269, n270, c271, Option.some.inj hj463, hn267, hn272, (Fr.pick (Fr.pick (Fr.pick (Fr.pick hf.none hf rfl) hf rfl) hf rfl) hf rfl), hs⟩
                · have hj463 := bif_f hj463 hb484
                  refine wpL_skip ?_
                  refine wpL_seq ?_
                  refine wpL_region ?_
                  refine sY hf hs rfl rfl rfl (Y_move rfl rfl) ?_; clear hf; intro a hf
                  refine sY hf hs rfl rfl rfl (Y_nilCheck rfl rfl) ?_; clear hf; intro a hf
                  refine sY hf hs rfl rfl rfl (Y_fieldAddr rfl rfl fo146_3) ?_; clear hf; intro a hf
                  refine sY hf hs rfl rfl rfl (Y_load_blk rfl rfl (i := 0) rfl rfl ag144) ?_; clear hf; intro a hf
                  refine sY hf hs rfl rfl rfl (Y_move rfl rfl) ?_; clear hf; intro a hf
                  obtain ⟨q485, hi486, hj463⟩ := bind_some hj463
                  obtain ⟨hi486a, hi486b, hi486q⟩ := idx_some hi486
                  refine sY hf hs rfl rfl rfl (Y_index rfl rfl rfl el144 ti4 (Rd.isAt (hs.rd (i := 2) rfl) (at1 (bools_at hi486q))) hi486a (ltn hn272 hi486b)) ?_; clear hf; intro a hf
                  obtain ⟨xs487, hu488, hj463⟩ := bind_some hj463
                  refine sStoreL (i := 2) (us := [.bool true]) (enc := bools) hf hs rfl rfl rfl rfl rfl rfl hn272 hu488 ti4 rfl rfl rfl rfl rfl bools_len1 (bools_set true) ?_; clear hs; intro w hs
                  have hs : St (muL [.blk b_p0 146 [.slice A_p0_matrix p0_matrix.length c_p0_matrix, .func (.func f_p0_wanted) #[] k_p0_wanted.toArray, .slice A_p0_path p0_path.length c_p0_path, .slice A_p0_used p0_used.length c_p0_used], .row A_p0_path p0_path.length c_p0_path 2 1 (ints p0_path), .row A_p0_used p0_used.length c_p0_used 4 1 (bools p0_used)]) W w [.blk b_p0 146 [.slice A_p0_matrix p0_matrix.length c_p0_matrix, .func (.func f_p0_wanted) #[] k_p0_wanted.toArray, .slice A264 n265 c266, .slice A269 n270 c271], .row A264 n265 c266 2 1 (ints xs263), .row A269 n270 c271 4 1 (bools xs487)] := hs
                  refine wpO_nil ?_
                  refine wpL_seq ?_
                  refine wpL_region ?_
                  refine sY hf hs rfl rfl rfl (Y_move rfl rfl) ?_; clear hf; intro a hf
                  refine sY hf hs rfl rfl rfl (Y_move rfl rfl) ?_; clear hf; intro a hf
                  refine sY hf hs rfl rfl rfl (Y_nilCheck rfl rfl) ?_; clear hf; intro a hf
                  refine sY hf hs rfl rfl rfl (Y_fieldAddr rfl rfl fo146_2) ?_; clear hf; intro a hf
                  refine sY hf hs rfl rfl rfl (Y_load_blk rfl rfl (i := 0) rfl rfl ag36) ?_; clear hf; intro a hf
                  refine sY hf hs rfl rfl rfl (Y_move rfl rfl) ?_; clear hf; intro a hf
                  refine sBuildSlice (parts := [(0, .tmp 97)]) (vs := [.int .i64 x273]) (cells := [.int .i64 x273]) hf hs rfl rfl rfl rfl rfl el36 ti2 rfl rfl rfl rfl ?_; clear hf hs; intro a w A489 hs hA490 hf
                  have hs : St (muL [.blk b_p0 146 [.slice A_p0_matrix p0_matrix.length c_p0_matrix, .func (.func f_p0_wanted) #[] k_p0_wanted.toArray, .slice A_p0_path p0_path.length c_p0_path, .slice A_p0_used p0_used.length c_p0_used], .row A_p0_path p0_path.length c_p0_path 2 1 (ints p0_path), .row A_p0_used p0_used.length c_p0_used 4 1 (bools p0_used)]) W w [.blk b_p0 146 [.slice A_p0_matrix p0_matrix.length c_p0_matrix, .func (.func f_p0_wanted) #[] k_p0_wanted.toArray, .slice A264 n265 c266, .slice A269 n270 c271], .row A264 n265 c266 2 1 (ints xs263), .row A269 n270 c271 4 1 (bools xs487), .row A489 1 1 2 1 (ints ([x273]))] := hs
                  obtain ⟨xs493, ha494, hj463⟩ := bind_some hj463
                  refine sAppendL (i := 1) (xs := xs263) (ys := [x273]) (enc := ints) hf hs rfl rfl rfl rfl rfl rfl hn267 rfl rfl ha494 el36 ti2 rfl rfl rfl (hs.rd (i := 3) rfl) (Nat.succ_pos _) ints_len1 ints_append ints_one ?_; clear hf hs; intro a w A491 c492 hs hf
                  have hs : St (muL [.blk b_p0 146 [.slice A_p0_matrix p0_matrix.length c_p0_matrix, .func (.func f_p0_wanted) #[] k_p0_wanted.toArray, .slice A_p0_path p0_path.length c_p0_path, .slice A_p0_used p0_used.length c_p0_used], .row A_p0_path p0_path.length c_p0_path 2 1 (ints p0_path), .row A_p0_used p0_used.length c_p0_used 4 1 (bools p0_used)]) W w [.blk b_p0 146 [.slice A_p0_matrix p0_matrix.length c_p0_matrix, .func (.func f_p0_wanted) #[] k_p0_wanted.toArray, .slice A264 n265 c266, .slice A269 n270 c271], .row A491 xs493.length c492 2 1 (ints xs493), .row A269 n270 c271 4 1 (bools xs487), .row A489 1 1 2 1 (ints ([x273]))] := hs
                  refine sY hf hs rfl rfl rfl (Y_nilCheck rfl rfl) ?_; clear hf; intro a hf
                  refine sY hf hs rfl rfl rfl (Y_fieldAddr rfl rfl fo146_2) ?_; clear hf; intro a hf
                  refine sStore (i := 0) (us := [.slice A491 xs493.length c492]) hf hs rfl rfl rfl rfl rfl rfl ti36 rfl rfl rfl (Nat.le_of_ble_eq_true rfl) rfl ?_; clear hs; intro w hs
                  have hs : St (muL [.blk b_p0 146 [.slice A_p0_matrix p0_matrix.length c_p0_matrix, .func (.func f_p0_wanted) #[] k_p0_wanted.toArray, .slice A_p0_path p0_path.length c_p0_path, .slice A_p0_used p0_used.length c_p0_used], .row A_p0_path p0_path.length c_p0_path 2 1 (ints p0_path), .row A_p0_used p0_used.length c_p0_used 4 1 (bools p0_used)]) W w [.blk b_p0 146 [.slice A_p0_matrix p0_matrix.length c_p0_matrix, .func (.func f_p0_wanted) #[] k_p0_wanted.toArray, .slice A491 xs493.length c492, .slice A269 n270 c271], .row A491 xs493.length c492 2 1 (ints xs493), .row A269 n270 c271 4 1 (bools xs487), .row A489 1 1 2 1 (ints ([x273]))] := hs
                  refine wpO_nil ?_
                  refine wpL_seq ?_
                  refine wpL_seq ?_
                  refine wpL_region ?_
                  refine sY hf hs rfl rfl rfl (Y_move rfl rfl) ?_; clear hf; intro a hf
                  refine sY hf hs rfl rfl rfl (Y_move rfl rfl) ?_; clear hf; intro a hf
                  refine sY hf hs rfl rfl rfl (Y_move rfl rfl) ?_; clear hf; intro a hf
                  refine sY hf hs rfl rfl rfl (Y_add rfl rfl rfl) ?_; clear hf; intro a hf
                  obtain ⟨r495, hc496, hj463⟩ := bind_some hj463
                  refine sCall hf rfl rfl rfl rfl (cap := []) rfl rfl en136 (ih_ b_p0 p0_matrix A_p0_matrix p0_matrix.length c_p0_matrix rfl m_p0_wanted f_p0_wanted k_p0_wanted xs493 A491 xs493.length c492 rfl xs487 A269 n270 c271 ((hn272).trans (upd_len hu488).symm) (IntKind.i64.wrap (p1 + q473)) _ _ hc496 (h_p0_matrix.pass hs [0, 1, 2]) (fun x0 A0_0 n0_0 c0_0 h0_0 x1 r w' hm_ hb r0_0 => h_p0_wanted x0 A0_0 n0_0 c0_0 h0_0 x1 r w' hm_ (hs.bmPass [0, 1, 2] hb) r0_0) e_p0_wanted (hs.sel [0, 1, 2] (by decide)).rebase) ?_; clear hf
                  rintro _ w ⟨A497, n498, c499, A501, n502, c503, rfl, hn500, hn504, hs1⟩ a hf
                  have hs : St (muL [.blk b_p0 146 [.slice A_p0_matrix p0_matrix.length c_p0_matrix, .func (.func f_p0_wanted) #[] k_p0_wanted.toArray, .slice A_p0_path p0_path.length c_p0_path, .slice A_p0_used p0_used.length c_p0_used], .row A_p0_path p0_path.length c_p0_path 2 1 (ints p0_path), .row A_p0_used p0_used.length c_p0_used 4 1 (bools p0_used)]) W w [.row A489 1 1 2 1 (ints ([x273])), .blk b_p0 146 [.slice A_p0_matrix p0_matrix.length c_p0_matrix, .func (.func f_p0_wanted) #[] k_p0_wanted.toArray, .slice A497 n498 c499, .slice A501 n502 c503], .row A497 n498 c499 2 1 (ints r495.2.1), .row A501 n502 c503 4 1 (bools r495.2.2)] := St.mutTail (La := [.row A489 1 1 2 1 (ints ([x273]))]) (Lb := [.blk b_p0 146 [.slice A_p0_matrix p0_matrix.length c_p0_matrix, .func (.func f_p0_wanted) #[] k_p0_wanted.toArray, .slice A491 xs493.length c492, .slice A269 n270 c271], .row A491 xs493.length c492 2 1 (ints xs493), .row A269 n270 c271 4 1 (bools xs487)]) (hs.sel [3, 0, 1, 2] (by decide)) hs1
                  clear hs1
                  refine wpO_nil ?_
                  refine wpL_cond hf rfl (fun hb505 => ?_) (fun hb505 => ?_)
                  · have hj463 := bif_t hj463 hb505
                    refine wpL_seq ?_
                    refine wpL_region ?_
                    refine sY hf hs rfl rfl rfl (Y_assign rfl rfl) ?_; clear hf; intro a hf
                    refine wpO_nil ?_
                    obtain rfl := Option.some.inj hj463
                    try dsimp only at hm399
                    obtain rfl := Option.some.inj hm399
                    try dsimp only at hm
                    obtain rfl := Option.some.inj hm
                    refine wpL_ret (Qb_ret (Ql_ret (Qb_ret (ret_tmp rfl hf rfl ?_))))
                    exact ⟨_, rfl, A497, n498, c499, A501, n502, c503, rfl, hn500, hn504, hs.sel [1, 2, 3] (by decide)⟩
                  · have hj463 := bif_f hj463 hb505
                    refine wpL_skip ?_
                    refine wpL_seq ?_
                    refine wpL_drawG [.row A489 1 1 2 1 (ints ([x273])), .blk b_p0 146 [.slice A_p0_matrix p0_matrix.length c_p0_matrix, .func (.func f_p0_wanted) #[] k_p0_wanted.toArray, .slice A497 n498 c499, .slice A501 n502 c503], .row A497 n498 c499 2 1 (ints r495.2.1), .row A501 n502 c503 4 1 (bools r495.2.2)] 14 (by kernel_rfl) hs ?_; clear hs; intro w hs
                    have hs0 : St (muL [.blk b_p0 146 [.slice A_p0_matrix p0_matrix.length c_p0_matrix, .func (.func f_p0_wanted) #[] k_p0_wanted.toArray, .slice A_p0_path p0_path.length c_p0_path, .slice A_p0_used p0_used.length c_p0_used], .row A_p0_path p0_path.length c_p0_path 2 1 (ints p0_path), .row A_p0_used p0_used.length c_p0_used 4 1 (bools p0_used)]) W w [.row A489 1 1 2 1 (ints ([x273])), .blk b_p0 146 [.slice A_p0_matrix p0_matrix.length c_p0_matrix, .func (.func f_p0_wanted) #[] k_p0_wanted.toArray, .slice A497 n498 c499, .slice A501 n502 c503], .row A497 n498 c499 2 1 (ints r495.2.1), .row A501 n502 c503 4 1 (bools r495.2.2)] := hs
                    refine gY (i := 0) [] rfl (by kernel_rfl) (by kernel_rfl) hf hs0 rfl rfl rfl (Y_move rfl rfl) ?_; clear hf; intro a hf
                    refine gY (i := 1) [] rfl (by kernel_rfl) (by kernel_rfl) hf hs0 rfl rfl rfl (Y_move rfl rfl) ?_; clear hf; intro a hf
                    refine gY (i := 2) [] rfl (by kernel_rfl) (by kernel_rfl) hf hs0 rfl rfl rfl (Y_nilCheck rfl rfl) ?_; clear hf; intro a hf
                    refine gY (i := 3) [] rfl (by kernel_rfl) (by kernel_rfl) hf hs0 rfl rfl rfl (Y_fieldAddr rfl rfl fo146_2) ?_; clear hf; intro a hf
                    refine gY (i := 4) [] rfl (by kernel_rfl) (by kernel_rfl) hf hs0 rfl rfl rfl (Y_load_blk rfl rfl (i := 1) rfl rfl ag36) ?_; clear hf; intro a hf
                    refine gY (i := 5) [] rfl (by kernel_rfl) (by kernel_rfl) hf hs0 rfl rfl rfl (Y_move rfl rfl) ?_; clear hf; intro a hf
                    refine gY (i := 6) [] rfl (by kernel_rfl) (by kernel_rfl) hf hs0 rfl rfl rfl (Y_nilCheck rfl rfl) ?_; clear hf; intro a hf
                    refine gY (i := 7) [] rfl (by kernel_rfl) (by kernel_rfl) hf hs0 rfl rfl rfl (Y_fieldAddr rfl rfl fo146_2) ?_; clear hf; intro a hf
                    refine gY (i := 8) [] rfl (by kernel_rfl) (by kernel_rfl) hf hs0 rfl rfl rfl (Y_load_blk rfl rfl (i := 1) rfl rfl ag36) ?_; clear hf; intro a hf
                    refine gY (i := 9) [] rfl (by kernel_rfl) (by kernel_rfl) hf hs0 rfl rfl rfl (Y_lenH rfl rfl el36 hn500) ?_; clear hf; intro a hf
                    refine gY (i := 10) [] rfl (by kernel_rfl) (by kernel_rfl) hf hs0 rfl rfl rfl (Y_sub rfl rfl rfl) ?_; clear hf; intro a hf
                    obtain ⟨xs509, hk508, hj463⟩ := bind_some hj463
                    refine gY (i := 11) [] rfl (by kernel_rfl) (by kernel_rfl) hf hs0 rfl rfl rfl (Y_sliceH rfl rfl rfl (cutTo_some hk508).1 (leC hn500 (hs0.capR (i := 2) rfl) hk508) el36 ti2) ?_; clear hf; intro a hf
                    refine gY (i := 12) [13] rfl (by kernel_rfl) (by kernel_rfl) hf hs0 rfl rfl rfl (Y_nilCheck rfl rfl) ?_; clear hf; intro a hf
                    refine gY (i := 13) [] rfl (by kernel_rfl) (by kernel_rfl) hf hs0 rfl rfl rfl (Y_fieldAddr rfl rfl fo146_2) ?_; clear hf; intro a hf
                    refine gRun (i := 14) rfl (by kernel_rfl) ?_
                    have hs := hs.cutInts (i := 2) rfl hn500 hk508
                    have hs : St (muL [.blk b_p0 146 [.slice A_p0_matrix p0_matrix.length c_p0_matrix, .func (.func f_p0_wanted) #[] k_p0_wanted.toArray, .slice A_p0_path p0_path.length c_p0_path, .slice A_p0_used p0_used.length c_p0_used], .row A_p0_path p0_path.length c_p0_path 2 1 (ints p0_path), .row A_p0_used p0_used.length c_p0_used 4 1 (bools p0_used)]) W _ [.row A489 1 1 2 1 (ints ([x273])), .blk b_p0 146 [.slice A_p0_matrix p0_matrix.length c_p0_matrix, .func (.func f_p0_wanted) #[] k_p0_wanted.toArray, .slice A497 n498 c499, .slice A501 n502 c503], .row A497 ((IntKind.i64.wrap ((r495.2.1.length : Int) - 1)) : Int).toNat c499 2 1 (ints xs509), .row A501 n502 c503 4 1 (bools r495.2.2)] := hs
                    refine sStore (i := 1) (us := [.slice A497 (((IntKind.i64.wrap ((r495.2.1.length : Int) - 1)) : Int).toNat) c499]) hf hs rfl rfl rfl rfl rfl rfl ti36 rfl rfl rfl (Nat.le_of_ble_eq_true rfl) rfl ?_; clear hs; intro w hs
                    have hs : St (muL [.blk b_p0 146 [.slice A_p0_matrix p0_matrix.length c_p0_matrix, .func (.func f_p0_wanted) #[] k_p0_wanted.toArray, .slice A_p0_path p0_path.length c_p0_path, .slice A_p0_used p0_used.length c_p0_used], .row A_p0_path p0_path.length c_p0_path 2 1 (ints p0_path), .row A_p0_used p0_used.length c_p0_used 4 1 (bools p0_used)]) W w [.row A489 1 1 2 1 (ints ([x273])), .blk b_p0 146 [.slice A_p0_matrix p0_matrix.length c_p0_matrix, .func (.func f_p0_wanted) #[] k_p0_wanted.toArray, .slice A497 (((IntKind.i64.wrap ((r495.2.1.length : Int) - 1)) : Int).toNat) c499, .slice A501 n502 c503], .row A497 ((IntKind.i64.wrap ((r495.2.1.length : Int) - 1)) : Int).toNat c499 2 1 (ints xs509), .row A501 n502 c503 4 1 (bools r495.2.2)] := hs
                    refine wpO_nil ⟨Or.inl rfl, ?_⟩
                    refine gDone (by kernel_rfl) ?_
                    clear hs0
                    refine wpL_region ?_
                    refine sY hf hs rfl rfl rfl (Y_move rfl rfl) ?_; clear hf; intro a hf
                    refine sY hf hs rfl rfl rfl (Y_nilCheck rfl rfl) ?_; clear hf; intro a hf
                    refine sY hf hs rfl rfl rfl (Y_fieldAddr rfl rfl fo146_3) ?_; clear hf; intro a hf
                    refine sY hf hs rfl rfl rfl (Y_load_blk rfl rfl (i := 1) rfl rfl ag144) ?_; clear hf; intro a hf
                    refine sY hf hs rfl rfl rfl (Y_move rfl rfl) ?_; clear hf; intro a hf
                    obtain ⟨q510, hi511, hj463⟩ := bind_some hj463
                    obtain ⟨hi511a, hi511b, hi511q⟩ := idx_some hi511
                    refine sY hf hs rfl rfl rfl (Y_index rfl rfl rfl el144 ti4 (Rd.isAt (hs.rd (i := 3) rfl) (at1 (bools_at hi511q))) hi511a (ltn hn504 hi511b)) ?_; clear hf; intro a hf
                    obtain ⟨xs512, hu513, hj463⟩ := bind_some hj463
                    refine sStoreL (i := 3) (us := [.bool false]) (enc := bools) hf hs rfl rfl rfl rfl rfl rfl hn504 hu513 ti4 rfl rfl rfl rfl rfl bools_len1 (bools_set false) ?_; clear hs; intro w hs
                    have hs : St (muL [.blk b_p0 146 [.slice A_p0_matrix p0_matrix.length c_p0_matrix, .func (.func f_p0_wanted) #[] k_p0_wanted.toArray, .slice A_p0_path p0_path.length c_p0_path, .slice A_p0_used p0_used.length c_p0_used], .row A_p0_path p0_path.length c_p0_path 2 1 (ints p0_path), .row A_p0_used p0_used.length c_p0_used 4 1 (bools p0_used)]) W w [.row A489 1 1 2 1 (ints ([x273])), .blk b_p0 146 [.slice A_p0_matrix p0_matrix.length c_p0_matrix, .func (.func f_p0_wanted) #[] k_p0_wanted.toArray, .slice A497 (((IntKind.i64.wrap ((r495.2.1.length : Int) - 1)) : Int).toNat) c499, .slice A501 n502 c503], .row A497 ((IntKind.i64.wrap ((r495.2.1.length : Int) - 1)) : Int).toNat c499 2 1 (ints xs509), .row A501 n502 c503 4 1 (bools xs512)] := hs
                    refine wpO_nil ?_
                    refine wpL_nil (Qb_normal ?_)
                    exact ⟨xs509, xs512, A497, ((IntKind.i64.wrap ((r495.2.1.length : Int) - 1)) : Int).toNat, c499, A501, n502, c503, Option.some.inj hj463, (pre_len hk508), ((hn504).trans (upd_len hu513).symm), (Fr.pick (Fr.pick (Fr.pick (Fr.pick hf.none hf rfl) hf rfl) hf rfl) hf rfl), hs.sel [1, 2, 3] (by decide)⟩
            · rintro a w ⟨xs452, xs457, A453, n454, c455, A458, n459, c460, hr_, hn456, hn461, hf, hs⟩
              subst hr_
              try dsimp only at hm399
              refine wpL_region ?_
              refine sY hf hs rfl rfl rfl (Y_move rfl rfl) ?_; clear hf; intro a hf
              refine sY hf hs rfl rfl rfl (Y_add rfl rfl rfl) ?_; clear hf; intro a hf
              refine sY hf hs rfl rfl rfl (Y_assign rfl rfl) ?_; clear hf; intro a hf
              refine wpO_nil ?_
              refine wpL_nil (Ql_normal ?_)
              exact ⟨xs452, xs457, (IntKind.i64.wrap (x273 + 1)), A453, n454, c455, A458, n459, c460, hm399, hn456, hn461, (Fr.pick (Fr.pick (Fr.pick (Fr.pick hf.none hf rfl) hf rfl) hf rfl) hf rfl), hs⟩
          · have hm399 := bif_f hm399 hb401
            refine wpL_exit (Ql_exit (Qb_exit ?_))
            exact ⟨xs263, xs268, A264, n265, c266, A269, n270, c271, Option.some.inj hm399, hn267, hn272, hf.none, hs⟩
      · rintro a w ⟨xs387, xs392, A388, n389, c390, A393, n394, c395, hr_, hn391, hn396, hf, hs⟩
        subst hr_
        try dsimp only at hm
        refine wpL_seq ?_
        refine wpL_region ?_
        refine sY hf hs rfl rfl rfl (Y_assign rfl rfl) ?_; clear hf; intro a hf
        refine wpO_nil ?_
        obtain rfl := Option.some.inj hm
        refine wpL_ret (ret_tmp rfl hf rfl ?_)
        exact ⟨_, rfl, A388, n389, c390, A393, n394, c395, rfl, hn391, hn396, hs⟩
theorem impl_cycleSearch_goOn_rec_ok (F : Nat) : ∀ (k_ : Nat) (b_p0 : Nat) (p0_matrix : List (List Int)) (A_p0_matrix : Option Addr) (n_p0_matrix c_p0_matrix : Nat) (_hn_p0_matrix : n_p0_matrix = p0_matrix.length) (m_p0_wanted : (List Int) → Int → Option Bool) (f_p0_wanted : FuncId) (k_p0_wanted : List Value) (p0_path : List Int) (A_p0_path : Option Addr) (n_p0_path c_p0_path : Nat) (_hn_p0_path : n_p0_path = p0_path.length) (p0_used : List Bool) (A_p0_used : Option Addr) (n_p0_used c_p0_used : Nat) (_hn_p0_used : n_p0_used = p0_used.length) (p1 : Int) (r : (Bool) × (List Int) × (List Bool)) (W : World) (_hm : impl_cycleSearch_goOn_rec F k_ p0_matrix m_p0_wanted p0_path p0_used p1 = some r) (_h_p0_matrix : KM (muL [.blk b_p0 146 [.slice A_p0_matrix n_p0_matrix c_p0_matrix, .func (.func f_p0_wanted) #[] k_p0_wanted.toArray, .slice A_p0_path n_p0_path c_p0_path, .slice A_p0_used n_p0_used c_p0_used], .row A_p0_path n_p0_path c_p0_path 2 1 (ints p0_path), .row A_p0_used n_p0_used c_p0_used 4 1 (bools p0_used)]) W A_p0_matrix p0_matrix) (_h_p0_wanted : ∀ (x0 : List Int) (Ax0_1 : Option Addr) (nx0_1 cx0_1 : Nat) (_hnx0_1 : nx0_1 = x0.length) (x1 : Int) (r : Bool) (w : World), m_p0_wanted x0 x1 = some r → BM (muL [.blk b_p0 146 [.slice A_p0_matrix n_p0_matrix c_p0_matrix, .func (.func f_p0_wanted) #[] k_p0_wanted.toArray, .slice A_p0_path n_p0_path c_p0_path, .slice A_p0_used n_p0_used c_p0_used], .row A_p0_path n_p0_path c_p0_path 2 1 (ints p0_path), .row A_p0_used n_p0_used c_p0_used 4 1 (bools p0_used)]) W w → Rd w Ax0_1 (ints x0) → Calls Try.prog f_p0_wanted (([.slice Ax0_1 nx0_1 cx0_1, .int .i64 x1] : List Value) ++ k_p0_wanted).toArray w fun e w' => ∃ v, e = .returned v ∧ v = .bool r ∧ St [] w w' []) (_e_p0_wanted : En Try.prog f_p0_wanted) (_hst : St (muL [.blk b_p0 146 [.slice A_p0_matrix n_p0_matrix c_p0_matrix, .func (.func f_p0_wanted) #[] k_p0_wanted.toArray, .slice A_p0_path n_p0_path c_p0_path, .slice A_p0_used n_p0_used c_p0_used], .row A_p0_path n_p0_path c_p0_path 2 1 (ints p0_path), .row A_p0_used n_p0_used c_p0_used 4 1 (bools p0_used)]) W W [.blk b_p0 146 [.slice A_p0_matrix n_p0_matrix c_p0_matrix, .func (.func f_p0_wanted) #[] k_p0_wanted.toArray, .slice A_p0_path n_p0_path c_p0_path, .slice A_p0_used n_p0_used c_p0_used], .row A_p0_path n_p0_path c_p0_path 2 1 (ints p0_path), .row A_p0_used n_p0_used c_p0_used 4 1 (bools p0_used)]), Calls Try.prog 136 [.pointer (some ⟨b_p0, 0, none⟩), .int .i64 p1].toArray W fun e w' => ∃ v, e = .returned v ∧ ∃ A2_, ∃ n2_, ∃ c2_, ∃ A3_, ∃ n3_, ∃ c3_, v = .bool r.1 ∧ n2_ = r.2.1.length ∧ n3_ = r.2.2.length ∧ St (muL [.blk b_p0 146 [.slice A_p0_matrix n_p0_matrix c_p0_matrix, .func (.func f_p0_wanted) #[] k_p0_wanted.toArray, .slice A_p0_path n_p0_path c_p0_path, .slice A_p0_used n_p0_used c_p0_used], .row A_p0_path n_p0_path c_p0_path 2 1 (ints p0_path), .row A_p0_used n_p0_used c_p0_used 4 1 (bools p0_used)]) W w' [.blk b_p0 146 [.slice A_p0_matrix n_p0_matrix c_p0_matrix, .func (.func f_p0_wanted) #[] k_p0_wanted.toArray, .slice A2_ n2_ c2_, .slice A3_ n3_ c3_], .row A2_ n2_ c2_ 2 1 (ints r.2.1), .row A3_ n3_ c3_ 4 1 (bools r.2.2)]
  | 0 => by intros; simp [impl_cycleSearch_goOn_rec] at *
  | k_ + 1 => impl_cycleSearch_goOn_step F k_ (impl_cycleSearch_goOn_rec_ok F k_)
theorem impl_cycleSearch_goOn_ok (F : Nat) : ∀ (b_p0 : Nat) (p0_matrix : List (List Int)) (A_p0_matrix : Option Addr) (n_p0_matrix c_p0_matrix : Nat) (_hn_p0_matrix : n_p0_matrix = p0_matrix.length) (m_p0_wanted : (List Int) → Int → Option Bool) (f_p0_wanted : FuncId) (k_p0_wanted : List Value) (p0_path : List Int) (A_p0_path : Option Addr) (n_p0_path c_p0_path : Nat) (_hn_p0_path : n_p0_path = p0_path.length) (p0_used : List Bool) (A_p0_used : Option Addr) (n_p0_used c_p0_used : Nat) (_hn_p0_used : n_p0_used = p0_used.length) (p1 : Int) (r : (Bool) × (List Int) × (List Bool)) (W : World) (_hm : impl_cycleSearch_goOn F p0_matrix m_p0_wanted p0_path p0_used p1 = some r) (_h_p0_matrix : KM (muL [.blk b_p0 146 [.slice A_p0_matrix n_p0_matrix c_p0_matrix, .func (.func f_p0_wanted) #[] k_p0_wanted.toArray, .slice A_p0_path n_p0_path c_p0_path, .slice A_p0_used n_p0_used c_p0_used], .row A_p0_path n_p0_path c_p0_path 2 1 (ints p0_path), .row A_p0_used n_p0_used c_p0_used 4 1 (bools p0_used)]) W A_p0_matrix p0_matrix) (_h_p0_wanted : ∀ (x0 : List Int) (Ax0_1 : Option Addr) (nx0_1 cx0_1 : Nat) (_hnx0_1 : nx0_1 = x0.length) (x1 : Int) (r : Bool) (w : World), m_p0_wanted x0 x1 = some r → BM (muL [.blk b_p0 146 [.slice A_p0_matrix n_p0_matrix c_p0_matrix, .func (.func f_p0_wanted) #[] k_p0_wanted.toArray, .slice A_p0_path n_p0_path c_p0_path, .slice A_p0_used n_p0_used c_p0_used], .row A_p0_path n_p0_path c_p0_path 2 1 (ints p0_path), .row A_p0_used n_p0_used c_p0_used 4 1 (bools p0_used)]) W w → Rd w Ax0_1 (ints x0) → Calls Try.prog f_p0_wanted (([.slice Ax0_1 nx0_1 cx0_1, .int .i64 x1] : List Value) ++ k_p0_wanted).toArray w fun e w' => ∃ v, e = .returned v ∧ v = .bool r ∧ St [] w w' []) (_e_p0_wanted : En Try.prog f_p0_wanted) (_hst : St (muL [.blk b_p0 146 [.slice A_p0_matrix n_p0_matrix c_p0_matrix, .func (.func f_p0_wanted) #[] k_p0_wanted.toArray, .slice A_p0_path n_p0_path c_p0_path, .slice A_p0_used n_p0_used c_p0_used], .row A_p0_path n_p0_path c_p0_path 2 1 (ints p0_path), .row A_p0_used n_p0_used c_p0_used 4 1 (bools p0_used)]) W W [.blk b_p0 146 [.slice A_p0_matrix n_p0_matrix c_p0_matrix, .func (.func f_p0_wanted) #[] k_p0_wanted.toArray, .slice A_p0_path n_p0_path c_p0_path, .slice A_p0_used n_p0_used c_p0_used], .row A_p0_path n_p0_path c_p0_path 2 1 (ints p0_path), .row A_p0_used n_p0_used c_p0_used 4 1 (bools p0_used)]), Calls Try.prog 136 [.pointer (some ⟨b_p0, 0, none⟩), .int .i64 p1].toArray W fun e w' => ∃ v, e = .returned v ∧ ∃ A2_, ∃ n2_, ∃ c2_, ∃ A3_, ∃ n3_, ∃ c3_, v = .bool r.1 ∧ n2_ = r.2.1.length ∧ n3_ = r.2.2.length ∧ St (muL [.blk b_p0 146 [.slice A_p0_matrix n_p0_matrix c_p0_matrix, .func (.func f_p0_wanted) #[] k_p0_wanted.toArray, .slice A_p0_path n_p0_path c_p0_path, .slice A_p0_used n_p0_used c_p0_used], .row A_p0_path n_p0_path c_p0_path 2 1 (ints p0_path), .row A_p0_used n_p0_used c_p0_used 4 1 (bools p0_used)]) W w' [.blk b_p0 146 [.slice A_p0_matrix n_p0_matrix c_p0_matrix, .func (.func f_p0_wanted) #[] k_p0_wanted.toArray, .slice A2_ n2_ c2_, .slice A3_ n3_ c3_], .row A2_ n2_ c2_ 2 1 (ints r.2.1), .row A3_ n3_ c3_ 4 1 (bools r.2.2)] := impl_cycleSearch_goOn_rec_ok F F

set_option maxRecDepth 100000 in
theorem impl_firstCycle_ok (F : Nat) (p0_a : List (List Int)) (A_p0_a_1 : Option Addr) (n_p0_a_1 c_p0_a_1 : Nat) (hn_p0_a_1 : n_p0_a_1 = p0_a.length) (m_p1_wanted : (List Int) → Int → Option Bool) (f_p1_wanted : FuncId) (k_p1_wanted : List Value) (r : List Int) (W : World) (hm : impl_firstCycle F p0_a m_p1_wanted = some r) (h_p0_a_1 : RdM W A_p0_a_1 p0_a) (h_p1_wanted : ∀ (x0 : List Int) (Ax0_1 : Option Addr) (nx0_1 cx0_1 : Nat) (_hnx0_1 : nx0_1 = x0.length) (x1 : Int) (r : Bool) (w : World), m_p1_wanted x0 x1 = some r → Below W.heap.size W w → Rd w Ax0_1 (ints x0) → Calls Try.prog f_p1_wanted (([.slice Ax0_1 nx0_1 cx0_1, .int .i64 x1] : List Value) ++ k_p1_wanted).toArray w fun e w' => ∃ v, e = .returned v ∧ v = .bool r ∧ St [] w w' []) (e_p1_wanted : En Try.prog f_p1_wanted) :
    Calls Try.prog 84 [.slice A_p0_a_1 n_p0_a_1 c_p0_a_1, .func (.func f_p1_wanted) #[] k_p1_wanted.toArray].toArray W fun e w' => ∃ v, e = .returned v ∧ ∃ A80, ∃ n81, ∃ c82, v = .slice A80 n81 c82 ∧ n81 = r.length ∧ St [] W w' [.row A80 n81 c82 2 1 (ints r)] := by
  subst hn_p0_a_1
  unfold impl_firstCycle at hm
  refine Calls.enter (N := 24) Try.func84 rfl rfl rfl (fun a hf => ?_)
  have hs := St.start W
  obtain ⟨w, hw_⟩ : ∃ w, w = W := ⟨W, rfl⟩
  clear hw_ w
  refine wpL_seq ?_
  refine wpL_region ?_
  refine sY hf hs rfl rfl rfl (Y_assign rfl rfl) ?_; clear hf; intro a hf
  refine wpO_nil ?_
  refine wpL_seq ?_
  refine wpL_seq ?_
  refine wpL_region ?_
  refine sY hf hs rfl rfl rfl (Y_move rfl rfl) ?_; clear hf; intro a hf
  refine sY hf hs rfl rfl rfl (Y_lenH rfl rfl el34 rfl) ?_; clear hf; intro a hf
  refine sY hf hs rfl rfl rfl (Y_move rfl rfl) ?_; clear hf; intro a hf
  refine wpO_nil ?_
  obtain ⟨r57, hl58, hm⟩ := bind_some hm
  refine wpL_block (fun a w => Sum.inr () = r57 ∧ Fr a 24 [] ∧ St [] W w []) ?_ ?_
  · refine wpL_loop (fun n a w => ∃ x38 : Int, impl_firstCycle_L1 F p0_a m_p1_wanted n x38 = some r57 ∧ Fr a 24 [(0, .slice A_p0_a_1 p0_a.length c_p0_a_1), (1, .func (.func f_p1_wanted) #[] k_p1_wanted.toArray), (8, .int .i64 (p0_a.length : Int)), (9, .int .i64 x38)] ∧ St [] W w []) F ?_ ?_ ?_
    · exact ⟨0, hl58, (Fr.pick (Fr.pick (Fr.pick (Fr.pick hf.none hf rfl) hf rfl) hf rfl) hf rfl), hs⟩
    · rintro a w ⟨x38, h0_, -, -⟩; simp [impl_firstCycle_L1] at h0_
    · rintro n60 a w ⟨x38, hm59, hf, hs⟩
      rw [impl_firstCycle_L1] at hm59
      refine wpL_seq ?_
      refine wpL_region ?_
      refine sY hf hs rfl rfl rfl (Y_lss rfl rfl rfl) ?_; clear hf; intro a hf
      refine wpO_nil ?_
      refine wpL_seq ?_
      refine wpL_cond hf rfl (fun hb61 => ?_) (fun hb61 => ?_)
      · have hm59 := bif_t hm59 hb61
        refine wpL_skip ?_
        refine wpL_seq ?_
        refine wpL_block0 ?_
        refine wpL_seq ?_
        refine wpL_region ?_
        refine sY hf hs rfl rfl rfl (Y_move rfl rfl) ?_; clear hf; intro a hf
        refine sY hf hs rfl rfl rfl (Y_assign rfl rfl) ?_; clear hf; intro a hf
        refine wpO_nil ?_
        refine wpL_seq ?_
        refine wpL_region ?_
        refine sY hf hs rfl rfl rfl (Y_move rfl rfl) ?_; clear hf; intro a hf
        refine sY hf hs rfl rfl rfl (Y_move rfl rfl) ?_; clear hf; intro a hf
        refine sY hf hs rfl rfl rfl (Y_move rfl rfl) ?_; clear hf; intro a hf
        refine sBuildSlice (parts := [(0, .tmp 14)]) (vs := [.int .i64 x38]) (cells := [.int .i64 x38]) hf hs rfl rfl rfl rfl rfl el36 ti2 rfl rfl rfl rfl ?_; clear hf hs; intro a w A62 hs hA63 hf
        have hs : St [] W w [.row A62 1 1 2 1 (ints ([x38]))] := hs
        refine sY hf hs rfl rfl rfl (Y_move rfl rfl) ?_; clear hf; intro a hf
        refine sY hf hs rfl rfl rfl (Y_lenH rfl rfl el34 rfl) ?_; clear hf; intro a hf
        obtain ⟨xs66, hk65, hm59⟩ := bind_some hm59
        refine sMakeL (enc := bools) hf hs rfl rfl rfl rfl rfl hk65 el144 ti4 rfl bools_made ?_; clear hf hs; intro a w A64 hs hf
        have hs : St [] W w [.row A62 1 1 2 1 (ints ([x38])), .row A64 xs66.length xs66.length 4 1 (bools xs66)] := hs
        refine sY hf hs rfl rfl rfl (Y_build (parts := [(0, .tmp 12), (1, .tmp 13), (2, .tmp 15), (3, .tmp 18)]) (vs := [.slice A_p0_a_1 p0_a.length c_p0_a_1, .func (.func f_p1_wanted) #[] k_p1_wanted.toArray, .slice A62 1 1, .slice A64 xs66.length xs66.length]) rfl rfl (run_build (parts := [(0, .slice A_p0_a_1 p0_a.length c_p0_a_1), (1, .func (.func f_p1_wanted) #[] k_p1_wanted.toArray), (2, .slice A62 1 1), (3, .slice A64 xs66.length xs66.length)]) (cells := [.slice A_p0_a_1 p0_a.length c_p0_a_1, .func (.func f_p1_wanted) #[] k_p1_wanted.toArray, .slice A62 1 1, .slice A64 xs66.length xs66.length]) (places := #[(0, 1), (1, 1), (2, 1), (3, 1)]) ti146 Try.underlying146 (fun w => by simp [go_sem]) rfl)) ?_; clear hf; intro a hf
        refine sAlloc hf hs rfl rfl rfl rfl ti146 ?_; clear hf hs; intro a w b67 hs hf
        have hs : St [] W w [.row A62 1 1 2 1 (ints ([x38])), .row A64 xs66.length xs66.length 4 1 (bools xs66), .blk b67 146 [.slice none 0 0, .nilFunc, .slice none 0 0, .slice none 0 0]] := hs
        refine sStore (i := 2) (us := [.slice A_p0_a_1 p0_a.length c_p0_a_1, .func (.func f_p1_wanted) #[] k_p1_wanted.toArray, .slice A62 1 1, .slice A64 xs66.length xs66.length]) hf hs rfl rfl rfl rfl rfl rfl ti146 rfl rfl rfl (Nat.le_of_ble_eq_true rfl) rfl ?_; clear hs; intro w hs
        have hs : St [] W w [.row A62 1 1 2 1 (ints ([x38])), .row A64 xs66.length xs66.length 4 1 (bools xs66), .blk b67 146 [.slice A_p0_a_1 p0_a.length c_p0_a_1, .func (.func f_p1_wanted) #[] k_p1_wanted.toArray, .slice A62 1 1, .slice A64 xs66.length xs66.length]] := hs
        refine wpO_nil ?_
        refine wpL_seq ?_
        refine wpL_region ?_
        obtain ⟨r68, hc69, hm59⟩ := bind_some hm59
        refine sCall hf rfl rfl rfl rfl (cap := []) rfl rfl en136 (impl_cycleSearch_goOn_ok F b67 p0_a A_p0_a_1 p0_a.length c_p0_a_1 rfl m_p1_wanted f_p1_wanted k_p1_wanted ([x38]) A62 1 1 rfl xs66 A64 xs66.length xs66.length rfl 0 _ _ hc69 (h_p0_a_1.pass hs [2, 0, 1]) (fun x0 A0_0 n0_0 c0_0 h0_0 x1 r w' hm_ hb r0_0 => h_p1_wanted x0 A0_0 n0_0 c0_0 h0_0 x1 r w' hm_ (hs.bmPass [2, 0, 1] hb).below r0_0) e_p1_wanted (hs.sel [2, 0, 1] (by decide)).rebase) ?_; clear hf
        rintro _ w ⟨A70, n71, c72, A74, n75, c76, rfl, hn73, hn77, hs1⟩ a hf
        have hs : St [] W w [.blk b67 146 [.slice A_p0_a_1 p0_a.length c_p0_a_1, .func (.func f_p1_wanted) #[] k_p1_wanted.toArray, .slice A70 n71 c72, .slice A74 n75 c76], .row A70 n71 c72 2 1 (ints r68.2.1), .row A74 n75 c76 4 1 (bools r68.2.2)] := St.mutTail (La := []) (Lb := [.blk b67 146 [.slice A_p0_a_1 p0_a.length c_p0_a_1, .func (.func f_p1_wanted) #[] k_p1_wanted.toArray, .slice A62 1 1, .slice A64 xs66.length xs66.length], .row A62 1 1 2 1 (ints ([x38])), .row A64 xs66.length xs66.length 4 1 (bools xs66)]) (hs.sel [2, 0, 1] (by decide)) hs1
        clear hs1
        refine wpO_nil ?_
        refine wpL_cond hf rfl (fun hb78 => ?_) (fun hb78 => ?_)
        · have hm59 := bif_t hm59 hb78
          refine wpL_seq ?_
          refine wpL_region ?_
          refine sY hf hs rfl rfl rfl (Y_fieldAddr rfl rfl fo146_2) ?_; clear hf; intro a hf
          refine sY hf hs rfl rfl rfl (Y_load_blk rfl rfl (i := 0) rfl rfl ag36) ?_; clear hf; intro a hf
          refine sY hf hs rfl rfl rfl (Y_assign rfl rfl) ?_; clear hf; intro a hf
          refine wpO_nil ?_
          obtain rfl := Option.some.inj hm59
          try dsimp only at hm
          obtain rfl := Option.some.inj hm
          refine wpL_ret (Qb_ret (Ql_ret (Qb_ret (ret_tmp rfl hf rfl ?_))))
          exact ⟨_, rfl, A70, n71, c72, rfl, hn73, hs.sel [1] (by decide)⟩
        · have hm59 := bif_f hm59 hb78
          refine wpL_skip ?_
          refine wpL_nil (Qb_normal ?_)
          refine wpL_region ?_
          refine sY hf hs rfl rfl rfl (Y_add rfl rfl rfl) ?_; clear hf; intro a hf
          refine sY hf hs rfl rfl rfl (Y_move rfl rfl) ?_; clear hf; intro a hf
          refine wpO_nil ?_
          refine wpL_nil (Ql_normal ?_)
          exact ⟨(IntKind.i64.wrap (x38 + 1)), hm59, (Fr.pick (Fr.pick (Fr.pick (Fr.pick hf.none hf rfl) hf rfl) hf rfl) hf rfl), hs.sel [] (by decide)⟩
      · have hm59 := bif_f hm59 hb61
        refine wpL_exit (Ql_exit (Qb_exit ?_))
        exact ⟨Option.some.inj hm59, hf.none, hs⟩
  · rintro a w ⟨hr_, hf, hs⟩
    subst hr_
    try dsimp only at hm
    refine wpL_seq ?_
    refine wpL_region ?_
    refine sY hf hs rfl rfl rfl (Y_assign rfl rfl) ?_; clear hf; intro a hf
    refine wpO_nil ?_
    have hs : St [] W _ [.row none 0 0 2 1 (ints ([] : List Int))] := hs.addNil 2 1
    obtain rfl := Option.some.inj hm
    refine wpL_ret (ret_tmp rfl hf rfl ?_)
    exact ⟨_, rfl, none, 0, 0, rfl, rfl, hs⟩

set_option maxRecDepth 100000 in
theorem impl_PositiveCycle_c1_ok (F : Nat) (p0 : List Int) (A_p0_1 : Option Addr) (n_p0_1 c_p0_1 : Nat) (hn_p0_1 : n_p0_1 = p0.length) (p1_weight : Int) (r : Bool) (W : World) (hm : impl_PositiveCycle_c1 F p0 p1_weight = some r) (_h_p0_1 : Rd W A_p0_1 (ints p0)) :
    Calls Try.prog 85 [.slice A_p0_1 n_p0_1 c_p0_1, .int .i64 p1_weight].toArray W fun e w' => ∃ v, e = .returned v ∧ v = .bool r ∧ St [] W w' [] := by
  subst hn_p0_1
  unfold impl_PositiveCycle_c1 at hm
  refine Calls.enter (N := 7) Try.func85 rfl rfl rfl (fun a hf => ?_)
  have hs := St.start W
  obtain ⟨w, hw_⟩ : ∃ w, w = W := ⟨W, rfl⟩
  clear hw_ w
  refine wpL_seq ?_
  refine wpL_region ?_
  refine sY hf hs rfl rfl rfl (Y_assign rfl rfl) ?_; clear hf; intro a hf
  refine wpO_nil ?_
  refine wpL_seq ?_
  refine wpL_region ?_
  refine sY hf hs rfl rfl rfl (Y_move rfl rfl) ?_; clear hf; intro a hf
  refine sY hf hs rfl rfl rfl (Y_gtr rfl rfl rfl) ?_; clear hf; intro a hf
  refine sY hf hs rfl rfl rfl (Y_assign rfl rfl) ?_; clear hf; intro a hf
  refine wpO_nil ?_
  obtain rfl := Option.some.inj hm
  refine wpL_ret (ret_tmp rfl hf rfl ?_)
  exact ⟨_, rfl, rfl, hs⟩

set_option maxRecDepth 100000 in
theorem impl_PositiveCycle_ok (F : Nat) (p0_a : List (List Int)) (A_p0_a_1 : Option Addr) (n_p0_a_1 c_p0_a_1 : Nat) (hn_p0_a_1 : n_p0_a_1 = p0_a.length) (r : List Int × Int) (W : World) (hm : impl_PositiveCycle F p0_a = some r) (h_p0_a_1 : RdM W A_p0_a_1 p0_a) :
    Calls Try.prog 24 [.slice A_p0_a_1 n_p0_a_1 c_p0_a_1].toArray W fun e w' => ∃ v, e = .returned v ∧ ∃ A20, ∃ n21, ∃ c22, v = .tuple #[.slice A20 n21 c22, .int .i64 r.2] ∧ n21 = r.1.length ∧ St [] W w' [.row A20 n21 c22 2 1 (ints r.1)] := by
  subst hn_p0_a_1
  unfold impl_PositiveCycle at hm
  refine Calls.enter (N := 17) Try.func24 rfl rfl rfl (fun a hf => ?_)
  have hs := St.start W
  obtain ⟨w, hw_⟩ : ∃ w, w = W := ⟨W, rfl⟩
  clear hw_ w
  refine wpL_seq ?_
  refine wpL_region ?_
  refine sY hf hs rfl rfl rfl (Y_assign rfl rfl) ?_; clear hf; intro a hf
  refine sY hf hs rfl rfl rfl (Y_assign rfl rfl) ?_; clear hf; intro a hf
  refine wpO_nil ?_
  refine wpL_seq ?_
  refine wpL_seq ?_
  refine wpL_region ?_
  refine sY hf hs rfl rfl rfl (Y_move rfl rfl) ?_; clear hf; intro a hf
  obtain ⟨r1, hc2, hm⟩ := bind_some hm
  refine sCall hf rfl rfl rfl rfl (cap := []) rfl rfl en82 (impl_isSquare_ok F p0_a A_p0_a_1 p0_a.length c_p0_a_1 rfl _ _ hc2 (h_p0_a_1.at hs)) ?_; clear hf
  rintro _ w ⟨rfl, hs1⟩ a hf
  have hs : St [] W w [] := hs.ext hs1.below
  clear hs1
  refine sY hf hs rfl rfl rfl (Y_not rfl rfl) ?_; clear hf; intro a hf
  refine wpO_nil ?_
  refine wpL_cond hf rfl (fun hb3 => ?_) (fun hb3 => ?_)
  · have hm := bif_t hm hb3
    refine wpL_seq ?_
    refine wpL_region ?_
    refine sY hf hs rfl rfl rfl (Y_assign rfl rfl) ?_; clear hf; intro a hf
    refine sY hf hs rfl rfl rfl (Y_assign rfl rfl) ?_; clear hf; intro a hf
    refine wpO_nil ?_
    have hs : St [] W _ [.row none 0 0 2 1 (ints ([] : List Int))] := hs.addNil 2 1
    obtain rfl := Option.some.inj hm
    refine wpL_ret (ret_tmp2 rfl hf rfl rfl ?_)
    exact ⟨_, rfl, none, 0, 0, rfl, rfl, hs⟩
  · have hm := bif_f hm hb3
    refine wpL_skip ?_
    refine wpL_seq ?_
    refine wpL_seq ?_
    refine wpL_region ?_
    refine sY hf hs rfl rfl rfl (Y_move rfl rfl) ?_; clear hf; intro a hf
    obtain ⟨r5, hc6, hm⟩ := bind_some hm
    refine sCall hf rfl rfl rfl rfl (cap := []) rfl rfl en83 (impl_starOf_ok F p0_a A_p0_a_1 p0_a.length c_p0_a_1 rfl _ _ hc6 (h_p0_a_1.at hs)) ?_; clear hf
    rintro _ w ⟨A7, n8, c9, vs11, rfl, hn10, hs1⟩ a hf
    have hs : St [] W w [.mat A7 n8 c9 36 2 vs11 r5.1] := hs.join hs1
    clear hs1
    refine sY hf hs rfl rfl rfl (Y_move rfl rfl) ?_; clear hf; intro a hf
    refine sY hf hs rfl rfl rfl (Y_extract rfl rfl rfl) ?_; clear hf; intro a hf
    refine sY hf hs rfl rfl rfl (Y_extract rfl rfl rfl) ?_; clear hf; intro a hf
    refine sY hf hs rfl rfl rfl (Y_assign rfl rfl) ?_; clear hf; intro a hf
    refine sY hf hs rfl rfl rfl (Y_assign rfl rfl) ?_; clear hf; intro a hf
    refine wpO_nil ?_
    refine wpL_seq ?_
    refine wpL_region ?_
    refine sY hf hs rfl rfl rfl (Y_move rfl rfl) ?_; clear hf; intro a hf
    refine wpO_nil ?_
    refine wpL_cond hf rfl (fun hb12 => ?_) (fun hb12 => ?_)
    · have hm := bif_t hm hb12
      refine wpL_seq ?_
      refine wpL_region ?_
      refine sY hf hs rfl rfl rfl (Y_assign rfl rfl) ?_; clear hf; intro a hf
      refine sY hf hs rfl rfl rfl (Y_assign rfl rfl) ?_; clear hf; intro a hf
      refine wpO_nil ?_
      have hs : St [] W _ [.mat A7 n8 c9 36 2 vs11 r5.1, .row none 0 0 2 1 (ints ([] : List Int))] := hs.addNil 2 1
      obtain rfl := Option.some.inj hm
      refine wpL_ret (ret_tmp2 rfl hf rfl rfl ?_)
      exact ⟨_, rfl, none, 0, 0, rfl, rfl, hs.sel [1] (by decide)⟩
    · have hm := bif_f hm hb12
      refine wpL_skip ?_
      refine wpL_seq ?_
      refine wpL_region ?_
      refine sY hf hs rfl rfl rfl (Y_move rfl rfl) ?_; clear hf; intro a hf
      obtain ⟨r14, hc15, hm⟩ := bind_some hm
      refine sCall hf rfl rfl rfl rfl (cap := []) rfl rfl en84 (impl_firstCycle_ok F p0_a A_p0_a_1 p0_a.length c_p0_a_1 rfl (fun x0 x1 => impl_PositiveCycle_c1 F x0 x1) 85 [] _ _ hc15 (h_p0_a_1.at hs) (fun x0 Ax00 nx00 cx00 hx00 x1 r w' hm_ hb rx00 => impl_PositiveCycle_c1_ok F x0 Ax00 nx00 cx00 hx00 x1 r w' hm_ rx00) en85) ?_; clear hf
      rintro _ w ⟨A16, n17, c18, rfl, hn19, hs1⟩ a hf
      have hs : St [] W w [.mat A7 n8 c9 36 2 vs11 r5.1, .row A16 n17 c18 2 1 (ints r14)] := hs.join hs1
      clear hs1
      refine sY hf hs rfl rfl rfl (Y_assign rfl rfl) ?_; clear hf; intro a hf
      refine sY hf hs rfl rfl rfl (Y_assign rfl rfl) ?_; clear hf; intro a hf
      refine wpO_nil ?_
      obtain rfl := Option.some.inj hm
      refine wpL_ret (ret_tmp2 rfl hf rfl rfl ?_)
      exact ⟨_, rfl, A16, n17, c18, rfl, hn19, hs.sel [1] (by decide)⟩

set_option maxRecDepth 100000 in
theorem laws_eqInt64S_ok (F : Nat) (p0_a : List Int) (A_p0_a_1 : Option Addr) (n_p0_a_1 c_p0_a_1 : Nat) (hn_p0_a_1 : n_p0_a_1 = p0_a.length) (p1_b : List Int) (A_p1_b_1 : Option Addr) (n_p1_b_1 c_p1_b_1 : Nat) (hn_p1_b_1 : n_p1_b_1 = p1_b.length) (r : Bool) (W : World) (hm : laws_eqInt64S F p0_a p1_b = some r) (h_p0_a_1 : Rd W A_p0_a_1 (ints p0_a)) (h_p1_b_1 : Rd W A_p1_b_1 (ints p1_b)) :
    Calls Try.prog 25 [.slice A_p0_a_1 n_p0_a_1 c_p0_a_1, .slice A_p1_b_1 n_p1_b_1 c_p1_b_1].toArray W fun e w' => ∃ v, e = .returned v ∧ v = .bool r ∧ St [] W w' [] := by
  subst hn_p0_a_1
  subst hn_p1_b_1
  unfold laws_eqInt64S at hm
  refine Calls.enter (N := 26) Try.func25 rfl rfl rfl (fun a hf => ?_)
  have hs := St.start W
  obtain ⟨w, hw_⟩ : ∃ w, w = W := ⟨W, rfl⟩
  clear hw_ w
  refine wpL_seq ?_
  refine wpL_region ?_
  refine sY hf hs rfl rfl rfl (Y_assign rfl rfl) ?_; clear hf; intro a hf
  refine wpO_nil ?_
  refine wpL_seq ?_
  refine wpL_seq ?_
  refine wpL_region ?_
  refine sY hf hs rfl rfl rfl (Y_move rfl rfl) ?_; clear hf; intro a hf
  refine sY hf hs rfl rfl rfl (Y_lenH rfl rfl el36 rfl) ?_; clear hf; intro a hf
  refine sY hf hs rfl rfl rfl (Y_move rfl rfl) ?_; clear hf; intro a hf
  refine sY hf hs rfl rfl rfl (Y_lenH rfl rfl el36 rfl) ?_; clear hf; intro a hf
  refine sY hf hs rfl rfl rfl (Y_neq rfl rfl rfl) ?_; clear hf; intro a hf
  refine wpO_nil ?_
  refine wpL_cond hf rfl (fun hb1 => ?_) (fun hb1 => ?_)
  · have hm := bif_t hm hb1
    refine wpL_seq ?_
    refine wpL_region ?_
    refine sY hf hs rfl rfl rfl (Y_assign rfl rfl) ?_; clear hf; intro a hf
    refine wpO_nil ?_
    obtain rfl := Option.some.inj hm
    refine wpL_ret (ret_tmp rfl hf rfl ?_)
    exact ⟨_, rfl, rfl, hs⟩
  · have hm := bif_f hm hb1
    refine wpL_skip ?_
    refine wpL_seq ?_
    refine wpL_seq ?_
    refine wpL_region ?_
    refine sY hf hs rfl rfl rfl (Y_assign rfl rfl) ?_; clear hf; intro a hf
    refine wpO_nil ?_
    obtain ⟨r22, hl23, hm⟩ := bind_some hm
    refine wpL_block (fun a w => Sum.inr () = r22 ∧ Fr a 26 [] ∧ St [] W w []) ?_ ?_
    · refine wpL_loop (fun n a w => ∃ x15 : Int, laws_eqInt64S_L1 F p0_a p1_b n x15 = some r22 ∧ Fr a 26 [(0, .slice A_p0_a_1 p0_a.length c_p0_a_1), (1, .slice A_p1_b_1 p1_b.length c_p1_b_1), (5, .int .i64 x15)] ∧ St [] W w []) F ?_ ?_ ?_
      · exact ⟨0, hl23, (Fr.pick (Fr.pick (Fr.pick hf.none hf rfl) hf rfl) hf rfl), hs⟩
      · rintro a w ⟨x15, h0_, -, -⟩; simp [laws_eqInt64S_L1] at h0_
      · rintro n25 a w ⟨x15, hm24, hf, hs⟩
        rw [laws_eqInt64S_L1] at hm24
        refine wpL_seq ?_
        refine wpL_seq ?_
        refine wpL_region ?_
        refine sY hf hs rfl rfl rfl (Y_move rfl rfl) ?_; clear hf; intro a hf
        refine sY hf hs rfl rfl rfl (Y_move rfl rfl) ?_; clear hf; intro a hf
        refine sY hf hs rfl rfl rfl (Y_lenH rfl rfl el36 rfl) ?_; clear hf; intro a hf
        refine sY hf hs rfl rfl rfl (Y_lss rfl rfl rfl) ?_; clear hf; intro a hf
        refine wpO_nil ?_
        refine wpL_cond hf rfl (fun hb26 => ?_) (fun hb26 => ?_)
        · have hm24 := bif_t hm24 hb26
          refine wpL_skip ?_
          refine wpL_seq ?_
          refine wpL_block0 ?_
          refine wpL_seq ?_
          refine wpL_draw (by kernel_rfl) (by kernel_rfl) hs ?_
          refine qY hf rfl rfl rfl (Y_move rfl rfl) ?_; clear hf; intro a hf
          refine qY hf rfl rfl rfl (Y_move rfl rfl) ?_; clear hf; intro a hf
          obtain ⟨q27, hi28, hm24⟩ := bind_some hm24
          obtain ⟨hi28a, hi28b, hi28q⟩ := idx_some hi28
          refine qY hf rfl rfl rfl (Y_index rfl rfl rfl el36 ti2 (Rd.isAt (h_p0_a_1.at hs) (at1 (ints_at hi28q))) hi28a hi28b) ?_; clear hf; intro a hf
          refine qY hf rfl rfl rfl (Y_load_rd rfl rfl (fun w hs => h_p0_a_1.at hs) (at1 (ints_at hi28q)) ag2) ?_; clear hf; intro a hf
          refine qY hf rfl rfl rfl (Y_move rfl rfl) ?_; clear hf; intro a hf
          refine qY hf rfl rfl rfl (Y_move rfl rfl) ?_; clear hf; intro a hf
          obtain ⟨q29, hi30, hm24⟩ := bind_some hm24
          obtain ⟨hi30a, hi30b, hi30q⟩ := idx_some hi30
          refine qY hf rfl rfl rfl (Y_index rfl rfl rfl el36 ti2 (Rd.isAt (h_p1_b_1.at hs) (at1 (ints_at hi30q))) hi30a hi30b) ?_; clear hf; intro a hf
          refine qY hf rfl rfl rfl (Y_load_rd rfl rfl (fun w hs => h_p1_b_1.at hs) (at1 (ints_at hi30q)) ag2) ?_; clear hf; intro a hf
          refine qY hf rfl rfl rfl (Y_neq rfl rfl rfl) ?_; clear hf; intro a hf
          refine qNil ?_; clear hs; intro w hs
          refine wpL_cond hf rfl (fun hb31 => ?_) (fun hb31 => ?_)
          · have hm24 := bif_t hm24 hb31
            refine wpL_seq ?_
            refine wpL_region ?_
            refine sY hf hs rfl rfl rfl (Y_assign rfl rfl) ?_; clear hf; intro a hf
            refine wpO_nil ?_
            obtain rfl := Option.some.inj hm24
            try dsimp only at hm
            obtain rfl := Option.some.inj hm
            refine wpL_ret (Qb_ret (Ql_ret (Qb_ret (ret_tmp rfl hf rfl ?_))))
            exact ⟨_, rfl, rfl, hs⟩
          · have hm24 := bif_f hm24 hb31
            refine wpL_skip ?_
            refine wpL_nil (Qb_normal ?_)
            refine wpL_region ?_
            refine sY hf hs rfl rfl rfl (Y_move rfl rfl) ?_; clear hf; intro a hf
            refine sY hf hs rfl rfl rfl (Y_add rfl rfl rfl) ?_; clear hf; intro a hf
            refine sY hf hs rfl rfl rfl (Y_assign rfl rfl) ?_; clear hf; intro a hf
            refine wpO_nil ?_
            refine wpL_nil (Ql_normal ?_)
            exact ⟨(IntKind.i64.wrap (x15 + 1)), hm24, (Fr.pick (Fr.pick (Fr.pick hf.none hf rfl) hf rfl) hf rfl), hs⟩
        · have hm24 := bif_f hm24 hb26
          refine wpL_exit (Ql_exit (Qb_exit ?_))
          exact ⟨Option.some.inj hm24, hf.none, hs⟩
    · rintro a w ⟨hr_, hf, hs⟩
      subst hr_
      try dsimp only at hm
      refine wpL_seq ?_
      refine wpL_region ?_
      refine sY hf hs rfl rfl rfl (Y_assign rfl rfl) ?_; clear hf; intro a hf
      refine wpO_nil ?_
      obtain rfl := Option.some.inj hm
      refine wpL_ret (ret_tmp rfl hf rfl ?_)
      exact ⟨_, rfl, rfl, hs⟩

set_option maxRecDepth 100000 in
theorem laws_eqInt64SS_ok (F : Nat) (p0_a : List (List Int)) (A_p0_a_1 : Option Addr) (n_p0_a_1 c_p0_a_1 : Nat) (hn_p0_a_1 : n_p0_a_1 = p0_a.length) (p1_b : List (List Int)) (A_p1_b_1 : Option Addr) (n_p1_b_1 c_p1_b_1 : Nat) (hn_p1_b_1 : n_p1_b_1 = p1_b.length) (r : Bool) (W : World) (hm : laws_eqInt64SS F p0_a p1_b = some r) (h_p0_a_1 : RdM W A_p0_a_1 p0_a) (h_p1_b_1 : RdM W A_p1_b_1 p1_b) :
    Calls Try.prog 26 [.slice A_p0_a_1 n_p0_a_1 c_p0_a_1, .slice A_p1_b_1 n_p1_b_1 c_p1_b_1].toArray W fun e w' => ∃ v, e = .returned v ∧ v = .bool r ∧ St [] W w' [] := by
  subst hn_p0_a_1
  subst hn_p1_b_1
  unfold laws_eqInt64SS at hm
  refine Calls.enter (N := 27) Try.func26 rfl rfl rfl (fun a hf => ?_)
  have hs := St.start W
  obtain ⟨w, hw_⟩ : ∃ w, w = W := ⟨W, rfl⟩
  clear hw_ w
  refine wpL_seq ?_
  refine wpL_region ?_
  refine sY hf hs rfl rfl rfl (Y_assign rfl rfl) ?_; clear hf; intro a hf
  refine wpO_nil ?_
  refine wpL_seq ?_
  refine wpL_seq ?_
  refine wpL_region ?_
  refine sY hf hs rfl rfl rfl (Y_move rfl rfl) ?_; clear hf; intro a hf
  refine sY hf hs rfl rfl rfl (Y_lenH rfl rfl el34 rfl) ?_; clear hf; intro a hf
  refine sY hf hs rfl rfl rfl (Y_move rfl rfl) ?_; clear hf; intro a hf
  refine sY hf hs rfl rfl rfl (Y_lenH rfl rfl el34 rfl) ?_; clear hf; intro a hf
  refine sY hf hs rfl rfl rfl (Y_neq rfl rfl rfl) ?_; clear hf; intro a hf
  refine wpO_nil ?_
  refine wpL_cond hf rfl (fun hb1 => ?_) (fun hb1 => ?_)
  · have hm := bif_t hm hb1
    refine wpL_seq ?_
    refine wpL_region ?_
    refine sY hf hs rfl rfl rfl (Y_assign rfl rfl) ?_; clear hf; intro a hf
    refine wpO_nil ?_
    obtain rfl := Option.some.inj hm
    refine wpL_ret (ret_tmp rfl hf rfl ?_)
    exact ⟨_, rfl, rfl, hs⟩
  · have hm := bif_f hm hb1
    refine wpL_skip ?_
    refine wpL_seq ?_
    refine wpL_seq ?_
    refine wpL_region ?_
    refine sY hf hs rfl rfl rfl (Y_assign rfl rfl) ?_; clear hf; intro a hf
    refine wpO_nil ?_
    obtain ⟨r70, hl71, hm⟩ := bind_some hm
    refine wpL_block (fun a w => Sum.inr () = r70 ∧ Fr a 27 [] ∧ St [] W w []) ?_ ?_
    · refine wpL_loop (fun n a w => ∃ x47 : Int, laws_eqInt64SS_L1 F p0_a p1_b n x47 = some r70 ∧ Fr a 27 [(0, .slice A_p0_a_1 p0_a.length c_p0_a_1), (1, .slice A_p1_b_1 p1_b.length c_p1_b_1), (5, .int .i64 x47)] ∧ St [] W w []) F ?_ ?_ ?_
      · exact ⟨0, hl71, (Fr.pick (Fr.pick (Fr.pick hf.none hf rfl) hf rfl) hf rfl), hs⟩
      · rintro a w ⟨x47, h0_, -, -⟩; simp [laws_eqInt64SS_L1] at h0_
      · rintro n73 a w ⟨x47, hm72, hf, hs⟩
        rw [laws_eqInt64SS_L1] at hm72
        refine wpL_seq ?_
        refine wpL_seq ?_
        refine wpL_region ?_
        refine sY hf hs rfl rfl rfl (Y_move rfl rfl) ?_; clear hf; intro a hf
        refine sY hf hs rfl rfl rfl (Y_move rfl rfl) ?_; clear hf; intro a hf
        refine sY hf hs rfl rfl rfl (Y_lenH rfl rfl el34 rfl) ?_; clear hf; intro a hf
        refine sY hf hs rfl rfl rfl (Y_lss rfl rfl rfl) ?_; clear hf; intro a hf
        refine wpO_nil ?_
        refine wpL_cond hf rfl (fun hb74 => ?_) (fun hb74 => ?_)
        · have hm72 := bif_t hm72 hb74
          refine wpL_skip ?_
          refine wpL_seq ?_
          refine wpL_block0 ?_
          refine wpL_seq ?_
          refine wpL_draw (by kernel_rfl) (by kernel_rfl) hs ?_
          refine qY hf rfl rfl rfl (Y_move rfl rfl) ?_; clear hf; intro a hf
          refine qY hf rfl rfl rfl (Y_move rfl rfl) ?_; clear hf; intro a hf
          obtain ⟨q75, hi76, hm72⟩ := bind_some hm72
          obtain ⟨hi76a, hi76b, hi76q⟩ := idx_some hi76
          obtain ⟨vs77, hv78, hr79⟩ := id h_p0_a_1
          obtain ⟨A80, c81, hv82, hR83⟩ := hr79 _ _ hi76q
          refine qY hf rfl rfl rfl (Y_index rfl rfl rfl el34 ti36 (Rd.isAt hv78 hv82) hi76a hi76b) ?_; clear hf; intro a hf
          refine qY hf rfl rfl rfl (Y_load_rd rfl rfl (fun w hs => hv78.at hs) (at1 hv82) ag36) ?_; clear hf; intro a hf
          refine qY hf rfl rfl rfl (Y_move rfl rfl) ?_; clear hf; intro a hf
          refine qY hf rfl rfl rfl (Y_move rfl rfl) ?_; clear hf; intro a hf
          obtain ⟨q84, hi85, hm72⟩ := bind_some hm72
          obtain ⟨hi85a, hi85b, hi85q⟩ := idx_some hi85
          obtain ⟨vs86, hv87, hr88⟩ := id h_p1_b_1
          obtain ⟨A89, c90, hv91, hR92⟩ := hr88 _ _ hi85q
          refine qY hf rfl rfl rfl (Y_index rfl rfl rfl el34 ti36 (Rd.isAt hv87 hv91) hi85a hi85b) ?_; clear hf; intro a hf
          refine qY hf rfl rfl rfl (Y_load_rd rfl rfl (fun w hs => hv87.at hs) (at1 hv91) ag36) ?_; clear hf; intro a hf
          obtain ⟨r93, hc94, hm72⟩ := bind_some hm72
          refine qCall hf rfl rfl rfl rfl (cap := []) rfl rfl en25 (v := .bool r93) (fun w hs => Calls.scal (laws_eqInt64S_ok F q75 A80 q75.length c81 rfl q84 A89 q84.length c90 rfl _ _ hc94 (hR83.at hs) (hR92.at hs))) ?_; clear hf; intro a hf
          refine qY hf rfl rfl rfl (Y_not rfl rfl) ?_; clear hf; intro a hf
          refine qNil ?_; clear hs; intro w hs
          refine wpL_cond hf rfl (fun hb95 => ?_) (fun hb95 => ?_)
          · have hm72 := bif_t hm72 hb95
            refine wpL_seq ?_
            refine wpL_region ?_
            refine sY hf hs rfl rfl rfl (Y_assign rfl rfl) ?_; clear hf; intro a hf
            refine wpO_nil ?_
            obtain rfl := Option.some.inj hm72
            try dsimp only at hm
            obtain rfl := Option.some.inj hm
            refine wpL_ret (Qb_ret (Ql_ret (Qb_ret (ret_tmp rfl hf rfl ?_))))
            exact ⟨_, rfl, rfl, hs⟩
          · have hm72 := bif_f hm72 hb95
            refine wpL_skip ?_
            refine wpL_nil (Qb_normal ?_)
            refine wpL_region ?_
            refine sY hf hs rfl rfl rfl (Y_move rfl rfl) ?_; clear hf; intro a hf
            refine sY hf hs rfl rfl rfl (Y_add rfl rfl rfl) ?_; clear hf; intro a hf
            refine sY hf hs rfl rfl rfl (Y_assign rfl rfl) ?_; clear hf; intro a hf
            refine wpO_nil ?_
            refine wpL_nil (Ql_normal ?_)
            exact ⟨(IntKind.i64.wrap (x47 + 1)), hm72, (Fr.pick (Fr.pick (Fr.pick hf.none hf rfl) hf rfl) hf rfl), hs⟩
        · have hm72 := bif_f hm72 hb74
          refine wpL_exit (Ql_exit (Qb_exit ?_))
          exact ⟨Option.some.inj hm72, hf.none, hs⟩
    · rintro a w ⟨hr_, hf, hs⟩
      subst hr_
      try dsimp only at hm
      refine wpL_seq ?_
      refine wpL_region ?_
      refine sY hf hs rfl rfl rfl (Y_assign rfl rfl) ?_; clear hf; intro a hf
      refine wpO_nil ?_
      obtain rfl := Option.some.inj hm
      refine wpL_ret (ret_tmp rfl hf rfl ?_)
      exact ⟨_, rfl, rfl, hs⟩

set_option maxRecDepth 100000 in
theorem laws_markInt64S_ok (F : Nat) (p0_a : List Int) (A_p0_a_1 : Option Addr) (n_p0_a_1 c_p0_a_1 : Nat) (hn_p0_a_1 : n_p0_a_1 = p0_a.length) (p1_k : Int) (r : (Int) × List Int) (W : World) (hm : laws_markInt64S F p0_a p1_k = some r) (h_p0_a_1 : (Res.row A_p0_a_1 n_p0_a_1 c_p0_a_1 2 1 (ints p0_a) : Res).holds 0 W) :
    Calls Try.prog 28 [.slice A_p0_a_1 n_p0_a_1 c_p0_a_1, .int .i64 p1_k].toArray W fun e w' => ∃ v, e = .returned v ∧ v = .int .i64 r.1 ∧ n_p0_a_1 = r.2.length ∧ St (muA A_p0_a_1) W w' [.row A_p0_a_1 n_p0_a_1 c_p0_a_1 2 1 (ints r.2)] := by
  subst hn_p0_a_1
  unfold laws_markInt64S at hm
  refine Calls.enter (N := 19) Try.func28 rfl rfl rfl (fun a hf => ?_)
  have hs : St (muA A_p0_a_1) W W [.row A_p0_a_1 p0_a.length c_p0_a_1 2 1 (ints p0_a)] := St.startMut h_p0_a_1 (fun b hb => mem_muA hb)
  obtain ⟨w, hw_⟩ : ∃ w, w = W := ⟨W, rfl⟩
  clear hw_ w
  refine wpL_seq ?_
  refine wpL_region ?_
  refine sY hf hs rfl rfl rfl (Y_assign rfl rfl) ?_; clear hf; intro a hf
  refine wpO_nil ?_
  refine wpL_seq ?_
  refine wpL_seq ?_
  refine wpL_region ?_
  refine sY hf hs rfl rfl rfl (Y_assign rfl rfl) ?_; clear hf; intro a hf
  refine wpO_nil ?_
  obtain ⟨r27, hl28, hm⟩ := bind_some hm
  refine wpL_block (fun a w => ∃ xs24 : List Int, ∃ x26 : Int, (xs24, x26) = r27 ∧ p0_a.length = xs24.length ∧ Fr a 19 [(1, .int .i64 x26)] ∧ St (muA A_p0_a_1) W w [.row A_p0_a_1 p0_a.length c_p0_a_1 2 1 (ints xs24)]) ?_ ?_
  · refine wpL_loop (fun n a w => ∃ xs15 : List Int, ∃ x17 : Int, ∃ x18 : Int, laws_markInt64S_L1 F n xs15 x17 x18 = some r27 ∧ p0_a.length = xs15.length ∧ Fr a 19 [(0, .slice A_p0_a_1 p0_a.length c_p0_a_1), (1, .int .i64 x17), (5, .int .i64 x18)] ∧ St (muA A_p0_a_1) W w [.row A_p0_a_1 p0_a.length c_p0_a_1 2 1 (ints xs15)]) F ?_ ?_ ?_
    · exact ⟨p0_a, p1_k, 0, hl28, rfl, (Fr.pick (Fr.pick (Fr.pick hf.none hf rfl) hf rfl) hf rfl), hs⟩
    · rintro a w ⟨xs15, x17, x18, h0_, -, -, -⟩; simp [laws_markInt64S_L1] at h0_
    · rintro n30 a w ⟨xs15, x17, x18, hm29, hn16, hf, hs⟩
      rw [laws_markInt64S_L1] at hm29
      refine wpL_seq ?_
      refine wpL_seq ?_
      refine wpL_region ?_
      refine sY hf hs rfl rfl rfl (Y_move rfl rfl) ?_; clear hf; intro a hf
      refine sY hf hs rfl rfl rfl (Y_move rfl rfl) ?_; clear hf; intro a hf
      refine sY hf hs rfl rfl rfl (Y_lenH rfl rfl el36 hn16) ?_; clear hf; intro a hf
      refine sY hf hs rfl rfl rfl (Y_lss rfl rfl rfl) ?_; clear hf; intro a hf
      refine wpO_nil ?_
      refine wpL_cond hf rfl (fun hb31 => ?_) (fun hb31 => ?_)
      · have hm29 := bif_t hm29 hb31
        refine wpL_skip ?_
        refine wpL_seq ?_
        refine wpL_block0 ?_
        refine wpL_seq ?_
        refine wpL_region ?_
        refine sY hf hs rfl rfl rfl (Y_move rfl rfl) ?_; clear hf; intro a hf
        refine sY hf hs rfl rfl rfl (Y_move rfl rfl) ?_; clear hf; intro a hf
        refine sY hf hs rfl rfl rfl (Y_move rfl rfl) ?_; clear hf; intro a hf
        obtain ⟨q32, hi33, hm29⟩ := bind_some hm29
        obtain ⟨hi33a, hi33b, hi33q⟩ := idx_some hi33
        refine sY hf hs rfl rfl rfl (Y_index rfl rfl rfl el36 ti2 (Rd.isAt (hs.rd (i := 0) rfl) (at1 (ints_at hi33q))) hi33a (ltn hn16 hi33b)) ?_; clear hf; intro a hf
        obtain ⟨xs34, hu35, hm29⟩ := bind_some hm29
        refine sStoreL (i := 0) (us := [.int .i64 x17]) (enc := ints) hf hs rfl rfl rfl rfl rfl rfl hn16 hu35 ti2 rfl rfl rfl rfl rfl ints_len1 (ints_set x17) ?_; clear hs; intro w hs
        have hs : St (muA A_p0_a_1) W w [.row A_p0_a_1 p0_a.length c_p0_a_1 2 1 (ints xs34)] := hs
        refine wpO_nil ?_
        refine wpL_region ?_
        refine sY hf hs rfl rfl rfl (Y_move rfl rfl) ?_; clear hf; intro a hf
        refine sY hf hs rfl rfl rfl (Y_add rfl rfl rfl) ?_; clear hf; intro a hf
        refine sY hf hs rfl rfl rfl (Y_assign rfl rfl) ?_; clear hf; intro a hf
        refine wpO_nil ?_
        refine wpL_nil (Qb_normal ?_)
        refine wpL_region ?_
        refine sY hf hs rfl rfl rfl (Y_move rfl rfl) ?_; clear hf; intro a hf
        refine sY hf hs rfl rfl rfl (Y_add rfl rfl rfl) ?_; clear hf; intro a hf
        refine sY hf hs rfl rfl rfl (Y_assign rfl rfl) ?_; clear hf; intro a hf
        refine wpO_nil ?_
        refine wpL_nil (Ql_normal ?_)
        exact ⟨xs34, (IntKind.i64.wrap (x17 + 1)), (IntKind.i64.wrap (x18 + 1)), hm29, ((hn16).trans (upd_len hu35).symm), (Fr.pick (Fr.pick (Fr.pick hf.none hf rfl) hf rfl) hf rfl), hs⟩
      · have hm29 := bif_f hm29 hb31
        refine wpL_exit (Ql_exit (Qb_exit ?_))
        exact ⟨xs15, x17, Option.some.inj hm29, hn16, (Fr.pick hf.none hf rfl), hs⟩
  · rintro a w ⟨xs24, x26, hr_, hn25, hf, hs⟩
    subst hr_
    try dsimp only at hm
    refine wpL_seq ?_
    refine wpL_region ?_
    refine sY hf hs rfl rfl rfl (Y_move rfl rfl) ?_; clear hf; intro a hf
    refine sY hf hs rfl rfl rfl (Y_assign rfl rfl) ?_; clear hf; intro a hf
    refine wpO_nil ?_
    obtain rfl := Option.some.inj hm
    refine wpL_ret (ret_tmp rfl hf rfl ?_)
    exact ⟨_, rfl, rfl, hn25, hs⟩

set_option maxRecDepth 100000 in
theorem laws_markInt64SS_ok (F : Nat) (p0_a : List (List Int)) (A_p0_a_1 : Option Addr) (n_p0_a_1 c_p0_a_1 : Nat) (hn_p0_a_1 : n_p0_a_1 = p0_a.length) (vs_p0_a : List Value) (p1_k : Int) (r : (Int) × List (List Int)) (W : World) (hm : laws_markInt64SS F p0_a p1_k = some r) (h_p0_a_1 : (Res.mat A_p0_a_1 n_p0_a_1 c_p0_a_1 36 2 vs_p0_a p0_a : Res).holds 0 W) :
    Calls Try.prog 27 [.slice A_p0_a_1 n_p0_a_1 c_p0_a_1, .int .i64 p1_k].toArray W fun e w' => ∃ v, e = .returned v ∧ v = .int .i64 r.1 ∧ n_p0_a_1 = r.2.length ∧ St (muM A_p0_a_1 vs_p0_a) W w' [.mat A_p0_a_1 n_p0_a_1 c_p0_a_1 36 2 vs_p0_a r.2] := by
  subst hn_p0_a_1
  unfold laws_markInt64SS at hm
  refine Calls.enter (N := 19) Try.func27 rfl rfl rfl (fun a hf => ?_)
  have hs : St (muM A_p0_a_1 vs_p0_a) W W [.mat A_p0_a_1 p0_a.length c_p0_a_1 36 2 vs_p0_a p0_a] := St.startMut h_p0_a_1 (fun b hb => muM_mem.2 hb)
  obtain ⟨w, hw_⟩ : ∃ w, w = W := ⟨W, rfl⟩
  clear hw_ w
  refine wpL_seq ?_
  refine wpL_region ?_
  refine sY hf hs rfl rfl rfl (Y_assign rfl rfl) ?_; clear hf; intro a hf
  refine wpO_nil ?_
  refine wpL_seq ?_
  refine wpL_seq ?_
  refine wpL_region ?_
  refine sY hf hs rfl rfl rfl (Y_assign rfl rfl) ?_; clear hf; intro a hf
  refine wpO_nil ?_
  obtain ⟨r45, hl46, hm⟩ := bind_some hm
  refine wpL_block (fun a w => ∃ ms42 : List (List Int), ∃ x44 : Int, (ms42, x44) = r45 ∧ p0_a.length = ms42.length ∧ Fr a 19 [(1, .int .i64 x44)] ∧ St (muM A_p0_a_1 vs_p0_a) W w [.mat A_p0_a_1 p0_a.length c_p0_a_1 36 2 vs_p0_a ms42]) ?_ ?_
  · refine wpL_loop (fun n a w => ∃ ms27 : List (List Int), ∃ x29 : Int, ∃ x30 : Int, laws_markInt64SS_L1 F n ms27 x29 x30 = some r45 ∧ p0_a.length = ms27.length ∧ Fr a 19 [(0, .slice A_p0_a_1 p0_a.length c_p0_a_1), (1, .int .i64 x29), (5, .int .i64 x30)] ∧ St (muM A_p0_a_1 vs_p0_a) W w [.mat A_p0_a_1 p0_a.length c_p0_a_1 36 2 vs_p0_a ms27]) F ?_ ?_ ?_
    · exact ⟨p0_a, p1_k, 0, hl46, rfl, (Fr.pick (Fr.pick (Fr.pick hf.none hf rfl) hf rfl) hf rfl), hs⟩
    · rintro a w ⟨ms27, x29, x30, h0_, -, -, -⟩; simp [laws_markInt64SS_L1] at h0_
    · rintro n48 a w ⟨ms27, x29, x30, hm47, hn28, hf, hs⟩
      rw [laws_markInt64SS_L1] at hm47
      refine wpL_seq ?_
      refine wpL_seq ?_
      refine wpL_region ?_
      refine sY hf hs rfl rfl rfl (Y_move rfl rfl) ?_; clear hf; intro a hf
      refine sY hf hs rfl rfl rfl (Y_move rfl rfl) ?_; clear hf; intro a hf
      refine sY hf hs rfl rfl rfl (Y_lenH rfl rfl el34 hn28) ?_; clear hf; intro a hf
      refine sY hf hs rfl rfl rfl (Y_lss rfl rfl rfl) ?_; clear hf; intro a hf
      refine wpO_nil ?_
      refine wpL_cond hf rfl (fun hb49 => ?_) (fun hb49 => ?_)
      · have hm47 := bif_t hm47 hb49
        refine wpL_skip ?_
        refine wpL_seq ?_
        refine wpL_block0 ?_
        refine wpL_region ?_
        refine sY hf hs rfl rfl rfl (Y_move rfl rfl) ?_; clear hf; intro a hf
        refine sY hf hs rfl rfl rfl (Y_move rfl rfl) ?_; clear hf; intro a hf
        obtain ⟨q50, hi51, hm47⟩ := bind_some hm47
        obtain ⟨hi51a, hi51b, hi51q⟩ := idx_some hi51
        obtain ⟨A52, c53, hv54⟩ := hs.matRow (i := 0) rfl hi51q
        refine sY hf hs rfl rfl rfl (Y_index rfl rfl rfl el34 ti36 (Rd.isAt (hs.rdV (i := 0) rfl) hv54) hi51a (ltn hn28 hi51b)) ?_; clear hf; intro a hf
        refine sY hf hs rfl rfl rfl (Y_load_rd rfl rfl (fun w hs => hs.rdV (i := 0) rfl) (at1 hv54) ag36) ?_; clear hf; intro a hf
        refine sY hf hs rfl rfl rfl (Y_move rfl rfl) ?_; clear hf; intro a hf
        obtain ⟨r55, hc56, hm47⟩ := bind_some hm47
        refine sCall hf rfl rfl rfl rfl (cap := []) rfl rfl en28 (laws_markInt64S_ok F q50 A52 q50.length c53 rfl x29 _ _ hc56 (hs.rowHolds (i := 0) rfl ⟨hi51q, hv54⟩)) ?_; clear hf
        obtain ⟨ms59, hu58, hm47⟩ := bind_some hm47
        rintro _ w ⟨rfl, hn57, hs1⟩ a hf
        have hs : St (muM A_p0_a_1 vs_p0_a) W w [.mat A_p0_a_1 p0_a.length c_p0_a_1 36 2 vs_p0_a ms59] := hs.mutRow (i := 0) rfl ⟨hi51q, hv54⟩ hs1 hn57 hu58
        clear hs1
        refine sY hf hs rfl rfl rfl (Y_assign rfl rfl) ?_; clear hf; intro a hf
        refine wpO_nil ?_
        refine wpL_nil (Qb_normal ?_)
        refine wpL_region ?_
        refine sY hf hs rfl rfl rfl (Y_move rfl rfl) ?_; clear hf; intro a hf
        refine sY hf hs rfl rfl rfl (Y_add rfl rfl rfl) ?_; clear hf; intro a hf
        refine sY hf hs rfl rfl rfl (Y_assign rfl rfl) ?_; clear hf; intro a hf
        refine wpO_nil ?_
        refine wpL_nil (Ql_normal ?_)
        exact ⟨ms59, r55.1, (IntKind.i64.wrap (x30 + 1)), hm47, ((hn28).trans (upd_len hu58).symm), (Fr.pick (Fr.pick (Fr.pick hf.none hf rfl) hf rfl) hf rfl), hs⟩
      · have hm47 := bif_f hm47 hb49
        refine wpL_exit (Ql_exit (Qb_exit ?_))
        exact ⟨ms27, x29, Option.some.inj hm47, hn28, (Fr.pick hf.none hf rfl), hs⟩
  · rintro a w ⟨ms42, x44, hr_, hn43, hf, hs⟩
    subst hr_
    try dsimp only at hm
    refine wpL_seq ?_
    refine wpL_region ?_
    refine sY hf hs rfl rfl rfl (Y_move rfl rfl) ?_; clear hf; intro a hf
    refine sY hf hs rfl rfl rfl (Y_assign rfl rfl) ?_; clear hf; intro a hf
    refine wpO_nil ?_
    obtain rfl := Option.some.inj hm
    refine wpL_ret (ret_tmp rfl hf rfl ?_)
    exact ⟨_, rfl, rfl, hn43, hs⟩

set_option maxRecDepth 100000 in
theorem laws_heldInt64S_ok (F : Nat) (p0_a : List Int) (A_p0_a_1 : Option Addr) (n_p0_a_1 c_p0_a_1 : Nat) (hn_p0_a_1 : n_p0_a_1 = p0_a.length) (p1_k : Int) (r : Int) (W : World) (hm : laws_heldInt64S F p0_a p1_k = some r) (h_p0_a_1 : Rd W A_p0_a_1 (ints p0_a)) :
    Calls Try.prog 29 [.slice A_p0_a_1 n_p0_a_1 c_p0_a_1, .int .i64 p1_k].toArray W fun e w' => ∃ v, e = .returned v ∧ v = .int .i64 r ∧ St [] W w' [] := by
  subst hn_p0_a_1
  unfold laws_heldInt64S at hm
  refine Calls.enter (N := 21) Try.func29 rfl rfl rfl (fun a hf => ?_)
  have hs := St.start W
  obtain ⟨w, hw_⟩ : ∃ w, w = W := ⟨W, rfl⟩
  clear hw_ w
  refine wpL_seq ?_
  refine wpL_region ?_
  refine sY hf hs rfl rfl rfl (Y_assign rfl rfl) ?_; clear hf; intro a hf
  refine wpO_nil ?_
  refine wpL_seq ?_
  refine wpL_seq ?_
  refine wpL_region ?_
  refine sY hf hs rfl rfl rfl (Y_assign rfl rfl) ?_; clear hf; intro a hf
  refine wpO_nil ?_
  obtain ⟨r18, hl19, hm⟩ := bind_some hm
  refine wpL_block (fun a w => ∃ x17 : Int, Sum.inr x17 = r18 ∧ Fr a 21 [(1, .int .i64 x17)] ∧ St [] W w []) ?_ ?_
  · refine wpL_loop (fun n a w => ∃ x11 : Int, ∃ x12 : Int, laws_heldInt64S_L1 F p0_a n x11 x12 = some r18 ∧ Fr a 21 [(0, .slice A_p0_a_1 p0_a.length c_p0_a_1), (1, .int .i64 x11), (5, .int .i64 x12)] ∧ St [] W w []) F ?_ ?_ ?_
    · exact ⟨p1_k, 0, hl19, (Fr.pick (Fr.pick (Fr.pick hf.none hf rfl) hf rfl) hf rfl), hs⟩
    · rintro a w ⟨x11, x12, h0_, -, -⟩; simp [laws_heldInt64S_L1] at h0_
    · rintro n21 a w ⟨x11, x12, hm20, hf, hs⟩
      rw [laws_heldInt64S_L1] at hm20
      refine wpL_seq ?_
      refine wpL_seq ?_
      refine wpL_region ?_
      refine sY hf hs rfl rfl rfl (Y_move rfl rfl) ?_; clear hf; intro a hf
      refine sY hf hs rfl rfl rfl (Y_move rfl rfl) ?_; clear hf; intro a hf
      refine sY hf hs rfl rfl rfl (Y_lenH rfl rfl el36 rfl) ?_; clear hf; intro a hf
      refine sY hf hs rfl rfl rfl (Y_lss rfl rfl rfl) ?_; clear hf; intro a hf
      refine wpO_nil ?_
      refine wpL_cond hf rfl (fun hb22 => ?_) (fun hb22 => ?_)
      · have hm20 := bif_t hm20 hb22
        refine wpL_skip ?_
        refine wpL_seq ?_
        refine wpL_block0 ?_
        refine wpL_seq ?_
        refine wpL_seq ?_
        refine wpL_region ?_
        refine sY hf hs rfl rfl rfl (Y_move rfl rfl) ?_; clear hf; intro a hf
        refine sY hf hs rfl rfl rfl (Y_move rfl rfl) ?_; clear hf; intro a hf
        obtain ⟨q23, hi24, hm20⟩ := bind_some hm20
        obtain ⟨hi24a, hi24b, hi24q⟩ := idx_some hi24
        refine sY hf hs rfl rfl rfl (Y_index rfl rfl rfl el36 ti2 (Rd.isAt (h_p0_a_1.at hs) (at1 (ints_at hi24q))) hi24a hi24b) ?_; clear hf; intro a hf
        refine sY hf hs rfl rfl rfl (Y_load_rd rfl rfl (fun w hs => h_p0_a_1.at hs) (at1 (ints_at hi24q)) ag2) ?_; clear hf; intro a hf
        refine sY hf hs rfl rfl rfl (Y_move rfl rfl) ?_; clear hf; intro a hf
        refine sY hf hs rfl rfl rfl (Y_neq rfl rfl rfl) ?_; clear hf; intro a hf
        refine wpO_nil ?_
        refine wpL_cond hf rfl (fun hb25 => ?_) (fun hb25 => ?_)
        · have hm20 := bif_t hm20 hb25
          refine wpL_seq ?_
          refine wpL_region ?_
          refine sY hf hs rfl rfl rfl (Y_assign rfl rfl) ?_; clear hf; intro a hf
          refine wpO_nil ?_
          obtain rfl := Option.some.inj hm20
          try dsimp only at hm
          obtain rfl := Option.some.inj hm
          refine wpL_ret (Qb_ret (Ql_ret (Qb_ret (ret_tmp rfl hf rfl ?_))))
          exact ⟨_, rfl, rfl, hs⟩
        · have hm20 := bif_f hm20 hb25
          refine wpL_skip ?_
          refine wpL_region ?_
          refine sY hf hs rfl rfl rfl (Y_move rfl rfl) ?_; clear hf; intro a hf
          refine sY hf hs rfl rfl rfl (Y_add rfl rfl rfl) ?_; clear hf; intro a hf
          refine sY hf hs rfl rfl rfl (Y_assign rfl rfl) ?_; clear hf; intro a hf
          refine wpO_nil ?_
          refine wpL_nil (Qb_normal ?_)
          refine wpL_region ?_
          refine sY hf hs rfl rfl rfl (Y_move rfl rfl) ?_; clear hf; intro a hf
          refine sY hf hs rfl rfl rfl (Y_add rfl rfl rfl) ?_; clear hf; intro a hf
          refine sY hf hs rfl rfl rfl (Y_assign rfl rfl) ?_; clear hf; intro a hf
          refine wpO_nil ?_
          refine wpL_nil (Ql_normal ?_)
          exact ⟨(IntKind.i64.wrap (x11 + 1)), (IntKind.i64.wrap (x12 + 1)), hm20, (Fr.pick (Fr.pick (Fr.pick hf.none hf rfl) hf rfl) hf rfl), hs⟩
      · have hm20 := bif_f hm20 hb22
        refine wpL_exit (Ql_exit (Qb_exit ?_))
        exact ⟨x11, Option.some.inj hm20, (Fr.pick hf.none hf rfl), hs⟩
  · rintro a w ⟨x17, hr_, hf, hs⟩
    subst hr_
    try dsimp only at hm
    refine wpL_seq ?_
    refine wpL_region ?_
    refine sY hf hs rfl rfl rfl (Y_move rfl rfl) ?_; clear hf; intro a hf
    refine sY hf hs rfl rfl rfl (Y_assign rfl rfl) ?_; clear hf; intro a hf
    refine wpO_nil ?_
    obtain rfl := Option.some.inj hm
    refine wpL_ret (ret_tmp rfl hf rfl ?_)
    exact ⟨_, rfl, rfl, hs⟩

set_option maxRecDepth 100000 in
theorem laws_FnExactPositiveCycle_ok (F : Nat) (p0 : List (List Int)) (A_p0_1 : Option Addr) (n_p0_1 c_p0_1 : Nat) (hn_p0_1 : n_p0_1 = p0.length) (r : Bool) (W : World) (hm : laws_FnExactPositiveCycle F p0 = some r) (h_p0_1 : RdM W A_p0_1 p0) :
    Calls Try.prog 4 [.slice A_p0_1 n_p0_1 c_p0_1].toArray W fun e w' => ∃ v, e = .returned v ∧ v = .bool r ∧ St [] W w' [] := by
  subst hn_p0_1
  unfold laws_FnExactPositiveCycle at hm
  refine Calls.enter (N := 96) Try.func4 rfl rfl rfl (fun a hf => ?_)
  have hs := St.start W
  obtain ⟨w, hw_⟩ : ∃ w, w = W := ⟨W, rfl⟩
  clear hw_ w
  refine wpL_seq ?_
  refine wpL_region ?_
  refine sY hf hs rfl rfl rfl (Y_assign rfl rfl) ?_; clear hf; intro a hf
  refine wpO_nil ?_
  refine wpL_seq ?_
  refine wpL_region ?_
  refine sY hf hs rfl rfl rfl (Y_assign rfl rfl) ?_; clear hf; intro a hf
  refine wpO_nil ?_
  refine wpL_seq ?_
  refine wpL_region ?_
  refine sY hf hs rfl rfl rfl (Y_move rfl rfl) ?_; clear hf; intro a hf
  refine sY hf hs rfl rfl rfl (Y_move rfl rfl) ?_; clear hf; intro a hf
  obtain ⟨r1, hc2, hm⟩ := bind_some hm
  refine sCall hf rfl rfl rfl rfl (cap := []) rfl rfl en21 (laws_szInt64SS_ok F p0 A_p0_1 p0.length c_p0_1 rfl 1048576 _ _ hc2 (h_p0_1.at hs)) ?_; clear hf
  rintro _ w ⟨rfl, hs1⟩ a hf
  have hs : St [] W w [] := hs.ext hs1.below
  clear hs1
  refine sY hf hs rfl rfl rfl (Y_assign rfl rfl) ?_; clear hf; intro a hf
  refine wpO_nil ?_
  refine wpL_seq ?_
  refine wpL_seq ?_
  refine wpL_region ?_
  refine sY hf hs rfl rfl rfl (Y_move rfl rfl) ?_; clear hf; intro a hf
  refine sY hf hs rfl rfl rfl (Y_lss rfl rfl rfl) ?_; clear hf; intro a hf
  refine wpO_nil ?_
  refine wpL_cond hf rfl (fun hb3 => ?_) (fun hb3 => ?_)
  · have hm := bif_t hm hb3
    refine wpL_seq ?_
    refine wpL_region ?_
    refine sY hf hs rfl rfl rfl (Y_assign rfl rfl) ?_; clear hf; intro a hf
    refine wpO_nil ?_
    obtain rfl := Option.some.inj hm
    refine wpL_ret (ret_tmp rfl hf rfl ?_)
    exact ⟨_, rfl, rfl, hs⟩
  · have hm := bif_f hm hb3
    refine wpL_skip ?_
    refine wpL_seq ?_
    refine wpL_region ?_
    refine sY hf hs rfl rfl rfl (Y_move rfl rfl) ?_; clear hf; intro a hf
    obtain ⟨r4, hc5, hm⟩ := bind_some hm
    refine sCall hf rfl rfl rfl rfl (cap := []) rfl rfl en23 (laws_toInt64SS_ok F p0 A_p0_1 p0.length c_p0_1 rfl _ _ hc5 (h_p0_1.at hs)) ?_; clear hf
    rintro _ w ⟨A6, n7, c8, vs10, rfl, hn9, hs1⟩ a hf
    have hs : St [] W w [.mat A6 n7 c8 36 2 vs10 r4] := hs.join hs1
    clear hs1
    obtain ⟨r11, hc12, hm⟩ := bind_some hm
    refine sCall hf rfl rfl rfl rfl (cap := []) rfl rfl en22 (spec_PositiveCycle_ok F r4 A6 n7 c8 hn9 _ _ hc12 (hs.rdM (i := 0) rfl)) ?_; clear hf
    rintro _ w ⟨A13, n14, c15, rfl, hn16, hs1⟩ a hf
    have hs : St [] W w [.mat A6 n7 c8 36 2 vs10 r4, .row A13 n14 c15 2 1 (ints r11.1)] := hs.join hs1
    clear hs1
    refine sY hf hs rfl rfl rfl (Y_move rfl rfl) ?_; clear hf; intro a hf
    refine sY hf hs rfl rfl rfl (Y_extract rfl rfl rfl) ?_; clear hf; intro a hf
    refine sY hf hs rfl rfl rfl (Y_extract rfl rfl rfl) ?_; clear hf; intro a hf
    refine sY hf hs rfl rfl rfl (Y_assign rfl rfl) ?_; clear hf; intro a hf
    refine sY hf hs rfl rfl rfl (Y_assign rfl rfl) ?_; clear hf; intro a hf
    refine wpO_nil ?_
    refine wpL_seq ?_
    refine wpL_region ?_
    refine sY hf hs rfl rfl rfl (Y_move rfl rfl) ?_; clear hf; intro a hf
    obtain ⟨r17, hc18, hm⟩ := bind_some hm
    refine sCall hf rfl rfl rfl rfl (cap := []) rfl rfl en23 (laws_toInt64SS_ok F p0 A_p0_1 p0.length c_p0_1 rfl _ _ hc18 (h_p0_1.at hs)) ?_; clear hf
    rintro _ w ⟨A19, n20, c21, vs23, rfl, hn22, hs1⟩ a hf
    have hs : St [] W w [.mat A6 n7 c8 36 2 vs10 r4, .row A13 n14 c15 2 1 (ints r11.1), .mat A19 n20 c21 36 2 vs23 r17] := hs.join hs1
    clear hs1
    refine sY hf hs rfl rfl rfl (Y_assign rfl rfl) ?_; clear hf; intro a hf
    refine wpO_nil ?_
    refine wpL_seq ?_
    refine wpL_region ?_
    refine sY hf hs rfl rfl rfl (Y_move rfl rfl) ?_; clear hf; intro a hf
    obtain ⟨r24, hc25, hm⟩ := bind_some hm
    refine sCall hf rfl rfl rfl rfl (cap := []) rfl rfl en24 (impl_PositiveCycle_ok F r17 A19 n20 c21 hn22 _ _ hc25 (hs.rdM (i := 2) rfl)) ?_; clear hf
    rintro _ w ⟨A26, n27, c28, rfl, hn29, hs1⟩ a hf
    have hs : St [] W w [.mat A6 n7 c8 36 2 vs10 r4, .row A13 n14 c15 2 1 (ints r11.1), .mat A19 n20 c21 36 2 vs23 r17, .row A26 n27 c28 2 1 (ints r24.1)] := hs.join hs1
    clear hs1
    refine sY hf hs rfl rfl rfl (Y_move rfl rfl) ?_; clear hf; intro a hf
    refine sY hf hs rfl rfl rfl (Y_extract rfl rfl rfl) ?_; clear hf; intro a hf
    refine sY hf hs rfl rfl rfl (Y_extract rfl rfl rfl) ?_; clear hf; intro a hf
    refine sY hf hs rfl rfl rfl (Y_assign rfl rfl) ?_; clear hf; intro a hf
    refine sY hf hs rfl rfl rfl (Y_assign rfl rfl) ?_; clear hf; intro a hf
    refine wpO_nil ?_
    refine wpL_seq ?_
    refine wpL_seq ?_
    obtain ⟨r34, hj35, hm⟩ := bind_some hm
    refine wpL_cut (fun a w => ∃ b33 : Bool, b33 = r34 ∧ Fr a 96 [(0, .slice A_p0_1 p0.length c_p0_1), (4, .slice A13 n14 c15), (5, .int .i64 r11.2), (6, .slice A19 n20 c21), (7, .slice A26 n27 c28), (8, .int .i64 r24.2), (40, .bool b33)] ∧ St [] W w [.row A13 n14 c15 2 1 (ints r11.1), .mat A19 n20 c21 36 2 vs23 r17, .row A26 n27 c28 2 1 (ints r24.1)]) ?_ ?_
    · refine wpL_region ?_
      refine sY hf hs rfl rfl rfl (Y_move rfl rfl) ?_; clear hf; intro a hf
      refine sY hf hs rfl rfl rfl (Y_move rfl rfl) ?_; clear hf; intro a hf
      obtain ⟨r36, hc37, hj35⟩ := bind_some hj35
      refine sCall hf rfl rfl rfl rfl (cap := []) rfl rfl en25 (laws_eqInt64S_ok F r24.1 A26 n27 c28 hn29 r11.1 A13 n14 c15 hn16 _ _ hc37 (hs.rd (i := 3) rfl) (hs.rd (i := 1) rfl)) ?_; clear hf
      rintro _ w ⟨rfl, hs1⟩ a hf
      have hs : St [] W w [.mat A6 n7 c8 36 2 vs10 r4, .row A13 n14 c15 2 1 (ints r11.1), .mat A19 n20 c21 36 2 vs23 r17, .row A26 n27 c28 2 1 (ints r24.1)] := hs.ext hs1.below
      clear hs1
      refine sY hf hs rfl rfl rfl (Y_not rfl rfl) ?_; clear hf; intro a hf
      refine sY hf hs rfl rfl rfl (Y_move rfl rfl) ?_; clear hf; intro a hf
      refine bsplit (!r36) (fun hb38 => ?_) (fun hb38 => ?_)
      · have hj35 := bif_t hj35 hb38
        refine sNo hf rfl rfl rfl (congrArg (fun b => some (Value.bool b)) hb38) rfl rfl rfl ?_; clear hf; intro a hf
        refine sNo hf rfl rfl rfl (congrArg (fun b => some (Value.bool b)) hb38) rfl rfl rfl ?_; clear hf; intro a hf
        refine sNo hf rfl rfl rfl (congrArg (fun b => some (Value.bool b)) hb38) rfl rfl rfl ?_; clear hf; intro a hf
        refine sY hf hs rfl rfl rfl (Y_pickT rfl (congrArg (fun b => some (Value.bool b)) hb38) rfl) ?_; clear hf; intro a hf
        refine wpO_nil ?_
        refine wpL_nil (then_normal ?_)
        exact ⟨true, Option.some.inj hj35, (Fr.pick (Fr.pick (Fr.pick (Fr.pick (Fr.pick (Fr.pick (Fr.pick hf.none hf rfl) hf rfl) hf rfl) hf rfl) hf rfl) hf rfl) hf rfl), hs.sel [1, 2, 3] (by decide)⟩
      · have hj35 := bif_f hj35 hb38
        refine sYg hf hs rfl rfl rfl (congrArg (fun b => some (Value.bool b)) hb38) rfl rfl rfl (Y_move rfl rfl) ?_; clear hf; intro a hf
        refine sYg hf hs rfl rfl rfl (congrArg (fun b => some (Value.bool b)) hb38) rfl rfl rfl (Y_move rfl rfl) ?_; clear hf; intro a hf
        refine sYg hf hs rfl rfl rfl (congrArg (fun b => some (Value.bool b)) hb38) rfl rfl rfl (Y_neq rfl rfl rfl) ?_; clear hf; intro a hf
        refine sY hf hs rfl rfl rfl (Y_pickF rfl (congrArg (fun b => some (Value.bool b)) hb38) rfl) ?_; clear hf; intro a hf
        refine wpO_nil ?_
        refine wpL_nil (then_normal ?_)
        exact ⟨(r24.2 != r11.2), Option.some.inj hj35, (Fr.pick (Fr.pick (Fr.pick (Fr.pick (Fr.pick (Fr.pick (Fr.pick hf.none hf rfl) hf rfl) hf rfl) hf rfl) hf rfl) hf rfl) hf rfl), hs.sel [1, 2, 3] (by decide)⟩
    · rintro a w ⟨b33, hr_, hf, hs⟩
      subst hr_
      try dsimp only at hm
      refine wpL_cond hf rfl (fun hb39 => ?_) (fun hb39 => ?_)
      · have hm := bif_t hm hb39
        refine wpL_seq ?_
        refine wpL_region ?_
        refine sY hf hs rfl rfl rfl (Y_assign rfl rfl) ?_; clear hf; intro a hf
        refine wpO_nil ?_
        obtain rfl := Option.some.inj hm
        refine wpL_ret (ret_tmp rfl hf rfl ?_)
        exact ⟨_, rfl, rfl, hs.sel [] (by decide)⟩
      · have hm := bif_f hm hb39
        refine wpL_skip ?_
        refine wpL_seq ?_
        refine wpL_seq ?_
        refine wpL_region ?_
        refine sY hf hs rfl rfl rfl (Y_move rfl rfl) ?_; clear hf; intro a hf
        refine sY hf hs rfl rfl rfl (Y_move rfl rfl) ?_; clear hf; intro a hf
        obtain ⟨r40, hc41, hm⟩ := bind_some hm
        refine sCall hf rfl rfl rfl rfl (cap := []) rfl rfl en23 (laws_toInt64SS_ok F p0 A_p0_1 p0.length c_p0_1 rfl _ _ hc41 (h_p0_1.at hs)) ?_; clear hf
        rintro _ w ⟨A42, n43, c44, vs46, rfl, hn45, hs1⟩ a hf
        have hs : St [] W w [.row A13 n14 c15 2 1 (ints r11.1), .mat A19 n20 c21 36 2 vs23 r17, .row A26 n27 c28 2 1 (ints r24.1), .mat A42 n43 c44 36 2 vs46 r40] := hs.join hs1
        clear hs1
        obtain ⟨r47, hc48, hm⟩ := bind_some hm
        refine sCall hf rfl rfl rfl rfl (cap := []) rfl rfl en26 (laws_eqInt64SS_ok F r17 A19 n20 c21 hn22 r40 A42 n43 c44 hn45 _ _ hc48 (hs.rdM (i := 1) rfl) (hs.rdM (i := 3) rfl)) ?_; clear hf
        rintro _ w ⟨rfl, hs1⟩ a hf
        have hs : St [] W w [.row A13 n14 c15 2 1 (ints r11.1), .mat A19 n20 c21 36 2 vs23 r17, .row A26 n27 c28 2 1 (ints r24.1), .mat A42 n43 c44 36 2 vs46 r40] := hs.ext hs1.below
        clear hs1
        refine sY hf hs rfl rfl rfl (Y_not rfl rfl) ?_; clear hf; intro a hf
        refine wpO_nil ?_
        refine wpL_cond hf rfl (fun hb49 => ?_) (fun hb49 => ?_)
        · have hm := bif_t hm hb49
          refine wpL_seq ?_
          refine wpL_region ?_
          refine sY hf hs rfl rfl rfl (Y_assign rfl rfl) ?_; clear hf; intro a hf
          refine wpO_nil ?_
          obtain rfl := Option.some.inj hm
          refine wpL_ret (ret_tmp rfl hf rfl ?_)
          exact ⟨_, rfl, rfl, hs.sel [] (by decide)⟩
        · have hm := bif_f hm hb49
          refine wpL_skip ?_
          refine wpL_seq ?_
          refine wpL_region ?_
          refine sY hf hs rfl rfl rfl (Y_assign rfl rfl) ?_; clear hf; intro a hf
          refine wpO_nil ?_
          refine wpL_seq ?_
          refine wpL_region ?_
          refine sY hf hs rfl rfl rfl (Y_move rfl rfl) ?_; clear hf; intro a hf
          refine sY hf hs rfl rfl rfl (Y_move rfl rfl) ?_; clear hf; intro a hf
          obtain ⟨r50, hc51, hm⟩ := bind_some hm
          refine sCall hf rfl rfl rfl rfl (cap := []) rfl rfl en27 (laws_markInt64SS_ok F r17 A19 n20 c21 hn22 vs23 1 _ _ hc51 (hs.res _ _ (show _[1]? = some _ from rfl))) ?_; clear hf
          rintro _ w ⟨rfl, hn52, hs1⟩ a hf
          have hs : St [] W w [.row A13 n14 c15 2 1 (ints r11.1), .mat A19 n20 c21 36 2 vs23 r50.2, .row A26 n27 c28 2 1 (ints r24.1), .mat A42 n43 c44 36 2 vs46 r40] := hs.mut (i := 1) rfl (fun b hb => muM_mem.1 hb) hs1
          clear hs1
          refine sY hf hs rfl rfl rfl (Y_assign rfl rfl) ?_; clear hf; intro a hf
          refine wpO_nil ?_
          refine wpL_seq ?_
          refine wpL_seq ?_
          obtain ⟨r58, hj59, hm⟩ := bind_some hm
          refine wpL_cut (fun a w => ∃ b57 : Bool, b57 = r58 ∧ Fr a 96 [(0, .slice A_p0_1 p0.length c_p0_1), (4, .slice A13 n14 c15), (5, .int .i64 r11.2), (7, .slice A26 n27 c28), (61, .bool b57)] ∧ St [] W w [.row A13 n14 c15 2 1 (ints r11.1), .row A26 n27 c28 2 1 (ints r24.1)]) ?_ ?_
          · refine wpL_region ?_
            refine sY hf hs rfl rfl rfl (Y_move rfl rfl) ?_; clear hf; intro a hf
            refine sY hf hs rfl rfl rfl (Y_lss rfl rfl rfl) ?_; clear hf; intro a hf
            refine sY hf hs rfl rfl rfl (Y_move rfl rfl) ?_; clear hf; intro a hf
            refine bsplit (decide (r50.1 < 0)) (fun hb60 => ?_) (fun hb60 => ?_)
            · have hj59 := bif_t hj59 hb60
              refine sNo hf rfl rfl rfl (congrArg (fun b => some (Value.bool b)) hb60) rfl rfl rfl ?_; clear hf; intro a hf
              refine sNo hf rfl rfl rfl (congrArg (fun b => some (Value.bool b)) hb60) rfl rfl rfl ?_; clear hf; intro a hf
              refine sNo hf rfl rfl rfl (congrArg (fun b => some (Value.bool b)) hb60) rfl rfl rfl ?_; clear hf; intro a hf
              refine sNo hf rfl rfl rfl (congrArg (fun b => some (Value.bool b)) hb60) rfl rfl rfl ?_; clear hf; intro a hf
              refine sY hf hs rfl rfl rfl (Y_pickT rfl (congrArg (fun b => some (Value.bool b)) hb60) rfl) ?_; clear hf; intro a hf
              refine sY hf hs rfl rfl rfl (Y_move rfl rfl) ?_; clear hf; intro a hf
              refine sNo hf rfl rfl rfl rfl rfl rfl rfl ?_; clear hf; intro a hf
              refine sNo hf rfl rfl rfl rfl rfl rfl rfl ?_; clear hf; intro a hf
              refine sNo hf rfl rfl rfl rfl rfl rfl rfl ?_; clear hf; intro a hf
              refine sY hf hs rfl rfl rfl (Y_pickT rfl rfl rfl) ?_; clear hf; intro a hf
              refine wpO_nil ?_
              refine wpL_nil (then_normal ?_)
              exact ⟨true, Option.some.inj hj59, (Fr.pick (Fr.pick (Fr.pick (Fr.pick (Fr.pick hf.none hf rfl) hf rfl) hf rfl) hf rfl) hf rfl), hs.sel [0, 2] (by decide)⟩
            · have hj59 := bif_f hj59 hb60
              refine sYg hf hs rfl rfl rfl (congrArg (fun b => some (Value.bool b)) hb60) rfl rfl rfl (Y_move rfl rfl) ?_; clear hf; intro a hf
              refine sYg hf hs rfl rfl rfl (congrArg (fun b => some (Value.bool b)) hb60) rfl rfl rfl (Y_move rfl rfl) ?_; clear hf; intro a hf
              obtain ⟨r61, hc62, hj59⟩ := bind_some hj59
              refine sCallg hf rfl rfl rfl (congrArg (fun b => some (Value.bool b)) hb60) rfl rfl rfl rfl (cap := []) rfl rfl en25 (laws_eqInt64S_ok F r24.1 A26 n27 c28 hn29 r11.1 A13 n14 c15 hn16 _ _ hc62 (hs.rd (i := 2) rfl) (hs.rd (i := 0) rfl)) ?_; clear hf
              rintro _ w ⟨rfl, hs1⟩ a hf
              have hs : St [] W w [.row A13 n14 c15 2 1 (ints r11.1), .mat A19 n20 c21 36 2 vs23 r50.2, .row A26 n27 c28 2 1 (ints r24.1), .mat A42 n43 c44 36 2 vs46 r40] := hs.ext hs1.below
              clear hs1
              refine sYg hf hs rfl rfl rfl (congrArg (fun b => some (Value.bool b)) hb60) rfl rfl rfl (Y_not rfl rfl) ?_; clear hf; intro a hf
              refine sY hf hs rfl rfl rfl (Y_pickF rfl (congrArg (fun b => some (Value.bool b)) hb60) rfl) ?_; clear hf; intro a hf
              refine sY hf hs rfl rfl rfl (Y_move rfl rfl) ?_; clear hf; intro a hf
              refine bsplit (!r61) (fun hb63 => ?_) (fun hb63 => ?_)
              · have hj59 := bif_t hj59 hb63
                refine sNo hf rfl rfl rfl (congrArg (fun b => some (Value.bool b)) hb63) rfl rfl rfl ?_; clear hf; intro a hf
                refine sNo hf rfl rfl rfl (congrArg (fun b => some (Value.bool b)) hb63) rfl rfl rfl ?_; clear hf; intro a hf
                refine sNo hf rfl rfl rfl (congrArg (fun b => some (Value.bool b)) hb63) rfl rfl rfl ?_; clear hf; intro a hf
                refine sY hf hs rfl rfl rfl (Y_pickT rfl (congrArg (fun b => some (Value.bool b)) hb63) rfl) ?_; clear hf; intro a hf
                refine wpO_nil ?_
                refine wpL_nil (then_normal ?_)
                exact ⟨true, Option.some.inj hj59, (Fr.pick (Fr.pick (Fr.pick (Fr.pick (Fr.pick hf.none hf rfl) hf rfl) hf rfl) hf rfl) hf rfl), hs.sel [0, 2] (by decide)⟩
              · have hj59 := bif_f hj59 hb63
                refine sYg hf hs rfl rfl rfl (congrArg (fun b => some (Value.bool b)) hb63) rfl rfl rfl (Y_move rfl rfl) ?_; clear hf; intro a hf
                refine sYg hf hs rfl rfl rfl (congrArg (fun b => some (Value.bool b)) hb63) rfl rfl rfl (Y_move rfl rfl) ?_; clear hf; intro a hf
                refine sYg hf hs rfl rfl rfl (congrArg (fun b => some (Value.bool b)) hb63) rfl rfl rfl (Y_neq rfl rfl rfl) ?_; clear hf; intro a hf
                refine sY hf hs rfl rfl rfl (Y_pickF rfl (congrArg (fun b => some (Value.bool b)) hb63) rfl) ?_; clear hf; intro a hf
                refine wpO_nil ?_
                refine wpL_nil (then_normal ?_)
                exact ⟨(r24.2 != r11.2), Option.some.inj hj59, (Fr.pick (Fr.pick (Fr.pick (Fr.pick (Fr.pick hf.none hf rfl) hf rfl) hf rfl) hf rfl) hf rfl), hs.sel [0, 2] (by decide)⟩
          · rintro a w ⟨b57, hr_, hf, hs⟩
            subst hr_
            try dsimp only at hm
            refine wpL_cond hf rfl (fun hb64 => ?_) (fun hb64 => ?_)
            · have hm := bif_t hm hb64
              refine wpL_seq ?_
              refine wpL_region ?_
              refine sY hf hs rfl rfl rfl (Y_assign rfl rfl) ?_; clear hf; intro a hf
              refine wpO_nil ?_
              obtain rfl := Option.some.inj hm
              refine wpL_ret (ret_tmp rfl hf rfl ?_)
              exact ⟨_, rfl, rfl, hs.sel [] (by decide)⟩
            · have hm := bif_f hm hb64
              refine wpL_skip ?_
              refine wpL_seq ?_
              refine wpL_region ?_
              refine sY hf hs rfl rfl rfl (Y_assign rfl rfl) ?_; clear hf; intro a hf
              refine wpO_nil ?_
              refine wpL_seq ?_
              refine wpL_region ?_
              refine sY hf hs rfl rfl rfl (Y_move rfl rfl) ?_; clear hf; intro a hf
              refine sY hf hs rfl rfl rfl (Y_move rfl rfl) ?_; clear hf; intro a hf
              obtain ⟨r65, hc66, hm⟩ := bind_some hm
              refine sCall hf rfl rfl rfl rfl (cap := []) rfl rfl en28 (laws_markInt64S_ok F r24.1 A26 n27 c28 hn29 1 _ _ hc66 (hs.res _ _ (show _[1]? = some _ from rfl))) ?_; clear hf
              rintro _ w ⟨rfl, hn67, hs1⟩ a hf
              have hs : St [] W w [.row A13 n14 c15 2 1 (ints r11.1), .row A26 n27 c28 2 1 (ints r65.2)] := hs.mut (i := 1) rfl (fun b hb => muA_mem hb) hs1
              clear hs1
              refine sY hf hs rfl rfl rfl (Y_assign rfl rfl) ?_; clear hf; intro a hf
              refine wpO_nil ?_
              refine wpL_seq ?_
              refine wpL_region ?_
              refine sY hf hs rfl rfl rfl (Y_assign rfl rfl) ?_; clear hf; intro a hf
              refine wpO_nil ?_
              refine wpL_seq ?_
              refine wpL_region ?_
              refine sY hf hs rfl rfl rfl (Y_move rfl rfl) ?_; clear hf; intro a hf
              refine sY hf hs rfl rfl rfl (Y_move rfl rfl) ?_; clear hf; intro a hf
              obtain ⟨r68, hc69, hm⟩ := bind_some hm
              refine sCall hf rfl rfl rfl rfl (cap := []) rfl rfl en29 (laws_heldInt64S_ok F r65.2 A26 n27 c28 hn67 1 _ _ hc69 (hs.rd (i := 1) rfl)) ?_; clear hf
              rintro _ w ⟨rfl, hs1⟩ a hf
              have hs : St [] W w [.row A13 n14 c15 2 1 (ints r11.1), .row A26 n27 c28 2 1 (ints r65.2)] := hs.ext hs1.below
              clear hs1
              refine sY hf hs rfl rfl rfl (Y_assign rfl rfl) ?_; clear hf; intro a hf
              refine wpO_nil ?_
              refine wpL_seq ?_
              refine wpL_seq ?_
              refine wpL_region ?_
              refine sY hf hs rfl rfl rfl (Y_move rfl rfl) ?_; clear hf; intro a hf
              refine sY hf hs rfl rfl rfl (Y_lss rfl rfl rfl) ?_; clear hf; intro a hf
              refine wpO_nil ?_
              refine wpL_cond hf rfl (fun hb70 => ?_) (fun hb70 => ?_)
              · have hm := bif_t hm hb70
                refine wpL_seq ?_
                refine wpL_region ?_
                refine sY hf hs rfl rfl rfl (Y_assign rfl rfl) ?_; clear hf; intro a hf
                refine wpO_nil ?_
                obtain rfl := Option.some.inj hm
                refine wpL_ret (ret_tmp rfl hf rfl ?_)
                exact ⟨_, rfl, rfl, hs.sel [] (by decide)⟩
              · have hm := bif_f hm hb70
                refine wpL_skip ?_
                refine wpL_seq ?_
                refine wpL_seq ?_
                refine wpL_region ?_
                refine sY hf hs rfl rfl rfl (Y_move rfl rfl) ?_; clear hf; intro a hf
                refine sY hf hs rfl rfl rfl (Y_move rfl rfl) ?_; clear hf; intro a hf
                refine sY hf hs rfl rfl rfl (Y_neq rfl rfl rfl) ?_; clear hf; intro a hf
                refine wpO_nil ?_
                refine wpL_cond hf rfl (fun hb71 => ?_) (fun hb71 => ?_)
                · have hm := bif_t hm hb71
                  refine wpL_seq ?_
                  refine wpL_region ?_
                  refine sY hf hs rfl rfl rfl (Y_assign rfl rfl) ?_; clear hf; intro a hf
                  refine wpO_nil ?_
                  obtain rfl := Option.some.inj hm
                  refine wpL_ret (ret_tmp rfl hf rfl ?_)
                  exact ⟨_, rfl, rfl, hs.sel [] (by decide)⟩
                · have hm := bif_f hm hb71
                  refine wpL_skip ?_
                  refine wpL_seq ?_
                  refine wpL_region ?_
                  refine sY hf hs rfl rfl rfl (Y_move rfl rfl) ?_; clear hf; intro a hf
                  obtain ⟨r72, hc73, hm⟩ := bind_some hm
                  refine sCall hf rfl rfl rfl rfl (cap := []) rfl rfl en23 (laws_toInt64SS_ok F p0 A_p0_1 p0.length c_p0_1 rfl _ _ hc73 (h_p0_1.at hs)) ?_; clear hf
                  rintro _ w ⟨A74, n75, c76, vs78, rfl, hn77, hs1⟩ a hf
                  have hs : St [] W w [.row A13 n14 c15 2 1 (ints r11.1), .row A26 n27 c28 2 1 (ints r65.2), .mat A74 n75 c76 36 2 vs78 r72] := hs.join hs1
                  clear hs1
                  obtain ⟨r79, hc80, hm⟩ := bind_some hm
                  refine sCall hf rfl rfl rfl rfl (cap := []) rfl rfl en24 (impl_PositiveCycle_ok F r72 A74 n75 c76 hn77 _ _ hc80 (hs.rdM (i := 2) rfl)) ?_; clear hf
                  rintro _ w ⟨A81, n82, c83, rfl, hn84, hs1⟩ a hf
                  have hs : St [] W w [.row A13 n14 c15 2 1 (ints r11.1), .row A26 n27 c28 2 1 (ints r65.2), .mat A74 n75 c76 36 2 vs78 r72, .row A81 n82 c83 2 1 (ints r79.1)] := hs.join hs1
                  clear hs1
                  refine sY hf hs rfl rfl rfl (Y_move rfl rfl) ?_; clear hf; intro a hf
                  refine sY hf hs rfl rfl rfl (Y_extract rfl rfl rfl) ?_; clear hf; intro a hf
                  refine sY hf hs rfl rfl rfl (Y_extract rfl rfl rfl) ?_; clear hf; intro a hf
                  refine sY hf hs rfl rfl rfl (Y_assign rfl rfl) ?_; clear hf; intro a hf
                  refine sY hf hs rfl rfl rfl (Y_assign rfl rfl) ?_; clear hf; intro a hf
                  refine wpO_nil ?_
                  refine wpL_seq ?_
                  refine wpL_seq ?_
                  obtain ⟨r89, hj90, hm⟩ := bind_some hm
                  refine wpL_cut (fun a w => ∃ b88 : Bool, b88 = r89 ∧ Fr a 96 [(7, .slice A26 n27 c28), (10, .int .i64 r65.1), (87, .bool b88)] ∧ St [] W w [.row A26 n27 c28 2 1 (ints r65.2)]) ?_ ?_
                  · refine wpL_region ?_
                    refine sY hf hs rfl rfl rfl (Y_move rfl rfl) ?_; clear hf; intro a hf
                    refine sY hf hs rfl rfl rfl (Y_move rfl rfl) ?_; clear hf; intro a hf
                    obtain ⟨r91, hc92, hj90⟩ := bind_some hj90
                    refine sCall hf rfl rfl rfl rfl (cap := []) rfl rfl en25 (laws_eqInt64S_ok F r79.1 A81 n82 c83 hn84 r11.1 A13 n14 c15 hn16 _ _ hc92 (hs.rd (i := 3) rfl) (hs.rd (i := 0) rfl)) ?_; clear hf
                    rintro _ w ⟨rfl, hs1⟩ a hf
                    have hs : St [] W w [.row A13 n14 c15 2 1 (ints r11.1), .row A26 n27 c28 2 1 (ints r65.2), .mat A74 n75 c76 36 2 vs78 r72, .row A81 n82 c83 2 1 (ints r79.1)] := hs.ext hs1.below
                    clear hs1
                    refine sY hf hs rfl rfl rfl (Y_not rfl rfl) ?_; clear hf; intro a hf
                    refine sY hf hs rfl rfl rfl (Y_move rfl rfl) ?_; clear hf; intro a hf
                    refine bsplit (!r91) (fun hb93 => ?_) (fun hb93 => ?_)
                    · have hj90 := bif_t hj90 hb93
                      refine sNo hf rfl rfl rfl (congrArg (fun b => some (Value.bool b)) hb93) rfl rfl rfl ?_; clear hf; intro a hf
                      refine sNo hf rfl rfl rfl (congrArg (fun b => some (Value.bool b)) hb93) rfl rfl rfl ?_; clear hf; intro a hf
                      refine sNo hf rfl rfl rfl (congrArg (fun b => some (Value.bool b)) hb93) rfl rfl rfl ?_; clear hf; intro a hf
                      refine sY hf hs rfl rfl rfl (Y_pickT rfl (congrArg (fun b => some (Value.bool b)) hb93) rfl) ?_; clear hf; intro a hf
                      refine wpO_nil ?_
                      refine wpL_nil (then_normal ?_)
                      exact ⟨true, Option.some.inj hj90, (Fr.pick (Fr.pick (Fr.pick hf.none hf rfl) hf rfl) hf rfl), hs.sel [1] (by decide)⟩
                    · have hj90 := bif_f hj90 hb93
                      refine sYg hf hs rfl rfl rfl (congrArg (fun b => some (Value.bool b)) hb93) rfl rfl rfl (Y_move rfl rfl) ?_; clear hf; intro a hf
                      refine sYg hf hs rfl rfl rfl (congrArg (fun b => some (Value.bool b)) hb93) rfl rfl rfl (Y_move rfl rfl) ?_; clear hf; intro a hf
                      refine sYg hf hs rfl rfl rfl (congrArg (fun b => some (Value.bool b)) hb93) rfl rfl rfl (Y_neq rfl rfl rfl) ?_; clear hf; intro a hf
                      refine sY hf hs rfl rfl rfl (Y_pickF rfl (congrArg (fun b => some (Value.bool b)) hb93) rfl) ?_; clear hf; intro a hf
                      refine wpO_nil ?_
                      refine wpL_nil (then_normal ?_)
                      exact ⟨(r79.2 != r11.2), Option.some.inj hj90, (Fr.pick (Fr.pick (Fr.pick hf.none hf rfl) hf rfl) hf rfl), hs.sel [1] (by decide)⟩
                  · rintro a w ⟨b88, hr_, hf, hs⟩
                    subst hr_
                    try dsimp only at hm
                    refine wpL_cond hf rfl (fun hb94 => ?_) (fun hb94 => ?_)
                    · have hm := bif_t hm hb94
                      refine wpL_seq ?_
                      refine wpL_region ?_
                      refine sY hf hs rfl rfl rfl (Y_assign rfl rfl) ?_; clear hf; intro a hf
                      refine wpO_nil ?_
                      obtain rfl := Option.some.inj hm
                      refine wpL_ret (ret_tmp rfl hf rfl ?_)
                      exact ⟨_, rfl, rfl, hs.sel [] (by decide)⟩
                    · have hm := bif_f hm hb94
                      refine wpL_skip ?_
                      refine wpL_seq ?_
                      refine wpL_region ?_
                      refine sY hf hs rfl rfl rfl (Y_assign rfl rfl) ?_; clear hf; intro a hf
                      refine wpO_nil ?_
                      refine wpL_seq ?_
                      refine wpL_region ?_
                      refine sY hf hs rfl rfl rfl (Y_move rfl rfl) ?_; clear hf; intro a hf
                      refine sY hf hs rfl rfl rfl (Y_move rfl rfl) ?_; clear hf; intro a hf
                      obtain ⟨r95, hc96, hm⟩ := bind_some hm
                      refine sCall hf rfl rfl rfl rfl (cap := []) rfl rfl en29 (laws_heldInt64S_ok F r65.2 A26 n27 c28 hn67 1 _ _ hc96 (hs.rd (i := 0) rfl)) ?_; clear hf
                      rintro _ w ⟨rfl, hs1⟩ a hf
                      have hs : St [] W w [.row A26 n27 c28 2 1 (ints r65.2)] := hs.ext hs1.below
                      clear hs1
                      refine sY hf hs rfl rfl rfl (Y_assign rfl rfl) ?_; clear hf; intro a hf
                      refine wpO_nil ?_
                      refine wpL_seq ?_
                      refine wpL_seq ?_
                      refine wpL_region ?_
                      refine sY hf hs rfl rfl rfl (Y_move rfl rfl) ?_; clear hf; intro a hf
                      refine sY hf hs rfl rfl rfl (Y_lss rfl rfl rfl) ?_; clear hf; intro a hf
                      refine wpO_nil ?_
                      refine wpL_cond hf rfl (fun hb97 => ?_) (fun hb97 => ?_)
                      · have hm := bif_t hm hb97
                        refine wpL_seq ?_
                        refine wpL_region ?_
                        refine sY hf hs rfl rfl rfl (Y_assign rfl rfl) ?_; clear hf; intro a hf
                        refine wpO_nil ?_
                        obtain rfl := Option.some.inj hm
                        refine wpL_ret (ret_tmp rfl hf rfl ?_)
                        exact ⟨_, rfl, rfl, hs.sel [] (by decide)⟩
                      · have hm := bif_f hm hb97
                        refine wpL_skip ?_
                        refine wpL_seq ?_
                        refine wpL_seq ?_
                        refine wpL_region ?_
                        refine sY hf hs rfl rfl rfl (Y_move rfl rfl) ?_; clear hf; intro a hf
                        refine sY hf hs rfl rfl rfl (Y_move rfl rfl) ?_; clear hf; intro a hf
                        refine sY hf hs rfl rfl rfl (Y_neq rfl rfl rfl) ?_; clear hf; intro a hf
                        refine wpO_nil ?_
                        refine wpL_cond hf rfl (fun hb98 => ?_) (fun hb98 => ?_)
                        · have hm := bif_t hm hb98
                          refine wpL_seq ?_
                          refine wpL_region ?_
                          refine sY hf hs rfl rfl rfl (Y_assign rfl rfl) ?_; clear hf; intro a hf
                          refine wpO_nil ?_
                          obtain rfl := Option.some.inj hm
                          refine wpL_ret (ret_tmp rfl hf rfl ?_)
                          exact ⟨_, rfl, rfl, hs.sel [] (by decide)⟩
                        · have hm := bif_f hm hb98
                          refine wpL_skip ?_
                          refine wpL_seq ?_
                          refine wpL_region ?_
                          refine sY hf hs rfl rfl rfl (Y_assign rfl rfl) ?_; clear hf; intro a hf
                          refine wpO_nil ?_
                          obtain rfl := Option.some.inj hm
                          refine wpL_ret (ret_tmp rfl hf rfl ?_)
                          exact ⟨_, rfl, rfl, hs.sel [] (by decide)⟩

end Go.Proofs.Ytmijmamolmoheaa
