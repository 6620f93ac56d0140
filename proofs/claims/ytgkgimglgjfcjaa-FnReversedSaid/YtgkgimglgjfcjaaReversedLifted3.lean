/- The functions do what their models say. -/
import Derived.Test.YtgkgimglgjfcjaaReversedLifted2
import Derived.Test.YtgkgimglgjfcjaaRows
namespace Go.Proofs.Ytgkgimglgjfcjaa
open Go.RowKit

set_option maxRecDepth 100000 in
theorem spec_l19Permutes_ok (F : Nat) (ao : List Int) (bq : Option Addr) (ci br : Nat) (cK : ci = ao.length) (aQ : Int) (r : Bool) (W : World) (hm : spec_l19Permutes F ao aQ = some r) (bG : Rd W bq (ints ao)) (hcap_h_p0_p_1 : ci ≤ br) :
  Calls Try.prog 153 [.slice bq ci br, .int .i64 aQ].toArray W fun e w' => ∃ v, e = .returned v ∧ v = .bool r ∧ St [] W w' [] := by
 subst cK
 unfold spec_l19Permutes at hm
 refine Calls.enter (N := 34) Try.func153 rfl rfl rfl (fun a hf => ?_)
 have hs := St.start W
 obtain ⟨w, hw_⟩ : ∃ w, w = W := ⟨W, rfl⟩
 clear hw_ w
 refine wpL_seq <| wpL_region ?_
 refine sY hf hs rfl rfl rfl (Y_assign rfl rfl) ?_; clear hf; intro a hf
 refine wpO_nil <| wpL_seq <| wpL_seq <| wpL_region ?_
 refine sY hf hs rfl rfl rfl (Y_assign rfl rfl) ?_; clear hf; intro a hf
 refine wpO_nil ?_
 obtain ⟨r84, hl85, hm⟩ := bind_some hm
 refine wpL_block (fun a w => Sum.inr () = r84 ∧ Fr a 34 [(0, .slice bq ao.length br), (1, .int .i64 aQ)] ∧ St [] W w []) ?_ ?_
 ·refine wpL_loop (fun n a w => ∃ x56 : Int, spec_l19Permutes_L1 F ao aQ n x56 = some r84 ∧ Fr a 34 [(0, .slice bq ao.length br), (1, .int .i64 aQ), (5, .int .i64 x56)] ∧ St [] W w []) F ?_ ?_ ?_
  ·exact ⟨0, hl85, (FrD.pick (FrD.pick (FrD.pick hf.none hf rfl) hf rfl) hf rfl), hs⟩
  ·rintro a w ⟨x56, h0_, -, -⟩; simp [spec_l19Permutes_L1] at h0_
  ·rintro n87 a w ⟨x56, hm86, hf, hs⟩
   rw [spec_l19Permutes_L1] at hm86
   refine wpL_seq <| wpL_seq <| wpL_region ?_
   refine sY hf hs rfl rfl rfl (Y_move rfl rfl) ?_; clear hf; intro a hf
   refine sY hf hs rfl rfl rfl (Y_move rfl rfl) ?_; clear hf; intro a hf
   refine sY hf hs rfl rfl rfl (Y_lenH rfl rfl el23 rfl) ?_; clear hf; intro a hf
   refine sY hf hs rfl rfl rfl (Y_lss rfl rfl rfl) ?_; clear hf; intro a hf
   refine wpO_nil ?_
   refine wpL_cond hf rfl (fun hb88 => ?_) (fun hb88 => ?_)
   ·have hm86 := bif_t hm86 hb88
    refine wpL_skip <| wpL_seq <| wpL_block0 <| wpL_seq ?_
    obtain ⟨r101, hj102, hm86⟩ := bind_some hm86
    refine wpL_cut (fun a w => ∃ b100 : Bool, b100 = r101 ∧ Fr a 34 [(0, .slice bq ao.length br), (1, .int .i64 aQ), (5, .int .i64 x56), (29, .bool b100)] ∧ St [] W w []) ?_ ?_
    ·refine wpL_draw (by kernel_rfl) (by kernel_rfl) hs ?_
     refine qY hf rfl rfl rfl (Y_move rfl rfl) ?_; clear hf; intro a hf
     refine qY hf rfl rfl rfl (Y_move rfl rfl) ?_; clear hf; intro a hf
     obtain ⟨q103, hi104, hj102⟩ := bind_some hj102
     obtain ⟨hi104a, hi104b, hi104q⟩ := idx_some hi104
     refine qY hf rfl rfl rfl (Y_index rfl rfl rfl el23 ti2 (Rd.isAt (bG.at hs) (at1 (ints_at hi104q))) hi104a hi104b) ?_; clear hf; intro a hf
     refine qY hf rfl rfl rfl (Y_load_rd rfl rfl (fun w hs => bG.at hs) (at1 (ints_at hi104q)) ag2) ?_; clear hf; intro a hf
     refine qY hf rfl rfl rfl (Y_move rfl rfl) ?_; clear hf; intro a hf
     refine qY hf rfl rfl rfl (Y_sub rfl rfl rfl) ?_; clear hf; intro a hf
     obtain ⟨r105, hc106, hj102⟩ := bind_some hj102
     refine qCall hf rfl rfl rfl rfl (cap := []) rfl rfl en115 (v := .bool r105) (fun w hs => Calls.scal (spec_l01In_ok F q103 0 (IntKind.i64.wrap (aQ - 1)) _ _ hc106)) ?_; clear hf; intro a hf
     refine qY hf rfl rfl rfl (Y_not rfl rfl) ?_; clear hf; intro a hf
     refine qY hf rfl rfl rfl (Y_move rfl rfl) ?_; clear hf; intro a hf
     refine bsplit (!r105) (fun hb107 => ?_) (fun hb107 => ?_)
     ·have hj102 := bif_t hj102 hb107
      refine qNo hf rfl rfl rfl (congrArg (fun b => some (Value.bool b)) hb107) rfl rfl rfl ?_; clear hf; intro a hf
      refine qNo hf rfl rfl rfl (congrArg (fun b => some (Value.bool b)) hb107) rfl rfl rfl ?_; clear hf; intro a hf
      refine qNo hf rfl rfl rfl (congrArg (fun b => some (Value.bool b)) hb107) rfl rfl rfl ?_; clear hf; intro a hf
      refine qNo hf rfl rfl rfl (congrArg (fun b => some (Value.bool b)) hb107) rfl rfl rfl ?_; clear hf; intro a hf
      refine qNo hf rfl rfl rfl (congrArg (fun b => some (Value.bool b)) hb107) rfl rfl rfl ?_; clear hf; intro a hf
      refine qNo hf rfl rfl rfl (congrArg (fun b => some (Value.bool b)) hb107) rfl rfl rfl ?_; clear hf; intro a hf
      refine qNo hf rfl rfl rfl (congrArg (fun b => some (Value.bool b)) hb107) rfl rfl rfl ?_; clear hf; intro a hf
      refine qNo hf rfl rfl rfl (congrArg (fun b => some (Value.bool b)) hb107) rfl rfl rfl ?_; clear hf; intro a hf
      refine qY hf rfl rfl rfl (Y_pickT rfl (congrArg (fun b => some (Value.bool b)) hb107) rfl) ?_; clear hf; intro a hf
      refine qNil ?_; clear hs; intro w hs
      refine wpL_nil (then_normal ?_)
      exact ⟨true, Option.some.inj hj102, (FrD.pick (FrD.pick (FrD.pick (FrD.pick hf.none hf rfl) hf rfl) hf rfl) hf rfl), hs⟩
     ·have hj102 := bif_f hj102 hb107
      refine qYg hf rfl rfl rfl (congrArg (fun b => some (Value.bool b)) hb107) rfl rfl rfl (Y_move rfl rfl) ?_; clear hf; intro a hf
      refine qYg hf rfl rfl rfl (congrArg (fun b => some (Value.bool b)) hb107) rfl rfl rfl (Y_move rfl rfl) ?_; clear hf; intro a hf
      obtain ⟨xs109, hk108, hj102⟩ := bind_some hj102
      refine qYg hf rfl rfl rfl (congrArg (fun b => some (Value.bool b)) hb107) rfl rfl rfl (Y_sliceH rfl rfl rfl (cutTo_some hk108).1 (leC rfl hcap_h_p0_p_1 hk108) el23 ti2) ?_; clear hf; intro a hf
      refine qYg hf rfl rfl rfl (congrArg (fun b => some (Value.bool b)) hb107) rfl rfl rfl (Y_move rfl rfl) ?_; clear hf; intro a hf
      refine qYg hf rfl rfl rfl (congrArg (fun b => some (Value.bool b)) hb107) rfl rfl rfl (Y_move rfl rfl) ?_; clear hf; intro a hf
      obtain ⟨q110, hi111, hj102⟩ := bind_some hj102
      obtain ⟨hi111a, hi111b, hi111q⟩ := idx_some hi111
      refine qYg hf rfl rfl rfl (congrArg (fun b => some (Value.bool b)) hb107) rfl rfl rfl (Y_index rfl rfl rfl el23 ti2 (Rd.isAt (bG.at hs) (at1 (ints_at hi111q))) hi111a hi111b) ?_; clear hf; intro a hf
      refine qYg hf rfl rfl rfl (congrArg (fun b => some (Value.bool b)) hb107) rfl rfl rfl (Y_load_rd rfl rfl (fun w hs => bG.at hs) (at1 (ints_at hi111q)) ag2) ?_; clear hf; intro a hf
      obtain ⟨r112, hc113, hj102⟩ := bind_some hj102
      refine qCallg hf rfl rfl rfl (congrArg (fun b => some (Value.bool b)) hb107) rfl rfl rfl rfl (cap := []) rfl rfl en180 (v := .bool r112) (fun w hs => Calls.scal (spec_l01Has_ok F xs109 bq ((x56 : Int).toNat) br (pre_len hk108) q110 _ _ hc113 ((Rd.preInts bG hk108).at hs))) ?_; clear hf; intro a hf
      refine qY hf rfl rfl rfl (Y_pickF rfl (congrArg (fun b => some (Value.bool b)) hb107) rfl) ?_; clear hf; intro a hf
      refine qNil ?_; clear hs; intro w hs
      refine wpL_nil (then_normal ?_)
      exact ⟨r112, Option.some.inj hj102, (FrD.pick (FrD.pick (FrD.pick (FrD.pick hf.none hf rfl) hf rfl) hf rfl) hf rfl), hs⟩
    ·rintro a w ⟨b100, hr_, hf, hs⟩
     subst hr_
     try dsimp only at hm86
     refine wpL_cond hf rfl (fun hb114 => ?_) (fun hb114 => ?_)
     ·have hm86 := bif_t hm86 hb114
      refine wpL_seq <| wpL_region ?_
      refine sY hf hs rfl rfl rfl (Y_assign rfl rfl) ?_; clear hf; intro a hf
      refine wpO_nil ?_
      obtain rfl := Option.some.inj hm86
      try dsimp only at hm
      obtain rfl := Option.some.inj hm
      refine wpL_ret (Qb_ret (Ql_ret (Qb_ret (ret_tmp rfl hf rfl ?_))))
      exact ⟨_, rfl, rfl, hs⟩
     ·have hm86 := bif_f hm86 hb114
      refine wpL_skip ?_
      refine wpL_nil (Qb_normal ?_)
      refine wpL_region ?_
      refine sY hf hs rfl rfl rfl (Y_move rfl rfl) ?_; clear hf; intro a hf
      refine sY hf hs rfl rfl rfl (Y_add rfl rfl rfl) ?_; clear hf; intro a hf
      refine sY hf hs rfl rfl rfl (Y_assign rfl rfl) ?_; clear hf; intro a hf
      refine wpO_nil ?_
      refine wpL_nil (Ql_normal ?_)
      exact ⟨(IntKind.i64.wrap (x56 + 1)), hm86, (FrD.pick (FrD.pick (FrD.pick hf.none hf rfl) hf rfl) hf rfl), hs⟩
   ·have hm86 := bif_f hm86 hb88
    refine wpL_exit (Ql_exit (Qb_exit ?_))
    exact ⟨Option.some.inj hm86, (FrD.pick (FrD.pick hf.none hf rfl) hf rfl), hs⟩
 ·rintro a w ⟨hr_, hf, hs⟩
  subst hr_
  try dsimp only at hm
  refine wpL_seq <| wpL_region ?_
  refine sY hf hs rfl rfl rfl (Y_move rfl rfl) ?_; clear hf; intro a hf
  refine sY hf hs rfl rfl rfl (Y_lenH rfl rfl el23 rfl) ?_; clear hf; intro a hf
  refine sY hf hs rfl rfl rfl (Y_move rfl rfl) ?_; clear hf; intro a hf
  refine sY hf hs rfl rfl rfl (Y_eql rfl rfl rfl) ?_; clear hf; intro a hf
  refine sY hf hs rfl rfl rfl (Y_assign rfl rfl) ?_; clear hf; intro a hf
  refine wpO_nil ?_
  obtain rfl := Option.some.inj hm
  refine wpL_ret (ret_tmp rfl hf rfl ?_)
  exact ⟨_, rfl, rfl, hs⟩

set_option maxRecDepth 100000 in
theorem spec_l19Map_ok (F : Nat) (ab : GEventGraph) (ac : Option Addr) (ap ad : Nat) (ax : ap = ab.Places.length) (aj : Int) (cr : List Int) (bQ : Option Addr) (cA cj : Nat) (cL : cA = cr.length) (r : GEventGraph) (W : World) (hm : spec_l19Map F ab aj cr = some r) (aq : Rd W ac ((recs GPlace.cells) ab.Places)) (bh : Rd W bQ (ints cr)) :
  Calls Try.prog 137 [.agg #[.int .i64 ab.Events, .slice ac ap ad], .int .i64 aj, .slice bQ cA cj].toArray W fun e w' => ∃ v, e = .returned v ∧ ∃ A179, ∃ n180, ∃ c181, v = .agg #[.int .i64 r.Events, .slice A179 n180 c181] ∧ n180 = r.Places.length ∧ St [] W w' [.row A179 n180 c181 127 4 ((recs GPlace.cells) r.Places)] := by
 subst ax
 subst cL
 unfold spec_l19Map at hm
 refine Calls.enter (N := 60) Try.func137 rfl rfl rfl (fun a hf => ?_)
 have hs := St.start W
 obtain ⟨w, hw_⟩ : ∃ w, w = W := ⟨W, rfl⟩
 clear hw_ w
 refine wpL_seq <| wpL_region ?_
 refine sBox hf hs rfl rfl rfl rfl rfl (cs := [.int .i64 ab.Events, .slice ac ab.Places.length ad]) rfl ?_; clear hf hs; intro a w b1 hs hf
 have hs : St [] W w [.blk b1 59 [.int .i64 ab.Events, .slice ac ab.Places.length ad]] := hs
 refine sAlloc hf hs rfl rfl rfl rfl ti59 ?_; clear hf hs; intro a w b2 hs hf
 have hs : St [] W w [.blk b1 59 [.int .i64 ab.Events, .slice ac ab.Places.length ad], .blk b2 59 [.int .i64 0, .slice none 0 0]] := hs
 refine wpO_nil <| wpL_seq <| wpL_region ?_
 refine sY hf hs rfl rfl rfl (Y_move rfl rfl) ?_; clear hf; intro a hf
 refine sEmpty hf hs rfl rfl rfl rfl el57 ti127 ?_; clear hf hs; intro a w A3 hs hf
 have hs : St [] W w [.blk b1 59 [.int .i64 ab.Events, .slice ac ab.Places.length ad], .blk b2 59 [.int .i64 0, .slice none 0 0], .row A3 0 0 127 4 ((recs GPlace.cells) ([] : List GPlace))] := hs
 refine sY hf hs rfl rfl rfl (Y_build (parts := [(0, .tmp 10), (1, .tmp 11)]) (vs := [.int .i64 aj, .slice A3 0 0]) rfl rfl (run_build (parts := [(0, .int .i64 aj), (1, .slice A3 0 0)]) (cells := [.int .i64 aj, .slice A3 0 0]) (places := #[(0, 1), (1, 1)]) ti59 Try.underlying59 (fun w => by simp [go_sem]) rfl)) ?_; clear hf; intro a hf
 refine sAlloc hf hs rfl rfl rfl rfl ti59 ?_; clear hf hs; intro a w b5 hs hf
 have hs : St [] W w [.blk b1 59 [.int .i64 ab.Events, .slice ac ab.Places.length ad], .blk b2 59 [.int .i64 0, .slice none 0 0], .row A3 0 0 127 4 ((recs GPlace.cells) ([] : List GPlace)), .blk b5 59 [.int .i64 0, .slice none 0 0]] := hs
 refine sStore (i := 3) (us := [.int .i64 aj, .slice A3 0 0]) hf hs rfl rfl rfl rfl rfl rfl ti59 rfl rfl rfl (Nat.le_of_ble_eq_true rfl) rfl ?_; clear hs; intro w hs
 have hs : St [] W w [.blk b1 59 [.int .i64 ab.Events, .slice ac ab.Places.length ad], .blk b2 59 [.int .i64 0, .slice none 0 0], .row A3 0 0 127 4 ((recs GPlace.cells) ([] : List GPlace)), .blk b5 59 [.int .i64 aj, .slice A3 0 0]] := hs
 refine wpO_nil <| wpL_seq <| wpL_seq <| wpL_region ?_
 refine sY hf hs rfl rfl rfl (Y_assign rfl rfl) ?_; clear hf; intro a hf
 refine wpO_nil ?_
 obtain ⟨r137, hl138, hm⟩ := bind_some hm
 refine wpL_block (fun a w => ∃ xs132 : List GPlace, ∃ A133, ∃ n134, ∃ c135, xs132 = r137 ∧ n134 = xs132.length ∧ Fr a 60 [(6, .pointer (some ⟨b2, 0, none⟩)), (7, .pointer (some ⟨b5, 0, none⟩))] ∧ St [] W w [.blk b2 59 [.int .i64 0, .slice none 0 0], .blk b5 59 [.int .i64 aj, .slice A133 n134 c135], .row A133 n134 c135 127 4 ((recs GPlace.cells) xs132)]) ?_ ?_
 ·refine wpL_loop (fun n a w => ∃ xs88 : List GPlace, ∃ x93 : Int, ∃ A89, ∃ n90, ∃ c91, spec_l19Map_L1 F ab cr n xs88 x93 = some r137 ∧ n90 = xs88.length ∧ Fr a 60 [(2, .slice bQ cr.length cj), (3, .pointer (some ⟨b1, 0, none⟩)), (6, .pointer (some ⟨b2, 0, none⟩)), (7, .pointer (some ⟨b5, 0, none⟩)), (8, .int .i64 x93)] ∧ St [] W w [.blk b1 59 [.int .i64 ab.Events, .slice ac ab.Places.length ad], .blk b2 59 [.int .i64 0, .slice none 0 0], .blk b5 59 [.int .i64 aj, .slice A89 n90 c91], .row A89 n90 c91 127 4 ((recs GPlace.cells) xs88)]) F ?_ ?_ ?_
  ·exact ⟨([] : List GPlace), 0, A3, 0, 0, hl138, rfl, (FrD.pick (FrD.pick (FrD.pick (FrD.pick (FrD.pick hf.none hf rfl) hf rfl) hf rfl) hf rfl) hf rfl), hs.sel [0, 1, 3, 2] (by decide)⟩
  ·rintro a w ⟨xs88, x93, A89, n90, c91, h0_, -, -, -⟩; simp [spec_l19Map_L1] at h0_
  ·rintro n140 a w ⟨xs88, x93, A89, n90, c91, hm139, hn92, hf, hs⟩
   rw [spec_l19Map_L1] at hm139
   refine wpL_seq <| wpL_seq <| wpL_region ?_
   refine sY hf hs rfl rfl rfl (Y_move rfl rfl) ?_; clear hf; intro a hf
   refine sY hf hs rfl rfl rfl (Y_fieldAddr rfl rfl fo59_1) ?_; clear hf; intro a hf
   refine sY hf hs rfl rfl rfl (Y_load_blk rfl rfl (i := 0) rfl rfl ag57) ?_; clear hf; intro a hf
   refine sY hf hs rfl rfl rfl (Y_lenH rfl rfl el57 rfl) ?_; clear hf; intro a hf
   refine sY hf hs rfl rfl rfl (Y_lss rfl rfl rfl) ?_; clear hf; intro a hf
   refine wpO_nil ?_
   refine wpL_cond hf rfl (fun hb141 => ?_) (fun hb141 => ?_)
   ·have hm139 := bif_t hm139 hb141
    refine wpL_skip <| wpL_seq <| wpL_block0 <| wpL_seq <| wpL_region ?_
    refine sY hf hs rfl rfl rfl (Y_fieldAddr rfl rfl fo59_1) ?_; clear hf; intro a hf
    refine sY hf hs rfl rfl rfl (Y_load_blk rfl rfl (i := 0) rfl rfl ag57) ?_; clear hf; intro a hf
    refine sY hf hs rfl rfl rfl (Y_move rfl rfl) ?_; clear hf; intro a hf
    obtain ⟨q142, hi143, hm139⟩ := bind_some hm139
    obtain ⟨hi143a, hi143b, hi143q⟩ := idx_some hi143
    refine sY hf hs rfl rfl rfl (Y_index rfl rfl rfl el57 ti127 (Rd.isAt (aq.at hs) (recs_at (s := 4) GPlace.len hi143q (j := 0) rfl)) hi143a hi143b) ?_; clear hf; intro a hf
    refine sY hf hs rfl rfl rfl (Y_load_rdS rfl rfl (us := [.int .i64 q142.From, .int .i64 q142.To, .int .i64 q142.Delay, .int .i64 q142.Tokens]) (fun w hs => aq.at hs) (fun j u hj => recs_at (s := 4) GPlace.len hi143q hj) (Nat.succ_pos _) ag127 ti127 rfl) ?_; clear hf; intro a hf
    refine sAlloc hf hs rfl rfl rfl rfl ti127 ?_; clear hf hs; intro a w b144 hs hf
    have hs : St [] W w [.blk b1 59 [.int .i64 ab.Events, .slice ac ab.Places.length ad], .blk b2 59 [.int .i64 0, .slice none 0 0], .blk b5 59 [.int .i64 aj, .slice A89 n90 c91], .row A89 n90 c91 127 4 ((recs GPlace.cells) xs88), .blk b144 127 [.int .i64 0, .int .i64 0, .int .i64 0, .int .i64 0]] := hs
    refine sStore (i := 4) (us := [.int .i64 q142.From, .int .i64 q142.To, .int .i64 q142.Delay, .int .i64 q142.Tokens]) hf hs rfl rfl rfl rfl rfl rfl ti127 rfl rfl rfl (Nat.le_of_ble_eq_true rfl) rfl ?_; clear hs; intro w hs
    have hs : St [] W w [.blk b1 59 [.int .i64 ab.Events, .slice ac ab.Places.length ad], .blk b2 59 [.int .i64 0, .slice none 0 0], .blk b5 59 [.int .i64 aj, .slice A89 n90 c91], .row A89 n90 c91 127 4 ((recs GPlace.cells) xs88), .blk b144 127 [.int .i64 q142.From, .int .i64 q142.To, .int .i64 q142.Delay, .int .i64 q142.Tokens]] := hs
    refine wpO_nil <| wpL_seq ?_
    obtain ⟨r151, hj152, hm139⟩ := bind_some hm139
    refine wpL_cut (fun a w => ∃ b150 : Bool, b150 = r151 ∧ Fr a 60 [(2, .slice bQ cr.length cj), (3, .pointer (some ⟨b1, 0, none⟩)), (6, .pointer (some ⟨b2, 0, none⟩)), (7, .pointer (some ⟨b5, 0, none⟩)), (8, .int .i64 x93), (9, .pointer (some ⟨b144, 0, none⟩)), (38, .bool b150)] ∧ St [] W w [.blk b1 59 [.int .i64 ab.Events, .slice ac ab.Places.length ad], .blk b2 59 [.int .i64 0, .slice none 0 0], .blk b5 59 [.int .i64 aj, .slice A89 n90 c91], .row A89 n90 c91 127 4 ((recs GPlace.cells) xs88), .blk b144 127 [.int .i64 q142.From, .int .i64 q142.To, .int .i64 q142.Delay, .int .i64 q142.Tokens]]) ?_ ?_
    ·refine wpL_region ?_
     refine sY hf hs rfl rfl rfl (Y_move rfl rfl) ?_; clear hf; intro a hf
     refine sY hf hs rfl rfl rfl (Y_fieldAddr rfl rfl fo127_0) ?_; clear hf; intro a hf
     refine sY hf hs rfl rfl rfl (Y_load_blk rfl rfl (i := 4) rfl rfl ag2) ?_; clear hf; intro a hf
     obtain ⟨q153, hi154, hj152⟩ := bind_some hj152
     obtain ⟨hi154a, hi154b, hi154q⟩ := idx_some hi154
     refine sY hf hs rfl rfl rfl (Y_index rfl rfl rfl el23 ti2 (Rd.isAt (bh.at hs) (at1 (ints_at hi154q))) hi154a hi154b) ?_; clear hf; intro a hf
     refine sY hf hs rfl rfl rfl (Y_load_rd rfl rfl (fun w hs => bh.at hs) (at1 (ints_at hi154q)) ag2) ?_; clear hf; intro a hf
     refine sY hf hs rfl rfl rfl (Y_geq rfl rfl rfl) ?_; clear hf; intro a hf
     refine sY hf hs rfl rfl rfl (Y_move rfl rfl) ?_; clear hf; intro a hf
     refine bsplit (decide (0 ≤ q153)) (fun hb155 => ?_) (fun hb155 => ?_)
     ·have hj152 := bif_t hj152 hb155
      refine sYg hf hs rfl rfl rfl (congrArg (fun b => some (Value.bool b)) hb155) rfl rfl rfl (Y_move rfl rfl) ?_; clear hf; intro a hf
      refine sYg hf hs rfl rfl rfl (congrArg (fun b => some (Value.bool b)) hb155) rfl rfl rfl (Y_fieldAddr rfl rfl fo127_1) ?_; clear hf; intro a hf
      refine sYg hf hs rfl rfl rfl (congrArg (fun b => some (Value.bool b)) hb155) rfl rfl rfl (Y_load_blk rfl rfl (i := 4) rfl rfl ag2) ?_; clear hf; intro a hf
      obtain ⟨q156, hi157, hj152⟩ := bind_some hj152
      obtain ⟨hi157a, hi157b, hi157q⟩ := idx_some hi157
      refine sYg hf hs rfl rfl rfl (congrArg (fun b => some (Value.bool b)) hb155) rfl rfl rfl (Y_index rfl rfl rfl el23 ti2 (Rd.isAt (bh.at hs) (at1 (ints_at hi157q))) hi157a hi157b) ?_; clear hf; intro a hf
      refine sYg hf hs rfl rfl rfl (congrArg (fun b => some (Value.bool b)) hb155) rfl rfl rfl (Y_load_rd rfl rfl (fun w hs => bh.at hs) (at1 (ints_at hi157q)) ag2) ?_; clear hf; intro a hf
      refine sYg hf hs rfl rfl rfl (congrArg (fun b => some (Value.bool b)) hb155) rfl rfl rfl (Y_geq rfl rfl rfl) ?_; clear hf; intro a hf
      refine sY hf hs rfl rfl rfl (Y_pickT rfl (congrArg (fun b => some (Value.bool b)) hb155) rfl) ?_; clear hf; intro a hf
      refine wpO_nil ?_
      refine wpL_nil (then_normal ?_)
      exact ⟨(decide (0 ≤ q156)), Option.some.inj hj152, (FrD.pick (FrD.pick (FrD.pick (FrD.pick (FrD.pick (FrD.pick (FrD.pick hf.none hf rfl) hf rfl) hf rfl) hf rfl) hf rfl) hf rfl) hf rfl), hs⟩
     ·have hj152 := bif_f hj152 hb155
      refine sNo hf rfl rfl rfl (congrArg (fun b => some (Value.bool b)) hb155) rfl rfl rfl ?_; clear hf; intro a hf
      refine sNo hf rfl rfl rfl (congrArg (fun b => some (Value.bool b)) hb155) rfl rfl rfl ?_; clear hf; intro a hf
      refine sNo hf rfl rfl rfl (congrArg (fun b => some (Value.bool b)) hb155) rfl rfl rfl ?_; clear hf; intro a hf
      refine sNo hf rfl rfl rfl (congrArg (fun b => some (Value.bool b)) hb155) rfl rfl rfl ?_; clear hf; intro a hf
      refine sNo hf rfl rfl rfl (congrArg (fun b => some (Value.bool b)) hb155) rfl rfl rfl ?_; clear hf; intro a hf
      refine sNo hf rfl rfl rfl (congrArg (fun b => some (Value.bool b)) hb155) rfl rfl rfl ?_; clear hf; intro a hf
      refine sY hf hs rfl rfl rfl (Y_pickF rfl (congrArg (fun b => some (Value.bool b)) hb155) rfl) ?_; clear hf; intro a hf
      refine wpO_nil ?_
      refine wpL_nil (then_normal ?_)
      exact ⟨false, Option.some.inj hj152, (FrD.pick (FrD.pick (FrD.pick (FrD.pick (FrD.pick (FrD.pick (FrD.pick hf.none hf rfl) hf rfl) hf rfl) hf rfl) hf rfl) hf rfl) hf rfl), hs⟩
    ·rintro a w ⟨b150, hr_, hf, hs⟩
     subst hr_
     try dsimp only at hm139
     refine wpL_cond hf rfl (fun hb158 => ?_) (fun hb158 => ?_)
     ·have hm139 := bif_t hm139 hb158
      refine wpL_drawM [.blk b1 59 [.int .i64 ab.Events, .slice ac ab.Places.length ad], .blk b2 59 [.int .i64 0, .slice none 0 0], .blk b5 59 [.int .i64 aj, .slice A89 n90 c91], .row A89 n90 c91 127 4 ((recs GPlace.cells) xs88), .blk b144 127 [.int .i64 q142.From, .int .i64 q142.To, .int .i64 q142.Delay, .int .i64 q142.Tokens]] [18, 20] (by kernel_rfl) hs ?_; clear hs; intro w hs
      have hs0 : St [] W w [.blk b1 59 [.int .i64 ab.Events, .slice ac ab.Places.length ad], .blk b2 59 [.int .i64 0, .slice none 0 0], .blk b5 59 [.int .i64 aj, .slice A89 n90 c91], .row A89 n90 c91 127 4 ((recs GPlace.cells) xs88), .blk b144 127 [.int .i64 q142.From, .int .i64 q142.To, .int .i64 q142.Delay, .int .i64 q142.Tokens]] := hs
      refine mYp (i := 0) rfl (by kernel_rfl) (by kernel_rfl) hf rfl rfl rfl (fun _ => Y_fieldAddr rfl rfl fo59_1) ?_; clear hf; intro a hf
      refine mY (i := 1) [[], []] rfl (by kernel_rfl) (by kernel_rfl) hf hs0 rfl rfl rfl (Y_load_blk rfl rfl (i := 2) rfl rfl ag57) ?_; clear hf; intro a hf
      refine mYp (i := 2) rfl (by kernel_rfl) (by kernel_rfl) hf rfl rfl rfl (fun _ => Y_move rfl rfl) ?_; clear hf; intro a hf
      refine mYp (i := 3) rfl (by kernel_rfl) (by kernel_rfl) hf rfl rfl rfl (fun _ => Y_fieldAddr rfl rfl fo127_0) ?_; clear hf; intro a hf
      refine mY (i := 4) [[5, 6, 16, 17], []] rfl (by kernel_rfl) (by kernel_rfl) hf hs0 rfl rfl rfl (Y_load_blk rfl rfl (i := 4) rfl rfl ag2) ?_; clear hf; intro a hf
      obtain ⟨q169, hi170, hm139⟩ := bind_some hm139
      obtain ⟨hi170a, hi170b, hi170q⟩ := idx_some hi170
      refine mYp (i := 5) rfl (by kernel_rfl) (by kernel_rfl) hf rfl rfl rfl (fun _ => Y_index rfl rfl rfl el23 ti2 (Rd.isAt (bh.at hs) (at1 (ints_at hi170q))) hi170a hi170b) ?_; clear hf; intro a hf
      refine mY (i := 6) [[16, 17], []] rfl (by kernel_rfl) (by kernel_rfl) hf hs0 rfl rfl rfl (Y_load_rd rfl rfl (fun w hs => bh.at hs) (at1 (ints_at hi170q)) ag2) ?_; clear hf; intro a hf
      refine mYp (i := 7) rfl (by kernel_rfl) (by kernel_rfl) hf rfl rfl rfl (fun _ => Y_move rfl rfl) ?_; clear hf; intro a hf
      refine mYp (i := 8) rfl (by kernel_rfl) (by kernel_rfl) hf rfl rfl rfl (fun _ => Y_fieldAddr rfl rfl fo127_1) ?_; clear hf; intro a hf
      refine mY (i := 9) [[10, 11, 16, 17], []] rfl (by kernel_rfl) (by kernel_rfl) hf hs0 rfl rfl rfl (Y_load_blk rfl rfl (i := 4) rfl rfl ag2) ?_; clear hf; intro a hf
      obtain ⟨q171, hi172, hm139⟩ := bind_some hm139
      obtain ⟨hi172a, hi172b, hi172q⟩ := idx_some hi172
      refine mYp (i := 10) rfl (by kernel_rfl) (by kernel_rfl) hf rfl rfl rfl (fun _ => Y_index rfl rfl rfl el23 ti2 (Rd.isAt (bh.at hs) (at1 (ints_at hi172q))) hi172a hi172b) ?_; clear hf; intro a hf
      refine mY (i := 11) [[16, 17], []] rfl (by kernel_rfl) (by kernel_rfl) hf hs0 rfl rfl rfl (Y_load_rd rfl rfl (fun w hs => bh.at hs) (at1 (ints_at hi172q)) ag2) ?_; clear hf; intro a hf
      refine mYp (i := 12) rfl (by kernel_rfl) (by kernel_rfl) hf rfl rfl rfl (fun _ => Y_fieldAddr rfl rfl fo127_2) ?_; clear hf; intro a hf
      refine mY (i := 13) [[16, 17], []] rfl (by kernel_rfl) (by kernel_rfl) hf hs0 rfl rfl rfl (Y_load_blk rfl rfl (i := 4) rfl rfl ag2) ?_; clear hf; intro a hf
      refine mYp (i := 14) rfl (by kernel_rfl) (by kernel_rfl) hf rfl rfl rfl (fun _ => Y_fieldAddr rfl rfl fo127_3) ?_; clear hf; intro a hf
      refine mY (i := 15) [[16, 17], []] rfl (by kernel_rfl) (by kernel_rfl) hf hs0 rfl rfl rfl (Y_load_blk rfl rfl (i := 4) rfl rfl ag2) ?_; clear hf; intro a hf
      refine mYp (i := 16) rfl (by kernel_rfl) (by kernel_rfl) hf rfl rfl rfl (fun _ => Y_build (parts := [(0, .tmp 45), (1, .tmp 50), (2, .tmp 52), (3, .tmp 54)]) (vs := [.int .i64 q169, .int .i64 q171, .int .i64 q142.Delay, .int .i64 q142.Tokens]) rfl rfl (run_build (parts := [(0, .int .i64 q169), (1, .int .i64 q171), (2, .int .i64 q142.Delay), (3, .int .i64 q142.Tokens)]) (cells := [.int .i64 q169, .int .i64 q171, .int .i64 q142.Delay, .int .i64 q142.Tokens]) (places := #[(0, 1), (1, 1), (2, 1), (3, 1)]) ti127 Try.underlying127 (fun w => by simp [go_sem]) rfl)) ?_; clear hf; intro a hf
      refine mRun (i := 17) rfl (by kernel_rfl) ?_
      refine sBuildSlice (parts := [(0, .tmp 55)]) (vs := [.agg #[.int .i64 q169, .int .i64 q171, .int .i64 q142.Delay, .int .i64 q142.Tokens]]) (cells := [.int .i64 q169, .int .i64 q171, .int .i64 q142.Delay, .int .i64 q142.Tokens]) hf hs rfl rfl rfl rfl rfl el57 ti127 rfl rfl rfl rfl ?_; clear hf hs; intro a w A173 hs hA174 hf
      have hs : St [] W w [.blk b1 59 [.int .i64 ab.Events, .slice ac ab.Places.length ad], .blk b2 59 [.int .i64 0, .slice none 0 0], .blk b5 59 [.int .i64 aj, .slice A89 n90 c91], .row A89 n90 c91 127 4 ((recs GPlace.cells) xs88), .blk b144 127 [.int .i64 q142.From, .int .i64 q142.To, .int .i64 q142.Delay, .int .i64 q142.Tokens], .row A173 1 1 127 4 ((recs GPlace.cells) ([(GPlace.mk q169 q171 q142.Delay q142.Tokens)]))] := hs
      have hs0 : St [] W w [.blk b1 59 [.int .i64 ab.Events, .slice ac ab.Places.length ad], .blk b2 59 [.int .i64 0, .slice none 0 0], .blk b5 59 [.int .i64 aj, .slice A89 n90 c91], .row A89 n90 c91 127 4 ((recs GPlace.cells) xs88), .blk b144 127 [.int .i64 q142.From, .int .i64 q142.To, .int .i64 q142.Delay, .int .i64 q142.Tokens]] := hs.sel [0, 1, 2, 3, 4] (by decide)
      refine wpO_nil ⟨Or.inr (fun _ => hs0), ?_⟩
      refine mRun (i := 18) rfl (by kernel_rfl) ?_
      obtain ⟨xs177, ha178, hm139⟩ := bind_some hm139
      refine sAppendL (i := 3) (xs := xs88) (ys := [(GPlace.mk q169 q171 q142.Delay q142.Tokens)]) (enc := (recs GPlace.cells)) hf hs rfl rfl rfl rfl rfl rfl hn92 rfl rfl ha178 el57 ti127 rfl rfl rfl (hs.rd (i := 5) rfl) (Nat.succ_pos _) (recs_length GPlace.len) (recs_append GPlace.cells) (recs_one GPlace.one) ?_; clear hf hs; intro a w A175 c176 hs hf
      have hs : St [] W w [.blk b1 59 [.int .i64 ab.Events, .slice ac ab.Places.length ad], .blk b2 59 [.int .i64 0, .slice none 0 0], .blk b5 59 [.int .i64 aj, .slice A89 n90 c91], .row A175 xs177.length c176 127 4 ((recs GPlace.cells) xs177), .blk b144 127 [.int .i64 q142.From, .int .i64 q142.To, .int .i64 q142.Delay, .int .i64 q142.Tokens], .row A173 1 1 127 4 ((recs GPlace.cells) ([(GPlace.mk q169 q171 q142.Delay q142.Tokens)]))] := hs
      refine wpO_nil ⟨Or.inl (by decide), ?_⟩
      refine mYp (i := 19) rfl (by kernel_rfl) (by kernel_rfl) hf rfl rfl rfl (fun _ => Y_fieldAddr rfl rfl fo59_1) ?_; clear hf; intro a hf
      refine mRun (i := 20) rfl (by kernel_rfl) ?_
      refine sStore (i := 2) (us := [.slice A175 xs177.length c176]) hf hs rfl rfl rfl rfl rfl rfl ti57 rfl rfl rfl (Nat.le_of_ble_eq_true rfl) rfl ?_; clear hs; intro w hs
      have hs : St [] W w [.blk b1 59 [.int .i64 ab.Events, .slice ac ab.Places.length ad], .blk b2 59 [.int .i64 0, .slice none 0 0], .blk b5 59 [.int .i64 aj, .slice A175 xs177.length c176], .row A175 xs177.length c176 127 4 ((recs GPlace.cells) xs177), .blk b144 127 [.int .i64 q142.From, .int .i64 q142.To, .int .i64 q142.Delay, .int .i64 q142.Tokens], .row A173 1 1 127 4 ((recs GPlace.cells) ([(GPlace.mk q169 q171 q142.Delay q142.Tokens)]))] := hs
      refine wpO_nil ⟨Or.inl (by decide), ?_⟩
      refine mDone (by kernel_rfl) ?_
      clear hs0
      refine wpL_nil (Qb_normal ?_)
      refine wpL_region ?_
      refine sY hf hs rfl rfl rfl (Y_move rfl rfl) ?_; clear hf; intro a hf
      refine sY hf hs rfl rfl rfl (Y_add rfl rfl rfl) ?_; clear hf; intro a hf
      refine sY hf hs rfl rfl rfl (Y_assign rfl rfl) ?_; clear hf; intro a hf
      refine wpO_nil ?_
      refine wpL_nil (Ql_normal ?_)
      exact ⟨xs177, (IntKind.i64.wrap (x93 + 1)), A175, xs177.length, c176, hm139, rfl, (FrD.pick (FrD.pick (FrD.pick (FrD.pick (FrD.pick hf.none hf rfl) hf rfl) hf rfl) hf rfl) hf rfl), hs.sel [0, 1, 2, 3] (by decide)⟩
     ·have hm139 := bif_f hm139 hb158
      refine wpL_skip ?_
      refine wpL_nil (Qb_normal ?_)
      refine wpL_region ?_
      refine sY hf hs rfl rfl rfl (Y_move rfl rfl) ?_; clear hf; intro a hf
      refine sY hf hs rfl rfl rfl (Y_add rfl rfl rfl) ?_; clear hf; intro a hf
      refine sY hf hs rfl rfl rfl (Y_assign rfl rfl) ?_; clear hf; intro a hf
      refine wpO_nil ?_
      refine wpL_nil (Ql_normal ?_)
      exact ⟨xs88, (IntKind.i64.wrap (x93 + 1)), A89, n90, c91, hm139, hn92, (FrD.pick (FrD.pick (FrD.pick (FrD.pick (FrD.pick hf.none hf rfl) hf rfl) hf rfl) hf rfl) hf rfl), hs.sel [0, 1, 2, 3] (by decide)⟩
   ·have hm139 := bif_f hm139 hb141
    refine wpL_exit (Ql_exit (Qb_exit ?_))
    exact ⟨xs88, A89, n90, c91, Option.some.inj hm139, hn92, (FrD.pick (FrD.pick hf.none hf rfl) hf rfl), hs.sel [1, 2, 3] (by decide)⟩
 ·rintro a w ⟨xs132, A133, n134, c135, hr_, hn136, hf, hs⟩
  subst hr_
  try dsimp only at hm
  refine wpL_seq <| wpL_region ?_
  refine sY hf hs rfl rfl rfl (Y_load_blkS rfl rfl (i := 1) rfl ag59 ti59 rfl) ?_; clear hf; intro a hf
  refine sStore (i := 0) (us := [.int .i64 aj, .slice A133 n134 c135]) hf hs rfl rfl rfl rfl rfl rfl ti59 rfl rfl rfl (Nat.le_of_ble_eq_true rfl) rfl ?_; clear hs; intro w hs
  have hs : St [] W w [.blk b2 59 [.int .i64 aj, .slice A133 n134 c135], .blk b5 59 [.int .i64 aj, .slice A133 n134 c135], .row A133 n134 c135 127 4 ((recs GPlace.cells) xs132)] := hs
  refine wpO_nil ?_
  obtain rfl := Option.some.inj hm
  refine wpL_ret (ret_cell rfl hf rfl hs (i := 0) rfl ag59 ti59 rfl ?_)
  exact ⟨_, rfl, A133, n134, c135, rfl, hn136, hs.sel [2] (by decide)⟩

set_option maxRecDepth 100000 in
theorem spec_RelabelGraph_ok (F : Nat) (ab : GEventGraph) (ac : Option Addr) (ap ad : Nat) (ax : ap = ab.Places.length) (aD : List Int) (aI : Option Addr) (bl aJ : Nat) (bV : bl = aD.length) (r : GEventGraph × Int) (W : World) (hm : spec_RelabelGraph F ab aD = some r) (aq : Rd W ac ((recs GPlace.cells) ab.Places)) (bg : Rd W aI (ints aD)) (hcap_h_p1_p_1 : bl ≤ aJ) :
  Calls Try.prog 66 [.agg #[.int .i64 ab.Events, .slice ac ap ad], .slice aI bl aJ].toArray W fun e w' => ∃ v, e = .returned v ∧ ∃ A17, ∃ n18, ∃ c19, v = .tuple #[.agg #[.int .i64 r.1.Events, .slice A17 n18 c19], .int .i64 r.2] ∧ n18 = r.1.Places.length ∧ St [] W w' [.row A17 n18 c19 127 4 ((recs GPlace.cells) r.1.Places)] := by
 subst ax
 subst bV
 unfold spec_RelabelGraph at hm
 refine Calls.enter (N := 23) Try.func66 rfl rfl rfl (fun a hf => ?_)
 have hs := St.start W
 obtain ⟨w, hw_⟩ : ∃ w, w = W := ⟨W, rfl⟩
 clear hw_ w
 refine wpL_seq <| wpL_region ?_
 refine sBox hf hs rfl rfl rfl rfl rfl (cs := [.int .i64 ab.Events, .slice ac ab.Places.length ad]) rfl ?_; clear hf hs; intro a w b1 hs hf
 have hs : St [] W w [.blk b1 59 [.int .i64 ab.Events, .slice ac ab.Places.length ad]] := hs
 refine sAlloc hf hs rfl rfl rfl rfl ti59 ?_; clear hf hs; intro a w b2 hs hf
 have hs : St [] W w [.blk b1 59 [.int .i64 ab.Events, .slice ac ab.Places.length ad], .blk b2 59 [.int .i64 0, .slice none 0 0]] := hs
 refine sY hf hs rfl rfl rfl (Y_assign rfl rfl) ?_; clear hf; intro a hf
 refine wpO_nil <| wpL_seq <| wpL_block0 <| wpL_seq <| wpL_region ?_
 refine sY hf hs rfl rfl rfl (Y_load_blkS rfl rfl (i := 0) rfl ag59 ti59 rfl) ?_; clear hf; intro a hf
 obtain ⟨r3, hc4, hm⟩ := bind_some hm
 refine sCall hf rfl rfl rfl rfl (cap := []) rfl rfl en128 (spec_IsEventGraph_ok F ab ac ab.Places.length ad rfl _ _ hc4 (aq.at hs)) ?_; clear hf
 rintro _ w ⟨rfl, hs1⟩ a hf
 have hs : St [] W w [.blk b1 59 [.int .i64 ab.Events, .slice ac ab.Places.length ad], .blk b2 59 [.int .i64 0, .slice none 0 0]] := hs.ext hs1.below
 clear hs1
 refine sY hf hs rfl rfl rfl (Y_not rfl rfl) ?_; clear hf; intro a hf
 refine sY hf hs rfl rfl rfl (Y_assign rfl rfl) ?_; clear hf; intro a hf
 refine wpO_nil ?_
 refine wpL_cond hf rfl (fun hb5 => ?_) (fun hb5 => ?_)
 ·have hm := bif_t hm hb5
  refine wpL_seq <| wpL_region ?_
  refine sY hf hs rfl rfl rfl (Y_build (parts := []) (vs := []) rfl rfl (run_build (parts := []) (cells := [.int .i64 0, .slice none 0 0]) (places := #[(0, 1), (1, 1)]) ti59 Try.underlying59 (fun w => by simp [go_sem]) rfl)) ?_; clear hf; intro a hf
  refine sStore (i := 1) (us := [.int .i64 0, .slice none 0 0]) hf hs rfl rfl rfl rfl rfl rfl ti59 rfl rfl rfl (Nat.le_of_ble_eq_true rfl) rfl ?_; clear hs; intro w hs
  have hs : St [] W w [.blk b1 59 [.int .i64 ab.Events, .slice ac ab.Places.length ad], .blk b2 59 [.int .i64 0, .slice none 0 0]] := hs
  refine sY hf hs rfl rfl rfl (Y_assign rfl rfl) ?_; clear hf; intro a hf
  refine wpO_nil ?_
  have hs : St [] W _ [.blk b1 59 [.int .i64 ab.Events, .slice ac ab.Places.length ad], .blk b2 59 [.int .i64 0, .slice none 0 0], .row none 0 0 127 4 ((recs GPlace.cells) ([] : List GPlace))] := hs.addNil 127 4
  obtain rfl := Option.some.inj hm
  refine wpL_ret (Qb_ret (ret_cell_tmp rfl hf rfl rfl hs (i := 1) rfl ag59 ti59 rfl ?_))
  exact ⟨_, rfl, none, 0, 0, rfl, rfl, hs.sel [2] (by decide)⟩
 ·have hm := bif_f hm hb5
  refine wpL_seq <| wpL_region ?_
  refine sY hf hs rfl rfl rfl (Y_move rfl rfl) ?_; clear hf; intro a hf
  refine sY hf hs rfl rfl rfl (Y_fieldAddr rfl rfl fo59_0) ?_; clear hf; intro a hf
  refine sY hf hs rfl rfl rfl (Y_load_blk rfl rfl (i := 0) rfl rfl ag2) ?_; clear hf; intro a hf
  obtain ⟨r7, hc8, hm⟩ := bind_some hm
  refine sCall hf rfl rfl rfl rfl (cap := []) rfl rfl en153 (spec_l19Permutes_ok F aD aI aD.length aJ rfl ab.Events _ _ hc8 (bg.at hs) hcap_h_p1_p_1) ?_; clear hf
  rintro _ w ⟨rfl, hs1⟩ a hf
  have hs : St [] W w [.blk b1 59 [.int .i64 ab.Events, .slice ac ab.Places.length ad], .blk b2 59 [.int .i64 0, .slice none 0 0]] := hs.ext hs1.below
  clear hs1
  refine sY hf hs rfl rfl rfl (Y_not rfl rfl) ?_; clear hf; intro a hf
  refine sY hf hs rfl rfl rfl (Y_assign rfl rfl) ?_; clear hf; intro a hf
  refine wpO_nil ?_
  refine wpL_cond hf rfl (fun hb9 => ?_) (fun hb9 => ?_)
  ·have hm := bif_t hm hb9
   refine wpL_seq <| wpL_region ?_
   refine sY hf hs rfl rfl rfl (Y_build (parts := []) (vs := []) rfl rfl (run_build (parts := []) (cells := [.int .i64 0, .slice none 0 0]) (places := #[(0, 1), (1, 1)]) ti59 Try.underlying59 (fun w => by simp [go_sem]) rfl)) ?_; clear hf; intro a hf
   refine sStore (i := 1) (us := [.int .i64 0, .slice none 0 0]) hf hs rfl rfl rfl rfl rfl rfl ti59 rfl rfl rfl (Nat.le_of_ble_eq_true rfl) rfl ?_; clear hs; intro w hs
   have hs : St [] W w [.blk b1 59 [.int .i64 ab.Events, .slice ac ab.Places.length ad], .blk b2 59 [.int .i64 0, .slice none 0 0]] := hs
   refine sY hf hs rfl rfl rfl (Y_assign rfl rfl) ?_; clear hf; intro a hf
   refine wpO_nil ?_
   have hs : St [] W _ [.blk b1 59 [.int .i64 ab.Events, .slice ac ab.Places.length ad], .blk b2 59 [.int .i64 0, .slice none 0 0], .row none 0 0 127 4 ((recs GPlace.cells) ([] : List GPlace))] := hs.addNil 127 4
   obtain rfl := Option.some.inj hm
   refine wpL_ret (Qb_ret (ret_cell_tmp rfl hf rfl rfl hs (i := 1) rfl ag59 ti59 rfl ?_))
   exact ⟨_, rfl, none, 0, 0, rfl, rfl, hs.sel [2] (by decide)⟩
  ·have hm := bif_f hm hb9
   refine wpL_skip ?_
   refine wpL_nil (Qb_normal ?_)
   refine wpL_seq <| wpL_region ?_
   refine sY hf hs rfl rfl rfl (Y_load_blkS rfl rfl (i := 0) rfl ag59 ti59 rfl) ?_; clear hf; intro a hf
   refine sY hf hs rfl rfl rfl (Y_fieldAddr rfl rfl fo59_0) ?_; clear hf; intro a hf
   refine sY hf hs rfl rfl rfl (Y_load_blk rfl rfl (i := 0) rfl rfl ag2) ?_; clear hf; intro a hf
   refine sY hf hs rfl rfl rfl (Y_move rfl rfl) ?_; clear hf; intro a hf
   obtain ⟨r11, hc12, hm⟩ := bind_some hm
   refine sCall hf rfl rfl rfl rfl (cap := []) rfl rfl en137 (spec_l19Map_ok F ab ac ab.Places.length ad rfl ab.Events aD aI aD.length aJ rfl _ _ hc12 (aq.at hs) (bg.at hs)) ?_; clear hf
   rintro _ w ⟨A13, n14, c15, rfl, hn16, hs1⟩ a hf
   have hs : St [] W w [.blk b1 59 [.int .i64 ab.Events, .slice ac ab.Places.length ad], .blk b2 59 [.int .i64 0, .slice none 0 0], .row A13 n14 c15 127 4 ((recs GPlace.cells) r11.Places)] := hs.join hs1
   clear hs1
   refine sStore (i := 1) (us := [.int .i64 r11.Events, .slice A13 n14 c15]) hf hs rfl rfl rfl rfl rfl rfl ti59 rfl rfl rfl (Nat.le_of_ble_eq_true rfl) rfl ?_; clear hs; intro w hs
   have hs : St [] W w [.blk b1 59 [.int .i64 ab.Events, .slice ac ab.Places.length ad], .blk b2 59 [.int .i64 r11.Events, .slice A13 n14 c15], .row A13 n14 c15 127 4 ((recs GPlace.cells) r11.Places)] := hs
   refine sY hf hs rfl rfl rfl (Y_assign rfl rfl) ?_; clear hf; intro a hf
   refine wpO_nil ?_
   obtain rfl := Option.some.inj hm
   refine wpL_ret (ret_cell_tmp rfl hf rfl rfl hs (i := 1) rfl ag59 ti59 rfl ?_)
   exact ⟨_, rfl, A13, n14, c15, rfl, hn16, hs.sel [2] (by decide)⟩

set_option maxRecDepth 100000 in
theorem spec_DrawPartOfGraph_ok (F : Nat) (aa : List Int) (ag : Option Addr) (aL ah : Nat) (aP : aL = aa.length) (r : GEventGraph × List Int) (W : World) (hm : spec_DrawPartOfGraph F aa = some r) (aG : Rd W ag (bytes aa)) :
  Calls Try.prog 67 [.slice ag aL ah].toArray W fun e w' => ∃ v, e = .returned v ∧ ∃ A112, ∃ n113, ∃ c114, ∃ A116, ∃ n117, ∃ c118, v = .tuple #[.agg #[.int .i64 r.1.Events, .slice A112 n113 c114], .slice A116 n117 c118] ∧ n113 = r.1.Places.length ∧ n117 = r.2.length ∧ St [] W w' [.row A112 n113 c114 127 4 ((recs GPlace.cells) r.1.Places), .row A116 n117 c118 2 1 (ints r.2)] := by
 subst aP
 unfold spec_DrawPartOfGraph at hm
 refine Calls.enter (N := 39) Try.func67 rfl rfl rfl (fun a hf => ?_)
 have hs := St.start W
 obtain ⟨w, hw_⟩ : ∃ w, w = W := ⟨W, rfl⟩
 clear hw_ w
 refine wpL_seq <| wpL_region ?_
 refine sAlloc hf hs rfl rfl rfl rfl ti59 ?_; clear hf hs; intro a w b1 hs hf
 have hs : St [] W w [.blk b1 59 [.int .i64 0, .slice none 0 0]] := hs
 refine sY hf hs rfl rfl rfl (Y_assign rfl rfl) ?_; clear hf; intro a hf
 refine wpO_nil <| wpL_seq <| wpL_region ?_
 refine sY hf hs rfl rfl rfl (Y_move rfl rfl) ?_; clear hf; intro a hf
 obtain ⟨r2, hc3, hm⟩ := bind_some hm
 refine sCall hf rfl rfl rfl rfl (cap := []) rfl rfl en101 (spec_l01From_ok F aa ag aa.length ah rfl _ _ hc3 (aG.at hs)) ?_; clear hf
 rintro _ w ⟨b4, rfl, hs1⟩ a hf
 have hs : St [] W w [.blk b1 59 [.int .i64 0, .slice none 0 0], .blk b4 145 [.slice ag aa.length ah, .int .i64 r2.1, .int .i64 r2.2]] := hs.join hs1
 clear hs1
 refine sY hf hs rfl rfl rfl (Y_assign rfl rfl) ?_; clear hf; intro a hf
 refine wpO_nil <| wpL_seq <| wpL_region ?_
 refine sY hf hs rfl rfl rfl (Y_move rfl rfl) ?_; clear hf; intro a hf
 obtain ⟨r5, hc6, hm⟩ := bind_some hm
 refine sCall hf rfl rfl rfl rfl (cap := []) rfl rfl en125 (spec_l11Draw_ok F b4 aa ag aa.length ah rfl r2.1 r2.2 _ _ hc6 (aG.pass hs [1]) (hs.sel [1] (by decide)).rebase) ?_; clear hf
 rintro _ w ⟨A7, n8, c9, rfl, hn10, hs1⟩ a hf
 have hs : St [] W w [.blk b1 59 [.int .i64 0, .slice none 0 0], .row A7 n8 c9 127 4 ((recs GPlace.cells) r5.1.Places), .blk b4 145 [.slice ag aa.length ah, .int .i64 r5.2.1, .int .i64 r5.2.2]] := St.mutTail (La := [.blk b1 59 [.int .i64 0, .slice none 0 0]]) (Lb := [.blk b4 145 [.slice ag aa.length ah, .int .i64 r2.1, .int .i64 r2.2]]) (hs.sel [0, 1] (by decide)) hs1
 clear hs1
 refine sAlloc hf hs rfl rfl rfl rfl ti59 ?_; clear hf hs; intro a w b11 hs hf
 have hs : St [] W w [.blk b1 59 [.int .i64 0, .slice none 0 0], .row A7 n8 c9 127 4 ((recs GPlace.cells) r5.1.Places), .blk b4 145 [.slice ag aa.length ah, .int .i64 r5.2.1, .int .i64 r5.2.2], .blk b11 59 [.int .i64 0, .slice none 0 0]] := hs
 refine sStore (i := 3) (us := [.int .i64 r5.1.Events, .slice A7 n8 c9]) hf hs rfl rfl rfl rfl rfl rfl ti59 rfl rfl rfl (Nat.le_of_ble_eq_true rfl) rfl ?_; clear hs; intro w hs
 have hs : St [] W w [.blk b1 59 [.int .i64 0, .slice none 0 0], .row A7 n8 c9 127 4 ((recs GPlace.cells) r5.1.Places), .blk b4 145 [.slice ag aa.length ah, .int .i64 r5.2.1, .int .i64 r5.2.2], .blk b11 59 [.int .i64 r5.1.Events, .slice A7 n8 c9]] := hs
 refine wpO_nil <| wpL_seq <| wpL_region ?_
 refine sEmpty hf hs rfl rfl rfl rfl el23 ti2 ?_; clear hf hs; intro a w A12 hs hf
 have hs : St [] W w [.blk b1 59 [.int .i64 0, .slice none 0 0], .row A7 n8 c9 127 4 ((recs GPlace.cells) r5.1.Places), .blk b4 145 [.slice ag aa.length ah, .int .i64 r5.2.1, .int .i64 r5.2.2], .blk b11 59 [.int .i64 r5.1.Events, .slice A7 n8 c9], .row A12 0 0 2 1 (ints ([] : List Int))] := hs
 refine sY hf hs rfl rfl rfl (Y_assign rfl rfl) ?_; clear hf; intro a hf
 refine wpO_nil <| wpL_seq <| wpL_seq <| wpL_region ?_
 refine sY hf hs rfl rfl rfl (Y_assign rfl rfl) ?_; clear hf; intro a hf
 refine wpO_nil ?_
 obtain ⟨r67, hl68, hm⟩ := bind_some hm
 refine wpL_block (fun a w => ∃ x60 : Int, ∃ x61 : Int, ∃ xs62 : List Int, ∃ A63, ∃ n64, ∃ c65, (x60, x61, xs62) = r67 ∧ n64 = xs62.length ∧ Fr a 39 [(2, .pointer (some ⟨b1, 0, none⟩)), (4, .pointer (some ⟨b4, 0, none⟩)), (5, .pointer (some ⟨b11, 0, none⟩)), (6, .slice A63 n64 c65)] ∧ St [] W w [.blk b1 59 [.int .i64 0, .slice none 0 0], .blk b4 145 [.slice ag aa.length ah, .int .i64 x60, .int .i64 x61], .blk b11 59 [.int .i64 r5.1.Events, .slice A7 n8 c9], .row A7 n8 c9 127 4 ((recs GPlace.cells) r5.1.Places), .row A63 n64 c65 2 1 (ints xs62)]) ?_ ?_
 ·refine wpL_loop (fun n a w => ∃ x42 : Int, ∃ x43 : Int, ∃ xs44 : List Int, ∃ x49 : Int, ∃ A45, ∃ n46, ∃ c47, spec_DrawPartOfGraph_L1 F aa r5 n x42 x43 xs44 x49 = some r67 ∧ n46 = xs44.length ∧ Fr a 39 [(2, .pointer (some ⟨b1, 0, none⟩)), (4, .pointer (some ⟨b4, 0, none⟩)), (5, .pointer (some ⟨b11, 0, none⟩)), (6, .slice A45 n46 c47), (7, .int .i64 x49)] ∧ St [] W w [.blk b1 59 [.int .i64 0, .slice none 0 0], .blk b4 145 [.slice ag aa.length ah, .int .i64 x42, .int .i64 x43], .blk b11 59 [.int .i64 r5.1.Events, .slice A7 n8 c9], .row A7 n8 c9 127 4 ((recs GPlace.cells) r5.1.Places), .row A45 n46 c47 2 1 (ints xs44)]) F ?_ ?_ ?_
  ·exact ⟨r5.2.1, r5.2.2, ([] : List Int), 0, A12, 0, 0, hl68, rfl, (FrD.pick (FrD.pick (FrD.pick (FrD.pick (FrD.pick hf.none hf rfl) hf rfl) hf rfl) hf rfl) hf rfl), hs.sel [0, 2, 3, 1, 4] (by decide)⟩
  ·rintro a w ⟨x42, x43, xs44, x49, A45, n46, c47, h0_, -, -, -⟩; simp [spec_DrawPartOfGraph_L1] at h0_
  ·rintro n70 a w ⟨x42, x43, xs44, x49, A45, n46, c47, hm69, hn48, hf, hs⟩
   rw [spec_DrawPartOfGraph_L1] at hm69
   refine wpL_seq <| wpL_seq <| wpL_region ?_
   refine sY hf hs rfl rfl rfl (Y_move rfl rfl) ?_; clear hf; intro a hf
   refine sY hf hs rfl rfl rfl (Y_fieldAddr rfl rfl fo59_0) ?_; clear hf; intro a hf
   refine sY hf hs rfl rfl rfl (Y_load_blk rfl rfl (i := 2) rfl rfl ag2) ?_; clear hf; intro a hf
   refine sY hf hs rfl rfl rfl (Y_lss rfl rfl rfl) ?_; clear hf; intro a hf
   refine wpO_nil ?_
   refine wpL_cond hf rfl (fun hb71 => ?_) (fun hb71 => ?_)
   ·have hm69 := bif_t hm69 hb71
    refine wpL_skip <| wpL_seq <| wpL_block0 <| wpL_seq <| wpL_region ?_
    refine sY hf hs rfl rfl rfl (Y_move rfl rfl) ?_; clear hf; intro a hf
    obtain ⟨r72, hc73, hm69⟩ := bind_some hm69
    refine sCall hf rfl rfl rfl rfl (cap := []) rfl rfl en107 (spec_l01Next_ok F b4 aa ag aa.length ah rfl x42 x43 3 _ _ hc73 (aG.pass hs [1]) (hs.sel [1] (by decide)).rebase) ?_; clear hf
    rintro _ w ⟨rfl, hs1⟩ a hf
    have hs : St [] W w [.blk b1 59 [.int .i64 0, .slice none 0 0], .blk b11 59 [.int .i64 r5.1.Events, .slice A7 n8 c9], .row A7 n8 c9 127 4 ((recs GPlace.cells) r5.1.Places), .row A45 n46 c47 2 1 (ints xs44), .blk b4 145 [.slice ag aa.length ah, .int .i64 r72.2.1, .int .i64 r72.2.2]] := St.mutTail (La := [.blk b1 59 [.int .i64 0, .slice none 0 0], .blk b11 59 [.int .i64 r5.1.Events, .slice A7 n8 c9], .row A7 n8 c9 127 4 ((recs GPlace.cells) r5.1.Places), .row A45 n46 c47 2 1 (ints xs44)]) (Lb := [.blk b4 145 [.slice ag aa.length ah, .int .i64 x42, .int .i64 x43]]) (hs.sel [0, 2, 3, 4, 1] (by decide)) hs1
    clear hs1
    refine sY hf hs rfl rfl rfl (Y_gtr rfl rfl rfl) ?_; clear hf; intro a hf
    refine wpO_nil ?_
    refine wpL_cond hf rfl (fun hb74 => ?_) (fun hb74 => ?_)
    ·have hm69 := bif_t hm69 hb74
     refine wpL_region ?_
     refine sY hf hs rfl rfl rfl (Y_move rfl rfl) ?_; clear hf; intro a hf
     refine sY hf hs rfl rfl rfl (Y_move rfl rfl) ?_; clear hf; intro a hf
     refine sBuildSlice (parts := [(0, .tmp 23)]) (vs := [.int .i64 x49]) (cells := [.int .i64 x49]) hf hs rfl rfl rfl rfl rfl el23 ti2 rfl rfl rfl rfl ?_; clear hf hs; intro a w A75 hs hA76 hf
     have hs : St [] W w [.blk b1 59 [.int .i64 0, .slice none 0 0], .blk b11 59 [.int .i64 r5.1.Events, .slice A7 n8 c9], .row A7 n8 c9 127 4 ((recs GPlace.cells) r5.1.Places), .row A45 n46 c47 2 1 (ints xs44), .blk b4 145 [.slice ag aa.length ah, .int .i64 r72.2.1, .int .i64 r72.2.2], .row A75 1 1 2 1 (ints ([x49]))] := hs
     obtain ⟨xs79, ha80, hm69⟩ := bind_some hm69
     refine sAppendL (i := 3) (xs := xs44) (ys := [x49]) (enc := ints) hf hs rfl rfl rfl rfl rfl rfl hn48 rfl rfl ha80 el23 ti2 rfl rfl rfl (hs.rd (i := 5) rfl) (Nat.succ_pos _) ints_len1 ints_append ints_one ?_; clear hf hs; intro a w A77 c78 hs hf
     have hs : St [] W w [.blk b1 59 [.int .i64 0, .slice none 0 0], .blk b11 59 [.int .i64 r5.1.Events, .slice A7 n8 c9], .row A7 n8 c9 127 4 ((recs GPlace.cells) r5.1.Places), .row A77 xs79.length c78 2 1 (ints xs79), .blk b4 145 [.slice ag aa.length ah, .int .i64 r72.2.1, .int .i64 r72.2.2], .row A75 1 1 2 1 (ints ([x49]))] := hs
     refine sY hf hs rfl rfl rfl (Y_assign rfl rfl) ?_; clear hf; intro a hf
     refine wpO_nil ?_
     refine wpL_nil (Qb_normal ?_)
     refine wpL_region ?_
     refine sY hf hs rfl rfl rfl (Y_move rfl rfl) ?_; clear hf; intro a hf
     refine sY hf hs rfl rfl rfl (Y_add rfl rfl rfl) ?_; clear hf; intro a hf
     refine sY hf hs rfl rfl rfl (Y_assign rfl rfl) ?_; clear hf; intro a hf
     refine wpO_nil ?_
     refine wpL_nil (Ql_normal ?_)
     exact ⟨r72.2.1, r72.2.2, xs79, (IntKind.i64.wrap (x49 + 1)), A77, xs79.length, c78, hm69, rfl, (FrD.pick (FrD.pick (FrD.pick (FrD.pick (FrD.pick hf.none hf rfl) hf rfl) hf rfl) hf rfl) hf rfl), hs.sel [0, 4, 1, 2, 3] (by decide)⟩
    ·have hm69 := bif_f hm69 hb74
     refine wpL_skip ?_
     refine wpL_nil (Qb_normal ?_)
     refine wpL_region ?_
     refine sY hf hs rfl rfl rfl (Y_move rfl rfl) ?_; clear hf; intro a hf
     refine sY hf hs rfl rfl rfl (Y_add rfl rfl rfl) ?_; clear hf; intro a hf
     refine sY hf hs rfl rfl rfl (Y_assign rfl rfl) ?_; clear hf; intro a hf
     refine wpO_nil ?_
     refine wpL_nil (Ql_normal ?_)
     exact ⟨r72.2.1, r72.2.2, xs44, (IntKind.i64.wrap (x49 + 1)), A45, n46, c47, hm69, hn48, (FrD.pick (FrD.pick (FrD.pick (FrD.pick (FrD.pick hf.none hf rfl) hf rfl) hf rfl) hf rfl) hf rfl), hs.sel [0, 4, 1, 2, 3] (by decide)⟩
   ·have hm69 := bif_f hm69 hb71
    refine wpL_exit (Ql_exit (Qb_exit ?_))
    exact ⟨x42, x43, xs44, A45, n46, c47, Option.some.inj hm69, hn48, (FrD.pick (FrD.pick (FrD.pick (FrD.pick hf.none hf rfl) hf rfl) hf rfl) hf rfl), hs⟩
 ·rintro a w ⟨x60, x61, xs62, A63, n64, c65, hr_, hn66, hf, hs⟩
  subst hr_
  try dsimp only at hm
  refine wpL_seq <| wpL_seq <| wpL_region ?_
  refine sY hf hs rfl rfl rfl (Y_move rfl rfl) ?_; clear hf; intro a hf
  obtain ⟨r81, hc82, hm⟩ := bind_some hm
  refine sCall hf rfl rfl rfl rfl (cap := []) rfl rfl en107 (spec_l01Next_ok F b4 aa ag aa.length ah rfl x60 x61 16 _ _ hc82 (aG.pass hs [1]) (hs.sel [1] (by decide)).rebase) ?_; clear hf
  rintro _ w ⟨rfl, hs1⟩ a hf
  have hs : St [] W w [.blk b1 59 [.int .i64 0, .slice none 0 0], .blk b11 59 [.int .i64 r5.1.Events, .slice A7 n8 c9], .row A7 n8 c9 127 4 ((recs GPlace.cells) r5.1.Places), .row A63 n64 c65 2 1 (ints xs62), .blk b4 145 [.slice ag aa.length ah, .int .i64 r81.2.1, .int .i64 r81.2.2]] := St.mutTail (La := [.blk b1 59 [.int .i64 0, .slice none 0 0], .blk b11 59 [.int .i64 r5.1.Events, .slice A7 n8 c9], .row A7 n8 c9 127 4 ((recs GPlace.cells) r5.1.Places), .row A63 n64 c65 2 1 (ints xs62)]) (Lb := [.blk b4 145 [.slice ag aa.length ah, .int .i64 x60, .int .i64 x61]]) (hs.sel [0, 2, 3, 4, 1] (by decide)) hs1
  clear hs1
  refine sY hf hs rfl rfl rfl (Y_eql rfl rfl rfl) ?_; clear hf; intro a hf
  refine wpO_nil ?_
  obtain ⟨r99, hj100, hm⟩ := bind_some hm
  refine wpL_cut (fun a w => ∃ xs94 : List Int, ∃ A95, ∃ n96, ∃ c97, xs94 = r99 ∧ n96 = xs94.length ∧ Fr a 39 [(2, .pointer (some ⟨b1, 0, none⟩)), (5, .pointer (some ⟨b11, 0, none⟩)), (6, .slice A95 n96 c97)] ∧ St [] W w [.blk b1 59 [.int .i64 0, .slice none 0 0], .blk b11 59 [.int .i64 r5.1.Events, .slice A7 n8 c9], .row A7 n8 c9 127 4 ((recs GPlace.cells) r5.1.Places), .row A95 n96 c97 2 1 (ints xs94)]) ?_ ?_
  ·refine wpL_cond hf rfl (fun hb101 => ?_) (fun hb101 => ?_)
   ·have hj100 := bif_t hj100 hb101
    refine wpL_region ?_
    refine sY hf hs rfl rfl rfl (Y_move rfl rfl) ?_; clear hf; intro a hf
    refine sY hf hs rfl rfl rfl (Y_move rfl rfl) ?_; clear hf; intro a hf
    refine sY hf hs rfl rfl rfl (Y_fieldAddr rfl rfl fo59_0) ?_; clear hf; intro a hf
    refine sY hf hs rfl rfl rfl (Y_load_blk rfl rfl (i := 1) rfl rfl ag2) ?_; clear hf; intro a hf
    refine sBuildSlice (parts := [(0, .const (.int .i64 (-1))), (1, .const (.int .i64 0)), (2, .tmp 32)]) (vs := [.int .i64 (-1), .int .i64 0, .int .i64 r5.1.Events]) (cells := [.int .i64 (-1), .int .i64 0, .int .i64 r5.1.Events]) hf hs rfl rfl rfl rfl rfl el23 ti2 rfl rfl rfl rfl ?_; clear hf hs; intro a w A102 hs hA103 hf
    have hs : St [] W w [.blk b1 59 [.int .i64 0, .slice none 0 0], .blk b11 59 [.int .i64 r5.1.Events, .slice A7 n8 c9], .row A7 n8 c9 127 4 ((recs GPlace.cells) r5.1.Places), .row A63 n64 c65 2 1 (ints xs62), .blk b4 145 [.slice ag aa.length ah, .int .i64 r81.2.1, .int .i64 r81.2.2], .row A102 3 3 2 1 (ints ([(-1), 0, r5.1.Events]))] := hs
    obtain ⟨r104, hc105, hj100⟩ := bind_some hj100
    refine sCall hf rfl rfl rfl rfl (cap := []) rfl rfl en114 (spec_l01Pick_ok F b4 aa ag aa.length ah rfl r81.2.1 r81.2.2 ([(-1), 0, r5.1.Events]) A102 3 3 rfl _ _ hc105 (aG.pass hs [4]) (hs.keepR (i := 5) rfl [4] (by decide)) (hs.sel [4] (by decide)).rebase) ?_; clear hf
    rintro _ w ⟨rfl, hs1⟩ a hf
    have hs : St [] W w [.blk b1 59 [.int .i64 0, .slice none 0 0], .blk b11 59 [.int .i64 r5.1.Events, .slice A7 n8 c9], .row A7 n8 c9 127 4 ((recs GPlace.cells) r5.1.Places), .row A63 n64 c65 2 1 (ints xs62), .row A102 3 3 2 1 (ints ([(-1), 0, r5.1.Events])), .blk b4 145 [.slice ag aa.length ah, .int .i64 r104.2.1, .int .i64 r104.2.2]] := St.mutTail (La := [.blk b1 59 [.int .i64 0, .slice none 0 0], .blk b11 59 [.int .i64 r5.1.Events, .slice A7 n8 c9], .row A7 n8 c9 127 4 ((recs GPlace.cells) r5.1.Places), .row A63 n64 c65 2 1 (ints xs62), .row A102 3 3 2 1 (ints ([(-1), 0, r5.1.Events]))]) (Lb := [.blk b4 145 [.slice ag aa.length ah, .int .i64 r81.2.1, .int .i64 r81.2.2]]) (hs.sel [0, 1, 2, 3, 5, 4] (by decide)) hs1
    clear hs1
    refine sBuildSlice (parts := [(0, .tmp 34)]) (vs := [.int .i64 r104.1]) (cells := [.int .i64 r104.1]) hf hs rfl rfl rfl rfl rfl el23 ti2 rfl rfl rfl rfl ?_; clear hf hs; intro a w A106 hs hA107 hf
    have hs : St [] W w [.blk b1 59 [.int .i64 0, .slice none 0 0], .blk b11 59 [.int .i64 r5.1.Events, .slice A7 n8 c9], .row A7 n8 c9 127 4 ((recs GPlace.cells) r5.1.Places), .row A63 n64 c65 2 1 (ints xs62), .row A102 3 3 2 1 (ints ([(-1), 0, r5.1.Events])), .blk b4 145 [.slice ag aa.length ah, .int .i64 r104.2.1, .int .i64 r104.2.2], .row A106 1 1 2 1 (ints ([r104.1]))] := hs
    obtain ⟨xs110, ha111, hj100⟩ := bind_some hj100
    refine sAppendL (i := 3) (xs := xs62) (ys := [r104.1]) (enc := ints) hf hs rfl rfl rfl rfl rfl rfl hn66 rfl rfl ha111 el23 ti2 rfl rfl rfl (hs.rd (i := 6) rfl) (Nat.succ_pos _) ints_len1 ints_append ints_one ?_; clear hf hs; intro a w A108 c109 hs hf
    have hs : St [] W w [.blk b1 59 [.int .i64 0, .slice none 0 0], .blk b11 59 [.int .i64 r5.1.Events, .slice A7 n8 c9], .row A7 n8 c9 127 4 ((recs GPlace.cells) r5.1.Places), .row A108 xs110.length c109 2 1 (ints xs110), .row A102 3 3 2 1 (ints ([(-1), 0, r5.1.Events])), .blk b4 145 [.slice ag aa.length ah, .int .i64 r104.2.1, .int .i64 r104.2.2], .row A106 1 1 2 1 (ints ([r104.1]))] := hs
    refine sY hf hs rfl rfl rfl (Y_assign rfl rfl) ?_; clear hf; intro a hf
    refine wpO_nil ?_
    refine wpL_nil (then_normal ?_)
    exact ⟨xs110, A108, xs110.length, c109, Option.some.inj hj100, rfl, (FrD.pick (FrD.pick (FrD.pick hf.none hf rfl) hf rfl) hf rfl), hs.sel [0, 1, 2, 3] (by decide)⟩
   ·have hj100 := bif_f hj100 hb101
    refine wpL_skip ?_
    refine wpL_nil (then_normal ?_)
    exact ⟨xs62, A63, n64, c65, Option.some.inj hj100, hn66, (FrD.pick (FrD.pick (FrD.pick hf.none hf rfl) hf rfl) hf rfl), hs.sel [0, 1, 2, 3] (by decide)⟩
  ·rintro a w ⟨xs94, A95, n96, c97, hr_, hn98, hf, hs⟩
   subst hr_
   try dsimp only at hm
   refine wpL_seq <| wpL_region ?_
   refine sY hf hs rfl rfl rfl (Y_load_blkS rfl rfl (i := 1) rfl ag59 ti59 rfl) ?_; clear hf; intro a hf
   refine sY hf hs rfl rfl rfl (Y_move rfl rfl) ?_; clear hf; intro a hf
   refine sStore (i := 0) (us := [.int .i64 r5.1.Events, .slice A7 n8 c9]) hf hs rfl rfl rfl rfl rfl rfl ti59 rfl rfl rfl (Nat.le_of_ble_eq_true rfl) rfl ?_; clear hs; intro w hs
   have hs : St [] W w [.blk b1 59 [.int .i64 r5.1.Events, .slice A7 n8 c9], .blk b11 59 [.int .i64 r5.1.Events, .slice A7 n8 c9], .row A7 n8 c9 127 4 ((recs GPlace.cells) r5.1.Places), .row A95 n96 c97 2 1 (ints xs94)] := hs
   refine sY hf hs rfl rfl rfl (Y_assign rfl rfl) ?_; clear hf; intro a hf
   refine wpO_nil ?_
   obtain rfl := Option.some.inj hm
   refine wpL_ret (ret_cell_tmp rfl hf rfl rfl hs (i := 0) rfl ag59 ti59 rfl ?_)
   exact ⟨_, rfl, A7, n8, c9, A95, n96, c97, rfl, hn10, hn98, hs.sel [2, 3] (by decide)⟩

set_option maxRecDepth 100000 in
theorem impl_increasing_ok (F : Nat) (aM : List Int) (aO : Option Addr) (aT aW : Nat) (aZ : aT = aM.length) (r : Bool) (W : World) (hm : impl_increasing F aM = some r) (aR : Rd W aO (ints aM)) :
  Calls Try.prog 143 [.slice aO aT aW].toArray W fun e w' => ∃ v, e = .returned v ∧ v = .bool r ∧ St [] W w' [] := by
 subst aZ
 unfold impl_increasing at hm
 refine Calls.enter (N := 20) Try.func143 rfl rfl rfl (fun a hf => ?_)
 have hs := St.start W
 obtain ⟨w, hw_⟩ : ∃ w, w = W := ⟨W, rfl⟩
 clear hw_ w
 refine wpL_seq <| wpL_region ?_
 refine sY hf hs rfl rfl rfl (Y_assign rfl rfl) ?_; clear hf; intro a hf
 refine wpO_nil <| wpL_seq <| wpL_seq <| wpL_region ?_
 refine sY hf hs rfl rfl rfl (Y_assign rfl rfl) ?_; clear hf; intro a hf
 refine wpO_nil ?_
 obtain ⟨r21, hl22, hm⟩ := bind_some hm
 refine wpL_block (fun a w => Sum.inr () = r21 ∧ Fr a 20 [] ∧ St [] W w []) ?_ ?_
 ·refine wpL_loop (fun n a w => ∃ x14 : Int, impl_increasing_L1 F aM n x14 = some r21 ∧ Fr a 20 [(0, .slice aO aM.length aW), (3, .int .i64 x14)] ∧ St [] W w []) F ?_ ?_ ?_
  ·exact ⟨1, hl22, (FrD.pick (FrD.pick hf.none hf rfl) hf rfl), hs⟩
  ·rintro a w ⟨x14, h0_, -, -⟩; simp [impl_increasing_L1] at h0_
  ·rintro n24 a w ⟨x14, hm23, hf, hs⟩
   rw [impl_increasing_L1] at hm23
   refine wpL_seq <| wpL_seq <| wpL_region ?_
   refine sY hf hs rfl rfl rfl (Y_move rfl rfl) ?_; clear hf; intro a hf
   refine sY hf hs rfl rfl rfl (Y_move rfl rfl) ?_; clear hf; intro a hf
   refine sY hf hs rfl rfl rfl (Y_lenH rfl rfl el23 rfl) ?_; clear hf; intro a hf
   refine sY hf hs rfl rfl rfl (Y_lss rfl rfl rfl) ?_; clear hf; intro a hf
   refine wpO_nil ?_
   refine wpL_cond hf rfl (fun hb25 => ?_) (fun hb25 => ?_)
   ·have hm23 := bif_t hm23 hb25
    refine wpL_skip <| wpL_seq <| wpL_block0 <| wpL_seq ?_
    refine wpL_draw (by kernel_rfl) (by kernel_rfl) hs ?_
    refine qY hf rfl rfl rfl (Y_move rfl rfl) ?_; clear hf; intro a hf
    refine qY hf rfl rfl rfl (Y_move rfl rfl) ?_; clear hf; intro a hf
    refine qY hf rfl rfl rfl (Y_sub rfl rfl rfl) ?_; clear hf; intro a hf
    obtain ⟨q26, hi27, hm23⟩ := bind_some hm23
    obtain ⟨hi27a, hi27b, hi27q⟩ := idx_some hi27
    refine qY hf rfl rfl rfl (Y_index rfl rfl rfl el23 ti2 (Rd.isAt (aR.at hs) (at1 (ints_at hi27q))) hi27a hi27b) ?_; clear hf; intro a hf
    refine qY hf rfl rfl rfl (Y_load_rd rfl rfl (fun w hs => aR.at hs) (at1 (ints_at hi27q)) ag2) ?_; clear hf; intro a hf
    refine qY hf rfl rfl rfl (Y_move rfl rfl) ?_; clear hf; intro a hf
    refine qY hf rfl rfl rfl (Y_move rfl rfl) ?_; clear hf; intro a hf
    obtain ⟨q28, hi29, hm23⟩ := bind_some hm23
    obtain ⟨hi29a, hi29b, hi29q⟩ := idx_some hi29
    refine qY hf rfl rfl rfl (Y_index rfl rfl rfl el23 ti2 (Rd.isAt (aR.at hs) (at1 (ints_at hi29q))) hi29a hi29b) ?_; clear hf; intro a hf
    refine qY hf rfl rfl rfl (Y_load_rd rfl rfl (fun w hs => aR.at hs) (at1 (ints_at hi29q)) ag2) ?_; clear hf; intro a hf
    refine qY hf rfl rfl rfl (Y_geq rfl rfl rfl) ?_; clear hf; intro a hf
    refine qNil ?_; clear hs; intro w hs
    refine wpL_cond hf rfl (fun hb30 => ?_) (fun hb30 => ?_)
    ·have hm23 := bif_t hm23 hb30
     refine wpL_seq <| wpL_region ?_
     refine sY hf hs rfl rfl rfl (Y_assign rfl rfl) ?_; clear hf; intro a hf
     refine wpO_nil ?_
     obtain rfl := Option.some.inj hm23
     try dsimp only at hm
     obtain rfl := Option.some.inj hm
     refine wpL_ret (Qb_ret (Ql_ret (Qb_ret (ret_tmp rfl hf rfl ?_))))
     exact ⟨_, rfl, rfl, hs⟩
    ·have hm23 := bif_f hm23 hb30
     refine wpL_skip ?_
     refine wpL_nil (Qb_normal ?_)
     refine wpL_region ?_
     refine sY hf hs rfl rfl rfl (Y_move rfl rfl) ?_; clear hf; intro a hf
     refine sY hf hs rfl rfl rfl (Y_add rfl rfl rfl) ?_; clear hf; intro a hf
     refine sY hf hs rfl rfl rfl (Y_assign rfl rfl) ?_; clear hf; intro a hf
     refine wpO_nil ?_
     refine wpL_nil (Ql_normal ?_)
     exact ⟨(IntKind.i64.wrap (x14 + 1)), hm23, (FrD.pick (FrD.pick hf.none hf rfl) hf rfl), hs⟩
   ·have hm23 := bif_f hm23 hb25
    refine wpL_exit (Ql_exit (Qb_exit ?_))
    exact ⟨Option.some.inj hm23, hf.none, hs⟩
 ·rintro a w ⟨hr_, hf, hs⟩
  subst hr_
  try dsimp only at hm
  refine wpL_seq <| wpL_region ?_
  refine sY hf hs rfl rfl rfl (Y_assign rfl rfl) ?_; clear hf; intro a hf
  refine wpO_nil ?_
  obtain rfl := Option.some.inj hm
  refine wpL_ret (ret_tmp rfl hf rfl ?_)
  exact ⟨_, rfl, rfl, hs⟩

set_option maxRecDepth 100000 in
theorem impl_PartOfGraph_c1_ok (F : Nat) (bp : Int) (b_z0 : Nat) (z0 : List Int) (A_z0_1 : Option Addr) (n_z0_1 c_z0_1 : Nat) (hn_z0_1 : n_z0_1 = z0.length) (r : Int) (W : World) (hm : impl_PartOfGraph_c1 F bp z0 = some r) (h_z0_1 : Rd W A_z0_1 (ints z0)) (h_z0 : PB W b_z0 23 [.slice A_z0_1 n_z0_1 c_z0_1]) :
  Calls Try.prog 144 [.int .i64 bp, .pointer (some ⟨b_z0, 0, none⟩)].toArray W fun e w' => ∃ v, e = .returned v ∧ v = .int .i64 r ∧ St [] W w' [] := by
 subst hn_z0_1
 unfold impl_PartOfGraph_c1 at hm
 refine Calls.enter (N := 7) Try.func144 rfl rfl rfl (fun a hf => ?_)
 have hs := St.start W
 obtain ⟨w, hw_⟩ : ∃ w, w = W := ⟨W, rfl⟩
 clear hw_ w
 refine wpL_seq <| wpL_region ?_
 refine sY hf hs rfl rfl rfl (Y_assign rfl rfl) ?_; clear hf; intro a hf
 refine wpO_nil <| wpL_seq <| wpL_region ?_
 refine sY hf hs rfl rfl rfl (Y_load_pb rfl rfl h_z0 rfl ag23) ?_; clear hf; intro a hf
 refine sY hf hs rfl rfl rfl (Y_move rfl rfl) ?_; clear hf; intro a hf
 obtain ⟨r1, hc2, hm⟩ := bind_some hm
 refine sCall hf rfl rfl rfl rfl (cap := []) rfl rfl en145 (slices_Index_int64_ok F z0 A_z0_1 z0.length c_z0_1 rfl bp _ _ hc2 (h_z0_1.at hs)) ?_; clear hf
 rintro _ w ⟨rfl, hs1⟩ a hf
 have hs : St [] W w [] := hs.ext hs1.below
 clear hs1
 refine sY hf hs rfl rfl rfl (Y_assign rfl rfl) ?_; clear hf; intro a hf
 refine wpO_nil ?_
 obtain rfl := Option.some.inj hm
 refine wpL_ret (ret_tmp rfl hf rfl ?_)
 exact ⟨_, rfl, rfl, hs⟩

set_option maxRecDepth 100000 in
theorem slices_DeleteFunc_Place_ok (F : Nat) (aE : List GPlace) (au : Option Addr) (aK aA : Nat) (aV : aK = aE.length) (bR : GPlace → Option Bool) (bH : FuncId) (bI : List Value) (r : (List GPlace) × List GPlace) (W : World) (hm : slices_DeleteFunc_Place F aE bR = some r) (aS : (Res.row au aK aA 127 4 ((recs GPlace.cells) aE) : Res).holds 0 W) (cB : ∀ (x0 : GPlace) (r : Bool) (w : World), bR x0 = some r → BM (muA au) W w → Calls Try.prog bH (([.agg #[.int .i64 x0.From, .int .i64 x0.To, .int .i64 x0.Delay, .int .i64 x0.Tokens]] : List Value) ++ bI).toArray w fun e w' => ∃ v, e = .returned v ∧ v = .bool r ∧ St [] w w' []) (cC : En Try.prog bH) :
  Calls Try.prog 146 [.slice au aK aA, .func (.func bH) #[] bI.toArray].toArray W fun e w' => ∃ v, e = .returned v ∧ ∃ n67, v = .slice au n67 aA ∧ n67 = r.1.length ∧ cutTo r.2 (n67 : Int) = some r.1 ∧ aK = r.2.length ∧ St (muA au) W w' [.row au aK aA 127 4 ((recs GPlace.cells) r.2)] := by
 subst aV
 unfold slices_DeleteFunc_Place at hm
 refine Calls.enter (N := 42) Try.func146 rfl rfl rfl (fun a hf => ?_)
 have hs : St (muA au) W W [.row au aE.length aA 127 4 ((recs GPlace.cells) aE)] := St.startMut aS (fun b hb => mem_muA hb)
 obtain ⟨w, hw_⟩ : ∃ w, w = W := ⟨W, rfl⟩
 clear hw_ w
 refine wpL_seq <| wpL_region ?_
 refine sY hf hs rfl rfl rfl (Y_assign rfl rfl) ?_; clear hf; intro a hf
 refine wpO_nil <| wpL_seq <| wpL_region ?_
 refine sY hf hs rfl rfl rfl (Y_move rfl rfl) ?_; clear hf; intro a hf
 refine sY hf hs rfl rfl rfl (Y_move rfl rfl) ?_; clear hf; intro a hf
 obtain ⟨r1, hc2, hm⟩ := bind_some hm
 refine sCall hf rfl rfl rfl rfl (cap := []) rfl rfl en173 (slices_IndexFunc_Place_ok F aE au aE.length aA rfl bR bH bI _ _ hc2 (hs.rd (i := 0) rfl) (fun x0 r w' hm_ hb => cB x0 r w' hm_ (hs.bmThen hb)) cC) ?_; clear hf
 rintro _ w ⟨rfl, hs1⟩ a hf
 have hs : St (muA au) W w [.row au aE.length aA 127 4 ((recs GPlace.cells) aE)] := hs.ext hs1.below
 clear hs1
 refine sY hf hs rfl rfl rfl (Y_assign rfl rfl) ?_; clear hf; intro a hf
 refine wpO_nil <| wpL_seq <| wpL_seq <| wpL_region ?_
 refine sY hf hs rfl rfl rfl (Y_move rfl rfl) ?_; clear hf; intro a hf
 refine sY hf hs rfl rfl rfl (Y_eql rfl rfl rfl) ?_; clear hf; intro a hf
 refine wpO_nil ?_
 refine wpL_cond hf rfl (fun hb3 => ?_) (fun hb3 => ?_)
 ·have hm := bif_t hm hb3
  refine wpL_seq <| wpL_region ?_
  refine sY hf hs rfl rfl rfl (Y_move rfl rfl) ?_; clear hf; intro a hf
  refine sY hf hs rfl rfl rfl (Y_assign rfl rfl) ?_; clear hf; intro a hf
  refine wpO_nil ?_
  obtain rfl := Option.some.inj hm
  refine wpL_ret (ret_tmp rfl hf rfl ?_)
  exact ⟨_, rfl, aE.length, rfl, rfl, (cutTo_all rfl), rfl, hs⟩
 ·have hm := bif_f hm hb3
  refine wpL_skip <| wpL_seq <| wpL_seq <| wpL_region ?_
  refine sY hf hs rfl rfl rfl (Y_move rfl rfl) ?_; clear hf; intro a hf
  refine sY hf hs rfl rfl rfl (Y_add rfl rfl rfl) ?_; clear hf; intro a hf
  refine sY hf hs rfl rfl rfl (Y_assign rfl rfl) ?_; clear hf; intro a hf
  refine wpO_nil ?_
  obtain ⟨r48, hl49, hm⟩ := bind_some hm
  refine wpL_block (fun a w => ∃ xs45 : List GPlace, ∃ x47 : Int, (xs45, x47) = r48 ∧ aE.length = xs45.length ∧ Fr a 42 [(0, .slice au aE.length aA), (5, .int .i64 x47)] ∧ St (muA au) W w [.row au aE.length aA 127 4 ((recs GPlace.cells) xs45)]) ?_ ?_
  ·refine wpL_loop (fun n a w => ∃ xs30 : List GPlace, ∃ x32 : Int, ∃ x33 : Int, slices_DeleteFunc_Place_L1 F bR n xs30 x32 x33 = some r48 ∧ aE.length = xs30.length ∧ Fr a 42 [(0, .slice au aE.length aA), (1, .func (.func bH) #[] bI.toArray), (5, .int .i64 x32), (6, .int .i64 x33)] ∧ St (muA au) W w [.row au aE.length aA 127 4 ((recs GPlace.cells) xs30)]) F ?_ ?_ ?_
   ·exact ⟨aE, r1, (IntKind.i64.wrap (r1 + 1)), hl49, rfl, (FrD.pick (FrD.pick (FrD.pick (FrD.pick hf.none hf rfl) hf rfl) hf rfl) hf rfl), hs⟩
   ·rintro a w ⟨xs30, x32, x33, h0_, -, -, -⟩; simp [slices_DeleteFunc_Place_L1] at h0_
   ·rintro n51 a w ⟨xs30, x32, x33, hm50, hn31, hf, hs⟩
    rw [slices_DeleteFunc_Place_L1] at hm50
    refine wpL_seq <| wpL_seq <| wpL_region ?_
    refine sY hf hs rfl rfl rfl (Y_move rfl rfl) ?_; clear hf; intro a hf
    refine sY hf hs rfl rfl rfl (Y_move rfl rfl) ?_; clear hf; intro a hf
    refine sY hf hs rfl rfl rfl (Y_lenH rfl rfl el57 hn31) ?_; clear hf; intro a hf
    refine sY hf hs rfl rfl rfl (Y_lss rfl rfl rfl) ?_; clear hf; intro a hf
    refine wpO_nil ?_
    refine wpL_cond hf rfl (fun hb52 => ?_) (fun hb52 => ?_)
    ·have hm50 := bif_t hm50 hb52
     refine wpL_skip <| wpL_seq <| wpL_block0 <| wpL_seq <| wpL_region ?_
     refine sY hf hs rfl rfl rfl (Y_move rfl rfl) ?_; clear hf; intro a hf
     refine sY hf hs rfl rfl rfl (Y_move rfl rfl) ?_; clear hf; intro a hf
     obtain ⟨q53, hi54, hm50⟩ := bind_some hm50
     obtain ⟨hi54a, hi54b, hi54q⟩ := idx_some hi54
     refine sY hf hs rfl rfl rfl (Y_index rfl rfl rfl el57 ti127 (Rd.isAt (hs.rd (i := 0) rfl) (recs_at (s := 4) GPlace.len hi54q (j := 0) rfl)) hi54a (ltn hn31 hi54b)) ?_; clear hf; intro a hf
     refine sY hf hs rfl rfl rfl (Y_load_rdS rfl rfl (us := [.int .i64 q53.From, .int .i64 q53.To, .int .i64 q53.Delay, .int .i64 q53.Tokens]) (fun w hs => hs.rd (i := 0) rfl) (fun j u hj => recs_at (s := 4) GPlace.len hi54q hj) (Nat.succ_pos _) ag127 ti127 rfl) ?_; clear hf; intro a hf
     refine sAlloc hf hs rfl rfl rfl rfl ti127 ?_; clear hf hs; intro a w b55 hs hf
     have hs : St (muA au) W w [.row au aE.length aA 127 4 ((recs GPlace.cells) xs30), .blk b55 127 [.int .i64 0, .int .i64 0, .int .i64 0, .int .i64 0]] := hs
     refine sStore (i := 1) (us := [.int .i64 q53.From, .int .i64 q53.To, .int .i64 q53.Delay, .int .i64 q53.Tokens]) hf hs rfl rfl rfl rfl rfl rfl ti127 rfl rfl rfl (Nat.le_of_ble_eq_true rfl) rfl ?_; clear hs; intro w hs
     have hs : St (muA au) W w [.row au aE.length aA 127 4 ((recs GPlace.cells) xs30), .blk b55 127 [.int .i64 q53.From, .int .i64 q53.To, .int .i64 q53.Delay, .int .i64 q53.Tokens]] := hs
     refine wpO_nil <| wpL_seq <| wpL_region ?_
     refine sY hf hs rfl rfl rfl (Y_move rfl rfl) ?_; clear hf; intro a hf
     refine sY hf hs rfl rfl rfl (Y_load_blkS rfl rfl (i := 1) rfl ag127 ti127 rfl) ?_; clear hf; intro a hf
     obtain ⟨r56, hc57, hm50⟩ := bind_some hm50
     refine sCall hf rfl rfl rfl rfl (cap := bI) rfl rfl cC (cB q53 _ _ hc57 hs.bm) ?_; clear hf; rintro _ w ⟨rfl, hs1⟩ a hf; have hs := hs.ext hs1.below; clear hs1
     refine sY hf hs rfl rfl rfl (Y_not rfl rfl) ?_; clear hf; intro a hf
     refine wpO_nil ?_
     refine wpL_cond hf rfl (fun hb58 => ?_) (fun hb58 => ?_)
     ·have hm50 := bif_t hm50 hb58
      refine wpL_seq <| wpL_region ?_
      refine sY hf hs rfl rfl rfl (Y_move rfl rfl) ?_; clear hf; intro a hf
      refine sY hf hs rfl rfl rfl (Y_move rfl rfl) ?_; clear hf; intro a hf
      refine sY hf hs rfl rfl rfl (Y_load_blkS rfl rfl (i := 1) rfl ag127 ti127 rfl) ?_; clear hf; intro a hf
      obtain ⟨q59, hi60, hm50⟩ := bind_some hm50
      obtain ⟨hi60a, hi60b, hi60q⟩ := idx_some hi60
      refine sY hf hs rfl rfl rfl (Y_index rfl rfl rfl el57 ti127 (Rd.isAt (hs.rd (i := 0) rfl) (recs_at (s := 4) GPlace.len hi60q (j := 0) rfl)) hi60a (ltn hn31 hi60b)) ?_; clear hf; intro a hf
      obtain ⟨xs61, hu62, hm50⟩ := bind_some hm50
      refine sStoreL (i := 0) (us := [.int .i64 q53.From, .int .i64 q53.To, .int .i64 q53.Delay, .int .i64 q53.Tokens]) (enc := (recs GPlace.cells)) hf hs rfl rfl rfl rfl rfl rfl hn31 hu62 ti127 rfl rfl rfl rfl rfl (recs_length GPlace.len) (recs_set (s := 4) GPlace.len q53) ?_; clear hs; intro w hs
      have hs : St (muA au) W w [.row au aE.length aA 127 4 ((recs GPlace.cells) xs61), .blk b55 127 [.int .i64 q53.From, .int .i64 q53.To, .int .i64 q53.Delay, .int .i64 q53.Tokens]] := hs
      refine wpO_nil <| wpL_region ?_
      refine sY hf hs rfl rfl rfl (Y_move rfl rfl) ?_; clear hf; intro a hf
      refine sY hf hs rfl rfl rfl (Y_add rfl rfl rfl) ?_; clear hf; intro a hf
      refine sY hf hs rfl rfl rfl (Y_assign rfl rfl) ?_; clear hf; intro a hf
      refine wpO_nil ?_
      refine wpL_nil (Qb_normal ?_)
      refine wpL_region ?_
      refine sY hf hs rfl rfl rfl (Y_move rfl rfl) ?_; clear hf; intro a hf
      refine sY hf hs rfl rfl rfl (Y_add rfl rfl rfl) ?_; clear hf; intro a hf
      refine sY hf hs rfl rfl rfl (Y_assign rfl rfl) ?_; clear hf; intro a hf
      refine wpO_nil ?_
      refine wpL_nil (Ql_normal ?_)
      exact ⟨xs61, (IntKind.i64.wrap (x32 + 1)), (IntKind.i64.wrap (x33 + 1)), hm50, ((hn31).trans (upd_len hu62).symm), (FrD.pick (FrD.pick (FrD.pick (FrD.pick hf.none hf rfl) hf rfl) hf rfl) hf rfl), hs.sel [0] (by decide)⟩
     ·have hm50 := bif_f hm50 hb58
      refine wpL_skip ?_
      refine wpL_nil (Qb_normal ?_)
      refine wpL_region ?_
      refine sY hf hs rfl rfl rfl (Y_move rfl rfl) ?_; clear hf; intro a hf
      refine sY hf hs rfl rfl rfl (Y_add rfl rfl rfl) ?_; clear hf; intro a hf
      refine sY hf hs rfl rfl rfl (Y_assign rfl rfl) ?_; clear hf; intro a hf
      refine wpO_nil ?_
      refine wpL_nil (Ql_normal ?_)
      exact ⟨xs30, x32, (IntKind.i64.wrap (x33 + 1)), hm50, hn31, (FrD.pick (FrD.pick (FrD.pick (FrD.pick hf.none hf rfl) hf rfl) hf rfl) hf rfl), hs.sel [0] (by decide)⟩
    ·have hm50 := bif_f hm50 hb52
     refine wpL_exit (Ql_exit (Qb_exit ?_))
     exact ⟨xs30, x32, Option.some.inj hm50, hn31, (FrD.pick (FrD.pick hf.none hf rfl) hf rfl), hs⟩
  ·rintro a w ⟨xs45, x47, hr_, hn46, hf, hs⟩
   subst hr_
   try dsimp only at hm
   refine wpL_seq <| wpL_region ?_
   refine sY hf hs rfl rfl rfl (Y_move rfl rfl) ?_; clear hf; intro a hf
   refine sY hf hs rfl rfl rfl (Y_move rfl rfl) ?_; clear hf; intro a hf
   obtain ⟨xs64, hk63, hm⟩ := bind_some hm
   refine sY hf hs rfl rfl rfl (Y_sliceL rfl rfl rfl (cutFrom_some hk63).1 (leN hn46 (cutFrom_some hk63).2.1) el57 ti127) ?_; clear hf; intro a hf
   refine sClear (i := 0) (xs := xs45) (enc := (recs GPlace.cells)) (z0 := (GPlace.mk 0 0 0 0)) hf hs rfl rfl rfl rfl rfl hn46 hk63 el57 ti127 rfl (Nat.succ_pos _) (take_recs GPlace.len) (recs_append GPlace.cells) (recs_made (f := GPlace.cells) (z0 := (GPlace.mk 0 0 0 0)) rfl) ?_; clear hs; intro w hs
   have hs : St (muA au) W w [.row au aE.length aA 127 4 ((recs GPlace.cells) (clr xs45 x47 (GPlace.mk 0 0 0 0)))] := hs
   refine wpO_nil <| wpL_seq <| wpL_region ?_
   refine sY hf hs rfl rfl rfl (Y_move rfl rfl) ?_; clear hf; intro a hf
   refine sY hf hs rfl rfl rfl (Y_move rfl rfl) ?_; clear hf; intro a hf
   obtain ⟨xs66, hk65, hm⟩ := bind_some hm
   refine sY hf hs rfl rfl rfl (Y_sliceH rfl rfl rfl (cutTo_some hk65).1 (leC ((hn46).trans (clr_len xs45 x47 (GPlace.mk 0 0 0 0)).symm) (hs.capR (i := 0) rfl) hk65) el57 ti127) ?_; clear hf; intro a hf
   refine sY hf hs rfl rfl rfl (Y_assign rfl rfl) ?_; clear hf; intro a hf
   refine wpO_nil ?_
   obtain rfl := Option.some.inj hm
   refine wpL_ret (ret_tmp rfl hf rfl ?_)
   exact ⟨_, rfl, (x47 : Int).toNat, rfl, (pre_len hk65), (cutTo_nat hk65), ((hn46).trans (clr_len xs45 x47 (GPlace.mk 0 0 0 0)).symm), hs⟩

set_option maxRecDepth 100000 in
theorem impl_PartOfGraph_c2_ok (F : Nat) (ao : GPlace) (r : Bool) (W : World) (hm : impl_PartOfGraph_c2 F ao = some r) :
  Calls Try.prog 147 [.agg #[.int .i64 ao.From, .int .i64 ao.To, .int .i64 ao.Delay, .int .i64 ao.Tokens]].toArray W fun e w' => ∃ v, e = .returned v ∧ v = .bool r ∧ St [] W w' [] := by
 unfold impl_PartOfGraph_c2 at hm
 refine Calls.enter (N := 11) Try.func147 rfl rfl rfl (fun a hf => ?_)
 have hs := St.start W
 obtain ⟨w, hw_⟩ : ∃ w, w = W := ⟨W, rfl⟩
 clear hw_ w
 refine wpL_seq <| wpL_region ?_
 refine sBox hf hs rfl rfl rfl rfl rfl (cs := [.int .i64 ao.From, .int .i64 ao.To, .int .i64 ao.Delay, .int .i64 ao.Tokens]) rfl ?_; clear hf hs; intro a w b1 hs hf
 have hs : St [] W w [.blk b1 127 [.int .i64 ao.From, .int .i64 ao.To, .int .i64 ao.Delay, .int .i64 ao.Tokens]] := hs
 refine sY hf hs rfl rfl rfl (Y_assign rfl rfl) ?_; clear hf; intro a hf
 refine wpO_nil <| wpL_seq ?_
 obtain ⟨r4, hj5, hm⟩ := bind_some hm
 refine wpL_cut (fun a w => ∃ b3 : Bool, b3 = r4 ∧ Fr a 11 [(2, .bool b3)] ∧ St [] W w []) ?_ ?_
 ·refine wpL_region ?_
  refine sY hf hs rfl rfl rfl (Y_fieldAddr rfl rfl fo127_0) ?_; clear hf; intro a hf
  refine sY hf hs rfl rfl rfl (Y_load_blk rfl rfl (i := 0) rfl rfl ag2) ?_; clear hf; intro a hf
  refine sY hf hs rfl rfl rfl (Y_lss rfl rfl rfl) ?_; clear hf; intro a hf
  refine sY hf hs rfl rfl rfl (Y_move rfl rfl) ?_; clear hf; intro a hf
  refine bsplit (decide (ao.From < 0)) (fun hb6 => ?_) (fun hb6 => ?_)
  ·have hj5 := bif_t hj5 hb6
   refine sNo hf rfl rfl rfl (congrArg (fun b => some (Value.bool b)) hb6) rfl rfl rfl ?_; clear hf; intro a hf
   refine sNo hf rfl rfl rfl (congrArg (fun b => some (Value.bool b)) hb6) rfl rfl rfl ?_; clear hf; intro a hf
   refine sNo hf rfl rfl rfl (congrArg (fun b => some (Value.bool b)) hb6) rfl rfl rfl ?_; clear hf; intro a hf
   refine sY hf hs rfl rfl rfl (Y_pickT rfl (congrArg (fun b => some (Value.bool b)) hb6) rfl) ?_; clear hf; intro a hf
   refine sY hf hs rfl rfl rfl (Y_assign rfl rfl) ?_; clear hf; intro a hf
   refine wpO_nil ?_
   refine wpL_nil (then_normal ?_)
   exact ⟨true, Option.some.inj hj5, (FrD.pick hf.none hf rfl), hs.sel [] (by decide)⟩
  ·have hj5 := bif_f hj5 hb6
   refine sYg hf hs rfl rfl rfl (congrArg (fun b => some (Value.bool b)) hb6) rfl rfl rfl (Y_fieldAddr rfl rfl fo127_1) ?_; clear hf; intro a hf
   refine sYg hf hs rfl rfl rfl (congrArg (fun b => some (Value.bool b)) hb6) rfl rfl rfl (Y_load_blk rfl rfl (i := 0) rfl rfl ag2) ?_; clear hf; intro a hf
   refine sYg hf hs rfl rfl rfl (congrArg (fun b => some (Value.bool b)) hb6) rfl rfl rfl (Y_lss rfl rfl rfl) ?_; clear hf; intro a hf
   refine sY hf hs rfl rfl rfl (Y_pickF rfl (congrArg (fun b => some (Value.bool b)) hb6) rfl) ?_; clear hf; intro a hf
   refine sY hf hs rfl rfl rfl (Y_assign rfl rfl) ?_; clear hf; intro a hf
   refine wpO_nil ?_
   refine wpL_nil (then_normal ?_)
   exact ⟨(decide (ao.To < 0)), Option.some.inj hj5, (FrD.pick hf.none hf rfl), hs.sel [] (by decide)⟩
 ·rintro a w ⟨b3, hr_, hf, hs⟩
  subst hr_
  try dsimp only at hm
  obtain rfl := Option.some.inj hm
  refine wpL_ret (ret_tmp rfl hf rfl ?_)
  exact ⟨_, rfl, rfl, hs⟩

set_option maxRecDepth 100000 in
theorem impl_PartOfGraph_ok (F : Nat) (ab : GEventGraph) (ac : Option Addr) (ap ad : Nat) (ax : ap = ab.Places.length) (aj : List Int) (aB : Option Addr) (bS aC : Nat) (ct : bS = aj.length) (r : GEventGraph × Int) (W : World) (hm : impl_PartOfGraph F ab aj = some r) (aq : Rd W ac ((recs GPlace.cells) ab.Places)) (bC : Rd W aB (ints aj)) :
  Calls Try.prog 53 [.agg #[.int .i64 ab.Events, .slice ac ap ad], .slice aB bS aC].toArray W fun e w' => ∃ v, e = .returned v ∧ ∃ A38, ∃ n39, ∃ c40, v = .tuple #[.agg #[.int .i64 r.1.Events, .slice A38 n39 c40], .int .i64 r.2] ∧ n39 = r.1.Places.length ∧ St [] W w' [.row A38 n39 c40 127 4 ((recs GPlace.cells) r.1.Places)] := by
 subst ax
 subst ct
 unfold impl_PartOfGraph at hm
 refine Calls.enter (N := 38) Try.func53 rfl rfl rfl (fun a hf => ?_)
 have hs := St.start W
 obtain ⟨w, hw_⟩ : ∃ w, w = W := ⟨W, rfl⟩
 clear hw_ w
 refine wpL_seq <| wpL_region ?_
 refine sBox hf hs rfl rfl rfl rfl rfl (cs := [.int .i64 ab.Events, .slice ac ab.Places.length ad]) rfl ?_; clear hf hs; intro a w b1 hs hf
 have hs : St [] W w [.blk b1 59 [.int .i64 ab.Events, .slice ac ab.Places.length ad]] := hs
 refine sBox hf hs rfl rfl rfl rfl rfl (cs := [.slice aB aj.length aC]) rfl ?_; clear hf hs; intro a w b2 hs hf
 have hs : St [] W w [.blk b1 59 [.int .i64 ab.Events, .slice ac ab.Places.length ad], .blk b2 23 [.slice aB aj.length aC]] := hs
 refine sAlloc hf hs rfl rfl rfl rfl ti59 ?_; clear hf hs; intro a w b3 hs hf
 have hs : St [] W w [.blk b1 59 [.int .i64 ab.Events, .slice ac ab.Places.length ad], .blk b2 23 [.slice aB aj.length aC], .blk b3 59 [.int .i64 0, .slice none 0 0]] := hs
 refine sY hf hs rfl rfl rfl (Y_assign rfl rfl) ?_; clear hf; intro a hf
 refine wpO_nil <| wpL_seq <| wpL_seq <| wpL_region ?_
 refine sY hf hs rfl rfl rfl (Y_load_blkS rfl rfl (i := 0) rfl ag59 ti59 rfl) ?_; clear hf; intro a hf
 obtain ⟨r4, hc5, hm⟩ := bind_some hm
 refine sCall hf rfl rfl rfl rfl (cap := []) rfl rfl en51 (impl_IsEventGraph_ok F ab ac ab.Places.length ad rfl _ _ hc5 (aq.at hs)) ?_; clear hf
 rintro _ w ⟨rfl, hs1⟩ a hf
 have hs : St [] W w [.blk b1 59 [.int .i64 ab.Events, .slice ac ab.Places.length ad], .blk b2 23 [.slice aB aj.length aC], .blk b3 59 [.int .i64 0, .slice none 0 0]] := hs.ext hs1.below
 clear hs1
 refine sY hf hs rfl rfl rfl (Y_not rfl rfl) ?_; clear hf; intro a hf
 refine wpO_nil ?_
 refine wpL_cond hf rfl (fun hb6 => ?_) (fun hb6 => ?_)
 ·have hm := bif_t hm hb6
  refine wpL_seq <| wpL_region ?_
  refine sY hf hs rfl rfl rfl (Y_build (parts := []) (vs := []) rfl rfl (run_build (parts := []) (cells := [.int .i64 0, .slice none 0 0]) (places := #[(0, 1), (1, 1)]) ti59 Try.underlying59 (fun w => by simp [go_sem]) rfl)) ?_; clear hf; intro a hf
  refine sStore (i := 2) (us := [.int .i64 0, .slice none 0 0]) hf hs rfl rfl rfl rfl rfl rfl ti59 rfl rfl rfl (Nat.le_of_ble_eq_true rfl) rfl ?_; clear hs; intro w hs
  have hs : St [] W w [.blk b1 59 [.int .i64 ab.Events, .slice ac ab.Places.length ad], .blk b2 23 [.slice aB aj.length aC], .blk b3 59 [.int .i64 0, .slice none 0 0]] := hs
  refine sY hf hs rfl rfl rfl (Y_assign rfl rfl) ?_; clear hf; intro a hf
  refine wpO_nil ?_
  have hs : St [] W _ [.blk b1 59 [.int .i64 ab.Events, .slice ac ab.Places.length ad], .blk b2 23 [.slice aB aj.length aC], .blk b3 59 [.int .i64 0, .slice none 0 0], .row none 0 0 127 4 ((recs GPlace.cells) ([] : List GPlace))] := hs.addNil 127 4
  obtain rfl := Option.some.inj hm
  refine wpL_ret (ret_cell_tmp rfl hf rfl rfl hs (i := 2) rfl ag59 ti59 rfl ?_)
  exact ⟨_, rfl, none, 0, 0, rfl, rfl, hs.sel [3] (by decide)⟩
 ·have hm := bif_f hm hb6
  refine wpL_skip <| wpL_seq <| wpL_seq ?_
  obtain ⟨r15, hj16, hm⟩ := bind_some hm
  refine wpL_cut (fun a w => ∃ b14 : Bool, b14 = r15 ∧ Fr a 38 [(2, .pointer (some ⟨b1, 0, none⟩)), (3, .pointer (some ⟨b2, 0, none⟩)), (4, .pointer (some ⟨b3, 0, none⟩)), (26, .bool b14)] ∧ St [] W w [.blk b1 59 [.int .i64 ab.Events, .slice ac ab.Places.length ad], .blk b2 23 [.slice aB aj.length aC], .blk b3 59 [.int .i64 0, .slice none 0 0]]) ?_ ?_
  ·refine wpL_region ?_
   refine sY hf hs rfl rfl rfl (Y_load_blk rfl rfl (i := 1) rfl rfl ag23) ?_; clear hf; intro a hf
   refine sY hf hs rfl rfl rfl (Y_lenH rfl rfl el23 rfl) ?_; clear hf; intro a hf
   refine sY hf hs rfl rfl rfl (Y_eql rfl rfl rfl) ?_; clear hf; intro a hf
   refine sY hf hs rfl rfl rfl (Y_move rfl rfl) ?_; clear hf; intro a hf
   refine bsplit ((aj.length : Int) == 0) (fun hb17 => ?_) (fun hb17 => ?_)
   ·have hj16 := bif_t hj16 hb17
    refine sNo hf rfl rfl rfl (congrArg (fun b => some (Value.bool b)) hb17) rfl rfl rfl ?_; clear hf; intro a hf
    refine sNo hf rfl rfl rfl (congrArg (fun b => some (Value.bool b)) hb17) rfl rfl rfl ?_; clear hf; intro a hf
    refine sNo hf rfl rfl rfl (congrArg (fun b => some (Value.bool b)) hb17) rfl rfl rfl ?_; clear hf; intro a hf
    refine sNo hf rfl rfl rfl (congrArg (fun b => some (Value.bool b)) hb17) rfl rfl rfl ?_; clear hf; intro a hf
    refine sNo hf rfl rfl rfl (congrArg (fun b => some (Value.bool b)) hb17) rfl rfl rfl ?_; clear hf; intro a hf
    refine sNo hf rfl rfl rfl (congrArg (fun b => some (Value.bool b)) hb17) rfl rfl rfl ?_; clear hf; intro a hf
    refine sY hf hs rfl rfl rfl (Y_pickT rfl (congrArg (fun b => some (Value.bool b)) hb17) rfl) ?_; clear hf; intro a hf
    refine sY hf hs rfl rfl rfl (Y_move rfl rfl) ?_; clear hf; intro a hf
    refine sNo hf rfl rfl rfl rfl rfl rfl rfl ?_; clear hf; intro a hf
    refine sNo hf rfl rfl rfl rfl rfl rfl rfl ?_; clear hf; intro a hf
    refine sNo hf rfl rfl rfl rfl rfl rfl rfl ?_; clear hf; intro a hf
    refine sY hf hs rfl rfl rfl (Y_pickT rfl rfl rfl) ?_; clear hf; intro a hf
    refine wpO_nil ?_
    refine wpL_nil (then_normal ?_)
    exact ⟨true, Option.some.inj hj16, (FrD.pick (FrD.pick (FrD.pick (FrD.pick hf.none hf rfl) hf rfl) hf rfl) hf rfl), hs⟩
   ·have hj16 := bif_f hj16 hb17
    refine sYg hf hs rfl rfl rfl (congrArg (fun b => some (Value.bool b)) hb17) rfl rfl rfl (Y_load_blk rfl rfl (i := 1) rfl rfl ag23) ?_; clear hf; intro a hf
    refine sYg hf hs rfl rfl rfl (congrArg (fun b => some (Value.bool b)) hb17) rfl rfl rfl (Y_fieldAddr rfl rfl fo59_0) ?_; clear hf; intro a hf
    refine sYg hf hs rfl rfl rfl (congrArg (fun b => some (Value.bool b)) hb17) rfl rfl rfl (Y_load_blk rfl rfl (i := 0) rfl rfl ag2) ?_; clear hf; intro a hf
    refine sYg hf hs rfl rfl rfl (congrArg (fun b => some (Value.bool b)) hb17) rfl rfl rfl (Y_sub rfl rfl rfl) ?_; clear hf; intro a hf
    obtain ⟨r18, hc19, hj16⟩ := bind_some hj16
    refine sCallg hf rfl rfl rfl (congrArg (fun b => some (Value.bool b)) hb17) rfl rfl rfl rfl (cap := []) rfl rfl en121 (impl_allWithin_ok F aj aB aj.length aC rfl 0 (IntKind.i64.wrap (ab.Events - 1)) _ _ hc19 (bC.at hs)) ?_; clear hf
    rintro _ w ⟨rfl, hs1⟩ a hf
    have hs : St [] W w [.blk b1 59 [.int .i64 ab.Events, .slice ac ab.Places.length ad], .blk b2 23 [.slice aB aj.length aC], .blk b3 59 [.int .i64 0, .slice none 0 0]] := hs.ext hs1.below
    clear hs1
    refine sYg hf hs rfl rfl rfl (congrArg (fun b => some (Value.bool b)) hb17) rfl rfl rfl (Y_not rfl rfl) ?_; clear hf; intro a hf
    refine sY hf hs rfl rfl rfl (Y_pickF rfl (congrArg (fun b => some (Value.bool b)) hb17) rfl) ?_; clear hf; intro a hf
    refine sY hf hs rfl rfl rfl (Y_move rfl rfl) ?_; clear hf; intro a hf
    refine bsplit (!r18) (fun hb20 => ?_) (fun hb20 => ?_)
    ·have hj16 := bif_t hj16 hb20
     refine sNo hf rfl rfl rfl (congrArg (fun b => some (Value.bool b)) hb20) rfl rfl rfl ?_; clear hf; intro a hf
     refine sNo hf rfl rfl rfl (congrArg (fun b => some (Value.bool b)) hb20) rfl rfl rfl ?_; clear hf; intro a hf
     refine sNo hf rfl rfl rfl (congrArg (fun b => some (Value.bool b)) hb20) rfl rfl rfl ?_; clear hf; intro a hf
     refine sY hf hs rfl rfl rfl (Y_pickT rfl (congrArg (fun b => some (Value.bool b)) hb20) rfl) ?_; clear hf; intro a hf
     refine wpO_nil ?_
     refine wpL_nil (then_normal ?_)
     exact ⟨true, Option.some.inj hj16, (FrD.pick (FrD.pick (FrD.pick (FrD.pick hf.none hf rfl) hf rfl) hf rfl) hf rfl), hs⟩
    ·have hj16 := bif_f hj16 hb20
     refine sYg hf hs rfl rfl rfl (congrArg (fun b => some (Value.bool b)) hb20) rfl rfl rfl (Y_load_blk rfl rfl (i := 1) rfl rfl ag23) ?_; clear hf; intro a hf
     obtain ⟨r21, hc22, hj16⟩ := bind_some hj16
     refine sCallg hf rfl rfl rfl (congrArg (fun b => some (Value.bool b)) hb20) rfl rfl rfl rfl (cap := []) rfl rfl en143 (impl_increasing_ok F aj aB aj.length aC rfl _ _ hc22 (bC.at hs)) ?_; clear hf
     rintro _ w ⟨rfl, hs1⟩ a hf
     have hs : St [] W w [.blk b1 59 [.int .i64 ab.Events, .slice ac ab.Places.length ad], .blk b2 23 [.slice aB aj.length aC], .blk b3 59 [.int .i64 0, .slice none 0 0]] := hs.ext hs1.below
     clear hs1
     refine sYg hf hs rfl rfl rfl (congrArg (fun b => some (Value.bool b)) hb20) rfl rfl rfl (Y_not rfl rfl) ?_; clear hf; intro a hf
     refine sY hf hs rfl rfl rfl (Y_pickF rfl (congrArg (fun b => some (Value.bool b)) hb20) rfl) ?_; clear hf; intro a hf
     refine wpO_nil ?_
     refine wpL_nil (then_normal ?_)
     exact ⟨(!r21), Option.some.inj hj16, (FrD.pick (FrD.pick (FrD.pick (FrD.pick hf.none hf rfl) hf rfl) hf rfl) hf rfl), hs⟩
  ·rintro a w ⟨b14, hr_, hf, hs⟩
   subst hr_
   try dsimp only at hm
   refine wpL_cond hf rfl (fun hb23 => ?_) (fun hb23 => ?_)
   ·have hm := bif_t hm hb23
    refine wpL_seq <| wpL_region ?_
    refine sY hf hs rfl rfl rfl (Y_build (parts := []) (vs := []) rfl rfl (run_build (parts := []) (cells := [.int .i64 0, .slice none 0 0]) (places := #[(0, 1), (1, 1)]) ti59 Try.underlying59 (fun w => by simp [go_sem]) rfl)) ?_; clear hf; intro a hf
    refine sStore (i := 2) (us := [.int .i64 0, .slice none 0 0]) hf hs rfl rfl rfl rfl rfl rfl ti59 rfl rfl rfl (Nat.le_of_ble_eq_true rfl) rfl ?_; clear hs; intro w hs
    have hs : St [] W w [.blk b1 59 [.int .i64 ab.Events, .slice ac ab.Places.length ad], .blk b2 23 [.slice aB aj.length aC], .blk b3 59 [.int .i64 0, .slice none 0 0]] := hs
    refine sY hf hs rfl rfl rfl (Y_assign rfl rfl) ?_; clear hf; intro a hf
    refine wpO_nil ?_
    have hs : St [] W _ [.blk b1 59 [.int .i64 ab.Events, .slice ac ab.Places.length ad], .blk b2 23 [.slice aB aj.length aC], .blk b3 59 [.int .i64 0, .slice none 0 0], .row none 0 0 127 4 ((recs GPlace.cells) ([] : List GPlace))] := hs.addNil 127 4
    obtain rfl := Option.some.inj hm
    refine wpL_ret (ret_cell_tmp rfl hf rfl rfl hs (i := 2) rfl ag59 ti59 rfl ?_)
    exact ⟨_, rfl, none, 0, 0, rfl, rfl, hs.sel [3] (by decide)⟩
   ·have hm := bif_f hm hb23
    refine wpL_skip <| wpL_seq <| wpL_region ?_
    refine sY hf hs rfl rfl rfl (Y_load_blkS rfl rfl (i := 0) rfl ag59 ti59 rfl) ?_; clear hf; intro a hf
    refine sY hf hs rfl rfl rfl (Y_load_blk rfl rfl (i := 1) rfl rfl ag23) ?_; clear hf; intro a hf
    refine sY hf hs rfl rfl rfl (Y_lenH rfl rfl el23 rfl) ?_; clear hf; intro a hf
    refine sY hf hs rfl rfl rfl (Y_makeFunc (us := []) (vs := [.pointer (some ⟨b2, 0, none⟩)]) rfl rfl rfl) ?_; clear hf; intro a hf
    obtain ⟨r25, hc26, hm⟩ := bind_some hm
    refine sCall hf rfl rfl rfl rfl (cap := []) rfl rfl en135 (impl_mappedGraph_ok F ab ac ab.Places.length ad rfl (aj.length : Int) (fun x0 => impl_PartOfGraph_c1 F x0 aj) 144 ([.pointer (some ⟨b2, 0, none⟩)]) _ _ hc26 (aq.at hs) (fun x0 r w' hm_ hb => impl_PartOfGraph_c1_ok F x0 b2 aj aB aj.length aC rfl r w' hm_ ((bC.at hs).below hb (Nat.le_refl _)) ((hs.pb (i := 1) rfl).below hb (Nat.le_refl _))) en144) ?_; clear hf
    rintro _ w ⟨A27, n28, c29, rfl, hn30, hs1⟩ a hf
    have hs : St [] W w [.blk b1 59 [.int .i64 ab.Events, .slice ac ab.Places.length ad], .blk b2 23 [.slice aB aj.length aC], .blk b3 59 [.int .i64 0, .slice none 0 0], .row A27 n28 c29 127 4 ((recs GPlace.cells) r25.Places)] := hs.join hs1
    clear hs1
    refine sAlloc hf hs rfl rfl rfl rfl ti59 ?_; clear hf hs; intro a w b31 hs hf
    have hs : St [] W w [.blk b1 59 [.int .i64 ab.Events, .slice ac ab.Places.length ad], .blk b2 23 [.slice aB aj.length aC], .blk b3 59 [.int .i64 0, .slice none 0 0], .row A27 n28 c29 127 4 ((recs GPlace.cells) r25.Places), .blk b31 59 [.int .i64 0, .slice none 0 0]] := hs
    refine sStore (i := 4) (us := [.int .i64 r25.Events, .slice A27 n28 c29]) hf hs rfl rfl rfl rfl rfl rfl ti59 rfl rfl rfl (Nat.le_of_ble_eq_true rfl) rfl ?_; clear hs; intro w hs
    have hs : St [] W w [.blk b1 59 [.int .i64 ab.Events, .slice ac ab.Places.length ad], .blk b2 23 [.slice aB aj.length aC], .blk b3 59 [.int .i64 0, .slice none 0 0], .row A27 n28 c29 127 4 ((recs GPlace.cells) r25.Places), .blk b31 59 [.int .i64 r25.Events, .slice A27 n28 c29]] := hs
    refine wpO_nil <| wpL_seq <| wpL_region ?_
    refine sY hf hs rfl rfl rfl (Y_fieldAddr rfl rfl fo59_1) ?_; clear hf; intro a hf
    refine sY hf hs rfl rfl rfl (Y_load_blk rfl rfl (i := 4) rfl rfl ag57) ?_; clear hf; intro a hf
    obtain ⟨r32, hc33, hm⟩ := bind_some hm
    refine sCall hf rfl rfl rfl rfl (cap := []) rfl rfl en146 (slices_DeleteFunc_Place_ok F r25.Places A27 n28 c29 hn30 (fun x0 => impl_PartOfGraph_c2 F x0) 147 [] _ _ hc33 (hs.res _ _ (show _[3]? = some _ from rfl)) (fun x0 r w' hm_ hb => impl_PartOfGraph_c2_ok F x0 r w' hm_ ) en147) ?_; clear hf
    rintro _ w ⟨n34, rfl, hn35, hk36, hn37, hs1⟩ a hf
    have hs : St [] W w [.blk b1 59 [.int .i64 ab.Events, .slice ac ab.Places.length ad], .blk b2 23 [.slice aB aj.length aC], .blk b3 59 [.int .i64 0, .slice none 0 0], .row A27 n28 c29 127 4 ((recs GPlace.cells) r32.2), .blk b31 59 [.int .i64 r25.Events, .slice A27 n28 c29]] := hs.mut (i := 3) rfl (fun b hb => muA_mem hb) hs1
    clear hs1
    refine sY hf hs rfl rfl rfl (Y_fieldAddr rfl rfl fo59_1) ?_; clear hf; intro a hf
    have hs := (St.cutRecs GPlace.len hs (i := 3) rfl hn37 hk36)
    have hs : St [] W _ [.blk b1 59 [.int .i64 ab.Events, .slice ac ab.Places.length ad], .blk b2 23 [.slice aB aj.length aC], .blk b3 59 [.int .i64 0, .slice none 0 0], .row A27 n34 c29 127 4 ((recs GPlace.cells) r32.1), .blk b31 59 [.int .i64 r25.Events, .slice A27 n28 c29]] := hs
    refine sStore (i := 4) (us := [.slice A27 n34 c29]) hf hs rfl rfl rfl rfl rfl rfl ti57 rfl rfl rfl (Nat.le_of_ble_eq_true rfl) rfl ?_; clear hs; intro w hs
    have hs : St [] W w [.blk b1 59 [.int .i64 ab.Events, .slice ac ab.Places.length ad], .blk b2 23 [.slice aB aj.length aC], .blk b3 59 [.int .i64 0, .slice none 0 0], .row A27 n34 c29 127 4 ((recs GPlace.cells) r32.1), .blk b31 59 [.int .i64 r25.Events, .slice A27 n34 c29]] := hs
    refine wpO_nil <| wpL_seq <| wpL_region ?_
    refine sY hf hs rfl rfl rfl (Y_load_blkS rfl rfl (i := 4) rfl ag59 ti59 rfl) ?_; clear hf; intro a hf
    refine sStore (i := 2) (us := [.int .i64 r25.Events, .slice A27 n34 c29]) hf hs rfl rfl rfl rfl rfl rfl ti59 rfl rfl rfl (Nat.le_of_ble_eq_true rfl) rfl ?_; clear hs; intro w hs
    have hs : St [] W w [.blk b1 59 [.int .i64 ab.Events, .slice ac ab.Places.length ad], .blk b2 23 [.slice aB aj.length aC], .blk b3 59 [.int .i64 r25.Events, .slice A27 n34 c29], .row A27 n34 c29 127 4 ((recs GPlace.cells) r32.1), .blk b31 59 [.int .i64 r25.Events, .slice A27 n34 c29]] := hs
    refine sY hf hs rfl rfl rfl (Y_assign rfl rfl) ?_; clear hf; intro a hf
    refine wpO_nil ?_
    obtain rfl := Option.some.inj hm
    refine wpL_ret (ret_cell_tmp rfl hf rfl rfl hs (i := 2) rfl ag59 ti59 rfl ?_)
    exact ⟨_, rfl, A27, n34, c29, rfl, hn35, hs.sel [3] (by decide)⟩

set_option maxRecDepth 100000 in
theorem spec_l02Bottom_ok (F : Nat) (cu : Int) (aQ : Int) (r : List (List Int)) (W : World) (hm : spec_l02Bottom F cu aQ = some r) :
  Calls Try.prog 74 [.int .i64 cu, .int .i64 aQ].toArray W fun e w' => ∃ v, e = .returned v ∧ ∃ A268, ∃ n269, ∃ c270, ∃ vs272, v = .slice A268 n269 c270 ∧ n269 = r.length ∧ St [] W w' [.mat A268 n269 c270 23 2 vs272 r] := by
 unfold spec_l02Bottom at hm
 refine Calls.enter (N := 29) Try.func74 rfl rfl rfl (fun a hf => ?_)
 have hs := St.start W
 obtain ⟨w, hw_⟩ : ∃ w, w = W := ⟨W, rfl⟩
 clear hw_ w
 refine wpL_seq <| wpL_region ?_
 refine sY hf hs rfl rfl rfl (Y_assign rfl rfl) ?_; clear hf; intro a hf
 refine wpO_nil <| wpL_seq <| wpL_region ?_
 refine sEmptyM 2 hf hs rfl rfl rfl rfl el22 ti23 rfl ?_; clear hf hs; intro a w A1 hs hf
 have hs : St [] W w [.mat A1 0 0 23 2 [] []] := hs
 refine sY hf hs rfl rfl rfl (Y_assign rfl rfl) ?_; clear hf; intro a hf
 refine wpO_nil <| wpL_seq <| wpL_seq <| wpL_region ?_
 refine sY hf hs rfl rfl rfl (Y_assign rfl rfl) ?_; clear hf; intro a hf
 refine wpO_nil ?_
 obtain ⟨r204, hl205, hm⟩ := bind_some hm
 refine wpL_block (fun a w => ∃ ms198 : List (List Int), ∃ A199, ∃ n200, ∃ c201, ∃ vs203, ms198 = r204 ∧ n200 = ms198.length ∧ Fr a 29 [(5, .slice A199 n200 c201)] ∧ St [] W w [.mat A199 n200 c201 23 2 vs203 ms198]) ?_ ?_
 ·refine wpL_loop (fun n a w => ∃ ms131 : List (List Int), ∃ x137 : Int, ∃ A132, ∃ n133, ∃ c134, ∃ vs136, spec_l02Bottom_L4 F cu aQ n ms131 x137 = some r204 ∧ n133 = ms131.length ∧ Fr a 29 [(0, .int .i64 cu), (1, .int .i64 aQ), (5, .slice A132 n133 c134), (6, .int .i64 x137)] ∧ St [] W w [.mat A132 n133 c134 23 2 vs136 ms131]) F ?_ ?_ ?_
  ·exact ⟨[], 0, A1, 0, 0, [], hl205, rfl, (FrD.pick (FrD.pick (FrD.pick (FrD.pick hf.none hf rfl) hf rfl) hf rfl) hf rfl), hs⟩
  ·rintro a w ⟨ms131, x137, A132, n133, c134, vs136, h0_, -, -, -⟩; simp [spec_l02Bottom_L4] at h0_
  ·rintro n207 a w ⟨ms131, x137, A132, n133, c134, vs136, hm206, hn135, hf, hs⟩
   rw [spec_l02Bottom_L4] at hm206
   refine wpL_seq <| wpL_seq <| wpL_region ?_
   refine sY hf hs rfl rfl rfl (Y_move rfl rfl) ?_; clear hf; intro a hf
   refine sY hf hs rfl rfl rfl (Y_move rfl rfl) ?_; clear hf; intro a hf
   refine sY hf hs rfl rfl rfl (Y_lss rfl rfl rfl) ?_; clear hf; intro a hf
   refine wpO_nil ?_
   refine wpL_cond hf rfl (fun hb208 => ?_) (fun hb208 => ?_)
   ·have hm206 := bif_t hm206 hb208
    refine wpL_skip <| wpL_seq <| wpL_block0 <| wpL_seq <| wpL_region ?_
    refine sEmpty hf hs rfl rfl rfl rfl el23 ti2 ?_; clear hf hs; intro a w A209 hs hf
    have hs : St [] W w [.mat A132 n133 c134 23 2 vs136 ms131, .row A209 0 0 2 1 (ints ([] : List Int))] := hs
    refine sY hf hs rfl rfl rfl (Y_assign rfl rfl) ?_; clear hf; intro a hf
    refine wpO_nil <| wpL_seq <| wpL_seq <| wpL_region ?_
    refine sY hf hs rfl rfl rfl (Y_assign rfl rfl) ?_; clear hf; intro a hf
    refine wpO_nil ?_
    obtain ⟨r249, hl250, hm206⟩ := bind_some hm206
    refine wpL_block (fun a w => ∃ xs244 : List Int, ∃ A245, ∃ n246, ∃ c247, xs244 = r249 ∧ n246 = xs244.length ∧ Fr a 29 [(0, .int .i64 cu), (1, .int .i64 aQ), (5, .slice A132 n133 c134), (6, .int .i64 x137), (7, .slice A245 n246 c247)] ∧ St [] W w [.mat A132 n133 c134 23 2 vs136 ms131, .row A245 n246 c247 2 1 (ints xs244)]) ?_ ?_
    ·refine wpL_loop (fun n a w => ∃ xs231 : List Int, ∃ x236 : Int, ∃ A232, ∃ n233, ∃ c234, spec_l02Bottom_L5 F aQ n xs231 x236 = some r249 ∧ n233 = xs231.length ∧ Fr a 29 [(0, .int .i64 cu), (1, .int .i64 aQ), (5, .slice A132 n133 c134), (6, .int .i64 x137), (7, .slice A232 n233 c234), (8, .int .i64 x236)] ∧ St [] W w [.mat A132 n133 c134 23 2 vs136 ms131, .row A232 n233 c234 2 1 (ints xs231)]) F ?_ ?_ ?_
     ·exact ⟨([] : List Int), 0, A209, 0, 0, hl250, rfl, (FrD.pick (FrD.pick (FrD.pick (FrD.pick (FrD.pick (FrD.pick hf.none hf rfl) hf rfl) hf rfl) hf rfl) hf rfl) hf rfl), hs⟩
     ·rintro a w ⟨xs231, x236, A232, n233, c234, h0_, -, -, -⟩; simp [spec_l02Bottom_L5] at h0_
     ·rintro n252 a w ⟨xs231, x236, A232, n233, c234, hm251, hn235, hf, hs⟩
      rw [spec_l02Bottom_L5] at hm251
      refine wpL_seq <| wpL_seq <| wpL_region ?_
      refine sY hf hs rfl rfl rfl (Y_move rfl rfl) ?_; clear hf; intro a hf
      refine sY hf hs rfl rfl rfl (Y_move rfl rfl) ?_; clear hf; intro a hf
      refine sY hf hs rfl rfl rfl (Y_lss rfl rfl rfl) ?_; clear hf; intro a hf
      refine wpO_nil ?_
      refine wpL_cond hf rfl (fun hb253 => ?_) (fun hb253 => ?_)
      ·have hm251 := bif_t hm251 hb253
       refine wpL_skip <| wpL_seq <| wpL_block0 <| wpL_region ?_
       refine sY hf hs rfl rfl rfl (Y_move rfl rfl) ?_; clear hf; intro a hf
       refine sBuildSlice (parts := [(0, .const (.int .i64 (-1000000000000000)))]) (vs := [.int .i64 (-1000000000000000)]) (cells := [.int .i64 (-1000000000000000)]) hf hs rfl rfl rfl rfl rfl el23 ti2 rfl rfl rfl rfl ?_; clear hf hs; intro a w A254 hs hA255 hf
       have hs : St [] W w [.mat A132 n133 c134 23 2 vs136 ms131, .row A232 n233 c234 2 1 (ints xs231), .row A254 1 1 2 1 (ints ([(-1000000000000000)]))] := hs
       obtain ⟨xs258, ha259, hm251⟩ := bind_some hm251
       refine sAppendL (i := 1) (xs := xs231) (ys := [(-1000000000000000)]) (enc := ints) hf hs rfl rfl rfl rfl rfl rfl hn235 rfl rfl ha259 el23 ti2 rfl rfl rfl (hs.rd (i := 2) rfl) (Nat.succ_pos _) ints_len1 ints_append ints_one ?_; clear hf hs; intro a w A256 c257 hs hf
       have hs : St [] W w [.mat A132 n133 c134 23 2 vs136 ms131, .row A256 xs258.length c257 2 1 (ints xs258), .row A254 1 1 2 1 (ints ([(-1000000000000000)]))] := hs
       refine sY hf hs rfl rfl rfl (Y_assign rfl rfl) ?_; clear hf; intro a hf
       refine wpO_nil ?_
       refine wpL_nil (Qb_normal ?_)
       refine wpL_region ?_
       refine sY hf hs rfl rfl rfl (Y_move rfl rfl) ?_; clear hf; intro a hf
       refine sY hf hs rfl rfl rfl (Y_add rfl rfl rfl) ?_; clear hf; intro a hf
       refine sY hf hs rfl rfl rfl (Y_assign rfl rfl) ?_; clear hf; intro a hf
       refine wpO_nil ?_
       refine wpL_nil (Ql_normal ?_)
       exact ⟨xs258, (IntKind.i64.wrap (x236 + 1)), A256, xs258.length, c257, hm251, rfl, (FrD.pick (FrD.pick (FrD.pick (FrD.pick (FrD.pick (FrD.pick hf.none hf rfl) hf rfl) hf rfl) hf rfl) hf rfl) hf rfl), hs.sel [0, 1] (by decide)⟩
      ·have hm251 := bif_f hm251 hb253
       refine wpL_exit (Ql_exit (Qb_exit ?_))
       exact ⟨xs231, A232, n233, c234, Option.some.inj hm251, hn235, (FrD.pick (FrD.pick (FrD.pick (FrD.pick (FrD.pick hf.none hf rfl) hf rfl) hf rfl) hf rfl) hf rfl), hs⟩
    ·rintro a w ⟨xs244, A245, n246, c247, hr_, hn248, hf, hs⟩
     subst hr_
     try dsimp only at hm206
     refine wpL_region ?_
     refine sY hf hs rfl rfl rfl (Y_move rfl rfl) ?_; clear hf; intro a hf
     refine sY hf hs rfl rfl rfl (Y_move rfl rfl) ?_; clear hf; intro a hf
     refine sOneM (j := 1) hf hs rfl rfl rfl rfl rfl rfl hn248 el22 ti23 ?_; clear hf hs; intro a w A260 hs hf
     have hs : St [] W w [.mat A132 n133 c134 23 2 vs136 ms131, .mat A260 1 1 23 2 ([Value.slice A245 xs244.length c247]) ([xs244])] := hs
     obtain ⟨ms264, ha265, hm206⟩ := bind_some hm206
     refine sAppendM (i := 0) (j := 1) hf hs rfl rfl rfl rfl rfl rfl hn135 rfl (by decide) rfl rfl (by decide) ha265 el22 ti23 rfl ?_; clear hf hs; intro a w A262 c263 hs hf
     have hs : St [] W w [.mat A262 ms264.length c263 23 2 (vs136 ++ ([Value.slice A245 xs244.length c247])) ms264] := hs
     obtain ⟨hq266, hv267⟩ := hs.appended (i := 0) rfl ha265
     refine sY hf hs rfl rfl rfl (Y_assign rfl rfl) ?_; clear hf; intro a hf
     refine wpO_nil ?_
     refine wpL_nil (Qb_normal ?_)
     refine wpL_region ?_
     refine sY hf hs rfl rfl rfl (Y_move rfl rfl) ?_; clear hf; intro a hf
     refine sY hf hs rfl rfl rfl (Y_add rfl rfl rfl) ?_; clear hf; intro a hf
     refine sY hf hs rfl rfl rfl (Y_assign rfl rfl) ?_; clear hf; intro a hf
     refine wpO_nil ?_
     refine wpL_nil (Ql_normal ?_)
     exact ⟨ms264, (IntKind.i64.wrap (x137 + 1)), A262, ms264.length, c263, (vs136 ++ ([Value.slice A245 xs244.length c247])), hm206, rfl, (FrD.pick (FrD.pick (FrD.pick (FrD.pick hf.none hf rfl) hf rfl) hf rfl) hf rfl), hs⟩
   ·have hm206 := bif_f hm206 hb208
    refine wpL_exit (Ql_exit (Qb_exit ?_))
    exact ⟨ms131, A132, n133, c134, vs136, Option.some.inj hm206, hn135, (FrD.pick hf.none hf rfl), hs⟩
 ·rintro a w ⟨ms198, A199, n200, c201, vs203, hr_, hn202, hf, hs⟩
  subst hr_
  try dsimp only at hm
  refine wpL_seq <| wpL_region ?_
  refine sY hf hs rfl rfl rfl (Y_move rfl rfl) ?_; clear hf; intro a hf
  refine sY hf hs rfl rfl rfl (Y_assign rfl rfl) ?_; clear hf; intro a hf
  refine wpO_nil ?_
  obtain rfl := Option.some.inj hm
  refine wpL_ret (ret_tmp rfl hf rfl ?_)
  exact ⟨_, rfl, A199, n200, c201, vs203, rfl, hn202, hs⟩

set_option maxRecDepth 100000 in
theorem spec_PartOfGraph_ok (F : Nat) (p0 : GEventGraph) (av : Option Addr) (bi aw : Nat) (bt : bi = p0.Places.length) (p1 : List Int) (bW : Option Addr) (cM cn : Nat) (cP : cM = p1.length) (r : GEventGraph × Int) (W : World) (hm : spec_PartOfGraph F p0 p1 = some r) (aX : Rd W av ((recs GPlace.cells) p0.Places)) (bA : Rd W bW (ints p1)) :
  Calls Try.prog 68 [.agg #[.int .i64 p0.Events, .slice av bi aw], .slice bW cM cn].toArray W fun e w' => ∃ v, e = .returned v ∧ ∃ A179, ∃ n180, ∃ c181, v = .tuple #[.agg #[.int .i64 r.1.Events, .slice A179 n180 c181], .int .i64 r.2] ∧ n180 = r.1.Places.length ∧ St [] W w' [.row A179 n180 c181 127 4 ((recs GPlace.cells) r.1.Places)] := by
 subst bt
 subst cP
 unfold spec_PartOfGraph at hm
 refine Calls.enter (N := 65) Try.func68 rfl rfl rfl (fun a hf => ?_)
 have hs := St.start W
 obtain ⟨w, hw_⟩ : ∃ w, w = W := ⟨W, rfl⟩
 clear hw_ w
 refine wpL_seq <| wpL_region ?_
 refine sBox hf hs rfl rfl rfl rfl rfl (cs := [.int .i64 p0.Events, .slice av p0.Places.length aw]) rfl ?_; clear hf hs; intro a w b1 hs hf
 have hs : St [] W w [.blk b1 59 [.int .i64 p0.Events, .slice av p0.Places.length aw]] := hs
 refine sAlloc hf hs rfl rfl rfl rfl ti59 ?_; clear hf hs; intro a w b2 hs hf
 have hs : St [] W w [.blk b1 59 [.int .i64 p0.Events, .slice av p0.Places.length aw], .blk b2 59 [.int .i64 0, .slice none 0 0]] := hs
 refine sY hf hs rfl rfl rfl (Y_assign rfl rfl) ?_; clear hf; intro a hf
 refine wpO_nil <| wpL_seq <| wpL_seq <| wpL_region ?_
 refine sY hf hs rfl rfl rfl (Y_load_blkS rfl rfl (i := 0) rfl ag59 ti59 rfl) ?_; clear hf; intro a hf
 obtain ⟨r3, hc4, hm⟩ := bind_some hm
 refine sCall hf rfl rfl rfl rfl (cap := []) rfl rfl en128 (spec_IsEventGraph_ok F p0 av p0.Places.length aw rfl _ _ hc4 (aX.at hs)) ?_; clear hf
 rintro _ w ⟨rfl, hs1⟩ a hf
 have hs : St [] W w [.blk b1 59 [.int .i64 p0.Events, .slice av p0.Places.length aw], .blk b2 59 [.int .i64 0, .slice none 0 0]] := hs.ext hs1.below
 clear hs1
 refine sY hf hs rfl rfl rfl (Y_not rfl rfl) ?_; clear hf; intro a hf
 refine wpO_nil ?_
 refine wpL_cond hf rfl (fun hb5 => ?_) (fun hb5 => ?_)
 ·have hm := bif_t hm hb5
  refine wpL_seq <| wpL_region ?_
  refine sY hf hs rfl rfl rfl (Y_build (parts := []) (vs := []) rfl rfl (run_build (parts := []) (cells := [.int .i64 0, .slice none 0 0]) (places := #[(0, 1), (1, 1)]) ti59 Try.underlying59 (fun w => by simp [go_sem]) rfl)) ?_; clear hf; intro a hf
  refine sStore (i := 1) (us := [.int .i64 0, .slice none 0 0]) hf hs rfl rfl rfl rfl rfl rfl ti59 rfl rfl rfl (Nat.le_of_ble_eq_true rfl) rfl ?_; clear hs; intro w hs
  have hs : St [] W w [.blk b1 59 [.int .i64 p0.Events, .slice av p0.Places.length aw], .blk b2 59 [.int .i64 0, .slice none 0 0]] := hs
  refine sY hf hs rfl rfl rfl (Y_assign rfl rfl) ?_; clear hf; intro a hf
  refine wpO_nil ?_
  have hs : St [] W _ [.blk b1 59 [.int .i64 p0.Events, .slice av p0.Places.length aw], .blk b2 59 [.int .i64 0, .slice none 0 0], .row none 0 0 127 4 ((recs GPlace.cells) ([] : List GPlace))] := hs.addNil 127 4
  obtain rfl := Option.some.inj hm
  refine wpL_ret (ret_cell_tmp rfl hf rfl rfl hs (i := 1) rfl ag59 ti59 rfl ?_)
  exact ⟨_, rfl, none, 0, 0, rfl, rfl, hs.sel [2] (by decide)⟩
 ·have hm := bif_f hm hb5
  refine wpL_skip <| wpL_seq <| wpL_region ?_
  refine sY hf hs rfl rfl rfl (Y_fieldAddr rfl rfl fo59_0) ?_; clear hf; intro a hf
  refine sY hf hs rfl rfl rfl (Y_load_blk rfl rfl (i := 0) rfl rfl ag2) ?_; clear hf; intro a hf
  obtain ⟨r7, hc8, hm⟩ := bind_some hm
  refine sCall hf rfl rfl rfl rfl (cap := []) rfl rfl en74 (spec_l02Bottom_ok F 1 p0.Events _ _ hc8) ?_; clear hf
  rintro _ w ⟨A9, n10, c11, vs13, rfl, hn12, hs1⟩ a hf
  have hs : St [] W w [.blk b1 59 [.int .i64 p0.Events, .slice av p0.Places.length aw], .blk b2 59 [.int .i64 0, .slice none 0 0], .mat A9 n10 c11 23 2 vs13 r7] := hs.join hs1
  clear hs1
  obtain ⟨q14, hi15, hm⟩ := bind_some hm
  obtain ⟨hi15a, hi15b, hi15q⟩ := idx_some hi15
  obtain ⟨A16, c17, hv18⟩ := hs.matRow (i := 2) rfl hi15q
  refine sY hf hs rfl rfl rfl (Y_index rfl rfl rfl el22 ti23 (Rd.isAt (hs.rdV (i := 2) rfl) hv18) hi15a (ltn hn12 hi15b)) ?_; clear hf; intro a hf
  refine sY hf hs rfl rfl rfl (Y_load_rd rfl rfl (fun w hs => hs.rdV (i := 2) rfl) (at1 hv18) ag23) ?_; clear hf; intro a hf
  refine sY hf hs rfl rfl rfl (Y_assign rfl rfl) ?_; clear hf; intro a hf
  refine wpO_nil <| wpL_seq <| wpL_seq <| wpL_region ?_
  refine sY hf hs rfl rfl rfl (Y_assign rfl rfl) ?_; clear hf; intro a hf
  refine wpO_nil ?_
  obtain ⟨r135, hl136, hm⟩ := bind_some hm
  have hs := hs.takeRow (i := 2) rfl ⟨hi15q, hv18⟩
  have hs : St [] W _ [.blk b1 59 [.int .i64 p0.Events, .slice av p0.Places.length aw], .blk b2 59 [.int .i64 0, .slice none 0 0], .row A16 q14.length c17 2 1 (ints q14)] := hs
  refine wpL_block (fun a w => ∃ xs130 : List Int, ∃ A131, ∃ n132, ∃ c133, Sum.inr xs130 = r135 ∧ n132 = xs130.length ∧ Fr a 65 [(1, .slice bW p1.length cn), (2, .pointer (some ⟨b1, 0, none⟩)), (4, .pointer (some ⟨b2, 0, none⟩)), (6, .slice A131 n132 c133)] ∧ St [] W w [.blk b1 59 [.int .i64 p0.Events, .slice av p0.Places.length aw], .blk b2 59 [.int .i64 0, .slice none 0 0], .row A131 n132 c133 2 1 (ints xs130)]) ?_ ?_
  ·refine wpL_loop (fun n a w => ∃ xs93 : List Int, ∃ x98 : Int, ∃ A94, ∃ n95, ∃ c96, spec_PartOfGraph_L1 F p0 p1 n xs93 x98 = some r135 ∧ n95 = xs93.length ∧ Fr a 65 [(1, .slice bW p1.length cn), (2, .pointer (some ⟨b1, 0, none⟩)), (4, .pointer (some ⟨b2, 0, none⟩)), (6, .slice A94 n95 c96), (7, .int .i64 x98)] ∧ St [] W w [.blk b1 59 [.int .i64 p0.Events, .slice av p0.Places.length aw], .blk b2 59 [.int .i64 0, .slice none 0 0], .row A94 n95 c96 2 1 (ints xs93)]) F ?_ ?_ ?_
   ·exact ⟨q14, 0, A16, q14.length, c17, hl136, rfl, (FrD.pick (FrD.pick (FrD.pick (FrD.pick (FrD.pick hf.none hf rfl) hf rfl) hf rfl) hf rfl) hf rfl), hs⟩
   ·rintro a w ⟨xs93, x98, A94, n95, c96, h0_, -, -, -⟩; simp [spec_PartOfGraph_L1] at h0_
   ·rintro n138 a w ⟨xs93, x98, A94, n95, c96, hm137, hn97, hf, hs⟩
    rw [spec_PartOfGraph_L1] at hm137
    refine wpL_seq <| wpL_seq <| wpL_region ?_
    refine sY hf hs rfl rfl rfl (Y_move rfl rfl) ?_; clear hf; intro a hf
    refine sY hf hs rfl rfl rfl (Y_move rfl rfl) ?_; clear hf; intro a hf
    refine sY hf hs rfl rfl rfl (Y_lenH rfl rfl el23 rfl) ?_; clear hf; intro a hf
    refine sY hf hs rfl rfl rfl (Y_lss rfl rfl rfl) ?_; clear hf; intro a hf
    refine wpO_nil ?_
    refine wpL_cond hf rfl (fun hb139 => ?_) (fun hb139 => ?_)
    ·have hm137 := bif_t hm137 hb139
     refine wpL_skip <| wpL_seq <| wpL_block0 <| wpL_seq <| wpL_seq ?_
     obtain ⟨r151, hj152, hm137⟩ := bind_some hm137
     refine wpL_cut (fun a w => ∃ b150 : Bool, b150 = r151 ∧ Fr a 65 [(1, .slice bW p1.length cn), (2, .pointer (some ⟨b1, 0, none⟩)), (4, .pointer (some ⟨b2, 0, none⟩)), (6, .slice A94 n95 c96), (7, .int .i64 x98), (47, .bool b150)] ∧ St [] W w [.blk b1 59 [.int .i64 p0.Events, .slice av p0.Places.length aw], .blk b2 59 [.int .i64 0, .slice none 0 0], .row A94 n95 c96 2 1 (ints xs93)]) ?_ ?_
     ·refine wpL_draw (by kernel_rfl) (by kernel_rfl) hs ?_
      refine qY hf rfl rfl rfl (Y_move rfl rfl) ?_; clear hf; intro a hf
      refine qY hf rfl rfl rfl (Y_move rfl rfl) ?_; clear hf; intro a hf
      obtain ⟨q153, hi154, hj152⟩ := bind_some hj152
      obtain ⟨hi154a, hi154b, hi154q⟩ := idx_some hi154
      refine qY hf rfl rfl rfl (Y_index rfl rfl rfl el23 ti2 (Rd.isAt (bA.at hs) (at1 (ints_at hi154q))) hi154a hi154b) ?_; clear hf; intro a hf
      refine qY hf rfl rfl rfl (Y_load_rd rfl rfl (fun w hs => bA.at hs) (at1 (ints_at hi154q)) ag2) ?_; clear hf; intro a hf
      refine qY hf rfl rfl rfl (Y_fieldAddr rfl rfl fo59_0) ?_; clear hf; intro a hf
      refine qY hf rfl rfl rfl (Y_load_blk rfl rfl (i := 0) rfl rfl ag2) ?_; clear hf; intro a hf
      refine qY hf rfl rfl rfl (Y_sub rfl rfl rfl) ?_; clear hf; intro a hf
      obtain ⟨r155, hc156, hj152⟩ := bind_some hj152
      refine qCall hf rfl rfl rfl rfl (cap := []) rfl rfl en115 (v := .bool r155) (fun w hs => Calls.scal (spec_l01In_ok F q153 0 (IntKind.i64.wrap (p0.Events - 1)) _ _ hc156)) ?_; clear hf; intro a hf
      refine qY hf rfl rfl rfl (Y_not rfl rfl) ?_; clear hf; intro a hf
      refine qY hf rfl rfl rfl (Y_move rfl rfl) ?_; clear hf; intro a hf
      refine bsplit (!r155) (fun hb157 => ?_) (fun hb157 => ?_)
      ·have hj152 := bif_t hj152 hb157
       refine qNo hf rfl rfl rfl (congrArg (fun b => some (Value.bool b)) hb157) rfl rfl rfl ?_; clear hf; intro a hf
       refine qNo hf rfl rfl rfl (congrArg (fun b => some (Value.bool b)) hb157) rfl rfl rfl ?_; clear hf; intro a hf
       refine qNo hf rfl rfl rfl (congrArg (fun b => some (Value.bool b)) hb157) rfl rfl rfl ?_; clear hf; intro a hf
       refine qNoU hf rfl rfl rfl rfl rfl rfl rfl ?_; clear hf; intro a hf
       refine qNoU hf rfl rfl rfl rfl rfl rfl rfl ?_; clear hf; intro a hf
       refine qNoU hf rfl rfl rfl rfl rfl rfl rfl ?_; clear hf; intro a hf
       refine qNoU hf rfl rfl rfl rfl rfl rfl rfl ?_; clear hf; intro a hf
       refine qNoU hf rfl rfl rfl rfl rfl rfl rfl ?_; clear hf; intro a hf
       refine qNoU hf rfl rfl rfl rfl rfl rfl rfl ?_; clear hf; intro a hf
       refine qNoU hf rfl rfl rfl rfl rfl rfl rfl ?_; clear hf; intro a hf
       refine qNoU hf rfl rfl rfl rfl rfl rfl rfl ?_; clear hf; intro a hf
       refine qNoU hf rfl rfl rfl rfl rfl rfl rfl ?_; clear hf; intro a hf
       refine qNoU hf rfl rfl rfl rfl rfl rfl rfl ?_; clear hf; intro a hf
       refine qNo hf rfl rfl rfl (congrArg (fun b => some (Value.bool b)) hb157) rfl rfl rfl ?_; clear hf; intro a hf
       refine qY hf rfl rfl rfl (Y_pickT rfl (congrArg (fun b => some (Value.bool b)) hb157) rfl) ?_; clear hf; intro a hf
       refine qNil ?_; clear hs; intro w hs
       refine wpL_nil (then_normal ?_)
       exact ⟨true, Option.some.inj hj152, (FrD.pick (FrD.pick (FrD.pick (FrD.pick (FrD.pick (FrD.pick hf.none hf rfl) hf rfl) hf rfl) hf rfl) hf rfl) hf rfl), hs⟩
      ·have hj152 := bif_f hj152 hb157
       refine qYg hf rfl rfl rfl (congrArg (fun b => some (Value.bool b)) hb157) rfl rfl rfl (Y_move rfl rfl) ?_; clear hf; intro a hf
       refine qYg hf rfl rfl rfl (congrArg (fun b => some (Value.bool b)) hb157) rfl rfl rfl (Y_gtr rfl rfl rfl) ?_; clear hf; intro a hf
       refine qYg hf rfl rfl rfl (congrArg (fun b => some (Value.bool b)) hb157) rfl rfl rfl (Y_move rfl rfl) ?_; clear hf; intro a hf
       refine bsplit (decide (0 < x98)) (fun hb158 => ?_) (fun hb158 => ?_)
       ·have hj152 := bif_t hj152 hb158
        refine qYg hf rfl rfl rfl (congrArg (fun b => some (Value.bool b)) hb158) rfl rfl rfl (Y_move rfl rfl) ?_; clear hf; intro a hf
        refine qYg hf rfl rfl rfl (congrArg (fun b => some (Value.bool b)) hb158) rfl rfl rfl (Y_move rfl rfl) ?_; clear hf; intro a hf
        obtain ⟨q159, hi160, hj152⟩ := bind_some hj152
        obtain ⟨hi160a, hi160b, hi160q⟩ := idx_some hi160
        refine qYg hf rfl rfl rfl (congrArg (fun b => some (Value.bool b)) hb158) rfl rfl rfl (Y_index rfl rfl rfl el23 ti2 (Rd.isAt (bA.at hs) (at1 (ints_at hi160q))) hi160a hi160b) ?_; clear hf; intro a hf
        refine qYg hf rfl rfl rfl (congrArg (fun b => some (Value.bool b)) hb158) rfl rfl rfl (Y_load_rd rfl rfl (fun w hs => bA.at hs) (at1 (ints_at hi160q)) ag2) ?_; clear hf; intro a hf
        refine qYg hf rfl rfl rfl (congrArg (fun b => some (Value.bool b)) hb158) rfl rfl rfl (Y_move rfl rfl) ?_; clear hf; intro a hf
        refine qYg hf rfl rfl rfl (congrArg (fun b => some (Value.bool b)) hb158) rfl rfl rfl (Y_move rfl rfl) ?_; clear hf; intro a hf
        refine qYg hf rfl rfl rfl (congrArg (fun b => some (Value.bool b)) hb158) rfl rfl rfl (Y_sub rfl rfl rfl) ?_; clear hf; intro a hf
        obtain ⟨q161, hi162, hj152⟩ := bind_some hj152
        obtain ⟨hi162a, hi162b, hi162q⟩ := idx_some hi162
        refine qYg hf rfl rfl rfl (congrArg (fun b => some (Value.bool b)) hb158) rfl rfl rfl (Y_index rfl rfl rfl el23 ti2 (Rd.isAt (bA.at hs) (at1 (ints_at hi162q))) hi162a hi162b) ?_; clear hf; intro a hf
        refine qYg hf rfl rfl rfl (congrArg (fun b => some (Value.bool b)) hb158) rfl rfl rfl (Y_load_rd rfl rfl (fun w hs => bA.at hs) (at1 (ints_at hi162q)) ag2) ?_; clear hf; intro a hf
        refine qYg hf rfl rfl rfl (congrArg (fun b => some (Value.bool b)) hb158) rfl rfl rfl (Y_leq rfl rfl rfl) ?_; clear hf; intro a hf
        refine qYg hf rfl rfl rfl (congrArg (fun b => some (Value.bool b)) hb157) rfl rfl rfl (Y_pickT rfl (congrArg (fun b => some (Value.bool b)) hb158) rfl) ?_; clear hf; intro a hf
        refine qY hf rfl rfl rfl (Y_pickF rfl (congrArg (fun b => some (Value.bool b)) hb157) rfl) ?_; clear hf; intro a hf
        refine qNil ?_; clear hs; intro w hs
        refine wpL_nil (then_normal ?_)
        exact ⟨(decide (q159 ≤ q161)), Option.some.inj hj152, (FrD.pick (FrD.pick (FrD.pick (FrD.pick (FrD.pick (FrD.pick hf.none hf rfl) hf rfl) hf rfl) hf rfl) hf rfl) hf rfl), hs⟩
       ·have hj152 := bif_f hj152 hb158
        refine qNo hf rfl rfl rfl (congrArg (fun b => some (Value.bool b)) hb158) rfl rfl rfl ?_; clear hf; intro a hf
        refine qNo hf rfl rfl rfl (congrArg (fun b => some (Value.bool b)) hb158) rfl rfl rfl ?_; clear hf; intro a hf
        refine qNo hf rfl rfl rfl (congrArg (fun b => some (Value.bool b)) hb158) rfl rfl rfl ?_; clear hf; intro a hf
        refine qNo hf rfl rfl rfl (congrArg (fun b => some (Value.bool b)) hb158) rfl rfl rfl ?_; clear hf; intro a hf
        refine qNo hf rfl rfl rfl (congrArg (fun b => some (Value.bool b)) hb158) rfl rfl rfl ?_; clear hf; intro a hf
        refine qNo hf rfl rfl rfl (congrArg (fun b => some (Value.bool b)) hb158) rfl rfl rfl ?_; clear hf; intro a hf
        refine qNo hf rfl rfl rfl (congrArg (fun b => some (Value.bool b)) hb158) rfl rfl rfl ?_; clear hf; intro a hf
        refine qNo hf rfl rfl rfl (congrArg (fun b => some (Value.bool b)) hb158) rfl rfl rfl ?_; clear hf; intro a hf
        refine qNo hf rfl rfl rfl (congrArg (fun b => some (Value.bool b)) hb158) rfl rfl rfl ?_; clear hf; intro a hf
        refine qNo hf rfl rfl rfl (congrArg (fun b => some (Value.bool b)) hb158) rfl rfl rfl ?_; clear hf; intro a hf
        refine qYg hf rfl rfl rfl (congrArg (fun b => some (Value.bool b)) hb157) rfl rfl rfl (Y_pickF rfl (congrArg (fun b => some (Value.bool b)) hb158) rfl) ?_; clear hf; intro a hf
        refine qY hf rfl rfl rfl (Y_pickF rfl (congrArg (fun b => some (Value.bool b)) hb157) rfl) ?_; clear hf; intro a hf
        refine qNil ?_; clear hs; intro w hs
        refine wpL_nil (then_normal ?_)
        exact ⟨false, Option.some.inj hj152, (FrD.pick (FrD.pick (FrD.pick (FrD.pick (FrD.pick (FrD.pick hf.none hf rfl) hf rfl) hf rfl) hf rfl) hf rfl) hf rfl), hs⟩
     ·rintro a w ⟨b150, hr_, hf, hs⟩
      subst hr_
      try dsimp only at hm137
      refine wpL_cond hf rfl (fun hb163 => ?_) (fun hb163 => ?_)
      ·have hm137 := bif_t hm137 hb163
       refine wpL_seq <| wpL_region ?_
       refine sY hf hs rfl rfl rfl (Y_build (parts := []) (vs := []) rfl rfl (run_build (parts := []) (cells := [.int .i64 0, .slice none 0 0]) (places := #[(0, 1), (1, 1)]) ti59 Try.underlying59 (fun w => by simp [go_sem]) rfl)) ?_; clear hf; intro a hf
       refine sStore (i := 1) (us := [.int .i64 0, .slice none 0 0]) hf hs rfl rfl rfl rfl rfl rfl ti59 rfl rfl rfl (Nat.le_of_ble_eq_true rfl) rfl ?_; clear hs; intro w hs
       have hs : St [] W w [.blk b1 59 [.int .i64 p0.Events, .slice av p0.Places.length aw], .blk b2 59 [.int .i64 0, .slice none 0 0], .row A94 n95 c96 2 1 (ints xs93)] := hs
       refine sY hf hs rfl rfl rfl (Y_assign rfl rfl) ?_; clear hf; intro a hf
       refine wpO_nil ?_
       have hs : St [] W _ [.blk b1 59 [.int .i64 p0.Events, .slice av p0.Places.length aw], .blk b2 59 [.int .i64 0, .slice none 0 0], .row A94 n95 c96 2 1 (ints xs93), .row none 0 0 127 4 ((recs GPlace.cells) ([] : List GPlace))] := hs.addNil 127 4
       obtain rfl := Option.some.inj hm137
       try dsimp only at hm
       obtain rfl := Option.some.inj hm
       refine wpL_ret (Qb_ret (Ql_ret (Qb_ret (ret_cell_tmp rfl hf rfl rfl hs (i := 1) rfl ag59 ti59 rfl ?_))))
       exact ⟨_, rfl, none, 0, 0, rfl, rfl, hs.sel [3] (by decide)⟩
      ·have hm137 := bif_f hm137 hb163
       refine wpL_skip <| wpL_region ?_
       refine sY hf hs rfl rfl rfl (Y_move rfl rfl) ?_; clear hf; intro a hf
       refine sY hf hs rfl rfl rfl (Y_move rfl rfl) ?_; clear hf; intro a hf
       refine sY hf hs rfl rfl rfl (Y_move rfl rfl) ?_; clear hf; intro a hf
       obtain ⟨q165, hi166, hm137⟩ := bind_some hm137
       obtain ⟨hi166a, hi166b, hi166q⟩ := idx_some hi166
       refine sY hf hs rfl rfl rfl (Y_index rfl rfl rfl el23 ti2 (Rd.isAt (bA.at hs) (at1 (ints_at hi166q))) hi166a hi166b) ?_; clear hf; intro a hf
       refine sY hf hs rfl rfl rfl (Y_load_rd rfl rfl (fun w hs => bA.at hs) (at1 (ints_at hi166q)) ag2) ?_; clear hf; intro a hf
       refine sY hf hs rfl rfl rfl (Y_move rfl rfl) ?_; clear hf; intro a hf
       obtain ⟨q167, hi168, hm137⟩ := bind_some hm137
       obtain ⟨hi168a, hi168b, hi168q⟩ := idx_some hi168
       refine sY hf hs rfl rfl rfl (Y_index rfl rfl rfl el23 ti2 (Rd.isAt (hs.rd (i := 2) rfl) (at1 (ints_at hi168q))) hi168a (ltn hn97 hi168b)) ?_; clear hf; intro a hf
       obtain ⟨xs169, hu170, hm137⟩ := bind_some hm137
       refine sStoreL (i := 2) (us := [.int .i64 x98]) (enc := ints) hf hs rfl rfl rfl rfl rfl rfl hn97 hu170 ti2 rfl rfl rfl rfl rfl ints_len1 (ints_set x98) ?_; clear hs; intro w hs
       have hs : St [] W w [.blk b1 59 [.int .i64 p0.Events, .slice av p0.Places.length aw], .blk b2 59 [.int .i64 0, .slice none 0 0], .row A94 n95 c96 2 1 (ints xs169)] := hs
       refine wpO_nil ?_
       refine wpL_nil (Qb_normal ?_)
       refine wpL_region ?_
       refine sY hf hs rfl rfl rfl (Y_move rfl rfl) ?_; clear hf; intro a hf
       refine sY hf hs rfl rfl rfl (Y_add rfl rfl rfl) ?_; clear hf; intro a hf
       refine sY hf hs rfl rfl rfl (Y_assign rfl rfl) ?_; clear hf; intro a hf
       refine wpO_nil ?_
       refine wpL_nil (Ql_normal ?_)
       exact ⟨xs169, (IntKind.i64.wrap (x98 + 1)), A94, n95, c96, hm137, ((hn97).trans (upd_len hu170).symm), (FrD.pick (FrD.pick (FrD.pick (FrD.pick (FrD.pick hf.none hf rfl) hf rfl) hf rfl) hf rfl) hf rfl), hs⟩
    ·have hm137 := bif_f hm137 hb139
     refine wpL_exit (Ql_exit (Qb_exit ?_))
     exact ⟨xs93, A94, n95, c96, Option.some.inj hm137, hn97, (FrD.pick (FrD.pick (FrD.pick (FrD.pick hf.none hf rfl) hf rfl) hf rfl) hf rfl), hs⟩
  ·rintro a w ⟨xs130, A131, n132, c133, hr_, hn134, hf, hs⟩
   subst hr_
   try dsimp only at hm
   refine wpL_seq <| wpL_seq <| wpL_region ?_
   refine sY hf hs rfl rfl rfl (Y_move rfl rfl) ?_; clear hf; intro a hf
   refine sY hf hs rfl rfl rfl (Y_lenH rfl rfl el23 rfl) ?_; clear hf; intro a hf
   refine sY hf hs rfl rfl rfl (Y_eql rfl rfl rfl) ?_; clear hf; intro a hf
   refine wpO_nil ?_
   refine wpL_cond hf rfl (fun hb171 => ?_) (fun hb171 => ?_)
   ·have hm := bif_t hm hb171
    refine wpL_seq <| wpL_region ?_
    refine sY hf hs rfl rfl rfl (Y_build (parts := []) (vs := []) rfl rfl (run_build (parts := []) (cells := [.int .i64 0, .slice none 0 0]) (places := #[(0, 1), (1, 1)]) ti59 Try.underlying59 (fun w => by simp [go_sem]) rfl)) ?_; clear hf; intro a hf
    refine sStore (i := 1) (us := [.int .i64 0, .slice none 0 0]) hf hs rfl rfl rfl rfl rfl rfl ti59 rfl rfl rfl (Nat.le_of_ble_eq_true rfl) rfl ?_; clear hs; intro w hs
    have hs : St [] W w [.blk b1 59 [.int .i64 p0.Events, .slice av p0.Places.length aw], .blk b2 59 [.int .i64 0, .slice none 0 0], .row A131 n132 c133 2 1 (ints xs130)] := hs
    refine sY hf hs rfl rfl rfl (Y_assign rfl rfl) ?_; clear hf; intro a hf
    refine wpO_nil ?_
    have hs : St [] W _ [.blk b1 59 [.int .i64 p0.Events, .slice av p0.Places.length aw], .blk b2 59 [.int .i64 0, .slice none 0 0], .row A131 n132 c133 2 1 (ints xs130), .row none 0 0 127 4 ((recs GPlace.cells) ([] : List GPlace))] := hs.addNil 127 4
    obtain rfl := Option.some.inj hm
    refine wpL_ret (ret_cell_tmp rfl hf rfl rfl hs (i := 1) rfl ag59 ti59 rfl ?_)
    exact ⟨_, rfl, none, 0, 0, rfl, rfl, hs.sel [3] (by decide)⟩
   ·have hm := bif_f hm hb171
    refine wpL_skip <| wpL_seq <| wpL_region ?_
    refine sY hf hs rfl rfl rfl (Y_load_blkS rfl rfl (i := 0) rfl ag59 ti59 rfl) ?_; clear hf; intro a hf
    refine sY hf hs rfl rfl rfl (Y_move rfl rfl) ?_; clear hf; intro a hf
    refine sY hf hs rfl rfl rfl (Y_lenH rfl rfl el23 rfl) ?_; clear hf; intro a hf
    refine sY hf hs rfl rfl rfl (Y_move rfl rfl) ?_; clear hf; intro a hf
    obtain ⟨r173, hc174, hm⟩ := bind_some hm
    refine sCall hf rfl rfl rfl rfl (cap := []) rfl rfl en137 (spec_l19Map_ok F p0 av p0.Places.length aw rfl (p1.length : Int) xs130 A131 n132 c133 hn134 _ _ hc174 (aX.at hs) (hs.rd (i := 2) rfl)) ?_; clear hf
    rintro _ w ⟨A175, n176, c177, rfl, hn178, hs1⟩ a hf
    have hs : St [] W w [.blk b1 59 [.int .i64 p0.Events, .slice av p0.Places.length aw], .blk b2 59 [.int .i64 0, .slice none 0 0], .row A131 n132 c133 2 1 (ints xs130), .row A175 n176 c177 127 4 ((recs GPlace.cells) r173.Places)] := hs.join hs1
    clear hs1
    refine sStore (i := 1) (us := [.int .i64 r173.Events, .slice A175 n176 c177]) hf hs rfl rfl rfl rfl rfl rfl ti59 rfl rfl rfl (Nat.le_of_ble_eq_true rfl) rfl ?_; clear hs; intro w hs
    have hs : St [] W w [.blk b1 59 [.int .i64 p0.Events, .slice av p0.Places.length aw], .blk b2 59 [.int .i64 r173.Events, .slice A175 n176 c177], .row A131 n132 c133 2 1 (ints xs130), .row A175 n176 c177 127 4 ((recs GPlace.cells) r173.Places)] := hs
    refine sY hf hs rfl rfl rfl (Y_assign rfl rfl) ?_; clear hf; intro a hf
    refine wpO_nil ?_
    obtain rfl := Option.some.inj hm
    refine wpL_ret (ret_cell_tmp rfl hf rfl rfl hs (i := 1) rfl ag59 ti59 rfl ?_)
    exact ⟨_, rfl, A175, n176, c177, rfl, hn178, hs.sel [3] (by decide)⟩

set_option maxRecDepth 100000 in
theorem laws_likeGraphs9_ok (F : Nat) (ba : GEventGraph) (bn : Option Addr) (cD bu : Nat) (cN : cD = ba.Places.length) (bc : GEventGraph) (bv : Option Addr) (cE bJ : Nat) (cO : cE = bc.Places.length) (r : Bool) (W : World) (hm : laws_likeGraphs9 F ba bc = some r) (cG : Rd W bn ((recs GPlace.cells) ba.Places)) (cH : Rd W bv ((recs GPlace.cells) bc.Places)) :
  Calls Try.prog 50 [.agg #[.int .i64 ba.Events, .slice bn cD bu], .agg #[.int .i64 bc.Events, .slice bv cE bJ]].toArray W fun e w' => ∃ v, e = .returned v ∧ v = .bool r ∧ St [] W w' [] := by
 subst cN
 subst cO
 unfold laws_likeGraphs9 at hm
 refine Calls.enter (N := 38) Try.func50 rfl rfl rfl (fun a hf => ?_)
 have hs := St.start W
 obtain ⟨w, hw_⟩ : ∃ w, w = W := ⟨W, rfl⟩
 clear hw_ w
 refine wpL_seq <| wpL_region ?_
 refine sBox hf hs rfl rfl rfl rfl rfl (cs := [.int .i64 ba.Events, .slice bn ba.Places.length bu]) rfl ?_; clear hf hs; intro a w b1 hs hf
 have hs : St [] W w [.blk b1 59 [.int .i64 ba.Events, .slice bn ba.Places.length bu]] := hs
 refine sBox hf hs rfl rfl rfl rfl rfl (cs := [.int .i64 bc.Events, .slice bv bc.Places.length bJ]) rfl ?_; clear hf hs; intro a w b2 hs hf
 have hs : St [] W w [.blk b1 59 [.int .i64 ba.Events, .slice bn ba.Places.length bu], .blk b2 59 [.int .i64 bc.Events, .slice bv bc.Places.length bJ]] := hs
 refine sY hf hs rfl rfl rfl (Y_assign rfl rfl) ?_; clear hf; intro a hf
 refine wpO_nil <| wpL_seq <| wpL_seq ?_
 obtain ⟨r5, hj6, hm⟩ := bind_some hm
 refine wpL_cut (fun a w => ∃ b4 : Bool, b4 = r5 ∧ Fr a 38 [(2, .pointer (some ⟨b1, 0, none⟩)), (3, .pointer (some ⟨b2, 0, none⟩)), (19, .bool b4)] ∧ St [] W w [.blk b1 59 [.int .i64 ba.Events, .slice bn ba.Places.length bu], .blk b2 59 [.int .i64 bc.Events, .slice bv bc.Places.length bJ]]) ?_ ?_
 ·refine wpL_region ?_
  refine sY hf hs rfl rfl rfl (Y_fieldAddr rfl rfl fo59_0) ?_; clear hf; intro a hf
  refine sY hf hs rfl rfl rfl (Y_load_blk rfl rfl (i := 0) rfl rfl ag2) ?_; clear hf; intro a hf
  refine sY hf hs rfl rfl rfl (Y_fieldAddr rfl rfl fo59_0) ?_; clear hf; intro a hf
  refine sY hf hs rfl rfl rfl (Y_load_blk rfl rfl (i := 1) rfl rfl ag2) ?_; clear hf; intro a hf
  refine sY hf hs rfl rfl rfl (Y_neq rfl rfl rfl) ?_; clear hf; intro a hf
  refine sY hf hs rfl rfl rfl (Y_move rfl rfl) ?_; clear hf; intro a hf
  refine bsplit (ba.Events != bc.Events) (fun hb7 => ?_) (fun hb7 => ?_)
  ·have hj6 := bif_t hj6 hb7
   refine sNo hf rfl rfl rfl (congrArg (fun b => some (Value.bool b)) hb7) rfl rfl rfl ?_; clear hf; intro a hf
   refine sNo hf rfl rfl rfl (congrArg (fun b => some (Value.bool b)) hb7) rfl rfl rfl ?_; clear hf; intro a hf
   refine sNo hf rfl rfl rfl (congrArg (fun b => some (Value.bool b)) hb7) rfl rfl rfl ?_; clear hf; intro a hf
   refine sNo hf rfl rfl rfl (congrArg (fun b => some (Value.bool b)) hb7) rfl rfl rfl ?_; clear hf; intro a hf
   refine sNo hf rfl rfl rfl (congrArg (fun b => some (Value.bool b)) hb7) rfl rfl rfl ?_; clear hf; intro a hf
   refine sNo hf rfl rfl rfl (congrArg (fun b => some (Value.bool b)) hb7) rfl rfl rfl ?_; clear hf; intro a hf
   refine sNo hf rfl rfl rfl (congrArg (fun b => some (Value.bool b)) hb7) rfl rfl rfl ?_; clear hf; intro a hf
   refine sY hf hs rfl rfl rfl (Y_pickT rfl (congrArg (fun b => some (Value.bool b)) hb7) rfl) ?_; clear hf; intro a hf
   refine wpO_nil ?_
   refine wpL_nil (then_normal ?_)
   exact ⟨true, Option.some.inj hj6, (FrD.pick (FrD.pick (FrD.pick hf.none hf rfl) hf rfl) hf rfl), hs⟩
  ·have hj6 := bif_f hj6 hb7
   refine sYg hf hs rfl rfl rfl (congrArg (fun b => some (Value.bool b)) hb7) rfl rfl rfl (Y_fieldAddr rfl rfl fo59_1) ?_; clear hf; intro a hf
   refine sYg hf hs rfl rfl rfl (congrArg (fun b => some (Value.bool b)) hb7) rfl rfl rfl (Y_load_blk rfl rfl (i := 0) rfl rfl ag57) ?_; clear hf; intro a hf
   refine sYg hf hs rfl rfl rfl (congrArg (fun b => some (Value.bool b)) hb7) rfl rfl rfl (Y_lenH rfl rfl el57 rfl) ?_; clear hf; intro a hf
   refine sYg hf hs rfl rfl rfl (congrArg (fun b => some (Value.bool b)) hb7) rfl rfl rfl (Y_fieldAddr rfl rfl fo59_1) ?_; clear hf; intro a hf
   refine sYg hf hs rfl rfl rfl (congrArg (fun b => some (Value.bool b)) hb7) rfl rfl rfl (Y_load_blk rfl rfl (i := 1) rfl rfl ag57) ?_; clear hf; intro a hf
   refine sYg hf hs rfl rfl rfl (congrArg (fun b => some (Value.bool b)) hb7) rfl rfl rfl (Y_lenH rfl rfl el57 rfl) ?_; clear hf; intro a hf
   refine sYg hf hs rfl rfl rfl (congrArg (fun b => some (Value.bool b)) hb7) rfl rfl rfl (Y_neq rfl rfl rfl) ?_; clear hf; intro a hf
   refine sY hf hs rfl rfl rfl (Y_pickF rfl (congrArg (fun b => some (Value.bool b)) hb7) rfl) ?_; clear hf; intro a hf
   refine wpO_nil ?_
   refine wpL_nil (then_normal ?_)
   exact ⟨((ba.Places.length : Int) != (bc.Places.length : Int)), Option.some.inj hj6, (FrD.pick (FrD.pick (FrD.pick hf.none hf rfl) hf rfl) hf rfl), hs⟩
 ·rintro a w ⟨b4, hr_, hf, hs⟩
  subst hr_
  try dsimp only at hm
  refine wpL_cond hf rfl (fun hb8 => ?_) (fun hb8 => ?_)
  ·have hm := bif_t hm hb8
   refine wpL_seq <| wpL_region ?_
   refine sY hf hs rfl rfl rfl (Y_assign rfl rfl) ?_; clear hf; intro a hf
   refine wpO_nil ?_
   obtain rfl := Option.some.inj hm
   refine wpL_ret (ret_tmp rfl hf rfl ?_)
   exact ⟨_, rfl, rfl, hs.sel [] (by decide)⟩
  ·have hm := bif_f hm hb8
   refine wpL_skip <| wpL_seq <| wpL_seq <| wpL_region ?_
   refine sY hf hs rfl rfl rfl (Y_assign rfl rfl) ?_; clear hf; intro a hf
   refine wpO_nil ?_
   obtain ⟨r29, hl30, hm⟩ := bind_some hm
   refine wpL_block (fun a w => Sum.inr () = r29 ∧ Fr a 38 [] ∧ St [] W w []) ?_ ?_
   ·refine wpL_loop (fun n a w => ∃ x22 : Int, laws_likeGraphs9_L1 F ba bc n x22 = some r29 ∧ Fr a 38 [(2, .pointer (some ⟨b1, 0, none⟩)), (3, .pointer (some ⟨b2, 0, none⟩)), (5, .int .i64 x22)] ∧ St [] W w [.blk b1 59 [.int .i64 ba.Events, .slice bn ba.Places.length bu], .blk b2 59 [.int .i64 bc.Events, .slice bv bc.Places.length bJ]]) F ?_ ?_ ?_
    ·exact ⟨0, hl30, (FrD.pick (FrD.pick (FrD.pick hf.none hf rfl) hf rfl) hf rfl), hs⟩
    ·rintro a w ⟨x22, h0_, -, -⟩; simp [laws_likeGraphs9_L1] at h0_
    ·rintro n32 a w ⟨x22, hm31, hf, hs⟩
     rw [laws_likeGraphs9_L1] at hm31
     refine wpL_seq <| wpL_seq <| wpL_region ?_
     refine sY hf hs rfl rfl rfl (Y_move rfl rfl) ?_; clear hf; intro a hf
     refine sY hf hs rfl rfl rfl (Y_fieldAddr rfl rfl fo59_1) ?_; clear hf; intro a hf
     refine sY hf hs rfl rfl rfl (Y_load_blk rfl rfl (i := 0) rfl rfl ag57) ?_; clear hf; intro a hf
     refine sY hf hs rfl rfl rfl (Y_lenH rfl rfl el57 rfl) ?_; clear hf; intro a hf
     refine sY hf hs rfl rfl rfl (Y_lss rfl rfl rfl) ?_; clear hf; intro a hf
     refine wpO_nil ?_
     refine wpL_cond hf rfl (fun hb33 => ?_) (fun hb33 => ?_)
     ·have hm31 := bif_t hm31 hb33
      refine wpL_skip <| wpL_seq <| wpL_block0 <| wpL_seq ?_
      refine wpL_draw (by kernel_rfl) (by kernel_rfl) hs ?_
      refine qY hf rfl rfl rfl (Y_fieldAddr rfl rfl fo59_1) ?_; clear hf; intro a hf
      refine qY hf rfl rfl rfl (Y_load_blk rfl rfl (i := 0) rfl rfl ag57) ?_; clear hf; intro a hf
      refine qY hf rfl rfl rfl (Y_move rfl rfl) ?_; clear hf; intro a hf
      obtain ⟨q34, hi35, hm31⟩ := bind_some hm31
      obtain ⟨hi35a, hi35b, hi35q⟩ := idx_some hi35
      refine qY hf rfl rfl rfl (Y_index rfl rfl rfl el57 ti127 (Rd.isAt (cG.at hs) (recs_at (s := 4) GPlace.len hi35q (j := 0) rfl)) hi35a hi35b) ?_; clear hf; intro a hf
      refine qY hf rfl rfl rfl (Y_load_rdS rfl rfl (us := [.int .i64 q34.From, .int .i64 q34.To, .int .i64 q34.Delay, .int .i64 q34.Tokens]) (fun w hs => cG.at hs) (fun j u hj => recs_at (s := 4) GPlace.len hi35q hj) (Nat.succ_pos _) ag127 ti127 rfl) ?_; clear hf; intro a hf
      refine qY hf rfl rfl rfl (Y_fieldAddr rfl rfl fo59_1) ?_; clear hf; intro a hf
      refine qY hf rfl rfl rfl (Y_load_blk rfl rfl (i := 1) rfl rfl ag57) ?_; clear hf; intro a hf
      refine qY hf rfl rfl rfl (Y_move rfl rfl) ?_; clear hf; intro a hf
      obtain ⟨q36, hi37, hm31⟩ := bind_some hm31
      obtain ⟨hi37a, hi37b, hi37q⟩ := idx_some hi37
      refine qY hf rfl rfl rfl (Y_index rfl rfl rfl el57 ti127 (Rd.isAt (cH.at hs) (recs_at (s := 4) GPlace.len hi37q (j := 0) rfl)) hi37a hi37b) ?_; clear hf; intro a hf
      refine qY hf rfl rfl rfl (Y_load_rdS rfl rfl (us := [.int .i64 q36.From, .int .i64 q36.To, .int .i64 q36.Delay, .int .i64 q36.Tokens]) (fun w hs => cH.at hs) (fun j u hj => recs_at (s := 4) GPlace.len hi37q hj) (Nat.succ_pos _) ag127 ti127 rfl) ?_; clear hf; intro a hf
      refine qY hf rfl rfl rfl (Y_neqS rfl rfl rfl eqg127 (eqf127 q34.From q34.To q34.Delay q34.Tokens q36.From q36.To q36.Delay q36.Tokens)) ?_; clear hf; intro a hf
      refine qNil ?_; clear hs; intro w hs
      refine wpL_cond hf rfl (fun hb38 => ?_) (fun hb38 => ?_)
      ·have hm31 := bif_t hm31 hb38
       refine wpL_seq <| wpL_region ?_
       refine sY hf hs rfl rfl rfl (Y_assign rfl rfl) ?_; clear hf; intro a hf
       refine wpO_nil ?_
       obtain rfl := Option.some.inj hm31
       try dsimp only at hm
       obtain rfl := Option.some.inj hm
       refine wpL_ret (Qb_ret (Ql_ret (Qb_ret (ret_tmp rfl hf rfl ?_))))
       exact ⟨_, rfl, rfl, hs.sel [] (by decide)⟩
      ·have hm31 := bif_f hm31 hb38
       refine wpL_skip ?_
       refine wpL_nil (Qb_normal ?_)
       refine wpL_region ?_
       refine sY hf hs rfl rfl rfl (Y_move rfl rfl) ?_; clear hf; intro a hf
       refine sY hf hs rfl rfl rfl (Y_add rfl rfl rfl) ?_; clear hf; intro a hf
       refine sY hf hs rfl rfl rfl (Y_assign rfl rfl) ?_; clear hf; intro a hf
       refine wpO_nil ?_
       refine wpL_nil (Ql_normal ?_)
       exact ⟨(IntKind.i64.wrap (x22 + 1)), hm31, (FrD.pick (FrD.pick (FrD.pick hf.none hf rfl) hf rfl) hf rfl), hs⟩
     ·have hm31 := bif_f hm31 hb33
      refine wpL_exit (Ql_exit (Qb_exit ?_))
      exact ⟨Option.some.inj hm31, hf.none, hs.sel [] (by decide)⟩
   ·rintro a w ⟨hr_, hf, hs⟩
    subst hr_
    try dsimp only at hm
    refine wpL_seq <| wpL_region ?_
    refine sY hf hs rfl rfl rfl (Y_assign rfl rfl) ?_; clear hf; intro a hf
    refine wpO_nil ?_
    obtain rfl := Option.some.inj hm
    refine wpL_ret (ret_tmp rfl hf rfl ?_)
    exact ⟨_, rfl, rfl, hs⟩

set_option maxRecDepth 100000 in
theorem impl_firingOrder_c1_ok (F : Nat) (ao : GPlace) (b_z0 : Nat) (z0 : Int) (b_z1 : Nat) (z1 : List Int) (A_z1_1 : Option Addr) (n_z1_1 c_z1_1 : Nat) (hn_z1_1 : n_z1_1 = z1.length) (r : Bool) (W : World) (hm : impl_firingOrder_c1 F ao z0 z1 = some r) (h_z0 : PB W b_z0 2 [.int .i64 z0]) (h_z1_1 : Rd W A_z1_1 (ints z1)) (h_z1 : PB W b_z1 23 [.slice A_z1_1 n_z1_1 c_z1_1]) :
  Calls Try.prog 187 [.agg #[.int .i64 ao.From, .int .i64 ao.To, .int .i64 ao.Delay, .int .i64 ao.Tokens], .pointer (some ⟨b_z0, 0, none⟩), .pointer (some ⟨b_z1, 0, none⟩)].toArray W fun e w' => ∃ v, e = .returned v ∧ v = .bool r ∧ St [] W w' [] := by
 subst hn_z1_1
 unfold impl_firingOrder_c1 at hm
 refine Calls.enter (N := 21) Try.func187 rfl rfl rfl (fun a hf => ?_)
 have hs := St.start W
 obtain ⟨w, hw_⟩ : ∃ w, w = W := ⟨W, rfl⟩
 clear hw_ w
 refine wpL_seq <| wpL_region ?_
 refine sBox hf hs rfl rfl rfl rfl rfl (cs := [.int .i64 ao.From, .int .i64 ao.To, .int .i64 ao.Delay, .int .i64 ao.Tokens]) rfl ?_; clear hf hs; intro a w b1 hs hf
 have hs : St [] W w [.blk b1 127 [.int .i64 ao.From, .int .i64 ao.To, .int .i64 ao.Delay, .int .i64 ao.Tokens]] := hs
 refine sY hf hs rfl rfl rfl (Y_assign rfl rfl) ?_; clear hf; intro a hf
 refine wpO_nil <| wpL_seq ?_
 obtain ⟨r7, hj8, hm⟩ := bind_some hm
 refine wpL_cut (fun a w => ∃ b6 : Bool, b6 = r7 ∧ Fr a 21 [(4, .bool b6)] ∧ St [] W w []) ?_ ?_
 ·refine wpL_region ?_
  refine sY hf hs rfl rfl rfl (Y_fieldAddr rfl rfl fo127_1) ?_; clear hf; intro a hf
  refine sY hf hs rfl rfl rfl (Y_load_blk rfl rfl (i := 0) rfl rfl ag2) ?_; clear hf; intro a hf
  refine sY hf hs rfl rfl rfl (Y_load_pb rfl rfl h_z0 rfl ag2) ?_; clear hf; intro a hf
  refine sY hf hs rfl rfl rfl (Y_eql rfl rfl rfl) ?_; clear hf; intro a hf
  refine sY hf hs rfl rfl rfl (Y_move rfl rfl) ?_; clear hf; intro a hf
  refine bsplit (ao.To == z0) (fun hb9 => ?_) (fun hb9 => ?_)
  ·have hj8 := bif_t hj8 hb9
   refine sYg hf hs rfl rfl rfl (congrArg (fun b => some (Value.bool b)) hb9) rfl rfl rfl (Y_fieldAddr rfl rfl fo127_3) ?_; clear hf; intro a hf
   refine sYg hf hs rfl rfl rfl (congrArg (fun b => some (Value.bool b)) hb9) rfl rfl rfl (Y_load_blk rfl rfl (i := 0) rfl rfl ag2) ?_; clear hf; intro a hf
   refine sYg hf hs rfl rfl rfl (congrArg (fun b => some (Value.bool b)) hb9) rfl rfl rfl (Y_eql rfl rfl rfl) ?_; clear hf; intro a hf
   refine sY hf hs rfl rfl rfl (Y_pickT rfl (congrArg (fun b => some (Value.bool b)) hb9) rfl) ?_; clear hf; intro a hf
   refine sY hf hs rfl rfl rfl (Y_move rfl rfl) ?_; clear hf; intro a hf
   refine bsplit (ao.Tokens == 0) (fun hb10 => ?_) (fun hb10 => ?_)
   ·have hj8 := bif_t hj8 hb10
    refine sYg hf hs rfl rfl rfl (congrArg (fun b => some (Value.bool b)) hb10) rfl rfl rfl (Y_load_pb rfl rfl h_z1 rfl ag23) ?_; clear hf; intro a hf
    refine sYg hf hs rfl rfl rfl (congrArg (fun b => some (Value.bool b)) hb10) rfl rfl rfl (Y_fieldAddr rfl rfl fo127_0) ?_; clear hf; intro a hf
    refine sYg hf hs rfl rfl rfl (congrArg (fun b => some (Value.bool b)) hb10) rfl rfl rfl (Y_load_blk rfl rfl (i := 0) rfl rfl ag2) ?_; clear hf; intro a hf
    obtain ⟨r11, hc12, hj8⟩ := bind_some hj8
    refine sCallg hf rfl rfl rfl (congrArg (fun b => some (Value.bool b)) hb10) rfl rfl rfl rfl (cap := []) rfl rfl en151 (slices_Contains_int64_ok F z1 A_z1_1 z1.length c_z1_1 rfl ao.From _ _ hc12 (h_z1_1.at hs)) ?_; clear hf
    rintro _ w ⟨rfl, hs1⟩ a hf
    have hs : St [] W w [.blk b1 127 [.int .i64 ao.From, .int .i64 ao.To, .int .i64 ao.Delay, .int .i64 ao.Tokens]] := hs.ext hs1.below
    clear hs1
    refine sYg hf hs rfl rfl rfl (congrArg (fun b => some (Value.bool b)) hb10) rfl rfl rfl (Y_not rfl rfl) ?_; clear hf; intro a hf
    refine sY hf hs rfl rfl rfl (Y_pickT rfl (congrArg (fun b => some (Value.bool b)) hb10) rfl) ?_; clear hf; intro a hf
    refine sY hf hs rfl rfl rfl (Y_assign rfl rfl) ?_; clear hf; intro a hf
    refine wpO_nil ?_
    refine wpL_nil (then_normal ?_)
    exact ⟨(!r11), Option.some.inj hj8, (FrD.pick hf.none hf rfl), hs.sel [] (by decide)⟩
   ·have hj8 := bif_f hj8 hb10
    refine sNo hf rfl rfl rfl (congrArg (fun b => some (Value.bool b)) hb10) rfl rfl rfl ?_; clear hf; intro a hf
    refine sNo hf rfl rfl rfl (congrArg (fun b => some (Value.bool b)) hb10) rfl rfl rfl ?_; clear hf; intro a hf
    refine sNo hf rfl rfl rfl (congrArg (fun b => some (Value.bool b)) hb10) rfl rfl rfl ?_; clear hf; intro a hf
    refine sNo hf rfl rfl rfl (congrArg (fun b => some (Value.bool b)) hb10) rfl rfl rfl ?_; clear hf; intro a hf
    refine sNo hf rfl rfl rfl (congrArg (fun b => some (Value.bool b)) hb10) rfl rfl rfl ?_; clear hf; intro a hf
    refine sY hf hs rfl rfl rfl (Y_pickF rfl (congrArg (fun b => some (Value.bool b)) hb10) rfl) ?_; clear hf; intro a hf
    refine sY hf hs rfl rfl rfl (Y_assign rfl rfl) ?_; clear hf; intro a hf
    refine wpO_nil ?_
    refine wpL_nil (then_normal ?_)
    exact ⟨false, Option.some.inj hj8, (FrD.pick hf.none hf rfl), hs.sel [] (by decide)⟩
  ·have hj8 := bif_f hj8 hb9
   refine sNo hf rfl rfl rfl (congrArg (fun b => some (Value.bool b)) hb9) rfl rfl rfl ?_; clear hf; intro a hf
   refine sNo hf rfl rfl rfl (congrArg (fun b => some (Value.bool b)) hb9) rfl rfl rfl ?_; clear hf; intro a hf
   refine sNo hf rfl rfl rfl (congrArg (fun b => some (Value.bool b)) hb9) rfl rfl rfl ?_; clear hf; intro a hf
   refine sY hf hs rfl rfl rfl (Y_pickF rfl (congrArg (fun b => some (Value.bool b)) hb9) rfl) ?_; clear hf; intro a hf
   refine sY hf hs rfl rfl rfl (Y_move rfl rfl) ?_; clear hf; intro a hf
   refine sNo hf rfl rfl rfl rfl rfl rfl rfl ?_; clear hf; intro a hf
   refine sNo hf rfl rfl rfl rfl rfl rfl rfl ?_; clear hf; intro a hf
   refine sNo hf rfl rfl rfl rfl rfl rfl rfl ?_; clear hf; intro a hf
   refine sNo hf rfl rfl rfl rfl rfl rfl rfl ?_; clear hf; intro a hf
   refine sNo hf rfl rfl rfl rfl rfl rfl rfl ?_; clear hf; intro a hf
   refine sY hf hs rfl rfl rfl (Y_pickF rfl rfl rfl) ?_; clear hf; intro a hf
   refine sY hf hs rfl rfl rfl (Y_assign rfl rfl) ?_; clear hf; intro a hf
   refine wpO_nil ?_
   refine wpL_nil (then_normal ?_)
   exact ⟨false, Option.some.inj hj8, (FrD.pick hf.none hf rfl), hs.sel [] (by decide)⟩
 ·rintro a w ⟨b6, hr_, hf, hs⟩
  subst hr_
  try dsimp only at hm
  obtain rfl := Option.some.inj hm
  refine wpL_ret (ret_tmp rfl hf rfl ?_)
  exact ⟨_, rfl, rfl, hs⟩

set_option maxRecDepth 100000 in
theorem impl_firingOrder_ok (F : Nat) (ab : GEventGraph) (ac : Option Addr) (ap ad : Nat) (ax : ap = ab.Places.length) (r : List Int × Bool) (W : World) (hm : impl_firingOrder F ab = some r) (aq : Rd W ac ((recs GPlace.cells) ab.Places)) :
  Calls Try.prog 175 [.agg #[.int .i64 ab.Events, .slice ac ap ad]].toArray W fun e w' => ∃ v, e = .returned v ∧ ∃ A459, ∃ n460, ∃ c461, v = .tuple #[.slice A459 n460 c461, .bool r.2] ∧ n460 = r.1.length ∧ St [] W w' [.row A459 n460 c461 2 1 (ints r.1)] := by
 subst ax
 unfold impl_firingOrder at hm
 refine Calls.enter (N := 41) Try.func175 rfl rfl rfl (fun a hf => ?_)
 have hs := St.start W
 obtain ⟨w, hw_⟩ : ∃ w, w = W := ⟨W, rfl⟩
 clear hw_ w
 refine wpL_seq <| wpL_region ?_
 refine sBox hf hs rfl rfl rfl rfl rfl (cs := [.int .i64 ab.Events, .slice ac ab.Places.length ad]) rfl ?_; clear hf hs; intro a w b1 hs hf
 have hs : St [] W w [.blk b1 59 [.int .i64 ab.Events, .slice ac ab.Places.length ad]] := hs
 refine sY hf hs rfl rfl rfl (Y_assign rfl rfl) ?_; clear hf; intro a hf
 refine sY hf hs rfl rfl rfl (Y_assign rfl rfl) ?_; clear hf; intro a hf
 refine wpO_nil <| wpL_seq <| wpL_region ?_
 refine sAlloc hf hs rfl rfl rfl rfl ti23 ?_; clear hf hs; intro a w b2 hs hf
 have hs : St [] W w [.blk b1 59 [.int .i64 ab.Events, .slice ac ab.Places.length ad], .blk b2 23 [.slice none 0 0]] := hs
 refine wpO_nil <| wpL_seq ?_
 obtain ⟨r345, hl346, hm⟩ := bind_some hm
 have hs : St [] W _ [.blk b1 59 [.int .i64 ab.Events, .slice ac ab.Places.length ad], .blk b2 23 [.slice none 0 0], .row none 0 0 2 1 (ints ([] : List Int))] := hs.addNil 2 1
 refine wpL_block (fun a w => ∃ xs340 : List Int, ∃ A341, ∃ n342, ∃ c343, Sum.inr xs340 = r345 ∧ n342 = xs340.length ∧ Fr a 41 [(4, .pointer (some ⟨b2, 0, none⟩))] ∧ St [] W w [.blk b2 23 [.slice A341 n342 c343], .row A341 n342 c343 2 1 (ints xs340)]) ?_ ?_
 ·refine wpL_loop (fun n a w => ∃ xs227 : List Int, ∃ A228, ∃ n229, ∃ c230, impl_firingOrder_L4 F ab n xs227 = some r345 ∧ n229 = xs227.length ∧ Fr a 41 [(1, .pointer (some ⟨b1, 0, none⟩)), (4, .pointer (some ⟨b2, 0, none⟩))] ∧ St [] W w [.blk b1 59 [.int .i64 ab.Events, .slice ac ab.Places.length ad], .blk b2 23 [.slice A228 n229 c230], .row A228 n229 c230 2 1 (ints xs227)]) F ?_ ?_ ?_
  ·exact ⟨[], none, 0, 0, hl346, rfl, (FrD.pick (FrD.pick hf.none hf rfl) hf rfl), hs⟩
  ·rintro a w ⟨xs227, A228, n229, c230, h0_, -, -, -⟩; simp [impl_firingOrder_L4] at h0_
  ·rintro n348 a w ⟨xs227, A228, n229, c230, hm347, hn231, hf, hs⟩
   rw [impl_firingOrder_L4] at hm347
   refine wpL_seq <| wpL_seq <| wpL_region ?_
   refine sY hf hs rfl rfl rfl (Y_load_blk rfl rfl (i := 1) rfl rfl ag23) ?_; clear hf; intro a hf
   refine sY hf hs rfl rfl rfl (Y_lenH rfl rfl el23 hn231) ?_; clear hf; intro a hf
   refine sY hf hs rfl rfl rfl (Y_fieldAddr rfl rfl fo59_0) ?_; clear hf; intro a hf
   refine sY hf hs rfl rfl rfl (Y_load_blk rfl rfl (i := 0) rfl rfl ag2) ?_; clear hf; intro a hf
   refine sY hf hs rfl rfl rfl (Y_lss rfl rfl rfl) ?_; clear hf; intro a hf
   refine wpO_nil ?_
   refine wpL_cond hf rfl (fun hb349 => ?_) (fun hb349 => ?_)
   ·have hm347 := bif_t hm347 hb349
    refine wpL_skip <| wpL_block0 <| wpL_seq <| wpL_region ?_
    refine sY hf hs rfl rfl rfl (Y_assign rfl rfl) ?_; clear hf; intro a hf
    refine wpO_nil <| wpL_seq <| wpL_seq <| wpL_region ?_
    refine sAlloc hf hs rfl rfl rfl rfl ti2 ?_; clear hf hs; intro a w b350 hs hf
    have hs : St [] W w [.blk b1 59 [.int .i64 ab.Events, .slice ac ab.Places.length ad], .blk b2 23 [.slice A228 n229 c230], .row A228 n229 c230 2 1 (ints xs227), .blk b350 2 [.int .i64 0]] := hs
    refine sStore (i := 3) (us := [.int .i64 0]) hf hs rfl rfl rfl rfl rfl rfl ti2 rfl rfl rfl (Nat.le_of_ble_eq_true rfl) rfl ?_; clear hs; intro w hs
    have hs : St [] W w [.blk b1 59 [.int .i64 ab.Events, .slice ac ab.Places.length ad], .blk b2 23 [.slice A228 n229 c230], .row A228 n229 c230 2 1 (ints xs227), .blk b350 2 [.int .i64 0]] := hs
    refine wpO_nil ?_
    obtain ⟨r424, hl425, hm347⟩ := bind_some hm347
    refine wpL_block (fun a w => ∃ x423 : Int, x423 = r424 ∧ Fr a 41 [(1, .pointer (some ⟨b1, 0, none⟩)), (4, .pointer (some ⟨b2, 0, none⟩)), (5, .int .i64 x423)] ∧ St [] W w [.blk b1 59 [.int .i64 ab.Events, .slice ac ab.Places.length ad], .blk b2 23 [.slice A228 n229 c230], .row A228 n229 c230 2 1 (ints xs227)]) ?_ ?_
    ·refine wpL_loop (fun n a w => ∃ x398 : Int, ∃ x400 : Int, ∃ b399, impl_firingOrder_L5 F ab xs227 n x398 x400 = some r424 ∧ Fr a 41 [(1, .pointer (some ⟨b1, 0, none⟩)), (4, .pointer (some ⟨b2, 0, none⟩)), (5, .int .i64 x398), (6, .pointer (some ⟨b399, 0, none⟩))] ∧ St [] W w [.blk b1 59 [.int .i64 ab.Events, .slice ac ab.Places.length ad], .blk b2 23 [.slice A228 n229 c230], .row A228 n229 c230 2 1 (ints xs227), .blk b399 2 [.int .i64 x400]]) F ?_ ?_ ?_
     ·exact ⟨(-1), 0, b350, hl425, (FrD.pick (FrD.pick (FrD.pick (FrD.pick hf.none hf rfl) hf rfl) hf rfl) hf rfl), hs⟩
     ·rintro a w ⟨x398, x400, b399, h0_, -, -⟩; simp [impl_firingOrder_L5] at h0_
     ·rintro n427 a w ⟨x398, x400, b399, hm426, hf, hs⟩
      rw [impl_firingOrder_L5] at hm426
      refine wpL_seq <| wpL_seq ?_
      obtain ⟨r430, hj431, hm426⟩ := bind_some hm426
      refine wpL_cut (fun a w => ∃ b429 : Bool, b429 = r430 ∧ Fr a 41 [(1, .pointer (some ⟨b1, 0, none⟩)), (4, .pointer (some ⟨b2, 0, none⟩)), (5, .int .i64 x398), (6, .pointer (some ⟨b399, 0, none⟩)), (20, .bool b429)] ∧ St [] W w [.blk b1 59 [.int .i64 ab.Events, .slice ac ab.Places.length ad], .blk b2 23 [.slice A228 n229 c230], .row A228 n229 c230 2 1 (ints xs227), .blk b399 2 [.int .i64 x400]]) ?_ ?_
      ·refine wpL_region ?_
       refine sY hf hs rfl rfl rfl (Y_load_blk rfl rfl (i := 3) rfl rfl ag2) ?_; clear hf; intro a hf
       refine sY hf hs rfl rfl rfl (Y_fieldAddr rfl rfl fo59_0) ?_; clear hf; intro a hf
       refine sY hf hs rfl rfl rfl (Y_load_blk rfl rfl (i := 0) rfl rfl ag2) ?_; clear hf; intro a hf
       refine sY hf hs rfl rfl rfl (Y_lss rfl rfl rfl) ?_; clear hf; intro a hf
       refine sY hf hs rfl rfl rfl (Y_move rfl rfl) ?_; clear hf; intro a hf
       refine bsplit (decide (x400 < ab.Events)) (fun hb432 => ?_) (fun hb432 => ?_)
       ·have hj431 := bif_t hj431 hb432
        refine sYg hf hs rfl rfl rfl (congrArg (fun b => some (Value.bool b)) hb432) rfl rfl rfl (Y_move rfl rfl) ?_; clear hf; intro a hf
        refine sYg hf hs rfl rfl rfl (congrArg (fun b => some (Value.bool b)) hb432) rfl rfl rfl (Y_lss rfl rfl rfl) ?_; clear hf; intro a hf
        refine sY hf hs rfl rfl rfl (Y_pickT rfl (congrArg (fun b => some (Value.bool b)) hb432) rfl) ?_; clear hf; intro a hf
        refine wpO_nil ?_
        refine wpL_nil (then_normal ?_)
        exact ⟨(decide (x398 < 0)), Option.some.inj hj431, (FrD.pick (FrD.pick (FrD.pick (FrD.pick (FrD.pick hf.none hf rfl) hf rfl) hf rfl) hf rfl) hf rfl), hs⟩
       ·have hj431 := bif_f hj431 hb432
        refine sNo hf rfl rfl rfl (congrArg (fun b => some (Value.bool b)) hb432) rfl rfl rfl ?_; clear hf; intro a hf
        refine sNo hf rfl rfl rfl (congrArg (fun b => some (Value.bool b)) hb432) rfl rfl rfl ?_; clear hf; intro a hf
        refine sY hf hs rfl rfl rfl (Y_pickF rfl (congrArg (fun b => some (Value.bool b)) hb432) rfl) ?_; clear hf; intro a hf
        refine wpO_nil ?_
        refine wpL_nil (then_normal ?_)
        exact ⟨false, Option.some.inj hj431, (FrD.pick (FrD.pick (FrD.pick (FrD.pick (FrD.pick hf.none hf rfl) hf rfl) hf rfl) hf rfl) hf rfl), hs⟩
      ·rintro a w ⟨b429, hr_, hf, hs⟩
       subst hr_
       try dsimp only at hm426
       refine wpL_cond hf rfl (fun hb433 => ?_) (fun hb433 => ?_)
       ·have hm426 := bif_t hm426 hb433
        refine wpL_skip <| wpL_seq ?_
        obtain ⟨r441, hj442, hm426⟩ := bind_some hm426
        refine wpL_block (fun a w => ∃ x440 : Int, x440 = r441 ∧ Fr a 41 [(1, .pointer (some ⟨b1, 0, none⟩)), (4, .pointer (some ⟨b2, 0, none⟩)), (5, .int .i64 x440), (6, .pointer (some ⟨b399, 0, none⟩))] ∧ St [] W w [.blk b1 59 [.int .i64 ab.Events, .slice ac ab.Places.length ad], .blk b2 23 [.slice A228 n229 c230], .row A228 n229 c230 2 1 (ints xs227), .blk b399 2 [.int .i64 x400]]) ?_ ?_
        ·refine wpL_seq <| wpL_seq <| wpL_region ?_
         refine sY hf hs rfl rfl rfl (Y_load_blk rfl rfl (i := 1) rfl rfl ag23) ?_; clear hf; intro a hf
         refine sY hf hs rfl rfl rfl (Y_load_blk rfl rfl (i := 3) rfl rfl ag2) ?_; clear hf; intro a hf
         obtain ⟨r443, hc444, hj442⟩ := bind_some hj442
         refine sCall hf rfl rfl rfl rfl (cap := []) rfl rfl en151 (slices_Contains_int64_ok F xs227 A228 n229 c230 hn231 x400 _ _ hc444 (hs.rd (i := 2) rfl)) ?_; clear hf
         rintro _ w ⟨rfl, hs1⟩ a hf
         have hs : St [] W w [.blk b1 59 [.int .i64 ab.Events, .slice ac ab.Places.length ad], .blk b2 23 [.slice A228 n229 c230], .row A228 n229 c230 2 1 (ints xs227), .blk b399 2 [.int .i64 x400]] := hs.ext hs1.below
         clear hs1
         refine wpO_nil ?_
         refine wpL_cond hf rfl (fun hb445 => ?_) (fun hb445 => ?_)
         ·have hj442 := bif_t hj442 hb445
          refine wpL_exit (Qb_exit ?_)
          exact ⟨x398, Option.some.inj hj442, (FrD.pick (FrD.pick (FrD.pick (FrD.pick hf.none hf rfl) hf rfl) hf rfl) hf rfl), hs⟩
         ·have hj442 := bif_f hj442 hb445
          refine wpL_skip <| wpL_seq <| wpL_region ?_
          refine sY hf hs rfl rfl rfl (Y_fieldAddr rfl rfl fo59_1) ?_; clear hf; intro a hf
          refine sY hf hs rfl rfl rfl (Y_load_blk rfl rfl (i := 0) rfl rfl ag57) ?_; clear hf; intro a hf
          refine sY hf hs rfl rfl rfl (Y_makeFunc (us := []) (vs := [.pointer (some ⟨b399, 0, none⟩), .pointer (some ⟨b2, 0, none⟩)]) rfl rfl rfl) ?_; clear hf; intro a hf
          obtain ⟨r446, hc447, hj442⟩ := bind_some hj442
          refine sCall hf rfl rfl rfl rfl (cap := []) rfl rfl en138 (slices_ContainsFunc_Place_ok F ab.Places ac ab.Places.length ad rfl (fun x0 => impl_firingOrder_c1 F x0 x400 xs227) 187 ([.pointer (some ⟨b399, 0, none⟩), .pointer (some ⟨b2, 0, none⟩)]) _ _ hc447 (aq.at hs) (fun x0 r w' hm_ hb => impl_firingOrder_c1_ok F x0 b399 x400 b2 xs227 A228 n229 c230 hn231 r w' hm_ ((hs.pb (i := 3) rfl).below hb (Nat.le_refl _)) ((hs.rd (i := 2) rfl).below hb (Nat.le_refl _)) ((hs.pb (i := 1) rfl).below hb (Nat.le_refl _))) en187) ?_; clear hf
          rintro _ w ⟨rfl, hs1⟩ a hf
          have hs : St [] W w [.blk b1 59 [.int .i64 ab.Events, .slice ac ab.Places.length ad], .blk b2 23 [.slice A228 n229 c230], .row A228 n229 c230 2 1 (ints xs227), .blk b399 2 [.int .i64 x400]] := hs.ext hs1.below
          clear hs1
          refine sY hf hs rfl rfl rfl (Y_assign rfl rfl) ?_; clear hf; intro a hf
          refine wpO_nil <| wpL_seq <| wpL_region ?_
          refine sY hf hs rfl rfl rfl (Y_move rfl rfl) ?_; clear hf; intro a hf
          refine sY hf hs rfl rfl rfl (Y_not rfl rfl) ?_; clear hf; intro a hf
          refine wpO_nil ?_
          refine wpL_cond hf rfl (fun hb448 => ?_) (fun hb448 => ?_)
          ·have hj442 := bif_t hj442 hb448
           refine wpL_region ?_
           refine sY hf hs rfl rfl rfl (Y_load_blk rfl rfl (i := 3) rfl rfl ag2) ?_; clear hf; intro a hf
           refine sY hf hs rfl rfl rfl (Y_assign rfl rfl) ?_; clear hf; intro a hf
           refine wpO_nil ?_
           refine wpL_nil (Qb_normal ?_)
           exact ⟨x400, Option.some.inj hj442, (FrD.pick (FrD.pick (FrD.pick (FrD.pick hf.none hf rfl) hf rfl) hf rfl) hf rfl), hs⟩
          ·have hj442 := bif_f hj442 hb448
           refine wpL_skip ?_
           refine wpL_nil (Qb_normal ?_)
           exact ⟨x398, Option.some.inj hj442, (FrD.pick (FrD.pick (FrD.pick (FrD.pick hf.none hf rfl) hf rfl) hf rfl) hf rfl), hs⟩
        ·rintro a w ⟨x440, hr_, hf, hs⟩
         subst hr_
         try dsimp only at hm426
         refine wpL_seq <| wpL_seq <| wpL_region ?_
         refine sY hf hs rfl rfl rfl (Y_load_blk rfl rfl (i := 3) rfl rfl ag2) ?_; clear hf; intro a hf
         refine wpO_nil <| wpL_region ?_
         refine sAlloc hf hs rfl rfl rfl rfl ti2 ?_; clear hf hs; intro a w b449 hs hf
         have hs : St [] W w [.blk b1 59 [.int .i64 ab.Events, .slice ac ab.Places.length ad], .blk b2 23 [.slice A228 n229 c230], .row A228 n229 c230 2 1 (ints xs227), .blk b399 2 [.int .i64 x400], .blk b449 2 [.int .i64 0]] := hs
         refine sStore (i := 4) (us := [.int .i64 x400]) hf hs rfl rfl rfl rfl rfl rfl ti2 rfl rfl rfl (Nat.le_of_ble_eq_true rfl) rfl ?_; clear hs; intro w hs
         have hs : St [] W w [.blk b1 59 [.int .i64 ab.Events, .slice ac ab.Places.length ad], .blk b2 23 [.slice A228 n229 c230], .row A228 n229 c230 2 1 (ints xs227), .blk b399 2 [.int .i64 x400], .blk b449 2 [.int .i64 x400]] := hs
         refine wpO_nil <| wpL_region ?_
         refine sY hf hs rfl rfl rfl (Y_load_blk rfl rfl (i := 4) rfl rfl ag2) ?_; clear hf; intro a hf
         refine sY hf hs rfl rfl rfl (Y_add rfl rfl rfl) ?_; clear hf; intro a hf
         refine sStore (i := 4) (us := [.int .i64 (IntKind.i64.wrap (x400 + 1))]) hf hs rfl rfl rfl rfl rfl rfl ti2 rfl rfl rfl (Nat.le_of_ble_eq_true rfl) rfl ?_; clear hs; intro w hs
         have hs : St [] W w [.blk b1 59 [.int .i64 ab.Events, .slice ac ab.Places.length ad], .blk b2 23 [.slice A228 n229 c230], .row A228 n229 c230 2 1 (ints xs227), .blk b399 2 [.int .i64 x400], .blk b449 2 [.int .i64 (IntKind.i64.wrap (x400 + 1))]] := hs
         refine wpO_nil ?_
         refine wpL_nil (Ql_normal ?_)
         exact ⟨x440, (IntKind.i64.wrap (x400 + 1)), b449, hm426, (FrD.pick (FrD.pick (FrD.pick (FrD.pick hf.none hf rfl) hf rfl) hf rfl) hf rfl), hs.sel [0, 1, 2, 4] (by decide)⟩
       ·have hm426 := bif_f hm426 hb433
        refine wpL_exit (Ql_exit (Qb_exit ?_))
        exact ⟨x398, Option.some.inj hm426, (FrD.pick (FrD.pick (FrD.pick hf.none hf rfl) hf rfl) hf rfl), hs.sel [0, 1, 2] (by decide)⟩
    ·rintro a w ⟨x423, hr_, hf, hs⟩
     subst hr_
     try dsimp only at hm347
     refine wpL_seq <| wpL_seq <| wpL_region ?_
     refine sY hf hs rfl rfl rfl (Y_move rfl rfl) ?_; clear hf; intro a hf
     refine sY hf hs rfl rfl rfl (Y_lss rfl rfl rfl) ?_; clear hf; intro a hf
     refine wpO_nil ?_
     refine wpL_cond hf rfl (fun hb450 => ?_) (fun hb450 => ?_)
     ·have hm347 := bif_t hm347 hb450
      refine wpL_seq <| wpL_region ?_
      refine sY hf hs rfl rfl rfl (Y_assign rfl rfl) ?_; clear hf; intro a hf
      refine sY hf hs rfl rfl rfl (Y_assign rfl rfl) ?_; clear hf; intro a hf
      refine wpO_nil ?_
      have hs : St [] W _ [.blk b1 59 [.int .i64 ab.Events, .slice ac ab.Places.length ad], .blk b2 23 [.slice A228 n229 c230], .row A228 n229 c230 2 1 (ints xs227), .row none 0 0 2 1 (ints ([] : List Int))] := hs.addNil 2 1
      obtain rfl := Option.some.inj hm347
      try dsimp only at hm
      obtain rfl := Option.some.inj hm
      refine wpL_ret (Qb_ret (Ql_ret (Qb_ret (ret_tmp2 rfl hf rfl rfl ?_))))
      exact ⟨_, rfl, none, 0, 0, rfl, rfl, hs.sel [3] (by decide)⟩
     ·have hm347 := bif_f hm347 hb450
      refine wpL_skip <| wpL_region ?_
      refine sY hf hs rfl rfl rfl (Y_load_blk rfl rfl (i := 1) rfl rfl ag23) ?_; clear hf; intro a hf
      refine sY hf hs rfl rfl rfl (Y_move rfl rfl) ?_; clear hf; intro a hf
      refine sBuildSlice (parts := [(0, .tmp 37)]) (vs := [.int .i64 x423]) (cells := [.int .i64 x423]) hf hs rfl rfl rfl rfl rfl el23 ti2 rfl rfl rfl rfl ?_; clear hf hs; intro a w A452 hs hA453 hf
      have hs : St [] W w [.blk b1 59 [.int .i64 ab.Events, .slice ac ab.Places.length ad], .blk b2 23 [.slice A228 n229 c230], .row A228 n229 c230 2 1 (ints xs227), .row A452 1 1 2 1 (ints ([x423]))] := hs
      obtain ⟨xs456, ha457, hm347⟩ := bind_some hm347
      refine sAppendL (i := 2) (xs := xs227) (ys := [x423]) (enc := ints) hf hs rfl rfl rfl rfl rfl rfl hn231 rfl rfl ha457 el23 ti2 rfl rfl rfl (hs.rd (i := 3) rfl) (Nat.succ_pos _) ints_len1 ints_append ints_one ?_; clear hf hs; intro a w A454 c455 hs hf
      have hs : St [] W w [.blk b1 59 [.int .i64 ab.Events, .slice ac ab.Places.length ad], .blk b2 23 [.slice A228 n229 c230], .row A454 xs456.length c455 2 1 (ints xs456), .row A452 1 1 2 1 (ints ([x423]))] := hs
      refine sStore (i := 1) (us := [.slice A454 xs456.length c455]) hf hs rfl rfl rfl rfl rfl rfl ti23 rfl rfl rfl (Nat.le_of_ble_eq_true rfl) rfl ?_; clear hs; intro w hs
      have hs : St [] W w [.blk b1 59 [.int .i64 ab.Events, .slice ac ab.Places.length ad], .blk b2 23 [.slice A454 xs456.length c455], .row A454 xs456.length c455 2 1 (ints xs456), .row A452 1 1 2 1 (ints ([x423]))] := hs
      refine wpO_nil ?_
      refine wpL_nil (Qb_normal ?_)
      refine wpL_nil (Ql_normal ?_)
      exact ⟨xs456, A454, xs456.length, c455, hm347, rfl, (FrD.pick (FrD.pick hf.none hf rfl) hf rfl), hs.sel [0, 1, 2] (by decide)⟩
   ·have hm347 := bif_f hm347 hb349
    refine wpL_exit (Ql_exit (Qb_exit ?_))
    exact ⟨xs227, A228, n229, c230, Option.some.inj hm347, hn231, (FrD.pick hf.none hf rfl), hs.sel [1, 2] (by decide)⟩
 ·rintro a w ⟨xs340, A341, n342, c343, hr_, hn344, hf, hs⟩
  subst hr_
  try dsimp only at hm
  refine wpL_seq <| wpL_region ?_
  refine sY hf hs rfl rfl rfl (Y_load_blk rfl rfl (i := 0) rfl rfl ag23) ?_; clear hf; intro a hf
  refine sY hf hs rfl rfl rfl (Y_assign rfl rfl) ?_; clear hf; intro a hf
  refine sY hf hs rfl rfl rfl (Y_assign rfl rfl) ?_; clear hf; intro a hf
  refine wpO_nil ?_
  obtain rfl := Option.some.inj hm
  refine wpL_ret (ret_tmp2 rfl hf rfl rfl ?_)
  exact ⟨_, rfl, A341, n342, c343, rfl, hn344, hs.sel [1] (by decide)⟩

set_option maxRecDepth 100000 in
theorem impl_isLive_ok (F : Nat) (ab : GEventGraph) (ac : Option Addr) (ap ad : Nat) (ax : ap = ab.Places.length) (r : Bool) (W : World) (hm : impl_isLive F ab = some r) (aq : Rd W ac ((recs GPlace.cells) ab.Places)) :
  Calls Try.prog 174 [.agg #[.int .i64 ab.Events, .slice ac ap ad]].toArray W fun e w' => ∃ v, e = .returned v ∧ v = .bool r ∧ St [] W w' [] := by
 subst ax
 unfold impl_isLive at hm
 refine Calls.enter (N := 11) Try.func174 rfl rfl rfl (fun a hf => ?_)
 have hs := St.start W
 obtain ⟨w, hw_⟩ : ∃ w, w = W := ⟨W, rfl⟩
 clear hw_ w
 refine wpL_seq <| wpL_region ?_
 refine sBox hf hs rfl rfl rfl rfl rfl (cs := [.int .i64 ab.Events, .slice ac ab.Places.length ad]) rfl ?_; clear hf hs; intro a w b1 hs hf
 have hs : St [] W w [.blk b1 59 [.int .i64 ab.Events, .slice ac ab.Places.length ad]] := hs
 refine sY hf hs rfl rfl rfl (Y_assign rfl rfl) ?_; clear hf; intro a hf
 refine wpO_nil <| wpL_seq <| wpL_region ?_
 refine sY hf hs rfl rfl rfl (Y_load_blkS rfl rfl (i := 0) rfl ag59 ti59 rfl) ?_; clear hf; intro a hf
 obtain ⟨r2, hc3, hm⟩ := bind_some hm
 refine sCall hf rfl rfl rfl rfl (cap := []) rfl rfl en175 (impl_firingOrder_ok F ab ac ab.Places.length ad rfl _ _ hc3 (aq.at hs)) ?_; clear hf
 rintro _ w ⟨A4, n5, c6, rfl, hn7, hs1⟩ a hf
 have hs : St [] W w [.blk b1 59 [.int .i64 ab.Events, .slice ac ab.Places.length ad], .row A4 n5 c6 2 1 (ints r2.1)] := hs.join hs1
 clear hs1
 refine sY hf hs rfl rfl rfl (Y_move rfl rfl) ?_; clear hf; intro a hf
 refine sY hf hs rfl rfl rfl (Y_extract rfl rfl rfl) ?_; clear hf; intro a hf
 refine sY hf hs rfl rfl rfl (Y_extract rfl rfl rfl) ?_; clear hf; intro a hf
 refine sY hf hs rfl rfl rfl (Y_assign rfl rfl) ?_; clear hf; intro a hf
 refine sY hf hs rfl rfl rfl (Y_assign rfl rfl) ?_; clear hf; intro a hf
 refine wpO_nil <| wpL_seq <| wpL_region ?_
 refine sY hf hs rfl rfl rfl (Y_move rfl rfl) ?_; clear hf; intro a hf
 refine sY hf hs rfl rfl rfl (Y_assign rfl rfl) ?_; clear hf; intro a hf
 refine wpO_nil ?_
 obtain rfl := Option.some.inj hm
 refine wpL_ret (ret_tmp rfl hf rfl ?_)
 exact ⟨_, rfl, rfl, hs.sel [] (by decide)⟩

set_option maxRecDepth 100000 in
theorem impl_tokenDistances_ok (F : Nat) (p0 : GEventGraph) (av : Option Addr) (bi aw : Nat) (bt : bi = p0.Places.length) (p1 : Int) (r : List Int) (W : World) (hm : impl_tokenDistances F p0 p1 = some r) (aX : Rd W av ((recs GPlace.cells) p0.Places)) :
  Calls Try.prog 189 [.agg #[.int .i64 p0.Events, .slice av bi aw], .int .i64 p1].toArray W fun e w' => ∃ v, e = .returned v ∧ ∃ A1044, ∃ n1045, ∃ c1046, v = .slice A1044 n1045 c1046 ∧ n1045 = r.length ∧ St [] W w' [.row A1044 n1045 c1046 2 1 (ints r)] := by
 subst bt
 unfold impl_tokenDistances at hm
 refine Calls.enter (N := 70) Try.func189 rfl rfl rfl (fun a hf => ?_)
 have hs := St.start W
 obtain ⟨w, hw_⟩ : ∃ w, w = W := ⟨W, rfl⟩
 clear hw_ w
 refine wpL_seq <| wpL_region ?_
 refine sBox hf hs rfl rfl rfl rfl rfl (cs := [.int .i64 p0.Events, .slice av p0.Places.length aw]) rfl ?_; clear hf hs; intro a w b1 hs hf
 have hs : St [] W w [.blk b1 59 [.int .i64 p0.Events, .slice av p0.Places.length aw]] := hs
 refine sY hf hs rfl rfl rfl (Y_assign rfl rfl) ?_; clear hf; intro a hf
 refine wpO_nil <| wpL_seq <| wpL_region ?_
 refine sY hf hs rfl rfl rfl (Y_fieldAddr rfl rfl fo59_0) ?_; clear hf; intro a hf
 refine sY hf hs rfl rfl rfl (Y_load_blk rfl rfl (i := 0) rfl rfl ag2) ?_; clear hf; intro a hf
 obtain ⟨xs4, hk3, hm⟩ := bind_some hm
 refine sMakeL (enc := ints) hf hs rfl rfl rfl rfl rfl hk3 el23 ti2 rfl ints_made ?_; clear hf hs; intro a w A2 hs hf
 have hs : St [] W w [.blk b1 59 [.int .i64 p0.Events, .slice av p0.Places.length aw], .row A2 xs4.length xs4.length 2 1 (ints xs4)] := hs
 refine sY hf hs rfl rfl rfl (Y_assign rfl rfl) ?_; clear hf; intro a hf
 refine wpO_nil <| wpL_seq <| wpL_seq <| wpL_region ?_
 refine sY hf hs rfl rfl rfl (Y_move rfl rfl) ?_; clear hf; intro a hf
 refine sY hf hs rfl rfl rfl (Y_lenH rfl rfl el23 rfl) ?_; clear hf; intro a hf
 refine sY hf hs rfl rfl rfl (Y_move rfl rfl) ?_; clear hf; intro a hf
 refine wpO_nil ?_
 obtain ⟨r28, hl29, hm⟩ := bind_some hm
 refine wpL_block (fun a w => ∃ xs26 : List Int, xs26 = r28 ∧ xs4.length = xs26.length ∧ Fr a 70 [(1, .int .i64 p1), (2, .pointer (some ⟨b1, 0, none⟩)), (5, .slice A2 xs4.length xs4.length)] ∧ St [] W w [.blk b1 59 [.int .i64 p0.Events, .slice av p0.Places.length aw], .row A2 xs4.length xs4.length 2 1 (ints xs26)]) ?_ ?_
 ·refine wpL_loop (fun n a w => ∃ xs18 : List Int, ∃ x20 : Int, impl_tokenDistances_L1 F xs4 n xs18 x20 = some r28 ∧ xs4.length = xs18.length ∧ Fr a 70 [(1, .int .i64 p1), (2, .pointer (some ⟨b1, 0, none⟩)), (5, .slice A2 xs4.length xs4.length), (15, .int .i64 (xs4.length : Int)), (16, .int .i64 x20)] ∧ St [] W w [.blk b1 59 [.int .i64 p0.Events, .slice av p0.Places.length aw], .row A2 xs4.length xs4.length 2 1 (ints xs18)]) F ?_ ?_ ?_
  ·exact ⟨xs4, 0, hl29, rfl, (FrD.pick (FrD.pick (FrD.pick (FrD.pick (FrD.pick hf.none hf rfl) hf rfl) hf rfl) hf rfl) hf rfl), hs⟩
  ·rintro a w ⟨xs18, x20, h0_, -, -, -⟩; simp [impl_tokenDistances_L1] at h0_
  ·rintro n31 a w ⟨xs18, x20, hm30, hn19, hf, hs⟩
   rw [impl_tokenDistances_L1] at hm30
   refine wpL_seq <| wpL_region ?_
   refine sY hf hs rfl rfl rfl (Y_lss rfl rfl rfl) ?_; clear hf; intro a hf
   refine wpO_nil <| wpL_seq ?_
   refine wpL_cond hf rfl (fun hb32 => ?_) (fun hb32 => ?_)
   ·have hm30 := bif_t hm30 hb32
    refine wpL_skip <| wpL_seq <| wpL_block0 <| wpL_seq <| wpL_region ?_
    refine sY hf hs rfl rfl rfl (Y_move rfl rfl) ?_; clear hf; intro a hf
    refine sY hf hs rfl rfl rfl (Y_assign rfl rfl) ?_; clear hf; intro a hf
    refine wpO_nil <| wpL_region ?_
    refine sY hf hs rfl rfl rfl (Y_move rfl rfl) ?_; clear hf; intro a hf
    refine sY hf hs rfl rfl rfl (Y_move rfl rfl) ?_; clear hf; intro a hf
    obtain ⟨q33, hi34, hm30⟩ := bind_some hm30
    obtain ⟨hi34a, hi34b, hi34q⟩ := idx_some hi34
    refine sY hf hs rfl rfl rfl (Y_index rfl rfl rfl el23 ti2 (Rd.isAt (hs.rd (i := 1) rfl) (at1 (ints_at hi34q))) hi34a (ltn hn19 hi34b)) ?_; clear hf; intro a hf
    obtain ⟨xs35, hu36, hm30⟩ := bind_some hm30
    refine sStoreL (i := 1) (us := [.int .i64 (-1)]) (enc := ints) hf hs rfl rfl rfl rfl rfl rfl hn19 hu36 ti2 rfl rfl rfl rfl rfl ints_len1 (ints_set (-1)) ?_; clear hs; intro w hs
    have hs : St [] W w [.blk b1 59 [.int .i64 p0.Events, .slice av p0.Places.length aw], .row A2 xs4.length xs4.length 2 1 (ints xs35)] := hs
    refine wpO_nil ?_
    refine wpL_nil (Qb_normal ?_)
    refine wpL_region ?_
    refine sY hf hs rfl rfl rfl (Y_add rfl rfl rfl) ?_; clear hf; intro a hf
    refine sY hf hs rfl rfl rfl (Y_move rfl rfl) ?_; clear hf; intro a hf
    refine wpO_nil ?_
    refine wpL_nil (Ql_normal ?_)
    exact ⟨xs35, (IntKind.i64.wrap (x20 + 1)), hm30, ((hn19).trans (upd_len hu36).symm), (FrD.pick (FrD.pick (FrD.pick (FrD.pick (FrD.pick hf.none hf rfl) hf rfl) hf rfl) hf rfl) hf rfl), hs⟩
   ·have hm30 := bif_f hm30 hb32
    refine wpL_exit (Ql_exit (Qb_exit ?_))
    exact ⟨xs18, Option.some.inj hm30, hn19, (FrD.pick (FrD.pick (FrD.pick hf.none hf rfl) hf rfl) hf rfl), hs⟩
 ·rintro a w ⟨xs26, hr_, hn27, hf, hs⟩
  subst hr_
  try dsimp only at hm
  refine wpL_seq <| wpL_region ?_
  refine sY hf hs rfl rfl rfl (Y_move rfl rfl) ?_; clear hf; intro a hf
  refine sY hf hs rfl rfl rfl (Y_move rfl rfl) ?_; clear hf; intro a hf
  obtain ⟨q37, hi38, hm⟩ := bind_some hm
  obtain ⟨hi38a, hi38b, hi38q⟩ := idx_some hi38
  refine sY hf hs rfl rfl rfl (Y_index rfl rfl rfl el23 ti2 (Rd.isAt (hs.rd (i := 1) rfl) (at1 (ints_at hi38q))) hi38a (ltn hn27 hi38b)) ?_; clear hf; intro a hf
  obtain ⟨xs39, hu40, hm⟩ := bind_some hm
  refine sStoreL (i := 1) (us := [.int .i64 0]) (enc := ints) hf hs rfl rfl rfl rfl rfl rfl hn27 hu40 ti2 rfl rfl rfl rfl rfl ints_len1 (ints_set 0) ?_; clear hs; intro w hs
  have hs : St [] W w [.blk b1 59 [.int .i64 p0.Events, .slice av p0.Places.length aw], .row A2 xs4.length xs4.length 2 1 (ints xs39)] := hs
  refine wpO_nil <| wpL_seq <| wpL_seq <| wpL_region ?_
  refine sY hf hs rfl rfl rfl (Y_assign rfl rfl) ?_; clear hf; intro a hf
  refine wpO_nil ?_
  obtain ⟨r792, hl793, hm⟩ := bind_some hm
  refine wpL_block (fun a w => ∃ xs790 : List Int, xs790 = r792 ∧ xs4.length = xs790.length ∧ Fr a 70 [(5, .slice A2 xs4.length xs4.length)] ∧ St [] W w [.row A2 xs4.length xs4.length 2 1 (ints xs790)]) ?_ ?_
  ·refine wpL_loop (fun n a w => ∃ xs539 : List Int, ∃ b541 : Bool, impl_tokenDistances_L5 F p0 n xs539 b541 = some r792 ∧ xs4.length = xs539.length ∧ Fr a 70 [(2, .pointer (some ⟨b1, 0, none⟩)), (5, .slice A2 xs4.length xs4.length), (7, .bool b541)] ∧ St [] W w [.blk b1 59 [.int .i64 p0.Events, .slice av p0.Places.length aw], .row A2 xs4.length xs4.length 2 1 (ints xs539)]) F ?_ ?_ ?_
   ·exact ⟨xs39, true, hl793, ((hn27).trans (upd_len hu40).symm), (FrD.pick (FrD.pick (FrD.pick hf.none hf rfl) hf rfl) hf rfl), hs⟩
   ·rintro a w ⟨xs539, b541, h0_, -, -, -⟩; simp [impl_tokenDistances_L5] at h0_
   ·rintro n795 a w ⟨xs539, b541, hm794, hn540, hf, hs⟩
    rw [impl_tokenDistances_L5] at hm794
    refine wpL_seq <| wpL_seq <| wpL_region ?_
    refine sY hf hs rfl rfl rfl (Y_move rfl rfl) ?_; clear hf; intro a hf
    refine wpO_nil ?_
    refine wpL_cond hf rfl (fun hb796 => ?_) (fun hb796 => ?_)
    ·have hm794 := bif_t hm794 hb796
     refine wpL_skip <| wpL_block0 <| wpL_seq <| wpL_region ?_
     refine sY hf hs rfl rfl rfl (Y_assign rfl rfl) ?_; clear hf; intro a hf
     refine wpO_nil <| wpL_seq <| wpL_region ?_
     refine sY hf hs rfl rfl rfl (Y_fieldAddr rfl rfl fo59_1) ?_; clear hf; intro a hf
     refine sY hf hs rfl rfl rfl (Y_load_blk rfl rfl (i := 0) rfl rfl ag57) ?_; clear hf; intro a hf
     refine sY hf hs rfl rfl rfl (Y_lenH rfl rfl el57 rfl) ?_; clear hf; intro a hf
     refine sY hf hs rfl rfl rfl (Y_move rfl rfl) ?_; clear hf; intro a hf
     refine wpO_nil ?_
     obtain ⟨r982, hl983, hm794⟩ := bind_some hm794
     refine wpL_block (fun a w => ∃ xs979 : List Int, ∃ b981 : Bool, (xs979, b981) = r982 ∧ xs4.length = xs979.length ∧ Fr a 70 [(2, .pointer (some ⟨b1, 0, none⟩)), (5, .slice A2 xs4.length xs4.length), (7, .bool b981)] ∧ St [] W w [.blk b1 59 [.int .i64 p0.Events, .slice av p0.Places.length aw], .row A2 xs4.length xs4.length 2 1 (ints xs979)]) ?_ ?_
     ·refine wpL_loop (fun n a w => ∃ xs917 : List Int, ∃ b919 : Bool, ∃ x920 : Int, impl_tokenDistances_L6 F p0 n xs917 b919 x920 = some r982 ∧ xs4.length = xs917.length ∧ Fr a 70 [(2, .pointer (some ⟨b1, 0, none⟩)), (5, .slice A2 xs4.length xs4.length), (7, .bool b919), (28, .slice av p0.Places.length aw), (29, .int .i64 (p0.Places.length : Int)), (30, .int .i64 x920)] ∧ St [] W w [.blk b1 59 [.int .i64 p0.Events, .slice av p0.Places.length aw], .row A2 xs4.length xs4.length 2 1 (ints xs917)]) F ?_ ?_ ?_
      ·exact ⟨xs539, false, 0, hl983, hn540, (FrD.pick (FrD.pick (FrD.pick (FrD.pick (FrD.pick (FrD.pick hf.none hf rfl) hf rfl) hf rfl) hf rfl) hf rfl) hf rfl), hs⟩
      ·rintro a w ⟨xs917, b919, x920, h0_, -, -, -⟩; simp [impl_tokenDistances_L6] at h0_
      ·rintro n985 a w ⟨xs917, b919, x920, hm984, hn918, hf, hs⟩
       rw [impl_tokenDistances_L6] at hm984
       refine wpL_seq <| wpL_region ?_
       refine sY hf hs rfl rfl rfl (Y_lss rfl rfl rfl) ?_; clear hf; intro a hf
       refine wpO_nil <| wpL_seq ?_
       refine wpL_cond hf rfl (fun hb986 => ?_) (fun hb986 => ?_)
       ·have hm984 := bif_t hm984 hb986
        refine wpL_skip <| wpL_seq ?_
        obtain ⟨r1016, hj1017, hm984⟩ := bind_some hm984
        refine wpL_block (fun a w => ∃ xs1013 : List Int, ∃ b1015 : Bool, (xs1013, b1015) = r1016 ∧ xs4.length = xs1013.length ∧ Fr a 70 [(2, .pointer (some ⟨b1, 0, none⟩)), (5, .slice A2 xs4.length xs4.length), (7, .bool b1015), (28, .slice av p0.Places.length aw), (29, .int .i64 (p0.Places.length : Int)), (30, .int .i64 x920)] ∧ St [] W w [.blk b1 59 [.int .i64 p0.Events, .slice av p0.Places.length aw], .row A2 xs4.length xs4.length 2 1 (ints xs1013)]) ?_ ?_
        ·refine wpL_seq <| wpL_region ?_
         obtain ⟨q1018, hi1019, hj1017⟩ := bind_some hj1017
         obtain ⟨hi1019a, hi1019b, hi1019q⟩ := idx_some hi1019
         refine sY hf hs rfl rfl rfl (Y_index rfl rfl rfl el57 ti127 (Rd.isAt (aX.at hs) (recs_at (s := 4) GPlace.len hi1019q (j := 0) rfl)) hi1019a hi1019b) ?_; clear hf; intro a hf
         refine sY hf hs rfl rfl rfl (Y_load_rdS rfl rfl (us := [.int .i64 q1018.From, .int .i64 q1018.To, .int .i64 q1018.Delay, .int .i64 q1018.Tokens]) (fun w hs => aX.at hs) (fun j u hj => recs_at (s := 4) GPlace.len hi1019q hj) (Nat.succ_pos _) ag127 ti127 rfl) ?_; clear hf; intro a hf
         refine sAlloc hf hs rfl rfl rfl rfl ti127 ?_; clear hf hs; intro a w b1020 hs hf
         have hs : St [] W w [.blk b1 59 [.int .i64 p0.Events, .slice av p0.Places.length aw], .row A2 xs4.length xs4.length 2 1 (ints xs917), .blk b1020 127 [.int .i64 0, .int .i64 0, .int .i64 0, .int .i64 0]] := hs
         refine sStore (i := 2) (us := [.int .i64 q1018.From, .int .i64 q1018.To, .int .i64 q1018.Delay, .int .i64 q1018.Tokens]) hf hs rfl rfl rfl rfl rfl rfl ti127 rfl rfl rfl (Nat.le_of_ble_eq_true rfl) rfl ?_; clear hs; intro w hs
         have hs : St [] W w [.blk b1 59 [.int .i64 p0.Events, .slice av p0.Places.length aw], .row A2 xs4.length xs4.length 2 1 (ints xs917), .blk b1020 127 [.int .i64 q1018.From, .int .i64 q1018.To, .int .i64 q1018.Delay, .int .i64 q1018.Tokens]] := hs
         refine wpO_nil <| wpL_seq <| wpL_seq <| wpL_region ?_
         refine sY hf hs rfl rfl rfl (Y_move rfl rfl) ?_; clear hf; intro a hf
         refine sY hf hs rfl rfl rfl (Y_fieldAddr rfl rfl fo127_0) ?_; clear hf; intro a hf
         refine sY hf hs rfl rfl rfl (Y_load_blk rfl rfl (i := 2) rfl rfl ag2) ?_; clear hf; intro a hf
         obtain ⟨q1021, hi1022, hj1017⟩ := bind_some hj1017
         obtain ⟨hi1022a, hi1022b, hi1022q⟩ := idx_some hi1022
         refine sY hf hs rfl rfl rfl (Y_index rfl rfl rfl el23 ti2 (Rd.isAt (hs.rd (i := 1) rfl) (at1 (ints_at hi1022q))) hi1022a (ltn hn918 hi1022b)) ?_; clear hf; intro a hf
         refine sY hf hs rfl rfl rfl (Y_load_rd rfl rfl (fun w hs => hs.rd (i := 1) rfl) (at1 (ints_at hi1022q)) ag2) ?_; clear hf; intro a hf
         refine sY hf hs rfl rfl rfl (Y_lss rfl rfl rfl) ?_; clear hf; intro a hf
         refine wpO_nil ?_
         refine wpL_cond hf rfl (fun hb1023 => ?_) (fun hb1023 => ?_)
         ·have hj1017 := bif_t hj1017 hb1023
          refine wpL_exit (Qb_exit ?_)
          exact ⟨xs917, b919, Option.some.inj hj1017, hn918, (FrD.pick (FrD.pick (FrD.pick (FrD.pick (FrD.pick (FrD.pick hf.none hf rfl) hf rfl) hf rfl) hf rfl) hf rfl) hf rfl), hs.sel [0, 1] (by decide)⟩
         ·have hj1017 := bif_f hj1017 hb1023
          refine wpL_skip <| wpL_seq ?_
          refine wpL_draw (by kernel_rfl) (by kernel_rfl) hs ?_
          refine qY hf rfl rfl rfl (Y_move rfl rfl) ?_; clear hf; intro a hf
          refine qY hf rfl rfl rfl (Y_fieldAddr rfl rfl fo127_0) ?_; clear hf; intro a hf
          refine qY hf rfl rfl rfl (Y_load_blk rfl rfl (i := 2) rfl rfl ag2) ?_; clear hf; intro a hf
          obtain ⟨q1024, hi1025, hj1017⟩ := bind_some hj1017
          obtain ⟨hi1025a, hi1025b, hi1025q⟩ := idx_some hi1025
          refine qY hf rfl rfl rfl (Y_index rfl rfl rfl el23 ti2 (Rd.isAt (hs.rd (i := 1) rfl) (at1 (ints_at hi1025q))) hi1025a (ltn hn918 hi1025b)) ?_; clear hf; intro a hf
          refine qY hf rfl rfl rfl (Y_load_rd rfl rfl (fun w hs => hs.rd (i := 1) rfl) (at1 (ints_at hi1025q)) ag2) ?_; clear hf; intro a hf
          refine qY hf rfl rfl rfl (Y_fieldAddr rfl rfl fo127_3) ?_; clear hf; intro a hf
          refine qY hf rfl rfl rfl (Y_load_blk rfl rfl (i := 2) rfl rfl ag2) ?_; clear hf; intro a hf
          refine qY hf rfl rfl rfl (Y_add rfl rfl rfl) ?_; clear hf; intro a hf
          refine qY hf rfl rfl rfl (Y_assign rfl rfl) ?_; clear hf; intro a hf
          refine qNil ?_; clear hs; intro w hs
          refine wpL_seq ?_
          obtain ⟨r1032, hj1033, hj1017⟩ := bind_some hj1017
          refine wpL_cut (fun a w => ∃ b1031 : Bool, b1031 = r1032 ∧ Fr a 70 [(2, .pointer (some ⟨b1, 0, none⟩)), (5, .slice A2 xs4.length xs4.length), (7, .bool b919), (9, .pointer (some ⟨b1020, 0, none⟩)), (10, .int .i64 (IntKind.i64.wrap (q1024 + q1018.Tokens))), (28, .slice av p0.Places.length aw), (29, .int .i64 (p0.Places.length : Int)), (30, .int .i64 x920), (62, .bool b1031)] ∧ St [] W w [.blk b1 59 [.int .i64 p0.Events, .slice av p0.Places.length aw], .row A2 xs4.length xs4.length 2 1 (ints xs917), .blk b1020 127 [.int .i64 q1018.From, .int .i64 q1018.To, .int .i64 q1018.Delay, .int .i64 q1018.Tokens]]) ?_ ?_
          ·refine wpL_region ?_
           refine sY hf hs rfl rfl rfl (Y_move rfl rfl) ?_; clear hf; intro a hf
           refine sY hf hs rfl rfl rfl (Y_fieldAddr rfl rfl fo127_1) ?_; clear hf; intro a hf
           refine sY hf hs rfl rfl rfl (Y_load_blk rfl rfl (i := 2) rfl rfl ag2) ?_; clear hf; intro a hf
           obtain ⟨q1034, hi1035, hj1033⟩ := bind_some hj1033
           obtain ⟨hi1035a, hi1035b, hi1035q⟩ := idx_some hi1035
           refine sY hf hs rfl rfl rfl (Y_index rfl rfl rfl el23 ti2 (Rd.isAt (hs.rd (i := 1) rfl) (at1 (ints_at hi1035q))) hi1035a (ltn hn918 hi1035b)) ?_; clear hf; intro a hf
           refine sY hf hs rfl rfl rfl (Y_load_rd rfl rfl (fun w hs => hs.rd (i := 1) rfl) (at1 (ints_at hi1035q)) ag2) ?_; clear hf; intro a hf
           refine sY hf hs rfl rfl rfl (Y_lss rfl rfl rfl) ?_; clear hf; intro a hf
           refine sY hf hs rfl rfl rfl (Y_move rfl rfl) ?_; clear hf; intro a hf
           refine bsplit (decide (q1034 < 0)) (fun hb1036 => ?_) (fun hb1036 => ?_)
           ·have hj1033 := bif_t hj1033 hb1036
            refine sNo hf rfl rfl rfl (congrArg (fun b => some (Value.bool b)) hb1036) rfl rfl rfl ?_; clear hf; intro a hf
            refine sNo hf rfl rfl rfl (congrArg (fun b => some (Value.bool b)) hb1036) rfl rfl rfl ?_; clear hf; intro a hf
            refine sNo hf rfl rfl rfl (congrArg (fun b => some (Value.bool b)) hb1036) rfl rfl rfl ?_; clear hf; intro a hf
            refine sNo hf rfl rfl rfl (congrArg (fun b => some (Value.bool b)) hb1036) rfl rfl rfl ?_; clear hf; intro a hf
            refine sNo hf rfl rfl rfl (congrArg (fun b => some (Value.bool b)) hb1036) rfl rfl rfl ?_; clear hf; intro a hf
            refine sNo hf rfl rfl rfl (congrArg (fun b => some (Value.bool b)) hb1036) rfl rfl rfl ?_; clear hf; intro a hf
            refine sNo hf rfl rfl rfl (congrArg (fun b => some (Value.bool b)) hb1036) rfl rfl rfl ?_; clear hf; intro a hf
            refine sY hf hs rfl rfl rfl (Y_pickT rfl (congrArg (fun b => some (Value.bool b)) hb1036) rfl) ?_; clear hf; intro a hf
            refine wpO_nil ?_
            refine wpL_nil (then_normal ?_)
            exact ⟨true, Option.some.inj hj1033, (FrD.pick (FrD.pick (FrD.pick (FrD.pick (FrD.pick (FrD.pick (FrD.pick (FrD.pick (FrD.pick hf.none hf rfl) hf rfl) hf rfl) hf rfl) hf rfl) hf rfl) hf rfl) hf rfl) hf rfl), hs⟩
           ·have hj1033 := bif_f hj1033 hb1036
            refine sYg hf hs rfl rfl rfl (congrArg (fun b => some (Value.bool b)) hb1036) rfl rfl rfl (Y_move rfl rfl) ?_; clear hf; intro a hf
            refine sYg hf hs rfl rfl rfl (congrArg (fun b => some (Value.bool b)) hb1036) rfl rfl rfl (Y_move rfl rfl) ?_; clear hf; intro a hf
            refine sYg hf hs rfl rfl rfl (congrArg (fun b => some (Value.bool b)) hb1036) rfl rfl rfl (Y_fieldAddr rfl rfl fo127_1) ?_; clear hf; intro a hf
            refine sYg hf hs rfl rfl rfl (congrArg (fun b => some (Value.bool b)) hb1036) rfl rfl rfl (Y_load_blk rfl rfl (i := 2) rfl rfl ag2) ?_; clear hf; intro a hf
            obtain ⟨q1037, hi1038, hj1033⟩ := bind_some hj1033
            obtain ⟨hi1038a, hi1038b, hi1038q⟩ := idx_some hi1038
            refine sYg hf hs rfl rfl rfl (congrArg (fun b => some (Value.bool b)) hb1036) rfl rfl rfl (Y_index rfl rfl rfl el23 ti2 (Rd.isAt (hs.rd (i := 1) rfl) (at1 (ints_at hi1038q))) hi1038a (ltn hn918 hi1038b)) ?_; clear hf; intro a hf
            refine sYg hf hs rfl rfl rfl (congrArg (fun b => some (Value.bool b)) hb1036) rfl rfl rfl (Y_load_rd rfl rfl (fun w hs => hs.rd (i := 1) rfl) (at1 (ints_at hi1038q)) ag2) ?_; clear hf; intro a hf
            refine sYg hf hs rfl rfl rfl (congrArg (fun b => some (Value.bool b)) hb1036) rfl rfl rfl (Y_lss rfl rfl rfl) ?_; clear hf; intro a hf
            refine sY hf hs rfl rfl rfl (Y_pickF rfl (congrArg (fun b => some (Value.bool b)) hb1036) rfl) ?_; clear hf; intro a hf
            refine wpO_nil ?_
            refine wpL_nil (then_normal ?_)
            exact ⟨(decide ((IntKind.i64.wrap (q1024 + q1018.Tokens)) < q1037)), Option.some.inj hj1033, (FrD.pick (FrD.pick (FrD.pick (FrD.pick (FrD.pick (FrD.pick (FrD.pick (FrD.pick (FrD.pick hf.none hf rfl) hf rfl) hf rfl) hf rfl) hf rfl) hf rfl) hf rfl) hf rfl) hf rfl), hs⟩
          ·rintro a w ⟨b1031, hr_, hf, hs⟩
           subst hr_
           try dsimp only at hj1017
           refine wpL_cond hf rfl (fun hb1039 => ?_) (fun hb1039 => ?_)
           ·have hj1017 := bif_t hj1017 hb1039
            refine wpL_region ?_
            refine sY hf hs rfl rfl rfl (Y_move rfl rfl) ?_; clear hf; intro a hf
            refine sY hf hs rfl rfl rfl (Y_fieldAddr rfl rfl fo127_1) ?_; clear hf; intro a hf
            refine sY hf hs rfl rfl rfl (Y_load_blk rfl rfl (i := 2) rfl rfl ag2) ?_; clear hf; intro a hf
            refine sY hf hs rfl rfl rfl (Y_move rfl rfl) ?_; clear hf; intro a hf
            obtain ⟨q1040, hi1041, hj1017⟩ := bind_some hj1017
            obtain ⟨hi1041a, hi1041b, hi1041q⟩ := idx_some hi1041
            refine sY hf hs rfl rfl rfl (Y_index rfl rfl rfl el23 ti2 (Rd.isAt (hs.rd (i := 1) rfl) (at1 (ints_at hi1041q))) hi1041a (ltn hn918 hi1041b)) ?_; clear hf; intro a hf
            obtain ⟨xs1042, hu1043, hj1017⟩ := bind_some hj1017
            refine sStoreL (i := 1) (us := [.int .i64 (IntKind.i64.wrap (q1024 + q1018.Tokens))]) (enc := ints) hf hs rfl rfl rfl rfl rfl rfl hn918 hu1043 ti2 rfl rfl rfl rfl rfl ints_len1 (ints_set (IntKind.i64.wrap (q1024 + q1018.Tokens))) ?_; clear hs; intro w hs
            have hs : St [] W w [.blk b1 59 [.int .i64 p0.Events, .slice av p0.Places.length aw], .row A2 xs4.length xs4.length 2 1 (ints xs1042), .blk b1020 127 [.int .i64 q1018.From, .int .i64 q1018.To, .int .i64 q1018.Delay, .int .i64 q1018.Tokens]] := hs
            refine sY hf hs rfl rfl rfl (Y_assign rfl rfl) ?_; clear hf; intro a hf
            refine wpO_nil ?_
            refine wpL_nil (Qb_normal ?_)
            exact ⟨xs1042, true, Option.some.inj hj1017, ((hn918).trans (upd_len hu1043).symm), (FrD.pick (FrD.pick (FrD.pick (FrD.pick (FrD.pick (FrD.pick hf.none hf rfl) hf rfl) hf rfl) hf rfl) hf rfl) hf rfl), hs.sel [0, 1] (by decide)⟩
           ·have hj1017 := bif_f hj1017 hb1039
            refine wpL_skip ?_
            refine wpL_nil (Qb_normal ?_)
            exact ⟨xs917, b919, Option.some.inj hj1017, hn918, (FrD.pick (FrD.pick (FrD.pick (FrD.pick (FrD.pick (FrD.pick hf.none hf rfl) hf rfl) hf rfl) hf rfl) hf rfl) hf rfl), hs.sel [0, 1] (by decide)⟩
        ·rintro a w ⟨xs1013, b1015, hr_, hn1014, hf, hs⟩
         subst hr_
         try dsimp only at hm984
         refine wpL_region ?_
         refine sY hf hs rfl rfl rfl (Y_add rfl rfl rfl) ?_; clear hf; intro a hf
         refine sY hf hs rfl rfl rfl (Y_move rfl rfl) ?_; clear hf; intro a hf
         refine wpO_nil ?_
         refine wpL_nil (Ql_normal ?_)
         exact ⟨xs1013, b1015, (IntKind.i64.wrap (x920 + 1)), hm984, hn1014, (FrD.pick (FrD.pick (FrD.pick (FrD.pick (FrD.pick (FrD.pick hf.none hf rfl) hf rfl) hf rfl) hf rfl) hf rfl) hf rfl), hs⟩
       ·have hm984 := bif_f hm984 hb986
        refine wpL_exit (Ql_exit (Qb_exit ?_))
        exact ⟨xs917, b919, Option.some.inj hm984, hn918, (FrD.pick (FrD.pick (FrD.pick hf.none hf rfl) hf rfl) hf rfl), hs⟩
     ·rintro a w ⟨xs979, b981, hr_, hn980, hf, hs⟩
      subst hr_
      try dsimp only at hm794
      refine wpL_nil (Qb_normal ?_)
      refine wpL_nil (Ql_normal ?_)
      exact ⟨xs979, b981, hm794, hn980, (FrD.pick (FrD.pick (FrD.pick hf.none hf rfl) hf rfl) hf rfl), hs⟩
    ·have hm794 := bif_f hm794 hb796
     refine wpL_exit (Ql_exit (Qb_exit ?_))
     exact ⟨xs539, Option.some.inj hm794, hn540, (FrD.pick hf.none hf rfl), hs.sel [1] (by decide)⟩
  ·rintro a w ⟨xs790, hr_, hn791, hf, hs⟩
   subst hr_
   try dsimp only at hm
   refine wpL_seq <| wpL_region ?_
   refine sY hf hs rfl rfl rfl (Y_move rfl rfl) ?_; clear hf; intro a hf
   refine sY hf hs rfl rfl rfl (Y_assign rfl rfl) ?_; clear hf; intro a hf
   refine wpO_nil ?_
   obtain rfl := Option.some.inj hm
   refine wpL_ret (ret_tmp rfl hf rfl ?_)
   exact ⟨_, rfl, A2, xs4.length, xs4.length, rfl, hn791, hs⟩

end Go.Proofs.Ytgkgimglgjfcjaa
