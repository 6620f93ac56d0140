/- The functions do what their models say. -/
import Derived.Test.YtgkgimglgjfcjaaUnrolledLifted2
import Derived.Test.YtgkgimglgjfcjaaRows
namespace Go.Proofs.Ytgkgimglgjfcjaa
open Go.RowKit

set_option maxRecDepth 100000 in
theorem impl_tokenDistances_ok (F : Nat) (p0 : GEventGraph) (A_p0_1 : Option Addr) (n_p0_1 c_p0_1 : Nat) (hn_p0_1 : n_p0_1 = p0.Places.length) (p1 : Int) (r : List Int) (W : World) (hm : impl_tokenDistances F p0 p1 = some r) (h_p0_1 : Rd W A_p0_1 ((recs GPlace.cells) p0.Places)) :
    Calls Try.prog 189 [.agg #[.int .i64 p0.Events, .slice A_p0_1 n_p0_1 c_p0_1], .int .i64 p1].toArray W fun e w' => ∃ v, e = .returned v ∧ ∃ A1044, ∃ n1045, ∃ c1046, v = .slice A1044 n1045 c1046 ∧ n1045 = r.length ∧ St [] W w' [.row A1044 n1045 c1046 2 1 (ints r)] := by
  subst hn_p0_1
  unfold impl_tokenDistances at hm
  refine Calls.enter (N := 70) Try.func189 rfl rfl rfl (fun a hf => ?_)
  have hs := St.start W
  obtain ⟨w, hw_⟩ : ∃ w, w = W := ⟨W, rfl⟩
  clear hw_ w
  refine wpL_seq ?_
  refine wpL_region ?_
  refine sBox hf hs rfl rfl rfl rfl rfl (cs := [.int .i64 p0.Events, .slice A_p0_1 p0.Places.length c_p0_1]) rfl ?_; clear hf hs; intro a w b1 hs hf
  have hs : St [] W w [.blk b1 59 [.int .i64 p0.Events, .slice A_p0_1 p0.Places.length c_p0_1]] := hs
  refine sY hf hs rfl rfl rfl (Y_assign rfl rfl) ?_; clear hf; intro a hf
  refine wpO_nil ?_
  refine wpL_seq ?_
  refine wpL_region ?_
  refine sY hf hs rfl rfl rfl (Y_fieldAddr rfl rfl fo59_0) ?_; clear hf; intro a hf
  refine sY hf hs rfl rfl rfl (Y_load_blk rfl rfl (i := 0) rfl rfl ag2) ?_; clear hf; intro a hf
  obtain ⟨xs4, hk3, hm⟩ := bind_some hm
  refine sMakeL (enc := ints) hf hs rfl rfl rfl rfl rfl hk3 el23 ti2 rfl ints_made ?_; clear hf hs; intro a w A2 hs hf
  have hs : St [] W w [.blk b1 59 [.int .i64 p0.Events, .slice A_p0_1 p0.Places.length c_p0_1], .row A2 xs4.length xs4.length 2 1 (ints xs4)] := hs
  refine sY hf hs rfl rfl rfl (Y_assign rfl rfl) ?_; clear hf; intro a hf
  refine wpO_nil ?_
  refine wpL_seq ?_
  refine wpL_seq ?_
  refine wpL_region ?_
  refine sY hf hs rfl rfl rfl (Y_move rfl rfl) ?_; clear hf; intro a hf
  refine sY hf hs rfl rfl rfl (Y_lenH rfl rfl el23 rfl) ?_; clear hf; intro a hf
  refine sY hf hs rfl rfl rfl (Y_move rfl rfl) ?_; clear hf; intro a hf
  refine wpO_nil ?_
  obtain ⟨r28, hl29, hm⟩ := bind_some hm
  refine wpL_block (fun a w => ∃ xs26 : List Int, xs26 = r28 ∧ xs4.length = xs26.length ∧ Fr a 70 [(1, .int .i64 p1), (2, .pointer (some ⟨b1, 0, none⟩)), (5, .slice A2 xs4.length xs4.length)] ∧ St [] W w [.blk b1 59 [.int .i64 p0.Events, .slice A_p0_1 p0.Places.length c_p0_1], .row A2 xs4.length xs4.length 2 1 (ints xs26)]) ?_ ?_
  · refine wpL_loop (fun n a w => ∃ xs18 : List Int, ∃ x20 : Int, impl_tokenDistances_L1 F xs4 n xs18 x20 = some r28 ∧ xs4.length = xs18.length ∧ Fr a 70 [(1, .int .i64 p1), (2, .pointer (some ⟨b1, 0, none⟩)), (5, .slice A2 xs4.length xs4.length), (15, .int .i64 (xs4.length : Int)), (16, .int .i64 x20)] ∧ St [] W w [.blk b1 59 [.int .i64 p0.Events, .slice A_p0_1 p0.Places.length c_p0_1], .row A2 xs4.length xs4.length 2 1 (ints xs18)]) F ?_ ?_ ?_
    · exact ⟨xs4, 0, hl29, rfl, (FrD.pick (FrD.pick (FrD.pick (FrD.pick (FrD.pick hf.none hf rfl) hf rfl) hf rfl) hf rfl) hf rfl), hs⟩
    · rintro a w ⟨xs18, x20, h0_, -, -, -⟩; simp [impl_tokenDistances_L1] at h0_
    · rintro n31 a w ⟨xs18, x20, hm30, hn19, hf, hs⟩
      rw [impl_tokenDistances_L1] at hm30
      refine wpL_seq ?_
      refine wpL_region ?_
      refine sY hf hs rfl rfl rfl (Y_lss rfl rfl rfl) ?_; clear hf; intro a hf
      refine wpO_nil ?_
      refine wpL_seq ?_
      refine wpL_cond hf rfl (fun hb32 => ?_) (fun hb32 => ?_)
      · have hm30 := bif_t hm30 hb32
        refine wpL_skip ?_
        refine wpL_seq ?_
        refine wpL_block0 ?_
        refine wpL_seq ?_
        refine wpL_region ?_
        refine sY hf hs rfl rfl rfl (Y_move rfl rfl) ?_; clear hf; intro a hf
        refine sY hf hs rfl rfl rfl (Y_assign rfl rfl) ?_; clear hf; intro a hf
        refine wpO_nil ?_
        refine wpL_region ?_
        refine sY hf hs rfl rfl rfl (Y_move rfl rfl) ?_; clear hf; intro a hf
        refine sY hf hs rfl rfl rfl (Y_move rfl rfl) ?_; clear hf; intro a hf
        obtain ⟨q33, hi34, hm30⟩ := bind_some hm30
        obtain ⟨hi34a, hi34b, hi34q⟩ := idx_some hi34
        refine sY hf hs rfl rfl rfl (Y_index rfl rfl rfl el23 ti2 (Rd.isAt (hs.rd (i := 1) rfl) (at1 (ints_at hi34q))) hi34a (ltn hn19 hi34b)) ?_; clear hf; intro a hf
        obtain ⟨xs35, hu36, hm30⟩ := bind_some hm30
        refine sStoreL (i := 1) (us := [.int .i64 (-1)]) (enc := ints) hf hs rfl rfl rfl rfl rfl rfl hn19 hu36 ti2 rfl rfl rfl rfl rfl ints_len1 (ints_set (-1)) ?_; clear hs; intro w hs
        have hs : St [] W w [.blk b1 59 [.int .i64 p0.Events, .slice A_p0_1 p0.Places.length c_p0_1], .row A2 xs4.length xs4.length 2 1 (ints xs35)] := hs
        refine wpO_nil ?_
        refine wpL_nil (Qb_normal ?_)
        refine wpL_region ?_
        refine sY hf hs rfl rfl rfl (Y_add rfl rfl rfl) ?_; clear hf; intro a hf
        refine sY hf hs rfl rfl rfl (Y_move rfl rfl) ?_; clear hf; intro a hf
        refine wpO_nil ?_
        refine wpL_nil (Ql_normal ?_)
        exact ⟨xs35, (IntKind.i64.wrap (x20 + 1)), hm30, ((hn19).trans (upd_len hu36).symm), (FrD.pick (FrD.pick (FrD.pick (FrD.pick (FrD.pick hf.none hf rfl) hf rfl) hf rfl) hf rfl) hf rfl), hs⟩
      · have hm30 := bif_f hm30 hb32
        refine wpL_exit (Ql_exit (Qb_exit ?_))
        exact ⟨xs18, Option.some.inj hm30, hn19, (FrD.pick (FrD.pick (FrD.pick hf.none hf rfl) hf rfl) hf rfl), hs⟩
  · rintro a w ⟨xs26, hr_, hn27, hf, hs⟩
    subst hr_
    try dsimp only at hm
    refine wpL_seq ?_
    refine wpL_region ?_
    refine sY hf hs rfl rfl rfl (Y_move rfl rfl) ?_; clear hf; intro a hf
    refine sY hf hs rfl rfl rfl (Y_move rfl rfl) ?_; clear hf; intro a hf
    obtain ⟨q37, hi38, hm⟩ := bind_some hm
    obtain ⟨hi38a, hi38b, hi38q⟩ := idx_some hi38
    refine sY hf hs rfl rfl rfl (Y_index rfl rfl rfl el23 ti2 (Rd.isAt (hs.rd (i := 1) rfl) (at1 (ints_at hi38q))) hi38a (ltn hn27 hi38b)) ?_; clear hf; intro a hf
    obtain ⟨xs39, hu40, hm⟩ := bind_some hm
    refine sStoreL (i := 1) (us := [.int .i64 0]) (enc := ints) hf hs rfl rfl rfl rfl rfl rfl hn27 hu40 ti2 rfl rfl rfl rfl rfl ints_len1 (ints_set 0) ?_; clear hs; intro w hs
    have hs : St [] W w [.blk b1 59 [.int .i64 p0.Events, .slice A_p0_1 p0.Places.length c_p0_1], .row A2 xs4.length xs4.length 2 1 (ints xs39)] := hs
    refine wpO_nil ?_
    refine wpL_seq ?_
    refine wpL_seq ?_
    refine wpL_region ?_
    refine sY hf hs rfl rfl rfl (Y_assign rfl rfl) ?_; clear hf; intro a hf
    refine wpO_nil ?_
    obtain ⟨r792, hl793, hm⟩ := bind_some hm
    refine wpL_block (fun a w => ∃ xs790 : List Int, xs790 = r792 ∧ xs4.length = xs790.length ∧ Fr a 70 [(5, .slice A2 xs4.length xs4.length)] ∧ St [] W w [.row A2 xs4.length xs4.length 2 1 (ints xs790)]) ?_ ?_
    · refine wpL_loop (fun n a w => ∃ xs539 : List Int, ∃ b541 : Bool, impl_tokenDistances_L5 F p0 n xs539 b541 = some r792 ∧ xs4.length = xs539.length ∧ Fr a 70 [(2, .pointer (some ⟨b1, 0, none⟩)), (5, .slice A2 xs4.length xs4.length), (7, .bool b541)] ∧ St [] W w [.blk b1 59 [.int .i64 p0.Events, .slice A_p0_1 p0.Places.length c_p0_1], .row A2 xs4.length xs4.length 2 1 (ints xs539)]) F ?_ ?_ ?_
      · exact ⟨xs39, true, hl793, ((hn27).trans (upd_len hu40).symm), (FrD.pick (FrD.pick (FrD.pick hf.none hf rfl) hf rfl) hf rfl), hs⟩
      · rintro a w ⟨xs539, b541, h0_, -, -, -⟩; simp [impl_tokenDistances_L5] at h0_
      · rintro n795 a w ⟨xs539, b541, hm794, hn540, hf, hs⟩
        rw [impl_tokenDistances_L5] at hm794
        refine wpL_seq ?_
        refine wpL_seq ?_
        refine wpL_region ?_
        refine sY hf hs rfl rfl rfl (Y_move rfl rfl) ?_; clear hf; intro a hf
        refine wpO_nil ?_
        refine wpL_cond hf rfl (fun hb796 => ?_) (fun hb796 => ?_)
        · have hm794 := bif_t hm794 hb796
          refine wpL_skip ?_
          refine wpL_block0 ?_
          refine wpL_seq ?_
          refine wpL_region ?_
          refine sY hf hs rfl rfl rfl (Y_assign rfl rfl) ?_; clear hf; intro a hf
          refine wpO_nil ?_
          refine wpL_seq ?_
          refine wpL_region ?_
          refine sY hf hs rfl rfl rfl (Y_fieldAddr rfl rfl fo59_1) ?_; clear hf; intro a hf
          refine sY hf hs rfl rfl rfl (Y_load_blk rfl rfl (i := 0) rfl rfl ag57) ?_; clear hf; intro a hf
          refine sY hf hs rfl rfl rfl (Y_lenH rfl rfl el57 rfl) ?_; clear hf; intro a hf
          refine sY hf hs rfl rfl rfl (Y_move rfl rfl) ?_; clear hf; intro a hf
          refine wpO_nil ?_
          obtain ⟨r982, hl983, hm794⟩ := bind_some hm794
          refine wpL_block (fun a w => ∃ xs979 : List Int, ∃ b981 : Bool, (xs979, b981) = r982 ∧ xs4.length = xs979.length ∧ Fr a 70 [(2, .pointer (some ⟨b1, 0, none⟩)), (5, .slice A2 xs4.length xs4.length), (7, .bool b981)] ∧ St [] W w [.blk b1 59 [.int .i64 p0.Events, .slice A_p0_1 p0.Places.length c_p0_1], .row A2 xs4.length xs4.length 2 1 (ints xs979)]) ?_ ?_
          · refine wpL_loop (fun n a w => ∃ xs917 : List Int, ∃ b919 : Bool, ∃ x920 : Int, impl_tokenDistances_L6 F p0 n xs917 b919 x920 = some r982 ∧ xs4.length = xs917.length ∧ Fr a 70 [(2, .pointer (some ⟨b1, 0, none⟩)), (5, .slice A2 xs4.length xs4.length), (7, .bool b919), (28, .slice A_p0_1 p0.Places.length c_p0_1), (29, .int .i64 (p0.Places.length : Int)), (30, .int .i64 x920)] ∧ St [] W w [.blk b1 59 [.int .i64 p0.Events, .slice A_p0_1 p0.Places.length c_p0_1], .row A2 xs4.length xs4.length 2 1 (ints xs917)]) F ?_ ?_ ?_
            · exact ⟨xs539, false, 0, hl983, hn540, (FrD.pick (FrD.pick (FrD.pick (FrD.pick (FrD.pick (FrD.pick hf.none hf rfl) hf rfl) hf rfl) hf rfl) hf rfl) hf rfl), hs⟩
            · rintro a w ⟨xs917, b919, x920, h0_, -, -, -⟩; simp [impl_tokenDistances_L6] at h0_
            · rintro n985 a w ⟨xs917, b919, x920, hm984, hn918, hf, hs⟩
              rw [impl_tokenDistances_L6] at hm984
              refine wpL_seq ?_
              refine wpL_region ?_
              refine sY hf hs rfl rfl rfl (Y_lss rfl rfl rfl) ?_; clear hf; intro a hf
              refine wpO_nil ?_
              refine wpL_seq ?_
              refine wpL_cond hf rfl (fun hb986 => ?_) (fun hb986 => ?_)
              · have hm984 := bif_t hm984 hb986
                refine wpL_skip ?_
                refine wpL_seq ?_
                obtain ⟨r1016, hj1017, hm984⟩ := bind_some hm984
                refine wpL_block (fun a w => ∃ xs1013 : List Int, ∃ b1015 : Bool, (xs1013, b1015) = r1016 ∧ xs4.length = xs1013.length ∧ Fr a 70 [(2, .pointer (some ⟨b1, 0, none⟩)), (5, .slice A2 xs4.length xs4.length), (7, .bool b1015), (28, .slice A_p0_1 p0.Places.length c_p0_1), (29, .int .i64 (p0.Places.length : Int)), (30, .int .i64 x920)] ∧ St [] W w [.blk b1 59 [.int .i64 p0.Events, .slice A_p0_1 p0.Places.length c_p0_1], .row A2 xs4.length xs4.length 2 1 (ints xs1013)]) ?_ ?_
                · refine wpL_seq ?_
                  refine wpL_region ?_
                  obtain ⟨q1018, hi1019, hj1017⟩ := bind_some hj1017
                  obtain ⟨hi1019a, hi1019b, hi1019q⟩ := idx_some hi1019
                  refine sY hf hs rfl rfl rfl (Y_index rfl rfl rfl el57 ti127 (Rd.isAt (h_p0_1.at hs) (recs_at (s := 4) GPlace.len hi1019q (j := 0) rfl)) hi1019a hi1019b) ?_; clear hf; intro a hf
                  refine sY hf hs rfl rfl rfl (Y_load_rdS rfl rfl (us := [.int .i64 q1018.From, .int .i64 q1018.To, .int .i64 q1018.Delay, .int .i64 q1018.Tokens]) (fun w hs => h_p0_1.at hs) (fun j u hj => recs_at (s := 4) GPlace.len hi1019q hj) (Nat.succ_pos _) ag127 ti127 rfl) ?_; clear hf; intro a hf
                  refine sAlloc hf hs rfl rfl rfl rfl ti127 ?_; clear hf hs; intro a w b1020 hs hf
                  have hs : St [] W w [.blk b1 59 [.int .i64 p0.Events, .slice A_p0_1 p0.Places.length c_p0_1], .row A2 xs4.length xs4.length 2 1 (ints xs917), .blk b1020 127 [.int .i64 0, .int .i64 0, .int .i64 0, .int .i64 0]] := hs
                  refine sStore (i := 2) (us := [.int .i64 q1018.From, .int .i64 q1018.To, .int .i64 q1018.Delay, .int .i64 q1018.Tokens]) hf hs rfl rfl rfl rfl rfl rfl ti127 rfl rfl rfl (Nat.le_of_ble_eq_true rfl) rfl ?_; clear hs; intro w hs
                  have hs : St [] W w [.blk b1 59 [.int .i64 p0.Events, .slice A_p0_1 p0.Places.length c_p0_1], .row A2 xs4.length xs4.length 2 1 (ints xs917), .blk b1020 127 [.int .i64 q1018.From, .int .i64 q1018.To, .int .i64 q1018.Delay, .int .i64 q1018.Tokens]] := hs
                  refine wpO_nil ?_
                  refine wpL_seq ?_
                  refine wpL_seq ?_
                  refine wpL_region ?_
                  refine sY hf hs rfl rfl rfl (Y_move rfl rfl) ?_; clear hf; intro a hf
                  refine sY hf hs rfl rfl rfl (Y_fieldAddr rfl rfl fo127_0) ?_; clear hf; intro a hf
                  refine sY hf hs rfl rfl rfl (Y_load_blk rfl rfl (i := 2) rfl rfl ag2) ?_; clear hf; intro a hf
                  obtain ⟨q1021, hi1022, hj1017⟩ := bind_some hj1017
                  obtain ⟨hi1022a, hi1022b, hi1022q⟩ := idx_some hi1022
                  refine sY hf hs rfl rfl rfl (Y_index rfl rfl rfl el23 ti2 (Rd.isAt (hs.rd (i := 1) rfl) (at1 (ints_at hi1022q))) hi1022a (ltn hn918 hi1022b)) ?_; clear hf; intro a hf
                  refine sY hf hs rfl rfl rfl (Y_load_rd rfl rfl (fun w hs => hs.rd (i := 1) rfl) (at1 (ints_at hi1022q)) ag2) ?_; clear hf; intro a hf
                  refine sY hf hs rfl rfl rfl (Y_lss rfl rfl rfl) ?_; clear hf; intro a hf
                  refine wpO_nil ?_
                  refine wpL_cond hf rfl (fun hb1023 => ?_) (fun hb1023 => ?_)
                  · have hj1017 := bif_t hj1017 hb1023
                    refine wpL_exit (Qb_exit ?_)
                    exact ⟨xs917, b919, Option.some.inj hj1017, hn918, (FrD.pick (FrD.pick (FrD.pick (FrD.pick (FrD.pick (FrD.pick hf.none hf rfl) hf rfl) hf rfl) hf rfl) hf rfl) hf rfl), hs.sel [0, 1] (by decide)⟩
                  · have hj1017 := bif_f hj1017 hb1023
                    refine wpL_skip ?_
                    refine wpL_seq ?_
                    refine wpL_draw (by kernel_rfl) (by kernel_rfl) hs ?_
                    refine qY hf rfl rfl rfl (Y_move rfl rfl) ?_; clear hf; intro a hf
                    refine qY hf rfl rfl rfl (Y_fieldAddr rfl rfl fo127_0) ?_; clear hf; intro a hf
                    refine qY hf rfl rfl rfl (Y_load_blk rfl rfl (i := 2) rfl rfl ag2) ?_; clear hf; intro a hf
                    obtain ⟨q1024, hi1025, hj1017⟩ := bind_some hj1017
                    obtain ⟨hi1025a, hi1025b, hi1025q⟩ := idx_some hi1025
                    refine qY hf rfl rfl rfl (Y_index rfl rfl rfl el23 ti2 (Rd.isAt (hs.rd (i := 1) rfl) (at1 (ints_at hi1025q))) hi1025a (ltn hn918 hi1025b)) ?_; clear hf; intro a hf
                    refine qY hf rfl rfl rfl (Y_load_rd rfl rfl (fun w hs => hs.rd (i := 1) rfl) (at1 (ints_at hi1025q)) ag2) ?_; clear hf; intro a hf
                    refine qY hf rfl rfl rfl (Y_fieldAddr rfl rfl fo127_3) ?_; clear hf; intro a hf
                    refine qY hf rfl rfl rfl (Y_load_blk rfl rfl (i := 2) rfl rfl ag2) ?_; clear hf; intro a hf
                    refine qY hf rfl rfl rfl (Y_add rfl rfl rfl) ?_; clear hf; intro a hf
                    refine qY hf rfl rfl rfl (Y_assign rfl rfl) ?_; clear hf; intro a hf
                    refine qNil ?_; clear hs; intro w hs
                    refine wpL_seq ?_
                    obtain ⟨r1032, hj1033, hj1017⟩ := bind_some hj1017
                    refine wpL_cut (fun a w => ∃ b1031 : Bool, b1031 = r1032 ∧ Fr a 70 [(2, .pointer (some ⟨b1, 0, none⟩)), (5, .slice A2 xs4.length xs4.length), (7, .bool b919), (9, .pointer (some ⟨b1020, 0, none⟩)), (10, .int .i64 (IntKind.i64.wrap (q1024 + q1018.Tokens))), (28, .slice A_p0_1 p0.Places.length c_p0_1), (29, .int .i64 (p0.Places.length : Int)), (30, .int .i64 x920), (62, .bool b1031)] ∧ St [] W w [.blk b1 59 [.int .i64 p0.Events, .slice A_p0_1 p0.Places.length c_p0_1], .row A2 xs4.length xs4.length 2 1 (ints xs917), .blk b1020 127 [.int .i64 q1018.From, .int .i64 q1018.To, .int .i64 q1018.Delay, .int .i64 q1018.Tokens]]) ?_ ?_
                    · refine wpL_region ?_
                      refine sY hf hs rfl rfl rfl (Y_move rfl rfl) ?_; clear hf; intro a hf
                      refine sY hf hs rfl rfl rfl (Y_fieldAddr rfl rfl fo127_1) ?_; clear hf; intro a hf
                      refine sY hf hs rfl rfl rfl (Y_load_blk rfl rfl (i := 2) rfl rfl ag2) ?_; clear hf; intro a hf
                      obtain ⟨q1034, hi1035, hj1033⟩ := bind_some hj1033
                      obtain ⟨hi1035a, hi1035b, hi1035q⟩ := idx_some hi1035
                      refine sY hf hs rfl rfl rfl (Y_index rfl rfl rfl el23 ti2 (Rd.isAt (hs.rd (i := 1) rfl) (at1 (ints_at hi1035q))) hi1035a (ltn hn918 hi1035b)) ?_; clear hf; intro a hf
                      refine sY hf hs rfl rfl rfl (Y_load_rd rfl rfl (fun w hs => hs.rd (i := 1) rfl) (at1 (ints_at hi1035q)) ag2) ?_; clear hf; intro a hf
                      refine sY hf hs rfl rfl rfl (Y_lss rfl rfl rfl) ?_; clear hf; intro a hf
                      refine sY hf hs rfl rfl rfl (Y_move rfl rfl) ?_; clear hf; intro a hf
                      refine bsplit (decide (q1034 < 0)) (fun hb1036 => ?_) (fun hb1036 => ?_)
                      · have hj1033 := bif_t hj1033 hb1036
                        refine sNo hf rfl rfl rfl (congrArg (fun b => some (Value.bool b)) hb1036) rfl rfl rfl ?_; clear hf; intro a hf
                        refine sNo hf rfl rfl rfl (congrArg (fun b => some (Value.bool b)) hb1036) rfl rfl rfl ?_; clear hf; intro a hf
                        refine sNo hf rfl rfl rfl (congrArg (fun b => some (Value.bool b)) hb1036) rfl rfl rfl ?_; clear hf; intro a hf
                        refine sNo hf rfl rfl rfl (congrArg (fun b => some (Value.bool b)) hb1036) rfl rfl rfl ?_; clear hf; intro a hf
                        refine sNo hf rfl rfl rfl (congrArg (fun b => some (Value.bool b)) hb1036) rfl rfl rfl ?_; clear hf; intro a hf
                        refine sNo hf rfl rfl rfl (congrArg (fun b => some (Value.bool b)) hb1036) rfl rfl rfl ?_; clear hf; intro a hf
                        refine sNo hf rfl rfl rfl (congrArg (fun b => some (Value.bool b)) hb1036) rfl rfl rfl ?_; clear hf; intro a hf
                        refine sY hf hs rfl rfl rfl (Y_pickT rfl (congrArg (fun b => some (Value.bool b)) hb1036) rfl) ?_; clear hf; intro a hf
                        refine wpO_nil ?_
                        refine wpL_nil (then_normal ?_)
                        exact ⟨true, Option.some.inj hj1033, (FrD.pick (FrD.pick (FrD.pick (FrD.pick (FrD.pick (FrD.pick (FrD.pick (FrD.pick (FrD.pick hf.none hf rfl) hf rfl) hf rfl) hf rfl) hf rfl) hf rfl) hf rfl) hf rfl) hf rfl), hs⟩
                      · have hj1033 := bif_f hj1033 hb1036
                        refine sYg hf hs rfl rfl rfl (congrArg (fun b => some (Value.bool b)) hb1036) rfl rfl rfl (Y_move rfl rfl) ?_; clear hf; intro a hf
                        refine sYg hf hs rfl rfl rfl (congrArg (fun b => some (Value.bool b)) hb1036) rfl rfl rfl (Y_move rfl rfl) ?_; clear hf; intro a hf
                        refine sYg hf hs rfl rfl rfl (congrArg (fun b => some (Value.bool b)) hb1036) rfl rfl rfl (Y_fieldAddr rfl rfl fo127_1) ?_; clear hf; intro a hf
                        refine sYg hf hs rfl rfl rfl (congrArg (fun b => some (Value.bool b)) hb1036) rfl rfl rfl (Y_load_blk rfl rfl (i := 2) rfl rfl ag2) ?_; clear hf; intro a hf
                        obtain ⟨q1037, hi1038, hj1033⟩ := bind_some hj1033
                        obtain ⟨hi1038a, hi1038b, hi1038q⟩ := idx_some hi1038
                        refine sYg hf hs rfl rfl rfl (congrArg (fun b => some (Value.bool b)) hb1036) rfl rfl rfl (Y_index rfl rfl rfl el23 ti2 (Rd.isAt (hs.rd (i := 1) rfl) (at1 (ints_at hi1038q))) hi1038a (ltn hn918 hi1038b)) ?_; clear hf; intro a hf
                        refine sYg hf hs rfl rfl rfl (congrArg (fun b => some (Value.bool b)) hb1036) rfl rfl rfl (Y_load_rd rfl rfl (fun w hs => hs.rd (i := 1) rfl) (at1 (ints_at hi1038q)) ag2) ?_; clear hf; intro a hf
                        refine sYg hf hs rfl rfl rfl (congrArg (fun b => some (Value.bool b)) hb1036) rfl rfl rfl (Y_lss rfl rfl rfl) ?_; clear hf; intro a hf
                        refine sY hf hs rfl rfl rfl (Y_pickF rfl (congrArg (fun b => some (Value.bool b)) hb1036) rfl) ?_; clear hf; intro a hf
                        refine wpO_nil ?_
                        refine wpL_nil (then_normal ?_)
                        exact ⟨(decide ((IntKind.i64.wrap (q1024 + q1018.Tokens)) < q1037)), Option.some.inj hj1033, (FrD.pick (FrD.pick (FrD.pick (FrD.pick (FrD.pick (FrD.pick (FrD.pick (FrD.pick (FrD.pick hf.none hf rfl) hf rfl) hf rfl) hf rfl) hf rfl) hf rfl) hf rfl) hf rfl) hf rfl), hs⟩
                    · rintro a w ⟨b1031, hr_, hf, hs⟩
                      subst hr_
                      try dsimp only at hj1017
                      refine wpL_cond hf rfl (fun hb1039 => ?_) (fun hb1039 => ?_)
                      · have hj1017 := bif_t hj1017 hb1039
                        refine wpL_region ?_
                        refine sY hf hs rfl rfl rfl (Y_move rfl rfl) ?_; clear hf; intro a hf
                        refine sY hf hs rfl rfl rfl (Y_fieldAddr rfl rfl fo127_1) ?_; clear hf; intro a hf
                        refine sY hf hs rfl rfl rfl (Y_load_blk rfl rfl (i := 2) rfl rfl ag2) ?_; clear hf; intro a hf
                        refine sY hf hs rfl rfl rfl (Y_move rfl rfl) ?_; clear hf; intro a hf
                        obtain ⟨q1040, hi1041, hj1017⟩ := bind_some hj1017
                        obtain ⟨hi1041a, hi1041b, hi1041q⟩ := idx_some hi1041
                        refine sY hf hs rfl rfl rfl (Y_index rfl rfl rfl el23 ti2 (Rd.isAt (hs.rd (i := 1) rfl) (at1 (ints_at hi1041q))) hi1041a (ltn hn918 hi1041b)) ?_; clear hf; intro a hf
                        obtain ⟨xs1042, hu1043, hj1017⟩ := bind_some hj1017
                        refine sStoreL (i := 1) (us := [.int .i64 (IntKind.i64.wrap (q1024 + q1018.Tokens))]) (enc := ints) hf hs rfl rfl rfl rfl rfl rfl hn918 hu1043 ti2 rfl rfl rfl rfl rfl ints_len1 (ints_set (IntKind.i64.wrap (q1024 + q1018.Tokens))) ?_; clear hs; intro w hs
                        have hs : St [] W w [.blk b1 59 [.int .i64 p0.Events, .slice A_p0_1 p0.Places.length c_p0_1], .row A2 xs4.length xs4.length 2 1 (ints xs1042), .blk b1020 127 [.int .i64 q1018.From, .int .i64 q1018.To, .int .i64 q1018.Delay, .int .i64 q1018.Tokens]] := hs
                        refine sY hf hs rfl rfl rfl (Y_assign rfl rfl) ?_; clear hf; intro a hf
                        refine wpO_nil ?_
                        refine wpL_nil (Qb_normal ?_)
                        exact ⟨xs1042, true, Option.some.inj hj1017, ((hn918).trans (upd_len hu1043).symm), (FrD.pick (FrD.pick (FrD.pick (FrD.pick (FrD.pick (FrD.pick hf.none hf rfl) hf rfl) hf rfl) hf rfl) hf rfl) hf rfl), hs.sel [0, 1] (by decide)⟩
                      · have hj1017 := bif_f hj1017 hb1039
                        refine wpL_skip ?_
                        refine wpL_nil (Qb_normal ?_)
                        exact ⟨xs917, b919, Option.some.inj hj1017, hn918, (FrD.pick (FrD.pick (FrD.pick (FrD.pick (FrD.pick (FrD.pick hf.none hf rfl) hf rfl) hf rfl) hf rfl) hf rfl) hf rfl), hs.sel [0, 1] (by decide)⟩
                · rintro a w ⟨xs1013, b1015, hr_, hn1014, hf, hs⟩
                  subst hr_
                  try dsimp only at hm984
                  refine wpL_region ?_
                  refine sY hf hs rfl rfl rfl (Y_add rfl rfl rfl) ?_; clear hf; intro a hf
                  refine sY hf hs rfl rfl rfl (Y_move rfl rfl) ?_; clear hf; intro a hf
                  refine wpO_nil ?_
                  refine wpL_nil (Ql_normal ?_)
                  exact ⟨xs1013, b1015, (IntKind.i64.wrap (x920 + 1)), hm984, hn1014, (FrD.pick (FrD.pick (FrD.pick (FrD.pick (FrD.pick (FrD.pick hf.none hf rfl) hf rfl) hf rfl) hf rfl) hf rfl) hf rfl), hs⟩
              · have hm984 := bif_f hm984 hb986
                refine wpL_exit (Ql_exit (Qb_exit ?_))
                exact ⟨xs917, b919, Option.some.inj hm984, hn918, (FrD.pick (FrD.pick (FrD.pick hf.none hf rfl) hf rfl) hf rfl), hs⟩
          · rintro a w ⟨xs979, b981, hr_, hn980, hf, hs⟩
            subst hr_
            try dsimp only at hm794
            refine wpL_nil (Qb_normal ?_)
            refine wpL_nil (Ql_normal ?_)
            exact ⟨xs979, b981, hm794, hn980, (FrD.pick (FrD.pick (FrD.pick hf.none hf rfl) hf rfl) hf rfl), hs⟩
        · have hm794 := bif_f hm794 hb796
          refine wpL_exit (Ql_exit (Qb_exit ?_))
          exact ⟨xs539, Option.some.inj hm794, hn540, (FrD.pick hf.none hf rfl), hs.sel [1] (by decide)⟩
    · rintro a w ⟨xs790, hr_, hn791, hf, hs⟩
      subst hr_
      try dsimp only at hm
      refine wpL_seq ?_
      refine wpL_region ?_
      refine sY hf hs rfl rfl rfl (Y_move rfl rfl) ?_; clear hf; intro a hf
      refine sY hf hs rfl rfl rfl (Y_assign rfl rfl) ?_; clear hf; intro a hf
      refine wpO_nil ?_
      obtain rfl := Option.some.inj hm
      refine wpL_ret (ret_tmp rfl hf rfl ?_)
      exact ⟨_, rfl, A2, xs4.length, xs4.length, rfl, hn791, hs⟩

set_option maxRecDepth 100000 in
theorem impl_hasCircuit_c1_ok (F : Nat) (p0_p : GPlace) (b_z0 : Nat) (z0 : GEventGraph) (A_z0_1 : Option Addr) (n_z0_1 c_z0_1 : Nat) (hn_z0_1 : n_z0_1 = z0.Places.length) (r : Bool) (W : World) (hm : impl_hasCircuit_c1 F p0_p z0 = some r) (h_z0_1 : Rd W A_z0_1 ((recs GPlace.cells) z0.Places)) (h_z0 : PB W b_z0 59 [.int .i64 z0.Events, .slice A_z0_1 n_z0_1 c_z0_1]) :
    Calls Try.prog 188 [.agg #[.int .i64 p0_p.From, .int .i64 p0_p.To, .int .i64 p0_p.Delay, .int .i64 p0_p.Tokens], .pointer (some ⟨b_z0, 0, none⟩)].toArray W fun e w' => ∃ v, e = .returned v ∧ v = .bool r ∧ St [] W w' [] := by
  subst hn_z0_1
  unfold impl_hasCircuit_c1 at hm
  refine Calls.enter (N := 13) Try.func188 rfl rfl rfl (fun a hf => ?_)
  have hs := St.start W
  obtain ⟨w, hw_⟩ : ∃ w, w = W := ⟨W, rfl⟩
  clear hw_ w
  refine wpL_seq ?_
  refine wpL_region ?_
  refine sBox hf hs rfl rfl rfl rfl rfl (cs := [.int .i64 p0_p.From, .int .i64 p0_p.To, .int .i64 p0_p.Delay, .int .i64 p0_p.Tokens]) rfl ?_; clear hf hs; intro a w b1 hs hf
  have hs : St [] W w [.blk b1 127 [.int .i64 p0_p.From, .int .i64 p0_p.To, .int .i64 p0_p.Delay, .int .i64 p0_p.Tokens]] := hs
  refine sY hf hs rfl rfl rfl (Y_assign rfl rfl) ?_; clear hf; intro a hf
  refine wpO_nil ?_
  refine wpL_seq ?_
  refine wpL_drawM [.blk b1 127 [.int .i64 p0_p.From, .int .i64 p0_p.To, .int .i64 p0_p.Delay, .int .i64 p0_p.Tokens]] [7] (by kernel_rfl) hs ?_; clear hs; intro w hs
  have hs0 : St [] W w [.blk b1 127 [.int .i64 p0_p.From, .int .i64 p0_p.To, .int .i64 p0_p.Delay, .int .i64 p0_p.Tokens]] := hs
  refine mY (i := 0) [[3, 6]] rfl (by kernel_rfl) (by kernel_rfl) hf hs0 rfl rfl rfl (Y_load_pbS rfl rfl h_z0 ag59 ti59 rfl) ?_; clear hf; intro a hf
  refine mYp (i := 1) rfl (by kernel_rfl) (by kernel_rfl) hf rfl rfl rfl (fun _ => Y_fieldAddr rfl rfl fo127_1) ?_; clear hf; intro a hf
  refine mY (i := 2) [[3, 6]] rfl (by kernel_rfl) (by kernel_rfl) hf hs0 rfl rfl rfl (Y_load_blk rfl rfl (i := 0) rfl rfl ag2) ?_; clear hf; intro a hf
  refine mYp (i := 4) rfl (by kernel_rfl) (by kernel_rfl) hf rfl rfl rfl (fun _ => Y_fieldAddr rfl rfl fo127_0) ?_; clear hf; intro a hf
  refine mY (i := 5) [[6]] rfl (by kernel_rfl) (by kernel_rfl) hf hs0 rfl rfl rfl (Y_load_blk rfl rfl (i := 0) rfl rfl ag2) ?_; clear hf; intro a hf
  refine mRun (i := 3) rfl (by kernel_rfl) ?_
  obtain ⟨r10, hc11, hm⟩ := bind_some hm
  refine sCall hf rfl rfl rfl rfl (cap := []) rfl rfl en189 (impl_tokenDistances_ok F z0 A_z0_1 z0.Places.length c_z0_1 rfl p0_p.To _ _ hc11 (h_z0_1.at hs)) ?_; clear hf
  rintro _ w ⟨A12, n13, c14, rfl, hn15, hs1⟩ a hf
  have hs : St [] W w [.blk b1 127 [.int .i64 p0_p.From, .int .i64 p0_p.To, .int .i64 p0_p.Delay, .int .i64 p0_p.Tokens], .row A12 n13 c14 2 1 (ints r10)] := hs.join hs1
  clear hs1
  have hs0 : St [] W w [.blk b1 127 [.int .i64 p0_p.From, .int .i64 p0_p.To, .int .i64 p0_p.Delay, .int .i64 p0_p.Tokens]] := hs.sel [0] (by decide)
  refine wpO_nil ⟨Or.inr (fun _ => hs0), ?_⟩
  obtain ⟨q16, hi17, hm⟩ := bind_some hm
  obtain ⟨hi17a, hi17b, hi17q⟩ := idx_some hi17
  refine mYp (i := 6) rfl (by kernel_rfl) (by kernel_rfl) hf rfl rfl rfl (fun _ => Y_index rfl rfl rfl el23 ti2 (Rd.isAt (hs.rd (i := 1) rfl) (at1 (ints_at hi17q))) hi17a (ltn hn15 hi17b)) ?_; clear hf; intro a hf
  refine mRun (i := 7) rfl (by kernel_rfl) ?_
  refine sY hf hs rfl rfl rfl (Y_load_rd rfl rfl (fun w hs => hs.rd (i := 1) rfl) (at1 (ints_at hi17q)) ag2) ?_; clear hf; intro a hf
  refine wpO_nil ⟨Or.inl (by decide), ?_⟩
  refine mYp (i := 8) rfl (by kernel_rfl) (by kernel_rfl) hf rfl rfl rfl (fun _ => Y_geq rfl rfl rfl) ?_; clear hf; intro a hf
  refine mYp (i := 9) rfl (by kernel_rfl) (by kernel_rfl) hf rfl rfl rfl (fun _ => Y_assign rfl rfl) ?_; clear hf; intro a hf
  refine mDone (by kernel_rfl) ?_
  clear hs0
  obtain rfl := Option.some.inj hm
  refine wpL_ret (ret_tmp rfl hf rfl ?_)
  exact ⟨_, rfl, rfl, hs.sel [] (by decide)⟩

set_option maxRecDepth 100000 in
theorem impl_hasCircuit_ok (F : Nat) (p0_g : GEventGraph) (A_p0_g_1 : Option Addr) (n_p0_g_1 c_p0_g_1 : Nat) (hn_p0_g_1 : n_p0_g_1 = p0_g.Places.length) (r : Bool) (W : World) (hm : impl_hasCircuit F p0_g = some r) (h_p0_g_1 : Rd W A_p0_g_1 ((recs GPlace.cells) p0_g.Places)) :
    Calls Try.prog 176 [.agg #[.int .i64 p0_g.Events, .slice A_p0_g_1 n_p0_g_1 c_p0_g_1]].toArray W fun e w' => ∃ v, e = .returned v ∧ v = .bool r ∧ St [] W w' [] := by
  subst hn_p0_g_1
  unfold impl_hasCircuit at hm
  refine Calls.enter (N := 7) Try.func176 rfl rfl rfl (fun a hf => ?_)
  have hs := St.start W
  obtain ⟨w, hw_⟩ : ∃ w, w = W := ⟨W, rfl⟩
  clear hw_ w
  refine wpL_seq ?_
  refine wpL_region ?_
  refine sBox hf hs rfl rfl rfl rfl rfl (cs := [.int .i64 p0_g.Events, .slice A_p0_g_1 p0_g.Places.length c_p0_g_1]) rfl ?_; clear hf hs; intro a w b1 hs hf
  have hs : St [] W w [.blk b1 59 [.int .i64 p0_g.Events, .slice A_p0_g_1 p0_g.Places.length c_p0_g_1]] := hs
  refine sY hf hs rfl rfl rfl (Y_assign rfl rfl) ?_; clear hf; intro a hf
  refine wpO_nil ?_
  refine wpL_seq ?_
  refine wpL_region ?_
  refine sY hf hs rfl rfl rfl (Y_fieldAddr rfl rfl fo59_1) ?_; clear hf; intro a hf
  refine sY hf hs rfl rfl rfl (Y_load_blk rfl rfl (i := 0) rfl rfl ag57) ?_; clear hf; intro a hf
  refine sY hf hs rfl rfl rfl (Y_makeFunc (us := []) (vs := [.pointer (some ⟨b1, 0, none⟩)]) rfl rfl rfl) ?_; clear hf; intro a hf
  obtain ⟨r2, hc3, hm⟩ := bind_some hm
  refine sCall hf rfl rfl rfl rfl (cap := []) rfl rfl en138 (slices_ContainsFunc_Place_ok F p0_g.Places A_p0_g_1 p0_g.Places.length c_p0_g_1 rfl (fun x0 => impl_hasCircuit_c1 F x0 p0_g) 188 ([.pointer (some ⟨b1, 0, none⟩)]) _ _ hc3 (h_p0_g_1.at hs) (fun x0 r w' hm_ hb => impl_hasCircuit_c1_ok F x0 b1 p0_g A_p0_g_1 p0_g.Places.length c_p0_g_1 rfl r w' hm_ ((h_p0_g_1.at hs).below hb (Nat.le_refl _)) ((hs.pb (i := 0) rfl).below hb (Nat.le_refl _))) en188) ?_; clear hf
  rintro _ w ⟨rfl, hs1⟩ a hf
  have hs : St [] W w [.blk b1 59 [.int .i64 p0_g.Events, .slice A_p0_g_1 p0_g.Places.length c_p0_g_1]] := hs.ext hs1.below
  clear hs1
  refine sY hf hs rfl rfl rfl (Y_assign rfl rfl) ?_; clear hf; intro a hf
  refine wpO_nil ?_
  obtain rfl := Option.some.inj hm
  refine wpL_ret (ret_tmp rfl hf rfl ?_)
  exact ⟨_, rfl, rfl, hs.sel [] (by decide)⟩

set_option maxRecDepth 100000 in
theorem impl_placeWeight_ok (F : Nat) (p0_p : GPlace) (p1_r : GRatio) (r : Int) (W : World) (hm : impl_placeWeight F p0_p p1_r = some r) :
    Calls Try.prog 190 [.agg #[.int .i64 p0_p.From, .int .i64 p0_p.To, .int .i64 p0_p.Delay, .int .i64 p0_p.Tokens], .agg #[.int .i64 p1_r.Num, .int .i64 p1_r.Den]].toArray W fun e w' => ∃ v, e = .returned v ∧ v = .int .i64 r ∧ St [] W w' [] := by
  unfold impl_placeWeight at hm
  refine Calls.enter (N := 16) Try.func190 rfl rfl rfl (fun a hf => ?_)
  have hs := St.start W
  obtain ⟨w, hw_⟩ : ∃ w, w = W := ⟨W, rfl⟩
  clear hw_ w
  refine wpL_seq ?_
  refine wpL_region ?_
  refine sBox hf hs rfl rfl rfl rfl rfl (cs := [.int .i64 p0_p.From, .int .i64 p0_p.To, .int .i64 p0_p.Delay, .int .i64 p0_p.Tokens]) rfl ?_; clear hf hs; intro a w b1 hs hf
  have hs : St [] W w [.blk b1 127 [.int .i64 p0_p.From, .int .i64 p0_p.To, .int .i64 p0_p.Delay, .int .i64 p0_p.Tokens]] := hs
  refine sBox hf hs rfl rfl rfl rfl rfl (cs := [.int .i64 p1_r.Num, .int .i64 p1_r.Den]) rfl ?_; clear hf hs; intro a w b2 hs hf
  have hs : St [] W w [.blk b1 127 [.int .i64 p0_p.From, .int .i64 p0_p.To, .int .i64 p0_p.Delay, .int .i64 p0_p.Tokens], .blk b2 75 [.int .i64 p1_r.Num, .int .i64 p1_r.Den]] := hs
  refine sY hf hs rfl rfl rfl (Y_assign rfl rfl) ?_; clear hf; intro a hf
  refine wpO_nil ?_
  refine wpL_seq ?_
  refine wpL_region ?_
  refine sY hf hs rfl rfl rfl (Y_fieldAddr rfl rfl fo75_1) ?_; clear hf; intro a hf
  refine sY hf hs rfl rfl rfl (Y_load_blk rfl rfl (i := 1) rfl rfl ag2) ?_; clear hf; intro a hf
  refine sY hf hs rfl rfl rfl (Y_fieldAddr rfl rfl fo127_2) ?_; clear hf; intro a hf
  refine sY hf hs rfl rfl rfl (Y_load_blk rfl rfl (i := 0) rfl rfl ag2) ?_; clear hf; intro a hf
  refine sY hf hs rfl rfl rfl (Y_mul rfl rfl rfl) ?_; clear hf; intro a hf
  refine sY hf hs rfl rfl rfl (Y_fieldAddr rfl rfl fo75_0) ?_; clear hf; intro a hf
  refine sY hf hs rfl rfl rfl (Y_load_blk rfl rfl (i := 1) rfl rfl ag2) ?_; clear hf; intro a hf
  refine sY hf hs rfl rfl rfl (Y_fieldAddr rfl rfl fo127_3) ?_; clear hf; intro a hf
  refine sY hf hs rfl rfl rfl (Y_load_blk rfl rfl (i := 0) rfl rfl ag2) ?_; clear hf; intro a hf
  refine sY hf hs rfl rfl rfl (Y_mul rfl rfl rfl) ?_; clear hf; intro a hf
  refine sY hf hs rfl rfl rfl (Y_sub rfl rfl rfl) ?_; clear hf; intro a hf
  refine sY hf hs rfl rfl rfl (Y_assign rfl rfl) ?_; clear hf; intro a hf
  refine wpO_nil ?_
  obtain rfl := Option.some.inj hm
  refine wpL_ret (ret_tmp rfl hf rfl ?_)
  exact ⟨_, rfl, rfl, hs.sel [] (by decide)⟩

set_option maxRecDepth 100000 in
theorem slices_Reverse_int64_ok (F : Nat) (p0_s : List Int) (A_p0_s_1 : Option Addr) (n_p0_s_1 c_p0_s_1 : Nat) (hn_p0_s_1 : n_p0_s_1 = p0_s.length) (r : (Unit) × List Int) (W : World) (hm : slices_Reverse_int64 F p0_s = some r) (h_p0_s_1 : (Res.row A_p0_s_1 n_p0_s_1 c_p0_s_1 2 1 (ints p0_s) : Res).holds 0 W) :
    Calls Try.prog 191 [.slice A_p0_s_1 n_p0_s_1 c_p0_s_1].toArray W fun e w' => ∃ v, e = .returned v ∧ v = .tuple #[] ∧ n_p0_s_1 = r.2.length ∧ St (muA A_p0_s_1) W w' [.row A_p0_s_1 n_p0_s_1 c_p0_s_1 2 1 (ints r.2)] := by
  subst hn_p0_s_1
  unfold slices_Reverse_int64 at hm
  refine Calls.enter (N := 28) Try.func191 rfl rfl rfl (fun a hf => ?_)
  have hs : St (muA A_p0_s_1) W W [.row A_p0_s_1 p0_s.length c_p0_s_1 2 1 (ints p0_s)] := St.startMut h_p0_s_1 (fun b hb => mem_muA hb)
  obtain ⟨w, hw_⟩ : ∃ w, w = W := ⟨W, rfl⟩
  clear hw_ w
  refine wpL_seq ?_
  refine wpL_region ?_
  refine sY hf hs rfl rfl rfl (Y_move rfl rfl) ?_; clear hf; intro a hf
  refine sY hf hs rfl rfl rfl (Y_lenH rfl rfl el23 rfl) ?_; clear hf; intro a hf
  refine sY hf hs rfl rfl rfl (Y_sub rfl rfl rfl) ?_; clear hf; intro a hf
  refine sY hf hs rfl rfl rfl (Y_assign rfl rfl) ?_; clear hf; intro a hf
  refine sY hf hs rfl rfl rfl (Y_assign rfl rfl) ?_; clear hf; intro a hf
  refine wpO_nil ?_
  obtain ⟨r50, hl51, hm⟩ := bind_some hm
  refine wpL_block (fun a w => ∃ xs48 : List Int, xs48 = r50 ∧ p0_s.length = xs48.length ∧ Fr a 28 [] ∧ St (muA A_p0_s_1) W w [.row A_p0_s_1 p0_s.length c_p0_s_1 2 1 (ints xs48)]) ?_ ?_
  · refine wpL_loop (fun n a w => ∃ xs31 : List Int, ∃ x33 : Int, ∃ x34 : Int, slices_Reverse_int64_L1 F n xs31 x33 x34 = some r50 ∧ p0_s.length = xs31.length ∧ Fr a 28 [(0, .slice A_p0_s_1 p0_s.length c_p0_s_1), (2, .int .i64 x33), (3, .int .i64 x34)] ∧ St (muA A_p0_s_1) W w [.row A_p0_s_1 p0_s.length c_p0_s_1 2 1 (ints xs31)]) F ?_ ?_ ?_
    · exact ⟨p0_s, 0, (IntKind.i64.wrap ((p0_s.length : Int) - 1)), hl51, rfl, (FrD.pick (FrD.pick (FrD.pick hf.none hf rfl) hf rfl) hf rfl), hs⟩
    · rintro a w ⟨xs31, x33, x34, h0_, -, -, -⟩; simp [slices_Reverse_int64_L1] at h0_
    · rintro n53 a w ⟨xs31, x33, x34, hm52, hn32, hf, hs⟩
      rw [slices_Reverse_int64_L1] at hm52
      refine wpL_seq ?_
      refine wpL_seq ?_
      refine wpL_region ?_
      refine sY hf hs rfl rfl rfl (Y_move rfl rfl) ?_; clear hf; intro a hf
      refine sY hf hs rfl rfl rfl (Y_move rfl rfl) ?_; clear hf; intro a hf
      refine sY hf hs rfl rfl rfl (Y_lss rfl rfl rfl) ?_; clear hf; intro a hf
      refine wpO_nil ?_
      refine wpL_cond hf rfl (fun hb54 => ?_) (fun hb54 => ?_)
      · have hm52 := bif_t hm52 hb54
        refine wpL_skip ?_
        refine wpL_seq ?_
        refine wpL_block0 ?_
        refine wpL_drawM [.row A_p0_s_1 p0_s.length c_p0_s_1 2 1 (ints xs31)] [13, 15] (by kernel_rfl) hs ?_; clear hs; intro w hs
        have hs0 : St (muA A_p0_s_1) W w [.row A_p0_s_1 p0_s.length c_p0_s_1 2 1 (ints xs31)] := hs
        refine mYp (i := 0) rfl (by kernel_rfl) (by kernel_rfl) hf rfl rfl rfl (fun _ => Y_move rfl rfl) ?_; clear hf; intro a hf
        refine mYp (i := 1) rfl (by kernel_rfl) (by kernel_rfl) hf rfl rfl rfl (fun _ => Y_move rfl rfl) ?_; clear hf; intro a hf
        refine mYp (i := 2) rfl (by kernel_rfl) (by kernel_rfl) hf rfl rfl rfl (fun _ => Y_move rfl rfl) ?_; clear hf; intro a hf
        refine mYp (i := 3) rfl (by kernel_rfl) (by kernel_rfl) hf rfl rfl rfl (fun _ => Y_move rfl rfl) ?_; clear hf; intro a hf
        refine mYp (i := 4) rfl (by kernel_rfl) (by kernel_rfl) hf rfl rfl rfl (fun _ => Y_move rfl rfl) ?_; clear hf; intro a hf
        refine mYp (i := 5) rfl (by kernel_rfl) (by kernel_rfl) hf rfl rfl rfl (fun _ => Y_move rfl rfl) ?_; clear hf; intro a hf
        obtain ⟨q55, hi56, hm52⟩ := bind_some hm52
        obtain ⟨hi56a, hi56b, hi56q⟩ := idx_some hi56
        refine mYp (i := 6) rfl (by kernel_rfl) (by kernel_rfl) hf rfl rfl rfl (fun _ => Y_index rfl rfl rfl el23 ti2 (Rd.isAt (hs.rd (i := 0) rfl) (at1 (ints_at hi56q))) hi56a (ltn hn32 hi56b)) ?_; clear hf; intro a hf
        refine mY (i := 7) [[], []] rfl (by kernel_rfl) (by kernel_rfl) hf hs0 rfl rfl rfl (Y_load_rd rfl rfl (fun w hs => hs.rd (i := 0) rfl) (at1 (ints_at hi56q)) ag2) ?_; clear hf; intro a hf
        refine mYp (i := 8) rfl (by kernel_rfl) (by kernel_rfl) hf rfl rfl rfl (fun _ => Y_move rfl rfl) ?_; clear hf; intro a hf
        refine mYp (i := 9) rfl (by kernel_rfl) (by kernel_rfl) hf rfl rfl rfl (fun _ => Y_move rfl rfl) ?_; clear hf; intro a hf
        obtain ⟨q57, hi58, hm52⟩ := bind_some hm52
        obtain ⟨hi58a, hi58b, hi58q⟩ := idx_some hi58
        refine mYp (i := 10) rfl (by kernel_rfl) (by kernel_rfl) hf rfl rfl rfl (fun _ => Y_index rfl rfl rfl el23 ti2 (Rd.isAt (hs.rd (i := 0) rfl) (at1 (ints_at hi58q))) hi58a (ltn hn32 hi58b)) ?_; clear hf; intro a hf
        refine mY (i := 11) [[], []] rfl (by kernel_rfl) (by kernel_rfl) hf hs0 rfl rfl rfl (Y_load_rd rfl rfl (fun w hs => hs.rd (i := 0) rfl) (at1 (ints_at hi58q)) ag2) ?_; clear hf; intro a hf
        obtain ⟨q59, hi60, hm52⟩ := bind_some hm52
        obtain ⟨hi60a, hi60b, hi60q⟩ := idx_some hi60
        refine mYp (i := 12) rfl (by kernel_rfl) (by kernel_rfl) hf rfl rfl rfl (fun _ => Y_index rfl rfl rfl el23 ti2 (Rd.isAt (hs.rd (i := 0) rfl) (at1 (ints_at hi60q))) hi60a (ltn hn32 hi60b)) ?_; clear hf; intro a hf
        refine mRun (i := 13) rfl (by kernel_rfl) ?_
        obtain ⟨xs61, hu62, hm52⟩ := bind_some hm52
        refine sStoreL (i := 0) (us := [.int .i64 q55]) (enc := ints) hf hs rfl rfl rfl rfl rfl rfl hn32 hu62 ti2 rfl rfl rfl rfl rfl ints_len1 (ints_set q55) ?_; clear hs; intro w hs
        have hs : St (muA A_p0_s_1) W w [.row A_p0_s_1 p0_s.length c_p0_s_1 2 1 (ints xs61)] := hs
        refine wpO_nil ⟨Or.inl (by decide), ?_⟩
        obtain ⟨q63, hi64, hm52⟩ := bind_some hm52
        obtain ⟨hi64a, hi64b, hi64q⟩ := idx_some hi64
        refine mYp (i := 14) rfl (by kernel_rfl) (by kernel_rfl) hf rfl rfl rfl (fun _ => Y_index rfl rfl rfl el23 ti2 (Rd.isAt (hs.rd (i := 0) rfl) (at1 (ints_at hi64q))) hi64a (ltn ((hn32).trans (upd_len hu62).symm) hi64b)) ?_; clear hf; intro a hf
        refine mRun (i := 15) rfl (by kernel_rfl) ?_
        obtain ⟨xs65, hu66, hm52⟩ := bind_some hm52
        refine sStoreL (i := 0) (us := [.int .i64 q57]) (enc := ints) hf hs rfl rfl rfl rfl rfl rfl ((hn32).trans (upd_len hu62).symm) hu66 ti2 rfl rfl rfl rfl rfl ints_len1 (ints_set q57) ?_; clear hs; intro w hs
        have hs : St (muA A_p0_s_1) W w [.row A_p0_s_1 p0_s.length c_p0_s_1 2 1 (ints xs65)] := hs
        refine wpO_nil ⟨Or.inl (by decide), ?_⟩
        refine mDone (by kernel_rfl) ?_
        clear hs0
        refine wpL_nil (Qb_normal ?_)
        refine wpL_region ?_
        refine sY hf hs rfl rfl rfl (Y_move rfl rfl) ?_; clear hf; intro a hf
        refine sY hf hs rfl rfl rfl (Y_add rfl rfl rfl) ?_; clear hf; intro a hf
        refine sY hf hs rfl rfl rfl (Y_move rfl rfl) ?_; clear hf; intro a hf
        refine sY hf hs rfl rfl rfl (Y_sub rfl rfl rfl) ?_; clear hf; intro a hf
        refine sY hf hs rfl rfl rfl (Y_assign rfl rfl) ?_; clear hf; intro a hf
        refine sY hf hs rfl rfl rfl (Y_assign rfl rfl) ?_; clear hf; intro a hf
        refine wpO_nil ?_
        refine wpL_nil (Ql_normal ?_)
        exact ⟨xs65, (IntKind.i64.wrap (x33 + 1)), (IntKind.i64.wrap (x34 - 1)), hm52, ((((hn32).trans (upd_len hu62).symm)).trans (upd_len hu66).symm), (FrD.pick (FrD.pick (FrD.pick hf.none hf rfl) hf rfl) hf rfl), hs⟩
      · have hm52 := bif_f hm52 hb54
        refine wpL_exit (Ql_exit (Qb_exit ?_))
        exact ⟨xs31, Option.some.inj hm52, hn32, hf.none, hs⟩
  · rintro a w ⟨xs48, hr_, hn49, hf, hs⟩
    subst hr_
    try dsimp only at hm
    obtain rfl := Option.some.inj hm
    refine wpL_nil (ret_end (ret_none rfl hf ?_))
    exact ⟨_, rfl, rfl, hn49, hs⟩

set_option maxHeartbeats 2000000 in
set_option maxRecDepth 100000 in
theorem impl_betterCircuit_ok (F : Nat) (p0 : GEventGraph) (A_p0_1 : Option Addr) (n_p0_1 c_p0_1 : Nat) (hn_p0_1 : n_p0_1 = p0.Places.length) (p1 : GRatio) (r : List Int) (W : World) (hm : impl_betterCircuit F p0 p1 = some r) (h_p0_1 : Rd W A_p0_1 ((recs GPlace.cells) p0.Places)) :
    Calls Try.prog 177 [.agg #[.int .i64 p0.Events, .slice A_p0_1 n_p0_1 c_p0_1], .agg #[.int .i64 p1.Num, .int .i64 p1.Den]].toArray W fun e w' => ∃ v, e = .returned v ∧ ∃ A663, ∃ n664, ∃ c665, v = .slice A663 n664 c665 ∧ n664 = r.length ∧ (r = [] → A663 = none) ∧ St [] W w' [.row A663 n664 c665 2 1 (ints r)] := by
  subst hn_p0_1
  unfold impl_betterCircuit at hm
  refine Calls.enter (N := 101) Try.func177 rfl rfl rfl (fun a hf => ?_)
  have hs := St.start W
  obtain ⟨w, hw_⟩ : ∃ w, w = W := ⟨W, rfl⟩
  clear hw_ w
  refine wpL_seq ?_
  refine wpL_region ?_
  refine sBox hf hs rfl rfl rfl rfl rfl (cs := [.int .i64 p0.Events, .slice A_p0_1 p0.Places.length c_p0_1]) rfl ?_; clear hf hs; intro a w b1 hs hf
  have hs : St [] W w [.blk b1 59 [.int .i64 p0.Events, .slice A_p0_1 p0.Places.length c_p0_1]] := hs
  refine sBox hf hs rfl rfl rfl rfl rfl (cs := [.int .i64 p1.Num, .int .i64 p1.Den]) rfl ?_; clear hf hs; intro a w b2 hs hf
  have hs : St [] W w [.blk b1 59 [.int .i64 p0.Events, .slice A_p0_1 p0.Places.length c_p0_1], .blk b2 75 [.int .i64 p1.Num, .int .i64 p1.Den]] := hs
  refine sY hf hs rfl rfl rfl (Y_assign rfl rfl) ?_; clear hf; intro a hf
  refine wpO_nil ?_
  refine wpL_seq ?_
  refine wpL_region ?_
  refine sY hf hs rfl rfl rfl (Y_fieldAddr rfl rfl fo59_0) ?_; clear hf; intro a hf
  refine sY hf hs rfl rfl rfl (Y_load_blk rfl rfl (i := 0) rfl rfl ag2) ?_; clear hf; intro a hf
  obtain ⟨xs5, hk4, hm⟩ := bind_some hm
  refine sMakeL (enc := ints) hf hs rfl rfl rfl rfl rfl hk4 el23 ti2 rfl ints_made ?_; clear hf hs; intro a w A3 hs hf
  have hs : St [] W w [.blk b1 59 [.int .i64 p0.Events, .slice A_p0_1 p0.Places.length c_p0_1], .blk b2 75 [.int .i64 p1.Num, .int .i64 p1.Den], .row A3 xs5.length xs5.length 2 1 (ints xs5)] := hs
  refine sY hf hs rfl rfl rfl (Y_assign rfl rfl) ?_; clear hf; intro a hf
  refine wpO_nil ?_
  refine wpL_seq ?_
  refine wpL_region ?_
  refine sY hf hs rfl rfl rfl (Y_fieldAddr rfl rfl fo59_0) ?_; clear hf; intro a hf
  refine sY hf hs rfl rfl rfl (Y_load_blk rfl rfl (i := 0) rfl rfl ag2) ?_; clear hf; intro a hf
  obtain ⟨xs8, hk7, hm⟩ := bind_some hm
  refine sMakeL (enc := ints) hf hs rfl rfl rfl rfl rfl hk7 el23 ti2 rfl ints_made ?_; clear hf hs; intro a w A6 hs hf
  have hs : St [] W w [.blk b1 59 [.int .i64 p0.Events, .slice A_p0_1 p0.Places.length c_p0_1], .blk b2 75 [.int .i64 p1.Num, .int .i64 p1.Den], .row A3 xs5.length xs5.length 2 1 (ints xs5), .row A6 xs8.length xs8.length 2 1 (ints xs8)] := hs
  refine sY hf hs rfl rfl rfl (Y_assign rfl rfl) ?_; clear hf; intro a hf
  refine wpO_nil ?_
  refine wpL_seq ?_
  refine wpL_region ?_
  refine sY hf hs rfl rfl rfl (Y_assign rfl rfl) ?_; clear hf; intro a hf
  refine wpO_nil ?_
  refine wpL_seq ?_
  refine wpL_seq ?_
  refine wpL_region ?_
  refine sY hf hs rfl rfl rfl (Y_fieldAddr rfl rfl fo59_0) ?_; clear hf; intro a hf
  refine sY hf hs rfl rfl rfl (Y_load_blk rfl rfl (i := 0) rfl rfl ag2) ?_; clear hf; intro a hf
  refine sY hf hs rfl rfl rfl (Y_add rfl rfl rfl) ?_; clear hf; intro a hf
  refine sY hf hs rfl rfl rfl (Y_move rfl rfl) ?_; clear hf; intro a hf
  refine wpO_nil ?_
  obtain ⟨r417, hl418, hm⟩ := bind_some hm
  refine wpL_block (fun a w => ∃ xs414 : List Int, ∃ x416 : Int, Sum.inr (xs414, x416) = r417 ∧ xs8.length = xs414.length ∧ Fr a 101 [(2, .pointer (some ⟨b1, 0, none⟩)), (6, .slice A6 xs8.length xs8.length), (7, .int .i64 x416)] ∧ St [] W w [.blk b1 59 [.int .i64 p0.Events, .slice A_p0_1 p0.Places.length c_p0_1], .row A6 xs8.length xs8.length 2 1 (ints xs414)]) ?_ ?_
  · refine wpL_loop (fun n a w => ∃ xs277 : List Int, ∃ xs279 : List Int, ∃ x281 : Int, ∃ x282 : Int, impl_betterCircuit_L4 F p0 p1 n xs277 xs279 x281 x282 = some r417 ∧ xs5.length = xs277.length ∧ xs8.length = xs279.length ∧ Fr a 101 [(2, .pointer (some ⟨b1, 0, none⟩)), (3, .pointer (some ⟨b2, 0, none⟩)), (5, .slice A3 xs5.length xs5.length), (6, .slice A6 xs8.length xs8.length), (7, .int .i64 x281), (21, .int .i64 (IntKind.i64.wrap (p0.Events + 1))), (22, .int .i64 x282)] ∧ St [] W w [.blk b1 59 [.int .i64 p0.Events, .slice A_p0_1 p0.Places.length c_p0_1], .blk b2 75 [.int .i64 p1.Num, .int .i64 p1.Den], .row A3 xs5.length xs5.length 2 1 (ints xs277), .row A6 xs8.length xs8.length 2 1 (ints xs279)]) F ?_ ?_ ?_
    · exact ⟨xs5, xs8, (-1), 0, hl418, rfl, rfl, (FrD.pick (FrD.pick (FrD.pick (FrD.pick (FrD.pick (FrD.pick (FrD.pick hf.none hf rfl) hf rfl) hf rfl) hf rfl) hf rfl) hf rfl) hf rfl), hs⟩
    · rintro a w ⟨xs277, xs279, x281, x282, h0_, -, -, -, -⟩; simp [impl_betterCircuit_L4] at h0_
    · rintro n420 a w ⟨xs277, xs279, x281, x282, hm419, hn278, hn280, hf, hs⟩
      rw [impl_betterCircuit_L4] at hm419
      refine wpL_seq ?_
      refine wpL_region ?_
      refine sY hf hs rfl rfl rfl (Y_lss rfl rfl rfl) ?_; clear hf; intro a hf
      refine wpO_nil ?_
      refine wpL_seq ?_
      refine wpL_cond hf rfl (fun hb421 => ?_) (fun hb421 => ?_)
      · have hm419 := bif_t hm419 hb421
        refine wpL_skip ?_
        refine wpL_seq ?_
        refine wpL_block0 ?_
        refine wpL_seq ?_
        refine wpL_region ?_
        refine sY hf hs rfl rfl rfl (Y_assign rfl rfl) ?_; clear hf; intro a hf
        refine wpO_nil ?_
        refine wpL_seq ?_
        refine wpL_seq ?_
        refine wpL_region ?_
        refine sY hf hs rfl rfl rfl (Y_fieldAddr rfl rfl fo59_1) ?_; clear hf; intro a hf
        refine sY hf hs rfl rfl rfl (Y_load_blk rfl rfl (i := 0) rfl rfl ag57) ?_; clear hf; intro a hf
        refine sY hf hs rfl rfl rfl (Y_lenH rfl rfl el57 rfl) ?_; clear hf; intro a hf
        refine sY hf hs rfl rfl rfl (Y_move rfl rfl) ?_; clear hf; intro a hf
        refine wpO_nil ?_
        obtain ⟨r520, hl521, hm419⟩ := bind_some hm419
        refine wpL_block (fun a w => ∃ xs515 : List Int, ∃ xs517 : List Int, ∃ x519 : Int, (xs515, xs517, x519) = r520 ∧ xs5.length = xs515.length ∧ xs8.length = xs517.length ∧ Fr a 101 [(2, .pointer (some ⟨b1, 0, none⟩)), (3, .pointer (some ⟨b2, 0, none⟩)), (5, .slice A3 xs5.length xs5.length), (6, .slice A6 xs8.length xs8.length), (7, .int .i64 x519), (21, .int .i64 (IntKind.i64.wrap (p0.Events + 1))), (22, .int .i64 x282)] ∧ St [] W w [.blk b1 59 [.int .i64 p0.Events, .slice A_p0_1 p0.Places.length c_p0_1], .blk b2 75 [.int .i64 p1.Num, .int .i64 p1.Den], .row A3 xs5.length xs5.length 2 1 (ints xs515), .row A6 xs8.length xs8.length 2 1 (ints xs517)]) ?_ ?_
        · refine wpL_loop (fun n a w => ∃ xs482 : List Int, ∃ xs484 : List Int, ∃ x486 : Int, ∃ x487 : Int, impl_betterCircuit_L5 F p0 p1 n xs482 xs484 x486 x487 = some r520 ∧ xs5.length = xs482.length ∧ xs8.length = xs484.length ∧ Fr a 101 [(2, .pointer (some ⟨b1, 0, none⟩)), (3, .pointer (some ⟨b2, 0, none⟩)), (5, .slice A3 xs5.length xs5.length), (6, .slice A6 xs8.length xs8.length), (7, .int .i64 x486), (21, .int .i64 (IntKind.i64.wrap (p0.Events + 1))), (22, .int .i64 x282), (25, .slice A_p0_1 p0.Places.length c_p0_1), (26, .int .i64 (p0.Places.length : Int)), (27, .int .i64 x487)] ∧ St [] W w [.blk b1 59 [.int .i64 p0.Events, .slice A_p0_1 p0.Places.length c_p0_1], .blk b2 75 [.int .i64 p1.Num, .int .i64 p1.Den], .row A3 xs5.length xs5.length 2 1 (ints xs482), .row A6 xs8.length xs8.length 2 1 (ints xs484)]) F ?_ ?_ ?_
          · exact ⟨xs277, xs279, (-1), 0, hl521, hn278, hn280, (FrD.pick (FrD.pick (FrD.pick (FrD.pick (FrD.pick (FrD.pick (FrD.pick (FrD.pick (FrD.pick (FrD.pick hf.none hf rfl) hf rfl) hf rfl) hf rfl) hf rfl) hf rfl) hf rfl) hf rfl) hf rfl) hf rfl), hs⟩
          · rintro a w ⟨xs482, xs484, x486, x487, h0_, -, -, -, -⟩; simp [impl_betterCircuit_L5] at h0_
          · rintro n523 a w ⟨xs482, xs484, x486, x487, hm522, hn483, hn485, hf, hs⟩
            rw [impl_betterCircuit_L5] at hm522
            refine wpL_seq ?_
            refine wpL_region ?_
            refine sY hf hs rfl rfl rfl (Y_lss rfl rfl rfl) ?_; clear hf; intro a hf
            refine wpO_nil ?_
            refine wpL_seq ?_
            refine wpL_cond hf rfl (fun hb524 => ?_) (fun hb524 => ?_)
            · have hm522 := bif_t hm522 hb524
              refine wpL_skip ?_
              refine wpL_seq ?_
              refine wpL_block0 ?_
              refine wpL_seq ?_
              refine wpL_region ?_
              refine sY hf hs rfl rfl rfl (Y_move rfl rfl) ?_; clear hf; intro a hf
              obtain ⟨q525, hi526, hm522⟩ := bind_some hm522
              obtain ⟨hi526a, hi526b, hi526q⟩ := idx_some hi526
              refine sY hf hs rfl rfl rfl (Y_index rfl rfl rfl el57 ti127 (Rd.isAt (h_p0_1.at hs) (recs_at (s := 4) GPlace.len hi526q (j := 0) rfl)) hi526a hi526b) ?_; clear hf; intro a hf
              refine sY hf hs rfl rfl rfl (Y_load_rdS rfl rfl (us := [.int .i64 q525.From, .int .i64 q525.To, .int .i64 q525.Delay, .int .i64 q525.Tokens]) (fun w hs => h_p0_1.at hs) (fun j u hj => recs_at (s := 4) GPlace.len hi526q hj) (Nat.succ_pos _) ag127 ti127 rfl) ?_; clear hf; intro a hf
              refine sAlloc hf hs rfl rfl rfl rfl ti127 ?_; clear hf hs; intro a w b527 hs hf
              have hs : St [] W w [.blk b1 59 [.int .i64 p0.Events, .slice A_p0_1 p0.Places.length c_p0_1], .blk b2 75 [.int .i64 p1.Num, .int .i64 p1.Den], .row A3 xs5.length xs5.length 2 1 (ints xs482), .row A6 xs8.length xs8.length 2 1 (ints xs484), .blk b527 127 [.int .i64 0, .int .i64 0, .int .i64 0, .int .i64 0]] := hs
              refine sY hf hs rfl rfl rfl (Y_assign rfl rfl) ?_; clear hf; intro a hf
              refine sStore (i := 4) (us := [.int .i64 q525.From, .int .i64 q525.To, .int .i64 q525.Delay, .int .i64 q525.Tokens]) hf hs rfl rfl rfl rfl rfl rfl ti127 rfl rfl rfl (Nat.le_of_ble_eq_true rfl) rfl ?_; clear hs; intro w hs
              have hs : St [] W w [.blk b1 59 [.int .i64 p0.Events, .slice A_p0_1 p0.Places.length c_p0_1], .blk b2 75 [.int .i64 p1.Num, .int .i64 p1.Den], .row A3 xs5.length xs5.length 2 1 (ints xs482), .row A6 xs8.length xs8.length 2 1 (ints xs484), .blk b527 127 [.int .i64 q525.From, .int .i64 q525.To, .int .i64 q525.Delay, .int .i64 q525.Tokens]] := hs
              refine wpO_nil ?_
              refine wpL_seq ?_
              refine wpL_draw (by kernel_rfl) (by kernel_rfl) hs ?_
              refine qY hf rfl rfl rfl (Y_move rfl rfl) ?_; clear hf; intro a hf
              refine qY hf rfl rfl rfl (Y_fieldAddr rfl rfl fo127_0) ?_; clear hf; intro a hf
              refine qY hf rfl rfl rfl (Y_load_blk rfl rfl (i := 4) rfl rfl ag2) ?_; clear hf; intro a hf
              obtain ⟨q528, hi529, hm522⟩ := bind_some hm522
              obtain ⟨hi529a, hi529b, hi529q⟩ := idx_some hi529
              refine qY hf rfl rfl rfl (Y_index rfl rfl rfl el23 ti2 (Rd.isAt (hs.rd (i := 2) rfl) (at1 (ints_at hi529q))) hi529a (ltn hn483 hi529b)) ?_; clear hf; intro a hf
              refine qY hf rfl rfl rfl (Y_load_rd rfl rfl (fun w hs => hs.rd (i := 2) rfl) (at1 (ints_at hi529q)) ag2) ?_; clear hf; intro a hf
              refine qY hf rfl rfl rfl (Y_load_blkS rfl rfl (i := 4) rfl ag127 ti127 rfl) ?_; clear hf; intro a hf
              refine qY hf rfl rfl rfl (Y_load_blkS rfl rfl (i := 1) rfl ag75 ti75 rfl) ?_; clear hf; intro a hf
              obtain ⟨r530, hc531, hm522⟩ := bind_some hm522
              refine qCall hf rfl rfl rfl rfl (cap := []) rfl rfl en190 (v := .int .i64 r530) (fun w hs => Calls.scal (impl_placeWeight_ok F q525 p1 _ _ hc531)) ?_; clear hf; intro a hf
              refine qY hf rfl rfl rfl (Y_add rfl rfl rfl) ?_; clear hf; intro a hf
              refine qY hf rfl rfl rfl (Y_assign rfl rfl) ?_; clear hf; intro a hf
              refine qNil ?_; clear hs; intro w hs
              refine wpL_seq ?_
              refine wpL_region ?_
              refine sY hf hs rfl rfl rfl (Y_move rfl rfl) ?_; clear hf; intro a hf
              refine sY hf hs rfl rfl rfl (Y_move rfl rfl) ?_; clear hf; intro a hf
              refine sY hf hs rfl rfl rfl (Y_fieldAddr rfl rfl fo127_1) ?_; clear hf; intro a hf
              refine sY hf hs rfl rfl rfl (Y_load_blk rfl rfl (i := 4) rfl rfl ag2) ?_; clear hf; intro a hf
              obtain ⟨q532, hi533, hm522⟩ := bind_some hm522
              obtain ⟨hi533a, hi533b, hi533q⟩ := idx_some hi533
              refine sY hf hs rfl rfl rfl (Y_index rfl rfl rfl el23 ti2 (Rd.isAt (hs.rd (i := 2) rfl) (at1 (ints_at hi533q))) hi533a (ltn hn483 hi533b)) ?_; clear hf; intro a hf
              refine sY hf hs rfl rfl rfl (Y_load_rd rfl rfl (fun w hs => hs.rd (i := 2) rfl) (at1 (ints_at hi533q)) ag2) ?_; clear hf; intro a hf
              refine sY hf hs rfl rfl rfl (Y_gtr rfl rfl rfl) ?_; clear hf; intro a hf
              refine wpO_nil ?_
              refine wpL_cond hf rfl (fun hb534 => ?_) (fun hb534 => ?_)
              · have hm522 := bif_t hm522 hb534
                refine wpL_drawM [.blk b1 59 [.int .i64 p0.Events, .slice A_p0_1 p0.Places.length c_p0_1], .blk b2 75 [.int .i64 p1.Num, .int .i64 p1.Den], .blk b527 127 [.int .i64 q525.From, .int .i64 q525.To, .int .i64 q525.Delay, .int .i64 q525.Tokens]] [] (by kernel_rfl) hs ?_; clear hs; intro w hs
                have hs0 : St [] W w [.blk b1 59 [.int .i64 p0.Events, .slice A_p0_1 p0.Places.length c_p0_1], .blk b2 75 [.int .i64 p1.Num, .int .i64 p1.Den], .blk b527 127 [.int .i64 q525.From, .int .i64 q525.To, .int .i64 q525.Delay, .int .i64 q525.Tokens]] := hs.sel [0, 1, 4] (by decide)
                refine mYp (i := 0) rfl (by kernel_rfl) (by kernel_rfl) hf rfl rfl rfl (fun _ => Y_move rfl rfl) ?_; clear hf; intro a hf
                refine mYp (i := 1) rfl (by kernel_rfl) (by kernel_rfl) hf rfl rfl rfl (fun _ => Y_fieldAddr rfl rfl fo127_1) ?_; clear hf; intro a hf
                refine mY (i := 2) [] rfl (by kernel_rfl) (by kernel_rfl) hf hs0 rfl rfl rfl (Y_load_blk rfl rfl (i := 2) rfl rfl ag2) ?_; clear hf; intro a hf
                refine mYp (i := 3) rfl (by kernel_rfl) (by kernel_rfl) hf rfl rfl rfl (fun _ => Y_move rfl rfl) ?_; clear hf; intro a hf
                refine mYp (i := 4) rfl (by kernel_rfl) (by kernel_rfl) hf rfl rfl rfl (fun _ => Y_fieldAddr rfl rfl fo127_1) ?_; clear hf; intro a hf
                refine mY (i := 5) [] rfl (by kernel_rfl) (by kernel_rfl) hf hs0 rfl rfl rfl (Y_load_blk rfl rfl (i := 2) rfl rfl ag2) ?_; clear hf; intro a hf
                refine mYp (i := 6) rfl (by kernel_rfl) (by kernel_rfl) hf rfl rfl rfl (fun _ => Y_move rfl rfl) ?_; clear hf; intro a hf
                refine mYp (i := 7) rfl (by kernel_rfl) (by kernel_rfl) hf rfl rfl rfl (fun _ => Y_move rfl rfl) ?_; clear hf; intro a hf
                refine mYp (i := 8) rfl (by kernel_rfl) (by kernel_rfl) hf rfl rfl rfl (fun _ => Y_fieldAddr rfl rfl fo127_1) ?_; clear hf; intro a hf
                refine mY (i := 9) [] rfl (by kernel_rfl) (by kernel_rfl) hf hs0 rfl rfl rfl (Y_load_blk rfl rfl (i := 2) rfl rfl ag2) ?_; clear hf; intro a hf
                obtain ⟨q543, hi544, hm522⟩ := bind_some hm522
                obtain ⟨hi544a, hi544b, hi544q⟩ := idx_some hi544
                refine mYp (i := 10) rfl (by kernel_rfl) (by kernel_rfl) hf rfl rfl rfl (fun _ => Y_index rfl rfl rfl el23 ti2 (Rd.isAt (hs.rd (i := 2) rfl) (at1 (ints_at hi544q))) hi544a (ltn hn483 hi544b)) ?_; clear hf; intro a hf
                refine mRun (i := 11) rfl (by kernel_rfl) ?_
                obtain ⟨xs545, hu546, hm522⟩ := bind_some hm522
                refine sStoreL (i := 2) (us := [.int .i64 (IntKind.i64.wrap (q528 + r530))]) (enc := ints) hf hs rfl rfl rfl rfl rfl rfl hn483 hu546 ti2 rfl rfl rfl rfl rfl ints_len1 (ints_set (IntKind.i64.wrap (q528 + r530))) ?_; clear hs; intro w hs
                have hs : St [] W w [.blk b1 59 [.int .i64 p0.Events, .slice A_p0_1 p0.Places.length c_p0_1], .blk b2 75 [.int .i64 p1.Num, .int .i64 p1.Den], .row A3 xs5.length xs5.length 2 1 (ints xs545), .row A6 xs8.length xs8.length 2 1 (ints xs484), .blk b527 127 [.int .i64 q525.From, .int .i64 q525.To, .int .i64 q525.Delay, .int .i64 q525.Tokens]] := hs
                have hs0 : St [] W w [.blk b1 59 [.int .i64 p0.Events, .slice A_p0_1 p0.Places.length c_p0_1], .blk b2 75 [.int .i64 p1.Num, .int .i64 p1.Den], .blk b527 127 [.int .i64 q525.From, .int .i64 q525.To, .int .i64 q525.Delay, .int .i64 q525.Tokens]] := hs.sel [0, 1, 4] (by decide)
                refine wpO_nil ⟨Or.inr (fun _ => hs0), ?_⟩
                obtain ⟨q547, hi548, hm522⟩ := bind_some hm522
                obtain ⟨hi548a, hi548b, hi548q⟩ := idx_some hi548
                refine mYp (i := 12) rfl (by kernel_rfl) (by kernel_rfl) hf rfl rfl rfl (fun _ => Y_index rfl rfl rfl el23 ti2 (Rd.isAt (hs.rd (i := 3) rfl) (at1 (ints_at hi548q))) hi548a (ltn hn485 hi548b)) ?_; clear hf; intro a hf
                refine mRun (i := 13) rfl (by kernel_rfl) ?_
                obtain ⟨xs549, hu550, hm522⟩ := bind_some hm522
                refine sStoreL (i := 3) (us := [.int .i64 x487]) (enc := ints) hf hs rfl rfl rfl rfl rfl rfl hn485 hu550 ti2 rfl rfl rfl rfl rfl ints_len1 (ints_set x487) ?_; clear hs; intro w hs
                have hs : St [] W w [.blk b1 59 [.int .i64 p0.Events, .slice A_p0_1 p0.Places.length c_p0_1], .blk b2 75 [.int .i64 p1.Num, .int .i64 p1.Den], .row A3 xs5.length xs5.length 2 1 (ints xs545), .row A6 xs8.length xs8.length 2 1 (ints xs549), .blk b527 127 [.int .i64 q525.From, .int .i64 q525.To, .int .i64 q525.Delay, .int .i64 q525.Tokens]] := hs
                have hs0 : St [] W w [.blk b1 59 [.int .i64 p0.Events, .slice A_p0_1 p0.Places.length c_p0_1], .blk b2 75 [.int .i64 p1.Num, .int .i64 p1.Den], .blk b527 127 [.int .i64 q525.From, .int .i64 q525.To, .int .i64 q525.Delay, .int .i64 q525.Tokens]] := hs.sel [0, 1, 4] (by decide)
                refine wpO_nil ⟨Or.inr (fun _ => hs0), ?_⟩
                refine mYp (i := 14) rfl (by kernel_rfl) (by kernel_rfl) hf rfl rfl rfl (fun _ => Y_assign rfl rfl) ?_; clear hf; intro a hf
                refine mDone (by kernel_rfl) ?_
                clear hs0
                refine wpL_nil (Qb_normal ?_)
                refine wpL_region ?_
                refine sY hf hs rfl rfl rfl (Y_add rfl rfl rfl) ?_; clear hf; intro a hf
                refine sY hf hs rfl rfl rfl (Y_move rfl rfl) ?_; clear hf; intro a hf
                refine wpO_nil ?_
                refine wpL_nil (Ql_normal ?_)
                exact ⟨xs545, xs549, q525.To, (IntKind.i64.wrap (x487 + 1)), hm522, ((hn483).trans (upd_len hu546).symm), ((hn485).trans (upd_len hu550).symm), (FrD.pick (FrD.pick (FrD.pick (FrD.pick (FrD.pick (FrD.pick (FrD.pick (FrD.pick (FrD.pick (FrD.pick hf.none hf rfl) hf rfl) hf rfl) hf rfl) hf rfl) hf rfl) hf rfl) hf rfl) hf rfl) hf rfl), hs.sel [0, 1, 2, 3] (by decide)⟩
              · have hm522 := bif_f hm522 hb534
                refine wpL_skip ?_
                refine wpL_nil (Qb_normal ?_)
                refine wpL_region ?_
                refine sY hf hs rfl rfl rfl (Y_add rfl rfl rfl) ?_; clear hf; intro a hf
                refine sY hf hs rfl rfl rfl (Y_move rfl rfl) ?_; clear hf; intro a hf
                refine wpO_nil ?_
                refine wpL_nil (Ql_normal ?_)
                exact ⟨xs482, xs484, x486, (IntKind.i64.wrap (x487 + 1)), hm522, hn483, hn485, (FrD.pick (FrD.pick (FrD.pick (FrD.pick (FrD.pick (FrD.pick (FrD.pick (FrD.pick (FrD.pick (FrD.pick hf.none hf rfl) hf rfl) hf rfl) hf rfl) hf rfl) hf rfl) hf rfl) hf rfl) hf rfl) hf rfl), hs.sel [0, 1, 2, 3] (by decide)⟩
            · have hm522 := bif_f hm522 hb524
              refine wpL_exit (Ql_exit (Qb_exit ?_))
              exact ⟨xs482, xs484, x486, Option.some.inj hm522, hn483, hn485, (FrD.pick (FrD.pick (FrD.pick (FrD.pick (FrD.pick (FrD.pick (FrD.pick hf.none hf rfl) hf rfl) hf rfl) hf rfl) hf rfl) hf rfl) hf rfl), hs⟩
        · rintro a w ⟨xs515, xs517, x519, hr_, hn516, hn518, hf, hs⟩
          subst hr_
          try dsimp only at hm419
          refine wpL_seq ?_
          refine wpL_region ?_
          refine sY hf hs rfl rfl rfl (Y_move rfl rfl) ?_; clear hf; intro a hf
          refine sY hf hs rfl rfl rfl (Y_lss rfl rfl rfl) ?_; clear hf; intro a hf
          refine wpO_nil ?_
          refine wpL_cond hf rfl (fun hb551 => ?_) (fun hb551 => ?_)
          · have hm419 := bif_t hm419 hb551
            refine wpL_seq ?_
            refine wpL_region ?_
            refine sY hf hs rfl rfl rfl (Y_assign rfl rfl) ?_; clear hf; intro a hf
            refine wpO_nil ?_
            have hs : St [] W _ [.blk b1 59 [.int .i64 p0.Events, .slice A_p0_1 p0.Places.length c_p0_1], .blk b2 75 [.int .i64 p1.Num, .int .i64 p1.Den], .row A3 xs5.length xs5.length 2 1 (ints xs515), .row A6 xs8.length xs8.length 2 1 (ints xs517), .row none 0 0 2 1 (ints ([] : List Int))] := hs.addNil 2 1
            obtain rfl := Option.some.inj hm419
            try dsimp only at hm
            obtain rfl := Option.some.inj hm
            refine wpL_ret (Qb_ret (Ql_ret (Qb_ret (ret_tmp rfl hf rfl ?_))))
            exact ⟨_, rfl, none, 0, 0, rfl, rfl, (fun _ => rfl), hs.sel [4] (by decide)⟩
          · have hm419 := bif_f hm419 hb551
            refine wpL_skip ?_
            refine wpL_nil (Qb_normal ?_)
            refine wpL_region ?_
            refine sY hf hs rfl rfl rfl (Y_add rfl rfl rfl) ?_; clear hf; intro a hf
            refine sY hf hs rfl rfl rfl (Y_move rfl rfl) ?_; clear hf; intro a hf
            refine wpO_nil ?_
            refine wpL_nil (Ql_normal ?_)
            exact ⟨xs515, xs517, x519, (IntKind.i64.wrap (x282 + 1)), hm419, hn516, hn518, (FrD.pick (FrD.pick (FrD.pick (FrD.pick (FrD.pick (FrD.pick (FrD.pick hf.none hf rfl) hf rfl) hf rfl) hf rfl) hf rfl) hf rfl) hf rfl), hs⟩
      · have hm419 := bif_f hm419 hb421
        refine wpL_exit (Ql_exit (Qb_exit ?_))
        exact ⟨xs279, x281, Option.some.inj hm419, hn280, (FrD.pick (FrD.pick (FrD.pick hf.none hf rfl) hf rfl) hf rfl), hs.sel [0, 3] (by decide)⟩
  · rintro a w ⟨xs414, x416, hr_, hn415, hf, hs⟩
    subst hr_
    try dsimp only at hm
    refine wpL_seq ?_
    refine wpL_seq ?_
    refine wpL_region ?_
    refine sY hf hs rfl rfl rfl (Y_fieldAddr rfl rfl fo59_0) ?_; clear hf; intro a hf
    refine sY hf hs rfl rfl rfl (Y_load_blk rfl rfl (i := 0) rfl rfl ag2) ?_; clear hf; intro a hf
    refine sY hf hs rfl rfl rfl (Y_move rfl rfl) ?_; clear hf; intro a hf
    refine wpO_nil ?_
    obtain ⟨r573, hl574, hm⟩ := bind_some hm
    refine wpL_block (fun a w => ∃ x572 : Int, x572 = r573 ∧ Fr a 101 [(2, .pointer (some ⟨b1, 0, none⟩)), (6, .slice A6 xs8.length xs8.length), (7, .int .i64 x572)] ∧ St [] W w [.blk b1 59 [.int .i64 p0.Events, .slice A_p0_1 p0.Places.length c_p0_1], .row A6 xs8.length xs8.length 2 1 (ints xs414)]) ?_ ?_
    · refine wpL_loop (fun n a w => ∃ x565 : Int, ∃ x566 : Int, impl_betterCircuit_L6 F p0 xs414 n x565 x566 = some r573 ∧ Fr a 101 [(2, .pointer (some ⟨b1, 0, none⟩)), (6, .slice A6 xs8.length xs8.length), (7, .int .i64 x565), (65, .int .i64 p0.Events), (66, .int .i64 x566)] ∧ St [] W w [.blk b1 59 [.int .i64 p0.Events, .slice A_p0_1 p0.Places.length c_p0_1], .row A6 xs8.length xs8.length 2 1 (ints xs414)]) F ?_ ?_ ?_
      · exact ⟨x416, 0, hl574, (FrD.pick (FrD.pick (FrD.pick (FrD.pick (FrD.pick hf.none hf rfl) hf rfl) hf rfl) hf rfl) hf rfl), hs⟩
      · rintro a w ⟨x565, x566, h0_, -, -⟩; simp [impl_betterCircuit_L6] at h0_
      · rintro n576 a w ⟨x565, x566, hm575, hf, hs⟩
        rw [impl_betterCircuit_L6] at hm575
        refine wpL_seq ?_
        refine wpL_region ?_
        refine sY hf hs rfl rfl rfl (Y_lss rfl rfl rfl) ?_; clear hf; intro a hf
        refine wpO_nil ?_
        refine wpL_seq ?_
        refine wpL_cond hf rfl (fun hb577 => ?_) (fun hb577 => ?_)
        · have hm575 := bif_t hm575 hb577
          refine wpL_skip ?_
          refine wpL_seq ?_
          refine wpL_block0 ?_
          refine wpL_draw (by kernel_rfl) (by kernel_rfl) hs ?_
          refine qY hf rfl rfl rfl (Y_fieldAddr rfl rfl fo59_1) ?_; clear hf; intro a hf
          refine qY hf rfl rfl rfl (Y_load_blk rfl rfl (i := 0) rfl rfl ag57) ?_; clear hf; intro a hf
          refine qY hf rfl rfl rfl (Y_move rfl rfl) ?_; clear hf; intro a hf
          refine qY hf rfl rfl rfl (Y_move rfl rfl) ?_; clear hf; intro a hf
          obtain ⟨q578, hi579, hm575⟩ := bind_some hm575
          obtain ⟨hi579a, hi579b, hi579q⟩ := idx_some hi579
          refine qY hf rfl rfl rfl (Y_index rfl rfl rfl el23 ti2 (Rd.isAt (hs.rd (i := 1) rfl) (at1 (ints_at hi579q))) hi579a (ltn hn415 hi579b)) ?_; clear hf; intro a hf
          refine qY hf rfl rfl rfl (Y_load_rd rfl rfl (fun w hs => hs.rd (i := 1) rfl) (at1 (ints_at hi579q)) ag2) ?_; clear hf; intro a hf
          obtain ⟨q580, hi581, hm575⟩ := bind_some hm575
          obtain ⟨hi581a, hi581b, hi581q⟩ := idx_some hi581
          refine qY hf rfl rfl rfl (Y_index rfl rfl rfl el57 ti127 (Rd.isAt (h_p0_1.at hs) (recs_at (s := 4) GPlace.len hi581q (j := 0) rfl)) hi581a hi581b) ?_; clear hf; intro a hf
          refine qY hf rfl rfl rfl (Y_fieldAddrE rfl rfl fo127_0) ?_; clear hf; intro a hf
          refine qY hf rfl rfl rfl (Y_load_rd rfl rfl (fun w hs => h_p0_1.at hs) (recs_at (s := 4) GPlace.len hi581q (j := 0) rfl) ag2) ?_; clear hf; intro a hf
          refine qY hf rfl rfl rfl (Y_assign rfl rfl) ?_; clear hf; intro a hf
          refine qNil ?_; clear hs; intro w hs
          refine wpL_nil (Qb_normal ?_)
          refine wpL_region ?_
          refine sY hf hs rfl rfl rfl (Y_add rfl rfl rfl) ?_; clear hf; intro a hf
          refine sY hf hs rfl rfl rfl (Y_move rfl rfl) ?_; clear hf; intro a hf
          refine wpO_nil ?_
          refine wpL_nil (Ql_normal ?_)
          exact ⟨q580.From, (IntKind.i64.wrap (x566 + 1)), hm575, (FrD.pick (FrD.pick (FrD.pick (FrD.pick (FrD.pick hf.none hf rfl) hf rfl) hf rfl) hf rfl) hf rfl), hs⟩
        · have hm575 := bif_f hm575 hb577
          refine wpL_exit (Ql_exit (Qb_exit ?_))
          exact ⟨x565, Option.some.inj hm575, (FrD.pick (FrD.pick (FrD.pick hf.none hf rfl) hf rfl) hf rfl), hs⟩
    · rintro a w ⟨x572, hr_, hf, hs⟩
      subst hr_
      try dsimp only at hm
      refine wpL_seq ?_
      refine wpL_region ?_
      refine sY hf hs rfl rfl rfl (Y_assign rfl rfl) ?_; clear hf; intro a hf
      refine wpO_nil ?_
      refine wpL_seq ?_
      refine wpL_seq ?_
      refine wpL_region ?_
      refine sY hf hs rfl rfl rfl (Y_move rfl rfl) ?_; clear hf; intro a hf
      refine sY hf hs rfl rfl rfl (Y_assign rfl rfl) ?_; clear hf; intro a hf
      refine wpO_nil ?_
      obtain ⟨r641, hl642, hm⟩ := bind_some hm
      have hs : St [] W _ [.blk b1 59 [.int .i64 p0.Events, .slice A_p0_1 p0.Places.length c_p0_1], .row A6 xs8.length xs8.length 2 1 (ints xs414), .row none 0 0 2 1 (ints ([] : List Int))] := hs.addNil 2 1
      refine wpL_block (fun a w => ∃ xs636 : List Int, ∃ A637, ∃ n638, ∃ c639, xs636 = r641 ∧ n638 = xs636.length ∧ Fr a 101 [(11, .slice A637 n638 c639)] ∧ St [] W w [.row A637 n638 c639 2 1 (ints xs636)]) ?_ ?_
      · refine wpL_loop (fun n a w => ∃ xs617 : List Int, ∃ x622 : Int, ∃ A618, ∃ n619, ∃ c620, impl_betterCircuit_L7 F p0 xs414 x572 n xs617 x622 = some r641 ∧ n619 = xs617.length ∧ Fr a 101 [(2, .pointer (some ⟨b1, 0, none⟩)), (6, .slice A6 xs8.length xs8.length), (7, .int .i64 x572), (11, .slice A618 n619 c620), (12, .int .i64 x622)] ∧ St [] W w [.blk b1 59 [.int .i64 p0.Events, .slice A_p0_1 p0.Places.length c_p0_1], .row A6 xs8.length xs8.length 2 1 (ints xs414), .row A618 n619 c620 2 1 (ints xs617)]) F ?_ ?_ ?_
        · exact ⟨([] : List Int), x572, none, 0, 0, hl642, rfl, (FrD.pick (FrD.pick (FrD.pick (FrD.pick (FrD.pick hf.none hf rfl) hf rfl) hf rfl) hf rfl) hf rfl), hs⟩
        · rintro a w ⟨xs617, x622, A618, n619, c620, h0_, -, -, -⟩; simp [impl_betterCircuit_L7] at h0_
        · rintro n644 a w ⟨xs617, x622, A618, n619, c620, hm643, hn621, hf, hs⟩
          rw [impl_betterCircuit_L7] at hm643
          refine wpL_block0 ?_
          refine wpL_seq ?_
          refine wpL_region ?_
          refine sY hf hs rfl rfl rfl (Y_move rfl rfl) ?_; clear hf; intro a hf
          refine sY hf hs rfl rfl rfl (Y_move rfl rfl) ?_; clear hf; intro a hf
          refine sY hf hs rfl rfl rfl (Y_move rfl rfl) ?_; clear hf; intro a hf
          obtain ⟨q645, hi646, hm643⟩ := bind_some hm643
          obtain ⟨hi646a, hi646b, hi646q⟩ := idx_some hi646
          refine sY hf hs rfl rfl rfl (Y_index rfl rfl rfl el23 ti2 (Rd.isAt (hs.rd (i := 1) rfl) (at1 (ints_at hi646q))) hi646a (ltn hn415 hi646b)) ?_; clear hf; intro a hf
          refine sY hf hs rfl rfl rfl (Y_load_rd rfl rfl (fun w hs => hs.rd (i := 1) rfl) (at1 (ints_at hi646q)) ag2) ?_; clear hf; intro a hf
          refine sBuildSlice (parts := [(0, .tmp 83)]) (vs := [.int .i64 q645]) (cells := [.int .i64 q645]) hf hs rfl rfl rfl rfl rfl el23 ti2 rfl rfl rfl rfl ?_; clear hf hs; intro a w A647 hs hA648 hf
          have hs : St [] W w [.blk b1 59 [.int .i64 p0.Events, .slice A_p0_1 p0.Places.length c_p0_1], .row A6 xs8.length xs8.length 2 1 (ints xs414), .row A618 n619 c620 2 1 (ints xs617), .row A647 1 1 2 1 (ints ([q645]))] := hs
          obtain ⟨xs651, ha652, hm643⟩ := bind_some hm643
          refine sAppendL (i := 2) (xs := xs617) (ys := [q645]) (enc := ints) hf hs rfl rfl rfl rfl rfl rfl hn621 rfl rfl ha652 el23 ti2 rfl rfl rfl (hs.rd (i := 3) rfl) (Nat.succ_pos _) ints_len1 ints_append ints_one ?_; clear hf hs; intro a w A649 c650 hs hf
          have hs : St [] W w [.blk b1 59 [.int .i64 p0.Events, .slice A_p0_1 p0.Places.length c_p0_1], .row A6 xs8.length xs8.length 2 1 (ints xs414), .row A649 xs651.length c650 2 1 (ints xs651), .row A647 1 1 2 1 (ints ([q645]))] := hs
          refine sY hf hs rfl rfl rfl (Y_assign rfl rfl) ?_; clear hf; intro a hf
          refine wpO_nil ?_
          refine wpL_seq ?_
          refine wpL_draw (by kernel_rfl) (by kernel_rfl) hs ?_
          refine qY hf rfl rfl rfl (Y_fieldAddr rfl rfl fo59_1) ?_; clear hf; intro a hf
          refine qY hf rfl rfl rfl (Y_load_blk rfl rfl (i := 0) rfl rfl ag57) ?_; clear hf; intro a hf
          refine qY hf rfl rfl rfl (Y_move rfl rfl) ?_; clear hf; intro a hf
          refine qY hf rfl rfl rfl (Y_move rfl rfl) ?_; clear hf; intro a hf
          obtain ⟨q653, hi654, hm643⟩ := bind_some hm643
          obtain ⟨hi654a, hi654b, hi654q⟩ := idx_some hi654
          refine qY hf rfl rfl rfl (Y_index rfl rfl rfl el23 ti2 (Rd.isAt (hs.rd (i := 1) rfl) (at1 (ints_at hi654q))) hi654a (ltn hn415 hi654b)) ?_; clear hf; intro a hf
          refine qY hf rfl rfl rfl (Y_load_rd rfl rfl (fun w hs => hs.rd (i := 1) rfl) (at1 (ints_at hi654q)) ag2) ?_; clear hf; intro a hf
          obtain ⟨q655, hi656, hm643⟩ := bind_some hm643
          obtain ⟨hi656a, hi656b, hi656q⟩ := idx_some hi656
          refine qY hf rfl rfl rfl (Y_index rfl rfl rfl el57 ti127 (Rd.isAt (h_p0_1.at hs) (recs_at (s := 4) GPlace.len hi656q (j := 0) rfl)) hi656a hi656b) ?_; clear hf; intro a hf
          refine qY hf rfl rfl rfl (Y_fieldAddrE rfl rfl fo127_0) ?_; clear hf; intro a hf
          refine qY hf rfl rfl rfl (Y_load_rd rfl rfl (fun w hs => h_p0_1.at hs) (recs_at (s := 4) GPlace.len hi656q (j := 0) rfl) ag2) ?_; clear hf; intro a hf
          refine qY hf rfl rfl rfl (Y_assign rfl rfl) ?_; clear hf; intro a hf
          refine qNil ?_; clear hs; intro w hs
          refine wpL_seq ?_
          refine wpL_region ?_
          refine sY hf hs rfl rfl rfl (Y_move rfl rfl) ?_; clear hf; intro a hf
          refine sY hf hs rfl rfl rfl (Y_move rfl rfl) ?_; clear hf; intro a hf
          refine sY hf hs rfl rfl rfl (Y_eql rfl rfl rfl) ?_; clear hf; intro a hf
          refine wpO_nil ?_
          refine wpL_cond hf rfl (fun hb657 => ?_) (fun hb657 => ?_)
          · have hm643 := bif_t hm643 hb657
            refine wpL_exit (Qb_exit_ne rfl (Ql_exit (Qb_exit ?_)))
            exact ⟨xs651, A649, xs651.length, c650, Option.some.inj hm643, rfl, (FrD.pick hf.none hf rfl), hs.sel [2] (by decide)⟩
          · have hm643 := bif_f hm643 hb657
            refine wpL_skip ?_
            refine wpL_nil (Qb_normal ?_)
            refine wpL_nil (Ql_normal ?_)
            exact ⟨xs651, q655.From, A649, xs651.length, c650, hm643, rfl, (FrD.pick (FrD.pick (FrD.pick (FrD.pick (FrD.pick hf.none hf rfl) hf rfl) hf rfl) hf rfl) hf rfl), hs.sel [0, 1, 2] (by decide)⟩
      · rintro a w ⟨xs636, A637, n638, c639, hr_, hn640, hf, hs⟩
        subst hr_
        try dsimp only at hm
        refine wpL_seq ?_
        refine wpL_region ?_
        refine sY hf hs rfl rfl rfl (Y_move rfl rfl) ?_; clear hf; intro a hf
        obtain ⟨r658, hc659, hm⟩ := bind_some hm
        refine sCall hf rfl rfl rfl rfl (cap := []) rfl rfl en191 (slices_Reverse_int64_ok F xs636 A637 n638 c639 hn640 _ _ hc659 (hs.res _ _ (show _[0]? = some _ from rfl))) ?_; clear hf
        rintro _ w ⟨rfl, hn660, hs1⟩ a hf
        have hs : St [] W w [.row A637 n638 c639 2 1 (ints r658.2)] := hs.mut (i := 0) rfl (fun b hb => muA_mem hb) hs1
        clear hs1
        refine wpO_nil ?_
        refine wpL_seq ?_
        refine wpL_region ?_
        refine sY hf hs rfl rfl rfl (Y_move rfl rfl) ?_; clear hf; intro a hf
        refine sY hf hs rfl rfl rfl (Y_assign rfl rfl) ?_; clear hf; intro a hf
        refine wpO_nil ?_
        obtain ⟨_, hne661, hm⟩ := bind_some hm
        obtain rfl := Option.some.inj hm
        refine wpL_ret (ret_tmp rfl hf rfl ?_)
        exact ⟨_, rfl, A637, n638, c639, rfl, hn660, (fun h_ => absurd h_ (nonE_some hne661)), hs⟩

set_option maxRecDepth 100000 in
theorem impl_circuitSums_ok (F : Nat) (p0_g : GEventGraph) (A_p0_g_1 : Option Addr) (n_p0_g_1 c_p0_g_1 : Nat) (hn_p0_g_1 : n_p0_g_1 = p0_g.Places.length) (p1_circuit : List Int) (A_p1_circuit_1 : Option Addr) (n_p1_circuit_1 c_p1_circuit_1 : Nat) (hn_p1_circuit_1 : n_p1_circuit_1 = p1_circuit.length) (r : Int × Int) (W : World) (hm : impl_circuitSums F p0_g p1_circuit = some r) (h_p0_g_1 : Rd W A_p0_g_1 ((recs GPlace.cells) p0_g.Places)) (h_p1_circuit_1 : Rd W A_p1_circuit_1 (ints p1_circuit)) :
    Calls Try.prog 179 [.agg #[.int .i64 p0_g.Events, .slice A_p0_g_1 n_p0_g_1 c_p0_g_1], .slice A_p1_circuit_1 n_p1_circuit_1 c_p1_circuit_1].toArray W fun e w' => ∃ v, e = .returned v ∧ v = .tuple #[.int .i64 r.1, .int .i64 r.2] ∧ St [] W w' [] := by
  subst hn_p0_g_1
  subst hn_p1_circuit_1
  unfold impl_circuitSums at hm
  refine Calls.enter (N := 35) Try.func179 rfl rfl rfl (fun a hf => ?_)
  have hs := St.start W
  obtain ⟨w, hw_⟩ : ∃ w, w = W := ⟨W, rfl⟩
  clear hw_ w
  refine wpL_seq ?_
  refine wpL_region ?_
  refine sBox hf hs rfl rfl rfl rfl rfl (cs := [.int .i64 p0_g.Events, .slice A_p0_g_1 p0_g.Places.length c_p0_g_1]) rfl ?_; clear hf hs; intro a w b1 hs hf
  have hs : St [] W w [.blk b1 59 [.int .i64 p0_g.Events, .slice A_p0_g_1 p0_g.Places.length c_p0_g_1]] := hs
  refine sY hf hs rfl rfl rfl (Y_assign rfl rfl) ?_; clear hf; intro a hf
  refine sY hf hs rfl rfl rfl (Y_assign rfl rfl) ?_; clear hf; intro a hf
  refine wpO_nil ?_
  refine wpL_seq ?_
  refine wpL_region ?_
  refine sY hf hs rfl rfl rfl (Y_assign rfl rfl) ?_; clear hf; intro a hf
  refine sY hf hs rfl rfl rfl (Y_assign rfl rfl) ?_; clear hf; intro a hf
  refine wpO_nil ?_
  refine wpL_seq ?_
  refine wpL_seq ?_
  refine wpL_region ?_
  refine sY hf hs rfl rfl rfl (Y_move rfl rfl) ?_; clear hf; intro a hf
  refine sY hf hs rfl rfl rfl (Y_lenH rfl rfl el23 rfl) ?_; clear hf; intro a hf
  refine sY hf hs rfl rfl rfl (Y_move rfl rfl) ?_; clear hf; intro a hf
  refine wpO_nil ?_
  obtain ⟨r31, hl32, hm⟩ := bind_some hm
  refine wpL_block (fun a w => ∃ x29 : Int, ∃ x30 : Int, (x29, x30) = r31 ∧ Fr a 35 [(6, .int .i64 x29), (7, .int .i64 x30)] ∧ St [] W w []) ?_ ?_
  · refine wpL_loop (fun n a w => ∃ x19 : Int, ∃ x20 : Int, ∃ x21 : Int, impl_circuitSums_L1 F p0_g p1_circuit n x19 x20 x21 = some r31 ∧ Fr a 35 [(2, .pointer (some ⟨b1, 0, none⟩)), (6, .int .i64 x19), (7, .int .i64 x20), (10, .slice A_p1_circuit_1 p1_circuit.length c_p1_circuit_1), (11, .int .i64 (p1_circuit.length : Int)), (12, .int .i64 x21)] ∧ St [] W w [.blk b1 59 [.int .i64 p0_g.Events, .slice A_p0_g_1 p0_g.Places.length c_p0_g_1]]) F ?_ ?_ ?_
    · exact ⟨0, 0, 0, hl32, (FrD.pick (FrD.pick (FrD.pick (FrD.pick (FrD.pick (FrD.pick hf.none hf rfl) hf rfl) hf rfl) hf rfl) hf rfl) hf rfl), hs⟩
    · rintro a w ⟨x19, x20, x21, h0_, -, -⟩; simp [impl_circuitSums_L1] at h0_
    · rintro n34 a w ⟨x19, x20, x21, hm33, hf, hs⟩
      rw [impl_circuitSums_L1] at hm33
      refine wpL_seq ?_
      refine wpL_region ?_
      refine sY hf hs rfl rfl rfl (Y_lss rfl rfl rfl) ?_; clear hf; intro a hf
      refine wpO_nil ?_
      refine wpL_seq ?_
      refine wpL_cond hf rfl (fun hb35 => ?_) (fun hb35 => ?_)
      · have hm33 := bif_t hm33 hb35
        refine wpL_skip ?_
        refine wpL_seq ?_
        refine wpL_block0 ?_
        refine wpL_seq ?_
        refine wpL_region ?_
        obtain ⟨q36, hi37, hm33⟩ := bind_some hm33
        obtain ⟨hi37a, hi37b, hi37q⟩ := idx_some hi37
        refine sY hf hs rfl rfl rfl (Y_index rfl rfl rfl el23 ti2 (Rd.isAt (h_p1_circuit_1.at hs) (at1 (ints_at hi37q))) hi37a hi37b) ?_; clear hf; intro a hf
        refine sY hf hs rfl rfl rfl (Y_load_rd rfl rfl (fun w hs => h_p1_circuit_1.at hs) (at1 (ints_at hi37q)) ag2) ?_; clear hf; intro a hf
        refine sY hf hs rfl rfl rfl (Y_assign rfl rfl) ?_; clear hf; intro a hf
        refine wpO_nil ?_
        refine wpL_seq ?_
        refine wpL_region ?_
        refine sY hf hs rfl rfl rfl (Y_move rfl rfl) ?_; clear hf; intro a hf
        refine sY hf hs rfl rfl rfl (Y_fieldAddr rfl rfl fo59_1) ?_; clear hf; intro a hf
        refine sY hf hs rfl rfl rfl (Y_load_blk rfl rfl (i := 0) rfl rfl ag57) ?_; clear hf; intro a hf
        refine sY hf hs rfl rfl rfl (Y_move rfl rfl) ?_; clear hf; intro a hf
        obtain ⟨q38, hi39, hm33⟩ := bind_some hm33
        obtain ⟨hi39a, hi39b, hi39q⟩ := idx_some hi39
        refine sY hf hs rfl rfl rfl (Y_index rfl rfl rfl el57 ti127 (Rd.isAt (h_p0_g_1.at hs) (recs_at (s := 4) GPlace.len hi39q (j := 0) rfl)) hi39a hi39b) ?_; clear hf; intro a hf
        refine sY hf hs rfl rfl rfl (Y_fieldAddrE rfl rfl fo127_2) ?_; clear hf; intro a hf
        refine sY hf hs rfl rfl rfl (Y_load_rd rfl rfl (fun w hs => h_p0_g_1.at hs) (recs_at (s := 4) GPlace.len hi39q (j := 2) rfl) ag2) ?_; clear hf; intro a hf
        refine sY hf hs rfl rfl rfl (Y_add rfl rfl rfl) ?_; clear hf; intro a hf
        refine sY hf hs rfl rfl rfl (Y_assign rfl rfl) ?_; clear hf; intro a hf
        refine wpO_nil ?_
        refine wpL_region ?_
        refine sY hf hs rfl rfl rfl (Y_move rfl rfl) ?_; clear hf; intro a hf
        refine sY hf hs rfl rfl rfl (Y_fieldAddr rfl rfl fo59_1) ?_; clear hf; intro a hf
        refine sY hf hs rfl rfl rfl (Y_load_blk rfl rfl (i := 0) rfl rfl ag57) ?_; clear hf; intro a hf
        refine sY hf hs rfl rfl rfl (Y_move rfl rfl) ?_; clear hf; intro a hf
        obtain ⟨q40, hi41, hm33⟩ := bind_some hm33
        obtain ⟨hi41a, hi41b, hi41q⟩ := idx_some hi41
        refine sY hf hs rfl rfl rfl (Y_index rfl rfl rfl el57 ti127 (Rd.isAt (h_p0_g_1.at hs) (recs_at (s := 4) GPlace.len hi41q (j := 0) rfl)) hi41a hi41b) ?_; clear hf; intro a hf
        refine sY hf hs rfl rfl rfl (Y_fieldAddrE rfl rfl fo127_3) ?_; clear hf; intro a hf
        refine sY hf hs rfl rfl rfl (Y_load_rd rfl rfl (fun w hs => h_p0_g_1.at hs) (recs_at (s := 4) GPlace.len hi41q (j := 3) rfl) ag2) ?_; clear hf; intro a hf
        refine sY hf hs rfl rfl rfl (Y_add rfl rfl rfl) ?_; clear hf; intro a hf
        refine sY hf hs rfl rfl rfl (Y_assign rfl rfl) ?_; clear hf; intro a hf
        refine wpO_nil ?_
        refine wpL_nil (Qb_normal ?_)
        refine wpL_region ?_
        refine sY hf hs rfl rfl rfl (Y_add rfl rfl rfl) ?_; clear hf; intro a hf
        refine sY hf hs rfl rfl rfl (Y_move rfl rfl) ?_; clear hf; intro a hf
        refine wpO_nil ?_
        refine wpL_nil (Ql_normal ?_)
        exact ⟨(IntKind.i64.wrap (x19 + q38.Delay)), (IntKind.i64.wrap (x20 + q40.Tokens)), (IntKind.i64.wrap (x21 + 1)), hm33, (FrD.pick (FrD.pick (FrD.pick (FrD.pick (FrD.pick (FrD.pick hf.none hf rfl) hf rfl) hf rfl) hf rfl) hf rfl) hf rfl), hs⟩
      · have hm33 := bif_f hm33 hb35
        refine wpL_exit (Ql_exit (Qb_exit ?_))
        exact ⟨x19, x20, Option.some.inj hm33, (FrD.pick (FrD.pick hf.none hf rfl) hf rfl), hs.sel [] (by decide)⟩
  · rintro a w ⟨x29, x30, hr_, hf, hs⟩
    subst hr_
    try dsimp only at hm
    refine wpL_seq ?_
    refine wpL_region ?_
    refine sY hf hs rfl rfl rfl (Y_move rfl rfl) ?_; clear hf; intro a hf
    refine sY hf hs rfl rfl rfl (Y_move rfl rfl) ?_; clear hf; intro a hf
    refine sY hf hs rfl rfl rfl (Y_assign rfl rfl) ?_; clear hf; intro a hf
    refine sY hf hs rfl rfl rfl (Y_assign rfl rfl) ?_; clear hf; intro a hf
    refine wpO_nil ?_
    obtain rfl := Option.some.inj hm
    refine wpL_ret (ret_tmp2 rfl hf rfl rfl ?_)
    exact ⟨_, rfl, rfl, hs⟩

set_option maxRecDepth 100000 in
theorem impl_absOf_ok (F : Nat) (p0_n : Int) (r : Int) (W : World) (hm : impl_absOf F p0_n = some r) :
    Calls Try.prog 193 [.int .i64 p0_n].toArray W fun e w' => ∃ v, e = .returned v ∧ v = .int .i64 r ∧ St [] W w' [] := by
  unfold impl_absOf at hm
  refine Calls.enter (N := 8) Try.func193 rfl rfl rfl (fun a hf => ?_)
  have hs := St.start W
  obtain ⟨w, hw_⟩ : ∃ w, w = W := ⟨W, rfl⟩
  clear hw_ w
  refine wpL_seq ?_
  refine wpL_region ?_
  refine sY hf hs rfl rfl rfl (Y_assign rfl rfl) ?_; clear hf; intro a hf
  refine wpO_nil ?_
  refine wpL_seq ?_
  refine wpL_seq ?_
  refine wpL_region ?_
  refine sY hf hs rfl rfl rfl (Y_move rfl rfl) ?_; clear hf; intro a hf
  refine sY hf hs rfl rfl rfl (Y_lss rfl rfl rfl) ?_; clear hf; intro a hf
  refine wpO_nil ?_
  refine wpL_cond hf rfl (fun hb1 => ?_) (fun hb1 => ?_)
  · have hm := bif_t hm hb1
    refine wpL_seq ?_
    refine wpL_region ?_
    refine sY hf hs rfl rfl rfl (Y_move rfl rfl) ?_; clear hf; intro a hf
    refine sY hf hs rfl rfl rfl (Y_neg rfl rfl) ?_; clear hf; intro a hf
    refine sY hf hs rfl rfl rfl (Y_assign rfl rfl) ?_; clear hf; intro a hf
    refine wpO_nil ?_
    obtain rfl := Option.some.inj hm
    refine wpL_ret (ret_tmp rfl hf rfl ?_)
    exact ⟨_, rfl, rfl, hs⟩
  · have hm := bif_f hm hb1
    refine wpL_skip ?_
    refine wpL_seq ?_
    refine wpL_region ?_
    refine sY hf hs rfl rfl rfl (Y_move rfl rfl) ?_; clear hf; intro a hf
    refine sY hf hs rfl rfl rfl (Y_assign rfl rfl) ?_; clear hf; intro a hf
    refine wpO_nil ?_
    obtain rfl := Option.some.inj hm
    refine wpL_ret (ret_tmp rfl hf rfl ?_)
    exact ⟨_, rfl, rfl, hs⟩

set_option maxRecDepth 100000 in
theorem impl_divisorOf_ok (F : Nat) (p0_a : Int) (p1_b : Int) (r : Int) (W : World) (hm : impl_divisorOf F p0_a p1_b = some r) :
    Calls Try.prog 192 [.int .i64 p0_a, .int .i64 p1_b].toArray W fun e w' => ∃ v, e = .returned v ∧ v = .int .i64 r ∧ St [] W w' [] := by
  unfold impl_divisorOf at hm
  refine Calls.enter (N := 12) Try.func192 rfl rfl rfl (fun a hf => ?_)
  have hs := St.start W
  obtain ⟨w, hw_⟩ : ∃ w, w = W := ⟨W, rfl⟩
  clear hw_ w
  refine wpL_seq ?_
  refine wpL_region ?_
  refine sY hf hs rfl rfl rfl (Y_assign rfl rfl) ?_; clear hf; intro a hf
  refine wpO_nil ?_
  refine wpL_seq ?_
  obtain ⟨r15, hl16, hm⟩ := bind_some hm
  refine wpL_block (fun a w => ∃ x14 : Int, x14 = r15 ∧ Fr a 12 [(0, .int .i64 x14)] ∧ St [] W w []) ?_ ?_
  · refine wpL_loop (fun n a w => ∃ x9 : Int, ∃ x10 : Int, impl_divisorOf_L1 F n x9 x10 = some r15 ∧ Fr a 12 [(0, .int .i64 x9), (1, .int .i64 x10)] ∧ St [] W w []) F ?_ ?_ ?_
    · exact ⟨p0_a, p1_b, hl16, (FrD.pick (FrD.pick hf.none hf rfl) hf rfl), hs⟩
    · rintro a w ⟨x9, x10, h0_, -, -⟩; simp [impl_divisorOf_L1] at h0_
    · rintro n18 a w ⟨x9, x10, hm17, hf, hs⟩
      rw [impl_divisorOf_L1] at hm17
      refine wpL_seq ?_
      refine wpL_seq ?_
      refine wpL_region ?_
      refine sY hf hs rfl rfl rfl (Y_move rfl rfl) ?_; clear hf; intro a hf
      refine sY hf hs rfl rfl rfl (Y_gtr rfl rfl rfl) ?_; clear hf; intro a hf
      refine wpO_nil ?_
      refine wpL_cond hf rfl (fun hb19 => ?_) (fun hb19 => ?_)
      · have hm17 := bif_t hm17 hb19
        refine wpL_skip ?_
        refine wpL_block0 ?_
        refine wpL_draw (by kernel_rfl) (by kernel_rfl) hs ?_
        refine qY hf rfl rfl rfl (Y_move rfl rfl) ?_; clear hf; intro a hf
        refine qY hf rfl rfl rfl (Y_move rfl rfl) ?_; clear hf; intro a hf
        refine qY hf rfl rfl rfl (Y_move rfl rfl) ?_; clear hf; intro a hf
        obtain ⟨_, hz20, hm17⟩ := bind_some hm17
        refine qY hf rfl rfl rfl (Y_rem rfl rfl rfl (nz_some hz20)) ?_; clear hf; intro a hf
        refine qY hf rfl rfl rfl (Y_assign rfl rfl) ?_; clear hf; intro a hf
        refine qY hf rfl rfl rfl (Y_assign rfl rfl) ?_; clear hf; intro a hf
        refine qNil ?_; clear hs; intro w hs
        refine wpL_nil (Qb_normal ?_)
        refine wpL_nil (Ql_normal ?_)
        exact ⟨x10, (x9.tmod x10), hm17, (FrD.pick (FrD.pick hf.none hf rfl) hf rfl), hs⟩
      · have hm17 := bif_f hm17 hb19
        refine wpL_exit (Ql_exit (Qb_exit ?_))
        exact ⟨x9, Option.some.inj hm17, (FrD.pick hf.none hf rfl), hs⟩
  · rintro a w ⟨x14, hr_, hf, hs⟩
    subst hr_
    try dsimp only at hm
    refine wpL_seq ?_
    refine wpL_region ?_
    refine sY hf hs rfl rfl rfl (Y_move rfl rfl) ?_; clear hf; intro a hf
    refine sY hf hs rfl rfl rfl (Y_assign rfl rfl) ?_; clear hf; intro a hf
    refine wpO_nil ?_
    obtain rfl := Option.some.inj hm
    refine wpL_ret (ret_tmp rfl hf rfl ?_)
    exact ⟨_, rfl, rfl, hs⟩

set_option maxRecDepth 100000 in
theorem impl_ratioOf_ok (F : Nat) (p0_num : Int) (p1_den : Int) (r : GRatio) (W : World) (hm : impl_ratioOf F p0_num p1_den = some r) :
    Calls Try.prog 178 [.int .i64 p0_num, .int .i64 p1_den].toArray W fun e w' => ∃ v, e = .returned v ∧ v = .agg #[.int .i64 r.Num, .int .i64 r.Den] ∧ St [] W w' [] := by
  unfold impl_ratioOf at hm
  refine Calls.enter (N := 23) Try.func178 rfl rfl rfl (fun a hf => ?_)
  have hs := St.start W
  obtain ⟨w, hw_⟩ : ∃ w, w = W := ⟨W, rfl⟩
  clear hw_ w
  refine wpL_seq ?_
  refine wpL_region ?_
  refine sAlloc hf hs rfl rfl rfl rfl ti75 ?_; clear hf hs; intro a w b1 hs hf
  have hs : St [] W w [.blk b1 75 [.int .i64 0, .int .i64 0]] := hs
  refine wpO_nil ?_
  refine wpL_seq ?_
  refine wpL_seq ?_
  refine wpL_region ?_
  refine sY hf hs rfl rfl rfl (Y_move rfl rfl) ?_; clear hf; intro a hf
  refine sY hf hs rfl rfl rfl (Y_lss rfl rfl rfl) ?_; clear hf; intro a hf
  refine wpO_nil ?_
  obtain ⟨r5, hj6, hm⟩ := bind_some hm
  refine wpL_cut (fun a w => ∃ x3 : Int, ∃ x4 : Int, (x3, x4) = r5 ∧ Fr a 23 [(0, .int .i64 x3), (1, .int .i64 x4), (4, .pointer (some ⟨b1, 0, none⟩))] ∧ St [] W w [.blk b1 75 [.int .i64 0, .int .i64 0]]) ?_ ?_
  · refine wpL_cond hf rfl (fun hb7 => ?_) (fun hb7 => ?_)
    · have hj6 := bif_t hj6 hb7
      refine wpL_region ?_
      refine sY hf hs rfl rfl rfl (Y_move rfl rfl) ?_; clear hf; intro a hf
      refine sY hf hs rfl rfl rfl (Y_neg rfl rfl) ?_; clear hf; intro a hf
      refine sY hf hs rfl rfl rfl (Y_move rfl rfl) ?_; clear hf; intro a hf
      refine sY hf hs rfl rfl rfl (Y_neg rfl rfl) ?_; clear hf; intro a hf
      refine sY hf hs rfl rfl rfl (Y_assign rfl rfl) ?_; clear hf; intro a hf
      refine sY hf hs rfl rfl rfl (Y_assign rfl rfl) ?_; clear hf; intro a hf
      refine wpO_nil ?_
      refine wpL_nil (then_normal ?_)
      exact ⟨(IntKind.i64.wrap (0 - p0_num)), (IntKind.i64.wrap (0 - p1_den)), Option.some.inj hj6, (FrD.pick (FrD.pick (FrD.pick hf.none hf rfl) hf rfl) hf rfl), hs⟩
    · have hj6 := bif_f hj6 hb7
      refine wpL_skip ?_
      refine wpL_nil (then_normal ?_)
      exact ⟨p0_num, p1_den, Option.some.inj hj6, (FrD.pick (FrD.pick (FrD.pick hf.none hf rfl) hf rfl) hf rfl), hs⟩
  · rintro a w ⟨x3, x4, hr_, hf, hs⟩
    subst hr_
    try dsimp only at hm
    refine wpL_seq ?_
    refine wpL_region ?_
    refine sY hf hs rfl rfl rfl (Y_move rfl rfl) ?_; clear hf; intro a hf
    obtain ⟨r8, hc9, hm⟩ := bind_some hm
    refine sCall hf rfl rfl rfl rfl (cap := []) rfl rfl en193 (impl_absOf_ok F x3 _ _ hc9) ?_; clear hf
    rintro _ w ⟨rfl, hs1⟩ a hf
    have hs : St [] W w [.blk b1 75 [.int .i64 0, .int .i64 0]] := hs.ext hs1.below
    clear hs1
    refine sY hf hs rfl rfl rfl (Y_move rfl rfl) ?_; clear hf; intro a hf
    obtain ⟨r10, hc11, hm⟩ := bind_some hm
    refine sCall hf rfl rfl rfl rfl (cap := []) rfl rfl en192 (impl_divisorOf_ok F r8 x4 _ _ hc11) ?_; clear hf
    rintro _ w ⟨rfl, hs1⟩ a hf
    have hs : St [] W w [.blk b1 75 [.int .i64 0, .int .i64 0]] := hs.ext hs1.below
    clear hs1
    refine sY hf hs rfl rfl rfl (Y_assign rfl rfl) ?_; clear hf; intro a hf
    refine wpO_nil ?_
    refine wpL_seq ?_
    refine wpL_drawM [.blk b1 75 [.int .i64 0, .int .i64 0]] [7] (by kernel_rfl) hs ?_; clear hs; intro w hs
    have hs0 : St [] W w [.blk b1 75 [.int .i64 0, .int .i64 0]] := hs
    refine mYp (i := 0) rfl (by kernel_rfl) (by kernel_rfl) hf rfl rfl rfl (fun _ => Y_move rfl rfl) ?_; clear hf; intro a hf
    refine mYp (i := 1) rfl (by kernel_rfl) (by kernel_rfl) hf rfl rfl rfl (fun _ => Y_move rfl rfl) ?_; clear hf; intro a hf
    obtain ⟨_, hz12, hm⟩ := bind_some hm
    refine mYp (i := 2) rfl (by kernel_rfl) (by kernel_rfl) hf rfl rfl rfl (fun _ => Y_quo rfl rfl rfl (nz_some hz12)) ?_; clear hf; intro a hf
    refine mYp (i := 3) rfl (by kernel_rfl) (by kernel_rfl) hf rfl rfl rfl (fun _ => Y_move rfl rfl) ?_; clear hf; intro a hf
    refine mYp (i := 4) rfl (by kernel_rfl) (by kernel_rfl) hf rfl rfl rfl (fun _ => Y_move rfl rfl) ?_; clear hf; intro a hf
    obtain ⟨_, hz14, hm⟩ := bind_some hm
    refine mYp (i := 5) rfl (by kernel_rfl) (by kernel_rfl) hf rfl rfl rfl (fun _ => Y_quo rfl rfl rfl (nz_some hz14)) ?_; clear hf; intro a hf
    refine mYp (i := 6) rfl (by kernel_rfl) (by kernel_rfl) hf rfl rfl rfl (fun _ => Y_build (parts := [(0, .tmp 18), (1, .tmp 21)]) (vs := [.int .i64 (IntKind.i64.wrap (x3.tdiv r10)), .int .i64 (IntKind.i64.wrap (x4.tdiv r10))]) rfl rfl (run_build (parts := [(0, .int .i64 (IntKind.i64.wrap (x3.tdiv r10))), (1, .int .i64 (IntKind.i64.wrap (x4.tdiv r10)))]) (cells := [.int .i64 (IntKind.i64.wrap (x3.tdiv r10)), .int .i64 (IntKind.i64.wrap (x4.tdiv r10))]) (places := #[(0, 1), (1, 1)]) ti75 Try.underlying75 (fun w => by simp [go_sem]) rfl)) ?_; clear hf; intro a hf
    refine mRun (i := 7) rfl (by kernel_rfl) ?_
    refine sStore (i := 0) (us := [.int .i64 (IntKind.i64.wrap (x3.tdiv r10)), .int .i64 (IntKind.i64.wrap (x4.tdiv r10))]) hf hs rfl rfl rfl rfl rfl rfl ti75 rfl rfl rfl (Nat.le_of_ble_eq_true rfl) rfl ?_; clear hs; intro w hs
    have hs : St [] W w [.blk b1 75 [.int .i64 (IntKind.i64.wrap (x3.tdiv r10)), .int .i64 (IntKind.i64.wrap (x4.tdiv r10))]] := hs
    refine wpO_nil ⟨Or.inl (by decide), ?_⟩
    refine mDone (by kernel_rfl) ?_
    clear hs0
    obtain rfl := Option.some.inj hm
    refine wpL_ret (ret_cell rfl hf rfl hs (i := 0) rfl ag75 ti75 rfl ?_)
    exact ⟨_, rfl, rfl, hs.sel [] (by decide)⟩

set_option maxRecDepth 100000 in
theorem impl_cycleTime_ok (F : Nat) (p0_g : GEventGraph) (A_p0_g_1 : Option Addr) (n_p0_g_1 c_p0_g_1 : Nat) (hn_p0_g_1 : n_p0_g_1 = p0_g.Places.length) (r : GRatio × Int) (W : World) (hm : impl_cycleTime F p0_g = some r) (h_p0_g_1 : Rd W A_p0_g_1 ((recs GPlace.cells) p0_g.Places)) :
    Calls Try.prog 149 [.agg #[.int .i64 p0_g.Events, .slice A_p0_g_1 n_p0_g_1 c_p0_g_1]].toArray W fun e w' => ∃ v, e = .returned v ∧ v = .tuple #[.agg #[.int .i64 r.1.Num, .int .i64 r.1.Den], .int .i64 r.2] ∧ St [] W w' [] := by
  subst hn_p0_g_1
  unfold impl_cycleTime at hm
  refine Calls.enter (N := 30) Try.func149 rfl rfl rfl (fun a hf => ?_)
  have hs := St.start W
  obtain ⟨w, hw_⟩ : ∃ w, w = W := ⟨W, rfl⟩
  clear hw_ w
  refine wpL_seq ?_
  refine wpL_region ?_
  refine sBox hf hs rfl rfl rfl rfl rfl (cs := [.int .i64 p0_g.Events, .slice A_p0_g_1 p0_g.Places.length c_p0_g_1]) rfl ?_; clear hf hs; intro a w b1 hs hf
  have hs : St [] W w [.blk b1 59 [.int .i64 p0_g.Events, .slice A_p0_g_1 p0_g.Places.length c_p0_g_1]] := hs
  refine sAlloc hf hs rfl rfl rfl rfl ti75 ?_; clear hf hs; intro a w b2 hs hf
  have hs : St [] W w [.blk b1 59 [.int .i64 p0_g.Events, .slice A_p0_g_1 p0_g.Places.length c_p0_g_1], .blk b2 75 [.int .i64 0, .int .i64 0]] := hs
  refine sY hf hs rfl rfl rfl (Y_assign rfl rfl) ?_; clear hf; intro a hf
  refine wpO_nil ?_
  refine wpL_seq ?_
  refine wpL_seq ?_
  refine wpL_region ?_
  refine sY hf hs rfl rfl rfl (Y_load_blkS rfl rfl (i := 0) rfl ag59 ti59 rfl) ?_; clear hf; intro a hf
  obtain ⟨r3, hc4, hm⟩ := bind_some hm
  refine sCall hf rfl rfl rfl rfl (cap := []) rfl rfl en174 (impl_isLive_ok F p0_g A_p0_g_1 p0_g.Places.length c_p0_g_1 rfl _ _ hc4 (h_p0_g_1.at hs)) ?_; clear hf
  rintro _ w ⟨rfl, hs1⟩ a hf
  have hs : St [] W w [.blk b1 59 [.int .i64 p0_g.Events, .slice A_p0_g_1 p0_g.Places.length c_p0_g_1], .blk b2 75 [.int .i64 0, .int .i64 0]] := hs.ext hs1.below
  clear hs1
  refine sY hf hs rfl rfl rfl (Y_not rfl rfl) ?_; clear hf; intro a hf
  refine wpO_nil ?_
  refine wpL_cond hf rfl (fun hb5 => ?_) (fun hb5 => ?_)
  · have hm := bif_t hm hb5
    refine wpL_seq ?_
    refine wpL_region ?_
    refine sY hf hs rfl rfl rfl (Y_build (parts := []) (vs := []) rfl rfl (run_build (parts := []) (cells := [.int .i64 0, .int .i64 0]) (places := #[(0, 1), (1, 1)]) ti75 Try.underlying75 (fun w => by simp [go_sem]) rfl)) ?_; clear hf; intro a hf
    refine sStore (i := 1) (us := [.int .i64 0, .int .i64 0]) hf hs rfl rfl rfl rfl rfl rfl ti75 rfl rfl rfl (Nat.le_of_ble_eq_true rfl) rfl ?_; clear hs; intro w hs
    have hs : St [] W w [.blk b1 59 [.int .i64 p0_g.Events, .slice A_p0_g_1 p0_g.Places.length c_p0_g_1], .blk b2 75 [.int .i64 0, .int .i64 0]] := hs
    refine sY hf hs rfl rfl rfl (Y_assign rfl rfl) ?_; clear hf; intro a hf
    refine wpO_nil ?_
    obtain rfl := Option.some.inj hm
    refine wpL_ret (ret_cell_tmp rfl hf rfl rfl hs (i := 1) rfl ag75 ti75 rfl ?_)
    exact ⟨_, rfl, rfl, hs.sel [] (by decide)⟩
  · have hm := bif_f hm hb5
    refine wpL_skip ?_
    refine wpL_seq ?_
    refine wpL_seq ?_
    refine wpL_region ?_
    refine sY hf hs rfl rfl rfl (Y_load_blkS rfl rfl (i := 0) rfl ag59 ti59 rfl) ?_; clear hf; intro a hf
    obtain ⟨r6, hc7, hm⟩ := bind_some hm
    refine sCall hf rfl rfl rfl rfl (cap := []) rfl rfl en176 (impl_hasCircuit_ok F p0_g A_p0_g_1 p0_g.Places.length c_p0_g_1 rfl _ _ hc7 (h_p0_g_1.at hs)) ?_; clear hf
    rintro _ w ⟨rfl, hs1⟩ a hf
    have hs : St [] W w [.blk b1 59 [.int .i64 p0_g.Events, .slice A_p0_g_1 p0_g.Places.length c_p0_g_1], .blk b2 75 [.int .i64 0, .int .i64 0]] := hs.ext hs1.below
    clear hs1
    refine sY hf hs rfl rfl rfl (Y_not rfl rfl) ?_; clear hf; intro a hf
    refine wpO_nil ?_
    refine wpL_cond hf rfl (fun hb8 => ?_) (fun hb8 => ?_)
    · have hm := bif_t hm hb8
      refine wpL_seq ?_
      refine wpL_region ?_
      refine sY hf hs rfl rfl rfl (Y_build (parts := []) (vs := []) rfl rfl (run_build (parts := []) (cells := [.int .i64 0, .int .i64 0]) (places := #[(0, 1), (1, 1)]) ti75 Try.underlying75 (fun w => by simp [go_sem]) rfl)) ?_; clear hf; intro a hf
      refine sStore (i := 1) (us := [.int .i64 0, .int .i64 0]) hf hs rfl rfl rfl rfl rfl rfl ti75 rfl rfl rfl (Nat.le_of_ble_eq_true rfl) rfl ?_; clear hs; intro w hs
      have hs : St [] W w [.blk b1 59 [.int .i64 p0_g.Events, .slice A_p0_g_1 p0_g.Places.length c_p0_g_1], .blk b2 75 [.int .i64 0, .int .i64 0]] := hs
      refine sY hf hs rfl rfl rfl (Y_assign rfl rfl) ?_; clear hf; intro a hf
      refine wpO_nil ?_
      obtain rfl := Option.some.inj hm
      refine wpL_ret (ret_cell_tmp rfl hf rfl rfl hs (i := 1) rfl ag75 ti75 rfl ?_)
      exact ⟨_, rfl, rfl, hs.sel [] (by decide)⟩
    · have hm := bif_f hm hb8
      refine wpL_skip ?_
      refine wpL_seq ?_
      refine wpL_region ?_
      refine sY hf hs rfl rfl rfl (Y_build (parts := [(0, .const (.int .i64 0)), (1, .const (.int .i64 1))]) (vs := [.int .i64 0, .int .i64 1]) rfl rfl (run_build (parts := [(0, .int .i64 0), (1, .int .i64 1)]) (cells := [.int .i64 0, .int .i64 1]) (places := #[(0, 1), (1, 1)]) ti75 Try.underlying75 (fun w => by simp [go_sem]) rfl)) ?_; clear hf; intro a hf
      refine sAlloc hf hs rfl rfl rfl rfl ti75 ?_; clear hf hs; intro a w b9 hs hf
      have hs : St [] W w [.blk b1 59 [.int .i64 p0_g.Events, .slice A_p0_g_1 p0_g.Places.length c_p0_g_1], .blk b2 75 [.int .i64 0, .int .i64 0], .blk b9 75 [.int .i64 0, .int .i64 0]] := hs
      refine sStore (i := 2) (us := [.int .i64 0, .int .i64 1]) hf hs rfl rfl rfl rfl rfl rfl ti75 rfl rfl rfl (Nat.le_of_ble_eq_true rfl) rfl ?_; clear hs; intro w hs
      have hs : St [] W w [.blk b1 59 [.int .i64 p0_g.Events, .slice A_p0_g_1 p0_g.Places.length c_p0_g_1], .blk b2 75 [.int .i64 0, .int .i64 0], .blk b9 75 [.int .i64 0, .int .i64 1]] := hs
      refine wpO_nil ?_
      refine wpL_seq ?_
      refine wpL_seq ?_
      refine wpL_region ?_
      refine sY hf hs rfl rfl rfl (Y_load_blkS rfl rfl (i := 0) rfl ag59 ti59 rfl) ?_; clear hf; intro a hf
      refine sY hf hs rfl rfl rfl (Y_load_blkS rfl rfl (i := 2) rfl ag75 ti75 rfl) ?_; clear hf; intro a hf
      obtain ⟨r10, hc11, hm⟩ := bind_some hm
      refine sCall hf rfl rfl rfl rfl (cap := []) rfl rfl en177 (impl_betterCircuit_ok F p0_g A_p0_g_1 p0_g.Places.length c_p0_g_1 rfl (GRatio.mk 0 1) _ _ hc11 (h_p0_g_1.at hs)) ?_; clear hf
      rintro _ w ⟨A12, n13, c14, rfl, hn15, hz16, hs1⟩ a hf
      have hs : St [] W w [.blk b1 59 [.int .i64 p0_g.Events, .slice A_p0_g_1 p0_g.Places.length c_p0_g_1], .blk b2 75 [.int .i64 0, .int .i64 0], .blk b9 75 [.int .i64 0, .int .i64 1], .row A12 n13 c14 2 1 (ints r10)] := hs.join hs1
      clear hs1
      refine sY hf hs rfl rfl rfl (Y_assign rfl rfl) ?_; clear hf; intro a hf
      refine wpO_nil ?_
      obtain ⟨r71, hl72, hm⟩ := bind_some hm
      refine wpL_block (fun a w => ∃ x69 : Int, ∃ x70 : Int, (x69, x70) = r71 ∧ Fr a 30 [(2, .pointer (some ⟨b2, 0, none⟩)), (4, .pointer (some ⟨b9, 0, none⟩))] ∧ St [] W w [.blk b2 75 [.int .i64 0, .int .i64 0], .blk b9 75 [.int .i64 x69, .int .i64 x70]]) ?_ ?_
      · refine wpL_loop (fun n a w => ∃ x49 : Int, ∃ x50 : Int, ∃ xs51 : List Int, ∃ A52, ∃ n53, ∃ c54, impl_cycleTime_L1 F p0_g n x49 x50 xs51 = some r71 ∧ n53 = xs51.length ∧ (xs51 = [] → A52 = none) ∧ Fr a 30 [(1, .pointer (some ⟨b1, 0, none⟩)), (2, .pointer (some ⟨b2, 0, none⟩)), (4, .pointer (some ⟨b9, 0, none⟩)), (5, .slice A52 n53 c54)] ∧ St [] W w [.blk b1 59 [.int .i64 p0_g.Events, .slice A_p0_g_1 p0_g.Places.length c_p0_g_1], .blk b2 75 [.int .i64 0, .int .i64 0], .blk b9 75 [.int .i64 x49, .int .i64 x50], .row A52 n53 c54 2 1 (ints xs51)]) F ?_ ?_ ?_
        · exact ⟨0, 1, r10, A12, n13, c14, hl72, hn15, hz16, (FrD.pick (FrD.pick (FrD.pick (FrD.pick hf.none hf rfl) hf rfl) hf rfl) hf rfl), hs⟩
        · rintro a w ⟨x49, x50, xs51, A52, n53, c54, h0_, -, -, -, -⟩; simp [impl_cycleTime_L1] at h0_
        · rintro n74 a w ⟨x49, x50, xs51, A52, n53, c54, hm73, hn55, hz56, hf, hs⟩
          rw [impl_cycleTime_L1] at hm73
          refine wpL_seq ?_
          refine wpL_seq ?_
          refine wpL_region ?_
          refine sY hf hs rfl rfl rfl (Y_move rfl rfl) ?_; clear hf; intro a hf
          refine sY hf hs rfl rfl rfl (Y_neqnilO rfl rfl rfl un23 (hs.nilInts (i := 3) rfl hn55 hz56)) ?_; clear hf; intro a hf
          refine wpO_nil ?_
          refine wpL_cond hf rfl (fun hb75 => ?_) (fun hb75 => ?_)
          · have hm73 := bif_t hm73 hb75
            refine wpL_skip ?_
            refine wpL_seq ?_
            refine wpL_block0 ?_
            refine wpL_region ?_
            refine sY hf hs rfl rfl rfl (Y_load_blkS rfl rfl (i := 0) rfl ag59 ti59 rfl) ?_; clear hf; intro a hf
            refine sY hf hs rfl rfl rfl (Y_move rfl rfl) ?_; clear hf; intro a hf
            obtain ⟨r76, hc77, hm73⟩ := bind_some hm73
            refine sCall hf rfl rfl rfl rfl (cap := []) rfl rfl en179 (impl_circuitSums_ok F p0_g A_p0_g_1 p0_g.Places.length c_p0_g_1 rfl xs51 A52 n53 c54 hn55 _ _ hc77 (h_p0_g_1.at hs) (hs.rd (i := 3) rfl)) ?_; clear hf
            rintro _ w ⟨rfl, hs1⟩ a hf
            have hs : St [] W w [.blk b1 59 [.int .i64 p0_g.Events, .slice A_p0_g_1 p0_g.Places.length c_p0_g_1], .blk b2 75 [.int .i64 0, .int .i64 0], .blk b9 75 [.int .i64 x49, .int .i64 x50], .row A52 n53 c54 2 1 (ints xs51)] := hs.ext hs1.below
            clear hs1
            refine sY hf hs rfl rfl rfl (Y_extract rfl rfl rfl) ?_; clear hf; intro a hf
            refine sY hf hs rfl rfl rfl (Y_extract rfl rfl rfl) ?_; clear hf; intro a hf
            obtain ⟨r78, hc79, hm73⟩ := bind_some hm73
            refine sCall hf rfl rfl rfl rfl (cap := []) rfl rfl en178 (impl_ratioOf_ok F r76.1 r76.2 _ _ hc79) ?_; clear hf
            rintro _ w ⟨rfl, hs1⟩ a hf
            have hs : St [] W w [.blk b1 59 [.int .i64 p0_g.Events, .slice A_p0_g_1 p0_g.Places.length c_p0_g_1], .blk b2 75 [.int .i64 0, .int .i64 0], .blk b9 75 [.int .i64 x49, .int .i64 x50], .row A52 n53 c54 2 1 (ints xs51)] := hs.ext hs1.below
            clear hs1
            refine sStore (i := 2) (us := [.int .i64 r78.Num, .int .i64 r78.Den]) hf hs rfl rfl rfl rfl rfl rfl ti75 rfl rfl rfl (Nat.le_of_ble_eq_true rfl) rfl ?_; clear hs; intro w hs
            have hs : St [] W w [.blk b1 59 [.int .i64 p0_g.Events, .slice A_p0_g_1 p0_g.Places.length c_p0_g_1], .blk b2 75 [.int .i64 0, .int .i64 0], .blk b9 75 [.int .i64 r78.Num, .int .i64 r78.Den], .row A52 n53 c54 2 1 (ints xs51)] := hs
            refine wpO_nil ?_
            refine wpL_nil (Qb_normal ?_)
            refine wpL_region ?_
            refine sY hf hs rfl rfl rfl (Y_load_blkS rfl rfl (i := 0) rfl ag59 ti59 rfl) ?_; clear hf; intro a hf
            refine sY hf hs rfl rfl rfl (Y_load_blkS rfl rfl (i := 2) rfl ag75 ti75 rfl) ?_; clear hf; intro a hf
            obtain ⟨r80, hc81, hm73⟩ := bind_some hm73
            refine sCall hf rfl rfl rfl rfl (cap := []) rfl rfl en177 (impl_betterCircuit_ok F p0_g A_p0_g_1 p0_g.Places.length c_p0_g_1 rfl r78 _ _ hc81 (h_p0_g_1.at hs)) ?_; clear hf
            rintro _ w ⟨A82, n83, c84, rfl, hn85, hz86, hs1⟩ a hf
            have hs : St [] W w [.blk b1 59 [.int .i64 p0_g.Events, .slice A_p0_g_1 p0_g.Places.length c_p0_g_1], .blk b2 75 [.int .i64 0, .int .i64 0], .blk b9 75 [.int .i64 r78.Num, .int .i64 r78.Den], .row A52 n53 c54 2 1 (ints xs51), .row A82 n83 c84 2 1 (ints r80)] := hs.join hs1
            clear hs1
            refine sY hf hs rfl rfl rfl (Y_assign rfl rfl) ?_; clear hf; intro a hf
            refine wpO_nil ?_
            refine wpL_nil (Ql_normal ?_)
            exact ⟨r78.Num, r78.Den, r80, A82, n83, c84, hm73, hn85, hz86, (FrD.pick (FrD.pick (FrD.pick (FrD.pick hf.none hf rfl) hf rfl) hf rfl) hf rfl), hs.sel [0, 1, 2, 4] (by decide)⟩
          · have hm73 := bif_f hm73 hb75
            refine wpL_exit (Ql_exit (Qb_exit ?_))
            exact ⟨x49, x50, Option.some.inj hm73, (FrD.pick (FrD.pick hf.none hf rfl) hf rfl), hs.sel [1, 2] (by decide)⟩
      · rintro a w ⟨x69, x70, hr_, hf, hs⟩
        subst hr_
        try dsimp only at hm
        refine wpL_seq ?_
        refine wpL_region ?_
        refine sY hf hs rfl rfl rfl (Y_load_blkS rfl rfl (i := 1) rfl ag75 ti75 rfl) ?_; clear hf; intro a hf
        refine sStore (i := 0) (us := [.int .i64 x69, .int .i64 x70]) hf hs rfl rfl rfl rfl rfl rfl ti75 rfl rfl rfl (Nat.le_of_ble_eq_true rfl) rfl ?_; clear hs; intro w hs
        have hs : St [] W w [.blk b2 75 [.int .i64 x69, .int .i64 x70], .blk b9 75 [.int .i64 x69, .int .i64 x70]] := hs
        refine sY hf hs rfl rfl rfl (Y_assign rfl rfl) ?_; clear hf; intro a hf
        refine wpO_nil ?_
        obtain rfl := Option.some.inj hm
        refine wpL_ret (ret_cell_tmp rfl hf rfl rfl hs (i := 0) rfl ag75 ti75 rfl ?_)
        exact ⟨_, rfl, rfl, hs.sel [] (by decide)⟩

set_option maxRecDepth 100000 in
theorem impl_CycleTime_ok (F : Nat) (p0_g : GEventGraph) (A_p0_g_1 : Option Addr) (n_p0_g_1 c_p0_g_1 : Nat) (hn_p0_g_1 : n_p0_g_1 = p0_g.Places.length) (r : GRatio × Int) (W : World) (hm : impl_CycleTime F p0_g = some r) (h_p0_g_1 : Rd W A_p0_g_1 ((recs GPlace.cells) p0_g.Places)) :
    Calls Try.prog 57 [.agg #[.int .i64 p0_g.Events, .slice A_p0_g_1 n_p0_g_1 c_p0_g_1]].toArray W fun e w' => ∃ v, e = .returned v ∧ v = .tuple #[.agg #[.int .i64 r.1.Num, .int .i64 r.1.Den], .int .i64 r.2] ∧ St [] W w' [] := by
  subst hn_p0_g_1
  unfold impl_CycleTime at hm
  refine Calls.enter (N := 12) Try.func57 rfl rfl rfl (fun a hf => ?_)
  have hs := St.start W
  obtain ⟨w, hw_⟩ : ∃ w, w = W := ⟨W, rfl⟩
  clear hw_ w
  refine wpL_seq ?_
  refine wpL_region ?_
  refine sBox hf hs rfl rfl rfl rfl rfl (cs := [.int .i64 p0_g.Events, .slice A_p0_g_1 p0_g.Places.length c_p0_g_1]) rfl ?_; clear hf hs; intro a w b1 hs hf
  have hs : St [] W w [.blk b1 59 [.int .i64 p0_g.Events, .slice A_p0_g_1 p0_g.Places.length c_p0_g_1]] := hs
  refine sAlloc hf hs rfl rfl rfl rfl ti75 ?_; clear hf hs; intro a w b2 hs hf
  have hs : St [] W w [.blk b1 59 [.int .i64 p0_g.Events, .slice A_p0_g_1 p0_g.Places.length c_p0_g_1], .blk b2 75 [.int .i64 0, .int .i64 0]] := hs
  refine sY hf hs rfl rfl rfl (Y_assign rfl rfl) ?_; clear hf; intro a hf
  refine wpO_nil ?_
  refine wpL_seq ?_
  refine wpL_seq ?_
  refine wpL_region ?_
  refine sY hf hs rfl rfl rfl (Y_load_blkS rfl rfl (i := 0) rfl ag59 ti59 rfl) ?_; clear hf; intro a hf
  obtain ⟨r3, hc4, hm⟩ := bind_some hm
  refine sCall hf rfl rfl rfl rfl (cap := []) rfl rfl en51 (impl_IsEventGraph_ok F p0_g A_p0_g_1 p0_g.Places.length c_p0_g_1 rfl _ _ hc4 (h_p0_g_1.at hs)) ?_; clear hf
  rintro _ w ⟨rfl, hs1⟩ a hf
  have hs : St [] W w [.blk b1 59 [.int .i64 p0_g.Events, .slice A_p0_g_1 p0_g.Places.length c_p0_g_1], .blk b2 75 [.int .i64 0, .int .i64 0]] := hs.ext hs1.below
  clear hs1
  refine sY hf hs rfl rfl rfl (Y_not rfl rfl) ?_; clear hf; intro a hf
  refine wpO_nil ?_
  refine wpL_cond hf rfl (fun hb5 => ?_) (fun hb5 => ?_)
  · have hm := bif_t hm hb5
    refine wpL_seq ?_
    refine wpL_region ?_
    refine sY hf hs rfl rfl rfl (Y_build (parts := []) (vs := []) rfl rfl (run_build (parts := []) (cells := [.int .i64 0, .int .i64 0]) (places := #[(0, 1), (1, 1)]) ti75 Try.underlying75 (fun w => by simp [go_sem]) rfl)) ?_; clear hf; intro a hf
    refine sStore (i := 1) (us := [.int .i64 0, .int .i64 0]) hf hs rfl rfl rfl rfl rfl rfl ti75 rfl rfl rfl (Nat.le_of_ble_eq_true rfl) rfl ?_; clear hs; intro w hs
    have hs : St [] W w [.blk b1 59 [.int .i64 p0_g.Events, .slice A_p0_g_1 p0_g.Places.length c_p0_g_1], .blk b2 75 [.int .i64 0, .int .i64 0]] := hs
    refine sY hf hs rfl rfl rfl (Y_assign rfl rfl) ?_; clear hf; intro a hf
    refine wpO_nil ?_
    obtain rfl := Option.some.inj hm
    refine wpL_ret (ret_cell_tmp rfl hf rfl rfl hs (i := 1) rfl ag75 ti75 rfl ?_)
    exact ⟨_, rfl, rfl, hs.sel [] (by decide)⟩
  · have hm := bif_f hm hb5
    refine wpL_skip ?_
    refine wpL_seq ?_
    refine wpL_region ?_
    refine sY hf hs rfl rfl rfl (Y_load_blkS rfl rfl (i := 0) rfl ag59 ti59 rfl) ?_; clear hf; intro a hf
    obtain ⟨r6, hc7, hm⟩ := bind_some hm
    refine sCall hf rfl rfl rfl rfl (cap := []) rfl rfl en149 (impl_cycleTime_ok F p0_g A_p0_g_1 p0_g.Places.length c_p0_g_1 rfl _ _ hc7 (h_p0_g_1.at hs)) ?_; clear hf
    rintro _ w ⟨rfl, hs1⟩ a hf
    have hs : St [] W w [.blk b1 59 [.int .i64 p0_g.Events, .slice A_p0_g_1 p0_g.Places.length c_p0_g_1], .blk b2 75 [.int .i64 0, .int .i64 0]] := hs.ext hs1.below
    clear hs1
    refine sY hf hs rfl rfl rfl (Y_extract rfl rfl rfl) ?_; clear hf; intro a hf
    refine sY hf hs rfl rfl rfl (Y_extract rfl rfl rfl) ?_; clear hf; intro a hf
    refine sStore (i := 1) (us := [.int .i64 r6.1.Num, .int .i64 r6.1.Den]) hf hs rfl rfl rfl rfl rfl rfl ti75 rfl rfl rfl (Nat.le_of_ble_eq_true rfl) rfl ?_; clear hs; intro w hs
    have hs : St [] W w [.blk b1 59 [.int .i64 p0_g.Events, .slice A_p0_g_1 p0_g.Places.length c_p0_g_1], .blk b2 75 [.int .i64 r6.1.Num, .int .i64 r6.1.Den]] := hs
    refine sY hf hs rfl rfl rfl (Y_assign rfl rfl) ?_; clear hf; intro a hf
    refine wpO_nil ?_
    obtain rfl := Option.some.inj hm
    refine wpL_ret (ret_cell_tmp rfl hf rfl rfl hs (i := 1) rfl ag75 ti75 rfl ?_)
    exact ⟨_, rfl, rfl, hs.sel [] (by decide)⟩

set_option maxHeartbeats 2000000 in
set_option maxRecDepth 100000 in
theorem laws_FnUnrolled_ok (F : Nat) (p0 : List Int) (A_p0_1 : Option Addr) (n_p0_1 c_p0_1 : Nat) (hn_p0_1 : n_p0_1 = p0.length) (r : Bool) (W : World) (hm : laws_FnUnrolled F p0 = some r) (h_p0_1 : Rd W A_p0_1 (bytes p0)) :
    Calls Try.prog 8 [.slice A_p0_1 n_p0_1 c_p0_1].toArray W fun e w' => ∃ v, e = .returned v ∧ v = .bool r ∧ St [] W w' [] := by
  subst hn_p0_1
  unfold laws_FnUnrolled at hm
  refine Calls.enter (N := 144) Try.func8 rfl rfl rfl (fun a hf => ?_)
  have hs := St.start W
  obtain ⟨w, hw_⟩ : ∃ w, w = W := ⟨W, rfl⟩
  clear hw_ w
  refine wpL_seq ?_
  refine wpL_region ?_
  refine sY hf hs rfl rfl rfl (Y_assign rfl rfl) ?_; clear hf; intro a hf
  refine wpO_nil ?_
  refine wpL_seq ?_
  refine wpL_seq ?_
  refine wpL_region ?_
  refine sY hf hs rfl rfl rfl (Y_move rfl rfl) ?_; clear hf; intro a hf
  obtain ⟨r1, hc2, hm⟩ := bind_some hm
  refine sCall hf rfl rfl rfl rfl (cap := []) rfl rfl en17 (laws_big_ok F p0 A_p0_1 p0.length c_p0_1 rfl _ _ hc2 (h_p0_1.at hs)) ?_; clear hf
  rintro _ w ⟨rfl, hs1⟩ a hf
  have hs : St [] W w [] := hs.ext hs1.below
  clear hs1
  refine wpO_nil ?_
  refine wpL_cond hf rfl (fun hb3 => ?_) (fun hb3 => ?_)
  · have hm := bif_t hm hb3
    refine wpL_seq ?_
    refine wpL_region ?_
    refine sY hf hs rfl rfl rfl (Y_assign rfl rfl) ?_; clear hf; intro a hf
    refine wpO_nil ?_
    obtain rfl := Option.some.inj hm
    refine wpL_ret (ret_tmp rfl hf rfl ?_)
    exact ⟨_, rfl, rfl, hs⟩
  · have hm := bif_f hm hb3
    refine wpL_skip ?_
    refine wpL_seq ?_
    refine wpL_region ?_
    refine sY hf hs rfl rfl rfl (Y_move rfl rfl) ?_; clear hf; intro a hf
    obtain ⟨r4, hc5, hm⟩ := bind_some hm
    refine sCall hf rfl rfl rfl rfl (cap := []) rfl rfl en54 (spec_DrawUnrollGraph_ok F p0 A_p0_1 p0.length c_p0_1 rfl _ _ hc5 (h_p0_1.at hs)) ?_; clear hf
    rintro _ w ⟨A6, n7, c8, rfl, hn9, hs1⟩ a hf
    have hs : St [] W w [.row A6 n7 c8 127 4 ((recs GPlace.cells) r4.1.Places)] := hs.join hs1
    clear hs1
    refine sY hf hs rfl rfl rfl (Y_move rfl rfl) ?_; clear hf; intro a hf
    refine sY hf hs rfl rfl rfl (Y_extract rfl rfl rfl) ?_; clear hf; intro a hf
    refine sY hf hs rfl rfl rfl (Y_extract rfl rfl rfl) ?_; clear hf; intro a hf
    refine sAlloc hf hs rfl rfl rfl rfl ti59 ?_; clear hf hs; intro a w b10 hs hf
    have hs : St [] W w [.row A6 n7 c8 127 4 ((recs GPlace.cells) r4.1.Places), .blk b10 59 [.int .i64 0, .slice none 0 0]] := hs
    refine sStore (i := 1) (us := [.int .i64 r4.1.Events, .slice A6 n7 c8]) hf hs rfl rfl rfl rfl rfl rfl ti59 rfl rfl rfl (Nat.le_of_ble_eq_true rfl) rfl ?_; clear hs; intro w hs
    have hs : St [] W w [.row A6 n7 c8 127 4 ((recs GPlace.cells) r4.1.Places), .blk b10 59 [.int .i64 r4.1.Events, .slice A6 n7 c8]] := hs
    refine sY hf hs rfl rfl rfl (Y_assign rfl rfl) ?_; clear hf; intro a hf
    refine wpO_nil ?_
    refine wpL_seq ?_
    refine wpL_region ?_
    refine sY hf hs rfl rfl rfl (Y_load_blkS rfl rfl (i := 1) rfl ag59 ti59 rfl) ?_; clear hf; intro a hf
    refine sY hf hs rfl rfl rfl (Y_move rfl rfl) ?_; clear hf; intro a hf
    obtain ⟨r11, hc12, hm⟩ := bind_some hm
    refine sCall hf rfl rfl rfl rfl (cap := []) rfl rfl en55 (impl_UnrollGraph_ok F (GEventGraph.mk r4.1.Events r4.1.Places) A6 n7 c8 hn9 r4.2 _ _ hc12 (hs.rd (i := 0) rfl)) ?_; clear hf
    rintro _ w ⟨A13, n14, c15, rfl, hn16, hs1⟩ a hf
    have hs : St [] W w [.row A6 n7 c8 127 4 ((recs GPlace.cells) r4.1.Places), .blk b10 59 [.int .i64 r4.1.Events, .slice A6 n7 c8], .row A13 n14 c15 127 4 ((recs GPlace.cells) r11.1.Places)] := hs.join hs1
    clear hs1
    refine sY hf hs rfl rfl rfl (Y_move rfl rfl) ?_; clear hf; intro a hf
    refine sY hf hs rfl rfl rfl (Y_extract rfl rfl rfl) ?_; clear hf; intro a hf
    refine sY hf hs rfl rfl rfl (Y_extract rfl rfl rfl) ?_; clear hf; intro a hf
    refine sAlloc hf hs rfl rfl rfl rfl ti59 ?_; clear hf hs; intro a w b17 hs hf
    have hs : St [] W w [.row A6 n7 c8 127 4 ((recs GPlace.cells) r4.1.Places), .blk b10 59 [.int .i64 r4.1.Events, .slice A6 n7 c8], .row A13 n14 c15 127 4 ((recs GPlace.cells) r11.1.Places), .blk b17 59 [.int .i64 0, .slice none 0 0]] := hs
    refine sStore (i := 3) (us := [.int .i64 r11.1.Events, .slice A13 n14 c15]) hf hs rfl rfl rfl rfl rfl rfl ti59 rfl rfl rfl (Nat.le_of_ble_eq_true rfl) rfl ?_; clear hs; intro w hs
    have hs : St [] W w [.row A6 n7 c8 127 4 ((recs GPlace.cells) r4.1.Places), .blk b10 59 [.int .i64 r4.1.Events, .slice A6 n7 c8], .row A13 n14 c15 127 4 ((recs GPlace.cells) r11.1.Places), .blk b17 59 [.int .i64 r11.1.Events, .slice A13 n14 c15]] := hs
    refine sY hf hs rfl rfl rfl (Y_assign rfl rfl) ?_; clear hf; intro a hf
    refine wpO_nil ?_
    refine wpL_seq ?_
    refine wpL_region ?_
    refine sY hf hs rfl rfl rfl (Y_load_blkS rfl rfl (i := 1) rfl ag59 ti59 rfl) ?_; clear hf; intro a hf
    refine sY hf hs rfl rfl rfl (Y_move rfl rfl) ?_; clear hf; intro a hf
    obtain ⟨r18, hc19, hm⟩ := bind_some hm
    refine sCall hf rfl rfl rfl rfl (cap := []) rfl rfl en56 (spec_UnrollGraph_ok F (GEventGraph.mk r4.1.Events r4.1.Places) A6 n7 c8 hn9 r4.2 _ _ hc19 (hs.rd (i := 0) rfl)) ?_; clear hf
    rintro _ w ⟨A20, n21, c22, rfl, hn23, hs1⟩ a hf
    have hs : St [] W w [.row A6 n7 c8 127 4 ((recs GPlace.cells) r4.1.Places), .blk b10 59 [.int .i64 r4.1.Events, .slice A6 n7 c8], .row A13 n14 c15 127 4 ((recs GPlace.cells) r11.1.Places), .blk b17 59 [.int .i64 r11.1.Events, .slice A13 n14 c15], .row A20 n21 c22 127 4 ((recs GPlace.cells) r18.1.Places)] := hs.join hs1
    clear hs1
    refine sY hf hs rfl rfl rfl (Y_move rfl rfl) ?_; clear hf; intro a hf
    refine sY hf hs rfl rfl rfl (Y_extract rfl rfl rfl) ?_; clear hf; intro a hf
    refine sY hf hs rfl rfl rfl (Y_extract rfl rfl rfl) ?_; clear hf; intro a hf
    refine sAlloc hf hs rfl rfl rfl rfl ti59 ?_; clear hf hs; intro a w b24 hs hf
    have hs : St [] W w [.row A6 n7 c8 127 4 ((recs GPlace.cells) r4.1.Places), .blk b10 59 [.int .i64 r4.1.Events, .slice A6 n7 c8], .row A13 n14 c15 127 4 ((recs GPlace.cells) r11.1.Places), .blk b17 59 [.int .i64 r11.1.Events, .slice A13 n14 c15], .row A20 n21 c22 127 4 ((recs GPlace.cells) r18.1.Places), .blk b24 59 [.int .i64 0, .slice none 0 0]] := hs
    refine sStore (i := 5) (us := [.int .i64 r18.1.Events, .slice A20 n21 c22]) hf hs rfl rfl rfl rfl rfl rfl ti59 rfl rfl rfl (Nat.le_of_ble_eq_true rfl) rfl ?_; clear hs; intro w hs
    have hs : St [] W w [.row A6 n7 c8 127 4 ((recs GPlace.cells) r4.1.Places), .blk b10 59 [.int .i64 r4.1.Events, .slice A6 n7 c8], .row A13 n14 c15 127 4 ((recs GPlace.cells) r11.1.Places), .blk b17 59 [.int .i64 r11.1.Events, .slice A13 n14 c15], .row A20 n21 c22 127 4 ((recs GPlace.cells) r18.1.Places), .blk b24 59 [.int .i64 r18.1.Events, .slice A20 n21 c22]] := hs
    refine sY hf hs rfl rfl rfl (Y_assign rfl rfl) ?_; clear hf; intro a hf
    refine wpO_nil ?_
    refine wpL_seq ?_
    refine wpL_seq ?_
    obtain ⟨r29, hj30, hm⟩ := bind_some hm
    refine wpL_cut (fun a w => ∃ b28 : Bool, b28 = r29 ∧ Fr a 144 [(3, .pointer (some ⟨b10, 0, none⟩)), (4, .int .i64 r4.2), (5, .pointer (some ⟨b17, 0, none⟩)), (6, .int .i64 r11.2), (47, .bool b28)] ∧ St [] W w [.blk b10 59 [.int .i64 r4.1.Events, .slice A6 n7 c8], .row A6 n7 c8 127 4 ((recs GPlace.cells) r4.1.Places), .blk b17 59 [.int .i64 r11.1.Events, .slice A13 n14 c15], .row A13 n14 c15 127 4 ((recs GPlace.cells) r11.1.Places)]) ?_ ?_
    · refine wpL_region ?_
      refine sY hf hs rfl rfl rfl (Y_move rfl rfl) ?_; clear hf; intro a hf
      refine sY hf hs rfl rfl rfl (Y_move rfl rfl) ?_; clear hf; intro a hf
      refine sY hf hs rfl rfl rfl (Y_neq rfl rfl rfl) ?_; clear hf; intro a hf
      refine sY hf hs rfl rfl rfl (Y_move rfl rfl) ?_; clear hf; intro a hf
      refine bsplit (r11.2 != r18.2) (fun hb31 => ?_) (fun hb31 => ?_)
      · have hj30 := bif_t hj30 hb31
        refine sNo hf rfl rfl rfl (congrArg (fun b => some (Value.bool b)) hb31) rfl rfl rfl ?_; clear hf; intro a hf
        refine sNo hf rfl rfl rfl (congrArg (fun b => some (Value.bool b)) hb31) rfl rfl rfl ?_; clear hf; intro a hf
        refine sNo hf rfl rfl rfl (congrArg (fun b => some (Value.bool b)) hb31) rfl rfl rfl ?_; clear hf; intro a hf
        refine sNo hf rfl rfl rfl (congrArg (fun b => some (Value.bool b)) hb31) rfl rfl rfl ?_; clear hf; intro a hf
        refine sY hf hs rfl rfl rfl (Y_pickT rfl (congrArg (fun b => some (Value.bool b)) hb31) rfl) ?_; clear hf; intro a hf
        refine wpO_nil ?_
        refine wpL_nil (then_normal ?_)
        exact ⟨true, Option.some.inj hj30, (FrD.pick (FrD.pick (FrD.pick (FrD.pick (FrD.pick hf.none hf rfl) hf rfl) hf rfl) hf rfl) hf rfl), hs.sel [1, 0, 3, 2] (by decide)⟩
      · have hj30 := bif_f hj30 hb31
        refine sYg hf hs rfl rfl rfl (congrArg (fun b => some (Value.bool b)) hb31) rfl rfl rfl (Y_load_blkS rfl rfl (i := 3) rfl ag59 ti59 rfl) ?_; clear hf; intro a hf
        refine sYg hf hs rfl rfl rfl (congrArg (fun b => some (Value.bool b)) hb31) rfl rfl rfl (Y_load_blkS rfl rfl (i := 5) rfl ag59 ti59 rfl) ?_; clear hf; intro a hf
        obtain ⟨r32, hc33, hj30⟩ := bind_some hj30
        refine sCallg hf rfl rfl rfl (congrArg (fun b => some (Value.bool b)) hb31) rfl rfl rfl rfl (cap := []) rfl rfl en50 (laws_likeGraphs9_ok F (GEventGraph.mk r11.1.Events r11.1.Places) A13 n14 c15 hn16 (GEventGraph.mk r18.1.Events r18.1.Places) A20 n21 c22 hn23 _ _ hc33 (hs.rd (i := 2) rfl) (hs.rd (i := 4) rfl)) ?_; clear hf
        rintro _ w ⟨rfl, hs1⟩ a hf
        have hs : St [] W w [.row A6 n7 c8 127 4 ((recs GPlace.cells) r4.1.Places), .blk b10 59 [.int .i64 r4.1.Events, .slice A6 n7 c8], .row A13 n14 c15 127 4 ((recs GPlace.cells) r11.1.Places), .blk b17 59 [.int .i64 r11.1.Events, .slice A13 n14 c15], .row A20 n21 c22 127 4 ((recs GPlace.cells) r18.1.Places), .blk b24 59 [.int .i64 r18.1.Events, .slice A20 n21 c22]] := hs.ext hs1.below
        clear hs1
        refine sYg hf hs rfl rfl rfl (congrArg (fun b => some (Value.bool b)) hb31) rfl rfl rfl (Y_not rfl rfl) ?_; clear hf; intro a hf
        refine sY hf hs rfl rfl rfl (Y_pickF rfl (congrArg (fun b => some (Value.bool b)) hb31) rfl) ?_; clear hf; intro a hf
        refine wpO_nil ?_
        refine wpL_nil (then_normal ?_)
        exact ⟨(!r32), Option.some.inj hj30, (FrD.pick (FrD.pick (FrD.pick (FrD.pick (FrD.pick hf.none hf rfl) hf rfl) hf rfl) hf rfl) hf rfl), hs.sel [1, 0, 3, 2] (by decide)⟩
    · rintro a w ⟨b28, hr_, hf, hs⟩
      subst hr_
      try dsimp only at hm
      refine wpL_cond hf rfl (fun hb34 => ?_) (fun hb34 => ?_)
      · have hm := bif_t hm hb34
        refine wpL_seq ?_
        refine wpL_region ?_
        refine sY hf hs rfl rfl rfl (Y_assign rfl rfl) ?_; clear hf; intro a hf
        refine wpO_nil ?_
        obtain rfl := Option.some.inj hm
        refine wpL_ret (ret_tmp rfl hf rfl ?_)
        exact ⟨_, rfl, rfl, hs.sel [] (by decide)⟩
      · have hm := bif_f hm hb34
        refine wpL_skip ?_
        refine wpL_seq ?_
        refine wpL_seq ?_
        refine wpL_region ?_
        refine sY hf hs rfl rfl rfl (Y_move rfl rfl) ?_; clear hf; intro a hf
        refine sY hf hs rfl rfl rfl (Y_neq rfl rfl rfl) ?_; clear hf; intro a hf
        refine wpO_nil ?_
        refine wpL_cond hf rfl (fun hb35 => ?_) (fun hb35 => ?_)
        · have hm := bif_t hm hb35
          refine wpL_seq ?_
          refine wpL_region ?_
          refine sY hf hs rfl rfl rfl (Y_assign rfl rfl) ?_; clear hf; intro a hf
          refine wpO_nil ?_
          obtain rfl := Option.some.inj hm
          refine wpL_ret (ret_tmp rfl hf rfl ?_)
          exact ⟨_, rfl, rfl, hs.sel [] (by decide)⟩
        · have hm := bif_f hm hb35
          refine wpL_skip ?_
          refine wpL_seq ?_
          refine wpL_region ?_
          refine sY hf hs rfl rfl rfl (Y_load_blkS rfl rfl (i := 0) rfl ag59 ti59 rfl) ?_; clear hf; intro a hf
          refine sY hf hs rfl rfl rfl (Y_move rfl rfl) ?_; clear hf; intro a hf
          refine sY hf hs rfl rfl rfl (Y_mul rfl rfl rfl) ?_; clear hf; intro a hf
          obtain ⟨r36, hc37, hm⟩ := bind_some hm
          refine sCall hf rfl rfl rfl rfl (cap := []) rfl rfl en52 (impl_FiringTimes_ok F (GEventGraph.mk r4.1.Events r4.1.Places) A6 n7 c8 hn9 (IntKind.i64.wrap (4 * r4.2)) _ _ hc37 (hs.rd (i := 1) rfl)) ?_; clear hf
          rintro _ w ⟨A38, n39, c40, vs42, rfl, hn41, hs1⟩ a hf
          have hs : St [] W w [.blk b10 59 [.int .i64 r4.1.Events, .slice A6 n7 c8], .row A6 n7 c8 127 4 ((recs GPlace.cells) r4.1.Places), .blk b17 59 [.int .i64 r11.1.Events, .slice A13 n14 c15], .row A13 n14 c15 127 4 ((recs GPlace.cells) r11.1.Places), .mat A38 n39 c40 23 2 vs42 r36.1] := hs.join hs1
          clear hs1
          refine sY hf hs rfl rfl rfl (Y_move rfl rfl) ?_; clear hf; intro a hf
          refine sY hf hs rfl rfl rfl (Y_extract rfl rfl rfl) ?_; clear hf; intro a hf
          refine sY hf hs rfl rfl rfl (Y_extract rfl rfl rfl) ?_; clear hf; intro a hf
          refine sY hf hs rfl rfl rfl (Y_assign rfl rfl) ?_; clear hf; intro a hf
          refine sY hf hs rfl rfl rfl (Y_assign rfl rfl) ?_; clear hf; intro a hf
          refine wpO_nil ?_
          refine wpL_seq ?_
          refine wpL_region ?_
          refine sY hf hs rfl rfl rfl (Y_load_blkS rfl rfl (i := 2) rfl ag59 ti59 rfl) ?_; clear hf; intro a hf
          obtain ⟨r43, hc44, hm⟩ := bind_some hm
          refine sCall hf rfl rfl rfl rfl (cap := []) rfl rfl en52 (impl_FiringTimes_ok F (GEventGraph.mk r11.1.Events r11.1.Places) A13 n14 c15 hn16 4 _ _ hc44 (hs.rd (i := 3) rfl)) ?_; clear hf
          rintro _ w ⟨A45, n46, c47, vs49, rfl, hn48, hs1⟩ a hf
          have hs : St [] W w [.blk b10 59 [.int .i64 r4.1.Events, .slice A6 n7 c8], .row A6 n7 c8 127 4 ((recs GPlace.cells) r4.1.Places), .blk b17 59 [.int .i64 r11.1.Events, .slice A13 n14 c15], .row A13 n14 c15 127 4 ((recs GPlace.cells) r11.1.Places), .mat A38 n39 c40 23 2 vs42 r36.1, .mat A45 n46 c47 23 2 vs49 r43.1] := hs.join hs1
          clear hs1
          refine sY hf hs rfl rfl rfl (Y_move rfl rfl) ?_; clear hf; intro a hf
          refine sY hf hs rfl rfl rfl (Y_extract rfl rfl rfl) ?_; clear hf; intro a hf
          refine sY hf hs rfl rfl rfl (Y_extract rfl rfl rfl) ?_; clear hf; intro a hf
          refine sY hf hs rfl rfl rfl (Y_assign rfl rfl) ?_; clear hf; intro a hf
          refine sY hf hs rfl rfl rfl (Y_assign rfl rfl) ?_; clear hf; intro a hf
          refine wpO_nil ?_
          refine wpL_seq ?_
          refine wpL_seq ?_
          refine wpL_region ?_
          refine sY hf hs rfl rfl rfl (Y_move rfl rfl) ?_; clear hf; intro a hf
          refine sY hf hs rfl rfl rfl (Y_move rfl rfl) ?_; clear hf; intro a hf
          refine sY hf hs rfl rfl rfl (Y_neq rfl rfl rfl) ?_; clear hf; intro a hf
          refine wpO_nil ?_
          refine wpL_cond hf rfl (fun hb50 => ?_) (fun hb50 => ?_)
          · have hm := bif_t hm hb50
            refine wpL_seq ?_
            refine wpL_region ?_
            refine sY hf hs rfl rfl rfl (Y_assign rfl rfl) ?_; clear hf; intro a hf
            refine wpO_nil ?_
            obtain rfl := Option.some.inj hm
            refine wpL_ret (ret_tmp rfl hf rfl ?_)
            exact ⟨_, rfl, rfl, hs.sel [] (by decide)⟩
          · have hm := bif_f hm hb50
            refine wpL_skip ?_
            refine wpL_seq ?_
            refine wpL_seq ?_
            refine wpL_region ?_
            refine sY hf hs rfl rfl rfl (Y_assign rfl rfl) ?_; clear hf; intro a hf
            refine wpO_nil ?_
            obtain ⟨r941, hl942, hm⟩ := bind_some hm
            refine wpL_block (fun a w => Sum.inr () = r941 ∧ Fr a 144 [(3, .pointer (some ⟨b10, 0, none⟩)), (4, .int .i64 r4.2), (5, .pointer (some ⟨b17, 0, none⟩))] ∧ St [] W w [.blk b10 59 [.int .i64 r4.1.Events, .slice A6 n7 c8], .row A6 n7 c8 127 4 ((recs GPlace.cells) r4.1.Places), .blk b17 59 [.int .i64 r11.1.Events, .slice A13 n14 c15], .row A13 n14 c15 127 4 ((recs GPlace.cells) r11.1.Places)]) ?_ ?_
            · refine wpL_loop (fun n a w => ∃ x644 : Int, laws_FnUnrolled_L16 F r4 r36 r43 n x644 = some r941 ∧ Fr a 144 [(3, .pointer (some ⟨b10, 0, none⟩)), (4, .int .i64 r4.2), (5, .pointer (some ⟨b17, 0, none⟩)), (9, .slice A38 n39 c40), (10, .int .i64 r36.2), (11, .slice A45 n46 c47), (13, .int .i64 x644)] ∧ St [] W w [.blk b10 59 [.int .i64 r4.1.Events, .slice A6 n7 c8], .row A6 n7 c8 127 4 ((recs GPlace.cells) r4.1.Places), .blk b17 59 [.int .i64 r11.1.Events, .slice A13 n14 c15], .row A13 n14 c15 127 4 ((recs GPlace.cells) r11.1.Places), .mat A38 n39 c40 23 2 vs42 r36.1, .mat A45 n46 c47 23 2 vs49 r43.1]) F ?_ ?_ ?_
              · exact ⟨0, hl942, (FrD.pick (FrD.pick (FrD.pick (FrD.pick (FrD.pick (FrD.pick (FrD.pick hf.none hf rfl) hf rfl) hf rfl) hf rfl) hf rfl) hf rfl) hf rfl), hs⟩
              · rintro a w ⟨x644, h0_, -, -⟩; simp [laws_FnUnrolled_L16] at h0_
              · rintro n944 a w ⟨x644, hm943, hf, hs⟩
                rw [laws_FnUnrolled_L16] at hm943
                refine wpL_seq ?_
                refine wpL_seq ?_
                obtain ⟨r947, hj948, hm943⟩ := bind_some hm943
                refine wpL_cut (fun a w => ∃ b946 : Bool, b946 = r947 ∧ Fr a 144 [(3, .pointer (some ⟨b10, 0, none⟩)), (4, .int .i64 r4.2), (5, .pointer (some ⟨b17, 0, none⟩)), (9, .slice A38 n39 c40), (10, .int .i64 r36.2), (11, .slice A45 n46 c47), (13, .int .i64 x644), (70, .bool b946)] ∧ St [] W w [.blk b10 59 [.int .i64 r4.1.Events, .slice A6 n7 c8], .row A6 n7 c8 127 4 ((recs GPlace.cells) r4.1.Places), .blk b17 59 [.int .i64 r11.1.Events, .slice A13 n14 c15], .row A13 n14 c15 127 4 ((recs GPlace.cells) r11.1.Places), .mat A38 n39 c40 23 2 vs42 r36.1, .mat A45 n46 c47 23 2 vs49 r43.1]) ?_ ?_
                · refine wpL_region ?_
                  refine sY hf hs rfl rfl rfl (Y_move rfl rfl) ?_; clear hf; intro a hf
                  refine sY hf hs rfl rfl rfl (Y_eql rfl rfl rfl) ?_; clear hf; intro a hf
                  refine sY hf hs rfl rfl rfl (Y_move rfl rfl) ?_; clear hf; intro a hf
                  refine bsplit (r36.2 == 0) (fun hb949 => ?_) (fun hb949 => ?_)
                  · have hj948 := bif_t hj948 hb949
                    refine sYg hf hs rfl rfl rfl (congrArg (fun b => some (Value.bool b)) hb949) rfl rfl rfl (Y_move rfl rfl) ?_; clear hf; intro a hf
                    refine sYg hf hs rfl rfl rfl (congrArg (fun b => some (Value.bool b)) hb949) rfl rfl rfl (Y_lss rfl rfl rfl) ?_; clear hf; intro a hf
                    refine sY hf hs rfl rfl rfl (Y_pickT rfl (congrArg (fun b => some (Value.bool b)) hb949) rfl) ?_; clear hf; intro a hf
                    refine wpO_nil ?_
                    refine wpL_nil (then_normal ?_)
                    exact ⟨(decide (x644 < 4)), Option.some.inj hj948, (FrD.pick (FrD.pick (FrD.pick (FrD.pick (FrD.pick (FrD.pick (FrD.pick (FrD.pick hf.none hf rfl) hf rfl) hf rfl) hf rfl) hf rfl) hf rfl) hf rfl) hf rfl), hs⟩
                  · have hj948 := bif_f hj948 hb949
                    refine sNo hf rfl rfl rfl (congrArg (fun b => some (Value.bool b)) hb949) rfl rfl rfl ?_; clear hf; intro a hf
                    refine sNo hf rfl rfl rfl (congrArg (fun b => some (Value.bool b)) hb949) rfl rfl rfl ?_; clear hf; intro a hf
                    refine sY hf hs rfl rfl rfl (Y_pickF rfl (congrArg (fun b => some (Value.bool b)) hb949) rfl) ?_; clear hf; intro a hf
                    refine wpO_nil ?_
                    refine wpL_nil (then_normal ?_)
                    exact ⟨false, Option.some.inj hj948, (FrD.pick (FrD.pick (FrD.pick (FrD.pick (FrD.pick (FrD.pick (FrD.pick (FrD.pick hf.none hf rfl) hf rfl) hf rfl) hf rfl) hf rfl) hf rfl) hf rfl) hf rfl), hs⟩
                · rintro a w ⟨b946, hr_, hf, hs⟩
                  subst hr_
                  try dsimp only at hm943
                  refine wpL_cond hf rfl (fun hb950 => ?_) (fun hb950 => ?_)
                  · have hm943 := bif_t hm943 hb950
                    refine wpL_skip ?_
                    refine wpL_seq ?_
                    refine wpL_block0 ?_
                    refine wpL_seq ?_
                    refine wpL_region ?_
                    refine sY hf hs rfl rfl rfl (Y_assign rfl rfl) ?_; clear hf; intro a hf
                    refine wpO_nil ?_
                    obtain ⟨r1166, hl1167, hm943⟩ := bind_some hm943
                    refine wpL_block (fun a w => Sum.inr () = r1166 ∧ Fr a 144 [(3, .pointer (some ⟨b10, 0, none⟩)), (4, .int .i64 r4.2), (5, .pointer (some ⟨b17, 0, none⟩)), (9, .slice A38 n39 c40), (10, .int .i64 r36.2), (11, .slice A45 n46 c47), (13, .int .i64 x644)] ∧ St [] W w [.blk b10 59 [.int .i64 r4.1.Events, .slice A6 n7 c8], .row A6 n7 c8 127 4 ((recs GPlace.cells) r4.1.Places), .blk b17 59 [.int .i64 r11.1.Events, .slice A13 n14 c15], .row A13 n14 c15 127 4 ((recs GPlace.cells) r11.1.Places), .mat A38 n39 c40 23 2 vs42 r36.1, .mat A45 n46 c47 23 2 vs49 r43.1]) ?_ ?_
                    · refine wpL_loop (fun n a w => ∃ x1094 : Int, laws_FnUnrolled_L20 F r4 r36 r43 x644 n x1094 = some r1166 ∧ Fr a 144 [(3, .pointer (some ⟨b10, 0, none⟩)), (4, .int .i64 r4.2), (5, .pointer (some ⟨b17, 0, none⟩)), (9, .slice A38 n39 c40), (10, .int .i64 r36.2), (11, .slice A45 n46 c47), (13, .int .i64 x644), (14, .int .i64 x1094)] ∧ St [] W w [.blk b10 59 [.int .i64 r4.1.Events, .slice A6 n7 c8], .row A6 n7 c8 127 4 ((recs GPlace.cells) r4.1.Places), .blk b17 59 [.int .i64 r11.1.Events, .slice A13 n14 c15], .row A13 n14 c15 127 4 ((recs GPlace.cells) r11.1.Places), .mat A38 n39 c40 23 2 vs42 r36.1, .mat A45 n46 c47 23 2 vs49 r43.1]) F ?_ ?_ ?_
                      · exact ⟨0, hl1167, (FrD.pick (FrD.pick (FrD.pick (FrD.pick (FrD.pick (FrD.pick (FrD.pick (FrD.pick hf.none hf rfl) hf rfl) hf rfl) hf rfl) hf rfl) hf rfl) hf rfl) hf rfl), hs⟩
                      · rintro a w ⟨x1094, h0_, -, -⟩; simp [laws_FnUnrolled_L20] at h0_
                      · rintro n1169 a w ⟨x1094, hm1168, hf, hs⟩
                        rw [laws_FnUnrolled_L20] at hm1168
                        refine wpL_seq ?_
                        refine wpL_seq ?_
                        refine wpL_region ?_
                        refine sY hf hs rfl rfl rfl (Y_move rfl rfl) ?_; clear hf; intro a hf
                        refine sY hf hs rfl rfl rfl (Y_move rfl rfl) ?_; clear hf; intro a hf
                        refine sY hf hs rfl rfl rfl (Y_lss rfl rfl rfl) ?_; clear hf; intro a hf
                        refine wpO_nil ?_
                        refine wpL_cond hf rfl (fun hb1170 => ?_) (fun hb1170 => ?_)
                        · have hm1168 := bif_t hm1168 hb1170
                          refine wpL_skip ?_
                          refine wpL_seq ?_
                          refine wpL_block0 ?_
                          refine wpL_seq ?_
                          refine wpL_region ?_
                          refine sY hf hs rfl rfl rfl (Y_assign rfl rfl) ?_; clear hf; intro a hf
                          refine wpO_nil ?_
                          obtain ⟨r1221, hl1222, hm1168⟩ := bind_some hm1168
                          refine wpL_block (fun a w => Sum.inr () = r1221 ∧ Fr a 144 [(3, .pointer (some ⟨b10, 0, none⟩)), (4, .int .i64 r4.2), (5, .pointer (some ⟨b17, 0, none⟩)), (9, .slice A38 n39 c40), (10, .int .i64 r36.2), (11, .slice A45 n46 c47), (13, .int .i64 x644), (14, .int .i64 x1094)] ∧ St [] W w [.blk b10 59 [.int .i64 r4.1.Events, .slice A6 n7 c8], .row A6 n7 c8 127 4 ((recs GPlace.cells) r4.1.Places), .blk b17 59 [.int .i64 r11.1.Events, .slice A13 n14 c15], .row A13 n14 c15 127 4 ((recs GPlace.cells) r11.1.Places), .mat A38 n39 c40 23 2 vs42 r36.1, .mat A45 n46 c47 23 2 vs49 r43.1]) ?_ ?_
                          · refine wpL_loop (fun n a w => ∃ x1204 : Int, laws_FnUnrolled_L21 F r4 r36 r43 x644 x1094 n x1204 = some r1221 ∧ Fr a 144 [(3, .pointer (some ⟨b10, 0, none⟩)), (4, .int .i64 r4.2), (5, .pointer (some ⟨b17, 0, none⟩)), (9, .slice A38 n39 c40), (10, .int .i64 r36.2), (11, .slice A45 n46 c47), (13, .int .i64 x644), (14, .int .i64 x1094), (15, .int .i64 x1204)] ∧ St [] W w [.blk b10 59 [.int .i64 r4.1.Events, .slice A6 n7 c8], .row A6 n7 c8 127 4 ((recs GPlace.cells) r4.1.Places), .blk b17 59 [.int .i64 r11.1.Events, .slice A13 n14 c15], .row A13 n14 c15 127 4 ((recs GPlace.cells) r11.1.Places), .mat A38 n39 c40 23 2 vs42 r36.1, .mat A45 n46 c47 23 2 vs49 r43.1]) F ?_ ?_ ?_
                            · exact ⟨0, hl1222, (FrD.pick (FrD.pick (FrD.pick (FrD.pick (FrD.pick (FrD.pick (FrD.pick (FrD.pick (FrD.pick hf.none hf rfl) hf rfl) hf rfl) hf rfl) hf rfl) hf rfl) hf rfl) hf rfl) hf rfl), hs⟩
                            · rintro a w ⟨x1204, h0_, -, -⟩; simp [laws_FnUnrolled_L21] at h0_
                            · rintro n1224 a w ⟨x1204, hm1223, hf, hs⟩
                              rw [laws_FnUnrolled_L21] at hm1223
                              refine wpL_seq ?_
                              refine wpL_seq ?_
                              refine wpL_region ?_
                              refine sY hf hs rfl rfl rfl (Y_move rfl rfl) ?_; clear hf; intro a hf
                              refine sY hf hs rfl rfl rfl (Y_fieldAddr rfl rfl fo59_0) ?_; clear hf; intro a hf
                              refine sY hf hs rfl rfl rfl (Y_load_blk rfl rfl (i := 0) rfl rfl ag2) ?_; clear hf; intro a hf
                              refine sY hf hs rfl rfl rfl (Y_lss rfl rfl rfl) ?_; clear hf; intro a hf
                              refine wpO_nil ?_
                              refine wpL_cond hf rfl (fun hb1225 => ?_) (fun hb1225 => ?_)
                              · have hm1223 := bif_t hm1223 hb1225
                                refine wpL_skip ?_
                                refine wpL_seq ?_
                                refine wpL_block0 ?_
                                refine wpL_seq ?_
                                refine wpL_draw (by kernel_rfl) (by kernel_rfl) hs ?_
                                refine qY hf rfl rfl rfl (Y_move rfl rfl) ?_; clear hf; intro a hf
                                refine qY hf rfl rfl rfl (Y_move rfl rfl) ?_; clear hf; intro a hf
                                obtain ⟨q1226, hi1227, hm1223⟩ := bind_some hm1223
                                obtain ⟨hi1227a, hi1227b, hi1227q⟩ := idx_some hi1227
                                obtain ⟨A1228, c1229, hv1230⟩ := hs.matRow (i := 5) rfl hi1227q
                                refine qY hf rfl rfl rfl (Y_index rfl rfl rfl el22 ti23 (Rd.isAt (hs.rdV (i := 5) rfl) hv1230) hi1227a (ltn hn48 hi1227b)) ?_; clear hf; intro a hf
                                refine qY hf rfl rfl rfl (Y_load_rd rfl rfl (fun w hs => hs.rdV (i := 5) rfl) (at1 hv1230) ag23) ?_; clear hf; intro a hf
                                refine qY hf rfl rfl rfl (Y_move rfl rfl) ?_; clear hf; intro a hf
                                refine qY hf rfl rfl rfl (Y_fieldAddr rfl rfl fo59_0) ?_; clear hf; intro a hf
                                refine qY hf rfl rfl rfl (Y_load_blk rfl rfl (i := 0) rfl rfl ag2) ?_; clear hf; intro a hf
                                refine qY hf rfl rfl rfl (Y_mul rfl rfl rfl) ?_; clear hf; intro a hf
                                refine qY hf rfl rfl rfl (Y_move rfl rfl) ?_; clear hf; intro a hf
                                refine qY hf rfl rfl rfl (Y_add rfl rfl rfl) ?_; clear hf; intro a hf
                                obtain ⟨q1231, hi1232, hm1223⟩ := bind_some hm1223
                                obtain ⟨hi1232a, hi1232b, hi1232q⟩ := idx_some hi1232
                                refine qY hf rfl rfl rfl (Y_index rfl rfl rfl el23 ti2 (Rd.isAt (hs.rdRow (i := 5) rfl ⟨hi1227q, hv1230⟩) (at1 (ints_at hi1232q))) hi1232a hi1232b) ?_; clear hf; intro a hf
                                refine qY hf rfl rfl rfl (Y_load_rd rfl rfl (fun w hs => hs.rdRow (i := 5) rfl ⟨hi1227q, hv1230⟩) (at1 (ints_at hi1232q)) ag2) ?_; clear hf; intro a hf
                                refine qY hf rfl rfl rfl (Y_move rfl rfl) ?_; clear hf; intro a hf
                                refine qY hf rfl rfl rfl (Y_move rfl rfl) ?_; clear hf; intro a hf
                                refine qY hf rfl rfl rfl (Y_move rfl rfl) ?_; clear hf; intro a hf
                                refine qY hf rfl rfl rfl (Y_mul rfl rfl rfl) ?_; clear hf; intro a hf
                                refine qY hf rfl rfl rfl (Y_move rfl rfl) ?_; clear hf; intro a hf
                                refine qY hf rfl rfl rfl (Y_add rfl rfl rfl) ?_; clear hf; intro a hf
                                obtain ⟨q1233, hi1234, hm1223⟩ := bind_some hm1223
                                obtain ⟨hi1234a, hi1234b, hi1234q⟩ := idx_some hi1234
                                obtain ⟨A1235, c1236, hv1237⟩ := hs.matRow (i := 4) rfl hi1234q
                                refine qY hf rfl rfl rfl (Y_index rfl rfl rfl el22 ti23 (Rd.isAt (hs.rdV (i := 4) rfl) hv1237) hi1234a (ltn hn41 hi1234b)) ?_; clear hf; intro a hf
                                refine qY hf rfl rfl rfl (Y_load_rd rfl rfl (fun w hs => hs.rdV (i := 4) rfl) (at1 hv1237) ag23) ?_; clear hf; intro a hf
                                refine qY hf rfl rfl rfl (Y_move rfl rfl) ?_; clear hf; intro a hf
                                obtain ⟨q1238, hi1239, hm1223⟩ := bind_some hm1223
                                obtain ⟨hi1239a, hi1239b, hi1239q⟩ := idx_some hi1239
                                refine qY hf rfl rfl rfl (Y_index rfl rfl rfl el23 ti2 (Rd.isAt (hs.rdRow (i := 4) rfl ⟨hi1234q, hv1237⟩) (at1 (ints_at hi1239q))) hi1239a hi1239b) ?_; clear hf; intro a hf
                                refine qY hf rfl rfl rfl (Y_load_rd rfl rfl (fun w hs => hs.rdRow (i := 4) rfl ⟨hi1234q, hv1237⟩) (at1 (ints_at hi1239q)) ag2) ?_; clear hf; intro a hf
                                refine qY hf rfl rfl rfl (Y_neq rfl rfl rfl) ?_; clear hf; intro a hf
                                refine qNil ?_; clear hs; intro w hs
                                refine wpL_cond hf rfl (fun hb1240 => ?_) (fun hb1240 => ?_)
                                · have hm1223 := bif_t hm1223 hb1240
                                  refine wpL_seq ?_
                                  refine wpL_region ?_
                                  refine sY hf hs rfl rfl rfl (Y_assign rfl rfl) ?_; clear hf; intro a hf
                                  refine wpO_nil ?_
                                  obtain rfl := Option.some.inj hm1223
                                  try dsimp only at hm1168
                                  obtain rfl := Option.some.inj hm1168
                                  try dsimp only at hm943
                                  obtain rfl := Option.some.inj hm943
                                  try dsimp only at hm
                                  obtain rfl := Option.some.inj hm
                                  refine wpL_ret (Qb_ret (Ql_ret (Qb_ret (Qb_ret (Ql_ret (Qb_ret (Qb_ret (Ql_ret (Qb_ret (ret_tmp rfl hf rfl ?_))))))))))
                                  exact ⟨_, rfl, rfl, hs.sel [] (by decide)⟩
                                · have hm1223 := bif_f hm1223 hb1240
                                  refine wpL_skip ?_
                                  refine wpL_nil (Qb_normal ?_)
                                  refine wpL_region ?_
                                  refine sY hf hs rfl rfl rfl (Y_move rfl rfl) ?_; clear hf; intro a hf
                                  refine sY hf hs rfl rfl rfl (Y_add rfl rfl rfl) ?_; clear hf; intro a hf
                                  refine sY hf hs rfl rfl rfl (Y_assign rfl rfl) ?_; clear hf; intro a hf
                                  refine wpO_nil ?_
                                  refine wpL_nil (Ql_normal ?_)
                                  exact ⟨(IntKind.i64.wrap (x1204 + 1)), hm1223, (FrD.pick (FrD.pick (FrD.pick (FrD.pick (FrD.pick (FrD.pick (FrD.pick (FrD.pick (FrD.pick hf.none hf rfl) hf rfl) hf rfl) hf rfl) hf rfl) hf rfl) hf rfl) hf rfl) hf rfl), hs⟩
                              · have hm1223 := bif_f hm1223 hb1225
                                refine wpL_exit (Ql_exit (Qb_exit ?_))
                                exact ⟨Option.some.inj hm1223, (FrD.pick (FrD.pick (FrD.pick (FrD.pick (FrD.pick (FrD.pick (FrD.pick (FrD.pick hf.none hf rfl) hf rfl) hf rfl) hf rfl) hf rfl) hf rfl) hf rfl) hf rfl), hs⟩
                          · rintro a w ⟨hr_, hf, hs⟩
                            subst hr_
                            try dsimp only at hm1168
                            refine wpL_nil (Qb_normal ?_)
                            refine wpL_region ?_
                            refine sY hf hs rfl rfl rfl (Y_move rfl rfl) ?_; clear hf; intro a hf
                            refine sY hf hs rfl rfl rfl (Y_add rfl rfl rfl) ?_; clear hf; intro a hf
                            refine sY hf hs rfl rfl rfl (Y_assign rfl rfl) ?_; clear hf; intro a hf
                            refine wpO_nil ?_
                            refine wpL_nil (Ql_normal ?_)
                            exact ⟨(IntKind.i64.wrap (x1094 + 1)), hm1168, (FrD.pick (FrD.pick (FrD.pick (FrD.pick (FrD.pick (FrD.pick (FrD.pick (FrD.pick hf.none hf rfl) hf rfl) hf rfl) hf rfl) hf rfl) hf rfl) hf rfl) hf rfl), hs⟩
                        · have hm1168 := bif_f hm1168 hb1170
                          refine wpL_exit (Ql_exit (Qb_exit ?_))
                          exact ⟨Option.some.inj hm1168, (FrD.pick (FrD.pick (FrD.pick (FrD.pick (FrD.pick (FrD.pick (FrD.pick hf.none hf rfl) hf rfl) hf rfl) hf rfl) hf rfl) hf rfl) hf rfl), hs⟩
                    · rintro a w ⟨hr_, hf, hs⟩
                      subst hr_
                      try dsimp only at hm943
                      refine wpL_nil (Qb_normal ?_)
                      refine wpL_region ?_
                      refine sY hf hs rfl rfl rfl (Y_move rfl rfl) ?_; clear hf; intro a hf
                      refine sY hf hs rfl rfl rfl (Y_add rfl rfl rfl) ?_; clear hf; intro a hf
                      refine sY hf hs rfl rfl rfl (Y_assign rfl rfl) ?_; clear hf; intro a hf
                      refine wpO_nil ?_
                      refine wpL_nil (Ql_normal ?_)
                      exact ⟨(IntKind.i64.wrap (x644 + 1)), hm943, (FrD.pick (FrD.pick (FrD.pick (FrD.pick (FrD.pick (FrD.pick (FrD.pick hf.none hf rfl) hf rfl) hf rfl) hf rfl) hf rfl) hf rfl) hf rfl), hs⟩
                  · have hm943 := bif_f hm943 hb950
                    refine wpL_exit (Ql_exit (Qb_exit ?_))
                    exact ⟨Option.some.inj hm943, (FrD.pick (FrD.pick (FrD.pick hf.none hf rfl) hf rfl) hf rfl), hs.sel [0, 1, 2, 3] (by decide)⟩
            · rintro a w ⟨hr_, hf, hs⟩
              subst hr_
              try dsimp only at hm
              refine wpL_seq ?_
              refine wpL_seq ?_
              refine wpL_region ?_
              refine sY hf hs rfl rfl rfl (Y_fieldAddr rfl rfl fo59_1) ?_; clear hf; intro a hf
              refine sY hf hs rfl rfl rfl (Y_load_blk rfl rfl (i := 2) rfl rfl ag57) ?_; clear hf; intro a hf
              refine sY hf hs rfl rfl rfl (Y_lenH rfl rfl el57 hn16) ?_; clear hf; intro a hf
              refine sY hf hs rfl rfl rfl (Y_gtr rfl rfl rfl) ?_; clear hf; intro a hf
              refine wpO_nil ?_
              refine wpL_cond hf rfl (fun hb1241 => ?_) (fun hb1241 => ?_)
              · have hm := bif_t hm hb1241
                refine wpL_seq ?_
                refine wpL_region ?_
                refine sY hf hs rfl rfl rfl (Y_assign rfl rfl) ?_; clear hf; intro a hf
                refine wpO_nil ?_
                obtain rfl := Option.some.inj hm
                refine wpL_ret (ret_tmp rfl hf rfl ?_)
                exact ⟨_, rfl, rfl, hs.sel [] (by decide)⟩
              · have hm := bif_f hm hb1241
                refine wpL_skip ?_
                refine wpL_seq ?_
                refine wpL_region ?_
                refine sY hf hs rfl rfl rfl (Y_load_blkS rfl rfl (i := 0) rfl ag59 ti59 rfl) ?_; clear hf; intro a hf
                obtain ⟨r1242, hc1243, hm⟩ := bind_some hm
                refine sCall hf rfl rfl rfl rfl (cap := []) rfl rfl en57 (impl_CycleTime_ok F (GEventGraph.mk r4.1.Events r4.1.Places) A6 n7 c8 hn9 _ _ hc1243 (hs.rd (i := 1) rfl)) ?_; clear hf
                rintro _ w ⟨rfl, hs1⟩ a hf
                have hs : St [] W w [.blk b10 59 [.int .i64 r4.1.Events, .slice A6 n7 c8], .row A6 n7 c8 127 4 ((recs GPlace.cells) r4.1.Places), .blk b17 59 [.int .i64 r11.1.Events, .slice A13 n14 c15], .row A13 n14 c15 127 4 ((recs GPlace.cells) r11.1.Places)] := hs.ext hs1.below
                clear hs1
                refine sY hf hs rfl rfl rfl (Y_move rfl rfl) ?_; clear hf; intro a hf
                refine sY hf hs rfl rfl rfl (Y_extract rfl rfl rfl) ?_; clear hf; intro a hf
                refine sY hf hs rfl rfl rfl (Y_extract rfl rfl rfl) ?_; clear hf; intro a hf
                refine sAlloc hf hs rfl rfl rfl rfl ti75 ?_; clear hf hs; intro a w b1244 hs hf
                have hs : St [] W w [.blk b10 59 [.int .i64 r4.1.Events, .slice A6 n7 c8], .row A6 n7 c8 127 4 ((recs GPlace.cells) r4.1.Places), .blk b17 59 [.int .i64 r11.1.Events, .slice A13 n14 c15], .row A13 n14 c15 127 4 ((recs GPlace.cells) r11.1.Places), .blk b1244 75 [.int .i64 0, .int .i64 0]] := hs
                refine sStore (i := 4) (us := [.int .i64 r1242.1.Num, .int .i64 r1242.1.Den]) hf hs rfl rfl rfl rfl rfl rfl ti75 rfl rfl rfl (Nat.le_of_ble_eq_true rfl) rfl ?_; clear hs; intro w hs
                have hs : St [] W w [.blk b10 59 [.int .i64 r4.1.Events, .slice A6 n7 c8], .row A6 n7 c8 127 4 ((recs GPlace.cells) r4.1.Places), .blk b17 59 [.int .i64 r11.1.Events, .slice A13 n14 c15], .row A13 n14 c15 127 4 ((recs GPlace.cells) r11.1.Places), .blk b1244 75 [.int .i64 r1242.1.Num, .int .i64 r1242.1.Den]] := hs
                refine sY hf hs rfl rfl rfl (Y_assign rfl rfl) ?_; clear hf; intro a hf
                refine wpO_nil ?_
                refine wpL_seq ?_
                refine wpL_region ?_
                refine sY hf hs rfl rfl rfl (Y_load_blkS rfl rfl (i := 2) rfl ag59 ti59 rfl) ?_; clear hf; intro a hf
                obtain ⟨r1245, hc1246, hm⟩ := bind_some hm
                refine sCall hf rfl rfl rfl rfl (cap := []) rfl rfl en57 (impl_CycleTime_ok F (GEventGraph.mk r11.1.Events r11.1.Places) A13 n14 c15 hn16 _ _ hc1246 (hs.rd (i := 3) rfl)) ?_; clear hf
                rintro _ w ⟨rfl, hs1⟩ a hf
                have hs : St [] W w [.blk b10 59 [.int .i64 r4.1.Events, .slice A6 n7 c8], .row A6 n7 c8 127 4 ((recs GPlace.cells) r4.1.Places), .blk b17 59 [.int .i64 r11.1.Events, .slice A13 n14 c15], .row A13 n14 c15 127 4 ((recs GPlace.cells) r11.1.Places), .blk b1244 75 [.int .i64 r1242.1.Num, .int .i64 r1242.1.Den]] := hs.ext hs1.below
                clear hs1
                refine sY hf hs rfl rfl rfl (Y_move rfl rfl) ?_; clear hf; intro a hf
                refine sY hf hs rfl rfl rfl (Y_extract rfl rfl rfl) ?_; clear hf; intro a hf
                refine sY hf hs rfl rfl rfl (Y_extract rfl rfl rfl) ?_; clear hf; intro a hf
                refine sAlloc hf hs rfl rfl rfl rfl ti75 ?_; clear hf hs; intro a w b1247 hs hf
                have hs : St [] W w [.blk b10 59 [.int .i64 r4.1.Events, .slice A6 n7 c8], .row A6 n7 c8 127 4 ((recs GPlace.cells) r4.1.Places), .blk b17 59 [.int .i64 r11.1.Events, .slice A13 n14 c15], .row A13 n14 c15 127 4 ((recs GPlace.cells) r11.1.Places), .blk b1244 75 [.int .i64 r1242.1.Num, .int .i64 r1242.1.Den], .blk b1247 75 [.int .i64 0, .int .i64 0]] := hs
                refine sStore (i := 5) (us := [.int .i64 r1245.1.Num, .int .i64 r1245.1.Den]) hf hs rfl rfl rfl rfl rfl rfl ti75 rfl rfl rfl (Nat.le_of_ble_eq_true rfl) rfl ?_; clear hs; intro w hs
                have hs : St [] W w [.blk b10 59 [.int .i64 r4.1.Events, .slice A6 n7 c8], .row A6 n7 c8 127 4 ((recs GPlace.cells) r4.1.Places), .blk b17 59 [.int .i64 r11.1.Events, .slice A13 n14 c15], .row A13 n14 c15 127 4 ((recs GPlace.cells) r11.1.Places), .blk b1244 75 [.int .i64 r1242.1.Num, .int .i64 r1242.1.Den], .blk b1247 75 [.int .i64 r1245.1.Num, .int .i64 r1245.1.Den]] := hs
                refine sY hf hs rfl rfl rfl (Y_assign rfl rfl) ?_; clear hf; intro a hf
                refine wpO_nil ?_
                refine wpL_seq ?_
                obtain ⟨r1251, hj1252, hm⟩ := bind_some hm
                refine wpL_cut (fun a w => ∃ b1250 : Bool, b1250 = r1251 ∧ Fr a 144 [(2, .bool b1250)] ∧ St [] W w []) ?_ ?_
                · refine wpL_region ?_
                  refine sY hf hs rfl rfl rfl (Y_move rfl rfl) ?_; clear hf; intro a hf
                  refine sY hf hs rfl rfl rfl (Y_move rfl rfl) ?_; clear hf; intro a hf
                  refine sY hf hs rfl rfl rfl (Y_eql rfl rfl rfl) ?_; clear hf; intro a hf
                  refine sY hf hs rfl rfl rfl (Y_move rfl rfl) ?_; clear hf; intro a hf
                  refine bsplit (r1242.2 == r1245.2) (fun hb1253 => ?_) (fun hb1253 => ?_)
                  · have hj1252 := bif_t hj1252 hb1253
                    refine sYg hf hs rfl rfl rfl (congrArg (fun b => some (Value.bool b)) hb1253) rfl rfl rfl (Y_move rfl rfl) ?_; clear hf; intro a hf
                    refine sYg hf hs rfl rfl rfl (congrArg (fun b => some (Value.bool b)) hb1253) rfl rfl rfl (Y_neq rfl rfl rfl) ?_; clear hf; intro a hf
                    refine sYg hf hs rfl rfl rfl (congrArg (fun b => some (Value.bool b)) hb1253) rfl rfl rfl (Y_move rfl rfl) ?_; clear hf; intro a hf
                    refine bsplit (r1242.2 != 0) (fun hb1254 => ?_) (fun hb1254 => ?_)
                    · have hj1252 := bif_t hj1252 hb1254
                      refine sNo hf rfl rfl rfl (congrArg (fun b => some (Value.bool b)) hb1254) rfl rfl rfl ?_; clear hf; intro a hf
                      refine sNo hf rfl rfl rfl (congrArg (fun b => some (Value.bool b)) hb1254) rfl rfl rfl ?_; clear hf; intro a hf
                      refine sNo hf rfl rfl rfl (congrArg (fun b => some (Value.bool b)) hb1254) rfl rfl rfl ?_; clear hf; intro a hf
                      refine sNo hf rfl rfl rfl (congrArg (fun b => some (Value.bool b)) hb1254) rfl rfl rfl ?_; clear hf; intro a hf
                      refine sNo hf rfl rfl rfl (congrArg (fun b => some (Value.bool b)) hb1254) rfl rfl rfl ?_; clear hf; intro a hf
                      refine sNo hf rfl rfl rfl (congrArg (fun b => some (Value.bool b)) hb1254) rfl rfl rfl ?_; clear hf; intro a hf
                      refine sNo hf rfl rfl rfl (congrArg (fun b => some (Value.bool b)) hb1254) rfl rfl rfl ?_; clear hf; intro a hf
                      refine sNo hf rfl rfl rfl (congrArg (fun b => some (Value.bool b)) hb1254) rfl rfl rfl ?_; clear hf; intro a hf
                      refine sNo hf rfl rfl rfl (congrArg (fun b => some (Value.bool b)) hb1254) rfl rfl rfl ?_; clear hf; intro a hf
                      refine sNo hf rfl rfl rfl (congrArg (fun b => some (Value.bool b)) hb1254) rfl rfl rfl ?_; clear hf; intro a hf
                      refine sNo hf rfl rfl rfl (congrArg (fun b => some (Value.bool b)) hb1254) rfl rfl rfl ?_; clear hf; intro a hf
                      refine sNo hf rfl rfl rfl (congrArg (fun b => some (Value.bool b)) hb1254) rfl rfl rfl ?_; clear hf; intro a hf
                      refine sNo hf rfl rfl rfl (congrArg (fun b => some (Value.bool b)) hb1254) rfl rfl rfl ?_; clear hf; intro a hf
                      refine sYg hf hs rfl rfl rfl (congrArg (fun b => some (Value.bool b)) hb1253) rfl rfl rfl (Y_pickT rfl (congrArg (fun b => some (Value.bool b)) hb1254) rfl) ?_; clear hf; intro a hf
                      refine sY hf hs rfl rfl rfl (Y_pickT rfl (congrArg (fun b => some (Value.bool b)) hb1253) rfl) ?_; clear hf; intro a hf
                      refine sY hf hs rfl rfl rfl (Y_assign rfl rfl) ?_; clear hf; intro a hf
                      refine wpO_nil ?_
                      refine wpL_nil (then_normal ?_)
                      exact ⟨true, Option.some.inj hj1252, (FrD.pick hf.none hf rfl), hs.sel [] (by decide)⟩
                    · have hj1252 := bif_f hj1252 hb1254
                      refine sYg hf hs rfl rfl rfl (congrArg (fun b => some (Value.bool b)) hb1254) rfl rfl rfl (Y_fieldAddr rfl rfl fo75_0) ?_; clear hf; intro a hf
                      refine sYg hf hs rfl rfl rfl (congrArg (fun b => some (Value.bool b)) hb1254) rfl rfl rfl (Y_load_blk rfl rfl (i := 5) rfl rfl ag2) ?_; clear hf; intro a hf
                      refine sYg hf hs rfl rfl rfl (congrArg (fun b => some (Value.bool b)) hb1254) rfl rfl rfl (Y_fieldAddr rfl rfl fo75_1) ?_; clear hf; intro a hf
                      refine sYg hf hs rfl rfl rfl (congrArg (fun b => some (Value.bool b)) hb1254) rfl rfl rfl (Y_load_blk rfl rfl (i := 4) rfl rfl ag2) ?_; clear hf; intro a hf
                      refine sYg hf hs rfl rfl rfl (congrArg (fun b => some (Value.bool b)) hb1254) rfl rfl rfl (Y_mul rfl rfl rfl) ?_; clear hf; intro a hf
                      refine sYg hf hs rfl rfl rfl (congrArg (fun b => some (Value.bool b)) hb1254) rfl rfl rfl (Y_move rfl rfl) ?_; clear hf; intro a hf
                      refine sYg hf hs rfl rfl rfl (congrArg (fun b => some (Value.bool b)) hb1254) rfl rfl rfl (Y_fieldAddr rfl rfl fo75_0) ?_; clear hf; intro a hf
                      refine sYg hf hs rfl rfl rfl (congrArg (fun b => some (Value.bool b)) hb1254) rfl rfl rfl (Y_load_blk rfl rfl (i := 4) rfl rfl ag2) ?_; clear hf; intro a hf
                      refine sYg hf hs rfl rfl rfl (congrArg (fun b => some (Value.bool b)) hb1254) rfl rfl rfl (Y_mul rfl rfl rfl) ?_; clear hf; intro a hf
                      refine sYg hf hs rfl rfl rfl (congrArg (fun b => some (Value.bool b)) hb1254) rfl rfl rfl (Y_fieldAddr rfl rfl fo75_1) ?_; clear hf; intro a hf
                      refine sYg hf hs rfl rfl rfl (congrArg (fun b => some (Value.bool b)) hb1254) rfl rfl rfl (Y_load_blk rfl rfl (i := 5) rfl rfl ag2) ?_; clear hf; intro a hf
                      refine sYg hf hs rfl rfl rfl (congrArg (fun b => some (Value.bool b)) hb1254) rfl rfl rfl (Y_mul rfl rfl rfl) ?_; clear hf; intro a hf
                      refine sYg hf hs rfl rfl rfl (congrArg (fun b => some (Value.bool b)) hb1254) rfl rfl rfl (Y_eql rfl rfl rfl) ?_; clear hf; intro a hf
                      refine sYg hf hs rfl rfl rfl (congrArg (fun b => some (Value.bool b)) hb1253) rfl rfl rfl (Y_pickF rfl (congrArg (fun b => some (Value.bool b)) hb1254) rfl) ?_; clear hf; intro a hf
                      refine sY hf hs rfl rfl rfl (Y_pickT rfl (congrArg (fun b => some (Value.bool b)) hb1253) rfl) ?_; clear hf; intro a hf
                      refine sY hf hs rfl rfl rfl (Y_assign rfl rfl) ?_; clear hf; intro a hf
                      refine wpO_nil ?_
                      refine wpL_nil (then_normal ?_)
                      exact ⟨((IntKind.i64.wrap (r1245.1.Num * r1242.1.Den)) == (IntKind.i64.wrap ((IntKind.i64.wrap (r4.2 * r1242.1.Num)) * r1245.1.Den))), Option.some.inj hj1252, (FrD.pick hf.none hf rfl), hs.sel [] (by decide)⟩
                  · have hj1252 := bif_f hj1252 hb1253
                    refine sNo hf rfl rfl rfl (congrArg (fun b => some (Value.bool b)) hb1253) rfl rfl rfl ?_; clear hf; intro a hf
                    refine sNo hf rfl rfl rfl (congrArg (fun b => some (Value.bool b)) hb1253) rfl rfl rfl ?_; clear hf; intro a hf
                    refine sNo hf rfl rfl rfl (congrArg (fun b => some (Value.bool b)) hb1253) rfl rfl rfl ?_; clear hf; intro a hf
                    refine sNoU hf rfl rfl rfl rfl rfl rfl rfl ?_; clear hf; intro a hf
                    refine sNoU hf rfl rfl rfl rfl rfl rfl rfl ?_; clear hf; intro a hf
                    refine sNoU hf rfl rfl rfl rfl rfl rfl rfl ?_; clear hf; intro a hf
                    refine sNoU hf rfl rfl rfl rfl rfl rfl rfl ?_; clear hf; intro a hf
                    refine sNoU hf rfl rfl rfl rfl rfl rfl rfl ?_; clear hf; intro a hf
                    refine sNoU hf rfl rfl rfl rfl rfl rfl rfl ?_; clear hf; intro a hf
                    refine sNoU hf rfl rfl rfl rfl rfl rfl rfl ?_; clear hf; intro a hf
                    refine sNoU hf rfl rfl rfl rfl rfl rfl rfl ?_; clear hf; intro a hf
                    refine sNoU hf rfl rfl rfl rfl rfl rfl rfl ?_; clear hf; intro a hf
                    refine sNoU hf rfl rfl rfl rfl rfl rfl rfl ?_; clear hf; intro a hf
                    refine sNoU hf rfl rfl rfl rfl rfl rfl rfl ?_; clear hf; intro a hf
                    refine sNoU hf rfl rfl rfl rfl rfl rfl rfl ?_; clear hf; intro a hf
                    refine sNoU hf rfl rfl rfl rfl rfl rfl rfl ?_; clear hf; intro a hf
                    refine sNo hf rfl rfl rfl (congrArg (fun b => some (Value.bool b)) hb1253) rfl rfl rfl ?_; clear hf; intro a hf
                    refine sY hf hs rfl rfl rfl (Y_pickF rfl (congrArg (fun b => some (Value.bool b)) hb1253) rfl) ?_; clear hf; intro a hf
                    refine sY hf hs rfl rfl rfl (Y_assign rfl rfl) ?_; clear hf; intro a hf
                    refine wpO_nil ?_
                    refine wpL_nil (then_normal ?_)
                    exact ⟨false, Option.some.inj hj1252, (FrD.pick hf.none hf rfl), hs.sel [] (by decide)⟩
                · rintro a w ⟨b1250, hr_, hf, hs⟩
                  subst hr_
                  try dsimp only at hm
                  obtain rfl := Option.some.inj hm
                  refine wpL_ret (ret_tmp rfl hf rfl ?_)
                  exact ⟨_, rfl, rfl, hs⟩

end Go.Proofs.Ytgkgimglgjfcjaa
