/- Plain models of the functions. -/
import Derived.Test.YtmijmamolmoheaaLiftH
namespace Go.Proofs.Ytmijmamolmoheaa

structure LPlace where
  From : Int
  To : Int
  Delay : Int
  Tokens : Int

structure LEventGraph where
  Events : Int
  Places : List LPlace

structure GPlace where
  From : Int
  To : Int
  Delay : Int
  Tokens : Int

structure GEventGraph where
  Events : Int
  Places : List GPlace

def laws_szPlaceS (_F : Nat) (p0_a : List LPlace) (p1_left : Int) : Option (Int) :=
  (bif (decide ((IntKind.i64.wrap (p1_left - (p0_a.length : Int))) < 0)) then some (-1) else some (IntKind.i64.wrap (p1_left - (p0_a.length : Int))))

def laws_szEventGraph (F : Nat) (p0_a : LEventGraph) (p1_left : Int) : Option (Int) :=
  ((laws_szPlaceS F p0_a.Places p1_left).bind fun r2 => (bif (decide (r2 < 0)) then some (-1) else some r2))

def laws_toPlace (_F : Nat) (p0_a : LPlace) : Option (GPlace) :=
  some (GPlace.mk p0_a.From p0_a.To p0_a.Delay p0_a.Tokens)

def laws_toPlaceS_L1 (F : Nat) (p0_a : List LPlace) : Nat → (List GPlace) → Int → Option (List GPlace)
  | 0, _, _ => none
  | n42 + 1, xs25, x27 => (bif (decide (x27 < (p0_a.length : Int))) then ((idx p0_a x27).bind fun q44 => ((laws_toPlace F q44).bind fun r46 => ((idx xs25 x27).bind fun _q48 => ((upd xs25 x27 r46).bind fun xs50 => (laws_toPlaceS_L1 F p0_a n42 xs50 (IntKind.i64.wrap (x27 + 1))))))) else some xs25)

def laws_toPlaceS (F : Nat) (p0_a : List LPlace) : Option (List GPlace) :=
  ((mk (p0_a.length : Int) ((GPlace.mk 0 0 0 0) : GPlace)).bind fun xs3 => (Option.bind (laws_toPlaceS_L1 F p0_a F xs3 0) fun xs37 => some xs37))

def laws_toEventGraph (F : Nat) (p0_a : LEventGraph) : Option (GEventGraph) :=
  ((laws_toPlaceS F p0_a.Places).bind fun r4 => some (GEventGraph.mk p0_a.Events r4))

def spec_l01In (_F : Nat) (p0_n : Int) (p1_low : Int) (p2_high : Int) : Option (Bool) :=
  (Option.bind ((bif (decide (p1_low ≤ p0_n)) then some (decide (p0_n ≤ p2_high)) else some false) : Option (Bool)) fun b2 => some b2)

def spec_l11Place (F : Nat) (p0_p : GPlace) (p1_events : Int) : Option (Bool) :=
  (Option.bind (((spec_l01In F p0_p.From 0 (IntKind.i64.wrap (p1_events - 1))).bind fun r16 => (bif r16 then ((spec_l01In F p0_p.To 0 (IntKind.i64.wrap (p1_events - 1))).bind fun r19 => (bif r19 then ((spec_l01In F p0_p.Delay 0 1000).bind fun r22 => (bif r22 then ((spec_l01In F p0_p.Tokens 0 5).bind fun r25 => some r25) else some false)) else some false)) else some false)) : Option (Bool)) fun b13 => some b13)

def spec_IsEventGraph_L1 (F : Nat) (p0_g : GEventGraph) : Nat → Int → Option (Sum Bool (Unit))
  | 0, _ => none
  | n25 + 1, x15 => (bif (decide (x15 < (p0_g.Places.length : Int))) then ((idx p0_g.Places x15).bind fun q27 => ((spec_l11Place F q27 p0_g.Events).bind fun r29 => (bif (!r29) then some (Sum.inl false) else (spec_IsEventGraph_L1 F p0_g n25 (IntKind.i64.wrap (x15 + 1)))))) else some (Sum.inr ()))

def spec_IsEventGraph (F : Nat) (p0_g : GEventGraph) : Option (Bool) :=
  (Option.bind (spec_IsEventGraph_L1 F p0_g F 0) fun r22 => match r22 with | .inl x_ => some x_ | .inr _ => (Option.bind (((spec_l01In F p0_g.Events 1 10).bind fun r38 => (bif r38 then some (decide ((p0_g.Places.length : Int) ≤ 30)) else some false)) : Option (Bool)) fun b35 => some b35))

def spec_l02Bottom_L5 (F : Nat) (p1_n : Int) : Nat → (List Int) → Int → Option (List Int)
  | 0, _, _ => none
  | n252 + 1, xs231, x236 => (bif (decide (x236 < p1_n)) then ((app xs231 ([(-1000000000000000)])).bind fun xs258 => (spec_l02Bottom_L5 F p1_n n252 xs258 (IntKind.i64.wrap (x236 + 1)))) else some xs231)

def spec_l02Bottom_L4 (F : Nat) (p0_m : Int) (p1_n : Int) : Nat → (List (List Int)) → Int → Option (List (List Int))
  | 0, _, _ => none
  | n207 + 1, ms131, x137 => (bif (decide (x137 < p0_m)) then (Option.bind (spec_l02Bottom_L5 F p1_n F ([] : List Int) 0) fun xs244 => ((app ms131 ([xs244])).bind fun ms264 => (spec_l02Bottom_L4 F p0_m p1_n n207 ms264 (IntKind.i64.wrap (x137 + 1))))) else some ms131)

def spec_l02Bottom (F : Nat) (p0_m : Int) (p1_n : Int) : Option (List (List Int)) :=
  (Option.bind (spec_l02Bottom_L4 F p0_m p1_n F [] 0) fun ms198 => some ms198)

def spec_l12Free_L1 (F : Nat) (p0_g : GEventGraph) : Nat → (List (List Int)) → Int → Option (List (List Int))
  | 0, _, _ => none
  | n83 + 1, ms54, x56 => (bif (decide (x56 < (p0_g.Places.length : Int))) then ((idx p0_g.Places x56).bind fun q85 => (bif (q85.Tokens == 0) then ((idx p0_g.Places x56).bind fun q88 => ((idx ms54 q88.To).bind fun q90 => ((idx p0_g.Places x56).bind fun q95 => ((idx q90 q95.From).bind fun _q97 => ((upd q90 q95.From 0).bind fun xs99 => ((upd ms54 q88.To xs99).bind fun ms100 => (spec_l12Free_L1 F p0_g n83 ms100 (IntKind.i64.wrap (x56 + 1))))))))) else (spec_l12Free_L1 F p0_g n83 ms54 (IntKind.i64.wrap (x56 + 1))))) else some ms54)

def spec_l12Free (F : Nat) (p0_g : GEventGraph) : Option (List (List Int)) :=
  ((spec_l02Bottom F p0_g.Events p0_g.Events).bind fun r2 => (Option.bind (spec_l12Free_L1 F p0_g F r2 0) fun ms78 => some ms78))

def spec_l01Has_L1 (F : Nat) (p0_list : List Int) (p1_x : Int) : Nat → Int → Option (Sum Bool (Unit))
  | 0, _ => none
  | n18 + 1, x10 => (bif (decide (x10 < (p0_list.length : Int))) then ((idx p0_list x10).bind fun q20 => (bif (q20 == p1_x) then some (Sum.inl true) else (spec_l01Has_L1 F p0_list p1_x n18 (IntKind.i64.wrap (x10 + 1))))) else some (Sum.inr ()))

def spec_l01Has (F : Nat) (p0_list : List Int) (p1_x : Int) : Option (Bool) :=
  (Option.bind (spec_l01Has_L1 F p0_list p1_x F 0) fun r15 => match r15 with | .inl x_ => some x_ | .inr _ => some false)

def spec_l01Own (_F : Nat) (p0_list : List Int) : Option (List Int) :=
  ((app ([] : List Int) p0_list).bind fun xs5 => some xs5)

def spec_l03Grow_L1 (F : Nat) (p0 : List (List Int)) (p1 : List Int) (p2 : Int) (p3 : Int) (q3 : Int) (rec_ : (List (List Int)) → (List Int) → Int → Int → Option (List Int)) : Nat → Int → Option (Sum (List Int) (Unit))
  | 0, _ => none
  | n1402 + 1, x951 => (bif (decide (x951 < (p0.length : Int))) then (Option.bind ((Option.bind (((idx p0 x951).bind fun q1645 => ((idx q1645 q3).bind fun q1654 => (bif (q1654 == (-1000000000000000)) then some true else ((spec_l01Has F p1 x951).bind fun r1657 => some r1657)))) : Option (Bool)) fun b1642 => (bif b1642 then some (Sum.inr ()) else (Option.bind (((idx p0 x951).bind fun q1792 => ((idx q1792 q3).bind fun q1801 => ((spec_l01Own F p1).bind fun r1803 => ((app r1803 ([x951])).bind fun xs1813 => ((rec_ p0 xs1813 (IntKind.i64.wrap (p2 + q1801)) p3).bind fun r1815 => some r1815))))) : Option (List Int)) fun xs1751 => (bif (decide (0 < (xs1751.length : Int))) then some (Sum.inl xs1751) else some (Sum.inr ()))))) : Option (Sum (List Int) (Unit))) fun r1626 => match r1626 with | .inl x_ => some (Sum.inl x_) | .inr _ => (spec_l03Grow_L1 F p0 p1 p2 p3 q3 rec_ n1402 (IntKind.i64.wrap (x951 + 1)))) else some (Sum.inr ()))

def spec_l03Grow_rec (F : Nat) : Nat → (List (List Int)) → (List Int) → Int → Int → Option (List Int)
  | 0, _, _, _, _ => none
  | k_ + 1, p0, p1, p2, p3 => ((idx p1 0).bind fun q1 => ((idx p1 (IntKind.i64.wrap ((p1.length : Int) - 1))).bind fun q3 => (Option.bind (((idx p0 q1).bind fun q31 => ((idx q31 q3).bind fun q40 => (bif (q40 != (-1000000000000000)) then ((idx p0 q1).bind fun q43 => ((idx q43 q3).bind fun q52 => some (decide (p3 < (IntKind.i64.wrap (p2 + q52)))))) else some false))) : Option (Bool)) fun b28 => (bif b28 then some p1 else (Option.bind (spec_l03Grow_L1 F p0 p1 p2 p3 q3 (spec_l03Grow_rec F k_) F (IntKind.i64.wrap (q1 + 1))) fun r1399 => match r1399 with | .inl x_ => some x_ | .inr _ => some ([] : List Int))))))

def spec_l03Grow (F : Nat) (p0 : List (List Int)) (p1 : List Int) (p2 : Int) (p3 : Int) : Option (List Int) := spec_l03Grow_rec F F p0 p1 p2 p3

def spec_l03Over_L1 (F : Nat) (p0_a : List (List Int)) (p1_over : Int) : Nat → Int → Option (Sum (List Int) (Unit))
  | 0, _ => none
  | n51 + 1, x32 => (bif (decide (x32 < (p0_a.length : Int))) then ((spec_l03Grow F p0_a ([x32]) 0 p1_over).bind fun r55 => (bif (decide (0 < (r55.length : Int))) then some (Sum.inl r55) else (spec_l03Over_L1 F p0_a p1_over n51 (IntKind.i64.wrap (x32 + 1))))) else some (Sum.inr ()))

def spec_l03Over (F : Nat) (p0_a : List (List Int)) (p1_over : Int) : Option (List Int) :=
  (Option.bind (spec_l03Over_L1 F p0_a p1_over F 0) fun r48 => match r48 with | .inl x_ => some x_ | .inr _ => some ([] : List Int))

def spec_l12Dead (F : Nat) (p0_g : GEventGraph) : Option (List Int) :=
  ((spec_l12Free F p0_g).bind fun r2 => ((spec_l03Over F r2 (-1)).bind fun r9 => some r9))

def spec_DeadCycle (F : Nat) (p0_g : GEventGraph) : Option (List Int × Int) :=
  ((spec_IsEventGraph F p0_g).bind fun r2 => (bif (!r2) then some (([] : List Int), 1) else ((spec_l12Dead F p0_g).bind fun r6 => (bif ((r6.length : Int) == 0) then some (([] : List Int), 4) else some (r6, 0)))))

def impl_within (_F : Nat) (p0_n : Int) (p1_low : Int) (p2_high : Int) : Option (Bool) :=
  (Option.bind ((bif (decide (p1_low ≤ p0_n)) then some (decide (p0_n ≤ p2_high)) else some false) : Option (Bool)) fun b2 => some b2)

def impl_isEvent (F : Nat) (p0_g : GEventGraph) (p1_event : Int) : Option (Bool) :=
  ((impl_within F p1_event 0 (IntKind.i64.wrap (p0_g.Events - 1))).bind fun r2 => some r2)

def impl_isPlace (F : Nat) (p0_g : GEventGraph) (p1_p : GPlace) : Option (Bool) :=
  (Option.bind (((impl_isEvent F p0_g p1_p.From).bind fun r17 => (bif r17 then ((impl_isEvent F p0_g p1_p.To).bind fun r20 => (bif r20 then ((impl_within F p1_p.Delay 0 1000).bind fun r23 => (bif r23 then ((impl_within F p1_p.Tokens 0 5).bind fun r26 => some r26) else some false)) else some false)) else some false)) : Option (Bool)) fun b14 => some b14)

def impl_IsEventGraph_c1 (F : Nat) (p0_p : GPlace) (z0 : GEventGraph) : Option (Bool) :=
  ((impl_isPlace F z0 p0_p).bind fun r2 => some (!r2))

def slices_IndexFunc_Place_L1 (F : Nat) (p0_s : List GPlace) (m_p1_f : GPlace → Option Bool) : Nat → Int → Option (Sum Int (Unit))
  | 0, _ => none
  | n24 + 1, x14 => (bif (decide (x14 < (p0_s.length : Int))) then ((idx p0_s x14).bind fun q26 => ((m_p1_f q26).bind fun r28 => (bif r28 then some (Sum.inl x14) else (slices_IndexFunc_Place_L1 F p0_s m_p1_f n24 (IntKind.i64.wrap (x14 + 1)))))) else some (Sum.inr ()))

def slices_IndexFunc_Place (F : Nat) (p0_s : List GPlace) (m_p1_f : GPlace → Option Bool) : Option (Int) :=
  (Option.bind (slices_IndexFunc_Place_L1 F p0_s m_p1_f F 0) fun r21 => match r21 with | .inl x_ => some x_ | .inr _ => some (-1))

def slices_ContainsFunc_Place (F : Nat) (p0_s : List GPlace) (m_p1_f : GPlace → Option Bool) : Option (Bool) :=
  ((slices_IndexFunc_Place F p0_s m_p1_f).bind fun r1 => some (decide (0 ≤ r1)))

def impl_IsEventGraph (F : Nat) (p0_g : GEventGraph) : Option (Bool) :=
  (Option.bind (((impl_within F p0_g.Events 1 10).bind fun r11 => (bif r11 then (bif (decide ((p0_g.Places.length : Int) ≤ 30)) then ((slices_ContainsFunc_Place F p0_g.Places (fun x0 => impl_IsEventGraph_c1 F x0 p0_g)).bind fun r15 => some (!r15)) else some false) else some false)) : Option (Bool)) fun b8 => some b8)

def impl_matrixBy_L5 (F : Nat) (m_p2_entry : Int → Int → Option Int) (x324 : Int) (q500 : List Int) : Nat → (List (List Int)) → Int → Option (List (List Int))
  | 0, _, _ => none
  | n609 + 1, ms570, x572 => (bif (decide (x572 < (q500.length : Int))) then ((idx ms570 x324).bind fun q626 => ((m_p2_entry x324 x572).bind fun r631 => ((idx q626 x572).bind fun _q633 => ((upd q626 x572 r631).bind fun xs635 => ((upd ms570 x324 xs635).bind fun ms636 => (impl_matrixBy_L5 F m_p2_entry x324 q500 n609 ms636 (IntKind.i64.wrap (x572 + 1)))))))) else some ms570)

def impl_matrixBy_L4 (F : Nat) (p1_n : Int) (m_p2_entry : Int → Int → Option Int) (ms3 : List (List Int)) : Nat → (List (List Int)) → Int → Option (List (List Int))
  | 0, _, _ => none
  | n487 + 1, ms318, x324 => (bif (decide (x324 < (ms3.length : Int))) then ((mk p1_n (0 : Int)).bind fun xs491 => ((idx ms318 x324).bind fun _q492 => ((upd ms318 x324 xs491).bind fun ms497 => ((idx ms497 x324).bind fun q500 => (Option.bind (impl_matrixBy_L5 F m_p2_entry x324 q500 F ms497 0) fun ms604 => (impl_matrixBy_L4 F p1_n m_p2_entry ms3 n487 ms604 (IntKind.i64.wrap (x324 + 1)))))))) else some ms318)

def impl_matrixBy (F : Nat) (p0_m : Int) (p1_n : Int) (m_p2_entry : Int → Int → Option Int) : Option (List (List Int)) :=
  ((mk p0_m ([] : List Int)).bind fun ms3 => (Option.bind (impl_matrixBy_L4 F p1_n m_p2_entry ms3 F ms3 0) fun ms478 => some ms478))

def impl_bottomMatrix_c1 (_F : Nat) (_p0 : Int) (_p1 : Int) : Option (Int) :=
  some (-1000000000000000)

def impl_bottomMatrix (F : Nat) (p0_m : Int) (p1_n : Int) : Option (List (List Int)) :=
  ((impl_matrixBy F p0_m p1_n (fun x0 x1 => impl_bottomMatrix_c1 F x0 x1)).bind fun r1 => some r1)

def impl_delayMatrix_L1 (F : Nat) (p0_g : GEventGraph) (p1_m : Int) : Nat → (List (List Int)) → Int → Option (List (List Int))
  | 0, _, _ => none
  | n95 + 1, ms62, x64 => (bif (decide (x64 < (p0_g.Places.length : Int))) then ((idx p0_g.Places x64).bind fun q97 => (bif (q97.Tokens == p1_m) then ((idx ms62 q97.To).bind fun q101 => ((idx ms62 q97.To).bind fun q106 => ((idx q106 q97.From).bind fun q111 => ((idx q101 q97.From).bind fun _q113 => ((upd q101 q97.From (max q111 q97.Delay)).bind fun xs115 => ((upd ms62 q97.To xs115).bind fun ms116 => (impl_delayMatrix_L1 F p0_g p1_m n95 ms116 (IntKind.i64.wrap (x64 + 1))))))))) else (impl_delayMatrix_L1 F p0_g p1_m n95 ms62 (IntKind.i64.wrap (x64 + 1))))) else some ms62)

def impl_delayMatrix (F : Nat) (p0_g : GEventGraph) (p1_m : Int) : Option (List (List Int)) :=
  ((impl_bottomMatrix F p0_g.Events p0_g.Events).bind fun r2 => (Option.bind (impl_delayMatrix_L1 F p0_g p1_m F r2 0) fun ms90 => some ms90))

def impl_cycleSearch_goOn_L1 (F : Nat) (p0_matrix : List (List Int)) (m_p0_wanted : (List Int) → Int → Option Bool) (p1 : Int) (q3 : Int) (rec_ : (List (List Int)) → ((List Int) → Int → Option Bool) → (List Int) → (List Bool) → Int → Option ((Bool) × (List Int) × (List Bool))) : Nat → (List Int) → (List Bool) → Int → Option (Sum ((Bool) × (List Int) × (List Bool)) ((List Int) × (List Bool)))
  | 0, _, _, _ => none
  | n388 + 1, xs255, xs260, x265 => (bif (decide (x265 < (p0_matrix.length : Int))) then (Option.bind (((idx p0_matrix x265).bind fun q450 => ((idx q450 q3).bind fun q459 => (Option.bind ((bif (q459 == (-1000000000000000)) then some true else ((idx xs260 x265).bind fun q468 => some q468)) : Option (Bool)) fun b464 => (bif b464 then some (Sum.inr (xs255, xs260)) else ((idx xs260 x265).bind fun _q471 => ((upd xs260 x265 true).bind fun xs473 => ((app xs255 ([x265])).bind fun xs479 => ((rec_ p0_matrix m_p0_wanted xs479 xs473 (IntKind.i64.wrap (p1 + q459))).bind fun r481 => (bif r481.1 then some (Sum.inl (true, r481.2.1, r481.2.2)) else ((cutTo r481.2.1 (IntKind.i64.wrap ((r481.2.1.length : Int) - 1))).bind fun xs493 => ((idx r481.2.2 x265).bind fun _q494 => ((upd r481.2.2 x265 false).bind fun xs496 => some (Sum.inr (xs493, xs496)))))))))))))) : Option (Sum ((Bool) × (List Int) × (List Bool)) ((List Int) × (List Bool)))) fun r448 => match r448 with | .inl x_ => some (Sum.inl x_) | .inr (xs438, xs443) => (impl_cycleSearch_goOn_L1 F p0_matrix m_p0_wanted p1 q3 rec_ n388 xs438 xs443 (IntKind.i64.wrap (x265 + 1)))) else some (Sum.inr (xs255, xs260)))

def impl_cycleSearch_goOn_rec (F : Nat) : Nat → (List (List Int)) → ((List Int) → Int → Option Bool) → (List Int) → (List Bool) → Int → Option ((Bool) × (List Int) × (List Bool))
  | 0, _, _, _, _, _ => none
  | k_ + 1, p0_matrix, m_p0_wanted, p0_path, p0_used, p1 => ((idx p0_path 0).bind fun q1 => ((idx p0_path (IntKind.i64.wrap ((p0_path.length : Int) - 1))).bind fun q3 => ((idx p0_matrix q1).bind fun q5 => ((idx q5 q3).bind fun q14 => (Option.bind ((bif (q14 != (-1000000000000000)) then ((m_p0_wanted p0_path (IntKind.i64.wrap (p1 + q14))).bind fun r23 => some r23) else some false) : Option (Bool)) fun b19 => (bif b19 then some (true, p0_path, p0_used) else (Option.bind (impl_cycleSearch_goOn_L1 F p0_matrix m_p0_wanted p1 q3 (impl_cycleSearch_goOn_rec F k_) F p0_path p0_used (IntKind.i64.wrap (q1 + 1))) fun r385 => match r385 with | .inl x_ => some x_ | .inr (xs375, xs380) => some (false, xs375, xs380))))))))

def impl_cycleSearch_goOn (F : Nat) (p0_matrix : List (List Int)) (m_p0_wanted : (List Int) → Int → Option Bool) (p0_path : List Int) (p0_used : List Bool) (p1 : Int) : Option ((Bool) × (List Int) × (List Bool)) := impl_cycleSearch_goOn_rec F F p0_matrix m_p0_wanted p0_path p0_used p1

def impl_firstCycle_L1 (F : Nat) (p0_a : List (List Int)) (m_p1_wanted : (List Int) → Int → Option Bool) : Nat → Int → Option (Sum (List Int) (Unit))
  | 0, _ => none
  | n60 + 1, x38 => (bif (decide (x38 < (p0_a.length : Int))) then ((mk (p0_a.length : Int) (false : Bool)).bind fun xs66 => ((impl_cycleSearch_goOn F p0_a m_p1_wanted ([x38]) xs66 0).bind fun r68 => (bif r68.1 then ((nonE r68.2.1).bind fun _ => some (Sum.inl r68.2.1)) else (impl_firstCycle_L1 F p0_a m_p1_wanted n60 (IntKind.i64.wrap (x38 + 1)))))) else some (Sum.inr ()))

def impl_firstCycle (F : Nat) (p0_a : List (List Int)) (m_p1_wanted : (List Int) → Int → Option Bool) : Option (List Int) :=
  (Option.bind (impl_firstCycle_L1 F p0_a m_p1_wanted F 0) fun r57 => match r57 with | .inl x_ => some x_ | .inr _ => some ([] : List Int))

def impl_DeadCycle_c1 (_F : Nat) (_p0 : List Int) (_p1 : Int) : Option (Bool) :=
  some true

def impl_DeadCycle (F : Nat) (p0_g : GEventGraph) : Option (List Int × Int) :=
  ((impl_IsEventGraph F p0_g).bind fun r2 => (bif (!r2) then some (([] : List Int), 1) else ((impl_delayMatrix F p0_g 0).bind fun r6 => ((impl_firstCycle F r6 (fun x0 x1 => impl_DeadCycle_c1 F x0 x1)).bind fun r13 => (bif r13.isEmpty then some (([] : List Int), 4) else some (r13, 0))))))

def laws_eqInt64S_L1 (F : Nat) (p0_a : List Int) (p1_b : List Int) : Nat → Int → Option (Sum Bool (Unit))
  | 0, _ => none
  | n25 + 1, x15 => (bif (decide (x15 < (p0_a.length : Int))) then ((idx p0_a x15).bind fun q27 => ((idx p1_b x15).bind fun q29 => (bif (q27 != q29) then some (Sum.inl false) else (laws_eqInt64S_L1 F p0_a p1_b n25 (IntKind.i64.wrap (x15 + 1)))))) else some (Sum.inr ()))

def laws_eqInt64S (F : Nat) (p0_a : List Int) (p1_b : List Int) : Option (Bool) :=
  (bif ((p0_a.length : Int) != (p1_b.length : Int)) then some false else (Option.bind (laws_eqInt64S_L1 F p0_a p1_b F 0) fun r22 => match r22 with | .inl x_ => some x_ | .inr _ => some true))

def laws_eqPlace (_F : Nat) (p0_a : GPlace) (p1_b : GPlace) : Option (Bool) :=
  (bif (p0_a.From != p1_b.From) then some false else (bif (p0_a.To != p1_b.To) then some false else (bif (p0_a.Delay != p1_b.Delay) then some false else (bif (p0_a.Tokens != p1_b.Tokens) then some false else some true))))

def laws_eqPlaceS_L1 (F : Nat) (p0_a : List GPlace) (p1_b : List GPlace) : Nat → Int → Option (Sum Bool (Unit))
  | 0, _ => none
  | n31 + 1, x19 => (bif (decide (x19 < (p0_a.length : Int))) then ((idx p0_a x19).bind fun q33 => ((idx p1_b x19).bind fun q35 => ((laws_eqPlace F q33 q35).bind fun r37 => (bif (!r37) then some (Sum.inl false) else (laws_eqPlaceS_L1 F p0_a p1_b n31 (IntKind.i64.wrap (x19 + 1))))))) else some (Sum.inr ()))

def laws_eqPlaceS (F : Nat) (p0_a : List GPlace) (p1_b : List GPlace) : Option (Bool) :=
  (bif ((p0_a.length : Int) != (p1_b.length : Int)) then some false else (Option.bind (laws_eqPlaceS_L1 F p0_a p1_b F 0) fun r28 => match r28 with | .inl x_ => some x_ | .inr _ => some true))

def laws_eqEventGraph (F : Nat) (p0_a : GEventGraph) (p1_b : GEventGraph) : Option (Bool) :=
  (bif (p0_a.Events != p1_b.Events) then some false else ((laws_eqPlaceS F p0_a.Places p1_b.Places).bind fun r4 => (bif (!r4) then some false else some true)))

def laws_markPlaceS_L1 (F : Nat) : Nat → (List GPlace) → Int → Int → Option ((List GPlace) × Int)
  | 0, _, _, _ => none
  | n66 + 1, xs39, x41, x42 => (bif (decide (x42 < (xs39.length : Int))) then ((idx xs39 x42).bind fun q68 => ((upd xs39 x42 (GPlace.mk x41 q68.To q68.Delay q68.Tokens)).bind fun xs70 => ((idx xs70 x42).bind fun q72 => ((upd xs70 x42 (GPlace.mk q72.From (IntKind.i64.wrap (x41 + 1)) q72.Delay q72.Tokens)).bind fun xs74 => ((idx xs74 x42).bind fun q76 => ((upd xs74 x42 (GPlace.mk q76.From q76.To (IntKind.i64.wrap ((IntKind.i64.wrap (x41 + 1)) + 1)) q76.Tokens)).bind fun xs78 => ((idx xs78 x42).bind fun q80 => ((upd xs78 x42 (GPlace.mk q80.From q80.To q80.Delay (IntKind.i64.wrap ((IntKind.i64.wrap ((IntKind.i64.wrap (x41 + 1)) + 1)) + 1)))).bind fun xs82 => (laws_markPlaceS_L1 F n66 xs82 (IntKind.i64.wrap ((IntKind.i64.wrap ((IntKind.i64.wrap ((IntKind.i64.wrap (x41 + 1)) + 1)) + 1)) + 1)) (IntKind.i64.wrap (x42 + 1))))))))))) else some (xs39, x41))

def laws_markPlaceS (F : Nat) (p0_a : List GPlace) (p1_k : Int) : Option ((Int) × List GPlace) :=
  (Option.bind (laws_markPlaceS_L1 F F p0_a p1_k 0) fun (xs60, x62) => some (x62, xs60))

def laws_markEventGraph (F : Nat) (p0_a : GEventGraph) (p1_k : Int) : Option ((Int) × List GPlace) :=
  ((laws_markPlaceS F p0_a.Places p1_k).bind fun r2 => some (r2.1, r2.2))

def laws_markInt64S_L1 (F : Nat) : Nat → (List Int) → Int → Int → Option ((List Int) × Int)
  | 0, _, _, _ => none
  | n30 + 1, xs15, x17, x18 => (bif (decide (x18 < (xs15.length : Int))) then ((idx xs15 x18).bind fun _q32 => ((upd xs15 x18 x17).bind fun xs34 => (laws_markInt64S_L1 F n30 xs34 (IntKind.i64.wrap (x17 + 1)) (IntKind.i64.wrap (x18 + 1))))) else some (xs15, x17))

def laws_markInt64S (F : Nat) (p0_a : List Int) (p1_k : Int) : Option ((Int) × List Int) :=
  (Option.bind (laws_markInt64S_L1 F F p0_a p1_k 0) fun (xs24, x26) => some (x26, xs24))

def laws_heldInt64S_L1 (F : Nat) (p0_a : List Int) : Nat → Int → Int → Option (Sum Int (Int))
  | 0, _, _ => none
  | n21 + 1, x11, x12 => (bif (decide (x12 < (p0_a.length : Int))) then ((idx p0_a x12).bind fun q23 => (bif (q23 != x11) then some (Sum.inl (-1)) else (laws_heldInt64S_L1 F p0_a n21 (IntKind.i64.wrap (x11 + 1)) (IntKind.i64.wrap (x12 + 1))))) else some (Sum.inr x11))

def laws_heldInt64S (F : Nat) (p0_a : List Int) (p1_k : Int) : Option (Int) :=
  (Option.bind (laws_heldInt64S_L1 F p0_a F p1_k 0) fun r18 => match r18 with | .inl x_ => some x_ | .inr x17 => some x17)

def laws_FnExactDeadCycle (F : Nat) (p0 : LEventGraph) : Option (Bool) :=
  ((laws_szEventGraph F p0 1048576).bind fun r2 => (bif (decide (r2 < 0)) then some true else ((laws_toEventGraph F p0).bind fun r5 => ((spec_DeadCycle F r5).bind fun r11 => ((laws_toEventGraph F p0).bind fun r17 => ((impl_DeadCycle F r17).bind fun r24 => (Option.bind (((laws_eqInt64S F r24.1 r11.1).bind fun r36 => (bif (!r36) then some true else some (r24.2 != r11.2))) : Option (Bool)) fun b33 => (bif b33 then some false else ((laws_toEventGraph F p0).bind fun r48 => ((laws_eqEventGraph F r17 r48).bind fun r54 => (bif (!r54) then some false else ((laws_markEventGraph F r17 1).bind fun r57 => (Option.bind ((bif (decide (r57.1 < 0)) then some true else ((laws_eqInt64S F r24.1 r11.1).bind fun r68 => (bif (!r68) then some true else some (r24.2 != r11.2)))) : Option (Bool)) fun b64 => (bif b64 then some false else ((laws_markInt64S F r24.1 1).bind fun r72 => ((laws_heldInt64S F r72.2 1).bind fun r75 => (bif (decide (r75 < 0)) then some false else (bif (r75 != r72.1) then some false else ((laws_toEventGraph F p0).bind fun r79 => ((impl_DeadCycle F r79).bind fun r85 => (Option.bind (((laws_eqInt64S F r85.1 r11.1).bind fun r97 => (bif (!r97) then some true else some (r85.2 != r11.2))) : Option (Bool)) fun b94 => (bif b94 then some false else ((laws_heldInt64S F r72.2 1).bind fun r101 => (bif (decide (r101 < 0)) then some false else (bif (r101 != r72.1) then some false else some true)))))))))))))))))))))))))

end Go.Proofs.Ytmijmamolmoheaa
