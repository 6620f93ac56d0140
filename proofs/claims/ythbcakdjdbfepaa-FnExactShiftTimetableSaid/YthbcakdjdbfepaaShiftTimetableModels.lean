/- Plain models of the functions. -/
import Derived.Test.YthbcakdjdbfepaaLiftK
namespace Go.Proofs.Ythbcakdjdbfepaa

structure LPlace where
  From : Int
  To : Int
  Delay : Int
  Tokens : Int

structure LEventGraph where
  Events : Int
  Places : List LPlace

structure LTimetable where
  Period : Int
  Starts : List Int

structure GPlace where
  From : Int
  To : Int
  Delay : Int
  Tokens : Int

structure GEventGraph where
  Events : Int
  Places : List GPlace

structure GTimetable where
  Period : Int
  Starts : List Int

def laws_szPlaceS (_F : Nat) (p0_a : List LPlace) (p1_left : Int) : Option (Int) :=
  (bif (decide ((IntKind.i64.wrap (p1_left - (p0_a.length : Int))) < 0)) then some (-1) else some (IntKind.i64.wrap (p1_left - (p0_a.length : Int))))

def laws_szEventGraph (F : Nat) (p0_a : LEventGraph) (p1_left : Int) : Option (Int) :=
  ((laws_szPlaceS F p0_a.Places p1_left).bind fun r2 => (bif (decide (r2 < 0)) then some (-1) else some r2))

def laws_szInt64S (_F : Nat) (p0_a : List Int) (p1_left : Int) : Option (Int) :=
  (bif (decide ((IntKind.i64.wrap (p1_left - (p0_a.length : Int))) < 0)) then some (-1) else some (IntKind.i64.wrap (p1_left - (p0_a.length : Int))))

def laws_szTimetable (F : Nat) (p0_a : LTimetable) (p1_left : Int) : Option (Int) :=
  ((laws_szInt64S F p0_a.Starts p1_left).bind fun r2 => (bif (decide (r2 < 0)) then some (-1) else some r2))

def laws_toPlace (_F : Nat) (p0_a : LPlace) : Option (GPlace) :=
  some (GPlace.mk p0_a.From p0_a.To p0_a.Delay p0_a.Tokens)

def laws_toPlaceS_L1 (F : Nat) (p0_a : List LPlace) : Nat → (List GPlace) → Int → Option (List GPlace)
  | 0, _, _ => none
  | n42 + 1, xs25, x27 => (bif (decide (x27 < (p0_a.length : Int))) then ((idx p0_a x27).bind fun q44 => ((laws_toPlace F q44).bind fun r46 => ((idx xs25 x27).bind fun _q48 => ((upd xs25 x27 r46).bind fun xs50 => (laws_toPlaceS_L1 F p0_a n42 xs50 (IntKind.i64.wrap (x27 + 1))))))) else some xs25)

def laws_toPlaceS (F : Nat) (p0_a : List LPlace) : Option (List GPlace) :=
  ((mk (p0_a.length : Int) ((GPlace.mk 0 0 0 0) : GPlace)).bind fun xs3 => (Option.bind (laws_toPlaceS_L1 F p0_a F xs3 0) fun xs37 => some xs37))

def laws_toEventGraph (F : Nat) (p0_a : LEventGraph) : Option (GEventGraph) :=
  ((laws_toPlaceS F p0_a.Places).bind fun r4 => some (GEventGraph.mk p0_a.Events r4))

def laws_toInt64S_L1 (F : Nat) (p0_a : List Int) : Nat → (List Int) → Int → Option (List Int)
  | 0, _, _ => none
  | n36 + 1, xs21, x23 => (bif (decide (x23 < (p0_a.length : Int))) then ((idx p0_a x23).bind fun q38 => ((idx xs21 x23).bind fun _q40 => ((upd xs21 x23 q38).bind fun xs42 => (laws_toInt64S_L1 F p0_a n36 xs42 (IntKind.i64.wrap (x23 + 1)))))) else some xs21)

def laws_toInt64S (F : Nat) (p0_a : List Int) : Option (List Int) :=
  ((mk (p0_a.length : Int) (0 : Int)).bind fun xs3 => (Option.bind (laws_toInt64S_L1 F p0_a F xs3 0) fun xs31 => some xs31))

def laws_toTimetable (F : Nat) (p0_a : LTimetable) : Option (GTimetable) :=
  ((laws_toInt64S F p0_a.Starts).bind fun r4 => some (GTimetable.mk p0_a.Period r4))

def spec_l01In (_F : Nat) (p0_n : Int) (p1_low : Int) (p2_high : Int) : Option (Bool) :=
  (Option.bind ((bif (decide (p1_low ≤ p0_n)) then some (decide (p0_n ≤ p2_high)) else some false) : Option (Bool)) fun b2 => some b2)

def spec_l11Place (F : Nat) (p0_p : GPlace) (p1_events : Int) : Option (Bool) :=
  (Option.bind (((spec_l01In F p0_p.From 0 (IntKind.i64.wrap (p1_events - 1))).bind fun r16 => (bif r16 then ((spec_l01In F p0_p.To 0 (IntKind.i64.wrap (p1_events - 1))).bind fun r19 => (bif r19 then ((spec_l01In F p0_p.Delay 0 1000).bind fun r22 => (bif r22 then ((spec_l01In F p0_p.Tokens 0 5).bind fun r25 => some r25) else some false)) else some false)) else some false)) : Option (Bool)) fun b13 => some b13)

def spec_IsEventGraph_L1 (F : Nat) (p0_g : GEventGraph) : Nat → Int → Option (Sum Bool (Unit))
  | 0, _ => none
  | n25 + 1, x15 => (bif (decide (x15 < (p0_g.Places.length : Int))) then ((idx p0_g.Places x15).bind fun q27 => ((spec_l11Place F q27 p0_g.Events).bind fun r29 => (bif (!r29) then some (Sum.inl false) else (spec_IsEventGraph_L1 F p0_g n25 (IntKind.i64.wrap (x15 + 1)))))) else some (Sum.inr ()))

def spec_IsEventGraph (F : Nat) (p0_g : GEventGraph) : Option (Bool) :=
  (Option.bind (spec_IsEventGraph_L1 F p0_g F 0) fun r22 => match r22 with | .inl x_ => some x_ | .inr _ => (Option.bind (((spec_l01In F p0_g.Events 1 10).bind fun r38 => (bif r38 then some (decide ((p0_g.Places.length : Int) ≤ 30)) else some false)) : Option (Bool)) fun b35 => some b35))

def spec_l01Within_L1 (F : Nat) (p0_list : List Int) (p2_low : Int) (p3_high : Int) : Nat → Int → Option (Sum Bool (Unit))
  | 0, _ => none
  | n24 + 1, x14 => (bif (decide (x14 < (p0_list.length : Int))) then ((idx p0_list x14).bind fun q26 => ((spec_l01In F q26 p2_low p3_high).bind fun r28 => (bif (!r28) then some (Sum.inl false) else (spec_l01Within_L1 F p0_list p2_low p3_high n24 (IntKind.i64.wrap (x14 + 1)))))) else some (Sum.inr ()))

def spec_l01Within (F : Nat) (p0_list : List Int) (p1_most : Int) (p2_low : Int) (p3_high : Int) : Option (Bool) :=
  (Option.bind (spec_l01Within_L1 F p0_list p2_low p3_high F 0) fun r21 => match r21 with | .inl x_ => some x_ | .inr _ => some (decide ((p0_list.length : Int) ≤ p1_most)))

def spec_IsTimetable (F : Nat) (p0_g : GEventGraph) (p1_t : GTimetable) : Option (Bool) :=
  (Option.bind (((spec_IsEventGraph F p0_g).bind fun r15 => (bif r15 then ((spec_l01In F p1_t.Period 0 100000).bind fun r18 => (bif r18 then (bif ((p1_t.Starts.length : Int) == p0_g.Events) then ((spec_l01Within F p1_t.Starts 10 0 1000000).bind fun r22 => some r22) else some false) else some false)) else some false)) : Option (Bool)) fun b12 => some b12)

def spec_l20Code (F : Nat) (p0_g : GEventGraph) (p1_t : GTimetable) : Option (Int) :=
  ((spec_IsEventGraph F p0_g).bind fun r3 => (bif (!r3) then some 1 else ((spec_IsTimetable F p0_g p1_t).bind fun r6 => (bif (!r6) then some 2 else some 0))))

def spec_l01Finite (F : Nat) (p0_a : Int) : Option (Bool) :=
  ((spec_l01In F p0_a (-1000000) 1000000).bind fun r1 => some r1)

def spec_l01Times (_F : Nat) (p0_a : Int) (p1_b : Int) : Option (Int) :=
  (Option.bind ((bif (p0_a == (-1000000000000000)) then some true else some (p1_b == (-1000000000000000))) : Option (Bool)) fun b2 => (bif b2 then some (-1000000000000000) else some (IntKind.i64.wrap (p0_a + p1_b))))

def spec_l07Shift_L1 (F : Nat) (p0_x : List Int) (p1_g : Int) : Nat → (List Int) → Int → Option (List Int)
  | 0, _, _ => none
  | n56 + 1, xs31, x36 => (bif (decide (x36 < (p0_x.length : Int))) then ((idx p0_x x36).bind fun q58 => ((spec_l01Times F q58 p1_g).bind fun r60 => ((app xs31 ([r60])).bind fun xs66 => (spec_l07Shift_L1 F p0_x p1_g n56 xs66 (IntKind.i64.wrap (x36 + 1)))))) else some xs31)

def spec_l07Shift (F : Nat) (p0_x : List Int) (p1_g : Int) : Option (List Int) :=
  (Option.bind (spec_l07Shift_L1 F p0_x p1_g F ([] : List Int) 0) fun xs48 => some xs48)

def spec_ShiftTimetable (F : Nat) (p0_g : GEventGraph) (p1_t : GTimetable) (p2_by : Int) : Option (GTimetable × Int) :=
  ((spec_l20Code F p0_g p1_t).bind fun r4 => (Option.bind ((bif (r4 == 0) then ((spec_l01Finite F p2_by).bind fun r13 => some (!r13)) else some false) : Option (Bool)) fun b9 => (Option.bind ((bif b9 then some 2 else some r4) : Option (Int)) fun x16 => (bif (x16 != 0) then some ((GTimetable.mk 0 []), x16) else (Option.bind (((spec_l07Shift F p1_t.Starts p2_by).bind fun r59 => some (p1_t.Period, r59)) : Option (Int × (List Int))) fun (x44, xs45) => ((spec_IsTimetable F p0_g (GTimetable.mk x44 xs45)).bind fun r73 => (bif (!r73) then some ((GTimetable.mk 0 []), 3) else some ((GTimetable.mk x44 xs45), 0))))))))

def impl_within (_F : Nat) (p0_n : Int) (p1_low : Int) (p2_high : Int) : Option (Bool) :=
  (Option.bind ((bif (decide (p1_low ≤ p0_n)) then some (decide (p0_n ≤ p2_high)) else some false) : Option (Bool)) fun b2 => some b2)

def impl_isEvent (F : Nat) (p0_g : GEventGraph) (p1_event : Int) : Option (Bool) :=
  ((impl_within F p1_event 0 (IntKind.i64.wrap (p0_g.Events - 1))).bind fun r2 => some r2)

def impl_isPlace (F : Nat) (p0_g : GEventGraph) (p1_p : GPlace) : Option (Bool) :=
  (Option.bind (((impl_isEvent F p0_g p1_p.From).bind fun r17 => (bif r17 then ((impl_isEvent F p0_g p1_p.To).bind fun r20 => (bif r20 then ((impl_within F p1_p.Delay 0 1000).bind fun r23 => (bif r23 then ((impl_within F p1_p.Tokens 0 5).bind fun r26 => some r26) else some false)) else some false)) else some false)) : Option (Bool)) fun b14 => some b14)

def impl_IsEventGraph_c1 (F : Nat) (p0_p : GPlace) (z0 : GEventGraph) : Option (Bool) :=
  ((impl_isPlace F z0 p0_p).bind fun r2 => some (!r2))

def slices_IndexFunc_Place_L1 (F : Nat) (p0_s : List GPlace) (m_p1_f : GPlace → Option Bool) : Nat → Int → Option (Sum Int (Unit))
  | 0, _ => none
  | n24 + 1, x14 => (bif (decide (x14 < (p0_s.length : Int))) then ((idx p0_s x14).bind fun q26 => ((m_p1_f q26).bind fun r28 => (bif r28 then some (Sum.inl x14) else (slices_IndexFunc_Place_L1 F p0_s m_p1_f n24 (IntKind.i64.wrap (x14 + 1)))))) else some (Sum.inr ()))

def slices_IndexFunc_Place (F : Nat) (p0_s : List GPlace) (m_p1_f : GPlace → Option Bool) : Option (Int) :=
  (Option.bind (slices_IndexFunc_Place_L1 F p0_s m_p1_f F 0) fun r21 => match r21 with | .inl x_ => some x_ | .inr _ => some (-1))

def slices_ContainsFunc_Place (F : Nat) (p0_s : List GPlace) (m_p1_f : GPlace → Option Bool) : Option (Bool) :=
  ((slices_IndexFunc_Place F p0_s m_p1_f).bind fun r1 => some (decide (0 ≤ r1)))

def impl_IsEventGraph (F : Nat) (p0_g : GEventGraph) : Option (Bool) :=
  (Option.bind (((impl_within F p0_g.Events 1 10).bind fun r11 => (bif r11 then (bif (decide ((p0_g.Places.length : Int) ≤ 30)) then ((slices_ContainsFunc_Place F p0_g.Places (fun x0 => impl_IsEventGraph_c1 F x0 p0_g)).bind fun r15 => some (!r15)) else some false) else some false)) : Option (Bool)) fun b8 => some b8)

def impl_allWithin_L1 (F : Nat) (p0_list : List Int) (p1_low : Int) (p2_high : Int) : Nat → Int → Option (Sum Bool (Unit))
  | 0, _ => none
  | n24 + 1, x14 => (bif (decide (x14 < (p0_list.length : Int))) then ((idx p0_list x14).bind fun q26 => ((impl_within F q26 p1_low p2_high).bind fun r28 => (bif (!r28) then some (Sum.inl false) else (impl_allWithin_L1 F p0_list p1_low p2_high n24 (IntKind.i64.wrap (x14 + 1)))))) else some (Sum.inr ()))

def impl_allWithin (F : Nat) (p0_list : List Int) (p1_low : Int) (p2_high : Int) : Option (Bool) :=
  (Option.bind (impl_allWithin_L1 F p0_list p1_low p2_high F 0) fun r21 => match r21 with | .inl x_ => some x_ | .inr _ => some true)

def impl_isTimetable (F : Nat) (p0_g : GEventGraph) (p1_t : GTimetable) : Option (Bool) :=
  (Option.bind (((impl_within F p1_t.Period 0 100000).bind fun r12 => (bif r12 then (bif ((p1_t.Starts.length : Int) == p0_g.Events) then ((impl_allWithin F p1_t.Starts 0 1000000).bind fun r16 => some r16) else some false) else some false)) : Option (Bool)) fun b9 => some b9)

def impl_isFinite (F : Nat) (p0_n : Int) : Option (Bool) :=
  ((impl_within F p0_n (-1000000) 1000000).bind fun r1 => some r1)

def slices_Clone_int64 (_F : Nat) (p0_s : List Int) : Option (List Int) :=
  ((app ([] : List Int) p0_s).bind fun xs5 => some xs5)

def impl_ShiftTimetable_L1 (F : Nat) (p2_by : Int) (xs46 : List Int) : Nat → (List Int) → Int → Option (List Int)
  | 0, _, _ => none
  | n106 + 1, xs91, x93 => (bif (decide (x93 < (xs46.length : Int))) then ((idx xs91 x93).bind fun q108 => ((idx xs91 x93).bind fun _q110 => ((upd xs91 x93 (IntKind.i64.wrap (q108 + p2_by))).bind fun xs112 => (impl_ShiftTimetable_L1 F p2_by xs46 n106 xs112 (IntKind.i64.wrap (x93 + 1)))))) else some xs91)

def impl_ShiftTimetable (F : Nat) (p0_g : GEventGraph) (p1_t : GTimetable) (p2_by : Int) : Option (GTimetable × Int) :=
  ((impl_IsEventGraph F p0_g).bind fun r4 => (bif (!r4) then some ((GTimetable.mk 0 []), 1) else (Option.bind (((impl_isTimetable F p0_g p1_t).bind fun r16 => (bif (!r16) then some true else ((impl_isFinite F p2_by).bind fun r19 => some (!r19)))) : Option (Bool)) fun b13 => (bif b13 then some ((GTimetable.mk 0 []), 2) else (Option.bind (((slices_Clone_int64 F p1_t.Starts).bind fun r60 => some (p1_t.Period, r60)) : Option (Int × (List Int))) fun (x45, xs46) => (Option.bind (impl_ShiftTimetable_L1 F p2_by xs46 F xs46 0) fun xs101 => ((impl_isTimetable F p0_g (GTimetable.mk x45 xs101)).bind fun r114 => (bif (!r114) then some ((GTimetable.mk 0 []), 3) else some ((GTimetable.mk x45 xs101), 0)))))))))

def laws_eqInt64S_L1 (F : Nat) (p0_a : List Int) (p1_b : List Int) : Nat → Int → Option (Sum Bool (Unit))
  | 0, _ => none
  | n25 + 1, x15 => (bif (decide (x15 < (p0_a.length : Int))) then ((idx p0_a x15).bind fun q27 => ((idx p1_b x15).bind fun q29 => (bif (q27 != q29) then some (Sum.inl false) else (laws_eqInt64S_L1 F p0_a p1_b n25 (IntKind.i64.wrap (x15 + 1)))))) else some (Sum.inr ()))

def laws_eqInt64S (F : Nat) (p0_a : List Int) (p1_b : List Int) : Option (Bool) :=
  (bif ((p0_a.length : Int) != (p1_b.length : Int)) then some false else (Option.bind (laws_eqInt64S_L1 F p0_a p1_b F 0) fun r22 => match r22 with | .inl x_ => some x_ | .inr _ => some true))

def laws_eqTimetable (F : Nat) (p0_a : GTimetable) (p1_b : GTimetable) : Option (Bool) :=
  (bif (p0_a.Period != p1_b.Period) then some false else ((laws_eqInt64S F p0_a.Starts p1_b.Starts).bind fun r4 => (bif (!r4) then some false else some true)))

def laws_eqPlace (_F : Nat) (p0_a : GPlace) (p1_b : GPlace) : Option (Bool) :=
  (bif (p0_a.From != p1_b.From) then some false else (bif (p0_a.To != p1_b.To) then some false else (bif (p0_a.Delay != p1_b.Delay) then some false else (bif (p0_a.Tokens != p1_b.Tokens) then some false else some true))))

def laws_eqPlaceS_L1 (F : Nat) (p0_a : List GPlace) (p1_b : List GPlace) : Nat → Int → Option (Sum Bool (Unit))
  | 0, _ => none
  | n31 + 1, x19 => (bif (decide (x19 < (p0_a.length : Int))) then ((idx p0_a x19).bind fun q33 => ((idx p1_b x19).bind fun q35 => ((laws_eqPlace F q33 q35).bind fun r37 => (bif (!r37) then some (Sum.inl false) else (laws_eqPlaceS_L1 F p0_a p1_b n31 (IntKind.i64.wrap (x19 + 1))))))) else some (Sum.inr ()))

def laws_eqPlaceS (F : Nat) (p0_a : List GPlace) (p1_b : List GPlace) : Option (Bool) :=
  (bif ((p0_a.length : Int) != (p1_b.length : Int)) then some false else (Option.bind (laws_eqPlaceS_L1 F p0_a p1_b F 0) fun r28 => match r28 with | .inl x_ => some x_ | .inr _ => some true))

def laws_eqEventGraph (F : Nat) (p0_a : GEventGraph) (p1_b : GEventGraph) : Option (Bool) :=
  (bif (p0_a.Events != p1_b.Events) then some false else ((laws_eqPlaceS F p0_a.Places p1_b.Places).bind fun r4 => (bif (!r4) then some false else some true)))

def laws_markPlaceS_L1 (F : Nat) : Nat → (List GPlace) → Int → Int → Option ((List GPlace) × Int)
  | 0, _, _, _ => none
  | n66 + 1, xs39, x41, x42 => (bif (decide (x42 < (xs39.length : Int))) then ((idx xs39 x42).bind fun q68 => ((upd xs39 x42 (GPlace.mk x41 q68.To q68.Delay q68.Tokens)).bind fun xs70 => ((idx xs70 x42).bind fun q72 => ((upd xs70 x42 (GPlace.mk q72.From (IntKind.i64.wrap (x41 + 1)) q72.Delay q72.Tokens)).bind fun xs74 => ((idx xs74 x42).bind fun q76 => ((upd xs74 x42 (GPlace.mk q76.From q76.To (IntKind.i64.wrap ((IntKind.i64.wrap (x41 + 1)) + 1)) q76.Tokens)).bind fun xs78 => ((idx xs78 x42).bind fun q80 => ((upd xs78 x42 (GPlace.mk q80.From q80.To q80.Delay (IntKind.i64.wrap ((IntKind.i64.wrap ((IntKind.i64.wrap (x41 + 1)) + 1)) + 1)))).bind fun xs82 => (laws_markPlaceS_L1 F n66 xs82 (IntKind.i64.wrap ((IntKind.i64.wrap ((IntKind.i64.wrap ((IntKind.i64.wrap (x41 + 1)) + 1)) + 1)) + 1)) (IntKind.i64.wrap (x42 + 1))))))))))) else some (xs39, x41))

def laws_markPlaceS (F : Nat) (p0_a : List GPlace) (p1_k : Int) : Option ((Int) × List GPlace) :=
  (Option.bind (laws_markPlaceS_L1 F F p0_a p1_k 0) fun (xs60, x62) => some (x62, xs60))

def laws_markEventGraph (F : Nat) (p0_a : GEventGraph) (p1_k : Int) : Option ((Int) × List GPlace) :=
  ((laws_markPlaceS F p0_a.Places p1_k).bind fun r2 => some (r2.1, r2.2))

def laws_markInt64S_L1 (F : Nat) : Nat → (List Int) → Int → Int → Option ((List Int) × Int)
  | 0, _, _, _ => none
  | n30 + 1, xs15, x17, x18 => (bif (decide (x18 < (xs15.length : Int))) then ((idx xs15 x18).bind fun _q32 => ((upd xs15 x18 x17).bind fun xs34 => (laws_markInt64S_L1 F n30 xs34 (IntKind.i64.wrap (x17 + 1)) (IntKind.i64.wrap (x18 + 1))))) else some (xs15, x17))

def laws_markInt64S (F : Nat) (p0_a : List Int) (p1_k : Int) : Option ((Int) × List Int) :=
  (Option.bind (laws_markInt64S_L1 F F p0_a p1_k 0) fun (xs24, x26) => some (x26, xs24))

def laws_markTimetable (F : Nat) (p0_a : GTimetable) (p1_k : Int) : Option ((Int) × List Int) :=
  ((laws_markInt64S F p0_a.Starts p1_k).bind fun r2 => some (r2.1, r2.2))

def laws_heldInt64S_L1 (F : Nat) (p0_a : List Int) : Nat → Int → Int → Option (Sum Int (Int))
  | 0, _, _ => none
  | n21 + 1, x11, x12 => (bif (decide (x12 < (p0_a.length : Int))) then ((idx p0_a x12).bind fun q23 => (bif (q23 != x11) then some (Sum.inl (-1)) else (laws_heldInt64S_L1 F p0_a n21 (IntKind.i64.wrap (x11 + 1)) (IntKind.i64.wrap (x12 + 1))))) else some (Sum.inr x11))

def laws_heldInt64S (F : Nat) (p0_a : List Int) (p1_k : Int) : Option (Int) :=
  (Option.bind (laws_heldInt64S_L1 F p0_a F p1_k 0) fun r18 => match r18 with | .inl x_ => some x_ | .inr x17 => some x17)

def laws_heldTimetable (F : Nat) (p0_a : GTimetable) (p1_k : Int) : Option (Int) :=
  ((laws_heldInt64S F p0_a.Starts p1_k).bind fun r2 => (bif (decide (r2 < 0)) then some (-1) else some r2))

def laws_FnExactShiftTimetable (F : Nat) (p0 : LEventGraph) (p1 : LTimetable) (p2 : Int) : Option (Bool) :=
  ((laws_szEventGraph F p0 1048576).bind fun r3 => (bif (decide (r3 < 0)) then some true else ((laws_szTimetable F p1 r3).bind fun r6 => (bif (decide (r6 < 0)) then some true else (Option.bind (((laws_toEventGraph F p0).bind fun r115 => ((laws_toTimetable F p1).bind fun r121 => ((spec_ShiftTimetable F r115 r121 p2).bind fun r127 => some (r127.1.Period, r127.1.Starts, r127.2)))) : Option (Int × (List Int) × Int)) fun (x87, xs88, x93) => ((laws_toEventGraph F p0).bind fun r173 => ((laws_toTimetable F p1).bind fun r180 => ((impl_ShiftTimetable F r173 r180 p2).bind fun r187 => (Option.bind (((laws_eqTimetable F (GTimetable.mk r187.1.Period r187.1.Starts) (GTimetable.mk x87 xs88)).bind fun r200 => (bif (!r200) then some true else some (r187.2 != x93))) : Option (Bool)) fun b197 => (bif b197 then some false else ((laws_toEventGraph F p0).bind fun r212 => ((laws_eqEventGraph F r173 r212).bind fun r218 => (bif (!r218) then some false else ((laws_toTimetable F p1).bind fun r229 => ((laws_eqTimetable F r180 r229).bind fun r235 => (bif (!r235) then some false else ((laws_markEventGraph F r173 1).bind fun r238 => ((laws_markTimetable F r180 r238.1).bind fun r241 => (Option.bind ((bif (decide (r241.1 < 0)) then some true else ((laws_eqTimetable F (GTimetable.mk r187.1.Period r187.1.Starts) (GTimetable.mk x87 xs88)).bind fun r252 => (bif (!r252) then some true else some (r187.2 != x93)))) : Option (Bool)) fun b248 => (bif b248 then some false else ((laws_markTimetable F (GTimetable.mk r187.1.Period r187.1.Starts) 1).bind fun r256 => ((laws_heldTimetable F (GTimetable.mk r187.1.Period r256.2) 1).bind fun r259 => (bif (decide (r259 < 0)) then some false else (bif (r259 != r256.1) then some false else (Option.bind (((laws_toEventGraph F p0).bind fun r369 => ((laws_toTimetable F p1).bind fun r375 => ((impl_ShiftTimetable F r369 r375 p2).bind fun r381 => some (r381.1.Period, r381.1.Starts, r381.2)))) : Option (Int × (List Int) × Int)) fun (x341, xs342, x347) => (Option.bind (((laws_eqTimetable F (GTimetable.mk x341 xs342) (GTimetable.mk x87 xs88)).bind fun r433 => (bif (!r433) then some true else some (x347 != x93))) : Option (Bool)) fun b430 => (bif b430 then some false else ((laws_heldTimetable F (GTimetable.mk r187.1.Period r256.2) 1).bind fun r437 => (bif (decide (r437 < 0)) then some false else (bif (r437 != r256.1) then some false else some true))))))))))))))))))))))))))))))

end Go.Proofs.Ythbcakdjdbfepaa
