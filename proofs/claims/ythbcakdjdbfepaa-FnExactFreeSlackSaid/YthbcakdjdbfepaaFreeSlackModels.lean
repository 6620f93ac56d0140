/- Plain models of the functions. -/
import Derived.Test.YthbcakdjdbfepaaLiftK
namespace Go.Proofs.Ythbcakdjdbfepaa

structure LPlace where
  From : Int
  To : Int
  Delay : Int
  Tokens : Int

structure LEventGraph where
  Events : Int
  Places : List LPlace

structure LTimetable where
  Period : Int
  Starts : List Int

structure GPlace where
  From : Int
  To : Int
  Delay : Int
  Tokens : Int

structure GEventGraph where
  Events : Int
  Places : List GPlace

structure GTimetable where
  Period : Int
  Starts : List Int

def laws_szPlaceS (_F : Nat) (p0_a : List LPlace) (p1_left : Int) : Option (Int) :=
  (bif (decide ((IntKind.i64.wrap (p1_left - (p0_a.length : Int))) < 0)) then some (-1) else some (IntKind.i64.wrap (p1_left - (p0_a.length : Int))))

def laws_szEventGraph (F : Nat) (p0_a : LEventGraph) (p1_left : Int) : Option (Int) :=
  ((laws_szPlaceS F p0_a.Places p1_left).bind fun r2 => (bif (decide (r2 < 0)) then some (-1) else some r2))

def laws_szInt64S (_F : Nat) (p0_a : List Int) (p1_left : Int) : Option (Int) :=
  (bif (decide ((IntKind.i64.wrap (p1_left - (p0_a.length : Int))) < 0)) then some (-1) else some (IntKind.i64.wrap (p1_left - (p0_a.length : Int))))

def laws_szTimetable (F : Nat) (p0_a : LTimetable) (p1_left : Int) : Option (Int) :=
  ((laws_szInt64S F p0_a.Starts p1_left).bind fun r2 => (bif (decide (r2 < 0)) then some (-1) else some r2))

def laws_toPlace (_F : Nat) (p0_a : LPlace) : Option (GPlace) :=
  some (GPlace.mk p0_a.From p0_a.To p0_a.Delay p0_a.Tokens)

def laws_toPlaceS_L1 (F : Nat) (p0_a : List LPlace) : Nat → (List GPlace) → Int → Option (List GPlace)
  | 0, _, _ => none
  | n42 + 1, xs25, x27 => (bif (decide (x27 < (p0_a.length : Int))) then ((idx p0_a x27).bind fun q44 => ((laws_toPlace F q44).bind fun r46 => ((idx xs25 x27).bind fun _q48 => ((upd xs25 x27 r46).bind fun xs50 => (laws_toPlaceS_L1 F p0_a n42 xs50 (IntKind.i64.wrap (x27 + 1))))))) else some xs25)

def laws_toPlaceS (F : Nat) (p0_a : List LPlace) : Option (List GPlace) :=
  ((mk (p0_a.length : Int) ((GPlace.mk 0 0 0 0) : GPlace)).bind fun xs3 => (Option.bind (laws_toPlaceS_L1 F p0_a F xs3 0) fun xs37 => some xs37))

def laws_toEventGraph (F : Nat) (p0_a : LEventGraph) : Option (GEventGraph) :=
  ((laws_toPlaceS F p0_a.Places).bind fun r4 => some (GEventGraph.mk p0_a.Events r4))

def laws_toInt64S_L1 (F : Nat) (p0_a : List Int) : Nat → (List Int) → Int → Option (List Int)
  | 0, _, _ => none
  | n36 + 1, xs21, x23 => (bif (decide (x23 < (p0_a.length : Int))) then ((idx p0_a x23).bind fun q38 => ((idx xs21 x23).bind fun _q40 => ((upd xs21 x23 q38).bind fun xs42 => (laws_toInt64S_L1 F p0_a n36 xs42 (IntKind.i64.wrap (x23 + 1)))))) else some xs21)

def laws_toInt64S (F : Nat) (p0_a : List Int) : Option (List Int) :=
  ((mk (p0_a.length : Int) (0 : Int)).bind fun xs3 => (Option.bind (laws_toInt64S_L1 F p0_a F xs3 0) fun xs31 => some xs31))

def laws_toTimetable (F : Nat) (p0_a : LTimetable) : Option (GTimetable) :=
  ((laws_toInt64S F p0_a.Starts).bind fun r4 => some (GTimetable.mk p0_a.Period r4))

def spec_l01In (_F : Nat) (p0_n : Int) (p1_low : Int) (p2_high : Int) : Option (Bool) :=
  (Option.bind ((bif (decide (p1_low ≤ p0_n)) then some (decide (p0_n ≤ p2_high)) else some false) : Option (Bool)) fun b2 => some b2)

def spec_l21One (F : Nat) (p0_g : GEventGraph) (p1_event : Int) (p2_by : Int) : Option (List Int) :=
  ((mk (max 0 (min 10 p0_g.Events)) (0 : Int)).bind fun xs4 => ((spec_l01In F p1_event 0 (IntKind.i64.wrap ((xs4.length : Int) - 1))).bind fun r5 => (Option.bind ((bif r5 then ((idx xs4 p1_event).bind fun _q17 => ((upd xs4 p1_event p2_by).bind fun xs19 => some xs19)) else some xs4) : Option (List Int)) fun xs12 => some xs12)))

def spec_l11Place (F : Nat) (p0_p : GPlace) (p1_events : Int) : Option (Bool) :=
  (Option.bind (((spec_l01In F p0_p.From 0 (IntKind.i64.wrap (p1_events - 1))).bind fun r16 => (bif r16 then ((spec_l01In F p0_p.To 0 (IntKind.i64.wrap (p1_events - 1))).bind fun r19 => (bif r19 then ((spec_l01In F p0_p.Delay 0 1000).bind fun r22 => (bif r22 then ((spec_l01In F p0_p.Tokens 0 5).bind fun r25 => some r25) else some false)) else some false)) else some false)) : Option (Bool)) fun b13 => some b13)

def spec_IsEventGraph_L1 (F : Nat) (p0_g : GEventGraph) : Nat → Int → Option (Sum Bool (Unit))
  | 0, _ => none
  | n25 + 1, x15 => (bif (decide (x15 < (p0_g.Places.length : Int))) then ((idx p0_g.Places x15).bind fun q27 => ((spec_l11Place F q27 p0_g.Events).bind fun r29 => (bif (!r29) then some (Sum.inl false) else (spec_IsEventGraph_L1 F p0_g n25 (IntKind.i64.wrap (x15 + 1)))))) else some (Sum.inr ()))

def spec_IsEventGraph (F : Nat) (p0_g : GEventGraph) : Option (Bool) :=
  (Option.bind (spec_IsEventGraph_L1 F p0_g F 0) fun r22 => match r22 with | .inl x_ => some x_ | .inr _ => (Option.bind (((spec_l01In F p0_g.Events 1 10).bind fun r38 => (bif r38 then some (decide ((p0_g.Places.length : Int) ≤ 30)) else some false)) : Option (Bool)) fun b35 => some b35))

def spec_l01Within_L1 (F : Nat) (p0_list : List Int) (p2_low : Int) (p3_high : Int) : Nat → Int → Option (Sum Bool (Unit))
  | 0, _ => none
  | n24 + 1, x14 => (bif (decide (x14 < (p0_list.length : Int))) then ((idx p0_list x14).bind fun q26 => ((spec_l01In F q26 p2_low p3_high).bind fun r28 => (bif (!r28) then some (Sum.inl false) else (spec_l01Within_L1 F p0_list p2_low p3_high n24 (IntKind.i64.wrap (x14 + 1)))))) else some (Sum.inr ()))

def spec_l01Within (F : Nat) (p0_list : List Int) (p1_most : Int) (p2_low : Int) (p3_high : Int) : Option (Bool) :=
  (Option.bind (spec_l01Within_L1 F p0_list p2_low p3_high F 0) fun r21 => match r21 with | .inl x_ => some x_ | .inr _ => some (decide ((p0_list.length : Int) ≤ p1_most)))

def spec_IsTimetable (F : Nat) (p0_g : GEventGraph) (p1_t : GTimetable) : Option (Bool) :=
  (Option.bind (((spec_IsEventGraph F p0_g).bind fun r15 => (bif r15 then ((spec_l01In F p1_t.Period 0 100000).bind fun r18 => (bif r18 then (bif ((p1_t.Starts.length : Int) == p0_g.Events) then ((spec_l01Within F p1_t.Starts 10 0 1000000).bind fun r22 => some r22) else some false) else some false)) else some false)) : Option (Bool)) fun b12 => some b12)

def spec_l20Code (F : Nat) (p0_g : GEventGraph) (p1_t : GTimetable) : Option (Int) :=
  ((spec_IsEventGraph F p0_g).bind fun r3 => (bif (!r3) then some 1 else ((spec_IsTimetable F p0_g p1_t).bind fun r6 => (bif (!r6) then some 2 else some 0))))

def spec_l02Bottom_L5 (F : Nat) (p1_n : Int) : Nat → (List Int) → Int → Option (List Int)
  | 0, _, _ => none
  | n252 + 1, xs231, x236 => (bif (decide (x236 < p1_n)) then ((app xs231 ([(-1000000000000000)])).bind fun xs258 => (spec_l02Bottom_L5 F p1_n n252 xs258 (IntKind.i64.wrap (x236 + 1)))) else some xs231)

def spec_l02Bottom_L4 (F : Nat) (p0_m : Int) (p1_n : Int) : Nat → (List (List Int)) → Int → Option (List (List Int))
  | 0, _, _ => none
  | n207 + 1, ms131, x137 => (bif (decide (x137 < p0_m)) then (Option.bind (spec_l02Bottom_L5 F p1_n F ([] : List Int) 0) fun xs244 => ((app ms131 ([xs244])).bind fun ms264 => (spec_l02Bottom_L4 F p0_m p1_n n207 ms264 (IntKind.i64.wrap (x137 + 1))))) else some ms131)

def spec_l02Bottom (F : Nat) (p0_m : Int) (p1_n : Int) : Option (List (List Int)) :=
  (Option.bind (spec_l02Bottom_L4 F p0_m p1_n F [] 0) fun ms198 => some ms198)

def spec_l12Free_L1 (F : Nat) (p0_g : GEventGraph) : Nat → (List (List Int)) → Int → Option (List (List Int))
  | 0, _, _ => none
  | n134 + 1, ms88, x90 => (bif (decide (x90 < (p0_g.Places.length : Int))) then ((idx p0_g.Places x90).bind fun q136 => (bif (q136.Tokens == 0) then ((idx p0_g.Places x90).bind fun q156 => ((idx ms88 q156.To).bind fun q158 => ((idx p0_g.Places x90).bind fun q163 => ((idx q158 q163.From).bind fun _q165 => ((upd q158 q163.From 0).bind fun xs167 => ((upd ms88 q156.To xs167).bind fun ms168 => (spec_l12Free_L1 F p0_g n134 ms168 (IntKind.i64.wrap (x90 + 1))))))))) else (spec_l12Free_L1 F p0_g n134 ms88 (IntKind.i64.wrap (x90 + 1))))) else some ms88)

def spec_l12Free (F : Nat) (p0_g : GEventGraph) : Option (List (List Int)) :=
  ((spec_l02Bottom F p0_g.Events p0_g.Events).bind fun r2 => (Option.bind (spec_l12Free_L1 F p0_g F r2 0) fun ms129 => some ms129))

def spec_l01Has_L1 (F : Nat) (p0_list : List Int) (p1_x : Int) : Nat → Int → Option (Sum Bool (Unit))
  | 0, _ => none
  | n18 + 1, x10 => (bif (decide (x10 < (p0_list.length : Int))) then ((idx p0_list x10).bind fun q20 => (bif (q20 == p1_x) then some (Sum.inl true) else (spec_l01Has_L1 F p0_list p1_x n18 (IntKind.i64.wrap (x10 + 1))))) else some (Sum.inr ()))

def spec_l01Has (F : Nat) (p0_list : List Int) (p1_x : Int) : Option (Bool) :=
  (Option.bind (spec_l01Has_L1 F p0_list p1_x F 0) fun r15 => match r15 with | .inl x_ => some x_ | .inr _ => some false)

def spec_l01Own (_F : Nat) (p0_list : List Int) : Option (List Int) :=
  ((app ([] : List Int) p0_list).bind fun xs5 => some xs5)

def spec_l03Grow_L1 (F : Nat) (p0 : List (List Int)) (p1 : List Int) (p2 : Int) (p3 : Int) (q3 : Int) (rec_ : (List (List Int)) → (List Int) → Int → Int → Option (List Int)) : Nat → Int → Option (Sum (List Int) (Unit))
  | 0, _ => none
  | n1402 + 1, x951 => (bif (decide (x951 < (p0.length : Int))) then (Option.bind ((Option.bind (((idx p0 x951).bind fun q1645 => ((idx q1645 q3).bind fun q1654 => (bif (q1654 == (-1000000000000000)) then some true else ((spec_l01Has F p1 x951).bind fun r1657 => some r1657)))) : Option (Bool)) fun b1642 => (bif b1642 then some (Sum.inr ()) else (Option.bind (((idx p0 x951).bind fun q1792 => ((idx q1792 q3).bind fun q1801 => ((spec_l01Own F p1).bind fun r1803 => ((app r1803 ([x951])).bind fun xs1813 => ((rec_ p0 xs1813 (IntKind.i64.wrap (p2 + q1801)) p3).bind fun r1815 => some r1815))))) : Option (List Int)) fun xs1751 => (bif (decide (0 < (xs1751.length : Int))) then some (Sum.inl xs1751) else some (Sum.inr ()))))) : Option (Sum (List Int) (Unit))) fun r1626 => match r1626 with | .inl x_ => some (Sum.inl x_) | .inr _ => (spec_l03Grow_L1 F p0 p1 p2 p3 q3 rec_ n1402 (IntKind.i64.wrap (x951 + 1)))) else some (Sum.inr ()))

def spec_l03Grow_rec (F : Nat) : Nat → (List (List Int)) → (List Int) → Int → Int → Option (List Int)
  | 0, _, _, _, _ => none
  | k_ + 1, p0, p1, p2, p3 => ((idx p1 0).bind fun q1 => ((idx p1 (IntKind.i64.wrap ((p1.length : Int) - 1))).bind fun q3 => (Option.bind (((idx p0 q1).bind fun q31 => ((idx q31 q3).bind fun q40 => (bif (q40 != (-1000000000000000)) then ((idx p0 q1).bind fun q43 => ((idx q43 q3).bind fun q52 => some (decide (p3 < (IntKind.i64.wrap (p2 + q52)))))) else some false))) : Option (Bool)) fun b28 => (bif b28 then some p1 else (Option.bind (spec_l03Grow_L1 F p0 p1 p2 p3 q3 (spec_l03Grow_rec F k_) F (IntKind.i64.wrap (q1 + 1))) fun r1399 => match r1399 with | .inl x_ => some x_ | .inr _ => some ([] : List Int))))))

def spec_l03Grow (F : Nat) (p0 : List (List Int)) (p1 : List Int) (p2 : Int) (p3 : Int) : Option (List Int) := spec_l03Grow_rec F F p0 p1 p2 p3

def spec_l03Over_L1 (F : Nat) (p0_a : List (List Int)) (p1_over : Int) : Nat → Int → Option (Sum (List Int) (Unit))
  | 0, _ => none
  | n51 + 1, x32 => (bif (decide (x32 < (p0_a.length : Int))) then ((spec_l03Grow F p0_a ([x32]) 0 p1_over).bind fun r55 => (bif (decide (0 < (r55.length : Int))) then some (Sum.inl r55) else (spec_l03Over_L1 F p0_a p1_over n51 (IntKind.i64.wrap (x32 + 1))))) else some (Sum.inr ()))

def spec_l03Over (F : Nat) (p0_a : List (List Int)) (p1_over : Int) : Option (List Int) :=
  (Option.bind (spec_l03Over_L1 F p0_a p1_over F 0) fun r48 => match r48 with | .inl x_ => some x_ | .inr _ => some ([] : List Int))

def spec_l12Dead (F : Nat) (p0_g : GEventGraph) : Option (List Int) :=
  ((spec_l12Free F p0_g).bind fun r2 => ((spec_l03Over F r2 (-1)).bind fun r9 => some r9))

def spec_l20Slacks_L1 (F : Nat) (p0_g : GEventGraph) (p1_t : GTimetable) : Nat → (List Int) → Int → Option (List Int)
  | 0, _, _ => none
  | n97 + 1, xs59, x64 => (bif (decide (x64 < (p0_g.Places.length : Int))) then ((idx p0_g.Places x64).bind fun q99 => ((idx p1_t.Starts q99.To).bind fun q112 => ((idx p1_t.Starts q99.From).bind fun q114 => ((app xs59 ([(IntKind.i64.wrap ((IntKind.i64.wrap ((IntKind.i64.wrap (q112 + (IntKind.i64.wrap (q99.Tokens * p1_t.Period)))) - q114)) - q99.Delay))])).bind fun xs120 => (spec_l20Slacks_L1 F p0_g p1_t n97 xs120 (IntKind.i64.wrap (x64 + 1))))))) else some xs59)

def spec_l20Slacks (F : Nat) (p0_g : GEventGraph) (p1_t : GTimetable) : Option (List Int) :=
  (Option.bind (spec_l20Slacks_L1 F p0_g p1_t F ([] : List Int) 0) fun xs89 => some xs89)

def spec_l20Kept_L1 (F : Nat) (r3 : List Int) : Nat → Int → Option (Sum Bool (Unit))
  | 0, _ => none
  | n26 + 1, x18 => (bif (decide (x18 < (r3.length : Int))) then ((idx r3 x18).bind fun q28 => (bif (decide (q28 < 0)) then some (Sum.inl false) else (spec_l20Kept_L1 F r3 n26 (IntKind.i64.wrap (x18 + 1))))) else some (Sum.inr ()))

def spec_l20Kept (F : Nat) (p0_g : GEventGraph) (p1_t : GTimetable) : Option (Bool) :=
  ((spec_l20Slacks F p0_g p1_t).bind fun r3 => (Option.bind (spec_l20Kept_L1 F r3 F 0) fun r23 => match r23 with | .inl x_ => some x_ | .inr _ => some true))

def spec_l21Code (F : Nat) (p0_g : GEventGraph) (p1_t : GTimetable) (p2_delays : List Int) (p3_in : Bool) : Option (Int) :=
  ((spec_l20Code F p0_g p1_t).bind fun r3 => (bif (r3 != 0) then some r3 else (Option.bind ((bif (!p3_in) then some true else (bif ((p2_delays.length : Int) != p0_g.Events) then some true else ((spec_l01Within F p2_delays 10 0 1000000).bind fun r15 => some (!r15)))) : Option (Bool)) fun b10 => (bif b10 then some 2 else (Option.bind (((spec_l12Dead F p0_g).bind fun r30 => (bif (decide (0 < (r30.length : Int))) then some true else ((spec_l20Kept F p0_g p1_t).bind fun r37 => some (!r37)))) : Option (Bool)) fun b27 => (bif b27 then some 5 else some 0))))))

def spec_FreeSlack_L1 (F : Nat) (p0_g : GEventGraph) (p2_event : Int) (r24 : List Int) : Nat → Int → Int → Option (Int)
  | 0, _, _ => none
  | n56 + 1, x44, x45 => (bif (decide (x45 < (r24.length : Int))) then ((idx p0_g.Places x45).bind fun q58 => (bif (q58.From == p2_event) then ((idx r24 x45).bind fun q61 => (spec_FreeSlack_L1 F p0_g p2_event r24 n56 (min x44 q61) (IntKind.i64.wrap (x45 + 1)))) else (spec_FreeSlack_L1 F p0_g p2_event r24 n56 x44 (IntKind.i64.wrap (x45 + 1))))) else some x44)

def spec_FreeSlack (F : Nat) (p0_g : GEventGraph) (p1_t : GTimetable) (p2_event : Int) : Option (Int × Int) :=
  ((spec_l21One F p0_g p2_event 0).bind fun r13 => ((spec_l01In F p2_event 0 (IntKind.i64.wrap (p0_g.Events - 1))).bind fun r19 => ((spec_l21Code F p0_g p1_t r13 r19).bind fun r21 => (bif (r21 != 0) then some (0, r21) else ((spec_l20Slacks F p0_g p1_t).bind fun r24 => (Option.bind (spec_FreeSlack_L1 F p0_g p2_event r24 F 1000000 0) fun x52 => some (x52, 0)))))))

def impl_within (_F : Nat) (p0_n : Int) (p1_low : Int) (p2_high : Int) : Option (Bool) :=
  (Option.bind ((bif (decide (p1_low ≤ p0_n)) then some (decide (p0_n ≤ p2_high)) else some false) : Option (Bool)) fun b2 => some b2)

def impl_isEvent (F : Nat) (p0_g : GEventGraph) (p1_event : Int) : Option (Bool) :=
  ((impl_within F p1_event 0 (IntKind.i64.wrap (p0_g.Events - 1))).bind fun r2 => some r2)

def impl_isPlace (F : Nat) (p0_g : GEventGraph) (p1_p : GPlace) : Option (Bool) :=
  (Option.bind (((impl_isEvent F p0_g p1_p.From).bind fun r17 => (bif r17 then ((impl_isEvent F p0_g p1_p.To).bind fun r20 => (bif r20 then ((impl_within F p1_p.Delay 0 1000).bind fun r23 => (bif r23 then ((impl_within F p1_p.Tokens 0 5).bind fun r26 => some r26) else some false)) else some false)) else some false)) : Option (Bool)) fun b14 => some b14)

def impl_IsEventGraph_c1 (F : Nat) (p0_p : GPlace) (z0 : GEventGraph) : Option (Bool) :=
  ((impl_isPlace F z0 p0_p).bind fun r2 => some (!r2))

def slices_IndexFunc_Place_L1 (F : Nat) (p0_s : List GPlace) (m_p1_f : GPlace → Option Bool) : Nat → Int → Option (Sum Int (Unit))
  | 0, _ => none
  | n24 + 1, x14 => (bif (decide (x14 < (p0_s.length : Int))) then ((idx p0_s x14).bind fun q26 => ((m_p1_f q26).bind fun r28 => (bif r28 then some (Sum.inl x14) else (slices_IndexFunc_Place_L1 F p0_s m_p1_f n24 (IntKind.i64.wrap (x14 + 1)))))) else some (Sum.inr ()))

def slices_IndexFunc_Place (F : Nat) (p0_s : List GPlace) (m_p1_f : GPlace → Option Bool) : Option (Int) :=
  (Option.bind (slices_IndexFunc_Place_L1 F p0_s m_p1_f F 0) fun r21 => match r21 with | .inl x_ => some x_ | .inr _ => some (-1))

def slices_ContainsFunc_Place (F : Nat) (p0_s : List GPlace) (m_p1_f : GPlace → Option Bool) : Option (Bool) :=
  ((slices_IndexFunc_Place F p0_s m_p1_f).bind fun r1 => some (decide (0 ≤ r1)))

def impl_IsEventGraph (F : Nat) (p0_g : GEventGraph) : Option (Bool) :=
  (Option.bind (((impl_within F p0_g.Events 1 10).bind fun r11 => (bif r11 then (bif (decide ((p0_g.Places.length : Int) ≤ 30)) then ((slices_ContainsFunc_Place F p0_g.Places (fun x0 => impl_IsEventGraph_c1 F x0 p0_g)).bind fun r15 => some (!r15)) else some false) else some false)) : Option (Bool)) fun b8 => some b8)

def impl_allWithin_L1 (F : Nat) (p0_list : List Int) (p1_low : Int) (p2_high : Int) : Nat → Int → Option (Sum Bool (Unit))
  | 0, _ => none
  | n24 + 1, x14 => (bif (decide (x14 < (p0_list.length : Int))) then ((idx p0_list x14).bind fun q26 => ((impl_within F q26 p1_low p2_high).bind fun r28 => (bif (!r28) then some (Sum.inl false) else (impl_allWithin_L1 F p0_list p1_low p2_high n24 (IntKind.i64.wrap (x14 + 1)))))) else some (Sum.inr ()))

def impl_allWithin (F : Nat) (p0_list : List Int) (p1_low : Int) (p2_high : Int) : Option (Bool) :=
  (Option.bind (impl_allWithin_L1 F p0_list p1_low p2_high F 0) fun r21 => match r21 with | .inl x_ => some x_ | .inr _ => some true)

def impl_isTimetable (F : Nat) (p0_g : GEventGraph) (p1_t : GTimetable) : Option (Bool) :=
  (Option.bind (((impl_within F p1_t.Period 0 100000).bind fun r12 => (bif r12 then (bif ((p1_t.Starts.length : Int) == p0_g.Events) then ((impl_allWithin F p1_t.Starts 0 1000000).bind fun r16 => some r16) else some false) else some false)) : Option (Bool)) fun b9 => some b9)

def slices_Index_int64_L1 (F : Nat) (p0_s : List Int) (p1_v : Int) : Nat → Int → Option (Sum Int (Unit))
  | 0, _ => none
  | n18 + 1, x10 => (bif (decide (x10 < (p0_s.length : Int))) then ((idx p0_s x10).bind fun q20 => (bif (p1_v == q20) then some (Sum.inl x10) else (slices_Index_int64_L1 F p0_s p1_v n18 (IntKind.i64.wrap (x10 + 1))))) else some (Sum.inr ()))

def slices_Index_int64 (F : Nat) (p0_s : List Int) (p1_v : Int) : Option (Int) :=
  (Option.bind (slices_Index_int64_L1 F p0_s p1_v F 0) fun r15 => match r15 with | .inl x_ => some x_ | .inr _ => some (-1))

def slices_Contains_int64 (F : Nat) (p0_s : List Int) (p1_v : Int) : Option (Bool) :=
  ((slices_Index_int64 F p0_s p1_v).bind fun r1 => some (decide (0 ≤ r1)))

def impl_firingOrder_c1 (F : Nat) (p0_p : GPlace) (z0 : Int) (z1 : List Int) : Option (Bool) :=
  (Option.bind ((bif (p0_p.To == z0) then (bif (p0_p.Tokens == 0) then ((slices_Contains_int64 F z1 p0_p.From).bind fun r11 => some (!r11)) else some false) else some false) : Option (Bool)) fun b6 => some b6)

def impl_firingOrder_L5 (F : Nat) (p0_g : GEventGraph) (xs227 : List Int) : Nat → Int → Int → Option (Int)
  | 0, _, _ => none
  | n427 + 1, x398, x400 => (Option.bind ((bif (decide (x400 < p0_g.Events)) then some (decide (x398 < 0)) else some false) : Option (Bool)) fun b429 => (bif b429 then (Option.bind (((slices_Contains_int64 F xs227 x400).bind fun r443 => (bif r443 then some x398 else ((slices_ContainsFunc_Place F p0_g.Places (fun x0 => impl_firingOrder_c1 F x0 x400 xs227)).bind fun r446 => (bif (!r446) then some x400 else some x398)))) : Option (Int)) fun x440 => (impl_firingOrder_L5 F p0_g xs227 n427 x440 (IntKind.i64.wrap (x400 + 1)))) else some x398))

def impl_firingOrder_L4 (F : Nat) (p0_g : GEventGraph) : Nat → (List Int) → Option (Sum (List Int × Bool) (List Int))
  | 0, _ => none
  | n348 + 1, xs227 => (bif (decide ((xs227.length : Int) < p0_g.Events)) then (Option.bind (impl_firingOrder_L5 F p0_g xs227 F (-1) 0) fun x423 => (bif (decide (x423 < 0)) then some (Sum.inl (([] : List Int), false)) else ((app xs227 ([x423])).bind fun xs456 => (impl_firingOrder_L4 F p0_g n348 xs456)))) else some (Sum.inr xs227))

def impl_firingOrder (F : Nat) (p0_g : GEventGraph) : Option (List Int × Bool) :=
  (Option.bind (impl_firingOrder_L4 F p0_g F []) fun r345 => match r345 with | .inl x_ => some x_ | .inr xs340 => some (xs340, true))

def impl_isLive (F : Nat) (p0_g : GEventGraph) : Option (Bool) :=
  ((impl_firingOrder F p0_g).bind fun r2 => some r2.2)

def impl_slacksOf_L1 (F : Nat) (p0_g : GEventGraph) (p1_t : GTimetable) : Nat → (List Int) → Int → Option (List Int)
  | 0, _, _ => none
  | n77 + 1, xs49, x51 => (bif (decide (x51 < (p0_g.Places.length : Int))) then ((idx p0_g.Places x51).bind fun q79 => ((idx p1_t.Starts q79.To).bind fun q90 => ((idx p1_t.Starts q79.From).bind fun q92 => ((idx xs49 x51).bind fun _q94 => ((upd xs49 x51 (IntKind.i64.wrap ((IntKind.i64.wrap ((IntKind.i64.wrap (q90 + (IntKind.i64.wrap (q79.Tokens * p1_t.Period)))) - q92)) - q79.Delay))).bind fun xs96 => (impl_slacksOf_L1 F p0_g p1_t n77 xs96 (IntKind.i64.wrap (x51 + 1)))))))) else some xs49)

def impl_slacksOf (F : Nat) (p0_g : GEventGraph) (p1_t : GTimetable) : Option (List Int) :=
  ((mk (p0_g.Places.length : Int) (0 : Int)).bind fun xs5 => (Option.bind (impl_slacksOf_L1 F p0_g p1_t F xs5 0) fun xs72 => some xs72))

def slices_IndexFunc_int64_L1 (F : Nat) (p0_s : List Int) (m_p1_f : Int → Option Bool) : Nat → Int → Option (Sum Int (Unit))
  | 0, _ => none
  | n24 + 1, x14 => (bif (decide (x14 < (p0_s.length : Int))) then ((idx p0_s x14).bind fun q26 => ((m_p1_f q26).bind fun r28 => (bif r28 then some (Sum.inl x14) else (slices_IndexFunc_int64_L1 F p0_s m_p1_f n24 (IntKind.i64.wrap (x14 + 1)))))) else some (Sum.inr ()))

def slices_IndexFunc_int64 (F : Nat) (p0_s : List Int) (m_p1_f : Int → Option Bool) : Option (Int) :=
  (Option.bind (slices_IndexFunc_int64_L1 F p0_s m_p1_f F 0) fun r21 => match r21 with | .inl x_ => some x_ | .inr _ => some (-1))

def slices_ContainsFunc_int64 (F : Nat) (p0_s : List Int) (m_p1_f : Int → Option Bool) : Option (Bool) :=
  ((slices_IndexFunc_int64 F p0_s m_p1_f).bind fun r1 => some (decide (0 ≤ r1)))

def impl_isKept_c1 (_F : Nat) (p0_slack : Int) : Option (Bool) :=
  some (decide (p0_slack < 0))

def impl_isKept (F : Nat) (p0_g : GEventGraph) (p1_t : GTimetable) : Option (Bool) :=
  ((impl_slacksOf F p0_g p1_t).bind fun r3 => ((slices_ContainsFunc_int64 F r3 (fun x0 => impl_isKept_c1 F x0)).bind fun r9 => some (!r9)))

def impl_checkDelays (F : Nat) (p0_g : GEventGraph) (p1_t : GTimetable) (p2_delays : List Int) (p3_ok : Bool) : Option (Int) :=
  ((impl_IsEventGraph F p0_g).bind fun r3 => (bif (!r3) then some 1 else (Option.bind (((impl_isTimetable F p0_g p1_t).bind fun r16 => (bif (!r16) then some true else (bif ((p2_delays.length : Int) != p0_g.Events) then some true else ((impl_allWithin F p2_delays 0 1000000).bind fun r20 => (bif (!r20) then some true else some (!p3_ok)))))) : Option (Bool)) fun b13 => (bif b13 then some 2 else (Option.bind (((impl_isLive F p0_g).bind fun r32 => (bif (!r32) then some true else ((impl_isKept F p0_g p1_t).bind fun r35 => some (!r35)))) : Option (Bool)) fun b29 => (bif b29 then some 5 else some 0))))))

def impl_FreeSlack_L1 (F : Nat) (p0_g : GEventGraph) (p2_event : Int) (r11 : List Int) : Nat → Int → Int → Option (Int)
  | 0, _, _ => none
  | n43 + 1, x31, x32 => (bif (decide (x32 < (r11.length : Int))) then ((idx r11 x32).bind fun q45 => ((idx p0_g.Places x32).bind fun q47 => (bif (q47.From == p2_event) then (impl_FreeSlack_L1 F p0_g p2_event r11 n43 (min x31 q45) (IntKind.i64.wrap (x32 + 1))) else (impl_FreeSlack_L1 F p0_g p2_event r11 n43 x31 (IntKind.i64.wrap (x32 + 1)))))) else some x31)

def impl_FreeSlack (F : Nat) (p0_g : GEventGraph) (p1_t : GTimetable) (p2_event : Int) : Option (Int × Int) :=
  ((mk (max 0 (min p0_g.Events 10)) (0 : Int)).bind fun xs5 => ((impl_within F p2_event 0 (IntKind.i64.wrap ((xs5.length : Int) - 1))).bind fun r6 => ((impl_checkDelays F p0_g p1_t xs5 r6).bind fun r8 => (bif (r8 != 0) then some (0, r8) else ((impl_slacksOf F p0_g p1_t).bind fun r11 => (Option.bind (impl_FreeSlack_L1 F p0_g p2_event r11 F 1000000 0) fun x39 => some (x39, 0)))))))

def laws_eqPlace (_F : Nat) (p0_a : GPlace) (p1_b : GPlace) : Option (Bool) :=
  (bif (p0_a.From != p1_b.From) then some false else (bif (p0_a.To != p1_b.To) then some false else (bif (p0_a.Delay != p1_b.Delay) then some false else (bif (p0_a.Tokens != p1_b.Tokens) then some false else some true))))

def laws_eqPlaceS_L1 (F : Nat) (p0_a : List GPlace) (p1_b : List GPlace) : Nat → Int → Option (Sum Bool (Unit))
  | 0, _ => none
  | n31 + 1, x19 => (bif (decide (x19 < (p0_a.length : Int))) then ((idx p0_a x19).bind fun q33 => ((idx p1_b x19).bind fun q35 => ((laws_eqPlace F q33 q35).bind fun r37 => (bif (!r37) then some (Sum.inl false) else (laws_eqPlaceS_L1 F p0_a p1_b n31 (IntKind.i64.wrap (x19 + 1))))))) else some (Sum.inr ()))

def laws_eqPlaceS (F : Nat) (p0_a : List GPlace) (p1_b : List GPlace) : Option (Bool) :=
  (bif ((p0_a.length : Int) != (p1_b.length : Int)) then some false else (Option.bind (laws_eqPlaceS_L1 F p0_a p1_b F 0) fun r28 => match r28 with | .inl x_ => some x_ | .inr _ => some true))

def laws_eqEventGraph (F : Nat) (p0_a : GEventGraph) (p1_b : GEventGraph) : Option (Bool) :=
  (bif (p0_a.Events != p1_b.Events) then some false else ((laws_eqPlaceS F p0_a.Places p1_b.Places).bind fun r4 => (bif (!r4) then some false else some true)))

def laws_eqInt64S_L1 (F : Nat) (p0_a : List Int) (p1_b : List Int) : Nat → Int → Option (Sum Bool (Unit))
  | 0, _ => none
  | n25 + 1, x15 => (bif (decide (x15 < (p0_a.length : Int))) then ((idx p0_a x15).bind fun q27 => ((idx p1_b x15).bind fun q29 => (bif (q27 != q29) then some (Sum.inl false) else (laws_eqInt64S_L1 F p0_a p1_b n25 (IntKind.i64.wrap (x15 + 1)))))) else some (Sum.inr ()))

def laws_eqInt64S (F : Nat) (p0_a : List Int) (p1_b : List Int) : Option (Bool) :=
  (bif ((p0_a.length : Int) != (p1_b.length : Int)) then some false else (Option.bind (laws_eqInt64S_L1 F p0_a p1_b F 0) fun r22 => match r22 with | .inl x_ => some x_ | .inr _ => some true))

def laws_eqTimetable (F : Nat) (p0_a : GTimetable) (p1_b : GTimetable) : Option (Bool) :=
  (bif (p0_a.Period != p1_b.Period) then some false else ((laws_eqInt64S F p0_a.Starts p1_b.Starts).bind fun r4 => (bif (!r4) then some false else some true)))

def laws_FnExactFreeSlack (F : Nat) (p0_aG : LEventGraph) (p1_aT : LTimetable) (p2_aEvent : Int) : Option (Bool) :=
  ((laws_szEventGraph F p0_aG 1048576).bind fun r3 => (bif (decide (r3 < 0)) then some true else ((laws_szTimetable F p1_aT r3).bind fun r6 => (bif (decide (r6 < 0)) then some true else ((laws_toEventGraph F p0_aG).bind fun r23 => ((laws_toTimetable F p1_aT).bind fun r29 => ((spec_FreeSlack F r23 r29 p2_aEvent).bind fun r35 => ((laws_toEventGraph F p0_aG).bind fun r37 => ((laws_toTimetable F p1_aT).bind fun r44 => ((impl_FreeSlack F r37 r44 p2_aEvent).bind fun r51 => (Option.bind ((bif (r51.1 != r35.1) then some true else some (r51.2 != r35.2)) : Option (Bool)) fun b54 => (bif b54 then some false else ((laws_toEventGraph F p0_aG).bind fun r67 => ((laws_eqEventGraph F r37 r67).bind fun r73 => (bif (!r73) then some false else ((laws_toTimetable F p1_aT).bind fun r84 => ((laws_eqTimetable F r44 r84).bind fun r90 => (bif (!r90) then some false else some true))))))))))))))))))

end Go.Proofs.Ythbcakdjdbfepaa
