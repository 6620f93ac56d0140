/- Plain models of the functions. -/
import Derived.Test.YtpmebacdmilecaaLiftT
namespace Go.Proofs.Ytpmebacdmilecaa

structure LPlace where
  From : Int
  To : Int
  Delay : Int
  Tokens : Int

structure LEventGraph where
  Events : Int
  Places : List LPlace

structure LTimetable where
  Period : Int
  Starts : List Int

structure GPlace where
  From : Int
  To : Int
  Delay : Int
  Tokens : Int

structure GEventGraph where
  Events : Int
  Places : List GPlace

structure GTimetable where
  Period : Int
  Starts : List Int

def laws_szPlaceS (_F : Nat) (p0_a : List LPlace) (p1_left : Int) : Option (Int) :=
  (bif (decide ((IntKind.i64.wrap (p1_left - (p0_a.length : Int))) < 0)) then some (-1) else some (IntKind.i64.wrap (p1_left - (p0_a.length : Int))))

def laws_szEventGraph (F : Nat) (p0_a : LEventGraph) (p1_left : Int) : Option (Int) :=
  ((laws_szPlaceS F p0_a.Places p1_left).bind fun r2 => (bif (decide (r2 < 0)) then some (-1) else some r2))

def laws_szInt64S (_F : Nat) (p0_a : List Int) (p1_left : Int) : Option (Int) :=
  (bif (decide ((IntKind.i64.wrap (p1_left - (p0_a.length : Int))) < 0)) then some (-1) else some (IntKind.i64.wrap (p1_left - (p0_a.length : Int))))

def laws_szTimetable (F : Nat) (p0_a : LTimetable) (p1_left : Int) : Option (Int) :=
  ((laws_szInt64S F p0_a.Starts p1_left).bind fun r2 => (bif (decide (r2 < 0)) then some (-1) else some r2))

def laws_toPlace (_F : Nat) (p0_a : LPlace) : Option (GPlace) :=
  some (GPlace.mk p0_a.From p0_a.To p0_a.Delay p0_a.Tokens)

def laws_toPlaceS_L1 (F : Nat) (p0_a : List LPlace) : Nat → (List GPlace) → Int → Option (List GPlace)
  | 0, _, _ => none
  | n42 + 1, xs25, x27 => (bif (decide (x27 < (p0_a.length : Int))) then ((idx p0_a x27).bind fun q44 => ((laws_toPlace F q44).bind fun r46 => ((idx xs25 x27).bind fun _q48 => ((upd xs25 x27 r46).bind fun xs50 => (laws_toPlaceS_L1 F p0_a n42 xs50 (IntKind.i64.wrap (x27 + 1))))))) else some xs25)

def laws_toPlaceS (F : Nat) (p0_a : List LPlace) : Option (List GPlace) :=
  ((mk (p0_a.length : Int) ((GPlace.mk 0 0 0 0) : GPlace)).bind fun xs3 => (Option.bind (laws_toPlaceS_L1 F p0_a F xs3 0) fun xs37 => some xs37))

def laws_toEventGraph (F : Nat) (p0_a : LEventGraph) : Option (GEventGraph) :=
  ((laws_toPlaceS F p0_a.Places).bind fun r4 => some (GEventGraph.mk p0_a.Events r4))

def laws_toInt64S_L1 (F : Nat) (p0_a : List Int) : Nat → (List Int) → Int → Option (List Int)
  | 0, _, _ => none
  | n36 + 1, xs21, x23 => (bif (decide (x23 < (p0_a.length : Int))) then ((idx p0_a x23).bind fun q38 => ((idx xs21 x23).bind fun _q40 => ((upd xs21 x23 q38).bind fun xs42 => (laws_toInt64S_L1 F p0_a n36 xs42 (IntKind.i64.wrap (x23 + 1)))))) else some xs21)

def laws_toInt64S (F : Nat) (p0_a : List Int) : Option (List Int) :=
  ((mk (p0_a.length : Int) (0 : Int)).bind fun xs3 => (Option.bind (laws_toInt64S_L1 F p0_a F xs3 0) fun xs31 => some xs31))

def laws_toTimetable (F : Nat) (p0_a : LTimetable) : Option (GTimetable) :=
  ((laws_toInt64S F p0_a.Starts).bind fun r4 => some (GTimetable.mk p0_a.Period r4))

def spec_l01In (_F : Nat) (p0_n : Int) (p1_low : Int) (p2_high : Int) : Option (Bool) :=
  (Option.bind ((bif (decide (p1_low ≤ p0_n)) then some (decide (p0_n ≤ p2_high)) else some false) : Option (Bool)) fun b2 => some b2)

def spec_l11Place (F : Nat) (p0_p : GPlace) (p1_events : Int) : Option (Bool) :=
  (Option.bind (((spec_l01In F p0_p.From 0 (IntKind.i64.wrap (p1_events - 1))).bind fun r16 => (bif r16 then ((spec_l01In F p0_p.To 0 (IntKind.i64.wrap (p1_events - 1))).bind fun r19 => (bif r19 then ((spec_l01In F p0_p.Delay 0 1000).bind fun r22 => (bif r22 then ((spec_l01In F p0_p.Tokens 0 5).bind fun r25 => some r25) else some false)) else some false)) else some false)) : Option (Bool)) fun b13 => some b13)

def spec_IsEventGraph_L1 (F : Nat) (p0_g : GEventGraph) : Nat → Int → Option (Sum Bool (Unit))
  | 0, _ => none
  | n25 + 1, x15 => (bif (decide (x15 < (p0_g.Places.length : Int))) then ((idx p0_g.Places x15).bind fun q27 => ((spec_l11Place F q27 p0_g.Events).bind fun r29 => (bif (!r29) then some (Sum.inl false) else (spec_IsEventGraph_L1 F p0_g n25 (IntKind.i64.wrap (x15 + 1)))))) else some (Sum.inr ()))

def spec_IsEventGraph (F : Nat) (p0_g : GEventGraph) : Option (Bool) :=
  (Option.bind (spec_IsEventGraph_L1 F p0_g F 0) fun r22 => match r22 with | .inl x_ => some x_ | .inr _ => (Option.bind (((spec_l01In F p0_g.Events 1 10).bind fun r38 => (bif r38 then some (decide ((p0_g.Places.length : Int) ≤ 30)) else some false)) : Option (Bool)) fun b35 => some b35))

def spec_l01Within_L1 (F : Nat) (p0_list : List Int) (p2_low : Int) (p3_high : Int) : Nat → Int → Option (Sum Bool (Unit))
  | 0, _ => none
  | n24 + 1, x14 => (bif (decide (x14 < (p0_list.length : Int))) then ((idx p0_list x14).bind fun q26 => ((spec_l01In F q26 p2_low p3_high).bind fun r28 => (bif (!r28) then some (Sum.inl false) else (spec_l01Within_L1 F p0_list p2_low p3_high n24 (IntKind.i64.wrap (x14 + 1)))))) else some (Sum.inr ()))

def spec_l01Within (F : Nat) (p0_list : List Int) (p1_most : Int) (p2_low : Int) (p3_high : Int) : Option (Bool) :=
  (Option.bind (spec_l01Within_L1 F p0_list p2_low p3_high F 0) fun r21 => match r21 with | .inl x_ => some x_ | .inr _ => some (decide ((p0_list.length : Int) ≤ p1_most)))

def spec_IsTimetable (F : Nat) (p0_g : GEventGraph) (p1_t : GTimetable) : Option (Bool) :=
  (Option.bind (((spec_IsEventGraph F p0_g).bind fun r15 => (bif r15 then ((spec_l01In F p1_t.Period 0 100000).bind fun r18 => (bif r18 then (bif ((p1_t.Starts.length : Int) == p0_g.Events) then ((spec_l01Within F p1_t.Starts 10 0 1000000).bind fun r22 => some r22) else some false) else some false)) else some false)) : Option (Bool)) fun b12 => some b12)

def spec_l20Code (F : Nat) (p0_g : GEventGraph) (p1_t : GTimetable) : Option (Int) :=
  ((spec_IsEventGraph F p0_g).bind fun r3 => (bif (!r3) then some 1 else ((spec_IsTimetable F p0_g p1_t).bind fun r6 => (bif (!r6) then some 2 else some 0))))

def spec_l02Bottom_L5 (F : Nat) (p1_n : Int) : Nat → (List Int) → Int → Option (List Int)
  | 0, _, _ => none
  | n252 + 1, xs231, x236 => (bif (decide (x236 < p1_n)) then ((app xs231 ([(-1000000000000000)])).bind fun xs258 => (spec_l02Bottom_L5 F p1_n n252 xs258 (IntKind.i64.wrap (x236 + 1)))) else some xs231)

def spec_l02Bottom_L4 (F : Nat) (p0_m : Int) (p1_n : Int) : Nat → (List (List Int)) → Int → Option (List (List Int))
  | 0, _, _ => none
  | n207 + 1, ms131, x137 => (bif (decide (x137 < p0_m)) then (Option.bind (spec_l02Bottom_L5 F p1_n F ([] : List Int) 0) fun xs244 => ((app ms131 ([xs244])).bind fun ms264 => (spec_l02Bottom_L4 F p0_m p1_n n207 ms264 (IntKind.i64.wrap (x137 + 1))))) else some ms131)

def spec_l02Bottom (F : Nat) (p0_m : Int) (p1_n : Int) : Option (List (List Int)) :=
  (Option.bind (spec_l02Bottom_L4 F p0_m p1_n F [] 0) fun ms198 => some ms198)

def spec_l12Free_L1 (F : Nat) (p0_g : GEventGraph) : Nat → (List (List Int)) → Int → Option (List (List Int))
  | 0, _, _ => none
  | n134 + 1, ms88, x90 => (bif (decide (x90 < (p0_g.Places.length : Int))) then ((idx p0_g.Places x90).bind fun q136 => (bif (q136.Tokens == 0) then ((idx p0_g.Places x90).bind fun q156 => ((idx ms88 q156.To).bind fun q158 => ((idx p0_g.Places x90).bind fun q163 => ((idx q158 q163.From).bind fun _q165 => ((upd q158 q163.From 0).bind fun xs167 => ((upd ms88 q156.To xs167).bind fun ms168 => (spec_l12Free_L1 F p0_g n134 ms168 (IntKind.i64.wrap (x90 + 1))))))))) else (spec_l12Free_L1 F p0_g n134 ms88 (IntKind.i64.wrap (x90 + 1))))) else some ms88)

def spec_l12Free (F : Nat) (p0_g : GEventGraph) : Option (List (List Int)) :=
  ((spec_l02Bottom F p0_g.Events p0_g.Events).bind fun r2 => (Option.bind (spec_l12Free_L1 F p0_g F r2 0) fun ms129 => some ms129))

def spec_l01Has_L1 (F : Nat) (p0_list : List Int) (p1_x : Int) : Nat → Int → Option (Sum Bool (Unit))
  | 0, _ => none
  | n18 + 1, x10 => (bif (decide (x10 < (p0_list.length : Int))) then ((idx p0_list x10).bind fun q20 => (bif (q20 == p1_x) then some (Sum.inl true) else (spec_l01Has_L1 F p0_list p1_x n18 (IntKind.i64.wrap (x10 + 1))))) else some (Sum.inr ()))

def spec_l01Has (F : Nat) (p0_list : List Int) (p1_x : Int) : Option (Bool) :=
  (Option.bind (spec_l01Has_L1 F p0_list p1_x F 0) fun r15 => match r15 with | .inl x_ => some x_ | .inr _ => some false)

def spec_l01Own (_F : Nat) (p0_list : List Int) : Option (List Int) :=
  ((app ([] : List Int) p0_list).bind fun xs5 => some xs5)

def spec_l03Grow_L1 (F : Nat) (p0 : List (List Int)) (p1 : List Int) (p2 : Int) (p3 : Int) (q3 : Int) (rec_ : (List (List Int)) → (List Int) → Int → Int → Option (List Int)) : Nat → Int → Option (Sum (List Int) (Unit))
  | 0, _ => none
  | n1402 + 1, x951 => (bif (decide (x951 < (p0.length : Int))) then (Option.bind ((Option.bind (((idx p0 x951).bind fun q1645 => ((idx q1645 q3).bind fun q1654 => (bif (q1654 == (-1000000000000000)) then some true else ((spec_l01Has F p1 x951).bind fun r1657 => some r1657)))) : Option (Bool)) fun b1642 => (bif b1642 then some (Sum.inr ()) else (Option.bind (((idx p0 x951).bind fun q1792 => ((idx q1792 q3).bind fun q1801 => ((spec_l01Own F p1).bind fun r1803 => ((app r1803 ([x951])).bind fun xs1813 => ((rec_ p0 xs1813 (IntKind.i64.wrap (p2 + q1801)) p3).bind fun r1815 => some r1815))))) : Option (List Int)) fun xs1751 => (bif (decide (0 < (xs1751.length : Int))) then some (Sum.inl xs1751) else some (Sum.inr ()))))) : Option (Sum (List Int) (Unit))) fun r1626 => match r1626 with | .inl x_ => some (Sum.inl x_) | .inr _ => (spec_l03Grow_L1 F p0 p1 p2 p3 q3 rec_ n1402 (IntKind.i64.wrap (x951 + 1)))) else some (Sum.inr ()))

def spec_l03Grow_rec (F : Nat) : Nat → (List (List Int)) → (List Int) → Int → Int → Option (List Int)
  | 0, _, _, _, _ => none
  | k_ + 1, p0, p1, p2, p3 => ((idx p1 0).bind fun q1 => ((idx p1 (IntKind.i64.wrap ((p1.length : Int) - 1))).bind fun q3 => (Option.bind (((idx p0 q1).bind fun q31 => ((idx q31 q3).bind fun q40 => (bif (q40 != (-1000000000000000)) then ((idx p0 q1).bind fun q43 => ((idx q43 q3).bind fun q52 => some (decide (p3 < (IntKind.i64.wrap (p2 + q52)))))) else some false))) : Option (Bool)) fun b28 => (bif b28 then some p1 else (Option.bind (spec_l03Grow_L1 F p0 p1 p2 p3 q3 (spec_l03Grow_rec F k_) F (IntKind.i64.wrap (q1 + 1))) fun r1399 => match r1399 with | .inl x_ => some x_ | .inr _ => some ([] : List Int))))))

def spec_l03Grow (F : Nat) (p0 : List (List Int)) (p1 : List Int) (p2 : Int) (p3 : Int) : Option (List Int) := spec_l03Grow_rec F F p0 p1 p2 p3

def spec_l03Over_L1 (F : Nat) (p0_a : List (List Int)) (p1_over : Int) : Nat → Int → Option (Sum (List Int) (Unit))
  | 0, _ => none
  | n51 + 1, x32 => (bif (decide (x32 < (p0_a.length : Int))) then ((spec_l03Grow F p0_a ([x32]) 0 p1_over).bind fun r55 => (bif (decide (0 < (r55.length : Int))) then some (Sum.inl r55) else (spec_l03Over_L1 F p0_a p1_over n51 (IntKind.i64.wrap (x32 + 1))))) else some (Sum.inr ()))

def spec_l03Over (F : Nat) (p0_a : List (List Int)) (p1_over : Int) : Option (List Int) :=
  (Option.bind (spec_l03Over_L1 F p0_a p1_over F 0) fun r48 => match r48 with | .inl x_ => some x_ | .inr _ => some ([] : List Int))

def spec_l12Dead (F : Nat) (p0_g : GEventGraph) : Option (List Int) :=
  ((spec_l12Free F p0_g).bind fun r2 => ((spec_l03Over F r2 (-1)).bind fun r9 => some r9))

def spec_l20Slacks_L1 (F : Nat) (p0_g : GEventGraph) (p1_t : GTimetable) : Nat → (List Int) → Int → Option (List Int)
  | 0, _, _ => none
  | n97 + 1, xs59, x64 => (bif (decide (x64 < (p0_g.Places.length : Int))) then ((idx p0_g.Places x64).bind fun q99 => ((idx p1_t.Starts q99.To).bind fun q112 => ((idx p1_t.Starts q99.From).bind fun q114 => ((app xs59 ([(IntKind.i64.wrap ((IntKind.i64.wrap ((IntKind.i64.wrap (q112 + (IntKind.i64.wrap (q99.Tokens * p1_t.Period)))) - q114)) - q99.Delay))])).bind fun xs120 => (spec_l20Slacks_L1 F p0_g p1_t n97 xs120 (IntKind.i64.wrap (x64 + 1))))))) else some xs59)

def spec_l20Slacks (F : Nat) (p0_g : GEventGraph) (p1_t : GTimetable) : Option (List Int) :=
  (Option.bind (spec_l20Slacks_L1 F p0_g p1_t F ([] : List Int) 0) fun xs89 => some xs89)

def spec_l20Kept_L1 (F : Nat) (r3 : List Int) : Nat → Int → Option (Sum Bool (Unit))
  | 0, _ => none
  | n26 + 1, x18 => (bif (decide (x18 < (r3.length : Int))) then ((idx r3 x18).bind fun q28 => (bif (decide (q28 < 0)) then some (Sum.inl false) else (spec_l20Kept_L1 F r3 n26 (IntKind.i64.wrap (x18 + 1))))) else some (Sum.inr ()))

def spec_l20Kept (F : Nat) (p0_g : GEventGraph) (p1_t : GTimetable) : Option (Bool) :=
  ((spec_l20Slacks F p0_g p1_t).bind fun r3 => (Option.bind (spec_l20Kept_L1 F r3 F 0) fun r23 => match r23 with | .inl x_ => some x_ | .inr _ => some true))

def spec_l21Code (F : Nat) (p0_g : GEventGraph) (p1_t : GTimetable) (p2_delays : List Int) (p3_in : Bool) : Option (Int) :=
  ((spec_l20Code F p0_g p1_t).bind fun r3 => (bif (r3 != 0) then some r3 else (Option.bind ((bif (!p3_in) then some true else (bif ((p2_delays.length : Int) != p0_g.Events) then some true else ((spec_l01Within F p2_delays 10 0 1000000).bind fun r15 => some (!r15)))) : Option (Bool)) fun b10 => (bif b10 then some 2 else (Option.bind (((spec_l12Dead F p0_g).bind fun r30 => (bif (decide (0 < (r30.length : Int))) then some true else ((spec_l20Kept F p0_g p1_t).bind fun r37 => some (!r37)))) : Option (Bool)) fun b27 => (bif b27 then some 5 else some 0))))))

def spec_l12Order_L21 (F : Nat) (p0_g : GEventGraph) (r2 : List (List Int)) (xs1024 : List Int) (x1790 : Int) : Nat → Bool → Int → Option (Bool)
  | 0, _, _ => none
  | n2012 + 1, b1980, x1981 => (bif (decide (x1981 < p0_g.Events)) then (Option.bind ((bif b1980 then ((idx r2 x1790).bind fun q2029 => ((idx q2029 x1981).bind fun q2034 => (bif (q2034 == (-1000000000000000)) then some true else ((spec_l01Has F xs1024 x1981).bind fun r2037 => some r2037)))) else some false) : Option (Bool)) fun b2025 => (spec_l12Order_L21 F p0_g r2 xs1024 x1790 n2012 b2025 (IntKind.i64.wrap (x1981 + 1)))) else some b1980)

def spec_l12Order_L20 (F : Nat) (p0_g : GEventGraph) (r2 : List (List Int)) (xs1024 : List Int) : Nat → Int → Option (List Int)
  | 0, _ => none
  | n1922 + 1, x1790 => (bif (decide (x1790 < p0_g.Events)) then ((spec_l01Has F xs1024 x1790).bind fun r1924 => (Option.bind (spec_l12Order_L21 F p0_g r2 xs1024 x1790 F (!r1924) 0) fun b2008 => (bif b2008 then ((app xs1024 ([x1790])).bind fun xs2044 => some xs2044) else (spec_l12Order_L20 F p0_g r2 xs1024 n1922 (IntKind.i64.wrap (x1790 + 1)))))) else some xs1024)

def spec_l12Order_L16 (F : Nat) (p0_g : GEventGraph) (r2 : List (List Int)) : Nat → (List Int) → Option (List Int)
  | 0, _ => none
  | n1541 + 1, xs1024 => (bif (decide ((xs1024.length : Int) < p0_g.Events)) then (Option.bind (spec_l12Order_L20 F p0_g r2 xs1024 F 0) fun xs1914 => (spec_l12Order_L16 F p0_g r2 n1541 xs1914)) else some xs1024)

def spec_l12Order (F : Nat) (p0_g : GEventGraph) : Option (List Int) :=
  ((spec_l12Free F p0_g).bind fun r2 => (Option.bind (spec_l12Order_L16 F p0_g r2 F ([] : List Int)) fun xs1533 => some xs1533))

def spec_l21Table_L21 (F : Nat) (p0 : GEventGraph) (p1 : GTimetable) (r3 : List Int) (ms3877 : List (List Int)) (x3883 : Int) (x6803 : Int) : Nat → (List (List Int)) → Int → (List Int) → Option ((List (List Int)) × (List Int))
  | 0, _, _, _ => none
  | n7640 + 1, ms7513, x7515, xs7516 => (bif (decide (x7515 < (p0.Places.length : Int))) then (Option.bind (((idx p0.Places x7515).bind fun q7701 => (Option.bind (((idx r3 x6803).bind fun q7710 => (bif (q7701.To != q7710) then some true else some (decide ((IntKind.i64.wrap (x3883 - q7701.Tokens)) < 1)))) : Option (Bool)) fun b7707 => (bif b7707 then some (ms7513, xs7516) else ((idx p1.Starts q7701.To).bind fun q7714 => ((idx p1.Starts q7701.From).bind fun q7716 => ((idx xs7516 q7701.To).bind fun q7735 => ((idx ms7513 (IntKind.i64.wrap ((IntKind.i64.wrap (x3883 - q7701.Tokens)) - 1))).bind fun q7737 => ((idx q7737 q7701.From).bind fun q7742 => ((idx xs7516 q7701.To).bind fun _q7744 => ((upd xs7516 q7701.To (max q7735 (IntKind.i64.wrap (q7742 - (IntKind.i64.wrap ((IntKind.i64.wrap ((IntKind.i64.wrap (q7714 + (IntKind.i64.wrap (q7701.Tokens * p1.Period)))) - q7716)) - q7701.Delay)))))).bind fun xs7746 => ((upd ms7513 (ms3877.length : Int) xs7746).bind fun ms7747 => some (ms7747, xs7746)))))))))))) : Option ((List (List Int)) × (List Int))) fun (ms7693, xs7695) => (spec_l21Table_L21 F p0 p1 r3 ms3877 x3883 x6803 n7640 ms7693 (IntKind.i64.wrap (x7515 + 1)) xs7695)) else some (ms7513, xs7516))

def spec_l21Table_L20 (F : Nat) (p0 : GEventGraph) (p1 : GTimetable) (r3 : List Int) (ms3877 : List (List Int)) (x3883 : Int) : Nat → (List (List Int)) → Int → (List Int) → Option (List (List Int))
  | 0, _, _, _ => none
  | n7282 + 1, ms6801, x6803, xs6804 => (bif (decide (x6803 < (r3.length : Int))) then (Option.bind (spec_l21Table_L21 F p0 p1 r3 ms3877 x3883 x6803 F ms6801 0 xs6804) fun (ms7631, xs7633) => (spec_l21Table_L20 F p0 p1 r3 ms3877 x3883 n7282 ms7631 (IntKind.i64.wrap (x6803 + 1)) xs7633)) else some ms6801)

def spec_l21Table_L16 (F : Nat) (p0 : GEventGraph) (p1 : GTimetable) (p2 : List Int) (p3 : Int) (r3 : List Int) : Nat → (List (List Int)) → Int → Option (List (List Int))
  | 0, _, _ => none
  | n5822 + 1, ms3877, x3883 => (bif (decide (x3883 ≤ p3)) then ((mk p0.Events (0 : Int)).bind fun xs5826 => (Option.bind ((bif (x3883 == 1) then ((spec_l01Own F p2).bind fun r5842 => some r5842) else some xs5826) : Option (List Int)) fun xs5834 => ((app ms3877 ([xs5834])).bind fun ms5852 => (Option.bind (spec_l21Table_L20 F p0 p1 r3 ms3877 x3883 F ms5852 0 xs5834) fun ms7277 => (spec_l21Table_L16 F p0 p1 p2 p3 r3 n5822 ms7277 (IntKind.i64.wrap (x3883 + 1))))))) else some ms3877)

def spec_l21Table (F : Nat) (p0 : GEventGraph) (p1 : GTimetable) (p2 : List Int) (p3 : Int) : Option (List (List Int)) :=
  ((spec_l12Order F p0).bind fun r3 => (Option.bind (spec_l21Table_L16 F p0 p1 p2 p3 r3 F [] 1) fun ms5813 => some ms5813))

def spec_l16Sum_L1 (F : Nat) (p0_list : List Int) : Nat → Int → Int → Option (Int)
  | 0, _, _ => none
  | n18 + 1, x9, x10 => (bif (decide (x10 < (p0_list.length : Int))) then ((idx p0_list x10).bind fun q20 => (spec_l16Sum_L1 F p0_list n18 (IntKind.i64.wrap (x9 + q20)) (IntKind.i64.wrap (x10 + 1)))) else some x9)

def spec_l16Sum (F : Nat) (p0_list : List Int) : Option (Int) :=
  (Option.bind (spec_l16Sum_L1 F p0_list F 0 0) fun x14 => some x14)

def spec_l21Settled_L1 (F : Nat) (r3 : List (List Int)) : Nat → Int → Int → Option (Int)
  | 0, _, _ => none
  | n45 + 1, x30, x31 => (bif (decide (x31 < 50)) then ((idx r3 x31).bind fun q47 => ((spec_l16Sum F q47).bind fun r52 => (bif (decide (0 < r52)) then (spec_l21Settled_L1 F r3 n45 (IntKind.i64.wrap (x31 + 1)) (IntKind.i64.wrap (x31 + 1))) else (spec_l21Settled_L1 F r3 n45 x30 (IntKind.i64.wrap (x31 + 1)))))) else some x30)

def spec_l21Settled (F : Nat) (p0_g : GEventGraph) (p1_t : GTimetable) (p2_delays : List Int) : Option (List (List Int) × Int × Bool) :=
  ((spec_l21Table F p0_g p1_t p2_delays 50).bind fun r3 => (Option.bind (spec_l21Settled_L1 F r3 F 0 0) fun x41 => some (r3, x41, (decide (x41 ≤ 45)))))

def spec_l07Flat_L1 (F : Nat) (p0_a : List (List Int)) : Nat → (List Int) → Int → Option (List Int)
  | 0, _, _ => none
  | n65 + 1, xs37, x42 => (bif (decide (x42 < (p0_a.length : Int))) then ((idx p0_a x42).bind fun q67 => ((app xs37 q67).bind fun xs78 => (spec_l07Flat_L1 F p0_a n65 xs78 (IntKind.i64.wrap (x42 + 1))))) else some xs37)

def spec_l07Flat (F : Nat) (p0_a : List (List Int)) : Option (List Int) :=
  (Option.bind (spec_l07Flat_L1 F p0_a F ([] : List Int) 0) fun xs57 => some xs57)

def spec_TotalDelay (F : Nat) (p0_g : GEventGraph) (p1_t : GTimetable) (p2_delays : List Int) : Option (Int × Int) :=
  ((spec_l21Code F p0_g p1_t p2_delays true).bind fun r3 => (bif (r3 != 0) then some (0, r3) else ((spec_l21Settled F p0_g p1_t p2_delays).bind fun r6 => (bif (!r6.2.2) then some (0, 4) else ((spec_l07Flat F r6.1).bind fun r14 => ((spec_l16Sum F r14).bind fun r20 => some (r20, 0)))))))

def impl_within (_F : Nat) (p0_n : Int) (p1_low : Int) (p2_high : Int) : Option (Bool) :=
  (Option.bind ((bif (decide (p1_low ≤ p0_n)) then some (decide (p0_n ≤ p2_high)) else some false) : Option (Bool)) fun b2 => some b2)

def impl_isEvent (F : Nat) (p0_g : GEventGraph) (p1_event : Int) : Option (Bool) :=
  ((impl_within F p1_event 0 (IntKind.i64.wrap (p0_g.Events - 1))).bind fun r2 => some r2)

def impl_isPlace (F : Nat) (p0_g : GEventGraph) (p1_p : GPlace) : Option (Bool) :=
  (Option.bind (((impl_isEvent F p0_g p1_p.From).bind fun r17 => (bif r17 then ((impl_isEvent F p0_g p1_p.To).bind fun r20 => (bif r20 then ((impl_within F p1_p.Delay 0 1000).bind fun r23 => (bif r23 then ((impl_within F p1_p.Tokens 0 5).bind fun r26 => some r26) else some false)) else some false)) else some false)) : Option (Bool)) fun b14 => some b14)

def impl_IsEventGraph_c1 (F : Nat) (p0_p : GPlace) (z0 : GEventGraph) : Option (Bool) :=
  ((impl_isPlace F z0 p0_p).bind fun r2 => some (!r2))

def slices_IndexFunc_Place_L1 (F : Nat) (p0_s : List GPlace) (m_p1_f : GPlace → Option Bool) : Nat → Int → Option (Sum Int (Unit))
  | 0, _ => none
  | n24 + 1, x14 => (bif (decide (x14 < (p0_s.length : Int))) then ((idx p0_s x14).bind fun q26 => ((m_p1_f q26).bind fun r28 => (bif r28 then some (Sum.inl x14) else (slices_IndexFunc_Place_L1 F p0_s m_p1_f n24 (IntKind.i64.wrap (x14 + 1)))))) else some (Sum.inr ()))

def slices_IndexFunc_Place (F : Nat) (p0_s : List GPlace) (m_p1_f : GPlace → Option Bool) : Option (Int) :=
  (Option.bind (slices_IndexFunc_Place_L1 F p0_s m_p1_f F 0) fun r21 => match r21 with | .inl x_ => some x_ | .inr _ => some (-1))

def slices_ContainsFunc_Place (F : Nat) (p0_s : List GPlace) (m_p1_f : GPlace → Option Bool) : Option (Bool) :=
  ((slices_IndexFunc_Place F p0_s m_p1_f).bind fun r1 => some (decide (0 ≤ r1)))

def impl_IsEventGraph (F : Nat) (p0_g : GEventGraph) : Option (Bool) :=
  (Option.bind (((impl_within F p0_g.Events 1 10).bind fun r11 => (bif r11 then (bif (decide ((p0_g.Places.length : Int) ≤ 30)) then ((slices_ContainsFunc_Place F p0_g.Places (fun x0 => impl_IsEventGraph_c1 F x0 p0_g)).bind fun r15 => some (!r15)) else some false) else some false)) : Option (Bool)) fun b8 => some b8)

def impl_allWithin_L1 (F : Nat) (p0_list : List Int) (p1_low : Int) (p2_high : Int) : Nat → Int → Option (Sum Bool (Unit))
  | 0, _ => none
  | n24 + 1, x14 => (bif (decide (x14 < (p0_list.length : Int))) then ((idx p0_list x14).bind fun q26 => ((impl_within F q26 p1_low p2_high).bind fun r28 => (bif (!r28) then some (Sum.inl false) else (impl_allWithin_L1 F p0_list p1_low p2_high n24 (IntKind.i64.wrap (x14 + 1)))))) else some (Sum.inr ()))

def impl_allWithin (F : Nat) (p0_list : List Int) (p1_low : Int) (p2_high : Int) : Option (Bool) :=
  (Option.bind (impl_allWithin_L1 F p0_list p1_low p2_high F 0) fun r21 => match r21 with | .inl x_ => some x_ | .inr _ => some true)

def impl_isTimetable (F : Nat) (p0_g : GEventGraph) (p1_t : GTimetable) : Option (Bool) :=
  (Option.bind (((impl_within F p1_t.Period 0 100000).bind fun r12 => (bif r12 then (bif ((p1_t.Starts.length : Int) == p0_g.Events) then ((impl_allWithin F p1_t.Starts 0 1000000).bind fun r16 => some r16) else some false) else some false)) : Option (Bool)) fun b9 => some b9)

def slices_Index_int64_L1 (F : Nat) (p0_s : List Int) (p1_v : Int) : Nat → Int → Option (Sum Int (Unit))
  | 0, _ => none
  | n18 + 1, x10 => (bif (decide (x10 < (p0_s.length : Int))) then ((idx p0_s x10).bind fun q20 => (bif (p1_v == q20) then some (Sum.inl x10) else (slices_Index_int64_L1 F p0_s p1_v n18 (IntKind.i64.wrap (x10 + 1))))) else some (Sum.inr ()))

def slices_Index_int64 (F : Nat) (p0_s : List Int) (p1_v : Int) : Option (Int) :=
  (Option.bind (slices_Index_int64_L1 F p0_s p1_v F 0) fun r15 => match r15 with | .inl x_ => some x_ | .inr _ => some (-1))

def slices_Contains_int64 (F : Nat) (p0_s : List Int) (p1_v : Int) : Option (Bool) :=
  ((slices_Index_int64 F p0_s p1_v).bind fun r1 => some (decide (0 ≤ r1)))

def impl_firingOrder_c1 (F : Nat) (p0_p : GPlace) (z0 : Int) (z1 : List Int) : Option (Bool) :=
  (Option.bind ((bif (p0_p.To == z0) then (bif (p0_p.Tokens == 0) then ((slices_Contains_int64 F z1 p0_p.From).bind fun r11 => some (!r11)) else some false) else some false) : Option (Bool)) fun b6 => some b6)

def impl_firingOrder_L5 (F : Nat) (p0_g : GEventGraph) (xs227 : List Int) : Nat → Int → Int → Option (Int)
  | 0, _, _ => none
  | n427 + 1, x398, x400 => (Option.bind ((bif (decide (x400 < p0_g.Events)) then some (decide (x398 < 0)) else some false) : Option (Bool)) fun b429 => (bif b429 then (Option.bind (((slices_Contains_int64 F xs227 x400).bind fun r443 => (bif r443 then some x398 else ((slices_ContainsFunc_Place F p0_g.Places (fun x0 => impl_firingOrder_c1 F x0 x400 xs227)).bind fun r446 => (bif (!r446) then some x400 else some x398)))) : Option (Int)) fun x440 => (impl_firingOrder_L5 F p0_g xs227 n427 x440 (IntKind.i64.wrap (x400 + 1)))) else some x398))

def impl_firingOrder_L4 (F : Nat) (p0_g : GEventGraph) : Nat → (List Int) → Option (Sum (List Int × Bool) (List Int))
  | 0, _ => none
  | n348 + 1, xs227 => (bif (decide ((xs227.length : Int) < p0_g.Events)) then (Option.bind (impl_firingOrder_L5 F p0_g xs227 F (-1) 0) fun x423 => (bif (decide (x423 < 0)) then some (Sum.inl (([] : List Int), false)) else ((app xs227 ([x423])).bind fun xs456 => (impl_firingOrder_L4 F p0_g n348 xs456)))) else some (Sum.inr xs227))

def impl_firingOrder (F : Nat) (p0_g : GEventGraph) : Option (List Int × Bool) :=
  (Option.bind (impl_firingOrder_L4 F p0_g F []) fun r345 => match r345 with | .inl x_ => some x_ | .inr xs340 => some (xs340, true))

def impl_isLive (F : Nat) (p0_g : GEventGraph) : Option (Bool) :=
  ((impl_firingOrder F p0_g).bind fun r2 => some r2.2)

def impl_slacksOf_L1 (F : Nat) (p0_g : GEventGraph) (p1_t : GTimetable) : Nat → (List Int) → Int → Option (List Int)
  | 0, _, _ => none
  | n77 + 1, xs49, x51 => (bif (decide (x51 < (p0_g.Places.length : Int))) then ((idx p0_g.Places x51).bind fun q79 => ((idx p1_t.Starts q79.To).bind fun q90 => ((idx p1_t.Starts q79.From).bind fun q92 => ((idx xs49 x51).bind fun _q94 => ((upd xs49 x51 (IntKind.i64.wrap ((IntKind.i64.wrap ((IntKind.i64.wrap (q90 + (IntKind.i64.wrap (q79.Tokens * p1_t.Period)))) - q92)) - q79.Delay))).bind fun xs96 => (impl_slacksOf_L1 F p0_g p1_t n77 xs96 (IntKind.i64.wrap (x51 + 1)))))))) else some xs49)

def impl_slacksOf (F : Nat) (p0_g : GEventGraph) (p1_t : GTimetable) : Option (List Int) :=
  ((mk (p0_g.Places.length : Int) (0 : Int)).bind fun xs5 => (Option.bind (impl_slacksOf_L1 F p0_g p1_t F xs5 0) fun xs72 => some xs72))

def slices_IndexFunc_int64_L1 (F : Nat) (p0_s : List Int) (m_p1_f : Int → Option Bool) : Nat → Int → Option (Sum Int (Unit))
  | 0, _ => none
  | n24 + 1, x14 => (bif (decide (x14 < (p0_s.length : Int))) then ((idx p0_s x14).bind fun q26 => ((m_p1_f q26).bind fun r28 => (bif r28 then some (Sum.inl x14) else (slices_IndexFunc_int64_L1 F p0_s m_p1_f n24 (IntKind.i64.wrap (x14 + 1)))))) else some (Sum.inr ()))

def slices_IndexFunc_int64 (F : Nat) (p0_s : List Int) (m_p1_f : Int → Option Bool) : Option (Int) :=
  (Option.bind (slices_IndexFunc_int64_L1 F p0_s m_p1_f F 0) fun r21 => match r21 with | .inl x_ => some x_ | .inr _ => some (-1))

def slices_ContainsFunc_int64 (F : Nat) (p0_s : List Int) (m_p1_f : Int → Option Bool) : Option (Bool) :=
  ((slices_IndexFunc_int64 F p0_s m_p1_f).bind fun r1 => some (decide (0 ≤ r1)))

def impl_isKept_c1 (_F : Nat) (p0_slack : Int) : Option (Bool) :=
  some (decide (p0_slack < 0))

def impl_isKept (F : Nat) (p0_g : GEventGraph) (p1_t : GTimetable) : Option (Bool) :=
  ((impl_slacksOf F p0_g p1_t).bind fun r3 => ((slices_ContainsFunc_int64 F r3 (fun x0 => impl_isKept_c1 F x0)).bind fun r9 => some (!r9)))

def impl_checkDelays (F : Nat) (p0_g : GEventGraph) (p1_t : GTimetable) (p2_delays : List Int) (p3_ok : Bool) : Option (Int) :=
  ((impl_IsEventGraph F p0_g).bind fun r3 => (bif (!r3) then some 1 else (Option.bind (((impl_isTimetable F p0_g p1_t).bind fun r16 => (bif (!r16) then some true else (bif ((p2_delays.length : Int) != p0_g.Events) then some true else ((impl_allWithin F p2_delays 0 1000000).bind fun r20 => (bif (!r20) then some true else some (!p3_ok)))))) : Option (Bool)) fun b13 => (bif b13 then some 2 else (Option.bind (((impl_isLive F p0_g).bind fun r32 => (bif (!r32) then some true else ((impl_isKept F p0_g p1_t).bind fun r35 => some (!r35)))) : Option (Bool)) fun b29 => (bif b29 then some 5 else some 0))))))

def impl_delayTable_L21 (F : Nat) (p0 : GEventGraph) (ms1831 : List (List Int)) (x1837 : Int) (q3444 : Int) (r3446 : List Int) : Nat → (List (List Int)) → Int → (List Int) → Option ((List (List Int)) × (List Int))
  | 0, _, _, _ => none
  | n3613 + 1, ms3551, x3553, xs3554 => (bif (decide (x3553 < (r3446.length : Int))) then ((idx r3446 x3553).bind fun q3615 => ((idx p0.Places x3553).bind fun q3617 => (Option.bind ((bif (q3617.To == q3444) then some (decide (q3617.Tokens ≤ x1837)) else some false) : Option (Bool)) fun b3621 => (bif b3621 then ((idx xs3554 q3444).bind fun q3643 => ((idx ms3551 (IntKind.i64.wrap (x1837 - q3617.Tokens))).bind fun q3645 => ((idx q3645 q3617.From).bind fun q3650 => ((idx xs3554 q3444).bind fun _q3652 => ((upd xs3554 q3444 (max q3643 (IntKind.i64.wrap (q3650 - q3615)))).bind fun xs3654 => ((upd ms3551 (ms1831.length : Int) xs3654).bind fun ms3655 => (impl_delayTable_L21 F p0 ms1831 x1837 q3444 r3446 n3613 ms3655 (IntKind.i64.wrap (x3553 + 1)) xs3654))))))) else (impl_delayTable_L21 F p0 ms1831 x1837 q3444 r3446 n3613 ms3551 (IntKind.i64.wrap (x3553 + 1)) xs3554))))) else some (ms3551, xs3554))

def impl_delayTable_L20 (F : Nat) (p0 : GEventGraph) (p1 : GTimetable) (r3 : List Int × Bool) (ms1831 : List (List Int)) (x1837 : Int) : Nat → (List (List Int)) → Int → (List Int) → Option (List (List Int))
  | 0, _, _, _ => none
  | n3442 + 1, ms3213, x3215, xs3216 => (bif (decide (x3215 < (r3.1.length : Int))) then ((idx r3.1 x3215).bind fun q3444 => ((impl_slacksOf F p0 p1).bind fun r3446 => (Option.bind (impl_delayTable_L21 F p0 ms1831 x1837 q3444 r3446 F ms3213 0 xs3216) fun (ms3604, xs3606) => (impl_delayTable_L20 F p0 p1 r3 ms1831 x1837 n3442 ms3604 (IntKind.i64.wrap (x3215 + 1)) xs3606)))) else some ms3213)

def impl_delayTable_L16 (F : Nat) (p0 : GEventGraph) (p1 : GTimetable) (p2 : List Int) (p3 : Int) (r3 : List Int × Bool) : Nat → (List (List Int)) → Int → Option (List (List Int))
  | 0, _, _ => none
  | n2753 + 1, ms1831, x1837 => (bif (decide (x1837 < p3)) then ((mk p0.Events (0 : Int)).bind fun xs2757 => (Option.bind ((bif (x1837 == 0) then some (cpy xs2757 p2) else some xs2757) : Option (List Int)) fun xs2759 => ((app ms1831 ([xs2759])).bind fun ms2768 => (Option.bind (impl_delayTable_L20 F p0 p1 r3 ms1831 x1837 F ms2768 0 xs2759) fun ms3437 => (impl_delayTable_L16 F p0 p1 p2 p3 r3 n2753 ms3437 (IntKind.i64.wrap (x1837 + 1))))))) else some ms1831)

def impl_delayTable (F : Nat) (p0 : GEventGraph) (p1 : GTimetable) (p2 : List Int) (p3 : Int) : Option (List (List Int)) :=
  ((impl_firingOrder F p0).bind fun r3 => (Option.bind (impl_delayTable_L16 F p0 p1 p2 p3 r3 F ([] : List (List Int)) 0) fun ms2744 => some ms2744))

def impl_settledTable_L1 (F : Nat) (r3 : List (List Int)) : Nat → Int → Option (Int)
  | 0, _ => none
  | n76 + 1, x51 => (Option.bind ((bif (decide (0 < x51)) then ((idx r3 (IntKind.i64.wrap (x51 - 1))).bind fun q89 => ((impl_allWithin F q89 0 0).bind fun r94 => some r94)) else some false) : Option (Bool)) fun b85 => (bif b85 then (impl_settledTable_L1 F r3 n76 (IntKind.i64.wrap (x51 - 1))) else some x51))

def impl_settledTable (F : Nat) (p0_g : GEventGraph) (p1_t : GTimetable) (p2_delays : List Int) : Option (List (List Int) × Int × Int) :=
  ((impl_delayTable F p0_g p1_t p2_delays 50).bind fun r3 => (Option.bind (impl_settledTable_L1 F r3 F (r3.length : Int)) fun x72 => (bif (decide (45 < x72)) then some (([] : List (List Int)), 0, 4) else some (r3, x72, 0))))

def slices_Grow_int64 (_F : Nat) (p1_n : Int) : Option (List Int) :=
  (bif (decide (p1_n < 0)) then none else (Option.bind ((bif (decide (0 < (IntKind.i64.wrap (p1_n - (IntKind.i64.wrap (0 - (([] : List Int).length : Int))))))) then ((mkz (IntKind.i64.wrap (p1_n - (IntKind.i64.wrap (0 - (([] : List Int).length : Int)))))).bind fun xs19 => ((cutTo xs19 (([] : List Int).length : Int)).bind fun xs22 => some xs22)) else some ([] : List Int)) : Option (List Int)) fun xs9 => some xs9))

def slices_Concat_int64_L1 (F : Nat) (p0_slices : List (List Int)) : Nat → Int → Int → Option (Int)
  | 0, _, _ => none
  | n42 + 1, x25, x26 => (bif (decide (x26 < (p0_slices.length : Int))) then ((idx p0_slices x26).bind fun q44 => (bif (decide ((IntKind.i64.wrap (x25 + (q44.length : Int))) < 0)) then none else (slices_Concat_int64_L1 F p0_slices n42 (IntKind.i64.wrap (x25 + (q44.length : Int))) (IntKind.i64.wrap (x26 + 1))))) else some x25)

def slices_Concat_int64_L2 (F : Nat) (p0_slices : List (List Int)) : Nat → (List Int) → Int → Option (List Int)
  | 0, _, _ => none
  | n122 + 1, xs94, x99 => (bif (decide (x99 < (p0_slices.length : Int))) then ((idx p0_slices x99).bind fun q124 => ((app xs94 q124).bind fun xs135 => (slices_Concat_int64_L2 F p0_slices n122 xs135 (IntKind.i64.wrap (x99 + 1))))) else some xs94)

def slices_Concat_int64 (F : Nat) (p0_slices : List (List Int)) : Option (List Int) :=
  (Option.bind (slices_Concat_int64_L1 F p0_slices F 0 0) fun x38 => ((slices_Grow_int64 F x38).bind fun r54 => (Option.bind (slices_Concat_int64_L2 F p0_slices F r54 0) fun xs114 => some xs114)))

def impl_total_L1 (F : Nat) (p0_list : List Int) : Nat → Int → Int → Option (Int)
  | 0, _, _ => none
  | n18 + 1, x9, x10 => (bif (decide (x10 < (p0_list.length : Int))) then ((idx p0_list x10).bind fun q20 => (impl_total_L1 F p0_list n18 (IntKind.i64.wrap (x9 + q20)) (IntKind.i64.wrap (x10 + 1)))) else some x9)

def impl_total (F : Nat) (p0_list : List Int) : Option (Int) :=
  (Option.bind (impl_total_L1 F p0_list F 0 0) fun x14 => some x14)

def impl_TotalDelay (F : Nat) (p0_g : GEventGraph) (p1_t : GTimetable) (p2_delays : List Int) : Option (Int × Int) :=
  ((impl_checkDelays F p0_g p1_t p2_delays true).bind fun r3 => (bif (r3 != 0) then some (0, r3) else ((impl_settledTable F p0_g p1_t p2_delays).bind fun r6 => (bif (r6.2.2 != 0) then some (0, r6.2.2) else ((slices_Concat_int64 F r6.1).bind fun r14 => ((impl_total F r14).bind fun r20 => some (r20, 0)))))))

def laws_eqPlace (_F : Nat) (p0_a : GPlace) (p1_b : GPlace) : Option (Bool) :=
  (bif (p0_a.From != p1_b.From) then some false else (bif (p0_a.To != p1_b.To) then some false else (bif (p0_a.Delay != p1_b.Delay) then some false else (bif (p0_a.Tokens != p1_b.Tokens) then some false else some true))))

def laws_eqPlaceS_L1 (F : Nat) (p0_a : List GPlace) (p1_b : List GPlace) : Nat → Int → Option (Sum Bool (Unit))
  | 0, _ => none
  | n31 + 1, x19 => (bif (decide (x19 < (p0_a.length : Int))) then ((idx p0_a x19).bind fun q33 => ((idx p1_b x19).bind fun q35 => ((laws_eqPlace F q33 q35).bind fun r37 => (bif (!r37) then some (Sum.inl false) else (laws_eqPlaceS_L1 F p0_a p1_b n31 (IntKind.i64.wrap (x19 + 1))))))) else some (Sum.inr ()))

def laws_eqPlaceS (F : Nat) (p0_a : List GPlace) (p1_b : List GPlace) : Option (Bool) :=
  (bif ((p0_a.length : Int) != (p1_b.length : Int)) then some false else (Option.bind (laws_eqPlaceS_L1 F p0_a p1_b F 0) fun r28 => match r28 with | .inl x_ => some x_ | .inr _ => some true))

def laws_eqEventGraph (F : Nat) (p0_a : GEventGraph) (p1_b : GEventGraph) : Option (Bool) :=
  (bif (p0_a.Events != p1_b.Events) then some false else ((laws_eqPlaceS F p0_a.Places p1_b.Places).bind fun r4 => (bif (!r4) then some false else some true)))

def laws_eqInt64S_L1 (F : Nat) (p0_a : List Int) (p1_b : List Int) : Nat → Int → Option (Sum Bool (Unit))
  | 0, _ => none
  | n25 + 1, x15 => (bif (decide (x15 < (p0_a.length : Int))) then ((idx p0_a x15).bind fun q27 => ((idx p1_b x15).bind fun q29 => (bif (q27 != q29) then some (Sum.inl false) else (laws_eqInt64S_L1 F p0_a p1_b n25 (IntKind.i64.wrap (x15 + 1)))))) else some (Sum.inr ()))

def laws_eqInt64S (F : Nat) (p0_a : List Int) (p1_b : List Int) : Option (Bool) :=
  (bif ((p0_a.length : Int) != (p1_b.length : Int)) then some false else (Option.bind (laws_eqInt64S_L1 F p0_a p1_b F 0) fun r22 => match r22 with | .inl x_ => some x_ | .inr _ => some true))

def laws_eqTimetable (F : Nat) (p0_a : GTimetable) (p1_b : GTimetable) : Option (Bool) :=
  (bif (p0_a.Period != p1_b.Period) then some false else ((laws_eqInt64S F p0_a.Starts p1_b.Starts).bind fun r4 => (bif (!r4) then some false else some true)))

def laws_FnExactTotalDelay (F : Nat) (p0 : LEventGraph) (p1 : LTimetable) (p2 : List Int) : Option (Bool) :=
  (bif (decide (1048576 < (p2.length : Int))) then some true else ((laws_szEventGraph F p0 1048576).bind fun r4 => (bif (decide (r4 < 0)) then some true else ((laws_szTimetable F p1 r4).bind fun r7 => (bif (decide (r7 < 0)) then some true else ((laws_toEventGraph F p0).bind fun r30 => ((laws_toTimetable F p1).bind fun r36 => ((laws_toInt64S F p2).bind fun r42 => ((spec_TotalDelay F r30 r36 r42).bind fun r48 => ((laws_toEventGraph F p0).bind fun r50 => ((laws_toTimetable F p1).bind fun r57 => ((laws_toInt64S F p2).bind fun r64 => ((impl_TotalDelay F r50 r57 r64).bind fun r70 => (Option.bind ((bif (r70.1 != r48.1) then some true else some (r70.2 != r48.2)) : Option (Bool)) fun b73 => (bif b73 then some false else ((laws_toEventGraph F p0).bind fun r86 => ((laws_eqEventGraph F r50 r86).bind fun r92 => (bif (!r92) then some false else ((laws_toTimetable F p1).bind fun r103 => ((laws_eqTimetable F r57 r103).bind fun r109 => (bif (!r109) then some false else ((laws_toInt64S F p2).bind fun r112 => ((laws_eqInt64S F r64 r112).bind fun r118 => (bif (!r118) then some false else some true))))))))))))))))))))))))

end Go.Proofs.Ytpmebacdmilecaa
