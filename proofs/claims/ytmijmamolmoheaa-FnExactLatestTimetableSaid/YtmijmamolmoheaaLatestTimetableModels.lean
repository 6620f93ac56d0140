/- Plain models of the functions. -/
import Derived.Test.YtmijmamolmoheaaLiftH
namespace Go.Proofs.Ytmijmamolmoheaa

structure LPlace where
  From : Int
  To : Int
  Delay : Int
  Tokens : Int

structure LEventGraph where
  Events : Int
  Places : List LPlace

structure GPlace where
  From : Int
  To : Int
  Delay : Int
  Tokens : Int

structure GEventGraph where
  Events : Int
  Places : List GPlace

structure GRatio where
  Num : Int
  Den : Int

structure GTimetable where
  Period : Int
  Starts : List Int

def laws_szPlaceS (_F : Nat) (p0_a : List LPlace) (p1_left : Int) : Option (Int) :=
  (bif (decide ((IntKind.i64.wrap (p1_left - (p0_a.length : Int))) < 0)) then some (-1) else some (IntKind.i64.wrap (p1_left - (p0_a.length : Int))))

def laws_szEventGraph (F : Nat) (p0_a : LEventGraph) (p1_left : Int) : Option (Int) :=
  ((laws_szPlaceS F p0_a.Places p1_left).bind fun r2 => (bif (decide (r2 < 0)) then some (-1) else some r2))

def laws_toPlace (_F : Nat) (p0_a : LPlace) : Option (GPlace) :=
  some (GPlace.mk p0_a.From p0_a.To p0_a.Delay p0_a.Tokens)

def laws_toPlaceS_L1 (F : Nat) (p0_a : List LPlace) : Nat → (List GPlace) → Int → Option (List GPlace)
  | 0, _, _ => none
  | n42 + 1, xs25, x27 => (bif (decide (x27 < (p0_a.length : Int))) then ((idx p0_a x27).bind fun q44 => ((laws_toPlace F q44).bind fun r46 => ((idx xs25 x27).bind fun _q48 => ((upd xs25 x27 r46).bind fun xs50 => (laws_toPlaceS_L1 F p0_a n42 xs50 (IntKind.i64.wrap (x27 + 1))))))) else some xs25)

def laws_toPlaceS (F : Nat) (p0_a : List LPlace) : Option (List GPlace) :=
  ((mk (p0_a.length : Int) ((GPlace.mk 0 0 0 0) : GPlace)).bind fun xs3 => (Option.bind (laws_toPlaceS_L1 F p0_a F xs3 0) fun xs37 => some xs37))

def laws_toEventGraph (F : Nat) (p0_a : LEventGraph) : Option (GEventGraph) :=
  ((laws_toPlaceS F p0_a.Places).bind fun r4 => some (GEventGraph.mk p0_a.Events r4))

def laws_toInt64S_L1 (F : Nat) (p0_a : List Int) : Nat → (List Int) → Int → Option (List Int)
  | 0, _, _ => none
  | n36 + 1, xs21, x23 => (bif (decide (x23 < (p0_a.length : Int))) then ((idx p0_a x23).bind fun q38 => ((idx xs21 x23).bind fun _q40 => ((upd xs21 x23 q38).bind fun xs42 => (laws_toInt64S_L1 F p0_a n36 xs42 (IntKind.i64.wrap (x23 + 1)))))) else some xs21)

def laws_toInt64S (F : Nat) (p0_a : List Int) : Option (List Int) :=
  ((mk (p0_a.length : Int) (0 : Int)).bind fun xs3 => (Option.bind (laws_toInt64S_L1 F p0_a F xs3 0) fun xs31 => some xs31))

def spec_l01In (_F : Nat) (p0_n : Int) (p1_low : Int) (p2_high : Int) : Option (Bool) :=
  (Option.bind ((bif (decide (p1_low ≤ p0_n)) then some (decide (p0_n ≤ p2_high)) else some false) : Option (Bool)) fun b2 => some b2)

def spec_l11Place (F : Nat) (p0_p : GPlace) (p1_events : Int) : Option (Bool) :=
  (Option.bind (((spec_l01In F p0_p.From 0 (IntKind.i64.wrap (p1_events - 1))).bind fun r16 => (bif r16 then ((spec_l01In F p0_p.To 0 (IntKind.i64.wrap (p1_events - 1))).bind fun r19 => (bif r19 then ((spec_l01In F p0_p.Delay 0 1000).bind fun r22 => (bif r22 then ((spec_l01In F p0_p.Tokens 0 5).bind fun r25 => some r25) else some false)) else some false)) else some false)) : Option (Bool)) fun b13 => some b13)

def spec_IsEventGraph_L1 (F : Nat) (p0_g : GEventGraph) : Nat → Int → Option (Sum Bool (Unit))
  | 0, _ => none
  | n25 + 1, x15 => (bif (decide (x15 < (p0_g.Places.length : Int))) then ((idx p0_g.Places x15).bind fun q27 => ((spec_l11Place F q27 p0_g.Events).bind fun r29 => (bif (!r29) then some (Sum.inl false) else (spec_IsEventGraph_L1 F p0_g n25 (IntKind.i64.wrap (x15 + 1)))))) else some (Sum.inr ()))

def spec_IsEventGraph (F : Nat) (p0_g : GEventGraph) : Option (Bool) :=
  (Option.bind (spec_IsEventGraph_L1 F p0_g F 0) fun r22 => match r22 with | .inl x_ => some x_ | .inr _ => (Option.bind (((spec_l01In F p0_g.Events 1 10).bind fun r38 => (bif r38 then some (decide ((p0_g.Places.length : Int) ≤ 30)) else some false)) : Option (Bool)) fun b35 => some b35))

def spec_l20Period (F : Nat) (p0_g : GEventGraph) (p1_period : Int) : Option (Int) :=
  ((spec_IsEventGraph F p0_g).bind fun r2 => (bif (!r2) then some 1 else ((spec_l01In F p1_period 0 100000).bind fun r5 => (bif (!r5) then some 2 else some 0))))

def spec_l01Within_L1 (F : Nat) (p0_list : List Int) (p2_low : Int) (p3_high : Int) : Nat → Int → Option (Sum Bool (Unit))
  | 0, _ => none
  | n24 + 1, x14 => (bif (decide (x14 < (p0_list.length : Int))) then ((idx p0_list x14).bind fun q26 => ((spec_l01In F q26 p2_low p3_high).bind fun r28 => (bif (!r28) then some (Sum.inl false) else (spec_l01Within_L1 F p0_list p2_low p3_high n24 (IntKind.i64.wrap (x14 + 1)))))) else some (Sum.inr ()))

def spec_l01Within (F : Nat) (p0_list : List Int) (p1_most : Int) (p2_low : Int) (p3_high : Int) : Option (Bool) :=
  (Option.bind (spec_l01Within_L1 F p0_list p2_low p3_high F 0) fun r21 => match r21 with | .inl x_ => some x_ | .inr _ => some (decide ((p0_list.length : Int) ≤ p1_most)))

def spec_l02Bottom_L5 (F : Nat) (p1_n : Int) : Nat → (List Int) → Int → Option (List Int)
  | 0, _, _ => none
  | n252 + 1, xs231, x236 => (bif (decide (x236 < p1_n)) then ((app xs231 ([(-1000000000000000)])).bind fun xs258 => (spec_l02Bottom_L5 F p1_n n252 xs258 (IntKind.i64.wrap (x236 + 1)))) else some xs231)

def spec_l02Bottom_L4 (F : Nat) (p0_m : Int) (p1_n : Int) : Nat → (List (List Int)) → Int → Option (List (List Int))
  | 0, _, _ => none
  | n207 + 1, ms131, x137 => (bif (decide (x137 < p0_m)) then (Option.bind (spec_l02Bottom_L5 F p1_n F ([] : List Int) 0) fun xs244 => ((app ms131 ([xs244])).bind fun ms264 => (spec_l02Bottom_L4 F p0_m p1_n n207 ms264 (IntKind.i64.wrap (x137 + 1))))) else some ms131)

def spec_l02Bottom (F : Nat) (p0_m : Int) (p1_n : Int) : Option (List (List Int)) :=
  (Option.bind (spec_l02Bottom_L4 F p0_m p1_n F [] 0) fun ms198 => some ms198)

def spec_l15Weights_L1 (F : Nat) (p0_g : GEventGraph) (p1_r : GRatio) : Nat → (List (List Int)) → Int → Option (List (List Int))
  | 0, _, _ => none
  | n93 + 1, ms61, x63 => (bif (decide (x63 < (p0_g.Places.length : Int))) then ((idx p0_g.Places x63).bind fun q95 => ((idx ms61 q95.To).bind fun q98 => ((idx ms61 q95.To).bind fun q103 => ((idx q103 q95.From).bind fun q108 => ((idx q98 q95.From).bind fun _q110 => ((upd q98 q95.From (max q108 (IntKind.i64.wrap ((IntKind.i64.wrap (p1_r.Den * q95.Delay)) - (IntKind.i64.wrap (p1_r.Num * q95.Tokens)))))).bind fun xs112 => ((upd ms61 q95.To xs112).bind fun ms113 => (spec_l15Weights_L1 F p0_g p1_r n93 ms113 (IntKind.i64.wrap (x63 + 1)))))))))) else some ms61)

def spec_l15Weights (F : Nat) (p0_g : GEventGraph) (p1_r : GRatio) : Option (List (List Int)) :=
  ((spec_l02Bottom F p0_g.Events p0_g.Events).bind fun r3 => (Option.bind (spec_l15Weights_L1 F p0_g p1_r F r3 0) fun ms88 => some ms88))

def spec_l02Unit_L1 (F : Nat) (p0_n : Int) : Nat → (List (List Int)) → Int → Option (List (List Int))
  | 0, _, _ => none
  | n61 + 1, ms39, x41 => (bif (decide (x41 < p0_n)) then ((idx ms39 x41).bind fun q63 => ((idx q63 x41).bind fun _q68 => ((upd q63 x41 0).bind fun xs70 => ((upd ms39 x41 xs70).bind fun ms71 => (spec_l02Unit_L1 F p0_n n61 ms71 (IntKind.i64.wrap (x41 + 1))))))) else some ms39)

def spec_l02Unit (F : Nat) (p0_n : Int) : Option (List (List Int)) :=
  ((spec_l02Bottom F p0_n p0_n).bind fun r1 => (Option.bind (spec_l02Unit_L1 F p0_n F r1 0) fun ms56 => some ms56))

def spec_l01Times (_F : Nat) (p0_a : Int) (p1_b : Int) : Option (Int) :=
  (Option.bind ((bif (p0_a == (-1000000000000000)) then some true else some (p1_b == (-1000000000000000))) : Option (Bool)) fun b2 => (bif b2 then some (-1000000000000000) else some (IntKind.i64.wrap (p0_a + p1_b))))

def spec_l02Multiply_L21 (F : Nat) (p0 : List (List Int)) (p1 : List (List Int)) (x3072 : Int) (x5366 : Int) : Nat → (List (List Int)) → Int → Option (List (List Int))
  | 0, _, _ => none
  | n6039 + 1, ms5942, x5944 => (bif (decide (x5944 < (p1.length : Int))) then ((idx ms5942 x3072).bind fun q6085 => ((idx ms5942 x3072).bind fun q6090 => ((idx q6090 x5366).bind fun q6095 => ((idx p0 x3072).bind fun q6097 => ((idx q6097 x5944).bind fun q6106 => ((idx p1 x5944).bind fun q6108 => ((idx q6108 x5366).bind fun q6117 => ((spec_l01Times F q6106 q6117).bind fun r6119 => ((idx q6085 x5366).bind fun _q6121 => ((upd q6085 x5366 (max q6095 r6119)).bind fun xs6123 => ((upd ms5942 x3072 xs6123).bind fun ms6124 => (spec_l02Multiply_L21 F p0 p1 x3072 x5366 n6039 ms6124 (IntKind.i64.wrap (x5944 + 1)))))))))))))) else some ms5942)

def spec_l02Multiply_L20 (F : Nat) (p0 : List (List Int)) (p1 : List (List Int)) (x3072 : Int) : Nat → (List (List Int)) → Int → Option (List (List Int))
  | 0, _, _ => none
  | n5750 + 1, ms5364, x5366 => ((idx p1 0).bind fun q5751 => (bif (decide (x5366 < (q5751.length : Int))) then (Option.bind (spec_l02Multiply_L21 F p0 p1 x3072 x5366 F ms5364 0) fun ms6034 => (spec_l02Multiply_L20 F p0 p1 x3072 n5750 ms6034 (IntKind.i64.wrap (x5366 + 1)))) else some ms5364))

def spec_l02Multiply_L16 (F : Nat) (p0 : List (List Int)) (p1 : List (List Int)) : Nat → (List (List Int)) → Int → Option (List (List Int))
  | 0, _, _ => none
  | n4603 + 1, ms3070, x3072 => (bif (decide (x3072 < (p0.length : Int))) then (Option.bind (spec_l02Multiply_L20 F p0 p1 x3072 F ms3070 0) fun ms5745 => (spec_l02Multiply_L16 F p0 p1 n4603 ms5745 (IntKind.i64.wrap (x3072 + 1)))) else some ms3070)

def spec_l02Multiply (F : Nat) (p0 : List (List Int)) (p1 : List (List Int)) : Option (List (List Int)) :=
  ((idx p1 0).bind fun q1 => ((spec_l02Bottom F (p0.length : Int) (q1.length : Int)).bind fun r10 => (Option.bind (spec_l02Multiply_L16 F p0 p1 F r10 0) fun ms4598 => some ms4598)))

def spec_l01Own (_F : Nat) (p0_list : List Int) : Option (List Int) :=
  ((app ([] : List Int) p0_list).bind fun xs5 => some xs5)

def spec_l02Own_L1 (F : Nat) (p0_a : List (List Int)) : Nat → (List (List Int)) → Int → Option (List (List Int))
  | 0, _, _ => none
  | n99 + 1, ms59, x65 => (bif (decide (x65 < (p0_a.length : Int))) then ((idx p0_a x65).bind fun q101 => ((spec_l01Own F q101).bind fun r110 => ((app ms59 ([r110])).bind fun ms120 => (spec_l02Own_L1 F p0_a n99 ms120 (IntKind.i64.wrap (x65 + 1)))))) else some ms59)

def spec_l02Own (F : Nat) (p0_a : List (List Int)) : Option (List (List Int)) :=
  (Option.bind (spec_l02Own_L1 F p0_a F [] 0) fun ms90 => some ms90)

def spec_l02Add_L5 (F : Nat) (p1_b : List (List Int)) (x335 : Int) : Nat → (List (List Int)) → Int → Option (List (List Int))
  | 0, _, _ => none
  | n626 + 1, ms581, x583 => ((idx ms581 x335).bind fun q627 => (bif (decide (x583 < (q627.length : Int))) then ((idx ms581 x335).bind fun q633 => ((idx ms581 x335).bind fun q638 => ((idx q638 x583).bind fun q643 => ((idx p1_b x335).bind fun q645 => ((idx q645 x583).bind fun q654 => ((idx q633 x583).bind fun _q656 => ((upd q633 x583 (max q643 q654)).bind fun xs658 => ((upd ms581 x335 xs658).bind fun ms659 => (spec_l02Add_L5 F p1_b x335 n626 ms659 (IntKind.i64.wrap (x583 + 1))))))))))) else some ms581))

def spec_l02Add_L4 (F : Nat) (p1_b : List (List Int)) : Nat → (List (List Int)) → Int → Option (List (List Int))
  | 0, _, _ => none
  | n502 + 1, ms333, x335 => (bif (decide (x335 < (ms333.length : Int))) then (Option.bind (spec_l02Add_L5 F p1_b x335 F ms333 0) fun ms621 => (spec_l02Add_L4 F p1_b n502 ms621 (IntKind.i64.wrap (x335 + 1)))) else some ms333)

def spec_l02Add (F : Nat) (p0_a : List (List Int)) (p1_b : List (List Int)) : Option (List (List Int)) :=
  ((spec_l02Own F p0_a).bind fun r1 => (Option.bind (spec_l02Add_L4 F p1_b F r1 0) fun ms497 => some ms497))

def spec_l01Same_L1 (F : Nat) (p0_a : List Int) (p1_b : List Int) : Nat → Int → Option (Sum Bool (Unit))
  | 0, _ => none
  | n25 + 1, x15 => (bif (decide (x15 < (p0_a.length : Int))) then ((idx p0_a x15).bind fun q27 => ((idx p1_b x15).bind fun q29 => (bif (q27 != q29) then some (Sum.inl false) else (spec_l01Same_L1 F p0_a p1_b n25 (IntKind.i64.wrap (x15 + 1)))))) else some (Sum.inr ()))

def spec_l01Same (F : Nat) (p0_a : List Int) (p1_b : List Int) : Option (Bool) :=
  (bif ((p0_a.length : Int) != (p1_b.length : Int)) then some false else (Option.bind (spec_l01Same_L1 F p0_a p1_b F 0) fun r22 => match r22 with | .inl x_ => some x_ | .inr _ => some true))

def spec_l02Same_L1 (F : Nat) (p0_a : List (List Int)) (p1_b : List (List Int)) : Nat → Int → Option (Sum Bool (Unit))
  | 0, _ => none
  | n73 + 1, x47 => (bif (decide (x47 < (p0_a.length : Int))) then ((idx p0_a x47).bind fun q75 => ((idx p1_b x47).bind fun q84 => ((spec_l01Same F q75 q84).bind fun r93 => (bif (!r93) then some (Sum.inl false) else (spec_l02Same_L1 F p0_a p1_b n73 (IntKind.i64.wrap (x47 + 1))))))) else some (Sum.inr ()))

def spec_l02Same (F : Nat) (p0_a : List (List Int)) (p1_b : List (List Int)) : Option (Bool) :=
  (bif ((p0_a.length : Int) != (p1_b.length : Int)) then some false else (Option.bind (spec_l02Same_L1 F p0_a p1_b F 0) fun r70 => match r70 with | .inl x_ => some x_ | .inr _ => some true))

def spec_l03Star_L1 (F : Nat) (p0_a : List (List Int)) : Nat → (List (List Int)) → Int → Option (List (List Int))
  | 0, _, _ => none
  | n97 + 1, ms59, x65 => (bif (decide (x65 < (p0_a.length : Int))) then ((spec_l02Unit F (p0_a.length : Int)).bind fun r99 => ((spec_l02Multiply F p0_a ms59).bind fun r106 => ((spec_l02Add F r99 r106).bind fun r113 => (spec_l03Star_L1 F p0_a n97 r113 (IntKind.i64.wrap (x65 + 1)))))) else some ms59)

def spec_l03Star (F : Nat) (p0_a : List (List Int)) : Option (List (List Int) × Bool) :=
  ((spec_l02Unit F (p0_a.length : Int)).bind fun r1 => (Option.bind (spec_l03Star_L1 F p0_a F r1 0) fun ms88 => ((spec_l02Unit F (p0_a.length : Int)).bind fun r120 => ((spec_l02Multiply F p0_a ms88).bind fun r127 => ((spec_l02Add F r120 r127).bind fun r134 => ((spec_l02Same F r134 ms88).bind fun r141 => some (ms88, r141)))))))

def spec_l08Sub_L5 (F : Nat) (p0_a : List (List Int)) (p1_b : List Int) (x924 : Int) : Nat → Int → Bool → Int → Option (Int)
  | 0, _, _, _ => none
  | n1730 + 1, x1616, b1617, x1618 => (bif (decide (x1618 < (p0_a.length : Int))) then (Option.bind (((idx p0_a x1618).bind fun q1787 => ((idx q1787 x924).bind fun q1796 => (bif (q1796 == (-1000000000000000)) then some (x1616, b1617) else ((idx p1_b x1618).bind fun q1799 => (Option.bind ((bif (q1799 != (-1000000000000000)) then ((idx p1_b x1618).bind fun q1819 => ((idx p0_a x1618).bind fun q1821 => ((idx q1821 x924).bind fun q1830 => some (IntKind.i64.wrap (q1819 - q1830))))) else some (-1000000000000000)) : Option (Int)) fun x1815 => (Option.bind ((bif (!b1617) then some true else some (decide (x1815 < x1616))) : Option (Bool)) fun b1833 => (bif b1833 then some (x1815, true) else some (x1616, b1617)))))))) : Option (Int × Bool)) fun (x1783, b1784) => (spec_l08Sub_L5 F p0_a p1_b x924 n1730 x1783 b1784 (IntKind.i64.wrap (x1618 + 1)))) else some x1616)

def spec_l08Sub_L4 (F : Nat) (p0_a : List (List Int)) (p1_b : List Int) : Nat → (List Int) → Int → Option (List Int)
  | 0, _, _ => none
  | n1388 + 1, xs919, x924 => ((idx p0_a 0).bind fun q1389 => (bif (decide (x924 < (q1389.length : Int))) then (Option.bind (spec_l08Sub_L5 F p0_a p1_b x924 F 0 false 0) fun x1726 => ((app xs919 ([x1726])).bind fun xs1842 => (spec_l08Sub_L4 F p0_a p1_b n1388 xs1842 (IntKind.i64.wrap (x924 + 1))))) else some xs919))

def spec_l08Sub (F : Nat) (p0_a : List (List Int)) (p1_b : List Int) : Option (List Int) :=
  (Option.bind (spec_l08Sub_L4 F p0_a p1_b F ([] : List Int) 0) fun xs1380 => some xs1380)

def spec_LatestTimetable_L1 (F : Nat) (r39 : List Int) : Nat → Int → Option (Sum (GTimetable × Int) (Unit))
  | 0, _ => none
  | n62 + 1, x54 => (bif (decide (x54 < (r39.length : Int))) then ((idx r39 x54).bind fun q64 => (bif (decide (q64 < 0)) then some (Sum.inl ((GTimetable.mk 0 []), 4)) else (spec_LatestTimetable_L1 F r39 n62 (IntKind.i64.wrap (x54 + 1))))) else some (Sum.inr ()))

def spec_LatestTimetable (F : Nat) (p0_g : GEventGraph) (p1_period : Int) (p2_due : List Int) : Option (GTimetable × Int) :=
  ((spec_l20Period F p0_g p1_period).bind fun r3 => (Option.bind ((bif (r3 == 0) then (bif ((p2_due.length : Int) != p0_g.Events) then some true else ((spec_l01Within F p2_due 10 0 1000000).bind fun r14 => some (!r14))) else some false) : Option (Bool)) fun b9 => (Option.bind ((bif b9 then some 2 else some r3) : Option (Int)) fun x17 => (bif (x17 != 0) then some ((GTimetable.mk 0 []), x17) else ((spec_l15Weights F p0_g (GRatio.mk p1_period 1)).bind fun r23 => ((spec_l03Star F r23).bind fun r30 => (bif (!r30.2) then some ((GTimetable.mk 0 []), 5) else ((spec_l08Sub F r30.1 p2_due).bind fun r39 => (Option.bind (spec_LatestTimetable_L1 F r39 F 0) fun r59 => match r59 with | .inl x_ => some x_ | .inr _ => some ((GTimetable.mk p1_period r39), 0))))))))))

def impl_within (_F : Nat) (p0_n : Int) (p1_low : Int) (p2_high : Int) : Option (Bool) :=
  (Option.bind ((bif (decide (p1_low ≤ p0_n)) then some (decide (p0_n ≤ p2_high)) else some false) : Option (Bool)) fun b2 => some b2)

def impl_isEvent (F : Nat) (p0_g : GEventGraph) (p1_event : Int) : Option (Bool) :=
  ((impl_within F p1_event 0 (IntKind.i64.wrap (p0_g.Events - 1))).bind fun r2 => some r2)

def impl_isPlace (F : Nat) (p0_g : GEventGraph) (p1_p : GPlace) : Option (Bool) :=
  (Option.bind (((impl_isEvent F p0_g p1_p.From).bind fun r17 => (bif r17 then ((impl_isEvent F p0_g p1_p.To).bind fun r20 => (bif r20 then ((impl_within F p1_p.Delay 0 1000).bind fun r23 => (bif r23 then ((impl_within F p1_p.Tokens 0 5).bind fun r26 => some r26) else some false)) else some false)) else some false)) : Option (Bool)) fun b14 => some b14)

def impl_IsEventGraph_c1 (F : Nat) (p0_p : GPlace) (z0 : GEventGraph) : Option (Bool) :=
  ((impl_isPlace F z0 p0_p).bind fun r2 => some (!r2))

def slices_IndexFunc_Place_L1 (F : Nat) (p0_s : List GPlace) (m_p1_f : GPlace → Option Bool) : Nat → Int → Option (Sum Int (Unit))
  | 0, _ => none
  | n24 + 1, x14 => (bif (decide (x14 < (p0_s.length : Int))) then ((idx p0_s x14).bind fun q26 => ((m_p1_f q26).bind fun r28 => (bif r28 then some (Sum.inl x14) else (slices_IndexFunc_Place_L1 F p0_s m_p1_f n24 (IntKind.i64.wrap (x14 + 1)))))) else some (Sum.inr ()))

def slices_IndexFunc_Place (F : Nat) (p0_s : List GPlace) (m_p1_f : GPlace → Option Bool) : Option (Int) :=
  (Option.bind (slices_IndexFunc_Place_L1 F p0_s m_p1_f F 0) fun r21 => match r21 with | .inl x_ => some x_ | .inr _ => some (-1))

def slices_ContainsFunc_Place (F : Nat) (p0_s : List GPlace) (m_p1_f : GPlace → Option Bool) : Option (Bool) :=
  ((slices_IndexFunc_Place F p0_s m_p1_f).bind fun r1 => some (decide (0 ≤ r1)))

def impl_IsEventGraph (F : Nat) (p0_g : GEventGraph) : Option (Bool) :=
  (Option.bind (((impl_within F p0_g.Events 1 10).bind fun r11 => (bif r11 then (bif (decide ((p0_g.Places.length : Int) ≤ 30)) then ((slices_ContainsFunc_Place F p0_g.Places (fun x0 => impl_IsEventGraph_c1 F x0 p0_g)).bind fun r15 => some (!r15)) else some false) else some false)) : Option (Bool)) fun b8 => some b8)

def impl_checkPeriod (F : Nat) (p0_g : GEventGraph) (p1_period : Int) : Option (Int) :=
  ((impl_IsEventGraph F p0_g).bind fun r2 => (bif (!r2) then some 1 else ((impl_within F p1_period 0 100000).bind fun r5 => (bif (!r5) then some 2 else some 0))))

def impl_allWithin_L1 (F : Nat) (p0_list : List Int) (p1_low : Int) (p2_high : Int) : Nat → Int → Option (Sum Bool (Unit))
  | 0, _ => none
  | n24 + 1, x14 => (bif (decide (x14 < (p0_list.length : Int))) then ((idx p0_list x14).bind fun q26 => ((impl_within F q26 p1_low p2_high).bind fun r28 => (bif (!r28) then some (Sum.inl false) else (impl_allWithin_L1 F p0_list p1_low p2_high n24 (IntKind.i64.wrap (x14 + 1)))))) else some (Sum.inr ()))

def impl_allWithin (F : Nat) (p0_list : List Int) (p1_low : Int) (p2_high : Int) : Option (Bool) :=
  (Option.bind (impl_allWithin_L1 F p0_list p1_low p2_high F 0) fun r21 => match r21 with | .inl x_ => some x_ | .inr _ => some true)

def impl_placeWeight (_F : Nat) (p0_p : GPlace) (p1_r : GRatio) : Option (Int) :=
  some (IntKind.i64.wrap ((IntKind.i64.wrap (p1_r.Den * p0_p.Delay)) - (IntKind.i64.wrap (p1_r.Num * p0_p.Tokens))))

def slices_Reverse_int64_L1 (F : Nat) : Nat → (List Int) → Int → Int → Option (List Int)
  | 0, _, _, _ => none
  | n53 + 1, xs31, x33, x34 => (bif (decide (x33 < x34)) then ((idx xs31 x34).bind fun q55 => ((idx xs31 x33).bind fun q57 => ((idx xs31 x33).bind fun _q59 => ((upd xs31 x33 q55).bind fun xs61 => ((idx xs61 x34).bind fun _q63 => ((upd xs61 x34 q57).bind fun xs65 => (slices_Reverse_int64_L1 F n53 xs65 (IntKind.i64.wrap (x33 + 1)) (IntKind.i64.wrap (x34 - 1))))))))) else some xs31)

def slices_Reverse_int64 (F : Nat) (p0_s : List Int) : Option ((Unit) × List Int) :=
  (Option.bind (slices_Reverse_int64_L1 F F p0_s 0 (IntKind.i64.wrap ((p0_s.length : Int) - 1))) fun xs48 => some ((), xs48))

def impl_betterCircuit_L5 (F : Nat) (p0 : GEventGraph) (p1 : GRatio) : Nat → (List Int) → (List Int) → Int → Int → Option ((List Int) × (List Int) × Int)
  | 0, _, _, _, _ => none
  | n523 + 1, xs482, xs484, x486, x487 => (bif (decide (x487 < (p0.Places.length : Int))) then ((idx p0.Places x487).bind fun q525 => ((idx xs482 q525.From).bind fun q528 => ((impl_placeWeight F q525 p1).bind fun r530 => ((idx xs482 q525.To).bind fun q532 => (bif (decide (q532 < (IntKind.i64.wrap (q528 + r530)))) then ((idx xs482 q525.To).bind fun _q543 => ((upd xs482 q525.To (IntKind.i64.wrap (q528 + r530))).bind fun xs545 => ((idx xs484 q525.To).bind fun _q547 => ((upd xs484 q525.To x487).bind fun xs549 => (impl_betterCircuit_L5 F p0 p1 n523 xs545 xs549 q525.To (IntKind.i64.wrap (x487 + 1))))))) else (impl_betterCircuit_L5 F p0 p1 n523 xs482 xs484 x486 (IntKind.i64.wrap (x487 + 1)))))))) else some (xs482, xs484, x486))

def impl_betterCircuit_L4 (F : Nat) (p0 : GEventGraph) (p1 : GRatio) : Nat → (List Int) → (List Int) → Int → Int → Option (Sum (List Int) ((List Int) × Int))
  | 0, _, _, _, _ => none
  | n420 + 1, xs277, xs279, x281, x282 => (bif (decide (x282 < (IntKind.i64.wrap (p0.Events + 1)))) then (Option.bind (impl_betterCircuit_L5 F p0 p1 F xs277 xs279 (-1) 0) fun (xs515, xs517, x519) => (bif (decide (x519 < 0)) then some (Sum.inl ([] : List Int)) else (impl_betterCircuit_L4 F p0 p1 n420 xs515 xs517 x519 (IntKind.i64.wrap (x282 + 1))))) else some (Sum.inr (xs279, x281)))

def impl_betterCircuit_L6 (F : Nat) (p0 : GEventGraph) (xs414 : List Int) : Nat → Int → Int → Option (Int)
  | 0, _, _ => none
  | n576 + 1, x565, x566 => (bif (decide (x566 < p0.Events)) then ((idx xs414 x565).bind fun q578 => ((idx p0.Places q578).bind fun q580 => (impl_betterCircuit_L6 F p0 xs414 n576 q580.From (IntKind.i64.wrap (x566 + 1))))) else some x565)

def impl_betterCircuit_L7 (F : Nat) (p0 : GEventGraph) (xs414 : List Int) (x572 : Int) : Nat → (List Int) → Int → Option (List Int)
  | 0, _, _ => none
  | n644 + 1, xs617, x622 => ((idx xs414 x622).bind fun q645 => ((app xs617 ([q645])).bind fun xs651 => ((idx xs414 x622).bind fun q653 => ((idx p0.Places q653).bind fun q655 => (bif (q655.From == x572) then some xs651 else (impl_betterCircuit_L7 F p0 xs414 x572 n644 xs651 q655.From))))))

def impl_betterCircuit (F : Nat) (p0 : GEventGraph) (p1 : GRatio) : Option (List Int) :=
  ((mk p0.Events (0 : Int)).bind fun xs5 => ((mk p0.Events (0 : Int)).bind fun xs8 => (Option.bind (impl_betterCircuit_L4 F p0 p1 F xs5 xs8 (-1) 0) fun r417 => match r417 with | .inl x_ => some x_ | .inr (xs414, x416) => (Option.bind (impl_betterCircuit_L6 F p0 xs414 F x416 0) fun x572 => (Option.bind (impl_betterCircuit_L7 F p0 xs414 x572 F ([] : List Int) x572) fun xs636 => ((slices_Reverse_int64 F xs636).bind fun r658 => ((nonE r658.2).bind fun _ => some r658.2)))))))

def slices_Clone_int64 (_F : Nat) (p0_s : List Int) : Option (List Int) :=
  ((app ([] : List Int) p0_s).bind fun xs5 => some xs5)

def slices_Min_int64_L1 (F : Nat) (p0_x : List Int) : Nat → Int → Int → Option (Int)
  | 0, _, _ => none
  | n21 + 1, x12, x13 => (bif (decide (x13 < (p0_x.length : Int))) then ((idx p0_x x13).bind fun q23 => (slices_Min_int64_L1 F p0_x n21 (min x12 q23) (IntKind.i64.wrap (x13 + 1)))) else some x12)

def slices_Min_int64 (F : Nat) (p0_x : List Int) : Option (Int) :=
  (bif (decide ((p0_x.length : Int) < 1)) then none else ((idx p0_x 0).bind fun q2 => (Option.bind (slices_Min_int64_L1 F p0_x F q2 1) fun x17 => some x17)))

def impl_LatestTimetable_L5 (F : Nat) (p0 : GEventGraph) (p1 : Int) : Nat → (List Int) → Bool → Int → Option ((List Int) × Bool)
  | 0, _, _, _ => none
  | n302 + 1, xs279, b281, x282 => (bif (decide (x282 < (p0.Places.length : Int))) then ((idx p0.Places x282).bind fun q304 => ((idx xs279 q304.To).bind fun q307 => ((idx xs279 q304.From).bind fun q309 => (bif (decide ((IntKind.i64.wrap ((IntKind.i64.wrap (q307 + (IntKind.i64.wrap (q304.Tokens * p1)))) - q304.Delay)) < q309)) then ((idx xs279 q304.From).bind fun _q312 => ((upd xs279 q304.From (IntKind.i64.wrap ((IntKind.i64.wrap (q307 + (IntKind.i64.wrap (q304.Tokens * p1)))) - q304.Delay))).bind fun xs314 => (impl_LatestTimetable_L5 F p0 p1 n302 xs314 true (IntKind.i64.wrap (x282 + 1))))) else (impl_LatestTimetable_L5 F p0 p1 n302 xs279 b281 (IntKind.i64.wrap (x282 + 1))))))) else some (xs279, b281))

def impl_LatestTimetable_L4 (F : Nat) (p0 : GEventGraph) (p1 : Int) : Nat → (List Int) → Bool → Option (List Int)
  | 0, _, _ => none
  | n247 + 1, xs171, b173 => (bif b173 then (Option.bind (impl_LatestTimetable_L5 F p0 p1 F xs171 false 0) fun (xs296, b298) => (impl_LatestTimetable_L4 F p0 p1 n247 xs296 b298)) else some xs171)

def impl_LatestTimetable (F : Nat) (p0 : GEventGraph) (p1 : Int) (p2 : List Int) : Option (GTimetable × Int) :=
  ((impl_checkPeriod F p0 p1).bind fun r3 => (bif (r3 != 0) then some ((GTimetable.mk 0 []), r3) else (Option.bind ((bif ((p2.length : Int) != p0.Events) then some true else ((impl_allWithin F p2 0 1000000).bind fun r14 => some (!r14))) : Option (Bool)) fun b10 => (bif b10 then some ((GTimetable.mk 0 []), 2) else ((impl_betterCircuit F p0 (GRatio.mk p1 1)).bind fun r18 => (bif (!r18.isEmpty) then some ((GTimetable.mk 0 []), 5) else ((slices_Clone_int64 F p2).bind fun r27 => (Option.bind (impl_LatestTimetable_L4 F p0 p1 F r27 true) fun xs242 => ((slices_Min_int64 F xs242).bind fun r316 => (bif (decide (r316 < 0)) then some ((GTimetable.mk 0 []), 4) else some ((GTimetable.mk p1 xs242), 0)))))))))))

def laws_eqInt64S_L1 (F : Nat) (p0_a : List Int) (p1_b : List Int) : Nat → Int → Option (Sum Bool (Unit))
  | 0, _ => none
  | n25 + 1, x15 => (bif (decide (x15 < (p0_a.length : Int))) then ((idx p0_a x15).bind fun q27 => ((idx p1_b x15).bind fun q29 => (bif (q27 != q29) then some (Sum.inl false) else (laws_eqInt64S_L1 F p0_a p1_b n25 (IntKind.i64.wrap (x15 + 1)))))) else some (Sum.inr ()))

def laws_eqInt64S (F : Nat) (p0_a : List Int) (p1_b : List Int) : Option (Bool) :=
  (bif ((p0_a.length : Int) != (p1_b.length : Int)) then some false else (Option.bind (laws_eqInt64S_L1 F p0_a p1_b F 0) fun r22 => match r22 with | .inl x_ => some x_ | .inr _ => some true))

def laws_eqTimetable (F : Nat) (p0_a : GTimetable) (p1_b : GTimetable) : Option (Bool) :=
  (bif (p0_a.Period != p1_b.Period) then some false else ((laws_eqInt64S F p0_a.Starts p1_b.Starts).bind fun r4 => (bif (!r4) then some false else some true)))

def laws_eqPlace (_F : Nat) (p0_a : GPlace) (p1_b : GPlace) : Option (Bool) :=
  (bif (p0_a.From != p1_b.From) then some false else (bif (p0_a.To != p1_b.To) then some false else (bif (p0_a.Delay != p1_b.Delay) then some false else (bif (p0_a.Tokens != p1_b.Tokens) then some false else some true))))

def laws_eqPlaceS_L1 (F : Nat) (p0_a : List GPlace) (p1_b : List GPlace) : Nat → Int → Option (Sum Bool (Unit))
  | 0, _ => none
  | n31 + 1, x19 => (bif (decide (x19 < (p0_a.length : Int))) then ((idx p0_a x19).bind fun q33 => ((idx p1_b x19).bind fun q35 => ((laws_eqPlace F q33 q35).bind fun r37 => (bif (!r37) then some (Sum.inl false) else (laws_eqPlaceS_L1 F p0_a p1_b n31 (IntKind.i64.wrap (x19 + 1))))))) else some (Sum.inr ()))

def laws_eqPlaceS (F : Nat) (p0_a : List GPlace) (p1_b : List GPlace) : Option (Bool) :=
  (bif ((p0_a.length : Int) != (p1_b.length : Int)) then some false else (Option.bind (laws_eqPlaceS_L1 F p0_a p1_b F 0) fun r28 => match r28 with | .inl x_ => some x_ | .inr _ => some true))

def laws_eqEventGraph (F : Nat) (p0_a : GEventGraph) (p1_b : GEventGraph) : Option (Bool) :=
  (bif (p0_a.Events != p1_b.Events) then some false else ((laws_eqPlaceS F p0_a.Places p1_b.Places).bind fun r4 => (bif (!r4) then some false else some true)))

def laws_markPlaceS_L1 (F : Nat) : Nat → (List GPlace) → Int → Int → Option ((List GPlace) × Int)
  | 0, _, _, _ => none
  | n66 + 1, xs39, x41, x42 => (bif (decide (x42 < (xs39.length : Int))) then ((idx xs39 x42).bind fun q68 => ((upd xs39 x42 (GPlace.mk x41 q68.To q68.Delay q68.Tokens)).bind fun xs70 => ((idx xs70 x42).bind fun q72 => ((upd xs70 x42 (GPlace.mk q72.From (IntKind.i64.wrap (x41 + 1)) q72.Delay q72.Tokens)).bind fun xs74 => ((idx xs74 x42).bind fun q76 => ((upd xs74 x42 (GPlace.mk q76.From q76.To (IntKind.i64.wrap ((IntKind.i64.wrap (x41 + 1)) + 1)) q76.Tokens)).bind fun xs78 => ((idx xs78 x42).bind fun q80 => ((upd xs78 x42 (GPlace.mk q80.From q80.To q80.Delay (IntKind.i64.wrap ((IntKind.i64.wrap ((IntKind.i64.wrap (x41 + 1)) + 1)) + 1)))).bind fun xs82 => (laws_markPlaceS_L1 F n66 xs82 (IntKind.i64.wrap ((IntKind.i64.wrap ((IntKind.i64.wrap ((IntKind.i64.wrap (x41 + 1)) + 1)) + 1)) + 1)) (IntKind.i64.wrap (x42 + 1))))))))))) else some (xs39, x41))

def laws_markPlaceS (F : Nat) (p0_a : List GPlace) (p1_k : Int) : Option ((Int) × List GPlace) :=
  (Option.bind (laws_markPlaceS_L1 F F p0_a p1_k 0) fun (xs60, x62) => some (x62, xs60))

def laws_markEventGraph (F : Nat) (p0_a : GEventGraph) (p1_k : Int) : Option ((Int) × List GPlace) :=
  ((laws_markPlaceS F p0_a.Places p1_k).bind fun r2 => some (r2.1, r2.2))

def laws_markInt64S_L1 (F : Nat) : Nat → (List Int) → Int → Int → Option ((List Int) × Int)
  | 0, _, _, _ => none
  | n30 + 1, xs15, x17, x18 => (bif (decide (x18 < (xs15.length : Int))) then ((idx xs15 x18).bind fun _q32 => ((upd xs15 x18 x17).bind fun xs34 => (laws_markInt64S_L1 F n30 xs34 (IntKind.i64.wrap (x17 + 1)) (IntKind.i64.wrap (x18 + 1))))) else some (xs15, x17))

def laws_markInt64S (F : Nat) (p0_a : List Int) (p1_k : Int) : Option ((Int) × List Int) :=
  (Option.bind (laws_markInt64S_L1 F F p0_a p1_k 0) fun (xs24, x26) => some (x26, xs24))

def laws_markTimetable (F : Nat) (p0_a : GTimetable) (p1_k : Int) : Option ((Int) × List Int) :=
  ((laws_markInt64S F p0_a.Starts p1_k).bind fun r2 => some (r2.1, r2.2))

def laws_heldInt64S_L1 (F : Nat) (p0_a : List Int) : Nat → Int → Int → Option (Sum Int (Int))
  | 0, _, _ => none
  | n21 + 1, x11, x12 => (bif (decide (x12 < (p0_a.length : Int))) then ((idx p0_a x12).bind fun q23 => (bif (q23 != x11) then some (Sum.inl (-1)) else (laws_heldInt64S_L1 F p0_a n21 (IntKind.i64.wrap (x11 + 1)) (IntKind.i64.wrap (x12 + 1))))) else some (Sum.inr x11))

def laws_heldInt64S (F : Nat) (p0_a : List Int) (p1_k : Int) : Option (Int) :=
  (Option.bind (laws_heldInt64S_L1 F p0_a F p1_k 0) fun r18 => match r18 with | .inl x_ => some x_ | .inr x17 => some x17)

def laws_heldTimetable (F : Nat) (p0_a : GTimetable) (p1_k : Int) : Option (Int) :=
  ((laws_heldInt64S F p0_a.Starts p1_k).bind fun r2 => (bif (decide (r2 < 0)) then some (-1) else some r2))

def laws_FnExactLatestTimetable (F : Nat) (p0 : LEventGraph) (p1 : Int) (p2 : List Int) : Option (Bool) :=
  (bif (decide (1048576 < (p2.length : Int))) then some true else ((laws_szEventGraph F p0 1048576).bind fun r3 => (bif (decide (r3 < 0)) then some true else ((laws_toEventGraph F p0).bind fun r6 => ((laws_toInt64S F p2).bind fun r12 => ((spec_LatestTimetable F r6 p1 r12).bind fun r18 => ((laws_toEventGraph F p0).bind fun r25 => ((laws_toInt64S F p2).bind fun r32 => ((impl_LatestTimetable F r25 p1 r32).bind fun r38 => (Option.bind (((laws_eqTimetable F (GTimetable.mk r38.1.Period r38.1.Starts) (GTimetable.mk r18.1.Period r18.1.Starts)).bind fun r51 => (bif (!r51) then some true else some (r38.2 != r18.2))) : Option (Bool)) fun b48 => (bif b48 then some false else ((laws_toEventGraph F p0).bind fun r63 => ((laws_eqEventGraph F r25 r63).bind fun r69 => (bif (!r69) then some false else ((laws_toInt64S F p2).bind fun r72 => ((laws_eqInt64S F r32 r72).bind fun r78 => (bif (!r78) then some false else ((laws_markEventGraph F r25 1).bind fun r81 => ((laws_markInt64S F r32 r81.1).bind fun r84 => (Option.bind ((bif (decide (r84.1 < 0)) then some true else ((laws_eqTimetable F (GTimetable.mk r38.1.Period r38.1.Starts) (GTimetable.mk r18.1.Period r18.1.Starts)).bind fun r95 => (bif (!r95) then some true else some (r38.2 != r18.2)))) : Option (Bool)) fun b91 => (bif b91 then some false else ((laws_markTimetable F (GTimetable.mk r38.1.Period r38.1.Starts) 1).bind fun r99 => ((laws_heldTimetable F (GTimetable.mk r38.1.Period r99.2) 1).bind fun r102 => (bif (decide (r102 < 0)) then some false else (bif (r102 != r99.1) then some false else ((laws_toEventGraph F p0).bind fun r106 => ((laws_toInt64S F p2).bind fun r112 => ((impl_LatestTimetable F r106 p1 r112).bind fun r118 => (Option.bind (((laws_eqTimetable F (GTimetable.mk r118.1.Period r118.1.Starts) (GTimetable.mk r18.1.Period r18.1.Starts)).bind fun r131 => (bif (!r131) then some true else some (r118.2 != r18.2))) : Option (Bool)) fun b128 => (bif b128 then some false else ((laws_heldTimetable F (GTimetable.mk r38.1.Period r99.2) 1).bind fun r135 => (bif (decide (r135 < 0)) then some false else (bif (r135 != r99.1) then some false else some true)))))))))))))))))))))))))))))))))

end Go.Proofs.Ytmijmamolmoheaa
