/- Plain models of the functions. -/
import Derived.Test.YtmijmamolmoheaaLiftH
namespace Go.Proofs.Ytmijmamolmoheaa

structure LPlace where
  From : Int
  To : Int
  Delay : Int
  Tokens : Int

structure LEventGraph where
  Events : Int
  Places : List LPlace

structure GPlace where
  From : Int
  To : Int
  Delay : Int
  Tokens : Int

structure GEventGraph where
  Events : Int
  Places : List GPlace

structure GRatio where
  Num : Int
  Den : Int

def laws_szPlaceS (_F : Nat) (p0_a : List LPlace) (p1_left : Int) : Option (Int) :=
  (bif (decide ((IntKind.i64.wrap (p1_left - (p0_a.length : Int))) < 0)) then some (-1) else some (IntKind.i64.wrap (p1_left - (p0_a.length : Int))))

def laws_szEventGraph (F : Nat) (p0_a : LEventGraph) (p1_left : Int) : Option (Int) :=
  ((laws_szPlaceS F p0_a.Places p1_left).bind fun r2 => (bif (decide (r2 < 0)) then some (-1) else some r2))

def laws_toPlace (_F : Nat) (p0_a : LPlace) : Option (GPlace) :=
  some (GPlace.mk p0_a.From p0_a.To p0_a.Delay p0_a.Tokens)

def laws_toPlaceS_L1 (F : Nat) (p0_a : List LPlace) : Nat → (List GPlace) → Int → Option (List GPlace)
  | 0, _, _ => none
  | n42 + 1, xs25, x27 => (bif (decide (x27 < (p0_a.length : Int))) then ((idx p0_a x27).bind fun q44 => ((laws_toPlace F q44).bind fun r46 => ((idx xs25 x27).bind fun _q48 => ((upd xs25 x27 r46).bind fun xs50 => (laws_toPlaceS_L1 F p0_a n42 xs50 (IntKind.i64.wrap (x27 + 1))))))) else some xs25)

def laws_toPlaceS (F : Nat) (p0_a : List LPlace) : Option (List GPlace) :=
  ((mk (p0_a.length : Int) ((GPlace.mk 0 0 0 0) : GPlace)).bind fun xs3 => (Option.bind (laws_toPlaceS_L1 F p0_a F xs3 0) fun xs37 => some xs37))

def laws_toEventGraph (F : Nat) (p0_a : LEventGraph) : Option (GEventGraph) :=
  ((laws_toPlaceS F p0_a.Places).bind fun r4 => some (GEventGraph.mk p0_a.Events r4))

def spec_l01In (_F : Nat) (p0_n : Int) (p1_low : Int) (p2_high : Int) : Option (Bool) :=
  (Option.bind ((bif (decide (p1_low ≤ p0_n)) then some (decide (p0_n ≤ p2_high)) else some false) : Option (Bool)) fun b2 => some b2)

def spec_l11Place (F : Nat) (p0_p : GPlace) (p1_events : Int) : Option (Bool) :=
  (Option.bind (((spec_l01In F p0_p.From 0 (IntKind.i64.wrap (p1_events - 1))).bind fun r16 => (bif r16 then ((spec_l01In F p0_p.To 0 (IntKind.i64.wrap (p1_events - 1))).bind fun r19 => (bif r19 then ((spec_l01In F p0_p.Delay 0 1000).bind fun r22 => (bif r22 then ((spec_l01In F p0_p.Tokens 0 5).bind fun r25 => some r25) else some false)) else some false)) else some false)) : Option (Bool)) fun b13 => some b13)

def spec_IsEventGraph_L1 (F : Nat) (p0_g : GEventGraph) : Nat → Int → Option (Sum Bool (Unit))
  | 0, _ => none
  | n25 + 1, x15 => (bif (decide (x15 < (p0_g.Places.length : Int))) then ((idx p0_g.Places x15).bind fun q27 => ((spec_l11Place F q27 p0_g.Events).bind fun r29 => (bif (!r29) then some (Sum.inl false) else (spec_IsEventGraph_L1 F p0_g n25 (IntKind.i64.wrap (x15 + 1)))))) else some (Sum.inr ()))

def spec_IsEventGraph (F : Nat) (p0_g : GEventGraph) : Option (Bool) :=
  (Option.bind (spec_IsEventGraph_L1 F p0_g F 0) fun r22 => match r22 with | .inl x_ => some x_ | .inr _ => (Option.bind (((spec_l01In F p0_g.Events 1 10).bind fun r38 => (bif r38 then some (decide ((p0_g.Places.length : Int) ≤ 30)) else some false)) : Option (Bool)) fun b35 => some b35))

def spec_l15Sums_L1 (F : Nat) (p0_g : GEventGraph) (p1_list : List Int) : Nat → Int → Int → Int → Option (Int × Int)
  | 0, _, _, _ => none
  | n40 + 1, x23, x24, x25 => (bif (decide (x25 < (p1_list.length : Int))) then ((idx p1_list x25).bind fun q42 => ((idx p0_g.Places q42).bind fun q44 => ((idx p1_list x25).bind fun q46 => ((idx p0_g.Places q46).bind fun q48 => (spec_l15Sums_L1 F p0_g p1_list n40 (IntKind.i64.wrap (x23 + q44.Delay)) (IntKind.i64.wrap (x24 + q48.Tokens)) (IntKind.i64.wrap (x25 + 1))))))) else some (x23, x24))

def spec_l15Sums (F : Nat) (p0_g : GEventGraph) (p1_list : List Int) : Option (Int × Int) :=
  (Option.bind (spec_l15Sums_L1 F p0_g p1_list F 0 0 0) fun (x35, x36) => some (x35, x36))

def spec_l15Visits_L1 (F : Nat) (p0_g : GEventGraph) (p1_list : List Int) (p2_event : Int) : Nat → Int → Option (Sum Bool (Unit))
  | 0, _ => none
  | n76 + 1, x49 => (bif (decide (x49 < (p1_list.length : Int))) then (Option.bind (((idx p1_list x49).bind fun q90 => ((idx p0_g.Places q90).bind fun q92 => (bif (q92.From == p2_event) then some true else ((idx p1_list x49).bind fun q95 => ((idx p0_g.Places q95).bind fun q97 => some (q97.To == p2_event)))))) : Option (Bool)) fun b87 => (bif b87 then some (Sum.inl true) else (spec_l15Visits_L1 F p0_g p1_list p2_event n76 (IntKind.i64.wrap (x49 + 1))))) else some (Sum.inr ()))

def spec_l15Visits (F : Nat) (p0_g : GEventGraph) (p1_list : List Int) (p2_event : Int) : Option (Bool) :=
  (Option.bind (spec_l15Visits_L1 F p0_g p1_list p2_event F 0) fun r73 => match r73 with | .inl x_ => some x_ | .inr _ => some false)

def spec_l01Own (_F : Nat) (p0_list : List Int) : Option (List Int) :=
  ((app ([] : List Int) p0_list).bind fun xs5 => some xs5)

def spec_l15Grow_L1 (F : Nat) (p0 : GEventGraph) (p1 : List Int) (p2 : GRatio) (p3 : Int) (q5 : GPlace) (q9 : GPlace) (rec_ : GEventGraph → (List Int) → GRatio → Int → Option (List Int)) : Nat → Int → Option (Sum (List Int) (Unit))
  | 0, _ => none
  | n1009 + 1, x676 => (bif (decide (x676 < (p0.Places.length : Int))) then (Option.bind (((idx p0.Places x676).bind fun q1176 => (Option.bind ((bif (q1176.From != q9.To) then some true else (bif (decide (q1176.To < q5.From)) then some true else (bif (q1176.To != q5.From) then ((spec_l15Visits F p0 p1 q1176.To).bind fun r1190 => some r1190) else some false))) : Option (Bool)) fun b1184 => (bif b1184 then some (Sum.inr ()) else (Option.bind (((spec_l01Own F p1).bind fun r1292 => ((app r1292 ([x676])).bind fun xs1302 => ((rec_ p0 xs1302 p2 p3).bind fun r1304 => some r1304))) : Option (List Int)) fun xs1262 => (bif (decide (0 < (xs1262.length : Int))) then some (Sum.inl xs1262) else some (Sum.inr ())))))) : Option (Sum (List Int) (Unit))) fun r1174 => match r1174 with | .inl x_ => some (Sum.inl x_) | .inr _ => (spec_l15Grow_L1 F p0 p1 p2 p3 q5 q9 rec_ n1009 (IntKind.i64.wrap (x676 + 1)))) else some (Sum.inr ()))

def spec_l15Grow_rec (F : Nat) : Nat → GEventGraph → (List Int) → GRatio → Int → Option (List Int)
  | 0, _, _, _, _ => none
  | k_ + 1, p0, p1, p2, p3 => ((idx p1 0).bind fun q3 => ((idx p0.Places q3).bind fun q5 => ((idx p1 (IntKind.i64.wrap ((p1.length : Int) - 1))).bind fun q7 => ((idx p0.Places q7).bind fun q9 => (bif (q9.To == q5.From) then ((spec_l15Sums F p0 p1).bind fun r12 => (bif (decide (p3 < (IntKind.i64.wrap ((IntKind.i64.wrap (p2.Den * r12.1)) - (IntKind.i64.wrap (p2.Num * r12.2)))))) then some p1 else some ([] : List Int))) else (Option.bind (spec_l15Grow_L1 F p0 p1 p2 p3 q5 q9 (spec_l15Grow_rec F k_) F 0) fun r1006 => match r1006 with | .inl x_ => some x_ | .inr _ => some ([] : List Int)))))))

def spec_l15Grow (F : Nat) (p0 : GEventGraph) (p1 : List Int) (p2 : GRatio) (p3 : Int) : Option (List Int) := spec_l15Grow_rec F F p0 p1 p2 p3

def spec_l15Over_L1 (F : Nat) (p0_g : GEventGraph) (p1_r : GRatio) (p2_over : Int) : Nat → Int → Option (Sum (List Int) (Unit))
  | 0, _ => none
  | n125 + 1, x82 => (bif (decide (x82 < (p0_g.Places.length : Int))) then (Option.bind (((idx p0_g.Places x82).bind fun q147 => (bif (decide (q147.To < q147.From)) then some (Sum.inr ()) else ((spec_l15Grow F p0_g ([x82]) p1_r p2_over).bind fun r153 => (bif (decide (0 < (r153.length : Int))) then some (Sum.inl r153) else some (Sum.inr ()))))) : Option (Sum (List Int) (Unit))) fun r145 => match r145 with | .inl x_ => some (Sum.inl x_) | .inr _ => (spec_l15Over_L1 F p0_g p1_r p2_over n125 (IntKind.i64.wrap (x82 + 1)))) else some (Sum.inr ()))

def spec_l15Over (F : Nat) (p0_g : GEventGraph) (p1_r : GRatio) (p2_over : Int) : Option (List Int) :=
  (Option.bind (spec_l15Over_L1 F p0_g p1_r p2_over F 0) fun r122 => match r122 with | .inl x_ => some x_ | .inr _ => some ([] : List Int))

def spec_l01Floor (_F : Nat) (p0_a : Int) (p1_b : Int) : Option (Int) :=
  ((if p1_b = 0 then none else some ()).bind fun _u2 => ((if p1_b = 0 then none else some ()).bind fun _u4 => (Option.bind ((bif (decide ((p0_a.tmod p1_b) < 0)) then some (IntKind.i64.wrap ((IntKind.i64.wrap (p0_a.tdiv p1_b)) - 1)) else some (IntKind.i64.wrap (p0_a.tdiv p1_b))) : Option (Int)) fun x6 => some x6)))

def spec_l01Ceil (F : Nat) (p0_a : Int) (p1_b : Int) : Option (Int) :=
  ((spec_l01Floor F (IntKind.i64.wrap (0 - p0_a)) p1_b).bind fun r1 => some (IntKind.i64.wrap (0 - r1)))

def spec_LeastPeriod_L1 (F : Nat) (p0_g : GEventGraph) : Nat → Int → Option (Sum (Int × Int) (Unit))
  | 0, _ => none
  | n49 + 1, x32 => (bif (decide (x32 ≤ 100000)) then ((spec_l15Over F p0_g (GRatio.mk x32 1) 0).bind fun r51 => (bif ((r51.length : Int) == 0) then some (Sum.inl (x32, 0)) else ((spec_l15Sums F p0_g r51).bind fun r58 => (bif (r58.2 == 0) then some (Sum.inr ()) else ((spec_l01Ceil F r58.1 r58.2).bind fun r61 => (spec_LeastPeriod_L1 F p0_g n49 r61)))))) else some (Sum.inr ()))

def spec_LeastPeriod (F : Nat) (p0_g : GEventGraph) : Option (Int × Int) :=
  ((spec_IsEventGraph F p0_g).bind fun r2 => (bif (!r2) then some (0, 1) else (Option.bind (spec_LeastPeriod_L1 F p0_g F 0) fun r46 => match r46 with | .inl x_ => some x_ | .inr _ => some (0, 5))))

def impl_within (_F : Nat) (p0_n : Int) (p1_low : Int) (p2_high : Int) : Option (Bool) :=
  (Option.bind ((bif (decide (p1_low ≤ p0_n)) then some (decide (p0_n ≤ p2_high)) else some false) : Option (Bool)) fun b2 => some b2)

def impl_isEvent (F : Nat) (p0_g : GEventGraph) (p1_event : Int) : Option (Bool) :=
  ((impl_within F p1_event 0 (IntKind.i64.wrap (p0_g.Events - 1))).bind fun r2 => some r2)

def impl_isPlace (F : Nat) (p0_g : GEventGraph) (p1_p : GPlace) : Option (Bool) :=
  (Option.bind (((impl_isEvent F p0_g p1_p.From).bind fun r17 => (bif r17 then ((impl_isEvent F p0_g p1_p.To).bind fun r20 => (bif r20 then ((impl_within F p1_p.Delay 0 1000).bind fun r23 => (bif r23 then ((impl_within F p1_p.Tokens 0 5).bind fun r26 => some r26) else some false)) else some false)) else some false)) : Option (Bool)) fun b14 => some b14)

def impl_IsEventGraph_c1 (F : Nat) (p0_p : GPlace) (z0 : GEventGraph) : Option (Bool) :=
  ((impl_isPlace F z0 p0_p).bind fun r2 => some (!r2))

def slices_IndexFunc_Place_L1 (F : Nat) (p0_s : List GPlace) (m_p1_f : GPlace → Option Bool) : Nat → Int → Option (Sum Int (Unit))
  | 0, _ => none
  | n24 + 1, x14 => (bif (decide (x14 < (p0_s.length : Int))) then ((idx p0_s x14).bind fun q26 => ((m_p1_f q26).bind fun r28 => (bif r28 then some (Sum.inl x14) else (slices_IndexFunc_Place_L1 F p0_s m_p1_f n24 (IntKind.i64.wrap (x14 + 1)))))) else some (Sum.inr ()))

def slices_IndexFunc_Place (F : Nat) (p0_s : List GPlace) (m_p1_f : GPlace → Option Bool) : Option (Int) :=
  (Option.bind (slices_IndexFunc_Place_L1 F p0_s m_p1_f F 0) fun r21 => match r21 with | .inl x_ => some x_ | .inr _ => some (-1))

def slices_ContainsFunc_Place (F : Nat) (p0_s : List GPlace) (m_p1_f : GPlace → Option Bool) : Option (Bool) :=
  ((slices_IndexFunc_Place F p0_s m_p1_f).bind fun r1 => some (decide (0 ≤ r1)))

def impl_IsEventGraph (F : Nat) (p0_g : GEventGraph) : Option (Bool) :=
  (Option.bind (((impl_within F p0_g.Events 1 10).bind fun r11 => (bif r11 then (bif (decide ((p0_g.Places.length : Int) ≤ 30)) then ((slices_ContainsFunc_Place F p0_g.Places (fun x0 => impl_IsEventGraph_c1 F x0 p0_g)).bind fun r15 => some (!r15)) else some false) else some false)) : Option (Bool)) fun b8 => some b8)

def impl_placeWeight (_F : Nat) (p0_p : GPlace) (p1_r : GRatio) : Option (Int) :=
  some (IntKind.i64.wrap ((IntKind.i64.wrap (p1_r.Den * p0_p.Delay)) - (IntKind.i64.wrap (p1_r.Num * p0_p.Tokens))))

def slices_Reverse_int64_L1 (F : Nat) : Nat → (List Int) → Int → Int → Option (List Int)
  | 0, _, _, _ => none
  | n53 + 1, xs31, x33, x34 => (bif (decide (x33 < x34)) then ((idx xs31 x34).bind fun q55 => ((idx xs31 x33).bind fun q57 => ((idx xs31 x33).bind fun _q59 => ((upd xs31 x33 q55).bind fun xs61 => ((idx xs61 x34).bind fun _q63 => ((upd xs61 x34 q57).bind fun xs65 => (slices_Reverse_int64_L1 F n53 xs65 (IntKind.i64.wrap (x33 + 1)) (IntKind.i64.wrap (x34 - 1))))))))) else some xs31)

def slices_Reverse_int64 (F : Nat) (p0_s : List Int) : Option ((Unit) × List Int) :=
  (Option.bind (slices_Reverse_int64_L1 F F p0_s 0 (IntKind.i64.wrap ((p0_s.length : Int) - 1))) fun xs48 => some ((), xs48))

def impl_betterCircuit_L5 (F : Nat) (p0 : GEventGraph) (p1 : GRatio) : Nat → (List Int) → (List Int) → Int → Int → Option ((List Int) × (List Int) × Int)
  | 0, _, _, _, _ => none
  | n523 + 1, xs482, xs484, x486, x487 => (bif (decide (x487 < (p0.Places.length : Int))) then ((idx p0.Places x487).bind fun q525 => ((idx xs482 q525.From).bind fun q528 => ((impl_placeWeight F q525 p1).bind fun r530 => ((idx xs482 q525.To).bind fun q532 => (bif (decide (q532 < (IntKind.i64.wrap (q528 + r530)))) then ((idx xs482 q525.To).bind fun _q543 => ((upd xs482 q525.To (IntKind.i64.wrap (q528 + r530))).bind fun xs545 => ((idx xs484 q525.To).bind fun _q547 => ((upd xs484 q525.To x487).bind fun xs549 => (impl_betterCircuit_L5 F p0 p1 n523 xs545 xs549 q525.To (IntKind.i64.wrap (x487 + 1))))))) else (impl_betterCircuit_L5 F p0 p1 n523 xs482 xs484 x486 (IntKind.i64.wrap (x487 + 1)))))))) else some (xs482, xs484, x486))

def impl_betterCircuit_L4 (F : Nat) (p0 : GEventGraph) (p1 : GRatio) : Nat → (List Int) → (List Int) → Int → Int → Option (Sum (List Int) ((List Int) × Int))
  | 0, _, _, _, _ => none
  | n420 + 1, xs277, xs279, x281, x282 => (bif (decide (x282 < (IntKind.i64.wrap (p0.Events + 1)))) then (Option.bind (impl_betterCircuit_L5 F p0 p1 F xs277 xs279 (-1) 0) fun (xs515, xs517, x519) => (bif (decide (x519 < 0)) then some (Sum.inl ([] : List Int)) else (impl_betterCircuit_L4 F p0 p1 n420 xs515 xs517 x519 (IntKind.i64.wrap (x282 + 1))))) else some (Sum.inr (xs279, x281)))

def impl_betterCircuit_L6 (F : Nat) (p0 : GEventGraph) (xs414 : List Int) : Nat → Int → Int → Option (Int)
  | 0, _, _ => none
  | n576 + 1, x565, x566 => (bif (decide (x566 < p0.Events)) then ((idx xs414 x565).bind fun q578 => ((idx p0.Places q578).bind fun q580 => (impl_betterCircuit_L6 F p0 xs414 n576 q580.From (IntKind.i64.wrap (x566 + 1))))) else some x565)

def impl_betterCircuit_L7 (F : Nat) (p0 : GEventGraph) (xs414 : List Int) (x572 : Int) : Nat → (List Int) → Int → Option (List Int)
  | 0, _, _ => none
  | n644 + 1, xs617, x622 => ((idx xs414 x622).bind fun q645 => ((app xs617 ([q645])).bind fun xs651 => ((idx xs414 x622).bind fun q653 => ((idx p0.Places q653).bind fun q655 => (bif (q655.From == x572) then some xs651 else (impl_betterCircuit_L7 F p0 xs414 x572 n644 xs651 q655.From))))))

def impl_betterCircuit (F : Nat) (p0 : GEventGraph) (p1 : GRatio) : Option (List Int) :=
  ((mk p0.Events (0 : Int)).bind fun xs5 => ((mk p0.Events (0 : Int)).bind fun xs8 => (Option.bind (impl_betterCircuit_L4 F p0 p1 F xs5 xs8 (-1) 0) fun r417 => match r417 with | .inl x_ => some x_ | .inr (xs414, x416) => (Option.bind (impl_betterCircuit_L6 F p0 xs414 F x416 0) fun x572 => (Option.bind (impl_betterCircuit_L7 F p0 xs414 x572 F ([] : List Int) x572) fun xs636 => ((slices_Reverse_int64 F xs636).bind fun r658 => ((nonE r658.2).bind fun _ => some r658.2)))))))

def impl_LeastPeriod_L1 (F : Nat) (p0_g : GEventGraph) : Nat → Int → Int → Option (Int)
  | 0, _, _ => none
  | n48 + 1, x33, x34 => (bif (decide (x33 < x34)) then ((impl_betterCircuit F p0_g (GRatio.mk (IntKind.i64.wrap ((IntKind.i64.wrap (x33 + x34)).tdiv 2)) 1)).bind fun r50 => (bif r50.isEmpty then (impl_LeastPeriod_L1 F p0_g n48 x33 (IntKind.i64.wrap ((IntKind.i64.wrap (x33 + x34)).tdiv 2))) else (impl_LeastPeriod_L1 F p0_g n48 (IntKind.i64.wrap ((IntKind.i64.wrap ((IntKind.i64.wrap (x33 + x34)).tdiv 2)) + 1)) x34))) else some x33)

def impl_LeastPeriod (F : Nat) (p0_g : GEventGraph) : Option (Int × Int) :=
  ((impl_IsEventGraph F p0_g).bind fun r2 => (bif (!r2) then some (0, 1) else ((impl_betterCircuit F p0_g (GRatio.mk 10000 1)).bind fun r5 => (bif (!r5.isEmpty) then some (0, 5) else (Option.bind (impl_LeastPeriod_L1 F p0_g F 0 10000) fun x44 => some (x44, 0))))))

def laws_eqPlace (_F : Nat) (p0_a : GPlace) (p1_b : GPlace) : Option (Bool) :=
  (bif (p0_a.From != p1_b.From) then some false else (bif (p0_a.To != p1_b.To) then some false else (bif (p0_a.Delay != p1_b.Delay) then some false else (bif (p0_a.Tokens != p1_b.Tokens) then some false else some true))))

def laws_eqPlaceS_L1 (F : Nat) (p0_a : List GPlace) (p1_b : List GPlace) : Nat → Int → Option (Sum Bool (Unit))
  | 0, _ => none
  | n31 + 1, x19 => (bif (decide (x19 < (p0_a.length : Int))) then ((idx p0_a x19).bind fun q33 => ((idx p1_b x19).bind fun q35 => ((laws_eqPlace F q33 q35).bind fun r37 => (bif (!r37) then some (Sum.inl false) else (laws_eqPlaceS_L1 F p0_a p1_b n31 (IntKind.i64.wrap (x19 + 1))))))) else some (Sum.inr ()))

def laws_eqPlaceS (F : Nat) (p0_a : List GPlace) (p1_b : List GPlace) : Option (Bool) :=
  (bif ((p0_a.length : Int) != (p1_b.length : Int)) then some false else (Option.bind (laws_eqPlaceS_L1 F p0_a p1_b F 0) fun r28 => match r28 with | .inl x_ => some x_ | .inr _ => some true))

def laws_eqEventGraph (F : Nat) (p0_a : GEventGraph) (p1_b : GEventGraph) : Option (Bool) :=
  (bif (p0_a.Events != p1_b.Events) then some false else ((laws_eqPlaceS F p0_a.Places p1_b.Places).bind fun r4 => (bif (!r4) then some false else some true)))

def laws_FnExactLeastPeriod (F : Nat) (p0_aG : LEventGraph) : Option (Bool) :=
  ((laws_szEventGraph F p0_aG 1048576).bind fun r2 => (bif (decide (r2 < 0)) then some true else ((laws_toEventGraph F p0_aG).bind fun r5 => ((spec_LeastPeriod F r5).bind fun r11 => ((laws_toEventGraph F p0_aG).bind fun r13 => ((impl_LeastPeriod F r13).bind fun r20 => (Option.bind ((bif (r20.1 != r11.1) then some true else some (r20.2 != r11.2)) : Option (Bool)) fun b23 => (bif b23 then some false else ((laws_toEventGraph F p0_aG).bind fun r36 => ((laws_eqEventGraph F r13 r36).bind fun r42 => (bif (!r42) then some false else some true)))))))))))

end Go.Proofs.Ytmijmamolmoheaa
