/- Plain models of the functions. -/
import Derived.Test.YtpmebacdmilecaaLiftH
namespace Go.Proofs.Ytpmebacdmilecaa

structure LPlace where
  From : Int
  To : Int
  Delay : Int
  Tokens : Int

structure LEventGraph where
  Events : Int
  Places : List LPlace

structure GPlace where
  From : Int
  To : Int
  Delay : Int
  Tokens : Int

structure GEventGraph where
  Events : Int
  Places : List GPlace

def laws_szPlaceS (_F : Nat) (p0_a : List LPlace) (p1_left : Int) : Option (Int) :=
  (bif (decide ((IntKind.i64.wrap (p1_left - (p0_a.length : Int))) < 0)) then some (-1) else some (IntKind.i64.wrap (p1_left - (p0_a.length : Int))))

def laws_szEventGraph (F : Nat) (p0_a : LEventGraph) (p1_left : Int) : Option (Int) :=
  ((laws_szPlaceS F p0_a.Places p1_left).bind fun r2 => (bif (decide (r2 < 0)) then some (-1) else some r2))

def laws_toPlace (_F : Nat) (p0_a : LPlace) : Option (GPlace) :=
  some (GPlace.mk p0_a.From p0_a.To p0_a.Delay p0_a.Tokens)

def laws_toPlaceS_L1 (F : Nat) (p0_a : List LPlace) : Nat → (List GPlace) → Int → Option (List GPlace)
  | 0, _, _ => none
  | n42 + 1, xs25, x27 => (bif (decide (x27 < (p0_a.length : Int))) then ((idx p0_a x27).bind fun q44 => ((laws_toPlace F q44).bind fun r46 => ((idx xs25 x27).bind fun _q48 => ((upd xs25 x27 r46).bind fun xs50 => (laws_toPlaceS_L1 F p0_a n42 xs50 (IntKind.i64.wrap (x27 + 1))))))) else some xs25)

def laws_toPlaceS (F : Nat) (p0_a : List LPlace) : Option (List GPlace) :=
  ((mk (p0_a.length : Int) ((GPlace.mk 0 0 0 0) : GPlace)).bind fun xs3 => (Option.bind (laws_toPlaceS_L1 F p0_a F xs3 0) fun xs37 => some xs37))

def laws_toEventGraph (F : Nat) (p0_a : LEventGraph) : Option (GEventGraph) :=
  ((laws_toPlaceS F p0_a.Places).bind fun r4 => some (GEventGraph.mk p0_a.Events r4))

def laws_toInt64S_L1 (F : Nat) (p0_a : List Int) : Nat → (List Int) → Int → Option (List Int)
  | 0, _, _ => none
  | n36 + 1, xs21, x23 => (bif (decide (x23 < (p0_a.length : Int))) then ((idx p0_a x23).bind fun q38 => ((idx xs21 x23).bind fun _q40 => ((upd xs21 x23 q38).bind fun xs42 => (laws_toInt64S_L1 F p0_a n36 xs42 (IntKind.i64.wrap (x23 + 1)))))) else some xs21)

def laws_toInt64S (F : Nat) (p0_a : List Int) : Option (List Int) :=
  ((mk (p0_a.length : Int) (0 : Int)).bind fun xs3 => (Option.bind (laws_toInt64S_L1 F p0_a F xs3 0) fun xs31 => some xs31))

def spec_l01In (_F : Nat) (p0_n : Int) (p1_low : Int) (p2_high : Int) : Option (Bool) :=
  (Option.bind ((bif (decide (p1_low ≤ p0_n)) then some (decide (p0_n ≤ p2_high)) else some false) : Option (Bool)) fun b2 => some b2)

def spec_l11Place (F : Nat) (p0_p : GPlace) (p1_events : Int) : Option (Bool) :=
  (Option.bind (((spec_l01In F p0_p.From 0 (IntKind.i64.wrap (p1_events - 1))).bind fun r16 => (bif r16 then ((spec_l01In F p0_p.To 0 (IntKind.i64.wrap (p1_events - 1))).bind fun r19 => (bif r19 then ((spec_l01In F p0_p.Delay 0 1000).bind fun r22 => (bif r22 then ((spec_l01In F p0_p.Tokens 0 5).bind fun r25 => some r25) else some false)) else some false)) else some false)) : Option (Bool)) fun b13 => some b13)

def spec_IsEventGraph_L1 (F : Nat) (p0_g : GEventGraph) : Nat → Int → Option (Sum Bool (Unit))
  | 0, _ => none
  | n25 + 1, x15 => (bif (decide (x15 < (p0_g.Places.length : Int))) then ((idx p0_g.Places x15).bind fun q27 => ((spec_l11Place F q27 p0_g.Events).bind fun r29 => (bif (!r29) then some (Sum.inl false) else (spec_IsEventGraph_L1 F p0_g n25 (IntKind.i64.wrap (x15 + 1)))))) else some (Sum.inr ()))

def spec_IsEventGraph (F : Nat) (p0_g : GEventGraph) : Option (Bool) :=
  (Option.bind (spec_IsEventGraph_L1 F p0_g F 0) fun r22 => match r22 with | .inl x_ => some x_ | .inr _ => (Option.bind (((spec_l01In F p0_g.Events 1 10).bind fun r38 => (bif r38 then some (decide ((p0_g.Places.length : Int) ≤ 30)) else some false)) : Option (Bool)) fun b35 => some b35))

def spec_l01Within_L1 (F : Nat) (p0_list : List Int) (p2_low : Int) (p3_high : Int) : Nat → Int → Option (Sum Bool (Unit))
  | 0, _ => none
  | n24 + 1, x14 => (bif (decide (x14 < (p0_list.length : Int))) then ((idx p0_list x14).bind fun q26 => ((spec_l01In F q26 p2_low p3_high).bind fun r28 => (bif (!r28) then some (Sum.inl false) else (spec_l01Within_L1 F p0_list p2_low p3_high n24 (IntKind.i64.wrap (x14 + 1)))))) else some (Sum.inr ()))

def spec_l01Within (F : Nat) (p0_list : List Int) (p1_most : Int) (p2_low : Int) (p3_high : Int) : Option (Bool) :=
  (Option.bind (spec_l01Within_L1 F p0_list p2_low p3_high F 0) fun r21 => match r21 with | .inl x_ => some x_ | .inr _ => some (decide ((p0_list.length : Int) ≤ p1_most)))

def spec_l22Due_L1 (F : Nat) (p0_g : GEventGraph) (p1_due : List (List Int)) : Nat → Int → Option (Sum Bool (Unit))
  | 0, _ => none
  | n148 + 1, x97 => (bif (decide (x97 < (p1_due.length : Int))) then (Option.bind (((idx p1_due x97).bind fun q174 => (bif ((q174.length : Int) != p0_g.Events) then some true else ((idx p1_due x97).bind fun q184 => ((spec_l01Within F q184 10 0 1000000).bind fun r193 => some (!r193))))) : Option (Bool)) fun b171 => (bif b171 then some (Sum.inl false) else (spec_l22Due_L1 F p0_g p1_due n148 (IntKind.i64.wrap (x97 + 1))))) else some (Sum.inr ()))

def spec_l22Due (F : Nat) (p0_g : GEventGraph) (p1_due : List (List Int)) : Option (Bool) :=
  (Option.bind (spec_l22Due_L1 F p0_g p1_due F 0) fun r145 => match r145 with | .inl x_ => some x_ | .inr _ => some (decide ((p1_due.length : Int) ≤ 50)))

def spec_l01Own (_F : Nat) (p0_list : List Int) : Option (List Int) :=
  ((app ([] : List Int) p0_list).bind fun xs5 => some xs5)

def spec_DueOfLast_L5 (F : Nat) (p0_g : GEventGraph) : Nat → (List Int) → Int → Option (List Int)
  | 0, _, _ => none
  | n276 + 1, xs255, x260 => (bif (decide (x260 < p0_g.Events)) then ((app xs255 ([1000000])).bind fun xs282 => (spec_DueOfLast_L5 F p0_g n276 xs282 (IntKind.i64.wrap (x260 + 1)))) else some xs255)

def spec_DueOfLast_L4 (F : Nat) (p0_g : GEventGraph) (p1_n : Int) : Nat → (List (List Int)) → Int → Option (List (List Int))
  | 0, _, _ => none
  | n231 + 1, ms155, x161 => (bif (decide (x161 < p1_n)) then (Option.bind (spec_DueOfLast_L5 F p0_g F ([] : List Int) 0) fun xs268 => ((app ms155 ([xs268])).bind fun ms288 => (spec_DueOfLast_L4 F p0_g p1_n n231 ms288 (IntKind.i64.wrap (x161 + 1))))) else some ms155)

def spec_DueOfLast (F : Nat) (p0_g : GEventGraph) (p1_n : Int) (p2_due : List Int) : Option (List (List Int) × Int) :=
  ((spec_IsEventGraph F p0_g).bind fun r2 => (bif (!r2) then some (([] : List (List Int)), 1) else (Option.bind (((spec_l01In F p1_n 1 50).bind fun r16 => (bif (!r16) then some true else ((spec_l22Due F p0_g ([p2_due])).bind fun r21 => some (!r21)))) : Option (Bool)) fun b13 => (bif b13 then some (([] : List (List Int)), 2) else (Option.bind (spec_DueOfLast_L4 F p0_g p1_n F [] 1) fun ms222 => ((spec_l01Own F p2_due).bind fun r292 => ((app ms222 ([r292])).bind fun ms302 => some (ms302, 0))))))))

def impl_within (_F : Nat) (p0_n : Int) (p1_low : Int) (p2_high : Int) : Option (Bool) :=
  (Option.bind ((bif (decide (p1_low ≤ p0_n)) then some (decide (p0_n ≤ p2_high)) else some false) : Option (Bool)) fun b2 => some b2)

def impl_isEvent (F : Nat) (p0_g : GEventGraph) (p1_event : Int) : Option (Bool) :=
  ((impl_within F p1_event 0 (IntKind.i64.wrap (p0_g.Events - 1))).bind fun r2 => some r2)

def impl_isPlace (F : Nat) (p0_g : GEventGraph) (p1_p : GPlace) : Option (Bool) :=
  (Option.bind (((impl_isEvent F p0_g p1_p.From).bind fun r17 => (bif r17 then ((impl_isEvent F p0_g p1_p.To).bind fun r20 => (bif r20 then ((impl_within F p1_p.Delay 0 1000).bind fun r23 => (bif r23 then ((impl_within F p1_p.Tokens 0 5).bind fun r26 => some r26) else some false)) else some false)) else some false)) : Option (Bool)) fun b14 => some b14)

def impl_IsEventGraph_c1 (F : Nat) (p0_p : GPlace) (z0 : GEventGraph) : Option (Bool) :=
  ((impl_isPlace F z0 p0_p).bind fun r2 => some (!r2))

def slices_IndexFunc_Place_L1 (F : Nat) (p0_s : List GPlace) (m_p1_f : GPlace → Option Bool) : Nat → Int → Option (Sum Int (Unit))
  | 0, _ => none
  | n24 + 1, x14 => (bif (decide (x14 < (p0_s.length : Int))) then ((idx p0_s x14).bind fun q26 => ((m_p1_f q26).bind fun r28 => (bif r28 then some (Sum.inl x14) else (slices_IndexFunc_Place_L1 F p0_s m_p1_f n24 (IntKind.i64.wrap (x14 + 1)))))) else some (Sum.inr ()))

def slices_IndexFunc_Place (F : Nat) (p0_s : List GPlace) (m_p1_f : GPlace → Option Bool) : Option (Int) :=
  (Option.bind (slices_IndexFunc_Place_L1 F p0_s m_p1_f F 0) fun r21 => match r21 with | .inl x_ => some x_ | .inr _ => some (-1))

def slices_ContainsFunc_Place (F : Nat) (p0_s : List GPlace) (m_p1_f : GPlace → Option Bool) : Option (Bool) :=
  ((slices_IndexFunc_Place F p0_s m_p1_f).bind fun r1 => some (decide (0 ≤ r1)))

def impl_IsEventGraph (F : Nat) (p0_g : GEventGraph) : Option (Bool) :=
  (Option.bind (((impl_within F p0_g.Events 1 10).bind fun r11 => (bif r11 then (bif (decide ((p0_g.Places.length : Int) ≤ 30)) then ((slices_ContainsFunc_Place F p0_g.Places (fun x0 => impl_IsEventGraph_c1 F x0 p0_g)).bind fun r15 => some (!r15)) else some false) else some false)) : Option (Bool)) fun b8 => some b8)

def impl_allWithin_L1 (F : Nat) (p0_list : List Int) (p1_low : Int) (p2_high : Int) : Nat → Int → Option (Sum Bool (Unit))
  | 0, _ => none
  | n24 + 1, x14 => (bif (decide (x14 < (p0_list.length : Int))) then ((idx p0_list x14).bind fun q26 => ((impl_within F q26 p1_low p2_high).bind fun r28 => (bif (!r28) then some (Sum.inl false) else (impl_allWithin_L1 F p0_list p1_low p2_high n24 (IntKind.i64.wrap (x14 + 1)))))) else some (Sum.inr ()))

def impl_allWithin (F : Nat) (p0_list : List Int) (p1_low : Int) (p2_high : Int) : Option (Bool) :=
  (Option.bind (impl_allWithin_L1 F p0_list p1_low p2_high F 0) fun r21 => match r21 with | .inl x_ => some x_ | .inr _ => some true)

def impl_matrixBy_L5 (F : Nat) (m_p2_entry : Int → Int → Option Int) (x324 : Int) (q500 : List Int) : Nat → (List (List Int)) → Int → Option (List (List Int))
  | 0, _, _ => none
  | n609 + 1, ms570, x572 => (bif (decide (x572 < (q500.length : Int))) then ((idx ms570 x324).bind fun q626 => ((m_p2_entry x324 x572).bind fun r631 => ((idx q626 x572).bind fun _q633 => ((upd q626 x572 r631).bind fun xs635 => ((upd ms570 x324 xs635).bind fun ms636 => (impl_matrixBy_L5 F m_p2_entry x324 q500 n609 ms636 (IntKind.i64.wrap (x572 + 1)))))))) else some ms570)

def impl_matrixBy_L4 (F : Nat) (p1_n : Int) (m_p2_entry : Int → Int → Option Int) (ms3 : List (List Int)) : Nat → (List (List Int)) → Int → Option (List (List Int))
  | 0, _, _ => none
  | n487 + 1, ms318, x324 => (bif (decide (x324 < (ms3.length : Int))) then ((mk p1_n (0 : Int)).bind fun xs491 => ((idx ms318 x324).bind fun _q492 => ((upd ms318 x324 xs491).bind fun ms497 => ((idx ms497 x324).bind fun q500 => (Option.bind (impl_matrixBy_L5 F m_p2_entry x324 q500 F ms497 0) fun ms604 => (impl_matrixBy_L4 F p1_n m_p2_entry ms3 n487 ms604 (IntKind.i64.wrap (x324 + 1)))))))) else some ms318)

def impl_matrixBy (F : Nat) (p0_m : Int) (p1_n : Int) (m_p2_entry : Int → Int → Option Int) : Option (List (List Int)) :=
  ((mk p0_m ([] : List Int)).bind fun ms3 => (Option.bind (impl_matrixBy_L4 F p1_n m_p2_entry ms3 F ms3 0) fun ms478 => some ms478))

def impl_DueOfLast_c1 (_F : Nat) (_p0 : Int) (_p1 : Int) : Option (Int) :=
  some 1000000

def impl_DueOfLast (F : Nat) (p0_g : GEventGraph) (p1_n : Int) (p2_due : List Int) : Option (List (List Int) × Int) :=
  ((impl_IsEventGraph F p0_g).bind fun r2 => (bif (!r2) then some (([] : List (List Int)), 1) else (Option.bind (((impl_within F p1_n 1 50).bind fun r15 => (bif (!r15) then some true else (bif ((p2_due.length : Int) != p0_g.Events) then some true else ((impl_allWithin F p2_due 0 1000000).bind fun r19 => some (!r19))))) : Option (Bool)) fun b12 => (bif b12 then some (([] : List (List Int)), 2) else ((impl_matrixBy F p1_n (p2_due.length : Int) (fun x0 x1 => impl_DueOfLast_c1 F x0 x1)).bind fun r23 => ((idx r23 (IntKind.i64.wrap (p1_n - 1))).bind fun q30 => ((upd r23 (IntKind.i64.wrap (p1_n - 1)) (cpy q30 p2_due)).bind fun ms35 => some (ms35, 0))))))))

def laws_eqInt64S_L1 (F : Nat) (p0_a : List Int) (p1_b : List Int) : Nat → Int → Option (Sum Bool (Unit))
  | 0, _ => none
  | n25 + 1, x15 => (bif (decide (x15 < (p0_a.length : Int))) then ((idx p0_a x15).bind fun q27 => ((idx p1_b x15).bind fun q29 => (bif (q27 != q29) then some (Sum.inl false) else (laws_eqInt64S_L1 F p0_a p1_b n25 (IntKind.i64.wrap (x15 + 1)))))) else some (Sum.inr ()))

def laws_eqInt64S (F : Nat) (p0_a : List Int) (p1_b : List Int) : Option (Bool) :=
  (bif ((p0_a.length : Int) != (p1_b.length : Int)) then some false else (Option.bind (laws_eqInt64S_L1 F p0_a p1_b F 0) fun r22 => match r22 with | .inl x_ => some x_ | .inr _ => some true))

def laws_eqInt64SS_L1 (F : Nat) (p0_a : List (List Int)) (p1_b : List (List Int)) : Nat → Int → Option (Sum Bool (Unit))
  | 0, _ => none
  | n73 + 1, x47 => (bif (decide (x47 < (p0_a.length : Int))) then ((idx p0_a x47).bind fun q75 => ((idx p1_b x47).bind fun q84 => ((laws_eqInt64S F q75 q84).bind fun r93 => (bif (!r93) then some (Sum.inl false) else (laws_eqInt64SS_L1 F p0_a p1_b n73 (IntKind.i64.wrap (x47 + 1))))))) else some (Sum.inr ()))

def laws_eqInt64SS (F : Nat) (p0_a : List (List Int)) (p1_b : List (List Int)) : Option (Bool) :=
  (bif ((p0_a.length : Int) != (p1_b.length : Int)) then some false else (Option.bind (laws_eqInt64SS_L1 F p0_a p1_b F 0) fun r70 => match r70 with | .inl x_ => some x_ | .inr _ => some true))

def laws_eqPlace (_F : Nat) (p0_a : GPlace) (p1_b : GPlace) : Option (Bool) :=
  (bif (p0_a.From != p1_b.From) then some false else (bif (p0_a.To != p1_b.To) then some false else (bif (p0_a.Delay != p1_b.Delay) then some false else (bif (p0_a.Tokens != p1_b.Tokens) then some false else some true))))

def laws_eqPlaceS_L1 (F : Nat) (p0_a : List GPlace) (p1_b : List GPlace) : Nat → Int → Option (Sum Bool (Unit))
  | 0, _ => none
  | n31 + 1, x19 => (bif (decide (x19 < (p0_a.length : Int))) then ((idx p0_a x19).bind fun q33 => ((idx p1_b x19).bind fun q35 => ((laws_eqPlace F q33 q35).bind fun r37 => (bif (!r37) then some (Sum.inl false) else (laws_eqPlaceS_L1 F p0_a p1_b n31 (IntKind.i64.wrap (x19 + 1))))))) else some (Sum.inr ()))

def laws_eqPlaceS (F : Nat) (p0_a : List GPlace) (p1_b : List GPlace) : Option (Bool) :=
  (bif ((p0_a.length : Int) != (p1_b.length : Int)) then some false else (Option.bind (laws_eqPlaceS_L1 F p0_a p1_b F 0) fun r28 => match r28 with | .inl x_ => some x_ | .inr _ => some true))

def laws_eqEventGraph (F : Nat) (p0_a : GEventGraph) (p1_b : GEventGraph) : Option (Bool) :=
  (bif (p0_a.Events != p1_b.Events) then some false else ((laws_eqPlaceS F p0_a.Places p1_b.Places).bind fun r4 => (bif (!r4) then some false else some true)))

def laws_markPlaceS_L1 (F : Nat) : Nat → (List GPlace) → Int → Int → Option ((List GPlace) × Int)
  | 0, _, _, _ => none
  | n66 + 1, xs39, x41, x42 => (bif (decide (x42 < (xs39.length : Int))) then ((idx xs39 x42).bind fun q68 => ((upd xs39 x42 (GPlace.mk x41 q68.To q68.Delay q68.Tokens)).bind fun xs70 => ((idx xs70 x42).bind fun q72 => ((upd xs70 x42 (GPlace.mk q72.From (IntKind.i64.wrap (x41 + 1)) q72.Delay q72.Tokens)).bind fun xs74 => ((idx xs74 x42).bind fun q76 => ((upd xs74 x42 (GPlace.mk q76.From q76.To (IntKind.i64.wrap ((IntKind.i64.wrap (x41 + 1)) + 1)) q76.Tokens)).bind fun xs78 => ((idx xs78 x42).bind fun q80 => ((upd xs78 x42 (GPlace.mk q80.From q80.To q80.Delay (IntKind.i64.wrap ((IntKind.i64.wrap ((IntKind.i64.wrap (x41 + 1)) + 1)) + 1)))).bind fun xs82 => (laws_markPlaceS_L1 F n66 xs82 (IntKind.i64.wrap ((IntKind.i64.wrap ((IntKind.i64.wrap ((IntKind.i64.wrap (x41 + 1)) + 1)) + 1)) + 1)) (IntKind.i64.wrap (x42 + 1))))))))))) else some (xs39, x41))

def laws_markPlaceS (F : Nat) (p0_a : List GPlace) (p1_k : Int) : Option ((Int) × List GPlace) :=
  (Option.bind (laws_markPlaceS_L1 F F p0_a p1_k 0) fun (xs60, x62) => some (x62, xs60))

def laws_markEventGraph (F : Nat) (p0_a : GEventGraph) (p1_k : Int) : Option ((Int) × List GPlace) :=
  ((laws_markPlaceS F p0_a.Places p1_k).bind fun r2 => some (r2.1, r2.2))

def laws_markInt64S_L1 (F : Nat) : Nat → (List Int) → Int → Int → Option ((List Int) × Int)
  | 0, _, _, _ => none
  | n30 + 1, xs15, x17, x18 => (bif (decide (x18 < (xs15.length : Int))) then ((idx xs15 x18).bind fun _q32 => ((upd xs15 x18 x17).bind fun xs34 => (laws_markInt64S_L1 F n30 xs34 (IntKind.i64.wrap (x17 + 1)) (IntKind.i64.wrap (x18 + 1))))) else some (xs15, x17))

def laws_markInt64S (F : Nat) (p0_a : List Int) (p1_k : Int) : Option ((Int) × List Int) :=
  (Option.bind (laws_markInt64S_L1 F F p0_a p1_k 0) fun (xs24, x26) => some (x26, xs24))

def laws_markInt64SS_L1 (F : Nat) : Nat → (List (List Int)) → Int → Int → Option ((List (List Int)) × Int)
  | 0, _, _, _ => none
  | n48 + 1, ms27, x29, x30 => (bif (decide (x30 < (ms27.length : Int))) then ((idx ms27 x30).bind fun q50 => ((laws_markInt64S F q50 x29).bind fun r55 => ((upd ms27 x30 r55.2).bind fun ms59 => (laws_markInt64SS_L1 F n48 ms59 r55.1 (IntKind.i64.wrap (x30 + 1)))))) else some (ms27, x29))

def laws_markInt64SS (F : Nat) (p0_a : List (List Int)) (p1_k : Int) : Option ((Int) × List (List Int)) :=
  (Option.bind (laws_markInt64SS_L1 F F p0_a p1_k 0) fun (ms42, x44) => some (x44, ms42))

def laws_heldInt64S_L1 (F : Nat) (p0_a : List Int) : Nat → Int → Int → Option (Sum Int (Int))
  | 0, _, _ => none
  | n21 + 1, x11, x12 => (bif (decide (x12 < (p0_a.length : Int))) then ((idx p0_a x12).bind fun q23 => (bif (q23 != x11) then some (Sum.inl (-1)) else (laws_heldInt64S_L1 F p0_a n21 (IntKind.i64.wrap (x11 + 1)) (IntKind.i64.wrap (x12 + 1))))) else some (Sum.inr x11))

def laws_heldInt64S (F : Nat) (p0_a : List Int) (p1_k : Int) : Option (Int) :=
  (Option.bind (laws_heldInt64S_L1 F p0_a F p1_k 0) fun r18 => match r18 with | .inl x_ => some x_ | .inr x17 => some x17)

def laws_heldInt64SS_L1 (F : Nat) (p0_a : List (List Int)) : Nat → Int → Int → Option (Sum Int (Int))
  | 0, _, _ => none
  | n48 + 1, x29, x30 => (bif (decide (x30 < (p0_a.length : Int))) then ((idx p0_a x30).bind fun q50 => ((laws_heldInt64S F q50 x29).bind fun r59 => (bif (decide (r59 < 0)) then some (Sum.inl (-1)) else (laws_heldInt64SS_L1 F p0_a n48 r59 (IntKind.i64.wrap (x30 + 1)))))) else some (Sum.inr x29))

def laws_heldInt64SS (F : Nat) (p0_a : List (List Int)) (p1_k : Int) : Option (Int) :=
  (Option.bind (laws_heldInt64SS_L1 F p0_a F p1_k 0) fun r45 => match r45 with | .inl x_ => some x_ | .inr x44 => some x44)

def laws_FnExactDueOfLast (F : Nat) (p0 : LEventGraph) (p1 : Int) (p2 : List Int) : Option (Bool) :=
  (bif (decide (1048576 < (p2.length : Int))) then some true else ((laws_szEventGraph F p0 1048576).bind fun r3 => (bif (decide (r3 < 0)) then some true else ((laws_toEventGraph F p0).bind fun r6 => ((laws_toInt64S F p2).bind fun r12 => ((spec_DueOfLast F r6 p1 r12).bind fun r18 => ((laws_toEventGraph F p0).bind fun r25 => ((laws_toInt64S F p2).bind fun r32 => ((impl_DueOfLast F r25 p1 r32).bind fun r38 => (Option.bind (((laws_eqInt64SS F r38.1 r18.1).bind fun r51 => (bif (!r51) then some true else some (r38.2 != r18.2))) : Option (Bool)) fun b48 => (bif b48 then some false else ((laws_toEventGraph F p0).bind fun r63 => ((laws_eqEventGraph F r25 r63).bind fun r69 => (bif (!r69) then some false else ((laws_toInt64S F p2).bind fun r72 => ((laws_eqInt64S F r32 r72).bind fun r78 => (bif (!r78) then some false else ((laws_markEventGraph F r25 1).bind fun r81 => ((laws_markInt64S F r32 r81.1).bind fun r84 => (Option.bind ((bif (decide (r84.1 < 0)) then some true else ((laws_eqInt64SS F r38.1 r18.1).bind fun r95 => (bif (!r95) then some true else some (r38.2 != r18.2)))) : Option (Bool)) fun b91 => (bif b91 then some false else ((laws_markInt64SS F r38.1 1).bind fun r99 => ((laws_heldInt64SS F r99.2 1).bind fun r102 => (bif (decide (r102 < 0)) then some false else (bif (r102 != r99.1) then some false else ((laws_toEventGraph F p0).bind fun r106 => ((laws_toInt64S F p2).bind fun r112 => ((impl_DueOfLast F r106 p1 r112).bind fun r118 => (Option.bind (((laws_eqInt64SS F r118.1 r18.1).bind fun r131 => (bif (!r131) then some true else some (r118.2 != r18.2))) : Option (Bool)) fun b128 => (bif b128 then some false else ((laws_heldInt64SS F r99.2 1).bind fun r135 => (bif (decide (r135 < 0)) then some false else (bif (r135 != r99.1) then some false else some true)))))))))))))))))))))))))))))))))

end Go.Proofs.Ytpmebacdmilecaa
