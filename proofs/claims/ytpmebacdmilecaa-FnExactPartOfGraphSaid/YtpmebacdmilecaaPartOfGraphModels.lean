/- Plain models of the functions. -/
import Derived.Test.YtpmebacdmilecaaLiftP
namespace Go.Proofs.Ytpmebacdmilecaa

structure LPlace where
  From : Int
  To : Int
  Delay : Int
  Tokens : Int

structure LEventGraph where
  Events : Int
  Places : List LPlace

structure GPlace where
  From : Int
  To : Int
  Delay : Int
  Tokens : Int

structure GEventGraph where
  Events : Int
  Places : List GPlace

def laws_szPlaceS (_F : Nat) (p0_a : List LPlace) (p1_left : Int) : Option (Int) :=
  (bif (decide ((IntKind.i64.wrap (p1_left - (p0_a.length : Int))) < 0)) then some (-1) else some (IntKind.i64.wrap (p1_left - (p0_a.length : Int))))

def laws_szEventGraph (F : Nat) (p0_a : LEventGraph) (p1_left : Int) : Option (Int) :=
  ((laws_szPlaceS F p0_a.Places p1_left).bind fun r2 => (bif (decide (r2 < 0)) then some (-1) else some r2))

def laws_toPlace (_F : Nat) (p0_a : LPlace) : Option (GPlace) :=
  some (GPlace.mk p0_a.From p0_a.To p0_a.Delay p0_a.Tokens)

def laws_toPlaceS_L1 (F : Nat) (p0_a : List LPlace) : Nat → (List GPlace) → Int → Option (List GPlace)
  | 0, _, _ => none
  | n42 + 1, xs25, x27 => (bif (decide (x27 < (p0_a.length : Int))) then ((idx p0_a x27).bind fun q44 => ((laws_toPlace F q44).bind fun r46 => ((idx xs25 x27).bind fun _q48 => ((upd xs25 x27 r46).bind fun xs50 => (laws_toPlaceS_L1 F p0_a n42 xs50 (IntKind.i64.wrap (x27 + 1))))))) else some xs25)

def laws_toPlaceS (F : Nat) (p0_a : List LPlace) : Option (List GPlace) :=
  ((mk (p0_a.length : Int) ((GPlace.mk 0 0 0 0) : GPlace)).bind fun xs3 => (Option.bind (laws_toPlaceS_L1 F p0_a F xs3 0) fun xs37 => some xs37))

def laws_toEventGraph (F : Nat) (p0_a : LEventGraph) : Option (GEventGraph) :=
  ((laws_toPlaceS F p0_a.Places).bind fun r4 => some (GEventGraph.mk p0_a.Events r4))

def laws_toInt64S_L1 (F : Nat) (p0_a : List Int) : Nat → (List Int) → Int → Option (List Int)
  | 0, _, _ => none
  | n36 + 1, xs21, x23 => (bif (decide (x23 < (p0_a.length : Int))) then ((idx p0_a x23).bind fun q38 => ((idx xs21 x23).bind fun _q40 => ((upd xs21 x23 q38).bind fun xs42 => (laws_toInt64S_L1 F p0_a n36 xs42 (IntKind.i64.wrap (x23 + 1)))))) else some xs21)

def laws_toInt64S (F : Nat) (p0_a : List Int) : Option (List Int) :=
  ((mk (p0_a.length : Int) (0 : Int)).bind fun xs3 => (Option.bind (laws_toInt64S_L1 F p0_a F xs3 0) fun xs31 => some xs31))

def spec_l01In (_F : Nat) (p0_n : Int) (p1_low : Int) (p2_high : Int) : Option (Bool) :=
  (Option.bind ((bif (decide (p1_low ≤ p0_n)) then some (decide (p0_n ≤ p2_high)) else some false) : Option (Bool)) fun b2 => some b2)

def spec_l11Place (F : Nat) (p0_p : GPlace) (p1_events : Int) : Option (Bool) :=
  (Option.bind (((spec_l01In F p0_p.From 0 (IntKind.i64.wrap (p1_events - 1))).bind fun r16 => (bif r16 then ((spec_l01In F p0_p.To 0 (IntKind.i64.wrap (p1_events - 1))).bind fun r19 => (bif r19 then ((spec_l01In F p0_p.Delay 0 1000).bind fun r22 => (bif r22 then ((spec_l01In F p0_p.Tokens 0 5).bind fun r25 => some r25) else some false)) else some false)) else some false)) : Option (Bool)) fun b13 => some b13)

def spec_IsEventGraph_L1 (F : Nat) (p0_g : GEventGraph) : Nat → Int → Option (Sum Bool (Unit))
  | 0, _ => none
  | n25 + 1, x15 => (bif (decide (x15 < (p0_g.Places.length : Int))) then ((idx p0_g.Places x15).bind fun q27 => ((spec_l11Place F q27 p0_g.Events).bind fun r29 => (bif (!r29) then some (Sum.inl false) else (spec_IsEventGraph_L1 F p0_g n25 (IntKind.i64.wrap (x15 + 1)))))) else some (Sum.inr ()))

def spec_IsEventGraph (F : Nat) (p0_g : GEventGraph) : Option (Bool) :=
  (Option.bind (spec_IsEventGraph_L1 F p0_g F 0) fun r22 => match r22 with | .inl x_ => some x_ | .inr _ => (Option.bind (((spec_l01In F p0_g.Events 1 10).bind fun r38 => (bif r38 then some (decide ((p0_g.Places.length : Int) ≤ 30)) else some false)) : Option (Bool)) fun b35 => some b35))

def spec_l02Bottom_L5 (F : Nat) (p1_n : Int) : Nat → (List Int) → Int → Option (List Int)
  | 0, _, _ => none
  | n252 + 1, xs231, x236 => (bif (decide (x236 < p1_n)) then ((app xs231 ([(-1000000000000000)])).bind fun xs258 => (spec_l02Bottom_L5 F p1_n n252 xs258 (IntKind.i64.wrap (x236 + 1)))) else some xs231)

def spec_l02Bottom_L4 (F : Nat) (p0_m : Int) (p1_n : Int) : Nat → (List (List Int)) → Int → Option (List (List Int))
  | 0, _, _ => none
  | n207 + 1, ms131, x137 => (bif (decide (x137 < p0_m)) then (Option.bind (spec_l02Bottom_L5 F p1_n F ([] : List Int) 0) fun xs244 => ((app ms131 ([xs244])).bind fun ms264 => (spec_l02Bottom_L4 F p0_m p1_n n207 ms264 (IntKind.i64.wrap (x137 + 1))))) else some ms131)

def spec_l02Bottom (F : Nat) (p0_m : Int) (p1_n : Int) : Option (List (List Int)) :=
  (Option.bind (spec_l02Bottom_L4 F p0_m p1_n F [] 0) fun ms198 => some ms198)

def spec_l19Map_L1 (F : Nat) (p0_g : GEventGraph) (p2_p : List Int) : Nat → (List GPlace) → Int → Option (List GPlace)
  | 0, _, _ => none
  | n140 + 1, xs88, x93 => (bif (decide (x93 < (p0_g.Places.length : Int))) then ((idx p0_g.Places x93).bind fun q142 => (Option.bind (((idx p2_p q142.From).bind fun q153 => (bif (decide (0 ≤ q153)) then ((idx p2_p q142.To).bind fun q156 => some (decide (0 ≤ q156))) else some false)) : Option (Bool)) fun b150 => (bif b150 then ((idx p2_p q142.From).bind fun q169 => ((idx p2_p q142.To).bind fun q171 => ((app xs88 ([(GPlace.mk q169 q171 q142.Delay q142.Tokens)])).bind fun xs177 => (spec_l19Map_L1 F p0_g p2_p n140 xs177 (IntKind.i64.wrap (x93 + 1)))))) else (spec_l19Map_L1 F p0_g p2_p n140 xs88 (IntKind.i64.wrap (x93 + 1)))))) else some xs88)

def spec_l19Map (F : Nat) (p0_g : GEventGraph) (p1_events : Int) (p2_p : List Int) : Option (GEventGraph) :=
  (Option.bind (spec_l19Map_L1 F p0_g p2_p F ([] : List GPlace) 0) fun xs132 => some (GEventGraph.mk p1_events xs132))

def spec_PartOfGraph_L1 (F : Nat) (p0 : GEventGraph) (p1 : List Int) : Nat → (List Int) → Int → Option (Sum (GEventGraph × Int) (List Int))
  | 0, _, _ => none
  | n138 + 1, xs93, x98 => (bif (decide (x98 < (p1.length : Int))) then (Option.bind (((idx p1 x98).bind fun q153 => ((spec_l01In F q153 0 (IntKind.i64.wrap (p0.Events - 1))).bind fun r155 => (bif (!r155) then some true else (bif (decide (0 < x98)) then ((idx p1 x98).bind fun q159 => ((idx p1 (IntKind.i64.wrap (x98 - 1))).bind fun q161 => some (decide (q159 ≤ q161)))) else some false)))) : Option (Bool)) fun b150 => (bif b150 then some (Sum.inl ((GEventGraph.mk 0 []), 2)) else ((idx p1 x98).bind fun q165 => ((idx xs93 q165).bind fun _q167 => ((upd xs93 q165 x98).bind fun xs169 => (spec_PartOfGraph_L1 F p0 p1 n138 xs169 (IntKind.i64.wrap (x98 + 1)))))))) else some (Sum.inr xs93))

def spec_PartOfGraph (F : Nat) (p0 : GEventGraph) (p1 : List Int) : Option (GEventGraph × Int) :=
  ((spec_IsEventGraph F p0).bind fun r3 => (bif (!r3) then some ((GEventGraph.mk 0 []), 1) else ((spec_l02Bottom F 1 p0.Events).bind fun r7 => ((idx r7 0).bind fun q14 => (Option.bind (spec_PartOfGraph_L1 F p0 p1 F q14 0) fun r135 => match r135 with | .inl x_ => some x_ | .inr xs130 => (bif ((p1.length : Int) == 0) then some ((GEventGraph.mk 0 []), 2) else ((spec_l19Map F p0 (p1.length : Int) xs130).bind fun r173 => some (r173, 0))))))))

def impl_within (_F : Nat) (p0_n : Int) (p1_low : Int) (p2_high : Int) : Option (Bool) :=
  (Option.bind ((bif (decide (p1_low ≤ p0_n)) then some (decide (p0_n ≤ p2_high)) else some false) : Option (Bool)) fun b2 => some b2)

def impl_isEvent (F : Nat) (p0_g : GEventGraph) (p1_event : Int) : Option (Bool) :=
  ((impl_within F p1_event 0 (IntKind.i64.wrap (p0_g.Events - 1))).bind fun r2 => some r2)

def impl_isPlace (F : Nat) (p0_g : GEventGraph) (p1_p : GPlace) : Option (Bool) :=
  (Option.bind (((impl_isEvent F p0_g p1_p.From).bind fun r17 => (bif r17 then ((impl_isEvent F p0_g p1_p.To).bind fun r20 => (bif r20 then ((impl_within F p1_p.Delay 0 1000).bind fun r23 => (bif r23 then ((impl_within F p1_p.Tokens 0 5).bind fun r26 => some r26) else some false)) else some false)) else some false)) : Option (Bool)) fun b14 => some b14)

def impl_IsEventGraph_c1 (F : Nat) (p0_p : GPlace) (z0 : GEventGraph) : Option (Bool) :=
  ((impl_isPlace F z0 p0_p).bind fun r2 => some (!r2))

def slices_IndexFunc_Place_L1 (F : Nat) (p0_s : List GPlace) (m_p1_f : GPlace → Option Bool) : Nat → Int → Option (Sum Int (Unit))
  | 0, _ => none
  | n24 + 1, x14 => (bif (decide (x14 < (p0_s.length : Int))) then ((idx p0_s x14).bind fun q26 => ((m_p1_f q26).bind fun r28 => (bif r28 then some (Sum.inl x14) else (slices_IndexFunc_Place_L1 F p0_s m_p1_f n24 (IntKind.i64.wrap (x14 + 1)))))) else some (Sum.inr ()))

def slices_IndexFunc_Place (F : Nat) (p0_s : List GPlace) (m_p1_f : GPlace → Option Bool) : Option (Int) :=
  (Option.bind (slices_IndexFunc_Place_L1 F p0_s m_p1_f F 0) fun r21 => match r21 with | .inl x_ => some x_ | .inr _ => some (-1))

def slices_ContainsFunc_Place (F : Nat) (p0_s : List GPlace) (m_p1_f : GPlace → Option Bool) : Option (Bool) :=
  ((slices_IndexFunc_Place F p0_s m_p1_f).bind fun r1 => some (decide (0 ≤ r1)))

def impl_IsEventGraph (F : Nat) (p0_g : GEventGraph) : Option (Bool) :=
  (Option.bind (((impl_within F p0_g.Events 1 10).bind fun r11 => (bif r11 then (bif (decide ((p0_g.Places.length : Int) ≤ 30)) then ((slices_ContainsFunc_Place F p0_g.Places (fun x0 => impl_IsEventGraph_c1 F x0 p0_g)).bind fun r15 => some (!r15)) else some false) else some false)) : Option (Bool)) fun b8 => some b8)

def impl_allWithin_L1 (F : Nat) (p0_list : List Int) (p1_low : Int) (p2_high : Int) : Nat → Int → Option (Sum Bool (Unit))
  | 0, _ => none
  | n24 + 1, x14 => (bif (decide (x14 < (p0_list.length : Int))) then ((idx p0_list x14).bind fun q26 => ((impl_within F q26 p1_low p2_high).bind fun r28 => (bif (!r28) then some (Sum.inl false) else (impl_allWithin_L1 F p0_list p1_low p2_high n24 (IntKind.i64.wrap (x14 + 1)))))) else some (Sum.inr ()))

def impl_allWithin (F : Nat) (p0_list : List Int) (p1_low : Int) (p2_high : Int) : Option (Bool) :=
  (Option.bind (impl_allWithin_L1 F p0_list p1_low p2_high F 0) fun r21 => match r21 with | .inl x_ => some x_ | .inr _ => some true)

def impl_increasing_L1 (F : Nat) (p0_list : List Int) : Nat → Int → Option (Sum Bool (Unit))
  | 0, _ => none
  | n24 + 1, x14 => (bif (decide (x14 < (p0_list.length : Int))) then ((idx p0_list (IntKind.i64.wrap (x14 - 1))).bind fun q26 => ((idx p0_list x14).bind fun q28 => (bif (decide (q28 ≤ q26)) then some (Sum.inl false) else (impl_increasing_L1 F p0_list n24 (IntKind.i64.wrap (x14 + 1)))))) else some (Sum.inr ()))

def impl_increasing (F : Nat) (p0_list : List Int) : Option (Bool) :=
  (Option.bind (impl_increasing_L1 F p0_list F 1) fun r21 => match r21 with | .inl x_ => some x_ | .inr _ => some true)

def slices_Index_int64_L1 (F : Nat) (p0_s : List Int) (p1_v : Int) : Nat → Int → Option (Sum Int (Unit))
  | 0, _ => none
  | n18 + 1, x10 => (bif (decide (x10 < (p0_s.length : Int))) then ((idx p0_s x10).bind fun q20 => (bif (p1_v == q20) then some (Sum.inl x10) else (slices_Index_int64_L1 F p0_s p1_v n18 (IntKind.i64.wrap (x10 + 1))))) else some (Sum.inr ()))

def slices_Index_int64 (F : Nat) (p0_s : List Int) (p1_v : Int) : Option (Int) :=
  (Option.bind (slices_Index_int64_L1 F p0_s p1_v F 0) fun r15 => match r15 with | .inl x_ => some x_ | .inr _ => some (-1))

def impl_PartOfGraph_c1 (F : Nat) (p0_event : Int) (z0 : List Int) : Option (Int) :=
  ((slices_Index_int64 F z0 p0_event).bind fun r1 => some r1)

def impl_mappedGraph_L1 (F : Nat) (p0_g : GEventGraph) (m_p2_become : Int → Option Int) : Nat → (List GPlace) → Int → Option (List GPlace)
  | 0, _, _ => none
  | n100 + 1, xs62, x67 => (bif (decide (x67 < (p0_g.Places.length : Int))) then ((idx p0_g.Places x67).bind fun q102 => ((m_p2_become q102.From).bind fun r115 => ((m_p2_become q102.To).bind fun r117 => ((app xs62 ([(GPlace.mk r115 r117 q102.Delay q102.Tokens)])).bind fun xs123 => (impl_mappedGraph_L1 F p0_g m_p2_become n100 xs123 (IntKind.i64.wrap (x67 + 1))))))) else some xs62)

def impl_mappedGraph (F : Nat) (p0_g : GEventGraph) (p1_events : Int) (m_p2_become : Int → Option Int) : Option (GEventGraph) :=
  (Option.bind (impl_mappedGraph_L1 F p0_g m_p2_become F [] 0) fun xs92 => some (GEventGraph.mk p1_events xs92))

def slices_DeleteFunc_Place_L1 (F : Nat) (m_p1_del : GPlace → Option Bool) : Nat → (List GPlace) → Int → Int → Option ((List GPlace) × Int)
  | 0, _, _, _ => none
  | n51 + 1, xs30, x32, x33 => (bif (decide (x33 < (xs30.length : Int))) then ((idx xs30 x33).bind fun q53 => ((m_p1_del q53).bind fun r56 => (bif (!r56) then ((idx xs30 x32).bind fun _q59 => ((upd xs30 x32 q53).bind fun xs61 => (slices_DeleteFunc_Place_L1 F m_p1_del n51 xs61 (IntKind.i64.wrap (x32 + 1)) (IntKind.i64.wrap (x33 + 1))))) else (slices_DeleteFunc_Place_L1 F m_p1_del n51 xs30 x32 (IntKind.i64.wrap (x33 + 1)))))) else some (xs30, x32))

def slices_DeleteFunc_Place (F : Nat) (p0_s : List GPlace) (m_p1_del : GPlace → Option Bool) : Option ((List GPlace) × List GPlace) :=
  ((slices_IndexFunc_Place F p0_s m_p1_del).bind fun r1 => (bif (r1 == (-1)) then some (p0_s, p0_s) else (Option.bind (slices_DeleteFunc_Place_L1 F m_p1_del F p0_s r1 (IntKind.i64.wrap (r1 + 1))) fun (xs45, x47) => ((cutFrom xs45 x47).bind fun _xs64 => ((cutTo (clr xs45 x47 (GPlace.mk 0 0 0 0)) x47).bind fun xs66 => some (xs66, (clr xs45 x47 (GPlace.mk 0 0 0 0))))))))

def impl_PartOfGraph_c2 (_F : Nat) (p0_p : GPlace) : Option (Bool) :=
  (Option.bind ((bif (decide (p0_p.From < 0)) then some true else some (decide (p0_p.To < 0))) : Option (Bool)) fun b3 => some b3)

def impl_PartOfGraph (F : Nat) (p0_g : GEventGraph) (p1_events : List Int) : Option (GEventGraph × Int) :=
  ((impl_IsEventGraph F p0_g).bind fun r4 => (bif (!r4) then some ((GEventGraph.mk 0 []), 1) else (Option.bind ((bif ((p1_events.length : Int) == 0) then some true else ((impl_allWithin F p1_events 0 (IntKind.i64.wrap (p0_g.Events - 1))).bind fun r18 => (bif (!r18) then some true else ((impl_increasing F p1_events).bind fun r21 => some (!r21))))) : Option (Bool)) fun b14 => (bif b14 then some ((GEventGraph.mk 0 []), 2) else ((impl_mappedGraph F p0_g (p1_events.length : Int) (fun x0 => impl_PartOfGraph_c1 F x0 p1_events)).bind fun r25 => ((slices_DeleteFunc_Place F r25.Places (fun x0 => impl_PartOfGraph_c2 F x0)).bind fun r32 => some ((GEventGraph.mk r25.Events r32.1), 0)))))))

def laws_eqPlace (_F : Nat) (p0_a : GPlace) (p1_b : GPlace) : Option (Bool) :=
  (bif (p0_a.From != p1_b.From) then some false else (bif (p0_a.To != p1_b.To) then some false else (bif (p0_a.Delay != p1_b.Delay) then some false else (bif (p0_a.Tokens != p1_b.Tokens) then some false else some true))))

def laws_eqPlaceS_L1 (F : Nat) (p0_a : List GPlace) (p1_b : List GPlace) : Nat → Int → Option (Sum Bool (Unit))
  | 0, _ => none
  | n31 + 1, x19 => (bif (decide (x19 < (p0_a.length : Int))) then ((idx p0_a x19).bind fun q33 => ((idx p1_b x19).bind fun q35 => ((laws_eqPlace F q33 q35).bind fun r37 => (bif (!r37) then some (Sum.inl false) else (laws_eqPlaceS_L1 F p0_a p1_b n31 (IntKind.i64.wrap (x19 + 1))))))) else some (Sum.inr ()))

def laws_eqPlaceS (F : Nat) (p0_a : List GPlace) (p1_b : List GPlace) : Option (Bool) :=
  (bif ((p0_a.length : Int) != (p1_b.length : Int)) then some false else (Option.bind (laws_eqPlaceS_L1 F p0_a p1_b F 0) fun r28 => match r28 with | .inl x_ => some x_ | .inr _ => some true))

def laws_eqEventGraph (F : Nat) (p0_a : GEventGraph) (p1_b : GEventGraph) : Option (Bool) :=
  (bif (p0_a.Events != p1_b.Events) then some false else ((laws_eqPlaceS F p0_a.Places p1_b.Places).bind fun r4 => (bif (!r4) then some false else some true)))

def laws_eqInt64S_L1 (F : Nat) (p0_a : List Int) (p1_b : List Int) : Nat → Int → Option (Sum Bool (Unit))
  | 0, _ => none
  | n25 + 1, x15 => (bif (decide (x15 < (p0_a.length : Int))) then ((idx p0_a x15).bind fun q27 => ((idx p1_b x15).bind fun q29 => (bif (q27 != q29) then some (Sum.inl false) else (laws_eqInt64S_L1 F p0_a p1_b n25 (IntKind.i64.wrap (x15 + 1)))))) else some (Sum.inr ()))

def laws_eqInt64S (F : Nat) (p0_a : List Int) (p1_b : List Int) : Option (Bool) :=
  (bif ((p0_a.length : Int) != (p1_b.length : Int)) then some false else (Option.bind (laws_eqInt64S_L1 F p0_a p1_b F 0) fun r22 => match r22 with | .inl x_ => some x_ | .inr _ => some true))

def laws_markPlaceS_L1 (F : Nat) : Nat → (List GPlace) → Int → Int → Option ((List GPlace) × Int)
  | 0, _, _, _ => none
  | n66 + 1, xs39, x41, x42 => (bif (decide (x42 < (xs39.length : Int))) then ((idx xs39 x42).bind fun q68 => ((upd xs39 x42 (GPlace.mk x41 q68.To q68.Delay q68.Tokens)).bind fun xs70 => ((idx xs70 x42).bind fun q72 => ((upd xs70 x42 (GPlace.mk q72.From (IntKind.i64.wrap (x41 + 1)) q72.Delay q72.Tokens)).bind fun xs74 => ((idx xs74 x42).bind fun q76 => ((upd xs74 x42 (GPlace.mk q76.From q76.To (IntKind.i64.wrap ((IntKind.i64.wrap (x41 + 1)) + 1)) q76.Tokens)).bind fun xs78 => ((idx xs78 x42).bind fun q80 => ((upd xs78 x42 (GPlace.mk q80.From q80.To q80.Delay (IntKind.i64.wrap ((IntKind.i64.wrap ((IntKind.i64.wrap (x41 + 1)) + 1)) + 1)))).bind fun xs82 => (laws_markPlaceS_L1 F n66 xs82 (IntKind.i64.wrap ((IntKind.i64.wrap ((IntKind.i64.wrap ((IntKind.i64.wrap (x41 + 1)) + 1)) + 1)) + 1)) (IntKind.i64.wrap (x42 + 1))))))))))) else some (xs39, x41))

def laws_markPlaceS (F : Nat) (p0_a : List GPlace) (p1_k : Int) : Option ((Int) × List GPlace) :=
  (Option.bind (laws_markPlaceS_L1 F F p0_a p1_k 0) fun (xs60, x62) => some (x62, xs60))

def laws_markEventGraph (F : Nat) (p0_a : GEventGraph) (p1_k : Int) : Option ((Int) × List GPlace) :=
  ((laws_markPlaceS F p0_a.Places p1_k).bind fun r2 => some (r2.1, r2.2))

def laws_markInt64S_L1 (F : Nat) : Nat → (List Int) → Int → Int → Option ((List Int) × Int)
  | 0, _, _, _ => none
  | n30 + 1, xs15, x17, x18 => (bif (decide (x18 < (xs15.length : Int))) then ((idx xs15 x18).bind fun _q32 => ((upd xs15 x18 x17).bind fun xs34 => (laws_markInt64S_L1 F n30 xs34 (IntKind.i64.wrap (x17 + 1)) (IntKind.i64.wrap (x18 + 1))))) else some (xs15, x17))

def laws_markInt64S (F : Nat) (p0_a : List Int) (p1_k : Int) : Option ((Int) × List Int) :=
  (Option.bind (laws_markInt64S_L1 F F p0_a p1_k 0) fun (xs24, x26) => some (x26, xs24))

def laws_heldPlaceS_L1 (F : Nat) (p0_a : List GPlace) : Nat → Int → Int → Option (Sum Int (Int))
  | 0, _, _ => none
  | n48 + 1, x29, x30 => (bif (decide (x30 < (p0_a.length : Int))) then ((idx p0_a x30).bind fun q50 => (bif (q50.From != x29) then some (Sum.inl (-1)) else ((idx p0_a x30).bind fun q53 => (bif (q53.To != (IntKind.i64.wrap (x29 + 1))) then some (Sum.inl (-1)) else ((idx p0_a x30).bind fun q56 => (bif (q56.Delay != (IntKind.i64.wrap ((IntKind.i64.wrap (x29 + 1)) + 1))) then some (Sum.inl (-1)) else ((idx p0_a x30).bind fun q59 => (bif (q59.Tokens != (IntKind.i64.wrap ((IntKind.i64.wrap ((IntKind.i64.wrap (x29 + 1)) + 1)) + 1))) then some (Sum.inl (-1)) else (laws_heldPlaceS_L1 F p0_a n48 (IntKind.i64.wrap ((IntKind.i64.wrap ((IntKind.i64.wrap ((IntKind.i64.wrap (x29 + 1)) + 1)) + 1)) + 1)) (IntKind.i64.wrap (x30 + 1))))))))))) else some (Sum.inr x29))

def laws_heldPlaceS (F : Nat) (p0_a : List GPlace) (p1_k : Int) : Option (Int) :=
  (Option.bind (laws_heldPlaceS_L1 F p0_a F p1_k 0) fun r45 => match r45 with | .inl x_ => some x_ | .inr x44 => some x44)

def laws_heldEventGraph (F : Nat) (p0_a : GEventGraph) (p1_k : Int) : Option (Int) :=
  ((laws_heldPlaceS F p0_a.Places p1_k).bind fun r2 => (bif (decide (r2 < 0)) then some (-1) else some r2))

def laws_FnExactPartOfGraph (F : Nat) (p0 : LEventGraph) (p1 : List Int) : Option (Bool) :=
  (bif (decide (1048576 < (p1.length : Int))) then some true else ((laws_szEventGraph F p0 1048576).bind fun r3 => (bif (decide (r3 < 0)) then some true else ((laws_toEventGraph F p0).bind fun r6 => ((laws_toInt64S F p1).bind fun r12 => ((spec_PartOfGraph F r6 r12).bind fun r18 => ((laws_toEventGraph F p0).bind fun r25 => ((laws_toInt64S F p1).bind fun r32 => ((impl_PartOfGraph F r25 r32).bind fun r38 => (Option.bind (((laws_eqEventGraph F (GEventGraph.mk r38.1.Events r38.1.Places) (GEventGraph.mk r18.1.Events r18.1.Places)).bind fun r51 => (bif (!r51) then some true else some (r38.2 != r18.2))) : Option (Bool)) fun b48 => (bif b48 then some false else ((laws_toEventGraph F p0).bind fun r63 => ((laws_eqEventGraph F r25 r63).bind fun r69 => (bif (!r69) then some false else ((laws_toInt64S F p1).bind fun r72 => ((laws_eqInt64S F r32 r72).bind fun r78 => (bif (!r78) then some false else ((laws_markEventGraph F r25 1).bind fun r81 => ((laws_markInt64S F r32 r81.1).bind fun r84 => (Option.bind ((bif (decide (r84.1 < 0)) then some true else ((laws_eqEventGraph F (GEventGraph.mk r38.1.Events r38.1.Places) (GEventGraph.mk r18.1.Events r18.1.Places)).bind fun r95 => (bif (!r95) then some true else some (r38.2 != r18.2)))) : Option (Bool)) fun b91 => (bif b91 then some false else ((laws_markEventGraph F (GEventGraph.mk r38.1.Events r38.1.Places) 1).bind fun r99 => ((laws_heldEventGraph F (GEventGraph.mk r38.1.Events r99.2) 1).bind fun r102 => (bif (decide (r102 < 0)) then some false else (bif (r102 != r99.1) then some false else ((laws_toEventGraph F p0).bind fun r106 => ((laws_toInt64S F p1).bind fun r112 => ((impl_PartOfGraph F r106 r112).bind fun r118 => (Option.bind (((laws_eqEventGraph F (GEventGraph.mk r118.1.Events r118.1.Places) (GEventGraph.mk r18.1.Events r18.1.Places)).bind fun r131 => (bif (!r131) then some true else some (r118.2 != r18.2))) : Option (Bool)) fun b128 => (bif b128 then some false else ((laws_heldEventGraph F (GEventGraph.mk r38.1.Events r99.2) 1).bind fun r135 => (bif (decide (r135 < 0)) then some false else (bif (r135 != r99.1) then some false else some true)))))))))))))))))))))))))))))))))

end Go.Proofs.Ytpmebacdmilecaa
