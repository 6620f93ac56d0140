/- Plain models of the functions. -/
import Derived.Test.YtgkgimglgjfcjaaLiftH
namespace Go.Proofs.Ytgkgimglgjfcjaa

structure GPlace where
  From : Int
  To : Int
  Delay : Int
  Tokens : Int

structure GEventGraph where
  Events : Int
  Places : List GPlace

structure GRatio where
  Num : Int
  Den : Int

def laws_big (_F : Nat) (p0_code : List Int) : Option (Bool) :=
  some (decide (4096 < (p0_code.length : Int)))

def spec_l01From_L1 (F : Nat) (p0_code : List Int) : Nat → Int → Int → Option (Int)
  | 0, _, _ => none
  | n34 + 1, x20, x21 => (Option.bind ((bif (decide (x21 < (p0_code.length : Int))) then some (decide (x21 < 64)) else some false) : Option (Bool)) fun b36 => (bif b36 then ((idx p0_code x21).bind fun q41 => (spec_l01From_L1 F p0_code n34 ((IntKind.i64.wrap ((IntKind.i64.wrap (x20 * 67)) + (IntKind.i64.wrap q41))).tmod 2147483647) (IntKind.i64.wrap (x21 + 1)))) else some x20))

def spec_l01From (F : Nat) (p0_code : List Int) : Option ((Int × Int)) :=
  (Option.bind (spec_l01From_L1 F p0_code F 61403 0) fun x30 => some (0, x30))

def spec_l01Next (_F : Nat) (p0_code : List Int) (p0_at : Int) (p0_seed : Int) (p1 : Int) : Option ((Int) × Int × Int) :=
  (bif (decide (p1 ≤ 1)) then some (0, p0_at, p0_seed) else (Option.bind ((bif (decide (p0_at < (p0_code.length : Int))) then ((idx p0_code p0_at).bind fun q18 => (Option.bind ((bif (decide (p1 ≤ 256)) then some (((IntKind.i64.wrap (p0_at + 1)).tmod 2) == 0) else some false) : Option (Bool)) fun b21 => (bif b21 then ((idx p0_code (IntKind.i64.wrap ((IntKind.i64.wrap (p0_at + 1)) - 1))).bind fun q26 => some ((IntKind.i64.wrap (p0_at + 1)), (IntKind.i64.wrap q26))) else some ((IntKind.i64.wrap (p0_at + 1)), (IntKind.i64.wrap ((IntKind.i64.wrap (((IntKind.i64.wrap ((IntKind.i64.wrap (p0_seed * 48271)) + 59)).tmod 2147483647).tdiv 31)) + (IntKind.i64.wrap q18))))))) else some (p0_at, (IntKind.i64.wrap (((IntKind.i64.wrap ((IntKind.i64.wrap (p0_seed * 48271)) + 59)).tmod 2147483647).tdiv 31)))) : Option (Int × Int)) fun (x13, x14) => ((if p1 = 0 then none else some ()).bind fun _u29 => some ((x14.tmod p1), x13, ((IntKind.i64.wrap ((IntKind.i64.wrap (p0_seed * 48271)) + 59)).tmod 2147483647)))))

def spec_l01Pick (F : Nat) (p0_s_code : List Int) (p0_s_at : Int) (p0_s_seed : Int) (p1_list : List Int) : Option ((Int) × Int × Int) :=
  ((spec_l01Next F p0_s_code p0_s_at p0_s_seed (p1_list.length : Int)).bind fun r1 => ((idx p1_list r1.1).bind fun q3 => some (q3, r1.2.1, r1.2.2)))

def spec_l11Draw_L1 (F : Nat) (p0_code : List Int) (r2 : (Int) × Int × Int) : Nat → Int → Int → (List GPlace) → Int → Option (Int × Int × (List GPlace))
  | 0, _, _, _, _ => none
  | n353 + 1, x229, x230, xs231, x236 => (bif (decide (0 < x236)) then (Option.bind (((spec_l01Next F p0_code x229 x230 (IntKind.i64.wrap (1 + r2.1))).bind fun r399 => ((spec_l01Next F p0_code r399.2.1 r399.2.2 (IntKind.i64.wrap (1 + r2.1))).bind fun r401 => ((spec_l01Next F p0_code r401.2.1 r401.2.2 12).bind fun r403 => some (r403.2.1, r403.2.2, r399.1, r401.1, r403.1)))) : Option (Int × Int × Int × Int × Int)) fun (x384, x385, x387, x388, x389) => (Option.bind ((bif (decide (x388 ≤ x387)) then some (x384, x385, true) else ((spec_l01Next F p0_code x384 x385 4).bind fun r430 => some (r430.2.1, r430.2.2, (r430.1 == 0)))) : Option (Int × Int × Bool)) fun (x424, x425, b426) => (Option.bind ((bif b426 then ((spec_l01Next F p0_code x424 x425 2).bind fun r443 => ((spec_l01Next F p0_code r443.2.1 r443.2.2 3).bind fun r445 => some (r445.2.1, r445.2.2, (IntKind.i64.wrap (1 + (IntKind.i64.wrap (r443.1 * r445.1))))))) else some (x424, x425, 0)) : Option (Int × Int × Int)) fun (x437, x438, x439) => ((spec_l01Next F p0_code x437 x438 30).bind fun r447 => (Option.bind ((bif (r447.1 == 0) then some 0 else some x439) : Option (Int)) fun x450 => ((app xs231 ([(GPlace.mk x387 x388 x389 x450)])).bind fun xs458 => (spec_l11Draw_L1 F p0_code r2 n353 r447.2.1 r447.2.2 xs458 (IntKind.i64.wrap (x236 - 1))))))))) else some (x229, x230, xs231))

def spec_l11Draw_L2 (F : Nat) (p0_code : List Int) : Nat → Int → Int → (List GPlace) → Int → Option (Int × Int × (List GPlace))
  | 0, _, _, _, _ => none
  | n660 + 1, x633, x634, xs635, x640 => ((spec_l01Next F p0_code x633 x634 9).bind fun r661 => (bif (decide (x640 < (IntKind.i64.wrap (22 + r661.1)))) then ((app xs635 ([(GPlace.mk 0 0 x640 1)])).bind fun xs668 => (spec_l11Draw_L2 F p0_code n660 r661.2.1 r661.2.2 xs668 (IntKind.i64.wrap (x640 + 1)))) else some (r661.2.1, r661.2.2, xs635)))

def spec_l11Draw (F : Nat) (p0_code : List Int) (p0_at : Int) (p0_seed : Int) : Option ((GEventGraph) × Int × Int) :=
  ((spec_l01Next F p0_code p0_at p0_seed 5).bind fun r2 => ((spec_l01Next F p0_code r2.2.1 r2.2.2 9).bind fun r7 => (Option.bind (spec_l11Draw_L1 F p0_code r2 F r7.2.1 r7.2.2 ([] : List GPlace) r7.1) fun (x343, x344, xs345) => ((spec_l01Next F p0_code x343 x344 60).bind fun r460 => (bif (r460.1 == 0) then ((spec_l01Pick F p0_code r460.2.1 r460.2.2 ([0, 10, 11])).bind fun r465 => some ((GEventGraph.mk r465.1 xs345), r465.2.1, r465.2.2)) else (bif (r460.1 == 1) then (Option.bind (((spec_l01Pick F p0_code r460.2.1 r460.2.2 ([(-1), 0, (IntKind.i64.wrap (1 + r2.1))])).bind fun r547 => ((spec_l01Pick F p0_code r547.2.1 r547.2.2 ([(-1), 1000, 1001])).bind fun r551 => ((app xs345 ([(GPlace.mk r547.1 0 r551.1 1)])).bind fun xs557 => some (r551.2.1, r551.2.2, xs557)))) : Option (Int × Int × (List GPlace))) fun (x522, x523, xs524) => some ((GEventGraph.mk (IntKind.i64.wrap (1 + r2.1)) xs524), x522, x523)) else (bif (r460.1 == 2) then ((spec_l01Pick F p0_code r460.2.1 r460.2.2 ([5, 6, (-1)])).bind fun r598 => ((app xs345 ([(GPlace.mk 0 0 0 r598.1)])).bind fun xs604 => some ((GEventGraph.mk (IntKind.i64.wrap (1 + r2.1)) xs604), r598.2.1, r598.2.2))) else (bif (r460.1 == 3) then (Option.bind (spec_l11Draw_L2 F p0_code F r460.2.1 r460.2.2 xs345 0) fun (x650, x651, xs652) => some ((GEventGraph.mk (IntKind.i64.wrap (1 + r2.1)) xs652), x650, x651)) else some ((GEventGraph.mk (IntKind.i64.wrap (1 + r2.1)) xs345), r460.2.1, r460.2.2)))))))))

def spec_l15Draw (F : Nat) (p0_s_code : List Int) (p0_s_at : Int) (p0_s_seed : Int) : Option ((GEventGraph) × Int × Int) :=
  ((spec_l11Draw F p0_s_code p0_s_at p0_s_seed).bind fun r2 => (Option.bind ((bif (decide (20 < (r2.1.Places.length : Int))) then some (decide (2 < r2.1.Events)) else some false) : Option (Bool)) fun b10 => (Option.bind ((bif b10 then ((cutTo r2.1.Places 20).bind fun xs26 => some xs26) else some r2.1.Places) : Option (List GPlace)) fun xs17 => some ((GEventGraph.mk r2.1.Events xs17), r2.2.1, r2.2.2))))

def spec_DrawUnrollGraph (F : Nat) (p0_code : List Int) : Option (GEventGraph × Int) :=
  ((spec_l01From F p0_code).bind fun r2 => ((spec_l15Draw F p0_code r2.1 r2.2).bind fun r5 => (Option.bind ((bif (decide (9 < (r5.1.Places.length : Int))) then ((cutTo r5.1.Places 9).bind fun xs24 => some xs24) else some r5.1.Places) : Option (List GPlace)) fun xs15 => ((spec_l01Next F p0_code r5.2.1 r5.2.2 12).bind fun r25 => (bif (r25.1 == 0) then ((spec_l01Pick F p0_code r25.2.1 r25.2.2 ([0, 10, 11])).bind fun r34 => some ((GEventGraph.mk r5.1.Events xs15), r34.1)) else ((spec_l01Next F p0_code r25.2.1 r25.2.2 3).bind fun r38 => some ((GEventGraph.mk r5.1.Events xs15), (IntKind.i64.wrap (1 + r38.1)))))))))

def impl_within (_F : Nat) (p0_n : Int) (p1_low : Int) (p2_high : Int) : Option (Bool) :=
  (Option.bind ((bif (decide (p1_low ≤ p0_n)) then some (decide (p0_n ≤ p2_high)) else some false) : Option (Bool)) fun b2 => some b2)

def impl_isEvent (F : Nat) (p0_g : GEventGraph) (p1_event : Int) : Option (Bool) :=
  ((impl_within F p1_event 0 (IntKind.i64.wrap (p0_g.Events - 1))).bind fun r2 => some r2)

def impl_isPlace (F : Nat) (p0_g : GEventGraph) (p1_p : GPlace) : Option (Bool) :=
  (Option.bind (((impl_isEvent F p0_g p1_p.From).bind fun r17 => (bif r17 then ((impl_isEvent F p0_g p1_p.To).bind fun r20 => (bif r20 then ((impl_within F p1_p.Delay 0 1000).bind fun r23 => (bif r23 then ((impl_within F p1_p.Tokens 0 5).bind fun r26 => some r26) else some false)) else some false)) else some false)) : Option (Bool)) fun b14 => some b14)

def impl_IsEventGraph_c1 (F : Nat) (p0_p : GPlace) (z0 : GEventGraph) : Option (Bool) :=
  ((impl_isPlace F z0 p0_p).bind fun r2 => some (!r2))

def slices_IndexFunc_Place_L1 (F : Nat) (p0_s : List GPlace) (m_p1_f : GPlace → Option Bool) : Nat → Int → Option (Sum Int (Unit))
  | 0, _ => none
  | n24 + 1, x14 => (bif (decide (x14 < (p0_s.length : Int))) then ((idx p0_s x14).bind fun q26 => ((m_p1_f q26).bind fun r28 => (bif r28 then some (Sum.inl x14) else (slices_IndexFunc_Place_L1 F p0_s m_p1_f n24 (IntKind.i64.wrap (x14 + 1)))))) else some (Sum.inr ()))

def slices_IndexFunc_Place (F : Nat) (p0_s : List GPlace) (m_p1_f : GPlace → Option Bool) : Option (Int) :=
  (Option.bind (slices_IndexFunc_Place_L1 F p0_s m_p1_f F 0) fun r21 => match r21 with | .inl x_ => some x_ | .inr _ => some (-1))

def slices_ContainsFunc_Place (F : Nat) (p0_s : List GPlace) (m_p1_f : GPlace → Option Bool) : Option (Bool) :=
  ((slices_IndexFunc_Place F p0_s m_p1_f).bind fun r1 => some (decide (0 ≤ r1)))

def impl_IsEventGraph (F : Nat) (p0_g : GEventGraph) : Option (Bool) :=
  (Option.bind (((impl_within F p0_g.Events 1 10).bind fun r11 => (bif r11 then (bif (decide ((p0_g.Places.length : Int) ≤ 30)) then ((slices_ContainsFunc_Place F p0_g.Places (fun x0 => impl_IsEventGraph_c1 F x0 p0_g)).bind fun r15 => some (!r15)) else some false) else some false)) : Option (Bool)) fun b8 => some b8)

def impl_checkedGraph (F : Nat) (p0_g : GEventGraph) : Option (GEventGraph × Int) :=
  ((impl_IsEventGraph F p0_g).bind fun r3 => (bif (!r3) then some ((GEventGraph.mk 0 []), 3) else some (p0_g, 0)))

def impl_UnrollGraph_L5 (F : Nat) (p0 : GEventGraph) (p1 : Int) (q344 : GPlace) : Nat → (List GPlace) → Int → Option (List GPlace)
  | 0, _, _ => none
  | n424 + 1, xs391, x396 => (bif (decide (x396 < p1)) then ((if p1 = 0 then none else some ()).bind fun _u427 => ((if p1 = 0 then none else some ()).bind fun _u437 => ((app xs391 ([(GPlace.mk (IntKind.i64.wrap ((IntKind.i64.wrap (x396 * p0.Events)) + q344.From)) (IntKind.i64.wrap ((IntKind.i64.wrap (((IntKind.i64.wrap (x396 + q344.Tokens)).tmod p1) * p0.Events)) + q344.To)) q344.Delay (IntKind.i64.wrap ((IntKind.i64.wrap (x396 + q344.Tokens)).tdiv p1)))])).bind fun xs442 => (impl_UnrollGraph_L5 F p0 p1 q344 n424 xs442 (IntKind.i64.wrap (x396 + 1)))))) else some xs391)

def impl_UnrollGraph_L4 (F : Nat) (p0 : GEventGraph) (p1 : Int) : Nat → (List GPlace) → Int → Option (List GPlace)
  | 0, _, _ => none
  | n342 + 1, xs227, x232 => (bif (decide (x232 < (p0.Places.length : Int))) then ((idx p0.Places x232).bind fun q344 => (Option.bind (impl_UnrollGraph_L5 F p0 p1 q344 F xs227 0) fun xs416 => (impl_UnrollGraph_L4 F p0 p1 n342 xs416 (IntKind.i64.wrap (x232 + 1))))) else some xs227)

def impl_UnrollGraph (F : Nat) (p0 : GEventGraph) (p1 : Int) : Option (GEventGraph × Int) :=
  ((impl_IsEventGraph F p0).bind fun r3 => (bif (!r3) then some ((GEventGraph.mk 0 []), 1) else ((impl_within F p1 1 10).bind fun r7 => (bif (!r7) then some ((GEventGraph.mk 0 []), 2) else (Option.bind (impl_UnrollGraph_L4 F p0 p1 F [] 0) fun xs334 => ((impl_checkedGraph F (GEventGraph.mk (IntKind.i64.wrap (p0.Events * p1)) xs334)).bind fun r444 => some ((GEventGraph.mk r444.1.Events r444.1.Places), r444.2)))))))

def spec_l01In (_F : Nat) (p0_n : Int) (p1_low : Int) (p2_high : Int) : Option (Bool) :=
  (Option.bind ((bif (decide (p1_low ≤ p0_n)) then some (decide (p0_n ≤ p2_high)) else some false) : Option (Bool)) fun b2 => some b2)

def spec_l11Place (F : Nat) (p0_p : GPlace) (p1_events : Int) : Option (Bool) :=
  (Option.bind (((spec_l01In F p0_p.From 0 (IntKind.i64.wrap (p1_events - 1))).bind fun r16 => (bif r16 then ((spec_l01In F p0_p.To 0 (IntKind.i64.wrap (p1_events - 1))).bind fun r19 => (bif r19 then ((spec_l01In F p0_p.Delay 0 1000).bind fun r22 => (bif r22 then ((spec_l01In F p0_p.Tokens 0 5).bind fun r25 => some r25) else some false)) else some false)) else some false)) : Option (Bool)) fun b13 => some b13)

def spec_IsEventGraph_L1 (F : Nat) (p0_g : GEventGraph) : Nat → Int → Option (Sum Bool (Unit))
  | 0, _ => none
  | n25 + 1, x15 => (bif (decide (x15 < (p0_g.Places.length : Int))) then ((idx p0_g.Places x15).bind fun q27 => ((spec_l11Place F q27 p0_g.Events).bind fun r29 => (bif (!r29) then some (Sum.inl false) else (spec_IsEventGraph_L1 F p0_g n25 (IntKind.i64.wrap (x15 + 1)))))) else some (Sum.inr ()))

def spec_IsEventGraph (F : Nat) (p0_g : GEventGraph) : Option (Bool) :=
  (Option.bind (spec_IsEventGraph_L1 F p0_g F 0) fun r22 => match r22 with | .inl x_ => some x_ | .inr _ => (Option.bind (((spec_l01In F p0_g.Events 1 10).bind fun r38 => (bif r38 then some (decide ((p0_g.Places.length : Int) ≤ 30)) else some false)) : Option (Bool)) fun b35 => some b35))

def spec_l19Result (F : Nat) (p0_g : GEventGraph) : Option (GEventGraph × Int) :=
  ((spec_IsEventGraph F p0_g).bind fun r3 => (bif (!r3) then some ((GEventGraph.mk 0 []), 3) else some (p0_g, 0)))

def spec_UnrollGraph_L5 (F : Nat) (p0 : GEventGraph) (p1 : Int) (q363 : GPlace) : Nat → (List GPlace) → Int → Option (List GPlace)
  | 0, _, _ => none
  | n449 + 1, xs414, x419 => (bif (decide (x419 < p1)) then ((if p1 = 0 then none else some ()).bind fun _u462 => ((if p1 = 0 then none else some ()).bind fun _u464 => ((app xs414 ([(GPlace.mk (IntKind.i64.wrap ((IntKind.i64.wrap (x419 * p0.Events)) + q363.From)) (IntKind.i64.wrap ((IntKind.i64.wrap (((IntKind.i64.wrap (x419 + q363.Tokens)).tmod p1) * p0.Events)) + q363.To)) q363.Delay (IntKind.i64.wrap ((IntKind.i64.wrap (x419 + q363.Tokens)).tdiv p1)))])).bind fun xs469 => (spec_UnrollGraph_L5 F p0 p1 q363 n449 xs469 (IntKind.i64.wrap (x419 + 1)))))) else some xs414)

def spec_UnrollGraph_L4 (F : Nat) (p0 : GEventGraph) (p1 : Int) : Nat → (List GPlace) → Int → Option (List GPlace)
  | 0, _, _ => none
  | n361 + 1, xs238, x243 => (bif (decide (x243 < (p0.Places.length : Int))) then ((idx p0.Places x243).bind fun q363 => (Option.bind (spec_UnrollGraph_L5 F p0 p1 q363 F xs238 0) fun xs441 => (spec_UnrollGraph_L4 F p0 p1 n361 xs441 (IntKind.i64.wrap (x243 + 1))))) else some xs238)

def spec_UnrollGraph (F : Nat) (p0 : GEventGraph) (p1 : Int) : Option (GEventGraph × Int) :=
  ((spec_IsEventGraph F p0).bind fun r3 => (bif (!r3) then some ((GEventGraph.mk 0 []), 1) else ((spec_l01In F p1 1 10).bind fun r7 => (bif (!r7) then some ((GEventGraph.mk 0 []), 2) else (Option.bind (spec_UnrollGraph_L4 F p0 p1 F ([] : List GPlace) 0) fun xs353 => ((spec_l19Result F (GEventGraph.mk (IntKind.i64.wrap (p1 * p0.Events)) xs353)).bind fun r471 => some ((GEventGraph.mk r471.1.Events r471.1.Places), r471.2)))))))

def laws_likeGraphs9_L1 (F : Nat) (p0_a : GEventGraph) (p1_b : GEventGraph) : Nat → Int → Option (Sum Bool (Unit))
  | 0, _ => none
  | n32 + 1, x22 => (bif (decide (x22 < (p0_a.Places.length : Int))) then ((idx p0_a.Places x22).bind fun q34 => ((idx p1_b.Places x22).bind fun q36 => (bif (!(q34.From == q36.From && (q34.To == q36.To && (q34.Delay == q36.Delay && (q34.Tokens == q36.Tokens))))) then some (Sum.inl false) else (laws_likeGraphs9_L1 F p0_a p1_b n32 (IntKind.i64.wrap (x22 + 1)))))) else some (Sum.inr ()))

def laws_likeGraphs9 (F : Nat) (p0_a : GEventGraph) (p1_b : GEventGraph) : Option (Bool) :=
  (Option.bind ((bif (p0_a.Events != p1_b.Events) then some true else some ((p0_a.Places.length : Int) != (p1_b.Places.length : Int))) : Option (Bool)) fun b4 => (bif b4 then some false else (Option.bind (laws_likeGraphs9_L1 F p0_a p1_b F 0) fun r29 => match r29 with | .inl x_ => some x_ | .inr _ => some true)))

def slices_Index_int64_L1 (F : Nat) (p0_s : List Int) (p1_v : Int) : Nat → Int → Option (Sum Int (Unit))
  | 0, _ => none
  | n18 + 1, x10 => (bif (decide (x10 < (p0_s.length : Int))) then ((idx p0_s x10).bind fun q20 => (bif (p1_v == q20) then some (Sum.inl x10) else (slices_Index_int64_L1 F p0_s p1_v n18 (IntKind.i64.wrap (x10 + 1))))) else some (Sum.inr ()))

def slices_Index_int64 (F : Nat) (p0_s : List Int) (p1_v : Int) : Option (Int) :=
  (Option.bind (slices_Index_int64_L1 F p0_s p1_v F 0) fun r15 => match r15 with | .inl x_ => some x_ | .inr _ => some (-1))

def slices_Contains_int64 (F : Nat) (p0_s : List Int) (p1_v : Int) : Option (Bool) :=
  ((slices_Index_int64 F p0_s p1_v).bind fun r1 => some (decide (0 ≤ r1)))

def impl_firingOrder_c1 (F : Nat) (p0_p : GPlace) (z0 : Int) (z1 : List Int) : Option (Bool) :=
  (Option.bind ((bif (p0_p.To == z0) then (bif (p0_p.Tokens == 0) then ((slices_Contains_int64 F z1 p0_p.From).bind fun r11 => some (!r11)) else some false) else some false) : Option (Bool)) fun b6 => some b6)

def impl_firingOrder_L5 (F : Nat) (p0_g : GEventGraph) (xs227 : List Int) : Nat → Int → Int → Option (Int)
  | 0, _, _ => none
  | n427 + 1, x398, x400 => (Option.bind ((bif (decide (x400 < p0_g.Events)) then some (decide (x398 < 0)) else some false) : Option (Bool)) fun b429 => (bif b429 then (Option.bind (((slices_Contains_int64 F xs227 x400).bind fun r443 => (bif r443 then some x398 else ((slices_ContainsFunc_Place F p0_g.Places (fun x0 => impl_firingOrder_c1 F x0 x400 xs227)).bind fun r446 => (bif (!r446) then some x400 else some x398)))) : Option (Int)) fun x440 => (impl_firingOrder_L5 F p0_g xs227 n427 x440 (IntKind.i64.wrap (x400 + 1)))) else some x398))

def impl_firingOrder_L4 (F : Nat) (p0_g : GEventGraph) : Nat → (List Int) → Option (Sum (List Int × Bool) (List Int))
  | 0, _ => none
  | n348 + 1, xs227 => (bif (decide ((xs227.length : Int) < p0_g.Events)) then (Option.bind (impl_firingOrder_L5 F p0_g xs227 F (-1) 0) fun x423 => (bif (decide (x423 < 0)) then some (Sum.inl (([] : List Int), false)) else ((app xs227 ([x423])).bind fun xs456 => (impl_firingOrder_L4 F p0_g n348 xs456)))) else some (Sum.inr xs227))

def impl_firingOrder (F : Nat) (p0_g : GEventGraph) : Option (List Int × Bool) :=
  (Option.bind (impl_firingOrder_L4 F p0_g F []) fun r345 => match r345 with | .inl x_ => some x_ | .inr xs340 => some (xs340, true))

def impl_isLive (F : Nat) (p0_g : GEventGraph) : Option (Bool) :=
  ((impl_firingOrder F p0_g).bind fun r2 => some r2.2)

def impl_checkFirings (F : Nat) (p0_g : GEventGraph) (p1_n : Int) : Option (Int) :=
  ((impl_IsEventGraph F p0_g).bind fun r2 => (bif (!r2) then some 1 else ((impl_within F p1_n 0 50).bind fun r5 => (bif (!r5) then some 2 else ((impl_isLive F p0_g).bind fun r8 => (bif (!r8) then some 5 else some 0))))))

def slices_Clone_int64 (_F : Nat) (p0_s : List Int) : Option (List Int) :=
  ((app ([] : List Int) p0_s).bind fun xs5 => some xs5)

def impl_firingTimes_L21 (F : Nat) (p0 : GEventGraph) (x1382 : Int) (q2589 : Int) : Nat → (List (List Int)) → Int → Option (List (List Int))
  | 0, _, _ => none
  | n2713 + 1, ms2668, x2670 => (bif (decide (x2670 < (p0.Places.length : Int))) then ((idx p0.Places x2670).bind fun q2715 => (Option.bind ((bif (q2715.To == q2589) then some (decide (q2715.Tokens ≤ x1382)) else some false) : Option (Bool)) fun b2719 => (bif b2719 then ((idx ms2668 x1382).bind fun q2724 => ((idx ms2668 x1382).bind fun q2729 => ((idx q2729 q2589).bind fun q2734 => ((idx ms2668 (IntKind.i64.wrap (x1382 - q2715.Tokens))).bind fun q2736 => ((idx q2736 q2715.From).bind fun q2741 => ((idx q2724 q2589).bind fun _q2743 => ((upd q2724 q2589 (max q2734 (IntKind.i64.wrap (q2741 + q2715.Delay)))).bind fun xs2745 => ((upd ms2668 x1382 xs2745).bind fun ms2746 => (impl_firingTimes_L21 F p0 x1382 q2589 n2713 ms2746 (IntKind.i64.wrap (x2670 + 1))))))))))) else (impl_firingTimes_L21 F p0 x1382 q2589 n2713 ms2668 (IntKind.i64.wrap (x2670 + 1)))))) else some ms2668)

def impl_firingTimes_L20 (F : Nat) (p0 : GEventGraph) (r2 : List Int × Bool) (x1382 : Int) : Nat → (List (List Int)) → Int → Option (List (List Int))
  | 0, _, _ => none
  | n2587 + 1, ms2416, x2418 => (bif (decide (x2418 < (r2.1.length : Int))) then ((idx r2.1 x2418).bind fun q2589 => (Option.bind (impl_firingTimes_L21 F p0 x1382 q2589 F ms2416 0) fun ms2708 => (impl_firingTimes_L20 F p0 r2 x1382 n2587 ms2708 (IntKind.i64.wrap (x2418 + 1))))) else some ms2416)

def impl_firingTimes_L16 (F : Nat) (p0 : GEventGraph) (p1 : Int) (p2 : List Int) (r2 : List Int × Bool) : Nat → (List (List Int)) → Int → Option (List (List Int))
  | 0, _, _ => none
  | n2071 + 1, ms1376, x1382 => (bif (decide (x1382 < p1)) then ((slices_Clone_int64 F p2).bind fun r2073 => ((app ms1376 ([r2073])).bind fun ms2083 => (Option.bind (impl_firingTimes_L20 F p0 r2 x1382 F ms2083 0) fun ms2582 => (impl_firingTimes_L16 F p0 p1 p2 r2 n2071 ms2582 (IntKind.i64.wrap (x1382 + 1)))))) else some ms1376)

def impl_firingTimes (F : Nat) (p0 : GEventGraph) (p1 : Int) (p2 : List Int) : Option (List (List Int)) :=
  ((impl_firingOrder F p0).bind fun r2 => (Option.bind (impl_firingTimes_L16 F p0 p1 p2 r2 F ([] : List (List Int)) 0) fun ms2062 => some ms2062))

def impl_FiringTimes (F : Nat) (p0_g : GEventGraph) (p1_n : Int) : Option (List (List Int) × Int) :=
  ((impl_checkFirings F p0_g p1_n).bind fun r2 => (bif (r2 != 0) then some (([] : List (List Int)), r2) else ((mk p0_g.Events (0 : Int)).bind fun xs18 => ((impl_firingTimes F p0_g p1_n xs18).bind fun r19 => some (r19, 0)))))

def impl_tokenDistances_L1 (F : Nat) (xs4 : List Int) : Nat → (List Int) → Int → Option (List Int)
  | 0, _, _ => none
  | n31 + 1, xs18, x20 => (bif (decide (x20 < (xs4.length : Int))) then ((idx xs18 x20).bind fun _q33 => ((upd xs18 x20 (-1)).bind fun xs35 => (impl_tokenDistances_L1 F xs4 n31 xs35 (IntKind.i64.wrap (x20 + 1))))) else some xs18)

def impl_tokenDistances_L6 (F : Nat) (p0 : GEventGraph) : Nat → (List Int) → Bool → Int → Option ((List Int) × Bool)
  | 0, _, _, _ => none
  | n985 + 1, xs917, b919, x920 => (bif (decide (x920 < (p0.Places.length : Int))) then (Option.bind (((idx p0.Places x920).bind fun q1018 => ((idx xs917 q1018.From).bind fun q1021 => (bif (decide (q1021 < 0)) then some (xs917, b919) else ((idx xs917 q1018.From).bind fun q1024 => (Option.bind (((idx xs917 q1018.To).bind fun q1034 => (bif (decide (q1034 < 0)) then some true else ((idx xs917 q1018.To).bind fun q1037 => some (decide ((IntKind.i64.wrap (q1024 + q1018.Tokens)) < q1037))))) : Option (Bool)) fun b1031 => (bif b1031 then ((idx xs917 q1018.To).bind fun _q1040 => ((upd xs917 q1018.To (IntKind.i64.wrap (q1024 + q1018.Tokens))).bind fun xs1042 => some (xs1042, true))) else some (xs917, b919))))))) : Option ((List Int) × Bool)) fun (xs1013, b1015) => (impl_tokenDistances_L6 F p0 n985 xs1013 b1015 (IntKind.i64.wrap (x920 + 1)))) else some (xs917, b919))

def impl_tokenDistances_L5 (F : Nat) (p0 : GEventGraph) : Nat → (List Int) → Bool → Option (List Int)
  | 0, _, _ => none
  | n795 + 1, xs539, b541 => (bif b541 then (Option.bind (impl_tokenDistances_L6 F p0 F xs539 false 0) fun (xs979, b981) => (impl_tokenDistances_L5 F p0 n795 xs979 b981)) else some xs539)

def impl_tokenDistances (F : Nat) (p0 : GEventGraph) (p1 : Int) : Option (List Int) :=
  ((mk p0.Events (0 : Int)).bind fun xs4 => (Option.bind (impl_tokenDistances_L1 F xs4 F xs4 0) fun xs26 => ((idx xs26 p1).bind fun _q37 => ((upd xs26 p1 0).bind fun xs39 => (Option.bind (impl_tokenDistances_L5 F p0 F xs39 true) fun xs790 => some xs790)))))

def impl_hasCircuit_c1 (F : Nat) (p0_p : GPlace) (z0 : GEventGraph) : Option (Bool) :=
  ((impl_tokenDistances F z0 p0_p.To).bind fun r10 => ((idx r10 p0_p.From).bind fun q16 => some (decide (0 ≤ q16))))

def impl_hasCircuit (F : Nat) (p0_g : GEventGraph) : Option (Bool) :=
  ((slices_ContainsFunc_Place F p0_g.Places (fun x0 => impl_hasCircuit_c1 F x0 p0_g)).bind fun r2 => some r2)

def impl_placeWeight (_F : Nat) (p0_p : GPlace) (p1_r : GRatio) : Option (Int) :=
  some (IntKind.i64.wrap ((IntKind.i64.wrap (p1_r.Den * p0_p.Delay)) - (IntKind.i64.wrap (p1_r.Num * p0_p.Tokens))))

def slices_Reverse_int64_L1 (F : Nat) : Nat → (List Int) → Int → Int → Option (List Int)
  | 0, _, _, _ => none
  | n53 + 1, xs31, x33, x34 => (bif (decide (x33 < x34)) then ((idx xs31 x34).bind fun q55 => ((idx xs31 x33).bind fun q57 => ((idx xs31 x33).bind fun _q59 => ((upd xs31 x33 q55).bind fun xs61 => ((idx xs61 x34).bind fun _q63 => ((upd xs61 x34 q57).bind fun xs65 => (slices_Reverse_int64_L1 F n53 xs65 (IntKind.i64.wrap (x33 + 1)) (IntKind.i64.wrap (x34 - 1))))))))) else some xs31)

def slices_Reverse_int64 (F : Nat) (p0_s : List Int) : Option ((Unit) × List Int) :=
  (Option.bind (slices_Reverse_int64_L1 F F p0_s 0 (IntKind.i64.wrap ((p0_s.length : Int) - 1))) fun xs48 => some ((), xs48))

def impl_betterCircuit_L5 (F : Nat) (p0 : GEventGraph) (p1 : GRatio) : Nat → (List Int) → (List Int) → Int → Int → Option ((List Int) × (List Int) × Int)
  | 0, _, _, _, _ => none
  | n523 + 1, xs482, xs484, x486, x487 => (bif (decide (x487 < (p0.Places.length : Int))) then ((idx p0.Places x487).bind fun q525 => ((idx xs482 q525.From).bind fun q528 => ((impl_placeWeight F q525 p1).bind fun r530 => ((idx xs482 q525.To).bind fun q532 => (bif (decide (q532 < (IntKind.i64.wrap (q528 + r530)))) then ((idx xs482 q525.To).bind fun _q543 => ((upd xs482 q525.To (IntKind.i64.wrap (q528 + r530))).bind fun xs545 => ((idx xs484 q525.To).bind fun _q547 => ((upd xs484 q525.To x487).bind fun xs549 => (impl_betterCircuit_L5 F p0 p1 n523 xs545 xs549 q525.To (IntKind.i64.wrap (x487 + 1))))))) else (impl_betterCircuit_L5 F p0 p1 n523 xs482 xs484 x486 (IntKind.i64.wrap (x487 + 1)))))))) else some (xs482, xs484, x486))

def impl_betterCircuit_L4 (F : Nat) (p0 : GEventGraph) (p1 : GRatio) : Nat → (List Int) → (List Int) → Int → Int → Option (Sum (List Int) ((List Int) × Int))
  | 0, _, _, _, _ => none
  | n420 + 1, xs277, xs279, x281, x282 => (bif (decide (x282 < (IntKind.i64.wrap (p0.Events + 1)))) then (Option.bind (impl_betterCircuit_L5 F p0 p1 F xs277 xs279 (-1) 0) fun (xs515, xs517, x519) => (bif (decide (x519 < 0)) then some (Sum.inl ([] : List Int)) else (impl_betterCircuit_L4 F p0 p1 n420 xs515 xs517 x519 (IntKind.i64.wrap (x282 + 1))))) else some (Sum.inr (xs279, x281)))

def impl_betterCircuit_L6 (F : Nat) (p0 : GEventGraph) (xs414 : List Int) : Nat → Int → Int → Option (Int)
  | 0, _, _ => none
  | n576 + 1, x565, x566 => (bif (decide (x566 < p0.Events)) then ((idx xs414 x565).bind fun q578 => ((idx p0.Places q578).bind fun q580 => (impl_betterCircuit_L6 F p0 xs414 n576 q580.From (IntKind.i64.wrap (x566 + 1))))) else some x565)

def impl_betterCircuit_L7 (F : Nat) (p0 : GEventGraph) (xs414 : List Int) (x572 : Int) : Nat → (List Int) → Int → Option (List Int)
  | 0, _, _ => none
  | n644 + 1, xs617, x622 => ((idx xs414 x622).bind fun q645 => ((app xs617 ([q645])).bind fun xs651 => ((idx xs414 x622).bind fun q653 => ((idx p0.Places q653).bind fun q655 => (bif (q655.From == x572) then some xs651 else (impl_betterCircuit_L7 F p0 xs414 x572 n644 xs651 q655.From))))))

def impl_betterCircuit (F : Nat) (p0 : GEventGraph) (p1 : GRatio) : Option (List Int) :=
  ((mk p0.Events (0 : Int)).bind fun xs5 => ((mk p0.Events (0 : Int)).bind fun xs8 => (Option.bind (impl_betterCircuit_L4 F p0 p1 F xs5 xs8 (-1) 0) fun r417 => match r417 with | .inl x_ => some x_ | .inr (xs414, x416) => (Option.bind (impl_betterCircuit_L6 F p0 xs414 F x416 0) fun x572 => (Option.bind (impl_betterCircuit_L7 F p0 xs414 x572 F ([] : List Int) x572) fun xs636 => ((slices_Reverse_int64 F xs636).bind fun r658 => ((nonE r658.2).bind fun _ => some r658.2)))))))

def impl_circuitSums_L1 (F : Nat) (p0_g : GEventGraph) (p1_circuit : List Int) : Nat → Int → Int → Int → Option (Int × Int)
  | 0, _, _, _ => none
  | n34 + 1, x19, x20, x21 => (bif (decide (x21 < (p1_circuit.length : Int))) then ((idx p1_circuit x21).bind fun q36 => ((idx p0_g.Places q36).bind fun q38 => ((idx p0_g.Places q36).bind fun q40 => (impl_circuitSums_L1 F p0_g p1_circuit n34 (IntKind.i64.wrap (x19 + q38.Delay)) (IntKind.i64.wrap (x20 + q40.Tokens)) (IntKind.i64.wrap (x21 + 1)))))) else some (x19, x20))

def impl_circuitSums (F : Nat) (p0_g : GEventGraph) (p1_circuit : List Int) : Option (Int × Int) :=
  (Option.bind (impl_circuitSums_L1 F p0_g p1_circuit F 0 0 0) fun (x29, x30) => some (x29, x30))

def impl_absOf (_F : Nat) (p0_n : Int) : Option (Int) :=
  (bif (decide (p0_n < 0)) then some (IntKind.i64.wrap (0 - p0_n)) else some p0_n)

def impl_divisorOf_L1 (F : Nat) : Nat → Int → Int → Option (Int)
  | 0, _, _ => none
  | n18 + 1, x9, x10 => (bif (decide (0 < x10)) then ((if x10 = 0 then none else some ()).bind fun _u21 => (impl_divisorOf_L1 F n18 x10 (x9.tmod x10))) else some x9)

def impl_divisorOf (F : Nat) (p0_a : Int) (p1_b : Int) : Option (Int) :=
  (Option.bind (impl_divisorOf_L1 F F p0_a p1_b) fun x14 => some x14)

def impl_ratioOf (F : Nat) (p0_num : Int) (p1_den : Int) : Option (GRatio) :=
  (Option.bind ((bif (decide (p1_den < 0)) then some ((IntKind.i64.wrap (0 - p0_num)), (IntKind.i64.wrap (0 - p1_den))) else some (p0_num, p1_den)) : Option (Int × Int)) fun (x3, x4) => ((impl_absOf F x3).bind fun r8 => ((impl_divisorOf F r8 x4).bind fun r10 => ((if r10 = 0 then none else some ()).bind fun _u13 => ((if r10 = 0 then none else some ()).bind fun _u15 => some (GRatio.mk (IntKind.i64.wrap (x3.tdiv r10)) (IntKind.i64.wrap (x4.tdiv r10))))))))

def impl_cycleTime_L1 (F : Nat) (p0_g : GEventGraph) : Nat → Int → Int → (List Int) → Option (Int × Int)
  | 0, _, _, _ => none
  | n74 + 1, x49, x50, xs51 => (bif (!xs51.isEmpty) then ((impl_circuitSums F p0_g xs51).bind fun r76 => ((impl_ratioOf F r76.1 r76.2).bind fun r78 => ((impl_betterCircuit F p0_g r78).bind fun r80 => (impl_cycleTime_L1 F p0_g n74 r78.Num r78.Den r80)))) else some (x49, x50))

def impl_cycleTime (F : Nat) (p0_g : GEventGraph) : Option (GRatio × Int) :=
  ((impl_isLive F p0_g).bind fun r3 => (bif (!r3) then some ((GRatio.mk 0 0), 5) else ((impl_hasCircuit F p0_g).bind fun r6 => (bif (!r6) then some ((GRatio.mk 0 0), 4) else ((impl_betterCircuit F p0_g (GRatio.mk 0 1)).bind fun r10 => (Option.bind (impl_cycleTime_L1 F p0_g F 0 1 r10) fun (x69, x70) => some ((GRatio.mk x69 x70), 0)))))))

def impl_CycleTime (F : Nat) (p0_g : GEventGraph) : Option (GRatio × Int) :=
  ((impl_IsEventGraph F p0_g).bind fun r3 => (bif (!r3) then some ((GRatio.mk 0 0), 1) else ((impl_cycleTime F p0_g).bind fun r6 => some ((GRatio.mk r6.1.Num r6.1.Den), r6.2))))

def laws_FnUnrolled_L21 (F : Nat) (r4 : GEventGraph × Int) (r36 : List (List Int) × Int) (r43 : List (List Int) × Int) (x644 : Int) (x1094 : Int) : Nat → Int → Option (Sum Bool (Unit))
  | 0, _ => none
  | n1224 + 1, x1204 => (bif (decide (x1204 < r4.1.Events)) then ((idx r43.1 x644).bind fun q1226 => ((idx q1226 (IntKind.i64.wrap ((IntKind.i64.wrap (x1094 * r4.1.Events)) + x1204))).bind fun q1231 => ((idx r36.1 (IntKind.i64.wrap ((IntKind.i64.wrap (x644 * r4.2)) + x1094))).bind fun q1233 => ((idx q1233 x1204).bind fun q1238 => (bif (q1231 != q1238) then some (Sum.inl false) else (laws_FnUnrolled_L21 F r4 r36 r43 x644 x1094 n1224 (IntKind.i64.wrap (x1204 + 1)))))))) else some (Sum.inr ()))

def laws_FnUnrolled_L20 (F : Nat) (r4 : GEventGraph × Int) (r36 : List (List Int) × Int) (r43 : List (List Int) × Int) (x644 : Int) : Nat → Int → Option (Sum Bool (Unit))
  | 0, _ => none
  | n1169 + 1, x1094 => (bif (decide (x1094 < r4.2)) then (Option.bind (laws_FnUnrolled_L21 F r4 r36 r43 x644 x1094 F 0) fun r1221 => match r1221 with | .inl x_ => some (Sum.inl x_) | .inr _ => (laws_FnUnrolled_L20 F r4 r36 r43 x644 n1169 (IntKind.i64.wrap (x1094 + 1)))) else some (Sum.inr ()))

def laws_FnUnrolled_L16 (F : Nat) (r4 : GEventGraph × Int) (r36 : List (List Int) × Int) (r43 : List (List Int) × Int) : Nat → Int → Option (Sum Bool (Unit))
  | 0, _ => none
  | n944 + 1, x644 => (Option.bind ((bif (r36.2 == 0) then some (decide (x644 < 4)) else some false) : Option (Bool)) fun b946 => (bif b946 then (Option.bind (laws_FnUnrolled_L20 F r4 r36 r43 x644 F 0) fun r1166 => match r1166 with | .inl x_ => some (Sum.inl x_) | .inr _ => (laws_FnUnrolled_L16 F r4 r36 r43 n944 (IntKind.i64.wrap (x644 + 1)))) else some (Sum.inr ())))

def laws_FnUnrolled (F : Nat) (p0 : List Int) : Option (Bool) :=
  ((laws_big F p0).bind fun r1 => (bif r1 then some true else ((spec_DrawUnrollGraph F p0).bind fun r4 => ((impl_UnrollGraph F (GEventGraph.mk r4.1.Events r4.1.Places) r4.2).bind fun r11 => ((spec_UnrollGraph F (GEventGraph.mk r4.1.Events r4.1.Places) r4.2).bind fun r18 => (Option.bind ((bif (r11.2 != r18.2) then some true else ((laws_likeGraphs9 F (GEventGraph.mk r11.1.Events r11.1.Places) (GEventGraph.mk r18.1.Events r18.1.Places)).bind fun r32 => some (!r32))) : Option (Bool)) fun b28 => (bif b28 then some false else (bif (r11.2 != 0) then some true else ((impl_FiringTimes F (GEventGraph.mk r4.1.Events r4.1.Places) (IntKind.i64.wrap (4 * r4.2))).bind fun r36 => ((impl_FiringTimes F (GEventGraph.mk r11.1.Events r11.1.Places) 4).bind fun r43 => (bif (r36.2 != r43.2) then some false else (Option.bind (laws_FnUnrolled_L16 F r4 r36 r43 F 0) fun r941 => match r941 with | .inl x_ => some x_ | .inr _ => (bif (decide (12 < (r11.1.Places.length : Int))) then some true else ((impl_CycleTime F (GEventGraph.mk r4.1.Events r4.1.Places)).bind fun r1242 => ((impl_CycleTime F (GEventGraph.mk r11.1.Events r11.1.Places)).bind fun r1245 => (Option.bind ((bif (r1242.2 == r1245.2) then (bif (r1242.2 != 0) then some true else some ((IntKind.i64.wrap (r1245.1.Num * r1242.1.Den)) == (IntKind.i64.wrap ((IntKind.i64.wrap (r4.2 * r1242.1.Num)) * r1245.1.Den)))) else some false) : Option (Bool)) fun b1250 => some b1250))))))))))))))))

end Go.Proofs.Ytgkgimglgjfcjaa
