/- Plain models of the functions. -/
import Derived.Test.YtgkgimglgjfcjaaLiftP
namespace Go.Proofs.Ytgkgimglgjfcjaa

structure GPlace where
  From : Int
  To : Int
  Delay : Int
  Tokens : Int

structure GEventGraph where
  Events : Int
  Places : List GPlace

structure GRatio where
  Num : Int
  Den : Int

def laws_big (_F : Nat) (p0_code : List Int) : Option (Bool) :=
  some (decide (4096 < (p0_code.length : Int)))

def spec_l01From_L1 (F : Nat) (p0_code : List Int) : Nat → Int → Int → Option (Int)
  | 0, _, _ => none
  | n34 + 1, x20, x21 => (Option.bind ((bif (decide (x21 < (p0_code.length : Int))) then some (decide (x21 < 64)) else some false) : Option (Bool)) fun b36 => (bif b36 then ((idx p0_code x21).bind fun q41 => (spec_l01From_L1 F p0_code n34 ((IntKind.i64.wrap ((IntKind.i64.wrap (x20 * 67)) + (IntKind.i64.wrap q41))).tmod 2147483647) (IntKind.i64.wrap (x21 + 1)))) else some x20))

def spec_l01From (F : Nat) (p0_code : List Int) : Option ((Int × Int)) :=
  (Option.bind (spec_l01From_L1 F p0_code F 61403 0) fun x30 => some (0, x30))

def spec_l01Next (_F : Nat) (p0_code : List Int) (p0_at : Int) (p0_seed : Int) (p1 : Int) : Option ((Int) × Int × Int) :=
  (bif (decide (p1 ≤ 1)) then some (0, p0_at, p0_seed) else (Option.bind ((bif (decide (p0_at < (p0_code.length : Int))) then ((idx p0_code p0_at).bind fun q18 => (Option.bind ((bif (decide (p1 ≤ 256)) then some (((IntKind.i64.wrap (p0_at + 1)).tmod 2) == 0) else some false) : Option (Bool)) fun b21 => (bif b21 then ((idx p0_code (IntKind.i64.wrap ((IntKind.i64.wrap (p0_at + 1)) - 1))).bind fun q26 => some ((IntKind.i64.wrap (p0_at + 1)), (IntKind.i64.wrap q26))) else some ((IntKind.i64.wrap (p0_at + 1)), (IntKind.i64.wrap ((IntKind.i64.wrap (((IntKind.i64.wrap ((IntKind.i64.wrap (p0_seed * 48271)) + 59)).tmod 2147483647).tdiv 31)) + (IntKind.i64.wrap q18))))))) else some (p0_at, (IntKind.i64.wrap (((IntKind.i64.wrap ((IntKind.i64.wrap (p0_seed * 48271)) + 59)).tmod 2147483647).tdiv 31)))) : Option (Int × Int)) fun (x13, x14) => ((if p1 = 0 then none else some ()).bind fun _u29 => some ((x14.tmod p1), x13, ((IntKind.i64.wrap ((IntKind.i64.wrap (p0_seed * 48271)) + 59)).tmod 2147483647)))))

def spec_l01Pick (F : Nat) (p0_s_code : List Int) (p0_s_at : Int) (p0_s_seed : Int) (p1_list : List Int) : Option ((Int) × Int × Int) :=
  ((spec_l01Next F p0_s_code p0_s_at p0_s_seed (p1_list.length : Int)).bind fun r1 => ((idx p1_list r1.1).bind fun q3 => some (q3, r1.2.1, r1.2.2)))

def spec_l11Draw_L1 (F : Nat) (p0_code : List Int) (r2 : (Int) × Int × Int) : Nat → Int → Int → (List GPlace) → Int → Option (Int × Int × (List GPlace))
  | 0, _, _, _, _ => none
  | n353 + 1, x229, x230, xs231, x236 => (bif (decide (0 < x236)) then (Option.bind (((spec_l01Next F p0_code x229 x230 (IntKind.i64.wrap (1 + r2.1))).bind fun r399 => ((spec_l01Next F p0_code r399.2.1 r399.2.2 (IntKind.i64.wrap (1 + r2.1))).bind fun r401 => ((spec_l01Next F p0_code r401.2.1 r401.2.2 12).bind fun r403 => some (r403.2.1, r403.2.2, r399.1, r401.1, r403.1)))) : Option (Int × Int × Int × Int × Int)) fun (x384, x385, x387, x388, x389) => (Option.bind ((bif (decide (x388 ≤ x387)) then some (x384, x385, true) else ((spec_l01Next F p0_code x384 x385 4).bind fun r430 => some (r430.2.1, r430.2.2, (r430.1 == 0)))) : Option (Int × Int × Bool)) fun (x424, x425, b426) => (Option.bind ((bif b426 then ((spec_l01Next F p0_code x424 x425 2).bind fun r443 => ((spec_l01Next F p0_code r443.2.1 r443.2.2 3).bind fun r445 => some (r445.2.1, r445.2.2, (IntKind.i64.wrap (1 + (IntKind.i64.wrap (r443.1 * r445.1))))))) else some (x424, x425, 0)) : Option (Int × Int × Int)) fun (x437, x438, x439) => ((spec_l01Next F p0_code x437 x438 30).bind fun r447 => (Option.bind ((bif (r447.1 == 0) then some 0 else some x439) : Option (Int)) fun x450 => ((app xs231 ([(GPlace.mk x387 x388 x389 x450)])).bind fun xs458 => (spec_l11Draw_L1 F p0_code r2 n353 r447.2.1 r447.2.2 xs458 (IntKind.i64.wrap (x236 - 1))))))))) else some (x229, x230, xs231))

def spec_l11Draw_L2 (F : Nat) (p0_code : List Int) : Nat → Int → Int → (List GPlace) → Int → Option (Int × Int × (List GPlace))
  | 0, _, _, _, _ => none
  | n660 + 1, x633, x634, xs635, x640 => ((spec_l01Next F p0_code x633 x634 9).bind fun r661 => (bif (decide (x640 < (IntKind.i64.wrap (22 + r661.1)))) then ((app xs635 ([(GPlace.mk 0 0 x640 1)])).bind fun xs668 => (spec_l11Draw_L2 F p0_code n660 r661.2.1 r661.2.2 xs668 (IntKind.i64.wrap (x640 + 1)))) else some (r661.2.1, r661.2.2, xs635)))

def spec_l11Draw (F : Nat) (p0_code : List Int) (p0_at : Int) (p0_seed : Int) : Option ((GEventGraph) × Int × Int) :=
  ((spec_l01Next F p0_code p0_at p0_seed 5).bind fun r2 => ((spec_l01Next F p0_code r2.2.1 r2.2.2 9).bind fun r7 => (Option.bind (spec_l11Draw_L1 F p0_code r2 F r7.2.1 r7.2.2 ([] : List GPlace) r7.1) fun (x343, x344, xs345) => ((spec_l01Next F p0_code x343 x344 60).bind fun r460 => (bif (r460.1 == 0) then ((spec_l01Pick F p0_code r460.2.1 r460.2.2 ([0, 10, 11])).bind fun r465 => some ((GEventGraph.mk r465.1 xs345), r465.2.1, r465.2.2)) else (bif (r460.1 == 1) then (Option.bind (((spec_l01Pick F p0_code r460.2.1 r460.2.2 ([(-1), 0, (IntKind.i64.wrap (1 + r2.1))])).bind fun r547 => ((spec_l01Pick F p0_code r547.2.1 r547.2.2 ([(-1), 1000, 1001])).bind fun r551 => ((app xs345 ([(GPlace.mk r547.1 0 r551.1 1)])).bind fun xs557 => some (r551.2.1, r551.2.2, xs557)))) : Option (Int × Int × (List GPlace))) fun (x522, x523, xs524) => some ((GEventGraph.mk (IntKind.i64.wrap (1 + r2.1)) xs524), x522, x523)) else (bif (r460.1 == 2) then ((spec_l01Pick F p0_code r460.2.1 r460.2.2 ([5, 6, (-1)])).bind fun r598 => ((app xs345 ([(GPlace.mk 0 0 0 r598.1)])).bind fun xs604 => some ((GEventGraph.mk (IntKind.i64.wrap (1 + r2.1)) xs604), r598.2.1, r598.2.2))) else (bif (r460.1 == 3) then (Option.bind (spec_l11Draw_L2 F p0_code F r460.2.1 r460.2.2 xs345 0) fun (x650, x651, xs652) => some ((GEventGraph.mk (IntKind.i64.wrap (1 + r2.1)) xs652), x650, x651)) else some ((GEventGraph.mk (IntKind.i64.wrap (1 + r2.1)) xs345), r460.2.1, r460.2.2)))))))))

def spec_DrawReverseGraph (F : Nat) (p0_code : List Int) : Option (GEventGraph) :=
  ((spec_l01From F p0_code).bind fun r2 => ((spec_l11Draw F p0_code r2.1 r2.2).bind fun r5 => some (GEventGraph.mk r5.1.Events r5.1.Places)))

def impl_within (_F : Nat) (p0_n : Int) (p1_low : Int) (p2_high : Int) : Option (Bool) :=
  (Option.bind ((bif (decide (p1_low ≤ p0_n)) then some (decide (p0_n ≤ p2_high)) else some false) : Option (Bool)) fun b2 => some b2)

def impl_isEvent (F : Nat) (p0_g : GEventGraph) (p1_event : Int) : Option (Bool) :=
  ((impl_within F p1_event 0 (IntKind.i64.wrap (p0_g.Events - 1))).bind fun r2 => some r2)

def impl_isPlace (F : Nat) (p0_g : GEventGraph) (p1_p : GPlace) : Option (Bool) :=
  (Option.bind (((impl_isEvent F p0_g p1_p.From).bind fun r17 => (bif r17 then ((impl_isEvent F p0_g p1_p.To).bind fun r20 => (bif r20 then ((impl_within F p1_p.Delay 0 1000).bind fun r23 => (bif r23 then ((impl_within F p1_p.Tokens 0 5).bind fun r26 => some r26) else some false)) else some false)) else some false)) : Option (Bool)) fun b14 => some b14)

def impl_IsEventGraph_c1 (F : Nat) (p0_p : GPlace) (z0 : GEventGraph) : Option (Bool) :=
  ((impl_isPlace F z0 p0_p).bind fun r2 => some (!r2))

def slices_IndexFunc_Place_L1 (F : Nat) (p0_s : List GPlace) (m_p1_f : GPlace → Option Bool) : Nat → Int → Option (Sum Int (Unit))
  | 0, _ => none
  | n24 + 1, x14 => (bif (decide (x14 < (p0_s.length : Int))) then ((idx p0_s x14).bind fun q26 => ((m_p1_f q26).bind fun r28 => (bif r28 then some (Sum.inl x14) else (slices_IndexFunc_Place_L1 F p0_s m_p1_f n24 (IntKind.i64.wrap (x14 + 1)))))) else some (Sum.inr ()))

def slices_IndexFunc_Place (F : Nat) (p0_s : List GPlace) (m_p1_f : GPlace → Option Bool) : Option (Int) :=
  (Option.bind (slices_IndexFunc_Place_L1 F p0_s m_p1_f F 0) fun r21 => match r21 with | .inl x_ => some x_ | .inr _ => some (-1))

def slices_ContainsFunc_Place (F : Nat) (p0_s : List GPlace) (m_p1_f : GPlace → Option Bool) : Option (Bool) :=
  ((slices_IndexFunc_Place F p0_s m_p1_f).bind fun r1 => some (decide (0 ≤ r1)))

def impl_IsEventGraph (F : Nat) (p0_g : GEventGraph) : Option (Bool) :=
  (Option.bind (((impl_within F p0_g.Events 1 10).bind fun r11 => (bif r11 then (bif (decide ((p0_g.Places.length : Int) ≤ 30)) then ((slices_ContainsFunc_Place F p0_g.Places (fun x0 => impl_IsEventGraph_c1 F x0 p0_g)).bind fun r15 => some (!r15)) else some false) else some false)) : Option (Bool)) fun b8 => some b8)

def slices_Clone_Place (_F : Nat) (p0_s : List GPlace) : Option (List GPlace) :=
  ((app ([] : List GPlace) p0_s).bind fun xs5 => some xs5)

def impl_cloneGraph (F : Nat) (p0_g : GEventGraph) : Option (GEventGraph) :=
  ((slices_Clone_Place F p0_g.Places).bind fun r9 => some (GEventGraph.mk p0_g.Events r9))

def impl_ReverseGraph_L1 (F : Nat) (p0_g : GEventGraph) : Nat → (List GPlace) → Int → Option (List GPlace)
  | 0, _, _ => none
  | n85 + 1, xs57, x59 => (bif (decide (x59 < (p0_g.Places.length : Int))) then ((idx p0_g.Places x59).bind fun q87 => ((idx xs57 x59).bind fun q98 => ((upd xs57 x59 (GPlace.mk q87.To q98.To q98.Delay q98.Tokens)).bind fun xs100 => ((idx xs100 x59).bind fun q102 => ((upd xs100 x59 (GPlace.mk q102.From q87.From q102.Delay q102.Tokens)).bind fun xs104 => (impl_ReverseGraph_L1 F p0_g n85 xs104 (IntKind.i64.wrap (x59 + 1)))))))) else some xs57)

def impl_ReverseGraph (F : Nat) (p0_g : GEventGraph) : Option (GEventGraph × Int) :=
  ((impl_IsEventGraph F p0_g).bind fun r3 => (bif (!r3) then some ((GEventGraph.mk 0 []), 1) else ((impl_cloneGraph F p0_g).bind fun r7 => (Option.bind (impl_ReverseGraph_L1 F p0_g F r7.Places 0) fun xs80 => some ((GEventGraph.mk r7.Events xs80), 0)))))

def spec_l01In (_F : Nat) (p0_n : Int) (p1_low : Int) (p2_high : Int) : Option (Bool) :=
  (Option.bind ((bif (decide (p1_low ≤ p0_n)) then some (decide (p0_n ≤ p2_high)) else some false) : Option (Bool)) fun b2 => some b2)

def spec_l11Place (F : Nat) (p0_p : GPlace) (p1_events : Int) : Option (Bool) :=
  (Option.bind (((spec_l01In F p0_p.From 0 (IntKind.i64.wrap (p1_events - 1))).bind fun r16 => (bif r16 then ((spec_l01In F p0_p.To 0 (IntKind.i64.wrap (p1_events - 1))).bind fun r19 => (bif r19 then ((spec_l01In F p0_p.Delay 0 1000).bind fun r22 => (bif r22 then ((spec_l01In F p0_p.Tokens 0 5).bind fun r25 => some r25) else some false)) else some false)) else some false)) : Option (Bool)) fun b13 => some b13)

def spec_IsEventGraph_L1 (F : Nat) (p0_g : GEventGraph) : Nat → Int → Option (Sum Bool (Unit))
  | 0, _ => none
  | n25 + 1, x15 => (bif (decide (x15 < (p0_g.Places.length : Int))) then ((idx p0_g.Places x15).bind fun q27 => ((spec_l11Place F q27 p0_g.Events).bind fun r29 => (bif (!r29) then some (Sum.inl false) else (spec_IsEventGraph_L1 F p0_g n25 (IntKind.i64.wrap (x15 + 1)))))) else some (Sum.inr ()))

def spec_IsEventGraph (F : Nat) (p0_g : GEventGraph) : Option (Bool) :=
  (Option.bind (spec_IsEventGraph_L1 F p0_g F 0) fun r22 => match r22 with | .inl x_ => some x_ | .inr _ => (Option.bind (((spec_l01In F p0_g.Events 1 10).bind fun r38 => (bif r38 then some (decide ((p0_g.Places.length : Int) ≤ 30)) else some false)) : Option (Bool)) fun b35 => some b35))

def spec_l11Own (_F : Nat) (p0_g : GEventGraph) : Option (GEventGraph) :=
  ((app ([] : List GPlace) p0_g.Places).bind fun xs13 => some (GEventGraph.mk p0_g.Events xs13))

def spec_ReverseGraph_L1 (F : Nat) : Nat → (List GPlace) → Int → Option (List GPlace)
  | 0, _, _ => none
  | n49 + 1, xs33, x35 => (bif (decide (x35 < (xs33.length : Int))) then ((idx xs33 x35).bind fun q51 => ((idx xs33 x35).bind fun _q54 => ((upd xs33 x35 (GPlace.mk q51.To q51.From q51.Delay q51.Tokens)).bind fun xs56 => (spec_ReverseGraph_L1 F n49 xs56 (IntKind.i64.wrap (x35 + 1)))))) else some xs33)

def spec_ReverseGraph (F : Nat) (p0_g : GEventGraph) : Option (GEventGraph × Int) :=
  ((spec_IsEventGraph F p0_g).bind fun r3 => (bif (!r3) then some ((GEventGraph.mk 0 []), 1) else ((spec_l11Own F p0_g).bind fun r7 => (Option.bind (spec_ReverseGraph_L1 F F r7.Places 0) fun xs44 => some ((GEventGraph.mk r7.Events xs44), 0)))))

def spec_DrawStretchGraph (F : Nat) (p0_code : List Int) : Option (GEventGraph × Int) :=
  ((spec_l01From F p0_code).bind fun r2 => ((spec_l11Draw F p0_code r2.1 r2.2).bind fun r5 => ((spec_l01Next F p0_code r5.2.1 r5.2.2 8).bind fun r12 => (bif (r12.1 == 0) then ((spec_l01Pick F p0_code r12.2.1 r12.2.2 ([0, 1000, 1001, 100])).bind fun r21 => some ((GEventGraph.mk r5.1.Events r5.1.Places), r21.1)) else ((spec_l01Next F p0_code r12.2.1 r12.2.2 9).bind fun r25 => some ((GEventGraph.mk r5.1.Events r5.1.Places), (IntKind.i64.wrap (1 + r25.1))))))))

def impl_checkedGraph (F : Nat) (p0_g : GEventGraph) : Option (GEventGraph × Int) :=
  ((impl_IsEventGraph F p0_g).bind fun r3 => (bif (!r3) then some ((GEventGraph.mk 0 []), 3) else some (p0_g, 0)))

def impl_StretchGraph_L1 (F : Nat) (p1_n : Int) (r11 : GEventGraph) : Nat → (List GPlace) → Int → Option (List GPlace)
  | 0, _, _ => none
  | n50 + 1, xs35, x37 => (bif (decide (x37 < (r11.Places.length : Int))) then ((idx xs35 x37).bind fun q52 => ((idx xs35 x37).bind fun q54 => ((upd xs35 x37 (GPlace.mk q54.From q54.To (IntKind.i64.wrap (q52.Delay * p1_n)) q54.Tokens)).bind fun xs56 => (impl_StretchGraph_L1 F p1_n r11 n50 xs56 (IntKind.i64.wrap (x37 + 1)))))) else some xs35)

def impl_StretchGraph (F : Nat) (p0_g : GEventGraph) (p1_n : Int) : Option (GEventGraph × Int) :=
  ((impl_IsEventGraph F p0_g).bind fun r3 => (bif (!r3) then some ((GEventGraph.mk 0 []), 1) else ((impl_within F p1_n 1 1000).bind fun r7 => (bif (!r7) then some ((GEventGraph.mk 0 []), 2) else ((impl_cloneGraph F p0_g).bind fun r11 => (Option.bind (impl_StretchGraph_L1 F p1_n r11 F r11.Places 0) fun xs45 => ((impl_checkedGraph F (GEventGraph.mk r11.Events xs45)).bind fun r58 => some ((GEventGraph.mk r58.1.Events r58.1.Places), r58.2))))))))

def spec_l19Result (F : Nat) (p0_g : GEventGraph) : Option (GEventGraph × Int) :=
  ((spec_IsEventGraph F p0_g).bind fun r3 => (bif (!r3) then some ((GEventGraph.mk 0 []), 3) else some (p0_g, 0)))

def spec_StretchGraph_L1 (F : Nat) (p1_n : Int) : Nat → (List GPlace) → Int → Option (List GPlace)
  | 0, _, _ => none
  | n50 + 1, xs35, x37 => (bif (decide (x37 < (xs35.length : Int))) then ((idx xs35 x37).bind fun q52 => ((idx xs35 x37).bind fun q54 => ((upd xs35 x37 (GPlace.mk q54.From q54.To (IntKind.i64.wrap (p1_n * q52.Delay)) q54.Tokens)).bind fun xs56 => (spec_StretchGraph_L1 F p1_n n50 xs56 (IntKind.i64.wrap (x37 + 1)))))) else some xs35)

def spec_StretchGraph (F : Nat) (p0_g : GEventGraph) (p1_n : Int) : Option (GEventGraph × Int) :=
  ((spec_IsEventGraph F p0_g).bind fun r3 => (bif (!r3) then some ((GEventGraph.mk 0 []), 1) else ((spec_l01In F p1_n 1 1000).bind fun r7 => (bif (!r7) then some ((GEventGraph.mk 0 []), 2) else ((spec_l11Own F p0_g).bind fun r11 => (Option.bind (spec_StretchGraph_L1 F p1_n F r11.Places 0) fun xs45 => ((spec_l19Result F (GEventGraph.mk r11.Events xs45)).bind fun r58 => some ((GEventGraph.mk r58.1.Events r58.1.Places), r58.2))))))))

def spec_l01Own (_F : Nat) (p0_list : List Int) : Option (List Int) :=
  ((app ([] : List Int) p0_list).bind fun xs5 => some xs5)

def spec_l19DrawOrder_L1 (F : Nat) (p0_s_code : List Int) (p1_n : Int) : Nat → Int → Int → (List Int) → Int → Option (Int × Int × (List Int))
  | 0, _, _, _, _ => none
  | n395 + 1, x255, x256, xs257, x262 => (bif (decide (x262 < p1_n)) then ((spec_l01Next F p0_s_code x255 x256 (IntKind.i64.wrap (x262 + 1))).bind fun r397 => (Option.bind (((cutTo xs257 r397.1).bind fun xs483 => ((cutFrom xs257 r397.1).bind fun xs485 => ((spec_l01Own F xs483).bind fun r486 => ((app r486 ([x262])).bind fun xs496 => ((app xs496 xs485).bind fun xs500 => some xs500))))) : Option (List Int)) fun xs455 => (spec_l19DrawOrder_L1 F p0_s_code p1_n n395 r397.2.1 r397.2.2 xs455 (IntKind.i64.wrap (x262 + 1))))) else some (x255, x256, xs257))

def spec_l19DrawOrder (F : Nat) (p0_s_code : List Int) (p0_s_at : Int) (p0_s_seed : Int) (p1_n : Int) : Option ((List Int) × Int × Int) :=
  (Option.bind (spec_l19DrawOrder_L1 F p0_s_code p1_n F p0_s_at p0_s_seed ([] : List Int) 0) fun (x385, x386, xs387) => some (xs387, x385, x386))

def spec_DrawRelabelGraph (F : Nat) (p0_code : List Int) : Option (GEventGraph × List Int) :=
  ((spec_l01From F p0_code).bind fun r2 => ((spec_l11Draw F p0_code r2.1 r2.2).bind fun r5 => ((spec_l19DrawOrder F p0_code r5.2.1 r5.2.2 r5.1.Events).bind fun r12 => ((spec_l01Next F p0_code r12.2.1 r12.2.2 20).bind fun r18 => (bif (r18.1 == 0) then ((spec_l01Pick F p0_code r18.2.1 r18.2.2 ([0, r5.1.Events])).bind fun r23 => ((app r12.1 ([r23.1])).bind fun xs29 => some ((GEventGraph.mk r5.1.Events r5.1.Places), xs29))) else (bif (r18.1 == 1) then (bif (decide (0 < (r12.1.length : Int))) then ((spec_l01Pick F p0_code r18.2.1 r18.2.2 ([(-1), r5.1.Events, 0])).bind fun r35 => ((idx r12.1 0).bind fun _q37 => ((upd r12.1 0 r35.1).bind fun xs39 => some ((GEventGraph.mk r5.1.Events r5.1.Places), xs39)))) else some ((GEventGraph.mk r5.1.Events r5.1.Places), r12.1)) else some ((GEventGraph.mk r5.1.Events r5.1.Places), r12.1)))))))

def impl_allWithin_L1 (F : Nat) (p0_list : List Int) (p1_low : Int) (p2_high : Int) : Nat → Int → Option (Sum Bool (Unit))
  | 0, _ => none
  | n24 + 1, x14 => (bif (decide (x14 < (p0_list.length : Int))) then ((idx p0_list x14).bind fun q26 => ((impl_within F q26 p1_low p2_high).bind fun r28 => (bif (!r28) then some (Sum.inl false) else (impl_allWithin_L1 F p0_list p1_low p2_high n24 (IntKind.i64.wrap (x14 + 1)))))) else some (Sum.inr ()))

def impl_allWithin (F : Nat) (p0_list : List Int) (p1_low : Int) (p2_high : Int) : Option (Bool) :=
  (Option.bind (impl_allWithin_L1 F p0_list p1_low p2_high F 0) fun r21 => match r21 with | .inl x_ => some x_ | .inr _ => some true)

def slices_Index_int64_L1 (F : Nat) (p0_s : List Int) (p1_v : Int) : Nat → Int → Option (Sum Int (Unit))
  | 0, _ => none
  | n18 + 1, x10 => (bif (decide (x10 < (p0_s.length : Int))) then ((idx p0_s x10).bind fun q20 => (bif (p1_v == q20) then some (Sum.inl x10) else (slices_Index_int64_L1 F p0_s p1_v n18 (IntKind.i64.wrap (x10 + 1))))) else some (Sum.inr ()))

def slices_Index_int64 (F : Nat) (p0_s : List Int) (p1_v : Int) : Option (Int) :=
  (Option.bind (slices_Index_int64_L1 F p0_s p1_v F 0) fun r15 => match r15 with | .inl x_ => some x_ | .inr _ => some (-1))

def slices_Contains_int64 (F : Nat) (p0_s : List Int) (p1_v : Int) : Option (Bool) :=
  ((slices_Index_int64 F p0_s p1_v).bind fun r1 => some (decide (0 ≤ r1)))

def impl_RelabelGraph_c1 (_F : Nat) (p0_event : Int) (z0 : List Int) : Option (Int) :=
  ((idx z0 p0_event).bind fun q1 => some q1)

def impl_mappedGraph_L1 (F : Nat) (p0_g : GEventGraph) (m_p2_become : Int → Option Int) : Nat → (List GPlace) → Int → Option (List GPlace)
  | 0, _, _ => none
  | n100 + 1, xs62, x67 => (bif (decide (x67 < (p0_g.Places.length : Int))) then ((idx p0_g.Places x67).bind fun q102 => ((m_p2_become q102.From).bind fun r115 => ((m_p2_become q102.To).bind fun r117 => ((app xs62 ([(GPlace.mk r115 r117 q102.Delay q102.Tokens)])).bind fun xs123 => (impl_mappedGraph_L1 F p0_g m_p2_become n100 xs123 (IntKind.i64.wrap (x67 + 1))))))) else some xs62)

def impl_mappedGraph (F : Nat) (p0_g : GEventGraph) (p1_events : Int) (m_p2_become : Int → Option Int) : Option (GEventGraph) :=
  (Option.bind (impl_mappedGraph_L1 F p0_g m_p2_become F [] 0) fun xs92 => some (GEventGraph.mk p1_events xs92))

def impl_RelabelGraph_L1 (F : Nat) (p1_p : List Int) : Nat → Int → Option (Sum (GEventGraph × Int) (Unit))
  | 0, _ => none
  | n48 + 1, x36 => (bif (decide (x36 < (p1_p.length : Int))) then ((idx p1_p x36).bind fun q50 => ((cutTo p1_p x36).bind fun xs53 => ((slices_Contains_int64 F xs53 q50).bind fun r54 => (bif r54 then some (Sum.inl ((GEventGraph.mk 0 []), 2)) else (impl_RelabelGraph_L1 F p1_p n48 (IntKind.i64.wrap (x36 + 1))))))) else some (Sum.inr ()))

def impl_RelabelGraph (F : Nat) (p0_g : GEventGraph) (p1_p : List Int) : Option (GEventGraph × Int) :=
  ((impl_IsEventGraph F p0_g).bind fun r4 => (bif (!r4) then some ((GEventGraph.mk 0 []), 1) else (Option.bind ((bif ((p1_p.length : Int) != p0_g.Events) then some true else ((impl_allWithin F p1_p 0 (IntKind.i64.wrap (p0_g.Events - 1))).bind fun r15 => some (!r15))) : Option (Bool)) fun b11 => (bif b11 then some ((GEventGraph.mk 0 []), 2) else (Option.bind (impl_RelabelGraph_L1 F p1_p F 0) fun r45 => match r45 with | .inl x_ => some x_ | .inr _ => ((impl_mappedGraph F p0_g p0_g.Events (fun x0 => impl_RelabelGraph_c1 F x0 p1_p)).bind fun r58 => some (r58, 0)))))))

def spec_l01Has_L1 (F : Nat) (p0_list : List Int) (p1_x : Int) : Nat → Int → Option (Sum Bool (Unit))
  | 0, _ => none
  | n18 + 1, x10 => (bif (decide (x10 < (p0_list.length : Int))) then ((idx p0_list x10).bind fun q20 => (bif (q20 == p1_x) then some (Sum.inl true) else (spec_l01Has_L1 F p0_list p1_x n18 (IntKind.i64.wrap (x10 + 1))))) else some (Sum.inr ()))

def spec_l01Has (F : Nat) (p0_list : List Int) (p1_x : Int) : Option (Bool) :=
  (Option.bind (spec_l01Has_L1 F p0_list p1_x F 0) fun r15 => match r15 with | .inl x_ => some x_ | .inr _ => some false)

def spec_l19Permutes_L1 (F : Nat) (p0_p : List Int) (p1_n : Int) : Nat → Int → Option (Sum Bool (Unit))
  | 0, _ => none
  | n87 + 1, x56 => (bif (decide (x56 < (p0_p.length : Int))) then (Option.bind (((idx p0_p x56).bind fun q103 => ((spec_l01In F q103 0 (IntKind.i64.wrap (p1_n - 1))).bind fun r105 => (bif (!r105) then some true else ((cutTo p0_p x56).bind fun xs109 => ((idx p0_p x56).bind fun q110 => ((spec_l01Has F xs109 q110).bind fun r112 => some r112)))))) : Option (Bool)) fun b100 => (bif b100 then some (Sum.inl false) else (spec_l19Permutes_L1 F p0_p p1_n n87 (IntKind.i64.wrap (x56 + 1))))) else some (Sum.inr ()))

def spec_l19Permutes (F : Nat) (p0_p : List Int) (p1_n : Int) : Option (Bool) :=
  (Option.bind (spec_l19Permutes_L1 F p0_p p1_n F 0) fun r84 => match r84 with | .inl x_ => some x_ | .inr _ => some ((p0_p.length : Int) == p1_n))

def spec_l19Map_L1 (F : Nat) (p0_g : GEventGraph) (p2_p : List Int) : Nat → (List GPlace) → Int → Option (List GPlace)
  | 0, _, _ => none
  | n140 + 1, xs88, x93 => (bif (decide (x93 < (p0_g.Places.length : Int))) then ((idx p0_g.Places x93).bind fun q142 => (Option.bind (((idx p2_p q142.From).bind fun q153 => (bif (decide (0 ≤ q153)) then ((idx p2_p q142.To).bind fun q156 => some (decide (0 ≤ q156))) else some false)) : Option (Bool)) fun b150 => (bif b150 then ((idx p2_p q142.From).bind fun q169 => ((idx p2_p q142.To).bind fun q171 => ((app xs88 ([(GPlace.mk q169 q171 q142.Delay q142.Tokens)])).bind fun xs177 => (spec_l19Map_L1 F p0_g p2_p n140 xs177 (IntKind.i64.wrap (x93 + 1)))))) else (spec_l19Map_L1 F p0_g p2_p n140 xs88 (IntKind.i64.wrap (x93 + 1)))))) else some xs88)

def spec_l19Map (F : Nat) (p0_g : GEventGraph) (p1_events : Int) (p2_p : List Int) : Option (GEventGraph) :=
  (Option.bind (spec_l19Map_L1 F p0_g p2_p F ([] : List GPlace) 0) fun xs132 => some (GEventGraph.mk p1_events xs132))

def spec_RelabelGraph (F : Nat) (p0_g : GEventGraph) (p1_p : List Int) : Option (GEventGraph × Int) :=
  ((spec_IsEventGraph F p0_g).bind fun r3 => (bif (!r3) then some ((GEventGraph.mk 0 []), 1) else ((spec_l19Permutes F p1_p p0_g.Events).bind fun r7 => (bif (!r7) then some ((GEventGraph.mk 0 []), 2) else ((spec_l19Map F p0_g p0_g.Events p1_p).bind fun r11 => some (r11, 0))))))

def spec_DrawPartOfGraph_L1 (F : Nat) (p0_code : List Int) (r5 : (GEventGraph) × Int × Int) : Nat → Int → Int → (List Int) → Int → Option (Int × Int × (List Int))
  | 0, _, _, _, _ => none
  | n70 + 1, x42, x43, xs44, x49 => (bif (decide (x49 < r5.1.Events)) then ((spec_l01Next F p0_code x42 x43 3).bind fun r72 => (bif (decide (0 < r72.1)) then ((app xs44 ([x49])).bind fun xs79 => (spec_DrawPartOfGraph_L1 F p0_code r5 n70 r72.2.1 r72.2.2 xs79 (IntKind.i64.wrap (x49 + 1)))) else (spec_DrawPartOfGraph_L1 F p0_code r5 n70 r72.2.1 r72.2.2 xs44 (IntKind.i64.wrap (x49 + 1))))) else some (x42, x43, xs44))

def spec_DrawPartOfGraph (F : Nat) (p0_code : List Int) : Option (GEventGraph × List Int) :=
  ((spec_l01From F p0_code).bind fun r2 => ((spec_l11Draw F p0_code r2.1 r2.2).bind fun r5 => (Option.bind (spec_DrawPartOfGraph_L1 F p0_code r5 F r5.2.1 r5.2.2 ([] : List Int) 0) fun (x60, x61, xs62) => ((spec_l01Next F p0_code x60 x61 16).bind fun r81 => (Option.bind ((bif (r81.1 == 0) then ((spec_l01Pick F p0_code r81.2.1 r81.2.2 ([(-1), 0, r5.1.Events])).bind fun r104 => ((app xs62 ([r104.1])).bind fun xs110 => some xs110)) else some xs62) : Option (List Int)) fun xs94 => some ((GEventGraph.mk r5.1.Events r5.1.Places), xs94))))))

def impl_increasing_L1 (F : Nat) (p0_list : List Int) : Nat → Int → Option (Sum Bool (Unit))
  | 0, _ => none
  | n24 + 1, x14 => (bif (decide (x14 < (p0_list.length : Int))) then ((idx p0_list (IntKind.i64.wrap (x14 - 1))).bind fun q26 => ((idx p0_list x14).bind fun q28 => (bif (decide (q28 ≤ q26)) then some (Sum.inl false) else (impl_increasing_L1 F p0_list n24 (IntKind.i64.wrap (x14 + 1)))))) else some (Sum.inr ()))

def impl_increasing (F : Nat) (p0_list : List Int) : Option (Bool) :=
  (Option.bind (impl_increasing_L1 F p0_list F 1) fun r21 => match r21 with | .inl x_ => some x_ | .inr _ => some true)

def impl_PartOfGraph_c1 (F : Nat) (p0_event : Int) (z0 : List Int) : Option (Int) :=
  ((slices_Index_int64 F z0 p0_event).bind fun r1 => some r1)

def slices_DeleteFunc_Place_L1 (F : Nat) (m_p1_del : GPlace → Option Bool) : Nat → (List GPlace) → Int → Int → Option ((List GPlace) × Int)
  | 0, _, _, _ => none
  | n51 + 1, xs30, x32, x33 => (bif (decide (x33 < (xs30.length : Int))) then ((idx xs30 x33).bind fun q53 => ((m_p1_del q53).bind fun r56 => (bif (!r56) then ((idx xs30 x32).bind fun _q59 => ((upd xs30 x32 q53).bind fun xs61 => (slices_DeleteFunc_Place_L1 F m_p1_del n51 xs61 (IntKind.i64.wrap (x32 + 1)) (IntKind.i64.wrap (x33 + 1))))) else (slices_DeleteFunc_Place_L1 F m_p1_del n51 xs30 x32 (IntKind.i64.wrap (x33 + 1)))))) else some (xs30, x32))

def slices_DeleteFunc_Place (F : Nat) (p0_s : List GPlace) (m_p1_del : GPlace → Option Bool) : Option ((List GPlace) × List GPlace) :=
  ((slices_IndexFunc_Place F p0_s m_p1_del).bind fun r1 => (bif (r1 == (-1)) then some (p0_s, p0_s) else (Option.bind (slices_DeleteFunc_Place_L1 F m_p1_del F p0_s r1 (IntKind.i64.wrap (r1 + 1))) fun (xs45, x47) => ((cutFrom xs45 x47).bind fun _xs64 => ((cutTo (clr xs45 x47 (GPlace.mk 0 0 0 0)) x47).bind fun xs66 => some (xs66, (clr xs45 x47 (GPlace.mk 0 0 0 0))))))))

def impl_PartOfGraph_c2 (_F : Nat) (p0_p : GPlace) : Option (Bool) :=
  (Option.bind ((bif (decide (p0_p.From < 0)) then some true else some (decide (p0_p.To < 0))) : Option (Bool)) fun b3 => some b3)

def impl_PartOfGraph (F : Nat) (p0_g : GEventGraph) (p1_events : List Int) : Option (GEventGraph × Int) :=
  ((impl_IsEventGraph F p0_g).bind fun r4 => (bif (!r4) then some ((GEventGraph.mk 0 []), 1) else (Option.bind ((bif ((p1_events.length : Int) == 0) then some true else ((impl_allWithin F p1_events 0 (IntKind.i64.wrap (p0_g.Events - 1))).bind fun r18 => (bif (!r18) then some true else ((impl_increasing F p1_events).bind fun r21 => some (!r21))))) : Option (Bool)) fun b14 => (bif b14 then some ((GEventGraph.mk 0 []), 2) else ((impl_mappedGraph F p0_g (p1_events.length : Int) (fun x0 => impl_PartOfGraph_c1 F x0 p1_events)).bind fun r25 => ((slices_DeleteFunc_Place F r25.Places (fun x0 => impl_PartOfGraph_c2 F x0)).bind fun r32 => some ((GEventGraph.mk r25.Events r32.1), 0)))))))

def spec_l02Bottom_L5 (F : Nat) (p1_n : Int) : Nat → (List Int) → Int → Option (List Int)
  | 0, _, _ => none
  | n252 + 1, xs231, x236 => (bif (decide (x236 < p1_n)) then ((app xs231 ([(-1000000000000000)])).bind fun xs258 => (spec_l02Bottom_L5 F p1_n n252 xs258 (IntKind.i64.wrap (x236 + 1)))) else some xs231)

def spec_l02Bottom_L4 (F : Nat) (p0_m : Int) (p1_n : Int) : Nat → (List (List Int)) → Int → Option (List (List Int))
  | 0, _, _ => none
  | n207 + 1, ms131, x137 => (bif (decide (x137 < p0_m)) then (Option.bind (spec_l02Bottom_L5 F p1_n F ([] : List Int) 0) fun xs244 => ((app ms131 ([xs244])).bind fun ms264 => (spec_l02Bottom_L4 F p0_m p1_n n207 ms264 (IntKind.i64.wrap (x137 + 1))))) else some ms131)

def spec_l02Bottom (F : Nat) (p0_m : Int) (p1_n : Int) : Option (List (List Int)) :=
  (Option.bind (spec_l02Bottom_L4 F p0_m p1_n F [] 0) fun ms198 => some ms198)

def spec_PartOfGraph_L1 (F : Nat) (p0 : GEventGraph) (p1 : List Int) : Nat → (List Int) → Int → Option (Sum (GEventGraph × Int) (List Int))
  | 0, _, _ => none
  | n138 + 1, xs93, x98 => (bif (decide (x98 < (p1.length : Int))) then (Option.bind (((idx p1 x98).bind fun q153 => ((spec_l01In F q153 0 (IntKind.i64.wrap (p0.Events - 1))).bind fun r155 => (bif (!r155) then some true else (bif (decide (0 < x98)) then ((idx p1 x98).bind fun q159 => ((idx p1 (IntKind.i64.wrap (x98 - 1))).bind fun q161 => some (decide (q159 ≤ q161)))) else some false)))) : Option (Bool)) fun b150 => (bif b150 then some (Sum.inl ((GEventGraph.mk 0 []), 2)) else ((idx p1 x98).bind fun q165 => ((idx xs93 q165).bind fun _q167 => ((upd xs93 q165 x98).bind fun xs169 => (spec_PartOfGraph_L1 F p0 p1 n138 xs169 (IntKind.i64.wrap (x98 + 1)))))))) else some (Sum.inr xs93))

def spec_PartOfGraph (F : Nat) (p0 : GEventGraph) (p1 : List Int) : Option (GEventGraph × Int) :=
  ((spec_IsEventGraph F p0).bind fun r3 => (bif (!r3) then some ((GEventGraph.mk 0 []), 1) else ((spec_l02Bottom F 1 p0.Events).bind fun r7 => ((idx r7 0).bind fun q14 => (Option.bind (spec_PartOfGraph_L1 F p0 p1 F q14 0) fun r135 => match r135 with | .inl x_ => some x_ | .inr xs130 => (bif ((p1.length : Int) == 0) then some ((GEventGraph.mk 0 []), 2) else ((spec_l19Map F p0 (p1.length : Int) xs130).bind fun r173 => some (r173, 0))))))))

def laws_likeGraphs9_L1 (F : Nat) (p0_a : GEventGraph) (p1_b : GEventGraph) : Nat → Int → Option (Sum Bool (Unit))
  | 0, _ => none
  | n32 + 1, x22 => (bif (decide (x22 < (p0_a.Places.length : Int))) then ((idx p0_a.Places x22).bind fun q34 => ((idx p1_b.Places x22).bind fun q36 => (bif (!(q34.From == q36.From && (q34.To == q36.To && (q34.Delay == q36.Delay && (q34.Tokens == q36.Tokens))))) then some (Sum.inl false) else (laws_likeGraphs9_L1 F p0_a p1_b n32 (IntKind.i64.wrap (x22 + 1)))))) else some (Sum.inr ()))

def laws_likeGraphs9 (F : Nat) (p0_a : GEventGraph) (p1_b : GEventGraph) : Option (Bool) :=
  (Option.bind ((bif (p0_a.Events != p1_b.Events) then some true else some ((p0_a.Places.length : Int) != (p1_b.Places.length : Int))) : Option (Bool)) fun b4 => (bif b4 then some false else (Option.bind (laws_likeGraphs9_L1 F p0_a p1_b F 0) fun r29 => match r29 with | .inl x_ => some x_ | .inr _ => some true)))

def impl_firingOrder_c1 (F : Nat) (p0_p : GPlace) (z0 : Int) (z1 : List Int) : Option (Bool) :=
  (Option.bind ((bif (p0_p.To == z0) then (bif (p0_p.Tokens == 0) then ((slices_Contains_int64 F z1 p0_p.From).bind fun r11 => some (!r11)) else some false) else some false) : Option (Bool)) fun b6 => some b6)

def impl_firingOrder_L5 (F : Nat) (p0_g : GEventGraph) (xs227 : List Int) : Nat → Int → Int → Option (Int)
  | 0, _, _ => none
  | n427 + 1, x398, x400 => (Option.bind ((bif (decide (x400 < p0_g.Events)) then some (decide (x398 < 0)) else some false) : Option (Bool)) fun b429 => (bif b429 then (Option.bind (((slices_Contains_int64 F xs227 x400).bind fun r443 => (bif r443 then some x398 else ((slices_ContainsFunc_Place F p0_g.Places (fun x0 => impl_firingOrder_c1 F x0 x400 xs227)).bind fun r446 => (bif (!r446) then some x400 else some x398)))) : Option (Int)) fun x440 => (impl_firingOrder_L5 F p0_g xs227 n427 x440 (IntKind.i64.wrap (x400 + 1)))) else some x398))

def impl_firingOrder_L4 (F : Nat) (p0_g : GEventGraph) : Nat → (List Int) → Option (Sum (List Int × Bool) (List Int))
  | 0, _ => none
  | n348 + 1, xs227 => (bif (decide ((xs227.length : Int) < p0_g.Events)) then (Option.bind (impl_firingOrder_L5 F p0_g xs227 F (-1) 0) fun x423 => (bif (decide (x423 < 0)) then some (Sum.inl (([] : List Int), false)) else ((app xs227 ([x423])).bind fun xs456 => (impl_firingOrder_L4 F p0_g n348 xs456)))) else some (Sum.inr xs227))

def impl_firingOrder (F : Nat) (p0_g : GEventGraph) : Option (List Int × Bool) :=
  (Option.bind (impl_firingOrder_L4 F p0_g F []) fun r345 => match r345 with | .inl x_ => some x_ | .inr xs340 => some (xs340, true))

def impl_isLive (F : Nat) (p0_g : GEventGraph) : Option (Bool) :=
  ((impl_firingOrder F p0_g).bind fun r2 => some r2.2)

def impl_tokenDistances_L1 (F : Nat) (xs4 : List Int) : Nat → (List Int) → Int → Option (List Int)
  | 0, _, _ => none
  | n31 + 1, xs18, x20 => (bif (decide (x20 < (xs4.length : Int))) then ((idx xs18 x20).bind fun _q33 => ((upd xs18 x20 (-1)).bind fun xs35 => (impl_tokenDistances_L1 F xs4 n31 xs35 (IntKind.i64.wrap (x20 + 1))))) else some xs18)

def impl_tokenDistances_L6 (F : Nat) (p0 : GEventGraph) : Nat → (List Int) → Bool → Int → Option ((List Int) × Bool)
  | 0, _, _, _ => none
  | n985 + 1, xs917, b919, x920 => (bif (decide (x920 < (p0.Places.length : Int))) then (Option.bind (((idx p0.Places x920).bind fun q1018 => ((idx xs917 q1018.From).bind fun q1021 => (bif (decide (q1021 < 0)) then some (xs917, b919) else ((idx xs917 q1018.From).bind fun q1024 => (Option.bind (((idx xs917 q1018.To).bind fun q1034 => (bif (decide (q1034 < 0)) then some true else ((idx xs917 q1018.To).bind fun q1037 => some (decide ((IntKind.i64.wrap (q1024 + q1018.Tokens)) < q1037))))) : Option (Bool)) fun b1031 => (bif b1031 then ((idx xs917 q1018.To).bind fun _q1040 => ((upd xs917 q1018.To (IntKind.i64.wrap (q1024 + q1018.Tokens))).bind fun xs1042 => some (xs1042, true))) else some (xs917, b919))))))) : Option ((List Int) × Bool)) fun (xs1013, b1015) => (impl_tokenDistances_L6 F p0 n985 xs1013 b1015 (IntKind.i64.wrap (x920 + 1)))) else some (xs917, b919))

def impl_tokenDistances_L5 (F : Nat) (p0 : GEventGraph) : Nat → (List Int) → Bool → Option (List Int)
  | 0, _, _ => none
  | n795 + 1, xs539, b541 => (bif b541 then (Option.bind (impl_tokenDistances_L6 F p0 F xs539 false 0) fun (xs979, b981) => (impl_tokenDistances_L5 F p0 n795 xs979 b981)) else some xs539)

def impl_tokenDistances (F : Nat) (p0 : GEventGraph) (p1 : Int) : Option (List Int) :=
  ((mk p0.Events (0 : Int)).bind fun xs4 => (Option.bind (impl_tokenDistances_L1 F xs4 F xs4 0) fun xs26 => ((idx xs26 p1).bind fun _q37 => ((upd xs26 p1 0).bind fun xs39 => (Option.bind (impl_tokenDistances_L5 F p0 F xs39 true) fun xs790 => some xs790)))))

def impl_hasCircuit_c1 (F : Nat) (p0_p : GPlace) (z0 : GEventGraph) : Option (Bool) :=
  ((impl_tokenDistances F z0 p0_p.To).bind fun r10 => ((idx r10 p0_p.From).bind fun q16 => some (decide (0 ≤ q16))))

def impl_hasCircuit (F : Nat) (p0_g : GEventGraph) : Option (Bool) :=
  ((slices_ContainsFunc_Place F p0_g.Places (fun x0 => impl_hasCircuit_c1 F x0 p0_g)).bind fun r2 => some r2)

def impl_placeWeight (_F : Nat) (p0_p : GPlace) (p1_r : GRatio) : Option (Int) :=
  some (IntKind.i64.wrap ((IntKind.i64.wrap (p1_r.Den * p0_p.Delay)) - (IntKind.i64.wrap (p1_r.Num * p0_p.Tokens))))

def slices_Reverse_int64_L1 (F : Nat) : Nat → (List Int) → Int → Int → Option (List Int)
  | 0, _, _, _ => none
  | n53 + 1, xs31, x33, x34 => (bif (decide (x33 < x34)) then ((idx xs31 x34).bind fun q55 => ((idx xs31 x33).bind fun q57 => ((idx xs31 x33).bind fun _q59 => ((upd xs31 x33 q55).bind fun xs61 => ((idx xs61 x34).bind fun _q63 => ((upd xs61 x34 q57).bind fun xs65 => (slices_Reverse_int64_L1 F n53 xs65 (IntKind.i64.wrap (x33 + 1)) (IntKind.i64.wrap (x34 - 1))))))))) else some xs31)

def slices_Reverse_int64 (F : Nat) (p0_s : List Int) : Option ((Unit) × List Int) :=
  (Option.bind (slices_Reverse_int64_L1 F F p0_s 0 (IntKind.i64.wrap ((p0_s.length : Int) - 1))) fun xs48 => some ((), xs48))

def impl_betterCircuit_L5 (F : Nat) (p0 : GEventGraph) (p1 : GRatio) : Nat → (List Int) → (List Int) → Int → Int → Option ((List Int) × (List Int) × Int)
  | 0, _, _, _, _ => none
  | n523 + 1, xs482, xs484, x486, x487 => (bif (decide (x487 < (p0.Places.length : Int))) then ((idx p0.Places x487).bind fun q525 => ((idx xs482 q525.From).bind fun q528 => ((impl_placeWeight F q525 p1).bind fun r530 => ((idx xs482 q525.To).bind fun q532 => (bif (decide (q532 < (IntKind.i64.wrap (q528 + r530)))) then ((idx xs482 q525.To).bind fun _q543 => ((upd xs482 q525.To (IntKind.i64.wrap (q528 + r530))).bind fun xs545 => ((idx xs484 q525.To).bind fun _q547 => ((upd xs484 q525.To x487).bind fun xs549 => (impl_betterCircuit_L5 F p0 p1 n523 xs545 xs549 q525.To (IntKind.i64.wrap (x487 + 1))))))) else (impl_betterCircuit_L5 F p0 p1 n523 xs482 xs484 x486 (IntKind.i64.wrap (x487 + 1)))))))) else some (xs482, xs484, x486))

def impl_betterCircuit_L4 (F : Nat) (p0 : GEventGraph) (p1 : GRatio) : Nat → (List Int) → (List Int) → Int → Int → Option (Sum (List Int) ((List Int) × Int))
  | 0, _, _, _, _ => none
  | n420 + 1, xs277, xs279, x281, x282 => (bif (decide (x282 < (IntKind.i64.wrap (p0.Events + 1)))) then (Option.bind (impl_betterCircuit_L5 F p0 p1 F xs277 xs279 (-1) 0) fun (xs515, xs517, x519) => (bif (decide (x519 < 0)) then some (Sum.inl ([] : List Int)) else (impl_betterCircuit_L4 F p0 p1 n420 xs515 xs517 x519 (IntKind.i64.wrap (x282 + 1))))) else some (Sum.inr (xs279, x281)))

def impl_betterCircuit_L6 (F : Nat) (p0 : GEventGraph) (xs414 : List Int) : Nat → Int → Int → Option (Int)
  | 0, _, _ => none
  | n576 + 1, x565, x566 => (bif (decide (x566 < p0.Events)) then ((idx xs414 x565).bind fun q578 => ((idx p0.Places q578).bind fun q580 => (impl_betterCircuit_L6 F p0 xs414 n576 q580.From (IntKind.i64.wrap (x566 + 1))))) else some x565)

def impl_betterCircuit_L7 (F : Nat) (p0 : GEventGraph) (xs414 : List Int) (x572 : Int) : Nat → (List Int) → Int → Option (List Int)
  | 0, _, _ => none
  | n644 + 1, xs617, x622 => ((idx xs414 x622).bind fun q645 => ((app xs617 ([q645])).bind fun xs651 => ((idx xs414 x622).bind fun q653 => ((idx p0.Places q653).bind fun q655 => (bif (q655.From == x572) then some xs651 else (impl_betterCircuit_L7 F p0 xs414 x572 n644 xs651 q655.From))))))

def impl_betterCircuit (F : Nat) (p0 : GEventGraph) (p1 : GRatio) : Option (List Int) :=
  ((mk p0.Events (0 : Int)).bind fun xs5 => ((mk p0.Events (0 : Int)).bind fun xs8 => (Option.bind (impl_betterCircuit_L4 F p0 p1 F xs5 xs8 (-1) 0) fun r417 => match r417 with | .inl x_ => some x_ | .inr (xs414, x416) => (Option.bind (impl_betterCircuit_L6 F p0 xs414 F x416 0) fun x572 => (Option.bind (impl_betterCircuit_L7 F p0 xs414 x572 F ([] : List Int) x572) fun xs636 => ((slices_Reverse_int64 F xs636).bind fun r658 => ((nonE r658.2).bind fun _ => some r658.2)))))))

def impl_circuitSums_L1 (F : Nat) (p0_g : GEventGraph) (p1_circuit : List Int) : Nat → Int → Int → Int → Option (Int × Int)
  | 0, _, _, _ => none
  | n34 + 1, x19, x20, x21 => (bif (decide (x21 < (p1_circuit.length : Int))) then ((idx p1_circuit x21).bind fun q36 => ((idx p0_g.Places q36).bind fun q38 => ((idx p0_g.Places q36).bind fun q40 => (impl_circuitSums_L1 F p0_g p1_circuit n34 (IntKind.i64.wrap (x19 + q38.Delay)) (IntKind.i64.wrap (x20 + q40.Tokens)) (IntKind.i64.wrap (x21 + 1)))))) else some (x19, x20))

def impl_circuitSums (F : Nat) (p0_g : GEventGraph) (p1_circuit : List Int) : Option (Int × Int) :=
  (Option.bind (impl_circuitSums_L1 F p0_g p1_circuit F 0 0 0) fun (x29, x30) => some (x29, x30))

def impl_absOf (_F : Nat) (p0_n : Int) : Option (Int) :=
  (bif (decide (p0_n < 0)) then some (IntKind.i64.wrap (0 - p0_n)) else some p0_n)

def impl_divisorOf_L1 (F : Nat) : Nat → Int → Int → Option (Int)
  | 0, _, _ => none
  | n18 + 1, x9, x10 => (bif (decide (0 < x10)) then ((if x10 = 0 then none else some ()).bind fun _u21 => (impl_divisorOf_L1 F n18 x10 (x9.tmod x10))) else some x9)

def impl_divisorOf (F : Nat) (p0_a : Int) (p1_b : Int) : Option (Int) :=
  (Option.bind (impl_divisorOf_L1 F F p0_a p1_b) fun x14 => some x14)

def impl_ratioOf (F : Nat) (p0_num : Int) (p1_den : Int) : Option (GRatio) :=
  (Option.bind ((bif (decide (p1_den < 0)) then some ((IntKind.i64.wrap (0 - p0_num)), (IntKind.i64.wrap (0 - p1_den))) else some (p0_num, p1_den)) : Option (Int × Int)) fun (x3, x4) => ((impl_absOf F x3).bind fun r8 => ((impl_divisorOf F r8 x4).bind fun r10 => ((if r10 = 0 then none else some ()).bind fun _u13 => ((if r10 = 0 then none else some ()).bind fun _u15 => some (GRatio.mk (IntKind.i64.wrap (x3.tdiv r10)) (IntKind.i64.wrap (x4.tdiv r10))))))))

def impl_cycleTime_L1 (F : Nat) (p0_g : GEventGraph) : Nat → Int → Int → (List Int) → Option (Int × Int)
  | 0, _, _, _ => none
  | n74 + 1, x49, x50, xs51 => (bif (!xs51.isEmpty) then ((impl_circuitSums F p0_g xs51).bind fun r76 => ((impl_ratioOf F r76.1 r76.2).bind fun r78 => ((impl_betterCircuit F p0_g r78).bind fun r80 => (impl_cycleTime_L1 F p0_g n74 r78.Num r78.Den r80)))) else some (x49, x50))

def impl_cycleTime (F : Nat) (p0_g : GEventGraph) : Option (GRatio × Int) :=
  ((impl_isLive F p0_g).bind fun r3 => (bif (!r3) then some ((GRatio.mk 0 0), 5) else ((impl_hasCircuit F p0_g).bind fun r6 => (bif (!r6) then some ((GRatio.mk 0 0), 4) else ((impl_betterCircuit F p0_g (GRatio.mk 0 1)).bind fun r10 => (Option.bind (impl_cycleTime_L1 F p0_g F 0 1 r10) fun (x69, x70) => some ((GRatio.mk x69 x70), 0)))))))

def impl_CycleTime (F : Nat) (p0_g : GEventGraph) : Option (GRatio × Int) :=
  ((impl_IsEventGraph F p0_g).bind fun r3 => (bif (!r3) then some ((GRatio.mk 0 0), 1) else ((impl_cycleTime F p0_g).bind fun r6 => some ((GRatio.mk r6.1.Num r6.1.Den), r6.2))))

def laws_FnReversed_L2 (F : Nat) (r46 : GEventGraph × List Int) : Nat → (List Int) → Int → Option (List Int)
  | 0, _, _ => none
  | n229 + 1, xs214, x216 => (bif (decide (x216 < (r46.2.length : Int))) then ((idx r46.2 x216).bind fun q231 => ((idx xs214 q231).bind fun _q233 => ((upd xs214 q231 x216).bind fun xs235 => (laws_FnReversed_L2 F r46 n229 xs235 (IntKind.i64.wrap (x216 + 1)))))) else some xs214)

def laws_FnReversed (F : Nat) (p0 : List Int) : Option (Bool) :=
  ((laws_big F p0).bind fun r1 => (bif r1 then some true else ((spec_DrawReverseGraph F p0).bind fun r4 => ((impl_ReverseGraph F r4).bind fun r11 => ((spec_ReverseGraph F r4).bind fun r18 => ((spec_DrawStretchGraph F p0).bind fun r25 => ((impl_StretchGraph F (GEventGraph.mk r25.1.Events r25.1.Places) r25.2).bind fun r32 => ((spec_StretchGraph F (GEventGraph.mk r25.1.Events r25.1.Places) r25.2).bind fun r39 => ((spec_DrawRelabelGraph F p0).bind fun r46 => ((impl_RelabelGraph F (GEventGraph.mk r46.1.Events r46.1.Places) r46.2).bind fun r57 => ((spec_RelabelGraph F (GEventGraph.mk r46.1.Events r46.1.Places) r46.2).bind fun r64 => ((spec_DrawPartOfGraph F p0).bind fun r71 => ((impl_PartOfGraph F (GEventGraph.mk r71.1.Events r71.1.Places) r71.2).bind fun r82 => ((spec_PartOfGraph F (GEventGraph.mk r71.1.Events r71.1.Places) r71.2).bind fun r89 => (Option.bind ((bif (r11.2 != r18.2) then some true else ((laws_likeGraphs9 F (GEventGraph.mk r11.1.Events r11.1.Places) (GEventGraph.mk r18.1.Events r18.1.Places)).bind fun r115 => (bif (!r115) then some true else (bif (r32.2 != r39.2) then some true else ((laws_likeGraphs9 F (GEventGraph.mk r32.1.Events r32.1.Places) (GEventGraph.mk r39.1.Events r39.1.Places)).bind fun r119 => (bif (!r119) then some true else (bif (r57.2 != r64.2) then some true else ((laws_likeGraphs9 F (GEventGraph.mk r57.1.Events r57.1.Places) (GEventGraph.mk r64.1.Events r64.1.Places)).bind fun r123 => (bif (!r123) then some true else (bif (r82.2 != r89.2) then some true else ((laws_likeGraphs9 F (GEventGraph.mk r82.1.Events r82.1.Places) (GEventGraph.mk r89.1.Events r89.1.Places)).bind fun r127 => some (!r127)))))))))))) : Option (Bool)) fun b111 => (bif b111 then some false else (Option.bind ((bif (r57.2 == 0) then ((mk (r46.2.length : Int) (0 : Int)).bind fun xs196 => (Option.bind (laws_FnReversed_L2 F r46 F xs196 0) fun xs224 => ((impl_RelabelGraph F (GEventGraph.mk r57.1.Events r57.1.Places) xs224).bind fun r237 => (Option.bind ((bif (r237.2 != 0) then some true else ((laws_likeGraphs9 F (GEventGraph.mk r237.1.Events r237.1.Places) (GEventGraph.mk r46.1.Events r46.1.Places)).bind fun r251 => some (!r251))) : Option (Bool)) fun b247 => (bif b247 then some (Sum.inl false) else some (Sum.inr ())))))) else some (Sum.inr ())) : Option (Sum Bool (Unit))) fun r191 => match r191 with | .inl x_ => some x_ | .inr _ => (Option.bind ((bif (r32.2 == 0) then some (decide ((r25.1.Places.length : Int) < 16)) else some false) : Option (Bool)) fun b255 => (Option.bind ((bif b255 then ((impl_CycleTime F (GEventGraph.mk r25.1.Events r25.1.Places)).bind fun r277 => ((impl_CycleTime F (GEventGraph.mk r32.1.Events r32.1.Places)).bind fun r280 => (Option.bind ((bif (r277.2 != r280.2) then some true else (bif (r277.2 == 0) then some ((IntKind.i64.wrap (r280.1.Num * r277.1.Den)) != (IntKind.i64.wrap ((IntKind.i64.wrap (r25.2 * r277.1.Num)) * r280.1.Den))) else some false)) : Option (Bool)) fun b285 => (bif b285 then some (Sum.inl false) else some (Sum.inr ()))))) else some (Sum.inr ())) : Option (Sum Bool (Unit))) fun r274 => match r274 with | .inl x_ => some x_ | .inr _ => (Option.bind ((bif (r11.2 != 0) then some true else some (decide (16 < (r4.Places.length : Int)))) : Option (Bool)) fun b292 => (bif b292 then some true else ((impl_CycleTime F r4).bind fun r297 => ((impl_CycleTime F (GEventGraph.mk r11.1.Events r11.1.Places)).bind fun r300 => (Option.bind ((bif (r297.2 == r300.2) then some (r297.1.Num == r300.1.Num && (r297.1.Den == r300.1.Den)) else some false) : Option (Bool)) fun b304 => some b304))))))))))))))))))))))))

end Go.Proofs.Ytgkgimglgjfcjaa
