/- Plain models of the functions. -/
import Derived.Test.YtgkgimglgjfcjaaLiftP
namespace Go.Proofs.Ytgkgimglgjfcjaa

structure GPlace where
  From : Int
  To : Int
  Delay : Int
  Tokens : Int

structure GEventGraph where
  Events : Int
  Places : List GPlace

def laws_big (_F : Nat) (p0_code : List Int) : Option (Bool) :=
  some (decide (4096 < (p0_code.length : Int)))

def spec_l01From_L1 (F : Nat) (p0_code : List Int) : Nat → Int → Int → Option (Int)
  | 0, _, _ => none
  | n34 + 1, x20, x21 => (Option.bind ((bif (decide (x21 < (p0_code.length : Int))) then some (decide (x21 < 64)) else some false) : Option (Bool)) fun b36 => (bif b36 then ((idx p0_code x21).bind fun q41 => (spec_l01From_L1 F p0_code n34 ((IntKind.i64.wrap ((IntKind.i64.wrap (x20 * 67)) + (IntKind.i64.wrap q41))).tmod 2147483647) (IntKind.i64.wrap (x21 + 1)))) else some x20))

def spec_l01From (F : Nat) (p0_code : List Int) : Option ((Int × Int)) :=
  (Option.bind (spec_l01From_L1 F p0_code F 61403 0) fun x30 => some (0, x30))

def spec_l01Next (_F : Nat) (p0_code : List Int) (p0_at : Int) (p0_seed : Int) (p1 : Int) : Option ((Int) × Int × Int) :=
  (bif (decide (p1 ≤ 1)) then some (0, p0_at, p0_seed) else (Option.bind ((bif (decide (p0_at < (p0_code.length : Int))) then ((idx p0_code p0_at).bind fun q18 => (Option.bind ((bif (decide (p1 ≤ 256)) then some (((IntKind.i64.wrap (p0_at + 1)).tmod 2) == 0) else some false) : Option (Bool)) fun b21 => (bif b21 then ((idx p0_code (IntKind.i64.wrap ((IntKind.i64.wrap (p0_at + 1)) - 1))).bind fun q26 => some ((IntKind.i64.wrap (p0_at + 1)), (IntKind.i64.wrap q26))) else some ((IntKind.i64.wrap (p0_at + 1)), (IntKind.i64.wrap ((IntKind.i64.wrap (((IntKind.i64.wrap ((IntKind.i64.wrap (p0_seed * 48271)) + 59)).tmod 2147483647).tdiv 31)) + (IntKind.i64.wrap q18))))))) else some (p0_at, (IntKind.i64.wrap (((IntKind.i64.wrap ((IntKind.i64.wrap (p0_seed * 48271)) + 59)).tmod 2147483647).tdiv 31)))) : Option (Int × Int)) fun (x13, x14) => ((if p1 = 0 then none else some ()).bind fun _u29 => some ((x14.tmod p1), x13, ((IntKind.i64.wrap ((IntKind.i64.wrap (p0_seed * 48271)) + 59)).tmod 2147483647)))))

def spec_l01Pick (F : Nat) (p0_s_code : List Int) (p0_s_at : Int) (p0_s_seed : Int) (p1_list : List Int) : Option ((Int) × Int × Int) :=
  ((spec_l01Next F p0_s_code p0_s_at p0_s_seed (p1_list.length : Int)).bind fun r1 => ((idx p1_list r1.1).bind fun q3 => some (q3, r1.2.1, r1.2.2)))

def spec_l11Draw_L1 (F : Nat) (p0_code : List Int) (r2 : (Int) × Int × Int) : Nat → Int → Int → (List GPlace) → Int → Option (Int × Int × (List GPlace))
  | 0, _, _, _, _ => none
  | n353 + 1, x229, x230, xs231, x236 => (bif (decide (0 < x236)) then (Option.bind (((spec_l01Next F p0_code x229 x230 (IntKind.i64.wrap (1 + r2.1))).bind fun r399 => ((spec_l01Next F p0_code r399.2.1 r399.2.2 (IntKind.i64.wrap (1 + r2.1))).bind fun r401 => ((spec_l01Next F p0_code r401.2.1 r401.2.2 12).bind fun r403 => some (r403.2.1, r403.2.2, r399.1, r401.1, r403.1)))) : Option (Int × Int × Int × Int × Int)) fun (x384, x385, x387, x388, x389) => (Option.bind ((bif (decide (x388 ≤ x387)) then some (x384, x385, true) else ((spec_l01Next F p0_code x384 x385 4).bind fun r430 => some (r430.2.1, r430.2.2, (r430.1 == 0)))) : Option (Int × Int × Bool)) fun (x424, x425, b426) => (Option.bind ((bif b426 then ((spec_l01Next F p0_code x424 x425 2).bind fun r443 => ((spec_l01Next F p0_code r443.2.1 r443.2.2 3).bind fun r445 => some (r445.2.1, r445.2.2, (IntKind.i64.wrap (1 + (IntKind.i64.wrap (r443.1 * r445.1))))))) else some (x424, x425, 0)) : Option (Int × Int × Int)) fun (x437, x438, x439) => ((spec_l01Next F p0_code x437 x438 30).bind fun r447 => (Option.bind ((bif (r447.1 == 0) then some 0 else some x439) : Option (Int)) fun x450 => ((app xs231 ([(GPlace.mk x387 x388 x389 x450)])).bind fun xs458 => (spec_l11Draw_L1 F p0_code r2 n353 r447.2.1 r447.2.2 xs458 (IntKind.i64.wrap (x236 - 1))))))))) else some (x229, x230, xs231))

def spec_l11Draw_L2 (F : Nat) (p0_code : List Int) : Nat → Int → Int → (List GPlace) → Int → Option (Int × Int × (List GPlace))
  | 0, _, _, _, _ => none
  | n660 + 1, x633, x634, xs635, x640 => ((spec_l01Next F p0_code x633 x634 9).bind fun r661 => (bif (decide (x640 < (IntKind.i64.wrap (22 + r661.1)))) then ((app xs635 ([(GPlace.mk 0 0 x640 1)])).bind fun xs668 => (spec_l11Draw_L2 F p0_code n660 r661.2.1 r661.2.2 xs668 (IntKind.i64.wrap (x640 + 1)))) else some (r661.2.1, r661.2.2, xs635)))

def spec_l11Draw (F : Nat) (p0_code : List Int) (p0_at : Int) (p0_seed : Int) : Option ((GEventGraph) × Int × Int) :=
  ((spec_l01Next F p0_code p0_at p0_seed 5).bind fun r2 => ((spec_l01Next F p0_code r2.2.1 r2.2.2 9).bind fun r7 => (Option.bind (spec_l11Draw_L1 F p0_code r2 F r7.2.1 r7.2.2 ([] : List GPlace) r7.1) fun (x343, x344, xs345) => ((spec_l01Next F p0_code x343 x344 60).bind fun r460 => (bif (r460.1 == 0) then ((spec_l01Pick F p0_code r460.2.1 r460.2.2 ([0, 10, 11])).bind fun r465 => some ((GEventGraph.mk r465.1 xs345), r465.2.1, r465.2.2)) else (bif (r460.1 == 1) then (Option.bind (((spec_l01Pick F p0_code r460.2.1 r460.2.2 ([(-1), 0, (IntKind.i64.wrap (1 + r2.1))])).bind fun r547 => ((spec_l01Pick F p0_code r547.2.1 r547.2.2 ([(-1), 1000, 1001])).bind fun r551 => ((app xs345 ([(GPlace.mk r547.1 0 r551.1 1)])).bind fun xs557 => some (r551.2.1, r551.2.2, xs557)))) : Option (Int × Int × (List GPlace))) fun (x522, x523, xs524) => some ((GEventGraph.mk (IntKind.i64.wrap (1 + r2.1)) xs524), x522, x523)) else (bif (r460.1 == 2) then ((spec_l01Pick F p0_code r460.2.1 r460.2.2 ([5, 6, (-1)])).bind fun r598 => ((app xs345 ([(GPlace.mk 0 0 0 r598.1)])).bind fun xs604 => some ((GEventGraph.mk (IntKind.i64.wrap (1 + r2.1)) xs604), r598.2.1, r598.2.2))) else (bif (r460.1 == 3) then (Option.bind (spec_l11Draw_L2 F p0_code F r460.2.1 r460.2.2 xs345 0) fun (x650, x651, xs652) => some ((GEventGraph.mk (IntKind.i64.wrap (1 + r2.1)) xs652), x650, x651)) else some ((GEventGraph.mk (IntKind.i64.wrap (1 + r2.1)) xs345), r460.2.1, r460.2.2)))))))))

def spec_DrawJoinGraphs (F : Nat) (p0_code : List Int) : Option (GEventGraph × GEventGraph) :=
  ((spec_l01From F p0_code).bind fun r3 => ((spec_l11Draw F p0_code r3.1 r3.2).bind fun r6 => ((spec_l11Draw F p0_code r6.2.1 r6.2.2).bind fun r12 => some ((GEventGraph.mk r6.1.Events r6.1.Places), (GEventGraph.mk r12.1.Events r12.1.Places)))))

def impl_within (_F : Nat) (p0_n : Int) (p1_low : Int) (p2_high : Int) : Option (Bool) :=
  (Option.bind ((bif (decide (p1_low ≤ p0_n)) then some (decide (p0_n ≤ p2_high)) else some false) : Option (Bool)) fun b2 => some b2)

def impl_isEvent (F : Nat) (p0_g : GEventGraph) (p1_event : Int) : Option (Bool) :=
  ((impl_within F p1_event 0 (IntKind.i64.wrap (p0_g.Events - 1))).bind fun r2 => some r2)

def impl_isPlace (F : Nat) (p0_g : GEventGraph) (p1_p : GPlace) : Option (Bool) :=
  (Option.bind (((impl_isEvent F p0_g p1_p.From).bind fun r17 => (bif r17 then ((impl_isEvent F p0_g p1_p.To).bind fun r20 => (bif r20 then ((impl_within F p1_p.Delay 0 1000).bind fun r23 => (bif r23 then ((impl_within F p1_p.Tokens 0 5).bind fun r26 => some r26) else some false)) else some false)) else some false)) : Option (Bool)) fun b14 => some b14)

def impl_IsEventGraph_c1 (F : Nat) (p0_p : GPlace) (z0 : GEventGraph) : Option (Bool) :=
  ((impl_isPlace F z0 p0_p).bind fun r2 => some (!r2))

def slices_IndexFunc_Place_L1 (F : Nat) (p0_s : List GPlace) (m_p1_f : GPlace → Option Bool) : Nat → Int → Option (Sum Int (Unit))
  | 0, _ => none
  | n24 + 1, x14 => (bif (decide (x14 < (p0_s.length : Int))) then ((idx p0_s x14).bind fun q26 => ((m_p1_f q26).bind fun r28 => (bif r28 then some (Sum.inl x14) else (slices_IndexFunc_Place_L1 F p0_s m_p1_f n24 (IntKind.i64.wrap (x14 + 1)))))) else some (Sum.inr ()))

def slices_IndexFunc_Place (F : Nat) (p0_s : List GPlace) (m_p1_f : GPlace → Option Bool) : Option (Int) :=
  (Option.bind (slices_IndexFunc_Place_L1 F p0_s m_p1_f F 0) fun r21 => match r21 with | .inl x_ => some x_ | .inr _ => some (-1))

def slices_ContainsFunc_Place (F : Nat) (p0_s : List GPlace) (m_p1_f : GPlace → Option Bool) : Option (Bool) :=
  ((slices_IndexFunc_Place F p0_s m_p1_f).bind fun r1 => some (decide (0 ≤ r1)))

def impl_IsEventGraph (F : Nat) (p0_g : GEventGraph) : Option (Bool) :=
  (Option.bind (((impl_within F p0_g.Events 1 10).bind fun r11 => (bif r11 then (bif (decide ((p0_g.Places.length : Int) ≤ 30)) then ((slices_ContainsFunc_Place F p0_g.Places (fun x0 => impl_IsEventGraph_c1 F x0 p0_g)).bind fun r15 => some (!r15)) else some false) else some false)) : Option (Bool)) fun b8 => some b8)

def slices_Clone_Place (_F : Nat) (p0_s : List GPlace) : Option (List GPlace) :=
  ((app ([] : List GPlace) p0_s).bind fun xs5 => some xs5)

def impl_cloneGraph (F : Nat) (p0_g : GEventGraph) : Option (GEventGraph) :=
  ((slices_Clone_Place F p0_g.Places).bind fun r9 => some (GEventGraph.mk p0_g.Events r9))

def impl_checkedGraph (F : Nat) (p0_g : GEventGraph) : Option (GEventGraph × Int) :=
  ((impl_IsEventGraph F p0_g).bind fun r3 => (bif (!r3) then some ((GEventGraph.mk 0 []), 3) else some (p0_g, 0)))

def impl_JoinGraphs_L1 (F : Nat) (p0_g : GEventGraph) (p1_h : GEventGraph) : Nat → (List GPlace) → Int → Option (List GPlace)
  | 0, _, _ => none
  | n76 + 1, xs52, x57 => (bif (decide (x57 < (p1_h.Places.length : Int))) then ((idx p1_h.Places x57).bind fun q78 => ((app xs52 ([(GPlace.mk (IntKind.i64.wrap (q78.From + p0_g.Events)) (IntKind.i64.wrap (q78.To + p0_g.Events)) q78.Delay q78.Tokens)])).bind fun xs85 => (impl_JoinGraphs_L1 F p0_g p1_h n76 xs85 (IntKind.i64.wrap (x57 + 1))))) else some xs52)

def impl_JoinGraphs (F : Nat) (p0_g : GEventGraph) (p1_h : GEventGraph) : Option (GEventGraph × Int) :=
  (Option.bind (((impl_IsEventGraph F p0_g).bind fun r12 => (bif (!r12) then some true else ((impl_IsEventGraph F p1_h).bind fun r15 => some (!r15)))) : Option (Bool)) fun b9 => (bif b9 then some ((GEventGraph.mk 0 []), 1) else ((impl_cloneGraph F p0_g).bind fun r19 => (Option.bind (impl_JoinGraphs_L1 F p0_g p1_h F r19.Places 0) fun xs68 => ((impl_checkedGraph F (GEventGraph.mk (IntKind.i64.wrap (r19.Events + p1_h.Events)) xs68)).bind fun r87 => some ((GEventGraph.mk r87.1.Events r87.1.Places), r87.2))))))

def spec_l01In (_F : Nat) (p0_n : Int) (p1_low : Int) (p2_high : Int) : Option (Bool) :=
  (Option.bind ((bif (decide (p1_low ≤ p0_n)) then some (decide (p0_n ≤ p2_high)) else some false) : Option (Bool)) fun b2 => some b2)

def spec_l11Place (F : Nat) (p0_p : GPlace) (p1_events : Int) : Option (Bool) :=
  (Option.bind (((spec_l01In F p0_p.From 0 (IntKind.i64.wrap (p1_events - 1))).bind fun r16 => (bif r16 then ((spec_l01In F p0_p.To 0 (IntKind.i64.wrap (p1_events - 1))).bind fun r19 => (bif r19 then ((spec_l01In F p0_p.Delay 0 1000).bind fun r22 => (bif r22 then ((spec_l01In F p0_p.Tokens 0 5).bind fun r25 => some r25) else some false)) else some false)) else some false)) : Option (Bool)) fun b13 => some b13)

def spec_IsEventGraph_L1 (F : Nat) (p0_g : GEventGraph) : Nat → Int → Option (Sum Bool (Unit))
  | 0, _ => none
  | n25 + 1, x15 => (bif (decide (x15 < (p0_g.Places.length : Int))) then ((idx p0_g.Places x15).bind fun q27 => ((spec_l11Place F q27 p0_g.Events).bind fun r29 => (bif (!r29) then some (Sum.inl false) else (spec_IsEventGraph_L1 F p0_g n25 (IntKind.i64.wrap (x15 + 1)))))) else some (Sum.inr ()))

def spec_IsEventGraph (F : Nat) (p0_g : GEventGraph) : Option (Bool) :=
  (Option.bind (spec_IsEventGraph_L1 F p0_g F 0) fun r22 => match r22 with | .inl x_ => some x_ | .inr _ => (Option.bind (((spec_l01In F p0_g.Events 1 10).bind fun r38 => (bif r38 then some (decide ((p0_g.Places.length : Int) ≤ 30)) else some false)) : Option (Bool)) fun b35 => some b35))

def spec_l11Own (_F : Nat) (p0_g : GEventGraph) : Option (GEventGraph) :=
  ((app ([] : List GPlace) p0_g.Places).bind fun xs13 => some (GEventGraph.mk p0_g.Events xs13))

def spec_l19Result (F : Nat) (p0_g : GEventGraph) : Option (GEventGraph × Int) :=
  ((spec_IsEventGraph F p0_g).bind fun r3 => (bif (!r3) then some ((GEventGraph.mk 0 []), 3) else some (p0_g, 0)))

def spec_JoinGraphs_L1 (F : Nat) (p0_g : GEventGraph) (p1_h : GEventGraph) : Nat → (List GPlace) → Int → Option (List GPlace)
  | 0, _, _ => none
  | n76 + 1, xs52, x57 => (bif (decide (x57 < (p1_h.Places.length : Int))) then ((idx p1_h.Places x57).bind fun q78 => ((app xs52 ([(GPlace.mk (IntKind.i64.wrap (q78.From + p0_g.Events)) (IntKind.i64.wrap (q78.To + p0_g.Events)) q78.Delay q78.Tokens)])).bind fun xs85 => (spec_JoinGraphs_L1 F p0_g p1_h n76 xs85 (IntKind.i64.wrap (x57 + 1))))) else some xs52)

def spec_JoinGraphs (F : Nat) (p0_g : GEventGraph) (p1_h : GEventGraph) : Option (GEventGraph × Int) :=
  (Option.bind (((spec_IsEventGraph F p0_g).bind fun r12 => (bif (!r12) then some true else ((spec_IsEventGraph F p1_h).bind fun r15 => some (!r15)))) : Option (Bool)) fun b9 => (bif b9 then some ((GEventGraph.mk 0 []), 1) else ((spec_l11Own F p0_g).bind fun r19 => (Option.bind (spec_JoinGraphs_L1 F p0_g p1_h F r19.Places 0) fun xs68 => ((spec_l19Result F (GEventGraph.mk (IntKind.i64.wrap (p0_g.Events + p1_h.Events)) xs68)).bind fun r87 => some ((GEventGraph.mk r87.1.Events r87.1.Places), r87.2))))))

def spec_l11DrawIndex (F : Nat) (p0_s_code : List Int) (p0_s_at : Int) (p0_s_seed : Int) : Option ((GEventGraph × Int) × Int × Int) :=
  ((spec_l11Draw F p0_s_code p0_s_at p0_s_seed).bind fun r2 => ((spec_l01Next F p0_s_code r2.2.1 r2.2.2 20).bind fun r9 => (bif (r9.1 == 0) then ((spec_l01Pick F p0_s_code r9.2.1 r9.2.2 ([(-1), (r2.1.Places.length : Int)])).bind fun r18 => some (((GEventGraph.mk r2.1.Events r2.1.Places), r18.1), r18.2.1, r18.2.2)) else ((spec_l01Next F p0_s_code r9.2.1 r9.2.2 (r2.1.Places.length : Int)).bind fun r22 => some (((GEventGraph.mk r2.1.Events r2.1.Places), r22.1), r22.2.1, r22.2.2)))))

def spec_DrawSplitPlace (F : Nat) (p0_code : List Int) : Option (GEventGraph × Int × Int) :=
  ((spec_l01From F p0_code).bind fun r2 => ((spec_l11DrawIndex F p0_code r2.1 r2.2).bind fun r5 => ((spec_l01Next F p0_code r5.2.1 r5.2.2 14).bind fun r16 => ((spec_l01Next F p0_code r16.2.1 r16.2.2 20).bind fun r18 => some ((GEventGraph.mk r5.1.1.Events r5.1.1.Places), r5.1.2, (IntKind.i64.wrap (r16.1 - (IntKind.i64.wrap (r18.1.tdiv 19)))))))))

def impl_SplitPlace (F : Nat) (p0 : GEventGraph) (p1 : Int) (p2 : Int) : Option (GEventGraph × Int) :=
  ((impl_IsEventGraph F p0).bind fun r3 => (bif (!r3) then some ((GEventGraph.mk 0 []), 1) else (Option.bind (((impl_within F p1 0 (IntKind.i64.wrap ((p0.Places.length : Int) - 1))).bind fun r17 => (bif (!r17) then some true else ((idx p0.Places p1).bind fun q20 => ((impl_within F p2 0 q20.Delay).bind fun r22 => some (!r22))))) : Option (Bool)) fun b14 => (bif b14 then some ((GEventGraph.mk 0 []), 2) else ((impl_cloneGraph F p0).bind fun r26 => ((idx p0.Places p1).bind fun q33 => ((idx r26.Places p1).bind fun _q36 => ((upd r26.Places p1 (GPlace.mk q33.From p0.Events p2 0)).bind fun xs38 => ((app xs38 ([(GPlace.mk p0.Events q33.To (IntKind.i64.wrap (q33.Delay - p2)) q33.Tokens)])).bind fun xs44 => ((impl_checkedGraph F (GEventGraph.mk (IntKind.i64.wrap (r26.Events + 1)) xs44)).bind fun r46 => some ((GEventGraph.mk r46.1.Events r46.1.Places), r46.2)))))))))))

def spec_l11Index (F : Nat) (p0_g : GEventGraph) (p1_i : Int) : Option (Int) :=
  ((spec_IsEventGraph F p0_g).bind fun r2 => (bif (!r2) then some 1 else ((spec_l01In F p1_i 0 (IntKind.i64.wrap ((p0_g.Places.length : Int) - 1))).bind fun r5 => (bif (!r5) then some 2 else some 0))))

def spec_SplitPlace (F : Nat) (p0 : GEventGraph) (p1 : Int) (p2 : Int) : Option (GEventGraph × Int) :=
  ((spec_l11Index F p0 p1).bind fun r3 => (Option.bind ((bif (r3 == 0) then ((idx p0.Places p1).bind fun q14 => ((spec_l01In F p2 0 q14.Delay).bind fun r16 => some (!r16))) else some false) : Option (Bool)) fun b10 => (Option.bind ((bif b10 then some 2 else some r3) : Option (Int)) fun x19 => (bif (x19 != 0) then some ((GEventGraph.mk 0 []), x19) else ((spec_l11Own F p0).bind fun r25 => ((idx p0.Places p1).bind fun q32 => ((idx r25.Places p1).bind fun _q35 => ((upd r25.Places p1 (GPlace.mk q32.From p0.Events p2 0)).bind fun xs37 => ((app xs37 ([(GPlace.mk p0.Events q32.To (IntKind.i64.wrap (q32.Delay - p2)) q32.Tokens)])).bind fun xs43 => ((spec_l19Result F (GEventGraph.mk (IntKind.i64.wrap (p0.Events + 1)) xs43)).bind fun r45 => some ((GEventGraph.mk r45.1.Events r45.1.Places), r45.2)))))))))))

def spec_l11DrawEvent (F : Nat) (p0_s_code : List Int) (p0_s_at : Int) (p0_s_seed : Int) : Option ((GEventGraph × Int) × Int × Int) :=
  ((spec_l11Draw F p0_s_code p0_s_at p0_s_seed).bind fun r2 => ((spec_l01Next F p0_s_code r2.2.1 r2.2.2 20).bind fun r9 => (bif (r9.1 == 0) then ((spec_l01Pick F p0_s_code r9.2.1 r9.2.2 ([(-1), r2.1.Events])).bind fun r18 => some (((GEventGraph.mk r2.1.Events r2.1.Places), r18.1), r18.2.1, r18.2.2)) else ((spec_l01Next F p0_s_code r9.2.1 r9.2.2 r2.1.Events).bind fun r22 => some (((GEventGraph.mk r2.1.Events r2.1.Places), r22.1), r22.2.1, r22.2.2)))))

def spec_DrawMergeEvents (F : Nat) (p0_code : List Int) : Option (GEventGraph × Int × Int) :=
  ((spec_l01From F p0_code).bind fun r2 => ((spec_l11DrawEvent F p0_code r2.1 r2.2).bind fun r5 => ((spec_l01Next F p0_code r5.2.1 r5.2.2 4).bind fun r14 => some ((GEventGraph.mk r5.1.1.Events r5.1.1.Places), r5.1.2, (IntKind.i64.wrap (r5.1.2 + r14.1))))))

def impl_MergeEvents_c1 (_F : Nat) (p0_event : Int) (z0 : Int) (z1 : Int) : Option (Int) :=
  (bif (p0_event == z0) then some z1 else (bif (decide (z0 < p0_event)) then some (IntKind.i64.wrap (p0_event - 1)) else some p0_event))

def impl_mappedGraph_L1 (F : Nat) (p0_g : GEventGraph) (m_p2_become : Int → Option Int) : Nat → (List GPlace) → Int → Option (List GPlace)
  | 0, _, _ => none
  | n100 + 1, xs62, x67 => (bif (decide (x67 < (p0_g.Places.length : Int))) then ((idx p0_g.Places x67).bind fun q102 => ((m_p2_become q102.From).bind fun r115 => ((m_p2_become q102.To).bind fun r117 => ((app xs62 ([(GPlace.mk r115 r117 q102.Delay q102.Tokens)])).bind fun xs123 => (impl_mappedGraph_L1 F p0_g m_p2_become n100 xs123 (IntKind.i64.wrap (x67 + 1))))))) else some xs62)

def impl_mappedGraph (F : Nat) (p0_g : GEventGraph) (p1_events : Int) (m_p2_become : Int → Option Int) : Option (GEventGraph) :=
  (Option.bind (impl_mappedGraph_L1 F p0_g m_p2_become F [] 0) fun xs92 => some (GEventGraph.mk p1_events xs92))

def impl_MergeEvents (F : Nat) (p0_g : GEventGraph) (p1_a : Int) (p2_b : Int) : Option (GEventGraph × Int) :=
  ((impl_IsEventGraph F p0_g).bind fun r5 => (bif (!r5) then some ((GEventGraph.mk 0 []), 1) else (Option.bind (((impl_isEvent F p0_g p1_a).bind fun r18 => (bif (!r18) then some true else ((impl_isEvent F p0_g p2_b).bind fun r21 => (bif (!r21) then some true else some (decide (p2_b ≤ p1_a)))))) : Option (Bool)) fun b15 => (bif b15 then some ((GEventGraph.mk 0 []), 2) else ((impl_mappedGraph F p0_g (IntKind.i64.wrap (p0_g.Events - 1)) (fun x0 => impl_MergeEvents_c1 F x0 p2_b p1_a)).bind fun r26 => some (r26, 0))))))

def spec_l19Map_L1 (F : Nat) (p0_g : GEventGraph) (p2_p : List Int) : Nat → (List GPlace) → Int → Option (List GPlace)
  | 0, _, _ => none
  | n140 + 1, xs88, x93 => (bif (decide (x93 < (p0_g.Places.length : Int))) then ((idx p0_g.Places x93).bind fun q142 => (Option.bind (((idx p2_p q142.From).bind fun q153 => (bif (decide (0 ≤ q153)) then ((idx p2_p q142.To).bind fun q156 => some (decide (0 ≤ q156))) else some false)) : Option (Bool)) fun b150 => (bif b150 then ((idx p2_p q142.From).bind fun q169 => ((idx p2_p q142.To).bind fun q171 => ((app xs88 ([(GPlace.mk q169 q171 q142.Delay q142.Tokens)])).bind fun xs177 => (spec_l19Map_L1 F p0_g p2_p n140 xs177 (IntKind.i64.wrap (x93 + 1)))))) else (spec_l19Map_L1 F p0_g p2_p n140 xs88 (IntKind.i64.wrap (x93 + 1)))))) else some xs88)

def spec_l19Map (F : Nat) (p0_g : GEventGraph) (p1_events : Int) (p2_p : List Int) : Option (GEventGraph) :=
  (Option.bind (spec_l19Map_L1 F p0_g p2_p F ([] : List GPlace) 0) fun xs132 => some (GEventGraph.mk p1_events xs132))

def spec_MergeEvents_L1 (F : Nat) (p0_g : GEventGraph) (p1_a : Int) (p2_b : Int) : Nat → (List Int) → Int → Option (List Int)
  | 0, _, _ => none
  | n101 + 1, xs66, x71 => (bif (decide (x71 < p0_g.Events)) then (bif (x71 == p2_b) then ((app xs66 ([p1_a])).bind fun xs108 => (spec_MergeEvents_L1 F p0_g p1_a p2_b n101 xs108 (IntKind.i64.wrap (x71 + 1)))) else (bif (decide (p2_b < x71)) then ((app xs66 ([(IntKind.i64.wrap (x71 - 1))])).bind fun xs115 => (spec_MergeEvents_L1 F p0_g p1_a p2_b n101 xs115 (IntKind.i64.wrap (x71 + 1)))) else ((app xs66 ([x71])).bind fun xs121 => (spec_MergeEvents_L1 F p0_g p1_a p2_b n101 xs121 (IntKind.i64.wrap (x71 + 1)))))) else some xs66)

def spec_MergeEvents (F : Nat) (p0_g : GEventGraph) (p1_a : Int) (p2_b : Int) : Option (GEventGraph × Int) :=
  ((spec_IsEventGraph F p0_g).bind fun r3 => (bif (!r3) then some ((GEventGraph.mk 0 []), 1) else (Option.bind ((bif (decide (p1_a < 0)) then some true else (bif (decide (p0_g.Events ≤ p2_b)) then some true else some (decide (p2_b ≤ p1_a)))) : Option (Bool)) fun b9 => (bif b9 then some ((GEventGraph.mk 0 []), 2) else (Option.bind (spec_MergeEvents_L1 F p0_g p1_a p2_b F ([] : List Int) 0) fun xs93 => ((spec_l19Map F p0_g (IntKind.i64.wrap (p0_g.Events - 1)) xs93).bind fun r123 => some (r123, 0)))))))

def laws_likeGraphs9_L1 (F : Nat) (p0_a : GEventGraph) (p1_b : GEventGraph) : Nat → Int → Option (Sum Bool (Unit))
  | 0, _ => none
  | n32 + 1, x22 => (bif (decide (x22 < (p0_a.Places.length : Int))) then ((idx p0_a.Places x22).bind fun q34 => ((idx p1_b.Places x22).bind fun q36 => (bif (!(q34.From == q36.From && (q34.To == q36.To && (q34.Delay == q36.Delay && (q34.Tokens == q36.Tokens))))) then some (Sum.inl false) else (laws_likeGraphs9_L1 F p0_a p1_b n32 (IntKind.i64.wrap (x22 + 1)))))) else some (Sum.inr ()))

def laws_likeGraphs9 (F : Nat) (p0_a : GEventGraph) (p1_b : GEventGraph) : Option (Bool) :=
  (Option.bind ((bif (p0_a.Events != p1_b.Events) then some true else some ((p0_a.Places.length : Int) != (p1_b.Places.length : Int))) : Option (Bool)) fun b4 => (bif b4 then some false else (Option.bind (laws_likeGraphs9_L1 F p0_a p1_b F 0) fun r29 => match r29 with | .inl x_ => some x_ | .inr _ => some true)))

def slices_Index_int64_L1 (F : Nat) (p0_s : List Int) (p1_v : Int) : Nat → Int → Option (Sum Int (Unit))
  | 0, _ => none
  | n18 + 1, x10 => (bif (decide (x10 < (p0_s.length : Int))) then ((idx p0_s x10).bind fun q20 => (bif (p1_v == q20) then some (Sum.inl x10) else (slices_Index_int64_L1 F p0_s p1_v n18 (IntKind.i64.wrap (x10 + 1))))) else some (Sum.inr ()))

def slices_Index_int64 (F : Nat) (p0_s : List Int) (p1_v : Int) : Option (Int) :=
  (Option.bind (slices_Index_int64_L1 F p0_s p1_v F 0) fun r15 => match r15 with | .inl x_ => some x_ | .inr _ => some (-1))

def slices_Contains_int64 (F : Nat) (p0_s : List Int) (p1_v : Int) : Option (Bool) :=
  ((slices_Index_int64 F p0_s p1_v).bind fun r1 => some (decide (0 ≤ r1)))

def impl_firingOrder_c1 (F : Nat) (p0_p : GPlace) (z0 : Int) (z1 : List Int) : Option (Bool) :=
  (Option.bind ((bif (p0_p.To == z0) then (bif (p0_p.Tokens == 0) then ((slices_Contains_int64 F z1 p0_p.From).bind fun r11 => some (!r11)) else some false) else some false) : Option (Bool)) fun b6 => some b6)

def impl_firingOrder_L5 (F : Nat) (p0_g : GEventGraph) (xs227 : List Int) : Nat → Int → Int → Option (Int)
  | 0, _, _ => none
  | n427 + 1, x398, x400 => (Option.bind ((bif (decide (x400 < p0_g.Events)) then some (decide (x398 < 0)) else some false) : Option (Bool)) fun b429 => (bif b429 then (Option.bind (((slices_Contains_int64 F xs227 x400).bind fun r443 => (bif r443 then some x398 else ((slices_ContainsFunc_Place F p0_g.Places (fun x0 => impl_firingOrder_c1 F x0 x400 xs227)).bind fun r446 => (bif (!r446) then some x400 else some x398)))) : Option (Int)) fun x440 => (impl_firingOrder_L5 F p0_g xs227 n427 x440 (IntKind.i64.wrap (x400 + 1)))) else some x398))

def impl_firingOrder_L4 (F : Nat) (p0_g : GEventGraph) : Nat → (List Int) → Option (Sum (List Int × Bool) (List Int))
  | 0, _ => none
  | n348 + 1, xs227 => (bif (decide ((xs227.length : Int) < p0_g.Events)) then (Option.bind (impl_firingOrder_L5 F p0_g xs227 F (-1) 0) fun x423 => (bif (decide (x423 < 0)) then some (Sum.inl (([] : List Int), false)) else ((app xs227 ([x423])).bind fun xs456 => (impl_firingOrder_L4 F p0_g n348 xs456)))) else some (Sum.inr xs227))

def impl_firingOrder (F : Nat) (p0_g : GEventGraph) : Option (List Int × Bool) :=
  (Option.bind (impl_firingOrder_L4 F p0_g F []) fun r345 => match r345 with | .inl x_ => some x_ | .inr xs340 => some (xs340, true))

def impl_isLive (F : Nat) (p0_g : GEventGraph) : Option (Bool) :=
  ((impl_firingOrder F p0_g).bind fun r2 => some r2.2)

def impl_checkFirings (F : Nat) (p0_g : GEventGraph) (p1_n : Int) : Option (Int) :=
  ((impl_IsEventGraph F p0_g).bind fun r2 => (bif (!r2) then some 1 else ((impl_within F p1_n 0 50).bind fun r5 => (bif (!r5) then some 2 else ((impl_isLive F p0_g).bind fun r8 => (bif (!r8) then some 5 else some 0))))))

def slices_Clone_int64 (_F : Nat) (p0_s : List Int) : Option (List Int) :=
  ((app ([] : List Int) p0_s).bind fun xs5 => some xs5)

def impl_firingTimes_L21 (F : Nat) (p0 : GEventGraph) (x1382 : Int) (q2589 : Int) : Nat → (List (List Int)) → Int → Option (List (List Int))
  | 0, _, _ => none
  | n2713 + 1, ms2668, x2670 => (bif (decide (x2670 < (p0.Places.length : Int))) then ((idx p0.Places x2670).bind fun q2715 => (Option.bind ((bif (q2715.To == q2589) then some (decide (q2715.Tokens ≤ x1382)) else some false) : Option (Bool)) fun b2719 => (bif b2719 then ((idx ms2668 x1382).bind fun q2724 => ((idx ms2668 x1382).bind fun q2729 => ((idx q2729 q2589).bind fun q2734 => ((idx ms2668 (IntKind.i64.wrap (x1382 - q2715.Tokens))).bind fun q2736 => ((idx q2736 q2715.From).bind fun q2741 => ((idx q2724 q2589).bind fun _q2743 => ((upd q2724 q2589 (max q2734 (IntKind.i64.wrap (q2741 + q2715.Delay)))).bind fun xs2745 => ((upd ms2668 x1382 xs2745).bind fun ms2746 => (impl_firingTimes_L21 F p0 x1382 q2589 n2713 ms2746 (IntKind.i64.wrap (x2670 + 1))))))))))) else (impl_firingTimes_L21 F p0 x1382 q2589 n2713 ms2668 (IntKind.i64.wrap (x2670 + 1)))))) else some ms2668)

def impl_firingTimes_L20 (F : Nat) (p0 : GEventGraph) (r2 : List Int × Bool) (x1382 : Int) : Nat → (List (List Int)) → Int → Option (List (List Int))
  | 0, _, _ => none
  | n2587 + 1, ms2416, x2418 => (bif (decide (x2418 < (r2.1.length : Int))) then ((idx r2.1 x2418).bind fun q2589 => (Option.bind (impl_firingTimes_L21 F p0 x1382 q2589 F ms2416 0) fun ms2708 => (impl_firingTimes_L20 F p0 r2 x1382 n2587 ms2708 (IntKind.i64.wrap (x2418 + 1))))) else some ms2416)

def impl_firingTimes_L16 (F : Nat) (p0 : GEventGraph) (p1 : Int) (p2 : List Int) (r2 : List Int × Bool) : Nat → (List (List Int)) → Int → Option (List (List Int))
  | 0, _, _ => none
  | n2071 + 1, ms1376, x1382 => (bif (decide (x1382 < p1)) then ((slices_Clone_int64 F p2).bind fun r2073 => ((app ms1376 ([r2073])).bind fun ms2083 => (Option.bind (impl_firingTimes_L20 F p0 r2 x1382 F ms2083 0) fun ms2582 => (impl_firingTimes_L16 F p0 p1 p2 r2 n2071 ms2582 (IntKind.i64.wrap (x1382 + 1)))))) else some ms1376)

def impl_firingTimes (F : Nat) (p0 : GEventGraph) (p1 : Int) (p2 : List Int) : Option (List (List Int)) :=
  ((impl_firingOrder F p0).bind fun r2 => (Option.bind (impl_firingTimes_L16 F p0 p1 p2 r2 F ([] : List (List Int)) 0) fun ms2062 => some ms2062))

def impl_FiringTimes (F : Nat) (p0_g : GEventGraph) (p1_n : Int) : Option (List (List Int) × Int) :=
  ((impl_checkFirings F p0_g p1_n).bind fun r2 => (bif (r2 != 0) then some (([] : List (List Int)), r2) else ((mk p0_g.Events (0 : Int)).bind fun xs18 => ((impl_firingTimes F p0_g p1_n xs18).bind fun r19 => some (r19, 0)))))

def laws_likeInts_L1 (F : Nat) (p0_a : List Int) (p1_b : List Int) : Nat → Int → Option (Sum Bool (Unit))
  | 0, _ => none
  | n25 + 1, x15 => (bif (decide (x15 < (p0_a.length : Int))) then ((idx p0_a x15).bind fun q27 => ((idx p1_b x15).bind fun q29 => (bif (q27 != q29) then some (Sum.inl false) else (laws_likeInts_L1 F p0_a p1_b n25 (IntKind.i64.wrap (x15 + 1)))))) else some (Sum.inr ()))

def laws_likeInts (F : Nat) (p0_a : List Int) (p1_b : List Int) : Option (Bool) :=
  (bif ((p0_a.length : Int) != (p1_b.length : Int)) then some false else (Option.bind (laws_likeInts_L1 F p0_a p1_b F 0) fun r22 => match r22 with | .inl x_ => some x_ | .inr _ => some true))

def impl_allWithin_L1 (F : Nat) (p0_list : List Int) (p1_low : Int) (p2_high : Int) : Nat → Int → Option (Sum Bool (Unit))
  | 0, _ => none
  | n24 + 1, x14 => (bif (decide (x14 < (p0_list.length : Int))) then ((idx p0_list x14).bind fun q26 => ((impl_within F q26 p1_low p2_high).bind fun r28 => (bif (!r28) then some (Sum.inl false) else (impl_allWithin_L1 F p0_list p1_low p2_high n24 (IntKind.i64.wrap (x14 + 1)))))) else some (Sum.inr ()))

def impl_allWithin (F : Nat) (p0_list : List Int) (p1_low : Int) (p2_high : Int) : Option (Bool) :=
  (Option.bind (impl_allWithin_L1 F p0_list p1_low p2_high F 0) fun r21 => match r21 with | .inl x_ => some x_ | .inr _ => some true)

def impl_increasing_L1 (F : Nat) (p0_list : List Int) : Nat → Int → Option (Sum Bool (Unit))
  | 0, _ => none
  | n24 + 1, x14 => (bif (decide (x14 < (p0_list.length : Int))) then ((idx p0_list (IntKind.i64.wrap (x14 - 1))).bind fun q26 => ((idx p0_list x14).bind fun q28 => (bif (decide (q28 ≤ q26)) then some (Sum.inl false) else (impl_increasing_L1 F p0_list n24 (IntKind.i64.wrap (x14 + 1)))))) else some (Sum.inr ()))

def impl_increasing (F : Nat) (p0_list : List Int) : Option (Bool) :=
  (Option.bind (impl_increasing_L1 F p0_list F 1) fun r21 => match r21 with | .inl x_ => some x_ | .inr _ => some true)

def impl_PartOfGraph_c1 (F : Nat) (p0_event : Int) (z0 : List Int) : Option (Int) :=
  ((slices_Index_int64 F z0 p0_event).bind fun r1 => some r1)

def slices_DeleteFunc_Place_L1 (F : Nat) (m_p1_del : GPlace → Option Bool) : Nat → (List GPlace) → Int → Int → Option ((List GPlace) × Int)
  | 0, _, _, _ => none
  | n51 + 1, xs30, x32, x33 => (bif (decide (x33 < (xs30.length : Int))) then ((idx xs30 x33).bind fun q53 => ((m_p1_del q53).bind fun r56 => (bif (!r56) then ((idx xs30 x32).bind fun _q59 => ((upd xs30 x32 q53).bind fun xs61 => (slices_DeleteFunc_Place_L1 F m_p1_del n51 xs61 (IntKind.i64.wrap (x32 + 1)) (IntKind.i64.wrap (x33 + 1))))) else (slices_DeleteFunc_Place_L1 F m_p1_del n51 xs30 x32 (IntKind.i64.wrap (x33 + 1)))))) else some (xs30, x32))

def slices_DeleteFunc_Place (F : Nat) (p0_s : List GPlace) (m_p1_del : GPlace → Option Bool) : Option ((List GPlace) × List GPlace) :=
  ((slices_IndexFunc_Place F p0_s m_p1_del).bind fun r1 => (bif (r1 == (-1)) then some (p0_s, p0_s) else (Option.bind (slices_DeleteFunc_Place_L1 F m_p1_del F p0_s r1 (IntKind.i64.wrap (r1 + 1))) fun (xs45, x47) => ((cutFrom xs45 x47).bind fun _xs64 => ((cutTo (clr xs45 x47 (GPlace.mk 0 0 0 0)) x47).bind fun xs66 => some (xs66, (clr xs45 x47 (GPlace.mk 0 0 0 0))))))))

def impl_PartOfGraph_c2 (_F : Nat) (p0_p : GPlace) : Option (Bool) :=
  (Option.bind ((bif (decide (p0_p.From < 0)) then some true else some (decide (p0_p.To < 0))) : Option (Bool)) fun b3 => some b3)

def impl_PartOfGraph (F : Nat) (p0_g : GEventGraph) (p1_events : List Int) : Option (GEventGraph × Int) :=
  ((impl_IsEventGraph F p0_g).bind fun r4 => (bif (!r4) then some ((GEventGraph.mk 0 []), 1) else (Option.bind ((bif ((p1_events.length : Int) == 0) then some true else ((impl_allWithin F p1_events 0 (IntKind.i64.wrap (p0_g.Events - 1))).bind fun r18 => (bif (!r18) then some true else ((impl_increasing F p1_events).bind fun r21 => some (!r21))))) : Option (Bool)) fun b14 => (bif b14 then some ((GEventGraph.mk 0 []), 2) else ((impl_mappedGraph F p0_g (p1_events.length : Int) (fun x0 => impl_PartOfGraph_c1 F x0 p1_events)).bind fun r25 => ((slices_DeleteFunc_Place F r25.Places (fun x0 => impl_PartOfGraph_c2 F x0)).bind fun r32 => some ((GEventGraph.mk r25.Events r32.1), 0)))))))

def laws_FnJoined_L2 (F : Nat) (r30 : GEventGraph × Int × Int) (r206 : List (List Int) × Int) (r213 : List (List Int) × Int) : Nat → Int → Option (Sum Bool (Unit))
  | 0, _ => none
  | n279 + 1, x259 => (bif (decide (x259 < (r206.1.length : Int))) then ((idx r213.1 x259).bind fun q281 => ((cutTo q281 r30.1.Events).bind fun xs287 => ((idx r206.1 x259).bind fun q288 => ((laws_likeInts F xs287 q288).bind fun r293 => (bif (!r293) then some (Sum.inl false) else (laws_FnJoined_L2 F r30 r206 r213 n279 (IntKind.i64.wrap (x259 + 1)))))))) else some (Sum.inr ()))

def laws_FnJoined_L3 (F : Nat) (r4 : GEventGraph × GEventGraph) (r16 : GEventGraph × Int) : Nat → (List Int) → (List Int) → Int → Option ((List Int) × (List Int))
  | 0, _, _, _ => none
  | n378 + 1, xs340, xs345, x350 => (bif (decide (x350 < r16.1.Events)) then (bif (decide (x350 < r4.1.Events)) then ((app xs340 ([x350])).bind fun xs385 => (laws_FnJoined_L3 F r4 r16 n378 xs385 xs345 (IntKind.i64.wrap (x350 + 1)))) else ((app xs345 ([x350])).bind fun xs391 => (laws_FnJoined_L3 F r4 r16 n378 xs340 xs391 (IntKind.i64.wrap (x350 + 1))))) else some (xs340, xs345))

def laws_FnJoined (F : Nat) (p0 : List Int) : Option (Bool) :=
  ((laws_big F p0).bind fun r1 => (bif r1 then some true else ((spec_DrawJoinGraphs F p0).bind fun r4 => ((impl_JoinGraphs F (GEventGraph.mk r4.1.Events r4.1.Places) (GEventGraph.mk r4.2.Events r4.2.Places)).bind fun r16 => ((spec_JoinGraphs F (GEventGraph.mk r4.1.Events r4.1.Places) (GEventGraph.mk r4.2.Events r4.2.Places)).bind fun r23 => ((spec_DrawSplitPlace F p0).bind fun r30 => ((impl_SplitPlace F (GEventGraph.mk r30.1.Events r30.1.Places) r30.2.1 r30.2.2).bind fun r37 => ((spec_SplitPlace F (GEventGraph.mk r30.1.Events r30.1.Places) r30.2.1 r30.2.2).bind fun r44 => ((spec_DrawMergeEvents F p0).bind fun r51 => ((impl_MergeEvents F (GEventGraph.mk r51.1.Events r51.1.Places) r51.2.1 r51.2.2).bind fun r58 => ((spec_MergeEvents F (GEventGraph.mk r51.1.Events r51.1.Places) r51.2.1 r51.2.2).bind fun r65 => (Option.bind ((bif (r16.2 != r23.2) then some true else ((laws_likeGraphs9 F (GEventGraph.mk r16.1.Events r16.1.Places) (GEventGraph.mk r23.1.Events r23.1.Places)).bind fun r87 => (bif (!r87) then some true else (bif (r37.2 != r44.2) then some true else ((laws_likeGraphs9 F (GEventGraph.mk r37.1.Events r37.1.Places) (GEventGraph.mk r44.1.Events r44.1.Places)).bind fun r91 => (bif (!r91) then some true else (bif (r58.2 != r65.2) then some true else ((laws_likeGraphs9 F (GEventGraph.mk r58.1.Events r58.1.Places) (GEventGraph.mk r65.1.Events r65.1.Places)).bind fun r95 => some (!r95))))))))) : Option (Bool)) fun b83 => (bif b83 then some false else (Option.bind ((bif (r58.2 == 0) then (bif (r58.1.Events != (IntKind.i64.wrap (r51.1.Events - 1))) then some true else (bif ((r58.1.Places.length : Int) != (r51.1.Places.length : Int)) then some true else ((impl_IsEventGraph F (GEventGraph.mk r58.1.Events r58.1.Places)).bind fun r109 => some (!r109)))) else some false) : Option (Bool)) fun b103 => (bif b103 then some false else (Option.bind ((bif (r37.2 == 0) then ((impl_FiringTimes F (GEventGraph.mk r30.1.Events r30.1.Places) 5).bind fun r206 => ((impl_FiringTimes F (GEventGraph.mk r37.1.Events r37.1.Places) 5).bind fun r213 => (Option.bind ((bif (r206.2 != r213.2) then some true else some ((r206.1.length : Int) != (r213.1.length : Int))) : Option (Bool)) fun b221 => (bif b221 then some (Sum.inl false) else (Option.bind (laws_FnJoined_L2 F r30 r206 r213 F 0) fun r276 => match r276 with | .inl x_ => some (Sum.inl x_) | .inr _ => some (Sum.inr ())))))) else some (Sum.inr ())) : Option (Sum Bool (Unit))) fun r203 => match r203 with | .inl x_ => some x_ | .inr _ => (bif (r16.2 != 0) then some true else (Option.bind (laws_FnJoined_L3 F r4 r16 F ([] : List Int) ([] : List Int) 0) fun (xs365, xs370) => ((impl_PartOfGraph F (GEventGraph.mk r16.1.Events r16.1.Places) xs365).bind fun r393 => ((impl_PartOfGraph F (GEventGraph.mk r16.1.Events r16.1.Places) xs370).bind fun r400 => (Option.bind ((bif (r393.2 == 0) then (bif (r400.2 == 0) then ((laws_likeGraphs9 F (GEventGraph.mk r393.1.Events r393.1.Places) (GEventGraph.mk r4.1.Events r4.1.Places)).bind fun r419 => (bif r419 then ((laws_likeGraphs9 F (GEventGraph.mk r400.1.Events r400.1.Places) (GEventGraph.mk r4.2.Events r4.2.Places)).bind fun r422 => some r422) else some false)) else some false) else some false) : Option (Bool)) fun b414 => some b414)))))))))))))))))))))

end Go.Proofs.Ytgkgimglgjfcjaa
