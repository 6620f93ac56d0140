/- Plain models of the functions. -/
import Derived.Test.YtlpigpplfaehbaaLiftC
namespace Go.Proofs.Ytlpigpplfaehbaa

structure LPlace where
  From : Int
  To : Int
  Delay : Int
  Tokens : Int

structure LEventGraph where
  Events : Int
  Places : List LPlace

structure GPlace where
  From : Int
  To : Int
  Delay : Int
  Tokens : Int

structure GEventGraph where
  Events : Int
  Places : List GPlace

def laws_szPlaceS (_F : Nat) (p0_a : List LPlace) (p1_left : Int) : Option (Int) :=
  (bif (decide ((IntKind.i64.wrap (p1_left - (p0_a.length : Int))) < 0)) then some (-1) else some (IntKind.i64.wrap (p1_left - (p0_a.length : Int))))

def laws_szEventGraph (F : Nat) (p0_a : LEventGraph) (p1_left : Int) : Option (Int) :=
  ((laws_szPlaceS F p0_a.Places p1_left).bind fun r2 => (bif (decide (r2 < 0)) then some (-1) else some r2))

def laws_toPlace (_F : Nat) (p0_a : LPlace) : Option (GPlace) :=
  some (GPlace.mk p0_a.From p0_a.To p0_a.Delay p0_a.Tokens)

def laws_toPlaceS_L1 (F : Nat) (p0_a : List LPlace) : Nat → (List GPlace) → Int → Option (List GPlace)
  | 0, _, _ => none
  | n42 + 1, xs25, x27 => (bif (decide (x27 < (p0_a.length : Int))) then ((idx p0_a x27).bind fun q44 => ((laws_toPlace F q44).bind fun r46 => ((idx xs25 x27).bind fun _q48 => ((upd xs25 x27 r46).bind fun xs50 => (laws_toPlaceS_L1 F p0_a n42 xs50 (IntKind.i64.wrap (x27 + 1))))))) else some xs25)

def laws_toPlaceS (F : Nat) (p0_a : List LPlace) : Option (List GPlace) :=
  ((mk (p0_a.length : Int) ((GPlace.mk 0 0 0 0) : GPlace)).bind fun xs3 => (Option.bind (laws_toPlaceS_L1 F p0_a F xs3 0) fun xs37 => some xs37))

def laws_toEventGraph (F : Nat) (p0_a : LEventGraph) : Option (GEventGraph) :=
  ((laws_toPlaceS F p0_a.Places).bind fun r4 => some (GEventGraph.mk p0_a.Events r4))

def spec_l01In (_F : Nat) (p0_n : Int) (p1_low : Int) (p2_high : Int) : Option (Bool) :=
  (Option.bind ((bif (decide (p1_low ≤ p0_n)) then some (decide (p0_n ≤ p2_high)) else some false) : Option (Bool)) fun b2 => some b2)

def spec_l11Place (F : Nat) (p0_p : GPlace) (p1_events : Int) : Option (Bool) :=
  (Option.bind (((spec_l01In F p0_p.From 0 (IntKind.i64.wrap (p1_events - 1))).bind fun r16 => (bif r16 then ((spec_l01In F p0_p.To 0 (IntKind.i64.wrap (p1_events - 1))).bind fun r19 => (bif r19 then ((spec_l01In F p0_p.Delay 0 1000).bind fun r22 => (bif r22 then ((spec_l01In F p0_p.Tokens 0 5).bind fun r25 => some r25) else some false)) else some false)) else some false)) : Option (Bool)) fun b13 => some b13)

def spec_IsEventGraph_L1 (F : Nat) (p0_g : GEventGraph) : Nat → Int → Option (Sum Bool (Unit))
  | 0, _ => none
  | n25 + 1, x15 => (bif (decide (x15 < (p0_g.Places.length : Int))) then ((idx p0_g.Places x15).bind fun q27 => ((spec_l11Place F q27 p0_g.Events).bind fun r29 => (bif (!r29) then some (Sum.inl false) else (spec_IsEventGraph_L1 F p0_g n25 (IntKind.i64.wrap (x15 + 1)))))) else some (Sum.inr ()))

def spec_IsEventGraph (F : Nat) (p0_g : GEventGraph) : Option (Bool) :=
  (Option.bind (spec_IsEventGraph_L1 F p0_g F 0) fun r22 => match r22 with | .inl x_ => some x_ | .inr _ => (Option.bind (((spec_l01In F p0_g.Events 1 10).bind fun r38 => (bif r38 then some (decide ((p0_g.Places.length : Int) ≤ 30)) else some false)) : Option (Bool)) fun b35 => some b35))

def spec_l11Index (F : Nat) (p0_g : GEventGraph) (p1_i : Int) : Option (Int) :=
  ((spec_IsEventGraph F p0_g).bind fun r2 => (bif (!r2) then some 1 else ((spec_l01In F p1_i 0 (IntKind.i64.wrap ((p0_g.Places.length : Int) - 1))).bind fun r5 => (bif (!r5) then some 2 else some 0))))

def spec_l11Own (_F : Nat) (p0_g : GEventGraph) : Option (GEventGraph) :=
  ((app ([] : List GPlace) p0_g.Places).bind fun xs13 => some (GEventGraph.mk p0_g.Events xs13))

def spec_l19Result (F : Nat) (p0_g : GEventGraph) : Option (GEventGraph × Int) :=
  ((spec_IsEventGraph F p0_g).bind fun r3 => (bif (!r3) then some ((GEventGraph.mk 0 []), 3) else some (p0_g, 0)))

def spec_SplitPlace (F : Nat) (p0 : GEventGraph) (p1 : Int) (p2 : Int) : Option (GEventGraph × Int) :=
  ((spec_l11Index F p0 p1).bind fun r3 => (Option.bind ((bif (r3 == 0) then ((idx p0.Places p1).bind fun q14 => ((spec_l01In F p2 0 q14.Delay).bind fun r16 => some (!r16))) else some false) : Option (Bool)) fun b10 => (Option.bind ((bif b10 then some 2 else some r3) : Option (Int)) fun x19 => (bif (x19 != 0) then some ((GEventGraph.mk 0 []), x19) else ((spec_l11Own F p0).bind fun r25 => ((idx p0.Places p1).bind fun q32 => ((idx r25.Places p1).bind fun _q35 => ((upd r25.Places p1 (GPlace.mk q32.From p0.Events p2 0)).bind fun xs37 => ((app xs37 ([(GPlace.mk p0.Events q32.To (IntKind.i64.wrap (q32.Delay - p2)) q32.Tokens)])).bind fun xs43 => ((spec_l19Result F (GEventGraph.mk (IntKind.i64.wrap (p0.Events + 1)) xs43)).bind fun r45 => some ((GEventGraph.mk r45.1.Events r45.1.Places), r45.2)))))))))))

def impl_within (_F : Nat) (p0_n : Int) (p1_low : Int) (p2_high : Int) : Option (Bool) :=
  (Option.bind ((bif (decide (p1_low ≤ p0_n)) then some (decide (p0_n ≤ p2_high)) else some false) : Option (Bool)) fun b2 => some b2)

def impl_isEvent (F : Nat) (p0_g : GEventGraph) (p1_event : Int) : Option (Bool) :=
  ((impl_within F p1_event 0 (IntKind.i64.wrap (p0_g.Events - 1))).bind fun r2 => some r2)

def impl_isPlace (F : Nat) (p0_g : GEventGraph) (p1_p : GPlace) : Option (Bool) :=
  (Option.bind (((impl_isEvent F p0_g p1_p.From).bind fun r17 => (bif r17 then ((impl_isEvent F p0_g p1_p.To).bind fun r20 => (bif r20 then ((impl_within F p1_p.Delay 0 1000).bind fun r23 => (bif r23 then ((impl_within F p1_p.Tokens 0 5).bind fun r26 => some r26) else some false)) else some false)) else some false)) : Option (Bool)) fun b14 => some b14)

def impl_IsEventGraph_c1 (F : Nat) (p0_p : GPlace) (z0 : GEventGraph) : Option (Bool) :=
  ((impl_isPlace F z0 p0_p).bind fun r2 => some (!r2))

def slices_IndexFunc_Place_L1 (F : Nat) (p0_s : List GPlace) (m_p1_f : GPlace → Option Bool) : Nat → Int → Option (Sum Int (Unit))
  | 0, _ => none
  | n24 + 1, x14 => (bif (decide (x14 < (p0_s.length : Int))) then ((idx p0_s x14).bind fun q26 => ((m_p1_f q26).bind fun r28 => (bif r28 then some (Sum.inl x14) else (slices_IndexFunc_Place_L1 F p0_s m_p1_f n24 (IntKind.i64.wrap (x14 + 1)))))) else some (Sum.inr ()))

def slices_IndexFunc_Place (F : Nat) (p0_s : List GPlace) (m_p1_f : GPlace → Option Bool) : Option (Int) :=
  (Option.bind (slices_IndexFunc_Place_L1 F p0_s m_p1_f F 0) fun r21 => match r21 with | .inl x_ => some x_ | .inr _ => some (-1))

def slices_ContainsFunc_Place (F : Nat) (p0_s : List GPlace) (m_p1_f : GPlace → Option Bool) : Option (Bool) :=
  ((slices_IndexFunc_Place F p0_s m_p1_f).bind fun r1 => some (decide (0 ≤ r1)))

def impl_IsEventGraph (F : Nat) (p0_g : GEventGraph) : Option (Bool) :=
  (Option.bind (((impl_within F p0_g.Events 1 10).bind fun r11 => (bif r11 then (bif (decide ((p0_g.Places.length : Int) ≤ 30)) then ((slices_ContainsFunc_Place F p0_g.Places (fun x0 => impl_IsEventGraph_c1 F x0 p0_g)).bind fun r15 => some (!r15)) else some false) else some false)) : Option (Bool)) fun b8 => some b8)

def slices_Clone_Place (_F : Nat) (p0_s : List GPlace) : Option (List GPlace) :=
  ((app ([] : List GPlace) p0_s).bind fun xs5 => some xs5)

def impl_cloneGraph (F : Nat) (p0_g : GEventGraph) : Option (GEventGraph) :=
  ((slices_Clone_Place F p0_g.Places).bind fun r9 => some (GEventGraph.mk p0_g.Events r9))

def impl_checkedGraph (F : Nat) (p0_g : GEventGraph) : Option (GEventGraph × Int) :=
  ((impl_IsEventGraph F p0_g).bind fun r3 => (bif (!r3) then some ((GEventGraph.mk 0 []), 3) else some (p0_g, 0)))

def impl_SplitPlace (F : Nat) (p0 : GEventGraph) (p1 : Int) (p2 : Int) : Option (GEventGraph × Int) :=
  ((impl_IsEventGraph F p0).bind fun r3 => (bif (!r3) then some ((GEventGraph.mk 0 []), 1) else (Option.bind (((impl_within F p1 0 (IntKind.i64.wrap ((p0.Places.length : Int) - 1))).bind fun r17 => (bif (!r17) then some true else ((idx p0.Places p1).bind fun q20 => ((impl_within F p2 0 q20.Delay).bind fun r22 => some (!r22))))) : Option (Bool)) fun b14 => (bif b14 then some ((GEventGraph.mk 0 []), 2) else ((impl_cloneGraph F p0).bind fun r26 => ((idx p0.Places p1).bind fun q33 => ((idx r26.Places p1).bind fun _q36 => ((upd r26.Places p1 (GPlace.mk q33.From p0.Events p2 0)).bind fun xs38 => ((app xs38 ([(GPlace.mk p0.Events q33.To (IntKind.i64.wrap (q33.Delay - p2)) q33.Tokens)])).bind fun xs44 => ((impl_checkedGraph F (GEventGraph.mk (IntKind.i64.wrap (r26.Events + 1)) xs44)).bind fun r46 => some ((GEventGraph.mk r46.1.Events r46.1.Places), r46.2)))))))))))

def laws_eqPlace (_F : Nat) (p0_a : GPlace) (p1_b : GPlace) : Option (Bool) :=
  (bif (p0_a.From != p1_b.From) then some false else (bif (p0_a.To != p1_b.To) then some false else (bif (p0_a.Delay != p1_b.Delay) then some false else (bif (p0_a.Tokens != p1_b.Tokens) then some false else some true))))

def laws_eqPlaceS_L1 (F : Nat) (p0_a : List GPlace) (p1_b : List GPlace) : Nat → Int → Option (Sum Bool (Unit))
  | 0, _ => none
  | n31 + 1, x19 => (bif (decide (x19 < (p0_a.length : Int))) then ((idx p0_a x19).bind fun q33 => ((idx p1_b x19).bind fun q35 => ((laws_eqPlace F q33 q35).bind fun r37 => (bif (!r37) then some (Sum.inl false) else (laws_eqPlaceS_L1 F p0_a p1_b n31 (IntKind.i64.wrap (x19 + 1))))))) else some (Sum.inr ()))

def laws_eqPlaceS (F : Nat) (p0_a : List GPlace) (p1_b : List GPlace) : Option (Bool) :=
  (bif ((p0_a.length : Int) != (p1_b.length : Int)) then some false else (Option.bind (laws_eqPlaceS_L1 F p0_a p1_b F 0) fun r28 => match r28 with | .inl x_ => some x_ | .inr _ => some true))

def laws_eqEventGraph (F : Nat) (p0_a : GEventGraph) (p1_b : GEventGraph) : Option (Bool) :=
  (bif (p0_a.Events != p1_b.Events) then some false else ((laws_eqPlaceS F p0_a.Places p1_b.Places).bind fun r4 => (bif (!r4) then some false else some true)))

def laws_markPlaceS_L1 (F : Nat) : Nat → (List GPlace) → Int → Int → Option ((List GPlace) × Int)
  | 0, _, _, _ => none
  | n66 + 1, xs39, x41, x42 => (bif (decide (x42 < (xs39.length : Int))) then ((idx xs39 x42).bind fun q68 => ((upd xs39 x42 (GPlace.mk x41 q68.To q68.Delay q68.Tokens)).bind fun xs70 => ((idx xs70 x42).bind fun q72 => ((upd xs70 x42 (GPlace.mk q72.From (IntKind.i64.wrap (x41 + 1)) q72.Delay q72.Tokens)).bind fun xs74 => ((idx xs74 x42).bind fun q76 => ((upd xs74 x42 (GPlace.mk q76.From q76.To (IntKind.i64.wrap ((IntKind.i64.wrap (x41 + 1)) + 1)) q76.Tokens)).bind fun xs78 => ((idx xs78 x42).bind fun q80 => ((upd xs78 x42 (GPlace.mk q80.From q80.To q80.Delay (IntKind.i64.wrap ((IntKind.i64.wrap ((IntKind.i64.wrap (x41 + 1)) + 1)) + 1)))).bind fun xs82 => (laws_markPlaceS_L1 F n66 xs82 (IntKind.i64.wrap ((IntKind.i64.wrap ((IntKind.i64.wrap ((IntKind.i64.wrap (x41 + 1)) + 1)) + 1)) + 1)) (IntKind.i64.wrap (x42 + 1))))))))))) else some (xs39, x41))

def laws_markPlaceS (F : Nat) (p0_a : List GPlace) (p1_k : Int) : Option ((Int) × List GPlace) :=
  (Option.bind (laws_markPlaceS_L1 F F p0_a p1_k 0) fun (xs60, x62) => some (x62, xs60))

def laws_markEventGraph (F : Nat) (p0_a : GEventGraph) (p1_k : Int) : Option ((Int) × List GPlace) :=
  ((laws_markPlaceS F p0_a.Places p1_k).bind fun r2 => some (r2.1, r2.2))

def laws_heldPlaceS_L1 (F : Nat) (p0_a : List GPlace) : Nat → Int → Int → Option (Sum Int (Int))
  | 0, _, _ => none
  | n48 + 1, x29, x30 => (bif (decide (x30 < (p0_a.length : Int))) then ((idx p0_a x30).bind fun q50 => (bif (q50.From != x29) then some (Sum.inl (-1)) else ((idx p0_a x30).bind fun q53 => (bif (q53.To != (IntKind.i64.wrap (x29 + 1))) then some (Sum.inl (-1)) else ((idx p0_a x30).bind fun q56 => (bif (q56.Delay != (IntKind.i64.wrap ((IntKind.i64.wrap (x29 + 1)) + 1))) then some (Sum.inl (-1)) else ((idx p0_a x30).bind fun q59 => (bif (q59.Tokens != (IntKind.i64.wrap ((IntKind.i64.wrap ((IntKind.i64.wrap (x29 + 1)) + 1)) + 1))) then some (Sum.inl (-1)) else (laws_heldPlaceS_L1 F p0_a n48 (IntKind.i64.wrap ((IntKind.i64.wrap ((IntKind.i64.wrap ((IntKind.i64.wrap (x29 + 1)) + 1)) + 1)) + 1)) (IntKind.i64.wrap (x30 + 1))))))))))) else some (Sum.inr x29))

def laws_heldPlaceS (F : Nat) (p0_a : List GPlace) (p1_k : Int) : Option (Int) :=
  (Option.bind (laws_heldPlaceS_L1 F p0_a F p1_k 0) fun r45 => match r45 with | .inl x_ => some x_ | .inr x44 => some x44)

def laws_heldEventGraph (F : Nat) (p0_a : GEventGraph) (p1_k : Int) : Option (Int) :=
  ((laws_heldPlaceS F p0_a.Places p1_k).bind fun r2 => (bif (decide (r2 < 0)) then some (-1) else some r2))

def laws_FnExactSplitPlace (F : Nat) (p0 : LEventGraph) (p1 : Int) (p2 : Int) : Option (Bool) :=
  ((laws_szEventGraph F p0 1048576).bind fun r2 => (bif (decide (r2 < 0)) then some true else ((laws_toEventGraph F p0).bind fun r5 => ((spec_SplitPlace F r5 p1 p2).bind fun r11 => ((laws_toEventGraph F p0).bind fun r18 => ((impl_SplitPlace F r18 p1 p2).bind fun r25 => (Option.bind (((laws_eqEventGraph F (GEventGraph.mk r25.1.Events r25.1.Places) (GEventGraph.mk r11.1.Events r11.1.Places)).bind fun r38 => (bif (!r38) then some true else some (r25.2 != r11.2))) : Option (Bool)) fun b35 => (bif b35 then some false else ((laws_toEventGraph F p0).bind fun r50 => ((laws_eqEventGraph F r18 r50).bind fun r56 => (bif (!r56) then some false else ((laws_markEventGraph F r18 1).bind fun r59 => (Option.bind ((bif (decide (r59.1 < 0)) then some true else ((laws_eqEventGraph F (GEventGraph.mk r25.1.Events r25.1.Places) (GEventGraph.mk r11.1.Events r11.1.Places)).bind fun r70 => (bif (!r70) then some true else some (r25.2 != r11.2)))) : Option (Bool)) fun b66 => (bif b66 then some false else ((laws_markEventGraph F (GEventGraph.mk r25.1.Events r25.1.Places) 1).bind fun r74 => ((laws_heldEventGraph F (GEventGraph.mk r25.1.Events r74.2) 1).bind fun r77 => (bif (decide (r77 < 0)) then some false else (bif (r77 != r74.1) then some false else ((laws_toEventGraph F p0).bind fun r81 => ((impl_SplitPlace F r81 p1 p2).bind fun r87 => (Option.bind (((laws_eqEventGraph F (GEventGraph.mk r87.1.Events r87.1.Places) (GEventGraph.mk r11.1.Events r11.1.Places)).bind fun r100 => (bif (!r100) then some true else some (r87.2 != r11.2))) : Option (Bool)) fun b97 => (bif b97 then some false else ((laws_heldEventGraph F (GEventGraph.mk r25.1.Events r74.2) 1).bind fun r104 => (bif (decide (r104 < 0)) then some false else (bif (r104 != r74.1) then some false else some true)))))))))))))))))))))))))

end Go.Proofs.Ytlpigpplfaehbaa
