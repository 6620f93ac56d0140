/- Plain models of the functions. -/
import Derived.Test.YtebmlphobgaboabLiftH
namespace Go.Proofs.Ytebmlphobgaboab

structure GPlace where
  From : Int
  To : Int
  Delay : Int
  Tokens : Int

structure GEventGraph where
  Events : Int
  Places : List GPlace

structure GRatio where
  Num : Int
  Den : Int

structure GTimetable where
  Period : Int
  Starts : List Int

def laws_big (_F : Nat) (p0_code : List Int) : Option (Bool) :=
  some (decide (4096 < (p0_code.length : Int)))

def spec_l01From_L1 (F : Nat) (p0_code : List Int) : Nat → Int → Int → Option (Int)
  | 0, _, _ => none
  | n34 + 1, x20, x21 => (Option.bind ((bif (decide (x21 < (p0_code.length : Int))) then some (decide (x21 < 64)) else some false) : Option (Bool)) fun b36 => (bif b36 then ((idx p0_code x21).bind fun q41 => (spec_l01From_L1 F p0_code n34 ((IntKind.i64.wrap ((IntKind.i64.wrap (x20 * 67)) + (IntKind.i64.wrap q41))).tmod 2147483647) (IntKind.i64.wrap (x21 + 1)))) else some x20))

def spec_l01From (F : Nat) (p0_code : List Int) : Option ((Int × Int)) :=
  (Option.bind (spec_l01From_L1 F p0_code F 61403 0) fun x30 => some (0, x30))

def spec_l01Next (_F : Nat) (p0_code : List Int) (p0_at : Int) (p0_seed : Int) (p1 : Int) : Option ((Int) × Int × Int) :=
  (bif (decide (p1 ≤ 1)) then some (0, p0_at, p0_seed) else (Option.bind ((bif (decide (p0_at < (p0_code.length : Int))) then ((idx p0_code p0_at).bind fun q18 => (Option.bind ((bif (decide (p1 ≤ 256)) then some (((IntKind.i64.wrap (p0_at + 1)).tmod 2) == 0) else some false) : Option (Bool)) fun b21 => (bif b21 then ((idx p0_code (IntKind.i64.wrap ((IntKind.i64.wrap (p0_at + 1)) - 1))).bind fun q26 => some ((IntKind.i64.wrap (p0_at + 1)), (IntKind.i64.wrap q26))) else some ((IntKind.i64.wrap (p0_at + 1)), (IntKind.i64.wrap ((IntKind.i64.wrap (((IntKind.i64.wrap ((IntKind.i64.wrap (p0_seed * 48271)) + 59)).tmod 2147483647).tdiv 31)) + (IntKind.i64.wrap q18))))))) else some (p0_at, (IntKind.i64.wrap (((IntKind.i64.wrap ((IntKind.i64.wrap (p0_seed * 48271)) + 59)).tmod 2147483647).tdiv 31)))) : Option (Int × Int)) fun (x13, x14) => ((if p1 = 0 then none else some ()).bind fun _u29 => some ((x14.tmod p1), x13, ((IntKind.i64.wrap ((IntKind.i64.wrap (p0_seed * 48271)) + 59)).tmod 2147483647)))))

def spec_l01Pick (F : Nat) (p0_s_code : List Int) (p0_s_at : Int) (p0_s_seed : Int) (p1_list : List Int) : Option ((Int) × Int × Int) :=
  ((spec_l01Next F p0_s_code p0_s_at p0_s_seed (p1_list.length : Int)).bind fun r1 => ((idx p1_list r1.1).bind fun q3 => some (q3, r1.2.1, r1.2.2)))

def spec_l11Draw_L1 (F : Nat) (p0_code : List Int) (r2 : (Int) × Int × Int) : Nat → Int → Int → (List GPlace) → Int → Option (Int × Int × (List GPlace))
  | 0, _, _, _, _ => none
  | n353 + 1, x229, x230, xs231, x236 => (bif (decide (0 < x236)) then (Option.bind (((spec_l01Next F p0_code x229 x230 (IntKind.i64.wrap (1 + r2.1))).bind fun r399 => ((spec_l01Next F p0_code r399.2.1 r399.2.2 (IntKind.i64.wrap (1 + r2.1))).bind fun r401 => ((spec_l01Next F p0_code r401.2.1 r401.2.2 12).bind fun r403 => some (r403.2.1, r403.2.2, r399.1, r401.1, r403.1)))) : Option (Int × Int × Int × Int × Int)) fun (x384, x385, x387, x388, x389) => (Option.bind ((bif (decide (x388 ≤ x387)) then some (x384, x385, true) else ((spec_l01Next F p0_code x384 x385 4).bind fun r430 => some (r430.2.1, r430.2.2, (r430.1 == 0)))) : Option (Int × Int × Bool)) fun (x424, x425, b426) => (Option.bind ((bif b426 then ((spec_l01Next F p0_code x424 x425 2).bind fun r443 => ((spec_l01Next F p0_code r443.2.1 r443.2.2 3).bind fun r445 => some (r445.2.1, r445.2.2, (IntKind.i64.wrap (1 + (IntKind.i64.wrap (r443.1 * r445.1))))))) else some (x424, x425, 0)) : Option (Int × Int × Int)) fun (x437, x438, x439) => ((spec_l01Next F p0_code x437 x438 30).bind fun r447 => (Option.bind ((bif (r447.1 == 0) then some 0 else some x439) : Option (Int)) fun x450 => ((app xs231 ([(GPlace.mk x387 x388 x389 x450)])).bind fun xs458 => (spec_l11Draw_L1 F p0_code r2 n353 r447.2.1 r447.2.2 xs458 (IntKind.i64.wrap (x236 - 1))))))))) else some (x229, x230, xs231))

def spec_l11Draw_L2 (F : Nat) (p0_code : List Int) : Nat → Int → Int → (List GPlace) → Int → Option (Int × Int × (List GPlace))
  | 0, _, _, _, _ => none
  | n660 + 1, x633, x634, xs635, x640 => ((spec_l01Next F p0_code x633 x634 9).bind fun r661 => (bif (decide (x640 < (IntKind.i64.wrap (22 + r661.1)))) then ((app xs635 ([(GPlace.mk 0 0 x640 1)])).bind fun xs668 => (spec_l11Draw_L2 F p0_code n660 r661.2.1 r661.2.2 xs668 (IntKind.i64.wrap (x640 + 1)))) else some (r661.2.1, r661.2.2, xs635)))

def spec_l11Draw (F : Nat) (p0_code : List Int) (p0_at : Int) (p0_seed : Int) : Option ((GEventGraph) × Int × Int) :=
  ((spec_l01Next F p0_code p0_at p0_seed 5).bind fun r2 => ((spec_l01Next F p0_code r2.2.1 r2.2.2 9).bind fun r7 => (Option.bind (spec_l11Draw_L1 F p0_code r2 F r7.2.1 r7.2.2 ([] : List GPlace) r7.1) fun (x343, x344, xs345) => ((spec_l01Next F p0_code x343 x344 60).bind fun r460 => (bif (r460.1 == 0) then ((spec_l01Pick F p0_code r460.2.1 r460.2.2 ([0, 10, 11])).bind fun r465 => some ((GEventGraph.mk r465.1 xs345), r465.2.1, r465.2.2)) else (bif (r460.1 == 1) then (Option.bind (((spec_l01Pick F p0_code r460.2.1 r460.2.2 ([(-1), 0, (IntKind.i64.wrap (1 + r2.1))])).bind fun r547 => ((spec_l01Pick F p0_code r547.2.1 r547.2.2 ([(-1), 1000, 1001])).bind fun r551 => ((app xs345 ([(GPlace.mk r547.1 0 r551.1 1)])).bind fun xs557 => some (r551.2.1, r551.2.2, xs557)))) : Option (Int × Int × (List GPlace))) fun (x522, x523, xs524) => some ((GEventGraph.mk (IntKind.i64.wrap (1 + r2.1)) xs524), x522, x523)) else (bif (r460.1 == 2) then ((spec_l01Pick F p0_code r460.2.1 r460.2.2 ([5, 6, (-1)])).bind fun r598 => ((app xs345 ([(GPlace.mk 0 0 0 r598.1)])).bind fun xs604 => some ((GEventGraph.mk (IntKind.i64.wrap (1 + r2.1)) xs604), r598.2.1, r598.2.2))) else (bif (r460.1 == 3) then (Option.bind (spec_l11Draw_L2 F p0_code F r460.2.1 r460.2.2 xs345 0) fun (x650, x651, xs652) => some ((GEventGraph.mk (IntKind.i64.wrap (1 + r2.1)) xs652), x650, x651)) else some ((GEventGraph.mk (IntKind.i64.wrap (1 + r2.1)) xs345), r460.2.1, r460.2.2)))))))))

def spec_l15Draw (F : Nat) (p0_s_code : List Int) (p0_s_at : Int) (p0_s_seed : Int) : Option ((GEventGraph) × Int × Int) :=
  ((spec_l11Draw F p0_s_code p0_s_at p0_s_seed).bind fun r2 => (Option.bind ((bif (decide (20 < (r2.1.Places.length : Int))) then some (decide (2 < r2.1.Events)) else some false) : Option (Bool)) fun b10 => (Option.bind ((bif b10 then ((cutTo r2.1.Places 20).bind fun xs26 => some xs26) else some r2.1.Places) : Option (List GPlace)) fun xs17 => some ((GEventGraph.mk r2.1.Events xs17), r2.2.1, r2.2.2))))

def spec_l12Draw_L1 (F : Nat) (p0_s_code : List Int) : Nat → Int → Int → (List GPlace) → Int → Option (Int × Int × (List GPlace))
  | 0, _, _, _, _ => none
  | n65 + 1, x40, x41, xs42, x44 => (Option.bind ((bif (decide (x44 < (xs42.length : Int))) then some (decide (x44 < 9)) else some false) : Option (Bool)) fun b67 => (bif b67 then ((spec_l01Next F p0_s_code x40 x41 12).bind fun r72 => (bif (r72.1 == 0) then ((idx xs42 x44).bind fun q75 => ((upd xs42 x44 (GPlace.mk q75.From q75.To q75.Delay 0)).bind fun xs77 => (spec_l12Draw_L1 F p0_s_code n65 r72.2.1 r72.2.2 xs77 (IntKind.i64.wrap (x44 + 1))))) else (spec_l12Draw_L1 F p0_s_code n65 r72.2.1 r72.2.2 xs42 (IntKind.i64.wrap (x44 + 1))))) else some (x40, x41, xs42)))

def spec_l12Draw (F : Nat) (p0_s_code : List Int) (p0_s_at : Int) (p0_s_seed : Int) : Option ((GEventGraph) × Int × Int) :=
  ((spec_l11Draw F p0_s_code p0_s_at p0_s_seed).bind fun r2 => (Option.bind (spec_l12Draw_L1 F p0_s_code F r2.2.1 r2.2.2 r2.1.Places 0) fun (x58, x59, xs60) => some ((GEventGraph.mk r2.1.Events xs60), x58, x59)))

def spec_l01In (_F : Nat) (p0_n : Int) (p1_low : Int) (p2_high : Int) : Option (Bool) :=
  (Option.bind ((bif (decide (p1_low ≤ p0_n)) then some (decide (p0_n ≤ p2_high)) else some false) : Option (Bool)) fun b2 => some b2)

def spec_l11Place (F : Nat) (p0_p : GPlace) (p1_events : Int) : Option (Bool) :=
  (Option.bind (((spec_l01In F p0_p.From 0 (IntKind.i64.wrap (p1_events - 1))).bind fun r16 => (bif r16 then ((spec_l01In F p0_p.To 0 (IntKind.i64.wrap (p1_events - 1))).bind fun r19 => (bif r19 then ((spec_l01In F p0_p.Delay 0 1000).bind fun r22 => (bif r22 then ((spec_l01In F p0_p.Tokens 0 5).bind fun r25 => some r25) else some false)) else some false)) else some false)) : Option (Bool)) fun b13 => some b13)

def spec_IsEventGraph_L1 (F : Nat) (p0_g : GEventGraph) : Nat → Int → Option (Sum Bool (Unit))
  | 0, _ => none
  | n25 + 1, x15 => (bif (decide (x15 < (p0_g.Places.length : Int))) then ((idx p0_g.Places x15).bind fun q27 => ((spec_l11Place F q27 p0_g.Events).bind fun r29 => (bif (!r29) then some (Sum.inl false) else (spec_IsEventGraph_L1 F p0_g n25 (IntKind.i64.wrap (x15 + 1)))))) else some (Sum.inr ()))

def spec_IsEventGraph (F : Nat) (p0_g : GEventGraph) : Option (Bool) :=
  (Option.bind (spec_IsEventGraph_L1 F p0_g F 0) fun r22 => match r22 with | .inl x_ => some x_ | .inr _ => (Option.bind (((spec_l01In F p0_g.Events 1 10).bind fun r38 => (bif r38 then some (decide ((p0_g.Places.length : Int) ≤ 30)) else some false)) : Option (Bool)) fun b35 => some b35))

def spec_l15Sums_L1 (F : Nat) (p0_g : GEventGraph) (p1_list : List Int) : Nat → Int → Int → Int → Option (Int × Int)
  | 0, _, _, _ => none
  | n40 + 1, x23, x24, x25 => (bif (decide (x25 < (p1_list.length : Int))) then ((idx p1_list x25).bind fun q42 => ((idx p0_g.Places q42).bind fun q44 => ((idx p1_list x25).bind fun q46 => ((idx p0_g.Places q46).bind fun q48 => (spec_l15Sums_L1 F p0_g p1_list n40 (IntKind.i64.wrap (x23 + q44.Delay)) (IntKind.i64.wrap (x24 + q48.Tokens)) (IntKind.i64.wrap (x25 + 1))))))) else some (x23, x24))

def spec_l15Sums (F : Nat) (p0_g : GEventGraph) (p1_list : List Int) : Option (Int × Int) :=
  (Option.bind (spec_l15Sums_L1 F p0_g p1_list F 0 0 0) fun (x35, x36) => some (x35, x36))

def spec_l15Visits_L1 (F : Nat) (p0_g : GEventGraph) (p1_list : List Int) (p2_event : Int) : Nat → Int → Option (Sum Bool (Unit))
  | 0, _ => none
  | n76 + 1, x49 => (bif (decide (x49 < (p1_list.length : Int))) then (Option.bind (((idx p1_list x49).bind fun q90 => ((idx p0_g.Places q90).bind fun q92 => (bif (q92.From == p2_event) then some true else ((idx p1_list x49).bind fun q95 => ((idx p0_g.Places q95).bind fun q97 => some (q97.To == p2_event)))))) : Option (Bool)) fun b87 => (bif b87 then some (Sum.inl true) else (spec_l15Visits_L1 F p0_g p1_list p2_event n76 (IntKind.i64.wrap (x49 + 1))))) else some (Sum.inr ()))

def spec_l15Visits (F : Nat) (p0_g : GEventGraph) (p1_list : List Int) (p2_event : Int) : Option (Bool) :=
  (Option.bind (spec_l15Visits_L1 F p0_g p1_list p2_event F 0) fun r73 => match r73 with | .inl x_ => some x_ | .inr _ => some false)

def spec_l01Own (_F : Nat) (p0_list : List Int) : Option (List Int) :=
  ((app ([] : List Int) p0_list).bind fun xs5 => some xs5)

def spec_l15Grow_L1 (F : Nat) (p0 : GEventGraph) (p1 : List Int) (p2 : GRatio) (p3 : Int) (q5 : GPlace) (q9 : GPlace) (rec_ : GEventGraph → (List Int) → GRatio → Int → Option (List Int)) : Nat → Int → Option (Sum (List Int) (Unit))
  | 0, _ => none
  | n1009 + 1, x676 => (bif (decide (x676 < (p0.Places.length : Int))) then (Option.bind (((idx p0.Places x676).bind fun q1176 => (Option.bind ((bif (q1176.From != q9.To) then some true else (bif (decide (q1176.To < q5.From)) then some true else (bif (q1176.To != q5.From) then ((spec_l15Visits F p0 p1 q1176.To).bind fun r1190 => some r1190) else some false))) : Option (Bool)) fun b1184 => (bif b1184 then some (Sum.inr ()) else (Option.bind (((spec_l01Own F p1).bind fun r1292 => ((app r1292 ([x676])).bind fun xs1302 => ((rec_ p0 xs1302 p2 p3).bind fun r1304 => some r1304))) : Option (List Int)) fun xs1262 => (bif (decide (0 < (xs1262.length : Int))) then some (Sum.inl xs1262) else some (Sum.inr ())))))) : Option (Sum (List Int) (Unit))) fun r1174 => match r1174 with | .inl x_ => some (Sum.inl x_) | .inr _ => (spec_l15Grow_L1 F p0 p1 p2 p3 q5 q9 rec_ n1009 (IntKind.i64.wrap (x676 + 1)))) else some (Sum.inr ()))

def spec_l15Grow_rec (F : Nat) : Nat → GEventGraph → (List Int) → GRatio → Int → Option (List Int)
  | 0, _, _, _, _ => none
  | k_ + 1, p0, p1, p2, p3 => ((idx p1 0).bind fun q3 => ((idx p0.Places q3).bind fun q5 => ((idx p1 (IntKind.i64.wrap ((p1.length : Int) - 1))).bind fun q7 => ((idx p0.Places q7).bind fun q9 => (bif (q9.To == q5.From) then ((spec_l15Sums F p0 p1).bind fun r12 => (bif (decide (p3 < (IntKind.i64.wrap ((IntKind.i64.wrap (p2.Den * r12.1)) - (IntKind.i64.wrap (p2.Num * r12.2)))))) then some p1 else some ([] : List Int))) else (Option.bind (spec_l15Grow_L1 F p0 p1 p2 p3 q5 q9 (spec_l15Grow_rec F k_) F 0) fun r1006 => match r1006 with | .inl x_ => some x_ | .inr _ => some ([] : List Int)))))))

def spec_l15Grow (F : Nat) (p0 : GEventGraph) (p1 : List Int) (p2 : GRatio) (p3 : Int) : Option (List Int) := spec_l15Grow_rec F F p0 p1 p2 p3

def spec_l15Over_L1 (F : Nat) (p0_g : GEventGraph) (p1_r : GRatio) (p2_over : Int) : Nat → Int → Option (Sum (List Int) (Unit))
  | 0, _ => none
  | n125 + 1, x82 => (bif (decide (x82 < (p0_g.Places.length : Int))) then (Option.bind (((idx p0_g.Places x82).bind fun q147 => (bif (decide (q147.To < q147.From)) then some (Sum.inr ()) else ((spec_l15Grow F p0_g ([x82]) p1_r p2_over).bind fun r153 => (bif (decide (0 < (r153.length : Int))) then some (Sum.inl r153) else some (Sum.inr ()))))) : Option (Sum (List Int) (Unit))) fun r145 => match r145 with | .inl x_ => some (Sum.inl x_) | .inr _ => (spec_l15Over_L1 F p0_g p1_r p2_over n125 (IntKind.i64.wrap (x82 + 1)))) else some (Sum.inr ()))

def spec_l15Over (F : Nat) (p0_g : GEventGraph) (p1_r : GRatio) (p2_over : Int) : Option (List Int) :=
  (Option.bind (spec_l15Over_L1 F p0_g p1_r p2_over F 0) fun r122 => match r122 with | .inl x_ => some x_ | .inr _ => some ([] : List Int))

def spec_l01Floor (_F : Nat) (p0_a : Int) (p1_b : Int) : Option (Int) :=
  ((if p1_b = 0 then none else some ()).bind fun _u2 => ((if p1_b = 0 then none else some ()).bind fun _u4 => (Option.bind ((bif (decide ((p0_a.tmod p1_b) < 0)) then some (IntKind.i64.wrap ((IntKind.i64.wrap (p0_a.tdiv p1_b)) - 1)) else some (IntKind.i64.wrap (p0_a.tdiv p1_b))) : Option (Int)) fun x6 => some x6)))

def spec_l01Ceil (F : Nat) (p0_a : Int) (p1_b : Int) : Option (Int) :=
  ((spec_l01Floor F (IntKind.i64.wrap (0 - p0_a)) p1_b).bind fun r1 => some (IntKind.i64.wrap (0 - r1)))

def spec_LeastPeriod_L1 (F : Nat) (p0_g : GEventGraph) : Nat → Int → Option (Sum (Int × Int) (Unit))
  | 0, _ => none
  | n49 + 1, x32 => (bif (decide (x32 ≤ 100000)) then ((spec_l15Over F p0_g (GRatio.mk x32 1) 0).bind fun r51 => (bif ((r51.length : Int) == 0) then some (Sum.inl (x32, 0)) else ((spec_l15Sums F p0_g r51).bind fun r58 => (bif (r58.2 == 0) then some (Sum.inr ()) else ((spec_l01Ceil F r58.1 r58.2).bind fun r61 => (spec_LeastPeriod_L1 F p0_g n49 r61)))))) else some (Sum.inr ()))

def spec_LeastPeriod (F : Nat) (p0_g : GEventGraph) : Option (Int × Int) :=
  ((spec_IsEventGraph F p0_g).bind fun r2 => (bif (!r2) then some (0, 1) else (Option.bind (spec_LeastPeriod_L1 F p0_g F 0) fun r46 => match r46 with | .inl x_ => some x_ | .inr _ => some (0, 5))))

def spec_l20DrawPeriod (F : Nat) (p0_s_code : List Int) (p0_s_at : Int) (p0_s_seed : Int) : Option ((GEventGraph × Int) × Int × Int) :=
  ((spec_l15Draw F p0_s_code p0_s_at p0_s_seed).bind fun r2 => ((spec_l01Next F p0_s_code r2.2.1 r2.2.2 20).bind fun r9 => (Option.bind ((bif (r9.1 == 0) then ((spec_l12Draw F p0_s_code r9.2.1 r9.2.2).bind fun r37 => (Option.bind ((bif (decide (20 < (r37.1.Places.length : Int))) then some (decide (2 < r37.1.Events)) else some false) : Option (Bool)) fun b44 => (bif b44 then ((cutTo r37.1.Places 20).bind fun xs50 => some (r37.2.1, r37.2.2, r37.1.Events, xs50)) else some (r37.2.1, r37.2.2, r37.1.Events, r37.1.Places)))) else some (r9.2.1, r9.2.2, r2.1.Events, r2.1.Places)) : Option (Int × Int × Int × (List GPlace))) fun (x26, x27, x28, xs29) => ((spec_LeastPeriod F (GEventGraph.mk x28 xs29)).bind fun r51 => (Option.bind ((bif (r51.2 != 0) then some (x26, x27, true) else ((spec_l01Next F p0_s_code x26 x27 4).bind fun r62 => some (r62.2.1, r62.2.2, (r62.1 == 0)))) : Option (Int × Int × Bool)) fun (x56, x57, b58) => (bif b58 then (Option.bind (((spec_l01Next F p0_s_code x56 x57 30).bind fun r154 => ((spec_l01Next F p0_s_code r154.2.1 r154.2.2 30).bind fun r156 => ((spec_l01Next F p0_s_code r156.2.1 r156.2.2 30).bind fun r158 => ((spec_l01Pick F p0_s_code r158.2.1 r158.2.2 ([(-1), 0, 100000, 100001])).bind fun r162 => ((spec_l01Pick F p0_s_code r162.2.1 r162.2.2 ([r154.1, r156.1, r158.1, r162.1])).bind fun r166 => some (r166.2.1, r166.2.2, x28, xs29, r166.1)))))) : Option (Int × Int × Int × (List GPlace) × Int)) fun (x129, x130, x131, xs132, x137) => some (((GEventGraph.mk x131 xs132), x137), x129, x130)) else ((spec_l01Next F p0_s_code x56 x57 4).bind fun r206 => some (((GEventGraph.mk x28 xs29), (max 0 (IntKind.i64.wrap ((IntKind.i64.wrap (r51.1 + r206.1)) - 1)))), r206.2.1, r206.2.2))))))))

def spec_DrawLatestTimetable_L1 (F : Nat) (p0_code : List Int) (r5 : (GEventGraph × Int) × Int × Int) : Nat → Int → Int → (List Int) → Int → Option (Int × Int × (List Int))
  | 0, _, _, _, _ => none
  | n67 + 1, x40, x41, xs42, x47 => (bif (decide (x47 < r5.1.1.Events)) then ((spec_l01Next F p0_code x40 x41 60).bind fun r69 => ((app xs42 ([(IntKind.i64.wrap (5 + r69.1))])).bind fun xs75 => (spec_DrawLatestTimetable_L1 F p0_code r5 n67 r69.2.1 r69.2.2 xs75 (IntKind.i64.wrap (x47 + 1))))) else some (x40, x41, xs42))

def spec_DrawLatestTimetable (F : Nat) (p0_code : List Int) : Option (GEventGraph × Int × List Int) :=
  ((spec_l01From F p0_code).bind fun r2 => ((spec_l20DrawPeriod F p0_code r2.1 r2.2).bind fun r5 => (Option.bind (spec_DrawLatestTimetable_L1 F p0_code r5 F r5.2.1 r5.2.2 ([] : List Int) 0) fun (x57, x58, xs59) => ((spec_l01Next F p0_code x57 x58 24).bind fun r77 => (bif (r77.1 == 0) then ((app xs59 ([0])).bind fun xs84 => some ((GEventGraph.mk r5.1.1.Events r5.1.1.Places), r5.1.2, xs84)) else (bif (r77.1 == 1) then (bif (decide (0 < (xs59.length : Int))) then ((spec_l01Pick F p0_code r77.2.1 r77.2.2 ([(-1), 0, 1000000, 1000001])).bind fun r90 => ((idx xs59 0).bind fun _q92 => ((upd xs59 0 r90.1).bind fun xs94 => some ((GEventGraph.mk r5.1.1.Events r5.1.1.Places), r5.1.2, xs94)))) else some ((GEventGraph.mk r5.1.1.Events r5.1.1.Places), r5.1.2, xs59)) else some ((GEventGraph.mk r5.1.1.Events r5.1.1.Places), r5.1.2, xs59)))))))

def impl_within (_F : Nat) (p0_n : Int) (p1_low : Int) (p2_high : Int) : Option (Bool) :=
  (Option.bind ((bif (decide (p1_low ≤ p0_n)) then some (decide (p0_n ≤ p2_high)) else some false) : Option (Bool)) fun b2 => some b2)

def impl_isEvent (F : Nat) (p0_g : GEventGraph) (p1_event : Int) : Option (Bool) :=
  ((impl_within F p1_event 0 (IntKind.i64.wrap (p0_g.Events - 1))).bind fun r2 => some r2)

def impl_isPlace (F : Nat) (p0_g : GEventGraph) (p1_p : GPlace) : Option (Bool) :=
  (Option.bind (((impl_isEvent F p0_g p1_p.From).bind fun r17 => (bif r17 then ((impl_isEvent F p0_g p1_p.To).bind fun r20 => (bif r20 then ((impl_within F p1_p.Delay 0 1000).bind fun r23 => (bif r23 then ((impl_within F p1_p.Tokens 0 5).bind fun r26 => some r26) else some false)) else some false)) else some false)) : Option (Bool)) fun b14 => some b14)

def impl_IsEventGraph_c1 (F : Nat) (p0_p : GPlace) (z0 : GEventGraph) : Option (Bool) :=
  ((impl_isPlace F z0 p0_p).bind fun r2 => some (!r2))

def slices_IndexFunc_Place_L1 (F : Nat) (p0_s : List GPlace) (m_p1_f : GPlace → Option Bool) : Nat → Int → Option (Sum Int (Unit))
  | 0, _ => none
  | n24 + 1, x14 => (bif (decide (x14 < (p0_s.length : Int))) then ((idx p0_s x14).bind fun q26 => ((m_p1_f q26).bind fun r28 => (bif r28 then some (Sum.inl x14) else (slices_IndexFunc_Place_L1 F p0_s m_p1_f n24 (IntKind.i64.wrap (x14 + 1)))))) else some (Sum.inr ()))

def slices_IndexFunc_Place (F : Nat) (p0_s : List GPlace) (m_p1_f : GPlace → Option Bool) : Option (Int) :=
  (Option.bind (slices_IndexFunc_Place_L1 F p0_s m_p1_f F 0) fun r21 => match r21 with | .inl x_ => some x_ | .inr _ => some (-1))

def slices_ContainsFunc_Place (F : Nat) (p0_s : List GPlace) (m_p1_f : GPlace → Option Bool) : Option (Bool) :=
  ((slices_IndexFunc_Place F p0_s m_p1_f).bind fun r1 => some (decide (0 ≤ r1)))

def impl_IsEventGraph (F : Nat) (p0_g : GEventGraph) : Option (Bool) :=
  (Option.bind (((impl_within F p0_g.Events 1 10).bind fun r11 => (bif r11 then (bif (decide ((p0_g.Places.length : Int) ≤ 30)) then ((slices_ContainsFunc_Place F p0_g.Places (fun x0 => impl_IsEventGraph_c1 F x0 p0_g)).bind fun r15 => some (!r15)) else some false) else some false)) : Option (Bool)) fun b8 => some b8)

def impl_checkPeriod (F : Nat) (p0_g : GEventGraph) (p1_period : Int) : Option (Int) :=
  ((impl_IsEventGraph F p0_g).bind fun r2 => (bif (!r2) then some 1 else ((impl_within F p1_period 0 100000).bind fun r5 => (bif (!r5) then some 2 else some 0))))

def impl_allWithin_L1 (F : Nat) (p0_list : List Int) (p1_low : Int) (p2_high : Int) : Nat → Int → Option (Sum Bool (Unit))
  | 0, _ => none
  | n24 + 1, x14 => (bif (decide (x14 < (p0_list.length : Int))) then ((idx p0_list x14).bind fun q26 => ((impl_within F q26 p1_low p2_high).bind fun r28 => (bif (!r28) then some (Sum.inl false) else (impl_allWithin_L1 F p0_list p1_low p2_high n24 (IntKind.i64.wrap (x14 + 1)))))) else some (Sum.inr ()))

def impl_allWithin (F : Nat) (p0_list : List Int) (p1_low : Int) (p2_high : Int) : Option (Bool) :=
  (Option.bind (impl_allWithin_L1 F p0_list p1_low p2_high F 0) fun r21 => match r21 with | .inl x_ => some x_ | .inr _ => some true)

def impl_placeWeight (_F : Nat) (p0_p : GPlace) (p1_r : GRatio) : Option (Int) :=
  some (IntKind.i64.wrap ((IntKind.i64.wrap (p1_r.Den * p0_p.Delay)) - (IntKind.i64.wrap (p1_r.Num * p0_p.Tokens))))

def slices_Reverse_int64_L1 (F : Nat) : Nat → (List Int) → Int → Int → Option (List Int)
  | 0, _, _, _ => none
  | n53 + 1, xs31, x33, x34 => (bif (decide (x33 < x34)) then ((idx xs31 x34).bind fun q55 => ((idx xs31 x33).bind fun q57 => ((idx xs31 x33).bind fun _q59 => ((upd xs31 x33 q55).bind fun xs61 => ((idx xs61 x34).bind fun _q63 => ((upd xs61 x34 q57).bind fun xs65 => (slices_Reverse_int64_L1 F n53 xs65 (IntKind.i64.wrap (x33 + 1)) (IntKind.i64.wrap (x34 - 1))))))))) else some xs31)

def slices_Reverse_int64 (F : Nat) (p0_s : List Int) : Option ((Unit) × List Int) :=
  (Option.bind (slices_Reverse_int64_L1 F F p0_s 0 (IntKind.i64.wrap ((p0_s.length : Int) - 1))) fun xs48 => some ((), xs48))

def impl_betterCircuit_L5 (F : Nat) (p0 : GEventGraph) (p1 : GRatio) : Nat → (List Int) → (List Int) → Int → Int → Option ((List Int) × (List Int) × Int)
  | 0, _, _, _, _ => none
  | n523 + 1, xs482, xs484, x486, x487 => (bif (decide (x487 < (p0.Places.length : Int))) then ((idx p0.Places x487).bind fun q525 => ((idx xs482 q525.From).bind fun q528 => ((impl_placeWeight F q525 p1).bind fun r530 => ((idx xs482 q525.To).bind fun q532 => (bif (decide (q532 < (IntKind.i64.wrap (q528 + r530)))) then ((idx xs482 q525.To).bind fun _q543 => ((upd xs482 q525.To (IntKind.i64.wrap (q528 + r530))).bind fun xs545 => ((idx xs484 q525.To).bind fun _q547 => ((upd xs484 q525.To x487).bind fun xs549 => (impl_betterCircuit_L5 F p0 p1 n523 xs545 xs549 q525.To (IntKind.i64.wrap (x487 + 1))))))) else (impl_betterCircuit_L5 F p0 p1 n523 xs482 xs484 x486 (IntKind.i64.wrap (x487 + 1)))))))) else some (xs482, xs484, x486))

def impl_betterCircuit_L4 (F : Nat) (p0 : GEventGraph) (p1 : GRatio) : Nat → (List Int) → (List Int) → Int → Int → Option (Sum (List Int) ((List Int) × Int))
  | 0, _, _, _, _ => none
  | n420 + 1, xs277, xs279, x281, x282 => (bif (decide (x282 < (IntKind.i64.wrap (p0.Events + 1)))) then (Option.bind (impl_betterCircuit_L5 F p0 p1 F xs277 xs279 (-1) 0) fun (xs515, xs517, x519) => (bif (decide (x519 < 0)) then some (Sum.inl ([] : List Int)) else (impl_betterCircuit_L4 F p0 p1 n420 xs515 xs517 x519 (IntKind.i64.wrap (x282 + 1))))) else some (Sum.inr (xs279, x281)))

def impl_betterCircuit_L6 (F : Nat) (p0 : GEventGraph) (xs414 : List Int) : Nat → Int → Int → Option (Int)
  | 0, _, _ => none
  | n576 + 1, x565, x566 => (bif (decide (x566 < p0.Events)) then ((idx xs414 x565).bind fun q578 => ((idx p0.Places q578).bind fun q580 => (impl_betterCircuit_L6 F p0 xs414 n576 q580.From (IntKind.i64.wrap (x566 + 1))))) else some x565)

def impl_betterCircuit_L7 (F : Nat) (p0 : GEventGraph) (xs414 : List Int) (x572 : Int) : Nat → (List Int) → Int → Option (List Int)
  | 0, _, _ => none
  | n644 + 1, xs617, x622 => ((idx xs414 x622).bind fun q645 => ((app xs617 ([q645])).bind fun xs651 => ((idx xs414 x622).bind fun q653 => ((idx p0.Places q653).bind fun q655 => (bif (q655.From == x572) then some xs651 else (impl_betterCircuit_L7 F p0 xs414 x572 n644 xs651 q655.From))))))

def impl_betterCircuit (F : Nat) (p0 : GEventGraph) (p1 : GRatio) : Option (List Int) :=
  ((mk p0.Events (0 : Int)).bind fun xs5 => ((mk p0.Events (0 : Int)).bind fun xs8 => (Option.bind (impl_betterCircuit_L4 F p0 p1 F xs5 xs8 (-1) 0) fun r417 => match r417 with | .inl x_ => some x_ | .inr (xs414, x416) => (Option.bind (impl_betterCircuit_L6 F p0 xs414 F x416 0) fun x572 => (Option.bind (impl_betterCircuit_L7 F p0 xs414 x572 F ([] : List Int) x572) fun xs636 => ((slices_Reverse_int64 F xs636).bind fun r658 => ((nonE r658.2).bind fun _ => some r658.2)))))))

def slices_Clone_int64 (_F : Nat) (p0_s : List Int) : Option (List Int) :=
  ((app ([] : List Int) p0_s).bind fun xs5 => some xs5)

def slices_Min_int64_L1 (F : Nat) (p0_x : List Int) : Nat → Int → Int → Option (Int)
  | 0, _, _ => none
  | n21 + 1, x12, x13 => (bif (decide (x13 < (p0_x.length : Int))) then ((idx p0_x x13).bind fun q23 => (slices_Min_int64_L1 F p0_x n21 (min x12 q23) (IntKind.i64.wrap (x13 + 1)))) else some x12)

def slices_Min_int64 (F : Nat) (p0_x : List Int) : Option (Int) :=
  (bif (decide ((p0_x.length : Int) < 1)) then none else ((idx p0_x 0).bind fun q2 => (Option.bind (slices_Min_int64_L1 F p0_x F q2 1) fun x17 => some x17)))

def impl_LatestTimetable_L5 (F : Nat) (p0 : GEventGraph) (p1 : Int) : Nat → (List Int) → Bool → Int → Option ((List Int) × Bool)
  | 0, _, _, _ => none
  | n302 + 1, xs279, b281, x282 => (bif (decide (x282 < (p0.Places.length : Int))) then ((idx p0.Places x282).bind fun q304 => ((idx xs279 q304.To).bind fun q307 => ((idx xs279 q304.From).bind fun q309 => (bif (decide ((IntKind.i64.wrap ((IntKind.i64.wrap (q307 + (IntKind.i64.wrap (q304.Tokens * p1)))) - q304.Delay)) < q309)) then ((idx xs279 q304.From).bind fun _q312 => ((upd xs279 q304.From (IntKind.i64.wrap ((IntKind.i64.wrap (q307 + (IntKind.i64.wrap (q304.Tokens * p1)))) - q304.Delay))).bind fun xs314 => (impl_LatestTimetable_L5 F p0 p1 n302 xs314 true (IntKind.i64.wrap (x282 + 1))))) else (impl_LatestTimetable_L5 F p0 p1 n302 xs279 b281 (IntKind.i64.wrap (x282 + 1))))))) else some (xs279, b281))

def impl_LatestTimetable_L4 (F : Nat) (p0 : GEventGraph) (p1 : Int) : Nat → (List Int) → Bool → Option (List Int)
  | 0, _, _ => none
  | n247 + 1, xs171, b173 => (bif b173 then (Option.bind (impl_LatestTimetable_L5 F p0 p1 F xs171 false 0) fun (xs296, b298) => (impl_LatestTimetable_L4 F p0 p1 n247 xs296 b298)) else some xs171)

def impl_LatestTimetable (F : Nat) (p0 : GEventGraph) (p1 : Int) (p2 : List Int) : Option (GTimetable × Int) :=
  ((impl_checkPeriod F p0 p1).bind fun r3 => (bif (r3 != 0) then some ((GTimetable.mk 0 []), r3) else (Option.bind ((bif ((p2.length : Int) != p0.Events) then some true else ((impl_allWithin F p2 0 1000000).bind fun r14 => some (!r14))) : Option (Bool)) fun b10 => (bif b10 then some ((GTimetable.mk 0 []), 2) else ((impl_betterCircuit F p0 (GRatio.mk p1 1)).bind fun r18 => (bif (!r18.isEmpty) then some ((GTimetable.mk 0 []), 5) else ((slices_Clone_int64 F p2).bind fun r27 => (Option.bind (impl_LatestTimetable_L4 F p0 p1 F r27 true) fun xs242 => ((slices_Min_int64 F xs242).bind fun r316 => (bif (decide (r316 < 0)) then some ((GTimetable.mk 0 []), 4) else some ((GTimetable.mk p1 xs242), 0)))))))))))

def spec_l20Period (F : Nat) (p0_g : GEventGraph) (p1_period : Int) : Option (Int) :=
  ((spec_IsEventGraph F p0_g).bind fun r2 => (bif (!r2) then some 1 else ((spec_l01In F p1_period 0 100000).bind fun r5 => (bif (!r5) then some 2 else some 0))))

def spec_l01Within_L1 (F : Nat) (p0_list : List Int) (p2_low : Int) (p3_high : Int) : Nat → Int → Option (Sum Bool (Unit))
  | 0, _ => none
  | n24 + 1, x14 => (bif (decide (x14 < (p0_list.length : Int))) then ((idx p0_list x14).bind fun q26 => ((spec_l01In F q26 p2_low p3_high).bind fun r28 => (bif (!r28) then some (Sum.inl false) else (spec_l01Within_L1 F p0_list p2_low p3_high n24 (IntKind.i64.wrap (x14 + 1)))))) else some (Sum.inr ()))

def spec_l01Within (F : Nat) (p0_list : List Int) (p1_most : Int) (p2_low : Int) (p3_high : Int) : Option (Bool) :=
  (Option.bind (spec_l01Within_L1 F p0_list p2_low p3_high F 0) fun r21 => match r21 with | .inl x_ => some x_ | .inr _ => some (decide ((p0_list.length : Int) ≤ p1_most)))

def spec_l02Bottom_L5 (F : Nat) (p1_n : Int) : Nat → (List Int) → Int → Option (List Int)
  | 0, _, _ => none
  | n252 + 1, xs231, x236 => (bif (decide (x236 < p1_n)) then ((app xs231 ([(-1000000000000000)])).bind fun xs258 => (spec_l02Bottom_L5 F p1_n n252 xs258 (IntKind.i64.wrap (x236 + 1)))) else some xs231)

def spec_l02Bottom_L4 (F : Nat) (p0_m : Int) (p1_n : Int) : Nat → (List (List Int)) → Int → Option (List (List Int))
  | 0, _, _ => none
  | n207 + 1, ms131, x137 => (bif (decide (x137 < p0_m)) then (Option.bind (spec_l02Bottom_L5 F p1_n F ([] : List Int) 0) fun xs244 => ((app ms131 ([xs244])).bind fun ms264 => (spec_l02Bottom_L4 F p0_m p1_n n207 ms264 (IntKind.i64.wrap (x137 + 1))))) else some ms131)

def spec_l02Bottom (F : Nat) (p0_m : Int) (p1_n : Int) : Option (List (List Int)) :=
  (Option.bind (spec_l02Bottom_L4 F p0_m p1_n F [] 0) fun ms198 => some ms198)

def spec_l15Weights_L1 (F : Nat) (p0_g : GEventGraph) (p1_r : GRatio) : Nat → (List (List Int)) → Int → Option (List (List Int))
  | 0, _, _ => none
  | n93 + 1, ms61, x63 => (bif (decide (x63 < (p0_g.Places.length : Int))) then ((idx p0_g.Places x63).bind fun q95 => ((idx ms61 q95.To).bind fun q98 => ((idx ms61 q95.To).bind fun q103 => ((idx q103 q95.From).bind fun q108 => ((idx q98 q95.From).bind fun _q110 => ((upd q98 q95.From (max q108 (IntKind.i64.wrap ((IntKind.i64.wrap (p1_r.Den * q95.Delay)) - (IntKind.i64.wrap (p1_r.Num * q95.Tokens)))))).bind fun xs112 => ((upd ms61 q95.To xs112).bind fun ms113 => (spec_l15Weights_L1 F p0_g p1_r n93 ms113 (IntKind.i64.wrap (x63 + 1)))))))))) else some ms61)

def spec_l15Weights (F : Nat) (p0_g : GEventGraph) (p1_r : GRatio) : Option (List (List Int)) :=
  ((spec_l02Bottom F p0_g.Events p0_g.Events).bind fun r3 => (Option.bind (spec_l15Weights_L1 F p0_g p1_r F r3 0) fun ms88 => some ms88))

def spec_l02Unit_L1 (F : Nat) (p0_n : Int) : Nat → (List (List Int)) → Int → Option (List (List Int))
  | 0, _, _ => none
  | n61 + 1, ms39, x41 => (bif (decide (x41 < p0_n)) then ((idx ms39 x41).bind fun q63 => ((idx q63 x41).bind fun _q68 => ((upd q63 x41 0).bind fun xs70 => ((upd ms39 x41 xs70).bind fun ms71 => (spec_l02Unit_L1 F p0_n n61 ms71 (IntKind.i64.wrap (x41 + 1))))))) else some ms39)

def spec_l02Unit (F : Nat) (p0_n : Int) : Option (List (List Int)) :=
  ((spec_l02Bottom F p0_n p0_n).bind fun r1 => (Option.bind (spec_l02Unit_L1 F p0_n F r1 0) fun ms56 => some ms56))

def spec_l01Times (_F : Nat) (p0_a : Int) (p1_b : Int) : Option (Int) :=
  (Option.bind ((bif (p0_a == (-1000000000000000)) then some true else some (p1_b == (-1000000000000000))) : Option (Bool)) fun b2 => (bif b2 then some (-1000000000000000) else some (IntKind.i64.wrap (p0_a + p1_b))))

def spec_l02Multiply_L21 (F : Nat) (p0 : List (List Int)) (p1 : List (List Int)) (x3072 : Int) (x5366 : Int) : Nat → (List (List Int)) → Int → Option (List (List Int))
  | 0, _, _ => none
  | n6039 + 1, ms5942, x5944 => (bif (decide (x5944 < (p1.length : Int))) then ((idx ms5942 x3072).bind fun q6085 => ((idx ms5942 x3072).bind fun q6090 => ((idx q6090 x5366).bind fun q6095 => ((idx p0 x3072).bind fun q6097 => ((idx q6097 x5944).bind fun q6106 => ((idx p1 x5944).bind fun q6108 => ((idx q6108 x5366).bind fun q6117 => ((spec_l01Times F q6106 q6117).bind fun r6119 => ((idx q6085 x5366).bind fun _q6121 => ((upd q6085 x5366 (max q6095 r6119)).bind fun xs6123 => ((upd ms5942 x3072 xs6123).bind fun ms6124 => (spec_l02Multiply_L21 F p0 p1 x3072 x5366 n6039 ms6124 (IntKind.i64.wrap (x5944 + 1)))))))))))))) else some ms5942)

def spec_l02Multiply_L20 (F : Nat) (p0 : List (List Int)) (p1 : List (List Int)) (x3072 : Int) : Nat → (List (List Int)) → Int → Option (List (List Int))
  | 0, _, _ => none
  | n5750 + 1, ms5364, x5366 => ((idx p1 0).bind fun q5751 => (bif (decide (x5366 < (q5751.length : Int))) then (Option.bind (spec_l02Multiply_L21 F p0 p1 x3072 x5366 F ms5364 0) fun ms6034 => (spec_l02Multiply_L20 F p0 p1 x3072 n5750 ms6034 (IntKind.i64.wrap (x5366 + 1)))) else some ms5364))

def spec_l02Multiply_L16 (F : Nat) (p0 : List (List Int)) (p1 : List (List Int)) : Nat → (List (List Int)) → Int → Option (List (List Int))
  | 0, _, _ => none
  | n4603 + 1, ms3070, x3072 => (bif (decide (x3072 < (p0.length : Int))) then (Option.bind (spec_l02Multiply_L20 F p0 p1 x3072 F ms3070 0) fun ms5745 => (spec_l02Multiply_L16 F p0 p1 n4603 ms5745 (IntKind.i64.wrap (x3072 + 1)))) else some ms3070)

def spec_l02Multiply (F : Nat) (p0 : List (List Int)) (p1 : List (List Int)) : Option (List (List Int)) :=
  ((idx p1 0).bind fun q1 => ((spec_l02Bottom F (p0.length : Int) (q1.length : Int)).bind fun r10 => (Option.bind (spec_l02Multiply_L16 F p0 p1 F r10 0) fun ms4598 => some ms4598)))

def spec_l02Own_L1 (F : Nat) (p0_a : List (List Int)) : Nat → (List (List Int)) → Int → Option (List (List Int))
  | 0, _, _ => none
  | n99 + 1, ms59, x65 => (bif (decide (x65 < (p0_a.length : Int))) then ((idx p0_a x65).bind fun q101 => ((spec_l01Own F q101).bind fun r110 => ((app ms59 ([r110])).bind fun ms120 => (spec_l02Own_L1 F p0_a n99 ms120 (IntKind.i64.wrap (x65 + 1)))))) else some ms59)

def spec_l02Own (F : Nat) (p0_a : List (List Int)) : Option (List (List Int)) :=
  (Option.bind (spec_l02Own_L1 F p0_a F [] 0) fun ms90 => some ms90)

def spec_l02Add_L5 (F : Nat) (p1_b : List (List Int)) (x335 : Int) : Nat → (List (List Int)) → Int → Option (List (List Int))
  | 0, _, _ => none
  | n626 + 1, ms581, x583 => ((idx ms581 x335).bind fun q627 => (bif (decide (x583 < (q627.length : Int))) then ((idx ms581 x335).bind fun q633 => ((idx ms581 x335).bind fun q638 => ((idx q638 x583).bind fun q643 => ((idx p1_b x335).bind fun q645 => ((idx q645 x583).bind fun q654 => ((idx q633 x583).bind fun _q656 => ((upd q633 x583 (max q643 q654)).bind fun xs658 => ((upd ms581 x335 xs658).bind fun ms659 => (spec_l02Add_L5 F p1_b x335 n626 ms659 (IntKind.i64.wrap (x583 + 1))))))))))) else some ms581))

def spec_l02Add_L4 (F : Nat) (p1_b : List (List Int)) : Nat → (List (List Int)) → Int → Option (List (List Int))
  | 0, _, _ => none
  | n502 + 1, ms333, x335 => (bif (decide (x335 < (ms333.length : Int))) then (Option.bind (spec_l02Add_L5 F p1_b x335 F ms333 0) fun ms621 => (spec_l02Add_L4 F p1_b n502 ms621 (IntKind.i64.wrap (x335 + 1)))) else some ms333)

def spec_l02Add (F : Nat) (p0_a : List (List Int)) (p1_b : List (List Int)) : Option (List (List Int)) :=
  ((spec_l02Own F p0_a).bind fun r1 => (Option.bind (spec_l02Add_L4 F p1_b F r1 0) fun ms497 => some ms497))

def spec_l01Same_L1 (F : Nat) (p0_a : List Int) (p1_b : List Int) : Nat → Int → Option (Sum Bool (Unit))
  | 0, _ => none
  | n25 + 1, x15 => (bif (decide (x15 < (p0_a.length : Int))) then ((idx p0_a x15).bind fun q27 => ((idx p1_b x15).bind fun q29 => (bif (q27 != q29) then some (Sum.inl false) else (spec_l01Same_L1 F p0_a p1_b n25 (IntKind.i64.wrap (x15 + 1)))))) else some (Sum.inr ()))

def spec_l01Same (F : Nat) (p0_a : List Int) (p1_b : List Int) : Option (Bool) :=
  (bif ((p0_a.length : Int) != (p1_b.length : Int)) then some false else (Option.bind (spec_l01Same_L1 F p0_a p1_b F 0) fun r22 => match r22 with | .inl x_ => some x_ | .inr _ => some true))

def spec_l02Same_L1 (F : Nat) (p0_a : List (List Int)) (p1_b : List (List Int)) : Nat → Int → Option (Sum Bool (Unit))
  | 0, _ => none
  | n73 + 1, x47 => (bif (decide (x47 < (p0_a.length : Int))) then ((idx p0_a x47).bind fun q75 => ((idx p1_b x47).bind fun q84 => ((spec_l01Same F q75 q84).bind fun r93 => (bif (!r93) then some (Sum.inl false) else (spec_l02Same_L1 F p0_a p1_b n73 (IntKind.i64.wrap (x47 + 1))))))) else some (Sum.inr ()))

def spec_l02Same (F : Nat) (p0_a : List (List Int)) (p1_b : List (List Int)) : Option (Bool) :=
  (bif ((p0_a.length : Int) != (p1_b.length : Int)) then some false else (Option.bind (spec_l02Same_L1 F p0_a p1_b F 0) fun r70 => match r70 with | .inl x_ => some x_ | .inr _ => some true))

def spec_l03Star_L1 (F : Nat) (p0_a : List (List Int)) : Nat → (List (List Int)) → Int → Option (List (List Int))
  | 0, _, _ => none
  | n97 + 1, ms59, x65 => (bif (decide (x65 < (p0_a.length : Int))) then ((spec_l02Unit F (p0_a.length : Int)).bind fun r99 => ((spec_l02Multiply F p0_a ms59).bind fun r106 => ((spec_l02Add F r99 r106).bind fun r113 => (spec_l03Star_L1 F p0_a n97 r113 (IntKind.i64.wrap (x65 + 1)))))) else some ms59)

def spec_l03Star (F : Nat) (p0_a : List (List Int)) : Option (List (List Int) × Bool) :=
  ((spec_l02Unit F (p0_a.length : Int)).bind fun r1 => (Option.bind (spec_l03Star_L1 F p0_a F r1 0) fun ms88 => ((spec_l02Unit F (p0_a.length : Int)).bind fun r120 => ((spec_l02Multiply F p0_a ms88).bind fun r127 => ((spec_l02Add F r120 r127).bind fun r134 => ((spec_l02Same F r134 ms88).bind fun r141 => some (ms88, r141)))))))

def spec_l08Sub_L5 (F : Nat) (p0_a : List (List Int)) (p1_b : List Int) (x924 : Int) : Nat → Int → Bool → Int → Option (Int)
  | 0, _, _, _ => none
  | n1730 + 1, x1616, b1617, x1618 => (bif (decide (x1618 < (p0_a.length : Int))) then (Option.bind (((idx p0_a x1618).bind fun q1787 => ((idx q1787 x924).bind fun q1796 => (bif (q1796 == (-1000000000000000)) then some (x1616, b1617) else ((idx p1_b x1618).bind fun q1799 => (Option.bind ((bif (q1799 != (-1000000000000000)) then ((idx p1_b x1618).bind fun q1819 => ((idx p0_a x1618).bind fun q1821 => ((idx q1821 x924).bind fun q1830 => some (IntKind.i64.wrap (q1819 - q1830))))) else some (-1000000000000000)) : Option (Int)) fun x1815 => (Option.bind ((bif (!b1617) then some true else some (decide (x1815 < x1616))) : Option (Bool)) fun b1833 => (bif b1833 then some (x1815, true) else some (x1616, b1617)))))))) : Option (Int × Bool)) fun (x1783, b1784) => (spec_l08Sub_L5 F p0_a p1_b x924 n1730 x1783 b1784 (IntKind.i64.wrap (x1618 + 1)))) else some x1616)

def spec_l08Sub_L4 (F : Nat) (p0_a : List (List Int)) (p1_b : List Int) : Nat → (List Int) → Int → Option (List Int)
  | 0, _, _ => none
  | n1388 + 1, xs919, x924 => ((idx p0_a 0).bind fun q1389 => (bif (decide (x924 < (q1389.length : Int))) then (Option.bind (spec_l08Sub_L5 F p0_a p1_b x924 F 0 false 0) fun x1726 => ((app xs919 ([x1726])).bind fun xs1842 => (spec_l08Sub_L4 F p0_a p1_b n1388 xs1842 (IntKind.i64.wrap (x924 + 1))))) else some xs919))

def spec_l08Sub (F : Nat) (p0_a : List (List Int)) (p1_b : List Int) : Option (List Int) :=
  (Option.bind (spec_l08Sub_L4 F p0_a p1_b F ([] : List Int) 0) fun xs1380 => some xs1380)

def spec_LatestTimetable_L1 (F : Nat) (r39 : List Int) : Nat → Int → Option (Sum (GTimetable × Int) (Unit))
  | 0, _ => none
  | n62 + 1, x54 => (bif (decide (x54 < (r39.length : Int))) then ((idx r39 x54).bind fun q64 => (bif (decide (q64 < 0)) then some (Sum.inl ((GTimetable.mk 0 []), 4)) else (spec_LatestTimetable_L1 F r39 n62 (IntKind.i64.wrap (x54 + 1))))) else some (Sum.inr ()))

def spec_LatestTimetable (F : Nat) (p0_g : GEventGraph) (p1_period : Int) (p2_due : List Int) : Option (GTimetable × Int) :=
  ((spec_l20Period F p0_g p1_period).bind fun r3 => (Option.bind ((bif (r3 == 0) then (bif ((p2_due.length : Int) != p0_g.Events) then some true else ((spec_l01Within F p2_due 10 0 1000000).bind fun r14 => some (!r14))) else some false) : Option (Bool)) fun b9 => (Option.bind ((bif b9 then some 2 else some r3) : Option (Int)) fun x17 => (bif (x17 != 0) then some ((GTimetable.mk 0 []), x17) else ((spec_l15Weights F p0_g (GRatio.mk p1_period 1)).bind fun r23 => ((spec_l03Star F r23).bind fun r30 => (bif (!r30.2) then some ((GTimetable.mk 0 []), 5) else ((spec_l08Sub F r30.1 p2_due).bind fun r39 => (Option.bind (spec_LatestTimetable_L1 F r39 F 0) fun r59 => match r59 with | .inl x_ => some x_ | .inr _ => some ((GTimetable.mk p1_period r39), 0))))))))))

def laws_likeInts_L1 (F : Nat) (p0_a : List Int) (p1_b : List Int) : Nat → Int → Option (Sum Bool (Unit))
  | 0, _ => none
  | n25 + 1, x15 => (bif (decide (x15 < (p0_a.length : Int))) then ((idx p0_a x15).bind fun q27 => ((idx p1_b x15).bind fun q29 => (bif (q27 != q29) then some (Sum.inl false) else (laws_likeInts_L1 F p0_a p1_b n25 (IntKind.i64.wrap (x15 + 1)))))) else some (Sum.inr ()))

def laws_likeInts (F : Nat) (p0_a : List Int) (p1_b : List Int) : Option (Bool) :=
  (bif ((p0_a.length : Int) != (p1_b.length : Int)) then some false else (Option.bind (laws_likeInts_L1 F p0_a p1_b F 0) fun r22 => match r22 with | .inl x_ => some x_ | .inr _ => some true))

def laws_likeTimetables9 (F : Nat) (p0_a : GTimetable) (p1_b : GTimetable) : Option (Bool) :=
  (Option.bind ((bif (p0_a.Period == p1_b.Period) then ((laws_likeInts F p0_a.Starts p1_b.Starts).bind fun r10 => some r10) else some false) : Option (Bool)) fun b6 => some b6)

def impl_isTimetable (F : Nat) (p0_g : GEventGraph) (p1_t : GTimetable) : Option (Bool) :=
  (Option.bind (((impl_within F p1_t.Period 0 100000).bind fun r12 => (bif r12 then (bif ((p1_t.Starts.length : Int) == p0_g.Events) then ((impl_allWithin F p1_t.Starts 0 1000000).bind fun r16 => some r16) else some false) else some false)) : Option (Bool)) fun b9 => some b9)

def impl_checkTimetable (F : Nat) (p0_g : GEventGraph) (p1_t : GTimetable) : Option (Int) :=
  ((impl_IsEventGraph F p0_g).bind fun r3 => (bif (!r3) then some 1 else ((impl_isTimetable F p0_g p1_t).bind fun r6 => (bif (!r6) then some 2 else some 0))))

def impl_slacksOf_L1 (F : Nat) (p0_g : GEventGraph) (p1_t : GTimetable) : Nat → (List Int) → Int → Option (List Int)
  | 0, _, _ => none
  | n53 + 1, xs33, x35 => (bif (decide (x35 < (p0_g.Places.length : Int))) then ((idx p0_g.Places x35).bind fun q55 => ((idx p1_t.Starts q55.To).bind fun q58 => ((idx p1_t.Starts q55.From).bind fun q60 => ((idx xs33 x35).bind fun _q62 => ((upd xs33 x35 (IntKind.i64.wrap ((IntKind.i64.wrap ((IntKind.i64.wrap (q58 + (IntKind.i64.wrap (q55.Tokens * p1_t.Period)))) - q60)) - q55.Delay))).bind fun xs64 => (impl_slacksOf_L1 F p0_g p1_t n53 xs64 (IntKind.i64.wrap (x35 + 1)))))))) else some xs33)

def impl_slacksOf (F : Nat) (p0_g : GEventGraph) (p1_t : GTimetable) : Option (List Int) :=
  ((mk (p0_g.Places.length : Int) (0 : Int)).bind fun xs5 => (Option.bind (impl_slacksOf_L1 F p0_g p1_t F xs5 0) fun xs48 => some xs48))

def slices_IndexFunc_int64_L1 (F : Nat) (p0_s : List Int) (m_p1_f : Int → Option Bool) : Nat → Int → Option (Sum Int (Unit))
  | 0, _ => none
  | n24 + 1, x14 => (bif (decide (x14 < (p0_s.length : Int))) then ((idx p0_s x14).bind fun q26 => ((m_p1_f q26).bind fun r28 => (bif r28 then some (Sum.inl x14) else (slices_IndexFunc_int64_L1 F p0_s m_p1_f n24 (IntKind.i64.wrap (x14 + 1)))))) else some (Sum.inr ()))

def slices_IndexFunc_int64 (F : Nat) (p0_s : List Int) (m_p1_f : Int → Option Bool) : Option (Int) :=
  (Option.bind (slices_IndexFunc_int64_L1 F p0_s m_p1_f F 0) fun r21 => match r21 with | .inl x_ => some x_ | .inr _ => some (-1))

def slices_ContainsFunc_int64 (F : Nat) (p0_s : List Int) (m_p1_f : Int → Option Bool) : Option (Bool) :=
  ((slices_IndexFunc_int64 F p0_s m_p1_f).bind fun r1 => some (decide (0 ≤ r1)))

def impl_isKept_c1 (_F : Nat) (p0_slack : Int) : Option (Bool) :=
  some (decide (p0_slack < 0))

def impl_isKept (F : Nat) (p0_g : GEventGraph) (p1_t : GTimetable) : Option (Bool) :=
  ((impl_slacksOf F p0_g p1_t).bind fun r3 => ((slices_ContainsFunc_int64 F r3 (fun x0 => impl_isKept_c1 F x0)).bind fun r9 => some (!r9)))

def impl_IsKept (F : Nat) (p0_g : GEventGraph) (p1_t : GTimetable) : Option (Bool × Int) :=
  ((impl_checkTimetable F p0_g p1_t).bind fun r3 => (bif (r3 != 0) then some (false, r3) else ((impl_isKept F p0_g p1_t).bind fun r6 => some (r6, 0))))

def impl_matrixBy_L5 (F : Nat) (m_p2_entry : Int → Int → Option Int) (x324 : Int) (q500 : List Int) : Nat → (List (List Int)) → Int → Option (List (List Int))
  | 0, _, _ => none
  | n609 + 1, ms570, x572 => (bif (decide (x572 < (q500.length : Int))) then ((idx ms570 x324).bind fun q626 => ((m_p2_entry x324 x572).bind fun r631 => ((idx q626 x572).bind fun _q633 => ((upd q626 x572 r631).bind fun xs635 => ((upd ms570 x324 xs635).bind fun ms636 => (impl_matrixBy_L5 F m_p2_entry x324 q500 n609 ms636 (IntKind.i64.wrap (x572 + 1)))))))) else some ms570)

def impl_matrixBy_L4 (F : Nat) (p1_n : Int) (m_p2_entry : Int → Int → Option Int) (ms3 : List (List Int)) : Nat → (List (List Int)) → Int → Option (List (List Int))
  | 0, _, _ => none
  | n487 + 1, ms318, x324 => (bif (decide (x324 < (ms3.length : Int))) then ((mk p1_n (0 : Int)).bind fun xs491 => ((idx ms318 x324).bind fun _q492 => ((upd ms318 x324 xs491).bind fun ms497 => ((idx ms497 x324).bind fun q500 => (Option.bind (impl_matrixBy_L5 F m_p2_entry x324 q500 F ms497 0) fun ms604 => (impl_matrixBy_L4 F p1_n m_p2_entry ms3 n487 ms604 (IntKind.i64.wrap (x324 + 1)))))))) else some ms318)

def impl_matrixBy (F : Nat) (p0_m : Int) (p1_n : Int) (m_p2_entry : Int → Int → Option Int) : Option (List (List Int)) :=
  ((mk p0_m ([] : List Int)).bind fun ms3 => (Option.bind (impl_matrixBy_L4 F p1_n m_p2_entry ms3 F ms3 0) fun ms478 => some ms478))

def impl_bottomMatrix_c1 (_F : Nat) (_p0 : Int) (_p1 : Int) : Option (Int) :=
  some (-1000000000000000)

def impl_bottomMatrix (F : Nat) (p0_m : Int) (p1_n : Int) : Option (List (List Int)) :=
  ((impl_matrixBy F p0_m p1_n (fun x0 x1 => impl_bottomMatrix_c1 F x0 x1)).bind fun r1 => some r1)

def impl_weightMatrix_L1 (F : Nat) (p0_g : GEventGraph) (p1_r : GRatio) : Nat → (List (List Int)) → Int → Option (List (List Int))
  | 0, _, _ => none
  | n165 + 1, ms109, x111 => (bif (decide (x111 < (p0_g.Places.length : Int))) then ((idx p0_g.Places x111).bind fun q167 => ((idx ms109 q167.To).bind fun q192 => ((idx ms109 q167.To).bind fun q197 => ((idx q197 q167.From).bind fun q202 => ((impl_placeWeight F q167 p1_r).bind fun r204 => ((idx q192 q167.From).bind fun _q206 => ((upd q192 q167.From (max q202 r204)).bind fun xs208 => ((upd ms109 q167.To xs208).bind fun ms209 => (impl_weightMatrix_L1 F p0_g p1_r n165 ms209 (IntKind.i64.wrap (x111 + 1))))))))))) else some ms109)

def impl_weightMatrix (F : Nat) (p0_g : GEventGraph) (p1_r : GRatio) : Option (List (List Int)) :=
  ((impl_bottomMatrix F p0_g.Events p0_g.Events).bind fun r3 => (Option.bind (impl_weightMatrix_L1 F p0_g p1_r F r3 0) fun ms160 => some ms160))

def impl_unitMatrix_c1 (_F : Nat) (p0_i : Int) (p1_j : Int) : Option (Int) :=
  (bif (p0_i == p1_j) then some 0 else some (-1000000000000000))

def impl_unitMatrix (F : Nat) (p0_n : Int) : Option (List (List Int)) :=
  ((impl_matrixBy F p0_n p0_n (fun x0 x1 => impl_unitMatrix_c1 F x0 x1)).bind fun r1 => some r1)

def impl_addMatrices_c1 (_F : Nat) (p0_i : Int) (p1_j : Int) (z0 : List (List Int)) (z1 : List (List Int)) : Option (Int) :=
  ((idx z0 p0_i).bind fun q1 => ((idx q1 p1_j).bind fun q10 => ((idx z1 p0_i).bind fun q12 => ((idx q12 p1_j).bind fun q21 => some (max q10 q21)))))

def impl_addMatrices (F : Nat) (p0_a : List (List Int)) (p1_b : List (List Int)) : Option (List (List Int)) :=
  ((idx p0_a 0).bind fun q3 => ((impl_matrixBy F (p0_a.length : Int) (q3.length : Int) (fun x0 x1 => impl_addMatrices_c1 F x0 x1 p0_a p1_b)).bind fun r12 => some r12))

def impl_times (_F : Nat) (p0_a : Int) (p1_b : Int) : Option (Int) :=
  (Option.bind ((bif (p0_a == (-1000000000000000)) then some true else some (p1_b == (-1000000000000000))) : Option (Bool)) fun b2 => (bif b2 then some (-1000000000000000) else some (IntKind.i64.wrap (p0_a + p1_b))))

def impl_starOf_L21 (F : Nat) (x2502 : Int) (ms4373 : List (List Int)) (x4375 : Int) : Nat → (List (List Int)) → Int → Option (List (List Int))
  | 0, _, _ => none
  | n4918 + 1, ms4837, x4839 => (bif (decide (x4839 < (ms4373.length : Int))) then ((idx ms4837 x4375).bind fun q4956 => ((idx ms4837 x4375).bind fun q4961 => ((idx q4961 x4839).bind fun q4966 => ((idx ms4837 x4375).bind fun q4968 => ((idx q4968 x2502).bind fun q4973 => ((idx ms4837 x2502).bind fun q4975 => ((idx q4975 x4839).bind fun q4980 => ((impl_times F q4973 q4980).bind fun r4982 => ((idx q4956 x4839).bind fun _q4984 => ((upd q4956 x4839 (max q4966 r4982)).bind fun xs4986 => ((upd ms4837 x4375 xs4986).bind fun ms4987 => (impl_starOf_L21 F x2502 ms4373 x4375 n4918 ms4987 (IntKind.i64.wrap (x4839 + 1)))))))))))))) else some ms4837)

def impl_starOf_L20 (F : Nat) (ms2500 : List (List Int)) (x2502 : Int) : Nat → (List (List Int)) → Int → Option (List (List Int))
  | 0, _, _ => none
  | n4686 + 1, ms4373, x4375 => (bif (decide (x4375 < (ms2500.length : Int))) then (Option.bind (impl_starOf_L21 F x2502 ms4373 x4375 F ms4373 0) fun ms4913 => (impl_starOf_L20 F ms2500 x2502 n4686 ms4913 (IntKind.i64.wrap (x4375 + 1)))) else some ms4373)

def impl_starOf_L16 (F : Nat) (r8 : List (List Int)) : Nat → (List (List Int)) → Int → Option (Sum (List (List Int) × Bool) (List (List Int)))
  | 0, _, _ => none
  | n3749 + 1, ms2500, x2502 => (bif (decide (x2502 < (r8.length : Int))) then ((idx ms2500 x2502).bind fun q3751 => ((idx q3751 x2502).bind fun q3756 => (bif (decide (0 < q3756)) then some (Sum.inl (([] : List (List Int)), false)) else (Option.bind (impl_starOf_L20 F ms2500 x2502 F ms2500 0) fun ms4681 => (impl_starOf_L16 F r8 n3749 ms4681 (IntKind.i64.wrap (x2502 + 1))))))) else some (Sum.inr ms2500))

def impl_starOf_L22 (F : Nat) (ms3744 : List (List Int)) : Nat → Int → Option (Sum (List (List Int) × Bool) (Unit))
  | 0, _ => none
  | n5024 + 1, x5011 => (bif (decide (x5011 < (ms3744.length : Int))) then ((idx ms3744 x5011).bind fun q5026 => ((idx q5026 x5011).bind fun q5031 => (bif (decide (0 < q5031)) then some (Sum.inl (([] : List (List Int)), false)) else (impl_starOf_L22 F ms3744 n5024 (IntKind.i64.wrap (x5011 + 1)))))) else some (Sum.inr ()))

def impl_starOf (F : Nat) (p0 : List (List Int)) : Option (List (List Int) × Bool) :=
  ((impl_unitMatrix F (p0.length : Int)).bind fun r1 => ((impl_addMatrices F p0 r1).bind fun r8 => (Option.bind (impl_starOf_L16 F r8 F r8 0) fun r3746 => match r3746 with | .inl x_ => some x_ | .inr ms3744 => (Option.bind (impl_starOf_L22 F ms3744 F 0) fun r5021 => match r5021 with | .inl x_ => some x_ | .inr _ => some (ms3744, true)))))

def impl_timesVector_L5 (F : Nat) (p1_x : List Int) (x245 : Int) (q371 : List Int) : Nat → (List Int) → Int → Option (List Int)
  | 0, _, _ => none
  | n464 + 1, xs433, x435 => (bif (decide (x435 < (q371.length : Int))) then ((idx q371 x435).bind fun q466 => ((idx xs433 x245).bind fun q478 => ((idx p1_x x435).bind fun q480 => ((impl_times F q466 q480).bind fun r482 => ((idx xs433 x245).bind fun _q484 => ((upd xs433 x245 (max q478 r482)).bind fun xs486 => (impl_timesVector_L5 F p1_x x245 q371 n464 xs486 (IntKind.i64.wrap (x435 + 1))))))))) else some xs433)

def impl_timesVector_L4 (F : Nat) (p0_a : List (List Int)) (p1_x : List Int) : Nat → (List Int) → Int → Option (List Int)
  | 0, _, _ => none
  | n369 + 1, xs243, x245 => (bif (decide (x245 < (p0_a.length : Int))) then ((idx p0_a x245).bind fun q371 => ((idx xs243 x245).bind fun _q380 => ((upd xs243 x245 (-1000000000000000)).bind fun xs382 => (Option.bind (impl_timesVector_L5 F p1_x x245 q371 F xs382 0) fun xs459 => (impl_timesVector_L4 F p0_a p1_x n369 xs459 (IntKind.i64.wrap (x245 + 1))))))) else some xs243)

def impl_timesVector (F : Nat) (p0_a : List (List Int)) (p1_x : List Int) : Option (List Int) :=
  ((mk (p0_a.length : Int) (0 : Int)).bind fun xs3 => (Option.bind (impl_timesVector_L4 F p0_a p1_x F xs3 0) fun xs364 => some xs364))

def impl_timePotential (F : Nat) (p0_g : GEventGraph) (p1_r : GRatio) : Option (List Int × Bool) :=
  ((impl_weightMatrix F p0_g p1_r).bind fun r3 => ((impl_starOf F r3).bind fun r10 => (bif (!r10.2) then some (([] : List Int), false) else ((mk p0_g.Events (0 : Int)).bind fun xs21 => ((impl_timesVector F r10.1 xs21).bind fun r22 => some (r22, true))))))

def impl_EarliestTimetable (F : Nat) (p0_g : GEventGraph) (p1_period : Int) : Option (GTimetable × Int) :=
  ((impl_checkPeriod F p0_g p1_period).bind fun r3 => (bif (r3 != 0) then some ((GTimetable.mk 0 []), r3) else ((impl_timePotential F p0_g (GRatio.mk p1_period 1)).bind fun r7 => (bif (!r7.2) then some ((GTimetable.mk 0 []), 5) else some ((GTimetable.mk p1_period r7.1), 0)))))

def laws_below9_L1 (F : Nat) (p0_a : List Int) (p1_b : List Int) : Nat → Int → Option (Sum Bool (Unit))
  | 0, _ => none
  | n25 + 1, x15 => (bif (decide (x15 < (p0_a.length : Int))) then ((idx p0_a x15).bind fun q27 => ((idx p1_b x15).bind fun q29 => (bif (decide (q29 < q27)) then some (Sum.inl false) else (laws_below9_L1 F p0_a p1_b n25 (IntKind.i64.wrap (x15 + 1)))))) else some (Sum.inr ()))

def laws_below9 (F : Nat) (p0_a : List Int) (p1_b : List Int) : Option (Bool) :=
  (bif ((p0_a.length : Int) != (p1_b.length : Int)) then some false else (Option.bind (laws_below9_L1 F p0_a p1_b F 0) fun r22 => match r22 with | .inl x_ => some x_ | .inr _ => some true))

def laws_FnLatestTables_L5 (F : Nat) (r4 : GEventGraph × Int × List Int) (r15 : GTimetable × Int) (x252 : Int) : Nat → Bool → Int → Option (Bool)
  | 0, _, _ => none
  | n418 + 1, b393, x394 => (bif (decide (x394 < (r4.1.Places.length : Int))) then ((idx r4.1.Places x394).bind fun q420 => (Option.bind ((bif b393 then some true else (bif (q420.From == x252) then ((idx r15.1.Starts q420.To).bind fun q434 => ((idx r15.1.Starts x252).bind fun q436 => some ((IntKind.i64.wrap ((IntKind.i64.wrap ((IntKind.i64.wrap (q434 + (IntKind.i64.wrap (q420.Tokens * r4.2.1)))) - q436)) - q420.Delay)) == 0))) else some false)) : Option (Bool)) fun b429 => (laws_FnLatestTables_L5 F r4 r15 x252 n418 b429 (IntKind.i64.wrap (x394 + 1))))) else some b393)

def laws_FnLatestTables_L4 (F : Nat) (r4 : GEventGraph × Int × List Int) (r15 : GTimetable × Int) : Nat → Int → Option (Sum Bool (Unit))
  | 0, _ => none
  | n347 + 1, x252 => (bif (decide (x252 < r4.1.Events)) then ((idx r15.1.Starts x252).bind fun q349 => ((idx r4.2.2 x252).bind fun q351 => (Option.bind (laws_FnLatestTables_L5 F r4 r15 x252 F (q349 == q351) 0) fun b414 => (bif (!b414) then some (Sum.inl false) else (laws_FnLatestTables_L4 F r4 r15 n347 (IntKind.i64.wrap (x252 + 1))))))) else some (Sum.inr ()))

def laws_FnLatestTables (F : Nat) (p0 : List Int) : Option (Bool) :=
  ((laws_big F p0).bind fun r1 => (bif r1 then some true else ((spec_DrawLatestTimetable F p0).bind fun r4 => ((impl_LatestTimetable F (GEventGraph.mk r4.1.Events r4.1.Places) r4.2.1 r4.2.2).bind fun r15 => ((spec_LatestTimetable F (GEventGraph.mk r4.1.Events r4.1.Places) r4.2.1 r4.2.2).bind fun r22 => (Option.bind ((bif (r15.2 != r22.2) then some true else ((laws_likeTimetables9 F (GTimetable.mk r15.1.Period r15.1.Starts) (GTimetable.mk r22.1.Period r22.1.Starts)).bind fun r36 => some (!r36))) : Option (Bool)) fun b32 => (bif b32 then some false else (bif (r15.2 != 0) then some true else ((impl_IsKept F (GEventGraph.mk r4.1.Events r4.1.Places) (GTimetable.mk r15.1.Period r15.1.Starts)).bind fun r40 => ((impl_EarliestTimetable F (GEventGraph.mk r4.1.Events r4.1.Places) r4.2.1).bind fun r42 => (Option.bind ((bif (r40.2 != 0) then some true else (bif (!r40.1) then some true else (bif (r42.2 != 0) then some true else ((laws_below9 F r15.1.Starts r4.2.2).bind fun r63 => (bif (!r63) then some true else ((laws_below9 F r42.1.Starts r15.1.Starts).bind fun r66 => some (!r66))))))) : Option (Bool)) fun b57 => (bif b57 then some false else (Option.bind (laws_FnLatestTables_L4 F r4 r15 F 0) fun r344 => match r344 with | .inl x_ => some x_ | .inr _ => some true)))))))))))))

end Go.Proofs.Ytebmlphobgaboab
