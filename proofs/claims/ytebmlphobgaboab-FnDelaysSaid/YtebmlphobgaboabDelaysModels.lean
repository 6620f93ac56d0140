/- Plain models of the functions. -/
import Derived.Test.YtebmlphobgaboabLiftP
namespace Go.Proofs.Ytebmlphobgaboab

structure GPlace where
  From : Int
  To : Int
  Delay : Int
  Tokens : Int

structure GEventGraph where
  Events : Int
  Places : List GPlace

structure GRatio where
  Num : Int
  Den : Int

structure GTimetable where
  Period : Int
  Starts : List Int

def laws_big (_F : Nat) (p0_code : List Int) : Option (Bool) :=
  some (decide (4096 < (p0_code.length : Int)))

def spec_l01From_L1 (F : Nat) (p0_code : List Int) : Nat → Int → Int → Option (Int)
  | 0, _, _ => none
  | n34 + 1, x20, x21 => (Option.bind ((bif (decide (x21 < (p0_code.length : Int))) then some (decide (x21 < 64)) else some false) : Option (Bool)) fun b36 => (bif b36 then ((idx p0_code x21).bind fun q41 => (spec_l01From_L1 F p0_code n34 ((IntKind.i64.wrap ((IntKind.i64.wrap (x20 * 67)) + (IntKind.i64.wrap q41))).tmod 2147483647) (IntKind.i64.wrap (x21 + 1)))) else some x20))

def spec_l01From (F : Nat) (p0_code : List Int) : Option ((Int × Int)) :=
  (Option.bind (spec_l01From_L1 F p0_code F 61403 0) fun x30 => some (0, x30))

def spec_l01Next (_F : Nat) (p0_code : List Int) (p0_at : Int) (p0_seed : Int) (p1 : Int) : Option ((Int) × Int × Int) :=
  (bif (decide (p1 ≤ 1)) then some (0, p0_at, p0_seed) else (Option.bind ((bif (decide (p0_at < (p0_code.length : Int))) then ((idx p0_code p0_at).bind fun q18 => (Option.bind ((bif (decide (p1 ≤ 256)) then some (((IntKind.i64.wrap (p0_at + 1)).tmod 2) == 0) else some false) : Option (Bool)) fun b21 => (bif b21 then ((idx p0_code (IntKind.i64.wrap ((IntKind.i64.wrap (p0_at + 1)) - 1))).bind fun q26 => some ((IntKind.i64.wrap (p0_at + 1)), (IntKind.i64.wrap q26))) else some ((IntKind.i64.wrap (p0_at + 1)), (IntKind.i64.wrap ((IntKind.i64.wrap (((IntKind.i64.wrap ((IntKind.i64.wrap (p0_seed * 48271)) + 59)).tmod 2147483647).tdiv 31)) + (IntKind.i64.wrap q18))))))) else some (p0_at, (IntKind.i64.wrap (((IntKind.i64.wrap ((IntKind.i64.wrap (p0_seed * 48271)) + 59)).tmod 2147483647).tdiv 31)))) : Option (Int × Int)) fun (x13, x14) => ((if p1 = 0 then none else some ()).bind fun _u29 => some ((x14.tmod p1), x13, ((IntKind.i64.wrap ((IntKind.i64.wrap (p0_seed * 48271)) + 59)).tmod 2147483647)))))

def spec_l01Pick (F : Nat) (p0_s_code : List Int) (p0_s_at : Int) (p0_s_seed : Int) (p1_list : List Int) : Option ((Int) × Int × Int) :=
  ((spec_l01Next F p0_s_code p0_s_at p0_s_seed (p1_list.length : Int)).bind fun r1 => ((idx p1_list r1.1).bind fun q3 => some (q3, r1.2.1, r1.2.2)))

def spec_l11Draw_L1 (F : Nat) (p0_code : List Int) (r2 : (Int) × Int × Int) : Nat → Int → Int → (List GPlace) → Int → Option (Int × Int × (List GPlace))
  | 0, _, _, _, _ => none
  | n353 + 1, x229, x230, xs231, x236 => (bif (decide (0 < x236)) then (Option.bind (((spec_l01Next F p0_code x229 x230 (IntKind.i64.wrap (1 + r2.1))).bind fun r399 => ((spec_l01Next F p0_code r399.2.1 r399.2.2 (IntKind.i64.wrap (1 + r2.1))).bind fun r401 => ((spec_l01Next F p0_code r401.2.1 r401.2.2 12).bind fun r403 => some (r403.2.1, r403.2.2, r399.1, r401.1, r403.1)))) : Option (Int × Int × Int × Int × Int)) fun (x384, x385, x387, x388, x389) => (Option.bind ((bif (decide (x388 ≤ x387)) then some (x384, x385, true) else ((spec_l01Next F p0_code x384 x385 4).bind fun r430 => some (r430.2.1, r430.2.2, (r430.1 == 0)))) : Option (Int × Int × Bool)) fun (x424, x425, b426) => (Option.bind ((bif b426 then ((spec_l01Next F p0_code x424 x425 2).bind fun r443 => ((spec_l01Next F p0_code r443.2.1 r443.2.2 3).bind fun r445 => some (r445.2.1, r445.2.2, (IntKind.i64.wrap (1 + (IntKind.i64.wrap (r443.1 * r445.1))))))) else some (x424, x425, 0)) : Option (Int × Int × Int)) fun (x437, x438, x439) => ((spec_l01Next F p0_code x437 x438 30).bind fun r447 => (Option.bind ((bif (r447.1 == 0) then some 0 else some x439) : Option (Int)) fun x450 => ((app xs231 ([(GPlace.mk x387 x388 x389 x450)])).bind fun xs458 => (spec_l11Draw_L1 F p0_code r2 n353 r447.2.1 r447.2.2 xs458 (IntKind.i64.wrap (x236 - 1))))))))) else some (x229, x230, xs231))

def spec_l11Draw_L2 (F : Nat) (p0_code : List Int) : Nat → Int → Int → (List GPlace) → Int → Option (Int × Int × (List GPlace))
  | 0, _, _, _, _ => none
  | n660 + 1, x633, x634, xs635, x640 => ((spec_l01Next F p0_code x633 x634 9).bind fun r661 => (bif (decide (x640 < (IntKind.i64.wrap (22 + r661.1)))) then ((app xs635 ([(GPlace.mk 0 0 x640 1)])).bind fun xs668 => (spec_l11Draw_L2 F p0_code n660 r661.2.1 r661.2.2 xs668 (IntKind.i64.wrap (x640 + 1)))) else some (r661.2.1, r661.2.2, xs635)))

def spec_l11Draw (F : Nat) (p0_code : List Int) (p0_at : Int) (p0_seed : Int) : Option ((GEventGraph) × Int × Int) :=
  ((spec_l01Next F p0_code p0_at p0_seed 5).bind fun r2 => ((spec_l01Next F p0_code r2.2.1 r2.2.2 9).bind fun r7 => (Option.bind (spec_l11Draw_L1 F p0_code r2 F r7.2.1 r7.2.2 ([] : List GPlace) r7.1) fun (x343, x344, xs345) => ((spec_l01Next F p0_code x343 x344 60).bind fun r460 => (bif (r460.1 == 0) then ((spec_l01Pick F p0_code r460.2.1 r460.2.2 ([0, 10, 11])).bind fun r465 => some ((GEventGraph.mk r465.1 xs345), r465.2.1, r465.2.2)) else (bif (r460.1 == 1) then (Option.bind (((spec_l01Pick F p0_code r460.2.1 r460.2.2 ([(-1), 0, (IntKind.i64.wrap (1 + r2.1))])).bind fun r547 => ((spec_l01Pick F p0_code r547.2.1 r547.2.2 ([(-1), 1000, 1001])).bind fun r551 => ((app xs345 ([(GPlace.mk r547.1 0 r551.1 1)])).bind fun xs557 => some (r551.2.1, r551.2.2, xs557)))) : Option (Int × Int × (List GPlace))) fun (x522, x523, xs524) => some ((GEventGraph.mk (IntKind.i64.wrap (1 + r2.1)) xs524), x522, x523)) else (bif (r460.1 == 2) then ((spec_l01Pick F p0_code r460.2.1 r460.2.2 ([5, 6, (-1)])).bind fun r598 => ((app xs345 ([(GPlace.mk 0 0 0 r598.1)])).bind fun xs604 => some ((GEventGraph.mk (IntKind.i64.wrap (1 + r2.1)) xs604), r598.2.1, r598.2.2))) else (bif (r460.1 == 3) then (Option.bind (spec_l11Draw_L2 F p0_code F r460.2.1 r460.2.2 xs345 0) fun (x650, x651, xs652) => some ((GEventGraph.mk (IntKind.i64.wrap (1 + r2.1)) xs652), x650, x651)) else some ((GEventGraph.mk (IntKind.i64.wrap (1 + r2.1)) xs345), r460.2.1, r460.2.2)))))))))

def spec_l15Draw (F : Nat) (p0_s_code : List Int) (p0_s_at : Int) (p0_s_seed : Int) : Option ((GEventGraph) × Int × Int) :=
  ((spec_l11Draw F p0_s_code p0_s_at p0_s_seed).bind fun r2 => (Option.bind ((bif (decide (20 < (r2.1.Places.length : Int))) then some (decide (2 < r2.1.Events)) else some false) : Option (Bool)) fun b10 => (Option.bind ((bif b10 then ((cutTo r2.1.Places 20).bind fun xs26 => some xs26) else some r2.1.Places) : Option (List GPlace)) fun xs17 => some ((GEventGraph.mk r2.1.Events xs17), r2.2.1, r2.2.2))))

def spec_l12Draw_L1 (F : Nat) (p0_s_code : List Int) : Nat → Int → Int → (List GPlace) → Int → Option (Int × Int × (List GPlace))
  | 0, _, _, _, _ => none
  | n65 + 1, x40, x41, xs42, x44 => (Option.bind ((bif (decide (x44 < (xs42.length : Int))) then some (decide (x44 < 9)) else some false) : Option (Bool)) fun b67 => (bif b67 then ((spec_l01Next F p0_s_code x40 x41 12).bind fun r72 => (bif (r72.1 == 0) then ((idx xs42 x44).bind fun q75 => ((upd xs42 x44 (GPlace.mk q75.From q75.To q75.Delay 0)).bind fun xs77 => (spec_l12Draw_L1 F p0_s_code n65 r72.2.1 r72.2.2 xs77 (IntKind.i64.wrap (x44 + 1))))) else (spec_l12Draw_L1 F p0_s_code n65 r72.2.1 r72.2.2 xs42 (IntKind.i64.wrap (x44 + 1))))) else some (x40, x41, xs42)))

def spec_l12Draw (F : Nat) (p0_s_code : List Int) (p0_s_at : Int) (p0_s_seed : Int) : Option ((GEventGraph) × Int × Int) :=
  ((spec_l11Draw F p0_s_code p0_s_at p0_s_seed).bind fun r2 => (Option.bind (spec_l12Draw_L1 F p0_s_code F r2.2.1 r2.2.2 r2.1.Places 0) fun (x58, x59, xs60) => some ((GEventGraph.mk r2.1.Events xs60), x58, x59)))

def spec_l01In (_F : Nat) (p0_n : Int) (p1_low : Int) (p2_high : Int) : Option (Bool) :=
  (Option.bind ((bif (decide (p1_low ≤ p0_n)) then some (decide (p0_n ≤ p2_high)) else some false) : Option (Bool)) fun b2 => some b2)

def spec_l11Place (F : Nat) (p0_p : GPlace) (p1_events : Int) : Option (Bool) :=
  (Option.bind (((spec_l01In F p0_p.From 0 (IntKind.i64.wrap (p1_events - 1))).bind fun r16 => (bif r16 then ((spec_l01In F p0_p.To 0 (IntKind.i64.wrap (p1_events - 1))).bind fun r19 => (bif r19 then ((spec_l01In F p0_p.Delay 0 1000).bind fun r22 => (bif r22 then ((spec_l01In F p0_p.Tokens 0 5).bind fun r25 => some r25) else some false)) else some false)) else some false)) : Option (Bool)) fun b13 => some b13)

def spec_IsEventGraph_L1 (F : Nat) (p0_g : GEventGraph) : Nat → Int → Option (Sum Bool (Unit))
  | 0, _ => none
  | n25 + 1, x15 => (bif (decide (x15 < (p0_g.Places.length : Int))) then ((idx p0_g.Places x15).bind fun q27 => ((spec_l11Place F q27 p0_g.Events).bind fun r29 => (bif (!r29) then some (Sum.inl false) else (spec_IsEventGraph_L1 F p0_g n25 (IntKind.i64.wrap (x15 + 1)))))) else some (Sum.inr ()))

def spec_IsEventGraph (F : Nat) (p0_g : GEventGraph) : Option (Bool) :=
  (Option.bind (spec_IsEventGraph_L1 F p0_g F 0) fun r22 => match r22 with | .inl x_ => some x_ | .inr _ => (Option.bind (((spec_l01In F p0_g.Events 1 10).bind fun r38 => (bif r38 then some (decide ((p0_g.Places.length : Int) ≤ 30)) else some false)) : Option (Bool)) fun b35 => some b35))

def spec_l15Sums_L1 (F : Nat) (p0_g : GEventGraph) (p1_list : List Int) : Nat → Int → Int → Int → Option (Int × Int)
  | 0, _, _, _ => none
  | n40 + 1, x23, x24, x25 => (bif (decide (x25 < (p1_list.length : Int))) then ((idx p1_list x25).bind fun q42 => ((idx p0_g.Places q42).bind fun q44 => ((idx p1_list x25).bind fun q46 => ((idx p0_g.Places q46).bind fun q48 => (spec_l15Sums_L1 F p0_g p1_list n40 (IntKind.i64.wrap (x23 + q44.Delay)) (IntKind.i64.wrap (x24 + q48.Tokens)) (IntKind.i64.wrap (x25 + 1))))))) else some (x23, x24))

def spec_l15Sums (F : Nat) (p0_g : GEventGraph) (p1_list : List Int) : Option (Int × Int) :=
  (Option.bind (spec_l15Sums_L1 F p0_g p1_list F 0 0 0) fun (x35, x36) => some (x35, x36))

def spec_l15Visits_L1 (F : Nat) (p0_g : GEventGraph) (p1_list : List Int) (p2_event : Int) : Nat → Int → Option (Sum Bool (Unit))
  | 0, _ => none
  | n76 + 1, x49 => (bif (decide (x49 < (p1_list.length : Int))) then (Option.bind (((idx p1_list x49).bind fun q90 => ((idx p0_g.Places q90).bind fun q92 => (bif (q92.From == p2_event) then some true else ((idx p1_list x49).bind fun q95 => ((idx p0_g.Places q95).bind fun q97 => some (q97.To == p2_event)))))) : Option (Bool)) fun b87 => (bif b87 then some (Sum.inl true) else (spec_l15Visits_L1 F p0_g p1_list p2_event n76 (IntKind.i64.wrap (x49 + 1))))) else some (Sum.inr ()))

def spec_l15Visits (F : Nat) (p0_g : GEventGraph) (p1_list : List Int) (p2_event : Int) : Option (Bool) :=
  (Option.bind (spec_l15Visits_L1 F p0_g p1_list p2_event F 0) fun r73 => match r73 with | .inl x_ => some x_ | .inr _ => some false)

def spec_l01Own (_F : Nat) (p0_list : List Int) : Option (List Int) :=
  ((app ([] : List Int) p0_list).bind fun xs5 => some xs5)

def spec_l15Grow_L1 (F : Nat) (p0 : GEventGraph) (p1 : List Int) (p2 : GRatio) (p3 : Int) (q5 : GPlace) (q9 : GPlace) (rec_ : GEventGraph → (List Int) → GRatio → Int → Option (List Int)) : Nat → Int → Option (Sum (List Int) (Unit))
  | 0, _ => none
  | n1009 + 1, x676 => (bif (decide (x676 < (p0.Places.length : Int))) then (Option.bind (((idx p0.Places x676).bind fun q1176 => (Option.bind ((bif (q1176.From != q9.To) then some true else (bif (decide (q1176.To < q5.From)) then some true else (bif (q1176.To != q5.From) then ((spec_l15Visits F p0 p1 q1176.To).bind fun r1190 => some r1190) else some false))) : Option (Bool)) fun b1184 => (bif b1184 then some (Sum.inr ()) else (Option.bind (((spec_l01Own F p1).bind fun r1292 => ((app r1292 ([x676])).bind fun xs1302 => ((rec_ p0 xs1302 p2 p3).bind fun r1304 => some r1304))) : Option (List Int)) fun xs1262 => (bif (decide (0 < (xs1262.length : Int))) then some (Sum.inl xs1262) else some (Sum.inr ())))))) : Option (Sum (List Int) (Unit))) fun r1174 => match r1174 with | .inl x_ => some (Sum.inl x_) | .inr _ => (spec_l15Grow_L1 F p0 p1 p2 p3 q5 q9 rec_ n1009 (IntKind.i64.wrap (x676 + 1)))) else some (Sum.inr ()))

def spec_l15Grow_rec (F : Nat) : Nat → GEventGraph → (List Int) → GRatio → Int → Option (List Int)
  | 0, _, _, _, _ => none
  | k_ + 1, p0, p1, p2, p3 => ((idx p1 0).bind fun q3 => ((idx p0.Places q3).bind fun q5 => ((idx p1 (IntKind.i64.wrap ((p1.length : Int) - 1))).bind fun q7 => ((idx p0.Places q7).bind fun q9 => (bif (q9.To == q5.From) then ((spec_l15Sums F p0 p1).bind fun r12 => (bif (decide (p3 < (IntKind.i64.wrap ((IntKind.i64.wrap (p2.Den * r12.1)) - (IntKind.i64.wrap (p2.Num * r12.2)))))) then some p1 else some ([] : List Int))) else (Option.bind (spec_l15Grow_L1 F p0 p1 p2 p3 q5 q9 (spec_l15Grow_rec F k_) F 0) fun r1006 => match r1006 with | .inl x_ => some x_ | .inr _ => some ([] : List Int)))))))

def spec_l15Grow (F : Nat) (p0 : GEventGraph) (p1 : List Int) (p2 : GRatio) (p3 : Int) : Option (List Int) := spec_l15Grow_rec F F p0 p1 p2 p3

def spec_l15Over_L1 (F : Nat) (p0_g : GEventGraph) (p1_r : GRatio) (p2_over : Int) : Nat → Int → Option (Sum (List Int) (Unit))
  | 0, _ => none
  | n125 + 1, x82 => (bif (decide (x82 < (p0_g.Places.length : Int))) then (Option.bind (((idx p0_g.Places x82).bind fun q147 => (bif (decide (q147.To < q147.From)) then some (Sum.inr ()) else ((spec_l15Grow F p0_g ([x82]) p1_r p2_over).bind fun r153 => (bif (decide (0 < (r153.length : Int))) then some (Sum.inl r153) else some (Sum.inr ()))))) : Option (Sum (List Int) (Unit))) fun r145 => match r145 with | .inl x_ => some (Sum.inl x_) | .inr _ => (spec_l15Over_L1 F p0_g p1_r p2_over n125 (IntKind.i64.wrap (x82 + 1)))) else some (Sum.inr ()))

def spec_l15Over (F : Nat) (p0_g : GEventGraph) (p1_r : GRatio) (p2_over : Int) : Option (List Int) :=
  (Option.bind (spec_l15Over_L1 F p0_g p1_r p2_over F 0) fun r122 => match r122 with | .inl x_ => some x_ | .inr _ => some ([] : List Int))

def spec_l01Floor (_F : Nat) (p0_a : Int) (p1_b : Int) : Option (Int) :=
  ((if p1_b = 0 then none else some ()).bind fun _u2 => ((if p1_b = 0 then none else some ()).bind fun _u4 => (Option.bind ((bif (decide ((p0_a.tmod p1_b) < 0)) then some (IntKind.i64.wrap ((IntKind.i64.wrap (p0_a.tdiv p1_b)) - 1)) else some (IntKind.i64.wrap (p0_a.tdiv p1_b))) : Option (Int)) fun x6 => some x6)))

def spec_l01Ceil (F : Nat) (p0_a : Int) (p1_b : Int) : Option (Int) :=
  ((spec_l01Floor F (IntKind.i64.wrap (0 - p0_a)) p1_b).bind fun r1 => some (IntKind.i64.wrap (0 - r1)))

def spec_LeastPeriod_L1 (F : Nat) (p0_g : GEventGraph) : Nat → Int → Option (Sum (Int × Int) (Unit))
  | 0, _ => none
  | n49 + 1, x32 => (bif (decide (x32 ≤ 100000)) then ((spec_l15Over F p0_g (GRatio.mk x32 1) 0).bind fun r51 => (bif ((r51.length : Int) == 0) then some (Sum.inl (x32, 0)) else ((spec_l15Sums F p0_g r51).bind fun r58 => (bif (r58.2 == 0) then some (Sum.inr ()) else ((spec_l01Ceil F r58.1 r58.2).bind fun r61 => (spec_LeastPeriod_L1 F p0_g n49 r61)))))) else some (Sum.inr ()))

def spec_LeastPeriod (F : Nat) (p0_g : GEventGraph) : Option (Int × Int) :=
  ((spec_IsEventGraph F p0_g).bind fun r2 => (bif (!r2) then some (0, 1) else (Option.bind (spec_LeastPeriod_L1 F p0_g F 0) fun r46 => match r46 with | .inl x_ => some x_ | .inr _ => some (0, 5))))

def spec_l20DrawPeriod (F : Nat) (p0_s_code : List Int) (p0_s_at : Int) (p0_s_seed : Int) : Option ((GEventGraph × Int) × Int × Int) :=
  ((spec_l15Draw F p0_s_code p0_s_at p0_s_seed).bind fun r2 => ((spec_l01Next F p0_s_code r2.2.1 r2.2.2 20).bind fun r9 => (Option.bind ((bif (r9.1 == 0) then ((spec_l12Draw F p0_s_code r9.2.1 r9.2.2).bind fun r37 => (Option.bind ((bif (decide (20 < (r37.1.Places.length : Int))) then some (decide (2 < r37.1.Events)) else some false) : Option (Bool)) fun b44 => (bif b44 then ((cutTo r37.1.Places 20).bind fun xs50 => some (r37.2.1, r37.2.2, r37.1.Events, xs50)) else some (r37.2.1, r37.2.2, r37.1.Events, r37.1.Places)))) else some (r9.2.1, r9.2.2, r2.1.Events, r2.1.Places)) : Option (Int × Int × Int × (List GPlace))) fun (x26, x27, x28, xs29) => ((spec_LeastPeriod F (GEventGraph.mk x28 xs29)).bind fun r51 => (Option.bind ((bif (r51.2 != 0) then some (x26, x27, true) else ((spec_l01Next F p0_s_code x26 x27 4).bind fun r62 => some (r62.2.1, r62.2.2, (r62.1 == 0)))) : Option (Int × Int × Bool)) fun (x56, x57, b58) => (bif b58 then (Option.bind (((spec_l01Next F p0_s_code x56 x57 30).bind fun r154 => ((spec_l01Next F p0_s_code r154.2.1 r154.2.2 30).bind fun r156 => ((spec_l01Next F p0_s_code r156.2.1 r156.2.2 30).bind fun r158 => ((spec_l01Pick F p0_s_code r158.2.1 r158.2.2 ([(-1), 0, 100000, 100001])).bind fun r162 => ((spec_l01Pick F p0_s_code r162.2.1 r162.2.2 ([r154.1, r156.1, r158.1, r162.1])).bind fun r166 => some (r166.2.1, r166.2.2, x28, xs29, r166.1)))))) : Option (Int × Int × Int × (List GPlace) × Int)) fun (x129, x130, x131, xs132, x137) => some (((GEventGraph.mk x131 xs132), x137), x129, x130)) else ((spec_l01Next F p0_s_code x56 x57 4).bind fun r206 => some (((GEventGraph.mk x28 xs29), (max 0 (IntKind.i64.wrap ((IntKind.i64.wrap (r51.1 + r206.1)) - 1)))), r206.2.1, r206.2.2))))))))

def spec_l20Period (F : Nat) (p0_g : GEventGraph) (p1_period : Int) : Option (Int) :=
  ((spec_IsEventGraph F p0_g).bind fun r2 => (bif (!r2) then some 1 else ((spec_l01In F p1_period 0 100000).bind fun r5 => (bif (!r5) then some 2 else some 0))))

def spec_l02Bottom_L5 (F : Nat) (p1_n : Int) : Nat → (List Int) → Int → Option (List Int)
  | 0, _, _ => none
  | n252 + 1, xs231, x236 => (bif (decide (x236 < p1_n)) then ((app xs231 ([(-1000000000000000)])).bind fun xs258 => (spec_l02Bottom_L5 F p1_n n252 xs258 (IntKind.i64.wrap (x236 + 1)))) else some xs231)

def spec_l02Bottom_L4 (F : Nat) (p0_m : Int) (p1_n : Int) : Nat → (List (List Int)) → Int → Option (List (List Int))
  | 0, _, _ => none
  | n207 + 1, ms131, x137 => (bif (decide (x137 < p0_m)) then (Option.bind (spec_l02Bottom_L5 F p1_n F ([] : List Int) 0) fun xs244 => ((app ms131 ([xs244])).bind fun ms264 => (spec_l02Bottom_L4 F p0_m p1_n n207 ms264 (IntKind.i64.wrap (x137 + 1))))) else some ms131)

def spec_l02Bottom (F : Nat) (p0_m : Int) (p1_n : Int) : Option (List (List Int)) :=
  (Option.bind (spec_l02Bottom_L4 F p0_m p1_n F [] 0) fun ms198 => some ms198)

def spec_l15Weights_L1 (F : Nat) (p0_g : GEventGraph) (p1_r : GRatio) : Nat → (List (List Int)) → Int → Option (List (List Int))
  | 0, _, _ => none
  | n93 + 1, ms61, x63 => (bif (decide (x63 < (p0_g.Places.length : Int))) then ((idx p0_g.Places x63).bind fun q95 => ((idx ms61 q95.To).bind fun q98 => ((idx ms61 q95.To).bind fun q103 => ((idx q103 q95.From).bind fun q108 => ((idx q98 q95.From).bind fun _q110 => ((upd q98 q95.From (max q108 (IntKind.i64.wrap ((IntKind.i64.wrap (p1_r.Den * q95.Delay)) - (IntKind.i64.wrap (p1_r.Num * q95.Tokens)))))).bind fun xs112 => ((upd ms61 q95.To xs112).bind fun ms113 => (spec_l15Weights_L1 F p0_g p1_r n93 ms113 (IntKind.i64.wrap (x63 + 1)))))))))) else some ms61)

def spec_l15Weights (F : Nat) (p0_g : GEventGraph) (p1_r : GRatio) : Option (List (List Int)) :=
  ((spec_l02Bottom F p0_g.Events p0_g.Events).bind fun r3 => (Option.bind (spec_l15Weights_L1 F p0_g p1_r F r3 0) fun ms88 => some ms88))

def spec_l02Unit_L1 (F : Nat) (p0_n : Int) : Nat → (List (List Int)) → Int → Option (List (List Int))
  | 0, _, _ => none
  | n61 + 1, ms39, x41 => (bif (decide (x41 < p0_n)) then ((idx ms39 x41).bind fun q63 => ((idx q63 x41).bind fun _q68 => ((upd q63 x41 0).bind fun xs70 => ((upd ms39 x41 xs70).bind fun ms71 => (spec_l02Unit_L1 F p0_n n61 ms71 (IntKind.i64.wrap (x41 + 1))))))) else some ms39)

def spec_l02Unit (F : Nat) (p0_n : Int) : Option (List (List Int)) :=
  ((spec_l02Bottom F p0_n p0_n).bind fun r1 => (Option.bind (spec_l02Unit_L1 F p0_n F r1 0) fun ms56 => some ms56))

def spec_l01Times (_F : Nat) (p0_a : Int) (p1_b : Int) : Option (Int) :=
  (Option.bind ((bif (p0_a == (-1000000000000000)) then some true else some (p1_b == (-1000000000000000))) : Option (Bool)) fun b2 => (bif b2 then some (-1000000000000000) else some (IntKind.i64.wrap (p0_a + p1_b))))

def spec_l02Multiply_L21 (F : Nat) (p0 : List (List Int)) (p1 : List (List Int)) (x3072 : Int) (x5366 : Int) : Nat → (List (List Int)) → Int → Option (List (List Int))
  | 0, _, _ => none
  | n6039 + 1, ms5942, x5944 => (bif (decide (x5944 < (p1.length : Int))) then ((idx ms5942 x3072).bind fun q6085 => ((idx ms5942 x3072).bind fun q6090 => ((idx q6090 x5366).bind fun q6095 => ((idx p0 x3072).bind fun q6097 => ((idx q6097 x5944).bind fun q6106 => ((idx p1 x5944).bind fun q6108 => ((idx q6108 x5366).bind fun q6117 => ((spec_l01Times F q6106 q6117).bind fun r6119 => ((idx q6085 x5366).bind fun _q6121 => ((upd q6085 x5366 (max q6095 r6119)).bind fun xs6123 => ((upd ms5942 x3072 xs6123).bind fun ms6124 => (spec_l02Multiply_L21 F p0 p1 x3072 x5366 n6039 ms6124 (IntKind.i64.wrap (x5944 + 1)))))))))))))) else some ms5942)

def spec_l02Multiply_L20 (F : Nat) (p0 : List (List Int)) (p1 : List (List Int)) (x3072 : Int) : Nat → (List (List Int)) → Int → Option (List (List Int))
  | 0, _, _ => none
  | n5750 + 1, ms5364, x5366 => ((idx p1 0).bind fun q5751 => (bif (decide (x5366 < (q5751.length : Int))) then (Option.bind (spec_l02Multiply_L21 F p0 p1 x3072 x5366 F ms5364 0) fun ms6034 => (spec_l02Multiply_L20 F p0 p1 x3072 n5750 ms6034 (IntKind.i64.wrap (x5366 + 1)))) else some ms5364))

def spec_l02Multiply_L16 (F : Nat) (p0 : List (List Int)) (p1 : List (List Int)) : Nat → (List (List Int)) → Int → Option (List (List Int))
  | 0, _, _ => none
  | n4603 + 1, ms3070, x3072 => (bif (decide (x3072 < (p0.length : Int))) then (Option.bind (spec_l02Multiply_L20 F p0 p1 x3072 F ms3070 0) fun ms5745 => (spec_l02Multiply_L16 F p0 p1 n4603 ms5745 (IntKind.i64.wrap (x3072 + 1)))) else some ms3070)

def spec_l02Multiply (F : Nat) (p0 : List (List Int)) (p1 : List (List Int)) : Option (List (List Int)) :=
  ((idx p1 0).bind fun q1 => ((spec_l02Bottom F (p0.length : Int) (q1.length : Int)).bind fun r10 => (Option.bind (spec_l02Multiply_L16 F p0 p1 F r10 0) fun ms4598 => some ms4598)))

def spec_l02Own_L1 (F : Nat) (p0_a : List (List Int)) : Nat → (List (List Int)) → Int → Option (List (List Int))
  | 0, _, _ => none
  | n99 + 1, ms59, x65 => (bif (decide (x65 < (p0_a.length : Int))) then ((idx p0_a x65).bind fun q101 => ((spec_l01Own F q101).bind fun r110 => ((app ms59 ([r110])).bind fun ms120 => (spec_l02Own_L1 F p0_a n99 ms120 (IntKind.i64.wrap (x65 + 1)))))) else some ms59)

def spec_l02Own (F : Nat) (p0_a : List (List Int)) : Option (List (List Int)) :=
  (Option.bind (spec_l02Own_L1 F p0_a F [] 0) fun ms90 => some ms90)

def spec_l02Add_L5 (F : Nat) (p1_b : List (List Int)) (x335 : Int) : Nat → (List (List Int)) → Int → Option (List (List Int))
  | 0, _, _ => none
  | n626 + 1, ms581, x583 => ((idx ms581 x335).bind fun q627 => (bif (decide (x583 < (q627.length : Int))) then ((idx ms581 x335).bind fun q633 => ((idx ms581 x335).bind fun q638 => ((idx q638 x583).bind fun q643 => ((idx p1_b x335).bind fun q645 => ((idx q645 x583).bind fun q654 => ((idx q633 x583).bind fun _q656 => ((upd q633 x583 (max q643 q654)).bind fun xs658 => ((upd ms581 x335 xs658).bind fun ms659 => (spec_l02Add_L5 F p1_b x335 n626 ms659 (IntKind.i64.wrap (x583 + 1))))))))))) else some ms581))

def spec_l02Add_L4 (F : Nat) (p1_b : List (List Int)) : Nat → (List (List Int)) → Int → Option (List (List Int))
  | 0, _, _ => none
  | n502 + 1, ms333, x335 => (bif (decide (x335 < (ms333.length : Int))) then (Option.bind (spec_l02Add_L5 F p1_b x335 F ms333 0) fun ms621 => (spec_l02Add_L4 F p1_b n502 ms621 (IntKind.i64.wrap (x335 + 1)))) else some ms333)

def spec_l02Add (F : Nat) (p0_a : List (List Int)) (p1_b : List (List Int)) : Option (List (List Int)) :=
  ((spec_l02Own F p0_a).bind fun r1 => (Option.bind (spec_l02Add_L4 F p1_b F r1 0) fun ms497 => some ms497))

def spec_l01Same_L1 (F : Nat) (p0_a : List Int) (p1_b : List Int) : Nat → Int → Option (Sum Bool (Unit))
  | 0, _ => none
  | n25 + 1, x15 => (bif (decide (x15 < (p0_a.length : Int))) then ((idx p0_a x15).bind fun q27 => ((idx p1_b x15).bind fun q29 => (bif (q27 != q29) then some (Sum.inl false) else (spec_l01Same_L1 F p0_a p1_b n25 (IntKind.i64.wrap (x15 + 1)))))) else some (Sum.inr ()))

def spec_l01Same (F : Nat) (p0_a : List Int) (p1_b : List Int) : Option (Bool) :=
  (bif ((p0_a.length : Int) != (p1_b.length : Int)) then some false else (Option.bind (spec_l01Same_L1 F p0_a p1_b F 0) fun r22 => match r22 with | .inl x_ => some x_ | .inr _ => some true))

def spec_l02Same_L1 (F : Nat) (p0_a : List (List Int)) (p1_b : List (List Int)) : Nat → Int → Option (Sum Bool (Unit))
  | 0, _ => none
  | n73 + 1, x47 => (bif (decide (x47 < (p0_a.length : Int))) then ((idx p0_a x47).bind fun q75 => ((idx p1_b x47).bind fun q84 => ((spec_l01Same F q75 q84).bind fun r93 => (bif (!r93) then some (Sum.inl false) else (spec_l02Same_L1 F p0_a p1_b n73 (IntKind.i64.wrap (x47 + 1))))))) else some (Sum.inr ()))

def spec_l02Same (F : Nat) (p0_a : List (List Int)) (p1_b : List (List Int)) : Option (Bool) :=
  (bif ((p0_a.length : Int) != (p1_b.length : Int)) then some false else (Option.bind (spec_l02Same_L1 F p0_a p1_b F 0) fun r70 => match r70 with | .inl x_ => some x_ | .inr _ => some true))

def spec_l03Star_L1 (F : Nat) (p0_a : List (List Int)) : Nat → (List (List Int)) → Int → Option (List (List Int))
  | 0, _, _ => none
  | n97 + 1, ms59, x65 => (bif (decide (x65 < (p0_a.length : Int))) then ((spec_l02Unit F (p0_a.length : Int)).bind fun r99 => ((spec_l02Multiply F p0_a ms59).bind fun r106 => ((spec_l02Add F r99 r106).bind fun r113 => (spec_l03Star_L1 F p0_a n97 r113 (IntKind.i64.wrap (x65 + 1)))))) else some ms59)

def spec_l03Star (F : Nat) (p0_a : List (List Int)) : Option (List (List Int) × Bool) :=
  ((spec_l02Unit F (p0_a.length : Int)).bind fun r1 => (Option.bind (spec_l03Star_L1 F p0_a F r1 0) fun ms88 => ((spec_l02Unit F (p0_a.length : Int)).bind fun r120 => ((spec_l02Multiply F p0_a ms88).bind fun r127 => ((spec_l02Add F r120 r127).bind fun r134 => ((spec_l02Same F r134 ms88).bind fun r141 => some (ms88, r141)))))))

def spec_l02Apply_L5 (F : Nat) (p0_a : List (List Int)) (p1_x : List Int) (x174 : Int) : Nat → Int → Int → Option (Int)
  | 0, _, _ => none
  | n321 + 1, x299, x300 => (bif (decide (x300 < (p1_x.length : Int))) then ((idx p0_a x174).bind fun q323 => ((idx q323 x300).bind fun q332 => ((idx p1_x x300).bind fun q334 => ((spec_l01Times F q332 q334).bind fun r336 => (spec_l02Apply_L5 F p0_a p1_x x174 n321 (max x299 r336) (IntKind.i64.wrap (x300 + 1))))))) else some x299)

def spec_l02Apply_L4 (F : Nat) (p0_a : List (List Int)) (p1_x : List Int) : Nat → (List Int) → Int → Option (List Int)
  | 0, _, _ => none
  | n263 + 1, xs169, x174 => (bif (decide (x174 < (p0_a.length : Int))) then (Option.bind (spec_l02Apply_L5 F p0_a p1_x x174 F (-1000000000000000) 0) fun x317 => ((app xs169 ([x317])).bind fun xs342 => (spec_l02Apply_L4 F p0_a p1_x n263 xs342 (IntKind.i64.wrap (x174 + 1))))) else some xs169)

def spec_l02Apply (F : Nat) (p0_a : List (List Int)) (p1_x : List Int) : Option (List Int) :=
  (Option.bind (spec_l02Apply_L4 F p0_a p1_x F ([] : List Int) 0) fun xs255 => some xs255)

def spec_EarliestTimetable (F : Nat) (p0_g : GEventGraph) (p1_period : Int) : Option (GTimetable × Int) :=
  ((spec_l20Period F p0_g p1_period).bind fun r3 => (bif (r3 != 0) then some ((GTimetable.mk 0 []), r3) else ((spec_l15Weights F p0_g (GRatio.mk p1_period 1)).bind fun r7 => ((spec_l03Star F r7).bind fun r14 => (bif (!r14.2) then some ((GTimetable.mk 0 []), 5) else ((mk p0_g.Events (0 : Int)).bind fun xs25 => ((spec_l02Apply F r14.1 xs25).bind fun r26 => some ((GTimetable.mk p1_period r26), 0))))))))

def spec_l20Draw (F : Nat) (p0_code : List Int) (p0_at : Int) (p0_seed : Int) : Option ((GEventGraph × GTimetable) × Int × Int) :=
  ((spec_l20DrawPeriod F p0_code p0_at p0_seed).bind fun r3 => ((spec_EarliestTimetable F (GEventGraph.mk r3.1.1.Events r3.1.1.Places) r3.1.2).bind fun r10 => (Option.bind ((bif (r10.2 != 0) then ((mk (max 0 (min 12 r3.1.1.Events)) (0 : Int)).bind fun xs32 => some (r3.1.2, xs32)) else some (r10.1.Period, r10.1.Starts)) : Option (Int × (List Int))) fun (x21, xs22) => (Option.bind ((bif (decide (0 < (xs22.length : Int))) then ((spec_l01Next F p0_code r3.2.1 r3.2.2 (xs22.length : Int)).bind fun r89 => ((spec_l01Next F p0_code r89.2.1 r89.2.2 6).bind fun r91 => (bif (r91.1 == 0) then ((idx xs22 r89.1).bind fun q102 => ((spec_l01Next F p0_code r91.2.1 r91.2.2 5).bind fun r104 => ((idx xs22 r89.1).bind fun _q106 => ((upd xs22 r89.1 (IntKind.i64.wrap (q102 + r104.1))).bind fun xs108 => some (r104.2.1, r104.2.2, xs108))))) else (bif (r91.1 == 1) then ((idx xs22 r89.1).bind fun q111 => ((idx xs22 r89.1).bind fun _q113 => ((upd xs22 r89.1 (max 0 (IntKind.i64.wrap (q111 - 1)))).bind fun xs115 => some (r91.2.1, r91.2.2, xs115)))) else (bif (r91.1 == 2) then ((spec_l01Next F p0_code r91.2.1 r91.2.2 8).bind fun r118 => (bif (r118.1 == 0) then ((spec_l01Pick F p0_code r118.2.1 r118.2.2 ([(-1), 1000000, 1000001])).bind fun r131 => ((idx xs22 r89.1).bind fun _q133 => ((upd xs22 r89.1 r131.1).bind fun xs135 => some (r131.2.1, r131.2.2, xs135)))) else some (r118.2.1, r118.2.2, xs22))) else some (r91.2.1, r91.2.2, xs22)))))) else some (r3.2.1, r3.2.2, xs22)) : Option (Int × Int × (List Int))) fun (x82, x83, xs84) => some (((GEventGraph.mk r3.1.1.Events r3.1.1.Places), (GTimetable.mk x21 xs84)), x82, x83)))))

def spec_l21Draw_L1 (F : Nat) (p0_s_code : List Int) (r3 : (GEventGraph × GTimetable) × Int × Int) : Nat → Int → Int → (List Int) → Int → Option (Int × Int × (List Int))
  | 0, _, _, _, _ => none
  | n97 + 1, x61, x62, xs63, x68 => (Option.bind ((bif (decide (x68 < r3.1.1.Events)) then some (decide (x68 < 12)) else some false) : Option (Bool)) fun b99 => (bif b99 then ((spec_l01Next F p0_s_code x61 x62 15).bind fun r104 => ((spec_l01Pick F p0_s_code r104.2.1 r104.2.2 ([0, 0, r104.1])).bind fun r108 => ((app xs63 ([r108.1])).bind fun xs114 => (spec_l21Draw_L1 F p0_s_code r3 n97 r108.2.1 r108.2.2 xs114 (IntKind.i64.wrap (x68 + 1)))))) else some (x61, x62, xs63)))

def spec_l21Draw (F : Nat) (p0_s_code : List Int) (p0_s_at : Int) (p0_s_seed : Int) : Option ((GEventGraph × GTimetable × List Int) × Int × Int) :=
  ((spec_l20Draw F p0_s_code p0_s_at p0_s_seed).bind fun r3 => (Option.bind (spec_l21Draw_L1 F p0_s_code r3 F r3.2.1 r3.2.2 ([] : List Int) 0) fun (x87, x88, xs89) => ((spec_l01Next F p0_s_code x87 x88 30).bind fun r116 => (bif (r116.1 == 0) then ((app xs89 ([0])).bind fun xs123 => some (((GEventGraph.mk r3.1.1.Events r3.1.1.Places), (GTimetable.mk r3.1.2.Period r3.1.2.Starts), xs123), r116.2.1, r116.2.2)) else (bif (r116.1 == 1) then (bif (decide (0 < (xs89.length : Int))) then ((spec_l01Pick F p0_s_code r116.2.1 r116.2.2 ([(-1), 1000000, 1000001])).bind fun r129 => ((idx xs89 0).bind fun _q131 => ((upd xs89 0 r129.1).bind fun xs133 => some (((GEventGraph.mk r3.1.1.Events r3.1.1.Places), (GTimetable.mk r3.1.2.Period r3.1.2.Starts), xs133), r129.2.1, r129.2.2)))) else some (((GEventGraph.mk r3.1.1.Events r3.1.1.Places), (GTimetable.mk r3.1.2.Period r3.1.2.Starts), xs89), r116.2.1, r116.2.2)) else some (((GEventGraph.mk r3.1.1.Events r3.1.1.Places), (GTimetable.mk r3.1.2.Period r3.1.2.Starts), xs89), r116.2.1, r116.2.2))))))

def spec_DrawDelayTable (F : Nat) (p0_code : List Int) : Option (GEventGraph × GTimetable × List Int × Int) :=
  ((spec_l01From F p0_code).bind fun r3 => ((spec_l21Draw F p0_code r3.1 r3.2).bind fun r6 => ((spec_l01Next F p0_code r6.2.1 r6.2.2 24).bind fun r22 => (bif (r22.1 == 0) then ((spec_l01Pick F p0_code r22.2.1 r22.2.2 ([(-1), 0, 50, 51])).bind fun r31 => some ((GEventGraph.mk r6.1.1.Events r6.1.1.Places), (GTimetable.mk r6.1.2.1.Period r6.1.2.1.Starts), r6.1.2.2, r31.1)) else ((spec_l01Next F p0_code r22.2.1 r22.2.2 9).bind fun r35 => some ((GEventGraph.mk r6.1.1.Events r6.1.1.Places), (GTimetable.mk r6.1.2.1.Period r6.1.2.1.Starts), r6.1.2.2, r35.1))))))

def impl_within (_F : Nat) (p0_n : Int) (p1_low : Int) (p2_high : Int) : Option (Bool) :=
  (Option.bind ((bif (decide (p1_low ≤ p0_n)) then some (decide (p0_n ≤ p2_high)) else some false) : Option (Bool)) fun b2 => some b2)

def impl_isEvent (F : Nat) (p0_g : GEventGraph) (p1_event : Int) : Option (Bool) :=
  ((impl_within F p1_event 0 (IntKind.i64.wrap (p0_g.Events - 1))).bind fun r2 => some r2)

def impl_isPlace (F : Nat) (p0_g : GEventGraph) (p1_p : GPlace) : Option (Bool) :=
  (Option.bind (((impl_isEvent F p0_g p1_p.From).bind fun r17 => (bif r17 then ((impl_isEvent F p0_g p1_p.To).bind fun r20 => (bif r20 then ((impl_within F p1_p.Delay 0 1000).bind fun r23 => (bif r23 then ((impl_within F p1_p.Tokens 0 5).bind fun r26 => some r26) else some false)) else some false)) else some false)) : Option (Bool)) fun b14 => some b14)

def impl_IsEventGraph_c1 (F : Nat) (p0_p : GPlace) (z0 : GEventGraph) : Option (Bool) :=
  ((impl_isPlace F z0 p0_p).bind fun r2 => some (!r2))

def slices_IndexFunc_Place_L1 (F : Nat) (p0_s : List GPlace) (m_p1_f : GPlace → Option Bool) : Nat → Int → Option (Sum Int (Unit))
  | 0, _ => none
  | n24 + 1, x14 => (bif (decide (x14 < (p0_s.length : Int))) then ((idx p0_s x14).bind fun q26 => ((m_p1_f q26).bind fun r28 => (bif r28 then some (Sum.inl x14) else (slices_IndexFunc_Place_L1 F p0_s m_p1_f n24 (IntKind.i64.wrap (x14 + 1)))))) else some (Sum.inr ()))

def slices_IndexFunc_Place (F : Nat) (p0_s : List GPlace) (m_p1_f : GPlace → Option Bool) : Option (Int) :=
  (Option.bind (slices_IndexFunc_Place_L1 F p0_s m_p1_f F 0) fun r21 => match r21 with | .inl x_ => some x_ | .inr _ => some (-1))

def slices_ContainsFunc_Place (F : Nat) (p0_s : List GPlace) (m_p1_f : GPlace → Option Bool) : Option (Bool) :=
  ((slices_IndexFunc_Place F p0_s m_p1_f).bind fun r1 => some (decide (0 ≤ r1)))

def impl_IsEventGraph (F : Nat) (p0_g : GEventGraph) : Option (Bool) :=
  (Option.bind (((impl_within F p0_g.Events 1 10).bind fun r11 => (bif r11 then (bif (decide ((p0_g.Places.length : Int) ≤ 30)) then ((slices_ContainsFunc_Place F p0_g.Places (fun x0 => impl_IsEventGraph_c1 F x0 p0_g)).bind fun r15 => some (!r15)) else some false) else some false)) : Option (Bool)) fun b8 => some b8)

def impl_allWithin_L1 (F : Nat) (p0_list : List Int) (p1_low : Int) (p2_high : Int) : Nat → Int → Option (Sum Bool (Unit))
  | 0, _ => none
  | n24 + 1, x14 => (bif (decide (x14 < (p0_list.length : Int))) then ((idx p0_list x14).bind fun q26 => ((impl_within F q26 p1_low p2_high).bind fun r28 => (bif (!r28) then some (Sum.inl false) else (impl_allWithin_L1 F p0_list p1_low p2_high n24 (IntKind.i64.wrap (x14 + 1)))))) else some (Sum.inr ()))

def impl_allWithin (F : Nat) (p0_list : List Int) (p1_low : Int) (p2_high : Int) : Option (Bool) :=
  (Option.bind (impl_allWithin_L1 F p0_list p1_low p2_high F 0) fun r21 => match r21 with | .inl x_ => some x_ | .inr _ => some true)

def impl_isTimetable (F : Nat) (p0_g : GEventGraph) (p1_t : GTimetable) : Option (Bool) :=
  (Option.bind (((impl_within F p1_t.Period 0 100000).bind fun r12 => (bif r12 then (bif ((p1_t.Starts.length : Int) == p0_g.Events) then ((impl_allWithin F p1_t.Starts 0 1000000).bind fun r16 => some r16) else some false) else some false)) : Option (Bool)) fun b9 => some b9)

def slices_Index_int64_L1 (F : Nat) (p0_s : List Int) (p1_v : Int) : Nat → Int → Option (Sum Int (Unit))
  | 0, _ => none
  | n18 + 1, x10 => (bif (decide (x10 < (p0_s.length : Int))) then ((idx p0_s x10).bind fun q20 => (bif (p1_v == q20) then some (Sum.inl x10) else (slices_Index_int64_L1 F p0_s p1_v n18 (IntKind.i64.wrap (x10 + 1))))) else some (Sum.inr ()))

def slices_Index_int64 (F : Nat) (p0_s : List Int) (p1_v : Int) : Option (Int) :=
  (Option.bind (slices_Index_int64_L1 F p0_s p1_v F 0) fun r15 => match r15 with | .inl x_ => some x_ | .inr _ => some (-1))

def slices_Contains_int64 (F : Nat) (p0_s : List Int) (p1_v : Int) : Option (Bool) :=
  ((slices_Index_int64 F p0_s p1_v).bind fun r1 => some (decide (0 ≤ r1)))

def impl_firingOrder_c1 (F : Nat) (p0_p : GPlace) (z0 : Int) (z1 : List Int) : Option (Bool) :=
  (Option.bind ((bif (p0_p.To == z0) then (bif (p0_p.Tokens == 0) then ((slices_Contains_int64 F z1 p0_p.From).bind fun r11 => some (!r11)) else some false) else some false) : Option (Bool)) fun b6 => some b6)

def impl_firingOrder_L5 (F : Nat) (p0_g : GEventGraph) (xs227 : List Int) : Nat → Int → Int → Option (Int)
  | 0, _, _ => none
  | n427 + 1, x398, x400 => (Option.bind ((bif (decide (x400 < p0_g.Events)) then some (decide (x398 < 0)) else some false) : Option (Bool)) fun b429 => (bif b429 then (Option.bind (((slices_Contains_int64 F xs227 x400).bind fun r443 => (bif r443 then some x398 else ((slices_ContainsFunc_Place F p0_g.Places (fun x0 => impl_firingOrder_c1 F x0 x400 xs227)).bind fun r446 => (bif (!r446) then some x400 else some x398)))) : Option (Int)) fun x440 => (impl_firingOrder_L5 F p0_g xs227 n427 x440 (IntKind.i64.wrap (x400 + 1)))) else some x398))

def impl_firingOrder_L4 (F : Nat) (p0_g : GEventGraph) : Nat → (List Int) → Option (Sum (List Int × Bool) (List Int))
  | 0, _ => none
  | n348 + 1, xs227 => (bif (decide ((xs227.length : Int) < p0_g.Events)) then (Option.bind (impl_firingOrder_L5 F p0_g xs227 F (-1) 0) fun x423 => (bif (decide (x423 < 0)) then some (Sum.inl (([] : List Int), false)) else ((app xs227 ([x423])).bind fun xs456 => (impl_firingOrder_L4 F p0_g n348 xs456)))) else some (Sum.inr xs227))

def impl_firingOrder (F : Nat) (p0_g : GEventGraph) : Option (List Int × Bool) :=
  (Option.bind (impl_firingOrder_L4 F p0_g F []) fun r345 => match r345 with | .inl x_ => some x_ | .inr xs340 => some (xs340, true))

def impl_isLive (F : Nat) (p0_g : GEventGraph) : Option (Bool) :=
  ((impl_firingOrder F p0_g).bind fun r2 => some r2.2)

def impl_slacksOf_L1 (F : Nat) (p0_g : GEventGraph) (p1_t : GTimetable) : Nat → (List Int) → Int → Option (List Int)
  | 0, _, _ => none
  | n53 + 1, xs33, x35 => (bif (decide (x35 < (p0_g.Places.length : Int))) then ((idx p0_g.Places x35).bind fun q55 => ((idx p1_t.Starts q55.To).bind fun q58 => ((idx p1_t.Starts q55.From).bind fun q60 => ((idx xs33 x35).bind fun _q62 => ((upd xs33 x35 (IntKind.i64.wrap ((IntKind.i64.wrap ((IntKind.i64.wrap (q58 + (IntKind.i64.wrap (q55.Tokens * p1_t.Period)))) - q60)) - q55.Delay))).bind fun xs64 => (impl_slacksOf_L1 F p0_g p1_t n53 xs64 (IntKind.i64.wrap (x35 + 1)))))))) else some xs33)

def impl_slacksOf (F : Nat) (p0_g : GEventGraph) (p1_t : GTimetable) : Option (List Int) :=
  ((mk (p0_g.Places.length : Int) (0 : Int)).bind fun xs5 => (Option.bind (impl_slacksOf_L1 F p0_g p1_t F xs5 0) fun xs48 => some xs48))

def slices_IndexFunc_int64_L1 (F : Nat) (p0_s : List Int) (m_p1_f : Int → Option Bool) : Nat → Int → Option (Sum Int (Unit))
  | 0, _ => none
  | n24 + 1, x14 => (bif (decide (x14 < (p0_s.length : Int))) then ((idx p0_s x14).bind fun q26 => ((m_p1_f q26).bind fun r28 => (bif r28 then some (Sum.inl x14) else (slices_IndexFunc_int64_L1 F p0_s m_p1_f n24 (IntKind.i64.wrap (x14 + 1)))))) else some (Sum.inr ()))

def slices_IndexFunc_int64 (F : Nat) (p0_s : List Int) (m_p1_f : Int → Option Bool) : Option (Int) :=
  (Option.bind (slices_IndexFunc_int64_L1 F p0_s m_p1_f F 0) fun r21 => match r21 with | .inl x_ => some x_ | .inr _ => some (-1))

def slices_ContainsFunc_int64 (F : Nat) (p0_s : List Int) (m_p1_f : Int → Option Bool) : Option (Bool) :=
  ((slices_IndexFunc_int64 F p0_s m_p1_f).bind fun r1 => some (decide (0 ≤ r1)))

def impl_isKept_c1 (_F : Nat) (p0_slack : Int) : Option (Bool) :=
  some (decide (p0_slack < 0))

def impl_isKept (F : Nat) (p0_g : GEventGraph) (p1_t : GTimetable) : Option (Bool) :=
  ((impl_slacksOf F p0_g p1_t).bind fun r3 => ((slices_ContainsFunc_int64 F r3 (fun x0 => impl_isKept_c1 F x0)).bind fun r9 => some (!r9)))

def impl_checkDelays (F : Nat) (p0_g : GEventGraph) (p1_t : GTimetable) (p2_delays : List Int) (p3_ok : Bool) : Option (Int) :=
  ((impl_IsEventGraph F p0_g).bind fun r3 => (bif (!r3) then some 1 else (Option.bind (((impl_isTimetable F p0_g p1_t).bind fun r16 => (bif (!r16) then some true else (bif ((p2_delays.length : Int) != p0_g.Events) then some true else ((impl_allWithin F p2_delays 0 1000000).bind fun r20 => (bif (!r20) then some true else some (!p3_ok)))))) : Option (Bool)) fun b13 => (bif b13 then some 2 else (Option.bind (((impl_isLive F p0_g).bind fun r32 => (bif (!r32) then some true else ((impl_isKept F p0_g p1_t).bind fun r35 => some (!r35)))) : Option (Bool)) fun b29 => (bif b29 then some 5 else some 0))))))

def impl_delayTable_L21 (F : Nat) (p0 : GEventGraph) (ms1287 : List (List Int)) (x1293 : Int) (q2424 : Int) (r2426 : List Int) : Nat → (List (List Int)) → Int → (List Int) → Option ((List (List Int)) × (List Int))
  | 0, _, _, _ => none
  | n2542 + 1, ms2497, x2499, xs2500 => (bif (decide (x2499 < (r2426.length : Int))) then ((idx r2426 x2499).bind fun q2544 => ((idx p0.Places x2499).bind fun q2546 => (Option.bind ((bif (q2546.To == q2424) then some (decide (q2546.Tokens ≤ x1293)) else some false) : Option (Bool)) fun b2550 => (bif b2550 then ((idx xs2500 q2424).bind fun q2555 => ((idx ms2497 (IntKind.i64.wrap (x1293 - q2546.Tokens))).bind fun q2557 => ((idx q2557 q2546.From).bind fun q2562 => ((idx xs2500 q2424).bind fun _q2564 => ((upd xs2500 q2424 (max q2555 (IntKind.i64.wrap (q2562 - q2544)))).bind fun xs2566 => ((upd ms2497 (ms1287.length : Int) xs2566).bind fun ms2567 => (impl_delayTable_L21 F p0 ms1287 x1293 q2424 r2426 n2542 ms2567 (IntKind.i64.wrap (x2499 + 1)) xs2566))))))) else (impl_delayTable_L21 F p0 ms1287 x1293 q2424 r2426 n2542 ms2497 (IntKind.i64.wrap (x2499 + 1)) xs2500))))) else some (ms2497, xs2500))

def impl_delayTable_L20 (F : Nat) (p0 : GEventGraph) (p1 : GTimetable) (r3 : List Int × Bool) (ms1287 : List (List Int)) (x1293 : Int) : Nat → (List (List Int)) → Int → (List Int) → Option (List (List Int))
  | 0, _, _, _ => none
  | n2422 + 1, ms2261, x2263, xs2264 => (bif (decide (x2263 < (r3.1.length : Int))) then ((idx r3.1 x2263).bind fun q2424 => ((impl_slacksOf F p0 p1).bind fun r2426 => (Option.bind (impl_delayTable_L21 F p0 ms1287 x1293 q2424 r2426 F ms2261 0 xs2264) fun (ms2533, xs2535) => (impl_delayTable_L20 F p0 p1 r3 ms1287 x1293 n2422 ms2533 (IntKind.i64.wrap (x2263 + 1)) xs2535)))) else some ms2261)

def impl_delayTable_L16 (F : Nat) (p0 : GEventGraph) (p1 : GTimetable) (p2 : List Int) (p3 : Int) (r3 : List Int × Bool) : Nat → (List (List Int)) → Int → Option (List (List Int))
  | 0, _, _ => none
  | n1937 + 1, ms1287, x1293 => (bif (decide (x1293 < p3)) then ((mk p0.Events (0 : Int)).bind fun xs1941 => (Option.bind ((bif (x1293 == 0) then some (cpy xs1941 p2) else some xs1941) : Option (List Int)) fun xs1943 => ((app ms1287 ([xs1943])).bind fun ms1952 => (Option.bind (impl_delayTable_L20 F p0 p1 r3 ms1287 x1293 F ms1952 0 xs1943) fun ms2417 => (impl_delayTable_L16 F p0 p1 p2 p3 r3 n1937 ms2417 (IntKind.i64.wrap (x1293 + 1))))))) else some ms1287)

def impl_delayTable (F : Nat) (p0 : GEventGraph) (p1 : GTimetable) (p2 : List Int) (p3 : Int) : Option (List (List Int)) :=
  ((impl_firingOrder F p0).bind fun r3 => (Option.bind (impl_delayTable_L16 F p0 p1 p2 p3 r3 F ([] : List (List Int)) 0) fun ms1928 => some ms1928))

def impl_DelayTable (F : Nat) (p0_g : GEventGraph) (p1_t : GTimetable) (p2_delays : List Int) (p3_n : Int) : Option (List (List Int) × Int) :=
  ((impl_within F p3_n 0 50).bind fun r3 => ((impl_checkDelays F p0_g p1_t p2_delays r3).bind fun r5 => (bif (r5 != 0) then some (([] : List (List Int)), r5) else ((impl_delayTable F p0_g p1_t p2_delays p3_n).bind fun r9 => some (r9, 0)))))

def spec_l01Within_L1 (F : Nat) (p0_list : List Int) (p2_low : Int) (p3_high : Int) : Nat → Int → Option (Sum Bool (Unit))
  | 0, _ => none
  | n24 + 1, x14 => (bif (decide (x14 < (p0_list.length : Int))) then ((idx p0_list x14).bind fun q26 => ((spec_l01In F q26 p2_low p3_high).bind fun r28 => (bif (!r28) then some (Sum.inl false) else (spec_l01Within_L1 F p0_list p2_low p3_high n24 (IntKind.i64.wrap (x14 + 1)))))) else some (Sum.inr ()))

def spec_l01Within (F : Nat) (p0_list : List Int) (p1_most : Int) (p2_low : Int) (p3_high : Int) : Option (Bool) :=
  (Option.bind (spec_l01Within_L1 F p0_list p2_low p3_high F 0) fun r21 => match r21 with | .inl x_ => some x_ | .inr _ => some (decide ((p0_list.length : Int) ≤ p1_most)))

def spec_IsTimetable (F : Nat) (p0_g : GEventGraph) (p1_t : GTimetable) : Option (Bool) :=
  (Option.bind (((spec_IsEventGraph F p0_g).bind fun r15 => (bif r15 then ((spec_l01In F p1_t.Period 0 100000).bind fun r18 => (bif r18 then (bif ((p1_t.Starts.length : Int) == p0_g.Events) then ((spec_l01Within F p1_t.Starts 10 0 1000000).bind fun r22 => some r22) else some false) else some false)) else some false)) : Option (Bool)) fun b12 => some b12)

def spec_l20Code (F : Nat) (p0_g : GEventGraph) (p1_t : GTimetable) : Option (Int) :=
  ((spec_IsEventGraph F p0_g).bind fun r3 => (bif (!r3) then some 1 else ((spec_IsTimetable F p0_g p1_t).bind fun r6 => (bif (!r6) then some 2 else some 0))))

def spec_l12Free_L1 (F : Nat) (p0_g : GEventGraph) : Nat → (List (List Int)) → Int → Option (List (List Int))
  | 0, _, _ => none
  | n83 + 1, ms54, x56 => (bif (decide (x56 < (p0_g.Places.length : Int))) then ((idx p0_g.Places x56).bind fun q85 => (bif (q85.Tokens == 0) then ((idx p0_g.Places x56).bind fun q88 => ((idx ms54 q88.To).bind fun q90 => ((idx p0_g.Places x56).bind fun q95 => ((idx q90 q95.From).bind fun _q97 => ((upd q90 q95.From 0).bind fun xs99 => ((upd ms54 q88.To xs99).bind fun ms100 => (spec_l12Free_L1 F p0_g n83 ms100 (IntKind.i64.wrap (x56 + 1))))))))) else (spec_l12Free_L1 F p0_g n83 ms54 (IntKind.i64.wrap (x56 + 1))))) else some ms54)

def spec_l12Free (F : Nat) (p0_g : GEventGraph) : Option (List (List Int)) :=
  ((spec_l02Bottom F p0_g.Events p0_g.Events).bind fun r2 => (Option.bind (spec_l12Free_L1 F p0_g F r2 0) fun ms78 => some ms78))

def spec_l01Has_L1 (F : Nat) (p0_list : List Int) (p1_x : Int) : Nat → Int → Option (Sum Bool (Unit))
  | 0, _ => none
  | n18 + 1, x10 => (bif (decide (x10 < (p0_list.length : Int))) then ((idx p0_list x10).bind fun q20 => (bif (q20 == p1_x) then some (Sum.inl true) else (spec_l01Has_L1 F p0_list p1_x n18 (IntKind.i64.wrap (x10 + 1))))) else some (Sum.inr ()))

def spec_l01Has (F : Nat) (p0_list : List Int) (p1_x : Int) : Option (Bool) :=
  (Option.bind (spec_l01Has_L1 F p0_list p1_x F 0) fun r15 => match r15 with | .inl x_ => some x_ | .inr _ => some false)

def spec_l03Grow_L1 (F : Nat) (p0 : List (List Int)) (p1 : List Int) (p2 : Int) (p3 : Int) (q3 : Int) (rec_ : (List (List Int)) → (List Int) → Int → Int → Option (List Int)) : Nat → Int → Option (Sum (List Int) (Unit))
  | 0, _ => none
  | n1402 + 1, x951 => (bif (decide (x951 < (p0.length : Int))) then (Option.bind ((Option.bind (((idx p0 x951).bind fun q1645 => ((idx q1645 q3).bind fun q1654 => (bif (q1654 == (-1000000000000000)) then some true else ((spec_l01Has F p1 x951).bind fun r1657 => some r1657)))) : Option (Bool)) fun b1642 => (bif b1642 then some (Sum.inr ()) else (Option.bind (((idx p0 x951).bind fun q1792 => ((idx q1792 q3).bind fun q1801 => ((spec_l01Own F p1).bind fun r1803 => ((app r1803 ([x951])).bind fun xs1813 => ((rec_ p0 xs1813 (IntKind.i64.wrap (p2 + q1801)) p3).bind fun r1815 => some r1815))))) : Option (List Int)) fun xs1751 => (bif (decide (0 < (xs1751.length : Int))) then some (Sum.inl xs1751) else some (Sum.inr ()))))) : Option (Sum (List Int) (Unit))) fun r1626 => match r1626 with | .inl x_ => some (Sum.inl x_) | .inr _ => (spec_l03Grow_L1 F p0 p1 p2 p3 q3 rec_ n1402 (IntKind.i64.wrap (x951 + 1)))) else some (Sum.inr ()))

def spec_l03Grow_rec (F : Nat) : Nat → (List (List Int)) → (List Int) → Int → Int → Option (List Int)
  | 0, _, _, _, _ => none
  | k_ + 1, p0, p1, p2, p3 => ((idx p1 0).bind fun q1 => ((idx p1 (IntKind.i64.wrap ((p1.length : Int) - 1))).bind fun q3 => (Option.bind (((idx p0 q1).bind fun q31 => ((idx q31 q3).bind fun q40 => (bif (q40 != (-1000000000000000)) then ((idx p0 q1).bind fun q43 => ((idx q43 q3).bind fun q52 => some (decide (p3 < (IntKind.i64.wrap (p2 + q52)))))) else some false))) : Option (Bool)) fun b28 => (bif b28 then some p1 else (Option.bind (spec_l03Grow_L1 F p0 p1 p2 p3 q3 (spec_l03Grow_rec F k_) F (IntKind.i64.wrap (q1 + 1))) fun r1399 => match r1399 with | .inl x_ => some x_ | .inr _ => some ([] : List Int))))))

def spec_l03Grow (F : Nat) (p0 : List (List Int)) (p1 : List Int) (p2 : Int) (p3 : Int) : Option (List Int) := spec_l03Grow_rec F F p0 p1 p2 p3

def spec_l03Over_L1 (F : Nat) (p0_a : List (List Int)) (p1_over : Int) : Nat → Int → Option (Sum (List Int) (Unit))
  | 0, _ => none
  | n51 + 1, x32 => (bif (decide (x32 < (p0_a.length : Int))) then ((spec_l03Grow F p0_a ([x32]) 0 p1_over).bind fun r55 => (bif (decide (0 < (r55.length : Int))) then some (Sum.inl r55) else (spec_l03Over_L1 F p0_a p1_over n51 (IntKind.i64.wrap (x32 + 1))))) else some (Sum.inr ()))

def spec_l03Over (F : Nat) (p0_a : List (List Int)) (p1_over : Int) : Option (List Int) :=
  (Option.bind (spec_l03Over_L1 F p0_a p1_over F 0) fun r48 => match r48 with | .inl x_ => some x_ | .inr _ => some ([] : List Int))

def spec_l12Dead (F : Nat) (p0_g : GEventGraph) : Option (List Int) :=
  ((spec_l12Free F p0_g).bind fun r2 => ((spec_l03Over F r2 (-1)).bind fun r9 => some r9))

def spec_l20Slacks_L1 (F : Nat) (p0_g : GEventGraph) (p1_t : GTimetable) : Nat → (List Int) → Int → Option (List Int)
  | 0, _, _ => none
  | n67 + 1, xs39, x44 => (bif (decide (x44 < (p0_g.Places.length : Int))) then ((idx p0_g.Places x44).bind fun q69 => ((idx p1_t.Starts q69.To).bind fun q72 => ((idx p1_t.Starts q69.From).bind fun q74 => ((app xs39 ([(IntKind.i64.wrap ((IntKind.i64.wrap ((IntKind.i64.wrap (q72 + (IntKind.i64.wrap (q69.Tokens * p1_t.Period)))) - q74)) - q69.Delay))])).bind fun xs80 => (spec_l20Slacks_L1 F p0_g p1_t n67 xs80 (IntKind.i64.wrap (x44 + 1))))))) else some xs39)

def spec_l20Slacks (F : Nat) (p0_g : GEventGraph) (p1_t : GTimetable) : Option (List Int) :=
  (Option.bind (spec_l20Slacks_L1 F p0_g p1_t F ([] : List Int) 0) fun xs59 => some xs59)

def spec_l20Kept_L1 (F : Nat) (r3 : List Int) : Nat → Int → Option (Sum Bool (Unit))
  | 0, _ => none
  | n26 + 1, x18 => (bif (decide (x18 < (r3.length : Int))) then ((idx r3 x18).bind fun q28 => (bif (decide (q28 < 0)) then some (Sum.inl false) else (spec_l20Kept_L1 F r3 n26 (IntKind.i64.wrap (x18 + 1))))) else some (Sum.inr ()))

def spec_l20Kept (F : Nat) (p0_g : GEventGraph) (p1_t : GTimetable) : Option (Bool) :=
  ((spec_l20Slacks F p0_g p1_t).bind fun r3 => (Option.bind (spec_l20Kept_L1 F r3 F 0) fun r23 => match r23 with | .inl x_ => some x_ | .inr _ => some true))

def spec_l21Code (F : Nat) (p0_g : GEventGraph) (p1_t : GTimetable) (p2_delays : List Int) (p3_in : Bool) : Option (Int) :=
  ((spec_l20Code F p0_g p1_t).bind fun r3 => (bif (r3 != 0) then some r3 else (Option.bind ((bif (!p3_in) then some true else (bif ((p2_delays.length : Int) != p0_g.Events) then some true else ((spec_l01Within F p2_delays 10 0 1000000).bind fun r15 => some (!r15)))) : Option (Bool)) fun b10 => (bif b10 then some 2 else (Option.bind (((spec_l12Dead F p0_g).bind fun r30 => (bif (decide (0 < (r30.length : Int))) then some true else ((spec_l20Kept F p0_g p1_t).bind fun r37 => some (!r37)))) : Option (Bool)) fun b27 => (bif b27 then some 5 else some 0))))))

def spec_l12Order_L21 (F : Nat) (p0_g : GEventGraph) (r2 : List (List Int)) (xs1024 : List Int) (x1790 : Int) : Nat → Bool → Int → Option (Bool)
  | 0, _, _ => none
  | n2012 + 1, b1980, x1981 => (bif (decide (x1981 < p0_g.Events)) then (Option.bind ((bif b1980 then ((idx r2 x1790).bind fun q2029 => ((idx q2029 x1981).bind fun q2034 => (bif (q2034 == (-1000000000000000)) then some true else ((spec_l01Has F xs1024 x1981).bind fun r2037 => some r2037)))) else some false) : Option (Bool)) fun b2025 => (spec_l12Order_L21 F p0_g r2 xs1024 x1790 n2012 b2025 (IntKind.i64.wrap (x1981 + 1)))) else some b1980)

def spec_l12Order_L20 (F : Nat) (p0_g : GEventGraph) (r2 : List (List Int)) (xs1024 : List Int) : Nat → Int → Option (List Int)
  | 0, _ => none
  | n1922 + 1, x1790 => (bif (decide (x1790 < p0_g.Events)) then ((spec_l01Has F xs1024 x1790).bind fun r1924 => (Option.bind (spec_l12Order_L21 F p0_g r2 xs1024 x1790 F (!r1924) 0) fun b2008 => (bif b2008 then ((app xs1024 ([x1790])).bind fun xs2044 => some xs2044) else (spec_l12Order_L20 F p0_g r2 xs1024 n1922 (IntKind.i64.wrap (x1790 + 1)))))) else some xs1024)

def spec_l12Order_L16 (F : Nat) (p0_g : GEventGraph) (r2 : List (List Int)) : Nat → (List Int) → Option (List Int)
  | 0, _ => none
  | n1541 + 1, xs1024 => (bif (decide ((xs1024.length : Int) < p0_g.Events)) then (Option.bind (spec_l12Order_L20 F p0_g r2 xs1024 F 0) fun xs1914 => (spec_l12Order_L16 F p0_g r2 n1541 xs1914)) else some xs1024)

def spec_l12Order (F : Nat) (p0_g : GEventGraph) : Option (List Int) :=
  ((spec_l12Free F p0_g).bind fun r2 => (Option.bind (spec_l12Order_L16 F p0_g r2 F ([] : List Int)) fun xs1533 => some xs1533))

def spec_l21Table_L21 (F : Nat) (p0 : GEventGraph) (p1 : GTimetable) (r3 : List Int) (ms2789 : List (List Int)) (x2795 : Int) (x4899 : Int) : Nat → (List (List Int)) → Int → (List Int) → Option ((List (List Int)) × (List Int))
  | 0, _, _, _ => none
  | n5498 + 1, ms5405, x5407, xs5408 => (bif (decide (x5407 < (p0.Places.length : Int))) then (Option.bind (((idx p0.Places x5407).bind fun q5542 => (Option.bind (((idx r3 x4899).bind fun q5551 => (bif (q5542.To != q5551) then some true else some (decide ((IntKind.i64.wrap (x2795 - q5542.Tokens)) < 1)))) : Option (Bool)) fun b5548 => (bif b5548 then some (ms5405, xs5408) else ((idx p1.Starts q5542.To).bind fun q5555 => ((idx p1.Starts q5542.From).bind fun q5557 => ((idx xs5408 q5542.To).bind fun q5559 => ((idx ms5405 (IntKind.i64.wrap ((IntKind.i64.wrap (x2795 - q5542.Tokens)) - 1))).bind fun q5561 => ((idx q5561 q5542.From).bind fun q5566 => ((idx xs5408 q5542.To).bind fun _q5568 => ((upd xs5408 q5542.To (max q5559 (IntKind.i64.wrap (q5566 - (IntKind.i64.wrap ((IntKind.i64.wrap ((IntKind.i64.wrap (q5555 + (IntKind.i64.wrap (q5542.Tokens * p1.Period)))) - q5557)) - q5542.Delay)))))).bind fun xs5570 => ((upd ms5405 (ms2789.length : Int) xs5570).bind fun ms5571 => some (ms5571, xs5570)))))))))))) : Option ((List (List Int)) × (List Int))) fun (ms5534, xs5536) => (spec_l21Table_L21 F p0 p1 r3 ms2789 x2795 x4899 n5498 ms5534 (IntKind.i64.wrap (x5407 + 1)) xs5536)) else some (ms5405, xs5408))

def spec_l21Table_L20 (F : Nat) (p0 : GEventGraph) (p1 : GTimetable) (r3 : List Int) (ms2789 : List (List Int)) (x2795 : Int) : Nat → (List (List Int)) → Int → (List Int) → Option (List (List Int))
  | 0, _, _, _ => none
  | n5242 + 1, ms4897, x4899, xs4900 => (bif (decide (x4899 < (r3.length : Int))) then (Option.bind (spec_l21Table_L21 F p0 p1 r3 ms2789 x2795 x4899 F ms4897 0 xs4900) fun (ms5489, xs5491) => (spec_l21Table_L20 F p0 p1 r3 ms2789 x2795 n5242 ms5489 (IntKind.i64.wrap (x4899 + 1)) xs5491)) else some ms4897)

def spec_l21Table_L16 (F : Nat) (p0 : GEventGraph) (p1 : GTimetable) (p2 : List Int) (p3 : Int) (r3 : List Int) : Nat → (List (List Int)) → Int → Option (List (List Int))
  | 0, _, _ => none
  | n4190 + 1, ms2789, x2795 => (bif (decide (x2795 ≤ p3)) then ((mk p0.Events (0 : Int)).bind fun xs4194 => (Option.bind ((bif (x2795 == 1) then ((spec_l01Own F p2).bind fun r4210 => some r4210) else some xs4194) : Option (List Int)) fun xs4202 => ((app ms2789 ([xs4202])).bind fun ms4220 => (Option.bind (spec_l21Table_L20 F p0 p1 r3 ms2789 x2795 F ms4220 0 xs4202) fun ms5237 => (spec_l21Table_L16 F p0 p1 p2 p3 r3 n4190 ms5237 (IntKind.i64.wrap (x2795 + 1))))))) else some ms2789)

def spec_l21Table (F : Nat) (p0 : GEventGraph) (p1 : GTimetable) (p2 : List Int) (p3 : Int) : Option (List (List Int)) :=
  ((spec_l12Order F p0).bind fun r3 => (Option.bind (spec_l21Table_L16 F p0 p1 p2 p3 r3 F [] 1) fun ms4181 => some ms4181))

def spec_DelayTable (F : Nat) (p0_g : GEventGraph) (p1_t : GTimetable) (p2_delays : List Int) (p3_n : Int) : Option (List (List Int) × Int) :=
  ((spec_l01In F p3_n 0 50).bind fun r3 => ((spec_l21Code F p0_g p1_t p2_delays r3).bind fun r5 => (bif (r5 != 0) then some (([] : List (List Int)), r5) else ((spec_l21Table F p0_g p1_t p2_delays p3_n).bind fun r9 => some (r9, 0)))))

def spec_DrawWorstDelays (F : Nat) (p0_code : List Int) : Option (GEventGraph × GTimetable × List Int) :=
  ((spec_l01From F p0_code).bind fun r3 => ((spec_l21Draw F p0_code r3.1 r3.2).bind fun r6 => some ((GEventGraph.mk r6.1.1.Events r6.1.1.Places), (GTimetable.mk r6.1.2.1.Period r6.1.2.1.Starts), r6.1.2.2)))

def impl_settledTable_L1 (F : Nat) (r3 : List (List Int)) : Nat → Int → Option (Int)
  | 0, _ => none
  | n76 + 1, x51 => (Option.bind ((bif (decide (0 < x51)) then ((idx r3 (IntKind.i64.wrap (x51 - 1))).bind fun q89 => ((impl_allWithin F q89 0 0).bind fun r94 => some r94)) else some false) : Option (Bool)) fun b85 => (bif b85 then (impl_settledTable_L1 F r3 n76 (IntKind.i64.wrap (x51 - 1))) else some x51))

def impl_settledTable (F : Nat) (p0_g : GEventGraph) (p1_t : GTimetable) (p2_delays : List Int) : Option (List (List Int) × Int × Int) :=
  ((impl_delayTable F p0_g p1_t p2_delays 50).bind fun r3 => (Option.bind (impl_settledTable_L1 F r3 F (r3.length : Int)) fun x72 => (bif (decide (45 < x72)) then some (([] : List (List Int)), 0, 4) else some (r3, x72, 0))))

def impl_worstOf_L5 (F : Nat) (q192 : List Int) : Nat → (List Int) → Int → Option (List Int)
  | 0, _, _ => none
  | n239 + 1, xs222, x224 => (bif (decide (x224 < (q192.length : Int))) then ((idx q192 x224).bind fun q241 => ((idx xs222 x224).bind fun q243 => ((idx xs222 x224).bind fun _q245 => ((upd xs222 x224 (max q243 q241)).bind fun xs247 => (impl_worstOf_L5 F q192 n239 xs247 (IntKind.i64.wrap (x224 + 1))))))) else some xs222)

def impl_worstOf_L4 (F : Nat) (p1_table : List (List Int)) : Nat → (List Int) → Int → Option (List Int)
  | 0, _, _ => none
  | n190 + 1, xs124, x126 => (bif (decide (x126 < (p1_table.length : Int))) then ((idx p1_table x126).bind fun q192 => (Option.bind (impl_worstOf_L5 F q192 F xs124 0) fun xs234 => (impl_worstOf_L4 F p1_table n190 xs234 (IntKind.i64.wrap (x126 + 1))))) else some xs124)

def impl_worstOf (F : Nat) (p0_g : GEventGraph) (p1_table : List (List Int)) : Option (List Int) :=
  ((mk p0_g.Events (0 : Int)).bind fun xs4 => (Option.bind (impl_worstOf_L4 F p1_table F xs4 0) fun xs185 => some xs185))

def impl_WorstDelays (F : Nat) (p0_g : GEventGraph) (p1_t : GTimetable) (p2_delays : List Int) : Option (List Int × Int) :=
  ((impl_checkDelays F p0_g p1_t p2_delays true).bind fun r3 => (bif (r3 != 0) then some (([] : List Int), r3) else ((impl_settledTable F p0_g p1_t p2_delays).bind fun r7 => (bif (r7.2.2 != 0) then some (([] : List Int), r7.2.2) else ((impl_worstOf F p0_g r7.1).bind fun r16 => some (r16, 0))))))

def spec_l16Sum_L1 (F : Nat) (p0_list : List Int) : Nat → Int → Int → Option (Int)
  | 0, _, _ => none
  | n18 + 1, x9, x10 => (bif (decide (x10 < (p0_list.length : Int))) then ((idx p0_list x10).bind fun q20 => (spec_l16Sum_L1 F p0_list n18 (IntKind.i64.wrap (x9 + q20)) (IntKind.i64.wrap (x10 + 1)))) else some x9)

def spec_l16Sum (F : Nat) (p0_list : List Int) : Option (Int) :=
  (Option.bind (spec_l16Sum_L1 F p0_list F 0 0) fun x14 => some x14)

def spec_l21Settled_L1 (F : Nat) (r3 : List (List Int)) : Nat → Int → Int → Option (Int)
  | 0, _, _ => none
  | n45 + 1, x30, x31 => (bif (decide (x31 < 50)) then ((idx r3 x31).bind fun q47 => ((spec_l16Sum F q47).bind fun r52 => (bif (decide (0 < r52)) then (spec_l21Settled_L1 F r3 n45 (IntKind.i64.wrap (x31 + 1)) (IntKind.i64.wrap (x31 + 1))) else (spec_l21Settled_L1 F r3 n45 x30 (IntKind.i64.wrap (x31 + 1)))))) else some x30)

def spec_l21Settled (F : Nat) (p0_g : GEventGraph) (p1_t : GTimetable) (p2_delays : List Int) : Option (List (List Int) × Int × Bool) :=
  ((spec_l21Table F p0_g p1_t p2_delays 50).bind fun r3 => (Option.bind (spec_l21Settled_L1 F r3 F 0 0) fun x41 => some (r3, x41, (decide (x41 ≤ 45)))))

def spec_WorstDelays_L5 (F : Nat) (r7 : List (List Int) × Int × Bool) (x162 : Int) : Nat → (List Int) → Int → Option (List Int)
  | 0, _, _ => none
  | n292 + 1, xs270, x272 => (bif (decide (x272 < (xs270.length : Int))) then ((idx xs270 x272).bind fun q294 => ((idx r7.1 x162).bind fun q296 => ((idx q296 x272).bind fun q301 => ((idx xs270 x272).bind fun _q303 => ((upd xs270 x272 (max q294 q301)).bind fun xs305 => (spec_WorstDelays_L5 F r7 x162 n292 xs305 (IntKind.i64.wrap (x272 + 1)))))))) else some xs270)

def spec_WorstDelays_L4 (F : Nat) (r7 : List (List Int) × Int × Bool) : Nat → (List Int) → Int → Option (List Int)
  | 0, _, _ => none
  | n237 + 1, xs160, x162 => (bif (decide (x162 < (r7.1.length : Int))) then (Option.bind (spec_WorstDelays_L5 F r7 x162 F xs160 0) fun xs287 => (spec_WorstDelays_L4 F r7 n237 xs287 (IntKind.i64.wrap (x162 + 1)))) else some xs160)

def spec_WorstDelays (F : Nat) (p0_g : GEventGraph) (p1_t : GTimetable) (p2_delays : List Int) : Option (List Int × Int) :=
  ((spec_l21Code F p0_g p1_t p2_delays true).bind fun r3 => (bif (r3 != 0) then some (([] : List Int), r3) else ((spec_l21Settled F p0_g p1_t p2_delays).bind fun r7 => (bif (!r7.2.2) then some (([] : List Int), 4) else ((mk p0_g.Events (0 : Int)).bind fun xs18 => (Option.bind (spec_WorstDelays_L4 F r7 F xs18 0) fun xs232 => some (xs232, 0)))))))

def laws_likeInts_L1 (F : Nat) (p0_a : List Int) (p1_b : List Int) : Nat → Int → Option (Sum Bool (Unit))
  | 0, _ => none
  | n25 + 1, x15 => (bif (decide (x15 < (p0_a.length : Int))) then ((idx p0_a x15).bind fun q27 => ((idx p1_b x15).bind fun q29 => (bif (q27 != q29) then some (Sum.inl false) else (laws_likeInts_L1 F p0_a p1_b n25 (IntKind.i64.wrap (x15 + 1)))))) else some (Sum.inr ()))

def laws_likeInts (F : Nat) (p0_a : List Int) (p1_b : List Int) : Option (Bool) :=
  (bif ((p0_a.length : Int) != (p1_b.length : Int)) then some false else (Option.bind (laws_likeInts_L1 F p0_a p1_b F 0) fun r22 => match r22 with | .inl x_ => some x_ | .inr _ => some true))

def laws_likeTables9_L1 (F : Nat) (p0_a : List (List Int)) (p1_b : List (List Int)) : Nat → Int → Option (Sum Bool (Unit))
  | 0, _ => none
  | n73 + 1, x47 => (bif (decide (x47 < (p0_a.length : Int))) then ((idx p0_a x47).bind fun q75 => ((idx p1_b x47).bind fun q84 => ((laws_likeInts F q75 q84).bind fun r93 => (bif (!r93) then some (Sum.inl false) else (laws_likeTables9_L1 F p0_a p1_b n73 (IntKind.i64.wrap (x47 + 1))))))) else some (Sum.inr ()))

def laws_likeTables9 (F : Nat) (p0_a : List (List Int)) (p1_b : List (List Int)) : Option (Bool) :=
  (bif ((p0_a.length : Int) != (p1_b.length : Int)) then some false else (Option.bind (laws_likeTables9_L1 F p0_a p1_b F 0) fun r70 => match r70 with | .inl x_ => some x_ | .inr _ => some true))

def laws_roll_L1 (F : Nat) (p0_code : List Int) : Nat → Int → Int → Option (Int)
  | 0, _, _ => none
  | n19 + 1, x10, x11 => (bif (decide (x11 < (p0_code.length : Int))) then ((idx p0_code x11).bind fun q21 => (laws_roll_L1 F p0_code n19 (IntKind.u64.wrap ((IntKind.u64.wrap ((IntKind.u64.wrap (x10 * 1099511628211)) + (IntKind.u64.wrap q21))) + 5)) (IntKind.i64.wrap (x11 + 1)))) else some x10)

def laws_roll (F : Nat) (p0_code : List Int) (p1_seed : Int) : Option ((Int × Int)) :=
  (Option.bind (laws_roll_L1 F p0_code F (IntKind.u64.wrap ((IntKind.u64.wrap (p1_seed * 9103)) + (IntKind.u64.wrap (p0_code.length : Int)))) 0) fun x15 => some (0, x15))

def laws_dice_below (_F : Nat) (p0_d_b : List Int) (p0_d_i : Int) (p0_d_h : Int) (p1_n : Int) : Option ((Int) × Int × Int) :=
  (Option.bind ((bif (decide (p0_d_i < (p0_d_b.length : Int))) then ((idx p0_d_b p0_d_i).bind fun q9 => some ((IntKind.i64.wrap (p0_d_i + 1)), (IntKind.i64.wrap ((IntKind.i64.wrap (andI .u64 (shrI (IntKind.u64.wrap ((IntKind.u64.wrap (p0_d_h * 6364136223846793005)) + 1442695040888963407)) 33) 16777215)) + (IntKind.i64.wrap q9))))) else some (p0_d_i, (IntKind.i64.wrap (andI .u64 (shrI (IntKind.u64.wrap ((IntKind.u64.wrap (p0_d_h * 6364136223846793005)) + 1442695040888963407)) 33) 16777215)))) : Option (Int × Int)) fun (x4, x5) => ((if p1_n = 0 then none else some ()).bind fun _u12 => some ((x5.tmod p1_n), x4, (IntKind.u64.wrap ((IntKind.u64.wrap (p0_d_h * 6364136223846793005)) + 1442695040888963407)))))

def laws_below9_L1 (F : Nat) (p0_a : List Int) (p1_b : List Int) : Nat → Int → Option (Sum Bool (Unit))
  | 0, _ => none
  | n25 + 1, x15 => (bif (decide (x15 < (p0_a.length : Int))) then ((idx p0_a x15).bind fun q27 => ((idx p1_b x15).bind fun q29 => (bif (decide (q29 < q27)) then some (Sum.inl false) else (laws_below9_L1 F p0_a p1_b n25 (IntKind.i64.wrap (x15 + 1)))))) else some (Sum.inr ()))

def laws_below9 (F : Nat) (p0_a : List Int) (p1_b : List Int) : Option (Bool) :=
  (bif ((p0_a.length : Int) != (p1_b.length : Int)) then some false else (Option.bind (laws_below9_L1 F p0_a p1_b F 0) fun r22 => match r22 with | .inl x_ => some x_ | .inr _ => some true))

def laws_FnDelays_L1 (F : Nat) (p0 : List Int) (r4 : GEventGraph × GTimetable × List Int × Int) : Nat → Int → (List Int) → Int → Int → Int → Option (Int × (List Int))
  | 0, _, _, _, _, _ => none
  | n182 + 1, x141, xs142, x147, x148, x149 => (bif (decide (x149 < (r4.2.2.1.length : Int))) then ((idx r4.2.2.1 x149).bind fun q184 => ((idx r4.2.2.1 x149).bind fun q196 => ((laws_dice_below F p0 x147 x148 4).bind fun r198 => ((app xs142 ([(min 1000000 (IntKind.i64.wrap (q196 + r198.1)))])).bind fun xs204 => (laws_FnDelays_L1 F p0 r4 n182 (max x141 q184) xs204 r198.2.1 r198.2.2 (IntKind.i64.wrap (x149 + 1))))))) else some (x141, xs142))

def laws_FnDelays_L6 (F : Nat) (r4 : GEventGraph × GTimetable × List Int × Int) (r20 : List (List Int) × Int) (x173 : Int) (x756 : Int) : Nat → Int → Option (Sum Bool (Unit))
  | 0, _ => none
  | n1234 + 1, x1168 => ((idx r20.1 x756).bind fun q1235 => (bif (decide (x1168 < (q1235.length : Int))) then (Option.bind (((idx r20.1 x756).bind fun q1270 => ((idx q1270 x1168).bind fun q1275 => (bif (decide (q1275 < 0)) then some true else ((idx r20.1 x756).bind fun q1278 => ((idx q1278 x1168).bind fun q1283 => (bif (decide (x173 < q1283)) then some true else (bif (x756 == 0) then ((idx r20.1 x756).bind fun q1287 => ((idx q1287 x1168).bind fun q1292 => ((idx r4.2.2.1 x1168).bind fun q1294 => some (decide (q1292 < q1294))))) else some false))))))) : Option (Bool)) fun b1267 => (bif b1267 then some (Sum.inl false) else (laws_FnDelays_L6 F r4 r20 x173 x756 n1234 (IntKind.i64.wrap (x1168 + 1))))) else some (Sum.inr ())))

def laws_FnDelays_L5 (F : Nat) (r4 : GEventGraph × GTimetable × List Int × Int) (r20 : List (List Int) × Int) (x173 : Int) (r206 : List (List Int) × Int) : Nat → Int → Option (Sum Bool (Unit))
  | 0, _ => none
  | n1028 + 1, x756 => (bif (decide (x756 < (r20.1.length : Int))) then ((idx r20.1 x756).bind fun q1030 => ((idx r206.1 x756).bind fun q1035 => ((laws_below9 F q1030 q1035).bind fun r1040 => (bif (!r1040) then some (Sum.inl false) else (Option.bind (laws_FnDelays_L6 F r4 r20 x173 x756 F 0) fun r1231 => match r1231 with | .inl x_ => some (Sum.inl x_) | .inr _ => (laws_FnDelays_L5 F r4 r20 x173 r206 n1028 (IntKind.i64.wrap (x756 + 1)))))))) else some (Sum.inr ()))

def laws_FnDelays (F : Nat) (p0 : List Int) : Option (Bool) :=
  ((laws_big F p0).bind fun r1 => (bif r1 then some true else ((spec_DrawDelayTable F p0).bind fun r4 => ((impl_DelayTable F (GEventGraph.mk r4.1.Events r4.1.Places) (GTimetable.mk r4.2.1.Period r4.2.1.Starts) r4.2.2.1 r4.2.2.2).bind fun r20 => ((spec_DelayTable F (GEventGraph.mk r4.1.Events r4.1.Places) (GTimetable.mk r4.2.1.Period r4.2.1.Starts) r4.2.2.1 r4.2.2.2).bind fun r27 => ((spec_DrawWorstDelays F p0).bind fun r34 => ((impl_WorstDelays F (GEventGraph.mk r34.1.Events r34.1.Places) (GTimetable.mk r34.2.1.Period r34.2.1.Starts) r34.2.2).bind fun r50 => ((spec_WorstDelays F (GEventGraph.mk r34.1.Events r34.1.Places) (GTimetable.mk r34.2.1.Period r34.2.1.Starts) r34.2.2).bind fun r56 => (Option.bind ((bif (r20.2 != r27.2) then some true else ((laws_likeTables9 F r20.1 r27.1).bind fun r73 => (bif (!r73) then some true else (bif (r50.2 != r56.2) then some true else ((laws_likeInts F r50.1 r56.1).bind fun r77 => some (!r77)))))) : Option (Bool)) fun b69 => (bif b69 then some false else (bif (r20.2 != 0) then some true else ((laws_roll F p0 2101).bind fun r83 => (Option.bind (laws_FnDelays_L1 F p0 r4 F 0 ([] : List Int) r83.1 r83.2 0) fun (x173, xs174) => ((impl_DelayTable F (GEventGraph.mk r4.1.Events r4.1.Places) (GTimetable.mk r4.2.1.Period r4.2.1.Starts) xs174 r4.2.2.2).bind fun r206 => (Option.bind ((bif (r206.2 != 0) then some true else some ((r206.1.length : Int) != (r20.1.length : Int))) : Option (Bool)) fun b214 => (bif b214 then some false else (Option.bind (laws_FnDelays_L5 F r4 r20 x173 r206 F 0) fun r1025 => match r1025 with | .inl x_ => some x_ | .inr _ => some true)))))))))))))))))

end Go.Proofs.Ytebmlphobgaboab
