/- Plain models of the functions. -/
import Derived.Test.YtebmlphobgaboaaLiftJ
namespace Go.Proofs.Ytebmlphobgaboaa

structure GPlace where
  From : Int
  To : Int
  Delay : Int
  Tokens : Int

structure GEventGraph where
  Events : Int
  Places : List GPlace

def laws_big (_F : Nat) (p0_code : List Int) : Option (Bool) :=
  some (decide (4096 < (p0_code.length : Int)))

def spec_l01From_L1 (F : Nat) (p0_code : List Int) : Nat → Int → Int → Option (Int)
  | 0, _, _ => none
  | n34 + 1, x20, x21 => (Option.bind ((bif (decide (x21 < (p0_code.length : Int))) then some (decide (x21 < 64)) else some false) : Option (Bool)) fun b36 => (bif b36 then ((idx p0_code x21).bind fun q41 => (spec_l01From_L1 F p0_code n34 ((IntKind.i64.wrap ((IntKind.i64.wrap (x20 * 67)) + (IntKind.i64.wrap q41))).tmod 2147483647) (IntKind.i64.wrap (x21 + 1)))) else some x20))

def spec_l01From (F : Nat) (p0_code : List Int) : Option ((Int × Int)) :=
  (Option.bind (spec_l01From_L1 F p0_code F 61403 0) fun x30 => some (0, x30))

def spec_l01Next (_F : Nat) (p0_code : List Int) (p0_at : Int) (p0_seed : Int) (p1 : Int) : Option ((Int) × Int × Int) :=
  (bif (decide (p1 ≤ 1)) then some (0, p0_at, p0_seed) else (Option.bind ((bif (decide (p0_at < (p0_code.length : Int))) then ((idx p0_code p0_at).bind fun q18 => (Option.bind ((bif (decide (p1 ≤ 256)) then some (((IntKind.i64.wrap (p0_at + 1)).tmod 2) == 0) else some false) : Option (Bool)) fun b21 => (bif b21 then ((idx p0_code (IntKind.i64.wrap ((IntKind.i64.wrap (p0_at + 1)) - 1))).bind fun q26 => some ((IntKind.i64.wrap (p0_at + 1)), (IntKind.i64.wrap q26))) else some ((IntKind.i64.wrap (p0_at + 1)), (IntKind.i64.wrap ((IntKind.i64.wrap (((IntKind.i64.wrap ((IntKind.i64.wrap (p0_seed * 48271)) + 59)).tmod 2147483647).tdiv 31)) + (IntKind.i64.wrap q18))))))) else some (p0_at, (IntKind.i64.wrap (((IntKind.i64.wrap ((IntKind.i64.wrap (p0_seed * 48271)) + 59)).tmod 2147483647).tdiv 31)))) : Option (Int × Int)) fun (x13, x14) => ((if p1 = 0 then none else some ()).bind fun _u29 => some ((x14.tmod p1), x13, ((IntKind.i64.wrap ((IntKind.i64.wrap (p0_seed * 48271)) + 59)).tmod 2147483647)))))

def spec_l01Pick (F : Nat) (p0_s_code : List Int) (p0_s_at : Int) (p0_s_seed : Int) (p1_list : List Int) : Option ((Int) × Int × Int) :=
  ((spec_l01Next F p0_s_code p0_s_at p0_s_seed (p1_list.length : Int)).bind fun r1 => ((idx p1_list r1.1).bind fun q3 => some (q3, r1.2.1, r1.2.2)))

def spec_l11Draw_L1 (F : Nat) (p0_code : List Int) (r2 : (Int) × Int × Int) : Nat → Int → Int → (List GPlace) → Int → Option (Int × Int × (List GPlace))
  | 0, _, _, _, _ => none
  | n353 + 1, x229, x230, xs231, x236 => (bif (decide (0 < x236)) then (Option.bind (((spec_l01Next F p0_code x229 x230 (IntKind.i64.wrap (1 + r2.1))).bind fun r399 => ((spec_l01Next F p0_code r399.2.1 r399.2.2 (IntKind.i64.wrap (1 + r2.1))).bind fun r401 => ((spec_l01Next F p0_code r401.2.1 r401.2.2 12).bind fun r403 => some (r403.2.1, r403.2.2, r399.1, r401.1, r403.1)))) : Option (Int × Int × Int × Int × Int)) fun (x384, x385, x387, x388, x389) => (Option.bind ((bif (decide (x388 ≤ x387)) then some (x384, x385, true) else ((spec_l01Next F p0_code x384 x385 4).bind fun r430 => some (r430.2.1, r430.2.2, (r430.1 == 0)))) : Option (Int × Int × Bool)) fun (x424, x425, b426) => (Option.bind ((bif b426 then ((spec_l01Next F p0_code x424 x425 2).bind fun r443 => ((spec_l01Next F p0_code r443.2.1 r443.2.2 3).bind fun r445 => some (r445.2.1, r445.2.2, (IntKind.i64.wrap (1 + (IntKind.i64.wrap (r443.1 * r445.1))))))) else some (x424, x425, 0)) : Option (Int × Int × Int)) fun (x437, x438, x439) => ((spec_l01Next F p0_code x437 x438 30).bind fun r447 => (Option.bind ((bif (r447.1 == 0) then some 0 else some x439) : Option (Int)) fun x450 => ((app xs231 ([(GPlace.mk x387 x388 x389 x450)])).bind fun xs458 => (spec_l11Draw_L1 F p0_code r2 n353 r447.2.1 r447.2.2 xs458 (IntKind.i64.wrap (x236 - 1))))))))) else some (x229, x230, xs231))

def spec_l11Draw_L2 (F : Nat) (p0_code : List Int) : Nat → Int → Int → (List GPlace) → Int → Option (Int × Int × (List GPlace))
  | 0, _, _, _, _ => none
  | n660 + 1, x633, x634, xs635, x640 => ((spec_l01Next F p0_code x633 x634 9).bind fun r661 => (bif (decide (x640 < (IntKind.i64.wrap (22 + r661.1)))) then ((app xs635 ([(GPlace.mk 0 0 x640 1)])).bind fun xs668 => (spec_l11Draw_L2 F p0_code n660 r661.2.1 r661.2.2 xs668 (IntKind.i64.wrap (x640 + 1)))) else some (r661.2.1, r661.2.2, xs635)))

def spec_l11Draw (F : Nat) (p0_code : List Int) (p0_at : Int) (p0_seed : Int) : Option ((GEventGraph) × Int × Int) :=
  ((spec_l01Next F p0_code p0_at p0_seed 5).bind fun r2 => ((spec_l01Next F p0_code r2.2.1 r2.2.2 9).bind fun r7 => (Option.bind (spec_l11Draw_L1 F p0_code r2 F r7.2.1 r7.2.2 ([] : List GPlace) r7.1) fun (x343, x344, xs345) => ((spec_l01Next F p0_code x343 x344 60).bind fun r460 => (bif (r460.1 == 0) then ((spec_l01Pick F p0_code r460.2.1 r460.2.2 ([0, 10, 11])).bind fun r465 => some ((GEventGraph.mk r465.1 xs345), r465.2.1, r465.2.2)) else (bif (r460.1 == 1) then (Option.bind (((spec_l01Pick F p0_code r460.2.1 r460.2.2 ([(-1), 0, (IntKind.i64.wrap (1 + r2.1))])).bind fun r547 => ((spec_l01Pick F p0_code r547.2.1 r547.2.2 ([(-1), 1000, 1001])).bind fun r551 => ((app xs345 ([(GPlace.mk r547.1 0 r551.1 1)])).bind fun xs557 => some (r551.2.1, r551.2.2, xs557)))) : Option (Int × Int × (List GPlace))) fun (x522, x523, xs524) => some ((GEventGraph.mk (IntKind.i64.wrap (1 + r2.1)) xs524), x522, x523)) else (bif (r460.1 == 2) then ((spec_l01Pick F p0_code r460.2.1 r460.2.2 ([5, 6, (-1)])).bind fun r598 => ((app xs345 ([(GPlace.mk 0 0 0 r598.1)])).bind fun xs604 => some ((GEventGraph.mk (IntKind.i64.wrap (1 + r2.1)) xs604), r598.2.1, r598.2.2))) else (bif (r460.1 == 3) then (Option.bind (spec_l11Draw_L2 F p0_code F r460.2.1 r460.2.2 xs345 0) fun (x650, x651, xs652) => some ((GEventGraph.mk (IntKind.i64.wrap (1 + r2.1)) xs652), x650, x651)) else some ((GEventGraph.mk (IntKind.i64.wrap (1 + r2.1)) xs345), r460.2.1, r460.2.2)))))))))

def spec_l12Draw_L1 (F : Nat) (p0_s_code : List Int) : Nat → Int → Int → (List GPlace) → Int → Option (Int × Int × (List GPlace))
  | 0, _, _, _, _ => none
  | n65 + 1, x40, x41, xs42, x44 => (Option.bind ((bif (decide (x44 < (xs42.length : Int))) then some (decide (x44 < 9)) else some false) : Option (Bool)) fun b67 => (bif b67 then ((spec_l01Next F p0_s_code x40 x41 12).bind fun r72 => (bif (r72.1 == 0) then ((idx xs42 x44).bind fun q75 => ((upd xs42 x44 (GPlace.mk q75.From q75.To q75.Delay 0)).bind fun xs77 => (spec_l12Draw_L1 F p0_s_code n65 r72.2.1 r72.2.2 xs77 (IntKind.i64.wrap (x44 + 1))))) else (spec_l12Draw_L1 F p0_s_code n65 r72.2.1 r72.2.2 xs42 (IntKind.i64.wrap (x44 + 1))))) else some (x40, x41, xs42)))

def spec_l12Draw (F : Nat) (p0_s_code : List Int) (p0_s_at : Int) (p0_s_seed : Int) : Option ((GEventGraph) × Int × Int) :=
  ((spec_l11Draw F p0_s_code p0_s_at p0_s_seed).bind fun r2 => (Option.bind (spec_l12Draw_L1 F p0_s_code F r2.2.1 r2.2.2 r2.1.Places 0) fun (x58, x59, xs60) => some ((GEventGraph.mk r2.1.Events xs60), x58, x59)))

def spec_l01In (_F : Nat) (p0_n : Int) (p1_low : Int) (p2_high : Int) : Option (Bool) :=
  (Option.bind ((bif (decide (p1_low ≤ p0_n)) then some (decide (p0_n ≤ p2_high)) else some false) : Option (Bool)) fun b2 => some b2)

def spec_l11Place (F : Nat) (p0_p : GPlace) (p1_events : Int) : Option (Bool) :=
  (Option.bind (((spec_l01In F p0_p.From 0 (IntKind.i64.wrap (p1_events - 1))).bind fun r16 => (bif r16 then ((spec_l01In F p0_p.To 0 (IntKind.i64.wrap (p1_events - 1))).bind fun r19 => (bif r19 then ((spec_l01In F p0_p.Delay 0 1000).bind fun r22 => (bif r22 then ((spec_l01In F p0_p.Tokens 0 5).bind fun r25 => some r25) else some false)) else some false)) else some false)) : Option (Bool)) fun b13 => some b13)

def spec_IsEventGraph_L1 (F : Nat) (p0_g : GEventGraph) : Nat → Int → Option (Sum Bool (Unit))
  | 0, _ => none
  | n25 + 1, x15 => (bif (decide (x15 < (p0_g.Places.length : Int))) then ((idx p0_g.Places x15).bind fun q27 => ((spec_l11Place F q27 p0_g.Events).bind fun r29 => (bif (!r29) then some (Sum.inl false) else (spec_IsEventGraph_L1 F p0_g n25 (IntKind.i64.wrap (x15 + 1)))))) else some (Sum.inr ()))

def spec_IsEventGraph (F : Nat) (p0_g : GEventGraph) : Option (Bool) :=
  (Option.bind (spec_IsEventGraph_L1 F p0_g F 0) fun r22 => match r22 with | .inl x_ => some x_ | .inr _ => (Option.bind (((spec_l01In F p0_g.Events 1 10).bind fun r38 => (bif r38 then some (decide ((p0_g.Places.length : Int) ≤ 30)) else some false)) : Option (Bool)) fun b35 => some b35))

def spec_l02Bottom_L5 (F : Nat) (p1_n : Int) : Nat → (List Int) → Int → Option (List Int)
  | 0, _, _ => none
  | n252 + 1, xs231, x236 => (bif (decide (x236 < p1_n)) then ((app xs231 ([(-1000000000000000)])).bind fun xs258 => (spec_l02Bottom_L5 F p1_n n252 xs258 (IntKind.i64.wrap (x236 + 1)))) else some xs231)

def spec_l02Bottom_L4 (F : Nat) (p0_m : Int) (p1_n : Int) : Nat → (List (List Int)) → Int → Option (List (List Int))
  | 0, _, _ => none
  | n207 + 1, ms131, x137 => (bif (decide (x137 < p0_m)) then (Option.bind (spec_l02Bottom_L5 F p1_n F ([] : List Int) 0) fun xs244 => ((app ms131 ([xs244])).bind fun ms264 => (spec_l02Bottom_L4 F p0_m p1_n n207 ms264 (IntKind.i64.wrap (x137 + 1))))) else some ms131)

def spec_l02Bottom (F : Nat) (p0_m : Int) (p1_n : Int) : Option (List (List Int)) :=
  (Option.bind (spec_l02Bottom_L4 F p0_m p1_n F [] 0) fun ms198 => some ms198)

def spec_l12Free_L1 (F : Nat) (p0_g : GEventGraph) : Nat → (List (List Int)) → Int → Option (List (List Int))
  | 0, _, _ => none
  | n83 + 1, ms54, x56 => (bif (decide (x56 < (p0_g.Places.length : Int))) then ((idx p0_g.Places x56).bind fun q85 => (bif (q85.Tokens == 0) then ((idx p0_g.Places x56).bind fun q88 => ((idx ms54 q88.To).bind fun q90 => ((idx p0_g.Places x56).bind fun q95 => ((idx q90 q95.From).bind fun _q97 => ((upd q90 q95.From 0).bind fun xs99 => ((upd ms54 q88.To xs99).bind fun ms100 => (spec_l12Free_L1 F p0_g n83 ms100 (IntKind.i64.wrap (x56 + 1))))))))) else (spec_l12Free_L1 F p0_g n83 ms54 (IntKind.i64.wrap (x56 + 1))))) else some ms54)

def spec_l12Free (F : Nat) (p0_g : GEventGraph) : Option (List (List Int)) :=
  ((spec_l02Bottom F p0_g.Events p0_g.Events).bind fun r2 => (Option.bind (spec_l12Free_L1 F p0_g F r2 0) fun ms78 => some ms78))

def spec_l01Has_L1 (F : Nat) (p0_list : List Int) (p1_x : Int) : Nat → Int → Option (Sum Bool (Unit))
  | 0, _ => none
  | n18 + 1, x10 => (bif (decide (x10 < (p0_list.length : Int))) then ((idx p0_list x10).bind fun q20 => (bif (q20 == p1_x) then some (Sum.inl true) else (spec_l01Has_L1 F p0_list p1_x n18 (IntKind.i64.wrap (x10 + 1))))) else some (Sum.inr ()))

def spec_l01Has (F : Nat) (p0_list : List Int) (p1_x : Int) : Option (Bool) :=
  (Option.bind (spec_l01Has_L1 F p0_list p1_x F 0) fun r15 => match r15 with | .inl x_ => some x_ | .inr _ => some false)

def spec_l01Own (_F : Nat) (p0_list : List Int) : Option (List Int) :=
  ((app ([] : List Int) p0_list).bind fun xs5 => some xs5)

def spec_l03Grow_L1 (F : Nat) (p0 : List (List Int)) (p1 : List Int) (p2 : Int) (p3 : Int) (q3 : Int) (rec_ : (List (List Int)) → (List Int) → Int → Int → Option (List Int)) : Nat → Int → Option (Sum (List Int) (Unit))
  | 0, _ => none
  | n1402 + 1, x951 => (bif (decide (x951 < (p0.length : Int))) then (Option.bind ((Option.bind (((idx p0 x951).bind fun q1645 => ((idx q1645 q3).bind fun q1654 => (bif (q1654 == (-1000000000000000)) then some true else ((spec_l01Has F p1 x951).bind fun r1657 => some r1657)))) : Option (Bool)) fun b1642 => (bif b1642 then some (Sum.inr ()) else (Option.bind (((idx p0 x951).bind fun q1792 => ((idx q1792 q3).bind fun q1801 => ((spec_l01Own F p1).bind fun r1803 => ((app r1803 ([x951])).bind fun xs1813 => ((rec_ p0 xs1813 (IntKind.i64.wrap (p2 + q1801)) p3).bind fun r1815 => some r1815))))) : Option (List Int)) fun xs1751 => (bif (decide (0 < (xs1751.length : Int))) then some (Sum.inl xs1751) else some (Sum.inr ()))))) : Option (Sum (List Int) (Unit))) fun r1626 => match r1626 with | .inl x_ => some (Sum.inl x_) | .inr _ => (spec_l03Grow_L1 F p0 p1 p2 p3 q3 rec_ n1402 (IntKind.i64.wrap (x951 + 1)))) else some (Sum.inr ()))

def spec_l03Grow_rec (F : Nat) : Nat → (List (List Int)) → (List Int) → Int → Int → Option (List Int)
  | 0, _, _, _, _ => none
  | k_ + 1, p0, p1, p2, p3 => ((idx p1 0).bind fun q1 => ((idx p1 (IntKind.i64.wrap ((p1.length : Int) - 1))).bind fun q3 => (Option.bind (((idx p0 q1).bind fun q31 => ((idx q31 q3).bind fun q40 => (bif (q40 != (-1000000000000000)) then ((idx p0 q1).bind fun q43 => ((idx q43 q3).bind fun q52 => some (decide (p3 < (IntKind.i64.wrap (p2 + q52)))))) else some false))) : Option (Bool)) fun b28 => (bif b28 then some p1 else (Option.bind (spec_l03Grow_L1 F p0 p1 p2 p3 q3 (spec_l03Grow_rec F k_) F (IntKind.i64.wrap (q1 + 1))) fun r1399 => match r1399 with | .inl x_ => some x_ | .inr _ => some ([] : List Int))))))

def spec_l03Grow (F : Nat) (p0 : List (List Int)) (p1 : List Int) (p2 : Int) (p3 : Int) : Option (List Int) := spec_l03Grow_rec F F p0 p1 p2 p3

def spec_l03Over_L1 (F : Nat) (p0_a : List (List Int)) (p1_over : Int) : Nat → Int → Option (Sum (List Int) (Unit))
  | 0, _ => none
  | n51 + 1, x32 => (bif (decide (x32 < (p0_a.length : Int))) then ((spec_l03Grow F p0_a ([x32]) 0 p1_over).bind fun r55 => (bif (decide (0 < (r55.length : Int))) then some (Sum.inl r55) else (spec_l03Over_L1 F p0_a p1_over n51 (IntKind.i64.wrap (x32 + 1))))) else some (Sum.inr ()))

def spec_l03Over (F : Nat) (p0_a : List (List Int)) (p1_over : Int) : Option (List Int) :=
  (Option.bind (spec_l03Over_L1 F p0_a p1_over F 0) fun r48 => match r48 with | .inl x_ => some x_ | .inr _ => some ([] : List Int))

def spec_l12Dead (F : Nat) (p0_g : GEventGraph) : Option (List Int) :=
  ((spec_l12Free F p0_g).bind fun r2 => ((spec_l03Over F r2 (-1)).bind fun r9 => some r9))

def spec_l12Live (F : Nat) (p0_g : GEventGraph) : Option (Int) :=
  ((spec_IsEventGraph F p0_g).bind fun r2 => (bif (!r2) then some 1 else ((spec_l12Dead F p0_g).bind fun r5 => (bif (decide (0 < (r5.length : Int))) then some 5 else some 0))))

def spec_l13Code (F : Nat) (p0_g : GEventGraph) (p1_in : Bool) : Option (Int) :=
  ((spec_l12Live F p0_g).bind fun r2 => (Option.bind ((bif (r2 != 1) then some (!p1_in) else some false) : Option (Bool)) fun b5 => (bif b5 then some 2 else some r2)))

def spec_l12Order_L21 (F : Nat) (p0_g : GEventGraph) (r2 : List (List Int)) (xs1024 : List Int) (x1790 : Int) : Nat → Bool → Int → Option (Bool)
  | 0, _, _ => none
  | n2012 + 1, b1980, x1981 => (bif (decide (x1981 < p0_g.Events)) then (Option.bind ((bif b1980 then ((idx r2 x1790).bind fun q2029 => ((idx q2029 x1981).bind fun q2034 => (bif (q2034 == (-1000000000000000)) then some true else ((spec_l01Has F xs1024 x1981).bind fun r2037 => some r2037)))) else some false) : Option (Bool)) fun b2025 => (spec_l12Order_L21 F p0_g r2 xs1024 x1790 n2012 b2025 (IntKind.i64.wrap (x1981 + 1)))) else some b1980)

def spec_l12Order_L20 (F : Nat) (p0_g : GEventGraph) (r2 : List (List Int)) (xs1024 : List Int) : Nat → Int → Option (List Int)
  | 0, _ => none
  | n1922 + 1, x1790 => (bif (decide (x1790 < p0_g.Events)) then ((spec_l01Has F xs1024 x1790).bind fun r1924 => (Option.bind (spec_l12Order_L21 F p0_g r2 xs1024 x1790 F (!r1924) 0) fun b2008 => (bif b2008 then ((app xs1024 ([x1790])).bind fun xs2044 => some xs2044) else (spec_l12Order_L20 F p0_g r2 xs1024 n1922 (IntKind.i64.wrap (x1790 + 1)))))) else some xs1024)

def spec_l12Order_L16 (F : Nat) (p0_g : GEventGraph) (r2 : List (List Int)) : Nat → (List Int) → Option (List Int)
  | 0, _ => none
  | n1541 + 1, xs1024 => (bif (decide ((xs1024.length : Int) < p0_g.Events)) then (Option.bind (spec_l12Order_L20 F p0_g r2 xs1024 F 0) fun xs1914 => (spec_l12Order_L16 F p0_g r2 n1541 xs1914)) else some xs1024)

def spec_l12Order (F : Nat) (p0_g : GEventGraph) : Option (List Int) :=
  ((spec_l12Free F p0_g).bind fun r2 => (Option.bind (spec_l12Order_L16 F p0_g r2 F ([] : List Int)) fun xs1533 => some xs1533))

def spec_l13Times_L21 (F : Nat) (p0 : GEventGraph) (r2 : List Int) (ms1280 : List (List Int)) (x1286 : Int) (x2250 : Int) : Nat → (List (List Int)) → Int → (List Int) → Option ((List (List Int)) × (List Int))
  | 0, _, _, _ => none
  | n2527 + 1, ms2480, x2482, xs2483 => (bif (decide (x2482 < (p0.Places.length : Int))) then ((idx p0.Places x2482).bind fun q2529 => (Option.bind (((idx r2 x2250).bind fun q2538 => (bif (q2529.To == q2538) then some (decide (1 ≤ (IntKind.i64.wrap (x1286 - q2529.Tokens)))) else some false)) : Option (Bool)) fun b2535 => (bif b2535 then ((idx xs2483 q2529.To).bind fun q2542 => ((idx ms2480 (IntKind.i64.wrap ((IntKind.i64.wrap (x1286 - q2529.Tokens)) - 1))).bind fun q2544 => ((idx q2544 q2529.From).bind fun q2549 => ((idx xs2483 q2529.To).bind fun _q2551 => ((upd xs2483 q2529.To (max q2542 (IntKind.i64.wrap (q2549 + q2529.Delay)))).bind fun xs2553 => ((upd ms2480 (ms1280.length : Int) xs2553).bind fun ms2554 => (spec_l13Times_L21 F p0 r2 ms1280 x1286 x2250 n2527 ms2554 (IntKind.i64.wrap (x2482 + 1)) xs2553))))))) else (spec_l13Times_L21 F p0 r2 ms1280 x1286 x2250 n2527 ms2480 (IntKind.i64.wrap (x2482 + 1)) xs2483)))) else some (ms2480, xs2483))

def spec_l13Times_L20 (F : Nat) (p0 : GEventGraph) (r2 : List Int) (ms1280 : List (List Int)) (x1286 : Int) : Nat → (List (List Int)) → Int → (List Int) → Option (List (List Int))
  | 0, _, _, _ => none
  | n2409 + 1, ms2248, x2250, xs2251 => (bif (decide (x2250 < (r2.length : Int))) then (Option.bind (spec_l13Times_L21 F p0 r2 ms1280 x1286 x2250 F ms2248 0 xs2251) fun (ms2518, xs2520) => (spec_l13Times_L20 F p0 r2 ms1280 x1286 n2409 ms2518 (IntKind.i64.wrap (x2250 + 1)) xs2520)) else some ms2248)

def spec_l13Times_L16 (F : Nat) (p0 : GEventGraph) (p1 : Int) (p2 : List Int) (r2 : List Int) : Nat → (List (List Int)) → Int → Option (List (List Int))
  | 0, _, _ => none
  | n1927 + 1, ms1280, x1286 => (bif (decide (x1286 ≤ p1)) then ((spec_l01Own F p2).bind fun r1929 => ((app ms1280 ([r1929])).bind fun ms1939 => (Option.bind (spec_l13Times_L20 F p0 r2 ms1280 x1286 F ms1939 0 r1929) fun ms2404 => (spec_l13Times_L16 F p0 p1 p2 r2 n1927 ms2404 (IntKind.i64.wrap (x1286 + 1)))))) else some ms1280)

def spec_l13Times (F : Nat) (p0 : GEventGraph) (p1 : Int) (p2 : List Int) : Option (List (List Int)) :=
  ((spec_l12Order F p0).bind fun r2 => (Option.bind (spec_l13Times_L16 F p0 p1 p2 r2 F [] 1) fun ms1918 => some ms1918))

def spec_FiringTimes (F : Nat) (p0_g : GEventGraph) (p1_n : Int) : Option (List (List Int) × Int) :=
  ((spec_l01In F p1_n 0 50).bind fun r2 => ((spec_l13Code F p0_g r2).bind fun r4 => (bif (r4 != 0) then some (([] : List (List Int)), r4) else ((mk p0_g.Events (0 : Int)).bind fun xs20 => ((spec_l13Times F p0_g p1_n xs20).bind fun r21 => some (r21, 0))))))

def spec_l22Draw_L5 (F : Nat) (p0_code : List Int) (x20 : Int) (r40 : List (List Int) × Int) (x556 : Int) : Nat → Int → Int → (List Int) → Int → Option (Int × Int × (List Int))
  | 0, _, _, _, _ => none
  | n1000 + 1, x930, x931, xs932, x937 => (bif (decide (x937 < x20)) then (bif (r40.2 == 0) then ((idx r40.1 x556).bind fun q1024 => ((idx q1024 x937).bind fun q1029 => ((spec_l01Next F p0_code x930 x931 12).bind fun r1031 => ((spec_l01Next F p0_code r1031.2.1 r1031.2.2 4).bind fun r1033 => ((spec_l01Pick F p0_code r1033.2.1 r1033.2.2 ([r1031.1, 3, 500, (IntKind.i64.wrap (r1033.1 - 1))])).bind fun r1037 => ((app xs932 ([(max 0 (IntKind.i64.wrap (q1029 + r1037.1)))])).bind fun xs1043 => (spec_l22Draw_L5 F p0_code x20 r40 x556 n1000 r1037.2.1 r1037.2.2 xs1043 (IntKind.i64.wrap (x937 + 1))))))))) else ((spec_l01Next F p0_code x930 x931 50).bind fun r1045 => ((app xs932 ([r1045.1])).bind fun xs1051 => (spec_l22Draw_L5 F p0_code x20 r40 x556 n1000 r1045.2.1 r1045.2.2 xs1051 (IntKind.i64.wrap (x937 + 1)))))) else some (x930, x931, xs932))

def spec_l22Draw_L4 (F : Nat) (p0_code : List Int) (x20 : Int) (r38 : (Int) × Int × Int) (r40 : List (List Int) × Int) : Nat → Int → Int → (List (List Int)) → Int → Option (Int × Int × (List (List Int)))
  | 0, _, _, _, _ => none
  | n814 + 1, x548, x549, ms550, x556 => (bif (decide (x556 < r38.1)) then (Option.bind (spec_l22Draw_L5 F p0_code x20 r40 x556 F x548 x549 ([] : List Int) 0) fun (x990, x991, xs992) => ((app ms550 ([xs992])).bind fun ms1057 => (spec_l22Draw_L4 F p0_code x20 r38 r40 n814 x990 x991 ms1057 (IntKind.i64.wrap (x556 + 1))))) else some (x548, x549, ms550))

def spec_l22Draw (F : Nat) (p0_code : List Int) (p0_at : Int) (p0_seed : Int) : Option ((GEventGraph × List (List Int)) × Int × Int) :=
  ((spec_l11Draw F p0_code p0_at p0_seed).bind fun r2 => ((spec_l01Next F p0_code r2.2.1 r2.2.2 20).bind fun r9 => (Option.bind ((bif (r9.1 == 0) then ((spec_l12Draw F p0_code r9.2.1 r9.2.2).bind fun r29 => some (r29.2.1, r29.2.2, r29.1.Events, r29.1.Places)) else some (r9.2.1, r9.2.2, r2.1.Events, r2.1.Places)) : Option (Int × Int × Int × (List GPlace))) fun (x18, x19, x20, xs21) => ((spec_l01Next F p0_code x18 x19 6).bind fun r38 => ((spec_FiringTimes F (GEventGraph.mk x20 xs21) r38.1).bind fun r40 => (Option.bind (spec_l22Draw_L4 F p0_code x20 r38 r40 F r38.2.1 r38.2.2 [] 0) fun (x803, x804, ms805) => (Option.bind ((bif (decide (0 < (ms805.length : Int))) then ((spec_l01Next F p0_code x803 x804 30).bind fun r1135 => (bif (r1135.1 == 0) then ((idx ms805 0).bind fun q1138 => ((app q1138 ([0])).bind fun xs1149 => ((upd ms805 0 xs1149).bind fun ms1151 => some (r1135.2.1, r1135.2.2, ms1151)))) else (bif (r1135.1 == 1) then ((idx ms805 0).bind fun q1157 => (bif (decide (0 < (q1157.length : Int))) then ((idx ms805 0).bind fun q1180 => ((spec_l01Pick F p0_code r1135.2.1 r1135.2.2 ([(-1), 1000000, 1000001])).bind fun r1187 => ((idx q1180 0).bind fun _q1189 => ((upd q1180 0 r1187.1).bind fun xs1191 => ((upd ms805 0 xs1191).bind fun ms1192 => some (r1187.2.1, r1187.2.2, ms1192)))))) else some (r1135.2.1, r1135.2.2, ms805))) else some (r1135.2.1, r1135.2.2, ms805)))) else some (x803, x804, ms805)) : Option (Int × Int × (List (List Int)))) fun (x1124, x1125, ms1126) => some (((GEventGraph.mk x20 xs21), ms1126), x1124, x1125))))))))

def spec_DrawCanMeet (F : Nat) (p0_code : List Int) : Option (GEventGraph × List (List Int)) :=
  ((spec_l01From F p0_code).bind fun r2 => ((spec_l22Draw F p0_code r2.1 r2.2).bind fun r5 => some ((GEventGraph.mk r5.1.1.Events r5.1.1.Places), r5.1.2)))

def impl_within (_F : Nat) (p0_n : Int) (p1_low : Int) (p2_high : Int) : Option (Bool) :=
  (Option.bind ((bif (decide (p1_low ≤ p0_n)) then some (decide (p0_n ≤ p2_high)) else some false) : Option (Bool)) fun b2 => some b2)

def impl_isEvent (F : Nat) (p0_g : GEventGraph) (p1_event : Int) : Option (Bool) :=
  ((impl_within F p1_event 0 (IntKind.i64.wrap (p0_g.Events - 1))).bind fun r2 => some r2)

def impl_isPlace (F : Nat) (p0_g : GEventGraph) (p1_p : GPlace) : Option (Bool) :=
  (Option.bind (((impl_isEvent F p0_g p1_p.From).bind fun r17 => (bif r17 then ((impl_isEvent F p0_g p1_p.To).bind fun r20 => (bif r20 then ((impl_within F p1_p.Delay 0 1000).bind fun r23 => (bif r23 then ((impl_within F p1_p.Tokens 0 5).bind fun r26 => some r26) else some false)) else some false)) else some false)) : Option (Bool)) fun b14 => some b14)

def impl_IsEventGraph_c1 (F : Nat) (p0_p : GPlace) (z0 : GEventGraph) : Option (Bool) :=
  ((impl_isPlace F z0 p0_p).bind fun r2 => some (!r2))

def slices_IndexFunc_Place_L1 (F : Nat) (p0_s : List GPlace) (m_p1_f : GPlace → Option Bool) : Nat → Int → Option (Sum Int (Unit))
  | 0, _ => none
  | n24 + 1, x14 => (bif (decide (x14 < (p0_s.length : Int))) then ((idx p0_s x14).bind fun q26 => ((m_p1_f q26).bind fun r28 => (bif r28 then some (Sum.inl x14) else (slices_IndexFunc_Place_L1 F p0_s m_p1_f n24 (IntKind.i64.wrap (x14 + 1)))))) else some (Sum.inr ()))

def slices_IndexFunc_Place (F : Nat) (p0_s : List GPlace) (m_p1_f : GPlace → Option Bool) : Option (Int) :=
  (Option.bind (slices_IndexFunc_Place_L1 F p0_s m_p1_f F 0) fun r21 => match r21 with | .inl x_ => some x_ | .inr _ => some (-1))

def slices_ContainsFunc_Place (F : Nat) (p0_s : List GPlace) (m_p1_f : GPlace → Option Bool) : Option (Bool) :=
  ((slices_IndexFunc_Place F p0_s m_p1_f).bind fun r1 => some (decide (0 ≤ r1)))

def impl_IsEventGraph (F : Nat) (p0_g : GEventGraph) : Option (Bool) :=
  (Option.bind (((impl_within F p0_g.Events 1 10).bind fun r11 => (bif r11 then (bif (decide ((p0_g.Places.length : Int) ≤ 30)) then ((slices_ContainsFunc_Place F p0_g.Places (fun x0 => impl_IsEventGraph_c1 F x0 p0_g)).bind fun r15 => some (!r15)) else some false) else some false)) : Option (Bool)) fun b8 => some b8)

def impl_allWithin_L1 (F : Nat) (p0_list : List Int) (p1_low : Int) (p2_high : Int) : Nat → Int → Option (Sum Bool (Unit))
  | 0, _ => none
  | n24 + 1, x14 => (bif (decide (x14 < (p0_list.length : Int))) then ((idx p0_list x14).bind fun q26 => ((impl_within F q26 p1_low p2_high).bind fun r28 => (bif (!r28) then some (Sum.inl false) else (impl_allWithin_L1 F p0_list p1_low p2_high n24 (IntKind.i64.wrap (x14 + 1)))))) else some (Sum.inr ()))

def impl_allWithin (F : Nat) (p0_list : List Int) (p1_low : Int) (p2_high : Int) : Option (Bool) :=
  (Option.bind (impl_allWithin_L1 F p0_list p1_low p2_high F 0) fun r21 => match r21 with | .inl x_ => some x_ | .inr _ => some true)

def impl_isTimeTable_c1 (F : Nat) (p0_row : List Int) (z0 : GEventGraph) : Option (Bool) :=
  (Option.bind ((bif ((p0_row.length : Int) != z0.Events) then some true else ((impl_allWithin F p0_row 0 1000000).bind fun r8 => some (!r8))) : Option (Bool)) fun b4 => some b4)

def slices_IndexFunc_sint64_L1 (F : Nat) (p0_s : List (List Int)) (m_p1_f : (List Int) → Option Bool) : Nat → Int → Option (Sum Int (Unit))
  | 0, _ => none
  | n45 + 1, x28 => (bif (decide (x28 < (p0_s.length : Int))) then ((idx p0_s x28).bind fun q47 => ((m_p1_f q47).bind fun r56 => (bif r56 then some (Sum.inl x28) else (slices_IndexFunc_sint64_L1 F p0_s m_p1_f n45 (IntKind.i64.wrap (x28 + 1)))))) else some (Sum.inr ()))

def slices_IndexFunc_sint64 (F : Nat) (p0_s : List (List Int)) (m_p1_f : (List Int) → Option Bool) : Option (Int) :=
  (Option.bind (slices_IndexFunc_sint64_L1 F p0_s m_p1_f F 0) fun r42 => match r42 with | .inl x_ => some x_ | .inr _ => some (-1))

def slices_ContainsFunc_sint64 (F : Nat) (p0_s : List (List Int)) (m_p1_f : (List Int) → Option Bool) : Option (Bool) :=
  ((slices_IndexFunc_sint64 F p0_s m_p1_f).bind fun r1 => some (decide (0 ≤ r1)))

def impl_isTimeTable (F : Nat) (p0_g : GEventGraph) (p1_table : List (List Int)) : Option (Bool) :=
  (Option.bind ((bif (decide ((p1_table.length : Int) ≤ 50)) then ((slices_ContainsFunc_sint64 F p1_table (fun x0 => impl_isTimeTable_c1 F x0 p0_g)).bind fun r9 => some (!r9)) else some false) : Option (Bool)) fun b5 => some b5)

def slices_Index_int64_L1 (F : Nat) (p0_s : List Int) (p1_v : Int) : Nat → Int → Option (Sum Int (Unit))
  | 0, _ => none
  | n18 + 1, x10 => (bif (decide (x10 < (p0_s.length : Int))) then ((idx p0_s x10).bind fun q20 => (bif (p1_v == q20) then some (Sum.inl x10) else (slices_Index_int64_L1 F p0_s p1_v n18 (IntKind.i64.wrap (x10 + 1))))) else some (Sum.inr ()))

def slices_Index_int64 (F : Nat) (p0_s : List Int) (p1_v : Int) : Option (Int) :=
  (Option.bind (slices_Index_int64_L1 F p0_s p1_v F 0) fun r15 => match r15 with | .inl x_ => some x_ | .inr _ => some (-1))

def slices_Contains_int64 (F : Nat) (p0_s : List Int) (p1_v : Int) : Option (Bool) :=
  ((slices_Index_int64 F p0_s p1_v).bind fun r1 => some (decide (0 ≤ r1)))

def impl_firingOrder_c1 (F : Nat) (p0_p : GPlace) (z0 : Int) (z1 : List Int) : Option (Bool) :=
  (Option.bind ((bif (p0_p.To == z0) then (bif (p0_p.Tokens == 0) then ((slices_Contains_int64 F z1 p0_p.From).bind fun r11 => some (!r11)) else some false) else some false) : Option (Bool)) fun b6 => some b6)

def impl_firingOrder_L5 (F : Nat) (p0_g : GEventGraph) (xs227 : List Int) : Nat → Int → Int → Option (Int)
  | 0, _, _ => none
  | n427 + 1, x398, x400 => (Option.bind ((bif (decide (x400 < p0_g.Events)) then some (decide (x398 < 0)) else some false) : Option (Bool)) fun b429 => (bif b429 then (Option.bind (((slices_Contains_int64 F xs227 x400).bind fun r443 => (bif r443 then some x398 else ((slices_ContainsFunc_Place F p0_g.Places (fun x0 => impl_firingOrder_c1 F x0 x400 xs227)).bind fun r446 => (bif (!r446) then some x400 else some x398)))) : Option (Int)) fun x440 => (impl_firingOrder_L5 F p0_g xs227 n427 x440 (IntKind.i64.wrap (x400 + 1)))) else some x398))

def impl_firingOrder_L4 (F : Nat) (p0_g : GEventGraph) : Nat → (List Int) → Option (Sum (List Int × Bool) (List Int))
  | 0, _ => none
  | n348 + 1, xs227 => (bif (decide ((xs227.length : Int) < p0_g.Events)) then (Option.bind (impl_firingOrder_L5 F p0_g xs227 F (-1) 0) fun x423 => (bif (decide (x423 < 0)) then some (Sum.inl (([] : List Int), false)) else ((app xs227 ([x423])).bind fun xs456 => (impl_firingOrder_L4 F p0_g n348 xs456)))) else some (Sum.inr xs227))

def impl_firingOrder (F : Nat) (p0_g : GEventGraph) : Option (List Int × Bool) :=
  (Option.bind (impl_firingOrder_L4 F p0_g F []) fun r345 => match r345 with | .inl x_ => some x_ | .inr xs340 => some (xs340, true))

def impl_isLive (F : Nat) (p0_g : GEventGraph) : Option (Bool) :=
  ((impl_firingOrder F p0_g).bind fun r2 => some r2.2)

def impl_checkDue (F : Nat) (p0_g : GEventGraph) (p1_due : List (List Int)) : Option (Int) :=
  ((impl_IsEventGraph F p0_g).bind fun r2 => (bif (!r2) then some 1 else ((impl_isTimeTable F p0_g p1_due).bind fun r5 => (bif (!r5) then some 2 else ((impl_isLive F p0_g).bind fun r8 => (bif (!r8) then some 5 else some 0))))))

def slices_Clone_int64 (_F : Nat) (p0_s : List Int) : Option (List Int) :=
  ((app ([] : List Int) p0_s).bind fun xs5 => some xs5)

def impl_cloneMatrix_L1 (F : Nat) (p0_a : List (List Int)) : Nat → (List (List Int)) → Int → Option (List (List Int))
  | 0, _, _ => none
  | n100 + 1, ms60, x66 => (bif (decide (x66 < (p0_a.length : Int))) then ((idx p0_a x66).bind fun q102 => ((slices_Clone_int64 F q102).bind fun r111 => ((idx ms60 x66).bind fun _q117 => ((upd ms60 x66 r111).bind fun ms122 => (impl_cloneMatrix_L1 F p0_a n100 ms122 (IntKind.i64.wrap (x66 + 1))))))) else some ms60)

def impl_cloneMatrix (F : Nat) (p0_a : List (List Int)) : Option (List (List Int)) :=
  ((mk (p0_a.length : Int) ([] : List Int)).bind fun ms3 => (Option.bind (impl_cloneMatrix_L1 F p0_a F ms3 0) fun ms91 => some ms91))

def impl_latestTimes_L17 (F : Nat) (p0 : GEventGraph) (p1 : List (List Int)) (x1011 : Int) (x1513 : Int × Int) : Nat → (List (List Int)) → Int → Option (List (List Int))
  | 0, _, _ => none
  | n1963 + 1, ms1918, x1920 => (bif (decide (x1920 < (p0.Places.length : Int))) then ((idx p0.Places x1920).bind fun q1965 => (Option.bind ((bif (q1965.From == x1513.2) then some (decide ((IntKind.i64.wrap (x1011 + q1965.Tokens)) < (p1.length : Int))) else some false) : Option (Bool)) fun b1969 => (bif b1969 then ((idx ms1918 x1011).bind fun q1974 => ((idx ms1918 x1011).bind fun q1979 => ((idx q1979 x1513.2).bind fun q1984 => ((idx ms1918 (IntKind.i64.wrap (x1011 + q1965.Tokens))).bind fun q1986 => ((idx q1986 q1965.To).bind fun q1991 => ((idx q1974 x1513.2).bind fun _q1993 => ((upd q1974 x1513.2 (min q1984 (IntKind.i64.wrap (q1991 - q1965.Delay)))).bind fun xs1995 => ((upd ms1918 x1011 xs1995).bind fun ms1996 => (impl_latestTimes_L17 F p0 p1 x1011 x1513 n1963 ms1996 (IntKind.i64.wrap (x1920 + 1))))))))))) else (impl_latestTimes_L17 F p0 p1 x1011 x1513 n1963 ms1918 (IntKind.i64.wrap (x1920 + 1)))))) else some ms1918)

def impl_latestTimes_R16 (F : Nat) (p0 : GEventGraph) (p1 : List (List Int)) (x1011 : Int) : List (Int × Int) → (List (List Int)) → Option (List (List Int))
  | [], ms1836 => some ms1836
  | x1513 :: rest_, ms1836 => (Option.bind (impl_latestTimes_L17 F p0 p1 x1011 x1513 F ms1836 0) fun ms1958 => (impl_latestTimes_R16 F p0 p1 x1011 rest_ ms1958))

def impl_latestTimes_L13 (F : Nat) (p0 : GEventGraph) (p1 : List (List Int)) (r2 : List Int × Bool) : Nat → (List (List Int)) → Int → Option (List (List Int))
  | 0, _, _ => none
  | n1510 + 1, ms1008, x1011 => (bif (decide (0 ≤ x1011)) then (Option.bind (impl_latestTimes_R16 F p0 p1 x1011 (revE r2.1) ms1008) fun ms1836 => (impl_latestTimes_L13 F p0 p1 r2 n1510 ms1836 (IntKind.i64.wrap (x1011 - 1)))) else some ms1008)

def impl_latestTimes (F : Nat) (p0 : GEventGraph) (p1 : List (List Int)) : Option (List (List Int)) :=
  ((impl_firingOrder F p0).bind fun r2 => ((impl_cloneMatrix F p1).bind fun r8 => (Option.bind (impl_latestTimes_L13 F p0 p1 r2 F r8 (IntKind.i64.wrap ((p1.length : Int) - 1))) fun ms1505 => some ms1505)))

def impl_firingTimes_L21 (F : Nat) (p0 : GEventGraph) (x1382 : Int) (q2589 : Int) : Nat → (List (List Int)) → Int → Option (List (List Int))
  | 0, _, _ => none
  | n2713 + 1, ms2668, x2670 => (bif (decide (x2670 < (p0.Places.length : Int))) then ((idx p0.Places x2670).bind fun q2715 => (Option.bind ((bif (q2715.To == q2589) then some (decide (q2715.Tokens ≤ x1382)) else some false) : Option (Bool)) fun b2719 => (bif b2719 then ((idx ms2668 x1382).bind fun q2724 => ((idx ms2668 x1382).bind fun q2729 => ((idx q2729 q2589).bind fun q2734 => ((idx ms2668 (IntKind.i64.wrap (x1382 - q2715.Tokens))).bind fun q2736 => ((idx q2736 q2715.From).bind fun q2741 => ((idx q2724 q2589).bind fun _q2743 => ((upd q2724 q2589 (max q2734 (IntKind.i64.wrap (q2741 + q2715.Delay)))).bind fun xs2745 => ((upd ms2668 x1382 xs2745).bind fun ms2746 => (impl_firingTimes_L21 F p0 x1382 q2589 n2713 ms2746 (IntKind.i64.wrap (x2670 + 1))))))))))) else (impl_firingTimes_L21 F p0 x1382 q2589 n2713 ms2668 (IntKind.i64.wrap (x2670 + 1)))))) else some ms2668)

def impl_firingTimes_L20 (F : Nat) (p0 : GEventGraph) (r2 : List Int × Bool) (x1382 : Int) : Nat → (List (List Int)) → Int → Option (List (List Int))
  | 0, _, _ => none
  | n2587 + 1, ms2416, x2418 => (bif (decide (x2418 < (r2.1.length : Int))) then ((idx r2.1 x2418).bind fun q2589 => (Option.bind (impl_firingTimes_L21 F p0 x1382 q2589 F ms2416 0) fun ms2708 => (impl_firingTimes_L20 F p0 r2 x1382 n2587 ms2708 (IntKind.i64.wrap (x2418 + 1))))) else some ms2416)

def impl_firingTimes_L16 (F : Nat) (p0 : GEventGraph) (p1 : Int) (p2 : List Int) (r2 : List Int × Bool) : Nat → (List (List Int)) → Int → Option (List (List Int))
  | 0, _, _ => none
  | n2071 + 1, ms1376, x1382 => (bif (decide (x1382 < p1)) then ((slices_Clone_int64 F p2).bind fun r2073 => ((app ms1376 ([r2073])).bind fun ms2083 => (Option.bind (impl_firingTimes_L20 F p0 r2 x1382 F ms2083 0) fun ms2582 => (impl_firingTimes_L16 F p0 p1 p2 r2 n2071 ms2582 (IntKind.i64.wrap (x1382 + 1)))))) else some ms1376)

def impl_firingTimes (F : Nat) (p0 : GEventGraph) (p1 : Int) (p2 : List Int) : Option (List (List Int)) :=
  ((impl_firingOrder F p0).bind fun r2 => (Option.bind (impl_firingTimes_L16 F p0 p1 p2 r2 F ([] : List (List Int)) 0) fun ms2062 => some ms2062))

def impl_floatsOf_L5 (F : Nat) (x214 : Int) (q312 : List Int) : Nat → (List (List Int)) → Int → Option (List (List Int))
  | 0, _, _ => none
  | n382 + 1, ms356, x358 => (bif (decide (x358 < (q312.length : Int))) then ((idx q312 x358).bind fun q384 => ((idx ms356 x214).bind fun q386 => ((idx q386 x358).bind fun q391 => ((idx q386 x358).bind fun _q393 => ((upd q386 x358 (IntKind.i64.wrap (q391 - q384))).bind fun xs395 => ((upd ms356 x214 xs395).bind fun ms396 => (impl_floatsOf_L5 F x214 q312 n382 ms396 (IntKind.i64.wrap (x358 + 1))))))))) else some ms356)

def impl_floatsOf_L4 (F : Nat) (r22 : List (List Int)) : Nat → (List (List Int)) → Int → Option (List (List Int))
  | 0, _, _ => none
  | n310 + 1, ms212, x214 => (bif (decide (x214 < (r22.length : Int))) then ((idx r22 x214).bind fun q312 => (Option.bind (impl_floatsOf_L5 F x214 q312 F ms212 0) fun ms377 => (impl_floatsOf_L4 F r22 n310 ms377 (IntKind.i64.wrap (x214 + 1))))) else some ms212)

def impl_floatsOf (F : Nat) (p0_g : GEventGraph) (p1_due : List (List Int)) : Option (List (List Int)) :=
  ((impl_latestTimes F p0_g p1_due).bind fun r2 => ((mk p0_g.Events (0 : Int)).bind fun xs21 => ((impl_firingTimes F p0_g (p1_due.length : Int) xs21).bind fun r22 => (Option.bind (impl_floatsOf_L4 F r22 F r2 0) fun ms305 => some ms305))))

def slices_Min_int64_L1 (F : Nat) (p0_x : List Int) : Nat → Int → Int → Option (Int)
  | 0, _, _ => none
  | n21 + 1, x12, x13 => (bif (decide (x13 < (p0_x.length : Int))) then ((idx p0_x x13).bind fun q23 => (slices_Min_int64_L1 F p0_x n21 (min x12 q23) (IntKind.i64.wrap (x13 + 1)))) else some x12)

def slices_Min_int64 (F : Nat) (p0_x : List Int) : Option (Int) :=
  (bif (decide ((p0_x.length : Int) < 1)) then none else ((idx p0_x 0).bind fun q2 => (Option.bind (slices_Min_int64_L1 F p0_x F q2 1) fun x17 => some x17)))

def impl_CanMeet_L1 (F : Nat) (r5 : List (List Int)) : Nat → Int → Option (Sum (Bool × Int) (Unit))
  | 0, _ => none
  | n44 + 1, x31 => (bif (decide (x31 < (r5.length : Int))) then ((idx r5 x31).bind fun q46 => ((slices_Min_int64 F q46).bind fun r51 => (bif (decide (r51 < 0)) then some (Sum.inl (false, 0)) else (impl_CanMeet_L1 F r5 n44 (IntKind.i64.wrap (x31 + 1)))))) else some (Sum.inr ()))

def impl_CanMeet (F : Nat) (p0_g : GEventGraph) (p1_due : List (List Int)) : Option (Bool × Int) :=
  ((impl_checkDue F p0_g p1_due).bind fun r2 => (bif (r2 != 0) then some (false, r2) else ((impl_floatsOf F p0_g p1_due).bind fun r5 => (Option.bind (impl_CanMeet_L1 F r5 F 0) fun r41 => match r41 with | .inl x_ => some x_ | .inr _ => some (true, 0)))))

def spec_l01Within_L1 (F : Nat) (p0_list : List Int) (p2_low : Int) (p3_high : Int) : Nat → Int → Option (Sum Bool (Unit))
  | 0, _ => none
  | n24 + 1, x14 => (bif (decide (x14 < (p0_list.length : Int))) then ((idx p0_list x14).bind fun q26 => ((spec_l01In F q26 p2_low p3_high).bind fun r28 => (bif (!r28) then some (Sum.inl false) else (spec_l01Within_L1 F p0_list p2_low p3_high n24 (IntKind.i64.wrap (x14 + 1)))))) else some (Sum.inr ()))

def spec_l01Within (F : Nat) (p0_list : List Int) (p1_most : Int) (p2_low : Int) (p3_high : Int) : Option (Bool) :=
  (Option.bind (spec_l01Within_L1 F p0_list p2_low p3_high F 0) fun r21 => match r21 with | .inl x_ => some x_ | .inr _ => some (decide ((p0_list.length : Int) ≤ p1_most)))

def spec_l22Due_L1 (F : Nat) (p0_g : GEventGraph) (p1_due : List (List Int)) : Nat → Int → Option (Sum Bool (Unit))
  | 0, _ => none
  | n148 + 1, x97 => (bif (decide (x97 < (p1_due.length : Int))) then (Option.bind (((idx p1_due x97).bind fun q174 => (bif ((q174.length : Int) != p0_g.Events) then some true else ((idx p1_due x97).bind fun q184 => ((spec_l01Within F q184 10 0 1000000).bind fun r193 => some (!r193))))) : Option (Bool)) fun b171 => (bif b171 then some (Sum.inl false) else (spec_l22Due_L1 F p0_g p1_due n148 (IntKind.i64.wrap (x97 + 1))))) else some (Sum.inr ()))

def spec_l22Due (F : Nat) (p0_g : GEventGraph) (p1_due : List (List Int)) : Option (Bool) :=
  (Option.bind (spec_l22Due_L1 F p0_g p1_due F 0) fun r145 => match r145 with | .inl x_ => some x_ | .inr _ => some (decide ((p1_due.length : Int) ≤ 50)))

def spec_l02Own_L1 (F : Nat) (p0_a : List (List Int)) : Nat → (List (List Int)) → Int → Option (List (List Int))
  | 0, _, _ => none
  | n99 + 1, ms59, x65 => (bif (decide (x65 < (p0_a.length : Int))) then ((idx p0_a x65).bind fun q101 => ((spec_l01Own F q101).bind fun r110 => ((app ms59 ([r110])).bind fun ms120 => (spec_l02Own_L1 F p0_a n99 ms120 (IntKind.i64.wrap (x65 + 1)))))) else some ms59)

def spec_l02Own (F : Nat) (p0_a : List (List Int)) : Option (List (List Int)) :=
  (Option.bind (spec_l02Own_L1 F p0_a F [] 0) fun ms90 => some ms90)

def spec_l22Latest_L21 (F : Nat) (p0 : GEventGraph) (p1 : List (List Int)) (r2 : List Int) (x1462 : Int) (x2550 : Int) : Nat → (List (List Int)) → Int → Option (List (List Int))
  | 0, _, _ => none
  | n2869 + 1, ms2820, x2822 => (bif (decide (x2822 < (p0.Places.length : Int))) then ((idx p0.Places x2822).bind fun q2871 => (Option.bind (((idx r2 x2550).bind fun q2880 => (bif (q2871.From == q2880) then some (decide ((IntKind.i64.wrap (x1462 + q2871.Tokens)) ≤ (p1.length : Int))) else some false)) : Option (Bool)) fun b2877 => (bif b2877 then ((idx ms2820 (IntKind.i64.wrap (x1462 - 1))).bind fun q2884 => ((idx ms2820 (IntKind.i64.wrap (x1462 - 1))).bind fun q2889 => ((idx q2889 q2871.From).bind fun q2894 => ((idx ms2820 (IntKind.i64.wrap ((IntKind.i64.wrap (x1462 + q2871.Tokens)) - 1))).bind fun q2896 => ((idx q2896 q2871.To).bind fun q2901 => ((idx q2884 q2871.From).bind fun _q2903 => ((upd q2884 q2871.From (min q2894 (IntKind.i64.wrap (q2901 - q2871.Delay)))).bind fun xs2905 => ((upd ms2820 (IntKind.i64.wrap (x1462 - 1)) xs2905).bind fun ms2906 => (spec_l22Latest_L21 F p0 p1 r2 x1462 x2550 n2869 ms2906 (IntKind.i64.wrap (x2822 + 1))))))))))) else (spec_l22Latest_L21 F p0 p1 r2 x1462 x2550 n2869 ms2820 (IntKind.i64.wrap (x2822 + 1)))))) else some ms2820)

def spec_l22Latest_L20 (F : Nat) (p0 : GEventGraph) (p1 : List (List Int)) (r2 : List Int) (x1462 : Int) : Nat → (List (List Int)) → Int → Option (List (List Int))
  | 0, _, _ => none
  | n2733 + 1, ms2548, x2550 => (bif (decide (0 ≤ x2550)) then (Option.bind (spec_l22Latest_L21 F p0 p1 r2 x1462 x2550 F ms2548 0) fun ms2864 => (spec_l22Latest_L20 F p0 p1 r2 x1462 n2733 ms2864 (IntKind.i64.wrap (x2550 - 1)))) else some ms2548)

def spec_l22Latest_L16 (F : Nat) (p0 : GEventGraph) (p1 : List (List Int)) (r2 : List Int) : Nat → (List (List Int)) → Int → Option (List (List Int))
  | 0, _, _ => none
  | n2189 + 1, ms1460, x1462 => (bif (decide (1 ≤ x1462)) then (Option.bind (spec_l22Latest_L20 F p0 p1 r2 x1462 F ms1460 (IntKind.i64.wrap ((r2.length : Int) - 1))) fun ms2728 => (spec_l22Latest_L16 F p0 p1 r2 n2189 ms2728 (IntKind.i64.wrap (x1462 - 1)))) else some ms1460)

def spec_l22Latest (F : Nat) (p0 : GEventGraph) (p1 : List (List Int)) : Option (List (List Int)) :=
  ((spec_l12Order F p0).bind fun r2 => ((spec_l02Own F p1).bind fun r8 => (Option.bind (spec_l22Latest_L16 F p0 p1 r2 F r8 (p1.length : Int)) fun ms2184 => some ms2184)))

def spec_l22Floats_L5 (F : Nat) (r22 : List (List Int)) (x324 : Int) : Nat → (List (List Int)) → Int → Option (List (List Int))
  | 0, _, _ => none
  | n587 + 1, ms546, x548 => ((idx ms546 x324).bind fun q588 => (bif (decide (x548 < (q588.length : Int))) then ((idx ms546 x324).bind fun q594 => ((idx ms546 x324).bind fun q599 => ((idx q599 x548).bind fun q604 => ((idx r22 x324).bind fun q606 => ((idx q606 x548).bind fun q611 => ((idx q594 x548).bind fun _q613 => ((upd q594 x548 (IntKind.i64.wrap (q604 - q611))).bind fun xs615 => ((upd ms546 x324 xs615).bind fun ms616 => (spec_l22Floats_L5 F r22 x324 n587 ms616 (IntKind.i64.wrap (x548 + 1))))))))))) else some ms546))

def spec_l22Floats_L4 (F : Nat) (r22 : List (List Int)) : Nat → (List (List Int)) → Int → Option (List (List Int))
  | 0, _, _ => none
  | n475 + 1, ms322, x324 => (bif (decide (x324 < (ms322.length : Int))) then (Option.bind (spec_l22Floats_L5 F r22 x324 F ms322 0) fun ms582 => (spec_l22Floats_L4 F r22 n475 ms582 (IntKind.i64.wrap (x324 + 1)))) else some ms322)

def spec_l22Floats (F : Nat) (p0_g : GEventGraph) (p1_due : List (List Int)) : Option (List (List Int)) :=
  ((spec_l22Latest F p0_g p1_due).bind fun r2 => ((mk p0_g.Events (0 : Int)).bind fun xs21 => ((spec_l13Times F p0_g (p1_due.length : Int) xs21).bind fun r22 => (Option.bind (spec_l22Floats_L4 F r22 F r2 0) fun ms470 => some ms470))))

def spec_FloatsOf (F : Nat) (p0_g : GEventGraph) (p1_due : List (List Int)) : Option (List (List Int) × Int) :=
  ((spec_l22Due F p0_g p1_due).bind fun r2 => ((spec_l13Code F p0_g r2).bind fun r4 => (bif (r4 != 0) then some (([] : List (List Int)), r4) else ((spec_l22Floats F p0_g p1_due).bind fun r8 => some (r8, 0)))))

def spec_CanMeet_L5 (F : Nat) (r2 : List (List Int) × Int) (x137 : Int) : Nat → Int → Option (Sum (Bool × Int) (Unit))
  | 0, _ => none
  | n253 + 1, x235 => ((idx r2.1 x137).bind fun q254 => (bif (decide (x235 < (q254.length : Int))) then ((idx r2.1 x137).bind fun q260 => ((idx q260 x235).bind fun q265 => (bif (decide (q265 < 0)) then some (Sum.inl (false, 0)) else (spec_CanMeet_L5 F r2 x137 n253 (IntKind.i64.wrap (x235 + 1)))))) else some (Sum.inr ())))

def spec_CanMeet_L4 (F : Nat) (r2 : List (List Int) × Int) : Nat → Int → Option (Sum (Bool × Int) (Unit))
  | 0, _ => none
  | n204 + 1, x137 => (bif (decide (x137 < (r2.1.length : Int))) then (Option.bind (spec_CanMeet_L5 F r2 x137 F 0) fun r250 => match r250 with | .inl x_ => some (Sum.inl x_) | .inr _ => (spec_CanMeet_L4 F r2 n204 (IntKind.i64.wrap (x137 + 1)))) else some (Sum.inr ()))

def spec_CanMeet (F : Nat) (p0_g : GEventGraph) (p1_due : List (List Int)) : Option (Bool × Int) :=
  ((spec_FloatsOf F p0_g p1_due).bind fun r2 => (bif (r2.2 != 0) then some (false, r2.2) else (Option.bind (spec_CanMeet_L4 F r2 F 0) fun r201 => match r201 with | .inl x_ => some x_ | .inr _ => some (true, 0))))

def impl_LateFirings_c1 (_F : Nat) (p0_k : Int) (p1_event : Int) (z0 : List (List Int)) (z1 : List (List Int)) : Option (Bool) :=
  ((idx z0 p0_k).bind fun q1 => ((idx q1 p1_event).bind fun q10 => ((idx z1 p0_k).bind fun q12 => ((idx q12 p1_event).bind fun q21 => some (decide (q21 < q10))))))

def impl_firingsWith_L5 (F : Nat) (m_p1_has : Int → Int → Option Bool) (x200 : Int) (q302 : List Int) : Nat → (List (List Int)) → Int → Option (List (List Int))
  | 0, _, _ => none
  | n376 + 1, ms346, x352 => (bif (decide (x352 < (q302.length : Int))) then ((m_p1_has x200 x352).bind fun r378 => (bif r378 then ((app ms346 ([[(IntKind.i64.wrap (x200 + 1)), x352]])).bind fun ms387 => (impl_firingsWith_L5 F m_p1_has x200 q302 n376 ms387 (IntKind.i64.wrap (x352 + 1)))) else (impl_firingsWith_L5 F m_p1_has x200 q302 n376 ms346 (IntKind.i64.wrap (x352 + 1))))) else some ms346)

def impl_firingsWith_L4 (F : Nat) (p0_table : List (List Int)) (m_p1_has : Int → Int → Option Bool) : Nat → (List (List Int)) → Int → Option (List (List Int))
  | 0, _, _ => none
  | n300 + 1, ms194, x200 => (bif (decide (x200 < (p0_table.length : Int))) then ((idx p0_table x200).bind fun q302 => (Option.bind (impl_firingsWith_L5 F m_p1_has x200 q302 F ms194 0) fun ms367 => (impl_firingsWith_L4 F p0_table m_p1_has n300 ms367 (IntKind.i64.wrap (x200 + 1))))) else some ms194)

def impl_firingsWith (F : Nat) (p0_table : List (List Int)) (m_p1_has : Int → Int → Option Bool) : Option (List (List Int)) :=
  (Option.bind (impl_firingsWith_L4 F p0_table m_p1_has F ([] : List (List Int)) 0) fun ms291 => some ms291)

def impl_LateFirings (F : Nat) (p0_g : GEventGraph) (p1_due : List (List Int)) : Option (List (List Int) × Int) :=
  ((impl_checkDue F p0_g p1_due).bind fun r3 => (bif (r3 != 0) then some (([] : List (List Int)), r3) else (Option.bind (((mk p0_g.Events (0 : Int)).bind fun xs70 => ((impl_firingTimes F p0_g (p1_due.length : Int) xs70).bind fun r71 => some r71)) : Option (List (List Int))) fun ms49 => ((impl_firingsWith F ms49 (fun x0 x1 => impl_LateFirings_c1 F x0 x1 ms49 p1_due)).bind fun r98 => some (r98, 0)))))

def spec_LateFirings_L5 (F : Nat) (p1 : List (List Int)) (r21 : List (List Int)) (x374 : Int) : Nat → (List (List Int)) → Int → Option (List (List Int))
  | 0, _, _ => none
  | n679 + 1, ms628, x634 => ((idx r21 x374).bind fun q680 => (bif (decide (x634 < (q680.length : Int))) then ((idx r21 x374).bind fun q686 => ((idx q686 x634).bind fun q691 => ((idx p1 x374).bind fun q693 => ((idx q693 x634).bind fun q702 => (bif (decide (q702 < q691)) then ((app ms628 ([[(IntKind.i64.wrap (x374 + 1)), x634]])).bind fun ms711 => (spec_LateFirings_L5 F p1 r21 x374 n679 ms711 (IntKind.i64.wrap (x634 + 1)))) else (spec_LateFirings_L5 F p1 r21 x374 n679 ms628 (IntKind.i64.wrap (x634 + 1)))))))) else some ms628))

def spec_LateFirings_L4 (F : Nat) (p1 : List (List Int)) (r21 : List (List Int)) : Nat → (List (List Int)) → Int → Option (List (List Int))
  | 0, _, _ => none
  | n549 + 1, ms368, x374 => (bif (decide (x374 < (r21.length : Int))) then (Option.bind (spec_LateFirings_L5 F p1 r21 x374 F ms368 0) fun ms670 => (spec_LateFirings_L4 F p1 r21 n549 ms670 (IntKind.i64.wrap (x374 + 1)))) else some ms368)

def spec_LateFirings (F : Nat) (p0 : GEventGraph) (p1 : List (List Int)) : Option (List (List Int) × Int) :=
  ((spec_l22Due F p0 p1).bind fun r2 => ((spec_l13Code F p0 r2).bind fun r4 => (bif (r4 != 0) then some (([] : List (List Int)), r4) else ((mk p0.Events (0 : Int)).bind fun xs20 => ((spec_l13Times F p0 (p1.length : Int) xs20).bind fun r21 => (Option.bind (spec_LateFirings_L4 F p1 r21 F [] 0) fun ms540 => some (ms540, 0)))))))

def impl_CriticalFirings_c1 (_F : Nat) (p0_k : Int) (p1_event : Int) (z0 : List (List Int)) : Option (Bool) :=
  ((idx z0 p0_k).bind fun q1 => ((idx q1 p1_event).bind fun q10 => some (q10 == 0)))

def impl_CriticalFirings (F : Nat) (p0_g : GEventGraph) (p1_due : List (List Int)) : Option (List (List Int) × Int) :=
  ((impl_checkDue F p0_g p1_due).bind fun r2 => (bif (r2 != 0) then some (([] : List (List Int)), r2) else ((impl_floatsOf F p0_g p1_due).bind fun r6 => ((impl_firingsWith F r6 (fun x0 x1 => impl_CriticalFirings_c1 F x0 x1 r6)).bind fun r14 => some (r14, 0)))))

def spec_CriticalFirings_L5 (F : Nat) (r2 : List (List Int) × Int) (x269 : Int) : Nat → (List (List Int)) → Int → Option (List (List Int))
  | 0, _, _ => none
  | n497 + 1, ms457, x463 => ((idx r2.1 x269).bind fun q498 => (bif (decide (x463 < (q498.length : Int))) then ((idx r2.1 x269).bind fun q504 => ((idx q504 x463).bind fun q509 => (bif (q509 == 0) then ((app ms457 ([[(IntKind.i64.wrap (x269 + 1)), x463]])).bind fun ms518 => (spec_CriticalFirings_L5 F r2 x269 n497 ms518 (IntKind.i64.wrap (x463 + 1)))) else (spec_CriticalFirings_L5 F r2 x269 n497 ms457 (IntKind.i64.wrap (x463 + 1)))))) else some ms457))

def spec_CriticalFirings_L4 (F : Nat) (r2 : List (List Int) × Int) : Nat → (List (List Int)) → Int → Option (List (List Int))
  | 0, _, _ => none
  | n400 + 1, ms263, x269 => (bif (decide (x269 < (r2.1.length : Int))) then (Option.bind (spec_CriticalFirings_L5 F r2 x269 F ms263 0) fun ms488 => (spec_CriticalFirings_L4 F r2 n400 ms488 (IntKind.i64.wrap (x269 + 1)))) else some ms263)

def spec_CriticalFirings (F : Nat) (p0_g : GEventGraph) (p1_due : List (List Int)) : Option (List (List Int) × Int) :=
  ((spec_FloatsOf F p0_g p1_due).bind fun r2 => (bif (r2.2 != 0) then some (([] : List (List Int)), r2.2) else (Option.bind (spec_CriticalFirings_L4 F r2 F [] 0) fun ms391 => some (ms391, 0))))

def laws_likeInts_L1 (F : Nat) (p0_a : List Int) (p1_b : List Int) : Nat → Int → Option (Sum Bool (Unit))
  | 0, _ => none
  | n25 + 1, x15 => (bif (decide (x15 < (p0_a.length : Int))) then ((idx p0_a x15).bind fun q27 => ((idx p1_b x15).bind fun q29 => (bif (q27 != q29) then some (Sum.inl false) else (laws_likeInts_L1 F p0_a p1_b n25 (IntKind.i64.wrap (x15 + 1)))))) else some (Sum.inr ()))

def laws_likeInts (F : Nat) (p0_a : List Int) (p1_b : List Int) : Option (Bool) :=
  (bif ((p0_a.length : Int) != (p1_b.length : Int)) then some false else (Option.bind (laws_likeInts_L1 F p0_a p1_b F 0) fun r22 => match r22 with | .inl x_ => some x_ | .inr _ => some true))

def laws_likeTables9_L1 (F : Nat) (p0_a : List (List Int)) (p1_b : List (List Int)) : Nat → Int → Option (Sum Bool (Unit))
  | 0, _ => none
  | n73 + 1, x47 => (bif (decide (x47 < (p0_a.length : Int))) then ((idx p0_a x47).bind fun q75 => ((idx p1_b x47).bind fun q84 => ((laws_likeInts F q75 q84).bind fun r93 => (bif (!r93) then some (Sum.inl false) else (laws_likeTables9_L1 F p0_a p1_b n73 (IntKind.i64.wrap (x47 + 1))))))) else some (Sum.inr ()))

def laws_likeTables9 (F : Nat) (p0_a : List (List Int)) (p1_b : List (List Int)) : Option (Bool) :=
  (bif ((p0_a.length : Int) != (p1_b.length : Int)) then some false else (Option.bind (laws_likeTables9_L1 F p0_a p1_b F 0) fun r70 => match r70 with | .inl x_ => some x_ | .inr _ => some true))

def impl_FloatsOf (F : Nat) (p0_g : GEventGraph) (p1_due : List (List Int)) : Option (List (List Int) × Int) :=
  ((impl_checkDue F p0_g p1_due).bind fun r2 => (bif (r2 != 0) then some (([] : List (List Int)), r2) else ((impl_floatsOf F p0_g p1_due).bind fun r6 => some (r6, 0))))

def laws_FnDue_L1 (F : Nat) (r34 : List (List Int) × Int) (r75 : List (List Int) × Int) : Nat → Int → Option (Sum Bool (Unit))
  | 0, _ => none
  | n156 + 1, x129 => (bif (decide (x129 < (r34.1.length : Int))) then ((idx r34.1 x129).bind fun q158 => ((idx q158 0).bind fun q163 => ((idx r75.1 (IntKind.i64.wrap (q163 - 1))).bind fun q165 => ((idx r34.1 x129).bind fun q170 => ((idx q170 1).bind fun q175 => ((idx q165 q175).bind fun q177 => (bif (q177 != 0) then some (Sum.inl false) else (laws_FnDue_L1 F r34 r75 n156 (IntKind.i64.wrap (x129 + 1)))))))))) else some (Sum.inr ()))

def laws_FnDue (F : Nat) (p0 : List Int) : Option (Bool) :=
  ((laws_big F p0).bind fun r1 => (bif r1 then some true else ((spec_DrawCanMeet F p0).bind fun r4 => ((impl_CanMeet F (GEventGraph.mk r4.1.Events r4.1.Places) r4.2).bind fun r16 => ((spec_CanMeet F (GEventGraph.mk r4.1.Events r4.1.Places) r4.2).bind fun r18 => ((impl_LateFirings F (GEventGraph.mk r4.1.Events r4.1.Places) r4.2).bind fun r20 => ((spec_LateFirings F (GEventGraph.mk r4.1.Events r4.1.Places) r4.2).bind fun r27 => ((impl_CriticalFirings F (GEventGraph.mk r4.1.Events r4.1.Places) r4.2).bind fun r34 => ((spec_CriticalFirings F (GEventGraph.mk r4.1.Events r4.1.Places) r4.2).bind fun r41 => (Option.bind ((bif (r16.2 != r18.2) then some true else (bif (r16.1 != r18.1) then some true else (bif (r20.2 != r27.2) then some true else ((laws_likeTables9 F r20.1 r27.1).bind fun r65 => (bif (!r65) then some true else (bif (r34.2 != r41.2) then some true else ((laws_likeTables9 F r34.1 r41.1).bind fun r69 => (bif (!r69) then some true else (bif (r20.2 != r16.2) then some true else some (r34.2 != r16.2)))))))))) : Option (Bool)) fun b59 => (bif b59 then some false else (bif (r16.2 != 0) then some true else ((impl_FloatsOf F (GEventGraph.mk r4.1.Events r4.1.Places) r4.2).bind fun r75 => (Option.bind (laws_FnDue_L1 F r34 r75 F 0) fun r153 => match r153 with | .inl x_ => some x_ | .inr _ => (Option.bind ((bif (r75.2 == 0) then some (r16.1 == ((r20.1.length : Int) == 0)) else some false) : Option (Bool)) fun b181 => some b181)))))))))))))))

end Go.Proofs.Ytebmlphobgaboaa
