/- Plain models of the functions. -/
import Derived.Test.YtebmlphobgaboaaLiftH
namespace Go.Proofs.Ytebmlphobgaboaa

structure LWindow where
  Low : Int
  High : Int

structure LBond where
  From : Int
  To : Int
  Least : Int

structure GWindow where
  Low : Int
  High : Int

structure GBond where
  From : Int
  To : Int
  Least : Int

def laws_szWindowS (_F : Nat) (p0_a : List LWindow) (p1_left : Int) : Option (Int) :=
  (bif (decide ((IntKind.i64.wrap (p1_left - (p0_a.length : Int))) < 0)) then some (-1) else some (IntKind.i64.wrap (p1_left - (p0_a.length : Int))))

def laws_szBondS (_F : Nat) (p0_a : List LBond) (p1_left : Int) : Option (Int) :=
  (bif (decide ((IntKind.i64.wrap (p1_left - (p0_a.length : Int))) < 0)) then some (-1) else some (IntKind.i64.wrap (p1_left - (p0_a.length : Int))))

def laws_toWindow (_F : Nat) (p0_a : LWindow) : Option (GWindow) :=
  some (GWindow.mk p0_a.Low p0_a.High)

def laws_toWindowS_L1 (F : Nat) (p0_a : List LWindow) : Nat → (List GWindow) → Int → Option (List GWindow)
  | 0, _, _ => none
  | n42 + 1, xs25, x27 => (bif (decide (x27 < (p0_a.length : Int))) then ((idx p0_a x27).bind fun q44 => ((laws_toWindow F q44).bind fun r46 => ((idx xs25 x27).bind fun _q48 => ((upd xs25 x27 r46).bind fun xs50 => (laws_toWindowS_L1 F p0_a n42 xs50 (IntKind.i64.wrap (x27 + 1))))))) else some xs25)

def laws_toWindowS (F : Nat) (p0_a : List LWindow) : Option (List GWindow) :=
  ((mk (p0_a.length : Int) ((GWindow.mk 0 0) : GWindow)).bind fun xs3 => (Option.bind (laws_toWindowS_L1 F p0_a F xs3 0) fun xs37 => some xs37))

def laws_toBond (_F : Nat) (p0_a : LBond) : Option (GBond) :=
  some (GBond.mk p0_a.From p0_a.To p0_a.Least)

def laws_toBondS_L1 (F : Nat) (p0_a : List LBond) : Nat → (List GBond) → Int → Option (List GBond)
  | 0, _, _ => none
  | n42 + 1, xs25, x27 => (bif (decide (x27 < (p0_a.length : Int))) then ((idx p0_a x27).bind fun q44 => ((laws_toBond F q44).bind fun r46 => ((idx xs25 x27).bind fun _q48 => ((upd xs25 x27 r46).bind fun xs50 => (laws_toBondS_L1 F p0_a n42 xs50 (IntKind.i64.wrap (x27 + 1))))))) else some xs25)

def laws_toBondS (F : Nat) (p0_a : List LBond) : Option (List GBond) :=
  ((mk (p0_a.length : Int) ((GBond.mk 0 0 0) : GBond)).bind fun xs3 => (Option.bind (laws_toBondS_L1 F p0_a F xs3 0) fun xs37 => some xs37))

def spec_l01In (_F : Nat) (p0_n : Int) (p1_low : Int) (p2_high : Int) : Option (Bool) :=
  (Option.bind ((bif (decide (p1_low ≤ p0_n)) then some (decide (p0_n ≤ p2_high)) else some false) : Option (Bool)) fun b2 => some b2)

def spec_l01Finite (F : Nat) (p0_a : Int) : Option (Bool) :=
  ((spec_l01In F p0_a (-1000000) 1000000).bind fun r1 => some r1)

def spec_IsTask_L1 (F : Nat) (p0 : List GWindow) : Nat → Int → Option (Sum Bool (Unit))
  | 0, _ => none
  | n91 + 1, x62 => (bif (decide (x62 < (p0.length : Int))) then (Option.bind (((idx p0 x62).bind fun q106 => (bif (decide (q106.Low < 0)) then some true else ((idx p0 x62).bind fun q109 => (bif (decide (1000000 < q109.High)) then some true else ((idx p0 x62).bind fun q112 => ((idx p0 x62).bind fun q114 => some (decide (q114.High < q112.Low)))))))) : Option (Bool)) fun b103 => (bif b103 then some (Sum.inl false) else (spec_IsTask_L1 F p0 n91 (IntKind.i64.wrap (x62 + 1))))) else some (Sum.inr ()))

def spec_IsTask_L2 (F : Nat) (p0 : List GWindow) (p1 : List GBond) : Nat → Int → Option (Sum Bool (Unit))
  | 0, _ => none
  | n221 + 1, x184 => (bif (decide (x184 < (p1.length : Int))) then (Option.bind (((idx p1 x184).bind fun q240 => ((spec_l01In F q240.From 0 (IntKind.i64.wrap ((p0.length : Int) - 1))).bind fun r242 => (bif (!r242) then some true else ((idx p1 x184).bind fun q245 => ((spec_l01In F q245.To 0 (IntKind.i64.wrap ((p0.length : Int) - 1))).bind fun r247 => (bif (!r247) then some true else ((idx p1 x184).bind fun q250 => ((spec_l01Finite F q250.Least).bind fun r252 => some (!r252))))))))) : Option (Bool)) fun b237 => (bif b237 then some (Sum.inl false) else (spec_IsTask_L2 F p0 p1 n221 (IntKind.i64.wrap (x184 + 1))))) else some (Sum.inr ()))

def spec_IsTask (F : Nat) (p0 : List GWindow) (p1 : List GBond) : Option (Bool) :=
  (Option.bind (((spec_l01In F (p0.length : Int) 1 10).bind fun r7 => (bif (!r7) then some true else some (decide (30 < (p1.length : Int))))) : Option (Bool)) fun b4 => (bif b4 then some false else (Option.bind (spec_IsTask_L1 F p0 F 0) fun r88 => match r88 with | .inl x_ => some x_ | .inr _ => (Option.bind (spec_IsTask_L2 F p0 p1 F 0) fun r218 => match r218 with | .inl x_ => some x_ | .inr _ => some true))))

def spec_l02Bottom_L5 (F : Nat) (p1_n : Int) : Nat → (List Int) → Int → Option (List Int)
  | 0, _, _ => none
  | n252 + 1, xs231, x236 => (bif (decide (x236 < p1_n)) then ((app xs231 ([(-1000000000000000)])).bind fun xs258 => (spec_l02Bottom_L5 F p1_n n252 xs258 (IntKind.i64.wrap (x236 + 1)))) else some xs231)

def spec_l02Bottom_L4 (F : Nat) (p0_m : Int) (p1_n : Int) : Nat → (List (List Int)) → Int → Option (List (List Int))
  | 0, _, _ => none
  | n207 + 1, ms131, x137 => (bif (decide (x137 < p0_m)) then (Option.bind (spec_l02Bottom_L5 F p1_n F ([] : List Int) 0) fun xs244 => ((app ms131 ([xs244])).bind fun ms264 => (spec_l02Bottom_L4 F p0_m p1_n n207 ms264 (IntKind.i64.wrap (x137 + 1))))) else some ms131)

def spec_l02Bottom (F : Nat) (p0_m : Int) (p1_n : Int) : Option (List (List Int)) :=
  (Option.bind (spec_l02Bottom_L4 F p0_m p1_n F [] 0) fun ms198 => some ms198)

def spec_l23Matrix_L1 (F : Nat) (p1_bonds : List GBond) : Nat → (List (List Int)) → Int → Option (List (List Int))
  | 0, _, _ => none
  | n91 + 1, ms59, x61 => (bif (decide (x61 < (p1_bonds.length : Int))) then ((idx p1_bonds x61).bind fun q93 => ((idx ms59 q93.To).bind fun q96 => ((idx ms59 q93.To).bind fun q101 => ((idx q101 q93.From).bind fun q106 => ((idx q96 q93.From).bind fun _q108 => ((upd q96 q93.From (max q106 q93.Least)).bind fun xs110 => ((upd ms59 q93.To xs110).bind fun ms111 => (spec_l23Matrix_L1 F p1_bonds n91 ms111 (IntKind.i64.wrap (x61 + 1)))))))))) else some ms59)

def spec_l23Matrix (F : Nat) (p0_n : Int) (p1_bonds : List GBond) : Option (List (List Int)) :=
  ((spec_l02Bottom F p0_n p0_n).bind fun r1 => (Option.bind (spec_l23Matrix_L1 F p1_bonds F r1 0) fun ms86 => some ms86))

def spec_l02Unit_L1 (F : Nat) (p0_n : Int) : Nat → (List (List Int)) → Int → Option (List (List Int))
  | 0, _, _ => none
  | n61 + 1, ms39, x41 => (bif (decide (x41 < p0_n)) then ((idx ms39 x41).bind fun q63 => ((idx q63 x41).bind fun _q68 => ((upd q63 x41 0).bind fun xs70 => ((upd ms39 x41 xs70).bind fun ms71 => (spec_l02Unit_L1 F p0_n n61 ms71 (IntKind.i64.wrap (x41 + 1))))))) else some ms39)

def spec_l02Unit (F : Nat) (p0_n : Int) : Option (List (List Int)) :=
  ((spec_l02Bottom F p0_n p0_n).bind fun r1 => (Option.bind (spec_l02Unit_L1 F p0_n F r1 0) fun ms56 => some ms56))

def spec_l01Times (_F : Nat) (p0_a : Int) (p1_b : Int) : Option (Int) :=
  (Option.bind ((bif (p0_a == (-1000000000000000)) then some true else some (p1_b == (-1000000000000000))) : Option (Bool)) fun b2 => (bif b2 then some (-1000000000000000) else some (IntKind.i64.wrap (p0_a + p1_b))))

def spec_l02Multiply_L21 (F : Nat) (p0 : List (List Int)) (p1 : List (List Int)) (x3072 : Int) (x5366 : Int) : Nat → (List (List Int)) → Int → Option (List (List Int))
  | 0, _, _ => none
  | n6039 + 1, ms5942, x5944 => (bif (decide (x5944 < (p1.length : Int))) then ((idx ms5942 x3072).bind fun q6085 => ((idx ms5942 x3072).bind fun q6090 => ((idx q6090 x5366).bind fun q6095 => ((idx p0 x3072).bind fun q6097 => ((idx q6097 x5944).bind fun q6106 => ((idx p1 x5944).bind fun q6108 => ((idx q6108 x5366).bind fun q6117 => ((spec_l01Times F q6106 q6117).bind fun r6119 => ((idx q6085 x5366).bind fun _q6121 => ((upd q6085 x5366 (max q6095 r6119)).bind fun xs6123 => ((upd ms5942 x3072 xs6123).bind fun ms6124 => (spec_l02Multiply_L21 F p0 p1 x3072 x5366 n6039 ms6124 (IntKind.i64.wrap (x5944 + 1)))))))))))))) else some ms5942)

def spec_l02Multiply_L20 (F : Nat) (p0 : List (List Int)) (p1 : List (List Int)) (x3072 : Int) : Nat → (List (List Int)) → Int → Option (List (List Int))
  | 0, _, _ => none
  | n5750 + 1, ms5364, x5366 => ((idx p1 0).bind fun q5751 => (bif (decide (x5366 < (q5751.length : Int))) then (Option.bind (spec_l02Multiply_L21 F p0 p1 x3072 x5366 F ms5364 0) fun ms6034 => (spec_l02Multiply_L20 F p0 p1 x3072 n5750 ms6034 (IntKind.i64.wrap (x5366 + 1)))) else some ms5364))

def spec_l02Multiply_L16 (F : Nat) (p0 : List (List Int)) (p1 : List (List Int)) : Nat → (List (List Int)) → Int → Option (List (List Int))
  | 0, _, _ => none
  | n4603 + 1, ms3070, x3072 => (bif (decide (x3072 < (p0.length : Int))) then (Option.bind (spec_l02Multiply_L20 F p0 p1 x3072 F ms3070 0) fun ms5745 => (spec_l02Multiply_L16 F p0 p1 n4603 ms5745 (IntKind.i64.wrap (x3072 + 1)))) else some ms3070)

def spec_l02Multiply (F : Nat) (p0 : List (List Int)) (p1 : List (List Int)) : Option (List (List Int)) :=
  ((idx p1 0).bind fun q1 => ((spec_l02Bottom F (p0.length : Int) (q1.length : Int)).bind fun r10 => (Option.bind (spec_l02Multiply_L16 F p0 p1 F r10 0) fun ms4598 => some ms4598)))

def spec_l01Own (_F : Nat) (p0_list : List Int) : Option (List Int) :=
  ((app ([] : List Int) p0_list).bind fun xs5 => some xs5)

def spec_l02Own_L1 (F : Nat) (p0_a : List (List Int)) : Nat → (List (List Int)) → Int → Option (List (List Int))
  | 0, _, _ => none
  | n99 + 1, ms59, x65 => (bif (decide (x65 < (p0_a.length : Int))) then ((idx p0_a x65).bind fun q101 => ((spec_l01Own F q101).bind fun r110 => ((app ms59 ([r110])).bind fun ms120 => (spec_l02Own_L1 F p0_a n99 ms120 (IntKind.i64.wrap (x65 + 1)))))) else some ms59)

def spec_l02Own (F : Nat) (p0_a : List (List Int)) : Option (List (List Int)) :=
  (Option.bind (spec_l02Own_L1 F p0_a F [] 0) fun ms90 => some ms90)

def spec_l02Add_L5 (F : Nat) (p1_b : List (List Int)) (x335 : Int) : Nat → (List (List Int)) → Int → Option (List (List Int))
  | 0, _, _ => none
  | n626 + 1, ms581, x583 => ((idx ms581 x335).bind fun q627 => (bif (decide (x583 < (q627.length : Int))) then ((idx ms581 x335).bind fun q633 => ((idx ms581 x335).bind fun q638 => ((idx q638 x583).bind fun q643 => ((idx p1_b x335).bind fun q645 => ((idx q645 x583).bind fun q654 => ((idx q633 x583).bind fun _q656 => ((upd q633 x583 (max q643 q654)).bind fun xs658 => ((upd ms581 x335 xs658).bind fun ms659 => (spec_l02Add_L5 F p1_b x335 n626 ms659 (IntKind.i64.wrap (x583 + 1))))))))))) else some ms581))

def spec_l02Add_L4 (F : Nat) (p1_b : List (List Int)) : Nat → (List (List Int)) → Int → Option (List (List Int))
  | 0, _, _ => none
  | n502 + 1, ms333, x335 => (bif (decide (x335 < (ms333.length : Int))) then (Option.bind (spec_l02Add_L5 F p1_b x335 F ms333 0) fun ms621 => (spec_l02Add_L4 F p1_b n502 ms621 (IntKind.i64.wrap (x335 + 1)))) else some ms333)

def spec_l02Add (F : Nat) (p0_a : List (List Int)) (p1_b : List (List Int)) : Option (List (List Int)) :=
  ((spec_l02Own F p0_a).bind fun r1 => (Option.bind (spec_l02Add_L4 F p1_b F r1 0) fun ms497 => some ms497))

def spec_l01Same_L1 (F : Nat) (p0_a : List Int) (p1_b : List Int) : Nat → Int → Option (Sum Bool (Unit))
  | 0, _ => none
  | n25 + 1, x15 => (bif (decide (x15 < (p0_a.length : Int))) then ((idx p0_a x15).bind fun q27 => ((idx p1_b x15).bind fun q29 => (bif (q27 != q29) then some (Sum.inl false) else (spec_l01Same_L1 F p0_a p1_b n25 (IntKind.i64.wrap (x15 + 1)))))) else some (Sum.inr ()))

def spec_l01Same (F : Nat) (p0_a : List Int) (p1_b : List Int) : Option (Bool) :=
  (bif ((p0_a.length : Int) != (p1_b.length : Int)) then some false else (Option.bind (spec_l01Same_L1 F p0_a p1_b F 0) fun r22 => match r22 with | .inl x_ => some x_ | .inr _ => some true))

def spec_l02Same_L1 (F : Nat) (p0_a : List (List Int)) (p1_b : List (List Int)) : Nat → Int → Option (Sum Bool (Unit))
  | 0, _ => none
  | n73 + 1, x47 => (bif (decide (x47 < (p0_a.length : Int))) then ((idx p0_a x47).bind fun q75 => ((idx p1_b x47).bind fun q84 => ((spec_l01Same F q75 q84).bind fun r93 => (bif (!r93) then some (Sum.inl false) else (spec_l02Same_L1 F p0_a p1_b n73 (IntKind.i64.wrap (x47 + 1))))))) else some (Sum.inr ()))

def spec_l02Same (F : Nat) (p0_a : List (List Int)) (p1_b : List (List Int)) : Option (Bool) :=
  (bif ((p0_a.length : Int) != (p1_b.length : Int)) then some false else (Option.bind (spec_l02Same_L1 F p0_a p1_b F 0) fun r70 => match r70 with | .inl x_ => some x_ | .inr _ => some true))

def spec_l03Star_L1 (F : Nat) (p0_a : List (List Int)) : Nat → (List (List Int)) → Int → Option (List (List Int))
  | 0, _, _ => none
  | n97 + 1, ms59, x65 => (bif (decide (x65 < (p0_a.length : Int))) then ((spec_l02Unit F (p0_a.length : Int)).bind fun r99 => ((spec_l02Multiply F p0_a ms59).bind fun r106 => ((spec_l02Add F r99 r106).bind fun r113 => (spec_l03Star_L1 F p0_a n97 r113 (IntKind.i64.wrap (x65 + 1)))))) else some ms59)

def spec_l03Star (F : Nat) (p0_a : List (List Int)) : Option (List (List Int) × Bool) :=
  ((spec_l02Unit F (p0_a.length : Int)).bind fun r1 => (Option.bind (spec_l03Star_L1 F p0_a F r1 0) fun ms88 => ((spec_l02Unit F (p0_a.length : Int)).bind fun r120 => ((spec_l02Multiply F p0_a ms88).bind fun r127 => ((spec_l02Add F r120 r127).bind fun r134 => ((spec_l02Same F r134 ms88).bind fun r141 => some (ms88, r141)))))))

def spec_IsValue (F : Nat) (p0_a : Int) : Option (Bool) :=
  (Option.bind ((bif (p0_a == (-1000000000000000)) then some true else ((spec_l01Finite F p0_a).bind fun r8 => some r8)) : Option (Bool)) fun b4 => some b4)

def spec_l01All_L1 (F : Nat) (p0_list : List Int) (p1_finite : Bool) : Nat → Int → Option (Sum Bool (Unit))
  | 0, _ => none
  | n69 + 1, x44 => (bif (decide (x44 < (p0_list.length : Int))) then (Option.bind (((idx p0_list x44).bind fun q82 => ((spec_IsValue F q82).bind fun r84 => (bif (!r84) then some true else (bif p1_finite then ((idx p0_list x44).bind fun q88 => some (q88 == (-1000000000000000))) else some false)))) : Option (Bool)) fun b79 => (bif b79 then some (Sum.inl false) else (spec_l01All_L1 F p0_list p1_finite n69 (IntKind.i64.wrap (x44 + 1))))) else some (Sum.inr ()))

def spec_l01All (F : Nat) (p0_list : List Int) (p1_finite : Bool) : Option (Bool) :=
  (Option.bind (spec_l01All_L1 F p0_list p1_finite F 0) fun r66 => match r66 with | .inl x_ => some x_ | .inr _ => some true)

def spec_l02Vector (F : Nat) (p0_x : List Int) : Option (Bool) :=
  (Option.bind (((spec_l01In F (p0_x.length : Int) 1 10).bind fun r9 => (bif r9 then ((spec_l01All F p0_x false).bind fun r12 => some r12) else some false)) : Option (Bool)) fun b6 => some b6)

def spec_IsMatrix_L1 (F : Nat) (p0_a : List (List Int)) : Nat → Int → Option (Sum Bool (Unit))
  | 0, _ => none
  | n207 + 1, x138 => (bif (decide (x138 < (p0_a.length : Int))) then (Option.bind (((idx p0_a x138).bind fun q242 => ((spec_l02Vector F q242).bind fun r251 => (bif (!r251) then some true else ((idx p0_a x138).bind fun q254 => ((idx p0_a 0).bind fun q263 => some ((q254.length : Int) != (q263.length : Int))))))) : Option (Bool)) fun b239 => (bif b239 then some (Sum.inl false) else (spec_IsMatrix_L1 F p0_a n207 (IntKind.i64.wrap (x138 + 1))))) else some (Sum.inr ()))

def spec_IsMatrix (F : Nat) (p0_a : List (List Int)) : Option (Bool) :=
  (Option.bind ((bif (decide ((p0_a.length : Int) < 1)) then some true else some (decide (10 < (p0_a.length : Int)))) : Option (Bool)) fun b2 => (bif b2 then some false else (Option.bind (spec_IsMatrix_L1 F p0_a F 0) fun r204 => match r204 with | .inl x_ => some x_ | .inr _ => some true)))

def spec_l02Square (F : Nat) (p0_a : List (List Int)) : Option (Bool) :=
  (Option.bind (((spec_IsMatrix F p0_a).bind fun r16 => (bif r16 then ((idx p0_a 0).bind fun q19 => some ((p0_a.length : Int) == (q19.length : Int))) else some false)) : Option (Bool)) fun b13 => some b13)

def spec_l03Node (F : Nat) (p0_a : List (List Int)) (p1_v : Int) : Option (Bool) :=
  ((spec_l01In F p1_v 0 (IntKind.i64.wrap ((p0_a.length : Int) - 1))).bind fun r1 => some r1)

def spec_HeaviestPath_L1 (F : Nat) (p0 : List (List Int)) (p1 : Int) (p2 : Int) (r20 : List (List Int) × Bool) : Nat → (List (List (List Int))) → Option (List (List (List Int)))
  | 0, _ => none
  | n194 + 1, ms137 => ((idx ms137 (IntKind.i64.wrap ((ms137.length : Int) - 1))).bind fun q195 => ((idx q195 p2).bind fun q201 => ((idx q201 p1).bind fun q206 => ((idx r20.1 p2).bind fun q208 => ((idx q208 p1).bind fun q213 => (bif (q206 != q213) then ((idx ms137 (IntKind.i64.wrap ((ms137.length : Int) - 1))).bind fun q216 => ((spec_l02Multiply F q216 p0).bind fun r222 => ((app ms137 ([r222])).bind fun ms233 => (spec_HeaviestPath_L1 F p0 p1 p2 r20 n194 ms233)))) else some ms137))))))

def spec_HeaviestPath_L6 (F : Nat) (p0 : List (List Int)) (p2 : Int) (ms185 : List (List (List Int))) (x973 : Int) (x974 : Int) (q1338 : Int) : Nat → Int → Int → Option (Int)
  | 0, _, _ => none
  | n1591 + 1, x1504, x1505 => (bif (decide (0 ≤ x1505)) then (Option.bind (((idx p0 x1505).bind fun q1634 => ((idx q1634 q1338).bind fun q1643 => (bif (q1643 != (-1000000000000000)) then ((idx p0 x1505).bind fun q1646 => ((idx q1646 q1338).bind fun q1655 => ((idx ms185 x974).bind fun q1657 => ((idx q1657 p2).bind fun q1663 => ((idx q1663 x1505).bind fun q1668 => ((spec_l01Times F q1655 q1668).bind fun r1670 => some (r1670 == x973))))))) else some false))) : Option (Bool)) fun b1631 => (bif b1631 then (spec_HeaviestPath_L6 F p0 p2 ms185 x973 x974 q1338 n1591 x1505 (IntKind.i64.wrap (x1505 - 1))) else (spec_HeaviestPath_L6 F p0 p2 ms185 x973 x974 q1338 n1591 x1504 (IntKind.i64.wrap (x1505 - 1))))) else some x1504)

def spec_HeaviestPath_L5 (F : Nat) (p0 : List (List Int)) (p2 : Int) (ms185 : List (List (List Int))) : Nat → (List Int) → Int → Int → Option (List Int)
  | 0, _, _, _ => none
  | n1336 + 1, xs968, x973, x974 => (bif (decide (0 ≤ x974)) then ((idx xs968 (IntKind.i64.wrap ((xs968.length : Int) - 1))).bind fun q1338 => (Option.bind (spec_HeaviestPath_L6 F p0 p2 ms185 x973 x974 q1338 F (-1) (IntKind.i64.wrap ((p0.length : Int) - 1))) fun x1587 => ((idx p0 x1587).bind fun q1673 => ((idx q1673 q1338).bind fun q1682 => ((app xs968 ([x1587])).bind fun xs1688 => (spec_HeaviestPath_L5 F p0 p2 ms185 n1336 xs1688 (IntKind.i64.wrap (x973 - q1682)) (IntKind.i64.wrap (x974 - 1)))))))) else some xs968)

def spec_HeaviestPath (F : Nat) (p0 : List (List Int)) (p1 : Int) (p2 : Int) : Option (List Int × Int) :=
  ((spec_l02Square F p0).bind fun r1 => (bif (!r1) then some (([] : List Int), 1) else (Option.bind (((spec_l03Node F p0 p1).bind fun r13 => (bif (!r13) then some true else ((spec_l03Node F p0 p2).bind fun r16 => some (!r16)))) : Option (Bool)) fun b10 => (bif b10 then some (([] : List Int), 2) else ((spec_l03Star F p0).bind fun r20 => (bif (!r20.2) then some (([] : List Int), 5) else ((idx r20.1 p2).bind fun q29 => ((idx q29 p1).bind fun q34 => (bif (q34 == (-1000000000000000)) then some (([] : List Int), 4) else ((spec_l02Unit F (p0.length : Int)).bind fun r38 => (Option.bind (spec_HeaviestPath_L1 F p0 p1 p2 r20 F ([r38])) fun ms185 => ((idx r20.1 p2).bind fun q246 => ((idx q246 p1).bind fun q251 => (Option.bind (spec_HeaviestPath_L5 F p0 p2 ms185 F ([p1]) q251 (IntKind.i64.wrap ((ms185.length : Int) - 2))) fun xs1328 => some (xs1328, 0)))))))))))))))

def spec_FindSqueeze_L5 (F : Nat) (p0 : List GWindow) (r5 : List (List Int)) (r12 : List (List Int) × Bool) (x260 : Int) : Nat → Int → Option (Sum (List Int × Int) (Unit))
  | 0, _ => none
  | n474 + 1, x442 => (bif (decide (x442 < (p0.length : Int))) then ((idx p0 x260).bind fun q476 => ((idx r12.1 x442).bind fun q478 => ((idx q478 x260).bind fun q483 => ((spec_l01Times F q476.Low q483).bind fun r485 => (Option.bind ((bif (r485 != (-1000000000000000)) then ((idx p0 x442).bind fun q494 => some (decide (q494.High < r485))) else some false) : Option (Bool)) fun b490 => (bif b490 then ((spec_HeaviestPath F r5 x260 x442).bind fun r497 => some (Sum.inl (r497.1, r497.2))) else (spec_FindSqueeze_L5 F p0 r5 r12 x260 n474 (IntKind.i64.wrap (x442 + 1))))))))) else some (Sum.inr ()))

def spec_FindSqueeze_L4 (F : Nat) (p0 : List GWindow) (r5 : List (List Int)) (r12 : List (List Int) × Bool) : Nat → Int → Option (Sum (List Int × Int) (Unit))
  | 0, _ => none
  | n383 + 1, x260 => (bif (decide (x260 < (p0.length : Int))) then (Option.bind (spec_FindSqueeze_L5 F p0 r5 r12 x260 F 0) fun r471 => match r471 with | .inl x_ => some (Sum.inl x_) | .inr _ => (spec_FindSqueeze_L4 F p0 r5 r12 n383 (IntKind.i64.wrap (x260 + 1)))) else some (Sum.inr ()))

def spec_FindSqueeze (F : Nat) (p0 : List GWindow) (p1 : List GBond) : Option (List Int × Int) :=
  ((spec_IsTask F p0 p1).bind fun r1 => (bif (!r1) then some (([] : List Int), 1) else ((spec_l23Matrix F (p0.length : Int) p1).bind fun r5 => ((spec_l03Star F r5).bind fun r12 => (bif (!r12.2) then some (([] : List Int), 5) else (Option.bind (spec_FindSqueeze_L4 F p0 r5 r12 F 0) fun r380 => match r380 with | .inl x_ => some x_ | .inr _ => some (([] : List Int), 4)))))))

def impl_within (_F : Nat) (p0_n : Int) (p1_low : Int) (p2_high : Int) : Option (Bool) :=
  (Option.bind ((bif (decide (p1_low ≤ p0_n)) then some (decide (p0_n ≤ p2_high)) else some false) : Option (Bool)) fun b2 => some b2)

def impl_isFinite (F : Nat) (p0_n : Int) : Option (Bool) :=
  ((impl_within F p0_n (-1000000) 1000000).bind fun r1 => some r1)

def impl_IsTask_c1 (F : Nat) (p0_b : GBond) (z0 : Int) : Option (Bool) :=
  (Option.bind (((impl_within F p0_b.From 0 z0).bind fun r13 => (bif (!r13) then some true else ((impl_within F p0_b.To 0 z0).bind fun r16 => (bif (!r16) then some true else ((impl_isFinite F p0_b.Least).bind fun r19 => some (!r19)))))) : Option (Bool)) fun b10 => some b10)

def slices_IndexFunc_Bond_L1 (F : Nat) (p0_s : List GBond) (m_p1_f : GBond → Option Bool) : Nat → Int → Option (Sum Int (Unit))
  | 0, _ => none
  | n24 + 1, x14 => (bif (decide (x14 < (p0_s.length : Int))) then ((idx p0_s x14).bind fun q26 => ((m_p1_f q26).bind fun r28 => (bif r28 then some (Sum.inl x14) else (slices_IndexFunc_Bond_L1 F p0_s m_p1_f n24 (IntKind.i64.wrap (x14 + 1)))))) else some (Sum.inr ()))

def slices_IndexFunc_Bond (F : Nat) (p0_s : List GBond) (m_p1_f : GBond → Option Bool) : Option (Int) :=
  (Option.bind (slices_IndexFunc_Bond_L1 F p0_s m_p1_f F 0) fun r21 => match r21 with | .inl x_ => some x_ | .inr _ => some (-1))

def slices_ContainsFunc_Bond (F : Nat) (p0_s : List GBond) (m_p1_f : GBond → Option Bool) : Option (Bool) :=
  ((slices_IndexFunc_Bond F p0_s m_p1_f).bind fun r1 => some (decide (0 ≤ r1)))

def impl_IsTask_L1 (F : Nat) (p0_windows : List GWindow) : Nat → Int → Option (Sum Bool (Unit))
  | 0, _ => none
  | n52 + 1, x36 => (bif (decide (x36 < (p0_windows.length : Int))) then ((idx p0_windows x36).bind fun q54 => (Option.bind ((bif (decide (q54.Low < 0)) then some true else (bif (decide (q54.High < q54.Low)) then some true else some (decide (1000000 < q54.High)))) : Option (Bool)) fun b59 => (bif b59 then some (Sum.inl false) else (impl_IsTask_L1 F p0_windows n52 (IntKind.i64.wrap (x36 + 1)))))) else some (Sum.inr ()))

def impl_IsTask (F : Nat) (p0_windows : List GWindow) (p1_bonds : List GBond) : Option (Bool) :=
  (Option.bind (((impl_within F (p0_windows.length : Int) 1 10).bind fun r7 => (bif (!r7) then some true else some (decide (30 < (p1_bonds.length : Int))))) : Option (Bool)) fun b4 => (bif b4 then some false else (Option.bind (impl_IsTask_L1 F p0_windows F 0) fun r49 => match r49 with | .inl x_ => some x_ | .inr _ => ((slices_ContainsFunc_Bond F p1_bonds (fun x0 => impl_IsTask_c1 F x0 (IntKind.i64.wrap ((p0_windows.length : Int) - 1)))).bind fun r66 => some (!r66)))))

def impl_matrixBy_L5 (F : Nat) (m_p2_entry : Int → Int → Option Int) (x324 : Int) (q500 : List Int) : Nat → (List (List Int)) → Int → Option (List (List Int))
  | 0, _, _ => none
  | n609 + 1, ms570, x572 => (bif (decide (x572 < (q500.length : Int))) then ((idx ms570 x324).bind fun q626 => ((m_p2_entry x324 x572).bind fun r631 => ((idx q626 x572).bind fun _q633 => ((upd q626 x572 r631).bind fun xs635 => ((upd ms570 x324 xs635).bind fun ms636 => (impl_matrixBy_L5 F m_p2_entry x324 q500 n609 ms636 (IntKind.i64.wrap (x572 + 1)))))))) else some ms570)

def impl_matrixBy_L4 (F : Nat) (p1_n : Int) (m_p2_entry : Int → Int → Option Int) (ms3 : List (List Int)) : Nat → (List (List Int)) → Int → Option (List (List Int))
  | 0, _, _ => none
  | n487 + 1, ms318, x324 => (bif (decide (x324 < (ms3.length : Int))) then ((mk p1_n (0 : Int)).bind fun xs491 => ((idx ms318 x324).bind fun _q492 => ((upd ms318 x324 xs491).bind fun ms497 => ((idx ms497 x324).bind fun q500 => (Option.bind (impl_matrixBy_L5 F m_p2_entry x324 q500 F ms497 0) fun ms604 => (impl_matrixBy_L4 F p1_n m_p2_entry ms3 n487 ms604 (IntKind.i64.wrap (x324 + 1)))))))) else some ms318)

def impl_matrixBy (F : Nat) (p0_m : Int) (p1_n : Int) (m_p2_entry : Int → Int → Option Int) : Option (List (List Int)) :=
  ((mk p0_m ([] : List Int)).bind fun ms3 => (Option.bind (impl_matrixBy_L4 F p1_n m_p2_entry ms3 F ms3 0) fun ms478 => some ms478))

def impl_bottomMatrix_c1 (_F : Nat) (_p0 : Int) (_p1 : Int) : Option (Int) :=
  some (-1000000000000000)

def impl_bottomMatrix (F : Nat) (p0_m : Int) (p1_n : Int) : Option (List (List Int)) :=
  ((impl_matrixBy F p0_m p1_n (fun x0 x1 => impl_bottomMatrix_c1 F x0 x1)).bind fun r1 => some r1)

def impl_bondMatrix_L1 (F : Nat) (p1_bonds : List GBond) : Nat → (List (List Int)) → Int → Option (List (List Int))
  | 0, _, _ => none
  | n91 + 1, ms59, x61 => (bif (decide (x61 < (p1_bonds.length : Int))) then ((idx p1_bonds x61).bind fun q93 => ((idx ms59 q93.To).bind fun q96 => ((idx ms59 q93.To).bind fun q101 => ((idx q101 q93.From).bind fun q106 => ((idx q96 q93.From).bind fun _q108 => ((upd q96 q93.From (max q106 q93.Least)).bind fun xs110 => ((upd ms59 q93.To xs110).bind fun ms111 => (impl_bondMatrix_L1 F p1_bonds n91 ms111 (IntKind.i64.wrap (x61 + 1)))))))))) else some ms59)

def impl_bondMatrix (F : Nat) (p0_windows : List GWindow) (p1_bonds : List GBond) : Option (List (List Int)) :=
  ((impl_bottomMatrix F (p0_windows.length : Int) (p0_windows.length : Int)).bind fun r1 => (Option.bind (impl_bondMatrix_L1 F p1_bonds F r1 0) fun ms86 => some ms86))

def impl_unitMatrix_c1 (_F : Nat) (p0_i : Int) (p1_j : Int) : Option (Int) :=
  (bif (p0_i == p1_j) then some 0 else some (-1000000000000000))

def impl_unitMatrix (F : Nat) (p0_n : Int) : Option (List (List Int)) :=
  ((impl_matrixBy F p0_n p0_n (fun x0 x1 => impl_unitMatrix_c1 F x0 x1)).bind fun r1 => some r1)

def impl_addMatrices_c1 (_F : Nat) (p0_i : Int) (p1_j : Int) (z0 : List (List Int)) (z1 : List (List Int)) : Option (Int) :=
  ((idx z0 p0_i).bind fun q1 => ((idx q1 p1_j).bind fun q10 => ((idx z1 p0_i).bind fun q12 => ((idx q12 p1_j).bind fun q21 => some (max q10 q21)))))

def impl_addMatrices (F : Nat) (p0_a : List (List Int)) (p1_b : List (List Int)) : Option (List (List Int)) :=
  ((idx p0_a 0).bind fun q3 => ((impl_matrixBy F (p0_a.length : Int) (q3.length : Int) (fun x0 x1 => impl_addMatrices_c1 F x0 x1 p0_a p1_b)).bind fun r12 => some r12))

def impl_times (_F : Nat) (p0_a : Int) (p1_b : Int) : Option (Int) :=
  (Option.bind ((bif (p0_a == (-1000000000000000)) then some true else some (p1_b == (-1000000000000000))) : Option (Bool)) fun b2 => (bif b2 then some (-1000000000000000) else some (IntKind.i64.wrap (p0_a + p1_b))))

def impl_starOf_L21 (F : Nat) (x2502 : Int) (ms4373 : List (List Int)) (x4375 : Int) : Nat → (List (List Int)) → Int → Option (List (List Int))
  | 0, _, _ => none
  | n4918 + 1, ms4837, x4839 => (bif (decide (x4839 < (ms4373.length : Int))) then ((idx ms4837 x4375).bind fun q4956 => ((idx ms4837 x4375).bind fun q4961 => ((idx q4961 x4839).bind fun q4966 => ((idx ms4837 x4375).bind fun q4968 => ((idx q4968 x2502).bind fun q4973 => ((idx ms4837 x2502).bind fun q4975 => ((idx q4975 x4839).bind fun q4980 => ((impl_times F q4973 q4980).bind fun r4982 => ((idx q4956 x4839).bind fun _q4984 => ((upd q4956 x4839 (max q4966 r4982)).bind fun xs4986 => ((upd ms4837 x4375 xs4986).bind fun ms4987 => (impl_starOf_L21 F x2502 ms4373 x4375 n4918 ms4987 (IntKind.i64.wrap (x4839 + 1)))))))))))))) else some ms4837)

def impl_starOf_L20 (F : Nat) (ms2500 : List (List Int)) (x2502 : Int) : Nat → (List (List Int)) → Int → Option (List (List Int))
  | 0, _, _ => none
  | n4686 + 1, ms4373, x4375 => (bif (decide (x4375 < (ms2500.length : Int))) then (Option.bind (impl_starOf_L21 F x2502 ms4373 x4375 F ms4373 0) fun ms4913 => (impl_starOf_L20 F ms2500 x2502 n4686 ms4913 (IntKind.i64.wrap (x4375 + 1)))) else some ms4373)

def impl_starOf_L16 (F : Nat) (r8 : List (List Int)) : Nat → (List (List Int)) → Int → Option (Sum (List (List Int) × Bool) (List (List Int)))
  | 0, _, _ => none
  | n3749 + 1, ms2500, x2502 => (bif (decide (x2502 < (r8.length : Int))) then ((idx ms2500 x2502).bind fun q3751 => ((idx q3751 x2502).bind fun q3756 => (bif (decide (0 < q3756)) then some (Sum.inl (([] : List (List Int)), false)) else (Option.bind (impl_starOf_L20 F ms2500 x2502 F ms2500 0) fun ms4681 => (impl_starOf_L16 F r8 n3749 ms4681 (IntKind.i64.wrap (x2502 + 1))))))) else some (Sum.inr ms2500))

def impl_starOf_L22 (F : Nat) (ms3744 : List (List Int)) : Nat → Int → Option (Sum (List (List Int) × Bool) (Unit))
  | 0, _ => none
  | n5024 + 1, x5011 => (bif (decide (x5011 < (ms3744.length : Int))) then ((idx ms3744 x5011).bind fun q5026 => ((idx q5026 x5011).bind fun q5031 => (bif (decide (0 < q5031)) then some (Sum.inl (([] : List (List Int)), false)) else (impl_starOf_L22 F ms3744 n5024 (IntKind.i64.wrap (x5011 + 1)))))) else some (Sum.inr ()))

def impl_starOf (F : Nat) (p0 : List (List Int)) : Option (List (List Int) × Bool) :=
  ((impl_unitMatrix F (p0.length : Int)).bind fun r1 => ((impl_addMatrices F p0 r1).bind fun r8 => (Option.bind (impl_starOf_L16 F r8 F r8 0) fun r3746 => match r3746 with | .inl x_ => some x_ | .inr ms3744 => (Option.bind (impl_starOf_L22 F ms3744 F 0) fun r5021 => match r5021 with | .inl x_ => some x_ | .inr _ => some (ms3744, true)))))

def impl_transposed_c1 (_F : Nat) (p0_i : Int) (p1_j : Int) (z0 : List (List Int)) : Option (Int) :=
  ((idx z0 p1_j).bind fun q1 => ((idx q1 p0_i).bind fun q10 => some q10))

def impl_transposed (F : Nat) (p0_a : List (List Int)) : Option (List (List Int)) :=
  ((idx p0_a 0).bind fun q2 => ((impl_matrixBy F (q2.length : Int) (p0_a.length : Int) (fun x0 x1 => impl_transposed_c1 F x0 x1 p0_a)).bind fun r11 => some r11))

def impl_timesVector_L5 (F : Nat) (p1_x : List Int) (x245 : Int) (q371 : List Int) : Nat → (List Int) → Int → Option (List Int)
  | 0, _, _ => none
  | n464 + 1, xs433, x435 => (bif (decide (x435 < (q371.length : Int))) then ((idx q371 x435).bind fun q466 => ((idx xs433 x245).bind fun q478 => ((idx p1_x x435).bind fun q480 => ((impl_times F q466 q480).bind fun r482 => ((idx xs433 x245).bind fun _q484 => ((upd xs433 x245 (max q478 r482)).bind fun xs486 => (impl_timesVector_L5 F p1_x x245 q371 n464 xs486 (IntKind.i64.wrap (x435 + 1))))))))) else some xs433)

def impl_timesVector_L4 (F : Nat) (p0_a : List (List Int)) (p1_x : List Int) : Nat → (List Int) → Int → Option (List Int)
  | 0, _, _ => none
  | n369 + 1, xs243, x245 => (bif (decide (x245 < (p0_a.length : Int))) then ((idx p0_a x245).bind fun q371 => ((idx xs243 x245).bind fun _q380 => ((upd xs243 x245 (-1000000000000000)).bind fun xs382 => (Option.bind (impl_timesVector_L5 F p1_x x245 q371 F xs382 0) fun xs459 => (impl_timesVector_L4 F p0_a p1_x n369 xs459 (IntKind.i64.wrap (x245 + 1))))))) else some xs243)

def impl_timesVector (F : Nat) (p0_a : List (List Int)) (p1_x : List Int) : Option (List Int) :=
  ((mk (p0_a.length : Int) (0 : Int)).bind fun xs3 => (Option.bind (impl_timesVector_L4 F p0_a p1_x F xs3 0) fun xs364 => some xs364))

def impl_heaviestPath_L1 (F : Nat) (q6 : List Int) : Nat → (List (List Int)) → Int → Option (List (List Int))
  | 0, _, _ => none
  | n64 + 1, ms42, x44 => (bif (decide (x44 < (q6.length : Int))) then ((idx ms42 0).bind fun q66 => ((idx q66 x44).bind fun _q71 => ((upd q66 x44 (-1000000000000000)).bind fun xs73 => ((upd ms42 0 xs73).bind fun ms74 => (impl_heaviestPath_L1 F q6 n64 ms74 (IntKind.i64.wrap (x44 + 1))))))) else some ms42)

def impl_heaviestPath_L2 (F : Nat) (p0 : List (List Int)) (p1 : List (List Int)) (p2 : Int) (p3 : Int) : Nat → (List (List Int)) → Option (List (List Int))
  | 0, _ => none
  | n326 + 1, ms240 => ((idx ms240 (IntKind.i64.wrap ((ms240.length : Int) - 1))).bind fun q327 => ((idx q327 p2).bind fun q332 => ((idx p1 p3).bind fun q334 => ((idx q334 p2).bind fun q343 => (bif (q332 != q343) then ((idx ms240 (IntKind.i64.wrap ((ms240.length : Int) - 1))).bind fun q372 => ((impl_transposed F p0).bind fun r377 => ((impl_timesVector F r377 q372).bind fun r384 => ((app ms240 ([r384])).bind fun ms394 => (impl_heaviestPath_L2 F p0 p1 p2 p3 n326 ms394))))) else some ms240)))))

def impl_heaviestPath_L7 (F : Nat) (p0 : List (List Int)) (ms317 : List (List Int)) (xs978 : List Int) (x983 : Int) (q1280 : Int) : Nat → Int → Option (List Int)
  | 0, _ => none
  | n1496 + 1, x1419 => (bif (decide (x1419 < (p0.length : Int))) then ((idx p0 x1419).bind fun q1498 => ((idx q1498 q1280).bind fun q1507 => (Option.bind ((bif (q1507 != (-1000000000000000)) then ((idx ms317 (IntKind.i64.wrap (x983 - 1))).bind fun q1536 => ((idx q1536 x1419).bind fun q1541 => (bif (q1541 != (-1000000000000000)) then ((idx ms317 (IntKind.i64.wrap (x983 - 1))).bind fun q1544 => ((idx q1544 x1419).bind fun q1549 => ((idx ms317 x983).bind fun q1551 => ((idx q1551 q1280).bind fun q1556 => some ((IntKind.i64.wrap (q1507 + q1549)) == q1556))))) else some false))) else some false) : Option (Bool)) fun b1532 => (bif b1532 then ((app xs978 ([x1419])).bind fun xs1563 => some xs1563) else (impl_heaviestPath_L7 F p0 ms317 xs978 x983 q1280 n1496 (IntKind.i64.wrap (x1419 + 1))))))) else some xs978)

def impl_heaviestPath_L6 (F : Nat) (p0 : List (List Int)) (ms317 : List (List Int)) : Nat → (List Int) → Int → Option (List Int)
  | 0, _, _ => none
  | n1278 + 1, xs978, x983 => (bif (decide (0 < x983)) then ((idx xs978 (IntKind.i64.wrap ((xs978.length : Int) - 1))).bind fun q1280 => (Option.bind (impl_heaviestPath_L7 F p0 ms317 xs978 x983 q1280 F 0) fun xs1488 => (impl_heaviestPath_L6 F p0 ms317 n1278 xs1488 (IntKind.i64.wrap (x983 - 1))))) else some xs978)

def impl_heaviestPath (F : Nat) (p0 : List (List Int)) (p1 : List (List Int)) (p2 : Int) (p3 : Int) : Option (List Int) :=
  ((mk (p0.length : Int) (0 : Int)).bind fun xs3 => ((idx ([xs3]) 0).bind fun q6 => (Option.bind (impl_heaviestPath_L1 F q6 F ([xs3]) 0) fun ms59 => ((idx ms59 0).bind fun q79 => ((idx q79 p3).bind fun _q84 => ((upd q79 p3 0).bind fun xs86 => ((upd ms59 0 xs86).bind fun ms87 => (Option.bind (impl_heaviestPath_L2 F p0 p1 p2 p3 F ms87) fun ms317 => (Option.bind (impl_heaviestPath_L6 F p0 ms317 F ([p2]) (IntKind.i64.wrap ((ms317.length : Int) - 1))) fun xs1270 => some xs1270)))))))))

def impl_FindSqueeze_L5 (F : Nat) (p0 : List GWindow) (r5 : List (List Int)) (r12 : List (List Int) × Bool) (x394 : Int) (q586 : GWindow) : Nat → Int → Option (Sum (List Int × Int) (Unit))
  | 0, _ => none
  | n726 + 1, x678 => (bif (decide (x678 < (p0.length : Int))) then ((idx p0 x678).bind fun q728 => (Option.bind (((idx r12.1 x678).bind fun q749 => ((idx q749 x394).bind fun q754 => (bif (q754 != (-1000000000000000)) then ((idx r12.1 x678).bind fun q757 => ((idx q757 x394).bind fun q762 => some (decide (q728.High < (IntKind.i64.wrap (q586.Low + q762)))))) else some false))) : Option (Bool)) fun b746 => (bif b746 then ((impl_heaviestPath F r5 r12.1 x394 x678).bind fun r765 => some (Sum.inl (r765, 0))) else (impl_FindSqueeze_L5 F p0 r5 r12 x394 q586 n726 (IntKind.i64.wrap (x678 + 1)))))) else some (Sum.inr ()))

def impl_FindSqueeze_L4 (F : Nat) (p0 : List GWindow) (r5 : List (List Int)) (r12 : List (List Int) × Bool) : Nat → Int → Option (Sum (List Int × Int) (Unit))
  | 0, _ => none
  | n584 + 1, x394 => (bif (decide (x394 < (p0.length : Int))) then ((idx p0 x394).bind fun q586 => (Option.bind (impl_FindSqueeze_L5 F p0 r5 r12 x394 q586 F 0) fun r723 => match r723 with | .inl x_ => some (Sum.inl x_) | .inr _ => (impl_FindSqueeze_L4 F p0 r5 r12 n584 (IntKind.i64.wrap (x394 + 1))))) else some (Sum.inr ()))

def impl_FindSqueeze (F : Nat) (p0 : List GWindow) (p1 : List GBond) : Option (List Int × Int) :=
  ((impl_IsTask F p0 p1).bind fun r1 => (bif (!r1) then some (([] : List Int), 1) else ((impl_bondMatrix F p0 p1).bind fun r5 => ((impl_starOf F r5).bind fun r12 => (bif (!r12.2) then some (([] : List Int), 5) else (Option.bind (impl_FindSqueeze_L4 F p0 r5 r12 F 0) fun r581 => match r581 with | .inl x_ => some x_ | .inr _ => some (([] : List Int), 4)))))))

def laws_eqInt64S_L1 (F : Nat) (p0_a : List Int) (p1_b : List Int) : Nat → Int → Option (Sum Bool (Unit))
  | 0, _ => none
  | n25 + 1, x15 => (bif (decide (x15 < (p0_a.length : Int))) then ((idx p0_a x15).bind fun q27 => ((idx p1_b x15).bind fun q29 => (bif (q27 != q29) then some (Sum.inl false) else (laws_eqInt64S_L1 F p0_a p1_b n25 (IntKind.i64.wrap (x15 + 1)))))) else some (Sum.inr ()))

def laws_eqInt64S (F : Nat) (p0_a : List Int) (p1_b : List Int) : Option (Bool) :=
  (bif ((p0_a.length : Int) != (p1_b.length : Int)) then some false else (Option.bind (laws_eqInt64S_L1 F p0_a p1_b F 0) fun r22 => match r22 with | .inl x_ => some x_ | .inr _ => some true))

def laws_eqWindow (_F : Nat) (p0_a : GWindow) (p1_b : GWindow) : Option (Bool) :=
  (bif (p0_a.Low != p1_b.Low) then some false else (bif (p0_a.High != p1_b.High) then some false else some true))

def laws_eqWindowS_L1 (F : Nat) (p0_a : List GWindow) (p1_b : List GWindow) : Nat → Int → Option (Sum Bool (Unit))
  | 0, _ => none
  | n31 + 1, x19 => (bif (decide (x19 < (p0_a.length : Int))) then ((idx p0_a x19).bind fun q33 => ((idx p1_b x19).bind fun q35 => ((laws_eqWindow F q33 q35).bind fun r37 => (bif (!r37) then some (Sum.inl false) else (laws_eqWindowS_L1 F p0_a p1_b n31 (IntKind.i64.wrap (x19 + 1))))))) else some (Sum.inr ()))

def laws_eqWindowS (F : Nat) (p0_a : List GWindow) (p1_b : List GWindow) : Option (Bool) :=
  (bif ((p0_a.length : Int) != (p1_b.length : Int)) then some false else (Option.bind (laws_eqWindowS_L1 F p0_a p1_b F 0) fun r28 => match r28 with | .inl x_ => some x_ | .inr _ => some true))

def laws_eqBond (_F : Nat) (p0_a : GBond) (p1_b : GBond) : Option (Bool) :=
  (bif (p0_a.From != p1_b.From) then some false else (bif (p0_a.To != p1_b.To) then some false else (bif (p0_a.Least != p1_b.Least) then some false else some true)))

def laws_eqBondS_L1 (F : Nat) (p0_a : List GBond) (p1_b : List GBond) : Nat → Int → Option (Sum Bool (Unit))
  | 0, _ => none
  | n31 + 1, x19 => (bif (decide (x19 < (p0_a.length : Int))) then ((idx p0_a x19).bind fun q33 => ((idx p1_b x19).bind fun q35 => ((laws_eqBond F q33 q35).bind fun r37 => (bif (!r37) then some (Sum.inl false) else (laws_eqBondS_L1 F p0_a p1_b n31 (IntKind.i64.wrap (x19 + 1))))))) else some (Sum.inr ()))

def laws_eqBondS (F : Nat) (p0_a : List GBond) (p1_b : List GBond) : Option (Bool) :=
  (bif ((p0_a.length : Int) != (p1_b.length : Int)) then some false else (Option.bind (laws_eqBondS_L1 F p0_a p1_b F 0) fun r28 => match r28 with | .inl x_ => some x_ | .inr _ => some true))

def laws_markWindowS_L1 (F : Nat) : Nat → (List GWindow) → Int → Int → Option ((List GWindow) × Int)
  | 0, _, _, _ => none
  | n42 + 1, xs23, x25, x26 => (bif (decide (x26 < (xs23.length : Int))) then ((idx xs23 x26).bind fun q44 => ((upd xs23 x26 (GWindow.mk x25 q44.High)).bind fun xs46 => ((idx xs46 x26).bind fun q48 => ((upd xs46 x26 (GWindow.mk q48.Low (IntKind.i64.wrap (x25 + 1)))).bind fun xs50 => (laws_markWindowS_L1 F n42 xs50 (IntKind.i64.wrap ((IntKind.i64.wrap (x25 + 1)) + 1)) (IntKind.i64.wrap (x26 + 1))))))) else some (xs23, x25))

def laws_markWindowS (F : Nat) (p0_a : List GWindow) (p1_k : Int) : Option ((Int) × List GWindow) :=
  (Option.bind (laws_markWindowS_L1 F F p0_a p1_k 0) fun (xs36, x38) => some (x38, xs36))

def laws_markBondS_L1 (F : Nat) : Nat → (List GBond) → Int → Int → Option ((List GBond) × Int)
  | 0, _, _, _ => none
  | n54 + 1, xs31, x33, x34 => (bif (decide (x34 < (xs31.length : Int))) then ((idx xs31 x34).bind fun q56 => ((upd xs31 x34 (GBond.mk x33 q56.To q56.Least)).bind fun xs58 => ((idx xs58 x34).bind fun q60 => ((upd xs58 x34 (GBond.mk q60.From (IntKind.i64.wrap (x33 + 1)) q60.Least)).bind fun xs62 => ((idx xs62 x34).bind fun q64 => ((upd xs62 x34 (GBond.mk q64.From q64.To (IntKind.i64.wrap ((IntKind.i64.wrap (x33 + 1)) + 1)))).bind fun xs66 => (laws_markBondS_L1 F n54 xs66 (IntKind.i64.wrap ((IntKind.i64.wrap ((IntKind.i64.wrap (x33 + 1)) + 1)) + 1)) (IntKind.i64.wrap (x34 + 1))))))))) else some (xs31, x33))

def laws_markBondS (F : Nat) (p0_a : List GBond) (p1_k : Int) : Option ((Int) × List GBond) :=
  (Option.bind (laws_markBondS_L1 F F p0_a p1_k 0) fun (xs48, x50) => some (x50, xs48))

def laws_markInt64S_L1 (F : Nat) : Nat → (List Int) → Int → Int → Option ((List Int) × Int)
  | 0, _, _, _ => none
  | n30 + 1, xs15, x17, x18 => (bif (decide (x18 < (xs15.length : Int))) then ((idx xs15 x18).bind fun _q32 => ((upd xs15 x18 x17).bind fun xs34 => (laws_markInt64S_L1 F n30 xs34 (IntKind.i64.wrap (x17 + 1)) (IntKind.i64.wrap (x18 + 1))))) else some (xs15, x17))

def laws_markInt64S (F : Nat) (p0_a : List Int) (p1_k : Int) : Option ((Int) × List Int) :=
  (Option.bind (laws_markInt64S_L1 F F p0_a p1_k 0) fun (xs24, x26) => some (x26, xs24))

def laws_heldInt64S_L1 (F : Nat) (p0_a : List Int) : Nat → Int → Int → Option (Sum Int (Int))
  | 0, _, _ => none
  | n21 + 1, x11, x12 => (bif (decide (x12 < (p0_a.length : Int))) then ((idx p0_a x12).bind fun q23 => (bif (q23 != x11) then some (Sum.inl (-1)) else (laws_heldInt64S_L1 F p0_a n21 (IntKind.i64.wrap (x11 + 1)) (IntKind.i64.wrap (x12 + 1))))) else some (Sum.inr x11))

def laws_heldInt64S (F : Nat) (p0_a : List Int) (p1_k : Int) : Option (Int) :=
  (Option.bind (laws_heldInt64S_L1 F p0_a F p1_k 0) fun r18 => match r18 with | .inl x_ => some x_ | .inr x17 => some x17)

def laws_FnExactFindSqueeze (F : Nat) (p0 : List LWindow) (p1 : List LBond) : Option (Bool) :=
  ((laws_szWindowS F p0 1048576).bind fun r1 => (bif (decide (r1 < 0)) then some true else ((laws_szBondS F p1 r1).bind fun r4 => (bif (decide (r4 < 0)) then some true else ((laws_toWindowS F p0).bind fun r7 => ((laws_toBondS F p1).bind fun r13 => ((spec_FindSqueeze F r7 r13).bind fun r19 => ((laws_toWindowS F p0).bind fun r25 => ((laws_toBondS F p1).bind fun r31 => ((impl_FindSqueeze F r25 r31).bind fun r37 => (Option.bind (((laws_eqInt64S F r37.1 r19.1).bind fun r49 => (bif (!r49) then some true else some (r37.2 != r19.2))) : Option (Bool)) fun b46 => (bif b46 then some false else ((laws_toWindowS F p0).bind fun r53 => ((laws_eqWindowS F r25 r53).bind fun r59 => (bif (!r59) then some false else ((laws_toBondS F p1).bind fun r62 => ((laws_eqBondS F r31 r62).bind fun r68 => (bif (!r68) then some false else ((laws_markWindowS F r25 1).bind fun r71 => ((laws_markBondS F r31 r71.1).bind fun r74 => (Option.bind ((bif (decide (r74.1 < 0)) then some true else ((laws_eqInt64S F r37.1 r19.1).bind fun r85 => (bif (!r85) then some true else some (r37.2 != r19.2)))) : Option (Bool)) fun b81 => (bif b81 then some false else ((laws_markInt64S F r37.1 1).bind fun r89 => ((laws_heldInt64S F r89.2 1).bind fun r92 => (bif (decide (r92 < 0)) then some false else (bif (r92 != r89.1) then some false else ((laws_toWindowS F p0).bind fun r96 => ((laws_toBondS F p1).bind fun r102 => ((impl_FindSqueeze F r96 r102).bind fun r108 => (Option.bind (((laws_eqInt64S F r108.1 r19.1).bind fun r120 => (bif (!r120) then some true else some (r108.2 != r19.2))) : Option (Bool)) fun b117 => (bif b117 then some false else ((laws_heldInt64S F r89.2 1).bind fun r124 => (bif (decide (r124 < 0)) then some false else (bif (r124 != r89.1) then some false else some true))))))))))))))))))))))))))))))))))

end Go.Proofs.Ytebmlphobgaboaa
