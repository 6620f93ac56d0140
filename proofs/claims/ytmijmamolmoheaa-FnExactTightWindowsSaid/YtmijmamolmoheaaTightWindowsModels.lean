/- Plain models of the functions. -/
import Derived.Test.YtmijmamolmoheaaLiftR
namespace Go.Proofs.Ytmijmamolmoheaa

structure LWindow where
  Low : Int
  High : Int

structure LBond where
  From : Int
  To : Int
  Least : Int

structure GWindow where
  Low : Int
  High : Int

structure GBond where
  From : Int
  To : Int
  Least : Int

def laws_szWindowS (_F : Nat) (p0_a : List LWindow) (p1_left : Int) : Option (Int) :=
  (bif (decide ((IntKind.i64.wrap (p1_left - (p0_a.length : Int))) < 0)) then some (-1) else some (IntKind.i64.wrap (p1_left - (p0_a.length : Int))))

def laws_szBondS (_F : Nat) (p0_a : List LBond) (p1_left : Int) : Option (Int) :=
  (bif (decide ((IntKind.i64.wrap (p1_left - (p0_a.length : Int))) < 0)) then some (-1) else some (IntKind.i64.wrap (p1_left - (p0_a.length : Int))))

def laws_toWindow (_F : Nat) (p0_a : LWindow) : Option (GWindow) :=
  some (GWindow.mk p0_a.Low p0_a.High)

def laws_toWindowS_L1 (F : Nat) (p0_a : List LWindow) : Nat → (List GWindow) → Int → Option (List GWindow)
  | 0, _, _ => none
  | n42 + 1, xs25, x27 => (bif (decide (x27 < (p0_a.length : Int))) then ((idx p0_a x27).bind fun q44 => ((laws_toWindow F q44).bind fun r46 => ((idx xs25 x27).bind fun _q48 => ((upd xs25 x27 r46).bind fun xs50 => (laws_toWindowS_L1 F p0_a n42 xs50 (IntKind.i64.wrap (x27 + 1))))))) else some xs25)

def laws_toWindowS (F : Nat) (p0_a : List LWindow) : Option (List GWindow) :=
  ((mk (p0_a.length : Int) ((GWindow.mk 0 0) : GWindow)).bind fun xs3 => (Option.bind (laws_toWindowS_L1 F p0_a F xs3 0) fun xs37 => some xs37))

def laws_toBond (_F : Nat) (p0_a : LBond) : Option (GBond) :=
  some (GBond.mk p0_a.From p0_a.To p0_a.Least)

def laws_toBondS_L1 (F : Nat) (p0_a : List LBond) : Nat → (List GBond) → Int → Option (List GBond)
  | 0, _, _ => none
  | n42 + 1, xs25, x27 => (bif (decide (x27 < (p0_a.length : Int))) then ((idx p0_a x27).bind fun q44 => ((laws_toBond F q44).bind fun r46 => ((idx xs25 x27).bind fun _q48 => ((upd xs25 x27 r46).bind fun xs50 => (laws_toBondS_L1 F p0_a n42 xs50 (IntKind.i64.wrap (x27 + 1))))))) else some xs25)

def laws_toBondS (F : Nat) (p0_a : List LBond) : Option (List GBond) :=
  ((mk (p0_a.length : Int) ((GBond.mk 0 0 0) : GBond)).bind fun xs3 => (Option.bind (laws_toBondS_L1 F p0_a F xs3 0) fun xs37 => some xs37))

def spec_l01In (_F : Nat) (p0_n : Int) (p1_low : Int) (p2_high : Int) : Option (Bool) :=
  (Option.bind ((bif (decide (p1_low ≤ p0_n)) then some (decide (p0_n ≤ p2_high)) else some false) : Option (Bool)) fun b2 => some b2)

def spec_l01Finite (F : Nat) (p0_a : Int) : Option (Bool) :=
  ((spec_l01In F p0_a (-1000000) 1000000).bind fun r1 => some r1)

def spec_IsTask_L1 (F : Nat) (p0 : List GWindow) : Nat → Int → Option (Sum Bool (Unit))
  | 0, _ => none
  | n91 + 1, x62 => (bif (decide (x62 < (p0.length : Int))) then (Option.bind (((idx p0 x62).bind fun q106 => (bif (decide (q106.Low < 0)) then some true else ((idx p0 x62).bind fun q109 => (bif (decide (1000000 < q109.High)) then some true else ((idx p0 x62).bind fun q112 => ((idx p0 x62).bind fun q114 => some (decide (q114.High < q112.Low)))))))) : Option (Bool)) fun b103 => (bif b103 then some (Sum.inl false) else (spec_IsTask_L1 F p0 n91 (IntKind.i64.wrap (x62 + 1))))) else some (Sum.inr ()))

def spec_IsTask_L2 (F : Nat) (p0 : List GWindow) (p1 : List GBond) : Nat → Int → Option (Sum Bool (Unit))
  | 0, _ => none
  | n221 + 1, x184 => (bif (decide (x184 < (p1.length : Int))) then (Option.bind (((idx p1 x184).bind fun q240 => ((spec_l01In F q240.From 0 (IntKind.i64.wrap ((p0.length : Int) - 1))).bind fun r242 => (bif (!r242) then some true else ((idx p1 x184).bind fun q245 => ((spec_l01In F q245.To 0 (IntKind.i64.wrap ((p0.length : Int) - 1))).bind fun r247 => (bif (!r247) then some true else ((idx p1 x184).bind fun q250 => ((spec_l01Finite F q250.Least).bind fun r252 => some (!r252))))))))) : Option (Bool)) fun b237 => (bif b237 then some (Sum.inl false) else (spec_IsTask_L2 F p0 p1 n221 (IntKind.i64.wrap (x184 + 1))))) else some (Sum.inr ()))

def spec_IsTask (F : Nat) (p0 : List GWindow) (p1 : List GBond) : Option (Bool) :=
  (Option.bind (((spec_l01In F (p0.length : Int) 1 10).bind fun r7 => (bif (!r7) then some true else some (decide (30 < (p1.length : Int))))) : Option (Bool)) fun b4 => (bif b4 then some false else (Option.bind (spec_IsTask_L1 F p0 F 0) fun r88 => match r88 with | .inl x_ => some x_ | .inr _ => (Option.bind (spec_IsTask_L2 F p0 p1 F 0) fun r218 => match r218 with | .inl x_ => some x_ | .inr _ => some true))))

def spec_l02Bottom_L5 (F : Nat) (p1_n : Int) : Nat → (List Int) → Int → Option (List Int)
  | 0, _, _ => none
  | n252 + 1, xs231, x236 => (bif (decide (x236 < p1_n)) then ((app xs231 ([(-1000000000000000)])).bind fun xs258 => (spec_l02Bottom_L5 F p1_n n252 xs258 (IntKind.i64.wrap (x236 + 1)))) else some xs231)

def spec_l02Bottom_L4 (F : Nat) (p0_m : Int) (p1_n : Int) : Nat → (List (List Int)) → Int → Option (List (List Int))
  | 0, _, _ => none
  | n207 + 1, ms131, x137 => (bif (decide (x137 < p0_m)) then (Option.bind (spec_l02Bottom_L5 F p1_n F ([] : List Int) 0) fun xs244 => ((app ms131 ([xs244])).bind fun ms264 => (spec_l02Bottom_L4 F p0_m p1_n n207 ms264 (IntKind.i64.wrap (x137 + 1))))) else some ms131)

def spec_l02Bottom (F : Nat) (p0_m : Int) (p1_n : Int) : Option (List (List Int)) :=
  (Option.bind (spec_l02Bottom_L4 F p0_m p1_n F [] 0) fun ms198 => some ms198)

def spec_l23Matrix_L1 (F : Nat) (p1_bonds : List GBond) : Nat → (List (List Int)) → Int → Option (List (List Int))
  | 0, _, _ => none
  | n151 + 1, ms99, x101 => (bif (decide (x101 < (p1_bonds.length : Int))) then ((idx p1_bonds x101).bind fun q153 => ((idx ms99 q153.To).bind fun q176 => ((idx ms99 q153.To).bind fun q181 => ((idx q181 q153.From).bind fun q186 => ((idx q176 q153.From).bind fun _q188 => ((upd q176 q153.From (max q186 q153.Least)).bind fun xs190 => ((upd ms99 q153.To xs190).bind fun ms191 => (spec_l23Matrix_L1 F p1_bonds n151 ms191 (IntKind.i64.wrap (x101 + 1)))))))))) else some ms99)

def spec_l23Matrix (F : Nat) (p0_n : Int) (p1_bonds : List GBond) : Option (List (List Int)) :=
  ((spec_l02Bottom F p0_n p0_n).bind fun r1 => (Option.bind (spec_l23Matrix_L1 F p1_bonds F r1 0) fun ms146 => some ms146))

def spec_l02Unit_L1 (F : Nat) (p0_n : Int) : Nat → (List (List Int)) → Int → Option (List (List Int))
  | 0, _, _ => none
  | n61 + 1, ms39, x41 => (bif (decide (x41 < p0_n)) then ((idx ms39 x41).bind fun q63 => ((idx q63 x41).bind fun _q68 => ((upd q63 x41 0).bind fun xs70 => ((upd ms39 x41 xs70).bind fun ms71 => (spec_l02Unit_L1 F p0_n n61 ms71 (IntKind.i64.wrap (x41 + 1))))))) else some ms39)

def spec_l02Unit (F : Nat) (p0_n : Int) : Option (List (List Int)) :=
  ((spec_l02Bottom F p0_n p0_n).bind fun r1 => (Option.bind (spec_l02Unit_L1 F p0_n F r1 0) fun ms56 => some ms56))

def spec_l01Times (_F : Nat) (p0_a : Int) (p1_b : Int) : Option (Int) :=
  (Option.bind ((bif (p0_a == (-1000000000000000)) then some true else some (p1_b == (-1000000000000000))) : Option (Bool)) fun b2 => (bif b2 then some (-1000000000000000) else some (IntKind.i64.wrap (p0_a + p1_b))))

def spec_l02Multiply_L21 (F : Nat) (p0 : List (List Int)) (p1 : List (List Int)) (x3072 : Int) (x5366 : Int) : Nat → (List (List Int)) → Int → Option (List (List Int))
  | 0, _, _ => none
  | n6039 + 1, ms5942, x5944 => (bif (decide (x5944 < (p1.length : Int))) then ((idx ms5942 x3072).bind fun q6085 => ((idx ms5942 x3072).bind fun q6090 => ((idx q6090 x5366).bind fun q6095 => ((idx p0 x3072).bind fun q6097 => ((idx q6097 x5944).bind fun q6106 => ((idx p1 x5944).bind fun q6108 => ((idx q6108 x5366).bind fun q6117 => ((spec_l01Times F q6106 q6117).bind fun r6119 => ((idx q6085 x5366).bind fun _q6121 => ((upd q6085 x5366 (max q6095 r6119)).bind fun xs6123 => ((upd ms5942 x3072 xs6123).bind fun ms6124 => (spec_l02Multiply_L21 F p0 p1 x3072 x5366 n6039 ms6124 (IntKind.i64.wrap (x5944 + 1)))))))))))))) else some ms5942)

def spec_l02Multiply_L20 (F : Nat) (p0 : List (List Int)) (p1 : List (List Int)) (x3072 : Int) : Nat → (List (List Int)) → Int → Option (List (List Int))
  | 0, _, _ => none
  | n5750 + 1, ms5364, x5366 => ((idx p1 0).bind fun q5751 => (bif (decide (x5366 < (q5751.length : Int))) then (Option.bind (spec_l02Multiply_L21 F p0 p1 x3072 x5366 F ms5364 0) fun ms6034 => (spec_l02Multiply_L20 F p0 p1 x3072 n5750 ms6034 (IntKind.i64.wrap (x5366 + 1)))) else some ms5364))

def spec_l02Multiply_L16 (F : Nat) (p0 : List (List Int)) (p1 : List (List Int)) : Nat → (List (List Int)) → Int → Option (List (List Int))
  | 0, _, _ => none
  | n4603 + 1, ms3070, x3072 => (bif (decide (x3072 < (p0.length : Int))) then (Option.bind (spec_l02Multiply_L20 F p0 p1 x3072 F ms3070 0) fun ms5745 => (spec_l02Multiply_L16 F p0 p1 n4603 ms5745 (IntKind.i64.wrap (x3072 + 1)))) else some ms3070)

def spec_l02Multiply (F : Nat) (p0 : List (List Int)) (p1 : List (List Int)) : Option (List (List Int)) :=
  ((idx p1 0).bind fun q1 => ((spec_l02Bottom F (p0.length : Int) (q1.length : Int)).bind fun r10 => (Option.bind (spec_l02Multiply_L16 F p0 p1 F r10 0) fun ms4598 => some ms4598)))

def spec_l01Own (_F : Nat) (p0_list : List Int) : Option (List Int) :=
  ((app ([] : List Int) p0_list).bind fun xs5 => some xs5)

def spec_l02Own_L1 (F : Nat) (p0_a : List (List Int)) : Nat → (List (List Int)) → Int → Option (List (List Int))
  | 0, _, _ => none
  | n99 + 1, ms59, x65 => (bif (decide (x65 < (p0_a.length : Int))) then ((idx p0_a x65).bind fun q101 => ((spec_l01Own F q101).bind fun r110 => ((app ms59 ([r110])).bind fun ms120 => (spec_l02Own_L1 F p0_a n99 ms120 (IntKind.i64.wrap (x65 + 1)))))) else some ms59)

def spec_l02Own (F : Nat) (p0_a : List (List Int)) : Option (List (List Int)) :=
  (Option.bind (spec_l02Own_L1 F p0_a F [] 0) fun ms90 => some ms90)

def spec_l02Add_L5 (F : Nat) (p1_b : List (List Int)) (x583 : Int) : Nat → (List (List Int)) → Int → Option (List (List Int))
  | 0, _, _ => none
  | n1091 + 1, ms1015, x1017 => ((idx ms1015 x583).bind fun q1092 => (bif (decide (x1017 < (q1092.length : Int))) then ((idx ms1015 x583).bind fun q1129 => ((idx ms1015 x583).bind fun q1134 => ((idx q1134 x1017).bind fun q1139 => ((idx p1_b x583).bind fun q1141 => ((idx q1141 x1017).bind fun q1150 => ((idx q1129 x1017).bind fun _q1152 => ((upd q1129 x1017 (max q1139 q1150)).bind fun xs1154 => ((upd ms1015 x583 xs1154).bind fun ms1155 => (spec_l02Add_L5 F p1_b x583 n1091 ms1155 (IntKind.i64.wrap (x1017 + 1))))))))))) else some ms1015))

def spec_l02Add_L4 (F : Nat) (p1_b : List (List Int)) : Nat → (List (List Int)) → Int → Option (List (List Int))
  | 0, _, _ => none
  | n874 + 1, ms581, x583 => (bif (decide (x583 < (ms581.length : Int))) then (Option.bind (spec_l02Add_L5 F p1_b x583 F ms581 0) fun ms1086 => (spec_l02Add_L4 F p1_b n874 ms1086 (IntKind.i64.wrap (x583 + 1)))) else some ms581)

def spec_l02Add (F : Nat) (p0_a : List (List Int)) (p1_b : List (List Int)) : Option (List (List Int)) :=
  ((spec_l02Own F p0_a).bind fun r1 => (Option.bind (spec_l02Add_L4 F p1_b F r1 0) fun ms869 => some ms869))

def spec_l01Same_L1 (F : Nat) (p0_a : List Int) (p1_b : List Int) : Nat → Int → Option (Sum Bool (Unit))
  | 0, _ => none
  | n25 + 1, x15 => (bif (decide (x15 < (p0_a.length : Int))) then ((idx p0_a x15).bind fun q27 => ((idx p1_b x15).bind fun q29 => (bif (q27 != q29) then some (Sum.inl false) else (spec_l01Same_L1 F p0_a p1_b n25 (IntKind.i64.wrap (x15 + 1)))))) else some (Sum.inr ()))

def spec_l01Same (F : Nat) (p0_a : List Int) (p1_b : List Int) : Option (Bool) :=
  (bif ((p0_a.length : Int) != (p1_b.length : Int)) then some false else (Option.bind (spec_l01Same_L1 F p0_a p1_b F 0) fun r22 => match r22 with | .inl x_ => some x_ | .inr _ => some true))

def spec_l02Same_L1 (F : Nat) (p0_a : List (List Int)) (p1_b : List (List Int)) : Nat → Int → Option (Sum Bool (Unit))
  | 0, _ => none
  | n73 + 1, x47 => (bif (decide (x47 < (p0_a.length : Int))) then ((idx p0_a x47).bind fun q75 => ((idx p1_b x47).bind fun q84 => ((spec_l01Same F q75 q84).bind fun r93 => (bif (!r93) then some (Sum.inl false) else (spec_l02Same_L1 F p0_a p1_b n73 (IntKind.i64.wrap (x47 + 1))))))) else some (Sum.inr ()))

def spec_l02Same (F : Nat) (p0_a : List (List Int)) (p1_b : List (List Int)) : Option (Bool) :=
  (bif ((p0_a.length : Int) != (p1_b.length : Int)) then some false else (Option.bind (spec_l02Same_L1 F p0_a p1_b F 0) fun r70 => match r70 with | .inl x_ => some x_ | .inr _ => some true))

def spec_l03Star_L1 (F : Nat) (p0_a : List (List Int)) : Nat → (List (List Int)) → Int → Option (List (List Int))
  | 0, _, _ => none
  | n97 + 1, ms59, x65 => (bif (decide (x65 < (p0_a.length : Int))) then ((spec_l02Unit F (p0_a.length : Int)).bind fun r99 => ((spec_l02Multiply F p0_a ms59).bind fun r106 => ((spec_l02Add F r99 r106).bind fun r113 => (spec_l03Star_L1 F p0_a n97 r113 (IntKind.i64.wrap (x65 + 1)))))) else some ms59)

def spec_l03Star (F : Nat) (p0_a : List (List Int)) : Option (List (List Int) × Bool) :=
  ((spec_l02Unit F (p0_a.length : Int)).bind fun r1 => (Option.bind (spec_l03Star_L1 F p0_a F r1 0) fun ms88 => ((spec_l02Unit F (p0_a.length : Int)).bind fun r120 => ((spec_l02Multiply F p0_a ms88).bind fun r127 => ((spec_l02Add F r120 r127).bind fun r134 => ((spec_l02Same F r134 ms88).bind fun r141 => some (ms88, r141)))))))

def spec_l02Apply_L5 (F : Nat) (p0_a : List (List Int)) (p1_x : List Int) (x174 : Int) : Nat → Int → Int → Option (Int)
  | 0, _, _ => none
  | n321 + 1, x299, x300 => (bif (decide (x300 < (p1_x.length : Int))) then ((idx p0_a x174).bind fun q323 => ((idx q323 x300).bind fun q332 => ((idx p1_x x300).bind fun q334 => ((spec_l01Times F q332 q334).bind fun r336 => (spec_l02Apply_L5 F p0_a p1_x x174 n321 (max x299 r336) (IntKind.i64.wrap (x300 + 1))))))) else some x299)

def spec_l02Apply_L4 (F : Nat) (p0_a : List (List Int)) (p1_x : List Int) : Nat → (List Int) → Int → Option (List Int)
  | 0, _, _ => none
  | n263 + 1, xs169, x174 => (bif (decide (x174 < (p0_a.length : Int))) then (Option.bind (spec_l02Apply_L5 F p0_a p1_x x174 F (-1000000000000000) 0) fun x317 => ((app xs169 ([x317])).bind fun xs342 => (spec_l02Apply_L4 F p0_a p1_x n263 xs342 (IntKind.i64.wrap (x174 + 1))))) else some xs169)

def spec_l02Apply (F : Nat) (p0_a : List (List Int)) (p1_x : List Int) : Option (List Int) :=
  (Option.bind (spec_l02Apply_L4 F p0_a p1_x F ([] : List Int) 0) fun xs255 => some xs255)

def spec_l08Sub_L5 (F : Nat) (p0_a : List (List Int)) (p1_b : List Int) (x924 : Int) : Nat → Int → Bool → Int → Option (Int)
  | 0, _, _, _ => none
  | n1730 + 1, x1616, b1617, x1618 => (bif (decide (x1618 < (p0_a.length : Int))) then (Option.bind (((idx p0_a x1618).bind fun q1787 => ((idx q1787 x924).bind fun q1796 => (bif (q1796 == (-1000000000000000)) then some (x1616, b1617) else ((idx p1_b x1618).bind fun q1799 => (Option.bind ((bif (q1799 != (-1000000000000000)) then ((idx p1_b x1618).bind fun q1819 => ((idx p0_a x1618).bind fun q1821 => ((idx q1821 x924).bind fun q1830 => some (IntKind.i64.wrap (q1819 - q1830))))) else some (-1000000000000000)) : Option (Int)) fun x1815 => (Option.bind ((bif (!b1617) then some true else some (decide (x1815 < x1616))) : Option (Bool)) fun b1833 => (bif b1833 then some (x1815, true) else some (x1616, b1617)))))))) : Option (Int × Bool)) fun (x1783, b1784) => (spec_l08Sub_L5 F p0_a p1_b x924 n1730 x1783 b1784 (IntKind.i64.wrap (x1618 + 1)))) else some x1616)

def spec_l08Sub_L4 (F : Nat) (p0_a : List (List Int)) (p1_b : List Int) : Nat → (List Int) → Int → Option (List Int)
  | 0, _, _ => none
  | n1388 + 1, xs919, x924 => ((idx p0_a 0).bind fun q1389 => (bif (decide (x924 < (q1389.length : Int))) then (Option.bind (spec_l08Sub_L5 F p0_a p1_b x924 F 0 false 0) fun x1726 => ((app xs919 ([x1726])).bind fun xs1842 => (spec_l08Sub_L4 F p0_a p1_b n1388 xs1842 (IntKind.i64.wrap (x924 + 1))))) else some xs919))

def spec_l08Sub (F : Nat) (p0_a : List (List Int)) (p1_b : List Int) : Option (List Int) :=
  (Option.bind (spec_l08Sub_L4 F p0_a p1_b F ([] : List Int) 0) fun xs1380 => some xs1380)

def spec_l23Solve_L1 (F : Nat) (p0 : List GWindow) : Nat → (List Int) → (List Int) → Int → Option ((List Int) × (List Int))
  | 0, _, _, _ => none
  | n107 + 1, xs66, xs71, x76 => (bif (decide (x76 < (p0.length : Int))) then ((idx p0 x76).bind fun q109 => ((app xs66 ([q109.Low])).bind fun xs115 => ((idx p0 x76).bind fun q117 => ((app xs71 ([q117.High])).bind fun xs123 => (spec_l23Solve_L1 F p0 n107 xs115 xs123 (IntKind.i64.wrap (x76 + 1))))))) else some (xs66, xs71))

def spec_l23Solve_L2 (F : Nat) (xs94 : List Int) (xs99 : List Int) (xs138 : List Int) : Nat → Int → Option (Sum (List Int) (Unit))
  | 0, _ => none
  | n226 + 1, x199 => (bif (decide (x199 < (xs138.length : Int))) then (Option.bind (((idx xs138 x199).bind fun q240 => ((idx xs94 x199).bind fun q242 => (bif (decide (q240 < q242)) then some true else ((idx xs138 x199).bind fun q245 => ((idx xs99 x199).bind fun q247 => some (decide (q247 < q245))))))) : Option (Bool)) fun b237 => (bif b237 then some (Sum.inl ([] : List Int)) else (spec_l23Solve_L2 F xs94 xs99 xs138 n226 (IntKind.i64.wrap (x199 + 1))))) else some (Sum.inr ()))

def spec_l23Solve (F : Nat) (p0 : List GWindow) (p1 : List GBond) (p2 : Bool) : Option (List Int) :=
  ((spec_l23Matrix F (p0.length : Int) p1).bind fun r1 => ((spec_l03Star F r1).bind fun r8 => (bif (!r8.2) then some ([] : List Int) else (Option.bind (spec_l23Solve_L1 F p0 F ([] : List Int) ([] : List Int) 0) fun (xs94, xs99) => ((spec_l02Apply F r8.1 xs94).bind fun r125 => (Option.bind ((bif (!p2) then ((spec_l08Sub F r8.1 xs99).bind fun r146 => some r146) else some r125) : Option (List Int)) fun xs138 => (Option.bind (spec_l23Solve_L2 F xs94 xs99 xs138 F 0) fun r223 => match r223 with | .inl x_ => some x_ | .inr _ => some xs138)))))))

def spec_l23Code (F : Nat) (p0_windows : List GWindow) (p1_bonds : List GBond) (p2_least : Bool) : Option (List Int × Int) :=
  ((spec_IsTask F p0_windows p1_bonds).bind fun r1 => (bif (!r1) then some (([] : List Int), 1) else ((spec_l23Solve F p0_windows p1_bonds p2_least).bind fun r5 => (bif ((r5.length : Int) == 0) then some (([] : List Int), 4) else some (r5, 0)))))

def spec_TightWindows_L1 (F : Nat) (r1 : List Int × Int) (r9 : List Int) : Nat → (List GWindow) → Int → Option (List GWindow)
  | 0, _, _ => none
  | n100 + 1, xs65, x70 => (bif (decide (x70 < (r1.1.length : Int))) then ((idx r1.1 x70).bind fun q112 => ((idx r9 x70).bind fun q114 => ((app xs65 ([(GWindow.mk q112 q114)])).bind fun xs120 => (spec_TightWindows_L1 F r1 r9 n100 xs120 (IntKind.i64.wrap (x70 + 1)))))) else some xs65)

def spec_TightWindows (F : Nat) (p0_windows : List GWindow) (p1_bonds : List GBond) : Option (List GWindow × Int) :=
  ((spec_l23Code F p0_windows p1_bonds true).bind fun r1 => (bif (r1.2 != 0) then some (([] : List GWindow), r1.2) else ((spec_l23Solve F p0_windows p1_bonds false).bind fun r9 => (Option.bind (spec_TightWindows_L1 F r1 r9 F ([] : List GWindow) 0) fun xs92 => some (xs92, 0)))))

def impl_within (_F : Nat) (p0_n : Int) (p1_low : Int) (p2_high : Int) : Option (Bool) :=
  (Option.bind ((bif (decide (p1_low ≤ p0_n)) then some (decide (p0_n ≤ p2_high)) else some false) : Option (Bool)) fun b2 => some b2)

def impl_isFinite (F : Nat) (p0_n : Int) : Option (Bool) :=
  ((impl_within F p0_n (-1000000) 1000000).bind fun r1 => some r1)

def impl_IsTask_c1 (F : Nat) (p0_b : GBond) (z0 : Int) : Option (Bool) :=
  (Option.bind (((impl_within F p0_b.From 0 z0).bind fun r13 => (bif (!r13) then some true else ((impl_within F p0_b.To 0 z0).bind fun r16 => (bif (!r16) then some true else ((impl_isFinite F p0_b.Least).bind fun r19 => some (!r19)))))) : Option (Bool)) fun b10 => some b10)

def slices_IndexFunc_Bond_L1 (F : Nat) (p0_s : List GBond) (m_p1_f : GBond → Option Bool) : Nat → Int → Option (Sum Int (Unit))
  | 0, _ => none
  | n24 + 1, x14 => (bif (decide (x14 < (p0_s.length : Int))) then ((idx p0_s x14).bind fun q26 => ((m_p1_f q26).bind fun r28 => (bif r28 then some (Sum.inl x14) else (slices_IndexFunc_Bond_L1 F p0_s m_p1_f n24 (IntKind.i64.wrap (x14 + 1)))))) else some (Sum.inr ()))

def slices_IndexFunc_Bond (F : Nat) (p0_s : List GBond) (m_p1_f : GBond → Option Bool) : Option (Int) :=
  (Option.bind (slices_IndexFunc_Bond_L1 F p0_s m_p1_f F 0) fun r21 => match r21 with | .inl x_ => some x_ | .inr _ => some (-1))

def slices_ContainsFunc_Bond (F : Nat) (p0_s : List GBond) (m_p1_f : GBond → Option Bool) : Option (Bool) :=
  ((slices_IndexFunc_Bond F p0_s m_p1_f).bind fun r1 => some (decide (0 ≤ r1)))

def impl_IsTask_L1 (F : Nat) (p0_windows : List GWindow) : Nat → Int → Option (Sum Bool (Unit))
  | 0, _ => none
  | n52 + 1, x36 => (bif (decide (x36 < (p0_windows.length : Int))) then ((idx p0_windows x36).bind fun q54 => (Option.bind ((bif (decide (q54.Low < 0)) then some true else (bif (decide (q54.High < q54.Low)) then some true else some (decide (1000000 < q54.High)))) : Option (Bool)) fun b59 => (bif b59 then some (Sum.inl false) else (impl_IsTask_L1 F p0_windows n52 (IntKind.i64.wrap (x36 + 1)))))) else some (Sum.inr ()))

def impl_IsTask (F : Nat) (p0_windows : List GWindow) (p1_bonds : List GBond) : Option (Bool) :=
  (Option.bind (((impl_within F (p0_windows.length : Int) 1 10).bind fun r7 => (bif (!r7) then some true else some (decide (30 < (p1_bonds.length : Int))))) : Option (Bool)) fun b4 => (bif b4 then some false else (Option.bind (impl_IsTask_L1 F p0_windows F 0) fun r49 => match r49 with | .inl x_ => some x_ | .inr _ => ((slices_ContainsFunc_Bond F p1_bonds (fun x0 => impl_IsTask_c1 F x0 (IntKind.i64.wrap ((p0_windows.length : Int) - 1)))).bind fun r66 => some (!r66)))))

def impl_matrixBy_L5 (F : Nat) (m_p2_entry : Int → Int → Option Int) (x324 : Int) (q500 : List Int) : Nat → (List (List Int)) → Int → Option (List (List Int))
  | 0, _, _ => none
  | n609 + 1, ms570, x572 => (bif (decide (x572 < (q500.length : Int))) then ((idx ms570 x324).bind fun q626 => ((m_p2_entry x324 x572).bind fun r631 => ((idx q626 x572).bind fun _q633 => ((upd q626 x572 r631).bind fun xs635 => ((upd ms570 x324 xs635).bind fun ms636 => (impl_matrixBy_L5 F m_p2_entry x324 q500 n609 ms636 (IntKind.i64.wrap (x572 + 1)))))))) else some ms570)

def impl_matrixBy_L4 (F : Nat) (p1_n : Int) (m_p2_entry : Int → Int → Option Int) (ms3 : List (List Int)) : Nat → (List (List Int)) → Int → Option (List (List Int))
  | 0, _, _ => none
  | n487 + 1, ms318, x324 => (bif (decide (x324 < (ms3.length : Int))) then ((mk p1_n (0 : Int)).bind fun xs491 => ((idx ms318 x324).bind fun _q492 => ((upd ms318 x324 xs491).bind fun ms497 => ((idx ms497 x324).bind fun q500 => (Option.bind (impl_matrixBy_L5 F m_p2_entry x324 q500 F ms497 0) fun ms604 => (impl_matrixBy_L4 F p1_n m_p2_entry ms3 n487 ms604 (IntKind.i64.wrap (x324 + 1)))))))) else some ms318)

def impl_matrixBy (F : Nat) (p0_m : Int) (p1_n : Int) (m_p2_entry : Int → Int → Option Int) : Option (List (List Int)) :=
  ((mk p0_m ([] : List Int)).bind fun ms3 => (Option.bind (impl_matrixBy_L4 F p1_n m_p2_entry ms3 F ms3 0) fun ms478 => some ms478))

def impl_bottomMatrix_c1 (_F : Nat) (_p0 : Int) (_p1 : Int) : Option (Int) :=
  some (-1000000000000000)

def impl_bottomMatrix (F : Nat) (p0_m : Int) (p1_n : Int) : Option (List (List Int)) :=
  ((impl_matrixBy F p0_m p1_n (fun x0 x1 => impl_bottomMatrix_c1 F x0 x1)).bind fun r1 => some r1)

def impl_bondMatrix_L1 (F : Nat) (p1_bonds : List GBond) : Nat → (List (List Int)) → Int → Option (List (List Int))
  | 0, _, _ => none
  | n151 + 1, ms99, x101 => (bif (decide (x101 < (p1_bonds.length : Int))) then ((idx p1_bonds x101).bind fun q153 => ((idx ms99 q153.To).bind fun q176 => ((idx ms99 q153.To).bind fun q181 => ((idx q181 q153.From).bind fun q186 => ((idx q176 q153.From).bind fun _q188 => ((upd q176 q153.From (max q186 q153.Least)).bind fun xs190 => ((upd ms99 q153.To xs190).bind fun ms191 => (impl_bondMatrix_L1 F p1_bonds n151 ms191 (IntKind.i64.wrap (x101 + 1)))))))))) else some ms99)

def impl_bondMatrix (F : Nat) (p0_windows : List GWindow) (p1_bonds : List GBond) : Option (List (List Int)) :=
  ((impl_bottomMatrix F (p0_windows.length : Int) (p0_windows.length : Int)).bind fun r1 => (Option.bind (impl_bondMatrix_L1 F p1_bonds F r1 0) fun ms146 => some ms146))

def impl_unitMatrix_c1 (_F : Nat) (p0_i : Int) (p1_j : Int) : Option (Int) :=
  (bif (p0_i == p1_j) then some 0 else some (-1000000000000000))

def impl_unitMatrix (F : Nat) (p0_n : Int) : Option (List (List Int)) :=
  ((impl_matrixBy F p0_n p0_n (fun x0 x1 => impl_unitMatrix_c1 F x0 x1)).bind fun r1 => some r1)

def impl_addMatrices_c1 (_F : Nat) (p0_i : Int) (p1_j : Int) (z0 : List (List Int)) (z1 : List (List Int)) : Option (Int) :=
  ((idx z0 p0_i).bind fun q1 => ((idx q1 p1_j).bind fun q10 => ((idx z1 p0_i).bind fun q12 => ((idx q12 p1_j).bind fun q21 => some (max q10 q21)))))

def impl_addMatrices (F : Nat) (p0_a : List (List Int)) (p1_b : List (List Int)) : Option (List (List Int)) :=
  ((idx p0_a 0).bind fun q19 => ((impl_matrixBy F (p0_a.length : Int) (q19.length : Int) (fun x0 x1 => impl_addMatrices_c1 F x0 x1 p0_a p1_b)).bind fun r28 => some r28))

def impl_times (_F : Nat) (p0_a : Int) (p1_b : Int) : Option (Int) :=
  (Option.bind ((bif (p0_a == (-1000000000000000)) then some true else some (p1_b == (-1000000000000000))) : Option (Bool)) fun b2 => (bif b2 then some (-1000000000000000) else some (IntKind.i64.wrap (p0_a + p1_b))))

def impl_starOf_L21 (F : Nat) (x2502 : Int) (ms4373 : List (List Int)) (x4375 : Int) : Nat → (List (List Int)) → Int → Option (List (List Int))
  | 0, _, _ => none
  | n4918 + 1, ms4837, x4839 => (bif (decide (x4839 < (ms4373.length : Int))) then ((idx ms4837 x4375).bind fun q4956 => ((idx ms4837 x4375).bind fun q4961 => ((idx q4961 x4839).bind fun q4966 => ((idx ms4837 x4375).bind fun q4968 => ((idx q4968 x2502).bind fun q4973 => ((idx ms4837 x2502).bind fun q4975 => ((idx q4975 x4839).bind fun q4980 => ((impl_times F q4973 q4980).bind fun r4982 => ((idx q4956 x4839).bind fun _q4984 => ((upd q4956 x4839 (max q4966 r4982)).bind fun xs4986 => ((upd ms4837 x4375 xs4986).bind fun ms4987 => (impl_starOf_L21 F x2502 ms4373 x4375 n4918 ms4987 (IntKind.i64.wrap (x4839 + 1)))))))))))))) else some ms4837)

def impl_starOf_L20 (F : Nat) (ms2500 : List (List Int)) (x2502 : Int) : Nat → (List (List Int)) → Int → Option (List (List Int))
  | 0, _, _ => none
  | n4686 + 1, ms4373, x4375 => (bif (decide (x4375 < (ms2500.length : Int))) then (Option.bind (impl_starOf_L21 F x2502 ms4373 x4375 F ms4373 0) fun ms4913 => (impl_starOf_L20 F ms2500 x2502 n4686 ms4913 (IntKind.i64.wrap (x4375 + 1)))) else some ms4373)

def impl_starOf_L16 (F : Nat) (r8 : List (List Int)) : Nat → (List (List Int)) → Int → Option (Sum (List (List Int) × Bool) (List (List Int)))
  | 0, _, _ => none
  | n3749 + 1, ms2500, x2502 => (bif (decide (x2502 < (r8.length : Int))) then ((idx ms2500 x2502).bind fun q3751 => ((idx q3751 x2502).bind fun q3756 => (bif (decide (0 < q3756)) then some (Sum.inl (([] : List (List Int)), false)) else (Option.bind (impl_starOf_L20 F ms2500 x2502 F ms2500 0) fun ms4681 => (impl_starOf_L16 F r8 n3749 ms4681 (IntKind.i64.wrap (x2502 + 1))))))) else some (Sum.inr ms2500))

def impl_starOf_L22 (F : Nat) (ms3744 : List (List Int)) : Nat → Int → Option (Sum (List (List Int) × Bool) (Unit))
  | 0, _ => none
  | n5024 + 1, x5011 => (bif (decide (x5011 < (ms3744.length : Int))) then ((idx ms3744 x5011).bind fun q5026 => ((idx q5026 x5011).bind fun q5031 => (bif (decide (0 < q5031)) then some (Sum.inl (([] : List (List Int)), false)) else (impl_starOf_L22 F ms3744 n5024 (IntKind.i64.wrap (x5011 + 1)))))) else some (Sum.inr ()))

def impl_starOf (F : Nat) (p0 : List (List Int)) : Option (List (List Int) × Bool) :=
  ((impl_unitMatrix F (p0.length : Int)).bind fun r1 => ((impl_addMatrices F p0 r1).bind fun r8 => (Option.bind (impl_starOf_L16 F r8 F r8 0) fun r3746 => match r3746 with | .inl x_ => some x_ | .inr ms3744 => (Option.bind (impl_starOf_L22 F ms3744 F 0) fun r5021 => match r5021 with | .inl x_ => some x_ | .inr _ => some (ms3744, true)))))

def impl_timesVector_L5 (F : Nat) (p1_x : List Int) (x245 : Int) (q371 : List Int) : Nat → (List Int) → Int → Option (List Int)
  | 0, _, _ => none
  | n464 + 1, xs433, x435 => (bif (decide (x435 < (q371.length : Int))) then ((idx q371 x435).bind fun q466 => ((idx xs433 x245).bind fun q478 => ((idx p1_x x435).bind fun q480 => ((impl_times F q466 q480).bind fun r482 => ((idx xs433 x245).bind fun _q484 => ((upd xs433 x245 (max q478 r482)).bind fun xs486 => (impl_timesVector_L5 F p1_x x245 q371 n464 xs486 (IntKind.i64.wrap (x435 + 1))))))))) else some xs433)

def impl_timesVector_L4 (F : Nat) (p0_a : List (List Int)) (p1_x : List Int) : Nat → (List Int) → Int → Option (List Int)
  | 0, _, _ => none
  | n369 + 1, xs243, x245 => (bif (decide (x245 < (p0_a.length : Int))) then ((idx p0_a x245).bind fun q371 => ((idx xs243 x245).bind fun _q380 => ((upd xs243 x245 (-1000000000000000)).bind fun xs382 => (Option.bind (impl_timesVector_L5 F p1_x x245 q371 F xs382 0) fun xs459 => (impl_timesVector_L4 F p0_a p1_x n369 xs459 (IntKind.i64.wrap (x245 + 1))))))) else some xs243)

def impl_timesVector (F : Nat) (p0_a : List (List Int)) (p1_x : List Int) : Option (List Int) :=
  ((mk (p0_a.length : Int) (0 : Int)).bind fun xs3 => (Option.bind (impl_timesVector_L4 F p0_a p1_x F xs3 0) fun xs364 => some xs364))

def impl_transposed_c1 (_F : Nat) (p0_i : Int) (p1_j : Int) (z0 : List (List Int)) : Option (Int) :=
  ((idx z0 p1_j).bind fun q1 => ((idx q1 p0_i).bind fun q10 => some q10))

def impl_transposed (F : Nat) (p0_a : List (List Int)) : Option (List (List Int)) :=
  ((idx p0_a 0).bind fun q18 => ((impl_matrixBy F (q18.length : Int) (p0_a.length : Int) (fun x0 x1 => impl_transposed_c1 F x0 x1 p0_a)).bind fun r27 => some r27))

def impl_solveTask_L1 (F : Nat) (p0 : List GWindow) : Nat → (List Int) → (List Int) → Int → Option ((List Int) × (List Int))
  | 0, _, _, _ => none
  | n402 + 1, xs269, xs275, x280 => (bif (decide (x280 < (p0.length : Int))) then ((idx p0 x280).bind fun q404 => (Option.bind (((app xs269 ([q404.Low])).bind fun xs481 => ((app xs275 ([(IntKind.i64.wrap (0 - q404.High))])).bind fun xs487 => some (xs481, xs487))) : Option ((List Int) × (List Int))) fun (xs453, xs458) => (impl_solveTask_L1 F p0 n402 xs453 xs458 (IntKind.i64.wrap (x280 + 1))))) else some (xs269, xs275))

def impl_solveTask_L2 (F : Nat) (p0 : List GWindow) (r511 : List Int) : Nat → (List Int) → Int → Option (Sum (List Int × List Int × Int) (List Int))
  | 0, _, _ => none
  | n580 + 1, xs559, x561 => (bif (decide (x561 < (p0.length : Int))) then ((idx p0 x561).bind fun q582 => ((idx xs559 x561).bind fun q585 => ((idx xs559 x561).bind fun _q587 => ((upd xs559 x561 (IntKind.i64.wrap (0 - q585))).bind fun xs589 => ((idx r511 x561).bind fun q591 => (bif (decide (q582.High < q591)) then some (Sum.inl (([] : List Int), ([] : List Int), 4)) else (impl_solveTask_L2 F p0 r511 n580 xs589 (IntKind.i64.wrap (x561 + 1))))))))) else some (Sum.inr xs559))

def impl_solveTask (F : Nat) (p0 : List GWindow) (p1 : List GBond) : Option (List Int × List Int × Int) :=
  ((impl_IsTask F p0 p1).bind fun r1 => (bif (!r1) then some (([] : List Int), ([] : List Int), 1) else ((impl_bondMatrix F p0 p1).bind fun r6 => ((impl_starOf F r6).bind fun r13 => (bif (!r13.2) then some (([] : List Int), ([] : List Int), 4) else (Option.bind (impl_solveTask_L1 F p0 F ([] : List Int) ([] : List Int) 0) fun (xs389, xs394) => ((impl_timesVector F r13.1 xs389).bind fun r511 => ((impl_transposed F r13.1).bind fun r517 => ((impl_timesVector F r517 xs394).bind fun r524 => (Option.bind (impl_solveTask_L2 F p0 r511 F r524 0) fun r577 => match r577 with | .inl x_ => some x_ | .inr xs575 => some (r511, xs575, 0)))))))))))

def impl_TightWindows_L1 (F : Nat) (r1 : List Int × List Int × Int) (xs15 : List GWindow) : Nat → (List GWindow) → Int → Option (List GWindow)
  | 0, _, _ => none
  | n78 + 1, xs53, x55 => (bif (decide (x55 < (xs15.length : Int))) then ((idx r1.1 x55).bind fun q88 => ((idx r1.2.1 x55).bind fun q90 => ((idx xs53 x55).bind fun _q92 => ((upd xs53 x55 (GWindow.mk q88 q90)).bind fun xs94 => (impl_TightWindows_L1 F r1 xs15 n78 xs94 (IntKind.i64.wrap (x55 + 1))))))) else some xs53)

def impl_TightWindows (F : Nat) (p0_windows : List GWindow) (p1_bonds : List GBond) : Option (List GWindow × Int) :=
  ((impl_solveTask F p0_windows p1_bonds).bind fun r1 => (bif (r1.2.2 != 0) then some (([] : List GWindow), r1.2.2) else ((mk (p0_windows.length : Int) ((GWindow.mk 0 0) : GWindow)).bind fun xs15 => (Option.bind (impl_TightWindows_L1 F r1 xs15 F xs15 0) fun xs73 => some (xs73, 0)))))

def laws_eqWindow (_F : Nat) (p0_a : GWindow) (p1_b : GWindow) : Option (Bool) :=
  (bif (p0_a.Low != p1_b.Low) then some false else (bif (p0_a.High != p1_b.High) then some false else some true))

def laws_eqWindowS_L1 (F : Nat) (p0_a : List GWindow) (p1_b : List GWindow) : Nat → Int → Option (Sum Bool (Unit))
  | 0, _ => none
  | n31 + 1, x19 => (bif (decide (x19 < (p0_a.length : Int))) then ((idx p0_a x19).bind fun q33 => ((idx p1_b x19).bind fun q35 => ((laws_eqWindow F q33 q35).bind fun r37 => (bif (!r37) then some (Sum.inl false) else (laws_eqWindowS_L1 F p0_a p1_b n31 (IntKind.i64.wrap (x19 + 1))))))) else some (Sum.inr ()))

def laws_eqWindowS (F : Nat) (p0_a : List GWindow) (p1_b : List GWindow) : Option (Bool) :=
  (bif ((p0_a.length : Int) != (p1_b.length : Int)) then some false else (Option.bind (laws_eqWindowS_L1 F p0_a p1_b F 0) fun r28 => match r28 with | .inl x_ => some x_ | .inr _ => some true))

def laws_eqBond (_F : Nat) (p0_a : GBond) (p1_b : GBond) : Option (Bool) :=
  (bif (p0_a.From != p1_b.From) then some false else (bif (p0_a.To != p1_b.To) then some false else (bif (p0_a.Least != p1_b.Least) then some false else some true)))

def laws_eqBondS_L1 (F : Nat) (p0_a : List GBond) (p1_b : List GBond) : Nat → Int → Option (Sum Bool (Unit))
  | 0, _ => none
  | n31 + 1, x19 => (bif (decide (x19 < (p0_a.length : Int))) then ((idx p0_a x19).bind fun q33 => ((idx p1_b x19).bind fun q35 => ((laws_eqBond F q33 q35).bind fun r37 => (bif (!r37) then some (Sum.inl false) else (laws_eqBondS_L1 F p0_a p1_b n31 (IntKind.i64.wrap (x19 + 1))))))) else some (Sum.inr ()))

def laws_eqBondS (F : Nat) (p0_a : List GBond) (p1_b : List GBond) : Option (Bool) :=
  (bif ((p0_a.length : Int) != (p1_b.length : Int)) then some false else (Option.bind (laws_eqBondS_L1 F p0_a p1_b F 0) fun r28 => match r28 with | .inl x_ => some x_ | .inr _ => some true))

def laws_markWindowS_L1 (F : Nat) : Nat → (List GWindow) → Int → Int → Option ((List GWindow) × Int)
  | 0, _, _, _ => none
  | n42 + 1, xs23, x25, x26 => (bif (decide (x26 < (xs23.length : Int))) then ((idx xs23 x26).bind fun q44 => ((upd xs23 x26 (GWindow.mk x25 q44.High)).bind fun xs46 => ((idx xs46 x26).bind fun q48 => ((upd xs46 x26 (GWindow.mk q48.Low (IntKind.i64.wrap (x25 + 1)))).bind fun xs50 => (laws_markWindowS_L1 F n42 xs50 (IntKind.i64.wrap ((IntKind.i64.wrap (x25 + 1)) + 1)) (IntKind.i64.wrap (x26 + 1))))))) else some (xs23, x25))

def laws_markWindowS (F : Nat) (p0_a : List GWindow) (p1_k : Int) : Option ((Int) × List GWindow) :=
  (Option.bind (laws_markWindowS_L1 F F p0_a p1_k 0) fun (xs36, x38) => some (x38, xs36))

def laws_markBondS_L1 (F : Nat) : Nat → (List GBond) → Int → Int → Option ((List GBond) × Int)
  | 0, _, _, _ => none
  | n54 + 1, xs31, x33, x34 => (bif (decide (x34 < (xs31.length : Int))) then ((idx xs31 x34).bind fun q56 => ((upd xs31 x34 (GBond.mk x33 q56.To q56.Least)).bind fun xs58 => ((idx xs58 x34).bind fun q60 => ((upd xs58 x34 (GBond.mk q60.From (IntKind.i64.wrap (x33 + 1)) q60.Least)).bind fun xs62 => ((idx xs62 x34).bind fun q64 => ((upd xs62 x34 (GBond.mk q64.From q64.To (IntKind.i64.wrap ((IntKind.i64.wrap (x33 + 1)) + 1)))).bind fun xs66 => (laws_markBondS_L1 F n54 xs66 (IntKind.i64.wrap ((IntKind.i64.wrap ((IntKind.i64.wrap (x33 + 1)) + 1)) + 1)) (IntKind.i64.wrap (x34 + 1))))))))) else some (xs31, x33))

def laws_markBondS (F : Nat) (p0_a : List GBond) (p1_k : Int) : Option ((Int) × List GBond) :=
  (Option.bind (laws_markBondS_L1 F F p0_a p1_k 0) fun (xs48, x50) => some (x50, xs48))

def laws_heldWindowS_L1 (F : Nat) (p0_a : List GWindow) : Nat → Int → Int → Option (Sum Int (Int))
  | 0, _, _ => none
  | n30 + 1, x17, x18 => (bif (decide (x18 < (p0_a.length : Int))) then ((idx p0_a x18).bind fun q32 => (bif (q32.Low != x17) then some (Sum.inl (-1)) else ((idx p0_a x18).bind fun q35 => (bif (q35.High != (IntKind.i64.wrap (x17 + 1))) then some (Sum.inl (-1)) else (laws_heldWindowS_L1 F p0_a n30 (IntKind.i64.wrap ((IntKind.i64.wrap (x17 + 1)) + 1)) (IntKind.i64.wrap (x18 + 1))))))) else some (Sum.inr x17))

def laws_heldWindowS (F : Nat) (p0_a : List GWindow) (p1_k : Int) : Option (Int) :=
  (Option.bind (laws_heldWindowS_L1 F p0_a F p1_k 0) fun r27 => match r27 with | .inl x_ => some x_ | .inr x26 => some x26)

def laws_FnExactTightWindows (F : Nat) (p0 : List LWindow) (p1 : List LBond) : Option (Bool) :=
  ((laws_szWindowS F p0 1048576).bind fun r1 => (bif (decide (r1 < 0)) then some true else ((laws_szBondS F p1 r1).bind fun r4 => (bif (decide (r4 < 0)) then some true else ((laws_toWindowS F p0).bind fun r7 => ((laws_toBondS F p1).bind fun r13 => ((spec_TightWindows F r7 r13).bind fun r19 => ((laws_toWindowS F p0).bind fun r25 => ((laws_toBondS F p1).bind fun r31 => ((impl_TightWindows F r25 r31).bind fun r37 => (Option.bind (((laws_eqWindowS F r37.1 r19.1).bind fun r49 => (bif (!r49) then some true else some (r37.2 != r19.2))) : Option (Bool)) fun b46 => (bif b46 then some false else ((laws_toWindowS F p0).bind fun r53 => ((laws_eqWindowS F r25 r53).bind fun r59 => (bif (!r59) then some false else ((laws_toBondS F p1).bind fun r62 => ((laws_eqBondS F r31 r62).bind fun r68 => (bif (!r68) then some false else ((laws_markWindowS F r25 1).bind fun r71 => ((laws_markBondS F r31 r71.1).bind fun r74 => (Option.bind ((bif (decide (r74.1 < 0)) then some true else ((laws_eqWindowS F r37.1 r19.1).bind fun r85 => (bif (!r85) then some true else some (r37.2 != r19.2)))) : Option (Bool)) fun b81 => (bif b81 then some false else ((laws_markWindowS F r37.1 1).bind fun r89 => ((laws_heldWindowS F r89.2 1).bind fun r92 => (bif (decide (r92 < 0)) then some false else (bif (r92 != r89.1) then some false else ((laws_toWindowS F p0).bind fun r96 => ((laws_toBondS F p1).bind fun r102 => ((impl_TightWindows F r96 r102).bind fun r108 => (Option.bind (((laws_eqWindowS F r108.1 r19.1).bind fun r120 => (bif (!r120) then some true else some (r108.2 != r19.2))) : Option (Bool)) fun b117 => (bif b117 then some false else ((laws_heldWindowS F r89.2 1).bind fun r124 => (bif (decide (r124 < 0)) then some false else (bif (r124 != r89.1) then some false else some true))))))))))))))))))))))))))))))))))

end Go.Proofs.Ytmijmamolmoheaa
