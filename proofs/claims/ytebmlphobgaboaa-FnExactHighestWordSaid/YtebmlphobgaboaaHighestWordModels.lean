/- Plain models of the functions. -/
import Derived.Test.YtebmlphobgaboaaLiftH
namespace Go.Proofs.Ytebmlphobgaboaa


def laws_szInt64S (_F : Nat) (p0_a : List Int) (p1_left : Int) : Option (Int) :=
  (bif (decide ((IntKind.i64.wrap (p1_left - (p0_a.length : Int))) < 0)) then some (-1) else some (IntKind.i64.wrap (p1_left - (p0_a.length : Int))))

def laws_szInt64SS_L1 (F : Nat) (p0_a : List (List Int)) : Nat → Int → Int → Option (Sum Int (Int))
  | 0, _, _ => none
  | n49 + 1, x30, x31 => (bif (decide (x31 < (p0_a.length : Int))) then ((idx p0_a x31).bind fun q51 => ((laws_szInt64S F q51 x30).bind fun r60 => (bif (decide (r60 < 0)) then some (Sum.inl (-1)) else (laws_szInt64SS_L1 F p0_a n49 r60 (IntKind.i64.wrap (x31 + 1)))))) else some (Sum.inr x30))

def laws_szInt64SS (F : Nat) (p0_a : List (List Int)) (p1_left : Int) : Option (Int) :=
  (bif (decide ((IntKind.i64.wrap (p1_left - (p0_a.length : Int))) < 0)) then some (-1) else (Option.bind (laws_szInt64SS_L1 F p0_a F (IntKind.i64.wrap (p1_left - (p0_a.length : Int))) 0) fun r46 => match r46 with | .inl x_ => some x_ | .inr x45 => some x45))

def laws_szInt64SSS_L1 (F : Nat) (p0_a : List (List (List Int))) : Nat → Int → Int → Option (Sum Int (Int))
  | 0, _, _ => none
  | n49 + 1, x30, x31 => (bif (decide (x31 < (p0_a.length : Int))) then ((idx p0_a x31).bind fun q51 => ((laws_szInt64SS F q51 x30).bind fun r60 => (bif (decide (r60 < 0)) then some (Sum.inl (-1)) else (laws_szInt64SSS_L1 F p0_a n49 r60 (IntKind.i64.wrap (x31 + 1)))))) else some (Sum.inr x30))

def laws_szInt64SSS (F : Nat) (p0_a : List (List (List Int))) (p1_left : Int) : Option (Int) :=
  (bif (decide ((IntKind.i64.wrap (p1_left - (p0_a.length : Int))) < 0)) then some (-1) else (Option.bind (laws_szInt64SSS_L1 F p0_a F (IntKind.i64.wrap (p1_left - (p0_a.length : Int))) 0) fun r46 => match r46 with | .inl x_ => some x_ | .inr x45 => some x45))

def laws_toInt64S_L1 (F : Nat) (p0_a : List Int) : Nat → (List Int) → Int → Option (List Int)
  | 0, _, _ => none
  | n36 + 1, xs21, x23 => (bif (decide (x23 < (p0_a.length : Int))) then ((idx p0_a x23).bind fun q38 => ((idx xs21 x23).bind fun _q40 => ((upd xs21 x23 q38).bind fun xs42 => (laws_toInt64S_L1 F p0_a n36 xs42 (IntKind.i64.wrap (x23 + 1)))))) else some xs21)

def laws_toInt64S (F : Nat) (p0_a : List Int) : Option (List Int) :=
  ((mk (p0_a.length : Int) (0 : Int)).bind fun xs3 => (Option.bind (laws_toInt64S_L1 F p0_a F xs3 0) fun xs31 => some xs31))

def laws_toInt64SS_L1 (F : Nat) (p0_a : List (List Int)) : Nat → (List (List Int)) → Int → Option (List (List Int))
  | 0, _, _ => none
  | n100 + 1, ms60, x66 => (bif (decide (x66 < (p0_a.length : Int))) then ((idx p0_a x66).bind fun q102 => ((laws_toInt64S F q102).bind fun r111 => ((idx ms60 x66).bind fun _q117 => ((upd ms60 x66 r111).bind fun ms122 => (laws_toInt64SS_L1 F p0_a n100 ms122 (IntKind.i64.wrap (x66 + 1))))))) else some ms60)

def laws_toInt64SS (F : Nat) (p0_a : List (List Int)) : Option (List (List Int)) :=
  ((mk (p0_a.length : Int) ([] : List Int)).bind fun ms3 => (Option.bind (laws_toInt64SS_L1 F p0_a F ms3 0) fun ms91 => some ms91))

def laws_toInt64SSS_L1 (F : Nat) (p0_a : List (List (List Int))) : Nat → (List (List (List Int))) → Int → Option (List (List (List Int)))
  | 0, _, _ => none
  | n97 + 1, ms61, x64 => (bif (decide (x64 < (p0_a.length : Int))) then ((idx p0_a x64).bind fun q99 => ((laws_toInt64SS F q99).bind fun r108 => ((idx ms61 x64).bind fun _q115 => ((upd ms61 x64 r108).bind fun ms121 => (laws_toInt64SSS_L1 F p0_a n97 ms121 (IntKind.i64.wrap (x64 + 1))))))) else some ms61)

def laws_toInt64SSS (F : Nat) (p0_a : List (List (List Int))) : Option (List (List (List Int))) :=
  ((mk (p0_a.length : Int) ([] : List (List Int))).bind fun ms3 => (Option.bind (laws_toInt64SSS_L1 F p0_a F ms3 0) fun ms91 => some ms91))

def spec_l01In (_F : Nat) (p0_n : Int) (p1_low : Int) (p2_high : Int) : Option (Bool) :=
  (Option.bind ((bif (decide (p1_low ≤ p0_n)) then some (decide (p0_n ≤ p2_high)) else some false) : Option (Bool)) fun b2 => some b2)

def spec_l01Finite (F : Nat) (p0_a : Int) : Option (Bool) :=
  ((spec_l01In F p0_a (-1000000) 1000000).bind fun r1 => some r1)

def spec_IsValue (F : Nat) (p0_a : Int) : Option (Bool) :=
  (Option.bind ((bif (p0_a == (-1000000000000000)) then some true else ((spec_l01Finite F p0_a).bind fun r8 => some r8)) : Option (Bool)) fun b4 => some b4)

def spec_l01All_L1 (F : Nat) (p0_list : List Int) (p1_finite : Bool) : Nat → Int → Option (Sum Bool (Unit))
  | 0, _ => none
  | n69 + 1, x44 => (bif (decide (x44 < (p0_list.length : Int))) then (Option.bind (((idx p0_list x44).bind fun q82 => ((spec_IsValue F q82).bind fun r84 => (bif (!r84) then some true else (bif p1_finite then ((idx p0_list x44).bind fun q88 => some (q88 == (-1000000000000000))) else some false)))) : Option (Bool)) fun b79 => (bif b79 then some (Sum.inl false) else (spec_l01All_L1 F p0_list p1_finite n69 (IntKind.i64.wrap (x44 + 1))))) else some (Sum.inr ()))

def spec_l01All (F : Nat) (p0_list : List Int) (p1_finite : Bool) : Option (Bool) :=
  (Option.bind (spec_l01All_L1 F p0_list p1_finite F 0) fun r66 => match r66 with | .inl x_ => some x_ | .inr _ => some true)

def spec_l02Vector (F : Nat) (p0_x : List Int) : Option (Bool) :=
  (Option.bind (((spec_l01In F (p0_x.length : Int) 1 10).bind fun r9 => (bif r9 then ((spec_l01All F p0_x false).bind fun r12 => some r12) else some false)) : Option (Bool)) fun b6 => some b6)

def spec_IsMatrix_L1 (F : Nat) (p0_a : List (List Int)) : Nat → Int → Option (Sum Bool (Unit))
  | 0, _ => none
  | n207 + 1, x138 => (bif (decide (x138 < (p0_a.length : Int))) then (Option.bind (((idx p0_a x138).bind fun q242 => ((spec_l02Vector F q242).bind fun r251 => (bif (!r251) then some true else ((idx p0_a x138).bind fun q254 => ((idx p0_a 0).bind fun q263 => some ((q254.length : Int) != (q263.length : Int))))))) : Option (Bool)) fun b239 => (bif b239 then some (Sum.inl false) else (spec_IsMatrix_L1 F p0_a n207 (IntKind.i64.wrap (x138 + 1))))) else some (Sum.inr ()))

def spec_IsMatrix (F : Nat) (p0_a : List (List Int)) : Option (Bool) :=
  (Option.bind ((bif (decide ((p0_a.length : Int) < 1)) then some true else some (decide (10 < (p0_a.length : Int)))) : Option (Bool)) fun b2 => (bif b2 then some false else (Option.bind (spec_IsMatrix_L1 F p0_a F 0) fun r204 => match r204 with | .inl x_ => some x_ | .inr _ => some true)))

def spec_l02Square (F : Nat) (p0_a : List (List Int)) : Option (Bool) :=
  (Option.bind (((spec_IsMatrix F p0_a).bind fun r16 => (bif r16 then ((idx p0_a 0).bind fun q19 => some ((p0_a.length : Int) == (q19.length : Int))) else some false)) : Option (Bool)) fun b13 => some b13)

def spec_AreModes_L1 (F : Nat) (p0_modes : List (List (List Int))) : Nat → Int → Option (Sum Bool (Unit))
  | 0, _ => none
  | n207 + 1, x138 => (bif (decide (x138 < (p0_modes.length : Int))) then (Option.bind (((idx p0_modes x138).bind fun q242 => ((spec_l02Square F q242).bind fun r251 => (bif (!r251) then some true else ((idx p0_modes x138).bind fun q254 => ((idx p0_modes 0).bind fun q263 => some ((q254.length : Int) != (q263.length : Int))))))) : Option (Bool)) fun b239 => (bif b239 then some (Sum.inl false) else (spec_AreModes_L1 F p0_modes n207 (IntKind.i64.wrap (x138 + 1))))) else some (Sum.inr ()))

def spec_AreModes (F : Nat) (p0_modes : List (List (List Int))) : Option (Bool) :=
  (Option.bind ((bif (decide ((p0_modes.length : Int) < 1)) then some true else some (decide (4 < (p0_modes.length : Int)))) : Option (Bool)) fun b2 => (bif b2 then some false else (Option.bind (spec_AreModes_L1 F p0_modes F 0) fun r204 => match r204 with | .inl x_ => some x_ | .inr _ => some true)))

def spec_l25Code (F : Nat) (p0_modes : List (List (List Int))) (p1_x : List Int) (p2_in : Bool) : Option (Int) :=
  (Option.bind (((spec_AreModes F p0_modes).bind fun r9 => (bif (!r9) then some true else ((spec_l02Vector F p1_x).bind fun r12 => some (!r12)))) : Option (Bool)) fun b6 => (bif b6 then some 1 else ((idx p0_modes 0).bind fun q15 => (bif ((p1_x.length : Int) != (q15.length : Int)) then some 5 else (bif (!p2_in) then some 2 else some 0)))))

def spec_l01Own (_F : Nat) (p0_list : List Int) : Option (List Int) :=
  ((app ([] : List Int) p0_list).bind fun xs5 => some xs5)

def spec_l25Words_L21 (F : Nat) (p0_modes : List (List (List Int))) (ms1101 : List (List Int)) (x1936 : Int) : Nat → (List (List Int)) → Int → Option (List (List Int))
  | 0, _, _ => none
  | n2178 + 1, ms2136, x2142 => (bif (decide (x2142 < (p0_modes.length : Int))) then ((idx ms1101 x1936).bind fun q2180 => ((spec_l01Own F q2180).bind fun r2185 => ((app r2185 ([x2142])).bind fun xs2195 => ((app ms2136 ([xs2195])).bind fun ms2201 => (spec_l25Words_L21 F p0_modes ms1101 x1936 n2178 ms2201 (IntKind.i64.wrap (x2142 + 1))))))) else some ms2136)

def spec_l25Words_L20 (F : Nat) (p0_modes : List (List (List Int))) (ms1101 : List (List Int)) : Nat → (List (List Int)) → Int → Option (List (List Int))
  | 0, _, _ => none
  | n2075 + 1, ms1930, x1936 => (bif (decide (x1936 < (ms1101.length : Int))) then (Option.bind (spec_l25Words_L21 F p0_modes ms1101 x1936 F ms1930 0) fun ms2169 => (spec_l25Words_L20 F p0_modes ms1101 n2075 ms2169 (IntKind.i64.wrap (x1936 + 1)))) else some ms1930)

def spec_l25Words_L16 (F : Nat) (p0_modes : List (List (List Int))) : Nat → Int → (List (List Int)) → Option (List (List Int))
  | 0, _, _ => none
  | n1660 + 1, x1100, ms1101 => (bif (decide (0 < x1100)) then (Option.bind (spec_l25Words_L20 F p0_modes ms1101 F [] 0) fun ms2066 => (spec_l25Words_L16 F p0_modes n1660 (IntKind.i64.wrap (x1100 - 1)) ms2066)) else some ms1101)

def spec_l25Words (F : Nat) (p0_modes : List (List (List Int))) (p1_n : Int) : Option (List (List Int)) :=
  (Option.bind (spec_l25Words_L16 F p0_modes F p1_n ([([] : List Int)])) fun ms1651 => some ms1651)

def spec_l01Within_L1 (F : Nat) (p0_list : List Int) (p2_low : Int) (p3_high : Int) : Nat → Int → Option (Sum Bool (Unit))
  | 0, _ => none
  | n24 + 1, x14 => (bif (decide (x14 < (p0_list.length : Int))) then ((idx p0_list x14).bind fun q26 => ((spec_l01In F q26 p2_low p3_high).bind fun r28 => (bif (!r28) then some (Sum.inl false) else (spec_l01Within_L1 F p0_list p2_low p3_high n24 (IntKind.i64.wrap (x14 + 1)))))) else some (Sum.inr ()))

def spec_l01Within (F : Nat) (p0_list : List Int) (p1_most : Int) (p2_low : Int) (p3_high : Int) : Option (Bool) :=
  (Option.bind (spec_l01Within_L1 F p0_list p2_low p3_high F 0) fun r21 => match r21 with | .inl x_ => some x_ | .inr _ => some (decide ((p0_list.length : Int) ≤ p1_most)))

def spec_l25Word (F : Nat) (p0_modes : List (List (List Int))) (p1_word : List Int) : Option (Bool) :=
  ((spec_l01Within F p1_word 6 0 (IntKind.i64.wrap ((p0_modes.length : Int) - 1))).bind fun r1 => some r1)

def spec_l01Times (_F : Nat) (p0_a : Int) (p1_b : Int) : Option (Int) :=
  (Option.bind ((bif (p0_a == (-1000000000000000)) then some true else some (p1_b == (-1000000000000000))) : Option (Bool)) fun b2 => (bif b2 then some (-1000000000000000) else some (IntKind.i64.wrap (p0_a + p1_b))))

def spec_l02Apply_L5 (F : Nat) (p0_a : List (List Int)) (p1_x : List Int) (x174 : Int) : Nat → Int → Int → Option (Int)
  | 0, _, _ => none
  | n321 + 1, x299, x300 => (bif (decide (x300 < (p1_x.length : Int))) then ((idx p0_a x174).bind fun q323 => ((idx q323 x300).bind fun q332 => ((idx p1_x x300).bind fun q334 => ((spec_l01Times F q332 q334).bind fun r336 => (spec_l02Apply_L5 F p0_a p1_x x174 n321 (max x299 r336) (IntKind.i64.wrap (x300 + 1))))))) else some x299)

def spec_l02Apply_L4 (F : Nat) (p0_a : List (List Int)) (p1_x : List Int) : Nat → (List Int) → Int → Option (List Int)
  | 0, _, _ => none
  | n263 + 1, xs169, x174 => (bif (decide (x174 < (p0_a.length : Int))) then (Option.bind (spec_l02Apply_L5 F p0_a p1_x x174 F (-1000000000000000) 0) fun x317 => ((app xs169 ([x317])).bind fun xs342 => (spec_l02Apply_L4 F p0_a p1_x n263 xs342 (IntKind.i64.wrap (x174 + 1))))) else some xs169)

def spec_l02Apply (F : Nat) (p0_a : List (List Int)) (p1_x : List Int) : Option (List Int) :=
  (Option.bind (spec_l02Apply_L4 F p0_a p1_x F ([] : List Int) 0) fun xs255 => some xs255)

def spec_AfterWord_L1 (F : Nat) (p0_modes : List (List (List Int))) (p2_word : List Int) : Nat → (List Int) → Int → Option (Sum (List Int × Int) (List Int))
  | 0, _, _ => none
  | n96 + 1, xs61, x66 => (bif (decide (x66 < (p2_word.length : Int))) then ((idx p2_word x66).bind fun q98 => ((idx p0_modes q98).bind fun q100 => ((spec_l02Apply F q100 xs61).bind fun r109 => ((spec_l02Vector F r109).bind fun r115 => (bif (!r115) then some (Sum.inl (([] : List Int), 3)) else (spec_AfterWord_L1 F p0_modes p2_word n96 r109 (IntKind.i64.wrap (x66 + 1)))))))) else some (Sum.inr xs61))

def spec_AfterWord (F : Nat) (p0_modes : List (List (List Int))) (p1_x : List Int) (p2_word : List Int) : Option (List Int × Int) :=
  ((spec_l25Word F p0_modes p2_word).bind fun r1 => ((spec_l25Code F p0_modes p1_x r1).bind fun r3 => (bif (r3 != 0) then some (([] : List Int), r3) else ((spec_l01Own F p1_x).bind fun r7 => (Option.bind (spec_AfterWord_L1 F p0_modes p2_word F r7 0) fun r93 => match r93 with | .inl x_ => some x_ | .inr xs88 => some (xs88, 0))))))

def spec_SumOf_L1 (F : Nat) (p0_list : List Int) : Nat → Int → Int → Option (Int)
  | 0, _, _ => none
  | n22 + 1, x13, x14 => (bif (decide (x14 < (p0_list.length : Int))) then ((idx p0_list x14).bind fun q24 => (spec_SumOf_L1 F p0_list n22 (max x13 q24) (IntKind.i64.wrap (x14 + 1)))) else some x13)

def spec_SumOf (F : Nat) (p0_list : List Int) : Option (Int × Int) :=
  (bif (decide (200 < (p0_list.length : Int))) then some (0, 3) else ((spec_l01All F p0_list false).bind fun r2 => (bif (!r2) then some (0, 1) else (Option.bind (spec_SumOf_L1 F p0_list F (-1000000000000000) 0) fun x18 => some (x18, 0)))))

def spec_l25Best_L1 (F : Nat) (p0 : List (List (List Int))) (p1 : List Int) (p3 : Bool) (r7 : List (List Int)) : Nat → Int → Int → (List Int) → Option (Sum (List Int × Int × Int) (Int × (List Int)))
  | 0, _, _, _ => none
  | n156 + 1, x98, x99, xs100 => (bif (decide (x99 < (r7.length : Int))) then ((idx r7 x99).bind fun q158 => ((spec_AfterWord F p0 p1 q158).bind fun r163 => (bif (r163.2 != 0) then some (Sum.inl (([] : List Int), 0, r163.2)) else ((spec_SumOf F r163.1).bind fun r171 => (Option.bind ((bif (x99 == 0) then some (true, xs100) else (bif p3 then (bif (decide (x98 < r171.1)) then some (true, xs100) else (bif (!p3) then some ((decide (r171.1 < x98)), xs100) else some (false, xs100))) else (bif (!p3) then some ((decide (r171.1 < x98)), xs100) else some (false, xs100)))) : Option (Bool × (List Int))) fun (b178, xs179) => (bif b178 then ((idx r7 x99).bind fun q193 => (spec_l25Best_L1 F p0 p1 p3 r7 n156 r171.1 (IntKind.i64.wrap (x99 + 1)) q193)) else (spec_l25Best_L1 F p0 p1 p3 r7 n156 x98 (IntKind.i64.wrap (x99 + 1)) xs179))))))) else some (Sum.inr (x98, xs100)))

def spec_l25Best (F : Nat) (p0 : List (List (List Int))) (p1 : List Int) (p2 : Int) (p3 : Bool) : Option (List Int × Int × Int) :=
  ((spec_l01In F p2 0 6).bind fun r1 => ((spec_l25Code F p0 p1 r1).bind fun r3 => (bif (r3 != 0) then some (([] : List Int), 0, r3) else ((spec_l25Words F p0 p2).bind fun r7 => (Option.bind (spec_l25Best_L1 F p0 p1 p3 r7 F 0 0 ([] : List Int)) fun r153 => match r153 with | .inl x_ => some x_ | .inr (x146, xs147) => some (xs147, x146, 0))))))

def spec_HighestWord (F : Nat) (p0_modes : List (List (List Int))) (p1_x : List Int) (p2_n : Int) : Option (List Int × Int × Int) :=
  ((spec_l25Best F p0_modes p1_x p2_n true).bind fun r1 => some (r1.1, r1.2.1, r1.2.2))

def impl_within (_F : Nat) (p0_n : Int) (p1_low : Int) (p2_high : Int) : Option (Bool) :=
  (Option.bind ((bif (decide (p1_low ≤ p0_n)) then some (decide (p0_n ≤ p2_high)) else some false) : Option (Bool)) fun b2 => some b2)

def slices_IndexFunc_int64_L1 (F : Nat) (p0_s : List Int) (m_p1_f : Int → Option Bool) : Nat → Int → Option (Sum Int (Unit))
  | 0, _ => none
  | n24 + 1, x14 => (bif (decide (x14 < (p0_s.length : Int))) then ((idx p0_s x14).bind fun q26 => ((m_p1_f q26).bind fun r28 => (bif r28 then some (Sum.inl x14) else (slices_IndexFunc_int64_L1 F p0_s m_p1_f n24 (IntKind.i64.wrap (x14 + 1)))))) else some (Sum.inr ()))

def slices_IndexFunc_int64 (F : Nat) (p0_s : List Int) (m_p1_f : Int → Option Bool) : Option (Int) :=
  (Option.bind (slices_IndexFunc_int64_L1 F p0_s m_p1_f F 0) fun r21 => match r21 with | .inl x_ => some x_ | .inr _ => some (-1))

def slices_ContainsFunc_int64 (F : Nat) (p0_s : List Int) (m_p1_f : Int → Option Bool) : Option (Bool) :=
  ((slices_IndexFunc_int64 F p0_s m_p1_f).bind fun r1 => some (decide (0 ≤ r1)))

def impl_isFinite (F : Nat) (p0_n : Int) : Option (Bool) :=
  ((impl_within F p0_n (-1000000) 1000000).bind fun r1 => some r1)

def impl_IsValue (F : Nat) (p0_a : Int) : Option (Bool) :=
  (Option.bind ((bif (p0_a == (-1000000000000000)) then some true else ((impl_isFinite F p0_a).bind fun r8 => some r8)) : Option (Bool)) fun b4 => some b4)

def impl_areValues_c1 (F : Nat) (p0_n : Int) : Option (Bool) :=
  ((impl_IsValue F p0_n).bind fun r1 => some (!r1))

def impl_areValues (F : Nat) (p0_list : List Int) : Option (Bool) :=
  ((slices_ContainsFunc_int64 F p0_list (fun x0 => impl_areValues_c1 F x0)).bind fun r1 => some (!r1))

def impl_IsMatrix_c1 (F : Nat) (p0_row : List Int) (z0 : List (List Int)) : Option (Bool) :=
  (Option.bind (((idx z0 0).bind fun q16 => (bif ((p0_row.length : Int) != (q16.length : Int)) then some true else ((impl_areValues F p0_row).bind fun r26 => some (!r26)))) : Option (Bool)) fun b13 => some b13)

def slices_IndexFunc_sint64_L1 (F : Nat) (p0_s : List (List Int)) (m_p1_f : (List Int) → Option Bool) : Nat → Int → Option (Sum Int (Unit))
  | 0, _ => none
  | n45 + 1, x28 => (bif (decide (x28 < (p0_s.length : Int))) then ((idx p0_s x28).bind fun q47 => ((m_p1_f q47).bind fun r56 => (bif r56 then some (Sum.inl x28) else (slices_IndexFunc_sint64_L1 F p0_s m_p1_f n45 (IntKind.i64.wrap (x28 + 1)))))) else some (Sum.inr ()))

def slices_IndexFunc_sint64 (F : Nat) (p0_s : List (List Int)) (m_p1_f : (List Int) → Option Bool) : Option (Int) :=
  (Option.bind (slices_IndexFunc_sint64_L1 F p0_s m_p1_f F 0) fun r42 => match r42 with | .inl x_ => some x_ | .inr _ => some (-1))

def slices_ContainsFunc_sint64 (F : Nat) (p0_s : List (List Int)) (m_p1_f : (List Int) → Option Bool) : Option (Bool) :=
  ((slices_IndexFunc_sint64 F p0_s m_p1_f).bind fun r1 => some (decide (0 ≤ r1)))

def impl_IsMatrix (F : Nat) (p0_a : List (List Int)) : Option (Bool) :=
  (Option.bind (((impl_within F (p0_a.length : Int) 1 10).bind fun r19 => (bif (!r19) then some true else ((idx p0_a 0).bind fun q22 => ((impl_within F (q22.length : Int) 1 10).bind fun r31 => some (!r31))))) : Option (Bool)) fun b16 => (bif b16 then some false else ((slices_ContainsFunc_sint64 F p0_a (fun x0 => impl_IsMatrix_c1 F x0 p0_a)).bind fun r34 => some (!r34))))

def impl_isSquare (F : Nat) (p0_a : List (List Int)) : Option (Bool) :=
  (Option.bind (((impl_IsMatrix F p0_a).bind fun r16 => (bif r16 then ((idx p0_a 0).bind fun q19 => some ((p0_a.length : Int) == (q19.length : Int))) else some false)) : Option (Bool)) fun b13 => some b13)

def impl_AreModes_c1 (F : Nat) (p0_a : List (List Int)) (z0 : List (List (List Int))) : Option (Bool) :=
  (Option.bind (((impl_isSquare F p0_a).bind fun r16 => (bif (!r16) then some true else ((idx z0 0).bind fun q19 => some ((p0_a.length : Int) != (q19.length : Int))))) : Option (Bool)) fun b13 => some b13)

def slices_IndexFunc_ssint64_L1 (F : Nat) (p0_s : List (List (List Int))) (m_p1_f : (List (List Int)) → Option Bool) : Nat → Int → Option (Sum Int (Unit))
  | 0, _ => none
  | n45 + 1, x28 => (bif (decide (x28 < (p0_s.length : Int))) then ((idx p0_s x28).bind fun q47 => ((m_p1_f q47).bind fun r56 => (bif r56 then some (Sum.inl x28) else (slices_IndexFunc_ssint64_L1 F p0_s m_p1_f n45 (IntKind.i64.wrap (x28 + 1)))))) else some (Sum.inr ()))

def slices_IndexFunc_ssint64 (F : Nat) (p0_s : List (List (List Int))) (m_p1_f : (List (List Int)) → Option Bool) : Option (Int) :=
  (Option.bind (slices_IndexFunc_ssint64_L1 F p0_s m_p1_f F 0) fun r42 => match r42 with | .inl x_ => some x_ | .inr _ => some (-1))

def slices_ContainsFunc_ssint64 (F : Nat) (p0_s : List (List (List Int))) (m_p1_f : (List (List Int)) → Option Bool) : Option (Bool) :=
  ((slices_IndexFunc_ssint64 F p0_s m_p1_f).bind fun r1 => some (decide (0 ≤ r1)))

def impl_AreModes (F : Nat) (p0_modes : List (List (List Int))) : Option (Bool) :=
  (Option.bind (((impl_within F (p0_modes.length : Int) 1 4).bind fun r10 => (bif r10 then ((slices_ContainsFunc_ssint64 F p0_modes (fun x0 => impl_AreModes_c1 F x0 p0_modes)).bind fun r13 => some (!r13)) else some false)) : Option (Bool)) fun b7 => some b7)

def impl_isVector (F : Nat) (p0_x : List Int) : Option (Bool) :=
  (Option.bind (((impl_within F (p0_x.length : Int) 1 10).bind fun r9 => (bif r9 then ((impl_areValues F p0_x).bind fun r12 => some r12) else some false)) : Option (Bool)) fun b6 => some b6)

def impl_checkModes (F : Nat) (p0_modes : List (List (List Int))) (p1_x : List Int) : Option (Int) :=
  (Option.bind (((impl_AreModes F p0_modes).bind fun r9 => (bif (!r9) then some true else ((impl_isVector F p1_x).bind fun r12 => some (!r12)))) : Option (Bool)) fun b6 => (bif b6 then some 1 else ((idx p0_modes 0).bind fun q15 => (bif ((p1_x.length : Int) != (q15.length : Int)) then some 5 else some 0))))

def impl_sumOf_L1 (F : Nat) (p0_list : List Int) : Nat → Int → Int → Option (Int)
  | 0, _, _ => none
  | n18 + 1, x9, x10 => (bif (decide (x10 < (p0_list.length : Int))) then ((idx p0_list x10).bind fun q20 => (impl_sumOf_L1 F p0_list n18 (max x9 q20) (IntKind.i64.wrap (x10 + 1)))) else some x9)

def impl_sumOf (F : Nat) (p0_list : List Int) : Option (Int) :=
  (Option.bind (impl_sumOf_L1 F p0_list F (-1000000000000000) 0) fun x14 => some x14)

def slices_Clone_int64 (_F : Nat) (p0_s : List Int) : Option (List Int) :=
  ((app ([] : List Int) p0_s).bind fun xs5 => some xs5)

def impl_times (_F : Nat) (p0_a : Int) (p1_b : Int) : Option (Int) :=
  (Option.bind ((bif (p0_a == (-1000000000000000)) then some true else some (p1_b == (-1000000000000000))) : Option (Bool)) fun b2 => (bif b2 then some (-1000000000000000) else some (IntKind.i64.wrap (p0_a + p1_b))))

def impl_timesVector_L5 (F : Nat) (p1_x : List Int) (x245 : Int) (q371 : List Int) : Nat → (List Int) → Int → Option (List Int)
  | 0, _, _ => none
  | n464 + 1, xs433, x435 => (bif (decide (x435 < (q371.length : Int))) then ((idx q371 x435).bind fun q466 => ((idx xs433 x245).bind fun q478 => ((idx p1_x x435).bind fun q480 => ((impl_times F q466 q480).bind fun r482 => ((idx xs433 x245).bind fun _q484 => ((upd xs433 x245 (max q478 r482)).bind fun xs486 => (impl_timesVector_L5 F p1_x x245 q371 n464 xs486 (IntKind.i64.wrap (x435 + 1))))))))) else some xs433)

def impl_timesVector_L4 (F : Nat) (p0_a : List (List Int)) (p1_x : List Int) : Nat → (List Int) → Int → Option (List Int)
  | 0, _, _ => none
  | n369 + 1, xs243, x245 => (bif (decide (x245 < (p0_a.length : Int))) then ((idx p0_a x245).bind fun q371 => ((idx xs243 x245).bind fun _q380 => ((upd xs243 x245 (-1000000000000000)).bind fun xs382 => (Option.bind (impl_timesVector_L5 F p1_x x245 q371 F xs382 0) fun xs459 => (impl_timesVector_L4 F p0_a p1_x n369 xs459 (IntKind.i64.wrap (x245 + 1))))))) else some xs243)

def impl_timesVector (F : Nat) (p0_a : List (List Int)) (p1_x : List Int) : Option (List Int) :=
  ((mk (p0_a.length : Int) (0 : Int)).bind fun xs3 => (Option.bind (impl_timesVector_L4 F p0_a p1_x F xs3 0) fun xs364 => some xs364))

def impl_wordSearch_goOn_L1 (F : Nat) (p0_modes : List (List (List Int))) (p1 : List Int) (p2 : Int) (rec_ : (List (List (List Int))) → Int → (List Int) → (List Int) → Int → Bool → (List Int) → Int → Option ((Bool) × Int × (List Int) × (List Int) × Int × Bool)) : Nat → Int → (List Int) → (List Int) → Int → Bool → Int → Option (Sum ((Bool) × Int × (List Int) × (List Int) × Int × Bool) (Int × (List Int) × (List Int) × Int × Bool))
  | 0, _, _, _, _, _, _ => none
  | n190 + 1, x122, xs123, xs128, x133, b134, x135 => (bif (decide (x135 < (p0_modes.length : Int))) then ((idx p0_modes x135).bind fun q192 => ((impl_timesVector F q192 p1).bind fun r201 => ((impl_areValues F r201).bind fun r207 => (bif (!r207) then some (Sum.inl (false, x122, xs123, xs128, x133, b134)) else ((app xs123 ([x135])).bind fun xs214 => ((rec_ p0_modes x122 xs214 xs128 x133 b134 r201 (IntKind.i64.wrap (p2 - 1))).bind fun r216 => (bif (!r216.1) then some (Sum.inl (false, r216.2.1, r216.2.2.1, r216.2.2.2.1, r216.2.2.2.2.1, r216.2.2.2.2.2)) else ((cutTo r216.2.2.1 (IntKind.i64.wrap ((r216.2.2.1.length : Int) - 1))).bind fun xs228 => (impl_wordSearch_goOn_L1 F p0_modes p1 p2 rec_ n190 r216.2.1 xs228 r216.2.2.2.1 r216.2.2.2.2.1 r216.2.2.2.2.2 (IntKind.i64.wrap (x135 + 1))))))))))) else some (Sum.inr (x122, xs123, xs128, x133, b134)))

def impl_wordSearch_goOn_rec (F : Nat) : Nat → (List (List (List Int))) → Int → (List Int) → (List Int) → Int → Bool → (List Int) → Int → Option ((Bool) × Int × (List Int) × (List Int) × Int × Bool)
  | 0, _, _, _, _, _, _, _, _ => none
  | k_ + 1, p0_modes, p0_sign, p0_word, p0_best, p0_height, p0_found, p1, p2 => (bif (p2 == 0) then ((impl_sumOf F p1).bind fun r2 => (Option.bind ((bif (!p0_found) then some true else some (decide ((IntKind.i64.wrap (p0_sign * p0_height)) < (IntKind.i64.wrap (p0_sign * r2))))) : Option (Bool)) fun b5 => (Option.bind ((bif b5 then ((slices_Clone_int64 F p0_word).bind fun r26 => some (r26, r2, true)) else some (p0_best, p0_height, p0_found)) : Option ((List Int) × Int × Bool)) fun (xs16, x21, b22) => some (true, p0_sign, p0_word, xs16, x21, b22)))) else (Option.bind (impl_wordSearch_goOn_L1 F p0_modes p1 p2 (impl_wordSearch_goOn_rec F k_) F p0_sign p0_word p0_best p0_height p0_found 0) fun r187 => match r187 with | .inl x_ => some x_ | .inr (x174, xs175, xs180, x185, b186) => some (true, x174, xs175, xs180, x185, b186)))

def impl_wordSearch_goOn (F : Nat) (p0_modes : List (List (List Int))) (p0_sign : Int) (p0_word : List Int) (p0_best : List Int) (p0_height : Int) (p0_found : Bool) (p1 : List Int) (p2 : Int) : Option ((Bool) × Int × (List Int) × (List Int) × Int × Bool) := impl_wordSearch_goOn_rec F F p0_modes p0_sign p0_word p0_best p0_height p0_found p1 p2

def impl_bestWord (F : Nat) (p0_modes : List (List (List Int))) (p1_x : List Int) (p2_n : Int) (p3_sign : Int) : Option (List Int × Int × Int) :=
  ((impl_checkModes F p0_modes p1_x).bind fun r1 => (bif (r1 != 0) then some (([] : List Int), 0, r1) else ((impl_within F p2_n 0 6).bind fun r5 => (bif (!r5) then some (([] : List Int), 0, 2) else ((impl_wordSearch_goOn F p0_modes p3_sign ([] : List Int) ([] : List Int) 0 false p1_x p2_n).bind fun r12 => (bif (!r12.1) then some (([] : List Int), 0, 3) else some (r12.2.2.2.1, r12.2.2.2.2.1, 0)))))))

def impl_HighestWord (F : Nat) (p0_modes : List (List (List Int))) (p1_x : List Int) (p2_n : Int) : Option (List Int × Int × Int) :=
  ((impl_bestWord F p0_modes p1_x p2_n 1).bind fun r1 => some (r1.1, r1.2.1, r1.2.2))

def laws_eqInt64S_L1 (F : Nat) (p0_a : List Int) (p1_b : List Int) : Nat → Int → Option (Sum Bool (Unit))
  | 0, _ => none
  | n25 + 1, x15 => (bif (decide (x15 < (p0_a.length : Int))) then ((idx p0_a x15).bind fun q27 => ((idx p1_b x15).bind fun q29 => (bif (q27 != q29) then some (Sum.inl false) else (laws_eqInt64S_L1 F p0_a p1_b n25 (IntKind.i64.wrap (x15 + 1)))))) else some (Sum.inr ()))

def laws_eqInt64S (F : Nat) (p0_a : List Int) (p1_b : List Int) : Option (Bool) :=
  (bif ((p0_a.length : Int) != (p1_b.length : Int)) then some false else (Option.bind (laws_eqInt64S_L1 F p0_a p1_b F 0) fun r22 => match r22 with | .inl x_ => some x_ | .inr _ => some true))

def laws_eqInt64SS_L1 (F : Nat) (p0_a : List (List Int)) (p1_b : List (List Int)) : Nat → Int → Option (Sum Bool (Unit))
  | 0, _ => none
  | n73 + 1, x47 => (bif (decide (x47 < (p0_a.length : Int))) then ((idx p0_a x47).bind fun q75 => ((idx p1_b x47).bind fun q84 => ((laws_eqInt64S F q75 q84).bind fun r93 => (bif (!r93) then some (Sum.inl false) else (laws_eqInt64SS_L1 F p0_a p1_b n73 (IntKind.i64.wrap (x47 + 1))))))) else some (Sum.inr ()))

def laws_eqInt64SS (F : Nat) (p0_a : List (List Int)) (p1_b : List (List Int)) : Option (Bool) :=
  (bif ((p0_a.length : Int) != (p1_b.length : Int)) then some false else (Option.bind (laws_eqInt64SS_L1 F p0_a p1_b F 0) fun r70 => match r70 with | .inl x_ => some x_ | .inr _ => some true))

def laws_eqInt64SSS_L1 (F : Nat) (p0_a : List (List (List Int))) (p1_b : List (List (List Int))) : Nat → Int → Option (Sum Bool (Unit))
  | 0, _ => none
  | n73 + 1, x47 => (bif (decide (x47 < (p0_a.length : Int))) then ((idx p0_a x47).bind fun q75 => ((idx p1_b x47).bind fun q84 => ((laws_eqInt64SS F q75 q84).bind fun r93 => (bif (!r93) then some (Sum.inl false) else (laws_eqInt64SSS_L1 F p0_a p1_b n73 (IntKind.i64.wrap (x47 + 1))))))) else some (Sum.inr ()))

def laws_eqInt64SSS (F : Nat) (p0_a : List (List (List Int))) (p1_b : List (List (List Int))) : Option (Bool) :=
  (bif ((p0_a.length : Int) != (p1_b.length : Int)) then some false else (Option.bind (laws_eqInt64SSS_L1 F p0_a p1_b F 0) fun r70 => match r70 with | .inl x_ => some x_ | .inr _ => some true))

def laws_markInt64S_L1 (F : Nat) : Nat → (List Int) → Int → Int → Option ((List Int) × Int)
  | 0, _, _, _ => none
  | n30 + 1, xs15, x17, x18 => (bif (decide (x18 < (xs15.length : Int))) then ((idx xs15 x18).bind fun _q32 => ((upd xs15 x18 x17).bind fun xs34 => (laws_markInt64S_L1 F n30 xs34 (IntKind.i64.wrap (x17 + 1)) (IntKind.i64.wrap (x18 + 1))))) else some (xs15, x17))

def laws_markInt64S (F : Nat) (p0_a : List Int) (p1_k : Int) : Option ((Int) × List Int) :=
  (Option.bind (laws_markInt64S_L1 F F p0_a p1_k 0) fun (xs24, x26) => some (x26, xs24))

def laws_markInt64SS_L1 (F : Nat) : Nat → (List (List Int)) → Int → Int → Option ((List (List Int)) × Int)
  | 0, _, _, _ => none
  | n48 + 1, ms27, x29, x30 => (bif (decide (x30 < (ms27.length : Int))) then ((idx ms27 x30).bind fun q50 => ((laws_markInt64S F q50 x29).bind fun r55 => ((upd ms27 x30 r55.2).bind fun ms59 => (laws_markInt64SS_L1 F n48 ms59 r55.1 (IntKind.i64.wrap (x30 + 1)))))) else some (ms27, x29))

def laws_markInt64SS (F : Nat) (p0_a : List (List Int)) (p1_k : Int) : Option ((Int) × List (List Int)) :=
  (Option.bind (laws_markInt64SS_L1 F F p0_a p1_k 0) fun (ms42, x44) => some (x44, ms42))

def laws_markInt64SSS_L1 (F : Nat) : Nat → (List (List (List Int))) → Int → Int → Option ((List (List (List Int))) × Int)
  | 0, _, _, _ => none
  | n57 + 1, ms32, x35, x36 => (bif (decide (x36 < (ms32.length : Int))) then ((idx ms32 x36).bind fun q59 => ((laws_markInt64SS F q59 x35).bind fun r65 => ((upd ms32 x36 r65.2).bind fun ms69 => (laws_markInt64SSS_L1 F n57 ms69 r65.1 (IntKind.i64.wrap (x36 + 1)))))) else some (ms32, x35))

def laws_markInt64SSS (F : Nat) (p0_a : List (List (List Int))) (p1_k : Int) : Option ((Int) × List (List (List Int))) :=
  (Option.bind (laws_markInt64SSS_L1 F F p0_a p1_k 0) fun (ms50, x53) => some (x53, ms50))

def laws_heldInt64S_L1 (F : Nat) (p0_a : List Int) : Nat → Int → Int → Option (Sum Int (Int))
  | 0, _, _ => none
  | n21 + 1, x11, x12 => (bif (decide (x12 < (p0_a.length : Int))) then ((idx p0_a x12).bind fun q23 => (bif (q23 != x11) then some (Sum.inl (-1)) else (laws_heldInt64S_L1 F p0_a n21 (IntKind.i64.wrap (x11 + 1)) (IntKind.i64.wrap (x12 + 1))))) else some (Sum.inr x11))

def laws_heldInt64S (F : Nat) (p0_a : List Int) (p1_k : Int) : Option (Int) :=
  (Option.bind (laws_heldInt64S_L1 F p0_a F p1_k 0) fun r18 => match r18 with | .inl x_ => some x_ | .inr x17 => some x17)

def laws_FnExactHighestWord (F : Nat) (p0 : List (List (List Int))) (p1 : List Int) (p2 : Int) : Option (Bool) :=
  (bif (decide (1048576 < (p1.length : Int))) then some true else ((laws_szInt64SSS F p0 1048576).bind fun r2 => (bif (decide (r2 < 0)) then some true else ((laws_toInt64SSS F p0).bind fun r5 => ((laws_toInt64S F p1).bind fun r12 => ((spec_HighestWord F r5 r12 p2).bind fun r18 => ((laws_toInt64SSS F p0).bind fun r24 => ((laws_toInt64S F p1).bind fun r31 => ((impl_HighestWord F r24 r31 p2).bind fun r37 => (Option.bind (((laws_eqInt64S F r37.1 r18.1).bind fun r50 => (bif (!r50) then some true else (bif (r37.2.1 != r18.2.1) then some true else some (r37.2.2 != r18.2.2)))) : Option (Bool)) fun b47 => (bif b47 then some false else ((laws_toInt64SSS F p0).bind fun r55 => ((laws_eqInt64SSS F r24 r55).bind fun r62 => (bif (!r62) then some false else ((laws_toInt64S F p1).bind fun r65 => ((laws_eqInt64S F r31 r65).bind fun r71 => (bif (!r71) then some false else ((laws_markInt64SSS F r24 1).bind fun r74 => ((laws_markInt64S F r31 r74.1).bind fun r78 => (Option.bind ((bif (decide (r78.1 < 0)) then some true else ((laws_eqInt64S F r37.1 r18.1).bind fun r90 => (bif (!r90) then some true else (bif (r37.2.1 != r18.2.1) then some true else some (r37.2.2 != r18.2.2))))) : Option (Bool)) fun b86 => (bif b86 then some false else ((laws_markInt64S F r37.1 1).bind fun r95 => ((laws_heldInt64S F r95.2 1).bind fun r98 => (bif (decide (r98 < 0)) then some false else (bif (r98 != r95.1) then some false else ((laws_toInt64SSS F p0).bind fun r102 => ((laws_toInt64S F p1).bind fun r109 => ((impl_HighestWord F r102 r109 p2).bind fun r115 => (Option.bind (((laws_eqInt64S F r115.1 r18.1).bind fun r128 => (bif (!r128) then some true else (bif (r115.2.1 != r18.2.1) then some true else some (r115.2.2 != r18.2.2)))) : Option (Bool)) fun b125 => (bif b125 then some false else ((laws_heldInt64S F r95.2 1).bind fun r133 => (bif (decide (r133 < 0)) then some false else (bif (r133 != r95.1) then some false else some true)))))))))))))))))))))))))))))))))

end Go.Proofs.Ytebmlphobgaboaa
