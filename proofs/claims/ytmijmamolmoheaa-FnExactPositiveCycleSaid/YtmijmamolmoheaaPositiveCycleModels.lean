/- Plain models of the functions. -/
import Derived.Test.YtmijmamolmoheaaLiftT
namespace Go.Proofs.Ytmijmamolmoheaa


def laws_szInt64S (_F : Nat) (p0_a : List Int) (p1_left : Int) : Option (Int) :=
  (bif (decide ((IntKind.i64.wrap (p1_left - (p0_a.length : Int))) < 0)) then some (-1) else some (IntKind.i64.wrap (p1_left - (p0_a.length : Int))))

def laws_szInt64SS_L1 (F : Nat) (p0_a : List (List Int)) : Nat → Int → Int → Option (Sum Int (Int))
  | 0, _, _ => none
  | n49 + 1, x30, x31 => (bif (decide (x31 < (p0_a.length : Int))) then ((idx p0_a x31).bind fun q51 => ((laws_szInt64S F q51 x30).bind fun r60 => (bif (decide (r60 < 0)) then some (Sum.inl (-1)) else (laws_szInt64SS_L1 F p0_a n49 r60 (IntKind.i64.wrap (x31 + 1)))))) else some (Sum.inr x30))

def laws_szInt64SS (F : Nat) (p0_a : List (List Int)) (p1_left : Int) : Option (Int) :=
  (bif (decide ((IntKind.i64.wrap (p1_left - (p0_a.length : Int))) < 0)) then some (-1) else (Option.bind (laws_szInt64SS_L1 F p0_a F (IntKind.i64.wrap (p1_left - (p0_a.length : Int))) 0) fun r46 => match r46 with | .inl x_ => some x_ | .inr x45 => some x45))

def laws_toInt64S_L1 (F : Nat) (p0_a : List Int) : Nat → (List Int) → Int → Option (List Int)
  | 0, _, _ => none
  | n36 + 1, xs21, x23 => (bif (decide (x23 < (p0_a.length : Int))) then ((idx p0_a x23).bind fun q38 => ((idx xs21 x23).bind fun _q40 => ((upd xs21 x23 q38).bind fun xs42 => (laws_toInt64S_L1 F p0_a n36 xs42 (IntKind.i64.wrap (x23 + 1)))))) else some xs21)

def laws_toInt64S (F : Nat) (p0_a : List Int) : Option (List Int) :=
  ((mk (p0_a.length : Int) (0 : Int)).bind fun xs3 => (Option.bind (laws_toInt64S_L1 F p0_a F xs3 0) fun xs31 => some xs31))

def laws_toInt64SS_L1 (F : Nat) (p0_a : List (List Int)) : Nat → (List (List Int)) → Int → Option (List (List Int))
  | 0, _, _ => none
  | n100 + 1, ms60, x66 => (bif (decide (x66 < (p0_a.length : Int))) then ((idx p0_a x66).bind fun q102 => ((laws_toInt64S F q102).bind fun r111 => ((idx ms60 x66).bind fun _q117 => ((upd ms60 x66 r111).bind fun ms122 => (laws_toInt64SS_L1 F p0_a n100 ms122 (IntKind.i64.wrap (x66 + 1))))))) else some ms60)

def laws_toInt64SS (F : Nat) (p0_a : List (List Int)) : Option (List (List Int)) :=
  ((mk (p0_a.length : Int) ([] : List Int)).bind fun ms3 => (Option.bind (laws_toInt64SS_L1 F p0_a F ms3 0) fun ms91 => some ms91))

def spec_l01In (_F : Nat) (p0_n : Int) (p1_low : Int) (p2_high : Int) : Option (Bool) :=
  (Option.bind ((bif (decide (p1_low ≤ p0_n)) then some (decide (p0_n ≤ p2_high)) else some false) : Option (Bool)) fun b2 => some b2)

def spec_l01Finite (F : Nat) (p0_a : Int) : Option (Bool) :=
  ((spec_l01In F p0_a (-1000000) 1000000).bind fun r1 => some r1)

def spec_IsValue (F : Nat) (p0_a : Int) : Option (Bool) :=
  (Option.bind ((bif (p0_a == (-1000000000000000)) then some true else ((spec_l01Finite F p0_a).bind fun r8 => some r8)) : Option (Bool)) fun b4 => some b4)

def spec_l01All_L1 (F : Nat) (p0_list : List Int) (p1_finite : Bool) : Nat → Int → Option (Sum Bool (Unit))
  | 0, _ => none
  | n69 + 1, x44 => (bif (decide (x44 < (p0_list.length : Int))) then (Option.bind (((idx p0_list x44).bind fun q82 => ((spec_IsValue F q82).bind fun r84 => (bif (!r84) then some true else (bif p1_finite then ((idx p0_list x44).bind fun q88 => some (q88 == (-1000000000000000))) else some false)))) : Option (Bool)) fun b79 => (bif b79 then some (Sum.inl false) else (spec_l01All_L1 F p0_list p1_finite n69 (IntKind.i64.wrap (x44 + 1))))) else some (Sum.inr ()))

def spec_l01All (F : Nat) (p0_list : List Int) (p1_finite : Bool) : Option (Bool) :=
  (Option.bind (spec_l01All_L1 F p0_list p1_finite F 0) fun r66 => match r66 with | .inl x_ => some x_ | .inr _ => some true)

def spec_l02Vector (F : Nat) (p0_x : List Int) : Option (Bool) :=
  (Option.bind (((spec_l01In F (p0_x.length : Int) 1 10).bind fun r9 => (bif r9 then ((spec_l01All F p0_x false).bind fun r12 => some r12) else some false)) : Option (Bool)) fun b6 => some b6)

def spec_IsMatrix_L1 (F : Nat) (p0_a : List (List Int)) : Nat → Int → Option (Sum Bool (Unit))
  | 0, _ => none
  | n207 + 1, x138 => (bif (decide (x138 < (p0_a.length : Int))) then (Option.bind (((idx p0_a x138).bind fun q242 => ((spec_l02Vector F q242).bind fun r251 => (bif (!r251) then some true else ((idx p0_a x138).bind fun q254 => ((idx p0_a 0).bind fun q263 => some ((q254.length : Int) != (q263.length : Int))))))) : Option (Bool)) fun b239 => (bif b239 then some (Sum.inl false) else (spec_IsMatrix_L1 F p0_a n207 (IntKind.i64.wrap (x138 + 1))))) else some (Sum.inr ()))

def spec_IsMatrix (F : Nat) (p0_a : List (List Int)) : Option (Bool) :=
  (Option.bind ((bif (decide ((p0_a.length : Int) < 1)) then some true else some (decide (10 < (p0_a.length : Int)))) : Option (Bool)) fun b2 => (bif b2 then some false else (Option.bind (spec_IsMatrix_L1 F p0_a F 0) fun r204 => match r204 with | .inl x_ => some x_ | .inr _ => some true)))

def spec_l02Square (F : Nat) (p0_a : List (List Int)) : Option (Bool) :=
  (Option.bind (((spec_IsMatrix F p0_a).bind fun r16 => (bif r16 then ((idx p0_a 0).bind fun q19 => some ((p0_a.length : Int) == (q19.length : Int))) else some false)) : Option (Bool)) fun b13 => some b13)

def spec_l01Has_L1 (F : Nat) (p0_list : List Int) (p1_x : Int) : Nat → Int → Option (Sum Bool (Unit))
  | 0, _ => none
  | n18 + 1, x10 => (bif (decide (x10 < (p0_list.length : Int))) then ((idx p0_list x10).bind fun q20 => (bif (q20 == p1_x) then some (Sum.inl true) else (spec_l01Has_L1 F p0_list p1_x n18 (IntKind.i64.wrap (x10 + 1))))) else some (Sum.inr ()))

def spec_l01Has (F : Nat) (p0_list : List Int) (p1_x : Int) : Option (Bool) :=
  (Option.bind (spec_l01Has_L1 F p0_list p1_x F 0) fun r15 => match r15 with | .inl x_ => some x_ | .inr _ => some false)

def spec_l01Own (_F : Nat) (p0_list : List Int) : Option (List Int) :=
  ((app ([] : List Int) p0_list).bind fun xs5 => some xs5)

def spec_l03Grow_L1 (F : Nat) (p0 : List (List Int)) (p1 : List Int) (p2 : Int) (p3 : Int) (q3 : Int) (rec_ : (List (List Int)) → (List Int) → Int → Int → Option (List Int)) : Nat → Int → Option (Sum (List Int) (Unit))
  | 0, _ => none
  | n1402 + 1, x951 => (bif (decide (x951 < (p0.length : Int))) then (Option.bind ((Option.bind (((idx p0 x951).bind fun q1645 => ((idx q1645 q3).bind fun q1654 => (bif (q1654 == (-1000000000000000)) then some true else ((spec_l01Has F p1 x951).bind fun r1657 => some r1657)))) : Option (Bool)) fun b1642 => (bif b1642 then some (Sum.inr ()) else (Option.bind (((idx p0 x951).bind fun q1792 => ((idx q1792 q3).bind fun q1801 => ((spec_l01Own F p1).bind fun r1803 => ((app r1803 ([x951])).bind fun xs1813 => ((rec_ p0 xs1813 (IntKind.i64.wrap (p2 + q1801)) p3).bind fun r1815 => some r1815))))) : Option (List Int)) fun xs1751 => (bif (decide (0 < (xs1751.length : Int))) then some (Sum.inl xs1751) else some (Sum.inr ()))))) : Option (Sum (List Int) (Unit))) fun r1626 => match r1626 with | .inl x_ => some (Sum.inl x_) | .inr _ => (spec_l03Grow_L1 F p0 p1 p2 p3 q3 rec_ n1402 (IntKind.i64.wrap (x951 + 1)))) else some (Sum.inr ()))

def spec_l03Grow_rec (F : Nat) : Nat → (List (List Int)) → (List Int) → Int → Int → Option (List Int)
  | 0, _, _, _, _ => none
  | k_ + 1, p0, p1, p2, p3 => ((idx p1 0).bind fun q1 => ((idx p1 (IntKind.i64.wrap ((p1.length : Int) - 1))).bind fun q3 => (Option.bind (((idx p0 q1).bind fun q31 => ((idx q31 q3).bind fun q40 => (bif (q40 != (-1000000000000000)) then ((idx p0 q1).bind fun q43 => ((idx q43 q3).bind fun q52 => some (decide (p3 < (IntKind.i64.wrap (p2 + q52)))))) else some false))) : Option (Bool)) fun b28 => (bif b28 then some p1 else (Option.bind (spec_l03Grow_L1 F p0 p1 p2 p3 q3 (spec_l03Grow_rec F k_) F (IntKind.i64.wrap (q1 + 1))) fun r1399 => match r1399 with | .inl x_ => some x_ | .inr _ => some ([] : List Int))))))

def spec_l03Grow (F : Nat) (p0 : List (List Int)) (p1 : List Int) (p2 : Int) (p3 : Int) : Option (List Int) := spec_l03Grow_rec F F p0 p1 p2 p3

def spec_l03Over_L1 (F : Nat) (p0_a : List (List Int)) (p1_over : Int) : Nat → Int → Option (Sum (List Int) (Unit))
  | 0, _ => none
  | n51 + 1, x32 => (bif (decide (x32 < (p0_a.length : Int))) then ((spec_l03Grow F p0_a ([x32]) 0 p1_over).bind fun r55 => (bif (decide (0 < (r55.length : Int))) then some (Sum.inl r55) else (spec_l03Over_L1 F p0_a p1_over n51 (IntKind.i64.wrap (x32 + 1))))) else some (Sum.inr ()))

def spec_l03Over (F : Nat) (p0_a : List (List Int)) (p1_over : Int) : Option (List Int) :=
  (Option.bind (spec_l03Over_L1 F p0_a p1_over F 0) fun r48 => match r48 with | .inl x_ => some x_ | .inr _ => some ([] : List Int))

def spec_PositiveCycle (F : Nat) (p0_a : List (List Int)) : Option (List Int × Int) :=
  ((spec_l02Square F p0_a).bind fun r1 => (bif (!r1) then some (([] : List Int), 1) else ((spec_l03Over F p0_a 0).bind fun r5 => (bif ((r5.length : Int) == 0) then some (([] : List Int), 4) else some (r5, 0)))))

def impl_within (_F : Nat) (p0_n : Int) (p1_low : Int) (p2_high : Int) : Option (Bool) :=
  (Option.bind ((bif (decide (p1_low ≤ p0_n)) then some (decide (p0_n ≤ p2_high)) else some false) : Option (Bool)) fun b2 => some b2)

def slices_IndexFunc_int64_L1 (F : Nat) (p0_s : List Int) (m_p1_f : Int → Option Bool) : Nat → Int → Option (Sum Int (Unit))
  | 0, _ => none
  | n24 + 1, x14 => (bif (decide (x14 < (p0_s.length : Int))) then ((idx p0_s x14).bind fun q26 => ((m_p1_f q26).bind fun r28 => (bif r28 then some (Sum.inl x14) else (slices_IndexFunc_int64_L1 F p0_s m_p1_f n24 (IntKind.i64.wrap (x14 + 1)))))) else some (Sum.inr ()))

def slices_IndexFunc_int64 (F : Nat) (p0_s : List Int) (m_p1_f : Int → Option Bool) : Option (Int) :=
  (Option.bind (slices_IndexFunc_int64_L1 F p0_s m_p1_f F 0) fun r21 => match r21 with | .inl x_ => some x_ | .inr _ => some (-1))

def slices_ContainsFunc_int64 (F : Nat) (p0_s : List Int) (m_p1_f : Int → Option Bool) : Option (Bool) :=
  ((slices_IndexFunc_int64 F p0_s m_p1_f).bind fun r1 => some (decide (0 ≤ r1)))

def impl_isFinite (F : Nat) (p0_n : Int) : Option (Bool) :=
  ((impl_within F p0_n (-1000000) 1000000).bind fun r1 => some r1)

def impl_IsValue (F : Nat) (p0_a : Int) : Option (Bool) :=
  (Option.bind ((bif (p0_a == (-1000000000000000)) then some true else ((impl_isFinite F p0_a).bind fun r8 => some r8)) : Option (Bool)) fun b4 => some b4)

def impl_areValues_c1 (F : Nat) (p0_n : Int) : Option (Bool) :=
  ((impl_IsValue F p0_n).bind fun r1 => some (!r1))

def impl_areValues (F : Nat) (p0_list : List Int) : Option (Bool) :=
  ((slices_ContainsFunc_int64 F p0_list (fun x0 => impl_areValues_c1 F x0)).bind fun r1 => some (!r1))

def impl_IsMatrix_c1 (F : Nat) (p0_row : List Int) (z0 : List (List Int)) : Option (Bool) :=
  (Option.bind (((idx z0 0).bind fun q16 => (bif ((p0_row.length : Int) != (q16.length : Int)) then some true else ((impl_areValues F p0_row).bind fun r26 => some (!r26)))) : Option (Bool)) fun b13 => some b13)

def slices_IndexFunc_sint64_L1 (F : Nat) (p0_s : List (List Int)) (m_p1_f : (List Int) → Option Bool) : Nat → Int → Option (Sum Int (Unit))
  | 0, _ => none
  | n45 + 1, x28 => (bif (decide (x28 < (p0_s.length : Int))) then ((idx p0_s x28).bind fun q47 => ((m_p1_f q47).bind fun r56 => (bif r56 then some (Sum.inl x28) else (slices_IndexFunc_sint64_L1 F p0_s m_p1_f n45 (IntKind.i64.wrap (x28 + 1)))))) else some (Sum.inr ()))

def slices_IndexFunc_sint64 (F : Nat) (p0_s : List (List Int)) (m_p1_f : (List Int) → Option Bool) : Option (Int) :=
  (Option.bind (slices_IndexFunc_sint64_L1 F p0_s m_p1_f F 0) fun r42 => match r42 with | .inl x_ => some x_ | .inr _ => some (-1))

def slices_ContainsFunc_sint64 (F : Nat) (p0_s : List (List Int)) (m_p1_f : (List Int) → Option Bool) : Option (Bool) :=
  ((slices_IndexFunc_sint64 F p0_s m_p1_f).bind fun r1 => some (decide (0 ≤ r1)))

def impl_IsMatrix (F : Nat) (p0_a : List (List Int)) : Option (Bool) :=
  (Option.bind (((impl_within F (p0_a.length : Int) 1 10).bind fun r19 => (bif (!r19) then some true else ((idx p0_a 0).bind fun q22 => ((impl_within F (q22.length : Int) 1 10).bind fun r31 => some (!r31))))) : Option (Bool)) fun b16 => (bif b16 then some false else ((slices_ContainsFunc_sint64 F p0_a (fun x0 => impl_IsMatrix_c1 F x0 p0_a)).bind fun r34 => some (!r34))))

def impl_isSquare (F : Nat) (p0_a : List (List Int)) : Option (Bool) :=
  (Option.bind (((impl_IsMatrix F p0_a).bind fun r16 => (bif r16 then ((idx p0_a 0).bind fun q19 => some ((p0_a.length : Int) == (q19.length : Int))) else some false)) : Option (Bool)) fun b13 => some b13)

def impl_matrixBy_L5 (F : Nat) (m_p2_entry : Int → Int → Option Int) (x324 : Int) (q500 : List Int) : Nat → (List (List Int)) → Int → Option (List (List Int))
  | 0, _, _ => none
  | n609 + 1, ms570, x572 => (bif (decide (x572 < (q500.length : Int))) then ((idx ms570 x324).bind fun q626 => ((m_p2_entry x324 x572).bind fun r631 => ((idx q626 x572).bind fun _q633 => ((upd q626 x572 r631).bind fun xs635 => ((upd ms570 x324 xs635).bind fun ms636 => (impl_matrixBy_L5 F m_p2_entry x324 q500 n609 ms636 (IntKind.i64.wrap (x572 + 1)))))))) else some ms570)

def impl_matrixBy_L4 (F : Nat) (p1_n : Int) (m_p2_entry : Int → Int → Option Int) (ms3 : List (List Int)) : Nat → (List (List Int)) → Int → Option (List (List Int))
  | 0, _, _ => none
  | n487 + 1, ms318, x324 => (bif (decide (x324 < (ms3.length : Int))) then ((mk p1_n (0 : Int)).bind fun xs491 => ((idx ms318 x324).bind fun _q492 => ((upd ms318 x324 xs491).bind fun ms497 => ((idx ms497 x324).bind fun q500 => (Option.bind (impl_matrixBy_L5 F m_p2_entry x324 q500 F ms497 0) fun ms604 => (impl_matrixBy_L4 F p1_n m_p2_entry ms3 n487 ms604 (IntKind.i64.wrap (x324 + 1)))))))) else some ms318)

def impl_matrixBy (F : Nat) (p0_m : Int) (p1_n : Int) (m_p2_entry : Int → Int → Option Int) : Option (List (List Int)) :=
  ((mk p0_m ([] : List Int)).bind fun ms3 => (Option.bind (impl_matrixBy_L4 F p1_n m_p2_entry ms3 F ms3 0) fun ms478 => some ms478))

def impl_unitMatrix_c1 (_F : Nat) (p0_i : Int) (p1_j : Int) : Option (Int) :=
  (bif (p0_i == p1_j) then some 0 else some (-1000000000000000))

def impl_unitMatrix (F : Nat) (p0_n : Int) : Option (List (List Int)) :=
  ((impl_matrixBy F p0_n p0_n (fun x0 x1 => impl_unitMatrix_c1 F x0 x1)).bind fun r1 => some r1)

def impl_addMatrices_c1 (_F : Nat) (p0_i : Int) (p1_j : Int) (z0 : List (List Int)) (z1 : List (List Int)) : Option (Int) :=
  ((idx z0 p0_i).bind fun q1 => ((idx q1 p1_j).bind fun q10 => ((idx z1 p0_i).bind fun q12 => ((idx q12 p1_j).bind fun q21 => some (max q10 q21)))))

def impl_addMatrices (F : Nat) (p0_a : List (List Int)) (p1_b : List (List Int)) : Option (List (List Int)) :=
  ((idx p0_a 0).bind fun q19 => ((impl_matrixBy F (p0_a.length : Int) (q19.length : Int) (fun x0 x1 => impl_addMatrices_c1 F x0 x1 p0_a p1_b)).bind fun r28 => some r28))

def impl_times (_F : Nat) (p0_a : Int) (p1_b : Int) : Option (Int) :=
  (Option.bind ((bif (p0_a == (-1000000000000000)) then some true else some (p1_b == (-1000000000000000))) : Option (Bool)) fun b2 => (bif b2 then some (-1000000000000000) else some (IntKind.i64.wrap (p0_a + p1_b))))

def impl_starOf_L21 (F : Nat) (x2502 : Int) (ms4373 : List (List Int)) (x4375 : Int) : Nat → (List (List Int)) → Int → Option (List (List Int))
  | 0, _, _ => none
  | n4918 + 1, ms4837, x4839 => (bif (decide (x4839 < (ms4373.length : Int))) then ((idx ms4837 x4375).bind fun q4956 => ((idx ms4837 x4375).bind fun q4961 => ((idx q4961 x4839).bind fun q4966 => ((idx ms4837 x4375).bind fun q4968 => ((idx q4968 x2502).bind fun q4973 => ((idx ms4837 x2502).bind fun q4975 => ((idx q4975 x4839).bind fun q4980 => ((impl_times F q4973 q4980).bind fun r4982 => ((idx q4956 x4839).bind fun _q4984 => ((upd q4956 x4839 (max q4966 r4982)).bind fun xs4986 => ((upd ms4837 x4375 xs4986).bind fun ms4987 => (impl_starOf_L21 F x2502 ms4373 x4375 n4918 ms4987 (IntKind.i64.wrap (x4839 + 1)))))))))))))) else some ms4837)

def impl_starOf_L20 (F : Nat) (ms2500 : List (List Int)) (x2502 : Int) : Nat → (List (List Int)) → Int → Option (List (List Int))
  | 0, _, _ => none
  | n4686 + 1, ms4373, x4375 => (bif (decide (x4375 < (ms2500.length : Int))) then (Option.bind (impl_starOf_L21 F x2502 ms4373 x4375 F ms4373 0) fun ms4913 => (impl_starOf_L20 F ms2500 x2502 n4686 ms4913 (IntKind.i64.wrap (x4375 + 1)))) else some ms4373)

def impl_starOf_L16 (F : Nat) (r8 : List (List Int)) : Nat → (List (List Int)) → Int → Option (Sum (List (List Int) × Bool) (List (List Int)))
  | 0, _, _ => none
  | n3749 + 1, ms2500, x2502 => (bif (decide (x2502 < (r8.length : Int))) then ((idx ms2500 x2502).bind fun q3751 => ((idx q3751 x2502).bind fun q3756 => (bif (decide (0 < q3756)) then some (Sum.inl (([] : List (List Int)), false)) else (Option.bind (impl_starOf_L20 F ms2500 x2502 F ms2500 0) fun ms4681 => (impl_starOf_L16 F r8 n3749 ms4681 (IntKind.i64.wrap (x2502 + 1))))))) else some (Sum.inr ms2500))

def impl_starOf_L22 (F : Nat) (ms3744 : List (List Int)) : Nat → Int → Option (Sum (List (List Int) × Bool) (Unit))
  | 0, _ => none
  | n5024 + 1, x5011 => (bif (decide (x5011 < (ms3744.length : Int))) then ((idx ms3744 x5011).bind fun q5026 => ((idx q5026 x5011).bind fun q5031 => (bif (decide (0 < q5031)) then some (Sum.inl (([] : List (List Int)), false)) else (impl_starOf_L22 F ms3744 n5024 (IntKind.i64.wrap (x5011 + 1)))))) else some (Sum.inr ()))

def impl_starOf (F : Nat) (p0 : List (List Int)) : Option (List (List Int) × Bool) :=
  ((impl_unitMatrix F (p0.length : Int)).bind fun r1 => ((impl_addMatrices F p0 r1).bind fun r8 => (Option.bind (impl_starOf_L16 F r8 F r8 0) fun r3746 => match r3746 with | .inl x_ => some x_ | .inr ms3744 => (Option.bind (impl_starOf_L22 F ms3744 F 0) fun r5021 => match r5021 with | .inl x_ => some x_ | .inr _ => some (ms3744, true)))))

def impl_cycleSearch_goOn_L1 (F : Nat) (p0_matrix : List (List Int)) (m_p0_wanted : (List Int) → Int → Option Bool) (p1 : Int) (q3 : Int) (rec_ : (List (List Int)) → ((List Int) → Int → Option Bool) → (List Int) → (List Bool) → Int → Option ((Bool) × (List Int) × (List Bool))) : Nat → (List Int) → (List Bool) → Int → Option (Sum ((Bool) × (List Int) × (List Bool)) ((List Int) × (List Bool)))
  | 0, _, _, _ => none
  | n400 + 1, xs263, xs268, x273 => (bif (decide (x273 < (p0_matrix.length : Int))) then (Option.bind (((idx p0_matrix x273).bind fun q464 => ((idx q464 q3).bind fun q473 => (Option.bind ((bif (q473 == (-1000000000000000)) then some true else ((idx xs268 x273).bind fun q482 => some q482)) : Option (Bool)) fun b478 => (bif b478 then some (Sum.inr (xs263, xs268)) else ((idx xs268 x273).bind fun _q485 => ((upd xs268 x273 true).bind fun xs487 => ((app xs263 ([x273])).bind fun xs493 => ((rec_ p0_matrix m_p0_wanted xs493 xs487 (IntKind.i64.wrap (p1 + q473))).bind fun r495 => (bif r495.1 then some (Sum.inl (true, r495.2.1, r495.2.2)) else ((cutTo r495.2.1 (IntKind.i64.wrap ((r495.2.1.length : Int) - 1))).bind fun xs509 => ((idx r495.2.2 x273).bind fun _q510 => ((upd r495.2.2 x273 false).bind fun xs512 => some (Sum.inr (xs509, xs512)))))))))))))) : Option (Sum ((Bool) × (List Int) × (List Bool)) ((List Int) × (List Bool)))) fun r462 => match r462 with | .inl x_ => some (Sum.inl x_) | .inr (xs452, xs457) => (impl_cycleSearch_goOn_L1 F p0_matrix m_p0_wanted p1 q3 rec_ n400 xs452 xs457 (IntKind.i64.wrap (x273 + 1)))) else some (Sum.inr (xs263, xs268)))

def impl_cycleSearch_goOn_rec (F : Nat) : Nat → (List (List Int)) → ((List Int) → Int → Option Bool) → (List Int) → (List Bool) → Int → Option ((Bool) × (List Int) × (List Bool))
  | 0, _, _, _, _, _ => none
  | k_ + 1, p0_matrix, m_p0_wanted, p0_path, p0_used, p1 => ((idx p0_path 0).bind fun q1 => ((idx p0_path (IntKind.i64.wrap ((p0_path.length : Int) - 1))).bind fun q3 => ((idx p0_matrix q1).bind fun q5 => ((idx q5 q3).bind fun q14 => (Option.bind ((bif (q14 != (-1000000000000000)) then ((m_p0_wanted p0_path (IntKind.i64.wrap (p1 + q14))).bind fun r23 => some r23) else some false) : Option (Bool)) fun b19 => (bif b19 then some (true, p0_path, p0_used) else (Option.bind (impl_cycleSearch_goOn_L1 F p0_matrix m_p0_wanted p1 q3 (impl_cycleSearch_goOn_rec F k_) F p0_path p0_used (IntKind.i64.wrap (q1 + 1))) fun r397 => match r397 with | .inl x_ => some x_ | .inr (xs387, xs392) => some (false, xs387, xs392))))))))

def impl_cycleSearch_goOn (F : Nat) (p0_matrix : List (List Int)) (m_p0_wanted : (List Int) → Int → Option Bool) (p0_path : List Int) (p0_used : List Bool) (p1 : Int) : Option ((Bool) × (List Int) × (List Bool)) := impl_cycleSearch_goOn_rec F F p0_matrix m_p0_wanted p0_path p0_used p1

def impl_firstCycle_L1 (F : Nat) (p0_a : List (List Int)) (m_p1_wanted : (List Int) → Int → Option Bool) : Nat → Int → Option (Sum (List Int) (Unit))
  | 0, _ => none
  | n60 + 1, x38 => (bif (decide (x38 < (p0_a.length : Int))) then ((mk (p0_a.length : Int) (false : Bool)).bind fun xs66 => ((impl_cycleSearch_goOn F p0_a m_p1_wanted ([x38]) xs66 0).bind fun r68 => (bif r68.1 then some (Sum.inl r68.2.1) else (impl_firstCycle_L1 F p0_a m_p1_wanted n60 (IntKind.i64.wrap (x38 + 1)))))) else some (Sum.inr ()))

def impl_firstCycle (F : Nat) (p0_a : List (List Int)) (m_p1_wanted : (List Int) → Int → Option Bool) : Option (List Int) :=
  (Option.bind (impl_firstCycle_L1 F p0_a m_p1_wanted F 0) fun r57 => match r57 with | .inl x_ => some x_ | .inr _ => some ([] : List Int))

def impl_PositiveCycle_c1 (_F : Nat) (_p0 : List Int) (p1_weight : Int) : Option (Bool) :=
  some (decide (0 < p1_weight))

def impl_PositiveCycle (F : Nat) (p0_a : List (List Int)) : Option (List Int × Int) :=
  ((impl_isSquare F p0_a).bind fun r1 => (bif (!r1) then some (([] : List Int), 1) else ((impl_starOf F p0_a).bind fun r5 => (bif r5.2 then some (([] : List Int), 4) else ((impl_firstCycle F p0_a (fun x0 x1 => impl_PositiveCycle_c1 F x0 x1)).bind fun r14 => some (r14, 0))))))

def laws_eqInt64S_L1 (F : Nat) (p0_a : List Int) (p1_b : List Int) : Nat → Int → Option (Sum Bool (Unit))
  | 0, _ => none
  | n25 + 1, x15 => (bif (decide (x15 < (p0_a.length : Int))) then ((idx p0_a x15).bind fun q27 => ((idx p1_b x15).bind fun q29 => (bif (q27 != q29) then some (Sum.inl false) else (laws_eqInt64S_L1 F p0_a p1_b n25 (IntKind.i64.wrap (x15 + 1)))))) else some (Sum.inr ()))

def laws_eqInt64S (F : Nat) (p0_a : List Int) (p1_b : List Int) : Option (Bool) :=
  (bif ((p0_a.length : Int) != (p1_b.length : Int)) then some false else (Option.bind (laws_eqInt64S_L1 F p0_a p1_b F 0) fun r22 => match r22 with | .inl x_ => some x_ | .inr _ => some true))

def laws_eqInt64SS_L1 (F : Nat) (p0_a : List (List Int)) (p1_b : List (List Int)) : Nat → Int → Option (Sum Bool (Unit))
  | 0, _ => none
  | n73 + 1, x47 => (bif (decide (x47 < (p0_a.length : Int))) then ((idx p0_a x47).bind fun q75 => ((idx p1_b x47).bind fun q84 => ((laws_eqInt64S F q75 q84).bind fun r93 => (bif (!r93) then some (Sum.inl false) else (laws_eqInt64SS_L1 F p0_a p1_b n73 (IntKind.i64.wrap (x47 + 1))))))) else some (Sum.inr ()))

def laws_eqInt64SS (F : Nat) (p0_a : List (List Int)) (p1_b : List (List Int)) : Option (Bool) :=
  (bif ((p0_a.length : Int) != (p1_b.length : Int)) then some false else (Option.bind (laws_eqInt64SS_L1 F p0_a p1_b F 0) fun r70 => match r70 with | .inl x_ => some x_ | .inr _ => some true))

def laws_markInt64S_L1 (F : Nat) : Nat → (List Int) → Int → Int → Option ((List Int) × Int)
  | 0, _, _, _ => none
  | n30 + 1, xs15, x17, x18 => (bif (decide (x18 < (xs15.length : Int))) then ((idx xs15 x18).bind fun _q32 => ((upd xs15 x18 x17).bind fun xs34 => (laws_markInt64S_L1 F n30 xs34 (IntKind.i64.wrap (x17 + 1)) (IntKind.i64.wrap (x18 + 1))))) else some (xs15, x17))

def laws_markInt64S (F : Nat) (p0_a : List Int) (p1_k : Int) : Option ((Int) × List Int) :=
  (Option.bind (laws_markInt64S_L1 F F p0_a p1_k 0) fun (xs24, x26) => some (x26, xs24))

def laws_markInt64SS_L1 (F : Nat) : Nat → (List (List Int)) → Int → Int → Option ((List (List Int)) × Int)
  | 0, _, _, _ => none
  | n48 + 1, ms27, x29, x30 => (bif (decide (x30 < (ms27.length : Int))) then ((idx ms27 x30).bind fun q50 => ((laws_markInt64S F q50 x29).bind fun r55 => ((upd ms27 x30 r55.2).bind fun ms59 => (laws_markInt64SS_L1 F n48 ms59 r55.1 (IntKind.i64.wrap (x30 + 1)))))) else some (ms27, x29))

def laws_markInt64SS (F : Nat) (p0_a : List (List Int)) (p1_k : Int) : Option ((Int) × List (List Int)) :=
  (Option.bind (laws_markInt64SS_L1 F F p0_a p1_k 0) fun (ms42, x44) => some (x44, ms42))

def laws_heldInt64S_L1 (F : Nat) (p0_a : List Int) : Nat → Int → Int → Option (Sum Int (Int))
  | 0, _, _ => none
  | n21 + 1, x11, x12 => (bif (decide (x12 < (p0_a.length : Int))) then ((idx p0_a x12).bind fun q23 => (bif (q23 != x11) then some (Sum.inl (-1)) else (laws_heldInt64S_L1 F p0_a n21 (IntKind.i64.wrap (x11 + 1)) (IntKind.i64.wrap (x12 + 1))))) else some (Sum.inr x11))

def laws_heldInt64S (F : Nat) (p0_a : List Int) (p1_k : Int) : Option (Int) :=
  (Option.bind (laws_heldInt64S_L1 F p0_a F p1_k 0) fun r18 => match r18 with | .inl x_ => some x_ | .inr x17 => some x17)

def laws_FnExactPositiveCycle (F : Nat) (p0 : List (List Int)) : Option (Bool) :=
  ((laws_szInt64SS F p0 1048576).bind fun r1 => (bif (decide (r1 < 0)) then some true else ((laws_toInt64SS F p0).bind fun r4 => ((spec_PositiveCycle F r4).bind fun r11 => ((laws_toInt64SS F p0).bind fun r17 => ((impl_PositiveCycle F r17).bind fun r24 => (Option.bind (((laws_eqInt64S F r24.1 r11.1).bind fun r36 => (bif (!r36) then some true else some (r24.2 != r11.2))) : Option (Bool)) fun b33 => (bif b33 then some false else ((laws_toInt64SS F p0).bind fun r40 => ((laws_eqInt64SS F r17 r40).bind fun r47 => (bif (!r47) then some false else ((laws_markInt64SS F r17 1).bind fun r50 => (Option.bind ((bif (decide (r50.1 < 0)) then some true else ((laws_eqInt64S F r24.1 r11.1).bind fun r61 => (bif (!r61) then some true else some (r24.2 != r11.2)))) : Option (Bool)) fun b57 => (bif b57 then some false else ((laws_markInt64S F r24.1 1).bind fun r65 => ((laws_heldInt64S F r65.2 1).bind fun r68 => (bif (decide (r68 < 0)) then some false else (bif (r68 != r65.1) then some false else ((laws_toInt64SS F p0).bind fun r72 => ((impl_PositiveCycle F r72).bind fun r79 => (Option.bind (((laws_eqInt64S F r79.1 r11.1).bind fun r91 => (bif (!r91) then some true else some (r79.2 != r11.2))) : Option (Bool)) fun b88 => (bif b88 then some false else ((laws_heldInt64S F r65.2 1).bind fun r95 => (bif (decide (r95 < 0)) then some false else (bif (r95 != r65.1) then some false else some true)))))))))))))))))))))))))

end Go.Proofs.Ytmijmamolmoheaa
