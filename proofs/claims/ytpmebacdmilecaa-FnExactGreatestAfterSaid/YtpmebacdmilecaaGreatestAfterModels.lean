/- Plain models of the functions. -/
import Derived.Test.YtpmebacdmilecaaLiftR
namespace Go.Proofs.Ytpmebacdmilecaa


def laws_szInt64S (_F : Nat) (p0_a : List Int) (p1_left : Int) : Option (Int) :=
  (bif (decide ((IntKind.i64.wrap (p1_left - (p0_a.length : Int))) < 0)) then some (-1) else some (IntKind.i64.wrap (p1_left - (p0_a.length : Int))))

def laws_szInt64SS_L1 (F : Nat) (p0_a : List (List Int)) : Nat → Int → Int → Option (Sum Int (Int))
  | 0, _, _ => none
  | n49 + 1, x30, x31 => (bif (decide (x31 < (p0_a.length : Int))) then ((idx p0_a x31).bind fun q51 => ((laws_szInt64S F q51 x30).bind fun r60 => (bif (decide (r60 < 0)) then some (Sum.inl (-1)) else (laws_szInt64SS_L1 F p0_a n49 r60 (IntKind.i64.wrap (x31 + 1)))))) else some (Sum.inr x30))

def laws_szInt64SS (F : Nat) (p0_a : List (List Int)) (p1_left : Int) : Option (Int) :=
  (bif (decide ((IntKind.i64.wrap (p1_left - (p0_a.length : Int))) < 0)) then some (-1) else (Option.bind (laws_szInt64SS_L1 F p0_a F (IntKind.i64.wrap (p1_left - (p0_a.length : Int))) 0) fun r46 => match r46 with | .inl x_ => some x_ | .inr x45 => some x45))

def laws_szInt64SSS_L1 (F : Nat) (p0_a : List (List (List Int))) : Nat → Int → Int → Option (Sum Int (Int))
  | 0, _, _ => none
  | n49 + 1, x30, x31 => (bif (decide (x31 < (p0_a.length : Int))) then ((idx p0_a x31).bind fun q51 => ((laws_szInt64SS F q51 x30).bind fun r60 => (bif (decide (r60 < 0)) then some (Sum.inl (-1)) else (laws_szInt64SSS_L1 F p0_a n49 r60 (IntKind.i64.wrap (x31 + 1)))))) else some (Sum.inr x30))

def laws_szInt64SSS (F : Nat) (p0_a : List (List (List Int))) (p1_left : Int) : Option (Int) :=
  (bif (decide ((IntKind.i64.wrap (p1_left - (p0_a.length : Int))) < 0)) then some (-1) else (Option.bind (laws_szInt64SSS_L1 F p0_a F (IntKind.i64.wrap (p1_left - (p0_a.length : Int))) 0) fun r46 => match r46 with | .inl x_ => some x_ | .inr x45 => some x45))

def laws_toInt64S_L1 (F : Nat) (p0_a : List Int) : Nat → (List Int) → Int → Option (List Int)
  | 0, _, _ => none
  | n36 + 1, xs21, x23 => (bif (decide (x23 < (p0_a.length : Int))) then ((idx p0_a x23).bind fun q38 => ((idx xs21 x23).bind fun _q40 => ((upd xs21 x23 q38).bind fun xs42 => (laws_toInt64S_L1 F p0_a n36 xs42 (IntKind.i64.wrap (x23 + 1)))))) else some xs21)

def laws_toInt64S (F : Nat) (p0_a : List Int) : Option (List Int) :=
  ((mk (p0_a.length : Int) (0 : Int)).bind fun xs3 => (Option.bind (laws_toInt64S_L1 F p0_a F xs3 0) fun xs31 => some xs31))

def laws_toInt64SS_L1 (F : Nat) (p0_a : List (List Int)) : Nat → (List (List Int)) → Int → Option (List (List Int))
  | 0, _, _ => none
  | n100 + 1, ms60, x66 => (bif (decide (x66 < (p0_a.length : Int))) then ((idx p0_a x66).bind fun q102 => ((laws_toInt64S F q102).bind fun r111 => ((idx ms60 x66).bind fun _q117 => ((upd ms60 x66 r111).bind fun ms122 => (laws_toInt64SS_L1 F p0_a n100 ms122 (IntKind.i64.wrap (x66 + 1))))))) else some ms60)

def laws_toInt64SS (F : Nat) (p0_a : List (List Int)) : Option (List (List Int)) :=
  ((mk (p0_a.length : Int) ([] : List Int)).bind fun ms3 => (Option.bind (laws_toInt64SS_L1 F p0_a F ms3 0) fun ms91 => some ms91))

def laws_toInt64SSS_L1 (F : Nat) (p0_a : List (List (List Int))) : Nat → (List (List (List Int))) → Int → Option (List (List (List Int)))
  | 0, _, _ => none
  | n97 + 1, ms61, x64 => (bif (decide (x64 < (p0_a.length : Int))) then ((idx p0_a x64).bind fun q99 => ((laws_toInt64SS F q99).bind fun r108 => ((idx ms61 x64).bind fun _q115 => ((upd ms61 x64 r108).bind fun ms121 => (laws_toInt64SSS_L1 F p0_a n97 ms121 (IntKind.i64.wrap (x64 + 1))))))) else some ms61)

def laws_toInt64SSS (F : Nat) (p0_a : List (List (List Int))) : Option (List (List (List Int))) :=
  ((mk (p0_a.length : Int) ([] : List (List Int))).bind fun ms3 => (Option.bind (laws_toInt64SSS_L1 F p0_a F ms3 0) fun ms91 => some ms91))

def spec_l01In (_F : Nat) (p0_n : Int) (p1_low : Int) (p2_high : Int) : Option (Bool) :=
  (Option.bind ((bif (decide (p1_low ≤ p0_n)) then some (decide (p0_n ≤ p2_high)) else some false) : Option (Bool)) fun b2 => some b2)

def spec_l01Finite (F : Nat) (p0_a : Int) : Option (Bool) :=
  ((spec_l01In F p0_a (-1000000) 1000000).bind fun r1 => some r1)

def spec_IsValue (F : Nat) (p0_a : Int) : Option (Bool) :=
  (Option.bind ((bif (p0_a == (-1000000000000000)) then some true else ((spec_l01Finite F p0_a).bind fun r8 => some r8)) : Option (Bool)) fun b4 => some b4)

def spec_l01All_L1 (F : Nat) (p0_list : List Int) (p1_finite : Bool) : Nat → Int → Option (Sum Bool (Unit))
  | 0, _ => none
  | n69 + 1, x44 => (bif (decide (x44 < (p0_list.length : Int))) then (Option.bind (((idx p0_list x44).bind fun q82 => ((spec_IsValue F q82).bind fun r84 => (bif (!r84) then some true else (bif p1_finite then ((idx p0_list x44).bind fun q88 => some (q88 == (-1000000000000000))) else some false)))) : Option (Bool)) fun b79 => (bif b79 then some (Sum.inl false) else (spec_l01All_L1 F p0_list p1_finite n69 (IntKind.i64.wrap (x44 + 1))))) else some (Sum.inr ()))

def spec_l01All (F : Nat) (p0_list : List Int) (p1_finite : Bool) : Option (Bool) :=
  (Option.bind (spec_l01All_L1 F p0_list p1_finite F 0) fun r66 => match r66 with | .inl x_ => some x_ | .inr _ => some true)

def spec_l02Vector (F : Nat) (p0_x : List Int) : Option (Bool) :=
  (Option.bind (((spec_l01In F (p0_x.length : Int) 1 10).bind fun r9 => (bif r9 then ((spec_l01All F p0_x false).bind fun r12 => some r12) else some false)) : Option (Bool)) fun b6 => some b6)

def spec_IsMatrix_L1 (F : Nat) (p0_a : List (List Int)) : Nat → Int → Option (Sum Bool (Unit))
  | 0, _ => none
  | n207 + 1, x138 => (bif (decide (x138 < (p0_a.length : Int))) then (Option.bind (((idx p0_a x138).bind fun q242 => ((spec_l02Vector F q242).bind fun r251 => (bif (!r251) then some true else ((idx p0_a x138).bind fun q254 => ((idx p0_a 0).bind fun q263 => some ((q254.length : Int) != (q263.length : Int))))))) : Option (Bool)) fun b239 => (bif b239 then some (Sum.inl false) else (spec_IsMatrix_L1 F p0_a n207 (IntKind.i64.wrap (x138 + 1))))) else some (Sum.inr ()))

def spec_IsMatrix (F : Nat) (p0_a : List (List Int)) : Option (Bool) :=
  (Option.bind ((bif (decide ((p0_a.length : Int) < 1)) then some true else some (decide (10 < (p0_a.length : Int)))) : Option (Bool)) fun b2 => (bif b2 then some false else (Option.bind (spec_IsMatrix_L1 F p0_a F 0) fun r204 => match r204 with | .inl x_ => some x_ | .inr _ => some true)))

def spec_l02Square (F : Nat) (p0_a : List (List Int)) : Option (Bool) :=
  (Option.bind (((spec_IsMatrix F p0_a).bind fun r16 => (bif r16 then ((idx p0_a 0).bind fun q19 => some ((p0_a.length : Int) == (q19.length : Int))) else some false)) : Option (Bool)) fun b13 => some b13)

def spec_AreModes_L1 (F : Nat) (p0_modes : List (List (List Int))) : Nat → Int → Option (Sum Bool (Unit))
  | 0, _ => none
  | n207 + 1, x138 => (bif (decide (x138 < (p0_modes.length : Int))) then (Option.bind (((idx p0_modes x138).bind fun q242 => ((spec_l02Square F q242).bind fun r251 => (bif (!r251) then some true else ((idx p0_modes x138).bind fun q254 => ((idx p0_modes 0).bind fun q263 => some ((q254.length : Int) != (q263.length : Int))))))) : Option (Bool)) fun b239 => (bif b239 then some (Sum.inl false) else (spec_AreModes_L1 F p0_modes n207 (IntKind.i64.wrap (x138 + 1))))) else some (Sum.inr ()))

def spec_AreModes (F : Nat) (p0_modes : List (List (List Int))) : Option (Bool) :=
  (Option.bind ((bif (decide ((p0_modes.length : Int) < 1)) then some true else some (decide (4 < (p0_modes.length : Int)))) : Option (Bool)) fun b2 => (bif b2 then some false else (Option.bind (spec_AreModes_L1 F p0_modes F 0) fun r204 => match r204 with | .inl x_ => some x_ | .inr _ => some true)))

def spec_l25Code (F : Nat) (p0_modes : List (List (List Int))) (p1_x : List Int) (p2_in : Bool) : Option (Int) :=
  (Option.bind (((spec_AreModes F p0_modes).bind fun r9 => (bif (!r9) then some true else ((spec_l02Vector F p1_x).bind fun r12 => some (!r12)))) : Option (Bool)) fun b6 => (bif b6 then some 1 else ((idx p0_modes 0).bind fun q15 => (bif ((p1_x.length : Int) != (q15.length : Int)) then some 5 else (bif (!p2_in) then some 2 else some 0)))))

def spec_l01Own (_F : Nat) (p0_list : List Int) : Option (List Int) :=
  ((app ([] : List Int) p0_list).bind fun xs5 => some xs5)

def spec_l02Own_L1 (F : Nat) (p0_a : List (List Int)) : Nat → (List (List Int)) → Int → Option (List (List Int))
  | 0, _, _ => none
  | n99 + 1, ms59, x65 => (bif (decide (x65 < (p0_a.length : Int))) then ((idx p0_a x65).bind fun q101 => ((spec_l01Own F q101).bind fun r110 => ((app ms59 ([r110])).bind fun ms120 => (spec_l02Own_L1 F p0_a n99 ms120 (IntKind.i64.wrap (x65 + 1)))))) else some ms59)

def spec_l02Own (F : Nat) (p0_a : List (List Int)) : Option (List (List Int)) :=
  (Option.bind (spec_l02Own_L1 F p0_a F [] 0) fun ms90 => some ms90)

def spec_l02Add_L5 (F : Nat) (p1_b : List (List Int)) (x583 : Int) : Nat → (List (List Int)) → Int → Option (List (List Int))
  | 0, _, _ => none
  | n1091 + 1, ms1015, x1017 => ((idx ms1015 x583).bind fun q1092 => (bif (decide (x1017 < (q1092.length : Int))) then ((idx ms1015 x583).bind fun q1129 => ((idx ms1015 x583).bind fun q1134 => ((idx q1134 x1017).bind fun q1139 => ((idx p1_b x583).bind fun q1141 => ((idx q1141 x1017).bind fun q1150 => ((idx q1129 x1017).bind fun _q1152 => ((upd q1129 x1017 (max q1139 q1150)).bind fun xs1154 => ((upd ms1015 x583 xs1154).bind fun ms1155 => (spec_l02Add_L5 F p1_b x583 n1091 ms1155 (IntKind.i64.wrap (x1017 + 1))))))))))) else some ms1015))

def spec_l02Add_L4 (F : Nat) (p1_b : List (List Int)) : Nat → (List (List Int)) → Int → Option (List (List Int))
  | 0, _, _ => none
  | n874 + 1, ms581, x583 => (bif (decide (x583 < (ms581.length : Int))) then (Option.bind (spec_l02Add_L5 F p1_b x583 F ms581 0) fun ms1086 => (spec_l02Add_L4 F p1_b n874 ms1086 (IntKind.i64.wrap (x583 + 1)))) else some ms581)

def spec_l02Add (F : Nat) (p0_a : List (List Int)) (p1_b : List (List Int)) : Option (List (List Int)) :=
  ((spec_l02Own F p0_a).bind fun r1 => (Option.bind (spec_l02Add_L4 F p1_b F r1 0) fun ms869 => some ms869))

def spec_l25Sum_L1 (F : Nat) (p0_modes : List (List (List Int))) : Nat → (List (List Int)) → Int → Option (List (List Int))
  | 0, _, _ => none
  | n91 + 1, ms58, x64 => (bif (decide (x64 < (p0_modes.length : Int))) then ((idx p0_modes x64).bind fun q93 => ((spec_l02Add F ms58 q93).bind fun r102 => (spec_l25Sum_L1 F p0_modes n91 r102 (IntKind.i64.wrap (x64 + 1))))) else some ms58)

def spec_l25Sum (F : Nat) (p0_modes : List (List (List Int))) : Option (List (List Int)) :=
  ((idx p0_modes 0).bind fun q1 => ((spec_l02Own F q1).bind fun r10 => (Option.bind (spec_l25Sum_L1 F p0_modes F r10 1) fun ms82 => some ms82)))

def spec_l01Times (_F : Nat) (p0_a : Int) (p1_b : Int) : Option (Int) :=
  (Option.bind ((bif (p0_a == (-1000000000000000)) then some true else some (p1_b == (-1000000000000000))) : Option (Bool)) fun b2 => (bif b2 then some (-1000000000000000) else some (IntKind.i64.wrap (p0_a + p1_b))))

def spec_l02Apply_L5 (F : Nat) (p0_a : List (List Int)) (p1_x : List Int) (x174 : Int) : Nat → Int → Int → Option (Int)
  | 0, _, _ => none
  | n321 + 1, x299, x300 => (bif (decide (x300 < (p1_x.length : Int))) then ((idx p0_a x174).bind fun q323 => ((idx q323 x300).bind fun q332 => ((idx p1_x x300).bind fun q334 => ((spec_l01Times F q332 q334).bind fun r336 => (spec_l02Apply_L5 F p0_a p1_x x174 n321 (max x299 r336) (IntKind.i64.wrap (x300 + 1))))))) else some x299)

def spec_l02Apply_L4 (F : Nat) (p0_a : List (List Int)) (p1_x : List Int) : Nat → (List Int) → Int → Option (List Int)
  | 0, _, _ => none
  | n263 + 1, xs169, x174 => (bif (decide (x174 < (p0_a.length : Int))) then (Option.bind (spec_l02Apply_L5 F p0_a p1_x x174 F (-1000000000000000) 0) fun x317 => ((app xs169 ([x317])).bind fun xs342 => (spec_l02Apply_L4 F p0_a p1_x n263 xs342 (IntKind.i64.wrap (x174 + 1))))) else some xs169)

def spec_l02Apply (F : Nat) (p0_a : List (List Int)) (p1_x : List Int) : Option (List Int) :=
  (Option.bind (spec_l02Apply_L4 F p0_a p1_x F ([] : List Int) 0) fun xs255 => some xs255)

def spec_GreatestAfter_L1 (F : Nat) (r7 : List (List Int)) : Nat → Int → (List Int) → Option (Sum (List Int × Int) (List Int))
  | 0, _, _ => none
  | n70 + 1, x46, xs47 => (bif (decide (0 < x46)) then ((spec_l02Apply F r7 xs47).bind fun r72 => ((spec_l02Vector F r72).bind fun r78 => (bif (!r78) then some (Sum.inl (([] : List Int), 3)) else (spec_GreatestAfter_L1 F r7 n70 (IntKind.i64.wrap (x46 - 1)) r72)))) else some (Sum.inr xs47))

def spec_GreatestAfter (F : Nat) (p0_modes : List (List (List Int))) (p1_x : List Int) (p2_n : Int) : Option (List Int × Int) :=
  ((spec_l01In F p2_n 0 6).bind fun r1 => ((spec_l25Code F p0_modes p1_x r1).bind fun r3 => (bif (r3 != 0) then some (([] : List Int), r3) else ((spec_l25Sum F p0_modes).bind fun r7 => ((spec_l01Own F p1_x).bind fun r14 => (Option.bind (spec_GreatestAfter_L1 F r7 F p2_n r14) fun r67 => match r67 with | .inl x_ => some x_ | .inr xs62 => some (xs62, 0)))))))

def impl_within (_F : Nat) (p0_n : Int) (p1_low : Int) (p2_high : Int) : Option (Bool) :=
  (Option.bind ((bif (decide (p1_low ≤ p0_n)) then some (decide (p0_n ≤ p2_high)) else some false) : Option (Bool)) fun b2 => some b2)

def slices_IndexFunc_int64_L1 (F : Nat) (p0_s : List Int) (m_p1_f : Int → Option Bool) : Nat → Int → Option (Sum Int (Unit))
  | 0, _ => none
  | n24 + 1, x14 => (bif (decide (x14 < (p0_s.length : Int))) then ((idx p0_s x14).bind fun q26 => ((m_p1_f q26).bind fun r28 => (bif r28 then some (Sum.inl x14) else (slices_IndexFunc_int64_L1 F p0_s m_p1_f n24 (IntKind.i64.wrap (x14 + 1)))))) else some (Sum.inr ()))

def slices_IndexFunc_int64 (F : Nat) (p0_s : List Int) (m_p1_f : Int → Option Bool) : Option (Int) :=
  (Option.bind (slices_IndexFunc_int64_L1 F p0_s m_p1_f F 0) fun r21 => match r21 with | .inl x_ => some x_ | .inr _ => some (-1))

def slices_ContainsFunc_int64 (F : Nat) (p0_s : List Int) (m_p1_f : Int → Option Bool) : Option (Bool) :=
  ((slices_IndexFunc_int64 F p0_s m_p1_f).bind fun r1 => some (decide (0 ≤ r1)))

def impl_isFinite (F : Nat) (p0_n : Int) : Option (Bool) :=
  ((impl_within F p0_n (-1000000) 1000000).bind fun r1 => some r1)

def impl_IsValue (F : Nat) (p0_a : Int) : Option (Bool) :=
  (Option.bind ((bif (p0_a == (-1000000000000000)) then some true else ((impl_isFinite F p0_a).bind fun r8 => some r8)) : Option (Bool)) fun b4 => some b4)

def impl_areValues_c1 (F : Nat) (p0_n : Int) : Option (Bool) :=
  ((impl_IsValue F p0_n).bind fun r1 => some (!r1))

def impl_areValues (F : Nat) (p0_list : List Int) : Option (Bool) :=
  ((slices_ContainsFunc_int64 F p0_list (fun x0 => impl_areValues_c1 F x0)).bind fun r1 => some (!r1))

def impl_IsMatrix_c1 (F : Nat) (p0_row : List Int) (z0 : List (List Int)) : Option (Bool) :=
  (Option.bind (((idx z0 0).bind fun q16 => (bif ((p0_row.length : Int) != (q16.length : Int)) then some true else ((impl_areValues F p0_row).bind fun r26 => some (!r26)))) : Option (Bool)) fun b13 => some b13)

def slices_IndexFunc_sint64_L1 (F : Nat) (p0_s : List (List Int)) (m_p1_f : (List Int) → Option Bool) : Nat → Int → Option (Sum Int (Unit))
  | 0, _ => none
  | n45 + 1, x28 => (bif (decide (x28 < (p0_s.length : Int))) then ((idx p0_s x28).bind fun q47 => ((m_p1_f q47).bind fun r56 => (bif r56 then some (Sum.inl x28) else (slices_IndexFunc_sint64_L1 F p0_s m_p1_f n45 (IntKind.i64.wrap (x28 + 1)))))) else some (Sum.inr ()))

def slices_IndexFunc_sint64 (F : Nat) (p0_s : List (List Int)) (m_p1_f : (List Int) → Option Bool) : Option (Int) :=
  (Option.bind (slices_IndexFunc_sint64_L1 F p0_s m_p1_f F 0) fun r42 => match r42 with | .inl x_ => some x_ | .inr _ => some (-1))

def slices_ContainsFunc_sint64 (F : Nat) (p0_s : List (List Int)) (m_p1_f : (List Int) → Option Bool) : Option (Bool) :=
  ((slices_IndexFunc_sint64 F p0_s m_p1_f).bind fun r1 => some (decide (0 ≤ r1)))

def impl_IsMatrix (F : Nat) (p0_a : List (List Int)) : Option (Bool) :=
  (Option.bind (((impl_within F (p0_a.length : Int) 1 10).bind fun r19 => (bif (!r19) then some true else ((idx p0_a 0).bind fun q22 => ((impl_within F (q22.length : Int) 1 10).bind fun r31 => some (!r31))))) : Option (Bool)) fun b16 => (bif b16 then some false else ((slices_ContainsFunc_sint64 F p0_a (fun x0 => impl_IsMatrix_c1 F x0 p0_a)).bind fun r34 => some (!r34))))

def impl_isSquare (F : Nat) (p0_a : List (List Int)) : Option (Bool) :=
  (Option.bind (((impl_IsMatrix F p0_a).bind fun r16 => (bif r16 then ((idx p0_a 0).bind fun q19 => some ((p0_a.length : Int) == (q19.length : Int))) else some false)) : Option (Bool)) fun b13 => some b13)

def impl_AreModes_c1 (F : Nat) (p0_a : List (List Int)) (z0 : List (List (List Int))) : Option (Bool) :=
  (Option.bind (((impl_isSquare F p0_a).bind fun r16 => (bif (!r16) then some true else ((idx z0 0).bind fun q19 => some ((p0_a.length : Int) != (q19.length : Int))))) : Option (Bool)) fun b13 => some b13)

def slices_IndexFunc_ssint64_L1 (F : Nat) (p0_s : List (List (List Int))) (m_p1_f : (List (List Int)) → Option Bool) : Nat → Int → Option (Sum Int (Unit))
  | 0, _ => none
  | n45 + 1, x28 => (bif (decide (x28 < (p0_s.length : Int))) then ((idx p0_s x28).bind fun q47 => ((m_p1_f q47).bind fun r56 => (bif r56 then some (Sum.inl x28) else (slices_IndexFunc_ssint64_L1 F p0_s m_p1_f n45 (IntKind.i64.wrap (x28 + 1)))))) else some (Sum.inr ()))

def slices_IndexFunc_ssint64 (F : Nat) (p0_s : List (List (List Int))) (m_p1_f : (List (List Int)) → Option Bool) : Option (Int) :=
  (Option.bind (slices_IndexFunc_ssint64_L1 F p0_s m_p1_f F 0) fun r42 => match r42 with | .inl x_ => some x_ | .inr _ => some (-1))

def slices_ContainsFunc_ssint64 (F : Nat) (p0_s : List (List (List Int))) (m_p1_f : (List (List Int)) → Option Bool) : Option (Bool) :=
  ((slices_IndexFunc_ssint64 F p0_s m_p1_f).bind fun r1 => some (decide (0 ≤ r1)))

def impl_AreModes (F : Nat) (p0_modes : List (List (List Int))) : Option (Bool) :=
  (Option.bind (((impl_within F (p0_modes.length : Int) 1 4).bind fun r10 => (bif r10 then ((slices_ContainsFunc_ssint64 F p0_modes (fun x0 => impl_AreModes_c1 F x0 p0_modes)).bind fun r13 => some (!r13)) else some false)) : Option (Bool)) fun b7 => some b7)

def impl_isVector (F : Nat) (p0_x : List Int) : Option (Bool) :=
  (Option.bind (((impl_within F (p0_x.length : Int) 1 10).bind fun r9 => (bif r9 then ((impl_areValues F p0_x).bind fun r12 => some r12) else some false)) : Option (Bool)) fun b6 => some b6)

def impl_checkModes (F : Nat) (p0_modes : List (List (List Int))) (p1_x : List Int) : Option (Int) :=
  (Option.bind (((impl_AreModes F p0_modes).bind fun r9 => (bif (!r9) then some true else ((impl_isVector F p1_x).bind fun r12 => some (!r12)))) : Option (Bool)) fun b6 => (bif b6 then some 1 else ((idx p0_modes 0).bind fun q15 => (bif ((p1_x.length : Int) != (q15.length : Int)) then some 5 else some 0))))

def slices_Clone_int64 (_F : Nat) (p0_s : List Int) : Option (List Int) :=
  ((app ([] : List Int) p0_s).bind fun xs5 => some xs5)

def impl_cloneMatrix_L1 (F : Nat) (p0_a : List (List Int)) : Nat → (List (List Int)) → Int → Option (List (List Int))
  | 0, _, _ => none
  | n100 + 1, ms60, x66 => (bif (decide (x66 < (p0_a.length : Int))) then ((idx p0_a x66).bind fun q102 => ((slices_Clone_int64 F q102).bind fun r111 => ((idx ms60 x66).bind fun _q117 => ((upd ms60 x66 r111).bind fun ms122 => (impl_cloneMatrix_L1 F p0_a n100 ms122 (IntKind.i64.wrap (x66 + 1))))))) else some ms60)

def impl_cloneMatrix (F : Nat) (p0_a : List (List Int)) : Option (List (List Int)) :=
  ((mk (p0_a.length : Int) ([] : List Int)).bind fun ms3 => (Option.bind (impl_cloneMatrix_L1 F p0_a F ms3 0) fun ms91 => some ms91))

def impl_addMatrices_c1 (_F : Nat) (p0_i : Int) (p1_j : Int) (z0 : List (List Int)) (z1 : List (List Int)) : Option (Int) :=
  ((idx z0 p0_i).bind fun q1 => ((idx q1 p1_j).bind fun q10 => ((idx z1 p0_i).bind fun q12 => ((idx q12 p1_j).bind fun q21 => some (max q10 q21)))))

def impl_matrixBy_L5 (F : Nat) (m_p2_entry : Int → Int → Option Int) (x324 : Int) (q500 : List Int) : Nat → (List (List Int)) → Int → Option (List (List Int))
  | 0, _, _ => none
  | n609 + 1, ms570, x572 => (bif (decide (x572 < (q500.length : Int))) then ((idx ms570 x324).bind fun q626 => ((m_p2_entry x324 x572).bind fun r631 => ((idx q626 x572).bind fun _q633 => ((upd q626 x572 r631).bind fun xs635 => ((upd ms570 x324 xs635).bind fun ms636 => (impl_matrixBy_L5 F m_p2_entry x324 q500 n609 ms636 (IntKind.i64.wrap (x572 + 1)))))))) else some ms570)

def impl_matrixBy_L4 (F : Nat) (p1_n : Int) (m_p2_entry : Int → Int → Option Int) (ms3 : List (List Int)) : Nat → (List (List Int)) → Int → Option (List (List Int))
  | 0, _, _ => none
  | n487 + 1, ms318, x324 => (bif (decide (x324 < (ms3.length : Int))) then ((mk p1_n (0 : Int)).bind fun xs491 => ((idx ms318 x324).bind fun _q492 => ((upd ms318 x324 xs491).bind fun ms497 => ((idx ms497 x324).bind fun q500 => (Option.bind (impl_matrixBy_L5 F m_p2_entry x324 q500 F ms497 0) fun ms604 => (impl_matrixBy_L4 F p1_n m_p2_entry ms3 n487 ms604 (IntKind.i64.wrap (x324 + 1)))))))) else some ms318)

def impl_matrixBy (F : Nat) (p0_m : Int) (p1_n : Int) (m_p2_entry : Int → Int → Option Int) : Option (List (List Int)) :=
  ((mk p0_m ([] : List Int)).bind fun ms3 => (Option.bind (impl_matrixBy_L4 F p1_n m_p2_entry ms3 F ms3 0) fun ms478 => some ms478))

def impl_addMatrices (F : Nat) (p0_a : List (List Int)) (p1_b : List (List Int)) : Option (List (List Int)) :=
  ((idx p0_a 0).bind fun q19 => ((impl_matrixBy F (p0_a.length : Int) (q19.length : Int) (fun x0 x1 => impl_addMatrices_c1 F x0 x1 p0_a p1_b)).bind fun r28 => some r28))

def impl_sumOfModes_L1 (F : Nat) (ms18 : List (List (List Int))) : Nat → (List (List Int)) → Int → Option (List (List Int))
  | 0, _, _ => none
  | n93 + 1, ms60, x66 => (bif (decide (x66 < (ms18.length : Int))) then ((idx ms18 x66).bind fun q95 => ((impl_addMatrices F ms60 q95).bind fun r104 => (impl_sumOfModes_L1 F ms18 n93 r104 (IntKind.i64.wrap (x66 + 1))))) else some ms60)

def impl_sumOfModes (F : Nat) (p0_modes : List (List (List Int))) : Option (List (List Int)) :=
  ((idx p0_modes 0).bind fun q1 => ((impl_cloneMatrix F q1).bind fun r10 => ((cutFrom p0_modes 1).bind fun ms18 => (Option.bind (impl_sumOfModes_L1 F ms18 F r10 0) fun ms84 => some ms84))))

def impl_times (_F : Nat) (p0_a : Int) (p1_b : Int) : Option (Int) :=
  (Option.bind ((bif (p0_a == (-1000000000000000)) then some true else some (p1_b == (-1000000000000000))) : Option (Bool)) fun b2 => (bif b2 then some (-1000000000000000) else some (IntKind.i64.wrap (p0_a + p1_b))))

def impl_timesVector_L5 (F : Nat) (p1_x : List Int) (x245 : Int) (q371 : List Int) : Nat → (List Int) → Int → Option (List Int)
  | 0, _, _ => none
  | n464 + 1, xs433, x435 => (bif (decide (x435 < (q371.length : Int))) then ((idx q371 x435).bind fun q466 => ((idx xs433 x245).bind fun q478 => ((idx p1_x x435).bind fun q480 => ((impl_times F q466 q480).bind fun r482 => ((idx xs433 x245).bind fun _q484 => ((upd xs433 x245 (max q478 r482)).bind fun xs486 => (impl_timesVector_L5 F p1_x x245 q371 n464 xs486 (IntKind.i64.wrap (x435 + 1))))))))) else some xs433)

def impl_timesVector_L4 (F : Nat) (p0_a : List (List Int)) (p1_x : List Int) : Nat → (List Int) → Int → Option (List Int)
  | 0, _, _ => none
  | n369 + 1, xs243, x245 => (bif (decide (x245 < (p0_a.length : Int))) then ((idx p0_a x245).bind fun q371 => ((idx xs243 x245).bind fun _q380 => ((upd xs243 x245 (-1000000000000000)).bind fun xs382 => (Option.bind (impl_timesVector_L5 F p1_x x245 q371 F xs382 0) fun xs459 => (impl_timesVector_L4 F p0_a p1_x n369 xs459 (IntKind.i64.wrap (x245 + 1))))))) else some xs243)

def impl_timesVector (F : Nat) (p0_a : List (List Int)) (p1_x : List Int) : Option (List Int) :=
  ((mk (p0_a.length : Int) (0 : Int)).bind fun xs3 => (Option.bind (impl_timesVector_L4 F p0_a p1_x F xs3 0) fun xs364 => some xs364))

def impl_GreatestAfter_L1 (F : Nat) (p2_n : Int) (r9 : List (List Int)) : Nat → (List Int) → Int → Option (Sum (List Int × Int) (List Int))
  | 0, _, _ => none
  | n72 + 1, xs48, x53 => (bif (decide (x53 < p2_n)) then ((impl_timesVector F r9 xs48).bind fun r74 => ((impl_areValues F r74).bind fun r80 => (bif (!r80) then some (Sum.inl (([] : List Int), 3)) else (impl_GreatestAfter_L1 F p2_n r9 n72 r74 (IntKind.i64.wrap (x53 + 1)))))) else some (Sum.inr xs48))

def impl_GreatestAfter (F : Nat) (p0_modes : List (List (List Int))) (p1_x : List Int) (p2_n : Int) : Option (List Int × Int) :=
  ((impl_checkModes F p0_modes p1_x).bind fun r1 => (bif (r1 != 0) then some (([] : List Int), r1) else ((impl_within F p2_n 0 6).bind fun r5 => (bif (!r5) then some (([] : List Int), 2) else ((impl_sumOfModes F p0_modes).bind fun r9 => ((slices_Clone_int64 F p1_x).bind fun r16 => (Option.bind (impl_GreatestAfter_L1 F p2_n r9 F r16 0) fun r69 => match r69 with | .inl x_ => some x_ | .inr xs64 => some (xs64, 0))))))))

def laws_eqInt64S_L1 (F : Nat) (p0_a : List Int) (p1_b : List Int) : Nat → Int → Option (Sum Bool (Unit))
  | 0, _ => none
  | n25 + 1, x15 => (bif (decide (x15 < (p0_a.length : Int))) then ((idx p0_a x15).bind fun q27 => ((idx p1_b x15).bind fun q29 => (bif (q27 != q29) then some (Sum.inl false) else (laws_eqInt64S_L1 F p0_a p1_b n25 (IntKind.i64.wrap (x15 + 1)))))) else some (Sum.inr ()))

def laws_eqInt64S (F : Nat) (p0_a : List Int) (p1_b : List Int) : Option (Bool) :=
  (bif ((p0_a.length : Int) != (p1_b.length : Int)) then some false else (Option.bind (laws_eqInt64S_L1 F p0_a p1_b F 0) fun r22 => match r22 with | .inl x_ => some x_ | .inr _ => some true))

def laws_eqInt64SS_L1 (F : Nat) (p0_a : List (List Int)) (p1_b : List (List Int)) : Nat → Int → Option (Sum Bool (Unit))
  | 0, _ => none
  | n73 + 1, x47 => (bif (decide (x47 < (p0_a.length : Int))) then ((idx p0_a x47).bind fun q75 => ((idx p1_b x47).bind fun q84 => ((laws_eqInt64S F q75 q84).bind fun r93 => (bif (!r93) then some (Sum.inl false) else (laws_eqInt64SS_L1 F p0_a p1_b n73 (IntKind.i64.wrap (x47 + 1))))))) else some (Sum.inr ()))

def laws_eqInt64SS (F : Nat) (p0_a : List (List Int)) (p1_b : List (List Int)) : Option (Bool) :=
  (bif ((p0_a.length : Int) != (p1_b.length : Int)) then some false else (Option.bind (laws_eqInt64SS_L1 F p0_a p1_b F 0) fun r70 => match r70 with | .inl x_ => some x_ | .inr _ => some true))

def laws_eqInt64SSS_L1 (F : Nat) (p0_a : List (List (List Int))) (p1_b : List (List (List Int))) : Nat → Int → Option (Sum Bool (Unit))
  | 0, _ => none
  | n73 + 1, x47 => (bif (decide (x47 < (p0_a.length : Int))) then ((idx p0_a x47).bind fun q75 => ((idx p1_b x47).bind fun q84 => ((laws_eqInt64SS F q75 q84).bind fun r93 => (bif (!r93) then some (Sum.inl false) else (laws_eqInt64SSS_L1 F p0_a p1_b n73 (IntKind.i64.wrap (x47 + 1))))))) else some (Sum.inr ()))

def laws_eqInt64SSS (F : Nat) (p0_a : List (List (List Int))) (p1_b : List (List (List Int))) : Option (Bool) :=
  (bif ((p0_a.length : Int) != (p1_b.length : Int)) then some false else (Option.bind (laws_eqInt64SSS_L1 F p0_a p1_b F 0) fun r70 => match r70 with | .inl x_ => some x_ | .inr _ => some true))

def laws_markInt64S_L1 (F : Nat) : Nat → (List Int) → Int → Int → Option ((List Int) × Int)
  | 0, _, _, _ => none
  | n30 + 1, xs15, x17, x18 => (bif (decide (x18 < (xs15.length : Int))) then ((idx xs15 x18).bind fun _q32 => ((upd xs15 x18 x17).bind fun xs34 => (laws_markInt64S_L1 F n30 xs34 (IntKind.i64.wrap (x17 + 1)) (IntKind.i64.wrap (x18 + 1))))) else some (xs15, x17))

def laws_markInt64S (F : Nat) (p0_a : List Int) (p1_k : Int) : Option ((Int) × List Int) :=
  (Option.bind (laws_markInt64S_L1 F F p0_a p1_k 0) fun (xs24, x26) => some (x26, xs24))

def laws_markInt64SS_L1 (F : Nat) : Nat → (List (List Int)) → Int → Int → Option ((List (List Int)) × Int)
  | 0, _, _, _ => none
  | n48 + 1, ms27, x29, x30 => (bif (decide (x30 < (ms27.length : Int))) then ((idx ms27 x30).bind fun q50 => ((laws_markInt64S F q50 x29).bind fun r55 => ((upd ms27 x30 r55.2).bind fun ms59 => (laws_markInt64SS_L1 F n48 ms59 r55.1 (IntKind.i64.wrap (x30 + 1)))))) else some (ms27, x29))

def laws_markInt64SS (F : Nat) (p0_a : List (List Int)) (p1_k : Int) : Option ((Int) × List (List Int)) :=
  (Option.bind (laws_markInt64SS_L1 F F p0_a p1_k 0) fun (ms42, x44) => some (x44, ms42))

def laws_markInt64SSS_L1 (F : Nat) : Nat → (List (List (List Int))) → Int → Int → Option ((List (List (List Int))) × Int)
  | 0, _, _, _ => none
  | n57 + 1, ms32, x35, x36 => (bif (decide (x36 < (ms32.length : Int))) then ((idx ms32 x36).bind fun q59 => ((laws_markInt64SS F q59 x35).bind fun r65 => ((upd ms32 x36 r65.2).bind fun ms69 => (laws_markInt64SSS_L1 F n57 ms69 r65.1 (IntKind.i64.wrap (x36 + 1)))))) else some (ms32, x35))

def laws_markInt64SSS (F : Nat) (p0_a : List (List (List Int))) (p1_k : Int) : Option ((Int) × List (List (List Int))) :=
  (Option.bind (laws_markInt64SSS_L1 F F p0_a p1_k 0) fun (ms50, x53) => some (x53, ms50))

def laws_heldInt64S_L1 (F : Nat) (p0_a : List Int) : Nat → Int → Int → Option (Sum Int (Int))
  | 0, _, _ => none
  | n21 + 1, x11, x12 => (bif (decide (x12 < (p0_a.length : Int))) then ((idx p0_a x12).bind fun q23 => (bif (q23 != x11) then some (Sum.inl (-1)) else (laws_heldInt64S_L1 F p0_a n21 (IntKind.i64.wrap (x11 + 1)) (IntKind.i64.wrap (x12 + 1))))) else some (Sum.inr x11))

def laws_heldInt64S (F : Nat) (p0_a : List Int) (p1_k : Int) : Option (Int) :=
  (Option.bind (laws_heldInt64S_L1 F p0_a F p1_k 0) fun r18 => match r18 with | .inl x_ => some x_ | .inr x17 => some x17)

def laws_FnExactGreatestAfter (F : Nat) (p0 : List (List (List Int))) (p1 : List Int) (p2 : Int) : Option (Bool) :=
  (bif (decide (1048576 < (p1.length : Int))) then some true else ((laws_szInt64SSS F p0 1048576).bind fun r2 => (bif (decide (r2 < 0)) then some true else ((laws_toInt64SSS F p0).bind fun r5 => ((laws_toInt64S F p1).bind fun r12 => ((spec_GreatestAfter F r5 r12 p2).bind fun r18 => ((laws_toInt64SSS F p0).bind fun r24 => ((laws_toInt64S F p1).bind fun r31 => ((impl_GreatestAfter F r24 r31 p2).bind fun r37 => (Option.bind (((laws_eqInt64S F r37.1 r18.1).bind fun r49 => (bif (!r49) then some true else some (r37.2 != r18.2))) : Option (Bool)) fun b46 => (bif b46 then some false else ((laws_toInt64SSS F p0).bind fun r53 => ((laws_eqInt64SSS F r24 r53).bind fun r60 => (bif (!r60) then some false else ((laws_toInt64S F p1).bind fun r63 => ((laws_eqInt64S F r31 r63).bind fun r69 => (bif (!r69) then some false else ((laws_markInt64SSS F r24 1).bind fun r72 => ((laws_markInt64S F r31 r72.1).bind fun r76 => (Option.bind ((bif (decide (r76.1 < 0)) then some true else ((laws_eqInt64S F r37.1 r18.1).bind fun r87 => (bif (!r87) then some true else some (r37.2 != r18.2)))) : Option (Bool)) fun b83 => (bif b83 then some false else ((laws_markInt64S F r37.1 1).bind fun r91 => ((laws_heldInt64S F r91.2 1).bind fun r94 => (bif (decide (r94 < 0)) then some false else (bif (r94 != r91.1) then some false else ((laws_toInt64SSS F p0).bind fun r98 => ((laws_toInt64S F p1).bind fun r105 => ((impl_GreatestAfter F r98 r105 p2).bind fun r111 => (Option.bind (((laws_eqInt64S F r111.1 r18.1).bind fun r123 => (bif (!r123) then some true else some (r111.2 != r18.2))) : Option (Bool)) fun b120 => (bif b120 then some false else ((laws_heldInt64S F r91.2 1).bind fun r127 => (bif (decide (r127 < 0)) then some false else (bif (r127 != r91.1) then some false else some true)))))))))))))))))))))))))))))))))

end Go.Proofs.Ytpmebacdmilecaa
