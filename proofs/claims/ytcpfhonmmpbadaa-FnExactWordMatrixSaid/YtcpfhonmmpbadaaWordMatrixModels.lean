/- Plain models of the functions. -/
import Derived.Test.YtcpfhonmmpbadaaLiftQ
namespace Go.Proofs.Ytcpfhonmmpbadaa


def laws_szInt64S (_F : Nat) (p0_a : List Int) (p1_left : Int) : Option (Int) :=
  (bif (decide ((IntKind.i64.wrap (p1_left - (p0_a.length : Int))) < 0)) then some (-1) else some (IntKind.i64.wrap (p1_left - (p0_a.length : Int))))

def laws_szInt64SS_L1 (F : Nat) (p0_a : List (List Int)) : Nat → Int → Int → Option (Sum Int (Int))
  | 0, _, _ => none
  | n49 + 1, x30, x31 => (bif (decide (x31 < (p0_a.length : Int))) then ((idx p0_a x31).bind fun q51 => ((laws_szInt64S F q51 x30).bind fun r60 => (bif (decide (r60 < 0)) then some (Sum.inl (-1)) else (laws_szInt64SS_L1 F p0_a n49 r60 (IntKind.i64.wrap (x31 + 1)))))) else some (Sum.inr x30))

def laws_szInt64SS (F : Nat) (p0_a : List (List Int)) (p1_left : Int) : Option (Int) :=
  (bif (decide ((IntKind.i64.wrap (p1_left - (p0_a.length : Int))) < 0)) then some (-1) else (Option.bind (laws_szInt64SS_L1 F p0_a F (IntKind.i64.wrap (p1_left - (p0_a.length : Int))) 0) fun r46 => match r46 with | .inl x_ => some x_ | .inr x45 => some x45))

def laws_szInt64SSS_L1 (F : Nat) (p0_a : List (List (List Int))) : Nat → Int → Int → Option (Sum Int (Int))
  | 0, _, _ => none
  | n49 + 1, x30, x31 => (bif (decide (x31 < (p0_a.length : Int))) then ((idx p0_a x31).bind fun q51 => ((laws_szInt64SS F q51 x30).bind fun r60 => (bif (decide (r60 < 0)) then some (Sum.inl (-1)) else (laws_szInt64SSS_L1 F p0_a n49 r60 (IntKind.i64.wrap (x31 + 1)))))) else some (Sum.inr x30))

def laws_szInt64SSS (F : Nat) (p0_a : List (List (List Int))) (p1_left : Int) : Option (Int) :=
  (bif (decide ((IntKind.i64.wrap (p1_left - (p0_a.length : Int))) < 0)) then some (-1) else (Option.bind (laws_szInt64SSS_L1 F p0_a F (IntKind.i64.wrap (p1_left - (p0_a.length : Int))) 0) fun r46 => match r46 with | .inl x_ => some x_ | .inr x45 => some x45))

def laws_toInt64S_L1 (F : Nat) (p0_a : List Int) : Nat → (List Int) → Int → Option (List Int)
  | 0, _, _ => none
  | n36 + 1, xs21, x23 => (bif (decide (x23 < (p0_a.length : Int))) then ((idx p0_a x23).bind fun q38 => ((idx xs21 x23).bind fun _q40 => ((upd xs21 x23 q38).bind fun xs42 => (laws_toInt64S_L1 F p0_a n36 xs42 (IntKind.i64.wrap (x23 + 1)))))) else some xs21)

def laws_toInt64S (F : Nat) (p0_a : List Int) : Option (List Int) :=
  ((mk (p0_a.length : Int) (0 : Int)).bind fun xs3 => (Option.bind (laws_toInt64S_L1 F p0_a F xs3 0) fun xs31 => some xs31))

def laws_toInt64SS_L1 (F : Nat) (p0_a : List (List Int)) : Nat → (List (List Int)) → Int → Option (List (List Int))
  | 0, _, _ => none
  | n100 + 1, ms60, x66 => (bif (decide (x66 < (p0_a.length : Int))) then ((idx p0_a x66).bind fun q102 => ((laws_toInt64S F q102).bind fun r111 => ((idx ms60 x66).bind fun _q117 => ((upd ms60 x66 r111).bind fun ms122 => (laws_toInt64SS_L1 F p0_a n100 ms122 (IntKind.i64.wrap (x66 + 1))))))) else some ms60)

def laws_toInt64SS (F : Nat) (p0_a : List (List Int)) : Option (List (List Int)) :=
  ((mk (p0_a.length : Int) ([] : List Int)).bind fun ms3 => (Option.bind (laws_toInt64SS_L1 F p0_a F ms3 0) fun ms91 => some ms91))

def laws_toInt64SSS_L1 (F : Nat) (p0_a : List (List (List Int))) : Nat → (List (List (List Int))) → Int → Option (List (List (List Int)))
  | 0, _, _ => none
  | n97 + 1, ms61, x64 => (bif (decide (x64 < (p0_a.length : Int))) then ((idx p0_a x64).bind fun q99 => ((laws_toInt64SS F q99).bind fun r108 => ((idx ms61 x64).bind fun _q115 => ((upd ms61 x64 r108).bind fun ms121 => (laws_toInt64SSS_L1 F p0_a n97 ms121 (IntKind.i64.wrap (x64 + 1))))))) else some ms61)

def laws_toInt64SSS (F : Nat) (p0_a : List (List (List Int))) : Option (List (List (List Int))) :=
  ((mk (p0_a.length : Int) ([] : List (List Int))).bind fun ms3 => (Option.bind (laws_toInt64SSS_L1 F p0_a F ms3 0) fun ms91 => some ms91))

def spec_l01In (_F : Nat) (p0_n : Int) (p1_low : Int) (p2_high : Int) : Option (Bool) :=
  (Option.bind ((bif (decide (p1_low ≤ p0_n)) then some (decide (p0_n ≤ p2_high)) else some false) : Option (Bool)) fun b2 => some b2)

def spec_l01Finite (F : Nat) (p0_a : Int) : Option (Bool) :=
  ((spec_l01In F p0_a (-1000000) 1000000).bind fun r1 => some r1)

def spec_IsValue (F : Nat) (p0_a : Int) : Option (Bool) :=
  (Option.bind ((bif (p0_a == (-1000000000000000)) then some true else ((spec_l01Finite F p0_a).bind fun r8 => some r8)) : Option (Bool)) fun b4 => some b4)

def spec_l01All_L1 (F : Nat) (p0_list : List Int) (p1_finite : Bool) : Nat → Int → Option (Sum Bool (Unit))
  | 0, _ => none
  | n69 + 1, x44 => (bif (decide (x44 < (p0_list.length : Int))) then (Option.bind (((idx p0_list x44).bind fun q82 => ((spec_IsValue F q82).bind fun r84 => (bif (!r84) then some true else (bif p1_finite then ((idx p0_list x44).bind fun q88 => some (q88 == (-1000000000000000))) else some false)))) : Option (Bool)) fun b79 => (bif b79 then some (Sum.inl false) else (spec_l01All_L1 F p0_list p1_finite n69 (IntKind.i64.wrap (x44 + 1))))) else some (Sum.inr ()))

def spec_l01All (F : Nat) (p0_list : List Int) (p1_finite : Bool) : Option (Bool) :=
  (Option.bind (spec_l01All_L1 F p0_list p1_finite F 0) fun r66 => match r66 with | .inl x_ => some x_ | .inr _ => some true)

def spec_l02Vector (F : Nat) (p0_x : List Int) : Option (Bool) :=
  (Option.bind (((spec_l01In F (p0_x.length : Int) 1 10).bind fun r9 => (bif r9 then ((spec_l01All F p0_x false).bind fun r12 => some r12) else some false)) : Option (Bool)) fun b6 => some b6)

def spec_IsMatrix_L1 (F : Nat) (p0_a : List (List Int)) : Nat → Int → Option (Sum Bool (Unit))
  | 0, _ => none
  | n207 + 1, x138 => (bif (decide (x138 < (p0_a.length : Int))) then (Option.bind (((idx p0_a x138).bind fun q242 => ((spec_l02Vector F q242).bind fun r251 => (bif (!r251) then some true else ((idx p0_a x138).bind fun q254 => ((idx p0_a 0).bind fun q263 => some ((q254.length : Int) != (q263.length : Int))))))) : Option (Bool)) fun b239 => (bif b239 then some (Sum.inl false) else (spec_IsMatrix_L1 F p0_a n207 (IntKind.i64.wrap (x138 + 1))))) else some (Sum.inr ()))

def spec_IsMatrix (F : Nat) (p0_a : List (List Int)) : Option (Bool) :=
  (Option.bind ((bif (decide ((p0_a.length : Int) < 1)) then some true else some (decide (10 < (p0_a.length : Int)))) : Option (Bool)) fun b2 => (bif b2 then some false else (Option.bind (spec_IsMatrix_L1 F p0_a F 0) fun r204 => match r204 with | .inl x_ => some x_ | .inr _ => some true)))

def spec_l02Square (F : Nat) (p0_a : List (List Int)) : Option (Bool) :=
  (Option.bind (((spec_IsMatrix F p0_a).bind fun r16 => (bif r16 then ((idx p0_a 0).bind fun q19 => some ((p0_a.length : Int) == (q19.length : Int))) else some false)) : Option (Bool)) fun b13 => some b13)

def spec_AreModes_L1 (F : Nat) (p0_modes : List (List (List Int))) : Nat → Int → Option (Sum Bool (Unit))
  | 0, _ => none
  | n207 + 1, x138 => (bif (decide (x138 < (p0_modes.length : Int))) then (Option.bind (((idx p0_modes x138).bind fun q242 => ((spec_l02Square F q242).bind fun r251 => (bif (!r251) then some true else ((idx p0_modes x138).bind fun q254 => ((idx p0_modes 0).bind fun q263 => some ((q254.length : Int) != (q263.length : Int))))))) : Option (Bool)) fun b239 => (bif b239 then some (Sum.inl false) else (spec_AreModes_L1 F p0_modes n207 (IntKind.i64.wrap (x138 + 1))))) else some (Sum.inr ()))

def spec_AreModes (F : Nat) (p0_modes : List (List (List Int))) : Option (Bool) :=
  (Option.bind ((bif (decide ((p0_modes.length : Int) < 1)) then some true else some (decide (4 < (p0_modes.length : Int)))) : Option (Bool)) fun b2 => (bif b2 then some false else (Option.bind (spec_AreModes_L1 F p0_modes F 0) fun r204 => match r204 with | .inl x_ => some x_ | .inr _ => some true)))

def spec_l01Within_L1 (F : Nat) (p0_list : List Int) (p2_low : Int) (p3_high : Int) : Nat → Int → Option (Sum Bool (Unit))
  | 0, _ => none
  | n24 + 1, x14 => (bif (decide (x14 < (p0_list.length : Int))) then ((idx p0_list x14).bind fun q26 => ((spec_l01In F q26 p2_low p3_high).bind fun r28 => (bif (!r28) then some (Sum.inl false) else (spec_l01Within_L1 F p0_list p2_low p3_high n24 (IntKind.i64.wrap (x14 + 1)))))) else some (Sum.inr ()))

def spec_l01Within (F : Nat) (p0_list : List Int) (p1_most : Int) (p2_low : Int) (p3_high : Int) : Option (Bool) :=
  (Option.bind (spec_l01Within_L1 F p0_list p2_low p3_high F 0) fun r21 => match r21 with | .inl x_ => some x_ | .inr _ => some (decide ((p0_list.length : Int) ≤ p1_most)))

def spec_l25Word (F : Nat) (p0_modes : List (List (List Int))) (p1_word : List Int) : Option (Bool) :=
  ((spec_l01Within F p1_word 6 0 (IntKind.i64.wrap ((p0_modes.length : Int) - 1))).bind fun r1 => some r1)

def spec_l02Bottom_L5 (F : Nat) (p1_n : Int) : Nat → (List Int) → Int → Option (List Int)
  | 0, _, _ => none
  | n252 + 1, xs231, x236 => (bif (decide (x236 < p1_n)) then ((app xs231 ([(-1000000000000000)])).bind fun xs258 => (spec_l02Bottom_L5 F p1_n n252 xs258 (IntKind.i64.wrap (x236 + 1)))) else some xs231)

def spec_l02Bottom_L4 (F : Nat) (p0_m : Int) (p1_n : Int) : Nat → (List (List Int)) → Int → Option (List (List Int))
  | 0, _, _ => none
  | n207 + 1, ms131, x137 => (bif (decide (x137 < p0_m)) then (Option.bind (spec_l02Bottom_L5 F p1_n F ([] : List Int) 0) fun xs244 => ((app ms131 ([xs244])).bind fun ms264 => (spec_l02Bottom_L4 F p0_m p1_n n207 ms264 (IntKind.i64.wrap (x137 + 1))))) else some ms131)

def spec_l02Bottom (F : Nat) (p0_m : Int) (p1_n : Int) : Option (List (List Int)) :=
  (Option.bind (spec_l02Bottom_L4 F p0_m p1_n F [] 0) fun ms198 => some ms198)

def spec_l02Unit_L1 (F : Nat) (p0_n : Int) : Nat → (List (List Int)) → Int → Option (List (List Int))
  | 0, _, _ => none
  | n61 + 1, ms39, x41 => (bif (decide (x41 < p0_n)) then ((idx ms39 x41).bind fun q63 => ((idx q63 x41).bind fun _q68 => ((upd q63 x41 0).bind fun xs70 => ((upd ms39 x41 xs70).bind fun ms71 => (spec_l02Unit_L1 F p0_n n61 ms71 (IntKind.i64.wrap (x41 + 1))))))) else some ms39)

def spec_l02Unit (F : Nat) (p0_n : Int) : Option (List (List Int)) :=
  ((spec_l02Bottom F p0_n p0_n).bind fun r1 => (Option.bind (spec_l02Unit_L1 F p0_n F r1 0) fun ms56 => some ms56))

def spec_l01Times (_F : Nat) (p0_a : Int) (p1_b : Int) : Option (Int) :=
  (Option.bind ((bif (p0_a == (-1000000000000000)) then some true else some (p1_b == (-1000000000000000))) : Option (Bool)) fun b2 => (bif b2 then some (-1000000000000000) else some (IntKind.i64.wrap (p0_a + p1_b))))

def spec_l02Multiply_L21 (F : Nat) (p0 : List (List Int)) (p1 : List (List Int)) (x3072 : Int) (x5366 : Int) : Nat → (List (List Int)) → Int → Option (List (List Int))
  | 0, _, _ => none
  | n6039 + 1, ms5942, x5944 => (bif (decide (x5944 < (p1.length : Int))) then ((idx ms5942 x3072).bind fun q6085 => ((idx ms5942 x3072).bind fun q6090 => ((idx q6090 x5366).bind fun q6095 => ((idx p0 x3072).bind fun q6097 => ((idx q6097 x5944).bind fun q6106 => ((idx p1 x5944).bind fun q6108 => ((idx q6108 x5366).bind fun q6117 => ((spec_l01Times F q6106 q6117).bind fun r6119 => ((idx q6085 x5366).bind fun _q6121 => ((upd q6085 x5366 (max q6095 r6119)).bind fun xs6123 => ((upd ms5942 x3072 xs6123).bind fun ms6124 => (spec_l02Multiply_L21 F p0 p1 x3072 x5366 n6039 ms6124 (IntKind.i64.wrap (x5944 + 1)))))))))))))) else some ms5942)

def spec_l02Multiply_L20 (F : Nat) (p0 : List (List Int)) (p1 : List (List Int)) (x3072 : Int) : Nat → (List (List Int)) → Int → Option (List (List Int))
  | 0, _, _ => none
  | n5750 + 1, ms5364, x5366 => ((idx p1 0).bind fun q5751 => (bif (decide (x5366 < (q5751.length : Int))) then (Option.bind (spec_l02Multiply_L21 F p0 p1 x3072 x5366 F ms5364 0) fun ms6034 => (spec_l02Multiply_L20 F p0 p1 x3072 n5750 ms6034 (IntKind.i64.wrap (x5366 + 1)))) else some ms5364))

def spec_l02Multiply_L16 (F : Nat) (p0 : List (List Int)) (p1 : List (List Int)) : Nat → (List (List Int)) → Int → Option (List (List Int))
  | 0, _, _ => none
  | n4603 + 1, ms3070, x3072 => (bif (decide (x3072 < (p0.length : Int))) then (Option.bind (spec_l02Multiply_L20 F p0 p1 x3072 F ms3070 0) fun ms5745 => (spec_l02Multiply_L16 F p0 p1 n4603 ms5745 (IntKind.i64.wrap (x3072 + 1)))) else some ms3070)

def spec_l02Multiply (F : Nat) (p0 : List (List Int)) (p1 : List (List Int)) : Option (List (List Int)) :=
  ((idx p1 0).bind fun q1 => ((spec_l02Bottom F (p0.length : Int) (q1.length : Int)).bind fun r10 => (Option.bind (spec_l02Multiply_L16 F p0 p1 F r10 0) fun ms4598 => some ms4598)))

def spec_WordMatrix_L1 (F : Nat) (p0_modes : List (List (List Int))) (p1_word : List Int) : Nat → (List (List Int)) → Int → Option (Sum (List (List Int) × Int) (List (List Int)))
  | 0, _, _ => none
  | n114 + 1, ms76, x82 => (bif (decide (x82 < (p1_word.length : Int))) then ((idx p1_word x82).bind fun q116 => ((idx p0_modes q116).bind fun q118 => ((spec_l02Multiply F q118 ms76).bind fun r127 => ((spec_IsMatrix F r127).bind fun r134 => (bif (!r134) then some (Sum.inl (([] : List (List Int)), 3)) else (spec_WordMatrix_L1 F p0_modes p1_word n114 r127 (IntKind.i64.wrap (x82 + 1)))))))) else some (Sum.inr ms76))

def spec_WordMatrix (F : Nat) (p0_modes : List (List (List Int))) (p1_word : List Int) : Option (List (List Int) × Int) :=
  ((spec_AreModes F p0_modes).bind fun r1 => (bif (!r1) then some (([] : List (List Int)), 1) else ((spec_l25Word F p0_modes p1_word).bind fun r5 => (bif (!r5) then some (([] : List (List Int)), 2) else ((idx p0_modes 0).bind fun q9 => ((spec_l02Unit F (q9.length : Int)).bind fun r18 => (Option.bind (spec_WordMatrix_L1 F p0_modes p1_word F r18 0) fun r111 => match r111 with | .inl x_ => some x_ | .inr ms105 => some (ms105, 0))))))))

def impl_within (_F : Nat) (p0_n : Int) (p1_low : Int) (p2_high : Int) : Option (Bool) :=
  (Option.bind ((bif (decide (p1_low ≤ p0_n)) then some (decide (p0_n ≤ p2_high)) else some false) : Option (Bool)) fun b2 => some b2)

def slices_IndexFunc_int64_L1 (F : Nat) (p0_s : List Int) (m_p1_f : Int → Option Bool) : Nat → Int → Option (Sum Int (Unit))
  | 0, _ => none
  | n24 + 1, x14 => (bif (decide (x14 < (p0_s.length : Int))) then ((idx p0_s x14).bind fun q26 => ((m_p1_f q26).bind fun r28 => (bif r28 then some (Sum.inl x14) else (slices_IndexFunc_int64_L1 F p0_s m_p1_f n24 (IntKind.i64.wrap (x14 + 1)))))) else some (Sum.inr ()))

def slices_IndexFunc_int64 (F : Nat) (p0_s : List Int) (m_p1_f : Int → Option Bool) : Option (Int) :=
  (Option.bind (slices_IndexFunc_int64_L1 F p0_s m_p1_f F 0) fun r21 => match r21 with | .inl x_ => some x_ | .inr _ => some (-1))

def slices_ContainsFunc_int64 (F : Nat) (p0_s : List Int) (m_p1_f : Int → Option Bool) : Option (Bool) :=
  ((slices_IndexFunc_int64 F p0_s m_p1_f).bind fun r1 => some (decide (0 ≤ r1)))

def impl_isFinite (F : Nat) (p0_n : Int) : Option (Bool) :=
  ((impl_within F p0_n (-1000000) 1000000).bind fun r1 => some r1)

def impl_IsValue (F : Nat) (p0_a : Int) : Option (Bool) :=
  (Option.bind ((bif (p0_a == (-1000000000000000)) then some true else ((impl_isFinite F p0_a).bind fun r8 => some r8)) : Option (Bool)) fun b4 => some b4)

def impl_areValues_c1 (F : Nat) (p0_n : Int) : Option (Bool) :=
  ((impl_IsValue F p0_n).bind fun r1 => some (!r1))

def impl_areValues (F : Nat) (p0_list : List Int) : Option (Bool) :=
  ((slices_ContainsFunc_int64 F p0_list (fun x0 => impl_areValues_c1 F x0)).bind fun r1 => some (!r1))

def impl_IsMatrix_c1 (F : Nat) (p0_row : List Int) (z0 : List (List Int)) : Option (Bool) :=
  (Option.bind (((idx z0 0).bind fun q16 => (bif ((p0_row.length : Int) != (q16.length : Int)) then some true else ((impl_areValues F p0_row).bind fun r26 => some (!r26)))) : Option (Bool)) fun b13 => some b13)

def slices_IndexFunc_sint64_L1 (F : Nat) (p0_s : List (List Int)) (m_p1_f : (List Int) → Option Bool) : Nat → Int → Option (Sum Int (Unit))
  | 0, _ => none
  | n45 + 1, x28 => (bif (decide (x28 < (p0_s.length : Int))) then ((idx p0_s x28).bind fun q47 => ((m_p1_f q47).bind fun r56 => (bif r56 then some (Sum.inl x28) else (slices_IndexFunc_sint64_L1 F p0_s m_p1_f n45 (IntKind.i64.wrap (x28 + 1)))))) else some (Sum.inr ()))

def slices_IndexFunc_sint64 (F : Nat) (p0_s : List (List Int)) (m_p1_f : (List Int) → Option Bool) : Option (Int) :=
  (Option.bind (slices_IndexFunc_sint64_L1 F p0_s m_p1_f F 0) fun r42 => match r42 with | .inl x_ => some x_ | .inr _ => some (-1))

def slices_ContainsFunc_sint64 (F : Nat) (p0_s : List (List Int)) (m_p1_f : (List Int) → Option Bool) : Option (Bool) :=
  ((slices_IndexFunc_sint64 F p0_s m_p1_f).bind fun r1 => some (decide (0 ≤ r1)))

def impl_IsMatrix (F : Nat) (p0_a : List (List Int)) : Option (Bool) :=
  (Option.bind (((impl_within F (p0_a.length : Int) 1 10).bind fun r19 => (bif (!r19) then some true else ((idx p0_a 0).bind fun q22 => ((impl_within F (q22.length : Int) 1 10).bind fun r31 => some (!r31))))) : Option (Bool)) fun b16 => (bif b16 then some false else ((slices_ContainsFunc_sint64 F p0_a (fun x0 => impl_IsMatrix_c1 F x0 p0_a)).bind fun r34 => some (!r34))))

def impl_isSquare (F : Nat) (p0_a : List (List Int)) : Option (Bool) :=
  (Option.bind (((impl_IsMatrix F p0_a).bind fun r16 => (bif r16 then ((idx p0_a 0).bind fun q19 => some ((p0_a.length : Int) == (q19.length : Int))) else some false)) : Option (Bool)) fun b13 => some b13)

def impl_AreModes_c1 (F : Nat) (p0_a : List (List Int)) (z0 : List (List (List Int))) : Option (Bool) :=
  (Option.bind (((impl_isSquare F p0_a).bind fun r16 => (bif (!r16) then some true else ((idx z0 0).bind fun q19 => some ((p0_a.length : Int) != (q19.length : Int))))) : Option (Bool)) fun b13 => some b13)

def slices_IndexFunc_ssint64_L1 (F : Nat) (p0_s : List (List (List Int))) (m_p1_f : (List (List Int)) → Option Bool) : Nat → Int → Option (Sum Int (Unit))
  | 0, _ => none
  | n45 + 1, x28 => (bif (decide (x28 < (p0_s.length : Int))) then ((idx p0_s x28).bind fun q47 => ((m_p1_f q47).bind fun r56 => (bif r56 then some (Sum.inl x28) else (slices_IndexFunc_ssint64_L1 F p0_s m_p1_f n45 (IntKind.i64.wrap (x28 + 1)))))) else some (Sum.inr ()))

def slices_IndexFunc_ssint64 (F : Nat) (p0_s : List (List (List Int))) (m_p1_f : (List (List Int)) → Option Bool) : Option (Int) :=
  (Option.bind (slices_IndexFunc_ssint64_L1 F p0_s m_p1_f F 0) fun r42 => match r42 with | .inl x_ => some x_ | .inr _ => some (-1))

def slices_ContainsFunc_ssint64 (F : Nat) (p0_s : List (List (List Int))) (m_p1_f : (List (List Int)) → Option Bool) : Option (Bool) :=
  ((slices_IndexFunc_ssint64 F p0_s m_p1_f).bind fun r1 => some (decide (0 ≤ r1)))

def impl_AreModes (F : Nat) (p0_modes : List (List (List Int))) : Option (Bool) :=
  (Option.bind (((impl_within F (p0_modes.length : Int) 1 4).bind fun r10 => (bif r10 then ((slices_ContainsFunc_ssint64 F p0_modes (fun x0 => impl_AreModes_c1 F x0 p0_modes)).bind fun r13 => some (!r13)) else some false)) : Option (Bool)) fun b7 => some b7)

def impl_allWithin_L1 (F : Nat) (p0_list : List Int) (p1_low : Int) (p2_high : Int) : Nat → Int → Option (Sum Bool (Unit))
  | 0, _ => none
  | n24 + 1, x14 => (bif (decide (x14 < (p0_list.length : Int))) then ((idx p0_list x14).bind fun q26 => ((impl_within F q26 p1_low p2_high).bind fun r28 => (bif (!r28) then some (Sum.inl false) else (impl_allWithin_L1 F p0_list p1_low p2_high n24 (IntKind.i64.wrap (x14 + 1)))))) else some (Sum.inr ()))

def impl_allWithin (F : Nat) (p0_list : List Int) (p1_low : Int) (p2_high : Int) : Option (Bool) :=
  (Option.bind (impl_allWithin_L1 F p0_list p1_low p2_high F 0) fun r21 => match r21 with | .inl x_ => some x_ | .inr _ => some true)

def impl_isWord (F : Nat) (p0_modes : List (List (List Int))) (p1_word : List Int) : Option (Bool) :=
  (Option.bind ((bif (decide ((p1_word.length : Int) ≤ 6)) then ((impl_allWithin F p1_word 0 (IntKind.i64.wrap ((p0_modes.length : Int) - 1))).bind fun r8 => some r8) else some false) : Option (Bool)) fun b4 => some b4)

def impl_matrixBy_L5 (F : Nat) (m_p2_entry : Int → Int → Option Int) (x324 : Int) (q500 : List Int) : Nat → (List (List Int)) → Int → Option (List (List Int))
  | 0, _, _ => none
  | n609 + 1, ms570, x572 => (bif (decide (x572 < (q500.length : Int))) then ((idx ms570 x324).bind fun q626 => ((m_p2_entry x324 x572).bind fun r631 => ((idx q626 x572).bind fun _q633 => ((upd q626 x572 r631).bind fun xs635 => ((upd ms570 x324 xs635).bind fun ms636 => (impl_matrixBy_L5 F m_p2_entry x324 q500 n609 ms636 (IntKind.i64.wrap (x572 + 1)))))))) else some ms570)

def impl_matrixBy_L4 (F : Nat) (p1_n : Int) (m_p2_entry : Int → Int → Option Int) (ms3 : List (List Int)) : Nat → (List (List Int)) → Int → Option (List (List Int))
  | 0, _, _ => none
  | n487 + 1, ms318, x324 => (bif (decide (x324 < (ms3.length : Int))) then ((mk p1_n (0 : Int)).bind fun xs491 => ((idx ms318 x324).bind fun _q492 => ((upd ms318 x324 xs491).bind fun ms497 => ((idx ms497 x324).bind fun q500 => (Option.bind (impl_matrixBy_L5 F m_p2_entry x324 q500 F ms497 0) fun ms604 => (impl_matrixBy_L4 F p1_n m_p2_entry ms3 n487 ms604 (IntKind.i64.wrap (x324 + 1)))))))) else some ms318)

def impl_matrixBy (F : Nat) (p0_m : Int) (p1_n : Int) (m_p2_entry : Int → Int → Option Int) : Option (List (List Int)) :=
  ((mk p0_m ([] : List Int)).bind fun ms3 => (Option.bind (impl_matrixBy_L4 F p1_n m_p2_entry ms3 F ms3 0) fun ms478 => some ms478))

def impl_unitMatrix_c1 (_F : Nat) (p0_i : Int) (p1_j : Int) : Option (Int) :=
  (bif (p0_i == p1_j) then some 0 else some (-1000000000000000))

def impl_unitMatrix (F : Nat) (p0_n : Int) : Option (List (List Int)) :=
  ((impl_matrixBy F p0_n p0_n (fun x0 x1 => impl_unitMatrix_c1 F x0 x1)).bind fun r1 => some r1)

def impl_times (_F : Nat) (p0_a : Int) (p1_b : Int) : Option (Int) :=
  (Option.bind ((bif (p0_a == (-1000000000000000)) then some true else some (p1_b == (-1000000000000000))) : Option (Bool)) fun b2 => (bif b2 then some (-1000000000000000) else some (IntKind.i64.wrap (p0_a + p1_b))))

def impl_multiply_c1_L1 (F : Nat) (p1_j : Int) (z1 : List (List Int)) (q1 : List Int) : Nat → Int → Int → Option (Int)
  | 0, _, _ => none
  | n66 + 1, x44, x45 => (bif (decide (x45 < (q1.length : Int))) then ((idx q1 x45).bind fun q68 => ((idx z1 x45).bind fun q70 => ((idx q70 p1_j).bind fun q79 => ((impl_times F q68 q79).bind fun r81 => (impl_multiply_c1_L1 F p1_j z1 q1 n66 (max x44 r81) (IntKind.i64.wrap (x45 + 1))))))) else some x44)

def impl_multiply_c1 (F : Nat) (p0_i : Int) (p1_j : Int) (z0 : List (List Int)) (z1 : List (List Int)) : Option (Int) :=
  ((idx z0 p0_i).bind fun q1 => (Option.bind (impl_multiply_c1_L1 F p1_j z1 q1 F (-1000000000000000) 0) fun x62 => some x62))

def impl_multiply (F : Nat) (p0_a : List (List Int)) (p1_b : List (List Int)) : Option (List (List Int)) :=
  ((idx p1_b 0).bind fun q19 => ((impl_matrixBy F (p0_a.length : Int) (q19.length : Int) (fun x0 x1 => impl_multiply_c1 F x0 x1 p0_a p1_b)).bind fun r28 => some r28))

def impl_checkedMatrix_c1 (F : Nat) (p0_row : List Int) : Option (Bool) :=
  ((impl_areValues F p0_row).bind fun r1 => some (!r1))

def impl_checkedMatrix (F : Nat) (p0_a : List (List Int)) : Option (List (List Int) × Int) :=
  ((slices_ContainsFunc_sint64 F p0_a (fun x0 => impl_checkedMatrix_c1 F x0)).bind fun r1 => (bif r1 then some (([] : List (List Int)), 3) else some (p0_a, 0)))

def impl_WordMatrix_L1 (F : Nat) (p0_modes : List (List (List Int))) (p1_word : List Int) : Nat → (List (List Int)) → Int → Option (Sum (List (List Int) × Int) (List (List Int)))
  | 0, _, _ => none
  | n132 + 1, ms88, x94 => (bif (decide (x94 < (p1_word.length : Int))) then ((idx p1_word x94).bind fun q134 => ((idx p0_modes q134).bind fun q136 => ((impl_multiply F q136 ms88).bind fun r145 => ((impl_checkedMatrix F r145).bind fun r152 => (bif (r152.2 != 0) then some (Sum.inl (([] : List (List Int)), r152.2)) else (impl_WordMatrix_L1 F p0_modes p1_word n132 r152.1 (IntKind.i64.wrap (x94 + 1)))))))) else some (Sum.inr ms88))

def impl_WordMatrix (F : Nat) (p0_modes : List (List (List Int))) (p1_word : List Int) : Option (List (List Int) × Int) :=
  ((impl_AreModes F p0_modes).bind fun r1 => (bif (!r1) then some (([] : List (List Int)), 1) else ((impl_isWord F p0_modes p1_word).bind fun r5 => (bif (!r5) then some (([] : List (List Int)), 2) else ((idx p0_modes 0).bind fun q9 => ((impl_unitMatrix F (q9.length : Int)).bind fun r18 => (Option.bind (impl_WordMatrix_L1 F p0_modes p1_word F r18 0) fun r129 => match r129 with | .inl x_ => some x_ | .inr ms123 => some (ms123, 0))))))))

def laws_eqInt64S_L1 (F : Nat) (p0_a : List Int) (p1_b : List Int) : Nat → Int → Option (Sum Bool (Unit))
  | 0, _ => none
  | n25 + 1, x15 => (bif (decide (x15 < (p0_a.length : Int))) then ((idx p0_a x15).bind fun q27 => ((idx p1_b x15).bind fun q29 => (bif (q27 != q29) then some (Sum.inl false) else (laws_eqInt64S_L1 F p0_a p1_b n25 (IntKind.i64.wrap (x15 + 1)))))) else some (Sum.inr ()))

def laws_eqInt64S (F : Nat) (p0_a : List Int) (p1_b : List Int) : Option (Bool) :=
  (bif ((p0_a.length : Int) != (p1_b.length : Int)) then some false else (Option.bind (laws_eqInt64S_L1 F p0_a p1_b F 0) fun r22 => match r22 with | .inl x_ => some x_ | .inr _ => some true))

def laws_eqInt64SS_L1 (F : Nat) (p0_a : List (List Int)) (p1_b : List (List Int)) : Nat → Int → Option (Sum Bool (Unit))
  | 0, _ => none
  | n73 + 1, x47 => (bif (decide (x47 < (p0_a.length : Int))) then ((idx p0_a x47).bind fun q75 => ((idx p1_b x47).bind fun q84 => ((laws_eqInt64S F q75 q84).bind fun r93 => (bif (!r93) then some (Sum.inl false) else (laws_eqInt64SS_L1 F p0_a p1_b n73 (IntKind.i64.wrap (x47 + 1))))))) else some (Sum.inr ()))

def laws_eqInt64SS (F : Nat) (p0_a : List (List Int)) (p1_b : List (List Int)) : Option (Bool) :=
  (bif ((p0_a.length : Int) != (p1_b.length : Int)) then some false else (Option.bind (laws_eqInt64SS_L1 F p0_a p1_b F 0) fun r70 => match r70 with | .inl x_ => some x_ | .inr _ => some true))

def laws_eqInt64SSS_L1 (F : Nat) (p0_a : List (List (List Int))) (p1_b : List (List (List Int))) : Nat → Int → Option (Sum Bool (Unit))
  | 0, _ => none
  | n73 + 1, x47 => (bif (decide (x47 < (p0_a.length : Int))) then ((idx p0_a x47).bind fun q75 => ((idx p1_b x47).bind fun q84 => ((laws_eqInt64SS F q75 q84).bind fun r93 => (bif (!r93) then some (Sum.inl false) else (laws_eqInt64SSS_L1 F p0_a p1_b n73 (IntKind.i64.wrap (x47 + 1))))))) else some (Sum.inr ()))

def laws_eqInt64SSS (F : Nat) (p0_a : List (List (List Int))) (p1_b : List (List (List Int))) : Option (Bool) :=
  (bif ((p0_a.length : Int) != (p1_b.length : Int)) then some false else (Option.bind (laws_eqInt64SSS_L1 F p0_a p1_b F 0) fun r70 => match r70 with | .inl x_ => some x_ | .inr _ => some true))

def laws_markInt64S_L1 (F : Nat) : Nat → (List Int) → Int → Int → Option ((List Int) × Int)
  | 0, _, _, _ => none
  | n30 + 1, xs15, x17, x18 => (bif (decide (x18 < (xs15.length : Int))) then ((idx xs15 x18).bind fun _q32 => ((upd xs15 x18 x17).bind fun xs34 => (laws_markInt64S_L1 F n30 xs34 (IntKind.i64.wrap (x17 + 1)) (IntKind.i64.wrap (x18 + 1))))) else some (xs15, x17))

def laws_markInt64S (F : Nat) (p0_a : List Int) (p1_k : Int) : Option ((Int) × List Int) :=
  (Option.bind (laws_markInt64S_L1 F F p0_a p1_k 0) fun (xs24, x26) => some (x26, xs24))

def laws_markInt64SS_L1 (F : Nat) : Nat → (List (List Int)) → Int → Int → Option ((List (List Int)) × Int)
  | 0, _, _, _ => none
  | n48 + 1, ms27, x29, x30 => (bif (decide (x30 < (ms27.length : Int))) then ((idx ms27 x30).bind fun q50 => ((laws_markInt64S F q50 x29).bind fun r55 => ((upd ms27 x30 r55.2).bind fun ms59 => (laws_markInt64SS_L1 F n48 ms59 r55.1 (IntKind.i64.wrap (x30 + 1)))))) else some (ms27, x29))

def laws_markInt64SS (F : Nat) (p0_a : List (List Int)) (p1_k : Int) : Option ((Int) × List (List Int)) :=
  (Option.bind (laws_markInt64SS_L1 F F p0_a p1_k 0) fun (ms42, x44) => some (x44, ms42))

def laws_markInt64SSS_L1 (F : Nat) : Nat → (List (List (List Int))) → Int → Int → Option ((List (List (List Int))) × Int)
  | 0, _, _, _ => none
  | n57 + 1, ms32, x35, x36 => (bif (decide (x36 < (ms32.length : Int))) then ((idx ms32 x36).bind fun q59 => ((laws_markInt64SS F q59 x35).bind fun r65 => ((upd ms32 x36 r65.2).bind fun ms69 => (laws_markInt64SSS_L1 F n57 ms69 r65.1 (IntKind.i64.wrap (x36 + 1)))))) else some (ms32, x35))

def laws_markInt64SSS (F : Nat) (p0_a : List (List (List Int))) (p1_k : Int) : Option ((Int) × List (List (List Int))) :=
  (Option.bind (laws_markInt64SSS_L1 F F p0_a p1_k 0) fun (ms50, x53) => some (x53, ms50))

def laws_heldInt64S_L1 (F : Nat) (p0_a : List Int) : Nat → Int → Int → Option (Sum Int (Int))
  | 0, _, _ => none
  | n21 + 1, x11, x12 => (bif (decide (x12 < (p0_a.length : Int))) then ((idx p0_a x12).bind fun q23 => (bif (q23 != x11) then some (Sum.inl (-1)) else (laws_heldInt64S_L1 F p0_a n21 (IntKind.i64.wrap (x11 + 1)) (IntKind.i64.wrap (x12 + 1))))) else some (Sum.inr x11))

def laws_heldInt64S (F : Nat) (p0_a : List Int) (p1_k : Int) : Option (Int) :=
  (Option.bind (laws_heldInt64S_L1 F p0_a F p1_k 0) fun r18 => match r18 with | .inl x_ => some x_ | .inr x17 => some x17)

def laws_heldInt64SS_L1 (F : Nat) (p0_a : List (List Int)) : Nat → Int → Int → Option (Sum Int (Int))
  | 0, _, _ => none
  | n48 + 1, x29, x30 => (bif (decide (x30 < (p0_a.length : Int))) then ((idx p0_a x30).bind fun q50 => ((laws_heldInt64S F q50 x29).bind fun r59 => (bif (decide (r59 < 0)) then some (Sum.inl (-1)) else (laws_heldInt64SS_L1 F p0_a n48 r59 (IntKind.i64.wrap (x30 + 1)))))) else some (Sum.inr x29))

def laws_heldInt64SS (F : Nat) (p0_a : List (List Int)) (p1_k : Int) : Option (Int) :=
  (Option.bind (laws_heldInt64SS_L1 F p0_a F p1_k 0) fun r45 => match r45 with | .inl x_ => some x_ | .inr x44 => some x44)

def laws_FnExactWordMatrix (F : Nat) (p0 : List (List (List Int))) (p1 : List Int) : Option (Bool) :=
  (bif (decide (1048576 < (p1.length : Int))) then some true else ((laws_szInt64SSS F p0 1048576).bind fun r2 => (bif (decide (r2 < 0)) then some true else ((laws_toInt64SSS F p0).bind fun r5 => ((laws_toInt64S F p1).bind fun r12 => ((spec_WordMatrix F r5 r12).bind fun r18 => ((laws_toInt64SSS F p0).bind fun r25 => ((laws_toInt64S F p1).bind fun r32 => ((impl_WordMatrix F r25 r32).bind fun r38 => (Option.bind (((laws_eqInt64SS F r38.1 r18.1).bind fun r51 => (bif (!r51) then some true else some (r38.2 != r18.2))) : Option (Bool)) fun b48 => (bif b48 then some false else ((laws_toInt64SSS F p0).bind fun r55 => ((laws_eqInt64SSS F r25 r55).bind fun r62 => (bif (!r62) then some false else ((laws_toInt64S F p1).bind fun r65 => ((laws_eqInt64S F r32 r65).bind fun r71 => (bif (!r71) then some false else ((laws_markInt64SSS F r25 1).bind fun r74 => ((laws_markInt64S F r32 r74.1).bind fun r78 => (Option.bind ((bif (decide (r78.1 < 0)) then some true else ((laws_eqInt64SS F r38.1 r18.1).bind fun r89 => (bif (!r89) then some true else some (r38.2 != r18.2)))) : Option (Bool)) fun b85 => (bif b85 then some false else ((laws_markInt64SS F r38.1 1).bind fun r93 => ((laws_heldInt64SS F r93.2 1).bind fun r96 => (bif (decide (r96 < 0)) then some false else (bif (r96 != r93.1) then some false else ((laws_toInt64SSS F p0).bind fun r100 => ((laws_toInt64S F p1).bind fun r107 => ((impl_WordMatrix F r100 r107).bind fun r113 => (Option.bind (((laws_eqInt64SS F r113.1 r18.1).bind fun r126 => (bif (!r126) then some true else some (r113.2 != r18.2))) : Option (Bool)) fun b123 => (bif b123 then some false else ((laws_heldInt64SS F r93.2 1).bind fun r130 => (bif (decide (r130 < 0)) then some false else (bif (r130 != r93.1) then some false else some true)))))))))))))))))))))))))))))))))

end Go.Proofs.Ytcpfhonmmpbadaa
