/- Plain models of the functions. -/
import Derived.Test.YtcpfhonmmpbadaaLiftC
namespace Go.Proofs.Ytcpfhonmmpbadaa

structure LSystem where
  A : List (List Int)
  B : List Int
  C : List Int

structure GSystem where
  A : List (List Int)
  B : List Int
  C : List Int

def laws_szInt64S (_F : Nat) (p0_a : List Int) (p1_left : Int) : Option (Int) :=
  (bif (decide ((IntKind.i64.wrap (p1_left - (p0_a.length : Int))) < 0)) then some (-1) else some (IntKind.i64.wrap (p1_left - (p0_a.length : Int))))

def laws_szInt64SS_L1 (F : Nat) (p0_a : List (List Int)) : Nat → Int → Int → Option (Sum Int (Int))
  | 0, _, _ => none
  | n49 + 1, x30, x31 => (bif (decide (x31 < (p0_a.length : Int))) then ((idx p0_a x31).bind fun q51 => ((laws_szInt64S F q51 x30).bind fun r60 => (bif (decide (r60 < 0)) then some (Sum.inl (-1)) else (laws_szInt64SS_L1 F p0_a n49 r60 (IntKind.i64.wrap (x31 + 1)))))) else some (Sum.inr x30))

def laws_szInt64SS (F : Nat) (p0_a : List (List Int)) (p1_left : Int) : Option (Int) :=
  (bif (decide ((IntKind.i64.wrap (p1_left - (p0_a.length : Int))) < 0)) then some (-1) else (Option.bind (laws_szInt64SS_L1 F p0_a F (IntKind.i64.wrap (p1_left - (p0_a.length : Int))) 0) fun r46 => match r46 with | .inl x_ => some x_ | .inr x45 => some x45))

def laws_szSystem (F : Nat) (p0_a : LSystem) (p1_left : Int) : Option (Int) :=
  ((laws_szInt64SS F p0_a.A p1_left).bind fun r2 => (bif (decide (r2 < 0)) then some (-1) else ((laws_szInt64S F p0_a.B r2).bind fun r5 => (bif (decide (r5 < 0)) then some (-1) else ((laws_szInt64S F p0_a.C r5).bind fun r8 => (bif (decide (r8 < 0)) then some (-1) else some r8))))))

def laws_toInt64S_L1 (F : Nat) (p0_a : List Int) : Nat → (List Int) → Int → Option (List Int)
  | 0, _, _ => none
  | n36 + 1, xs21, x23 => (bif (decide (x23 < (p0_a.length : Int))) then ((idx p0_a x23).bind fun q38 => ((idx xs21 x23).bind fun _q40 => ((upd xs21 x23 q38).bind fun xs42 => (laws_toInt64S_L1 F p0_a n36 xs42 (IntKind.i64.wrap (x23 + 1)))))) else some xs21)

def laws_toInt64S (F : Nat) (p0_a : List Int) : Option (List Int) :=
  ((mk (p0_a.length : Int) (0 : Int)).bind fun xs3 => (Option.bind (laws_toInt64S_L1 F p0_a F xs3 0) fun xs31 => some xs31))

def laws_toInt64SS_L1 (F : Nat) (p0_a : List (List Int)) : Nat → (List (List Int)) → Int → Option (List (List Int))
  | 0, _, _ => none
  | n100 + 1, ms60, x66 => (bif (decide (x66 < (p0_a.length : Int))) then ((idx p0_a x66).bind fun q102 => ((laws_toInt64S F q102).bind fun r111 => ((idx ms60 x66).bind fun _q117 => ((upd ms60 x66 r111).bind fun ms122 => (laws_toInt64SS_L1 F p0_a n100 ms122 (IntKind.i64.wrap (x66 + 1))))))) else some ms60)

def laws_toInt64SS (F : Nat) (p0_a : List (List Int)) : Option (List (List Int)) :=
  ((mk (p0_a.length : Int) ([] : List Int)).bind fun ms3 => (Option.bind (laws_toInt64SS_L1 F p0_a F ms3 0) fun ms91 => some ms91))

def laws_toSystem (F : Nat) (p0_a : LSystem) : Option (GSystem) :=
  ((laws_toInt64SS F p0_a.A).bind fun r4 => ((laws_toInt64S F p0_a.B).bind fun r11 => ((laws_toInt64S F p0_a.C).bind fun r17 => some (GSystem.mk r4 r11 r17))))

def spec_l01In (_F : Nat) (p0_n : Int) (p1_low : Int) (p2_high : Int) : Option (Bool) :=
  (Option.bind ((bif (decide (p1_low ≤ p0_n)) then some (decide (p0_n ≤ p2_high)) else some false) : Option (Bool)) fun b2 => some b2)

def spec_l01Finite (F : Nat) (p0_a : Int) : Option (Bool) :=
  ((spec_l01In F p0_a (-1000000) 1000000).bind fun r1 => some r1)

def spec_IsValue (F : Nat) (p0_a : Int) : Option (Bool) :=
  (Option.bind ((bif (p0_a == (-1000000000000000)) then some true else ((spec_l01Finite F p0_a).bind fun r8 => some r8)) : Option (Bool)) fun b4 => some b4)

def spec_l01All_L1 (F : Nat) (p0_list : List Int) (p1_finite : Bool) : Nat → Int → Option (Sum Bool (Unit))
  | 0, _ => none
  | n69 + 1, x44 => (bif (decide (x44 < (p0_list.length : Int))) then (Option.bind (((idx p0_list x44).bind fun q82 => ((spec_IsValue F q82).bind fun r84 => (bif (!r84) then some true else (bif p1_finite then ((idx p0_list x44).bind fun q88 => some (q88 == (-1000000000000000))) else some false)))) : Option (Bool)) fun b79 => (bif b79 then some (Sum.inl false) else (spec_l01All_L1 F p0_list p1_finite n69 (IntKind.i64.wrap (x44 + 1))))) else some (Sum.inr ()))

def spec_l01All (F : Nat) (p0_list : List Int) (p1_finite : Bool) : Option (Bool) :=
  (Option.bind (spec_l01All_L1 F p0_list p1_finite F 0) fun r66 => match r66 with | .inl x_ => some x_ | .inr _ => some true)

def spec_l02Vector (F : Nat) (p0_x : List Int) : Option (Bool) :=
  (Option.bind (((spec_l01In F (p0_x.length : Int) 1 10).bind fun r9 => (bif r9 then ((spec_l01All F p0_x false).bind fun r12 => some r12) else some false)) : Option (Bool)) fun b6 => some b6)

def spec_IsMatrix_L1 (F : Nat) (p0_a : List (List Int)) : Nat → Int → Option (Sum Bool (Unit))
  | 0, _ => none
  | n207 + 1, x138 => (bif (decide (x138 < (p0_a.length : Int))) then (Option.bind (((idx p0_a x138).bind fun q242 => ((spec_l02Vector F q242).bind fun r251 => (bif (!r251) then some true else ((idx p0_a x138).bind fun q254 => ((idx p0_a 0).bind fun q263 => some ((q254.length : Int) != (q263.length : Int))))))) : Option (Bool)) fun b239 => (bif b239 then some (Sum.inl false) else (spec_IsMatrix_L1 F p0_a n207 (IntKind.i64.wrap (x138 + 1))))) else some (Sum.inr ()))

def spec_IsMatrix (F : Nat) (p0_a : List (List Int)) : Option (Bool) :=
  (Option.bind ((bif (decide ((p0_a.length : Int) < 1)) then some true else some (decide (10 < (p0_a.length : Int)))) : Option (Bool)) fun b2 => (bif b2 then some false else (Option.bind (spec_IsMatrix_L1 F p0_a F 0) fun r204 => match r204 with | .inl x_ => some x_ | .inr _ => some true)))

def spec_l02Square (F : Nat) (p0_a : List (List Int)) : Option (Bool) :=
  (Option.bind (((spec_IsMatrix F p0_a).bind fun r16 => (bif r16 then ((idx p0_a 0).bind fun q19 => some ((p0_a.length : Int) == (q19.length : Int))) else some false)) : Option (Bool)) fun b13 => some b13)

def spec_IsSystem (F : Nat) (p0_s : GSystem) : Option (Bool) :=
  (Option.bind (((spec_l02Square F p0_s.A).bind fun r15 => (bif r15 then ((spec_l02Vector F p0_s.B).bind fun r18 => (bif r18 then ((spec_l02Vector F p0_s.C).bind fun r21 => (bif r21 then (bif ((p0_s.B.length : Int) == (p0_s.A.length : Int)) then some ((p0_s.C.length : Int) == (p0_s.A.length : Int)) else some false) else some false)) else some false)) else some false)) : Option (Bool)) fun b12 => some b12)

def spec_l24Inputs (F : Nat) (p0_list : List Int) (p1_finite : Bool) : Option (Bool) :=
  (Option.bind ((bif (decide ((p0_list.length : Int) ≤ 50)) then ((spec_l01All F p0_list p1_finite).bind fun r8 => some r8) else some false) : Option (Bool)) fun b4 => some b4)

def spec_l01Times (_F : Nat) (p0_a : Int) (p1_b : Int) : Option (Int) :=
  (Option.bind ((bif (p0_a == (-1000000000000000)) then some true else some (p1_b == (-1000000000000000))) : Option (Bool)) fun b2 => (bif b2 then some (-1000000000000000) else some (IntKind.i64.wrap (p0_a + p1_b))))

def spec_l24Dot_L1 (F : Nat) (p0_c : List Int) (p1_x : List Int) : Nat → Int → Int → Option (Int)
  | 0, _, _ => none
  | n30 + 1, x17, x18 => (bif (decide (x18 < (p0_c.length : Int))) then ((idx p0_c x18).bind fun q32 => ((idx p1_x x18).bind fun q34 => ((spec_l01Times F q32 q34).bind fun r36 => (spec_l24Dot_L1 F p0_c p1_x n30 (max x17 r36) (IntKind.i64.wrap (x18 + 1)))))) else some x17)

def spec_l24Dot (F : Nat) (p0_c : List Int) (p1_x : List Int) : Option (Int) :=
  (Option.bind (spec_l24Dot_L1 F p0_c p1_x F (-1000000000000000) 0) fun x26 => some x26)

def spec_l02Apply_L5 (F : Nat) (p0_a : List (List Int)) (p1_x : List Int) (x174 : Int) : Nat → Int → Int → Option (Int)
  | 0, _, _ => none
  | n321 + 1, x299, x300 => (bif (decide (x300 < (p1_x.length : Int))) then ((idx p0_a x174).bind fun q323 => ((idx q323 x300).bind fun q332 => ((idx p1_x x300).bind fun q334 => ((spec_l01Times F q332 q334).bind fun r336 => (spec_l02Apply_L5 F p0_a p1_x x174 n321 (max x299 r336) (IntKind.i64.wrap (x300 + 1))))))) else some x299)

def spec_l02Apply_L4 (F : Nat) (p0_a : List (List Int)) (p1_x : List Int) : Nat → (List Int) → Int → Option (List Int)
  | 0, _, _ => none
  | n263 + 1, xs169, x174 => (bif (decide (x174 < (p0_a.length : Int))) then (Option.bind (spec_l02Apply_L5 F p0_a p1_x x174 F (-1000000000000000) 0) fun x317 => ((app xs169 ([x317])).bind fun xs342 => (spec_l02Apply_L4 F p0_a p1_x n263 xs342 (IntKind.i64.wrap (x174 + 1))))) else some xs169)

def spec_l02Apply (F : Nat) (p0_a : List (List Int)) (p1_x : List Int) : Option (List Int) :=
  (Option.bind (spec_l02Apply_L4 F p0_a p1_x F ([] : List Int) 0) fun xs255 => some xs255)

def spec_l24Response_L1 (F : Nat) (p0_s : GSystem) (p1_n : Int) : Nat → (List Int) → (List Int) → Int → Option (Sum (List Int × Bool) (List Int))
  | 0, _, _, _ => none
  | n133 + 1, xs79, xs84, x95 => (bif (decide (x95 < p1_n)) then ((spec_l24Dot F p0_s.C xs84).bind fun r135 => (Option.bind (((spec_l01All F xs84 false).bind fun r145 => (bif (!r145) then some true else ((spec_IsValue F r135).bind fun r148 => some (!r148)))) : Option (Bool)) fun b142 => (bif b142 then some (Sum.inl (([] : List Int), false)) else ((app xs79 ([r135])).bind fun xs156 => ((spec_l02Apply F p0_s.A xs84).bind fun r158 => (spec_l24Response_L1 F p0_s p1_n n133 xs156 r158 (IntKind.i64.wrap (x95 + 1)))))))) else some (Sum.inr xs79))

def spec_l24Response (F : Nat) (p0_s : GSystem) (p1_n : Int) : Option (List Int × Bool) :=
  (Option.bind (spec_l24Response_L1 F p0_s p1_n F ([] : List Int) p0_s.B 0) fun r130 => match r130 with | .inl x_ => some x_ | .inr xs125 => some (xs125, true))

def spec_LatestInputs_L5 (F : Nat) (p1 : List Int) (r21 : List Int × Bool) (x146 : Int) : Nat → Int → Int → Option (Int)
  | 0, _, _ => none
  | n245 + 1, x231, x232 => (bif (decide (x232 < (p1.length : Int))) then ((idx r21.1 (IntKind.i64.wrap (x232 - x146))).bind fun q247 => (bif (q247 != (-1000000000000000)) then ((idx p1 x232).bind fun q250 => ((idx r21.1 (IntKind.i64.wrap (x232 - x146))).bind fun q252 => (spec_LatestInputs_L5 F p1 r21 x146 n245 (min x231 (IntKind.i64.wrap (q250 - q252))) (IntKind.i64.wrap (x232 + 1))))) else (spec_LatestInputs_L5 F p1 r21 x146 n245 x231 (IntKind.i64.wrap (x232 + 1))))) else some x231)

def spec_LatestInputs_L4 (F : Nat) (p1 : List Int) (r21 : List Int × Bool) : Nat → (List Int) → Int → Option (List Int)
  | 0, _, _ => none
  | n207 + 1, xs141, x146 => (bif (decide (x146 < (p1.length : Int))) then ((idx p1 x146).bind fun q209 => ((idx r21.1 0).bind fun q211 => (Option.bind (spec_LatestInputs_L5 F p1 r21 x146 F (IntKind.i64.wrap (q209 - q211)) x146) fun x241 => ((app xs141 ([x241])).bind fun xs258 => (spec_LatestInputs_L4 F p1 r21 n207 xs258 (IntKind.i64.wrap (x146 + 1))))))) else some xs141)

def spec_LatestInputs (F : Nat) (p0 : GSystem) (p1 : List Int) : Option (List Int × Int) :=
  (Option.bind (((spec_IsSystem F p0).bind fun r10 => (bif (!r10) then some true else ((spec_l24Inputs F p1 true).bind fun r13 => some (!r13)))) : Option (Bool)) fun b7 => (bif b7 then some (([] : List Int), 1) else ((spec_l24Dot F p0.C p0.B).bind fun r17 => (bif (r17 == (-1000000000000000)) then some (([] : List Int), 5) else ((spec_l24Response F p0 (p1.length : Int)).bind fun r21 => (bif (!r21.2) then some (([] : List Int), 3) else (Option.bind (spec_LatestInputs_L4 F p1 r21 F ([] : List Int) 0) fun xs199 => ((spec_l01All F xs199 true).bind fun r260 => (bif (!r260) then some (([] : List Int), 3) else some (xs199, 0))))))))))

def impl_within (_F : Nat) (p0_n : Int) (p1_low : Int) (p2_high : Int) : Option (Bool) :=
  (Option.bind ((bif (decide (p1_low ≤ p0_n)) then some (decide (p0_n ≤ p2_high)) else some false) : Option (Bool)) fun b2 => some b2)

def slices_IndexFunc_int64_L1 (F : Nat) (p0_s : List Int) (m_p1_f : Int → Option Bool) : Nat → Int → Option (Sum Int (Unit))
  | 0, _ => none
  | n24 + 1, x14 => (bif (decide (x14 < (p0_s.length : Int))) then ((idx p0_s x14).bind fun q26 => ((m_p1_f q26).bind fun r28 => (bif r28 then some (Sum.inl x14) else (slices_IndexFunc_int64_L1 F p0_s m_p1_f n24 (IntKind.i64.wrap (x14 + 1)))))) else some (Sum.inr ()))

def slices_IndexFunc_int64 (F : Nat) (p0_s : List Int) (m_p1_f : Int → Option Bool) : Option (Int) :=
  (Option.bind (slices_IndexFunc_int64_L1 F p0_s m_p1_f F 0) fun r21 => match r21 with | .inl x_ => some x_ | .inr _ => some (-1))

def slices_ContainsFunc_int64 (F : Nat) (p0_s : List Int) (m_p1_f : Int → Option Bool) : Option (Bool) :=
  ((slices_IndexFunc_int64 F p0_s m_p1_f).bind fun r1 => some (decide (0 ≤ r1)))

def impl_isFinite (F : Nat) (p0_n : Int) : Option (Bool) :=
  ((impl_within F p0_n (-1000000) 1000000).bind fun r1 => some r1)

def impl_IsValue (F : Nat) (p0_a : Int) : Option (Bool) :=
  (Option.bind ((bif (p0_a == (-1000000000000000)) then some true else ((impl_isFinite F p0_a).bind fun r8 => some r8)) : Option (Bool)) fun b4 => some b4)

def impl_areValues_c1 (F : Nat) (p0_n : Int) : Option (Bool) :=
  ((impl_IsValue F p0_n).bind fun r1 => some (!r1))

def impl_areValues (F : Nat) (p0_list : List Int) : Option (Bool) :=
  ((slices_ContainsFunc_int64 F p0_list (fun x0 => impl_areValues_c1 F x0)).bind fun r1 => some (!r1))

def impl_IsMatrix_c1 (F : Nat) (p0_row : List Int) (z0 : List (List Int)) : Option (Bool) :=
  (Option.bind (((idx z0 0).bind fun q16 => (bif ((p0_row.length : Int) != (q16.length : Int)) then some true else ((impl_areValues F p0_row).bind fun r26 => some (!r26)))) : Option (Bool)) fun b13 => some b13)

def slices_IndexFunc_sint64_L1 (F : Nat) (p0_s : List (List Int)) (m_p1_f : (List Int) → Option Bool) : Nat → Int → Option (Sum Int (Unit))
  | 0, _ => none
  | n45 + 1, x28 => (bif (decide (x28 < (p0_s.length : Int))) then ((idx p0_s x28).bind fun q47 => ((m_p1_f q47).bind fun r56 => (bif r56 then some (Sum.inl x28) else (slices_IndexFunc_sint64_L1 F p0_s m_p1_f n45 (IntKind.i64.wrap (x28 + 1)))))) else some (Sum.inr ()))

def slices_IndexFunc_sint64 (F : Nat) (p0_s : List (List Int)) (m_p1_f : (List Int) → Option Bool) : Option (Int) :=
  (Option.bind (slices_IndexFunc_sint64_L1 F p0_s m_p1_f F 0) fun r42 => match r42 with | .inl x_ => some x_ | .inr _ => some (-1))

def slices_ContainsFunc_sint64 (F : Nat) (p0_s : List (List Int)) (m_p1_f : (List Int) → Option Bool) : Option (Bool) :=
  ((slices_IndexFunc_sint64 F p0_s m_p1_f).bind fun r1 => some (decide (0 ≤ r1)))

def impl_IsMatrix (F : Nat) (p0_a : List (List Int)) : Option (Bool) :=
  (Option.bind (((impl_within F (p0_a.length : Int) 1 10).bind fun r19 => (bif (!r19) then some true else ((idx p0_a 0).bind fun q22 => ((impl_within F (q22.length : Int) 1 10).bind fun r31 => some (!r31))))) : Option (Bool)) fun b16 => (bif b16 then some false else ((slices_ContainsFunc_sint64 F p0_a (fun x0 => impl_IsMatrix_c1 F x0 p0_a)).bind fun r34 => some (!r34))))

def impl_isSquare (F : Nat) (p0_a : List (List Int)) : Option (Bool) :=
  (Option.bind (((impl_IsMatrix F p0_a).bind fun r16 => (bif r16 then ((idx p0_a 0).bind fun q19 => some ((p0_a.length : Int) == (q19.length : Int))) else some false)) : Option (Bool)) fun b13 => some b13)

def impl_isVector (F : Nat) (p0_x : List Int) : Option (Bool) :=
  (Option.bind (((impl_within F (p0_x.length : Int) 1 10).bind fun r9 => (bif r9 then ((impl_areValues F p0_x).bind fun r12 => some r12) else some false)) : Option (Bool)) fun b6 => some b6)

def impl_IsSystem (F : Nat) (p0_s : GSystem) : Option (Bool) :=
  (Option.bind (((impl_isSquare F p0_s.A).bind fun r15 => (bif r15 then ((impl_isVector F p0_s.B).bind fun r18 => (bif r18 then ((impl_isVector F p0_s.C).bind fun r21 => (bif r21 then (bif ((p0_s.B.length : Int) == (p0_s.A.length : Int)) then some ((p0_s.C.length : Int) == (p0_s.A.length : Int)) else some false) else some false)) else some false)) else some false)) : Option (Bool)) fun b12 => some b12)

def impl_allWithin_L1 (F : Nat) (p0_list : List Int) (p1_low : Int) (p2_high : Int) : Nat → Int → Option (Sum Bool (Unit))
  | 0, _ => none
  | n24 + 1, x14 => (bif (decide (x14 < (p0_list.length : Int))) then ((idx p0_list x14).bind fun q26 => ((impl_within F q26 p1_low p2_high).bind fun r28 => (bif (!r28) then some (Sum.inl false) else (impl_allWithin_L1 F p0_list p1_low p2_high n24 (IntKind.i64.wrap (x14 + 1)))))) else some (Sum.inr ()))

def impl_allWithin (F : Nat) (p0_list : List Int) (p1_low : Int) (p2_high : Int) : Option (Bool) :=
  (Option.bind (impl_allWithin_L1 F p0_list p1_low p2_high F 0) fun r21 => match r21 with | .inl x_ => some x_ | .inr _ => some true)

def impl_times (_F : Nat) (p0_a : Int) (p1_b : Int) : Option (Int) :=
  (Option.bind ((bif (p0_a == (-1000000000000000)) then some true else some (p1_b == (-1000000000000000))) : Option (Bool)) fun b2 => (bif b2 then some (-1000000000000000) else some (IntKind.i64.wrap (p0_a + p1_b))))

def impl_innerProduct_L1 (F : Nat) (p0_a : List Int) (p1_b : List Int) : Nat → Int → Int → Option (Int)
  | 0, _, _ => none
  | n30 + 1, x17, x18 => (bif (decide (x18 < (p0_a.length : Int))) then ((idx p0_a x18).bind fun q32 => ((idx p1_b x18).bind fun q34 => ((impl_times F q32 q34).bind fun r36 => (impl_innerProduct_L1 F p0_a p1_b n30 (max x17 r36) (IntKind.i64.wrap (x18 + 1)))))) else some x17)

def impl_innerProduct (F : Nat) (p0_a : List Int) (p1_b : List Int) : Option (Int) :=
  (Option.bind (impl_innerProduct_L1 F p0_a p1_b F (-1000000000000000) 0) fun x26 => some x26)

def slices_Clone_int64 (_F : Nat) (p0_s : List Int) : Option (List Int) :=
  ((app ([] : List Int) p0_s).bind fun xs5 => some xs5)

def impl_timesVector_L5 (F : Nat) (p1_x : List Int) (x245 : Int) (q371 : List Int) : Nat → (List Int) → Int → Option (List Int)
  | 0, _, _ => none
  | n464 + 1, xs433, x435 => (bif (decide (x435 < (q371.length : Int))) then ((idx q371 x435).bind fun q466 => ((idx xs433 x245).bind fun q478 => ((idx p1_x x435).bind fun q480 => ((impl_times F q466 q480).bind fun r482 => ((idx xs433 x245).bind fun _q484 => ((upd xs433 x245 (max q478 r482)).bind fun xs486 => (impl_timesVector_L5 F p1_x x245 q371 n464 xs486 (IntKind.i64.wrap (x435 + 1))))))))) else some xs433)

def impl_timesVector_L4 (F : Nat) (p0_a : List (List Int)) (p1_x : List Int) : Nat → (List Int) → Int → Option (List Int)
  | 0, _, _ => none
  | n369 + 1, xs243, x245 => (bif (decide (x245 < (p0_a.length : Int))) then ((idx p0_a x245).bind fun q371 => ((idx xs243 x245).bind fun _q380 => ((upd xs243 x245 (-1000000000000000)).bind fun xs382 => (Option.bind (impl_timesVector_L5 F p1_x x245 q371 F xs382 0) fun xs459 => (impl_timesVector_L4 F p0_a p1_x n369 xs459 (IntKind.i64.wrap (x245 + 1))))))) else some xs243)

def impl_timesVector (F : Nat) (p0_a : List (List Int)) (p1_x : List Int) : Option (List Int) :=
  ((mk (p0_a.length : Int) (0 : Int)).bind fun xs3 => (Option.bind (impl_timesVector_L4 F p0_a p1_x F xs3 0) fun xs364 => some xs364))

def impl_responseOf_L1 (F : Nat) (p0_s : GSystem) (p1_n : Int) : Nat → (List Int) → (List Int) → Int → Option (Sum (List Int × Int) (List Int))
  | 0, _, _, _ => none
  | n173 + 1, xs109, xs115, x120 => (bif (decide (x120 < p1_n)) then (Option.bind ((bif (decide (0 < x120)) then ((impl_timesVector F p0_s.A xs109).bind fun r190 => some r190) else some xs109) : Option (List Int)) fun xs182 => ((impl_innerProduct F p0_s.C xs182).bind fun r196 => (Option.bind (((impl_areValues F xs182).bind fun r206 => (bif (!r206) then some true else ((impl_IsValue F r196).bind fun r209 => some (!r209)))) : Option (Bool)) fun b203 => (bif b203 then some (Sum.inl (([] : List Int), 3)) else ((app xs115 ([r196])).bind fun xs217 => (impl_responseOf_L1 F p0_s p1_n n173 xs182 xs217 (IntKind.i64.wrap (x120 + 1)))))))) else some (Sum.inr xs115))

def impl_responseOf (F : Nat) (p0_s : GSystem) (p1_n : Int) : Option (List Int × Int) :=
  ((slices_Clone_int64 F p0_s.B).bind fun r2 => (Option.bind (impl_responseOf_L1 F p0_s p1_n F r2 ([] : List Int) 0) fun r170 => match r170 with | .inl x_ => some x_ | .inr xs165 => some (xs165, 0)))

def impl_checkedVector (F : Nat) (p0_x : List Int) : Option (List Int × Int) :=
  ((impl_areValues F p0_x).bind fun r1 => (bif (!r1) then some (([] : List Int), 3) else some (p0_x, 0)))

def impl_LatestInputs_L5 (F : Nat) (p1 : List Int) (r23 : List Int × Int) (x289 : Int) : Nat → (List Int) → Int → Option (List Int)
  | 0, _, _ => none
  | n521 + 1, xs489, x491 => (bif (decide (x491 < (p1.length : Int))) then ((idx r23.1 (IntKind.i64.wrap (x491 - x289))).bind fun q523 => (bif (q523 != (-1000000000000000)) then ((idx xs489 x289).bind fun q536 => ((idx p1 x491).bind fun q538 => ((idx r23.1 (IntKind.i64.wrap (x491 - x289))).bind fun q540 => ((idx xs489 x289).bind fun _q542 => ((upd xs489 x289 (min q536 (IntKind.i64.wrap (q538 - q540)))).bind fun xs544 => (impl_LatestInputs_L5 F p1 r23 x289 n521 xs544 (IntKind.i64.wrap (x491 + 1)))))))) else (impl_LatestInputs_L5 F p1 r23 x289 n521 xs489 (IntKind.i64.wrap (x491 + 1))))) else some xs489)

def impl_LatestInputs_L4 (F : Nat) (p1 : List Int) (r23 : List Int × Int) (xs33 : List Int) : Nat → (List Int) → Int → Option (List Int)
  | 0, _, _ => none
  | n420 + 1, xs287, x289 => (bif (decide (x289 < (xs33.length : Int))) then ((idx p1 x289).bind fun q430 => ((idx r23.1 0).bind fun q432 => ((idx xs287 x289).bind fun _q434 => ((upd xs287 x289 (IntKind.i64.wrap (q430 - q432))).bind fun xs436 => (Option.bind (impl_LatestInputs_L5 F p1 r23 x289 F xs436 x289) fun xs516 => (impl_LatestInputs_L4 F p1 r23 xs33 n420 xs516 (IntKind.i64.wrap (x289 + 1)))))))) else some xs287)

def impl_LatestInputs (F : Nat) (p0 : GSystem) (p1 : List Int) : Option (List Int × Int) :=
  (Option.bind (((impl_IsSystem F p0).bind fun r11 => (bif (!r11) then some true else (bif (decide (50 < (p1.length : Int))) then some true else ((impl_allWithin F p1 (-1000000) 1000000).bind fun r15 => some (!r15))))) : Option (Bool)) fun b8 => (bif b8 then some (([] : List Int), 1) else ((impl_innerProduct F p0.C p0.B).bind fun r19 => (bif (r19 == (-1000000000000000)) then some (([] : List Int), 5) else ((impl_responseOf F p0 (p1.length : Int)).bind fun r23 => (bif (r23.2 != 0) then some (([] : List Int), r23.2) else ((mk (p1.length : Int) (0 : Int)).bind fun xs33 => (Option.bind (impl_LatestInputs_L4 F p1 r23 xs33 F xs33 0) fun xs415 => ((impl_checkedVector F xs415).bind fun r546 => some (r546.1, r546.2))))))))))

def laws_eqInt64S_L1 (F : Nat) (p0_a : List Int) (p1_b : List Int) : Nat → Int → Option (Sum Bool (Unit))
  | 0, _ => none
  | n25 + 1, x15 => (bif (decide (x15 < (p0_a.length : Int))) then ((idx p0_a x15).bind fun q27 => ((idx p1_b x15).bind fun q29 => (bif (q27 != q29) then some (Sum.inl false) else (laws_eqInt64S_L1 F p0_a p1_b n25 (IntKind.i64.wrap (x15 + 1)))))) else some (Sum.inr ()))

def laws_eqInt64S (F : Nat) (p0_a : List Int) (p1_b : List Int) : Option (Bool) :=
  (bif ((p0_a.length : Int) != (p1_b.length : Int)) then some false else (Option.bind (laws_eqInt64S_L1 F p0_a p1_b F 0) fun r22 => match r22 with | .inl x_ => some x_ | .inr _ => some true))

def laws_eqInt64SS_L1 (F : Nat) (p0_a : List (List Int)) (p1_b : List (List Int)) : Nat → Int → Option (Sum Bool (Unit))
  | 0, _ => none
  | n73 + 1, x47 => (bif (decide (x47 < (p0_a.length : Int))) then ((idx p0_a x47).bind fun q75 => ((idx p1_b x47).bind fun q84 => ((laws_eqInt64S F q75 q84).bind fun r93 => (bif (!r93) then some (Sum.inl false) else (laws_eqInt64SS_L1 F p0_a p1_b n73 (IntKind.i64.wrap (x47 + 1))))))) else some (Sum.inr ()))

def laws_eqInt64SS (F : Nat) (p0_a : List (List Int)) (p1_b : List (List Int)) : Option (Bool) :=
  (bif ((p0_a.length : Int) != (p1_b.length : Int)) then some false else (Option.bind (laws_eqInt64SS_L1 F p0_a p1_b F 0) fun r70 => match r70 with | .inl x_ => some x_ | .inr _ => some true))

def laws_eqSystem (F : Nat) (p0_a : GSystem) (p1_b : GSystem) : Option (Bool) :=
  ((laws_eqInt64SS F p0_a.A p1_b.A).bind fun r3 => (bif (!r3) then some false else ((laws_eqInt64S F p0_a.B p1_b.B).bind fun r6 => (bif (!r6) then some false else ((laws_eqInt64S F p0_a.C p1_b.C).bind fun r9 => (bif (!r9) then some false else some true))))))

def laws_markInt64S_L1 (F : Nat) : Nat → (List Int) → Int → Int → Option ((List Int) × Int)
  | 0, _, _, _ => none
  | n30 + 1, xs15, x17, x18 => (bif (decide (x18 < (xs15.length : Int))) then ((idx xs15 x18).bind fun _q32 => ((upd xs15 x18 x17).bind fun xs34 => (laws_markInt64S_L1 F n30 xs34 (IntKind.i64.wrap (x17 + 1)) (IntKind.i64.wrap (x18 + 1))))) else some (xs15, x17))

def laws_markInt64S (F : Nat) (p0_a : List Int) (p1_k : Int) : Option ((Int) × List Int) :=
  (Option.bind (laws_markInt64S_L1 F F p0_a p1_k 0) fun (xs24, x26) => some (x26, xs24))

def laws_markInt64SS_L1 (F : Nat) : Nat → (List (List Int)) → Int → Int → Option ((List (List Int)) × Int)
  | 0, _, _, _ => none
  | n48 + 1, ms27, x29, x30 => (bif (decide (x30 < (ms27.length : Int))) then ((idx ms27 x30).bind fun q50 => ((laws_markInt64S F q50 x29).bind fun r55 => ((upd ms27 x30 r55.2).bind fun ms59 => (laws_markInt64SS_L1 F n48 ms59 r55.1 (IntKind.i64.wrap (x30 + 1)))))) else some (ms27, x29))

def laws_markInt64SS (F : Nat) (p0_a : List (List Int)) (p1_k : Int) : Option ((Int) × List (List Int)) :=
  (Option.bind (laws_markInt64SS_L1 F F p0_a p1_k 0) fun (ms42, x44) => some (x44, ms42))

def laws_markSystem (F : Nat) (p0_a : GSystem) (p1_k : Int) : Option ((Int) × List (List Int) × List Int × List Int) :=
  ((laws_markInt64SS F p0_a.A p1_k).bind fun r2 => ((laws_markInt64S F p0_a.B r2.1).bind fun r5 => ((laws_markInt64S F p0_a.C r5.1).bind fun r8 => some (r8.1, r2.2, r5.2, r8.2))))

def laws_heldInt64S_L1 (F : Nat) (p0_a : List Int) : Nat → Int → Int → Option (Sum Int (Int))
  | 0, _, _ => none
  | n21 + 1, x11, x12 => (bif (decide (x12 < (p0_a.length : Int))) then ((idx p0_a x12).bind fun q23 => (bif (q23 != x11) then some (Sum.inl (-1)) else (laws_heldInt64S_L1 F p0_a n21 (IntKind.i64.wrap (x11 + 1)) (IntKind.i64.wrap (x12 + 1))))) else some (Sum.inr x11))

def laws_heldInt64S (F : Nat) (p0_a : List Int) (p1_k : Int) : Option (Int) :=
  (Option.bind (laws_heldInt64S_L1 F p0_a F p1_k 0) fun r18 => match r18 with | .inl x_ => some x_ | .inr x17 => some x17)

def laws_FnExactLatestInputs (F : Nat) (p0 : LSystem) (p1 : List Int) : Option (Bool) :=
  (bif (decide (1048576 < (p1.length : Int))) then some true else ((laws_szSystem F p0 1048576).bind fun r3 => (bif (decide (r3 < 0)) then some true else ((laws_toSystem F p0).bind fun r6 => ((laws_toInt64S F p1).bind fun r21 => ((spec_LatestInputs F r6 r21).bind fun r27 => ((laws_toSystem F p0).bind fun r33 => ((laws_toInt64S F p1).bind fun r49 => ((impl_LatestInputs F r33 r49).bind fun r55 => (Option.bind (((laws_eqInt64S F r55.1 r27.1).bind fun r67 => (bif (!r67) then some true else some (r55.2 != r27.2))) : Option (Bool)) fun b64 => (bif b64 then some false else ((laws_toSystem F p0).bind fun r88 => ((laws_eqSystem F r33 r88).bind fun r103 => (bif (!r103) then some false else ((laws_toInt64S F p1).bind fun r106 => ((laws_eqInt64S F r49 r106).bind fun r112 => (bif (!r112) then some false else ((laws_markSystem F r33 1).bind fun r115 => ((laws_markInt64S F r49 r115.1).bind fun r120 => (Option.bind ((bif (decide (r120.1 < 0)) then some true else ((laws_eqInt64S F r55.1 r27.1).bind fun r131 => (bif (!r131) then some true else some (r55.2 != r27.2)))) : Option (Bool)) fun b127 => (bif b127 then some false else ((laws_markInt64S F r55.1 1).bind fun r135 => ((laws_heldInt64S F r135.2 1).bind fun r138 => (bif (decide (r138 < 0)) then some false else (bif (r138 != r135.1) then some false else ((laws_toSystem F p0).bind fun r142 => ((laws_toInt64S F p1).bind fun r157 => ((impl_LatestInputs F r142 r157).bind fun r163 => (Option.bind (((laws_eqInt64S F r163.1 r27.1).bind fun r175 => (bif (!r175) then some true else some (r163.2 != r27.2))) : Option (Bool)) fun b172 => (bif b172 then some false else ((laws_heldInt64S F r135.2 1).bind fun r179 => (bif (decide (r179 < 0)) then some false else (bif (r179 != r135.1) then some false else some true)))))))))))))))))))))))))))))))))

end Go.Proofs.Ytcpfhonmmpbadaa
