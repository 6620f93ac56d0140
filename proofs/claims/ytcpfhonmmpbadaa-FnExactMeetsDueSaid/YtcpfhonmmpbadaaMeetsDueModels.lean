/- Plain models of the functions. -/
import Derived.Test.YtcpfhonmmpbadaaLiftK
namespace Go.Proofs.Ytcpfhonmmpbadaa

structure LSystem where
  A : List (List Int)
  B : List Int
  C : List Int

structure GSystem where
  A : List (List Int)
  B : List Int
  C : List Int

def laws_szInt64S (_F : Nat) (p0_a : List Int) (p1_left : Int) : Option (Int) :=
  (bif (decide ((IntKind.i64.wrap (p1_left - (p0_a.length : Int))) < 0)) then some (-1) else some (IntKind.i64.wrap (p1_left - (p0_a.length : Int))))

def laws_szInt64SS_L1 (F : Nat) (p0_a : List (List Int)) : Nat → Int → Int → Option (Sum Int (Int))
  | 0, _, _ => none
  | n49 + 1, x30, x31 => (bif (decide (x31 < (p0_a.length : Int))) then ((idx p0_a x31).bind fun q51 => ((laws_szInt64S F q51 x30).bind fun r60 => (bif (decide (r60 < 0)) then some (Sum.inl (-1)) else (laws_szInt64SS_L1 F p0_a n49 r60 (IntKind.i64.wrap (x31 + 1)))))) else some (Sum.inr x30))

def laws_szInt64SS (F : Nat) (p0_a : List (List Int)) (p1_left : Int) : Option (Int) :=
  (bif (decide ((IntKind.i64.wrap (p1_left - (p0_a.length : Int))) < 0)) then some (-1) else (Option.bind (laws_szInt64SS_L1 F p0_a F (IntKind.i64.wrap (p1_left - (p0_a.length : Int))) 0) fun r46 => match r46 with | .inl x_ => some x_ | .inr x45 => some x45))

def laws_szSystem (F : Nat) (p0_a : LSystem) (p1_left : Int) : Option (Int) :=
  ((laws_szInt64SS F p0_a.A p1_left).bind fun r2 => (bif (decide (r2 < 0)) then some (-1) else ((laws_szInt64S F p0_a.B r2).bind fun r5 => (bif (decide (r5 < 0)) then some (-1) else ((laws_szInt64S F p0_a.C r5).bind fun r8 => (bif (decide (r8 < 0)) then some (-1) else some r8))))))

def laws_toInt64S_L1 (F : Nat) (p0_a : List Int) : Nat → (List Int) → Int → Option (List Int)
  | 0, _, _ => none
  | n36 + 1, xs21, x23 => (bif (decide (x23 < (p0_a.length : Int))) then ((idx p0_a x23).bind fun q38 => ((idx xs21 x23).bind fun _q40 => ((upd xs21 x23 q38).bind fun xs42 => (laws_toInt64S_L1 F p0_a n36 xs42 (IntKind.i64.wrap (x23 + 1)))))) else some xs21)

def laws_toInt64S (F : Nat) (p0_a : List Int) : Option (List Int) :=
  ((mk (p0_a.length : Int) (0 : Int)).bind fun xs3 => (Option.bind (laws_toInt64S_L1 F p0_a F xs3 0) fun xs31 => some xs31))

def laws_toInt64SS_L1 (F : Nat) (p0_a : List (List Int)) : Nat → (List (List Int)) → Int → Option (List (List Int))
  | 0, _, _ => none
  | n100 + 1, ms60, x66 => (bif (decide (x66 < (p0_a.length : Int))) then ((idx p0_a x66).bind fun q102 => ((laws_toInt64S F q102).bind fun r111 => ((idx ms60 x66).bind fun _q117 => ((upd ms60 x66 r111).bind fun ms122 => (laws_toInt64SS_L1 F p0_a n100 ms122 (IntKind.i64.wrap (x66 + 1))))))) else some ms60)

def laws_toInt64SS (F : Nat) (p0_a : List (List Int)) : Option (List (List Int)) :=
  ((mk (p0_a.length : Int) ([] : List Int)).bind fun ms3 => (Option.bind (laws_toInt64SS_L1 F p0_a F ms3 0) fun ms91 => some ms91))

def laws_toSystem (F : Nat) (p0_a : LSystem) : Option (GSystem) :=
  ((laws_toInt64SS F p0_a.A).bind fun r4 => ((laws_toInt64S F p0_a.B).bind fun r11 => ((laws_toInt64S F p0_a.C).bind fun r17 => some (GSystem.mk r4 r11 r17))))

def spec_l01In (_F : Nat) (p0_n : Int) (p1_low : Int) (p2_high : Int) : Option (Bool) :=
  (Option.bind ((bif (decide (p1_low ≤ p0_n)) then some (decide (p0_n ≤ p2_high)) else some false) : Option (Bool)) fun b2 => some b2)

def spec_l01Finite (F : Nat) (p0_a : Int) : Option (Bool) :=
  ((spec_l01In F p0_a (-1000000) 1000000).bind fun r1 => some r1)

def spec_IsValue (F : Nat) (p0_a : Int) : Option (Bool) :=
  (Option.bind ((bif (p0_a == (-1000000000000000)) then some true else ((spec_l01Finite F p0_a).bind fun r8 => some r8)) : Option (Bool)) fun b4 => some b4)

def spec_l01All_L1 (F : Nat) (p0_list : List Int) (p1_finite : Bool) : Nat → Int → Option (Sum Bool (Unit))
  | 0, _ => none
  | n69 + 1, x44 => (bif (decide (x44 < (p0_list.length : Int))) then (Option.bind (((idx p0_list x44).bind fun q82 => ((spec_IsValue F q82).bind fun r84 => (bif (!r84) then some true else (bif p1_finite then ((idx p0_list x44).bind fun q88 => some (q88 == (-1000000000000000))) else some false)))) : Option (Bool)) fun b79 => (bif b79 then some (Sum.inl false) else (spec_l01All_L1 F p0_list p1_finite n69 (IntKind.i64.wrap (x44 + 1))))) else some (Sum.inr ()))

def spec_l01All (F : Nat) (p0_list : List Int) (p1_finite : Bool) : Option (Bool) :=
  (Option.bind (spec_l01All_L1 F p0_list p1_finite F 0) fun r66 => match r66 with | .inl x_ => some x_ | .inr _ => some true)

def spec_l02Vector (F : Nat) (p0_x : List Int) : Option (Bool) :=
  (Option.bind (((spec_l01In F (p0_x.length : Int) 1 10).bind fun r9 => (bif r9 then ((spec_l01All F p0_x false).bind fun r12 => some r12) else some false)) : Option (Bool)) fun b6 => some b6)

def spec_IsMatrix_L1 (F : Nat) (p0_a : List (List Int)) : Nat → Int → Option (Sum Bool (Unit))
  | 0, _ => none
  | n207 + 1, x138 => (bif (decide (x138 < (p0_a.length : Int))) then (Option.bind (((idx p0_a x138).bind fun q242 => ((spec_l02Vector F q242).bind fun r251 => (bif (!r251) then some true else ((idx p0_a x138).bind fun q254 => ((idx p0_a 0).bind fun q263 => some ((q254.length : Int) != (q263.length : Int))))))) : Option (Bool)) fun b239 => (bif b239 then some (Sum.inl false) else (spec_IsMatrix_L1 F p0_a n207 (IntKind.i64.wrap (x138 + 1))))) else some (Sum.inr ()))

def spec_IsMatrix (F : Nat) (p0_a : List (List Int)) : Option (Bool) :=
  (Option.bind ((bif (decide ((p0_a.length : Int) < 1)) then some true else some (decide (10 < (p0_a.length : Int)))) : Option (Bool)) fun b2 => (bif b2 then some false else (Option.bind (spec_IsMatrix_L1 F p0_a F 0) fun r204 => match r204 with | .inl x_ => some x_ | .inr _ => some true)))

def spec_l02Square (F : Nat) (p0_a : List (List Int)) : Option (Bool) :=
  (Option.bind (((spec_IsMatrix F p0_a).bind fun r16 => (bif r16 then ((idx p0_a 0).bind fun q19 => some ((p0_a.length : Int) == (q19.length : Int))) else some false)) : Option (Bool)) fun b13 => some b13)

def spec_IsSystem (F : Nat) (p0_s : GSystem) : Option (Bool) :=
  (Option.bind (((spec_l02Square F p0_s.A).bind fun r15 => (bif r15 then ((spec_l02Vector F p0_s.B).bind fun r18 => (bif r18 then ((spec_l02Vector F p0_s.C).bind fun r21 => (bif r21 then (bif ((p0_s.B.length : Int) == (p0_s.A.length : Int)) then some ((p0_s.C.length : Int) == (p0_s.A.length : Int)) else some false) else some false)) else some false)) else some false)) : Option (Bool)) fun b12 => some b12)

def spec_l24Inputs (F : Nat) (p0_list : List Int) (p1_finite : Bool) : Option (Bool) :=
  (Option.bind ((bif (decide ((p0_list.length : Int) ≤ 50)) then ((spec_l01All F p0_list p1_finite).bind fun r8 => some r8) else some false) : Option (Bool)) fun b4 => some b4)

def spec_l24Code (F : Nat) (p0_s : GSystem) (p1_x : List Int) (p2_inputs : List Int) : Option (Int) :=
  (Option.bind (((spec_IsSystem F p0_s).bind fun r14 => (bif (!r14) then some true else ((spec_l02Vector F p1_x).bind fun r17 => (bif (!r17) then some true else (bif ((p1_x.length : Int) != (p0_s.A.length : Int)) then some true else ((spec_l24Inputs F p2_inputs false).bind fun r21 => some (!r21))))))) : Option (Bool)) fun b11 => (bif b11 then some 1 else some 0))

def spec_l01Times (_F : Nat) (p0_a : Int) (p1_b : Int) : Option (Int) :=
  (Option.bind ((bif (p0_a == (-1000000000000000)) then some true else some (p1_b == (-1000000000000000))) : Option (Bool)) fun b2 => (bif b2 then some (-1000000000000000) else some (IntKind.i64.wrap (p0_a + p1_b))))

def spec_l02Apply_L5 (F : Nat) (p0_a : List (List Int)) (p1_x : List Int) (x174 : Int) : Nat → Int → Int → Option (Int)
  | 0, _, _ => none
  | n321 + 1, x299, x300 => (bif (decide (x300 < (p1_x.length : Int))) then ((idx p0_a x174).bind fun q323 => ((idx q323 x300).bind fun q332 => ((idx p1_x x300).bind fun q334 => ((spec_l01Times F q332 q334).bind fun r336 => (spec_l02Apply_L5 F p0_a p1_x x174 n321 (max x299 r336) (IntKind.i64.wrap (x300 + 1))))))) else some x299)

def spec_l02Apply_L4 (F : Nat) (p0_a : List (List Int)) (p1_x : List Int) : Nat → (List Int) → Int → Option (List Int)
  | 0, _, _ => none
  | n263 + 1, xs169, x174 => (bif (decide (x174 < (p0_a.length : Int))) then (Option.bind (spec_l02Apply_L5 F p0_a p1_x x174 F (-1000000000000000) 0) fun x317 => ((app xs169 ([x317])).bind fun xs342 => (spec_l02Apply_L4 F p0_a p1_x n263 xs342 (IntKind.i64.wrap (x174 + 1))))) else some xs169)

def spec_l02Apply (F : Nat) (p0_a : List (List Int)) (p1_x : List Int) : Option (List Int) :=
  (Option.bind (spec_l02Apply_L4 F p0_a p1_x F ([] : List Int) 0) fun xs255 => some xs255)

def spec_l07Shift_L1 (F : Nat) (p0_x : List Int) (p1_g : Int) : Nat → (List Int) → Int → Option (List Int)
  | 0, _, _ => none
  | n56 + 1, xs31, x36 => (bif (decide (x36 < (p0_x.length : Int))) then ((idx p0_x x36).bind fun q58 => ((spec_l01Times F q58 p1_g).bind fun r60 => ((app xs31 ([r60])).bind fun xs66 => (spec_l07Shift_L1 F p0_x p1_g n56 xs66 (IntKind.i64.wrap (x36 + 1)))))) else some xs31)

def spec_l07Shift (F : Nat) (p0_x : List Int) (p1_g : Int) : Option (List Int) :=
  (Option.bind (spec_l07Shift_L1 F p0_x p1_g F ([] : List Int) 0) fun xs48 => some xs48)

def spec_l01Own (_F : Nat) (p0_list : List Int) : Option (List Int) :=
  ((app ([] : List Int) p0_list).bind fun xs5 => some xs5)

def spec_l02Own_L1 (F : Nat) (p0_a : List (List Int)) : Nat → (List (List Int)) → Int → Option (List (List Int))
  | 0, _, _ => none
  | n99 + 1, ms59, x65 => (bif (decide (x65 < (p0_a.length : Int))) then ((idx p0_a x65).bind fun q101 => ((spec_l01Own F q101).bind fun r110 => ((app ms59 ([r110])).bind fun ms120 => (spec_l02Own_L1 F p0_a n99 ms120 (IntKind.i64.wrap (x65 + 1)))))) else some ms59)

def spec_l02Own (F : Nat) (p0_a : List (List Int)) : Option (List (List Int)) :=
  (Option.bind (spec_l02Own_L1 F p0_a F [] 0) fun ms90 => some ms90)

def spec_l02Add_L5 (F : Nat) (p1_b : List (List Int)) (x583 : Int) : Nat → (List (List Int)) → Int → Option (List (List Int))
  | 0, _, _ => none
  | n1091 + 1, ms1015, x1017 => ((idx ms1015 x583).bind fun q1092 => (bif (decide (x1017 < (q1092.length : Int))) then ((idx ms1015 x583).bind fun q1129 => ((idx ms1015 x583).bind fun q1134 => ((idx q1134 x1017).bind fun q1139 => ((idx p1_b x583).bind fun q1141 => ((idx q1141 x1017).bind fun q1150 => ((idx q1129 x1017).bind fun _q1152 => ((upd q1129 x1017 (max q1139 q1150)).bind fun xs1154 => ((upd ms1015 x583 xs1154).bind fun ms1155 => (spec_l02Add_L5 F p1_b x583 n1091 ms1155 (IntKind.i64.wrap (x1017 + 1))))))))))) else some ms1015))

def spec_l02Add_L4 (F : Nat) (p1_b : List (List Int)) : Nat → (List (List Int)) → Int → Option (List (List Int))
  | 0, _, _ => none
  | n874 + 1, ms581, x583 => (bif (decide (x583 < (ms581.length : Int))) then (Option.bind (spec_l02Add_L5 F p1_b x583 F ms581 0) fun ms1086 => (spec_l02Add_L4 F p1_b n874 ms1086 (IntKind.i64.wrap (x583 + 1)))) else some ms581)

def spec_l02Add (F : Nat) (p0_a : List (List Int)) (p1_b : List (List Int)) : Option (List (List Int)) :=
  ((spec_l02Own F p0_a).bind fun r1 => (Option.bind (spec_l02Add_L4 F p1_b F r1 0) fun ms869 => some ms869))

def spec_l24Dot_L1 (F : Nat) (p0_c : List Int) (p1_x : List Int) : Nat → Int → Int → Option (Int)
  | 0, _, _ => none
  | n30 + 1, x17, x18 => (bif (decide (x18 < (p0_c.length : Int))) then ((idx p0_c x18).bind fun q32 => ((idx p1_x x18).bind fun q34 => ((spec_l01Times F q32 q34).bind fun r36 => (spec_l24Dot_L1 F p0_c p1_x n30 (max x17 r36) (IntKind.i64.wrap (x18 + 1)))))) else some x17)

def spec_l24Dot (F : Nat) (p0_c : List Int) (p1_x : List Int) : Option (Int) :=
  (Option.bind (spec_l24Dot_L1 F p0_c p1_x F (-1000000000000000) 0) fun x26 => some x26)

def spec_l24Run_L1 (F : Nat) (p0_s : GSystem) (p2_inputs : List Int) : Nat → (List Int) → (List Int) → Int → Option (Sum (List Int × List Int × Bool) ((List Int) × (List Int)))
  | 0, _, _, _ => none
  | n267 + 1, xs161, xs172, x177 => (bif (decide (x177 < (p2_inputs.length : Int))) then ((idx p2_inputs x177).bind fun q283 => ((spec_l02Apply F p0_s.A xs161).bind fun r285 => ((spec_l07Shift F p0_s.B q283).bind fun r291 => (Option.bind (((spec_l01All F r285 false).bind fun r305 => (bif (!r305) then some true else ((spec_l01All F r291 false).bind fun r308 => some (!r308)))) : Option (Bool)) fun b302 => (bif b302 then some (Sum.inl (([] : List Int), ([] : List Int), false)) else ((spec_l02Add F ([r285]) ([r291])).bind fun r317 => ((idx r317 0).bind fun q324 => ((spec_l24Dot F p0_s.C q324).bind fun r329 => ((spec_IsValue F r329).bind fun r331 => (bif (!r331) then some (Sum.inl (([] : List Int), ([] : List Int), false)) else ((app xs172 ([r329])).bind fun xs340 => (spec_l24Run_L1 F p0_s p2_inputs n267 q324 xs340 (IntKind.i64.wrap (x177 + 1)))))))))))))) else some (Sum.inr (xs161, xs172)))

def spec_l24Run (F : Nat) (p0_s : GSystem) (p1_x : List Int) (p2_inputs : List Int) : Option (List Int × List Int × Bool) :=
  (Option.bind (spec_l24Run_L1 F p0_s p2_inputs F p1_x ([] : List Int) 0) fun r264 => match r264 with | .inl x_ => some x_ | .inr (xs248, xs259) => some (xs259, xs248, true))

def spec_MeetsDue_L1 (F : Nat) (p3_due : List Int) (r15 : List Int × List Int × Bool) : Nat → Int → Option (Sum (Bool × Int) (Unit))
  | 0, _ => none
  | n54 + 1, x44 => (bif (decide (x44 < (r15.1.length : Int))) then ((idx r15.1 x44).bind fun q56 => ((idx p3_due x44).bind fun q58 => (bif (decide (q58 < q56)) then some (Sum.inl (false, 0)) else (spec_MeetsDue_L1 F p3_due r15 n54 (IntKind.i64.wrap (x44 + 1)))))) else some (Sum.inr ()))

def spec_MeetsDue (F : Nat) (p0_s : GSystem) (p1_x : List Int) (p2_inputs : List Int) (p3_due : List Int) : Option (Bool × Int) :=
  ((spec_l24Code F p0_s p1_x p2_inputs).bind fun r2 => (Option.bind ((bif (r2 != 0) then some true else ((spec_l24Inputs F p3_due true).bind fun r11 => some (!r11))) : Option (Bool)) fun b7 => (bif b7 then some (false, 1) else (bif ((p3_due.length : Int) != (p2_inputs.length : Int)) then some (false, 2) else ((spec_l24Run F p0_s p1_x p2_inputs).bind fun r15 => (bif (!r15.2.2) then some (false, 3) else (Option.bind (spec_MeetsDue_L1 F p3_due r15 F 0) fun r51 => match r51 with | .inl x_ => some x_ | .inr _ => some (true, 0))))))))

def impl_within (_F : Nat) (p0_n : Int) (p1_low : Int) (p2_high : Int) : Option (Bool) :=
  (Option.bind ((bif (decide (p1_low ≤ p0_n)) then some (decide (p0_n ≤ p2_high)) else some false) : Option (Bool)) fun b2 => some b2)

def slices_IndexFunc_int64_L1 (F : Nat) (p0_s : List Int) (m_p1_f : Int → Option Bool) : Nat → Int → Option (Sum Int (Unit))
  | 0, _ => none
  | n24 + 1, x14 => (bif (decide (x14 < (p0_s.length : Int))) then ((idx p0_s x14).bind fun q26 => ((m_p1_f q26).bind fun r28 => (bif r28 then some (Sum.inl x14) else (slices_IndexFunc_int64_L1 F p0_s m_p1_f n24 (IntKind.i64.wrap (x14 + 1)))))) else some (Sum.inr ()))

def slices_IndexFunc_int64 (F : Nat) (p0_s : List Int) (m_p1_f : Int → Option Bool) : Option (Int) :=
  (Option.bind (slices_IndexFunc_int64_L1 F p0_s m_p1_f F 0) fun r21 => match r21 with | .inl x_ => some x_ | .inr _ => some (-1))

def slices_ContainsFunc_int64 (F : Nat) (p0_s : List Int) (m_p1_f : Int → Option Bool) : Option (Bool) :=
  ((slices_IndexFunc_int64 F p0_s m_p1_f).bind fun r1 => some (decide (0 ≤ r1)))

def impl_isFinite (F : Nat) (p0_n : Int) : Option (Bool) :=
  ((impl_within F p0_n (-1000000) 1000000).bind fun r1 => some r1)

def impl_IsValue (F : Nat) (p0_a : Int) : Option (Bool) :=
  (Option.bind ((bif (p0_a == (-1000000000000000)) then some true else ((impl_isFinite F p0_a).bind fun r8 => some r8)) : Option (Bool)) fun b4 => some b4)

def impl_areValues_c1 (F : Nat) (p0_n : Int) : Option (Bool) :=
  ((impl_IsValue F p0_n).bind fun r1 => some (!r1))

def impl_areValues (F : Nat) (p0_list : List Int) : Option (Bool) :=
  ((slices_ContainsFunc_int64 F p0_list (fun x0 => impl_areValues_c1 F x0)).bind fun r1 => some (!r1))

def impl_IsMatrix_c1 (F : Nat) (p0_row : List Int) (z0 : List (List Int)) : Option (Bool) :=
  (Option.bind (((idx z0 0).bind fun q16 => (bif ((p0_row.length : Int) != (q16.length : Int)) then some true else ((impl_areValues F p0_row).bind fun r26 => some (!r26)))) : Option (Bool)) fun b13 => some b13)

def slices_IndexFunc_sint64_L1 (F : Nat) (p0_s : List (List Int)) (m_p1_f : (List Int) → Option Bool) : Nat → Int → Option (Sum Int (Unit))
  | 0, _ => none
  | n45 + 1, x28 => (bif (decide (x28 < (p0_s.length : Int))) then ((idx p0_s x28).bind fun q47 => ((m_p1_f q47).bind fun r56 => (bif r56 then some (Sum.inl x28) else (slices_IndexFunc_sint64_L1 F p0_s m_p1_f n45 (IntKind.i64.wrap (x28 + 1)))))) else some (Sum.inr ()))

def slices_IndexFunc_sint64 (F : Nat) (p0_s : List (List Int)) (m_p1_f : (List Int) → Option Bool) : Option (Int) :=
  (Option.bind (slices_IndexFunc_sint64_L1 F p0_s m_p1_f F 0) fun r42 => match r42 with | .inl x_ => some x_ | .inr _ => some (-1))

def slices_ContainsFunc_sint64 (F : Nat) (p0_s : List (List Int)) (m_p1_f : (List Int) → Option Bool) : Option (Bool) :=
  ((slices_IndexFunc_sint64 F p0_s m_p1_f).bind fun r1 => some (decide (0 ≤ r1)))

def impl_IsMatrix (F : Nat) (p0_a : List (List Int)) : Option (Bool) :=
  (Option.bind (((impl_within F (p0_a.length : Int) 1 10).bind fun r19 => (bif (!r19) then some true else ((idx p0_a 0).bind fun q22 => ((impl_within F (q22.length : Int) 1 10).bind fun r31 => some (!r31))))) : Option (Bool)) fun b16 => (bif b16 then some false else ((slices_ContainsFunc_sint64 F p0_a (fun x0 => impl_IsMatrix_c1 F x0 p0_a)).bind fun r34 => some (!r34))))

def impl_isSquare (F : Nat) (p0_a : List (List Int)) : Option (Bool) :=
  (Option.bind (((impl_IsMatrix F p0_a).bind fun r16 => (bif r16 then ((idx p0_a 0).bind fun q19 => some ((p0_a.length : Int) == (q19.length : Int))) else some false)) : Option (Bool)) fun b13 => some b13)

def impl_isVector (F : Nat) (p0_x : List Int) : Option (Bool) :=
  (Option.bind (((impl_within F (p0_x.length : Int) 1 10).bind fun r9 => (bif r9 then ((impl_areValues F p0_x).bind fun r12 => some r12) else some false)) : Option (Bool)) fun b6 => some b6)

def impl_IsSystem (F : Nat) (p0_s : GSystem) : Option (Bool) :=
  (Option.bind (((impl_isSquare F p0_s.A).bind fun r15 => (bif r15 then ((impl_isVector F p0_s.B).bind fun r18 => (bif r18 then ((impl_isVector F p0_s.C).bind fun r21 => (bif r21 then (bif ((p0_s.B.length : Int) == (p0_s.A.length : Int)) then some ((p0_s.C.length : Int) == (p0_s.A.length : Int)) else some false) else some false)) else some false)) else some false)) : Option (Bool)) fun b12 => some b12)

def impl_checkSystem (F : Nat) (p0_s : GSystem) (p1_x : List Int) (p2_inputs : List Int) : Option (Int) :=
  (Option.bind (((impl_IsSystem F p0_s).bind fun r15 => (bif (!r15) then some true else ((impl_isVector F p1_x).bind fun r18 => (bif (!r18) then some true else (bif ((p1_x.length : Int) != (p0_s.A.length : Int)) then some true else (bif (decide (50 < (p2_inputs.length : Int))) then some true else ((impl_areValues F p2_inputs).bind fun r23 => some (!r23)))))))) : Option (Bool)) fun b12 => (bif b12 then some 1 else some 0))

def impl_allWithin_L1 (F : Nat) (p0_list : List Int) (p1_low : Int) (p2_high : Int) : Nat → Int → Option (Sum Bool (Unit))
  | 0, _ => none
  | n24 + 1, x14 => (bif (decide (x14 < (p0_list.length : Int))) then ((idx p0_list x14).bind fun q26 => ((impl_within F q26 p1_low p2_high).bind fun r28 => (bif (!r28) then some (Sum.inl false) else (impl_allWithin_L1 F p0_list p1_low p2_high n24 (IntKind.i64.wrap (x14 + 1)))))) else some (Sum.inr ()))

def impl_allWithin (F : Nat) (p0_list : List Int) (p1_low : Int) (p2_high : Int) : Option (Bool) :=
  (Option.bind (impl_allWithin_L1 F p0_list p1_low p2_high F 0) fun r21 => match r21 with | .inl x_ => some x_ | .inr _ => some true)

def slices_Clone_int64 (_F : Nat) (p0_s : List Int) : Option (List Int) :=
  ((app ([] : List Int) p0_s).bind fun xs5 => some xs5)

def impl_times (_F : Nat) (p0_a : Int) (p1_b : Int) : Option (Int) :=
  (Option.bind ((bif (p0_a == (-1000000000000000)) then some true else some (p1_b == (-1000000000000000))) : Option (Bool)) fun b2 => (bif b2 then some (-1000000000000000) else some (IntKind.i64.wrap (p0_a + p1_b))))

def impl_timesVector_L5 (F : Nat) (p1_x : List Int) (x245 : Int) (q371 : List Int) : Nat → (List Int) → Int → Option (List Int)
  | 0, _, _ => none
  | n464 + 1, xs433, x435 => (bif (decide (x435 < (q371.length : Int))) then ((idx q371 x435).bind fun q466 => ((idx xs433 x245).bind fun q478 => ((idx p1_x x435).bind fun q480 => ((impl_times F q466 q480).bind fun r482 => ((idx xs433 x245).bind fun _q484 => ((upd xs433 x245 (max q478 r482)).bind fun xs486 => (impl_timesVector_L5 F p1_x x245 q371 n464 xs486 (IntKind.i64.wrap (x435 + 1))))))))) else some xs433)

def impl_timesVector_L4 (F : Nat) (p0_a : List (List Int)) (p1_x : List Int) : Nat → (List Int) → Int → Option (List Int)
  | 0, _, _ => none
  | n369 + 1, xs243, x245 => (bif (decide (x245 < (p0_a.length : Int))) then ((idx p0_a x245).bind fun q371 => ((idx xs243 x245).bind fun _q380 => ((upd xs243 x245 (-1000000000000000)).bind fun xs382 => (Option.bind (impl_timesVector_L5 F p1_x x245 q371 F xs382 0) fun xs459 => (impl_timesVector_L4 F p0_a p1_x n369 xs459 (IntKind.i64.wrap (x245 + 1))))))) else some xs243)

def impl_timesVector (F : Nat) (p0_a : List (List Int)) (p1_x : List Int) : Option (List Int) :=
  ((mk (p0_a.length : Int) (0 : Int)).bind fun xs3 => (Option.bind (impl_timesVector_L4 F p0_a p1_x F xs3 0) fun xs364 => some xs364))

def impl_shiftedVector_L1 (F : Nat) (p0_x : List Int) (p1_g : Int) : Nat → (List Int) → Int → Option (List Int)
  | 0, _, _ => none
  | n42 + 1, xs25, x27 => (bif (decide (x27 < (p0_x.length : Int))) then ((idx p0_x x27).bind fun q44 => ((impl_times F q44 p1_g).bind fun r46 => ((idx xs25 x27).bind fun _q48 => ((upd xs25 x27 r46).bind fun xs50 => (impl_shiftedVector_L1 F p0_x p1_g n42 xs50 (IntKind.i64.wrap (x27 + 1))))))) else some xs25)

def impl_shiftedVector (F : Nat) (p0_x : List Int) (p1_g : Int) : Option (List Int) :=
  ((mk (p0_x.length : Int) (0 : Int)).bind fun xs3 => (Option.bind (impl_shiftedVector_L1 F p0_x p1_g F xs3 0) fun xs37 => some xs37))

def impl_innerProduct_L1 (F : Nat) (p0_a : List Int) (p1_b : List Int) : Nat → Int → Int → Option (Int)
  | 0, _, _ => none
  | n30 + 1, x17, x18 => (bif (decide (x18 < (p0_a.length : Int))) then ((idx p0_a x18).bind fun q32 => ((idx p1_b x18).bind fun q34 => ((impl_times F q32 q34).bind fun r36 => (impl_innerProduct_L1 F p0_a p1_b n30 (max x17 r36) (IntKind.i64.wrap (x18 + 1)))))) else some x17)

def impl_innerProduct (F : Nat) (p0_a : List Int) (p1_b : List Int) : Option (Int) :=
  (Option.bind (impl_innerProduct_L1 F p0_a p1_b F (-1000000000000000) 0) fun x26 => some x26)

def impl_runSystem_L5 (F : Nat) (r401 : List Int) (r407 : List Int) : Nat → (List Int) → Int → Option (List Int)
  | 0, _, _ => none
  | n491 + 1, xs466, x468 => (bif (decide (x468 < (r401.length : Int))) then ((idx r401 x468).bind fun q501 => ((idx r407 x468).bind fun q503 => ((idx xs466 x468).bind fun _q505 => ((upd xs466 x468 (max q501 q503)).bind fun xs507 => (impl_runSystem_L5 F r401 r407 n491 xs507 (IntKind.i64.wrap (x468 + 1))))))) else some xs466)

def impl_runSystem_L4 (F : Nat) (p0 : GSystem) (p2 : List Int) : Nat → (List Int) → (List Int) → Int → Option (Sum (List Int × List Int × Int) ((List Int) × (List Int)))
  | 0, _, _, _ => none
  | n397 + 1, xs258, xs261, x266 => (bif (decide (x266 < (p2.length : Int))) then ((idx p2 x266).bind fun q399 => ((impl_timesVector F p0.A xs258).bind fun r401 => ((impl_shiftedVector F p0.B q399).bind fun r407 => (Option.bind (((impl_areValues F r401).bind fun r421 => (bif (!r421) then some true else ((impl_areValues F r407).bind fun r424 => some (!r424)))) : Option (Bool)) fun b418 => (bif b418 then some (Sum.inl (([] : List Int), ([] : List Int), 3)) else (Option.bind (impl_runSystem_L5 F r401 r407 F xs258 0) fun xs486 => ((impl_innerProduct F p0.C xs486).bind fun r509 => ((impl_IsValue F r509).bind fun r511 => (bif (!r511) then some (Sum.inl (([] : List Int), ([] : List Int), 3)) else ((app xs261 ([r509])).bind fun xs520 => (impl_runSystem_L4 F p0 p2 n397 xs486 xs520 (IntKind.i64.wrap (x266 + 1))))))))))))) else some (Sum.inr (xs258, xs261)))

def impl_runSystem (F : Nat) (p0 : GSystem) (p1 : List Int) (p2 : List Int) : Option (List Int × List Int × Int) :=
  ((slices_Clone_int64 F p1).bind fun r2 => (Option.bind (impl_runSystem_L4 F p0 p2 F r2 ([] : List Int) 0) fun r394 => match r394 with | .inl x_ => some x_ | .inr (xs387, xs389) => some (xs389, xs387, 0)))

def impl_MeetsDue_L1 (F : Nat) (p3_due : List Int) (r16 : List Int × List Int × Int) : Nat → Int → Option (Sum (Bool × Int) (Unit))
  | 0, _ => none
  | n50 + 1, x40 => (bif (decide (x40 < (r16.1.length : Int))) then ((idx r16.1 x40).bind fun q52 => ((idx p3_due x40).bind fun q54 => (bif (decide (q54 < q52)) then some (Sum.inl (false, 0)) else (impl_MeetsDue_L1 F p3_due r16 n50 (IntKind.i64.wrap (x40 + 1)))))) else some (Sum.inr ()))

def impl_MeetsDue (F : Nat) (p0_s : GSystem) (p1_x : List Int) (p2_inputs : List Int) (p3_due : List Int) : Option (Bool × Int) :=
  ((impl_checkSystem F p0_s p1_x p2_inputs).bind fun r2 => (bif (r2 != 0) then some (false, r2) else (Option.bind ((bif (decide (50 < (p3_due.length : Int))) then some true else ((impl_allWithin F p3_due (-1000000) 1000000).bind fun r12 => some (!r12))) : Option (Bool)) fun b8 => (bif b8 then some (false, 1) else (bif ((p2_inputs.length : Int) != (p3_due.length : Int)) then some (false, 2) else ((impl_runSystem F p0_s p1_x p2_inputs).bind fun r16 => (bif (r16.2.2 != 0) then some (false, r16.2.2) else (Option.bind (impl_MeetsDue_L1 F p3_due r16 F 0) fun r47 => match r47 with | .inl x_ => some x_ | .inr _ => some (true, 0)))))))))

def laws_eqInt64S_L1 (F : Nat) (p0_a : List Int) (p1_b : List Int) : Nat → Int → Option (Sum Bool (Unit))
  | 0, _ => none
  | n25 + 1, x15 => (bif (decide (x15 < (p0_a.length : Int))) then ((idx p0_a x15).bind fun q27 => ((idx p1_b x15).bind fun q29 => (bif (q27 != q29) then some (Sum.inl false) else (laws_eqInt64S_L1 F p0_a p1_b n25 (IntKind.i64.wrap (x15 + 1)))))) else some (Sum.inr ()))

def laws_eqInt64S (F : Nat) (p0_a : List Int) (p1_b : List Int) : Option (Bool) :=
  (bif ((p0_a.length : Int) != (p1_b.length : Int)) then some false else (Option.bind (laws_eqInt64S_L1 F p0_a p1_b F 0) fun r22 => match r22 with | .inl x_ => some x_ | .inr _ => some true))

def laws_eqInt64SS_L1 (F : Nat) (p0_a : List (List Int)) (p1_b : List (List Int)) : Nat → Int → Option (Sum Bool (Unit))
  | 0, _ => none
  | n73 + 1, x47 => (bif (decide (x47 < (p0_a.length : Int))) then ((idx p0_a x47).bind fun q75 => ((idx p1_b x47).bind fun q84 => ((laws_eqInt64S F q75 q84).bind fun r93 => (bif (!r93) then some (Sum.inl false) else (laws_eqInt64SS_L1 F p0_a p1_b n73 (IntKind.i64.wrap (x47 + 1))))))) else some (Sum.inr ()))

def laws_eqInt64SS (F : Nat) (p0_a : List (List Int)) (p1_b : List (List Int)) : Option (Bool) :=
  (bif ((p0_a.length : Int) != (p1_b.length : Int)) then some false else (Option.bind (laws_eqInt64SS_L1 F p0_a p1_b F 0) fun r70 => match r70 with | .inl x_ => some x_ | .inr _ => some true))

def laws_eqSystem (F : Nat) (p0_a : GSystem) (p1_b : GSystem) : Option (Bool) :=
  ((laws_eqInt64SS F p0_a.A p1_b.A).bind fun r3 => (bif (!r3) then some false else ((laws_eqInt64S F p0_a.B p1_b.B).bind fun r6 => (bif (!r6) then some false else ((laws_eqInt64S F p0_a.C p1_b.C).bind fun r9 => (bif (!r9) then some false else some true))))))

def laws_FnExactMeetsDue (F : Nat) (p0 : LSystem) (p1 : List Int) (p2 : List Int) (p3 : List Int) : Option (Bool) :=
  (bif (decide (1048576 < (p1.length : Int))) then some true else (bif (decide (1048576 < (p2.length : Int))) then some true else (bif (decide (1048576 < (p3.length : Int))) then some true else ((laws_szSystem F p0 1048576).bind fun r5 => (bif (decide (r5 < 0)) then some true else ((laws_toSystem F p0).bind fun r8 => ((laws_toInt64S F p1).bind fun r23 => ((laws_toInt64S F p2).bind fun r29 => ((laws_toInt64S F p3).bind fun r35 => ((spec_MeetsDue F r8 r23 r29 r35).bind fun r41 => ((laws_toSystem F p0).bind fun r43 => ((laws_toInt64S F p1).bind fun r59 => ((laws_toInt64S F p2).bind fun r65 => ((laws_toInt64S F p3).bind fun r71 => ((impl_MeetsDue F r43 r59 r65 r71).bind fun r77 => (Option.bind ((bif (r77.1 != r41.1) then some true else some (r77.2 != r41.2)) : Option (Bool)) fun b80 => (bif b80 then some false else ((laws_toSystem F p0).bind fun r102 => ((laws_eqSystem F r43 r102).bind fun r117 => (bif (!r117) then some false else ((laws_toInt64S F p1).bind fun r120 => ((laws_eqInt64S F r59 r120).bind fun r126 => (bif (!r126) then some false else ((laws_toInt64S F p2).bind fun r129 => ((laws_eqInt64S F r65 r129).bind fun r135 => (bif (!r135) then some false else ((laws_toInt64S F p3).bind fun r138 => ((laws_eqInt64S F r71 r138).bind fun r144 => (bif (!r144) then some false else some true)))))))))))))))))))))))))))))

end Go.Proofs.Ytcpfhonmmpbadaa
