/- Plain models of the functions. -/
import Derived.Test.YtgkgimglgjfcjaaLiftY
namespace Go.Proofs.Ytgkgimglgjfcjaa

structure GSystem where
  A : List (List Int)
  B : List Int
  C : List Int

def laws_big (_F : Nat) (p0_code : List Int) : Option (Bool) :=
  some (decide (4096 < (p0_code.length : Int)))

def spec_l01From_L1 (F : Nat) (p0_code : List Int) : Nat → Int → Int → Option (Int)
  | 0, _, _ => none
  | n34 + 1, x20, x21 => (Option.bind ((bif (decide (x21 < (p0_code.length : Int))) then some (decide (x21 < 64)) else some false) : Option (Bool)) fun b36 => (bif b36 then ((idx p0_code x21).bind fun q41 => (spec_l01From_L1 F p0_code n34 ((IntKind.i64.wrap ((IntKind.i64.wrap (x20 * 67)) + (IntKind.i64.wrap q41))).tmod 2147483647) (IntKind.i64.wrap (x21 + 1)))) else some x20))

def spec_l01From (F : Nat) (p0_code : List Int) : Option ((Int × Int)) :=
  (Option.bind (spec_l01From_L1 F p0_code F 61403 0) fun x30 => some (0, x30))

def spec_l01Next (_F : Nat) (p0_code : List Int) (p0_at : Int) (p0_seed : Int) (p1 : Int) : Option ((Int) × Int × Int) :=
  (bif (decide (p1 ≤ 1)) then some (0, p0_at, p0_seed) else (Option.bind ((bif (decide (p0_at < (p0_code.length : Int))) then ((idx p0_code p0_at).bind fun q18 => (Option.bind ((bif (decide (p1 ≤ 256)) then some (((IntKind.i64.wrap (p0_at + 1)).tmod 2) == 0) else some false) : Option (Bool)) fun b21 => (bif b21 then ((idx p0_code (IntKind.i64.wrap ((IntKind.i64.wrap (p0_at + 1)) - 1))).bind fun q26 => some ((IntKind.i64.wrap (p0_at + 1)), (IntKind.i64.wrap q26))) else some ((IntKind.i64.wrap (p0_at + 1)), (IntKind.i64.wrap ((IntKind.i64.wrap (((IntKind.i64.wrap ((IntKind.i64.wrap (p0_seed * 48271)) + 59)).tmod 2147483647).tdiv 31)) + (IntKind.i64.wrap q18))))))) else some (p0_at, (IntKind.i64.wrap (((IntKind.i64.wrap ((IntKind.i64.wrap (p0_seed * 48271)) + 59)).tmod 2147483647).tdiv 31)))) : Option (Int × Int)) fun (x13, x14) => ((if p1 = 0 then none else some ()).bind fun _u29 => some ((x14.tmod p1), x13, ((IntKind.i64.wrap ((IntKind.i64.wrap (p0_seed * 48271)) + 59)).tmod 2147483647)))))

def spec_l02Bottom_L5 (F : Nat) (p1_n : Int) : Nat → (List Int) → Int → Option (List Int)
  | 0, _, _ => none
  | n252 + 1, xs231, x236 => (bif (decide (x236 < p1_n)) then ((app xs231 ([(-1000000000000000)])).bind fun xs258 => (spec_l02Bottom_L5 F p1_n n252 xs258 (IntKind.i64.wrap (x236 + 1)))) else some xs231)

def spec_l02Bottom_L4 (F : Nat) (p0_m : Int) (p1_n : Int) : Nat → (List (List Int)) → Int → Option (List (List Int))
  | 0, _, _ => none
  | n207 + 1, ms131, x137 => (bif (decide (x137 < p0_m)) then (Option.bind (spec_l02Bottom_L5 F p1_n F ([] : List Int) 0) fun xs244 => ((app ms131 ([xs244])).bind fun ms264 => (spec_l02Bottom_L4 F p0_m p1_n n207 ms264 (IntKind.i64.wrap (x137 + 1))))) else some ms131)

def spec_l02Bottom (F : Nat) (p0_m : Int) (p1_n : Int) : Option (List (List Int)) :=
  (Option.bind (spec_l02Bottom_L4 F p0_m p1_n F [] 0) fun ms198 => some ms198)

def spec_l01Pick (F : Nat) (p0_s_code : List Int) (p0_s_at : Int) (p0_s_seed : Int) (p1_list : List Int) : Option ((Int) × Int × Int) :=
  ((spec_l01Next F p0_s_code p0_s_at p0_s_seed (p1_list.length : Int)).bind fun r1 => ((idx p1_list r1.1).bind fun q3 => some (q3, r1.2.1, r1.2.2)))

def spec_l01DrawValue (F : Nat) (p0_s_code : List Int) (p0_s_at : Int) (p0_s_seed : Int) : Option ((Int) × Int × Int) :=
  ((spec_l01Next F p0_s_code p0_s_at p0_s_seed 24).bind fun r1 => (Option.bind ((bif (r1.1 == 0) then some (r1.1 == 0) else (bif (r1.1 == 1) then some (r1.1 == 1) else some (r1.1 == 2))) : Option (Bool)) fun b5 => (bif b5 then some ((-1000000000000000), r1.2.1, r1.2.2) else (bif (r1.1 == 3) then ((spec_l01Pick F p0_s_code r1.2.1 r1.2.2 ([1000000, 1000001, (-1000000), (-1000001), (-999999999999999), (-1000000000000001), 9223372036854775807])).bind fun r14 => some (r14.1, r14.2.1, r14.2.2)) else (bif (r1.1 == 4) then ((spec_l01Next F p0_s_code r1.2.1 r1.2.2 2000).bind fun r17 => some ((IntKind.i64.wrap ((IntKind.i64.wrap (r17.1 - 1000)) * 701)), r17.2.1, r17.2.2)) else ((spec_l01Next F p0_s_code r1.2.1 r1.2.2 41).bind fun r19 => some ((IntKind.i64.wrap (r19.1 - 20)), r19.2.1, r19.2.2)))))))

def spec_l02DrawSize_L5 (F : Nat) (p0_s_code : List Int) (p2_n : Int) (r10 : (Int) × Int × Int) (x331 : Int) : Nat → Int → Int → (List (List Int)) → Int → Option (Int × Int × (List (List Int)))
  | 0, _, _, _, _ => none
  | n615 + 1, x569, x570, ms571, x573 => (bif (decide (x573 < p2_n)) then ((spec_l01Next F p0_s_code x569 x570 r10.1).bind fun r617 => (bif (decide (0 < r617.1)) then ((idx ms571 x331).bind fun q635 => ((spec_l01Next F p0_s_code r617.2.1 r617.2.2 26).bind fun r640 => ((idx q635 x573).bind fun _q642 => ((upd q635 x573 (IntKind.i64.wrap (r640.1 - 10))).bind fun xs644 => ((upd ms571 x331 xs644).bind fun ms645 => (spec_l02DrawSize_L5 F p0_s_code p2_n r10 x331 n615 r640.2.1 r640.2.2 ms645 (IntKind.i64.wrap (x573 + 1)))))))) else (spec_l02DrawSize_L5 F p0_s_code p2_n r10 x331 n615 r617.2.1 r617.2.2 ms571 (IntKind.i64.wrap (x573 + 1))))) else some (x569, x570, ms571))

def spec_l02DrawSize_L4 (F : Nat) (p0_s_code : List Int) (p1_m : Int) (p2_n : Int) (r10 : (Int) × Int × Int) : Nat → Int → Int → (List (List Int)) → Int → Option (Int × Int × (List (List Int)))
  | 0, _, _, _, _ => none
  | n494 + 1, x327, x328, ms329, x331 => (bif (decide (x331 < p1_m)) then (Option.bind (spec_l02DrawSize_L5 F p0_s_code p2_n r10 x331 F x327 x328 ms329 0) fun (x608, x609, ms610) => (spec_l02DrawSize_L4 F p0_s_code p1_m p2_n r10 n494 x608 x609 ms610 (IntKind.i64.wrap (x331 + 1)))) else some (x327, x328, ms329))

def spec_l02DrawSize (F : Nat) (p0_s_code : List Int) (p0_s_at : Int) (p0_s_seed : Int) (p1_m : Int) (p2_n : Int) : Option ((List (List Int)) × Int × Int) :=
  ((spec_l02Bottom F p1_m p2_n).bind fun r1 => ((spec_l01Pick F p0_s_code p0_s_at p0_s_seed ([2, 3, 5])).bind fun r10 => (Option.bind (spec_l02DrawSize_L4 F p0_s_code p1_m p2_n r10 F r10.2.1 r10.2.2 r1 0) fun (x487, x488, ms489) => ((spec_l01Next F p0_s_code x487 x488 60).bind fun r650 => (bif (r650.1 == 0) then ((idx ms489 0).bind fun q668 => ((spec_l01DrawValue F p0_s_code r650.2.1 r650.2.2).bind fun r673 => ((idx q668 0).bind fun _q675 => ((upd q668 0 r673.1).bind fun xs677 => ((upd ms489 0 xs677).bind fun ms678 => some (ms678, r673.2.1, r673.2.2)))))) else (bif (r650.1 == 1) then ((app ms489 ([([] : List Int)])).bind fun ms690 => some (ms690, r650.2.1, r650.2.2)) else (bif (r650.1 == 2) then some (([] : List (List Int)), r650.2.1, r650.2.2) else some (ms489, r650.2.1, r650.2.2))))))))

def spec_l02DrawVector_L1 (F : Nat) (p0_s_code : List Int) : Nat → Int → Int → Int → (List Int) → Option (Int × Int × (List Int))
  | 0, _, _, _, _ => none
  | n77 + 1, x43, x44, x45, xs46 => (bif (decide (0 < x45)) then ((spec_l01Next F p0_s_code x43 x44 31).bind fun r79 => ((app xs46 ([(IntKind.i64.wrap (r79.1 - 15))])).bind fun xs85 => ((spec_l01Next F p0_s_code r79.2.1 r79.2.2 8).bind fun r87 => (bif (r87.1 == 0) then ((idx xs85 (IntKind.i64.wrap ((xs85.length : Int) - 1))).bind fun _q90 => ((upd xs85 (IntKind.i64.wrap ((xs85.length : Int) - 1)) (-1000000000000000)).bind fun xs92 => (spec_l02DrawVector_L1 F p0_s_code n77 r87.2.1 r87.2.2 (IntKind.i64.wrap (x45 - 1)) xs92))) else (spec_l02DrawVector_L1 F p0_s_code n77 r87.2.1 r87.2.2 (IntKind.i64.wrap (x45 - 1)) xs85))))) else some (x43, x44, xs46))

def spec_l02DrawVector (F : Nat) (p0_s_code : List Int) (p0_s_at : Int) (p0_s_seed : Int) (p1_n : Int) : Option ((List Int) × Int × Int) :=
  (Option.bind (spec_l02DrawVector_L1 F p0_s_code F p0_s_at p0_s_seed p1_n ([] : List Int)) fun (x67, x68, xs69) => ((spec_l01Next F p0_s_code x67 x68 60).bind fun r94 => (bif (r94.1 == 0) then ((spec_l01DrawValue F p0_s_code r94.2.1 r94.2.2).bind fun r97 => ((app xs69 ([r97.1])).bind fun xs103 => some (xs103, r97.2.1, r97.2.2))) else (bif (r94.1 == 1) then some (([] : List Int), r94.2.1, r94.2.2) else some (xs69, r94.2.1, r94.2.2)))))

def spec_l24DrawSystem (F : Nat) (p0_s_code : List Int) (p0_s_at : Int) (p0_s_seed : Int) : Option ((GSystem) × Int × Int) :=
  ((spec_l01Next F p0_s_code p0_s_at p0_s_seed 4).bind fun r2 => ((spec_l02DrawSize F p0_s_code r2.2.1 r2.2.2 (IntKind.i64.wrap (1 + r2.1)) (IntKind.i64.wrap (1 + r2.1))).bind fun r4 => ((spec_l02DrawVector F p0_s_code r4.2.1 r4.2.2 (IntKind.i64.wrap (1 + r2.1))).bind fun r11 => ((spec_l02DrawVector F p0_s_code r11.2.1 r11.2.2 (IntKind.i64.wrap (1 + r2.1))).bind fun r17 => ((spec_l01Next F p0_s_code r17.2.1 r17.2.2 30).bind fun r23 => (bif (r23.1 == 0) then ((spec_l01Pick F p0_s_code r23.2.1 r23.2.2 ([30000, 5])).bind fun r28 => ((spec_l01Pick F p0_s_code r28.2.1 r28.2.2 ([1000000, 0])).bind fun r38 => some ((GSystem.mk ([[r28.1]]) ([0]) ([r38.1])), r38.2.1, r38.2.2))) else some ((GSystem.mk r4.1 r11.1 r17.1), r23.2.1, r23.2.2)))))))

def spec_DrawSeriesSystem (F : Nat) (p0_code : List Int) : Option (GSystem × GSystem) :=
  ((spec_l01From F p0_code).bind fun r3 => ((spec_l24DrawSystem F p0_code r3.1 r3.2).bind fun r6 => ((spec_l24DrawSystem F p0_code r6.2.1 r6.2.2).bind fun r21 => some ((GSystem.mk r6.1.A r6.1.B r6.1.C), (GSystem.mk r21.1.A r21.1.B r21.1.C)))))

def impl_within (_F : Nat) (p0_n : Int) (p1_low : Int) (p2_high : Int) : Option (Bool) :=
  (Option.bind ((bif (decide (p1_low ≤ p0_n)) then some (decide (p0_n ≤ p2_high)) else some false) : Option (Bool)) fun b2 => some b2)

def slices_IndexFunc_int64_L1 (F : Nat) (p0_s : List Int) (m_p1_f : Int → Option Bool) : Nat → Int → Option (Sum Int (Unit))
  | 0, _ => none
  | n24 + 1, x14 => (bif (decide (x14 < (p0_s.length : Int))) then ((idx p0_s x14).bind fun q26 => ((m_p1_f q26).bind fun r28 => (bif r28 then some (Sum.inl x14) else (slices_IndexFunc_int64_L1 F p0_s m_p1_f n24 (IntKind.i64.wrap (x14 + 1)))))) else some (Sum.inr ()))

def slices_IndexFunc_int64 (F : Nat) (p0_s : List Int) (m_p1_f : Int → Option Bool) : Option (Int) :=
  (Option.bind (slices_IndexFunc_int64_L1 F p0_s m_p1_f F 0) fun r21 => match r21 with | .inl x_ => some x_ | .inr _ => some (-1))

def slices_ContainsFunc_int64 (F : Nat) (p0_s : List Int) (m_p1_f : Int → Option Bool) : Option (Bool) :=
  ((slices_IndexFunc_int64 F p0_s m_p1_f).bind fun r1 => some (decide (0 ≤ r1)))

def impl_isFinite (F : Nat) (p0_n : Int) : Option (Bool) :=
  ((impl_within F p0_n (-1000000) 1000000).bind fun r1 => some r1)

def impl_IsValue (F : Nat) (p0_a : Int) : Option (Bool) :=
  (Option.bind ((bif (p0_a == (-1000000000000000)) then some true else ((impl_isFinite F p0_a).bind fun r8 => some r8)) : Option (Bool)) fun b4 => some b4)

def impl_areValues_c1 (F : Nat) (p0_n : Int) : Option (Bool) :=
  ((impl_IsValue F p0_n).bind fun r1 => some (!r1))

def impl_areValues (F : Nat) (p0_list : List Int) : Option (Bool) :=
  ((slices_ContainsFunc_int64 F p0_list (fun x0 => impl_areValues_c1 F x0)).bind fun r1 => some (!r1))

def impl_IsMatrix_c1 (F : Nat) (p0_row : List Int) (z0 : List (List Int)) : Option (Bool) :=
  (Option.bind (((idx z0 0).bind fun q16 => (bif ((p0_row.length : Int) != (q16.length : Int)) then some true else ((impl_areValues F p0_row).bind fun r26 => some (!r26)))) : Option (Bool)) fun b13 => some b13)

def slices_IndexFunc_sint64_L1 (F : Nat) (p0_s : List (List Int)) (m_p1_f : (List Int) → Option Bool) : Nat → Int → Option (Sum Int (Unit))
  | 0, _ => none
  | n45 + 1, x28 => (bif (decide (x28 < (p0_s.length : Int))) then ((idx p0_s x28).bind fun q47 => ((m_p1_f q47).bind fun r56 => (bif r56 then some (Sum.inl x28) else (slices_IndexFunc_sint64_L1 F p0_s m_p1_f n45 (IntKind.i64.wrap (x28 + 1)))))) else some (Sum.inr ()))

def slices_IndexFunc_sint64 (F : Nat) (p0_s : List (List Int)) (m_p1_f : (List Int) → Option Bool) : Option (Int) :=
  (Option.bind (slices_IndexFunc_sint64_L1 F p0_s m_p1_f F 0) fun r42 => match r42 with | .inl x_ => some x_ | .inr _ => some (-1))

def slices_ContainsFunc_sint64 (F : Nat) (p0_s : List (List Int)) (m_p1_f : (List Int) → Option Bool) : Option (Bool) :=
  ((slices_IndexFunc_sint64 F p0_s m_p1_f).bind fun r1 => some (decide (0 ≤ r1)))

def impl_IsMatrix (F : Nat) (p0_a : List (List Int)) : Option (Bool) :=
  (Option.bind (((impl_within F (p0_a.length : Int) 1 10).bind fun r19 => (bif (!r19) then some true else ((idx p0_a 0).bind fun q22 => ((impl_within F (q22.length : Int) 1 10).bind fun r31 => some (!r31))))) : Option (Bool)) fun b16 => (bif b16 then some false else ((slices_ContainsFunc_sint64 F p0_a (fun x0 => impl_IsMatrix_c1 F x0 p0_a)).bind fun r34 => some (!r34))))

def impl_isSquare (F : Nat) (p0_a : List (List Int)) : Option (Bool) :=
  (Option.bind (((impl_IsMatrix F p0_a).bind fun r16 => (bif r16 then ((idx p0_a 0).bind fun q19 => some ((p0_a.length : Int) == (q19.length : Int))) else some false)) : Option (Bool)) fun b13 => some b13)

def impl_isVector (F : Nat) (p0_x : List Int) : Option (Bool) :=
  (Option.bind (((impl_within F (p0_x.length : Int) 1 10).bind fun r9 => (bif r9 then ((impl_areValues F p0_x).bind fun r12 => some r12) else some false)) : Option (Bool)) fun b6 => some b6)

def impl_IsSystem (F : Nat) (p0_s : GSystem) : Option (Bool) :=
  (Option.bind (((impl_isSquare F p0_s.A).bind fun r15 => (bif r15 then ((impl_isVector F p0_s.B).bind fun r18 => (bif r18 then ((impl_isVector F p0_s.C).bind fun r21 => (bif r21 then (bif ((p0_s.B.length : Int) == (p0_s.A.length : Int)) then some ((p0_s.C.length : Int) == (p0_s.A.length : Int)) else some false) else some false)) else some false)) else some false)) : Option (Bool)) fun b12 => some b12)

def impl_transposed_c1 (_F : Nat) (p0_i : Int) (p1_j : Int) (z0 : List (List Int)) : Option (Int) :=
  ((idx z0 p1_j).bind fun q1 => ((idx q1 p0_i).bind fun q10 => some q10))

def impl_matrixBy_L5 (F : Nat) (m_p2_entry : Int → Int → Option Int) (x324 : Int) (q500 : List Int) : Nat → (List (List Int)) → Int → Option (List (List Int))
  | 0, _, _ => none
  | n609 + 1, ms570, x572 => (bif (decide (x572 < (q500.length : Int))) then ((idx ms570 x324).bind fun q626 => ((m_p2_entry x324 x572).bind fun r631 => ((idx q626 x572).bind fun _q633 => ((upd q626 x572 r631).bind fun xs635 => ((upd ms570 x324 xs635).bind fun ms636 => (impl_matrixBy_L5 F m_p2_entry x324 q500 n609 ms636 (IntKind.i64.wrap (x572 + 1)))))))) else some ms570)

def impl_matrixBy_L4 (F : Nat) (p1_n : Int) (m_p2_entry : Int → Int → Option Int) (ms3 : List (List Int)) : Nat → (List (List Int)) → Int → Option (List (List Int))
  | 0, _, _ => none
  | n487 + 1, ms318, x324 => (bif (decide (x324 < (ms3.length : Int))) then ((mk p1_n (0 : Int)).bind fun xs491 => ((idx ms318 x324).bind fun _q492 => ((upd ms318 x324 xs491).bind fun ms497 => ((idx ms497 x324).bind fun q500 => (Option.bind (impl_matrixBy_L5 F m_p2_entry x324 q500 F ms497 0) fun ms604 => (impl_matrixBy_L4 F p1_n m_p2_entry ms3 n487 ms604 (IntKind.i64.wrap (x324 + 1)))))))) else some ms318)

def impl_matrixBy (F : Nat) (p0_m : Int) (p1_n : Int) (m_p2_entry : Int → Int → Option Int) : Option (List (List Int)) :=
  ((mk p0_m ([] : List Int)).bind fun ms3 => (Option.bind (impl_matrixBy_L4 F p1_n m_p2_entry ms3 F ms3 0) fun ms478 => some ms478))

def impl_transposed (F : Nat) (p0_a : List (List Int)) : Option (List (List Int)) :=
  ((idx p0_a 0).bind fun q2 => ((impl_matrixBy F (q2.length : Int) (p0_a.length : Int) (fun x0 x1 => impl_transposed_c1 F x0 x1 p0_a)).bind fun r11 => some r11))

def impl_times (_F : Nat) (p0_a : Int) (p1_b : Int) : Option (Int) :=
  (Option.bind ((bif (p0_a == (-1000000000000000)) then some true else some (p1_b == (-1000000000000000))) : Option (Bool)) fun b2 => (bif b2 then some (-1000000000000000) else some (IntKind.i64.wrap (p0_a + p1_b))))

def impl_timesVector_L5 (F : Nat) (p1_x : List Int) (x245 : Int) (q371 : List Int) : Nat → (List Int) → Int → Option (List Int)
  | 0, _, _ => none
  | n464 + 1, xs433, x435 => (bif (decide (x435 < (q371.length : Int))) then ((idx q371 x435).bind fun q466 => ((idx xs433 x245).bind fun q478 => ((idx p1_x x435).bind fun q480 => ((impl_times F q466 q480).bind fun r482 => ((idx xs433 x245).bind fun _q484 => ((upd xs433 x245 (max q478 r482)).bind fun xs486 => (impl_timesVector_L5 F p1_x x245 q371 n464 xs486 (IntKind.i64.wrap (x435 + 1))))))))) else some xs433)

def impl_timesVector_L4 (F : Nat) (p0_a : List (List Int)) (p1_x : List Int) : Nat → (List Int) → Int → Option (List Int)
  | 0, _, _ => none
  | n369 + 1, xs243, x245 => (bif (decide (x245 < (p0_a.length : Int))) then ((idx p0_a x245).bind fun q371 => ((idx xs243 x245).bind fun _q380 => ((upd xs243 x245 (-1000000000000000)).bind fun xs382 => (Option.bind (impl_timesVector_L5 F p1_x x245 q371 F xs382 0) fun xs459 => (impl_timesVector_L4 F p0_a p1_x n369 xs459 (IntKind.i64.wrap (x245 + 1))))))) else some xs243)

def impl_timesVector (F : Nat) (p0_a : List (List Int)) (p1_x : List Int) : Option (List Int) :=
  ((mk (p0_a.length : Int) (0 : Int)).bind fun xs3 => (Option.bind (impl_timesVector_L4 F p0_a p1_x F xs3 0) fun xs364 => some xs364))

def impl_innerProduct_L1 (F : Nat) (p0_a : List Int) (p1_b : List Int) : Nat → Int → Int → Option (Int)
  | 0, _, _ => none
  | n30 + 1, x17, x18 => (bif (decide (x18 < (p0_a.length : Int))) then ((idx p0_a x18).bind fun q32 => ((idx p1_b x18).bind fun q34 => ((impl_times F q32 q34).bind fun r36 => (impl_innerProduct_L1 F p0_a p1_b n30 (max x17 r36) (IntKind.i64.wrap (x18 + 1)))))) else some x17)

def impl_innerProduct (F : Nat) (p0_a : List Int) (p1_b : List Int) : Option (Int) :=
  (Option.bind (impl_innerProduct_L1 F p0_a p1_b F (-1000000000000000) 0) fun x26 => some x26)

def impl_SeriesSystem_c1 (F : Nat) (p0_i : Int) (p1_j : Int) (z0 : GSystem) (z1 : List Int) : Option (Int) :=
  ((idx z0.B p0_i).bind fun q1 => ((idx z1 p1_j).bind fun q3 => ((impl_times F q1 q3).bind fun r5 => some r5)))

def impl_blocks_c1 (_F : Nat) (p0_i : Int) (p1_j : Int) (z0 : Int) (z1 : List (List Int)) (z2 : List (List Int)) (m_z3 : Int → Int → Option Int) : Option (Int) :=
  (Option.bind ((bif (decide (p0_i < z0)) then some (decide (p1_j < z0)) else some false) : Option (Bool)) fun b2 => (bif b2 then ((idx z1 p0_i).bind fun q7 => ((idx q7 p1_j).bind fun q16 => some q16)) else (Option.bind ((bif (decide (z0 ≤ p0_i)) then some (decide (z0 ≤ p1_j)) else some false) : Option (Bool)) fun b19 => (bif b19 then ((idx z2 (IntKind.i64.wrap (p0_i - z0))).bind fun q24 => ((idx q24 (IntKind.i64.wrap (p1_j - z0))).bind fun q33 => some q33)) else (bif (decide (z0 ≤ p0_i)) then ((m_z3 (IntKind.i64.wrap (p0_i - z0)) p1_j).bind fun r36 => some r36) else some (-1000000000000000))))))

def impl_blocks (F : Nat) (p0_a : List (List Int)) (p1_b : List (List Int)) (m_p2_below : Int → Int → Option Int) : Option (List (List Int)) :=
  ((impl_matrixBy F (IntKind.i64.wrap ((p0_a.length : Int) + (p1_b.length : Int))) (IntKind.i64.wrap ((p0_a.length : Int) + (p1_b.length : Int))) (fun x0 x1 => impl_blocks_c1 F x0 x1 (p0_a.length : Int) p0_a p1_b m_p2_below)).bind fun r5 => some r5)

def slices_Clone_int64 (_F : Nat) (p0_s : List Int) : Option (List Int) :=
  ((app ([] : List Int) p0_s).bind fun xs5 => some xs5)

def math_bits_Mul64 (_F : Nat) (p0_x : Int) (p1_y : Int) : Option (Int × Int) :=
  some ((IntKind.u64.wrap ((IntKind.u64.wrap ((IntKind.u64.wrap ((shrI p0_x 32) * (shrI p1_y 32))) + (shrI (IntKind.u64.wrap ((IntKind.u64.wrap ((shrI p0_x 32) * (andI .u64 p1_y 4294967295))) + (shrI (IntKind.u64.wrap ((andI .u64 p0_x 4294967295) * (andI .u64 p1_y 4294967295))) 32))) 32))) + (shrI (IntKind.u64.wrap ((andI .u64 (IntKind.u64.wrap ((IntKind.u64.wrap ((shrI p0_x 32) * (andI .u64 p1_y 4294967295))) + (shrI (IntKind.u64.wrap ((andI .u64 p0_x 4294967295) * (andI .u64 p1_y 4294967295))) 32))) 4294967295) + (IntKind.u64.wrap ((andI .u64 p0_x 4294967295) * (shrI p1_y 32))))) 32))), (IntKind.u64.wrap (p0_x * p1_y)))

def math_bits_Mul (F : Nat) (p0_x : Int) (p1_y : Int) : Option (Int × Int) :=
  ((math_bits_Mul64 F p0_x p1_y).bind fun r1 => some (r1.1, r1.2))

def slices_Repeat_int64_L1 (F : Nat) : Nat → (List Int) → Int → Option (List Int)
  | 0, _, _ => none
  | n39 + 1, xs26, x28 => (bif (decide (x28 < (xs26.length : Int))) then ((cutFrom xs26 x28).bind fun xs42 => ((cutTo xs26 x28).bind fun xs44 => (slices_Repeat_int64_L1 F n39 (cpyS xs26 x28 xs44) (IntKind.i64.wrap (x28 + ((min xs44.length xs42.length : Nat) : Int)))))) else some xs26)

def slices_Repeat_int64 (F : Nat) (p0_x : List Int) (p1_count : Int) : Option (List Int) :=
  (bif (decide (p1_count < 0)) then none else ((math_bits_Mul F (IntKind.u64.wrap (p0_x.length : Int)) (IntKind.u64.wrap p1_count)).bind fun r2 => (Option.bind ((bif (decide (0 < r2.1)) then some true else some (decide (9223372036854775807 < r2.2))) : Option (Bool)) fun b5 => (bif b5 then none else ((mk (IntKind.i64.wrap r2.2) (0 : Int)).bind fun xs12 => (Option.bind (slices_Repeat_int64_L1 F F (cpy xs12 p0_x) ((min p0_x.length xs12.length : Nat) : Int)) fun xs34 => some xs34))))))

def slices_Grow_int64 (_F : Nat) (p1_n : Int) : Option (List Int) :=
  (bif (decide (p1_n < 0)) then none else (Option.bind ((bif (decide (0 < (IntKind.i64.wrap (p1_n - (IntKind.i64.wrap (0 - (([] : List Int).length : Int))))))) then ((mkz (IntKind.i64.wrap (p1_n - (IntKind.i64.wrap (0 - (([] : List Int).length : Int)))))).bind fun xs19 => ((cutTo xs19 (([] : List Int).length : Int)).bind fun xs22 => some xs22)) else some ([] : List Int)) : Option (List Int)) fun xs9 => some xs9))

def slices_Concat_int64_L1 (F : Nat) (p0_slices : List (List Int)) : Nat → Int → Int → Option (Int)
  | 0, _, _ => none
  | n42 + 1, x25, x26 => (bif (decide (x26 < (p0_slices.length : Int))) then ((idx p0_slices x26).bind fun q44 => (bif (decide ((IntKind.i64.wrap (x25 + (q44.length : Int))) < 0)) then none else (slices_Concat_int64_L1 F p0_slices n42 (IntKind.i64.wrap (x25 + (q44.length : Int))) (IntKind.i64.wrap (x26 + 1))))) else some x25)

def slices_Concat_int64_L2 (F : Nat) (p0_slices : List (List Int)) : Nat → (List Int) → Int → Option (List Int)
  | 0, _, _ => none
  | n122 + 1, xs94, x99 => (bif (decide (x99 < (p0_slices.length : Int))) then ((idx p0_slices x99).bind fun q124 => ((app xs94 q124).bind fun xs135 => (slices_Concat_int64_L2 F p0_slices n122 xs135 (IntKind.i64.wrap (x99 + 1))))) else some xs94)

def slices_Concat_int64 (F : Nat) (p0_slices : List (List Int)) : Option (List Int) :=
  (Option.bind (slices_Concat_int64_L1 F p0_slices F 0 0) fun x38 => ((slices_Grow_int64 F x38).bind fun r54 => (Option.bind (slices_Concat_int64_L2 F p0_slices F r54 0) fun xs114 => some xs114)))

def impl_checkedSystem (F : Nat) (p0_s : GSystem) : Option (GSystem × Int) :=
  ((impl_IsSystem F p0_s).bind fun r3 => (bif (!r3) then some ((GSystem.mk [] [] []), 3) else some (p0_s, 0)))

def impl_SeriesSystem_L1 (F : Nat) (p1 : GSystem) (r131 : Int) : Nat → (List Int) → Int → Option (List Int)
  | 0, _, _ => none
  | n241 + 1, xs208, x213 => (bif (decide (x213 < (p1.B.length : Int))) then ((idx p1.B x213).bind fun q243 => ((impl_times F q243 r131).bind fun r253 => ((app xs208 ([r253])).bind fun xs259 => (impl_SeriesSystem_L1 F p1 r131 n241 xs259 (IntKind.i64.wrap (x213 + 1)))))) else some xs208)

def impl_SeriesSystem (F : Nat) (p0 : GSystem) (p1 : GSystem) : Option (GSystem × Int) :=
  (Option.bind (((impl_IsSystem F p0).bind fun r12 => (bif (!r12) then some true else ((impl_IsSystem F p1).bind fun r15 => some (!r15)))) : Option (Bool)) fun b9 => (bif b9 then some ((GSystem.mk [] [] []), 1) else (bif (decide (10 < (IntKind.i64.wrap ((p0.A.length : Int) + (p1.A.length : Int))))) then some ((GSystem.mk [] [] []), 3) else (Option.bind (((impl_transposed F p0.A).bind fun r96 => ((impl_timesVector F r96 p0.C).bind fun r103 => some r103)) : Option (List Int)) fun xs75 => ((impl_innerProduct F p0.C p0.B).bind fun r131 => (Option.bind (((impl_areValues F xs75).bind fun r141 => (bif (!r141) then some true else ((impl_IsValue F r131).bind fun r144 => some (!r144)))) : Option (Bool)) fun b138 => (bif b138 then some ((GSystem.mk [] [] []), 3) else ((impl_blocks F p0.A p1.A (fun x0 x1 => impl_SeriesSystem_c1 F x0 x1 p1 xs75)).bind fun r150 => ((slices_Clone_int64 F p0.B).bind fun r158 => (Option.bind (impl_SeriesSystem_L1 F p1 r131 F r158 0) fun xs233 => ((slices_Repeat_int64 F ([(-1000000000000000)]) (p0.A.length : Int)).bind fun r279 => ((slices_Concat_int64 F ([r279, p1.C])).bind fun r287 => ((impl_checkedSystem F (GSystem.mk r150 xs233 r287)).bind fun r293 => some ((GSystem.mk r293.1.A r293.1.B r293.1.C), r293.2))))))))))))))

def spec_l01In (_F : Nat) (p0_n : Int) (p1_low : Int) (p2_high : Int) : Option (Bool) :=
  (Option.bind ((bif (decide (p1_low ≤ p0_n)) then some (decide (p0_n ≤ p2_high)) else some false) : Option (Bool)) fun b2 => some b2)

def spec_l01Finite (F : Nat) (p0_a : Int) : Option (Bool) :=
  ((spec_l01In F p0_a (-1000000) 1000000).bind fun r1 => some r1)

def spec_IsValue (F : Nat) (p0_a : Int) : Option (Bool) :=
  (Option.bind ((bif (p0_a == (-1000000000000000)) then some true else ((spec_l01Finite F p0_a).bind fun r8 => some r8)) : Option (Bool)) fun b4 => some b4)

def spec_l01All_L1 (F : Nat) (p0_list : List Int) (p1_finite : Bool) : Nat → Int → Option (Sum Bool (Unit))
  | 0, _ => none
  | n69 + 1, x44 => (bif (decide (x44 < (p0_list.length : Int))) then (Option.bind (((idx p0_list x44).bind fun q82 => ((spec_IsValue F q82).bind fun r84 => (bif (!r84) then some true else (bif p1_finite then ((idx p0_list x44).bind fun q88 => some (q88 == (-1000000000000000))) else some false)))) : Option (Bool)) fun b79 => (bif b79 then some (Sum.inl false) else (spec_l01All_L1 F p0_list p1_finite n69 (IntKind.i64.wrap (x44 + 1))))) else some (Sum.inr ()))

def spec_l01All (F : Nat) (p0_list : List Int) (p1_finite : Bool) : Option (Bool) :=
  (Option.bind (spec_l01All_L1 F p0_list p1_finite F 0) fun r66 => match r66 with | .inl x_ => some x_ | .inr _ => some true)

def spec_l02Vector (F : Nat) (p0_x : List Int) : Option (Bool) :=
  (Option.bind (((spec_l01In F (p0_x.length : Int) 1 10).bind fun r9 => (bif r9 then ((spec_l01All F p0_x false).bind fun r12 => some r12) else some false)) : Option (Bool)) fun b6 => some b6)

def spec_IsMatrix_L1 (F : Nat) (p0_a : List (List Int)) : Nat → Int → Option (Sum Bool (Unit))
  | 0, _ => none
  | n207 + 1, x138 => (bif (decide (x138 < (p0_a.length : Int))) then (Option.bind (((idx p0_a x138).bind fun q242 => ((spec_l02Vector F q242).bind fun r251 => (bif (!r251) then some true else ((idx p0_a x138).bind fun q254 => ((idx p0_a 0).bind fun q263 => some ((q254.length : Int) != (q263.length : Int))))))) : Option (Bool)) fun b239 => (bif b239 then some (Sum.inl false) else (spec_IsMatrix_L1 F p0_a n207 (IntKind.i64.wrap (x138 + 1))))) else some (Sum.inr ()))

def spec_IsMatrix (F : Nat) (p0_a : List (List Int)) : Option (Bool) :=
  (Option.bind ((bif (decide ((p0_a.length : Int) < 1)) then some true else some (decide (10 < (p0_a.length : Int)))) : Option (Bool)) fun b2 => (bif b2 then some false else (Option.bind (spec_IsMatrix_L1 F p0_a F 0) fun r204 => match r204 with | .inl x_ => some x_ | .inr _ => some true)))

def spec_l02Square (F : Nat) (p0_a : List (List Int)) : Option (Bool) :=
  (Option.bind (((spec_IsMatrix F p0_a).bind fun r16 => (bif r16 then ((idx p0_a 0).bind fun q19 => some ((p0_a.length : Int) == (q19.length : Int))) else some false)) : Option (Bool)) fun b13 => some b13)

def spec_IsSystem (F : Nat) (p0_s : GSystem) : Option (Bool) :=
  (Option.bind (((spec_l02Square F p0_s.A).bind fun r15 => (bif r15 then ((spec_l02Vector F p0_s.B).bind fun r18 => (bif r18 then ((spec_l02Vector F p0_s.C).bind fun r21 => (bif r21 then (bif ((p0_s.B.length : Int) == (p0_s.A.length : Int)) then some ((p0_s.C.length : Int) == (p0_s.A.length : Int)) else some false) else some false)) else some false)) else some false)) : Option (Bool)) fun b12 => some b12)

def spec_l01Times (_F : Nat) (p0_a : Int) (p1_b : Int) : Option (Int) :=
  (Option.bind ((bif (p0_a == (-1000000000000000)) then some true else some (p1_b == (-1000000000000000))) : Option (Bool)) fun b2 => (bif b2 then some (-1000000000000000) else some (IntKind.i64.wrap (p0_a + p1_b))))

def spec_l02Multiply_L21 (F : Nat) (p0 : List (List Int)) (p1 : List (List Int)) (x3072 : Int) (x5366 : Int) : Nat → (List (List Int)) → Int → Option (List (List Int))
  | 0, _, _ => none
  | n6039 + 1, ms5942, x5944 => (bif (decide (x5944 < (p1.length : Int))) then ((idx ms5942 x3072).bind fun q6085 => ((idx ms5942 x3072).bind fun q6090 => ((idx q6090 x5366).bind fun q6095 => ((idx p0 x3072).bind fun q6097 => ((idx q6097 x5944).bind fun q6106 => ((idx p1 x5944).bind fun q6108 => ((idx q6108 x5366).bind fun q6117 => ((spec_l01Times F q6106 q6117).bind fun r6119 => ((idx q6085 x5366).bind fun _q6121 => ((upd q6085 x5366 (max q6095 r6119)).bind fun xs6123 => ((upd ms5942 x3072 xs6123).bind fun ms6124 => (spec_l02Multiply_L21 F p0 p1 x3072 x5366 n6039 ms6124 (IntKind.i64.wrap (x5944 + 1)))))))))))))) else some ms5942)

def spec_l02Multiply_L20 (F : Nat) (p0 : List (List Int)) (p1 : List (List Int)) (x3072 : Int) : Nat → (List (List Int)) → Int → Option (List (List Int))
  | 0, _, _ => none
  | n5750 + 1, ms5364, x5366 => ((idx p1 0).bind fun q5751 => (bif (decide (x5366 < (q5751.length : Int))) then (Option.bind (spec_l02Multiply_L21 F p0 p1 x3072 x5366 F ms5364 0) fun ms6034 => (spec_l02Multiply_L20 F p0 p1 x3072 n5750 ms6034 (IntKind.i64.wrap (x5366 + 1)))) else some ms5364))

def spec_l02Multiply_L16 (F : Nat) (p0 : List (List Int)) (p1 : List (List Int)) : Nat → (List (List Int)) → Int → Option (List (List Int))
  | 0, _, _ => none
  | n4603 + 1, ms3070, x3072 => (bif (decide (x3072 < (p0.length : Int))) then (Option.bind (spec_l02Multiply_L20 F p0 p1 x3072 F ms3070 0) fun ms5745 => (spec_l02Multiply_L16 F p0 p1 n4603 ms5745 (IntKind.i64.wrap (x3072 + 1)))) else some ms3070)

def spec_l02Multiply (F : Nat) (p0 : List (List Int)) (p1 : List (List Int)) : Option (List (List Int)) :=
  ((idx p1 0).bind fun q1 => ((spec_l02Bottom F (p0.length : Int) (q1.length : Int)).bind fun r10 => (Option.bind (spec_l02Multiply_L16 F p0 p1 F r10 0) fun ms4598 => some ms4598)))

def spec_l02Turn_L5 (F : Nat) (p0_a : List (List Int)) (x320 : Int) : Nat → (List (List Int)) → Int → Option (List (List Int))
  | 0, _, _ => none
  | n590 + 1, ms548, x550 => ((idx p0_a x320).bind fun q591 => (bif (decide (x550 < (q591.length : Int))) then ((idx ms548 x550).bind fun q601 => ((idx p0_a x320).bind fun q606 => ((idx q606 x550).bind fun q615 => ((idx q601 x320).bind fun _q617 => ((upd q601 x320 q615).bind fun xs619 => ((upd ms548 x550 xs619).bind fun ms620 => (spec_l02Turn_L5 F p0_a x320 n590 ms620 (IntKind.i64.wrap (x550 + 1))))))))) else some ms548))

def spec_l02Turn_L4 (F : Nat) (p0_a : List (List Int)) : Nat → (List (List Int)) → Int → Option (List (List Int))
  | 0, _, _ => none
  | n475 + 1, ms318, x320 => (bif (decide (x320 < (p0_a.length : Int))) then (Option.bind (spec_l02Turn_L5 F p0_a x320 F ms318 0) fun ms585 => (spec_l02Turn_L4 F p0_a n475 ms585 (IntKind.i64.wrap (x320 + 1)))) else some ms318)

def spec_l02Turn (F : Nat) (p0_a : List (List Int)) : Option (List (List Int)) :=
  ((idx p0_a 0).bind fun q1 => ((spec_l02Bottom F (q1.length : Int) (p0_a.length : Int)).bind fun r10 => (Option.bind (spec_l02Turn_L4 F p0_a F r10 0) fun ms470 => some ms470)))

def spec_l07Column (F : Nat) (p0_x : List Int) : Option (List (List Int)) :=
  ((spec_l02Turn F ([p0_x])).bind fun r3 => some r3)

def spec_l24Dot_L1 (F : Nat) (p0_c : List Int) (p1_x : List Int) : Nat → Int → Int → Option (Int)
  | 0, _, _ => none
  | n30 + 1, x17, x18 => (bif (decide (x18 < (p0_c.length : Int))) then ((idx p0_c x18).bind fun q32 => ((idx p1_x x18).bind fun q34 => ((spec_l01Times F q32 q34).bind fun r36 => (spec_l24Dot_L1 F p0_c p1_x n30 (max x17 r36) (IntKind.i64.wrap (x18 + 1)))))) else some x17)

def spec_l24Dot (F : Nat) (p0_c : List Int) (p1_x : List Int) : Option (Int) :=
  (Option.bind (spec_l24Dot_L1 F p0_c p1_x F (-1000000000000000) 0) fun x26 => some x26)

def spec_l07Shift_L1 (F : Nat) (p0_x : List Int) (p1_g : Int) : Nat → (List Int) → Int → Option (List Int)
  | 0, _, _ => none
  | n56 + 1, xs31, x36 => (bif (decide (x36 < (p0_x.length : Int))) then ((idx p0_x x36).bind fun q58 => ((spec_l01Times F q58 p1_g).bind fun r60 => ((app xs31 ([r60])).bind fun xs66 => (spec_l07Shift_L1 F p0_x p1_g n56 xs66 (IntKind.i64.wrap (x36 + 1)))))) else some xs31)

def spec_l07Shift (F : Nat) (p0_x : List Int) (p1_g : Int) : Option (List Int) :=
  (Option.bind (spec_l07Shift_L1 F p0_x p1_g F ([] : List Int) 0) fun xs48 => some xs48)

def spec_l24Stack_L5 (F : Nat) (p0 : List (List Int)) (x239 : Int) : Nat → (List (List Int)) → Int → Option (List (List Int))
  | 0, _, _ => none
  | n446 + 1, ms413, x415 => (bif (decide (x415 < (p0.length : Int))) then ((idx ms413 x239).bind fun q448 => ((idx p0 x239).bind fun q453 => ((idx q453 x415).bind fun q462 => ((idx q448 x415).bind fun _q464 => ((upd q448 x415 q462).bind fun xs466 => ((upd ms413 x239 xs466).bind fun ms467 => (spec_l24Stack_L5 F p0 x239 n446 ms467 (IntKind.i64.wrap (x415 + 1))))))))) else some ms413)

def spec_l24Stack_L4 (F : Nat) (p0 : List (List Int)) : Nat → (List (List Int)) → Int → Option (List (List Int))
  | 0, _, _ => none
  | n358 + 1, ms237, x239 => (bif (decide (x239 < (p0.length : Int))) then (Option.bind (spec_l24Stack_L5 F p0 x239 F ms237 0) fun ms441 => (spec_l24Stack_L4 F p0 n358 ms441 (IntKind.i64.wrap (x239 + 1)))) else some ms237)

def spec_l24Stack_L13 (F : Nat) (p0 : List (List Int)) (p1 : List (List Int)) (x927 : Int) : Nat → (List (List Int)) → Int → Option (List (List Int))
  | 0, _, _ => none
  | n1246 + 1, ms1213, x1215 => (bif (decide (x1215 < (p1.length : Int))) then ((idx ms1213 (IntKind.i64.wrap ((p0.length : Int) + x927))).bind fun q1248 => ((idx p1 x927).bind fun q1253 => ((idx q1253 x1215).bind fun q1262 => ((idx q1248 (IntKind.i64.wrap ((p0.length : Int) + x1215))).bind fun _q1264 => ((upd q1248 (IntKind.i64.wrap ((p0.length : Int) + x1215)) q1262).bind fun xs1266 => ((upd ms1213 (IntKind.i64.wrap ((p0.length : Int) + x927)) xs1266).bind fun ms1267 => (spec_l24Stack_L13 F p0 p1 x927 n1246 ms1267 (IntKind.i64.wrap (x1215 + 1))))))))) else some ms1213)

def spec_l24Stack_L14 (F : Nat) (p0 : List (List Int)) (p2 : List (List Int)) (x927 : Int) : Nat → (List (List Int)) → Int → Option (List (List Int))
  | 0, _, _ => none
  | n1358 + 1, ms1325, x1327 => (bif (decide (x1327 < (p0.length : Int))) then ((idx ms1325 (IntKind.i64.wrap ((p0.length : Int) + x927))).bind fun q1360 => ((idx p2 x927).bind fun q1365 => ((idx q1365 x1327).bind fun q1374 => ((idx q1360 x1327).bind fun _q1376 => ((upd q1360 x1327 q1374).bind fun xs1378 => ((upd ms1325 (IntKind.i64.wrap ((p0.length : Int) + x927)) xs1378).bind fun ms1379 => (spec_l24Stack_L14 F p0 p2 x927 n1358 ms1379 (IntKind.i64.wrap (x1327 + 1))))))))) else some ms1325)

def spec_l24Stack_L12 (F : Nat) (p0 : List (List Int)) (p1 : List (List Int)) (p2 : List (List Int)) : Nat → (List (List Int)) → Int → Option (List (List Int))
  | 0, _, _ => none
  | n1158 + 1, ms925, x927 => (bif (decide (x927 < (p1.length : Int))) then (Option.bind (spec_l24Stack_L13 F p0 p1 x927 F ms925 0) fun ms1241 => (Option.bind (spec_l24Stack_L14 F p0 p2 x927 F ms1241 0) fun ms1353 => (spec_l24Stack_L12 F p0 p1 p2 n1158 ms1353 (IntKind.i64.wrap (x927 + 1))))) else some ms925)

def spec_l24Stack (F : Nat) (p0 : List (List Int)) (p1 : List (List Int)) (p2 : List (List Int)) : Option (List (List Int)) :=
  ((spec_l02Bottom F (IntKind.i64.wrap ((p0.length : Int) + (p1.length : Int))) (IntKind.i64.wrap ((p0.length : Int) + (p1.length : Int)))).bind fun r1 => (Option.bind (spec_l24Stack_L4 F p0 F r1 0) fun ms353 => (Option.bind (spec_l24Stack_L12 F p0 p1 p2 F ms353 0) fun ms1153 => some ms1153)))

def spec_l01Own (_F : Nat) (p0_list : List Int) : Option (List Int) :=
  ((app ([] : List Int) p0_list).bind fun xs5 => some xs5)

def spec_l24Result (F : Nat) (p0_s : GSystem) : Option (GSystem × Int) :=
  ((spec_IsSystem F p0_s).bind fun r3 => (bif (!r3) then some ((GSystem.mk [] [] []), 3) else some (p0_s, 0)))

def spec_SeriesSystem (F : Nat) (p0 : GSystem) (p1 : GSystem) : Option (GSystem × Int) :=
  (Option.bind (((spec_IsSystem F p0).bind fun r12 => (bif (!r12) then some true else ((spec_IsSystem F p1).bind fun r15 => some (!r15)))) : Option (Bool)) fun b9 => (bif b9 then some ((GSystem.mk [] [] []), 1) else (bif (decide (10 < (IntKind.i64.wrap ((p0.A.length : Int) + (p1.A.length : Int))))) then some ((GSystem.mk [] [] []), 3) else ((spec_l02Multiply F ([p0.C]) p0.A).bind fun r27 => ((spec_l07Column F p1.B).bind fun r34 => ((spec_l02Multiply F r34 r27).bind fun r41 => ((spec_l24Dot F p0.C p0.B).bind fun r48 => ((spec_l02Bottom F 1 (p0.A.length : Int)).bind fun r50 => ((idx r50 0).bind fun q57 => ((spec_l07Shift F p1.B r48).bind fun r62 => (Option.bind (((spec_IsMatrix F r27).bind fun r76 => (bif (!r76) then some true else ((spec_IsValue F r48).bind fun r79 => some (!r79)))) : Option (Bool)) fun b73 => (bif b73 then some ((GSystem.mk [] [] []), 3) else ((spec_l24Stack F p0.A p1.A r41).bind fun r124 => ((spec_l01Own F p0.B).bind fun r131 => ((app r131 r62).bind fun xs139 => ((app q57 p1.C).bind fun xs143 => ((spec_l24Result F (GSystem.mk r124 xs139 xs143)).bind fun r145 => some ((GSystem.mk r145.1.A r145.1.B r145.1.C), r145.2))))))))))))))))))

def impl_ParallelSystem_c1 (_F : Nat) (_p0 : Int) (_p1 : Int) : Option (Int) :=
  some (-1000000000000000)

def impl_ParallelSystem (F : Nat) (p0_s : GSystem) (p1_t : GSystem) : Option (GSystem × Int) :=
  (Option.bind (((impl_IsSystem F p0_s).bind fun r12 => (bif (!r12) then some true else ((impl_IsSystem F p1_t).bind fun r15 => some (!r15)))) : Option (Bool)) fun b9 => (bif b9 then some ((GSystem.mk [] [] []), 1) else (bif (decide (10 < (IntKind.i64.wrap ((p0_s.A.length : Int) + (p1_t.A.length : Int))))) then some ((GSystem.mk [] [] []), 3) else ((impl_blocks F p0_s.A p1_t.A (fun x0 x1 => impl_ParallelSystem_c1 F x0 x1)).bind fun r25 => (Option.bind (((slices_Concat_int64 F ([p0_s.B, p1_t.B])).bind fun r130 => ((slices_Concat_int64 F ([p0_s.C, p1_t.C])).bind fun r138 => some (r25, r130, r138))) : Option ((List (List Int)) × (List Int) × (List Int))) fun (ms94, xs100, xs105) => some ((GSystem.mk ms94 xs100 xs105), 0))))))

def spec_ParallelSystem (F : Nat) (p0_s : GSystem) (p1_t : GSystem) : Option (GSystem × Int) :=
  (Option.bind (((spec_IsSystem F p0_s).bind fun r12 => (bif (!r12) then some true else ((spec_IsSystem F p1_t).bind fun r15 => some (!r15)))) : Option (Bool)) fun b9 => (bif b9 then some ((GSystem.mk [] [] []), 1) else (bif (decide (10 < (IntKind.i64.wrap ((p0_s.A.length : Int) + (p1_t.A.length : Int))))) then some ((GSystem.mk [] [] []), 3) else ((spec_l02Bottom F (p1_t.A.length : Int) (p0_s.A.length : Int)).bind fun r25 => ((spec_l24Stack F p0_s.A p1_t.A r25).bind fun r59 => ((spec_l01Own F p0_s.B).bind fun r66 => ((app r66 p1_t.B).bind fun xs74 => ((spec_l01Own F p0_s.C).bind fun r76 => ((app r76 p1_t.C).bind fun xs84 => some ((GSystem.mk r59 xs74 xs84), 0))))))))))

def laws_likeInts_L1 (F : Nat) (p0_a : List Int) (p1_b : List Int) : Nat → Int → Option (Sum Bool (Unit))
  | 0, _ => none
  | n25 + 1, x15 => (bif (decide (x15 < (p0_a.length : Int))) then ((idx p0_a x15).bind fun q27 => ((idx p1_b x15).bind fun q29 => (bif (q27 != q29) then some (Sum.inl false) else (laws_likeInts_L1 F p0_a p1_b n25 (IntKind.i64.wrap (x15 + 1)))))) else some (Sum.inr ()))

def laws_likeInts (F : Nat) (p0_a : List Int) (p1_b : List Int) : Option (Bool) :=
  (bif ((p0_a.length : Int) != (p1_b.length : Int)) then some false else (Option.bind (laws_likeInts_L1 F p0_a p1_b F 0) fun r22 => match r22 with | .inl x_ => some x_ | .inr _ => some true))

def laws_likeTables9_L1 (F : Nat) (p0_a : List (List Int)) (p1_b : List (List Int)) : Nat → Int → Option (Sum Bool (Unit))
  | 0, _ => none
  | n73 + 1, x47 => (bif (decide (x47 < (p0_a.length : Int))) then ((idx p0_a x47).bind fun q75 => ((idx p1_b x47).bind fun q84 => ((laws_likeInts F q75 q84).bind fun r93 => (bif (!r93) then some (Sum.inl false) else (laws_likeTables9_L1 F p0_a p1_b n73 (IntKind.i64.wrap (x47 + 1))))))) else some (Sum.inr ()))

def laws_likeTables9 (F : Nat) (p0_a : List (List Int)) (p1_b : List (List Int)) : Option (Bool) :=
  (bif ((p0_a.length : Int) != (p1_b.length : Int)) then some false else (Option.bind (laws_likeTables9_L1 F p0_a p1_b F 0) fun r70 => match r70 with | .inl x_ => some x_ | .inr _ => some true))

def laws_likeSystems9 (F : Nat) (p0_a : GSystem) (p1_b : GSystem) : Option (Bool) :=
  (Option.bind (((laws_likeTables9 F p0_a.A p1_b.A).bind fun r14 => (bif r14 then ((laws_likeInts F p0_a.B p1_b.B).bind fun r17 => (bif r17 then ((laws_likeInts F p0_a.C p1_b.C).bind fun r20 => some r20) else some false)) else some false)) : Option (Bool)) fun b11 => some b11)

def impl_responseOf_L1 (F : Nat) (p0_s : GSystem) (p1_n : Int) : Nat → (List Int) → (List Int) → Int → Option (Sum (List Int × Int) (List Int))
  | 0, _, _, _ => none
  | n173 + 1, xs109, xs115, x120 => (bif (decide (x120 < p1_n)) then (Option.bind ((bif (decide (0 < x120)) then ((impl_timesVector F p0_s.A xs109).bind fun r190 => some r190) else some xs109) : Option (List Int)) fun xs182 => ((impl_innerProduct F p0_s.C xs182).bind fun r196 => (Option.bind (((impl_areValues F xs182).bind fun r206 => (bif (!r206) then some true else ((impl_IsValue F r196).bind fun r209 => some (!r209)))) : Option (Bool)) fun b203 => (bif b203 then some (Sum.inl (([] : List Int), 3)) else ((app xs115 ([r196])).bind fun xs217 => (impl_responseOf_L1 F p0_s p1_n n173 xs182 xs217 (IntKind.i64.wrap (x120 + 1)))))))) else some (Sum.inr xs115))

def impl_responseOf (F : Nat) (p0_s : GSystem) (p1_n : Int) : Option (List Int × Int) :=
  ((slices_Clone_int64 F p0_s.B).bind fun r2 => (Option.bind (impl_responseOf_L1 F p0_s p1_n F r2 ([] : List Int) 0) fun r170 => match r170 with | .inl x_ => some x_ | .inr xs165 => some (xs165, 0)))

def impl_ResponseOf (F : Nat) (p0_s : GSystem) (p1_n : Int) : Option (List Int × Int) :=
  ((impl_IsSystem F p0_s).bind fun r2 => (bif (!r2) then some (([] : List Int), 1) else ((impl_within F p1_n 0 50).bind fun r6 => (bif (!r6) then some (([] : List Int), 2) else ((impl_responseOf F p0_s p1_n).bind fun r10 => some (r10.1, r10.2))))))

def laws_FnSeries_L5 (F : Nat) (r122 : List Int × Int) (r128 : List Int × Int) (x382 : Int) : Nat → Int → Int → Option (Int)
  | 0, _, _ => none
  | n561 + 1, x536, x537 => (bif (decide (x537 ≤ x382)) then (Option.bind (((idx r122.1 x537).bind fun q571 => (bif (q571 != (-1000000000000000)) then ((idx r128.1 (IntKind.i64.wrap (x382 - x537))).bind fun q574 => some (q574 != (-1000000000000000))) else some false)) : Option (Bool)) fun b568 => (bif b568 then ((idx r122.1 x537).bind fun q577 => ((idx r128.1 (IntKind.i64.wrap (x382 - x537))).bind fun q579 => (laws_FnSeries_L5 F r122 r128 x382 n561 (max x536 (IntKind.i64.wrap (q577 + q579))) (IntKind.i64.wrap (x537 + 1))))) else (laws_FnSeries_L5 F r122 r128 x382 n561 x536 (IntKind.i64.wrap (x537 + 1))))) else some x536)

def laws_FnSeries_L4 (F : Nat) (r122 : List Int × Int) (r128 : List Int × Int) (r134 : List Int × Int) (r140 : List Int × Int) : Nat → Int → Option (Sum Bool (Unit))
  | 0, _ => none
  | n494 + 1, x382 => (bif (decide (x382 < 5)) then (Option.bind (laws_FnSeries_L5 F r122 r128 x382 F (-1000000000000000) 0) fun x557 => (Option.bind (((idx r134.1 x382).bind fun q593 => (bif (q593 != x557) then some true else ((idx r140.1 x382).bind fun q596 => ((idx r122.1 x382).bind fun q598 => ((idx r128.1 x382).bind fun q600 => some (q596 != (max q598 q600))))))) : Option (Bool)) fun b590 => (bif b590 then some (Sum.inl false) else (laws_FnSeries_L4 F r122 r128 r134 r140 n494 (IntKind.i64.wrap (x382 + 1)))))) else some (Sum.inr ()))

def laws_FnSeries (F : Nat) (p0 : List Int) : Option (Bool) :=
  ((laws_big F p0).bind fun r1 => (bif r1 then some true else ((spec_DrawSeriesSystem F p0).bind fun r4 => ((impl_SeriesSystem F (GSystem.mk r4.1.A r4.1.B r4.1.C) (GSystem.mk r4.2.A r4.2.B r4.2.C)).bind fun r34 => ((spec_SeriesSystem F (GSystem.mk r4.1.A r4.1.B r4.1.C) (GSystem.mk r4.2.A r4.2.B r4.2.C)).bind fun r50 => ((impl_ParallelSystem F (GSystem.mk r4.1.A r4.1.B r4.1.C) (GSystem.mk r4.2.A r4.2.B r4.2.C)).bind fun r66 => ((spec_ParallelSystem F (GSystem.mk r4.1.A r4.1.B r4.1.C) (GSystem.mk r4.2.A r4.2.B r4.2.C)).bind fun r82 => (Option.bind ((bif (r34.2 != r50.2) then some true else ((laws_likeSystems9 F (GSystem.mk r34.1.A r34.1.B r34.1.C) (GSystem.mk r50.1.A r50.1.B r50.1.C)).bind fun r109 => (bif (!r109) then some true else (bif (r66.2 != r82.2) then some true else ((laws_likeSystems9 F (GSystem.mk r66.1.A r66.1.B r66.1.C) (GSystem.mk r82.1.A r82.1.B r82.1.C)).bind fun r113 => some (!r113)))))) : Option (Bool)) fun b105 => (bif b105 then some false else (Option.bind ((bif (r34.2 != 0) then some true else some (r66.2 != 0)) : Option (Bool)) fun b117 => (bif b117 then some true else ((impl_ResponseOf F (GSystem.mk r4.1.A r4.1.B r4.1.C) 5).bind fun r122 => ((impl_ResponseOf F (GSystem.mk r4.2.A r4.2.B r4.2.C) 5).bind fun r128 => ((impl_ResponseOf F (GSystem.mk r34.1.A r34.1.B r34.1.C) 5).bind fun r134 => ((impl_ResponseOf F (GSystem.mk r66.1.A r66.1.B r66.1.C) 5).bind fun r140 => (Option.bind ((bif (r122.2 != 0) then some true else (bif (r128.2 != 0) then some true else (bif (r134.2 != 0) then some true else some (r140.2 != 0)))) : Option (Bool)) fun b149 => (bif b149 then (Option.bind ((bif (r122.2 == 3) then some true else (bif (r128.2 == 3) then some true else (bif (r134.2 == 3) then some true else some (r140.2 == 3)))) : Option (Bool)) fun b159 => some b159) else (Option.bind (laws_FnSeries_L4 F r122 r128 r134 r140 F 0) fun r491 => match r491 with | .inl x_ => some x_ | .inr _ => some true))))))))))))))))))

end Go.Proofs.Ytgkgimglgjfcjaa
