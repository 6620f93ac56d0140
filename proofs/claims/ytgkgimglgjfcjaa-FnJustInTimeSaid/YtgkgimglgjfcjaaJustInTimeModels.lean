/- Plain models of the functions. -/
import Derived.Test.YtgkgimglgjfcjaaLiftP
namespace Go.Proofs.Ytgkgimglgjfcjaa

structure GSystem where
  A : List (List Int)
  B : List Int
  C : List Int

def laws_big (_F : Nat) (p0_code : List Int) : Option (Bool) :=
  some (decide (4096 < (p0_code.length : Int)))

def spec_l01From_L1 (F : Nat) (p0_code : List Int) : Nat → Int → Int → Option (Int)
  | 0, _, _ => none
  | n34 + 1, x20, x21 => (Option.bind ((bif (decide (x21 < (p0_code.length : Int))) then some (decide (x21 < 64)) else some false) : Option (Bool)) fun b36 => (bif b36 then ((idx p0_code x21).bind fun q41 => (spec_l01From_L1 F p0_code n34 ((IntKind.i64.wrap ((IntKind.i64.wrap (x20 * 67)) + (IntKind.i64.wrap q41))).tmod 2147483647) (IntKind.i64.wrap (x21 + 1)))) else some x20))

def spec_l01From (F : Nat) (p0_code : List Int) : Option ((Int × Int)) :=
  (Option.bind (spec_l01From_L1 F p0_code F 61403 0) fun x30 => some (0, x30))

def spec_l01Next (_F : Nat) (p0_code : List Int) (p0_at : Int) (p0_seed : Int) (p1 : Int) : Option ((Int) × Int × Int) :=
  (bif (decide (p1 ≤ 1)) then some (0, p0_at, p0_seed) else (Option.bind ((bif (decide (p0_at < (p0_code.length : Int))) then ((idx p0_code p0_at).bind fun q18 => (Option.bind ((bif (decide (p1 ≤ 256)) then some (((IntKind.i64.wrap (p0_at + 1)).tmod 2) == 0) else some false) : Option (Bool)) fun b21 => (bif b21 then ((idx p0_code (IntKind.i64.wrap ((IntKind.i64.wrap (p0_at + 1)) - 1))).bind fun q26 => some ((IntKind.i64.wrap (p0_at + 1)), (IntKind.i64.wrap q26))) else some ((IntKind.i64.wrap (p0_at + 1)), (IntKind.i64.wrap ((IntKind.i64.wrap (((IntKind.i64.wrap ((IntKind.i64.wrap (p0_seed * 48271)) + 59)).tmod 2147483647).tdiv 31)) + (IntKind.i64.wrap q18))))))) else some (p0_at, (IntKind.i64.wrap (((IntKind.i64.wrap ((IntKind.i64.wrap (p0_seed * 48271)) + 59)).tmod 2147483647).tdiv 31)))) : Option (Int × Int)) fun (x13, x14) => ((if p1 = 0 then none else some ()).bind fun _u29 => some ((x14.tmod p1), x13, ((IntKind.i64.wrap ((IntKind.i64.wrap (p0_seed * 48271)) + 59)).tmod 2147483647)))))

def spec_l02Bottom_L5 (F : Nat) (p1_n : Int) : Nat → (List Int) → Int → Option (List Int)
  | 0, _, _ => none
  | n252 + 1, xs231, x236 => (bif (decide (x236 < p1_n)) then ((app xs231 ([(-1000000000000000)])).bind fun xs258 => (spec_l02Bottom_L5 F p1_n n252 xs258 (IntKind.i64.wrap (x236 + 1)))) else some xs231)

def spec_l02Bottom_L4 (F : Nat) (p0_m : Int) (p1_n : Int) : Nat → (List (List Int)) → Int → Option (List (List Int))
  | 0, _, _ => none
  | n207 + 1, ms131, x137 => (bif (decide (x137 < p0_m)) then (Option.bind (spec_l02Bottom_L5 F p1_n F ([] : List Int) 0) fun xs244 => ((app ms131 ([xs244])).bind fun ms264 => (spec_l02Bottom_L4 F p0_m p1_n n207 ms264 (IntKind.i64.wrap (x137 + 1))))) else some ms131)

def spec_l02Bottom (F : Nat) (p0_m : Int) (p1_n : Int) : Option (List (List Int)) :=
  (Option.bind (spec_l02Bottom_L4 F p0_m p1_n F [] 0) fun ms198 => some ms198)

def spec_l01Pick (F : Nat) (p0_s_code : List Int) (p0_s_at : Int) (p0_s_seed : Int) (p1_list : List Int) : Option ((Int) × Int × Int) :=
  ((spec_l01Next F p0_s_code p0_s_at p0_s_seed (p1_list.length : Int)).bind fun r1 => ((idx p1_list r1.1).bind fun q3 => some (q3, r1.2.1, r1.2.2)))

def spec_l01DrawValue (F : Nat) (p0_s_code : List Int) (p0_s_at : Int) (p0_s_seed : Int) : Option ((Int) × Int × Int) :=
  ((spec_l01Next F p0_s_code p0_s_at p0_s_seed 24).bind fun r1 => (Option.bind ((bif (r1.1 == 0) then some (r1.1 == 0) else (bif (r1.1 == 1) then some (r1.1 == 1) else some (r1.1 == 2))) : Option (Bool)) fun b5 => (bif b5 then some ((-1000000000000000), r1.2.1, r1.2.2) else (bif (r1.1 == 3) then ((spec_l01Pick F p0_s_code r1.2.1 r1.2.2 ([1000000, 1000001, (-1000000), (-1000001), (-999999999999999), (-1000000000000001), 9223372036854775807])).bind fun r14 => some (r14.1, r14.2.1, r14.2.2)) else (bif (r1.1 == 4) then ((spec_l01Next F p0_s_code r1.2.1 r1.2.2 2000).bind fun r17 => some ((IntKind.i64.wrap ((IntKind.i64.wrap (r17.1 - 1000)) * 701)), r17.2.1, r17.2.2)) else ((spec_l01Next F p0_s_code r1.2.1 r1.2.2 41).bind fun r19 => some ((IntKind.i64.wrap (r19.1 - 20)), r19.2.1, r19.2.2)))))))

def spec_l02DrawSize_L5 (F : Nat) (p0_s_code : List Int) (p2_n : Int) (r10 : (Int) × Int × Int) (x331 : Int) : Nat → Int → Int → (List (List Int)) → Int → Option (Int × Int × (List (List Int)))
  | 0, _, _, _, _ => none
  | n615 + 1, x569, x570, ms571, x573 => (bif (decide (x573 < p2_n)) then ((spec_l01Next F p0_s_code x569 x570 r10.1).bind fun r617 => (bif (decide (0 < r617.1)) then ((idx ms571 x331).bind fun q635 => ((spec_l01Next F p0_s_code r617.2.1 r617.2.2 26).bind fun r640 => ((idx q635 x573).bind fun _q642 => ((upd q635 x573 (IntKind.i64.wrap (r640.1 - 10))).bind fun xs644 => ((upd ms571 x331 xs644).bind fun ms645 => (spec_l02DrawSize_L5 F p0_s_code p2_n r10 x331 n615 r640.2.1 r640.2.2 ms645 (IntKind.i64.wrap (x573 + 1)))))))) else (spec_l02DrawSize_L5 F p0_s_code p2_n r10 x331 n615 r617.2.1 r617.2.2 ms571 (IntKind.i64.wrap (x573 + 1))))) else some (x569, x570, ms571))

def spec_l02DrawSize_L4 (F : Nat) (p0_s_code : List Int) (p1_m : Int) (p2_n : Int) (r10 : (Int) × Int × Int) : Nat → Int → Int → (List (List Int)) → Int → Option (Int × Int × (List (List Int)))
  | 0, _, _, _, _ => none
  | n494 + 1, x327, x328, ms329, x331 => (bif (decide (x331 < p1_m)) then (Option.bind (spec_l02DrawSize_L5 F p0_s_code p2_n r10 x331 F x327 x328 ms329 0) fun (x608, x609, ms610) => (spec_l02DrawSize_L4 F p0_s_code p1_m p2_n r10 n494 x608 x609 ms610 (IntKind.i64.wrap (x331 + 1)))) else some (x327, x328, ms329))

def spec_l02DrawSize (F : Nat) (p0_s_code : List Int) (p0_s_at : Int) (p0_s_seed : Int) (p1_m : Int) (p2_n : Int) : Option ((List (List Int)) × Int × Int) :=
  ((spec_l02Bottom F p1_m p2_n).bind fun r1 => ((spec_l01Pick F p0_s_code p0_s_at p0_s_seed ([2, 3, 5])).bind fun r10 => (Option.bind (spec_l02DrawSize_L4 F p0_s_code p1_m p2_n r10 F r10.2.1 r10.2.2 r1 0) fun (x487, x488, ms489) => ((spec_l01Next F p0_s_code x487 x488 60).bind fun r650 => (bif (r650.1 == 0) then ((idx ms489 0).bind fun q668 => ((spec_l01DrawValue F p0_s_code r650.2.1 r650.2.2).bind fun r673 => ((idx q668 0).bind fun _q675 => ((upd q668 0 r673.1).bind fun xs677 => ((upd ms489 0 xs677).bind fun ms678 => some (ms678, r673.2.1, r673.2.2)))))) else (bif (r650.1 == 1) then ((app ms489 ([([] : List Int)])).bind fun ms690 => some (ms690, r650.2.1, r650.2.2)) else (bif (r650.1 == 2) then some (([] : List (List Int)), r650.2.1, r650.2.2) else some (ms489, r650.2.1, r650.2.2))))))))

def spec_l02DrawVector_L1 (F : Nat) (p0_s_code : List Int) : Nat → Int → Int → Int → (List Int) → Option (Int × Int × (List Int))
  | 0, _, _, _, _ => none
  | n77 + 1, x43, x44, x45, xs46 => (bif (decide (0 < x45)) then ((spec_l01Next F p0_s_code x43 x44 31).bind fun r79 => ((app xs46 ([(IntKind.i64.wrap (r79.1 - 15))])).bind fun xs85 => ((spec_l01Next F p0_s_code r79.2.1 r79.2.2 8).bind fun r87 => (bif (r87.1 == 0) then ((idx xs85 (IntKind.i64.wrap ((xs85.length : Int) - 1))).bind fun _q90 => ((upd xs85 (IntKind.i64.wrap ((xs85.length : Int) - 1)) (-1000000000000000)).bind fun xs92 => (spec_l02DrawVector_L1 F p0_s_code n77 r87.2.1 r87.2.2 (IntKind.i64.wrap (x45 - 1)) xs92))) else (spec_l02DrawVector_L1 F p0_s_code n77 r87.2.1 r87.2.2 (IntKind.i64.wrap (x45 - 1)) xs85))))) else some (x43, x44, xs46))

def spec_l02DrawVector (F : Nat) (p0_s_code : List Int) (p0_s_at : Int) (p0_s_seed : Int) (p1_n : Int) : Option ((List Int) × Int × Int) :=
  (Option.bind (spec_l02DrawVector_L1 F p0_s_code F p0_s_at p0_s_seed p1_n ([] : List Int)) fun (x67, x68, xs69) => ((spec_l01Next F p0_s_code x67 x68 60).bind fun r94 => (bif (r94.1 == 0) then ((spec_l01DrawValue F p0_s_code r94.2.1 r94.2.2).bind fun r97 => ((app xs69 ([r97.1])).bind fun xs103 => some (xs103, r97.2.1, r97.2.2))) else (bif (r94.1 == 1) then some (([] : List Int), r94.2.1, r94.2.2) else some (xs69, r94.2.1, r94.2.2)))))

def spec_l24DrawSystem (F : Nat) (p0_s_code : List Int) (p0_s_at : Int) (p0_s_seed : Int) : Option ((GSystem) × Int × Int) :=
  ((spec_l01Next F p0_s_code p0_s_at p0_s_seed 4).bind fun r2 => ((spec_l02DrawSize F p0_s_code r2.2.1 r2.2.2 (IntKind.i64.wrap (1 + r2.1)) (IntKind.i64.wrap (1 + r2.1))).bind fun r4 => ((spec_l02DrawVector F p0_s_code r4.2.1 r4.2.2 (IntKind.i64.wrap (1 + r2.1))).bind fun r11 => ((spec_l02DrawVector F p0_s_code r11.2.1 r11.2.2 (IntKind.i64.wrap (1 + r2.1))).bind fun r17 => ((spec_l01Next F p0_s_code r17.2.1 r17.2.2 30).bind fun r23 => (bif (r23.1 == 0) then ((spec_l01Pick F p0_s_code r23.2.1 r23.2.2 ([30000, 5])).bind fun r28 => ((spec_l01Pick F p0_s_code r28.2.1 r28.2.2 ([1000000, 0])).bind fun r38 => some ((GSystem.mk ([[r28.1]]) ([0]) ([r38.1])), r38.2.1, r38.2.2))) else some ((GSystem.mk r4.1 r11.1 r17.1), r23.2.1, r23.2.2)))))))

def spec_l24DrawInputs_L1 (F : Nat) (p0_s_code : List Int) (p1_bottom : Bool) : Nat → Int → Int → (List Int) → Int → Int → Option (Int × Int × (List Int))
  | 0, _, _, _, _, _ => none
  | n110 + 1, x66, x67, xs68, x73, x74 => (bif (decide (0 < x74)) then ((app xs68 ([x73])).bind fun xs116 => ((spec_l01Next F p0_s_code x66 x67 9).bind fun r118 => (Option.bind ((bif p1_bottom then ((spec_l01Next F p0_s_code r118.2.1 r118.2.2 9).bind fun r129 => some (r129.2.1, r129.2.2, (r129.1 == 0))) else some (r118.2.1, r118.2.2, false)) : Option (Int × Int × Bool)) fun (x123, x124, b125) => (bif b125 then ((idx xs116 (IntKind.i64.wrap ((xs116.length : Int) - 1))).bind fun _q132 => ((upd xs116 (IntKind.i64.wrap ((xs116.length : Int) - 1)) (-1000000000000000)).bind fun xs134 => (spec_l24DrawInputs_L1 F p0_s_code p1_bottom n110 x123 x124 xs134 (IntKind.i64.wrap ((IntKind.i64.wrap (x73 + r118.1)) - 1)) (IntKind.i64.wrap (x74 - 1))))) else (spec_l24DrawInputs_L1 F p0_s_code p1_bottom n110 x123 x124 xs116 (IntKind.i64.wrap ((IntKind.i64.wrap (x73 + r118.1)) - 1)) (IntKind.i64.wrap (x74 - 1))))))) else some (x66, x67, xs68))

def spec_l24DrawInputs (F : Nat) (p0_s_code : List Int) (p0_s_at : Int) (p0_s_seed : Int) (p1_bottom : Bool) : Option ((List Int) × Int × Int) :=
  ((spec_l01Next F p0_s_code p0_s_at p0_s_seed 10).bind fun r3 => ((spec_l01Next F p0_s_code r3.2.1 r3.2.2 8).bind fun r5 => (Option.bind (spec_l24DrawInputs_L1 F p0_s_code p1_bottom F r5.2.1 r5.2.2 ([] : List Int) r3.1 r5.1) fun (x100, x101, xs102) => ((spec_l01Next F p0_s_code x100 x101 60).bind fun r136 => (bif (r136.1 == 0) then ((spec_l01DrawValue F p0_s_code r136.2.1 r136.2.2).bind fun r139 => ((app xs102 ([r139.1])).bind fun xs145 => some (xs145, r139.2.1, r139.2.2))) else (bif (r136.1 == 1) then ((spec_l01Next F p0_s_code r136.2.1 r136.2.2 2).bind fun r148 => ((mk (IntKind.i64.wrap (50 + r148.1)) (0 : Int)).bind fun xs152 => some (xs152, r148.2.1, r148.2.2))) else some (xs102, r136.2.1, r136.2.2)))))))

def spec_DrawLatestInputs (F : Nat) (p0_code : List Int) : Option (GSystem × List Int) :=
  ((spec_l01From F p0_code).bind fun r2 => ((spec_l24DrawSystem F p0_code r2.1 r2.2).bind fun r5 => ((spec_l24DrawInputs F p0_code r5.2.1 r5.2.2 false).bind fun r20 => some ((GSystem.mk r5.1.A r5.1.B r5.1.C), r20.1))))

def impl_within (_F : Nat) (p0_n : Int) (p1_low : Int) (p2_high : Int) : Option (Bool) :=
  (Option.bind ((bif (decide (p1_low ≤ p0_n)) then some (decide (p0_n ≤ p2_high)) else some false) : Option (Bool)) fun b2 => some b2)

def slices_IndexFunc_int64_L1 (F : Nat) (p0_s : List Int) (m_p1_f : Int → Option Bool) : Nat → Int → Option (Sum Int (Unit))
  | 0, _ => none
  | n24 + 1, x14 => (bif (decide (x14 < (p0_s.length : Int))) then ((idx p0_s x14).bind fun q26 => ((m_p1_f q26).bind fun r28 => (bif r28 then some (Sum.inl x14) else (slices_IndexFunc_int64_L1 F p0_s m_p1_f n24 (IntKind.i64.wrap (x14 + 1)))))) else some (Sum.inr ()))

def slices_IndexFunc_int64 (F : Nat) (p0_s : List Int) (m_p1_f : Int → Option Bool) : Option (Int) :=
  (Option.bind (slices_IndexFunc_int64_L1 F p0_s m_p1_f F 0) fun r21 => match r21 with | .inl x_ => some x_ | .inr _ => some (-1))

def slices_ContainsFunc_int64 (F : Nat) (p0_s : List Int) (m_p1_f : Int → Option Bool) : Option (Bool) :=
  ((slices_IndexFunc_int64 F p0_s m_p1_f).bind fun r1 => some (decide (0 ≤ r1)))

def impl_isFinite (F : Nat) (p0_n : Int) : Option (Bool) :=
  ((impl_within F p0_n (-1000000) 1000000).bind fun r1 => some r1)

def impl_IsValue (F : Nat) (p0_a : Int) : Option (Bool) :=
  (Option.bind ((bif (p0_a == (-1000000000000000)) then some true else ((impl_isFinite F p0_a).bind fun r8 => some r8)) : Option (Bool)) fun b4 => some b4)

def impl_areValues_c1 (F : Nat) (p0_n : Int) : Option (Bool) :=
  ((impl_IsValue F p0_n).bind fun r1 => some (!r1))

def impl_areValues (F : Nat) (p0_list : List Int) : Option (Bool) :=
  ((slices_ContainsFunc_int64 F p0_list (fun x0 => impl_areValues_c1 F x0)).bind fun r1 => some (!r1))

def impl_IsMatrix_c1 (F : Nat) (p0_row : List Int) (z0 : List (List Int)) : Option (Bool) :=
  (Option.bind (((idx z0 0).bind fun q16 => (bif ((p0_row.length : Int) != (q16.length : Int)) then some true else ((impl_areValues F p0_row).bind fun r26 => some (!r26)))) : Option (Bool)) fun b13 => some b13)

def slices_IndexFunc_sint64_L1 (F : Nat) (p0_s : List (List Int)) (m_p1_f : (List Int) → Option Bool) : Nat → Int → Option (Sum Int (Unit))
  | 0, _ => none
  | n45 + 1, x28 => (bif (decide (x28 < (p0_s.length : Int))) then ((idx p0_s x28).bind fun q47 => ((m_p1_f q47).bind fun r56 => (bif r56 then some (Sum.inl x28) else (slices_IndexFunc_sint64_L1 F p0_s m_p1_f n45 (IntKind.i64.wrap (x28 + 1)))))) else some (Sum.inr ()))

def slices_IndexFunc_sint64 (F : Nat) (p0_s : List (List Int)) (m_p1_f : (List Int) → Option Bool) : Option (Int) :=
  (Option.bind (slices_IndexFunc_sint64_L1 F p0_s m_p1_f F 0) fun r42 => match r42 with | .inl x_ => some x_ | .inr _ => some (-1))

def slices_ContainsFunc_sint64 (F : Nat) (p0_s : List (List Int)) (m_p1_f : (List Int) → Option Bool) : Option (Bool) :=
  ((slices_IndexFunc_sint64 F p0_s m_p1_f).bind fun r1 => some (decide (0 ≤ r1)))

def impl_IsMatrix (F : Nat) (p0_a : List (List Int)) : Option (Bool) :=
  (Option.bind (((impl_within F (p0_a.length : Int) 1 10).bind fun r19 => (bif (!r19) then some true else ((idx p0_a 0).bind fun q22 => ((impl_within F (q22.length : Int) 1 10).bind fun r31 => some (!r31))))) : Option (Bool)) fun b16 => (bif b16 then some false else ((slices_ContainsFunc_sint64 F p0_a (fun x0 => impl_IsMatrix_c1 F x0 p0_a)).bind fun r34 => some (!r34))))

def impl_isSquare (F : Nat) (p0_a : List (List Int)) : Option (Bool) :=
  (Option.bind (((impl_IsMatrix F p0_a).bind fun r16 => (bif r16 then ((idx p0_a 0).bind fun q19 => some ((p0_a.length : Int) == (q19.length : Int))) else some false)) : Option (Bool)) fun b13 => some b13)

def impl_isVector (F : Nat) (p0_x : List Int) : Option (Bool) :=
  (Option.bind (((impl_within F (p0_x.length : Int) 1 10).bind fun r9 => (bif r9 then ((impl_areValues F p0_x).bind fun r12 => some r12) else some false)) : Option (Bool)) fun b6 => some b6)

def impl_IsSystem (F : Nat) (p0_s : GSystem) : Option (Bool) :=
  (Option.bind (((impl_isSquare F p0_s.A).bind fun r15 => (bif r15 then ((impl_isVector F p0_s.B).bind fun r18 => (bif r18 then ((impl_isVector F p0_s.C).bind fun r21 => (bif r21 then (bif ((p0_s.B.length : Int) == (p0_s.A.length : Int)) then some ((p0_s.C.length : Int) == (p0_s.A.length : Int)) else some false) else some false)) else some false)) else some false)) : Option (Bool)) fun b12 => some b12)

def impl_allWithin_L1 (F : Nat) (p0_list : List Int) (p1_low : Int) (p2_high : Int) : Nat → Int → Option (Sum Bool (Unit))
  | 0, _ => none
  | n24 + 1, x14 => (bif (decide (x14 < (p0_list.length : Int))) then ((idx p0_list x14).bind fun q26 => ((impl_within F q26 p1_low p2_high).bind fun r28 => (bif (!r28) then some (Sum.inl false) else (impl_allWithin_L1 F p0_list p1_low p2_high n24 (IntKind.i64.wrap (x14 + 1)))))) else some (Sum.inr ()))

def impl_allWithin (F : Nat) (p0_list : List Int) (p1_low : Int) (p2_high : Int) : Option (Bool) :=
  (Option.bind (impl_allWithin_L1 F p0_list p1_low p2_high F 0) fun r21 => match r21 with | .inl x_ => some x_ | .inr _ => some true)

def impl_times (_F : Nat) (p0_a : Int) (p1_b : Int) : Option (Int) :=
  (Option.bind ((bif (p0_a == (-1000000000000000)) then some true else some (p1_b == (-1000000000000000))) : Option (Bool)) fun b2 => (bif b2 then some (-1000000000000000) else some (IntKind.i64.wrap (p0_a + p1_b))))

def impl_innerProduct_L1 (F : Nat) (p0_a : List Int) (p1_b : List Int) : Nat → Int → Int → Option (Int)
  | 0, _, _ => none
  | n30 + 1, x17, x18 => (bif (decide (x18 < (p0_a.length : Int))) then ((idx p0_a x18).bind fun q32 => ((idx p1_b x18).bind fun q34 => ((impl_times F q32 q34).bind fun r36 => (impl_innerProduct_L1 F p0_a p1_b n30 (max x17 r36) (IntKind.i64.wrap (x18 + 1)))))) else some x17)

def impl_innerProduct (F : Nat) (p0_a : List Int) (p1_b : List Int) : Option (Int) :=
  (Option.bind (impl_innerProduct_L1 F p0_a p1_b F (-1000000000000000) 0) fun x26 => some x26)

def slices_Clone_int64 (_F : Nat) (p0_s : List Int) : Option (List Int) :=
  ((app ([] : List Int) p0_s).bind fun xs5 => some xs5)

def impl_timesVector_L5 (F : Nat) (p1_x : List Int) (x245 : Int) (q371 : List Int) : Nat → (List Int) → Int → Option (List Int)
  | 0, _, _ => none
  | n464 + 1, xs433, x435 => (bif (decide (x435 < (q371.length : Int))) then ((idx q371 x435).bind fun q466 => ((idx xs433 x245).bind fun q478 => ((idx p1_x x435).bind fun q480 => ((impl_times F q466 q480).bind fun r482 => ((idx xs433 x245).bind fun _q484 => ((upd xs433 x245 (max q478 r482)).bind fun xs486 => (impl_timesVector_L5 F p1_x x245 q371 n464 xs486 (IntKind.i64.wrap (x435 + 1))))))))) else some xs433)

def impl_timesVector_L4 (F : Nat) (p0_a : List (List Int)) (p1_x : List Int) : Nat → (List Int) → Int → Option (List Int)
  | 0, _, _ => none
  | n369 + 1, xs243, x245 => (bif (decide (x245 < (p0_a.length : Int))) then ((idx p0_a x245).bind fun q371 => ((idx xs243 x245).bind fun _q380 => ((upd xs243 x245 (-1000000000000000)).bind fun xs382 => (Option.bind (impl_timesVector_L5 F p1_x x245 q371 F xs382 0) fun xs459 => (impl_timesVector_L4 F p0_a p1_x n369 xs459 (IntKind.i64.wrap (x245 + 1))))))) else some xs243)

def impl_timesVector (F : Nat) (p0_a : List (List Int)) (p1_x : List Int) : Option (List Int) :=
  ((mk (p0_a.length : Int) (0 : Int)).bind fun xs3 => (Option.bind (impl_timesVector_L4 F p0_a p1_x F xs3 0) fun xs364 => some xs364))

def impl_responseOf_L1 (F : Nat) (p0_s : GSystem) (p1_n : Int) : Nat → (List Int) → (List Int) → Int → Option (Sum (List Int × Int) (List Int))
  | 0, _, _, _ => none
  | n173 + 1, xs109, xs115, x120 => (bif (decide (x120 < p1_n)) then (Option.bind ((bif (decide (0 < x120)) then ((impl_timesVector F p0_s.A xs109).bind fun r190 => some r190) else some xs109) : Option (List Int)) fun xs182 => ((impl_innerProduct F p0_s.C xs182).bind fun r196 => (Option.bind (((impl_areValues F xs182).bind fun r206 => (bif (!r206) then some true else ((impl_IsValue F r196).bind fun r209 => some (!r209)))) : Option (Bool)) fun b203 => (bif b203 then some (Sum.inl (([] : List Int), 3)) else ((app xs115 ([r196])).bind fun xs217 => (impl_responseOf_L1 F p0_s p1_n n173 xs182 xs217 (IntKind.i64.wrap (x120 + 1)))))))) else some (Sum.inr xs115))

def impl_responseOf (F : Nat) (p0_s : GSystem) (p1_n : Int) : Option (List Int × Int) :=
  ((slices_Clone_int64 F p0_s.B).bind fun r2 => (Option.bind (impl_responseOf_L1 F p0_s p1_n F r2 ([] : List Int) 0) fun r170 => match r170 with | .inl x_ => some x_ | .inr xs165 => some (xs165, 0)))

def impl_checkedVector (F : Nat) (p0_x : List Int) : Option (List Int × Int) :=
  ((impl_areValues F p0_x).bind fun r1 => (bif (!r1) then some (([] : List Int), 3) else some (p0_x, 0)))

def impl_LatestInputs_L5 (F : Nat) (p1 : List Int) (r23 : List Int × Int) (x193 : Int) : Nat → (List Int) → Int → Option (List Int)
  | 0, _, _ => none
  | n339 + 1, xs317, x319 => (bif (decide (x319 < (p1.length : Int))) then ((idx r23.1 (IntKind.i64.wrap (x319 - x193))).bind fun q341 => (bif (q341 != (-1000000000000000)) then ((idx xs317 x193).bind fun q344 => ((idx p1 x319).bind fun q346 => ((idx r23.1 (IntKind.i64.wrap (x319 - x193))).bind fun q348 => ((idx xs317 x193).bind fun _q350 => ((upd xs317 x193 (min q344 (IntKind.i64.wrap (q346 - q348)))).bind fun xs352 => (impl_LatestInputs_L5 F p1 r23 x193 n339 xs352 (IntKind.i64.wrap (x319 + 1)))))))) else (impl_LatestInputs_L5 F p1 r23 x193 n339 xs317 (IntKind.i64.wrap (x319 + 1))))) else some xs317)

def impl_LatestInputs_L4 (F : Nat) (p1 : List Int) (r23 : List Int × Int) (xs33 : List Int) : Nat → (List Int) → Int → Option (List Int)
  | 0, _, _ => none
  | n276 + 1, xs191, x193 => (bif (decide (x193 < (xs33.length : Int))) then ((idx p1 x193).bind fun q278 => ((idx r23.1 0).bind fun q280 => ((idx xs191 x193).bind fun _q282 => ((upd xs191 x193 (IntKind.i64.wrap (q278 - q280))).bind fun xs284 => (Option.bind (impl_LatestInputs_L5 F p1 r23 x193 F xs284 x193) fun xs334 => (impl_LatestInputs_L4 F p1 r23 xs33 n276 xs334 (IntKind.i64.wrap (x193 + 1)))))))) else some xs191)

def impl_LatestInputs (F : Nat) (p0 : GSystem) (p1 : List Int) : Option (List Int × Int) :=
  (Option.bind (((impl_IsSystem F p0).bind fun r11 => (bif (!r11) then some true else (bif (decide (50 < (p1.length : Int))) then some true else ((impl_allWithin F p1 (-1000000) 1000000).bind fun r15 => some (!r15))))) : Option (Bool)) fun b8 => (bif b8 then some (([] : List Int), 1) else ((impl_innerProduct F p0.C p0.B).bind fun r19 => (bif (r19 == (-1000000000000000)) then some (([] : List Int), 5) else ((impl_responseOf F p0 (p1.length : Int)).bind fun r23 => (bif (r23.2 != 0) then some (([] : List Int), r23.2) else ((mk (p1.length : Int) (0 : Int)).bind fun xs33 => (Option.bind (impl_LatestInputs_L4 F p1 r23 xs33 F xs33 0) fun xs271 => ((impl_checkedVector F xs271).bind fun r354 => some (r354.1, r354.2))))))))))

def spec_l01In (_F : Nat) (p0_n : Int) (p1_low : Int) (p2_high : Int) : Option (Bool) :=
  (Option.bind ((bif (decide (p1_low ≤ p0_n)) then some (decide (p0_n ≤ p2_high)) else some false) : Option (Bool)) fun b2 => some b2)

def spec_l01Finite (F : Nat) (p0_a : Int) : Option (Bool) :=
  ((spec_l01In F p0_a (-1000000) 1000000).bind fun r1 => some r1)

def spec_IsValue (F : Nat) (p0_a : Int) : Option (Bool) :=
  (Option.bind ((bif (p0_a == (-1000000000000000)) then some true else ((spec_l01Finite F p0_a).bind fun r8 => some r8)) : Option (Bool)) fun b4 => some b4)

def spec_l01All_L1 (F : Nat) (p0_list : List Int) (p1_finite : Bool) : Nat → Int → Option (Sum Bool (Unit))
  | 0, _ => none
  | n69 + 1, x44 => (bif (decide (x44 < (p0_list.length : Int))) then (Option.bind (((idx p0_list x44).bind fun q82 => ((spec_IsValue F q82).bind fun r84 => (bif (!r84) then some true else (bif p1_finite then ((idx p0_list x44).bind fun q88 => some (q88 == (-1000000000000000))) else some false)))) : Option (Bool)) fun b79 => (bif b79 then some (Sum.inl false) else (spec_l01All_L1 F p0_list p1_finite n69 (IntKind.i64.wrap (x44 + 1))))) else some (Sum.inr ()))

def spec_l01All (F : Nat) (p0_list : List Int) (p1_finite : Bool) : Option (Bool) :=
  (Option.bind (spec_l01All_L1 F p0_list p1_finite F 0) fun r66 => match r66 with | .inl x_ => some x_ | .inr _ => some true)

def spec_l02Vector (F : Nat) (p0_x : List Int) : Option (Bool) :=
  (Option.bind (((spec_l01In F (p0_x.length : Int) 1 10).bind fun r9 => (bif r9 then ((spec_l01All F p0_x false).bind fun r12 => some r12) else some false)) : Option (Bool)) fun b6 => some b6)

def spec_IsMatrix_L1 (F : Nat) (p0_a : List (List Int)) : Nat → Int → Option (Sum Bool (Unit))
  | 0, _ => none
  | n207 + 1, x138 => (bif (decide (x138 < (p0_a.length : Int))) then (Option.bind (((idx p0_a x138).bind fun q242 => ((spec_l02Vector F q242).bind fun r251 => (bif (!r251) then some true else ((idx p0_a x138).bind fun q254 => ((idx p0_a 0).bind fun q263 => some ((q254.length : Int) != (q263.length : Int))))))) : Option (Bool)) fun b239 => (bif b239 then some (Sum.inl false) else (spec_IsMatrix_L1 F p0_a n207 (IntKind.i64.wrap (x138 + 1))))) else some (Sum.inr ()))

def spec_IsMatrix (F : Nat) (p0_a : List (List Int)) : Option (Bool) :=
  (Option.bind ((bif (decide ((p0_a.length : Int) < 1)) then some true else some (decide (10 < (p0_a.length : Int)))) : Option (Bool)) fun b2 => (bif b2 then some false else (Option.bind (spec_IsMatrix_L1 F p0_a F 0) fun r204 => match r204 with | .inl x_ => some x_ | .inr _ => some true)))

def spec_l02Square (F : Nat) (p0_a : List (List Int)) : Option (Bool) :=
  (Option.bind (((spec_IsMatrix F p0_a).bind fun r16 => (bif r16 then ((idx p0_a 0).bind fun q19 => some ((p0_a.length : Int) == (q19.length : Int))) else some false)) : Option (Bool)) fun b13 => some b13)

def spec_IsSystem (F : Nat) (p0_s : GSystem) : Option (Bool) :=
  (Option.bind (((spec_l02Square F p0_s.A).bind fun r15 => (bif r15 then ((spec_l02Vector F p0_s.B).bind fun r18 => (bif r18 then ((spec_l02Vector F p0_s.C).bind fun r21 => (bif r21 then (bif ((p0_s.B.length : Int) == (p0_s.A.length : Int)) then some ((p0_s.C.length : Int) == (p0_s.A.length : Int)) else some false) else some false)) else some false)) else some false)) : Option (Bool)) fun b12 => some b12)

def spec_l24Inputs (F : Nat) (p0_list : List Int) (p1_finite : Bool) : Option (Bool) :=
  (Option.bind ((bif (decide ((p0_list.length : Int) ≤ 50)) then ((spec_l01All F p0_list p1_finite).bind fun r8 => some r8) else some false) : Option (Bool)) fun b4 => some b4)

def spec_l01Times (_F : Nat) (p0_a : Int) (p1_b : Int) : Option (Int) :=
  (Option.bind ((bif (p0_a == (-1000000000000000)) then some true else some (p1_b == (-1000000000000000))) : Option (Bool)) fun b2 => (bif b2 then some (-1000000000000000) else some (IntKind.i64.wrap (p0_a + p1_b))))

def spec_l24Dot_L1 (F : Nat) (p0_c : List Int) (p1_x : List Int) : Nat → Int → Int → Option (Int)
  | 0, _, _ => none
  | n30 + 1, x17, x18 => (bif (decide (x18 < (p0_c.length : Int))) then ((idx p0_c x18).bind fun q32 => ((idx p1_x x18).bind fun q34 => ((spec_l01Times F q32 q34).bind fun r36 => (spec_l24Dot_L1 F p0_c p1_x n30 (max x17 r36) (IntKind.i64.wrap (x18 + 1)))))) else some x17)

def spec_l24Dot (F : Nat) (p0_c : List Int) (p1_x : List Int) : Option (Int) :=
  (Option.bind (spec_l24Dot_L1 F p0_c p1_x F (-1000000000000000) 0) fun x26 => some x26)

def spec_l02Apply_L5 (F : Nat) (p0_a : List (List Int)) (p1_x : List Int) (x174 : Int) : Nat → Int → Int → Option (Int)
  | 0, _, _ => none
  | n321 + 1, x299, x300 => (bif (decide (x300 < (p1_x.length : Int))) then ((idx p0_a x174).bind fun q323 => ((idx q323 x300).bind fun q332 => ((idx p1_x x300).bind fun q334 => ((spec_l01Times F q332 q334).bind fun r336 => (spec_l02Apply_L5 F p0_a p1_x x174 n321 (max x299 r336) (IntKind.i64.wrap (x300 + 1))))))) else some x299)

def spec_l02Apply_L4 (F : Nat) (p0_a : List (List Int)) (p1_x : List Int) : Nat → (List Int) → Int → Option (List Int)
  | 0, _, _ => none
  | n263 + 1, xs169, x174 => (bif (decide (x174 < (p0_a.length : Int))) then (Option.bind (spec_l02Apply_L5 F p0_a p1_x x174 F (-1000000000000000) 0) fun x317 => ((app xs169 ([x317])).bind fun xs342 => (spec_l02Apply_L4 F p0_a p1_x n263 xs342 (IntKind.i64.wrap (x174 + 1))))) else some xs169)

def spec_l02Apply (F : Nat) (p0_a : List (List Int)) (p1_x : List Int) : Option (List Int) :=
  (Option.bind (spec_l02Apply_L4 F p0_a p1_x F ([] : List Int) 0) fun xs255 => some xs255)

def spec_l24Response_L1 (F : Nat) (p0_s : GSystem) (p1_n : Int) : Nat → (List Int) → (List Int) → Int → Option (Sum (List Int × Bool) (List Int))
  | 0, _, _, _ => none
  | n133 + 1, xs79, xs84, x95 => (bif (decide (x95 < p1_n)) then ((spec_l24Dot F p0_s.C xs84).bind fun r135 => (Option.bind (((spec_l01All F xs84 false).bind fun r145 => (bif (!r145) then some true else ((spec_IsValue F r135).bind fun r148 => some (!r148)))) : Option (Bool)) fun b142 => (bif b142 then some (Sum.inl (([] : List Int), false)) else ((app xs79 ([r135])).bind fun xs156 => ((spec_l02Apply F p0_s.A xs84).bind fun r158 => (spec_l24Response_L1 F p0_s p1_n n133 xs156 r158 (IntKind.i64.wrap (x95 + 1)))))))) else some (Sum.inr xs79))

def spec_l24Response (F : Nat) (p0_s : GSystem) (p1_n : Int) : Option (List Int × Bool) :=
  (Option.bind (spec_l24Response_L1 F p0_s p1_n F ([] : List Int) p0_s.B 0) fun r130 => match r130 with | .inl x_ => some x_ | .inr xs125 => some (xs125, true))

def spec_LatestInputs_L5 (F : Nat) (p1 : List Int) (r21 : List Int × Bool) (x146 : Int) : Nat → Int → Int → Option (Int)
  | 0, _, _ => none
  | n245 + 1, x231, x232 => (bif (decide (x232 < (p1.length : Int))) then ((idx r21.1 (IntKind.i64.wrap (x232 - x146))).bind fun q247 => (bif (q247 != (-1000000000000000)) then ((idx p1 x232).bind fun q250 => ((idx r21.1 (IntKind.i64.wrap (x232 - x146))).bind fun q252 => (spec_LatestInputs_L5 F p1 r21 x146 n245 (min x231 (IntKind.i64.wrap (q250 - q252))) (IntKind.i64.wrap (x232 + 1))))) else (spec_LatestInputs_L5 F p1 r21 x146 n245 x231 (IntKind.i64.wrap (x232 + 1))))) else some x231)

def spec_LatestInputs_L4 (F : Nat) (p1 : List Int) (r21 : List Int × Bool) : Nat → (List Int) → Int → Option (List Int)
  | 0, _, _ => none
  | n207 + 1, xs141, x146 => (bif (decide (x146 < (p1.length : Int))) then ((idx p1 x146).bind fun q209 => ((idx r21.1 0).bind fun q211 => (Option.bind (spec_LatestInputs_L5 F p1 r21 x146 F (IntKind.i64.wrap (q209 - q211)) x146) fun x241 => ((app xs141 ([x241])).bind fun xs258 => (spec_LatestInputs_L4 F p1 r21 n207 xs258 (IntKind.i64.wrap (x146 + 1))))))) else some xs141)

def spec_LatestInputs (F : Nat) (p0 : GSystem) (p1 : List Int) : Option (List Int × Int) :=
  (Option.bind (((spec_IsSystem F p0).bind fun r10 => (bif (!r10) then some true else ((spec_l24Inputs F p1 true).bind fun r13 => some (!r13)))) : Option (Bool)) fun b7 => (bif b7 then some (([] : List Int), 1) else ((spec_l24Dot F p0.C p0.B).bind fun r17 => (bif (r17 == (-1000000000000000)) then some (([] : List Int), 5) else ((spec_l24Response F p0 (p1.length : Int)).bind fun r21 => (bif (!r21.2) then some (([] : List Int), 3) else (Option.bind (spec_LatestInputs_L4 F p1 r21 F ([] : List Int) 0) fun xs199 => ((spec_l01All F xs199 true).bind fun r260 => (bif (!r260) then some (([] : List Int), 3) else some (xs199, 0))))))))))

def spec_DrawMeetsDue (F : Nat) (p0 : List Int) : Option (GSystem × List Int × List Int × List Int) :=
  ((spec_l01From F p0).bind fun r2 => ((spec_l24DrawSystem F p0 r2.1 r2.2).bind fun r5 => ((spec_l24DrawInputs F p0 r5.2.1 r5.2.2 false).bind fun r21 => ((spec_l02Bottom F 1 (max 1 (r5.1.A.length : Int))).bind fun r27 => ((idx r27 0).bind fun q34 => ((spec_l01Next F p0 r21.2.1 r21.2.2 4).bind fun r39 => (Option.bind ((bif (r39.1 == 0) then ((spec_l02DrawVector F p0 r39.2.1 r39.2.2 (r5.1.A.length : Int)).bind fun r58 => some (r58.2.1, r58.2.2, r58.1)) else some (r39.2.1, r39.2.2, q34)) : Option (Int × Int × (List Int))) fun (x48, x49, xs50) => ((spec_LatestInputs F (GSystem.mk r5.1.A r5.1.B r5.1.C) r21.1).bind fun r64 => (bif (r64.2 != 0) then ((spec_l24DrawInputs F p0 x48 x49 true).bind fun r77 => some ((GSystem.mk r5.1.A r5.1.B r5.1.C), xs50, r77.1, r21.1)) else (Option.bind ((bif (decide (0 < (r64.1.length : Int))) then ((spec_l01Next F p0 x48 x49 2).bind fun r92 => some (r92.2.1, r92.2.2, (r92.1 == 0))) else some (x48, x49, false)) : Option (Int × Int × Bool)) fun (x86, x87, b88) => (Option.bind ((bif b88 then ((spec_l01Next F p0 x86 x87 (r64.1.length : Int)).bind fun r118 => ((idx r64.1 r118.1).bind fun q128 => ((spec_l01Next F p0 r118.2.1 r118.2.2 4).bind fun r130 => ((idx r64.1 r118.1).bind fun _q132 => ((upd r64.1 r118.1 (IntKind.i64.wrap ((IntKind.i64.wrap (q128 + r130.1)) - 1))).bind fun xs134 => some xs134))))) else some r64.1) : Option (List Int)) fun xs113 => some ((GSystem.mk r5.1.A r5.1.B r5.1.C), xs50, xs113, r21.1))))))))))))

def impl_checkSystem (F : Nat) (p0_s : GSystem) (p1_x : List Int) (p2_inputs : List Int) : Option (Int) :=
  (Option.bind (((impl_IsSystem F p0_s).bind fun r15 => (bif (!r15) then some true else ((impl_isVector F p1_x).bind fun r18 => (bif (!r18) then some true else (bif ((p1_x.length : Int) != (p0_s.A.length : Int)) then some true else (bif (decide (50 < (p2_inputs.length : Int))) then some true else ((impl_areValues F p2_inputs).bind fun r23 => some (!r23)))))))) : Option (Bool)) fun b12 => (bif b12 then some 1 else some 0))

def impl_shiftedVector_L1 (F : Nat) (p0_x : List Int) (p1_g : Int) : Nat → (List Int) → Int → Option (List Int)
  | 0, _, _ => none
  | n42 + 1, xs25, x27 => (bif (decide (x27 < (p0_x.length : Int))) then ((idx p0_x x27).bind fun q44 => ((impl_times F q44 p1_g).bind fun r46 => ((idx xs25 x27).bind fun _q48 => ((upd xs25 x27 r46).bind fun xs50 => (impl_shiftedVector_L1 F p0_x p1_g n42 xs50 (IntKind.i64.wrap (x27 + 1))))))) else some xs25)

def impl_shiftedVector (F : Nat) (p0_x : List Int) (p1_g : Int) : Option (List Int) :=
  ((mk (p0_x.length : Int) (0 : Int)).bind fun xs3 => (Option.bind (impl_shiftedVector_L1 F p0_x p1_g F xs3 0) fun xs37 => some xs37))

def impl_runSystem_L5 (F : Nat) (r305 : List Int) (r311 : List Int) : Nat → (List Int) → Int → Option (List Int)
  | 0, _, _ => none
  | n371 + 1, xs354, x356 => (bif (decide (x356 < (r305.length : Int))) then ((idx r305 x356).bind fun q373 => ((idx r311 x356).bind fun q375 => ((idx xs354 x356).bind fun _q377 => ((upd xs354 x356 (max q373 q375)).bind fun xs379 => (impl_runSystem_L5 F r305 r311 n371 xs379 (IntKind.i64.wrap (x356 + 1))))))) else some xs354)

def impl_runSystem_L4 (F : Nat) (p0 : GSystem) (p2 : List Int) : Nat → (List Int) → (List Int) → Int → Option (Sum (List Int × List Int × Int) ((List Int) × (List Int)))
  | 0, _, _, _ => none
  | n301 + 1, xs194, xs197, x202 => (bif (decide (x202 < (p2.length : Int))) then ((idx p2 x202).bind fun q303 => ((impl_timesVector F p0.A xs194).bind fun r305 => ((impl_shiftedVector F p0.B q303).bind fun r311 => (Option.bind (((impl_areValues F r305).bind fun r325 => (bif (!r325) then some true else ((impl_areValues F r311).bind fun r328 => some (!r328)))) : Option (Bool)) fun b322 => (bif b322 then some (Sum.inl (([] : List Int), ([] : List Int), 3)) else (Option.bind (impl_runSystem_L5 F r305 r311 F xs194 0) fun xs366 => ((impl_innerProduct F p0.C xs366).bind fun r381 => ((impl_IsValue F r381).bind fun r383 => (bif (!r383) then some (Sum.inl (([] : List Int), ([] : List Int), 3)) else ((app xs197 ([r381])).bind fun xs392 => (impl_runSystem_L4 F p0 p2 n301 xs366 xs392 (IntKind.i64.wrap (x202 + 1))))))))))))) else some (Sum.inr (xs194, xs197)))

def impl_runSystem (F : Nat) (p0 : GSystem) (p1 : List Int) (p2 : List Int) : Option (List Int × List Int × Int) :=
  ((slices_Clone_int64 F p1).bind fun r2 => (Option.bind (impl_runSystem_L4 F p0 p2 F r2 ([] : List Int) 0) fun r298 => match r298 with | .inl x_ => some x_ | .inr (xs291, xs293) => some (xs293, xs291, 0)))

def impl_MeetsDue_L1 (F : Nat) (p3_due : List Int) (r16 : List Int × List Int × Int) : Nat → Int → Option (Sum (Bool × Int) (Unit))
  | 0, _ => none
  | n50 + 1, x40 => (bif (decide (x40 < (r16.1.length : Int))) then ((idx r16.1 x40).bind fun q52 => ((idx p3_due x40).bind fun q54 => (bif (decide (q54 < q52)) then some (Sum.inl (false, 0)) else (impl_MeetsDue_L1 F p3_due r16 n50 (IntKind.i64.wrap (x40 + 1)))))) else some (Sum.inr ()))

def impl_MeetsDue (F : Nat) (p0_s : GSystem) (p1_x : List Int) (p2_inputs : List Int) (p3_due : List Int) : Option (Bool × Int) :=
  ((impl_checkSystem F p0_s p1_x p2_inputs).bind fun r2 => (bif (r2 != 0) then some (false, r2) else (Option.bind ((bif (decide (50 < (p3_due.length : Int))) then some true else ((impl_allWithin F p3_due (-1000000) 1000000).bind fun r12 => some (!r12))) : Option (Bool)) fun b8 => (bif b8 then some (false, 1) else (bif ((p2_inputs.length : Int) != (p3_due.length : Int)) then some (false, 2) else ((impl_runSystem F p0_s p1_x p2_inputs).bind fun r16 => (bif (r16.2.2 != 0) then some (false, r16.2.2) else (Option.bind (impl_MeetsDue_L1 F p3_due r16 F 0) fun r47 => match r47 with | .inl x_ => some x_ | .inr _ => some (true, 0)))))))))

def spec_l24Code (F : Nat) (p0_s : GSystem) (p1_x : List Int) (p2_inputs : List Int) : Option (Int) :=
  (Option.bind (((spec_IsSystem F p0_s).bind fun r14 => (bif (!r14) then some true else ((spec_l02Vector F p1_x).bind fun r17 => (bif (!r17) then some true else (bif ((p1_x.length : Int) != (p0_s.A.length : Int)) then some true else ((spec_l24Inputs F p2_inputs false).bind fun r21 => some (!r21))))))) : Option (Bool)) fun b11 => (bif b11 then some 1 else some 0))

def spec_l07Shift_L1 (F : Nat) (p0_x : List Int) (p1_g : Int) : Nat → (List Int) → Int → Option (List Int)
  | 0, _, _ => none
  | n56 + 1, xs31, x36 => (bif (decide (x36 < (p0_x.length : Int))) then ((idx p0_x x36).bind fun q58 => ((spec_l01Times F q58 p1_g).bind fun r60 => ((app xs31 ([r60])).bind fun xs66 => (spec_l07Shift_L1 F p0_x p1_g n56 xs66 (IntKind.i64.wrap (x36 + 1)))))) else some xs31)

def spec_l07Shift (F : Nat) (p0_x : List Int) (p1_g : Int) : Option (List Int) :=
  (Option.bind (spec_l07Shift_L1 F p0_x p1_g F ([] : List Int) 0) fun xs48 => some xs48)

def spec_l01Own (_F : Nat) (p0_list : List Int) : Option (List Int) :=
  ((app ([] : List Int) p0_list).bind fun xs5 => some xs5)

def spec_l02Own_L1 (F : Nat) (p0_a : List (List Int)) : Nat → (List (List Int)) → Int → Option (List (List Int))
  | 0, _, _ => none
  | n99 + 1, ms59, x65 => (bif (decide (x65 < (p0_a.length : Int))) then ((idx p0_a x65).bind fun q101 => ((spec_l01Own F q101).bind fun r110 => ((app ms59 ([r110])).bind fun ms120 => (spec_l02Own_L1 F p0_a n99 ms120 (IntKind.i64.wrap (x65 + 1)))))) else some ms59)

def spec_l02Own (F : Nat) (p0_a : List (List Int)) : Option (List (List Int)) :=
  (Option.bind (spec_l02Own_L1 F p0_a F [] 0) fun ms90 => some ms90)

def spec_l02Add_L5 (F : Nat) (p1_b : List (List Int)) (x335 : Int) : Nat → (List (List Int)) → Int → Option (List (List Int))
  | 0, _, _ => none
  | n626 + 1, ms581, x583 => ((idx ms581 x335).bind fun q627 => (bif (decide (x583 < (q627.length : Int))) then ((idx ms581 x335).bind fun q633 => ((idx ms581 x335).bind fun q638 => ((idx q638 x583).bind fun q643 => ((idx p1_b x335).bind fun q645 => ((idx q645 x583).bind fun q654 => ((idx q633 x583).bind fun _q656 => ((upd q633 x583 (max q643 q654)).bind fun xs658 => ((upd ms581 x335 xs658).bind fun ms659 => (spec_l02Add_L5 F p1_b x335 n626 ms659 (IntKind.i64.wrap (x583 + 1))))))))))) else some ms581))

def spec_l02Add_L4 (F : Nat) (p1_b : List (List Int)) : Nat → (List (List Int)) → Int → Option (List (List Int))
  | 0, _, _ => none
  | n502 + 1, ms333, x335 => (bif (decide (x335 < (ms333.length : Int))) then (Option.bind (spec_l02Add_L5 F p1_b x335 F ms333 0) fun ms621 => (spec_l02Add_L4 F p1_b n502 ms621 (IntKind.i64.wrap (x335 + 1)))) else some ms333)

def spec_l02Add (F : Nat) (p0_a : List (List Int)) (p1_b : List (List Int)) : Option (List (List Int)) :=
  ((spec_l02Own F p0_a).bind fun r1 => (Option.bind (spec_l02Add_L4 F p1_b F r1 0) fun ms497 => some ms497))

def spec_l24Run_L1 (F : Nat) (p0_s : GSystem) (p2_inputs : List Int) : Nat → (List Int) → (List Int) → Int → Option (Sum (List Int × List Int × Bool) ((List Int) × (List Int)))
  | 0, _, _, _ => none
  | n267 + 1, xs161, xs172, x177 => (bif (decide (x177 < (p2_inputs.length : Int))) then ((idx p2_inputs x177).bind fun q283 => ((spec_l02Apply F p0_s.A xs161).bind fun r285 => ((spec_l07Shift F p0_s.B q283).bind fun r291 => (Option.bind (((spec_l01All F r285 false).bind fun r305 => (bif (!r305) then some true else ((spec_l01All F r291 false).bind fun r308 => some (!r308)))) : Option (Bool)) fun b302 => (bif b302 then some (Sum.inl (([] : List Int), ([] : List Int), false)) else ((spec_l02Add F ([r285]) ([r291])).bind fun r317 => ((idx r317 0).bind fun q324 => ((spec_l24Dot F p0_s.C q324).bind fun r329 => ((spec_IsValue F r329).bind fun r331 => (bif (!r331) then some (Sum.inl (([] : List Int), ([] : List Int), false)) else ((app xs172 ([r329])).bind fun xs340 => (spec_l24Run_L1 F p0_s p2_inputs n267 q324 xs340 (IntKind.i64.wrap (x177 + 1)))))))))))))) else some (Sum.inr (xs161, xs172)))

def spec_l24Run (F : Nat) (p0_s : GSystem) (p1_x : List Int) (p2_inputs : List Int) : Option (List Int × List Int × Bool) :=
  (Option.bind (spec_l24Run_L1 F p0_s p2_inputs F p1_x ([] : List Int) 0) fun r264 => match r264 with | .inl x_ => some x_ | .inr (xs248, xs259) => some (xs259, xs248, true))

def spec_MeetsDue_L1 (F : Nat) (p3_due : List Int) (r15 : List Int × List Int × Bool) : Nat → Int → Option (Sum (Bool × Int) (Unit))
  | 0, _ => none
  | n54 + 1, x44 => (bif (decide (x44 < (r15.1.length : Int))) then ((idx r15.1 x44).bind fun q56 => ((idx p3_due x44).bind fun q58 => (bif (decide (q58 < q56)) then some (Sum.inl (false, 0)) else (spec_MeetsDue_L1 F p3_due r15 n54 (IntKind.i64.wrap (x44 + 1)))))) else some (Sum.inr ()))

def spec_MeetsDue (F : Nat) (p0_s : GSystem) (p1_x : List Int) (p2_inputs : List Int) (p3_due : List Int) : Option (Bool × Int) :=
  ((spec_l24Code F p0_s p1_x p2_inputs).bind fun r2 => (Option.bind ((bif (r2 != 0) then some true else ((spec_l24Inputs F p3_due true).bind fun r11 => some (!r11))) : Option (Bool)) fun b7 => (bif b7 then some (false, 1) else (bif ((p3_due.length : Int) != (p2_inputs.length : Int)) then some (false, 2) else ((spec_l24Run F p0_s p1_x p2_inputs).bind fun r15 => (bif (!r15.2.2) then some (false, 3) else (Option.bind (spec_MeetsDue_L1 F p3_due r15 F 0) fun r51 => match r51 with | .inl x_ => some x_ | .inr _ => some (true, 0))))))))

def laws_likeInts_L1 (F : Nat) (p0_a : List Int) (p1_b : List Int) : Nat → Int → Option (Sum Bool (Unit))
  | 0, _ => none
  | n25 + 1, x15 => (bif (decide (x15 < (p0_a.length : Int))) then ((idx p0_a x15).bind fun q27 => ((idx p1_b x15).bind fun q29 => (bif (q27 != q29) then some (Sum.inl false) else (laws_likeInts_L1 F p0_a p1_b n25 (IntKind.i64.wrap (x15 + 1)))))) else some (Sum.inr ()))

def laws_likeInts (F : Nat) (p0_a : List Int) (p1_b : List Int) : Option (Bool) :=
  (bif ((p0_a.length : Int) != (p1_b.length : Int)) then some false else (Option.bind (laws_likeInts_L1 F p0_a p1_b F 0) fun r22 => match r22 with | .inl x_ => some x_ | .inr _ => some true))

def laws_roll_L1 (F : Nat) (p0_code : List Int) : Nat → Int → Int → Option (Int)
  | 0, _, _ => none
  | n19 + 1, x10, x11 => (bif (decide (x11 < (p0_code.length : Int))) then ((idx p0_code x11).bind fun q21 => (laws_roll_L1 F p0_code n19 (IntKind.u64.wrap ((IntKind.u64.wrap ((IntKind.u64.wrap (x10 * 1099511628211)) + (IntKind.u64.wrap q21))) + 5)) (IntKind.i64.wrap (x11 + 1)))) else some x10)

def laws_roll (F : Nat) (p0_code : List Int) (p1_seed : Int) : Option ((Int × Int)) :=
  (Option.bind (laws_roll_L1 F p0_code F (IntKind.u64.wrap ((IntKind.u64.wrap (p1_seed * 9103)) + (IntKind.u64.wrap (p0_code.length : Int)))) 0) fun x15 => some (0, x15))

def laws_dice_below (_F : Nat) (p0_d_b : List Int) (p0_d_i : Int) (p0_d_h : Int) (p1_n : Int) : Option ((Int) × Int × Int) :=
  (Option.bind ((bif (decide (p0_d_i < (p0_d_b.length : Int))) then ((idx p0_d_b p0_d_i).bind fun q9 => some ((IntKind.i64.wrap (p0_d_i + 1)), (IntKind.i64.wrap ((IntKind.i64.wrap (andI .u64 (shrI (IntKind.u64.wrap ((IntKind.u64.wrap (p0_d_h * 6364136223846793005)) + 1442695040888963407)) 33) 16777215)) + (IntKind.i64.wrap q9))))) else some (p0_d_i, (IntKind.i64.wrap (andI .u64 (shrI (IntKind.u64.wrap ((IntKind.u64.wrap (p0_d_h * 6364136223846793005)) + 1442695040888963407)) 33) 16777215)))) : Option (Int × Int)) fun (x4, x5) => ((if p1_n = 0 then none else some ()).bind fun _u12 => some ((x5.tmod p1_n), x4, (IntKind.u64.wrap ((IntKind.u64.wrap (p0_d_h * 6364136223846793005)) + 1442695040888963407)))))

def laws_FnJustInTime_L1 (F : Nat) (r4 : GSystem × List Int) : Nat → (List Int) → Int → Option (List Int)
  | 0, _, _ => none
  | n131 + 1, xs110, x115 => (bif (decide (x115 < (r4.1.A.length : Int))) then ((app xs110 ([(-1000000000000000)])).bind fun xs137 => (laws_FnJustInTime_L1 F r4 n131 xs137 (IntKind.i64.wrap (x115 + 1)))) else some xs110)

def laws_FnJustInTime (F : Nat) (p0 : List Int) : Option (Bool) :=
  ((laws_big F p0).bind fun r1 => (bif r1 then some true else ((spec_DrawLatestInputs F p0).bind fun r4 => ((impl_LatestInputs F (GSystem.mk r4.1.A r4.1.B r4.1.C) r4.2).bind fun r24 => ((spec_LatestInputs F (GSystem.mk r4.1.A r4.1.B r4.1.C) r4.2).bind fun r30 => ((spec_DrawMeetsDue F p0).bind fun r36 => ((impl_MeetsDue F (GSystem.mk r36.1.A r36.1.B r36.1.C) r36.2.1 r36.2.2.1 r36.2.2.2).bind fun r64 => ((spec_MeetsDue F (GSystem.mk r36.1.A r36.1.B r36.1.C) r36.2.1 r36.2.2.1 r36.2.2.2).bind fun r66 => (Option.bind ((bif (r24.2 != r30.2) then some true else ((laws_likeInts F r24.1 r30.1).bind fun r77 => (bif (!r77) then some true else (bif (r64.2 != r66.2) then some true else some (r64.1 != r66.1))))) : Option (Bool)) fun b73 => (bif b73 then some false else (Option.bind ((bif (r24.2 != 0) then some true else some ((r24.1.length : Int) == 0)) : Option (Bool)) fun b83 => (bif b83 then some true else (Option.bind (laws_FnJustInTime_L1 F r4 F ([] : List Int) 0) fun xs123 => ((impl_MeetsDue F (GSystem.mk r4.1.A r4.1.B r4.1.C) xs123 r24.1 r4.2).bind fun r139 => ((app ([] : List Int) r24.1).bind fun xs145 => ((laws_roll F p0 2402).bind fun r147 => ((laws_dice_below F p0 r147.1 r147.2 (r24.1.length : Int)).bind fun r150 => ((idx xs145 r150.1).bind fun q152 => ((idx xs145 r150.1).bind fun _q154 => ((upd xs145 r150.1 (IntKind.i64.wrap (q152 + 1))).bind fun xs156 => ((impl_MeetsDue F (GSystem.mk r4.1.A r4.1.B r4.1.C) xs123 xs156 r4.2).bind fun r158 => (Option.bind ((bif (r139.2 != 0) then some true else some (r158.2 != 0)) : Option (Bool)) fun b161 => (bif b161 then (Option.bind ((bif (r139.2 == 0) then (bif (r158.2 == 0) then some true else (bif (r158.2 == 3) then some true else some (r158.2 == 1))) else (bif (r139.2 == 3) then (bif (r158.2 == 0) then some true else (bif (r158.2 == 3) then some true else some (r158.2 == 1))) else some false)) : Option (Bool)) fun b172 => some b172) else (Option.bind ((bif r139.1 then some (!r158.1) else some false) : Option (Bool)) fun b182 => some b182))))))))))))))))))))))))

end Go.Proofs.Ytgkgimglgjfcjaa
