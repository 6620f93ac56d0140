/- Plain models of the functions. -/
import Derived.Test.YtebmlphobgaboabLiftH
namespace Go.Proofs.Ytebmlphobgaboab


def laws_big (_F : Nat) (p0_code : List Int) : Option (Bool) :=
  some (decide (4096 < (p0_code.length : Int)))

def spec_l01From_L1 (F : Nat) (p0_code : List Int) : Nat → Int → Int → Option (Int)
  | 0, _, _ => none
  | n34 + 1, x20, x21 => (Option.bind ((bif (decide (x21 < (p0_code.length : Int))) then some (decide (x21 < 64)) else some false) : Option (Bool)) fun b36 => (bif b36 then ((idx p0_code x21).bind fun q41 => (spec_l01From_L1 F p0_code n34 ((IntKind.i64.wrap ((IntKind.i64.wrap (x20 * 67)) + (IntKind.i64.wrap q41))).tmod 2147483647) (IntKind.i64.wrap (x21 + 1)))) else some x20))

def spec_l01From (F : Nat) (p0_code : List Int) : Option ((Int × Int)) :=
  (Option.bind (spec_l01From_L1 F p0_code F 61403 0) fun x30 => some (0, x30))

def spec_l01Next (_F : Nat) (p0_code : List Int) (p0_at : Int) (p0_seed : Int) (p1 : Int) : Option ((Int) × Int × Int) :=
  (bif (decide (p1 ≤ 1)) then some (0, p0_at, p0_seed) else (Option.bind ((bif (decide (p0_at < (p0_code.length : Int))) then ((idx p0_code p0_at).bind fun q18 => (Option.bind ((bif (decide (p1 ≤ 256)) then some (((IntKind.i64.wrap (p0_at + 1)).tmod 2) == 0) else some false) : Option (Bool)) fun b21 => (bif b21 then ((idx p0_code (IntKind.i64.wrap ((IntKind.i64.wrap (p0_at + 1)) - 1))).bind fun q26 => some ((IntKind.i64.wrap (p0_at + 1)), (IntKind.i64.wrap q26))) else some ((IntKind.i64.wrap (p0_at + 1)), (IntKind.i64.wrap ((IntKind.i64.wrap (((IntKind.i64.wrap ((IntKind.i64.wrap (p0_seed * 48271)) + 59)).tmod 2147483647).tdiv 31)) + (IntKind.i64.wrap q18))))))) else some (p0_at, (IntKind.i64.wrap (((IntKind.i64.wrap ((IntKind.i64.wrap (p0_seed * 48271)) + 59)).tmod 2147483647).tdiv 31)))) : Option (Int × Int)) fun (x13, x14) => ((if p1 = 0 then none else some ()).bind fun _u29 => some ((x14.tmod p1), x13, ((IntKind.i64.wrap ((IntKind.i64.wrap (p0_seed * 48271)) + 59)).tmod 2147483647)))))

def spec_l02Bottom_L5 (F : Nat) (p1_n : Int) : Nat → (List Int) → Int → Option (List Int)
  | 0, _, _ => none
  | n252 + 1, xs231, x236 => (bif (decide (x236 < p1_n)) then ((app xs231 ([(-1000000000000000)])).bind fun xs258 => (spec_l02Bottom_L5 F p1_n n252 xs258 (IntKind.i64.wrap (x236 + 1)))) else some xs231)

def spec_l02Bottom_L4 (F : Nat) (p0_m : Int) (p1_n : Int) : Nat → (List (List Int)) → Int → Option (List (List Int))
  | 0, _, _ => none
  | n207 + 1, ms131, x137 => (bif (decide (x137 < p0_m)) then (Option.bind (spec_l02Bottom_L5 F p1_n F ([] : List Int) 0) fun xs244 => ((app ms131 ([xs244])).bind fun ms264 => (spec_l02Bottom_L4 F p0_m p1_n n207 ms264 (IntKind.i64.wrap (x137 + 1))))) else some ms131)

def spec_l02Bottom (F : Nat) (p0_m : Int) (p1_n : Int) : Option (List (List Int)) :=
  (Option.bind (spec_l02Bottom_L4 F p0_m p1_n F [] 0) fun ms198 => some ms198)

def spec_l01Pick (F : Nat) (p0_s_code : List Int) (p0_s_at : Int) (p0_s_seed : Int) (p1_list : List Int) : Option ((Int) × Int × Int) :=
  ((spec_l01Next F p0_s_code p0_s_at p0_s_seed (p1_list.length : Int)).bind fun r1 => ((idx p1_list r1.1).bind fun q3 => some (q3, r1.2.1, r1.2.2)))

def spec_l01DrawValue (F : Nat) (p0_s_code : List Int) (p0_s_at : Int) (p0_s_seed : Int) : Option ((Int) × Int × Int) :=
  ((spec_l01Next F p0_s_code p0_s_at p0_s_seed 24).bind fun r1 => (Option.bind ((bif (r1.1 == 0) then some (r1.1 == 0) else (bif (r1.1 == 1) then some (r1.1 == 1) else some (r1.1 == 2))) : Option (Bool)) fun b5 => (bif b5 then some ((-1000000000000000), r1.2.1, r1.2.2) else (bif (r1.1 == 3) then ((spec_l01Pick F p0_s_code r1.2.1 r1.2.2 ([1000000, 1000001, (-1000000), (-1000001), (-999999999999999), (-1000000000000001), 9223372036854775807])).bind fun r14 => some (r14.1, r14.2.1, r14.2.2)) else (bif (r1.1 == 4) then ((spec_l01Next F p0_s_code r1.2.1 r1.2.2 2000).bind fun r17 => some ((IntKind.i64.wrap ((IntKind.i64.wrap (r17.1 - 1000)) * 701)), r17.2.1, r17.2.2)) else ((spec_l01Next F p0_s_code r1.2.1 r1.2.2 41).bind fun r19 => some ((IntKind.i64.wrap (r19.1 - 20)), r19.2.1, r19.2.2)))))))

def spec_l02DrawSize_L5 (F : Nat) (p0_s_code : List Int) (p2_n : Int) (r10 : (Int) × Int × Int) (x331 : Int) : Nat → Int → Int → (List (List Int)) → Int → Option (Int × Int × (List (List Int)))
  | 0, _, _, _, _ => none
  | n615 + 1, x569, x570, ms571, x573 => (bif (decide (x573 < p2_n)) then ((spec_l01Next F p0_s_code x569 x570 r10.1).bind fun r617 => (bif (decide (0 < r617.1)) then ((idx ms571 x331).bind fun q635 => ((spec_l01Next F p0_s_code r617.2.1 r617.2.2 26).bind fun r640 => ((idx q635 x573).bind fun _q642 => ((upd q635 x573 (IntKind.i64.wrap (r640.1 - 10))).bind fun xs644 => ((upd ms571 x331 xs644).bind fun ms645 => (spec_l02DrawSize_L5 F p0_s_code p2_n r10 x331 n615 r640.2.1 r640.2.2 ms645 (IntKind.i64.wrap (x573 + 1)))))))) else (spec_l02DrawSize_L5 F p0_s_code p2_n r10 x331 n615 r617.2.1 r617.2.2 ms571 (IntKind.i64.wrap (x573 + 1))))) else some (x569, x570, ms571))

def spec_l02DrawSize_L4 (F : Nat) (p0_s_code : List Int) (p1_m : Int) (p2_n : Int) (r10 : (Int) × Int × Int) : Nat → Int → Int → (List (List Int)) → Int → Option (Int × Int × (List (List Int)))
  | 0, _, _, _, _ => none
  | n494 + 1, x327, x328, ms329, x331 => (bif (decide (x331 < p1_m)) then (Option.bind (spec_l02DrawSize_L5 F p0_s_code p2_n r10 x331 F x327 x328 ms329 0) fun (x608, x609, ms610) => (spec_l02DrawSize_L4 F p0_s_code p1_m p2_n r10 n494 x608 x609 ms610 (IntKind.i64.wrap (x331 + 1)))) else some (x327, x328, ms329))

def spec_l02DrawSize (F : Nat) (p0_s_code : List Int) (p0_s_at : Int) (p0_s_seed : Int) (p1_m : Int) (p2_n : Int) : Option ((List (List Int)) × Int × Int) :=
  ((spec_l02Bottom F p1_m p2_n).bind fun r1 => ((spec_l01Pick F p0_s_code p0_s_at p0_s_seed ([2, 3, 5])).bind fun r10 => (Option.bind (spec_l02DrawSize_L4 F p0_s_code p1_m p2_n r10 F r10.2.1 r10.2.2 r1 0) fun (x487, x488, ms489) => ((spec_l01Next F p0_s_code x487 x488 60).bind fun r650 => (bif (r650.1 == 0) then ((idx ms489 0).bind fun q668 => ((spec_l01DrawValue F p0_s_code r650.2.1 r650.2.2).bind fun r673 => ((idx q668 0).bind fun _q675 => ((upd q668 0 r673.1).bind fun xs677 => ((upd ms489 0 xs677).bind fun ms678 => some (ms678, r673.2.1, r673.2.2)))))) else (bif (r650.1 == 1) then ((app ms489 ([([] : List Int)])).bind fun ms690 => some (ms690, r650.2.1, r650.2.2)) else (bif (r650.1 == 2) then some (([] : List (List Int)), r650.2.1, r650.2.2) else some (ms489, r650.2.1, r650.2.2))))))))

def spec_l02DrawSquare (F : Nat) (p0_s_code : List Int) (p0_s_at : Int) (p0_s_seed : Int) : Option ((List (List Int)) × Int × Int) :=
  ((spec_l01Next F p0_s_code p0_s_at p0_s_seed 5).bind fun r1 => ((spec_l02DrawSize F p0_s_code r1.2.1 r1.2.2 (IntKind.i64.wrap (1 + r1.1)) (IntKind.i64.wrap (1 + r1.1))).bind fun r3 => some (r3.1, r3.2.1, r3.2.2)))

def spec_l01In (_F : Nat) (p0_n : Int) (p1_low : Int) (p2_high : Int) : Option (Bool) :=
  (Option.bind ((bif (decide (p1_low ≤ p0_n)) then some (decide (p0_n ≤ p2_high)) else some false) : Option (Bool)) fun b2 => some b2)

def spec_l01Finite (F : Nat) (p0_a : Int) : Option (Bool) :=
  ((spec_l01In F p0_a (-1000000) 1000000).bind fun r1 => some r1)

def spec_IsValue (F : Nat) (p0_a : Int) : Option (Bool) :=
  (Option.bind ((bif (p0_a == (-1000000000000000)) then some true else ((spec_l01Finite F p0_a).bind fun r8 => some r8)) : Option (Bool)) fun b4 => some b4)

def spec_l01All_L1 (F : Nat) (p0_list : List Int) (p1_finite : Bool) : Nat → Int → Option (Sum Bool (Unit))
  | 0, _ => none
  | n69 + 1, x44 => (bif (decide (x44 < (p0_list.length : Int))) then (Option.bind (((idx p0_list x44).bind fun q82 => ((spec_IsValue F q82).bind fun r84 => (bif (!r84) then some true else (bif p1_finite then ((idx p0_list x44).bind fun q88 => some (q88 == (-1000000000000000))) else some false)))) : Option (Bool)) fun b79 => (bif b79 then some (Sum.inl false) else (spec_l01All_L1 F p0_list p1_finite n69 (IntKind.i64.wrap (x44 + 1))))) else some (Sum.inr ()))

def spec_l01All (F : Nat) (p0_list : List Int) (p1_finite : Bool) : Option (Bool) :=
  (Option.bind (spec_l01All_L1 F p0_list p1_finite F 0) fun r66 => match r66 with | .inl x_ => some x_ | .inr _ => some true)

def spec_l02Vector (F : Nat) (p0_x : List Int) : Option (Bool) :=
  (Option.bind (((spec_l01In F (p0_x.length : Int) 1 10).bind fun r9 => (bif r9 then ((spec_l01All F p0_x false).bind fun r12 => some r12) else some false)) : Option (Bool)) fun b6 => some b6)

def spec_IsMatrix_L1 (F : Nat) (p0_a : List (List Int)) : Nat → Int → Option (Sum Bool (Unit))
  | 0, _ => none
  | n207 + 1, x138 => (bif (decide (x138 < (p0_a.length : Int))) then (Option.bind (((idx p0_a x138).bind fun q242 => ((spec_l02Vector F q242).bind fun r251 => (bif (!r251) then some true else ((idx p0_a x138).bind fun q254 => ((idx p0_a 0).bind fun q263 => some ((q254.length : Int) != (q263.length : Int))))))) : Option (Bool)) fun b239 => (bif b239 then some (Sum.inl false) else (spec_IsMatrix_L1 F p0_a n207 (IntKind.i64.wrap (x138 + 1))))) else some (Sum.inr ()))

def spec_IsMatrix (F : Nat) (p0_a : List (List Int)) : Option (Bool) :=
  (Option.bind ((bif (decide ((p0_a.length : Int) < 1)) then some true else some (decide (10 < (p0_a.length : Int)))) : Option (Bool)) fun b2 => (bif b2 then some false else (Option.bind (spec_IsMatrix_L1 F p0_a F 0) fun r204 => match r204 with | .inl x_ => some x_ | .inr _ => some true)))

def spec_l02Square (F : Nat) (p0_a : List (List Int)) : Option (Bool) :=
  (Option.bind (((spec_IsMatrix F p0_a).bind fun r16 => (bif r16 then ((idx p0_a 0).bind fun q19 => some ((p0_a.length : Int) == (q19.length : Int))) else some false)) : Option (Bool)) fun b13 => some b13)

def spec_l03Draw_L1 (F : Nat) (p0_code : List Int) (r1 : (List (List Int)) × Int × Int) : Nat → Int → Int → (List Int) → Int → Option (Int × Int × (List Int))
  | 0, _, _, _, _ => none
  | n79 + 1, x52, x53, xs54, x59 => (bif (decide (x59 < (r1.1.length : Int))) then ((spec_l01Next F p0_code x52 x53 20).bind fun r81 => ((app xs54 ([r81.1])).bind fun xs87 => (spec_l03Draw_L1 F p0_code r1 n79 r81.2.1 r81.2.2 xs87 (IntKind.i64.wrap (x59 + 1))))) else some (x52, x53, xs54))

def spec_l03Draw_L6 (F : Nat) (p0_code : List Int) (xs71 : List Int) (x968 : Int) : Nat → Int → Int → (List (List Int)) → Int → Option (Int × Int × (List (List Int)))
  | 0, _, _, _, _ => none
  | n1742 + 1, x1626, x1627, ms1628, x1630 => (bif (decide (x1630 < (ms1628.length : Int))) then (Option.bind (((idx ms1628 x968).bind fun q1766 => ((idx q1766 x1630).bind fun q1771 => ((spec_l01Finite F q1771).bind fun r1773 => (bif r1773 then ((idx ms1628 x968).bind fun q1776 => ((idx q1776 x1630).bind fun q1781 => ((spec_l01In F q1781 (-100) 100).bind fun r1783 => some r1783))) else some false)))) : Option (Bool)) fun b1763 => (bif b1763 then ((idx ms1628 x968).bind fun q1805 => ((idx xs71 x968).bind fun q1810 => ((idx xs71 x1630).bind fun q1812 => ((spec_l01Next F p0_code x1626 x1627 12).bind fun r1814 => ((idx q1805 x1630).bind fun _q1816 => ((upd q1805 x1630 (IntKind.i64.wrap ((IntKind.i64.wrap (q1810 - q1812)) - r1814.1))).bind fun xs1818 => ((upd ms1628 x968 xs1818).bind fun ms1819 => ((spec_l01Next F p0_code r1814.2.1 r1814.2.2 30).bind fun r1824 => (bif (r1824.1 == 0) then ((idx ms1819 x968).bind fun q1827 => ((idx ms1819 x968).bind fun q1832 => ((idx q1832 x1630).bind fun q1837 => ((idx q1827 x1630).bind fun _q1839 => ((upd q1827 x1630 (IntKind.i64.wrap (q1837 + 14))).bind fun xs1841 => ((upd ms1819 x968 xs1841).bind fun ms1842 => (spec_l03Draw_L6 F p0_code xs71 x968 n1742 r1824.2.1 r1824.2.2 ms1842 (IntKind.i64.wrap (x1630 + 1))))))))) else (spec_l03Draw_L6 F p0_code xs71 x968 n1742 r1824.2.1 r1824.2.2 ms1819 (IntKind.i64.wrap (x1630 + 1)))))))))))) else (spec_l03Draw_L6 F p0_code xs71 x968 n1742 x1626 x1627 ms1628 (IntKind.i64.wrap (x1630 + 1))))) else some (x1626, x1627, ms1628))

def spec_l03Draw_L5 (F : Nat) (p0_code : List Int) (xs71 : List Int) : Nat → Int → Int → (List (List Int)) → Int → Option (Int × Int × (List (List Int)))
  | 0, _, _, _, _ => none
  | n1411 + 1, x964, x965, ms966, x968 => (bif (decide (x968 < (ms966.length : Int))) then (Option.bind (spec_l03Draw_L6 F p0_code xs71 x968 F x964 x965 ms966 0) fun (x1735, x1736, ms1737) => (spec_l03Draw_L5 F p0_code xs71 n1411 x1735 x1736 ms1737 (IntKind.i64.wrap (x968 + 1)))) else some (x964, x965, ms966))

def spec_l03Draw (F : Nat) (p0_code : List Int) (p0_at : Int) (p0_seed : Int) : Option ((List (List Int)) × Int × Int) :=
  ((spec_l02DrawSquare F p0_code p0_at p0_seed).bind fun r1 => (Option.bind (((spec_l02Square F r1.1).bind fun r18 => (bif (!r18) then some (r1.2.1, r1.2.2, true) else ((spec_l01Next F p0_code r1.2.1 r1.2.2 4).bind fun r21 => some (r21.2.1, r21.2.2, (r21.1 == 0))))) : Option (Int × Int × Bool)) fun (x13, x14, b15) => (bif b15 then some (r1.1, x13, x14) else (Option.bind (spec_l03Draw_L1 F p0_code r1 F x13 x14 ([] : List Int) 0) fun (x69, x70, xs71) => (Option.bind (spec_l03Draw_L5 F p0_code xs71 F x69 x70 r1.1 0) fun (x1404, x1405, ms1406) => some (ms1406, x1404, x1405))))))

def spec_DrawPositiveCycle (F : Nat) (p0_code : List Int) : Option (List (List Int)) :=
  ((spec_l01From F p0_code).bind fun r1 => ((spec_l01Next F p0_code r1.1 r1.2 2).bind fun r4 => (bif (r4.1 == 0) then ((spec_l02DrawSquare F p0_code r4.2.1 r4.2.2).bind fun r7 => some r7.1) else ((spec_l03Draw F p0_code r4.2.1 r4.2.2).bind fun r14 => some r14.1))))

def impl_within (_F : Nat) (p0_n : Int) (p1_low : Int) (p2_high : Int) : Option (Bool) :=
  (Option.bind ((bif (decide (p1_low ≤ p0_n)) then some (decide (p0_n ≤ p2_high)) else some false) : Option (Bool)) fun b2 => some b2)

def slices_IndexFunc_int64_L1 (F : Nat) (p0_s : List Int) (m_p1_f : Int → Option Bool) : Nat → Int → Option (Sum Int (Unit))
  | 0, _ => none
  | n24 + 1, x14 => (bif (decide (x14 < (p0_s.length : Int))) then ((idx p0_s x14).bind fun q26 => ((m_p1_f q26).bind fun r28 => (bif r28 then some (Sum.inl x14) else (slices_IndexFunc_int64_L1 F p0_s m_p1_f n24 (IntKind.i64.wrap (x14 + 1)))))) else some (Sum.inr ()))

def slices_IndexFunc_int64 (F : Nat) (p0_s : List Int) (m_p1_f : Int → Option Bool) : Option (Int) :=
  (Option.bind (slices_IndexFunc_int64_L1 F p0_s m_p1_f F 0) fun r21 => match r21 with | .inl x_ => some x_ | .inr _ => some (-1))

def slices_ContainsFunc_int64 (F : Nat) (p0_s : List Int) (m_p1_f : Int → Option Bool) : Option (Bool) :=
  ((slices_IndexFunc_int64 F p0_s m_p1_f).bind fun r1 => some (decide (0 ≤ r1)))

def impl_isFinite (F : Nat) (p0_n : Int) : Option (Bool) :=
  ((impl_within F p0_n (-1000000) 1000000).bind fun r1 => some r1)

def impl_IsValue (F : Nat) (p0_a : Int) : Option (Bool) :=
  (Option.bind ((bif (p0_a == (-1000000000000000)) then some true else ((impl_isFinite F p0_a).bind fun r8 => some r8)) : Option (Bool)) fun b4 => some b4)

def impl_areValues_c1 (F : Nat) (p0_n : Int) : Option (Bool) :=
  ((impl_IsValue F p0_n).bind fun r1 => some (!r1))

def impl_areValues (F : Nat) (p0_list : List Int) : Option (Bool) :=
  ((slices_ContainsFunc_int64 F p0_list (fun x0 => impl_areValues_c1 F x0)).bind fun r1 => some (!r1))

def impl_IsMatrix_c1 (F : Nat) (p0_row : List Int) (z0 : List (List Int)) : Option (Bool) :=
  (Option.bind (((idx z0 0).bind fun q16 => (bif ((p0_row.length : Int) != (q16.length : Int)) then some true else ((impl_areValues F p0_row).bind fun r26 => some (!r26)))) : Option (Bool)) fun b13 => some b13)

def slices_IndexFunc_sint64_L1 (F : Nat) (p0_s : List (List Int)) (m_p1_f : (List Int) → Option Bool) : Nat → Int → Option (Sum Int (Unit))
  | 0, _ => none
  | n45 + 1, x28 => (bif (decide (x28 < (p0_s.length : Int))) then ((idx p0_s x28).bind fun q47 => ((m_p1_f q47).bind fun r56 => (bif r56 then some (Sum.inl x28) else (slices_IndexFunc_sint64_L1 F p0_s m_p1_f n45 (IntKind.i64.wrap (x28 + 1)))))) else some (Sum.inr ()))

def slices_IndexFunc_sint64 (F : Nat) (p0_s : List (List Int)) (m_p1_f : (List Int) → Option Bool) : Option (Int) :=
  (Option.bind (slices_IndexFunc_sint64_L1 F p0_s m_p1_f F 0) fun r42 => match r42 with | .inl x_ => some x_ | .inr _ => some (-1))

def slices_ContainsFunc_sint64 (F : Nat) (p0_s : List (List Int)) (m_p1_f : (List Int) → Option Bool) : Option (Bool) :=
  ((slices_IndexFunc_sint64 F p0_s m_p1_f).bind fun r1 => some (decide (0 ≤ r1)))

def impl_IsMatrix (F : Nat) (p0_a : List (List Int)) : Option (Bool) :=
  (Option.bind (((impl_within F (p0_a.length : Int) 1 10).bind fun r19 => (bif (!r19) then some true else ((idx p0_a 0).bind fun q22 => ((impl_within F (q22.length : Int) 1 10).bind fun r31 => some (!r31))))) : Option (Bool)) fun b16 => (bif b16 then some false else ((slices_ContainsFunc_sint64 F p0_a (fun x0 => impl_IsMatrix_c1 F x0 p0_a)).bind fun r34 => some (!r34))))

def impl_isSquare (F : Nat) (p0_a : List (List Int)) : Option (Bool) :=
  (Option.bind (((impl_IsMatrix F p0_a).bind fun r16 => (bif r16 then ((idx p0_a 0).bind fun q19 => some ((p0_a.length : Int) == (q19.length : Int))) else some false)) : Option (Bool)) fun b13 => some b13)

def impl_matrixBy_L5 (F : Nat) (m_p2_entry : Int → Int → Option Int) (x324 : Int) (q500 : List Int) : Nat → (List (List Int)) → Int → Option (List (List Int))
  | 0, _, _ => none
  | n609 + 1, ms570, x572 => (bif (decide (x572 < (q500.length : Int))) then ((idx ms570 x324).bind fun q626 => ((m_p2_entry x324 x572).bind fun r631 => ((idx q626 x572).bind fun _q633 => ((upd q626 x572 r631).bind fun xs635 => ((upd ms570 x324 xs635).bind fun ms636 => (impl_matrixBy_L5 F m_p2_entry x324 q500 n609 ms636 (IntKind.i64.wrap (x572 + 1)))))))) else some ms570)

def impl_matrixBy_L4 (F : Nat) (p1_n : Int) (m_p2_entry : Int → Int → Option Int) (ms3 : List (List Int)) : Nat → (List (List Int)) → Int → Option (List (List Int))
  | 0, _, _ => none
  | n487 + 1, ms318, x324 => (bif (decide (x324 < (ms3.length : Int))) then ((mk p1_n (0 : Int)).bind fun xs491 => ((idx ms318 x324).bind fun _q492 => ((upd ms318 x324 xs491).bind fun ms497 => ((idx ms497 x324).bind fun q500 => (Option.bind (impl_matrixBy_L5 F m_p2_entry x324 q500 F ms497 0) fun ms604 => (impl_matrixBy_L4 F p1_n m_p2_entry ms3 n487 ms604 (IntKind.i64.wrap (x324 + 1)))))))) else some ms318)

def impl_matrixBy (F : Nat) (p0_m : Int) (p1_n : Int) (m_p2_entry : Int → Int → Option Int) : Option (List (List Int)) :=
  ((mk p0_m ([] : List Int)).bind fun ms3 => (Option.bind (impl_matrixBy_L4 F p1_n m_p2_entry ms3 F ms3 0) fun ms478 => some ms478))

def impl_unitMatrix_c1 (_F : Nat) (p0_i : Int) (p1_j : Int) : Option (Int) :=
  (bif (p0_i == p1_j) then some 0 else some (-1000000000000000))

def impl_unitMatrix (F : Nat) (p0_n : Int) : Option (List (List Int)) :=
  ((impl_matrixBy F p0_n p0_n (fun x0 x1 => impl_unitMatrix_c1 F x0 x1)).bind fun r1 => some r1)

def impl_addMatrices_c1 (_F : Nat) (p0_i : Int) (p1_j : Int) (z0 : List (List Int)) (z1 : List (List Int)) : Option (Int) :=
  ((idx z0 p0_i).bind fun q1 => ((idx q1 p1_j).bind fun q10 => ((idx z1 p0_i).bind fun q12 => ((idx q12 p1_j).bind fun q21 => some (max q10 q21)))))

def impl_addMatrices (F : Nat) (p0_a : List (List Int)) (p1_b : List (List Int)) : Option (List (List Int)) :=
  ((idx p0_a 0).bind fun q3 => ((impl_matrixBy F (p0_a.length : Int) (q3.length : Int) (fun x0 x1 => impl_addMatrices_c1 F x0 x1 p0_a p1_b)).bind fun r12 => some r12))

def impl_times (_F : Nat) (p0_a : Int) (p1_b : Int) : Option (Int) :=
  (Option.bind ((bif (p0_a == (-1000000000000000)) then some true else some (p1_b == (-1000000000000000))) : Option (Bool)) fun b2 => (bif b2 then some (-1000000000000000) else some (IntKind.i64.wrap (p0_a + p1_b))))

def impl_starOf_L21 (F : Nat) (x2502 : Int) (ms4373 : List (List Int)) (x4375 : Int) : Nat → (List (List Int)) → Int → Option (List (List Int))
  | 0, _, _ => none
  | n4918 + 1, ms4837, x4839 => (bif (decide (x4839 < (ms4373.length : Int))) then ((idx ms4837 x4375).bind fun q4956 => ((idx ms4837 x4375).bind fun q4961 => ((idx q4961 x4839).bind fun q4966 => ((idx ms4837 x4375).bind fun q4968 => ((idx q4968 x2502).bind fun q4973 => ((idx ms4837 x2502).bind fun q4975 => ((idx q4975 x4839).bind fun q4980 => ((impl_times F q4973 q4980).bind fun r4982 => ((idx q4956 x4839).bind fun _q4984 => ((upd q4956 x4839 (max q4966 r4982)).bind fun xs4986 => ((upd ms4837 x4375 xs4986).bind fun ms4987 => (impl_starOf_L21 F x2502 ms4373 x4375 n4918 ms4987 (IntKind.i64.wrap (x4839 + 1)))))))))))))) else some ms4837)

def impl_starOf_L20 (F : Nat) (ms2500 : List (List Int)) (x2502 : Int) : Nat → (List (List Int)) → Int → Option (List (List Int))
  | 0, _, _ => none
  | n4686 + 1, ms4373, x4375 => (bif (decide (x4375 < (ms2500.length : Int))) then (Option.bind (impl_starOf_L21 F x2502 ms4373 x4375 F ms4373 0) fun ms4913 => (impl_starOf_L20 F ms2500 x2502 n4686 ms4913 (IntKind.i64.wrap (x4375 + 1)))) else some ms4373)

def impl_starOf_L16 (F : Nat) (r8 : List (List Int)) : Nat → (List (List Int)) → Int → Option (Sum (List (List Int) × Bool) (List (List Int)))
  | 0, _, _ => none
  | n3749 + 1, ms2500, x2502 => (bif (decide (x2502 < (r8.length : Int))) then ((idx ms2500 x2502).bind fun q3751 => ((idx q3751 x2502).bind fun q3756 => (bif (decide (0 < q3756)) then some (Sum.inl (([] : List (List Int)), false)) else (Option.bind (impl_starOf_L20 F ms2500 x2502 F ms2500 0) fun ms4681 => (impl_starOf_L16 F r8 n3749 ms4681 (IntKind.i64.wrap (x2502 + 1))))))) else some (Sum.inr ms2500))

def impl_starOf_L22 (F : Nat) (ms3744 : List (List Int)) : Nat → Int → Option (Sum (List (List Int) × Bool) (Unit))
  | 0, _ => none
  | n5024 + 1, x5011 => (bif (decide (x5011 < (ms3744.length : Int))) then ((idx ms3744 x5011).bind fun q5026 => ((idx q5026 x5011).bind fun q5031 => (bif (decide (0 < q5031)) then some (Sum.inl (([] : List (List Int)), false)) else (impl_starOf_L22 F ms3744 n5024 (IntKind.i64.wrap (x5011 + 1)))))) else some (Sum.inr ()))

def impl_starOf (F : Nat) (p0 : List (List Int)) : Option (List (List Int) × Bool) :=
  ((impl_unitMatrix F (p0.length : Int)).bind fun r1 => ((impl_addMatrices F p0 r1).bind fun r8 => (Option.bind (impl_starOf_L16 F r8 F r8 0) fun r3746 => match r3746 with | .inl x_ => some x_ | .inr ms3744 => (Option.bind (impl_starOf_L22 F ms3744 F 0) fun r5021 => match r5021 with | .inl x_ => some x_ | .inr _ => some (ms3744, true)))))

def impl_cycleSearch_goOn_L1 (F : Nat) (p0_matrix : List (List Int)) (m_p0_wanted : (List Int) → Int → Option Bool) (p1 : Int) (q3 : Int) (rec_ : (List (List Int)) → ((List Int) → Int → Option Bool) → (List Int) → (List Bool) → Int → Option ((Bool) × (List Int) × (List Bool))) : Nat → (List Int) → (List Bool) → Int → Option (Sum ((Bool) × (List Int) × (List Bool)) ((List Int) × (List Bool)))
  | 0, _, _, _ => none
  | n388 + 1, xs255, xs260, x265 => (bif (decide (x265 < (p0_matrix.length : Int))) then (Option.bind (((idx p0_matrix x265).bind fun q450 => ((idx q450 q3).bind fun q459 => (Option.bind ((bif (q459 == (-1000000000000000)) then some true else ((idx xs260 x265).bind fun q468 => some q468)) : Option (Bool)) fun b464 => (bif b464 then some (Sum.inr (xs255, xs260)) else ((idx xs260 x265).bind fun _q471 => ((upd xs260 x265 true).bind fun xs473 => ((app xs255 ([x265])).bind fun xs479 => ((rec_ p0_matrix m_p0_wanted xs479 xs473 (IntKind.i64.wrap (p1 + q459))).bind fun r481 => (bif r481.1 then some (Sum.inl (true, r481.2.1, r481.2.2)) else ((cutTo r481.2.1 (IntKind.i64.wrap ((r481.2.1.length : Int) - 1))).bind fun xs493 => ((idx r481.2.2 x265).bind fun _q494 => ((upd r481.2.2 x265 false).bind fun xs496 => some (Sum.inr (xs493, xs496)))))))))))))) : Option (Sum ((Bool) × (List Int) × (List Bool)) ((List Int) × (List Bool)))) fun r448 => match r448 with | .inl x_ => some (Sum.inl x_) | .inr (xs438, xs443) => (impl_cycleSearch_goOn_L1 F p0_matrix m_p0_wanted p1 q3 rec_ n388 xs438 xs443 (IntKind.i64.wrap (x265 + 1)))) else some (Sum.inr (xs255, xs260)))

def impl_cycleSearch_goOn_rec (F : Nat) : Nat → (List (List Int)) → ((List Int) → Int → Option Bool) → (List Int) → (List Bool) → Int → Option ((Bool) × (List Int) × (List Bool))
  | 0, _, _, _, _, _ => none
  | k_ + 1, p0_matrix, m_p0_wanted, p0_path, p0_used, p1 => ((idx p0_path 0).bind fun q1 => ((idx p0_path (IntKind.i64.wrap ((p0_path.length : Int) - 1))).bind fun q3 => ((idx p0_matrix q1).bind fun q5 => ((idx q5 q3).bind fun q14 => (Option.bind ((bif (q14 != (-1000000000000000)) then ((m_p0_wanted p0_path (IntKind.i64.wrap (p1 + q14))).bind fun r23 => some r23) else some false) : Option (Bool)) fun b19 => (bif b19 then some (true, p0_path, p0_used) else (Option.bind (impl_cycleSearch_goOn_L1 F p0_matrix m_p0_wanted p1 q3 (impl_cycleSearch_goOn_rec F k_) F p0_path p0_used (IntKind.i64.wrap (q1 + 1))) fun r385 => match r385 with | .inl x_ => some x_ | .inr (xs375, xs380) => some (false, xs375, xs380))))))))

def impl_cycleSearch_goOn (F : Nat) (p0_matrix : List (List Int)) (m_p0_wanted : (List Int) → Int → Option Bool) (p0_path : List Int) (p0_used : List Bool) (p1 : Int) : Option ((Bool) × (List Int) × (List Bool)) := impl_cycleSearch_goOn_rec F F p0_matrix m_p0_wanted p0_path p0_used p1

def impl_firstCycle_L1 (F : Nat) (p0_a : List (List Int)) (m_p1_wanted : (List Int) → Int → Option Bool) : Nat → Int → Option (Sum (List Int) (Unit))
  | 0, _ => none
  | n60 + 1, x38 => (bif (decide (x38 < (p0_a.length : Int))) then ((mk (p0_a.length : Int) (false : Bool)).bind fun xs66 => ((impl_cycleSearch_goOn F p0_a m_p1_wanted ([x38]) xs66 0).bind fun r68 => (bif r68.1 then some (Sum.inl r68.2.1) else (impl_firstCycle_L1 F p0_a m_p1_wanted n60 (IntKind.i64.wrap (x38 + 1)))))) else some (Sum.inr ()))

def impl_firstCycle (F : Nat) (p0_a : List (List Int)) (m_p1_wanted : (List Int) → Int → Option Bool) : Option (List Int) :=
  (Option.bind (impl_firstCycle_L1 F p0_a m_p1_wanted F 0) fun r57 => match r57 with | .inl x_ => some x_ | .inr _ => some ([] : List Int))

def impl_PositiveCycle_c1 (_F : Nat) (_p0 : List Int) (p1_weight : Int) : Option (Bool) :=
  some (decide (0 < p1_weight))

def impl_PositiveCycle (F : Nat) (p0_a : List (List Int)) : Option (List Int × Int) :=
  ((impl_isSquare F p0_a).bind fun r1 => (bif (!r1) then some (([] : List Int), 1) else ((impl_starOf F p0_a).bind fun r5 => (bif r5.2 then some (([] : List Int), 4) else ((impl_firstCycle F p0_a (fun x0 x1 => impl_PositiveCycle_c1 F x0 x1)).bind fun r14 => some (r14, 0))))))

def spec_l01Has_L1 (F : Nat) (p0_list : List Int) (p1_x : Int) : Nat → Int → Option (Sum Bool (Unit))
  | 0, _ => none
  | n18 + 1, x10 => (bif (decide (x10 < (p0_list.length : Int))) then ((idx p0_list x10).bind fun q20 => (bif (q20 == p1_x) then some (Sum.inl true) else (spec_l01Has_L1 F p0_list p1_x n18 (IntKind.i64.wrap (x10 + 1))))) else some (Sum.inr ()))

def spec_l01Has (F : Nat) (p0_list : List Int) (p1_x : Int) : Option (Bool) :=
  (Option.bind (spec_l01Has_L1 F p0_list p1_x F 0) fun r15 => match r15 with | .inl x_ => some x_ | .inr _ => some false)

def spec_l01Own (_F : Nat) (p0_list : List Int) : Option (List Int) :=
  ((app ([] : List Int) p0_list).bind fun xs5 => some xs5)

def spec_l03Grow_L1 (F : Nat) (p0 : List (List Int)) (p1 : List Int) (p2 : Int) (p3 : Int) (q3 : Int) (rec_ : (List (List Int)) → (List Int) → Int → Int → Option (List Int)) : Nat → Int → Option (Sum (List Int) (Unit))
  | 0, _ => none
  | n1402 + 1, x951 => (bif (decide (x951 < (p0.length : Int))) then (Option.bind ((Option.bind (((idx p0 x951).bind fun q1645 => ((idx q1645 q3).bind fun q1654 => (bif (q1654 == (-1000000000000000)) then some true else ((spec_l01Has F p1 x951).bind fun r1657 => some r1657)))) : Option (Bool)) fun b1642 => (bif b1642 then some (Sum.inr ()) else (Option.bind (((idx p0 x951).bind fun q1792 => ((idx q1792 q3).bind fun q1801 => ((spec_l01Own F p1).bind fun r1803 => ((app r1803 ([x951])).bind fun xs1813 => ((rec_ p0 xs1813 (IntKind.i64.wrap (p2 + q1801)) p3).bind fun r1815 => some r1815))))) : Option (List Int)) fun xs1751 => (bif (decide (0 < (xs1751.length : Int))) then some (Sum.inl xs1751) else some (Sum.inr ()))))) : Option (Sum (List Int) (Unit))) fun r1626 => match r1626 with | .inl x_ => some (Sum.inl x_) | .inr _ => (spec_l03Grow_L1 F p0 p1 p2 p3 q3 rec_ n1402 (IntKind.i64.wrap (x951 + 1)))) else some (Sum.inr ()))

def spec_l03Grow_rec (F : Nat) : Nat → (List (List Int)) → (List Int) → Int → Int → Option (List Int)
  | 0, _, _, _, _ => none
  | k_ + 1, p0, p1, p2, p3 => ((idx p1 0).bind fun q1 => ((idx p1 (IntKind.i64.wrap ((p1.length : Int) - 1))).bind fun q3 => (Option.bind (((idx p0 q1).bind fun q31 => ((idx q31 q3).bind fun q40 => (bif (q40 != (-1000000000000000)) then ((idx p0 q1).bind fun q43 => ((idx q43 q3).bind fun q52 => some (decide (p3 < (IntKind.i64.wrap (p2 + q52)))))) else some false))) : Option (Bool)) fun b28 => (bif b28 then some p1 else (Option.bind (spec_l03Grow_L1 F p0 p1 p2 p3 q3 (spec_l03Grow_rec F k_) F (IntKind.i64.wrap (q1 + 1))) fun r1399 => match r1399 with | .inl x_ => some x_ | .inr _ => some ([] : List Int))))))

def spec_l03Grow (F : Nat) (p0 : List (List Int)) (p1 : List Int) (p2 : Int) (p3 : Int) : Option (List Int) := spec_l03Grow_rec F F p0 p1 p2 p3

def spec_l03Over_L1 (F : Nat) (p0_a : List (List Int)) (p1_over : Int) : Nat → Int → Option (Sum (List Int) (Unit))
  | 0, _ => none
  | n51 + 1, x32 => (bif (decide (x32 < (p0_a.length : Int))) then ((spec_l03Grow F p0_a ([x32]) 0 p1_over).bind fun r55 => (bif (decide (0 < (r55.length : Int))) then some (Sum.inl r55) else (spec_l03Over_L1 F p0_a p1_over n51 (IntKind.i64.wrap (x32 + 1))))) else some (Sum.inr ()))

def spec_l03Over (F : Nat) (p0_a : List (List Int)) (p1_over : Int) : Option (List Int) :=
  (Option.bind (spec_l03Over_L1 F p0_a p1_over F 0) fun r48 => match r48 with | .inl x_ => some x_ | .inr _ => some ([] : List Int))

def spec_PositiveCycle (F : Nat) (p0_a : List (List Int)) : Option (List Int × Int) :=
  ((spec_l02Square F p0_a).bind fun r1 => (bif (!r1) then some (([] : List Int), 1) else ((spec_l03Over F p0_a 0).bind fun r5 => (bif ((r5.length : Int) == 0) then some (([] : List Int), 4) else some (r5, 0)))))

def spec_l03DrawNodes_L5 (F : Nat) (p1 : List (List Int)) (q700 : Int) : Nat → Int → Int → Option (Int)
  | 0, _, _ => none
  | n860 + 1, x804, x805 => (Option.bind ((bif (decide (x805 < (p1.length : Int))) then ((idx p1 x804).bind fun q887 => (bif (decide (q700 < (q887.length : Int))) then ((idx p1 x804).bind fun q897 => ((idx q897 q700).bind fun q906 => some (q906 == (-1000000000000000)))) else some false)) else some false) : Option (Bool)) fun b883 => (bif b883 then ((if (p1.length : Int) = 0 then none else some ()).bind fun _u910 => (spec_l03DrawNodes_L5 F p1 q700 n860 ((IntKind.i64.wrap (x804 + 1)).tmod (p1.length : Int)) (IntKind.i64.wrap (x805 + 1)))) else some x804))

def spec_l03DrawNodes_L4 (F : Nat) (p0_code : List Int) (p1 : List (List Int)) : Nat → Int → Int → (List Int) → Int → Option (Int × Int × (List Int))
  | 0, _, _, _, _ => none
  | n696 + 1, x458, x459, xs460, x465 => (bif (decide (0 < x465)) then ((spec_l01Next F p0_code x458 x459 (p1.length : Int)).bind fun r698 => ((idx xs460 (IntKind.i64.wrap ((xs460.length : Int) - 1))).bind fun q700 => (Option.bind (spec_l03DrawNodes_L5 F p1 q700 F r698.1 0) fun x856 => ((app xs460 ([x856])).bind fun xs915 => (spec_l03DrawNodes_L4 F p0_code p1 n696 r698.2.1 r698.2.2 xs915 (IntKind.i64.wrap (x465 - 1))))))) else some (x458, x459, xs460))

def spec_l03DrawNodes (F : Nat) (p0_code : List Int) (p0_at : Int) (p0_seed : Int) (p1 : List (List Int)) : Option ((List Int) × Int × Int) :=
  (bif ((p1.length : Int) == 0) then some ([0], p0_at, p0_seed) else ((spec_l01Next F p0_code p0_at p0_seed (p1.length : Int)).bind fun r4 => ((spec_l01Next F p0_code r4.2.1 r4.2.2 6).bind fun r8 => (Option.bind (spec_l03DrawNodes_L4 F p0_code p1 F r8.2.1 r8.2.2 ([r4.1]) r8.1) fun (x686, x687, xs688) => ((spec_l01Next F p0_code x686 x687 40).bind fun r917 => (bif (r917.1 == 0) then ((spec_l01Pick F p0_code r917.2.1 r917.2.2 ([(-1), (p1.length : Int)])).bind fun r922 => ((app xs688 ([r922.1])).bind fun xs928 => some (xs928, r922.2.1, r922.2.2))) else (bif (r917.1 == 1) then some (([] : List Int), r917.2.1, r917.2.2) else some (xs688, r917.2.1, r917.2.2))))))))

def spec_l03DrawCycle (F : Nat) (p0_s_code : List Int) (p0_s_at : Int) (p0_s_seed : Int) (p1_a : List (List Int)) : Option ((List Int) × Int × Int) :=
  (Option.bind (((spec_l02Square F p1_a).bind fun r11 => (bif r11 then ((spec_l01Next F p0_s_code p0_s_at p0_s_seed 4).bind fun r14 => some (r14.2.1, r14.2.2, (decide (0 < r14.1)))) else some (p0_s_at, p0_s_seed, false))) : Option (Int × Int × Bool)) fun (x6, x7, b8) => (Option.bind ((bif b8 then ((spec_l01Pick F p0_s_code x6 x7 ([(-1000000000000000), (-20), (-5), 0])).bind fun r65 => ((spec_l03Over F p1_a r65.1).bind fun r67 => (bif (decide (0 < (r67.length : Int))) then ((spec_l01Next F p0_s_code r65.2.1 r65.2.2 (r67.length : Int)).bind fun r74 => ((cutFrom r67 r74.1).bind fun xs91 => ((cutTo r67 r74.1).bind fun xs93 => ((spec_l01Own F xs91).bind fun r94 => ((app r94 xs93).bind fun xs102 => some (Sum.inl (xs102, r74.2.1, r74.2.2))))))) else some (Sum.inr (r65.2.1, r65.2.2))))) else some (Sum.inr (x6, x7))) : Option (Sum ((List Int) × Int × Int) (Int × Int))) fun r60 => match r60 with | .inl x_ => some x_ | .inr (x58, x59) => ((spec_l03DrawNodes F p0_s_code x58 x59 p1_a).bind fun r104 => some (r104.1, r104.2.1, r104.2.2))))

def spec_DrawIsCycle (F : Nat) (p0_code : List Int) : Option (List (List Int) × List Int) :=
  ((spec_l01From F p0_code).bind fun r1 => ((spec_l03Draw F p0_code r1.1 r1.2).bind fun r4 => ((spec_l03DrawCycle F p0_code r4.2.1 r4.2.2 r4.1).bind fun r11 => some (r4.1, r11.1))))

def spec_DrawCycleWeight (F : Nat) (p0_code : List Int) : Option (List (List Int) × List Int) :=
  ((spec_DrawIsCycle F p0_code).bind fun r1 => some (r1.1, r1.2))

def impl_isNode (F : Nat) (p0_a : List (List Int)) (p1_node : Int) : Option (Bool) :=
  ((impl_within F p1_node 0 (IntKind.i64.wrap ((p0_a.length : Int) - 1))).bind fun r1 => some r1)

def slices_Index_int64_L1 (F : Nat) (p0_s : List Int) (p1_v : Int) : Nat → Int → Option (Sum Int (Unit))
  | 0, _ => none
  | n18 + 1, x10 => (bif (decide (x10 < (p0_s.length : Int))) then ((idx p0_s x10).bind fun q20 => (bif (p1_v == q20) then some (Sum.inl x10) else (slices_Index_int64_L1 F p0_s p1_v n18 (IntKind.i64.wrap (x10 + 1))))) else some (Sum.inr ()))

def slices_Index_int64 (F : Nat) (p0_s : List Int) (p1_v : Int) : Option (Int) :=
  (Option.bind (slices_Index_int64_L1 F p0_s p1_v F 0) fun r15 => match r15 with | .inl x_ => some x_ | .inr _ => some (-1))

def slices_Contains_int64 (F : Nat) (p0_s : List Int) (p1_v : Int) : Option (Bool) :=
  ((slices_Index_int64 F p0_s p1_v).bind fun r1 => some (decide (0 ≤ r1)))

def impl_cycleWeight_L1 (F : Nat) (p0 : List (List Int)) (p1 : List Int) : Nat → Int → Int → Int → Option (Sum (Int × Bool) (Int))
  | 0, _, _, _ => none
  | n200 + 1, x131, x132, x133 => (bif (decide (x133 < (p1.length : Int))) then ((idx p1 x133).bind fun q202 => (Option.bind (((impl_isNode F p0 q202).bind fun r229 => (bif (!r229) then some true else ((impl_isNode F p0 x132).bind fun r232 => (bif (!r232) then some true else ((cutTo p1 x133).bind fun xs236 => ((slices_Contains_int64 F xs236 q202).bind fun r237 => (bif r237 then some true else ((idx p0 q202).bind fun q240 => ((idx q240 x132).bind fun q249 => some (q249 == (-1000000000000000))))))))))) : Option (Bool)) fun b226 => (bif b226 then some (Sum.inl (0, false)) else ((idx p0 q202).bind fun q252 => ((idx q252 x132).bind fun q261 => (impl_cycleWeight_L1 F p0 p1 n200 (IntKind.i64.wrap (x131 + q261)) q202 (IntKind.i64.wrap (x133 + 1)))))))) else some (Sum.inr x131))

def impl_cycleWeight (F : Nat) (p0 : List (List Int)) (p1 : List Int) : Option (Int × Bool) :=
  (bif ((p1.length : Int) == 0) then some (0, false) else ((idx p1 (IntKind.i64.wrap ((p1.length : Int) - 1))).bind fun q2 => (Option.bind (impl_cycleWeight_L1 F p0 p1 F 0 q2 0) fun r197 => match r197 with | .inl x_ => some x_ | .inr x196 => some (x196, true))))

def impl_checkedValue (F : Nat) (p0_n : Int) : Option (Int × Int) :=
  ((impl_IsValue F p0_n).bind fun r1 => (bif (!r1) then some (0, 3) else some (p0_n, 0)))

def impl_CycleWeight (F : Nat) (p0_a : List (List Int)) (p1_cycle : List Int) : Option (Int × Int) :=
  ((impl_isSquare F p0_a).bind fun r1 => (bif (!r1) then some (0, 1) else ((impl_cycleWeight F p0_a p1_cycle).bind fun r4 => (bif (!r4.2) then some (0, 4) else ((impl_checkedValue F r4.1).bind fun r7 => some (r7.1, r7.2))))))

def spec_l01Within_L1 (F : Nat) (p0_list : List Int) (p2_low : Int) (p3_high : Int) : Nat → Int → Option (Sum Bool (Unit))
  | 0, _ => none
  | n24 + 1, x14 => (bif (decide (x14 < (p0_list.length : Int))) then ((idx p0_list x14).bind fun q26 => ((spec_l01In F q26 p2_low p3_high).bind fun r28 => (bif (!r28) then some (Sum.inl false) else (spec_l01Within_L1 F p0_list p2_low p3_high n24 (IntKind.i64.wrap (x14 + 1)))))) else some (Sum.inr ()))

def spec_l01Within (F : Nat) (p0_list : List Int) (p1_most : Int) (p2_low : Int) (p3_high : Int) : Option (Bool) :=
  (Option.bind (spec_l01Within_L1 F p0_list p2_low p3_high F 0) fun r21 => match r21 with | .inl x_ => some x_ | .inr _ => some (decide ((p0_list.length : Int) ≤ p1_most)))

def spec_l03Nodes (F : Nat) (p0_a : List (List Int)) (p1_list : List Int) : Option (Bool) :=
  ((spec_l01Within F p1_list (p1_list.length : Int) 0 (IntKind.i64.wrap ((p0_a.length : Int) - 1))).bind fun r1 => some r1)

def spec_l03Walk_L1 (F : Nat) (p0_a : List (List Int)) (p1_list : List Int) : Nat → Int → Int → Option (Sum (Int × Bool) (Int))
  | 0, _, _ => none
  | n60 + 1, x37, x38 => (bif (decide (x38 < (p1_list.length : Int))) then ((idx p1_list x38).bind fun q62 => ((idx p0_a q62).bind fun q64 => ((idx p1_list (IntKind.i64.wrap (x38 - 1))).bind fun q73 => ((idx q64 q73).bind fun q75 => (bif (q75 == (-1000000000000000)) then some (Sum.inl (0, false)) else (spec_l03Walk_L1 F p0_a p1_list n60 (IntKind.i64.wrap (x37 + q75)) (IntKind.i64.wrap (x38 + 1)))))))) else some (Sum.inr x37))

def spec_l03Walk (F : Nat) (p0_a : List (List Int)) (p1_list : List Int) : Option (Int × Bool) :=
  (Option.bind (spec_l03Walk_L1 F p0_a p1_list F 0 1) fun r57 => match r57 with | .inl x_ => some x_ | .inr x56 => some (x56, true))

def spec_l03Cycle_L1 (F : Nat) (p1_cycle : List Int) : Nat → Int → Option (Sum (Int × Bool) (Unit))
  | 0, _ => none
  | n40 + 1, x28 => (bif (decide (x28 < (p1_cycle.length : Int))) then ((cutTo p1_cycle x28).bind fun xs43 => ((idx p1_cycle x28).bind fun q44 => ((spec_l01Has F xs43 q44).bind fun r46 => (bif r46 then some (Sum.inl (0, false)) else (spec_l03Cycle_L1 F p1_cycle n40 (IntKind.i64.wrap (x28 + 1))))))) else some (Sum.inr ()))

def spec_l03Cycle (F : Nat) (p0_a : List (List Int)) (p1_cycle : List Int) : Option (Int × Bool) :=
  (Option.bind ((bif ((p1_cycle.length : Int) == 0) then some true else ((spec_l03Nodes F p0_a p1_cycle).bind fun r8 => some (!r8))) : Option (Bool)) fun b4 => (bif b4 then some (0, false) else (Option.bind (spec_l03Cycle_L1 F p1_cycle F 0) fun r37 => match r37 with | .inl x_ => some x_ | .inr _ => (Option.bind (((idx p1_cycle 0).bind fun q115 => ((spec_l01Own F p1_cycle).bind fun r117 => ((app r117 ([q115])).bind fun xs127 => ((spec_l03Walk F p0_a xs127).bind fun r129 => some (r129.1, r129.2))))) : Option (Int × Bool)) fun (x95, b96) => some (x95, b96)))))

def spec_l01Value (F : Nat) (p0_a : Int) : Option (Int × Int) :=
  ((spec_IsValue F p0_a).bind fun r1 => (bif (!r1) then some (0, 3) else some (p0_a, 0)))

def spec_CycleWeight (F : Nat) (p0_a : List (List Int)) (p1_cycle : List Int) : Option (Int × Int) :=
  ((spec_l02Square F p0_a).bind fun r1 => (bif (!r1) then some (0, 1) else ((spec_l03Cycle F p0_a p1_cycle).bind fun r4 => (bif (!r4.2) then some (0, 4) else ((spec_l01Value F r4.1).bind fun r7 => some (r7.1, r7.2))))))

def laws_likeInts_L1 (F : Nat) (p0_a : List Int) (p1_b : List Int) : Nat → Int → Option (Sum Bool (Unit))
  | 0, _ => none
  | n25 + 1, x15 => (bif (decide (x15 < (p0_a.length : Int))) then ((idx p0_a x15).bind fun q27 => ((idx p1_b x15).bind fun q29 => (bif (q27 != q29) then some (Sum.inl false) else (laws_likeInts_L1 F p0_a p1_b n25 (IntKind.i64.wrap (x15 + 1)))))) else some (Sum.inr ()))

def laws_likeInts (F : Nat) (p0_a : List Int) (p1_b : List Int) : Option (Bool) :=
  (bif ((p0_a.length : Int) != (p1_b.length : Int)) then some false else (Option.bind (laws_likeInts_L1 F p0_a p1_b F 0) fun r22 => match r22 with | .inl x_ => some x_ | .inr _ => some true))

def impl_IsCycle (F : Nat) (p0_a : List (List Int)) (p1_cycle : List Int) : Option (Bool) :=
  ((impl_isSquare F p0_a).bind fun r1 => (bif (!r1) then some false else ((impl_cycleWeight F p0_a p1_cycle).bind fun r4 => some r4.2)))

def spec_IsCycle (F : Nat) (p0_a : List (List Int)) (p1_cycle : List Int) : Option (Bool) :=
  ((spec_l02Square F p0_a).bind fun r1 => (bif (!r1) then some false else ((spec_l03Cycle F p0_a p1_cycle).bind fun r4 => some r4.2)))

def laws_FnPositiveCycles (F : Nat) (p0 : List Int) : Option (Bool) :=
  ((laws_big F p0).bind fun r1 => (bif r1 then some true else ((spec_DrawPositiveCycle F p0).bind fun r4 => ((impl_PositiveCycle F r4).bind fun r11 => ((spec_PositiveCycle F r4).bind fun r17 => ((spec_DrawCycleWeight F p0).bind fun r23 => ((impl_CycleWeight F r23.1 r23.2).bind fun r34 => ((spec_CycleWeight F r23.1 r23.2).bind fun r36 => ((spec_DrawIsCycle F p0).bind fun r38 => (Option.bind ((bif (r11.2 != r17.2) then some true else ((laws_likeInts F r11.1 r17.1).bind fun r63 => (bif (!r63) then some true else (bif (r34.2 != r36.2) then some true else (bif (r34.1 != r36.1) then some true else ((impl_IsCycle F r38.1 r38.2).bind fun r68 => ((spec_IsCycle F r38.1 r38.2).bind fun r70 => some (r68 != r70)))))))) : Option (Bool)) fun b59 => (bif b59 then some false else (Option.bind ((bif (r34.2 == 0) then (Option.bind (((cutFrom r23.2 1).bind fun xs302 => ((idx r23.2 0).bind fun q303 => ((app ([] : List Int) xs302).bind fun xs309 => ((app xs309 ([q303])).bind fun xs315 => ((impl_CycleWeight F r23.1 xs315).bind fun r317 => some (r317.1, r317.2)))))) : Option (Int × Int)) fun (x279, x280) => (Option.bind ((bif (x280 != 0) then some true else (bif (x279 != r34.1) then some true else ((impl_IsCycle F r23.1 r23.2).bind fun r354 => some (!r354)))) : Option (Bool)) fun b349 => (bif b349 then some (Sum.inl false) else some (Sum.inr ())))) else some (Sum.inr ())) : Option (Sum Bool (Unit))) fun r214 => match r214 with | .inl x_ => some x_ | .inr _ => (bif (r11.2 != 0) then some true else ((impl_CycleWeight F r4 r11.1).bind fun r358 => (Option.bind ((bif (r358.2 == 3) then some true else (bif (r358.2 == 0) then some (decide (0 < r358.1)) else some false)) : Option (Bool)) fun b362 => some b362)))))))))))))))

end Go.Proofs.Ytebmlphobgaboab
