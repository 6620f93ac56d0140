/- Plain models of the functions. -/
import Derived.Test.YtebmlphobgaboabLiftH
namespace Go.Proofs.Ytebmlphobgaboab

structure GWindow where
  Low : Int
  High : Int

structure GBond where
  From : Int
  To : Int
  Least : Int

def laws_big (_F : Nat) (p0_code : List Int) : Option (Bool) :=
  some (decide (4096 < (p0_code.length : Int)))

def spec_l01From_L1 (F : Nat) (p0_code : List Int) : Nat → Int → Int → Option (Int)
  | 0, _, _ => none
  | n34 + 1, x20, x21 => (Option.bind ((bif (decide (x21 < (p0_code.length : Int))) then some (decide (x21 < 64)) else some false) : Option (Bool)) fun b36 => (bif b36 then ((idx p0_code x21).bind fun q41 => (spec_l01From_L1 F p0_code n34 ((IntKind.i64.wrap ((IntKind.i64.wrap (x20 * 67)) + (IntKind.i64.wrap q41))).tmod 2147483647) (IntKind.i64.wrap (x21 + 1)))) else some x20))

def spec_l01From (F : Nat) (p0_code : List Int) : Option ((Int × Int)) :=
  (Option.bind (spec_l01From_L1 F p0_code F 61403 0) fun x30 => some (0, x30))

def spec_l01Next (_F : Nat) (p0_code : List Int) (p0_at : Int) (p0_seed : Int) (p1 : Int) : Option ((Int) × Int × Int) :=
  (bif (decide (p1 ≤ 1)) then some (0, p0_at, p0_seed) else (Option.bind ((bif (decide (p0_at < (p0_code.length : Int))) then ((idx p0_code p0_at).bind fun q18 => (Option.bind ((bif (decide (p1 ≤ 256)) then some (((IntKind.i64.wrap (p0_at + 1)).tmod 2) == 0) else some false) : Option (Bool)) fun b21 => (bif b21 then ((idx p0_code (IntKind.i64.wrap ((IntKind.i64.wrap (p0_at + 1)) - 1))).bind fun q26 => some ((IntKind.i64.wrap (p0_at + 1)), (IntKind.i64.wrap q26))) else some ((IntKind.i64.wrap (p0_at + 1)), (IntKind.i64.wrap ((IntKind.i64.wrap (((IntKind.i64.wrap ((IntKind.i64.wrap (p0_seed * 48271)) + 59)).tmod 2147483647).tdiv 31)) + (IntKind.i64.wrap q18))))))) else some (p0_at, (IntKind.i64.wrap (((IntKind.i64.wrap ((IntKind.i64.wrap (p0_seed * 48271)) + 59)).tmod 2147483647).tdiv 31)))) : Option (Int × Int)) fun (x13, x14) => ((if p1 = 0 then none else some ()).bind fun _u29 => some ((x14.tmod p1), x13, ((IntKind.i64.wrap ((IntKind.i64.wrap (p0_seed * 48271)) + 59)).tmod 2147483647)))))

def spec_l01Pick (F : Nat) (p0_s_code : List Int) (p0_s_at : Int) (p0_s_seed : Int) (p1_list : List Int) : Option ((Int) × Int × Int) :=
  ((spec_l01Next F p0_s_code p0_s_at p0_s_seed (p1_list.length : Int)).bind fun r1 => ((idx p1_list r1.1).bind fun q3 => some (q3, r1.2.1, r1.2.2)))

def spec_l23Draw_L1 (F : Nat) (p0_code : List Int) (r5 : (Int) × Int × Int) : Nat → Int → Int → (List GWindow) → Int → Option (Int × Int × (List GWindow))
  | 0, _, _, _, _ => none
  | n84 + 1, x49, x50, xs51, x56 => (bif (decide (x56 < (IntKind.i64.wrap (1 + r5.1)))) then ((spec_l01Next F p0_code x49 x50 20).bind fun r86 => ((spec_l01Next F p0_code r86.2.1 r86.2.2 20).bind fun r88 => ((spec_l01Next F p0_code r88.2.1 r88.2.2 6).bind fun r90 => ((spec_l01Pick F p0_code r90.2.1 r90.2.2 ([r88.1, 40, r90.1])).bind fun r94 => ((app xs51 ([(GWindow.mk r86.1 (IntKind.i64.wrap (r86.1 + r94.1)))])).bind fun xs100 => (spec_l23Draw_L1 F p0_code r5 n84 r94.2.1 r94.2.2 xs100 (IntKind.i64.wrap (x56 + 1)))))))) else some (x49, x50, xs51))

def spec_l23Draw_L2 (F : Nat) (p0_code : List Int) (r5 : (Int) × Int × Int) : Nat → Int → Int → (List GBond) → Int → Option (Int × Int × (List GBond))
  | 0, _, _, _, _ => none
  | n205 + 1, x162, x163, xs164, x169 => (bif (decide (0 < x169)) then ((spec_l01Next F p0_code x162 x163 (IntKind.i64.wrap (1 + r5.1))).bind fun r207 => ((spec_l01Next F p0_code r207.2.1 r207.2.2 (IntKind.i64.wrap (1 + r5.1))).bind fun r209 => ((spec_l01Next F p0_code r209.2.1 r209.2.2 16).bind fun r211 => (Option.bind ((bif (decide (r209.1 ≤ r207.1)) then ((spec_l01Next F p0_code r211.2.1 r211.2.2 25).bind fun r223 => some (r223.2.1, r223.2.2, (IntKind.i64.wrap (0 - r223.1)))) else some (r211.2.1, r211.2.2, (IntKind.i64.wrap (r211.1 - 6)))) : Option (Int × Int × Int)) fun (x217, x218, x219) => ((app xs164 ([(GBond.mk r207.1 r209.1 x219)])).bind fun xs229 => (spec_l23Draw_L2 F p0_code r5 n205 x217 x218 xs229 (IntKind.i64.wrap (x169 - 1)))))))) else some (x162, x163, xs164))

def spec_l23Draw (F : Nat) (p0_code : List Int) (p0_at : Int) (p0_seed : Int) : Option ((List GWindow × List GBond) × Int × Int) :=
  ((spec_l01Next F p0_code p0_at p0_seed 5).bind fun r5 => (Option.bind (spec_l23Draw_L1 F p0_code r5 F r5.2.1 r5.2.2 ([] : List GWindow) 0) fun (x74, x75, xs76) => ((spec_l01Next F p0_code x74 x75 8).bind fun r102 => (Option.bind (spec_l23Draw_L2 F p0_code r5 F r102.2.1 r102.2.2 ([] : List GBond) r102.1) fun (x195, x196, xs197) => ((spec_l01Next F p0_code x195 x196 40).bind fun r231 => (bif (r231.1 == 0) then ((spec_l01Pick F p0_code r231.2.1 r231.2.2 ([(-1), 0, 5])).bind fun r236 => ((spec_l01Pick F p0_code r236.2.1 r236.2.2 ([4, 1000000, 1000001])).bind fun r240 => ((idx xs76 0).bind fun _q242 => ((upd xs76 0 (GWindow.mk r236.1 r240.1)).bind fun xs244 => some ((xs244, xs197), r240.2.1, r240.2.2))))) else (bif (r231.1 == 1) then ((spec_l01Pick F p0_code r231.2.1 r231.2.2 ([(-1), 0, (IntKind.i64.wrap (1 + r5.1))])).bind fun r249 => ((spec_l01Pick F p0_code r249.2.1 r249.2.2 ([(-1000000), (-1000001), 0])).bind fun r253 => ((app xs197 ([(GBond.mk r249.1 0 r253.1)])).bind fun xs259 => some ((xs76, xs259), r253.2.1, r253.2.2)))) else (bif (r231.1 == 2) then ((spec_l01Next F p0_code r231.2.1 r231.2.2 2).bind fun r262 => ((mk (IntKind.i64.wrap (10 + r262.1)) ((GWindow.mk 0 0) : GWindow)).bind fun xs266 => some ((xs266, xs197), r262.2.1, r262.2.2))) else some ((xs76, xs197), r231.2.1, r231.2.2)))))))))

def spec_DrawTightWindows (F : Nat) (p0_code : List Int) : Option (List GWindow × List GBond) :=
  ((spec_l01From F p0_code).bind fun r1 => ((spec_l23Draw F p0_code r1.1 r1.2).bind fun r4 => some (r4.1.1, r4.1.2)))

def impl_within (_F : Nat) (p0_n : Int) (p1_low : Int) (p2_high : Int) : Option (Bool) :=
  (Option.bind ((bif (decide (p1_low ≤ p0_n)) then some (decide (p0_n ≤ p2_high)) else some false) : Option (Bool)) fun b2 => some b2)

def impl_isFinite (F : Nat) (p0_n : Int) : Option (Bool) :=
  ((impl_within F p0_n (-1000000) 1000000).bind fun r1 => some r1)

def impl_IsTask_c1 (F : Nat) (p0_b : GBond) (z0 : Int) : Option (Bool) :=
  (Option.bind (((impl_within F p0_b.From 0 z0).bind fun r13 => (bif (!r13) then some true else ((impl_within F p0_b.To 0 z0).bind fun r16 => (bif (!r16) then some true else ((impl_isFinite F p0_b.Least).bind fun r19 => some (!r19)))))) : Option (Bool)) fun b10 => some b10)

def slices_IndexFunc_Bond_L1 (F : Nat) (p0_s : List GBond) (m_p1_f : GBond → Option Bool) : Nat → Int → Option (Sum Int (Unit))
  | 0, _ => none
  | n24 + 1, x14 => (bif (decide (x14 < (p0_s.length : Int))) then ((idx p0_s x14).bind fun q26 => ((m_p1_f q26).bind fun r28 => (bif r28 then some (Sum.inl x14) else (slices_IndexFunc_Bond_L1 F p0_s m_p1_f n24 (IntKind.i64.wrap (x14 + 1)))))) else some (Sum.inr ()))

def slices_IndexFunc_Bond (F : Nat) (p0_s : List GBond) (m_p1_f : GBond → Option Bool) : Option (Int) :=
  (Option.bind (slices_IndexFunc_Bond_L1 F p0_s m_p1_f F 0) fun r21 => match r21 with | .inl x_ => some x_ | .inr _ => some (-1))

def slices_ContainsFunc_Bond (F : Nat) (p0_s : List GBond) (m_p1_f : GBond → Option Bool) : Option (Bool) :=
  ((slices_IndexFunc_Bond F p0_s m_p1_f).bind fun r1 => some (decide (0 ≤ r1)))

def impl_IsTask_L1 (F : Nat) (p0_windows : List GWindow) : Nat → Int → Option (Sum Bool (Unit))
  | 0, _ => none
  | n52 + 1, x36 => (bif (decide (x36 < (p0_windows.length : Int))) then ((idx p0_windows x36).bind fun q54 => (Option.bind ((bif (decide (q54.Low < 0)) then some true else (bif (decide (q54.High < q54.Low)) then some true else some (decide (1000000 < q54.High)))) : Option (Bool)) fun b59 => (bif b59 then some (Sum.inl false) else (impl_IsTask_L1 F p0_windows n52 (IntKind.i64.wrap (x36 + 1)))))) else some (Sum.inr ()))

def impl_IsTask (F : Nat) (p0_windows : List GWindow) (p1_bonds : List GBond) : Option (Bool) :=
  (Option.bind (((impl_within F (p0_windows.length : Int) 1 10).bind fun r7 => (bif (!r7) then some true else some (decide (30 < (p1_bonds.length : Int))))) : Option (Bool)) fun b4 => (bif b4 then some false else (Option.bind (impl_IsTask_L1 F p0_windows F 0) fun r49 => match r49 with | .inl x_ => some x_ | .inr _ => ((slices_ContainsFunc_Bond F p1_bonds (fun x0 => impl_IsTask_c1 F x0 (IntKind.i64.wrap ((p0_windows.length : Int) - 1)))).bind fun r66 => some (!r66)))))

def impl_matrixBy_L5 (F : Nat) (m_p2_entry : Int → Int → Option Int) (x324 : Int) (q500 : List Int) : Nat → (List (List Int)) → Int → Option (List (List Int))
  | 0, _, _ => none
  | n609 + 1, ms570, x572 => (bif (decide (x572 < (q500.length : Int))) then ((idx ms570 x324).bind fun q626 => ((m_p2_entry x324 x572).bind fun r631 => ((idx q626 x572).bind fun _q633 => ((upd q626 x572 r631).bind fun xs635 => ((upd ms570 x324 xs635).bind fun ms636 => (impl_matrixBy_L5 F m_p2_entry x324 q500 n609 ms636 (IntKind.i64.wrap (x572 + 1)))))))) else some ms570)

def impl_matrixBy_L4 (F : Nat) (p1_n : Int) (m_p2_entry : Int → Int → Option Int) (ms3 : List (List Int)) : Nat → (List (List Int)) → Int → Option (List (List Int))
  | 0, _, _ => none
  | n487 + 1, ms318, x324 => (bif (decide (x324 < (ms3.length : Int))) then ((mk p1_n (0 : Int)).bind fun xs491 => ((idx ms318 x324).bind fun _q492 => ((upd ms318 x324 xs491).bind fun ms497 => ((idx ms497 x324).bind fun q500 => (Option.bind (impl_matrixBy_L5 F m_p2_entry x324 q500 F ms497 0) fun ms604 => (impl_matrixBy_L4 F p1_n m_p2_entry ms3 n487 ms604 (IntKind.i64.wrap (x324 + 1)))))))) else some ms318)

def impl_matrixBy (F : Nat) (p0_m : Int) (p1_n : Int) (m_p2_entry : Int → Int → Option Int) : Option (List (List Int)) :=
  ((mk p0_m ([] : List Int)).bind fun ms3 => (Option.bind (impl_matrixBy_L4 F p1_n m_p2_entry ms3 F ms3 0) fun ms478 => some ms478))

def impl_bottomMatrix_c1 (_F : Nat) (_p0 : Int) (_p1 : Int) : Option (Int) :=
  some (-1000000000000000)

def impl_bottomMatrix (F : Nat) (p0_m : Int) (p1_n : Int) : Option (List (List Int)) :=
  ((impl_matrixBy F p0_m p1_n (fun x0 x1 => impl_bottomMatrix_c1 F x0 x1)).bind fun r1 => some r1)

def impl_bondMatrix_L1 (F : Nat) (p1_bonds : List GBond) : Nat → (List (List Int)) → Int → Option (List (List Int))
  | 0, _, _ => none
  | n91 + 1, ms59, x61 => (bif (decide (x61 < (p1_bonds.length : Int))) then ((idx p1_bonds x61).bind fun q93 => ((idx ms59 q93.To).bind fun q96 => ((idx ms59 q93.To).bind fun q101 => ((idx q101 q93.From).bind fun q106 => ((idx q96 q93.From).bind fun _q108 => ((upd q96 q93.From (max q106 q93.Least)).bind fun xs110 => ((upd ms59 q93.To xs110).bind fun ms111 => (impl_bondMatrix_L1 F p1_bonds n91 ms111 (IntKind.i64.wrap (x61 + 1)))))))))) else some ms59)

def impl_bondMatrix (F : Nat) (p0_windows : List GWindow) (p1_bonds : List GBond) : Option (List (List Int)) :=
  ((impl_bottomMatrix F (p0_windows.length : Int) (p0_windows.length : Int)).bind fun r1 => (Option.bind (impl_bondMatrix_L1 F p1_bonds F r1 0) fun ms86 => some ms86))

def impl_unitMatrix_c1 (_F : Nat) (p0_i : Int) (p1_j : Int) : Option (Int) :=
  (bif (p0_i == p1_j) then some 0 else some (-1000000000000000))

def impl_unitMatrix (F : Nat) (p0_n : Int) : Option (List (List Int)) :=
  ((impl_matrixBy F p0_n p0_n (fun x0 x1 => impl_unitMatrix_c1 F x0 x1)).bind fun r1 => some r1)

def impl_addMatrices_c1 (_F : Nat) (p0_i : Int) (p1_j : Int) (z0 : List (List Int)) (z1 : List (List Int)) : Option (Int) :=
  ((idx z0 p0_i).bind fun q1 => ((idx q1 p1_j).bind fun q10 => ((idx z1 p0_i).bind fun q12 => ((idx q12 p1_j).bind fun q21 => some (max q10 q21)))))

def impl_addMatrices (F : Nat) (p0_a : List (List Int)) (p1_b : List (List Int)) : Option (List (List Int)) :=
  ((idx p0_a 0).bind fun q3 => ((impl_matrixBy F (p0_a.length : Int) (q3.length : Int) (fun x0 x1 => impl_addMatrices_c1 F x0 x1 p0_a p1_b)).bind fun r12 => some r12))

def impl_times (_F : Nat) (p0_a : Int) (p1_b : Int) : Option (Int) :=
  (Option.bind ((bif (p0_a == (-1000000000000000)) then some true else some (p1_b == (-1000000000000000))) : Option (Bool)) fun b2 => (bif b2 then some (-1000000000000000) else some (IntKind.i64.wrap (p0_a + p1_b))))

def impl_starOf_L21 (F : Nat) (x2502 : Int) (ms4373 : List (List Int)) (x4375 : Int) : Nat → (List (List Int)) → Int → Option (List (List Int))
  | 0, _, _ => none
  | n4918 + 1, ms4837, x4839 => (bif (decide (x4839 < (ms4373.length : Int))) then ((idx ms4837 x4375).bind fun q4956 => ((idx ms4837 x4375).bind fun q4961 => ((idx q4961 x4839).bind fun q4966 => ((idx ms4837 x4375).bind fun q4968 => ((idx q4968 x2502).bind fun q4973 => ((idx ms4837 x2502).bind fun q4975 => ((idx q4975 x4839).bind fun q4980 => ((impl_times F q4973 q4980).bind fun r4982 => ((idx q4956 x4839).bind fun _q4984 => ((upd q4956 x4839 (max q4966 r4982)).bind fun xs4986 => ((upd ms4837 x4375 xs4986).bind fun ms4987 => (impl_starOf_L21 F x2502 ms4373 x4375 n4918 ms4987 (IntKind.i64.wrap (x4839 + 1)))))))))))))) else some ms4837)

def impl_starOf_L20 (F : Nat) (ms2500 : List (List Int)) (x2502 : Int) : Nat → (List (List Int)) → Int → Option (List (List Int))
  | 0, _, _ => none
  | n4686 + 1, ms4373, x4375 => (bif (decide (x4375 < (ms2500.length : Int))) then (Option.bind (impl_starOf_L21 F x2502 ms4373 x4375 F ms4373 0) fun ms4913 => (impl_starOf_L20 F ms2500 x2502 n4686 ms4913 (IntKind.i64.wrap (x4375 + 1)))) else some ms4373)

def impl_starOf_L16 (F : Nat) (r8 : List (List Int)) : Nat → (List (List Int)) → Int → Option (Sum (List (List Int) × Bool) (List (List Int)))
  | 0, _, _ => none
  | n3749 + 1, ms2500, x2502 => (bif (decide (x2502 < (r8.length : Int))) then ((idx ms2500 x2502).bind fun q3751 => ((idx q3751 x2502).bind fun q3756 => (bif (decide (0 < q3756)) then some (Sum.inl (([] : List (List Int)), false)) else (Option.bind (impl_starOf_L20 F ms2500 x2502 F ms2500 0) fun ms4681 => (impl_starOf_L16 F r8 n3749 ms4681 (IntKind.i64.wrap (x2502 + 1))))))) else some (Sum.inr ms2500))

def impl_starOf_L22 (F : Nat) (ms3744 : List (List Int)) : Nat → Int → Option (Sum (List (List Int) × Bool) (Unit))
  | 0, _ => none
  | n5024 + 1, x5011 => (bif (decide (x5011 < (ms3744.length : Int))) then ((idx ms3744 x5011).bind fun q5026 => ((idx q5026 x5011).bind fun q5031 => (bif (decide (0 < q5031)) then some (Sum.inl (([] : List (List Int)), false)) else (impl_starOf_L22 F ms3744 n5024 (IntKind.i64.wrap (x5011 + 1)))))) else some (Sum.inr ()))

def impl_starOf (F : Nat) (p0 : List (List Int)) : Option (List (List Int) × Bool) :=
  ((impl_unitMatrix F (p0.length : Int)).bind fun r1 => ((impl_addMatrices F p0 r1).bind fun r8 => (Option.bind (impl_starOf_L16 F r8 F r8 0) fun r3746 => match r3746 with | .inl x_ => some x_ | .inr ms3744 => (Option.bind (impl_starOf_L22 F ms3744 F 0) fun r5021 => match r5021 with | .inl x_ => some x_ | .inr _ => some (ms3744, true)))))

def impl_timesVector_L5 (F : Nat) (p1_x : List Int) (x245 : Int) (q371 : List Int) : Nat → (List Int) → Int → Option (List Int)
  | 0, _, _ => none
  | n464 + 1, xs433, x435 => (bif (decide (x435 < (q371.length : Int))) then ((idx q371 x435).bind fun q466 => ((idx xs433 x245).bind fun q478 => ((idx p1_x x435).bind fun q480 => ((impl_times F q466 q480).bind fun r482 => ((idx xs433 x245).bind fun _q484 => ((upd xs433 x245 (max q478 r482)).bind fun xs486 => (impl_timesVector_L5 F p1_x x245 q371 n464 xs486 (IntKind.i64.wrap (x435 + 1))))))))) else some xs433)

def impl_timesVector_L4 (F : Nat) (p0_a : List (List Int)) (p1_x : List Int) : Nat → (List Int) → Int → Option (List Int)
  | 0, _, _ => none
  | n369 + 1, xs243, x245 => (bif (decide (x245 < (p0_a.length : Int))) then ((idx p0_a x245).bind fun q371 => ((idx xs243 x245).bind fun _q380 => ((upd xs243 x245 (-1000000000000000)).bind fun xs382 => (Option.bind (impl_timesVector_L5 F p1_x x245 q371 F xs382 0) fun xs459 => (impl_timesVector_L4 F p0_a p1_x n369 xs459 (IntKind.i64.wrap (x245 + 1))))))) else some xs243)

def impl_timesVector (F : Nat) (p0_a : List (List Int)) (p1_x : List Int) : Option (List Int) :=
  ((mk (p0_a.length : Int) (0 : Int)).bind fun xs3 => (Option.bind (impl_timesVector_L4 F p0_a p1_x F xs3 0) fun xs364 => some xs364))

def impl_transposed_c1 (_F : Nat) (p0_i : Int) (p1_j : Int) (z0 : List (List Int)) : Option (Int) :=
  ((idx z0 p1_j).bind fun q1 => ((idx q1 p0_i).bind fun q10 => some q10))

def impl_transposed (F : Nat) (p0_a : List (List Int)) : Option (List (List Int)) :=
  ((idx p0_a 0).bind fun q2 => ((impl_matrixBy F (q2.length : Int) (p0_a.length : Int) (fun x0 x1 => impl_transposed_c1 F x0 x1 p0_a)).bind fun r11 => some r11))

def impl_solveTask_L1 (F : Nat) (p0 : List GWindow) : Nat → (List Int) → (List Int) → Int → Option ((List Int) × (List Int))
  | 0, _, _, _ => none
  | n402 + 1, xs269, xs275, x280 => (bif (decide (x280 < (p0.length : Int))) then ((idx p0 x280).bind fun q404 => (Option.bind (((app xs269 ([q404.Low])).bind fun xs481 => ((app xs275 ([(IntKind.i64.wrap (0 - q404.High))])).bind fun xs487 => some (xs481, xs487))) : Option ((List Int) × (List Int))) fun (xs453, xs458) => (impl_solveTask_L1 F p0 n402 xs453 xs458 (IntKind.i64.wrap (x280 + 1))))) else some (xs269, xs275))

def impl_solveTask_L2 (F : Nat) (p0 : List GWindow) (r511 : List Int) : Nat → (List Int) → Int → Option (Sum (List Int × List Int × Int) (List Int))
  | 0, _, _ => none
  | n580 + 1, xs559, x561 => (bif (decide (x561 < (p0.length : Int))) then ((idx p0 x561).bind fun q582 => ((idx xs559 x561).bind fun q585 => ((idx xs559 x561).bind fun _q587 => ((upd xs559 x561 (IntKind.i64.wrap (0 - q585))).bind fun xs589 => ((idx r511 x561).bind fun q591 => (bif (decide (q582.High < q591)) then some (Sum.inl (([] : List Int), ([] : List Int), 4)) else (impl_solveTask_L2 F p0 r511 n580 xs589 (IntKind.i64.wrap (x561 + 1))))))))) else some (Sum.inr xs559))

def impl_solveTask (F : Nat) (p0 : List GWindow) (p1 : List GBond) : Option (List Int × List Int × Int) :=
  ((impl_IsTask F p0 p1).bind fun r1 => (bif (!r1) then some (([] : List Int), ([] : List Int), 1) else ((impl_bondMatrix F p0 p1).bind fun r6 => ((impl_starOf F r6).bind fun r13 => (bif (!r13.2) then some (([] : List Int), ([] : List Int), 4) else (Option.bind (impl_solveTask_L1 F p0 F ([] : List Int) ([] : List Int) 0) fun (xs389, xs394) => ((impl_timesVector F r13.1 xs389).bind fun r511 => ((impl_transposed F r13.1).bind fun r517 => ((impl_timesVector F r517 xs394).bind fun r524 => (Option.bind (impl_solveTask_L2 F p0 r511 F r524 0) fun r577 => match r577 with | .inl x_ => some x_ | .inr xs575 => some (r511, xs575, 0)))))))))))

def impl_EarliestTimes (F : Nat) (p0_windows : List GWindow) (p1_bonds : List GBond) : Option (List Int × Int) :=
  ((impl_solveTask F p0_windows p1_bonds).bind fun r1 => some (r1.1, r1.2.2))

def spec_l01In (_F : Nat) (p0_n : Int) (p1_low : Int) (p2_high : Int) : Option (Bool) :=
  (Option.bind ((bif (decide (p1_low ≤ p0_n)) then some (decide (p0_n ≤ p2_high)) else some false) : Option (Bool)) fun b2 => some b2)

def spec_l01Finite (F : Nat) (p0_a : Int) : Option (Bool) :=
  ((spec_l01In F p0_a (-1000000) 1000000).bind fun r1 => some r1)

def spec_IsTask_L1 (F : Nat) (p0 : List GWindow) : Nat → Int → Option (Sum Bool (Unit))
  | 0, _ => none
  | n91 + 1, x62 => (bif (decide (x62 < (p0.length : Int))) then (Option.bind (((idx p0 x62).bind fun q106 => (bif (decide (q106.Low < 0)) then some true else ((idx p0 x62).bind fun q109 => (bif (decide (1000000 < q109.High)) then some true else ((idx p0 x62).bind fun q112 => ((idx p0 x62).bind fun q114 => some (decide (q114.High < q112.Low)))))))) : Option (Bool)) fun b103 => (bif b103 then some (Sum.inl false) else (spec_IsTask_L1 F p0 n91 (IntKind.i64.wrap (x62 + 1))))) else some (Sum.inr ()))

def spec_IsTask_L2 (F : Nat) (p0 : List GWindow) (p1 : List GBond) : Nat → Int → Option (Sum Bool (Unit))
  | 0, _ => none
  | n221 + 1, x184 => (bif (decide (x184 < (p1.length : Int))) then (Option.bind (((idx p1 x184).bind fun q240 => ((spec_l01In F q240.From 0 (IntKind.i64.wrap ((p0.length : Int) - 1))).bind fun r242 => (bif (!r242) then some true else ((idx p1 x184).bind fun q245 => ((spec_l01In F q245.To 0 (IntKind.i64.wrap ((p0.length : Int) - 1))).bind fun r247 => (bif (!r247) then some true else ((idx p1 x184).bind fun q250 => ((spec_l01Finite F q250.Least).bind fun r252 => some (!r252))))))))) : Option (Bool)) fun b237 => (bif b237 then some (Sum.inl false) else (spec_IsTask_L2 F p0 p1 n221 (IntKind.i64.wrap (x184 + 1))))) else some (Sum.inr ()))

def spec_IsTask (F : Nat) (p0 : List GWindow) (p1 : List GBond) : Option (Bool) :=
  (Option.bind (((spec_l01In F (p0.length : Int) 1 10).bind fun r7 => (bif (!r7) then some true else some (decide (30 < (p1.length : Int))))) : Option (Bool)) fun b4 => (bif b4 then some false else (Option.bind (spec_IsTask_L1 F p0 F 0) fun r88 => match r88 with | .inl x_ => some x_ | .inr _ => (Option.bind (spec_IsTask_L2 F p0 p1 F 0) fun r218 => match r218 with | .inl x_ => some x_ | .inr _ => some true))))

def spec_l02Bottom_L5 (F : Nat) (p1_n : Int) : Nat → (List Int) → Int → Option (List Int)
  | 0, _, _ => none
  | n252 + 1, xs231, x236 => (bif (decide (x236 < p1_n)) then ((app xs231 ([(-1000000000000000)])).bind fun xs258 => (spec_l02Bottom_L5 F p1_n n252 xs258 (IntKind.i64.wrap (x236 + 1)))) else some xs231)

def spec_l02Bottom_L4 (F : Nat) (p0_m : Int) (p1_n : Int) : Nat → (List (List Int)) → Int → Option (List (List Int))
  | 0, _, _ => none
  | n207 + 1, ms131, x137 => (bif (decide (x137 < p0_m)) then (Option.bind (spec_l02Bottom_L5 F p1_n F ([] : List Int) 0) fun xs244 => ((app ms131 ([xs244])).bind fun ms264 => (spec_l02Bottom_L4 F p0_m p1_n n207 ms264 (IntKind.i64.wrap (x137 + 1))))) else some ms131)

def spec_l02Bottom (F : Nat) (p0_m : Int) (p1_n : Int) : Option (List (List Int)) :=
  (Option.bind (spec_l02Bottom_L4 F p0_m p1_n F [] 0) fun ms198 => some ms198)

def spec_l23Matrix_L1 (F : Nat) (p1_bonds : List GBond) : Nat → (List (List Int)) → Int → Option (List (List Int))
  | 0, _, _ => none
  | n91 + 1, ms59, x61 => (bif (decide (x61 < (p1_bonds.length : Int))) then ((idx p1_bonds x61).bind fun q93 => ((idx ms59 q93.To).bind fun q96 => ((idx ms59 q93.To).bind fun q101 => ((idx q101 q93.From).bind fun q106 => ((idx q96 q93.From).bind fun _q108 => ((upd q96 q93.From (max q106 q93.Least)).bind fun xs110 => ((upd ms59 q93.To xs110).bind fun ms111 => (spec_l23Matrix_L1 F p1_bonds n91 ms111 (IntKind.i64.wrap (x61 + 1)))))))))) else some ms59)

def spec_l23Matrix (F : Nat) (p0_n : Int) (p1_bonds : List GBond) : Option (List (List Int)) :=
  ((spec_l02Bottom F p0_n p0_n).bind fun r1 => (Option.bind (spec_l23Matrix_L1 F p1_bonds F r1 0) fun ms86 => some ms86))

def spec_l02Unit_L1 (F : Nat) (p0_n : Int) : Nat → (List (List Int)) → Int → Option (List (List Int))
  | 0, _, _ => none
  | n61 + 1, ms39, x41 => (bif (decide (x41 < p0_n)) then ((idx ms39 x41).bind fun q63 => ((idx q63 x41).bind fun _q68 => ((upd q63 x41 0).bind fun xs70 => ((upd ms39 x41 xs70).bind fun ms71 => (spec_l02Unit_L1 F p0_n n61 ms71 (IntKind.i64.wrap (x41 + 1))))))) else some ms39)

def spec_l02Unit (F : Nat) (p0_n : Int) : Option (List (List Int)) :=
  ((spec_l02Bottom F p0_n p0_n).bind fun r1 => (Option.bind (spec_l02Unit_L1 F p0_n F r1 0) fun ms56 => some ms56))

def spec_l01Times (_F : Nat) (p0_a : Int) (p1_b : Int) : Option (Int) :=
  (Option.bind ((bif (p0_a == (-1000000000000000)) then some true else some (p1_b == (-1000000000000000))) : Option (Bool)) fun b2 => (bif b2 then some (-1000000000000000) else some (IntKind.i64.wrap (p0_a + p1_b))))

def spec_l02Multiply_L21 (F : Nat) (p0 : List (List Int)) (p1 : List (List Int)) (x3072 : Int) (x5366 : Int) : Nat → (List (List Int)) → Int → Option (List (List Int))
  | 0, _, _ => none
  | n6039 + 1, ms5942, x5944 => (bif (decide (x5944 < (p1.length : Int))) then ((idx ms5942 x3072).bind fun q6085 => ((idx ms5942 x3072).bind fun q6090 => ((idx q6090 x5366).bind fun q6095 => ((idx p0 x3072).bind fun q6097 => ((idx q6097 x5944).bind fun q6106 => ((idx p1 x5944).bind fun q6108 => ((idx q6108 x5366).bind fun q6117 => ((spec_l01Times F q6106 q6117).bind fun r6119 => ((idx q6085 x5366).bind fun _q6121 => ((upd q6085 x5366 (max q6095 r6119)).bind fun xs6123 => ((upd ms5942 x3072 xs6123).bind fun ms6124 => (spec_l02Multiply_L21 F p0 p1 x3072 x5366 n6039 ms6124 (IntKind.i64.wrap (x5944 + 1)))))))))))))) else some ms5942)

def spec_l02Multiply_L20 (F : Nat) (p0 : List (List Int)) (p1 : List (List Int)) (x3072 : Int) : Nat → (List (List Int)) → Int → Option (List (List Int))
  | 0, _, _ => none
  | n5750 + 1, ms5364, x5366 => ((idx p1 0).bind fun q5751 => (bif (decide (x5366 < (q5751.length : Int))) then (Option.bind (spec_l02Multiply_L21 F p0 p1 x3072 x5366 F ms5364 0) fun ms6034 => (spec_l02Multiply_L20 F p0 p1 x3072 n5750 ms6034 (IntKind.i64.wrap (x5366 + 1)))) else some ms5364))

def spec_l02Multiply_L16 (F : Nat) (p0 : List (List Int)) (p1 : List (List Int)) : Nat → (List (List Int)) → Int → Option (List (List Int))
  | 0, _, _ => none
  | n4603 + 1, ms3070, x3072 => (bif (decide (x3072 < (p0.length : Int))) then (Option.bind (spec_l02Multiply_L20 F p0 p1 x3072 F ms3070 0) fun ms5745 => (spec_l02Multiply_L16 F p0 p1 n4603 ms5745 (IntKind.i64.wrap (x3072 + 1)))) else some ms3070)

def spec_l02Multiply (F : Nat) (p0 : List (List Int)) (p1 : List (List Int)) : Option (List (List Int)) :=
  ((idx p1 0).bind fun q1 => ((spec_l02Bottom F (p0.length : Int) (q1.length : Int)).bind fun r10 => (Option.bind (spec_l02Multiply_L16 F p0 p1 F r10 0) fun ms4598 => some ms4598)))

def spec_l01Own (_F : Nat) (p0_list : List Int) : Option (List Int) :=
  ((app ([] : List Int) p0_list).bind fun xs5 => some xs5)

def spec_l02Own_L1 (F : Nat) (p0_a : List (List Int)) : Nat → (List (List Int)) → Int → Option (List (List Int))
  | 0, _, _ => none
  | n99 + 1, ms59, x65 => (bif (decide (x65 < (p0_a.length : Int))) then ((idx p0_a x65).bind fun q101 => ((spec_l01Own F q101).bind fun r110 => ((app ms59 ([r110])).bind fun ms120 => (spec_l02Own_L1 F p0_a n99 ms120 (IntKind.i64.wrap (x65 + 1)))))) else some ms59)

def spec_l02Own (F : Nat) (p0_a : List (List Int)) : Option (List (List Int)) :=
  (Option.bind (spec_l02Own_L1 F p0_a F [] 0) fun ms90 => some ms90)

def spec_l02Add_L5 (F : Nat) (p1_b : List (List Int)) (x335 : Int) : Nat → (List (List Int)) → Int → Option (List (List Int))
  | 0, _, _ => none
  | n626 + 1, ms581, x583 => ((idx ms581 x335).bind fun q627 => (bif (decide (x583 < (q627.length : Int))) then ((idx ms581 x335).bind fun q633 => ((idx ms581 x335).bind fun q638 => ((idx q638 x583).bind fun q643 => ((idx p1_b x335).bind fun q645 => ((idx q645 x583).bind fun q654 => ((idx q633 x583).bind fun _q656 => ((upd q633 x583 (max q643 q654)).bind fun xs658 => ((upd ms581 x335 xs658).bind fun ms659 => (spec_l02Add_L5 F p1_b x335 n626 ms659 (IntKind.i64.wrap (x583 + 1))))))))))) else some ms581))

def spec_l02Add_L4 (F : Nat) (p1_b : List (List Int)) : Nat → (List (List Int)) → Int → Option (List (List Int))
  | 0, _, _ => none
  | n502 + 1, ms333, x335 => (bif (decide (x335 < (ms333.length : Int))) then (Option.bind (spec_l02Add_L5 F p1_b x335 F ms333 0) fun ms621 => (spec_l02Add_L4 F p1_b n502 ms621 (IntKind.i64.wrap (x335 + 1)))) else some ms333)

def spec_l02Add (F : Nat) (p0_a : List (List Int)) (p1_b : List (List Int)) : Option (List (List Int)) :=
  ((spec_l02Own F p0_a).bind fun r1 => (Option.bind (spec_l02Add_L4 F p1_b F r1 0) fun ms497 => some ms497))

def spec_l01Same_L1 (F : Nat) (p0_a : List Int) (p1_b : List Int) : Nat → Int → Option (Sum Bool (Unit))
  | 0, _ => none
  | n25 + 1, x15 => (bif (decide (x15 < (p0_a.length : Int))) then ((idx p0_a x15).bind fun q27 => ((idx p1_b x15).bind fun q29 => (bif (q27 != q29) then some (Sum.inl false) else (spec_l01Same_L1 F p0_a p1_b n25 (IntKind.i64.wrap (x15 + 1)))))) else some (Sum.inr ()))

def spec_l01Same (F : Nat) (p0_a : List Int) (p1_b : List Int) : Option (Bool) :=
  (bif ((p0_a.length : Int) != (p1_b.length : Int)) then some false else (Option.bind (spec_l01Same_L1 F p0_a p1_b F 0) fun r22 => match r22 with | .inl x_ => some x_ | .inr _ => some true))

def spec_l02Same_L1 (F : Nat) (p0_a : List (List Int)) (p1_b : List (List Int)) : Nat → Int → Option (Sum Bool (Unit))
  | 0, _ => none
  | n73 + 1, x47 => (bif (decide (x47 < (p0_a.length : Int))) then ((idx p0_a x47).bind fun q75 => ((idx p1_b x47).bind fun q84 => ((spec_l01Same F q75 q84).bind fun r93 => (bif (!r93) then some (Sum.inl false) else (spec_l02Same_L1 F p0_a p1_b n73 (IntKind.i64.wrap (x47 + 1))))))) else some (Sum.inr ()))

def spec_l02Same (F : Nat) (p0_a : List (List Int)) (p1_b : List (List Int)) : Option (Bool) :=
  (bif ((p0_a.length : Int) != (p1_b.length : Int)) then some false else (Option.bind (spec_l02Same_L1 F p0_a p1_b F 0) fun r70 => match r70 with | .inl x_ => some x_ | .inr _ => some true))

def spec_l03Star_L1 (F : Nat) (p0_a : List (List Int)) : Nat → (List (List Int)) → Int → Option (List (List Int))
  | 0, _, _ => none
  | n97 + 1, ms59, x65 => (bif (decide (x65 < (p0_a.length : Int))) then ((spec_l02Unit F (p0_a.length : Int)).bind fun r99 => ((spec_l02Multiply F p0_a ms59).bind fun r106 => ((spec_l02Add F r99 r106).bind fun r113 => (spec_l03Star_L1 F p0_a n97 r113 (IntKind.i64.wrap (x65 + 1)))))) else some ms59)

def spec_l03Star (F : Nat) (p0_a : List (List Int)) : Option (List (List Int) × Bool) :=
  ((spec_l02Unit F (p0_a.length : Int)).bind fun r1 => (Option.bind (spec_l03Star_L1 F p0_a F r1 0) fun ms88 => ((spec_l02Unit F (p0_a.length : Int)).bind fun r120 => ((spec_l02Multiply F p0_a ms88).bind fun r127 => ((spec_l02Add F r120 r127).bind fun r134 => ((spec_l02Same F r134 ms88).bind fun r141 => some (ms88, r141)))))))

def spec_l02Apply_L5 (F : Nat) (p0_a : List (List Int)) (p1_x : List Int) (x174 : Int) : Nat → Int → Int → Option (Int)
  | 0, _, _ => none
  | n321 + 1, x299, x300 => (bif (decide (x300 < (p1_x.length : Int))) then ((idx p0_a x174).bind fun q323 => ((idx q323 x300).bind fun q332 => ((idx p1_x x300).bind fun q334 => ((spec_l01Times F q332 q334).bind fun r336 => (spec_l02Apply_L5 F p0_a p1_x x174 n321 (max x299 r336) (IntKind.i64.wrap (x300 + 1))))))) else some x299)

def spec_l02Apply_L4 (F : Nat) (p0_a : List (List Int)) (p1_x : List Int) : Nat → (List Int) → Int → Option (List Int)
  | 0, _, _ => none
  | n263 + 1, xs169, x174 => (bif (decide (x174 < (p0_a.length : Int))) then (Option.bind (spec_l02Apply_L5 F p0_a p1_x x174 F (-1000000000000000) 0) fun x317 => ((app xs169 ([x317])).bind fun xs342 => (spec_l02Apply_L4 F p0_a p1_x n263 xs342 (IntKind.i64.wrap (x174 + 1))))) else some xs169)

def spec_l02Apply (F : Nat) (p0_a : List (List Int)) (p1_x : List Int) : Option (List Int) :=
  (Option.bind (spec_l02Apply_L4 F p0_a p1_x F ([] : List Int) 0) fun xs255 => some xs255)

def spec_l08Sub_L5 (F : Nat) (p0_a : List (List Int)) (p1_b : List Int) (x924 : Int) : Nat → Int → Bool → Int → Option (Int)
  | 0, _, _, _ => none
  | n1730 + 1, x1616, b1617, x1618 => (bif (decide (x1618 < (p0_a.length : Int))) then (Option.bind (((idx p0_a x1618).bind fun q1787 => ((idx q1787 x924).bind fun q1796 => (bif (q1796 == (-1000000000000000)) then some (x1616, b1617) else ((idx p1_b x1618).bind fun q1799 => (Option.bind ((bif (q1799 != (-1000000000000000)) then ((idx p1_b x1618).bind fun q1819 => ((idx p0_a x1618).bind fun q1821 => ((idx q1821 x924).bind fun q1830 => some (IntKind.i64.wrap (q1819 - q1830))))) else some (-1000000000000000)) : Option (Int)) fun x1815 => (Option.bind ((bif (!b1617) then some true else some (decide (x1815 < x1616))) : Option (Bool)) fun b1833 => (bif b1833 then some (x1815, true) else some (x1616, b1617)))))))) : Option (Int × Bool)) fun (x1783, b1784) => (spec_l08Sub_L5 F p0_a p1_b x924 n1730 x1783 b1784 (IntKind.i64.wrap (x1618 + 1)))) else some x1616)

def spec_l08Sub_L4 (F : Nat) (p0_a : List (List Int)) (p1_b : List Int) : Nat → (List Int) → Int → Option (List Int)
  | 0, _, _ => none
  | n1388 + 1, xs919, x924 => ((idx p0_a 0).bind fun q1389 => (bif (decide (x924 < (q1389.length : Int))) then (Option.bind (spec_l08Sub_L5 F p0_a p1_b x924 F 0 false 0) fun x1726 => ((app xs919 ([x1726])).bind fun xs1842 => (spec_l08Sub_L4 F p0_a p1_b n1388 xs1842 (IntKind.i64.wrap (x924 + 1))))) else some xs919))

def spec_l08Sub (F : Nat) (p0_a : List (List Int)) (p1_b : List Int) : Option (List Int) :=
  (Option.bind (spec_l08Sub_L4 F p0_a p1_b F ([] : List Int) 0) fun xs1380 => some xs1380)

def spec_l23Solve_L1 (F : Nat) (p0 : List GWindow) : Nat → (List Int) → (List Int) → Int → Option ((List Int) × (List Int))
  | 0, _, _, _ => none
  | n107 + 1, xs66, xs71, x76 => (bif (decide (x76 < (p0.length : Int))) then ((idx p0 x76).bind fun q109 => ((app xs66 ([q109.Low])).bind fun xs115 => ((idx p0 x76).bind fun q117 => ((app xs71 ([q117.High])).bind fun xs123 => (spec_l23Solve_L1 F p0 n107 xs115 xs123 (IntKind.i64.wrap (x76 + 1))))))) else some (xs66, xs71))

def spec_l23Solve_L2 (F : Nat) (xs94 : List Int) (xs99 : List Int) (xs138 : List Int) : Nat → Int → Option (Sum (List Int) (Unit))
  | 0, _ => none
  | n226 + 1, x199 => (bif (decide (x199 < (xs138.length : Int))) then (Option.bind (((idx xs138 x199).bind fun q240 => ((idx xs94 x199).bind fun q242 => (bif (decide (q240 < q242)) then some true else ((idx xs138 x199).bind fun q245 => ((idx xs99 x199).bind fun q247 => some (decide (q247 < q245))))))) : Option (Bool)) fun b237 => (bif b237 then some (Sum.inl ([] : List Int)) else (spec_l23Solve_L2 F xs94 xs99 xs138 n226 (IntKind.i64.wrap (x199 + 1))))) else some (Sum.inr ()))

def spec_l23Solve (F : Nat) (p0 : List GWindow) (p1 : List GBond) (p2 : Bool) : Option (List Int) :=
  ((spec_l23Matrix F (p0.length : Int) p1).bind fun r1 => ((spec_l03Star F r1).bind fun r8 => (bif (!r8.2) then some ([] : List Int) else (Option.bind (spec_l23Solve_L1 F p0 F ([] : List Int) ([] : List Int) 0) fun (xs94, xs99) => ((spec_l02Apply F r8.1 xs94).bind fun r125 => (Option.bind ((bif (!p2) then ((spec_l08Sub F r8.1 xs99).bind fun r146 => some r146) else some r125) : Option (List Int)) fun xs138 => (Option.bind (spec_l23Solve_L2 F xs94 xs99 xs138 F 0) fun r223 => match r223 with | .inl x_ => some x_ | .inr _ => some xs138)))))))

def spec_l23Code (F : Nat) (p0_windows : List GWindow) (p1_bonds : List GBond) (p2_least : Bool) : Option (List Int × Int) :=
  ((spec_IsTask F p0_windows p1_bonds).bind fun r1 => (bif (!r1) then some (([] : List Int), 1) else ((spec_l23Solve F p0_windows p1_bonds p2_least).bind fun r5 => (bif ((r5.length : Int) == 0) then some (([] : List Int), 4) else some (r5, 0)))))

def spec_EarliestTimes (F : Nat) (p0_windows : List GWindow) (p1_bonds : List GBond) : Option (List Int × Int) :=
  ((spec_l23Code F p0_windows p1_bonds true).bind fun r1 => some (r1.1, r1.2))

def impl_LatestIn (F : Nat) (p0_windows : List GWindow) (p1_bonds : List GBond) : Option (List Int × Int) :=
  ((impl_solveTask F p0_windows p1_bonds).bind fun r1 => some (r1.2.1, r1.2.2))

def spec_LatestIn (F : Nat) (p0_windows : List GWindow) (p1_bonds : List GBond) : Option (List Int × Int) :=
  ((spec_l23Code F p0_windows p1_bonds false).bind fun r1 => some (r1.1, r1.2))

def impl_TightWindows_L1 (F : Nat) (r1 : List Int × List Int × Int) (xs15 : List GWindow) : Nat → (List GWindow) → Int → Option (List GWindow)
  | 0, _, _ => none
  | n54 + 1, xs37, x39 => (bif (decide (x39 < (xs15.length : Int))) then ((idx r1.1 x39).bind fun q56 => ((idx r1.2.1 x39).bind fun q58 => ((idx xs37 x39).bind fun _q60 => ((upd xs37 x39 (GWindow.mk q56 q58)).bind fun xs62 => (impl_TightWindows_L1 F r1 xs15 n54 xs62 (IntKind.i64.wrap (x39 + 1))))))) else some xs37)

def impl_TightWindows (F : Nat) (p0_windows : List GWindow) (p1_bonds : List GBond) : Option (List GWindow × Int) :=
  ((impl_solveTask F p0_windows p1_bonds).bind fun r1 => (bif (r1.2.2 != 0) then some (([] : List GWindow), r1.2.2) else ((mk (p0_windows.length : Int) ((GWindow.mk 0 0) : GWindow)).bind fun xs15 => (Option.bind (impl_TightWindows_L1 F r1 xs15 F xs15 0) fun xs49 => some (xs49, 0)))))

def spec_TightWindows_L1 (F : Nat) (r1 : List Int × Int) (r9 : List Int) : Nat → (List GWindow) → Int → Option (List GWindow)
  | 0, _, _ => none
  | n70 + 1, xs45, x50 => (bif (decide (x50 < (r1.1.length : Int))) then ((idx r1.1 x50).bind fun q72 => ((idx r9 x50).bind fun q74 => ((app xs45 ([(GWindow.mk q72 q74)])).bind fun xs80 => (spec_TightWindows_L1 F r1 r9 n70 xs80 (IntKind.i64.wrap (x50 + 1)))))) else some xs45)

def spec_TightWindows (F : Nat) (p0_windows : List GWindow) (p1_bonds : List GBond) : Option (List GWindow × Int) :=
  ((spec_l23Code F p0_windows p1_bonds true).bind fun r1 => (bif (r1.2 != 0) then some (([] : List GWindow), r1.2) else ((spec_l23Solve F p0_windows p1_bonds false).bind fun r9 => (Option.bind (spec_TightWindows_L1 F r1 r9 F ([] : List GWindow) 0) fun xs62 => some (xs62, 0)))))

def spec_l23DrawTimes_L2 (F : Nat) (p0_code : List Int) (r1 : (List GWindow × List GBond) × Int × Int) : Nat → Int → Int → (List Int) → Int → Option (Int × Int × (List Int))
  | 0, _, _, _, _ => none
  | n150 + 1, x123, x124, xs125, x130 => (bif (decide (x130 < (r1.1.1.length : Int))) then ((spec_l01Next F p0_code x123 x124 40).bind fun r152 => ((app xs125 ([r152.1])).bind fun xs158 => (spec_l23DrawTimes_L2 F p0_code r1 n150 r152.2.1 r152.2.2 xs158 (IntKind.i64.wrap (x130 + 1))))) else some (x123, x124, xs125))

def spec_l23DrawTimes (F : Nat) (p0_code : List Int) (p0_at : Int) (p0_seed : Int) : Option ((List GWindow × List GBond × List Int) × Int × Int) :=
  ((spec_l23Draw F p0_code p0_at p0_seed).bind fun r1 => ((spec_l01Next F p0_code r1.2.1 r1.2.2 2).bind fun r11 => ((spec_l23Code F r1.1.1 r1.1.2 (r11.1 == 0)).bind fun r13 => (Option.bind ((bif (r13.2 != 0) then (Option.bind (spec_l23DrawTimes_L2 F p0_code r1 F r11.2.1 r11.2.2 ([] : List Int) 0) fun (x140, x141, xs142) => some (x140, x141, xs142)) else some (r11.2.1, r11.2.2, r13.1)) : Option (Int × Int × (List Int))) fun (x85, x86, xs87) => (Option.bind ((bif (decide (0 < (xs87.length : Int))) then ((spec_l01Next F p0_code x85 x86 8).bind fun r204 => (Option.bind ((bif (r204.1 == 0) then some (r204.1 == 0) else some (r204.1 == 1)) : Option (Bool)) fun b207 => (bif b207 then ((spec_l01Next F p0_code r204.2.1 r204.2.2 (xs87.length : Int)).bind fun r212 => ((idx xs87 r212.1).bind fun q222 => ((spec_l01Next F p0_code r212.2.1 r212.2.2 5).bind fun r224 => ((idx xs87 r212.1).bind fun _q226 => ((upd xs87 r212.1 (IntKind.i64.wrap ((IntKind.i64.wrap (q222 + r224.1)) - 2))).bind fun xs228 => some (r224.2.1, r224.2.2, xs228)))))) else (bif (r204.1 == 2) then ((app xs87 ([0])).bind fun xs235 => some (r204.2.1, r204.2.2, xs235)) else some (r204.2.1, r204.2.2, xs87))))) else some (x85, x86, xs87)) : Option (Int × Int × (List Int))) fun (x194, x195, xs196) => some ((r1.1.1, r1.1.2, xs196), x194, x195))))))

def spec_DrawIsWindowSolution (F : Nat) (p0_code : List Int) : Option (List GWindow × List GBond × List Int) :=
  ((spec_l01From F p0_code).bind fun r1 => ((spec_l23DrawTimes F p0_code r1.1 r1.2).bind fun r4 => some (r4.1.1, r4.1.2.1, r4.1.2.2)))

def impl_IsWindowSolution_c1 (_F : Nat) (p0_b : GBond) (z0 : List Int) : Option (Bool) :=
  ((idx z0 p0_b.To).bind fun q2 => ((idx z0 p0_b.From).bind fun q4 => some (decide (q2 < (IntKind.i64.wrap (q4 + p0_b.Least))))))

def impl_IsWindowSolution_L1 (F : Nat) (p0_windows : List GWindow) (p2_x : List Int) : Nat → Int → Option (Sum Bool (Unit))
  | 0, _ => none
  | n44 + 1, x31 => (bif (decide (x31 < (p0_windows.length : Int))) then ((idx p0_windows x31).bind fun q46 => ((idx p2_x x31).bind fun q49 => ((impl_within F q49 q46.Low q46.High).bind fun r51 => (bif (!r51) then some (Sum.inl false) else (impl_IsWindowSolution_L1 F p0_windows p2_x n44 (IntKind.i64.wrap (x31 + 1))))))) else some (Sum.inr ()))

def impl_IsWindowSolution (F : Nat) (p0_windows : List GWindow) (p1_bonds : List GBond) (p2_x : List Int) : Option (Bool) :=
  (Option.bind (((impl_IsTask F p0_windows p1_bonds).bind fun r8 => (bif (!r8) then some true else some ((p2_x.length : Int) != (p0_windows.length : Int)))) : Option (Bool)) fun b5 => (bif b5 then some false else (Option.bind (impl_IsWindowSolution_L1 F p0_windows p2_x F 0) fun r41 => match r41 with | .inl x_ => some x_ | .inr _ => ((slices_ContainsFunc_Bond F p1_bonds (fun x0 => impl_IsWindowSolution_c1 F x0 p2_x)).bind fun r54 => some (!r54)))))

def impl_allWithin_L1 (F : Nat) (p0_list : List Int) (p1_low : Int) (p2_high : Int) : Nat → Int → Option (Sum Bool (Unit))
  | 0, _ => none
  | n24 + 1, x14 => (bif (decide (x14 < (p0_list.length : Int))) then ((idx p0_list x14).bind fun q26 => ((impl_within F q26 p1_low p2_high).bind fun r28 => (bif (!r28) then some (Sum.inl false) else (impl_allWithin_L1 F p0_list p1_low p2_high n24 (IntKind.i64.wrap (x14 + 1)))))) else some (Sum.inr ()))

def impl_allWithin (F : Nat) (p0_list : List Int) (p1_low : Int) (p2_high : Int) : Option (Bool) :=
  (Option.bind (impl_allWithin_L1 F p0_list p1_low p2_high F 0) fun r21 => match r21 with | .inl x_ => some x_ | .inr _ => some true)

def impl_SlackOfBonds_L1 (F : Nat) (p1_bonds : List GBond) (p2_x : List Int) : Nat → (List Int) → Int → Option (List Int)
  | 0, _, _ => none
  | n66 + 1, xs46, x48 => (bif (decide (x48 < (p1_bonds.length : Int))) then ((idx p1_bonds x48).bind fun q68 => ((idx p2_x q68.To).bind fun q71 => ((idx p2_x q68.From).bind fun q73 => ((idx xs46 x48).bind fun _q75 => ((upd xs46 x48 (IntKind.i64.wrap ((IntKind.i64.wrap (q71 - q73)) - q68.Least))).bind fun xs77 => (impl_SlackOfBonds_L1 F p1_bonds p2_x n66 xs77 (IntKind.i64.wrap (x48 + 1)))))))) else some xs46)

def impl_SlackOfBonds (F : Nat) (p0_windows : List GWindow) (p1_bonds : List GBond) (p2_x : List Int) : Option (List Int × Int) :=
  ((impl_IsTask F p0_windows p1_bonds).bind fun r1 => (bif (!r1) then some (([] : List Int), 1) else (Option.bind ((bif ((p2_x.length : Int) != (p0_windows.length : Int)) then some true else ((impl_allWithin F p2_x 0 1000000).bind fun r12 => some (!r12))) : Option (Bool)) fun b8 => (bif b8 then some (([] : List Int), 2) else ((mk (p1_bonds.length : Int) (0 : Int)).bind fun xs18 => (Option.bind (impl_SlackOfBonds_L1 F p1_bonds p2_x F xs18 0) fun xs61 => some (xs61, 0)))))))

def spec_l01Within_L1 (F : Nat) (p0_list : List Int) (p2_low : Int) (p3_high : Int) : Nat → Int → Option (Sum Bool (Unit))
  | 0, _ => none
  | n24 + 1, x14 => (bif (decide (x14 < (p0_list.length : Int))) then ((idx p0_list x14).bind fun q26 => ((spec_l01In F q26 p2_low p3_high).bind fun r28 => (bif (!r28) then some (Sum.inl false) else (spec_l01Within_L1 F p0_list p2_low p3_high n24 (IntKind.i64.wrap (x14 + 1)))))) else some (Sum.inr ()))

def spec_l01Within (F : Nat) (p0_list : List Int) (p1_most : Int) (p2_low : Int) (p3_high : Int) : Option (Bool) :=
  (Option.bind (spec_l01Within_L1 F p0_list p2_low p3_high F 0) fun r21 => match r21 with | .inl x_ => some x_ | .inr _ => some (decide ((p0_list.length : Int) ≤ p1_most)))

def spec_SlackOfBonds_L1 (F : Nat) (p1_bonds : List GBond) (p2_x : List Int) : Nat → (List Int) → Int → Option (List Int)
  | 0, _, _ => none
  | n89 + 1, xs58, x63 => (bif (decide (x63 < (p1_bonds.length : Int))) then ((idx p1_bonds x63).bind fun q91 => ((idx p2_x q91.To).bind fun q93 => ((idx p1_bonds x63).bind fun q95 => ((idx p2_x q95.From).bind fun q97 => ((idx p1_bonds x63).bind fun q99 => ((app xs58 ([(IntKind.i64.wrap ((IntKind.i64.wrap (q93 - q97)) - q99.Least))])).bind fun xs105 => (spec_SlackOfBonds_L1 F p1_bonds p2_x n89 xs105 (IntKind.i64.wrap (x63 + 1))))))))) else some xs58)

def spec_SlackOfBonds (F : Nat) (p0_windows : List GWindow) (p1_bonds : List GBond) (p2_x : List Int) : Option (List Int × Int) :=
  ((spec_IsTask F p0_windows p1_bonds).bind fun r1 => (bif (!r1) then some (([] : List Int), 1) else (Option.bind ((bif ((p2_x.length : Int) != (p0_windows.length : Int)) then some true else ((spec_l01Within F p2_x 10 0 1000000).bind fun r12 => some (!r12))) : Option (Bool)) fun b8 => (bif b8 then some (([] : List Int), 2) else (Option.bind (spec_SlackOfBonds_L1 F p1_bonds p2_x F ([] : List Int) 0) fun xs81 => some (xs81, 0))))))

def laws_likeInts_L1 (F : Nat) (p0_a : List Int) (p1_b : List Int) : Nat → Int → Option (Sum Bool (Unit))
  | 0, _ => none
  | n25 + 1, x15 => (bif (decide (x15 < (p0_a.length : Int))) then ((idx p0_a x15).bind fun q27 => ((idx p1_b x15).bind fun q29 => (bif (q27 != q29) then some (Sum.inl false) else (laws_likeInts_L1 F p0_a p1_b n25 (IntKind.i64.wrap (x15 + 1)))))) else some (Sum.inr ()))

def laws_likeInts (F : Nat) (p0_a : List Int) (p1_b : List Int) : Option (Bool) :=
  (bif ((p0_a.length : Int) != (p1_b.length : Int)) then some false else (Option.bind (laws_likeInts_L1 F p0_a p1_b F 0) fun r22 => match r22 with | .inl x_ => some x_ | .inr _ => some true))

def spec_IsWindowSolution_L1 (F : Nat) (p0 : List GWindow) (p2 : List Int) : Nat → Int → Option (Sum Bool (Unit))
  | 0, _ => none
  | n46 + 1, x32 => (bif (decide (x32 < (p2.length : Int))) then ((idx p2 x32).bind fun q48 => ((idx p0 x32).bind fun q50 => ((idx p0 x32).bind fun q52 => ((spec_l01In F q48 q50.Low q52.High).bind fun r54 => (bif (!r54) then some (Sum.inl false) else (spec_IsWindowSolution_L1 F p0 p2 n46 (IntKind.i64.wrap (x32 + 1)))))))) else some (Sum.inr ()))

def spec_IsWindowSolution_L2 (F : Nat) (p1 : List GBond) (p2 : List Int) : Nat → Int → Option (Sum Bool (Unit))
  | 0, _ => none
  | n98 + 1, x82 => (bif (decide (x82 < (p1.length : Int))) then ((idx p1 x82).bind fun q100 => ((idx p2 q100.To).bind fun q102 => ((idx p1 x82).bind fun q104 => ((idx p2 q104.From).bind fun q106 => ((idx p1 x82).bind fun q108 => (bif (decide ((IntKind.i64.wrap (q102 - q106)) < q108.Least)) then some (Sum.inl false) else (spec_IsWindowSolution_L2 F p1 p2 n98 (IntKind.i64.wrap (x82 + 1))))))))) else some (Sum.inr ()))

def spec_IsWindowSolution (F : Nat) (p0 : List GWindow) (p1 : List GBond) (p2 : List Int) : Option (Bool) :=
  (Option.bind (((spec_IsTask F p0 p1).bind fun r7 => (bif (!r7) then some true else some ((p2.length : Int) != (p0.length : Int)))) : Option (Bool)) fun b4 => (bif b4 then some false else (Option.bind (spec_IsWindowSolution_L1 F p0 p2 F 0) fun r43 => match r43 with | .inl x_ => some x_ | .inr _ => (Option.bind (spec_IsWindowSolution_L2 F p1 p2 F 0) fun r95 => match r95 with | .inl x_ => some x_ | .inr _ => some true))))

def laws_below9_L1 (F : Nat) (p0_a : List Int) (p1_b : List Int) : Nat → Int → Option (Sum Bool (Unit))
  | 0, _ => none
  | n25 + 1, x15 => (bif (decide (x15 < (p0_a.length : Int))) then ((idx p0_a x15).bind fun q27 => ((idx p1_b x15).bind fun q29 => (bif (decide (q29 < q27)) then some (Sum.inl false) else (laws_below9_L1 F p0_a p1_b n25 (IntKind.i64.wrap (x15 + 1)))))) else some (Sum.inr ()))

def laws_below9 (F : Nat) (p0_a : List Int) (p1_b : List Int) : Option (Bool) :=
  (bif ((p0_a.length : Int) != (p1_b.length : Int)) then some false else (Option.bind (laws_below9_L1 F p0_a p1_b F 0) fun r22 => match r22 with | .inl x_ => some x_ | .inr _ => some true))

def laws_FnTasks_L2 (F : Nat) (r66 : List Int × Int) : Nat → Int → Option (Sum Bool (Unit))
  | 0, _ => none
  | n225 + 1, x217 => (bif (decide (x217 < (r66.1.length : Int))) then ((idx r66.1 x217).bind fun q227 => (bif (decide (q227 < 0)) then some (Sum.inl false) else (laws_FnTasks_L2 F r66 n225 (IntKind.i64.wrap (x217 + 1))))) else some (Sum.inr ()))

def laws_FnTasks_L3 (F : Nat) (r14 : List Int × Int) (r26 : List Int × Int) (r38 : List GWindow × Int) : Nat → Int → Option (Sum Bool (Unit))
  | 0, _ => none
  | n305 + 1, x278 => (bif (decide (x278 < (r38.1.length : Int))) then (Option.bind (((idx r38.1 x278).bind fun q319 => ((idx r14.1 x278).bind fun q321 => (bif (q319.Low != q321) then some true else ((idx r38.1 x278).bind fun q324 => ((idx r26.1 x278).bind fun q326 => some (q324.High != q326)))))) : Option (Bool)) fun b316 => (bif b316 then some (Sum.inl false) else (laws_FnTasks_L3 F r14 r26 r38 n305 (IntKind.i64.wrap (x278 + 1))))) else some (Sum.inr ()))

def laws_FnTasks (F : Nat) (p0 : List Int) : Option (Bool) :=
  ((laws_big F p0).bind fun r1 => (bif r1 then some true else ((spec_DrawTightWindows F p0).bind fun r4 => ((impl_EarliestTimes F r4.1 r4.2).bind fun r14 => ((spec_EarliestTimes F r4.1 r4.2).bind fun r20 => ((impl_LatestIn F r4.1 r4.2).bind fun r26 => ((spec_LatestIn F r4.1 r4.2).bind fun r32 => ((impl_TightWindows F r4.1 r4.2).bind fun r38 => ((spec_TightWindows F r4.1 r4.2).bind fun r44 => ((spec_DrawIsWindowSolution F p0).bind fun r50 => ((impl_IsWindowSolution F r50.1 r50.2.1 r50.2.2).bind fun r64 => ((impl_SlackOfBonds F r50.1 r50.2.1 r50.2.2).bind fun r66 => ((spec_SlackOfBonds F r50.1 r50.2.1 r50.2.2).bind fun r72 => (Option.bind ((bif (r14.2 != r20.2) then some true else ((laws_likeInts F r14.1 r20.1).bind fun r100 => (bif (!r100) then some true else (bif (r26.2 != r32.2) then some true else ((laws_likeInts F r26.1 r32.1).bind fun r104 => (bif (!r104) then some true else (bif (r38.2 != r44.2) then some true else (bif ((r38.1.length : Int) != (r44.1.length : Int)) then some true else ((spec_IsWindowSolution F r50.1 r50.2.1 r50.2.2).bind fun r109 => (bif (r64 != r109) then some true else (bif (r66.2 != r72.2) then some true else ((laws_likeInts F r66.1 r72.1).bind fun r113 => (bif (!r113) then some true else (bif (r26.2 != r14.2) then some true else some (r38.2 != r14.2))))))))))))))) : Option (Bool)) fun b96 => (bif b96 then some false else (Option.bind ((bif r64 then ((impl_EarliestTimes F r50.1 r50.2.1).bind fun r176 => ((impl_LatestIn F r50.1 r50.2.1).bind fun r182 => (Option.bind ((bif (r176.2 != 0) then some true else (bif (r182.2 != 0) then some true else ((laws_below9 F r176.1 r50.2.2).bind fun r201 => (bif (!r201) then some true else ((laws_below9 F r50.2.2 r182.1).bind fun r204 => (bif (!r204) then some true else some (r66.2 != 0))))))) : Option (Bool)) fun b196 => (bif b196 then some (Sum.inl false) else (Option.bind (laws_FnTasks_L2 F r66 F 0) fun r222 => match r222 with | .inl x_ => some (Sum.inl x_) | .inr _ => some (Sum.inr ())))))) else some (Sum.inr ())) : Option (Sum Bool (Unit))) fun r173 => match r173 with | .inl x_ => some x_ | .inr _ => (bif (r14.2 != 0) then some true else (Option.bind (laws_FnTasks_L3 F r14 r26 r38 F 0) fun r302 => match r302 with | .inl x_ => some x_ | .inr _ => (Option.bind ((bif ((r38.1.length : Int) == (r14.1.length : Int)) then ((impl_IsWindowSolution F r4.1 r4.2 r14.1).bind fun r339 => (bif r339 then ((impl_IsWindowSolution F r4.1 r4.2 r26.1).bind fun r342 => some r342) else some false)) else some false) : Option (Bool)) fun b335 => some b335)))))))))))))))))))

end Go.Proofs.Ytebmlphobgaboab
