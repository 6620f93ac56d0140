/- Plain lemmas about the small functions of the laws. -/
import Derived.Test.YtpmebacdmilecaaTotalDelayModels
import Derived.Test.YtpmebacdmilecaaCyc
namespace Go.Proofs.Ytpmebacdmilecaa

def toP_Int64 (p : Int) : Int := p
theorem szInt64S_is {F : Nat} {ps : List Int} {left : Int} (h0 : 0 ≤ left) (h1 : left ≤ 1048576) (h : ps.length ≤ 9223372036854775807) : ∃ r, laws_szInt64S F ps left = some r ∧ (r < 0 ∨ (0 ≤ r ∧ r + ps.length = left)) := by
  unfold laws_szInt64S
  rw [wr (by omega) (by omega)]
  by_cases hc : left - (ps.length : Int) < 0
  · exact ⟨-1, by rw [bdT hc], .inl (by decide)⟩
  · exact ⟨left - ps.length, by rw [bdF hc], .inr ⟨by omega, by omega⟩⟩
theorem toInt64S_is {F : Nat} {ps : List Int} (hF : 134217728 ≤ F) (h : ps.length ≤ 1048576) : laws_toInt64S F ps = some (ps.map toP_Int64) := by
  unfold laws_toInt64S
  rw [mk_nat _ (by omega)]
  simp only [Option.bind_some]
  rw [fill_loop (ps := ps) (f := toP_Int64) (L := laws_toInt64S_L1 F ps) ?_ ?_ (by simp) (by omega)]; rfl
  · intro n xs k x hk hx hl
    have hk' : k < xs.length := by omega
    have hq : xs[k]? = some xs[k] := List.getElem?_eq_getElem hk'
    simp only [laws_toInt64S_L1, bdT (show (k : Int) < (ps.length : Int) by omega), idx_nat, hx, hq, Option.bind_some, upd_nat, hk', wrN (show k ≤ 67108864 by omega), toP_Int64]
  · intro n xs
    simp only [laws_toInt64S_L1, bdF (show ¬ (ps.length : Int) < (ps.length : Int) by omega)]
theorem eqInt64S_same {F : Nat} {xs : List Int} (hF : 134217728 ≤ F) (h : xs.length ≤ 16777216) : laws_eqInt64S F xs xs = some true := by
  unfold laws_eqInt64S
  rw [bF (neF rfl), same_loop (L := laws_eqInt64S_L1 F xs xs) (len := xs.length) ?_ ?_ (by omega)]; rfl
  · intro n k hk
    have hq : xs[k]? = some xs[k] := List.getElem?_eq_getElem hk
    simp only [laws_eqInt64S_L1, bdT (show (k : Int) < (xs.length : Int) by omega), idx_nat, hq, Option.bind_some, bne_self_eq_false, cond_false, wrN (show k ≤ 67108864 by omega)]
  · intro n
    simp only [laws_eqInt64S_L1, bdF (show ¬ (xs.length : Int) < (xs.length : Int) by omega)]

def toP_Place (p : LPlace) : GPlace := ⟨p.From, p.To, p.Delay, p.Tokens⟩
theorem szPlaceS_is {F : Nat} {ps : List LPlace} {left : Int} (h0 : 0 ≤ left) (h1 : left ≤ 1048576) (h : ps.length ≤ 9223372036854775807) : ∃ r, laws_szPlaceS F ps left = some r ∧ (r < 0 ∨ (0 ≤ r ∧ r + ps.length = left)) := by
  unfold laws_szPlaceS
  rw [wr (by omega) (by omega)]
  by_cases hc : left - (ps.length : Int) < 0
  · exact ⟨-1, by rw [bdT hc], .inl (by decide)⟩
  · exact ⟨left - ps.length, by rw [bdF hc], .inr ⟨by omega, by omega⟩⟩
theorem toPlaceS_is {F : Nat} {ps : List LPlace} (hF : 134217728 ≤ F) (h : ps.length ≤ 1048576) : laws_toPlaceS F ps = some (ps.map toP_Place) := by
  unfold laws_toPlaceS
  rw [mk_nat _ (by omega)]
  simp only [Option.bind_some]
  rw [fill_loop (ps := ps) (f := toP_Place) (L := laws_toPlaceS_L1 F ps) ?_ ?_ (by simp) (by omega)]; rfl
  · intro n xs k x hk hx hl
    have hk' : k < xs.length := by omega
    have hq : xs[k]? = some xs[k] := List.getElem?_eq_getElem hk'
    simp only [laws_toPlaceS_L1, bdT (show (k : Int) < (ps.length : Int) by omega), idx_nat, hx, hq, laws_toPlace, Option.bind_some, upd_nat, hk', wrN (show k ≤ 67108864 by omega), toP_Place]
  · intro n xs
    simp only [laws_toPlaceS_L1, bdF (show ¬ (ps.length : Int) < (ps.length : Int) by omega)]
theorem eqPlace_same {F : Nat} (x : GPlace) : laws_eqPlace F x x = some true := by
  simp only [laws_eqPlace, bne_self_eq_false, cond_false]
theorem eqPlaceS_same {F : Nat} {xs : List GPlace} (hF : 134217728 ≤ F) (h : xs.length ≤ 16777216) : laws_eqPlaceS F xs xs = some true := by
  unfold laws_eqPlaceS
  rw [bF (neF rfl), same_loop (L := laws_eqPlaceS_L1 F xs xs) (len := xs.length) ?_ ?_ (by omega)]; rfl
  · intro n k hk
    have hq : xs[k]? = some xs[k] := List.getElem?_eq_getElem hk
    simp only [laws_eqPlaceS_L1, bdT (show (k : Int) < (xs.length : Int) by omega), idx_nat, hq, Option.bind_some, eqPlace_same, Bool.not_true, cond_false, wrN (show k ≤ 67108864 by omega)]
  · intro n
    simp only [laws_eqPlaceS_L1, bdF (show ¬ (xs.length : Int) < (xs.length : Int) by omega)]

theorem szEventGraph_is {F : Nat} {g : LEventGraph} {left : Int} (h0 : 0 ≤ left) (h1 : left ≤ 1048576) (h : g.Places.length ≤ 9223372036854775807) : ∃ r, laws_szEventGraph F g left = some r ∧ (r < 0 ∨ (0 ≤ r ∧ r + g.Places.length = left)) := by
  obtain ⟨r, hr, h2⟩ := szPlaceS_is (F := F) h0 h1 h
  unfold laws_szEventGraph
  rw [bind_of hr]
  by_cases hc : r < 0
  · exact ⟨-1, by rw [bdT hc], .inl (by decide)⟩
  · exact ⟨r, by rw [bdF hc], h2⟩
def toP_EventGraph (g : LEventGraph) : GEventGraph := ⟨g.Events, g.Places.map toP_Place⟩
theorem toEventGraph_is {F : Nat} {g : LEventGraph} (hF : 134217728 ≤ F) (h : g.Places.length ≤ 1048576) : laws_toEventGraph F g = some (toP_EventGraph g) := by
  unfold laws_toEventGraph
  rw [bind_of (toPlaceS_is hF h)]; rfl
theorem eqEventGraph_same {F : Nat} (x : GEventGraph) (hF : 134217728 ≤ F) (h : x.Places.length ≤ 16777216) : laws_eqEventGraph F x x = some true := by
  simp only [laws_eqEventGraph, eqPlaceS_same hF h, bne_self_eq_false, cond_false, Option.bind_some, Bool.not_true]

theorem szTimetable_is {F : Nat} {g : LTimetable} {left : Int} (h0 : 0 ≤ left) (h1 : left ≤ 1048576) (h : g.Starts.length ≤ 9223372036854775807) : ∃ r, laws_szTimetable F g left = some r ∧ (r < 0 ∨ (0 ≤ r ∧ r + g.Starts.length = left)) := by
  obtain ⟨r, hr, h2⟩ := szInt64S_is (F := F) h0 h1 h
  unfold laws_szTimetable
  rw [bind_of hr]
  by_cases hc : r < 0
  · exact ⟨-1, by rw [bdT hc], .inl (by decide)⟩
  · exact ⟨r, by rw [bdF hc], h2⟩
def toP_Timetable (g : LTimetable) : GTimetable := ⟨g.Period, g.Starts.map toP_Int64⟩
theorem toTimetable_is {F : Nat} {g : LTimetable} (hF : 134217728 ≤ F) (h : g.Starts.length ≤ 1048576) : laws_toTimetable F g = some (toP_Timetable g) := by
  unfold laws_toTimetable
  rw [bind_of (toInt64S_is hF h)]; rfl
theorem eqTimetable_same {F : Nat} (x : GTimetable) (hF : 134217728 ≤ F) (h : x.Starts.length ≤ 16777216) : laws_eqTimetable F x x = some true := by
  simp only [laws_eqTimetable, eqInt64S_same hF h, bne_self_eq_false, cond_false, Option.bind_some, Bool.not_true]

theorem slices_IndexFunc_Place_is {F : Nat} {ps : List GPlace} {m : GPlace → Option Bool} {h : GPlace → Bool} (hF : 134217728 ≤ F) (hl : ps.length ≤ 16777216) (hm : ∀ x, x ∈ ps → m x = some (h x)) :
    slices_IndexFunc_Place F ps m = some (firstAt (ps.findIdx? h)) := by
  unfold slices_IndexFunc_Place
  rw [find_loop (ps := ps) (h := h) (v := fun k => (k : Int)) (L := slices_IndexFunc_Place_L1 F ps m) ?_ ?_ (by omega)]
  · cases ps.findIdx? h <;> rfl
  · intro n k x hk hx
    simp only [slices_IndexFunc_Place_L1, bdT (show (k : Int) < (ps.length : Int) by omega), idx_nat, hx, Option.bind_some, hm x (List.mem_of_getElem? hx), wrN (show k ≤ 67108864 by omega)]
  · intro n
    simp only [slices_IndexFunc_Place_L1, bdF (show ¬ (ps.length : Int) < (ps.length : Int) by omega)]
theorem slices_ContainsFunc_Place_is {F : Nat} {ps : List GPlace} {m : GPlace → Option Bool} {h : GPlace → Bool} (hF : 134217728 ≤ F) (hl : ps.length ≤ 16777216) (hm : ∀ x, x ∈ ps → m x = some (h x)) :
    slices_ContainsFunc_Place F ps m = some (ps.any h) := by
  unfold slices_ContainsFunc_Place
  rw [bind_of (slices_IndexFunc_Place_is hF hl hm), find_any]

theorem slices_IndexFunc_int64_is {F : Nat} {ps : List Int} {m : Int → Option Bool} {h : Int → Bool} (hF : 134217728 ≤ F) (hl : ps.length ≤ 16777216) (hm : ∀ x, x ∈ ps → m x = some (h x)) :
    slices_IndexFunc_int64 F ps m = some (firstAt (ps.findIdx? h)) := by
  unfold slices_IndexFunc_int64
  rw [find_loop (ps := ps) (h := h) (v := fun k => (k : Int)) (L := slices_IndexFunc_int64_L1 F ps m) ?_ ?_ (by omega)]
  · cases ps.findIdx? h <;> rfl
  · intro n k x hk hx
    simp only [slices_IndexFunc_int64_L1, bdT (show (k : Int) < (ps.length : Int) by omega), idx_nat, hx, Option.bind_some, hm x (List.mem_of_getElem? hx), wrN (show k ≤ 67108864 by omega)]
  · intro n
    simp only [slices_IndexFunc_int64_L1, bdF (show ¬ (ps.length : Int) < (ps.length : Int) by omega)]
theorem slices_ContainsFunc_int64_is {F : Nat} {ps : List Int} {m : Int → Option Bool} {h : Int → Bool} (hF : 134217728 ≤ F) (hl : ps.length ≤ 16777216) (hm : ∀ x, x ∈ ps → m x = some (h x)) :
    slices_ContainsFunc_int64 F ps m = some (ps.any h) := by
  unfold slices_ContainsFunc_int64
  rw [bind_of (slices_IndexFunc_int64_is hF hl hm), find_any]

theorem toInt64S_same {F : Nat} {ps : List Int} (hF : 134217728 ≤ F) (h : ps.length ≤ 1048576) : laws_toInt64S F ps = some ps := by
  rw [toInt64S_is hF h, show ps.map toP_Int64 = ps from by unfold toP_Int64; simp]

def inB (n lo hi : Int) : Bool := decide (lo ≤ n) && decide (n ≤ hi)
theorem inB_true {n lo hi : Int} : inB n lo hi = true ↔ lo ≤ n ∧ n ≤ hi := by unfold inB; simp
theorem inB_false {n lo hi : Int} (h : ¬ (lo ≤ n ∧ n ≤ hi)) : inB n lo hi = false := by
  cases e : inB n lo hi with
  | false => rfl
  | true => exact absurd (inB_true.1 e) h
theorem specIn_is {F : Nat} {n lo hi : Int} : spec_l01In F n lo hi = some (inB n lo hi) := by
  simp only [spec_l01In, cond_and, Option.bind_some]; rfl
theorem within_is {F : Nat} {n lo hi : Int} : impl_within F n lo hi = some (inB n lo hi) := by
  simp only [impl_within, cond_and, Option.bind_some]; rfl


theorem implAllWithin_is {F : Nat} {xs : List Int} {lo hi : Int} (hF : 134217728 ≤ F) (hl : xs.length ≤ 1048576) : impl_allWithin F xs lo hi = some (xs.all fun x => inB x lo hi) := by
  unfold impl_allWithin
  rw [all_loop (ps := xs) (g := fun x => inB x lo hi) (r := false) (L := impl_allWithin_L1 F xs lo hi) ?_ ?_ (by omega)]
  · cases (xs.all fun x => inB x lo hi) <;> rfl
  · intro n k x hk hx
    simp only [impl_allWithin_L1, bdT (show (k : Int) < (xs.length : Int) by omega), idx_nat, hx, Option.bind_some, within_is, condn, wrN (show k ≤ 67108864 by omega)]
  · intro n
    simp only [impl_allWithin_L1, bdF (show ¬ (xs.length : Int) < (xs.length : Int) by omega)]

def placeB (e : Int) (p : GPlace) : Bool := inB p.From 0 e && (inB p.To 0 e && (inB p.Delay 0 1000 && inB p.Tokens 0 5))
def graphB (g : GEventGraph) : Bool := g.Places.all (placeB (IntKind.i64.wrap (g.Events - 1))) && (inB g.Events 1 10 && decide ((g.Places.length : Int) ≤ 30))

theorem specPlace_is {F : Nat} {p : GPlace} {n : Int} : spec_l11Place F p n = some (placeB (IntKind.i64.wrap (n - 1)) p) := by
  simp only [spec_l11Place, specIn_is, Option.bind_some, cond_and]; rfl
theorem implPlace_is {F : Nat} {g : GEventGraph} {p : GPlace} : impl_isPlace F g p = some (placeB (IntKind.i64.wrap (g.Events - 1)) p) := by
  simp only [impl_isPlace, impl_isEvent, within_is, Option.bind_some, cond_and]; rfl

theorem specGraph_is {F : Nat} {g : GEventGraph} (hF : 134217728 ≤ F) (hl : g.Places.length ≤ 1048576) : spec_IsEventGraph F g = some (graphB g) := by
  unfold spec_IsEventGraph
  rw [all_loop (ps := g.Places) (g := placeB (IntKind.i64.wrap (g.Events - 1))) (r := false) (L := spec_IsEventGraph_L1 F g) ?_ ?_ (by omega)]
  · simp only [specIn_is, Option.bind_some, cond_and, graphB]
    cases g.Places.all (placeB (IntKind.i64.wrap (g.Events - 1))) <;> rfl
  · intro n k x hk hx
    simp only [spec_IsEventGraph_L1, bdT (show (k : Int) < (g.Places.length : Int) by omega), idx_nat, hx, Option.bind_some, specPlace_is, condn, wrN (show k ≤ 67108864 by omega)]
  · intro n
    simp only [spec_IsEventGraph_L1, bdF (show ¬ (g.Places.length : Int) < (g.Places.length : Int) by omega)]

theorem implGraph_is {F : Nat} {g : GEventGraph} (hF : 134217728 ≤ F) (hl : g.Places.length ≤ 1048576) : impl_IsEventGraph F g = some (graphB g) := by
  simp only [impl_IsEventGraph, within_is, Option.bind_some, slices_ContainsFunc_Place_is (h := fun p => !placeB (IntKind.i64.wrap (g.Events - 1)) p) hF (show g.Places.length ≤ 16777216 by omega) (fun x _ => show impl_IsEventGraph_c1 F x g = _ by simp only [impl_IsEventGraph_c1, implPlace_is, Option.bind_some]), cond_and, graphB]
  rw [any_not, Bool.not_not]
  cases g.Places.all (placeB (IntKind.i64.wrap (g.Events - 1))) <;> cases inB g.Events 1 10 <;> cases decide ((g.Places.length : Int) ≤ 30) <;> rfl

theorem graphB_true {g : GEventGraph} (h : graphB g = true) : 1 ≤ g.Events ∧ g.Events ≤ 10 ∧ g.Places.length ≤ 30 ∧ IntKind.i64.wrap (g.Events - 1) = g.Events - 1 ∧ ∀ p, p ∈ g.Places → 0 ≤ p.From ∧ p.From < g.Events ∧ 0 ≤ p.To ∧ p.To < g.Events := by
  unfold graphB at h
  simp only [Bool.and_eq_true, inB_true, decide_eq_true_eq, List.all_eq_true] at h
  obtain ⟨hp, ⟨h1, h2⟩, h3⟩ := h
  have hw : IntKind.i64.wrap (g.Events - 1) = g.Events - 1 := wr (by omega) (by omega)
  refine ⟨h1, h2, by omega, hw, fun p hm => ?_⟩
  have := hp p hm
  rw [hw] at this
  simp only [placeB, Bool.and_eq_true, inB_true] at this
  omega
theorem graphB_range {g : GEventGraph} (h : graphB g = true) : ∀ p, p ∈ g.Places → 0 ≤ p.From ∧ p.From < g.Events ∧ 0 ≤ p.To ∧ p.To < g.Events ∧ 0 ≤ p.Delay ∧ p.Delay ≤ 1000 ∧ 0 ≤ p.Tokens ∧ p.Tokens ≤ 5 := by
  have hw := (graphB_true h).2.2.2.1
  unfold graphB at h
  simp only [Bool.and_eq_true, inB_true, decide_eq_true_eq, List.all_eq_true] at h
  intro p hm
  have := h.1 p hm
  rw [hw] at this
  simp only [placeB, Bool.and_eq_true, inB_true] at this
  omega

/-! ### Timetables -/
theorem specWithin_is {F : Nat} {xs : List Int} {most lo hi : Int} (hF : 134217728 ≤ F) (hl : xs.length ≤ 1048576) : spec_l01Within F xs most lo hi = some ((xs.all fun x => inB x lo hi) && decide ((xs.length : Int) ≤ most)) := by
  unfold spec_l01Within
  rw [all_loop (ps := xs) (g := fun x => inB x lo hi) (r := false) (L := spec_l01Within_L1 F xs lo hi) ?_ ?_ (by omega)]
  · cases xs.all (fun x => inB x lo hi) <;> rfl
  · intro n k x hk hx
    simp only [spec_l01Within_L1, bdT (show (k : Int) < (xs.length : Int) by omega), idx_nat, hx, Option.bind_some, specIn_is, condn, wrN (show k ≤ 67108864 by omega)]
  · intro n
    simp only [spec_l01Within_L1, bdF (show ¬ (xs.length : Int) < (xs.length : Int) by omega)]
def startsB (g : GEventGraph) (xs : List Int) : Bool := ((xs.length : Int) == g.Events) && xs.all fun x => inB x 0 1000000
def tableB (g : GEventGraph) (t : GTimetable) : Bool := inB t.Period 0 100000 && startsB g t.Starts
theorem specStarts_is {F : Nat} {g : GEventGraph} {xs : List Int} (hF : 134217728 ≤ F) (hl : xs.length ≤ 1048576) (hg : graphB g = true) : (bif (xs.length : Int) == g.Events then spec_l01Within F xs 10 0 1000000 else some false) = some (startsB g xs) := by
  have h10 := (graphB_true hg).2.1
  unfold startsB
  cases he : ((xs.length : Int) == g.Events) with
  | false => rfl
  | true =>
    rw [beq_iff_eq] at he
    rw [specWithin_is hF hl, decide_eq_true (show (xs.length : Int) ≤ 10 by omega)]
    simp
theorem specTable_is {F : Nat} {g : GEventGraph} {t : GTimetable} (hF : 134217728 ≤ F) (hP : g.Places.length ≤ 1048576) (hl : t.Starts.length ≤ 1048576) (hg : graphB g = true) : spec_IsTimetable F g t = some (tableB g t) := by
  have := specStarts_is hF hl hg
  simp only [spec_IsTimetable, specGraph_is hF hP, hg, specIn_is, Option.bind_some, cond_true, Option.bind_fun_some]
  unfold tableB
  cases inB t.Period 0 100000 with
  | false => rfl
  | true => simp only [cond_true, this, Bool.true_and]
theorem implTable_is {F : Nat} {g : GEventGraph} {t : GTimetable} (hF : 134217728 ≤ F) (hl : t.Starts.length ≤ 1048576) : impl_isTimetable F g t = some (tableB g t) := by
  simp only [impl_isTimetable, within_is, implAllWithin_is hF hl, Option.bind_some]
  unfold tableB startsB
  cases inB t.Period 0 100000 <;> cases ((t.Starts.length : Int) == g.Events) <;> cases (t.Starts.all fun x => inB x 0 1000000) <;> rfl
theorem specTableCode_is {F : Nat} {g : GEventGraph} {t : GTimetable} (hF : 134217728 ≤ F) (hP : g.Places.length ≤ 1048576) (hl : t.Starts.length ≤ 1048576) : spec_l20Code F g t = some (bif !graphB g then 1 else bif !tableB g t then 2 else 0) := by
  unfold spec_l20Code
  rw [bind_of (specGraph_is hF hP)]
  cases hg : graphB g with
  | false => rfl
  | true =>
    simp only [Bool.not_true, cond_false, specTable_is hF hP hl hg, Option.bind_some]
    cases tableB g t <;> rfl

/-! ### Slacks -/
def slk1 (t : GTimetable) (p : GPlace) : Int := IntKind.i64.wrap (IntKind.i64.wrap (IntKind.i64.wrap (t.Starts.getD p.To.toNat 0 + IntKind.i64.wrap (p.Tokens * t.Period)) - t.Starts.getD p.From.toNat 0) - p.Delay)
def slk (g : GEventGraph) (t : GTimetable) : List Int := g.Places.map (slk1 t)
theorem slk_len (g : GEventGraph) (t : GTimetable) : (slk g t).length = g.Places.length := by unfold slk; simp
theorem getI {xs : List Int} {i : Int} (h0 : 0 ≤ i) (h1 : i < (xs.length : Int)) : idx xs i = some (xs.getD i.toNat 0) := by
  rw [idx_int h0 h1, List.getD_eq_getElem?_getD, List.getElem?_eq_getElem (by omega)]; rfl
theorem specSlacks_is {F : Nat} {g : GEventGraph} {t : GTimetable} (hF : 134217728 ≤ F) (hg : graphB g = true) (ht : (t.Starts.length : Int) = g.Events) : spec_l20Slacks F g t = some (slk g t) := by
  obtain ⟨_, _, h3, _, h5⟩ := graphB_true hg
  unfold spec_l20Slacks
  rw [grow_loop (ps := g.Places) (g := fun p => [slk1 t p]) (L := spec_l20Slacks_L1 F g t) (by simp) ?_ ?_ (by omega)]
  · rw [Option.bind_some, flatMap_one]; rfl
  · intro n xs k p hk hp hx
    have hpp := h5 p (List.mem_of_getElem? hp)
    simp only [spec_l20Slacks_L1, bdT (show (k : Int) < (g.Places.length : Int) by omega), idx_nat, hp, Option.bind_some, getI (xs := t.Starts) (i := p.To) (by omega) (by omega), getI (xs := t.Starts) (i := p.From) (by omega) (by omega), wrN (show k ≤ 67108864 by omega)]
    rw [app_le (by simp only [List.length_singleton]; omega)]; rfl
  · intro n xs
    simp only [spec_l20Slacks_L1, bdF (show ¬ (g.Places.length : Int) < (g.Places.length : Int) by omega)]
theorem implSlacks_is {F : Nat} {g : GEventGraph} {t : GTimetable} (hF : 134217728 ≤ F) (hg : graphB g = true) (ht : (t.Starts.length : Int) = g.Events) : impl_slacksOf F g t = some (slk g t) := by
  obtain ⟨_, _, h3, _, h5⟩ := graphB_true hg
  unfold impl_slacksOf
  rw [mk_nat _ (by omega)]
  simp only [Option.bind_some]
  rw [fill_loop (ps := g.Places) (f := slk1 t) (L := impl_slacksOf_L1 F g t) ?_ ?_ (by simp) (by omega)]
  · rfl
  · intro n xs k p hk hp hx
    have hpp := h5 p (List.mem_of_getElem? hp)
    have hk' : k < xs.length := by omega
    have hq : xs[k]? = some xs[k] := List.getElem?_eq_getElem hk'
    simp only [impl_slacksOf_L1, bdT (show (k : Int) < (g.Places.length : Int) by omega), idx_nat, hp, hq, Option.bind_some, getI (xs := t.Starts) (i := p.To) (by omega) (by omega), getI (xs := t.Starts) (i := p.From) (by omega) (by omega), upd_nat _ hk', wrN (show k ≤ 67108864 by omega)]; rfl
  · intro n xs
    simp only [impl_slacksOf_L1, bdF (show ¬ (g.Places.length : Int) < (g.Places.length : Int) by omega)]
theorem tableB_len {g : GEventGraph} {t : GTimetable} (h : tableB g t = true) : (t.Starts.length : Int) = g.Events := by
  unfold tableB startsB at h
  simp only [Bool.and_eq_true, beq_iff_eq] at h
  exact h.2.1

def keptB (g : GEventGraph) (t : GTimetable) : Bool := (slk g t).all fun s => !decide (s < 0)
theorem specKept_is {F : Nat} {g : GEventGraph} {t : GTimetable} (hF : 134217728 ≤ F) (hg : graphB g = true) (ht : (t.Starts.length : Int) = g.Events) : spec_l20Kept F g t = some (keptB g t) := by
  have h3 := (graphB_true hg).2.2.1
  unfold spec_l20Kept
  rw [bind_of (specSlacks_is hF hg ht), all_loop (ps := slk g t) (g := fun s => !decide (s < 0)) (r := false) (L := spec_l20Kept_L1 F (slk g t)) ?_ ?_ (by rw [slk_len]; omega)]
  · unfold keptB; cases (slk g t).all (fun s => !decide (s < 0)) <;> rfl
  · intro n k x hk hx
    have := slk_len g t
    simp only [spec_l20Kept_L1, bdT (show (k : Int) < ((slk g t).length : Int) by omega), idx_nat, hx, Option.bind_some, condn, wrN (show k ≤ 67108864 by omega)]
  · intro n
    simp only [spec_l20Kept_L1, bdF (show ¬ ((slk g t).length : Int) < ((slk g t).length : Int) by omega)]
theorem implKept_is {F : Nat} {g : GEventGraph} {t : GTimetable} (hF : 134217728 ≤ F) (hg : graphB g = true) (ht : (t.Starts.length : Int) = g.Events) : impl_isKept F g t = some (keptB g t) := by
  have h3 := (graphB_true hg).2.2.1
  have hl := slk_len g t
  unfold impl_isKept
  rw [bind_of (implSlacks_is hF hg ht), bind_of (slices_ContainsFunc_int64_is (h := fun s => decide (s < 0)) hF (show (slk g t).length ≤ 16777216 by omega) (fun x _ => show impl_isKept_c1 F x = _ from rfl))]
  have := any_not (g := fun s => !decide (s < 0)) (slk g t)
  simp only [Bool.not_not] at this
  rw [this, Bool.not_not]; rfl

/-! ### Liveness -/
def nl (o : List Nat) : List Int := o.map fun (x : Nat) => (x : Int)
theorem nl_len (o : List Nat) : (nl o).length = o.length := by unfold nl; simp
theorem nl_app (o : List Nat) (x : Nat) : nl o ++ [(x : Int)] = nl (o ++ [x]) := by unfold nl; simp
theorem nl_at (o : List Nat) (i : Nat) : (nl o)[i]? = (o[i]?).map fun (x : Nat) => (x : Int) := by unfold nl; simp
theorem nl_has (o : List Nat) (x : Nat) : ((nl o).any fun y => y == (x : Int)) = o.contains x := by
  apply Bool.eq_iff_iff.2
  simp only [nl, List.any_map, List.any_eq_true, Function.comp_apply, beq_iff_eq, List.contains_iff_mem]
  constructor
  · rintro ⟨y, hy, e⟩
    have : y = x := by omega
    exact this ▸ hy
  · intro h; exact ⟨x, h, rfl⟩
theorem specHas_is {F : Nat} {xs : List Int} {x : Int} (hF : 134217728 ≤ F) (hl : xs.length ≤ 1048576) : spec_l01Has F xs x = some (xs.any fun y => y == x) := by
  unfold spec_l01Has
  rw [all_loop (ps := xs) (g := fun y => !(y == x)) (r := true) (L := spec_l01Has_L1 F xs x) ?_ ?_ (by omega)]
  · have := any_not (g := fun y => !(y == x)) xs
    simp only [Bool.not_not] at this
    rw [this]
    cases xs.all (fun y => !(y == x)) <;> rfl
  · intro n k y hk hy
    simp only [spec_l01Has_L1, bdT (show (k : Int) < (xs.length : Int) by omega), idx_nat, hy, Option.bind_some, condn, wrN (show k ≤ 67108864 by omega)]
  · intro n
    simp only [spec_l01Has_L1, bdF (show ¬ (xs.length : Int) < (xs.length : Int) by omega)]
theorem implHas_is {F : Nat} {xs : List Int} {x : Int} (hF : 134217728 ≤ F) (hl : xs.length ≤ 1048576) : slices_Contains_int64 F xs x = some (xs.any fun y => y == x) := by
  unfold slices_Contains_int64 slices_Index_int64
  rw [find_loop (ps := xs) (h := fun y => x == y) (v := fun k => (k : Int)) (L := slices_Index_int64_L1 F xs x) ?_ ?_ (by omega)]
  · have e : (xs.any fun y => y == x) = decide ((0 : Int) ≤ firstAt (xs.findIdx? fun y => x == y)) := by
      rw [find_any]
      congr 1; funext y
      by_cases h : x = y
      · subst h; rfl
      · rw [beq_false_of_ne h, beq_false_of_ne (Ne.symm h)]
    rw [e]
    cases xs.findIdx? fun y => x == y <;> rfl
  · intro n k y hk hy
    simp only [slices_Index_int64_L1, bdT (show (k : Int) < (xs.length : Int) by omega), idx_nat, hy, Option.bind_some, wrN (show k ≤ 67108864 by omega)]
  · intro n
    simp only [slices_Index_int64_L1, bdF (show ¬ (xs.length : Int) < (xs.length : Int) by omega)]

/-- the matrix of a relation -/
def mat0 (E : Nat → Nat → Bool) (n : Nat) : List (List Int) := (List.range n).map fun v => (List.range n).map fun u => bif E u v then 0 else (-1000000000000000)
theorem mat0_row {E : Nat → Nat → Bool} {n v : Nat} (hv : v < n) : (mat0 E n)[v]? = some ((List.range n).map fun u => bif E u v then 0 else (-1000000000000000)) := by
  unfold mat0; rw [List.getElem?_map, List.getElem?_range hv]; rfl
theorem map_range_set {α : Type} (f : Nat → α) (n i : Nat) (y : α) : ((List.range n).map f).set i y = (List.range n).map fun j => if j = i then y else f j := by
  apply List.ext_getElem?; intro q
  by_cases hq : q < n
  · by_cases e : q = i
    · subst e
      rw [set_here (by simpa using hq), List.getElem?_map, List.getElem?_range hq]; simp
    · rw [set_keep e, List.getElem?_map, List.getElem?_map, List.getElem?_range hq]; simp [e]
  · rw [List.getElem?_eq_none (by simp; omega), List.getElem?_eq_none (by simp; omega)]
theorem mat0_set {E : Nat → Nat → Bool} {n u v : Nat} : (mat0 E n).set v (((List.range n).map fun u' => bif E u' v then (0 : Int) else (-1000000000000000)).set u 0) = mat0 (fun u' v' => E u' v' || (v' == v && u' == u)) n := by
  unfold mat0
  rw [map_range_set, map_range_set]
  apply List.map_congr_left; intro v' _
  by_cases hv : v' = v
  · subst hv
    rw [if_pos rfl]
    apply List.map_congr_left; intro u' _
    by_cases hu : u' = u
    · subst hu; simp
    · rw [if_neg hu]; simp only [beq_false_of_ne hu, Bool.and_false, Bool.or_false]
  · rw [if_neg hv]
    apply List.map_congr_left; intro u' _
    simp only [beq_false_of_ne hv, Bool.false_and, Bool.or_false]
/-- the free places' relation -/
def eP (ps : List GPlace) (u v : Nat) : Bool := ps.any fun p => p.Tokens == 0 && (p.To == (v : Int) && p.From == (u : Int))
theorem specBottom_is {F m n : Nat} (hF : 134217728 ≤ F) (hm : m ≤ 1048576) (hn : n ≤ 1048576) : spec_l02Bottom F (m : Int) (n : Int) = some ((List.range m).map fun _ => (List.range n).map fun _ => (-1000000000000000)) := by
  unfold spec_l02Bottom
  rw [tab_loop (len := m) (f := fun _ => (List.range n).map fun _ => (-1000000000000000)) (L := spec_l02Bottom_L4 F (m : Int) (n : Int)) ?_ ?_ (by omega)]
  · rfl
  · intro k xs j hj hx
    have inner : spec_l02Bottom_L5 F (n : Int) F [] 0 = some ((List.range n).map fun _ => (-1000000000000000)) := by
      refine tab_loop (len := n) (f := fun _ => (-1000000000000000)) (L := spec_l02Bottom_L5 F (n : Int)) ?_ ?_ (by omega)
      · intro k xs j hj hx
        simp only [spec_l02Bottom_L5, bdT (show (j : Int) < (n : Int) by omega), app_le (show xs.length + [(-1000000000000000 : Int)].length ≤ 67108864 by simp only [List.length_singleton]; omega), Option.bind_some, wrN (show j ≤ 67108864 by omega)]
      · intro k xs _
        simp only [spec_l02Bottom_L5, bdF (show ¬ (n : Int) < (n : Int) by omega)]
    simp only [spec_l02Bottom_L4, bdT (show (j : Int) < (m : Int) by omega), inner, app_le (show xs.length + [(List.range n).map fun _ => (-1000000000000000 : Int)].length ≤ 67108864 by simp only [List.length_singleton]; omega), Option.bind_some, wrN (show j ≤ 67108864 by omega)]
  · intro k xs _
    simp only [spec_l02Bottom_L4, bdF (show ¬ (m : Int) < (m : Int) by omega)]
structure GOk (g : GEventGraph) (n : Nat) : Prop where
  ev : g.Events = (n : Int)
  n1 : 1 ≤ n
  n10 : n ≤ 10
  len : g.Places.length ≤ 30
  at' : ∀ p, p ∈ g.Places → ∃ u v : Nat, p.From = (u : Int) ∧ p.To = (v : Int) ∧ u < n ∧ v < n
theorem GOk.of {g : GEventGraph} (h : graphB g = true) : GOk g g.Events.toNat := by
  obtain ⟨h1, h2, h3, _, h4⟩ := graphB_true h
  exact ⟨by omega, by omega, by omega, h3, fun p hp => ⟨p.From.toNat, p.To.toNat, by have := h4 p hp; omega, by have := h4 p hp; omega, by have := h4 p hp; omega, by have := h4 p hp; omega⟩⟩
theorem GOk.edge {g : GEventGraph} {n : Nat} (h : GOk g n) : ∀ u v, eP g.Places u v = true → u < n ∧ v < n := by
  intro u v he
  unfold eP at he
  rw [List.any_eq_true] at he
  obtain ⟨p, hp, hq⟩ := he
  simp only [Bool.and_eq_true, beq_iff_eq] at hq
  obtain ⟨u', v', h1, h2, h3, h4⟩ := h.at' p hp
  omega
theorem specFree_is {F n : Nat} {g : GEventGraph} (hF : 134217728 ≤ F) (h : GOk g n) : spec_l12Free F g = some (mat0 (eP g.Places) n) := by
  unfold spec_l12Free
  have h10 := h.n10
  rw [h.ev, bind_of (specBottom_is hF (by omega) (by omega))]
  have hlen := h.len
  have H := for0 (L := spec_l12Free_L1 F g) (len := g.Places.length) (fun k ms => ms = mat0 (eP (g.Places.take k)) n) (R := fun o => o = some (mat0 (eP g.Places) n)) (s := (List.range n).map fun _ => (List.range n).map fun _ => (-1000000000000000)) (n := F) ?_ ?_ ?_ (by omega)
  · rw [H]; rfl
  · rintro f k ms hk rfl
    have hp : g.Places[k]? = some g.Places[k] := List.getElem?_eq_getElem hk
    obtain ⟨u, v, h1, h2, h3, h4⟩ := h.at' g.Places[k] (List.getElem_mem hk)
    have hstep : ∀ u' v', eP (g.Places.take (k + 1)) u' v' = (eP (g.Places.take k) u' v' || (g.Places[k].Tokens == 0 && (v' == v && u' == u))) := by
      intro u' v'
      unfold eP
      rw [List.take_add_one, hp, List.any_append]
      have e1 : ((v : Int) == (v' : Int)) = (v' == v) := Bool.eq_iff_iff.2 (by simp only [beq_iff_eq]; omega)
      have e2 : ((u : Int) == (u' : Int)) = (u' == u) := Bool.eq_iff_iff.2 (by simp only [beq_iff_eq]; omega)
      simp [h1, h2, e1, e2]
    by_cases ht : g.Places[k].Tokens = 0
    · refine .inl ⟨mat0 (eP (g.Places.take (k + 1))) n, ?_, rfl⟩
      have hrow := mat0_row (E := eP (g.Places.take k)) h4
      have hcell : ((List.range n).map fun u' => bif eP (g.Places.take k) u' v then (0 : Int) else (-1000000000000000))[u]? = some (bif eP (g.Places.take k) u v then (0 : Int) else (-1000000000000000)) := by rw [List.getElem?_map, List.getElem?_range h3]; rfl
      have e : mat0 (eP (g.Places.take (k + 1))) n = mat0 (fun u' v' => eP (g.Places.take k) u' v' || (v' == v && u' == u)) n := by
        congr 1; funext u' v'; rw [hstep, ht]; simp
      rw [e, ← mat0_set]
      simp only [spec_l12Free_L1, bdT (show (k : Int) < (g.Places.length : Int) by omega), idx_nat, hp, Option.bind_some, bT (show (g.Places[k].Tokens == 0) = true by rw [ht]; rfl), h1, h2, hrow, hcell, upd_nat _ (show u < ((List.range n).map fun u' => bif eP (g.Places.take k) u' v then (0 : Int) else (-1000000000000000)).length by simpa using h3), upd_nat _ (show v < (mat0 (eP (g.Places.take k)) n).length by unfold mat0; simpa using h4), wrN (show k ≤ 67108864 by omega)]
    · refine .inl ⟨mat0 (eP (g.Places.take (k + 1))) n, ?_, rfl⟩
      have e : mat0 (eP (g.Places.take (k + 1))) n = mat0 (eP (g.Places.take k)) n := by
        congr 1; funext u' v'; rw [hstep, beq_false_of_ne ht]; simp
      rw [e]
      simp only [spec_l12Free_L1, bdT (show (k : Int) < (g.Places.length : Int) by omega), idx_nat, hp, Option.bind_some, bF (beq_false_of_ne ht), wrN (show k ≤ 67108864 by omega)]
  · rintro f ms rfl
    rw [List.take_length]
    simp only [spec_l12Free_L1, bdF (show ¬ (g.Places.length : Int) < (g.Places.length : Int) by omega)]
  · unfold mat0 eP; simp

/-- a written cycle that goes on from a path -/
def Ext (E : Nat → Nat → Bool) (n f : Nat) (p : List Nat) (l : Nat) (q : List Nat) : Prop := (∀ x, x ∈ q → f < x ∧ x < n) ∧ (p ++ q).Nodup ∧ Chain E l q f
theorem grow_is {F n : Nat} {E : Nat → Nat → Bool} (hF : 134217728 ≤ F) (hn : n ≤ 1000) : ∀ (k : Nat) (p : List Nat) (f l : Nat), p[0]? = some f → p[p.length - 1]? = some l → p.Nodup → (∀ x, x ∈ p → x < n) → n + 1 ≤ k + p.length →
    ∃ r, spec_l03Grow_rec F k (mat0 E n) (nl p) 0 (-1) = some r ∧ (r ≠ [] ↔ ∃ q, Ext E n f p l q) := by
  intro k
  induction k with
  | zero =>
    intro p f l _ _ hd hl hk
    have := nodup_le n p hd hl
    omega
  | succ k ih =>
    intro p f l hf hl hd hlt hk
    have hp0 : 0 < p.length := (List.getElem?_eq_some_iff.1 hf).1
    have hpn := nodup_le n p hd hlt
    have hfn : f < n := hlt f (List.mem_of_getElem? hf)
    have hln : l < n := hlt l (List.mem_of_getElem? hl)
    have i1 : idx (nl p) 0 = some (f : Int) := by
      rw [show (0 : Int) = ((0 : Nat) : Int) from rfl, idx_nat, nl_at, hf]; rfl
    have i2 : idx (nl p) (IntKind.i64.wrap (((nl p).length : Int) - 1)) = some (l : Int) := by
      rw [nl_len, wr (by omega) (by omega), show (p.length : Int) - 1 = ((p.length - 1 : Nat) : Int) by omega, idx_nat, nl_at, hl]; rfl
    have cell : ∀ v, v < n → idx (mat0 E n) (v : Int) = some ((List.range n).map fun u => bif E u v then 0 else (-1000000000000000)) := fun v hv => by rw [idx_nat, mat0_row hv]
    have cel2 : ∀ v, idx ((List.range n).map fun u => bif E u v then (0 : Int) else (-1000000000000000)) (l : Int) = some (bif E l v then 0 else (-1000000000000000)) := fun v => by
      rw [idx_nat, List.getElem?_map, List.getElem?_range hln]; rfl
    unfold spec_l03Grow_rec
    simp only [i1, i2, cell f hfn, cel2, Option.bind_some]
    cases hE : E l f with
    | true =>
      refine ⟨nl p, rfl, ⟨fun _ => ⟨[], (fun x hx => (by cases hx)), by simpa using hd, hE⟩, fun _ e => ?_⟩⟩
      have := congrArg List.length e
      rw [nl_len] at this; simp at this; subst this; simp at hp0
    | false =>
      have H := for_ind (L := fun m (_ : Unit) i => spec_l03Grow_L1 F (mat0 E n) (nl p) 0 (-1) (l : Int) (spec_l03Grow_rec F k) m i) n
        (fun j _ => f < j ∧ ∀ v q, f < v → v < j → E l v = true → v ∉ p → ¬ Ext E n f (p ++ [v]) v q)
        (fun o => (∃ r, r ≠ [] ∧ o = some (.inl r) ∧ ∃ q, Ext E n f p l q) ∨ (o = some (.inr ()) ∧ ¬ ∃ q, Ext E n f p l q)) ?_ ?_ (n - (f + 1)) (f + 1) () F (by omega) ⟨by omega, fun v q h1 h2 => by omega⟩ (by omega)
      · have hw : IntKind.i64.wrap ((f : Int) + 1) = ((f + 1 : Nat) : Int) := wrN (by omega)
        have hc : ((-1000000000000000 : Int) != (-1000000000000000)) = false := rfl
        simp only [cond_false, hc, Option.bind_some, hw]
        rcases H with ⟨r, h1, h2, h3⟩ | ⟨h2, h3⟩
        · exact ⟨r, by simp only [h2, Option.bind_some], ⟨fun _ => h3, fun _ => h1⟩⟩
        · exact ⟨[], by simp only [h2, Option.bind_some], ⟨fun h => absurd rfl h, fun h => absurd h h3⟩⟩
      · rintro m j _ hj ⟨hfj, hI⟩
        have hown : spec_l01Own F (nl p) = some (nl p) := by
          unfold spec_l01Own
          rw [app_le (by rw [nl_len]; simp only [List.length_nil]; omega)]; rfl
        have happ : app (nl p) [(j : Int)] = some (nl (p ++ [j])) := by
          rw [app_le (by rw [nl_len]; simp only [List.length_singleton]; omega), nl_app]
        have hwj : IntKind.i64.wrap ((j : Int) + 1) = ((j + 1 : Nat) : Int) := wrN (by omega)
        have hml : ((mat0 E n).length : Int) = (n : Int) := by unfold mat0; simp
        cases hEj : E l j with
        | false =>
          refine .inl ⟨(), ?_, by omega, fun v q h1 h2 h3 h4 => ?_⟩
          · have hc : ((-1000000000000000 : Int) == (-1000000000000000)) = true := rfl
            simp only [spec_l03Grow_L1, hml, bdT (show (j : Int) < (n : Int) by omega), cell j hj, cel2, hEj, Option.bind_some, cond_false, hc, cond_true, hwj]
          · by_cases e : v = j
            · subst e; rw [hEj] at h3; cases h3
            · exact hI v q h1 (by omega) h3 h4
        | true =>
          have hc : ((0 : Int) == (-1000000000000000)) = false := rfl
          cases hpj : p.contains j with
          | true =>
            refine .inl ⟨(), ?_, by omega, fun v q h1 h2 h3 h4 => ?_⟩
            · simp only [spec_l03Grow_L1, hml, bdT (show (j : Int) < (n : Int) by omega), cell j hj, cel2, hEj, Option.bind_some, cond_true, hc, cond_false, specHas_is (F := F) (xs := nl p) (x := (j : Int)) hF (by rw [nl_len]; omega), nl_has, hpj, hwj]
            · by_cases e : v = j
              · subst e; exact absurd (by simpa using hpj) h4
              · exact hI v q h1 (by omega) h3 h4
          | false =>
            have hjp : j ∉ p := by simpa using hpj
            obtain ⟨r, hr, hriff⟩ := ih (p ++ [j]) f j (by rw [List.getElem?_append_left hp0]; exact hf) (by simp) (by
                rw [List.nodup_append]
                refine ⟨hd, by simp, fun a ha b hb e => ?_⟩
                simp only [List.mem_singleton] at hb
                exact hjp (by rw [← hb, ← e]; exact ha)) (fun x hx => by
                rcases List.mem_append.1 hx with hx | hx
                · exact hlt x hx
                · simp only [List.mem_singleton] at hx; omega) (by rw [List.length_append, List.length_singleton]; omega)
            have hw0 : IntKind.i64.wrap ((0 : Int) + 0) = 0 := rfl
            have S : spec_l03Grow_L1 F (mat0 E n) (nl p) 0 (-1) (l : Int) (spec_l03Grow_rec F k) (m + 1) (j : Int) = bif decide (0 < (r.length : Int)) then some (.inl r) else spec_l03Grow_L1 F (mat0 E n) (nl p) 0 (-1) (l : Int) (spec_l03Grow_rec F k) m ((j + 1 : Nat) : Int) := by
              simp only [spec_l03Grow_L1, hml, bdT (show (j : Int) < (n : Int) by omega), cell j hj, cel2, hEj, Option.bind_some, cond_true, hc, cond_false, specHas_is (F := F) (xs := nl p) (x := (j : Int)) hF (by rw [nl_len]; omega), nl_has, hpj, hown, happ, hw0, hr, hwj]
              cases decide (0 < (r.length : Int)) <;> rfl
            by_cases hre : r = []
            · refine .inl ⟨(), ?_, by omega, fun v q h1 h2 h3 h4 => ?_⟩
              · simp only [S, hre, List.length_nil, bdF (show ¬ (0 : Int) < ((0 : Nat) : Int) by omega)]
              · by_cases e : v = j
                · subst e
                  intro hx
                  exact (hriff.2 ⟨q, hx⟩) hre
                · exact hI v q h1 (by omega) h3 h4
            · refine .inr (.inl ⟨r, hre, ?_, ?_⟩)
              · have : 0 < r.length := List.length_pos_iff.2 hre
                simp only [S, bdT (show (0 : Int) < (r.length : Int) by omega)]
              · obtain ⟨q, h1, h2, h3⟩ := hriff.1 hre
                refine ⟨j :: q, fun x hx => ?_, by simpa using h2, hEj, h3⟩
                rcases List.mem_cons.1 hx with rfl | hx
                · exact ⟨hfj, hj⟩
                · exact h1 x hx
      · rintro m _ ⟨_, hI⟩
        refine .inr ⟨?_, ?_⟩
        · have hml : ((mat0 E n).length : Int) = (n : Int) := by unfold mat0; simp
          simp only [spec_l03Grow_L1, hml, bdF (show ¬ (n : Int) < (n : Int) by omega)]
        · rintro ⟨q, h1, h2, h3⟩
          cases q with
          | nil => rw [show Chain E l [] f = (E l f = true) from rfl, hE] at h3; cases h3
          | cons v q =>
            have hv := h1 v (by simp)
            refine hI v q hv.1 hv.2 h3.1 (fun hm => ?_) ⟨fun x hx => h1 x (by simp [hx]), by simpa using h2, h3.2⟩
            rw [List.nodup_append] at h2
            exact h2.2.2 v hm v (by simp) rfl
theorem specOver_is {F n : Nat} {E : Nat → Nat → Bool} (hF : 134217728 ≤ F) (hn : n ≤ 1000) : ∃ r, spec_l03Over F (mat0 E n) (-1) = some r ∧ (r ≠ [] ↔ ∃ v q, v < n ∧ Cyc E n v q) := by
  unfold spec_l03Over
  have hml : ((mat0 E n).length : Int) = (n : Int) := by unfold mat0; simp
  have H := for0 (L := fun m (_ : Unit) i => spec_l03Over_L1 F (mat0 E n) (-1) m i) (len := n) (fun j _ => ∀ v q, v < j → ¬ Cyc E n v q)
    (R := fun o => (∃ r, r ≠ [] ∧ o = some (.inl r) ∧ ∃ v q, v < n ∧ Cyc E n v q) ∨ (o = some (.inr ()) ∧ ¬ ∃ v q, v < n ∧ Cyc E n v q)) (s := ()) (n := F) ?_ ?_ (fun v q h => by omega) (by omega)
  · rcases H with ⟨r, h1, h2, h3⟩ | ⟨h2, h3⟩
    · exact ⟨r, by simp only [h2, Option.bind_some], ⟨fun _ => h3, fun _ => h1⟩⟩
    · exact ⟨[], by simp only [h2, Option.bind_some], ⟨fun h => absurd rfl h, fun h => absurd h h3⟩⟩
  · intro m j _ hj hI
    obtain ⟨r, hr, hriff⟩ := grow_is (F := F) (E := E) hF hn F [j] j j rfl rfl (by simp) (fun x hx => by simp only [List.mem_singleton] at hx; omega) (by simp only [List.length_singleton]; omega)
    have hgr : spec_l03Grow F (mat0 E n) [(j : Int)] 0 (-1) = some r := hr
    have hext : ∀ q, Ext E n j [j] j q ↔ Cyc E n j q := fun q => Iff.rfl
    by_cases hre : r = []
    · refine .inl ⟨(), ?_, fun v q hv hc => ?_⟩
      · simp only [spec_l03Over_L1, hml, bdT (show (j : Int) < (n : Int) by omega), hgr, Option.bind_some, hre, List.length_nil, bdF (show ¬ (0 : Int) < ((0 : Nat) : Int) by omega), wrN (show j ≤ 67108864 by omega)]
      · by_cases e : v = j
        · subst e
          exact (hriff.2 ⟨q, (hext q).2 hc⟩) hre
        · exact hI v q (by omega) hc
    · refine .inr (.inl ⟨r, hre, ?_, ?_⟩)
      · have : 0 < r.length := List.length_pos_iff.2 hre
        simp only [spec_l03Over_L1, hml, bdT (show (j : Int) < (n : Int) by omega), hgr, Option.bind_some, bdT (show (0 : Int) < (r.length : Int) by omega)]
      · obtain ⟨q, hq⟩ := hriff.1 hre
        exact ⟨j, q, hj, (hext q).1 hq⟩
  · intro m _ hI
    refine .inr ⟨?_, ?_⟩
    · simp only [spec_l03Over_L1, hml, bdF (show ¬ (n : Int) < (n : Int) by omega)]
    · rintro ⟨v, q, hv, hc⟩
      exact hI v q hv hc
/-- is the firing order complete -/
def liveB (g : GEventGraph) (n : Nat) : Bool := (fire (eP g.Places) n n []).isSome
theorem specDead_is {F n : Nat} {g : GEventGraph} (hF : 134217728 ≤ F) (h : GOk g n) : ∃ r, spec_l12Dead F g = some r ∧ decide (0 < (r.length : Int)) = !liveB g n := by
  have h10 := h.n10
  obtain ⟨r, h1, h2⟩ := specOver_is (F := F) (E := eP g.Places) (n := n) hF (by omega)
  refine ⟨r, by unfold spec_l12Dead; rw [bind_of (specFree_is hF h), h1]; rfl, ?_⟩
  unfold liveB
  cases hf : fire (eP g.Places) n n [] with
  | some o =>
    have : r = [] := Classical.byContradiction fun hr => by
      obtain ⟨v, q, _, hc⟩ := h2.1 hr
      exact fire_free h.edge hf hc
    subst this; rfl
  | none =>
    have hr : r ≠ [] := h2.2 (fire_stuck h.edge n [] (OrderOk.nil _ _) (by simp) hf)
    have : 0 < r.length := List.length_pos_iff.2 hr
    simp; exact this

theorem ready_is {g : GEventGraph} {n : Nat} (h : GOk g n) {o : List Nat} {e : Nat} : (!(g.Places.any fun p => p.To == (e : Int) && (p.Tokens == 0 && !((nl o).any fun y => y == p.From)))) = (List.range n).all fun u => !eP g.Places u e || o.contains u := by
  apply Bool.eq_iff_iff.2
  rw [Bool.not_eq_true', List.any_eq_false, List.all_eq_true]
  constructor
  · intro H u hu
    cases he : eP g.Places u e with
    | false => rfl
    | true =>
      unfold eP at he
      rw [List.any_eq_true] at he
      obtain ⟨p, hp, hq⟩ := he
      simp only [Bool.and_eq_true, beq_iff_eq] at hq
      have := H p hp
      rw [hq.1, hq.2.1, hq.2.2, nl_has] at this
      simpa using this
  · intro H p hp hc
    simp only [Bool.and_eq_true, beq_iff_eq, Bool.not_eq_true'] at hc
    obtain ⟨u, v, h1, h2, h3, h4⟩ := h.at' p hp
    have := H u (by simpa using h3)
    rw [h1, nl_has] at hc
    rw [Bool.or_eq_true] at this
    rcases this with h5 | h5
    · have : eP g.Places u e = true := by
        unfold eP
        rw [List.any_eq_true]
        exact ⟨p, hp, by simp only [Bool.and_eq_true, beq_iff_eq]; exact ⟨hc.2.1, hc.1, h1⟩⟩
      rw [this] at h5; cases h5
    · rw [h5] at hc; simp at hc
def nextI : Option Nat → Int
  | some e => (e : Int)
  | none => -1
theorem orderRound {F n : Nat} {g : GEventGraph} (hF : 134217728 ≤ F) (h : GOk g n) {o : List Nat} (ho : o.length ≤ n) :
    impl_firingOrder_L5 F g (nl o) F (-1) 0 = some (nextI (nextOf (eP g.Places) n o)) := by
  have h10 := h.n10
  have hl := h.len
  refine for0 (L := impl_firingOrder_L5 F g (nl o)) (len := n) (fun k s => (s = -1 ∧ ∀ e, e < k → readyB (eP g.Places) n o e = false) ∨ ∃ e : Nat, s = (e : Int) ∧ nextOf (eP g.Places) n o = some e) (R := fun r => r = some (nextI (nextOf (eP g.Places) n o))) ?_ ?_ (.inl ⟨rfl, fun e he => by omega⟩) (by omega)
  · rintro m k s hk (⟨rfl, hI⟩ | ⟨e, rfl, he⟩)
    · have hc : slices_ContainsFunc_Place F g.Places (fun x0 => impl_firingOrder_c1 F x0 (k : Int) (nl o)) = some (g.Places.any fun p => p.To == (k : Int) && (p.Tokens == 0 && !((nl o).any fun y => y == p.From))) := by
        refine slices_ContainsFunc_Place_is hF (by omega) (fun p _ => ?_)
        simp only [impl_firingOrder_c1, implHas_is (F := F) (xs := nl o) (x := p.From) hF (by rw [nl_len]; omega), Option.bind_some]
        cases (p.To == (k : Int)) <;> cases (p.Tokens == 0) <;> rfl
      have S : impl_firingOrder_L5 F g (nl o) (m + 1) (-1) (k : Int) = bif readyB (eP g.Places) n o k then impl_firingOrder_L5 F g (nl o) m (k : Int) ((k + 1 : Nat) : Int) else impl_firingOrder_L5 F g (nl o) m (-1) ((k + 1 : Nat) : Int) := by
        have hlt : decide ((k : Int) < g.Events) = true := by rw [h.ev]; exact decide_eq_true (by omega)
        simp only [impl_firingOrder_L5, hlt, cond_true, Option.bind_some, implHas_is (F := F) (xs := nl o) (x := (k : Int)) hF (by rw [nl_len]; omega), nl_has, hc, ready_is h, wrN (show k ≤ 67108864 by omega), show decide ((-1 : Int) < 0) = true from rfl]
        unfold readyB
        cases o.contains k <;> cases ((List.range n).all fun u => !eP g.Places u k || o.contains u) <;> rfl
      cases hr : readyB (eP g.Places) n o k with
      | true =>
        refine .inl ⟨(k : Int), by rw [S, hr]; rfl, .inr ⟨k, rfl, ?_⟩⟩
        unfold nextOf
        rw [List.find?_eq_some_iff_getElem]
        refine ⟨hr, k, by simpa using hk, by simp, fun j hj => ?_⟩
        simp [hI j hj]
      | false =>
        refine .inl ⟨-1, by rw [S, hr]; rfl, .inl ⟨rfl, fun e he => ?_⟩⟩
        by_cases e2 : e = k
        · subst e2; exact hr
        · exact hI e (by omega)
    · refine .inr ?_
      rw [he]
      have : decide ((e : Int) < 0) = false := decide_eq_false (by omega)
      simp only [impl_firingOrder_L5, this]
      cases decide ((k : Int) < g.Events) <;> rfl
  · rintro m s (⟨rfl, hI⟩ | ⟨e, rfl, he⟩)
    · have hno : nextOf (eP g.Places) n o = none := by
        unfold nextOf
        rw [List.find?_eq_none]
        intro x hx
        rw [hI x (by simpa using hx)]; decide
      rw [hno]
      have hlt : decide ((n : Int) < g.Events) = false := by rw [h.ev]; exact decide_eq_false (by omega)
      simp only [impl_firingOrder_L5, hlt, cond_false, Option.bind_some, nextI]
    · rw [he]
      have hlt : decide ((n : Int) < g.Events) = false := by rw [h.ev]; exact decide_eq_false (by omega)
      simp only [impl_firingOrder_L5, hlt, cond_false, Option.bind_some, nextI]
theorem orderLoop {F n : Nat} {g : GEventGraph} (hF : 134217728 ≤ F) (h : GOk g n) : ∀ (k : Nat) (o : List Nat) (m : Nat), o.length + k = n → k < m →
    impl_firingOrder_L4 F g m (nl o) = some (match fire (eP g.Places) n k o with | some o' => .inr (nl o') | none => .inl ([], false)) := by
  have h10 := h.n10
  intro k
  induction k with
  | zero =>
    intro o m ho hm
    obtain ⟨m, rfl⟩ : ∃ m', m = m' + 1 := ⟨m - 1, by omega⟩
    have : decide (((nl o).length : Int) < g.Events) = false := by rw [h.ev, nl_len]; exact decide_eq_false (by omega)
    simp only [impl_firingOrder_L4, this, cond_false, fire]
  | succ k ih =>
    intro o m ho hm
    obtain ⟨m, rfl⟩ : ∃ m', m = m' + 1 := ⟨m - 1, by omega⟩
    have : decide (((nl o).length : Int) < g.Events) = true := by rw [h.ev, nl_len]; exact decide_eq_true (by omega)
    simp only [impl_firingOrder_L4, this, cond_true, orderRound hF h (show o.length ≤ n by omega), Option.bind_some, fire]
    cases hx : nextOf (eP g.Places) n o with
    | none => rfl
    | some e =>
      have he : decide ((e : Int) < 0) = false := decide_eq_false (by omega)
      have happ : app (nl o) [(e : Int)] = some (nl (o ++ [e])) := by
        rw [app_le (by rw [nl_len]; simp only [List.length_singleton]; omega), nl_app]
      simp only [nextI, happ, Option.bind_some]
      exact ih (o ++ [e]) m (by rw [List.length_append, List.length_singleton]; omega) (by omega)
theorem implOrder_is {F n : Nat} {g : GEventGraph} (hF : 134217728 ≤ F) (h : GOk g n) : impl_firingOrder F g = some (match fire (eP g.Places) n n [] with | some o => (nl o, true) | none => ([], false)) := by
  have h10 := h.n10
  unfold impl_firingOrder
  have := orderLoop hF h n [] F (by simp) (by omega)
  rw [show nl [] = [] from rfl] at this
  rw [this]
  cases fire (eP g.Places) n n [] <;> rfl
theorem implLive_is {F n : Nat} {g : GEventGraph} (hF : 134217728 ≤ F) (h : GOk g n) : impl_isLive F g = some (liveB g n) := by
  unfold impl_isLive liveB
  rw [bind_of (implOrder_is hF h)]
  cases fire (eP g.Places) n n [] <;> rfl

/-! ### The code of a graph, a timetable and delays -/
def delayCode (g : GEventGraph) (t : GTimetable) (ds : List Int) (ok : Bool) : Int :=
  bif !graphB g then 1 else bif !tableB g t || !startsB g ds || !ok then 2 else bif !liveB g g.Events.toNat || !keptB g t then 5 else 0
theorem specDelayCode_is {F : Nat} {g : GEventGraph} {t : GTimetable} {ds : List Int} {ok : Bool} (hF : 134217728 ≤ F) (hP : g.Places.length ≤ 1048576) (hl : t.Starts.length ≤ 1048576) (hd : ds.length ≤ 1048576) : spec_l21Code F g t ds ok = some (delayCode g t ds ok) := by
  unfold spec_l21Code delayCode
  rw [bind_of (specTableCode_is hF hP hl)]
  cases hg : graphB g with
  | false => rfl
  | true =>
    cases ht : tableB g t with
    | false => rfl
    | true =>
      have e : (bif ((ds.length : Int) != g.Events) then some true else (spec_l01Within F ds 10 0 1000000).bind fun r15 => some (!r15)) = some (!startsB g ds) := by
        have := specStarts_is (xs := ds) hF hd hg
        unfold startsB at this ⊢
        rw [bne]
        cases he : ((ds.length : Int) == g.Events) with
        | false => rfl
        | true =>
          rw [he] at this
          simp only [cond_true] at this
          simp only [Bool.not_true, cond_false, this, Option.bind_some]
      obtain ⟨r, hr1, hr2⟩ := specDead_is hF (GOk.of hg)
      simp only [Bool.not_true, cond_false, bne_self_eq_false, e]
      cases ok <;> cases startsB g ds <;> try rfl
      simp only [Bool.not_true, cond_false, Option.bind_some, hr1, hr2, specKept_is hF hg (tableB_len ht)]
      cases liveB g g.Events.toNat <;> cases keptB g t <;> rfl
theorem implDelayCode_is {F : Nat} {g : GEventGraph} {t : GTimetable} {ds : List Int} {ok : Bool} (hF : 134217728 ≤ F) (hP : g.Places.length ≤ 1048576) (hl : t.Starts.length ≤ 1048576) (hd : ds.length ≤ 1048576) : impl_checkDelays F g t ds ok = some (delayCode g t ds ok) := by
  unfold impl_checkDelays delayCode
  rw [bind_of (implGraph_is hF hP)]
  cases hg : graphB g with
  | false => rfl
  | true =>
    simp only [Bool.not_true, cond_false, implTable_is hF hl, Option.bind_some]
    cases ht : tableB g t with
    | false => rfl
    | true =>
      have e : (bif ((ds.length : Int) != g.Events) then some true else (impl_allWithin F ds 0 1000000).bind fun r20 => bif !r20 then some true else some (!ok)) = some (!startsB g ds || !ok) := by
        unfold startsB
        rw [bne, implAllWithin_is hF hd]
        cases ((ds.length : Int) == g.Events) <;> cases (ds.all fun x => inB x 0 1000000) <;> cases ok <;> rfl
      simp only [Bool.not_true, cond_false, e, Option.bind_some, Bool.false_or]
      cases (!startsB g ds || !ok) with
      | true => rfl
      | false =>
        simp only [cond_false, implLive_is hF (GOk.of hg), implKept_is hF hg (tableB_len ht), Option.bind_some]
        cases liveB g g.Events.toNat <;> cases keptB g t <;> rfl
theorem delayCode_zero {g : GEventGraph} {t : GTimetable} {ds : List Int} {ok : Bool} (h : delayCode g t ds ok = 0) : graphB g = true ∧ tableB g t = true ∧ startsB g ds = true ∧ ok = true ∧ liveB g g.Events.toNat = true ∧ keptB g t = true := by
  unfold delayCode at h
  revert h
  cases graphB g <;> cases tableB g t <;> cases startsB g ds <;> cases ok <;> cases liveB g g.Events.toNat <;> cases keptB g t <;> simp

/-! ### The reference's order -/
theorem specReady_is {F n e : Nat} {g : GEventGraph} {o : List Nat} (hF : 134217728 ≤ F) (h : GOk g n) (ho : o.length ≤ n) (he : e < n) : spec_l12Order_L21 F g (mat0 (eP g.Places) n) (nl o) (e : Int) F (!o.contains e) 0 = some (readyB (eP g.Places) n o e) := by
  have h10 := h.n10
  have H := for0 (L := fun m (s : Bool) i => spec_l12Order_L21 F g (mat0 (eP g.Places) n) (nl o) (e : Int) m s i) (len := n) (fun k s => s = (!o.contains e && (List.range k).all fun u => !eP g.Places u e || o.contains u)) (R := fun r => r = some (readyB (eP g.Places) n o e)) (s := !o.contains e) (n := F) ?_ ?_ (by simp) (by omega)
  · exact H
  · rintro m k s hk rfl
    refine .inl ⟨_, ?_, rfl⟩
    have hlt : decide ((k : Int) < g.Events) = true := by rw [h.ev]; exact decide_eq_true (by omega)
    have hcell : idx ((List.range n).map fun u => bif eP g.Places u e then (0 : Int) else (-1000000000000000)) (k : Int) = some (bif eP g.Places k e then 0 else (-1000000000000000)) := by rw [idx_nat, List.getElem?_map, List.getElem?_range hk]; rfl
    simp only [spec_l12Order_L21, hlt, cond_true, idx_nat, mat0_row he, Option.bind_some]
    rw [← idx_nat, hcell]
    simp only [Option.bind_some, specHas_is (F := F) (xs := nl o) (x := (k : Int)) hF (by rw [nl_len]; omega), nl_has, wrN (show k ≤ 67108864 by omega), List.range_succ, List.all_append, List.all_cons, List.all_nil, Bool.and_true]
    cases o.contains e <;> cases ((List.range k).all fun u => !eP g.Places u e || o.contains u) <;> cases eP g.Places k e <;> cases o.contains k <;> rfl
  · rintro m s rfl
    have hlt : decide ((n : Int) < g.Events) = false := by rw [h.ev]; exact decide_eq_false (by omega)
    simp only [spec_l12Order_L21, hlt, cond_false]; rfl
theorem specRound_is {F n : Nat} {g : GEventGraph} {o : List Nat} (hF : 134217728 ≤ F) (h : GOk g n) (ho : o.length ≤ n) : spec_l12Order_L20 F g (mat0 (eP g.Places) n) (nl o) F 0 = some (nl (match nextOf (eP g.Places) n o with | some e => o ++ [e] | none => o)) := by
  have h10 := h.n10
  have H := for0 (L := fun m (_ : Unit) i => spec_l12Order_L20 F g (mat0 (eP g.Places) n) (nl o) m i) (len := n) (fun k _ => ∀ e, e < k → readyB (eP g.Places) n o e = false) (R := fun r => r = some (nl (match nextOf (eP g.Places) n o with | some e => o ++ [e] | none => o))) (s := ()) (n := F) ?_ ?_ (fun e he => by omega) (by omega)
  · exact H
  · intro m k _ hk hI
    have hlt : decide ((k : Int) < g.Events) = true := by rw [h.ev]; exact decide_eq_true (by omega)
    have S : spec_l12Order_L20 F g (mat0 (eP g.Places) n) (nl o) (m + 1) (k : Int) = bif readyB (eP g.Places) n o k then (app (nl o) [(k : Int)]).bind fun xs => some xs else spec_l12Order_L20 F g (mat0 (eP g.Places) n) (nl o) m ((k + 1 : Nat) : Int) := by
      simp only [spec_l12Order_L20, hlt, cond_true, specHas_is (F := F) (xs := nl o) (x := (k : Int)) hF (by rw [nl_len]; omega), nl_has, Option.bind_some, specReady_is hF h ho hk, wrN (show k ≤ 67108864 by omega)]
    cases hr : readyB (eP g.Places) n o k with
    | false =>
      refine .inl ⟨(), by simp only [S, hr, cond_false], fun e he => ?_⟩
      by_cases e2 : e = k
      · subst e2; exact hr
      · exact hI e (by omega)
    | true =>
      refine .inr ?_
      have hn : nextOf (eP g.Places) n o = some k := by
        unfold nextOf
        rw [List.find?_eq_some_iff_getElem]
        exact ⟨hr, k, by simpa using hk, by simp, fun j hj => by simp [hI j hj]⟩
      have happ : app (nl o) [(k : Int)] = some (nl (o ++ [k])) := by
        rw [app_le (by rw [nl_len]; simp only [List.length_singleton]; omega), nl_app]
      simp only [S, hr, cond_true, happ, Option.bind_some, hn]
  · intro m _ hI
    have hno : nextOf (eP g.Places) n o = none := by
      unfold nextOf
      rw [List.find?_eq_none]
      intro x hx
      rw [hI x (by simpa using hx)]; decide
    have hlt : decide ((n : Int) < g.Events) = false := by rw [h.ev]; exact decide_eq_false (by omega)
    simp only [spec_l12Order_L20, hlt, cond_false, hno]
theorem specOrderLoop {F n : Nat} {g : GEventGraph} (hF : 134217728 ≤ F) (h : GOk g n) : ∀ (k : Nat) (o o' : List Nat) (m : Nat), o.length + k = n → k < m → fire (eP g.Places) n k o = some o' → spec_l12Order_L16 F g (mat0 (eP g.Places) n) m (nl o) = some (nl o') := by
  have h10 := h.n10
  intro k
  induction k with
  | zero =>
    intro o o' m ho hm hf
    obtain ⟨m, rfl⟩ : ∃ m', m = m' + 1 := ⟨m - 1, by omega⟩
    unfold fire at hf
    cases hf
    have : decide (((nl o).length : Int) < g.Events) = false := by rw [h.ev, nl_len]; exact decide_eq_false (by omega)
    simp only [spec_l12Order_L16, this, cond_false]
  | succ k ih =>
    intro o o' m ho hm hf
    obtain ⟨m, rfl⟩ : ∃ m', m = m' + 1 := ⟨m - 1, by omega⟩
    have : decide (((nl o).length : Int) < g.Events) = true := by rw [h.ev, nl_len]; exact decide_eq_true (by omega)
    unfold fire at hf
    cases hx : nextOf (eP g.Places) n o with
    | none => rw [hx] at hf; cases hf
    | some e =>
      rw [hx] at hf
      simp only [spec_l12Order_L16, this, cond_true, specRound_is hF h (show o.length ≤ n by omega), Option.bind_some, hx]
      exact ih (o ++ [e]) o' m (by rw [List.length_append, List.length_singleton]; omega) (by omega) hf
theorem specOrder_is {F n : Nat} {g : GEventGraph} (hF : 134217728 ≤ F) (h : GOk g n) {o : List Nat} (ho : fire (eP g.Places) n n [] = some o) : spec_l12Order F g = some (nl o) := by
  have h10 := h.n10
  unfold spec_l12Order
  have := specOrderLoop hF h n [] o F (by simp) (by omega) ho
  rw [show nl [] = [] from rfl] at this
  rw [bind_of (specFree_is hF h), this]; rfl

/-! ### Tables row by row -/
def plD (g : GEventGraph) (i : Nat) : GPlace := g.Places.getD i ⟨0, 0, 0, 0⟩
theorem plD_of {g : GEventGraph} {k : Nat} (h : k < g.Places.length) : g.Places[k]? = some (plD g k) := by
  unfold plD; rw [List.getD_eq_getElem?_getD, List.getElem?_eq_getElem h]; rfl
theorem foldl_len {α : Type} {f : List Int → α → List Int} (hf : ∀ xs a, (f xs a).length = xs.length) : ∀ (l : List α) (xs : List Int), (l.foldl f xs).length = xs.length
  | [], _ => rfl
  | a :: l, xs => by rw [List.foldl_cons, foldl_len hf l, hf]
/-- the parts of a table that is under way -/
structure DOk (g : GEventGraph) (n : Nat) (pre : List (List Int)) (xs : List Int) : Prop where
  rws : ∀ r, r ∈ pre → r.length = n
  row : xs.length = n
  le : pre.length ≤ 50
theorem DOk.at' {g : GEventGraph} {n : Nat} {pre : List (List Int)} {xs : List Int} (h : DOk g n pre xs) {m : Nat} (hm : m ≤ pre.length) : (pre ++ [xs])[m]? = some ((pre ++ [xs]).getD m []) ∧ ((pre ++ [xs]).getD m []).length = n := by
  have hl : m < (pre ++ [xs]).length := by simp; omega
  have e : (pre ++ [xs])[m]? = some ((pre ++ [xs]).getD m []) := by rw [List.getD_eq_getElem?_getD, List.getElem?_eq_getElem hl]; rfl
  refine ⟨e, ?_⟩
  rcases List.mem_append.1 (List.mem_of_getElem? e) with h1 | h1
  · exact h.rws _ h1
  · simp only [List.mem_singleton] at h1; rw [h1]; exact h.row
theorem getN {xs : List Int} {i : Int} {u n : Nat} (h : i = (u : Int)) (hu : u < n) (hx : xs.length = n) : idx xs i = some (xs.getD i.toNat 0) := by
  subst h; rw [idx_nat, Int.toNat_natCast, getD_of (by omega)]
theorem upd_last {pre : List (List Int)} {xs ys : List Int} : upd (pre ++ [xs]) (pre.length : Int) ys = some (pre ++ [ys]) := by
  rw [upd_nat _ (by simp)]; simp
structure PlOk (g : GEventGraph) (n : Nat) (i : Nat) : Prop where
  from' : ∃ u : Nat, (plD g i).From = (u : Int) ∧ u < n
  to' : ∃ v : Nat, (plD g i).To = (v : Int) ∧ v < n
  tok : ∃ w : Nat, (plD g i).Tokens = (w : Int) ∧ w ≤ 5
theorem graphB_tok {g : GEventGraph} (h : graphB g = true) : ∀ p, p ∈ g.Places → 0 ≤ p.Tokens ∧ p.Tokens ≤ 5 ∧ 0 ≤ p.Delay ∧ p.Delay ≤ 1000 := by
  intro p hp
  unfold graphB at h
  simp only [Bool.and_eq_true, List.all_eq_true] at h
  have := h.1 p hp
  simp only [placeB, Bool.and_eq_true, inB_true] at this
  omega
theorem PlOk.of {g : GEventGraph} (h : graphB g = true) {i : Nat} (hi : i < g.Places.length) : PlOk g g.Events.toNat i := by
  have hm : plD g i ∈ g.Places := List.mem_of_getElem? (plD_of hi)
  obtain ⟨u, v, h1, h2, h3, h4⟩ := (GOk.of h).at' _ hm
  have := graphB_tok h _ hm
  exact ⟨⟨u, h1, h3⟩, ⟨v, h2, h4⟩, ⟨(plD g i).Tokens.toNat, by omega, by omega⟩⟩

theorem foldl_range {S : Type} {f : S → Nat → S} {o : List Nat} {s : S} {k : Nat} (hk : k < o.length) : (o.take (k + 1)).foldl f s = f ((o.take k).foldl f s) (o.getD k 0) := by
  have : o[k]? = some (o.getD k 0) := by rw [List.getD_eq_getElem?_getD, List.getElem?_eq_getElem hk]; rfl
  rw [List.take_add_one, this, List.foldl_append]; rfl
def zeros (g : GEventGraph) : List Int := List.replicate g.Events.toNat 0

/-! ### The table of delays -/
/-- one place, for event e in round k -/
def dstep (g : GEventGraph) (t : GTimetable) (pre : List (List Int)) (e : Nat) (xs : List Int) (i : Nat) : List Int :=
  bif (plD g i).To == (e : Int) && decide ((plD g i).Tokens ≤ (pre.length : Int)) then xs.set e (max (xs.getD e 0) (IntKind.i64.wrap (((pre ++ [xs]).getD (pre.length - (plD g i).Tokens.toNat) []).getD (plD g i).From.toNat 0 - slk1 t (plD g i)))) else xs
def devent (g : GEventGraph) (t : GTimetable) (pre : List (List Int)) (xs : List Int) (e : Nat) : List Int := (List.range g.Places.length).foldl (dstep g t pre e) xs
theorem dstep_len (g : GEventGraph) (t : GTimetable) (pre : List (List Int)) (e : Nat) (xs : List Int) (i : Nat) : (dstep g t pre e xs i).length = xs.length := by
  unfold dstep
  cases ((plD g i).To == (e : Int) && decide ((plD g i).Tokens ≤ (pre.length : Int))) <;> simp
theorem devent_len (g : GEventGraph) (t : GTimetable) (pre : List (List Int)) (xs : List Int) (e : Nat) : (devent g t pre xs e).length = xs.length := foldl_len (dstep_len g t pre e) _ _
theorem specInner {F : Nat} {g : GEventGraph} {t : GTimetable} {pre ms0 : List (List Int)} {xs : List Int} {r3 : List Int} {e j : Nat} (hF : 134217728 ≤ F) (hg : graphB g = true) (ht : (t.Starts.length : Int) = g.Events) (h : DOk g g.Events.toNat pre xs) (hms : ms0.length = pre.length) (hr : r3[j]? = some (e : Int)) (_ : e < g.Events.toNat) :
    spec_l21Table_L21 F g t r3 ms0 ((pre.length : Int) + 1) (j : Int) F (pre ++ [xs]) 0 xs = some (pre ++ [devent g t pre xs e], devent g t pre xs e) := by
  have hG := GOk.of hg
  have hlen := hG.len
  have hle := h.le
  have H := for0 (L := fun m (s : List (List Int) × List Int) i => spec_l21Table_L21 F g t r3 ms0 ((pre.length : Int) + 1) (j : Int) m s.1 i s.2) (len := g.Places.length)
    (fun k s => s = (pre ++ [(List.range k).foldl (dstep g t pre e) xs], (List.range k).foldl (dstep g t pre e) xs)) (R := fun o => o = some (pre ++ [devent g t pre xs e], devent g t pre xs e)) (s := (pre ++ [xs], xs)) (n := F) ?_ ?_ rfl (by omega)
  · exact H
  · rintro m k s hk rfl
    have hys : ((List.range k).foldl (dstep g t pre e) xs).length = g.Events.toNat := by rw [foldl_len (dstep_len g t pre e)]; exact h.row
    generalize hyd : (List.range k).foldl (dstep g t pre e) xs = ys at hys
    have hD : DOk g g.Events.toNat pre ys := ⟨h.rws, hys, h.le⟩
    obtain ⟨⟨u, hu, hun⟩, ⟨v, hv, hvn⟩, ⟨w, hw, hw5⟩⟩ := PlOk.of hg hk
    have hstep : (List.range (k + 1)).foldl (dstep g t pre e) xs = dstep g t pre e ys k := by rw [List.range_succ, List.foldl_append, hyd]; rfl
    refine .inl ⟨(pre ++ [dstep g t pre e ys k], dstep g t pre e ys k), ?_, by rw [hstep]⟩
    have hwr : IntKind.i64.wrap ((pre.length : Int) + 1 - (plD g k).Tokens) = (pre.length : Int) + 1 - w := by rw [hw]; exact wr (by omega) (by omega)
    have hsl : ∀ i : Int, ∀ q : Nat, i = (q : Int) → q < g.Events.toNat → idx t.Starts i = some (t.Starts.getD i.toNat 0) := fun i q hi hq => getN hi hq (by omega)
    simp only [spec_l21Table_L21, bdT (show (k : Int) < (g.Places.length : Int) by omega), idx_nat, plD_of hk, hr, Option.bind_some, hwr, wrN (show k ≤ 67108864 by omega)]
    by_cases hto : (plD g k).To = (e : Int)
    · rw [bF (neF hto)]
      by_cases htk : w ≤ pre.length
      · rw [decide_eq_false (show ¬ (pre.length : Int) + 1 - (w : Int) < 1 by omega)]
        have hve : v = e := by omega
        subst hve
        have hw2 : IntKind.i64.wrap ((pre.length : Int) + 1 - (w : Int) - 1) = ((pre.length - w : Nat) : Int) := by rw [wr (by omega) (by omega)]; omega
        obtain ⟨ha, hb⟩ := hD.at' (m := pre.length - w) (by omega)
        have hx := getN (xs := ys) hv hvn hys
        have hrow := getN (xs := (pre ++ [ys]).getD (pre.length - w) []) hu hun hb
        have htn : (plD g k).To.toNat = v := by rw [hv]; rfl
        have hupd : ∀ y, upd ys (plD g k).To y = some (ys.set v y) := fun y => by rw [hv, upd_nat _ (by omega)]
        have hms' : (ms0.length : Int) = (pre.length : Int) := by omega
        simp only [Option.bind_some, cond_false, hsl _ v hv hvn, hsl _ u hu hun, hx, hw2, idx_nat, ha, hrow, hupd, hms', upd_last, htn]
        unfold dstep
        rw [hv, beq_self_eq_true, hw, decide_eq_true (show (w : Int) ≤ (pre.length : Int) by omega)]
        simp only [Bool.and_self, cond_true, Int.toNat_natCast]
        unfold slk1
        rw [hv, hw]; rfl
      · rw [decide_eq_true (show (pre.length : Int) + 1 - (w : Int) < 1 by omega)]
        simp only [Option.bind_some, cond_true]
        unfold dstep
        rw [hw, decide_eq_false (show ¬ (w : Int) ≤ (pre.length : Int) by omega), Bool.and_false]; rfl
    · rw [bT (neT hto)]
      simp only [Option.bind_some, cond_true]
      unfold dstep
      rw [beq_false_of_ne hto, Bool.false_and]; rfl
  · rintro m s rfl
    simp only [spec_l21Table_L21, bdF (show ¬ (g.Places.length : Int) < (g.Places.length : Int) by omega)]; rfl
theorem implInner {F : Nat} {g : GEventGraph} {t : GTimetable} {pre ms0 : List (List Int)} {xs : List Int} {e : Nat} (hF : 134217728 ≤ F) (hg : graphB g = true) (h : DOk g g.Events.toNat pre xs) (hms : ms0.length = pre.length) (_he : e < g.Events.toNat) :
    impl_delayTable_L21 F g ms0 (pre.length : Int) (e : Int) (slk g t) F (pre ++ [xs]) 0 xs = some (pre ++ [devent g t pre xs e], devent g t pre xs e) := by
  have hG := GOk.of hg
  have hlen := hG.len
  have hle := h.le
  have hsl := slk_len g t
  have H := for0 (L := fun m (s : List (List Int) × List Int) i => impl_delayTable_L21 F g ms0 (pre.length : Int) (e : Int) (slk g t) m s.1 i s.2) (len := g.Places.length)
    (fun k s => s = (pre ++ [(List.range k).foldl (dstep g t pre e) xs], (List.range k).foldl (dstep g t pre e) xs)) (R := fun o => o = some (pre ++ [devent g t pre xs e], devent g t pre xs e)) (s := (pre ++ [xs], xs)) (n := F) ?_ ?_ rfl (by omega)
  · exact H
  · rintro m k s hk rfl
    have hys : ((List.range k).foldl (dstep g t pre e) xs).length = g.Events.toNat := by rw [foldl_len (dstep_len g t pre e)]; exact h.row
    generalize hyd : (List.range k).foldl (dstep g t pre e) xs = ys at hys
    have hD : DOk g g.Events.toNat pre ys := ⟨h.rws, hys, h.le⟩
    obtain ⟨⟨u, hu, hun⟩, ⟨v, hv, hvn⟩, ⟨w, hw, hw5⟩⟩ := PlOk.of hg hk
    have hstep : (List.range (k + 1)).foldl (dstep g t pre e) xs = dstep g t pre e ys k := by rw [List.range_succ, List.foldl_append, hyd]; rfl
    refine .inl ⟨(pre ++ [dstep g t pre e ys k], dstep g t pre e ys k), ?_, by rw [hstep]⟩
    have hsk : (slk g t)[k]? = some (slk1 t (plD g k)) := by unfold slk; rw [List.getElem?_map, plD_of hk]; rfl
    simp only [impl_delayTable_L21, bdT (show (k : Int) < ((slk g t).length : Int) by omega), idx_nat, plD_of hk, hsk, Option.bind_some, wrN (show k ≤ 67108864 by omega)]
    by_cases hto : (plD g k).To = (e : Int)
    · by_cases htk : w ≤ pre.length
      · have hd : decide ((plD g k).Tokens ≤ (pre.length : Int)) = true := by rw [hw]; exact decide_eq_true (by omega)
        have hw2 : IntKind.i64.wrap ((pre.length : Int) - (plD g k).Tokens) = ((pre.length - w : Nat) : Int) := by rw [hw, wr (by omega) (by omega)]; omega
        obtain ⟨ha, hb⟩ := hD.at' (m := pre.length - w) (by omega)
        have hrow := getN (xs := (pre ++ [ys]).getD (pre.length - w) []) hu hun hb
        have hx : ys[e]? = some (ys.getD e 0) := getD_of (by omega)
        have hms' : (ms0.length : Int) = (pre.length : Int) := by omega
        rw [hto, beq_self_eq_true]
        simp only [cond_true, Option.bind_some, hd, hx, hw2, idx_nat, ha, hrow, upd_nat _ (show e < ys.length by omega), hms', upd_last]
        unfold dstep
        rw [hto, beq_self_eq_true, hd, hw]
        simp only [Bool.and_self, cond_true, Int.toNat_natCast]
      · have hd : decide ((plD g k).Tokens ≤ (pre.length : Int)) = false := by rw [hw]; exact decide_eq_false (by omega)
        rw [hto, beq_self_eq_true]
        simp only [cond_true, Option.bind_some, hd, cond_false]
        unfold dstep
        rw [hd, Bool.and_false]; rfl
    · rw [beq_false_of_ne hto]
      simp only [cond_false, Option.bind_some]
      unfold dstep
      rw [beq_false_of_ne hto, Bool.false_and]; rfl
  · rintro m s rfl
    simp only [impl_delayTable_L21, bdF (show ¬ (g.Places.length : Int) < ((slk g t).length : Int) by omega)]; rfl
def dround (g : GEventGraph) (t : GTimetable) (o : List Nat) (pre : List (List Int)) (xs : List Int) : List Int := o.foldl (devent g t pre) xs
theorem dround_len (g : GEventGraph) (t : GTimetable) (o : List Nat) (pre : List (List Int)) (xs : List Int) : (dround g t o pre xs).length = xs.length := foldl_len (devent_len g t pre) _ _
theorem specEvents {F : Nat} {g : GEventGraph} {t : GTimetable} {o : List Nat} {pre ms0 : List (List Int)} {xs : List Int} (hF : 134217728 ≤ F) (hg : graphB g = true) (ht : (t.Starts.length : Int) = g.Events) (h : DOk g g.Events.toNat pre xs) (hms : ms0.length = pre.length) (ho : ∀ x, x ∈ o → x < g.Events.toNat) (hol : o.length ≤ 10) :
    spec_l21Table_L20 F g t (nl o) ms0 ((pre.length : Int) + 1) F (pre ++ [xs]) 0 xs = some (pre ++ [dround g t o pre xs]) := by
  have H := for0 (L := fun m (s : List (List Int) × List Int) i => spec_l21Table_L20 F g t (nl o) ms0 ((pre.length : Int) + 1) m s.1 i s.2) (len := o.length)
    (fun k s => s = (pre ++ [(o.take k).foldl (devent g t pre) xs], (o.take k).foldl (devent g t pre) xs)) (R := fun q => q = some (pre ++ [dround g t o pre xs])) (s := (pre ++ [xs], xs)) (n := F) ?_ ?_ rfl (by omega)
  · exact H
  · rintro m k s hk rfl
    have hys : ((o.take k).foldl (devent g t pre) xs).length = g.Events.toNat := by rw [foldl_len (devent_len g t pre)]; exact h.row
    have hD : DOk g g.Events.toNat pre ((o.take k).foldl (devent g t pre) xs) := ⟨h.rws, hys, h.le⟩
    have hok : o[k]? = some (o.getD k 0) := by rw [List.getD_eq_getElem?_getD, List.getElem?_eq_getElem hk]; rfl
    have hr : (nl o)[k]? = some ((o.getD k 0 : Nat) : Int) := by rw [nl_at, hok]; rfl
    refine .inl ⟨_, ?_, rfl⟩
    simp only [spec_l21Table_L20, nl_len, bdT (show (k : Int) < (o.length : Int) by omega), specInner hF hg ht hD hms hr (ho _ (List.mem_of_getElem? hok)), Option.bind_some, wrN (show k ≤ 67108864 by omega), foldl_range hk]
  · rintro m s rfl
    simp only [spec_l21Table_L20, nl_len, bdF (show ¬ (o.length : Int) < (o.length : Int) by omega), List.take_length]; rfl
theorem implEvents {F : Nat} {g : GEventGraph} {t : GTimetable} {o : List Nat} {b : Bool} {pre ms0 : List (List Int)} {xs : List Int} (hF : 134217728 ≤ F) (hg : graphB g = true) (ht : (t.Starts.length : Int) = g.Events) (h : DOk g g.Events.toNat pre xs) (hms : ms0.length = pre.length) (ho : ∀ x, x ∈ o → x < g.Events.toNat) (hol : o.length ≤ 10) :
    impl_delayTable_L20 F g t (nl o, b) ms0 (pre.length : Int) F (pre ++ [xs]) 0 xs = some (pre ++ [dround g t o pre xs]) := by
  have H := for0 (L := fun m (s : List (List Int) × List Int) i => impl_delayTable_L20 F g t (nl o, b) ms0 (pre.length : Int) m s.1 i s.2) (len := o.length)
    (fun k s => s = (pre ++ [(o.take k).foldl (devent g t pre) xs], (o.take k).foldl (devent g t pre) xs)) (R := fun q => q = some (pre ++ [dround g t o pre xs])) (s := (pre ++ [xs], xs)) (n := F) ?_ ?_ rfl (by omega)
  · exact H
  · rintro m k s hk rfl
    have hys : ((o.take k).foldl (devent g t pre) xs).length = g.Events.toNat := by rw [foldl_len (devent_len g t pre)]; exact h.row
    have hD : DOk g g.Events.toNat pre ((o.take k).foldl (devent g t pre) xs) := ⟨h.rws, hys, h.le⟩
    have hok : o[k]? = some (o.getD k 0) := by rw [List.getD_eq_getElem?_getD, List.getElem?_eq_getElem hk]; rfl
    have hr : (nl o)[k]? = some ((o.getD k 0 : Nat) : Int) := by rw [nl_at, hok]; rfl
    refine .inl ⟨_, ?_, rfl⟩
    simp only [impl_delayTable_L20, nl_len, bdT (show (k : Int) < (o.length : Int) by omega), idx_nat, hr, implSlacks_is hF hg ht, implInner hF hg hD hms (ho _ (List.mem_of_getElem? hok)), Option.bind_some, wrN (show k ≤ 67108864 by omega), foldl_range hk]
  · rintro m s rfl
    simp only [impl_delayTable_L20, nl_len, bdF (show ¬ (o.length : Int) < (o.length : Int) by omega), List.take_length]; rfl
def dtab (g : GEventGraph) (t : GTimetable) (o : List Nat) (ds : List Int) : Nat → List (List Int)
  | 0 => []
  | k + 1 => dtab g t o ds k ++ [dround g t o (dtab g t o ds k) (if k = 0 then ds else zeros g)]
theorem dtab_len (g : GEventGraph) (t : GTimetable) (o : List Nat) (ds : List Int) : ∀ k, (dtab g t o ds k).length = k
  | 0 => rfl
  | k + 1 => by unfold dtab; rw [List.length_append, dtab_len g t o ds k]; rfl
theorem init_len {g : GEventGraph} {ds : List Int} (hd : ds.length = g.Events.toNat) (k : Nat) : (if k = 0 then ds else zeros g).length = g.Events.toNat := by
  by_cases h : k = 0
  · rw [if_pos h]; exact hd
  · rw [if_neg h]; unfold zeros; simp
theorem dtab_rows {g : GEventGraph} {t : GTimetable} {o : List Nat} {ds : List Int} (hd : ds.length = g.Events.toNat) : ∀ k r, r ∈ dtab g t o ds k → r.length = g.Events.toNat
  | 0, r, h => by cases h
  | k + 1, r, h => by
    unfold dtab at h
    rcases List.mem_append.1 h with h | h
    · exact dtab_rows hd k r h
    · simp only [List.mem_singleton] at h
      rw [h, dround_len]; exact init_len hd k
theorem specDTable_is {F n : Nat} {g : GEventGraph} {t : GTimetable} {o : List Nat} {ds : List Int} (hF : 134217728 ≤ F) (hg : graphB g = true) (ht : (t.Starts.length : Int) = g.Events) (ho : fire (eP g.Places) g.Events.toNat g.Events.toNat [] = some o) (hd : ds.length = g.Events.toNat) (hn : n ≤ 50) : spec_l21Table F g t ds (n : Int) = some (dtab g t o ds n) := by
  have hG := GOk.of hg
  have h10 := hG.n10
  obtain ⟨hok, hol⟩ := fire_ok hG.edge _ [] o (OrderOk.nil _ _) ho
  have hol' : o.length ≤ 10 := by simp at hol; omega
  unfold spec_l21Table
  rw [bind_of (specOrder_is hF hG ho)]
  have H := for_ind (L := fun m (s : List (List Int)) i => spec_l21Table_L16 F g t ds (n : Int) (nl o) m s (i + 1)) n (fun k s => s = dtab g t o ds k) (fun q => q = some (dtab g t o ds n)) ?_ ?_ n 0 [] F (by omega) rfl (by omega)
  · rw [show (((0 : Nat) : Int) + 1) = 1 from rfl] at H; rw [H]; rfl
  · rintro m k s hk rfl
    refine .inl ⟨_, ?_, rfl⟩
    have hev : g.Events = (g.Events.toNat : Int) := hG.ev
    have hmk : mk g.Events (0 : Int) = some (zeros g) := by rw [hev, mk_nat _ (by omega)]; rfl
    have hin : (bif ((k : Int) + 1 == 1) then (spec_l01Own F ds).bind fun r => some r else some (zeros g)) = some (if k = 0 then ds else zeros g) := by
      by_cases h0 : k = 0
      · subst h0
        have hown : spec_l01Own F ds = some ds := by
          unfold spec_l01Own
          rw [app_le (by simp only [List.length_nil]; omega)]; rfl
        rw [bT (show (((0 : Nat) : Int) + 1 == 1) = true from rfl), hown]; rfl
      · rw [bF (beq_false_of_ne (show (k : Int) + 1 ≠ 1 by omega)), if_neg h0]
    have hlen := dtab_len g t o ds k
    have hD : DOk g g.Events.toNat (dtab g t o ds k) (if k = 0 then ds else zeros g) := ⟨dtab_rows hd k, init_len hd k, by omega⟩
    have happ : app (dtab g t o ds k) [if k = 0 then ds else zeros g] = some (dtab g t o ds k ++ [if k = 0 then ds else zeros g]) := app_le (by simp only [List.length_singleton]; omega)
    have hev2 := specEvents (F := F) (ms0 := dtab g t o ds k) hF hg ht hD rfl hok.lt hol'
    rw [hlen] at hev2
    simp only [spec_l21Table_L16, bdT (show (k : Int) + 1 ≤ (n : Int) by omega), hmk, hin, happ, Option.bind_some, hev2, wr (show -9223372036854775808 ≤ (k : Int) + 1 + 1 by omega) (by omega)]
    rfl
  · rintro m s rfl
    simp only [spec_l21Table_L16, bdF (show ¬ (n : Int) + 1 ≤ (n : Int) by omega)]
theorem implDTable_is {F n : Nat} {g : GEventGraph} {t : GTimetable} {o : List Nat} {ds : List Int} (hF : 134217728 ≤ F) (hg : graphB g = true) (ht : (t.Starts.length : Int) = g.Events) (ho : fire (eP g.Places) g.Events.toNat g.Events.toNat [] = some o) (hd : ds.length = g.Events.toNat) (hn : n ≤ 50) : impl_delayTable F g t ds (n : Int) = some (dtab g t o ds n) := by
  have hG := GOk.of hg
  have h10 := hG.n10
  obtain ⟨hok, hol⟩ := fire_ok hG.edge _ [] o (OrderOk.nil _ _) ho
  have hol' : o.length ≤ 10 := by simp at hol; omega
  unfold impl_delayTable
  rw [bind_of (implOrder_is hF hG), ho]
  simp only
  have H := for0 (L := fun m (s : List (List Int)) i => impl_delayTable_L16 F g t ds (n : Int) (nl o, true) m s i) (len := n) (fun k s => s = dtab g t o ds k) (R := fun q => q = some (dtab g t o ds n)) (s := []) (n := F) ?_ ?_ rfl (by omega)
  · rw [H]; rfl
  · rintro m k s hk rfl
    refine .inl ⟨_, ?_, rfl⟩
    have hev : g.Events = (g.Events.toNat : Int) := hG.ev
    have hmk : mk g.Events (0 : Int) = some (zeros g) := by rw [hev, mk_nat _ (by omega)]; rfl
    have hin : (bif ((k : Int) == 0) then some (cpy (zeros g) ds) else some (zeros g)) = some (if k = 0 then ds else zeros g) := by
      by_cases h0 : k = 0
      · subst h0
        rw [bT (show (((0 : Nat) : Int) == 0) = true from rfl), if_pos rfl]
        unfold cpy zeros
        rw [List.length_replicate, List.take_of_length_le (by omega), List.drop_eq_nil_of_le (by simp; omega), List.append_nil]
      · rw [bF (beq_false_of_ne (show (k : Int) ≠ 0 by omega)), if_neg h0]
    have hlen := dtab_len g t o ds k
    have hD : DOk g g.Events.toNat (dtab g t o ds k) (if k = 0 then ds else zeros g) := ⟨dtab_rows hd k, init_len hd k, by omega⟩
    have happ : app (dtab g t o ds k) [if k = 0 then ds else zeros g] = some (dtab g t o ds k ++ [if k = 0 then ds else zeros g]) := app_le (by simp only [List.length_singleton]; omega)
    have hev2 := implEvents (F := F) (b := true) (ms0 := dtab g t o ds k) hF hg ht hD rfl hok.lt hol'
    rw [hlen] at hev2
    simp only [impl_delayTable_L16, bdT (show (k : Int) < (n : Int) by omega), hmk, hin, happ, Option.bind_some, hev2, wrN (show k ≤ 67108864 by omega)]
    rfl
  · rintro m s rfl
    simp only [impl_delayTable_L16, bdF (show ¬ (n : Int) < (n : Int) by omega)]


/-! ### Delays lie in their range -/
theorem wr_range (n : Int) : -9223372036854775808 ≤ IntKind.i64.wrap n ∧ IntKind.i64.wrap n ≤ 9223372036854775807 := by
  simp [IntKind.wrap, IntKind.bits, IntKind.signed]; omega
def allIn (xs : List Int) : Prop := ∀ i, 0 ≤ xs.getD i 0 ∧ xs.getD i 0 ≤ 1000000
theorem allIn_mem {xs : List Int} (h : allIn xs) : ∀ x, x ∈ xs → 0 ≤ x ∧ x ≤ 1000000 := by
  intro x hx
  obtain ⟨i, hi, rfl⟩ := List.getElem_of_mem hx
  have := h i
  rw [List.getD_eq_getElem?_getD, List.getElem?_eq_getElem hi] at this
  exact this
theorem allIn_of {xs : List Int} (h : ∀ x, x ∈ xs → 0 ≤ x ∧ x ≤ 1000000) : allIn xs := by
  intro i
  by_cases hi : i < xs.length
  · rw [List.getD_eq_getElem?_getD, List.getElem?_eq_getElem hi]; exact h _ (List.getElem_mem hi)
  · rw [List.getD_eq_getElem?_getD, List.getElem?_eq_none (by omega)]; simp
theorem set_getD {xs : List Int} {e i : Nat} {y : Int} : (xs.set e y).getD i 0 = if i = e ∧ i < xs.length then y else xs.getD i 0 := by
  rw [List.getD_eq_getElem?_getD, List.getD_eq_getElem?_getD]
  by_cases h : i = e
  · subst h
    by_cases hl : i < xs.length
    · rw [set_here hl, if_pos ⟨rfl, hl⟩]; rfl
    · rw [if_neg (fun hc => hl hc.2), List.getElem?_eq_none (by simp; omega), List.getElem?_eq_none (by omega)]
  · rw [set_keep h, if_neg (fun hc => h hc.1)]
theorem dstep_in {g : GEventGraph} {t : GTimetable} {pre : List (List Int)} {e i : Nat} {xs : List Int} (hs : 0 ≤ slk1 t (plD g i)) (hp : ∀ r, r ∈ pre → allIn r) (hx : allIn xs) : allIn (dstep g t pre e xs i) := by
  unfold dstep
  cases ((plD g i).To == (e : Int) && decide ((plD g i).Tokens ≤ (pre.length : Int))) with
  | false => exact hx
  | true =>
    simp only [cond_true]
    have hrow : allIn ((pre ++ [xs]).getD (pre.length - (plD g i).Tokens.toNat) []) := by
      by_cases hl : pre.length - (plD g i).Tokens.toNat < (pre ++ [xs]).length
      · have hm : (pre ++ [xs]).getD (pre.length - (plD g i).Tokens.toNat) [] ∈ pre ++ [xs] := by
          rw [List.getD_eq_getElem?_getD, List.getElem?_eq_getElem hl]; exact List.getElem_mem hl
        rcases List.mem_append.1 hm with h1 | h1
        · exact hp _ h1
        · simp only [List.mem_singleton] at h1; rw [h1]; exact hx
      · simp at hl; omega
    have hc := hrow (plD g i).From.toNat
    have hr := (wr_range (IntKind.i64.wrap (IntKind.i64.wrap (t.Starts.getD (plD g i).To.toNat 0 + IntKind.i64.wrap ((plD g i).Tokens * t.Period)) - t.Starts.getD (plD g i).From.toNat 0) - (plD g i).Delay)).2
    have hr' : slk1 t (plD g i) ≤ 9223372036854775807 := hr
    intro q
    rw [set_getD]
    split
    · rw [wr (by omega) (by omega)]
      have := hx e
      omega
    · exact hx q
theorem foldl_in {α : Type} {f : List Int → α → List Int} (l : List α) (hf : ∀ xs a, a ∈ l → allIn xs → allIn (f xs a)) : ∀ xs, allIn xs → allIn (l.foldl f xs) := by
  induction l with
  | nil => intro xs h; exact h
  | cons a l ih => intro xs h; exact ih (fun xs b hb => hf xs b (by simp [hb])) _ (hf xs a (by simp) h)
theorem dtab_in {g : GEventGraph} {t : GTimetable} {o : List Nat} {ds : List Int} (hk : keptB g t = true) (hd : allIn ds) : ∀ k r, r ∈ dtab g t o ds k → allIn r
  | 0, r, h => by cases h
  | k + 1, r, h => by
    unfold dtab at h
    rcases List.mem_append.1 h with h | h
    · exact dtab_in hk hd k r h
    · simp only [List.mem_singleton] at h
      rw [h]
      refine foldl_in o (fun xs e _ hx => foldl_in _ (fun ys i hi hy => dstep_in ?_ (dtab_in hk hd k) hy) _ hx) _ ?_
      · unfold keptB at hk
        rw [List.all_eq_true] at hk
        have := hk (slk1 t (plD g i)) (List.mem_of_getElem? (i := i) (by unfold slk; rw [List.getElem?_map, plD_of (by simpa using hi)]; rfl))
        simpa using this
      · by_cases h0 : k = 0
        · rw [if_pos h0]; exact hd
        · rw [if_neg h0]
          intro q
          unfold zeros
          rw [List.getD_eq_getElem?_getD, List.getElem?_replicate]
          split <;> simp
theorem rowsD {T : List (List Int)} {k : Nat} (h : k < T.length) : T[k]? = some (T.getD k []) := by
  rw [List.getD_eq_getElem?_getD, List.getElem?_eq_getElem h]; rfl
theorem liveB_some {g : GEventGraph} (h : liveB g g.Events.toNat = true) : ∃ o, fire (eP g.Places) g.Events.toNat g.Events.toNat [] = some o := by
  unfold liveB at h
  exact Option.isSome_iff_exists.1 h
theorem startsB_len {g : GEventGraph} {xs : List Int} (h : startsB g xs = true) : xs.length = g.Events.toNat ∧ allIn xs := by
  unfold startsB at h
  simp only [Bool.and_eq_true, beq_iff_eq, List.all_eq_true, inB_true] at h
  exact ⟨by omega, allIn_of h.2⟩

/-! ### When delays are settled -/
def zB (xs : List Int) : Bool := xs.all fun x => inB x 0 0
theorem sum_pos {xs : List Int} (h : ∀ x, x ∈ xs → 0 ≤ x ∧ x ≤ 1000000) : 0 ≤ xs.sum ∧ xs.sum ≤ 1000000 * (xs.length : Int) ∧ decide (0 < xs.sum) = !zB xs := by
  induction xs with
  | nil => exact ⟨by simp, by simp, rfl⟩
  | cons x xs ih =>
    obtain ⟨h1, h2, h3⟩ := ih (fun y hy => h y (by simp [hy]))
    have hx := h x (by simp)
    rw [List.sum_cons]
    refine ⟨by omega, by simp only [List.length_cons]; omega, ?_⟩
    have e : zB (x :: xs) = (inB x 0 0 && zB xs) := rfl
    rw [e]
    by_cases h0 : x = 0
    · subst h0
      rw [show inB 0 0 0 = true from rfl, Bool.true_and, ← h3]; simp
    · rw [inB_false (show ¬ ((0 : Int) ≤ x ∧ x ≤ 0) by omega), Bool.false_and]
      exact decide_eq_true (by omega)
theorem specSum_is {F : Nat} {xs : List Int} (hF : 134217728 ≤ F) (hl : xs.length ≤ 1000) (h : ∀ x, x ∈ xs → 0 ≤ x ∧ x ≤ 1000000) : spec_l16Sum F xs = some xs.sum := by
  unfold spec_l16Sum
  have H := for0 (L := spec_l16Sum_L1 F xs) (len := xs.length) (fun k s => s = (xs.take k).sum) (R := fun r => r = some xs.sum) (s := 0) (n := F) ?_ ?_ (by simp) (by omega)
  · rw [H]; rfl
  · rintro n k s hk rfl
    have hx : xs[k]? = some xs[k] := List.getElem?_eq_getElem hk
    obtain ⟨h1, h2, _⟩ := sum_pos (xs := xs.take k) (fun x hx => h x (List.mem_of_mem_take hx))
    have h3 := h _ (List.getElem_mem hk)
    have h4 : ((xs.take k).length : Int) ≤ 1000 := by rw [List.length_take]; omega
    refine .inl ⟨_, ?_, rfl⟩
    have e : (xs.take (k + 1)).sum = (xs.take k).sum + xs[k] := by rw [List.take_add_one, hx, List.sum_append]; simp
    simp only [spec_l16Sum_L1, bdT (show (k : Int) < (xs.length : Int) by omega), idx_nat, hx, Option.bind_some, wr (show -9223372036854775808 ≤ (xs.take k).sum + xs[k] by omega) (show (xs.take k).sum + xs[k] ≤ 9223372036854775807 by omega), e, wrN (show k ≤ 67108864 by omega)]
  · rintro n s rfl
    simp only [spec_l16Sum_L1, bdF (show ¬ (xs.length : Int) < (xs.length : Int) by omega), List.take_length]
/-- behind the last row that is not zero -/
def lsz (T : List (List Int)) : Nat → Nat
  | 0 => 0
  | k + 1 => if zB (T.getD k []) = true then lsz T k else k + 1
theorem lsz_le (T : List (List Int)) : ∀ k, lsz T k ≤ k
  | 0 => Nat.le_refl _
  | k + 1 => by
    unfold lsz
    split
    · have := lsz_le T k; omega
    · exact Nat.le_refl _
theorem specLast_is {F : Nat} {T : List (List Int)} (hF : 134217728 ≤ F) (hl : T.length = 50) (hr : ∀ r, r ∈ T → r.length ≤ 10) (hi : ∀ r, r ∈ T → allIn r) : spec_l21Settled_L1 F T F 0 0 = some (lsz T 50 : Int) := by
  refine for0 (L := spec_l21Settled_L1 F T) (len := 50) (fun k s => s = (lsz T k : Int)) (R := fun r => r = some (lsz T 50 : Int)) ?_ ?_ rfl (by omega)
  · rintro n k s hk rfl
    have hrow := rowsD (show k < T.length by omega)
    have hm := List.mem_of_getElem? hrow
    refine .inl ⟨_, ?_, rfl⟩
    simp only [spec_l21Settled_L1, bdT (show (k : Int) < 50 by omega), idx_nat, hrow, Option.bind_some, specSum_is hF (show (T.getD k []).length ≤ 1000 by have := hr _ hm; omega) (allIn_mem (hi _ hm)), (sum_pos (allIn_mem (hi _ hm))).2.2, wrN (show k ≤ 67108864 by omega), lsz]
    cases zB (T.getD k []) <;> rfl
  · rintro n s rfl
    simp only [spec_l21Settled_L1, bdF (show ¬ ((50 : Nat) : Int) < 50 by omega)]
theorem implLast_is {F : Nat} {T : List (List Int)} (hF : 134217728 ≤ F) (hr : ∀ r, r ∈ T → r.length ≤ 10) : ∀ (k m : Nat), k ≤ T.length → k ≤ 50 → k < m → impl_settledTable_L1 F T m (k : Int) = some (lsz T k : Int) := by
  intro k
  induction k with
  | zero =>
    intro m _ _ hm
    obtain ⟨m, rfl⟩ : ∃ m', m = m' + 1 := ⟨m - 1, by omega⟩
    rfl
  | succ k ih =>
    intro m hk h50 hm
    obtain ⟨m, rfl⟩ : ∃ m', m = m' + 1 := ⟨m - 1, by omega⟩
    have hrow := rowsD (show k < T.length by omega)
    have hw : IntKind.i64.wrap (((k + 1 : Nat) : Int) - 1) = (k : Int) := by rw [wr (by omega) (by omega)]; omega
    simp only [impl_settledTable_L1, bdT (show (0 : Int) < ((k + 1 : Nat) : Int) by omega), hw, idx_nat, hrow, Option.bind_some, implAllWithin_is (F := F) (xs := T.getD k []) hF (by have := hr _ (List.mem_of_getElem? hrow); omega), lsz]
    show (bif zB (T.getD k []) then _ else _) = _
    cases zB (T.getD k []) with
    | true => simp only [cond_true, if_true]; exact ih m (by omega) (by omega) (by omega)
    | false => rfl
theorem settled_is {F : Nat} {g : GEventGraph} {t : GTimetable} {ds : List Int} (hF : 134217728 ≤ F) (h : delayCode g t ds true = 0) :
    ∃ T : List (List Int), T.length = 50 ∧ (∀ r, r ∈ T → r.length = g.Events.toNat) ∧ (∀ r, r ∈ T → allIn r) ∧ spec_l21Settled F g t ds = some (T, (lsz T 50 : Int), decide ((lsz T 50 : Int) ≤ 45)) ∧ impl_settledTable F g t ds = some (bif decide ((45 : Int) < (lsz T 50 : Int)) then ([], 0, 4) else (T, (lsz T 50 : Int), 0)) := by
  obtain ⟨g1, g2, g3, _, g5, g6⟩ := delayCode_zero h
  obtain ⟨o, ho⟩ := liveB_some g5
  obtain ⟨hds, hin⟩ := startsB_len g3
  have h10 := (GOk.of g1).n10
  have hl := dtab_len g t o ds 50
  have hrw := dtab_rows (g := g) (t := t) (o := o) hds 50
  have hai := dtab_in (o := o) g6 hin 50
  refine ⟨dtab g t o ds 50, hl, hrw, hai, ?_, ?_⟩
  · have := specDTable_is (n := 50) hF g1 (tableB_len g2) ho hds (by omega)
    rw [show ((50 : Nat) : Int) = 50 from rfl] at this
    unfold spec_l21Settled
    rw [bind_of this, bind_of (specLast_is hF hl (fun r hr => by rw [hrw r hr]; exact h10) hai)]
  · have := implDTable_is (n := 50) hF g1 (tableB_len g2) ho hds (by omega)
    rw [show ((50 : Nat) : Int) = 50 from rfl] at this
    have h2 := implLast_is hF (fun r hr => by rw [hrw r hr]; exact h10) 50 F (by omega) (by omega) (by omega)
    unfold impl_settledTable
    rw [bind_of this, hl, bind_of h2]
    cases decide ((45 : Int) < (lsz (dtab g t o ds 50) 50 : Int)) <;> rfl

end Go.Proofs.Ytpmebacdmilecaa
