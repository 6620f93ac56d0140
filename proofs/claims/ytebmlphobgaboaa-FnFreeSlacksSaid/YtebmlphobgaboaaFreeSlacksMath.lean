/- The law's model answers true. -/
import Derived.Test.YtebmlphobgaboaaFreeSlacksSmall
namespace Go.Proofs.Ytebmlphobgaboaa

theorem lawSum_loop {F : Nat} {xs : List Int} (hl : xs.length ≤ 1000) (h : ∀ x, x ∈ xs → 0 ≤ x ∧ x ≤ 1000000) (hF : 134217728 ≤ F) : laws_sum F xs = some xs.sum := by
  unfold laws_sum
  have H := for0 (L := laws_sum_L1 F xs) (len := xs.length) (fun k s => s = (xs.take k).sum) (R := fun r => r = some xs.sum) (s := 0) (n := F) ?_ ?_ (by simp) (by omega)
  · rw [H]; rfl
  · rintro n k s hk rfl
    have hx : xs[k]? = some xs[k] := List.getElem?_eq_getElem hk
    obtain ⟨h1, h2, _⟩ := sum_pos (xs := xs.take k) (fun x hx => h x (List.mem_of_mem_take hx))
    have h3 := h _ (List.getElem_mem hk)
    have h4 : ((xs.take k).length : Int) ≤ 1000 := by rw [List.length_take]; omega
    refine .inl ⟨_, ?_, rfl⟩
    have e : (xs.take (k + 1)).sum = (xs.take k).sum + xs[k] := by rw [List.take_add_one, hx, List.sum_append]; simp
    simp only [laws_sum_L1, bdT (show (k : Int) < (xs.length : Int) by omega), idx_nat, hx, Option.bind_some, wr (show -9223372036854775808 ≤ (xs.take k).sum + xs[k] by omega) (show (xs.take k).sum + xs[k] ≤ 9223372036854775807 by omega), e, wrN (show k ≤ 67108864 by omega)]
  · rintro n s rfl
    simp only [laws_sum_L1, bdF (show ¬ (xs.length : Int) < (xs.length : Int) by omega), List.take_length]
theorem likeInts_self {F : Nat} {xs : List Int} (hF : 134217728 ≤ F) (hl : xs.length ≤ 1048576) : laws_likeInts F xs xs = some true := by
  unfold laws_likeInts
  rw [bne_self_eq_false, cond_false]
  have H := same_loop (len := xs.length) (L := laws_likeInts_L1 F xs xs) (n := F) ?_ ?_ (by omega)
  · rw [H]; rfl
  · intro n k hk
    have hx : xs[k]? = some xs[k] := List.getElem?_eq_getElem hk
    simp only [laws_likeInts_L1, bdT (show (k : Int) < (xs.length : Int) by omega), idx_nat, hx, Option.bind_some, bne_self_eq_false, cond_false, wrN (show k ≤ 67108864 by omega)]
  · intro n
    simp only [laws_likeInts_L1, bdF (show ¬ (xs.length : Int) < (xs.length : Int) by omega)]
theorem hasInt_mem {F : Nat} {xs : List Int} {x : Int} (hF : 134217728 ≤ F) (hl : xs.length ≤ 1048576) (h : x ∈ xs) : laws_hasInt F xs x = some true := by
  unfold laws_hasInt
  have H := all_loop (ps := xs) (g := fun y => !(y == x)) (r := true) (L := laws_hasInt_L1 F xs x) (n := F) ?_ ?_ (by omega)
  · rw [H]
    have : (xs.all fun y => !(y == x)) = false := by
      rw [List.all_eq_false]
      exact ⟨x, h, by simp⟩
    rw [this]; rfl
  · intro n k y hk hy
    simp only [laws_hasInt_L1, bdT (show (k : Int) < (xs.length : Int) by omega), idx_nat, hy, Option.bind_some, wrN (show k ≤ 67108864 by omega)]
    cases (y == x) <;> rfl
  · intro n
    simp only [laws_hasInt_L1, bdF (show ¬ (xs.length : Int) < (xs.length : Int) by omega)]

def zer (g : GEventGraph) : List Int := List.replicate (max 0 (min g.Events 10)).toNat 0
theorem zer_len (g : GEventGraph) : ((zer g).length : Int) = max 0 (min g.Events 10) := by unfold zer; rw [List.length_replicate]; omega
theorem specOne0_is {F : Nat} {g : GEventGraph} {e : Int} : spec_l21One F g e 0 = some (zer g) := by
  have hz := zer_len g
  unfold spec_l21One
  rw [show max 0 (min 10 g.Events) = max 0 (min g.Events 10) by omega, mk_int _ (by omega) (by omega)]
  show (spec_l01In F e 0 (IntKind.i64.wrap (((zer g).length : Int) - 1))).bind _ = _
  simp only [specIn_is, Option.bind_some]
  cases hi : inB e 0 (IntKind.i64.wrap (((zer g).length : Int) - 1)) with
  | false => rfl
  | true =>
    rw [inB_true, wr (by omega) (by omega)] at hi
    have e1 : idx (zer g) e = some 0 := by
      rw [getI hi.1 (by omega)]
      unfold zer; rw [List.getD_eq_getElem?_getD, List.getElem?_replicate]
      split <;> rfl
    have e2 : upd (zer g) e 0 = some (zer g) := by
      rw [upd_int _ hi.1 (by omega)]
      refine congrArg some (set_same ?_)
      have h2 : e.toNat < (zer g).length := by omega
      unfold zer at h2 ⊢
      rw [List.length_replicate] at h2
      rw [List.getElem?_replicate, if_pos h2]
    simp only [cond_true]
    show ((idx (zer g) e).bind fun _ => (upd (zer g) e 0).bind fun xs19 => some xs19).bind _ = _
    rw [e1, e2]; rfl

def sstep (g : GEventGraph) (t : GTimetable) (e : Int) (acc : Int) (i : Nat) : Int := bif (g.Places.getD i ⟨0, 0, 0, 0⟩).From == e then min acc ((slk g t).getD i 0) else acc
theorem placeD {g : GEventGraph} {k : Nat} (h : k < g.Places.length) : g.Places[k]? = some (g.Places.getD k ⟨0, 0, 0, 0⟩) := by
  rw [List.getD_eq_getElem?_getD, List.getElem?_eq_getElem h]; rfl

/-- zeros, with by at one place -/
def oneAt (g : GEventGraph) (e by' : Int) (ok : Bool) : List Int :=
  bif ok then (List.replicate (max 0 (min g.Events 10)).toNat (0 : Int)).set e.toNat by' else List.replicate (max 0 (min g.Events 10)).toNat 0
theorem oneAt_len (g : GEventGraph) (e b : Int) (ok : Bool) : ((oneAt g e b ok).length : Int) = max 0 (min g.Events 10) := by
  unfold oneAt; cases ok <;> simp <;> omega
theorem upd_rep {m : Nat} {e b : Int} (h : inB e 0 (IntKind.i64.wrap (((List.replicate m (0 : Int)).length : Int) - 1)) = true) (hm : m ≤ 10) : idx (List.replicate m (0 : Int)) e = some 0 ∧ upd (List.replicate m (0 : Int)) e b = some ((List.replicate m (0 : Int)).set e.toNat b) := by
  rw [List.length_replicate, inB_true, wr (by omega) (by omega)] at h
  refine ⟨?_, upd_int _ h.1 (by simp; omega)⟩
  rw [getI h.1 (by simp; omega), List.getD_eq_getElem?_getD, List.getElem?_replicate]
  split <;> rfl
theorem specOne_is {F : Nat} {g : GEventGraph} {e b : Int} : spec_l21One F g e b = some (oneAt g e b (inB e 0 (IntKind.i64.wrap (max 0 (min g.Events 10) - 1)))) := by
  unfold spec_l21One oneAt
  rw [show max 0 (min 10 g.Events) = max 0 (min g.Events 10) by omega, mk_int _ (by omega) (by omega)]
  simp only [specIn_is, Option.bind_some]
  have e1 : ((List.replicate (max 0 (min g.Events 10)).toNat (0 : Int)).length : Int) = max 0 (min g.Events 10) := by rw [List.length_replicate]; omega
  rw [e1]
  cases hi : inB e 0 (IntKind.i64.wrap (max 0 (min g.Events 10) - 1)) with
  | false => rfl
  | true =>
    obtain ⟨a1, a2⟩ := upd_rep (m := (max 0 (min g.Events 10)).toNat) (b := b) (by rw [e1]; exact hi) (by omega)
    simp only [cond_true, a1, a2, Option.bind_some]

theorem wfold_getD (T : List (List Int)) (n i : Nat) (hi : i < n) : ∀ (xs : List Int), xs.length = n → (T.foldl wmax xs).getD i 0 = T.foldl (fun m r => max m (r.getD i 0)) (xs.getD i 0) := by
  induction T with
  | nil => intro xs _; rfl
  | cons r T ih =>
    intro xs hx
    rw [List.foldl_cons, List.foldl_cons, ih _ (by rw [wmax_len]; exact hx)]
    congr 1
    unfold wmax
    rw [List.getD_eq_getElem?_getD, List.getElem?_map, List.getElem?_range (by omega)]; rfl
theorem fmax_pos {T : List (List Int)} {i : Nat} (h : ∀ r, r ∈ T → 0 ≤ r.getD i 0) : ∀ (m : Int), 0 ≤ m → 0 ≤ T.foldl (fun m r => max m (r.getD i 0)) m ∧ (T.foldl (fun m r => max m (r.getD i 0)) m != 0) = ((m != 0) || T.any fun r => decide (0 < r.getD i 0)) := by
  induction T with
  | nil => intro m hm; exact ⟨hm, by simp⟩
  | cons r T ih =>
    intro m hm
    have hr := h r (by simp)
    obtain ⟨h1, h2⟩ := ih (fun q hq => h q (by simp [hq])) (max m (r.getD i 0)) (by omega)
    rw [List.foldl_cons]
    refine ⟨h1, ?_⟩
    rw [h2, List.any_cons, ← Bool.or_assoc]
    congr 1
    by_cases h3 : m = 0
    · subst h3
      by_cases h4 : r.getD i 0 = 0
      · rw [h4]; rfl
      · rw [neT (show max 0 (r.getD i 0) ≠ 0 by omega), dT (show 0 < r.getD i 0 by omega)]; simp
    · rw [neT h3, neT (show max m (r.getD i 0) ≠ 0 by omega)]; rfl

def evs (T : List (List Int)) (n : Nat) : List Int := (List.range n).flatMap fun e => bif T.any (fun r => decide (0 < r.getD e 0)) then [(e : Int)] else []
theorem flat_len {α β : Type} {g : α → List β} (hg : ∀ x, (g x).length ≤ 1) (l : List α) : (l.flatMap g).length ≤ l.length := by
  induction l with
  | nil => simp
  | cons x l ih =>
    rw [List.flatMap_cons, List.length_append, List.length_cons]
    have := hg x
    omega
theorem evs_len (T : List (List Int)) (n : Nat) : (evs T n).length ≤ n := by
  have := flat_len (g := fun e : Nat => bif T.any (fun r => decide (0 < r.getD e 0)) then [(e : Int)] else []) (fun x => by cases (T.any fun r => decide (0 < r.getD x 0)) <;> simp) (List.range n)
  rw [List.length_range] at this
  exact this
theorem specEvs_is {F : Nat} {g : GEventGraph} {T : List (List Int)} (hF : 134217728 ≤ F) (hG : GOk g g.Events.toNat) (hl : T.length ≤ 50) (hr : ∀ r, r ∈ T → r.length = g.Events.toNat) : spec_DelayedEvents_L4 F g T F [] 0 = some (evs T g.Events.toNat) := by
  have h10 := hG.n10
  have hev := hG.ev
  have inner : ∀ e, e < g.Events.toNat → spec_DelayedEvents_L5 F T (e : Int) F false 0 = some (T.any fun r => decide (0 < r.getD e 0)) := by
    intro e he
    have H := for0 (L := spec_DelayedEvents_L5 F T (e : Int)) (len := T.length) (fun k s => s = (T.take k).any fun r => decide (0 < r.getD e 0)) (R := fun q => q = some (T.any fun r => decide (0 < r.getD e 0))) (s := false) (n := F) ?_ ?_ (by simp) (by omega)
    · exact H
    · rintro n k s hk rfl
      have hrow : T[k]? = some (T.getD k []) := by rw [List.getD_eq_getElem?_getD, List.getElem?_eq_getElem hk]; rfl
      have hlen := hr _ (List.mem_of_getElem? hrow)
      refine .inl ⟨_, ?_, rfl⟩
      simp only [spec_DelayedEvents_L5, bdT (show (k : Int) < (T.length : Int) by omega), idx_nat, hrow, getD_of (show e < (T.getD k []).length by omega), Option.bind_some, cond_or, wrN (show k ≤ 67108864 by omega)]
      rw [List.take_add_one, hrow, List.any_append]; simp
    · rintro n s rfl
      simp only [spec_DelayedEvents_L5, bdF (show ¬ (T.length : Int) < (T.length : Int) by omega), List.take_length]
  have H := grow_loop (ps := List.range g.Events.toNat) (g := fun e => bif T.any (fun r => decide (0 < r.getD e 0)) then [(e : Int)] else []) (L := spec_DelayedEvents_L4 F g T) (n := F) ?_ ?_ ?_ (by rw [List.length_range]; omega)
  · exact H
  · intro x; cases (T.any fun r => decide (0 < r.getD x 0)) <;> simp
  · intro n xs k x hk hx hxl
    rw [List.length_range] at hk
    have e : x = k := by rw [List.getElem?_range hk] at hx; cases hx; rfl
    subst e
    have hlt : decide ((x : Int) < g.Events) = true := by rw [hev]; exact decide_eq_true (by omega)
    have happ : app xs [(x : Int)] = some (xs ++ [(x : Int)]) := app_le (by simp only [List.length_singleton]; omega)
    simp only [spec_DelayedEvents_L4, hlt, cond_true, inner x hk, Option.bind_some, happ, wrN (show x ≤ 67108864 by omega)]
    cases (T.any fun r => decide (0 < r.getD x 0)) <;> simp
  · intro n xs
    rw [List.length_range]
    have hlt : decide ((g.Events.toNat : Int) < g.Events) = false := by rw [hev]; exact decide_eq_false (by omega)
    simp only [spec_DelayedEvents_L4, hlt, cond_false]
theorem implEvs_is {F : Nat} {T : List (List Int)} {w : List Int} (hF : 134217728 ≤ F) (hw : w.length ≤ 10) (h : ∀ e, e < w.length → (w.getD e 0 != 0) = T.any fun r => decide (0 < r.getD e 0)) : impl_DelayedEvents_L1 F w F [] 0 = some (evs T w.length) := by
  have H := grow_loop (ps := List.range w.length) (g := fun e => bif T.any (fun r => decide (0 < r.getD e 0)) then [(e : Int)] else []) (L := impl_DelayedEvents_L1 F w) (n := F) ?_ ?_ ?_ (by rw [List.length_range]; omega)
  · exact H
  · intro x; cases (T.any fun r => decide (0 < r.getD x 0)) <;> simp
  · intro n xs k x hk hx hxl
    rw [List.length_range] at hk
    have e : x = k := by rw [List.getElem?_range hk] at hx; cases hx; rfl
    subst e
    have happ : app xs [(x : Int)] = some (xs ++ [(x : Int)]) := app_le (by simp only [List.length_singleton]; omega)
    simp only [impl_DelayedEvents_L1, bdT (show (x : Int) < (w.length : Int) by omega), idx_nat, getD_of hk, Option.bind_some, h x hk, happ, wrN (show x ≤ 67108864 by omega)]
    cases (T.any fun r => decide (0 < r.getD x 0)) <;> simp
  · intro n xs
    rw [List.length_range]
    simp only [impl_DelayedEvents_L1, bdF (show ¬ (w.length : Int) < (w.length : Int) by omega)]

theorem delayCode_no {g : GEventGraph} {t : GTimetable} {ds ds' : List Int} : delayCode g t ds false = delayCode g t ds' false := by
  unfold delayCode; simp

theorem val_DelayedEvents {F : Nat} {x0 : GEventGraph} {x1 : GTimetable} {x2 x3 : Int} (hF : 134217728 ≤ F) (h0 : x0.Places.length ≤ 1048576) (h1 : x1.Starts.length ≤ 1048576) :
    ∃ r : List Int × Int, spec_DelayedEvents F x0 x1 x2 x3 = some r ∧ impl_DelayedEvents F x0 x1 x2 x3 = some r ∧ r.1.length ≤ 1048576 ∧ (r.2 = 0 → 0 < x3 → x2 ∈ r.1) := by
  have hol := oneAt_len x0 x2 x3
  have hob : ∀ b, (oneAt x0 x2 x3 b).length ≤ 1048576 := fun b => by have := hol b; omega
  unfold spec_DelayedEvents impl_DelayedEvents
  rw [mk_int _ (by omega) (by omega)]
  have e1 : ((List.replicate (max 0 (min x0.Events 10)).toNat (0 : Int)).length : Int) = max 0 (min x0.Events 10) := by rw [List.length_replicate]; omega
  simp only [specIn_is, within_is, Option.bind_some, cond_and, specOne_is, specDelayCode_is hF h0 h1 (hob _), e1]
  -- the program's list
  have himp : (bif inB x2 0 (IntKind.i64.wrap (max 0 (min x0.Events 10) - 1)) && inB x3 0 1000000 then (idx (List.replicate (max 0 (min x0.Events 10)).toNat (0 : Int)) x2).bind fun _ => (upd (List.replicate (max 0 (min x0.Events 10)).toNat (0 : Int)) x2 x3).bind fun xs31 => some xs31 else some (List.replicate (max 0 (min x0.Events 10)).toNat (0 : Int))) = some (oneAt x0 x2 x3 (inB x2 0 (IntKind.i64.wrap (max 0 (min x0.Events 10) - 1)) && inB x3 0 1000000)) := by
    unfold oneAt
    cases hi : inB x2 0 (IntKind.i64.wrap (max 0 (min x0.Events 10) - 1)) with
    | false => rfl
    | true =>
      cases inB x3 0 1000000 with
      | false => rfl
      | true =>
        obtain ⟨a1, a2⟩ := upd_rep (m := (max 0 (min x0.Events 10)).toNat) (b := x3) (by rw [e1]; exact hi) (by omega)
        simp only [Bool.and_self, cond_true, a1, a2, Option.bind_some]
  rw [himp]
  simp only [Option.bind_some, implDelayCode_is hF h0 h1 (hob _)]
  have hc : delayCode x0 x1 (oneAt x0 x2 x3 (inB x2 0 (IntKind.i64.wrap (max 0 (min x0.Events 10) - 1)))) (inB x2 0 (IntKind.i64.wrap (x0.Events - 1)) && inB x3 0 1000000) = delayCode x0 x1 (oneAt x0 x2 x3 (inB x2 0 (IntKind.i64.wrap (max 0 (min x0.Events 10) - 1)) && inB x3 0 1000000)) (inB x2 0 (IntKind.i64.wrap (max 0 (min x0.Events 10) - 1)) && inB x3 0 1000000) := by
    cases hg : graphB x0 with
    | false => unfold delayCode; rw [hg]; rfl
    | true =>
      obtain ⟨g1, g2, _⟩ := graphB_true hg
      rw [show max 0 (min x0.Events 10) = x0.Events by omega]
      cases inB x3 0 1000000 with
      | false => rw [Bool.and_false]; exact delayCode_no
      | true => rw [Bool.and_true]
  rw [hc]
  by_cases hd : delayCode x0 x1 (oneAt x0 x2 x3 (inB x2 0 (IntKind.i64.wrap (max 0 (min x0.Events 10) - 1)) && inB x3 0 1000000)) (inB x2 0 (IntKind.i64.wrap (max 0 (min x0.Events 10) - 1)) && inB x3 0 1000000) = 0
  · rw [bF (neF hd), bF (neF hd)]
    obtain ⟨g1, g2, g3, g4, g5, g6⟩ := delayCode_zero hd
    rw [Bool.and_eq_true] at g4
    rw [g4.1, g4.2] at g3 ⊢
    simp only [Bool.and_self] at g3 ⊢
    obtain ⟨o, ho⟩ := liveB_some g5
    obtain ⟨hds, hin⟩ := startsB_len g3
    have hG := GOk.of g1
    have h10 := hG.n10
    have hl := dtab_len x0 x1 o (oneAt x0 x2 x3 true) 50
    have hrw := dtab_rows (g := x0) (t := x1) (o := o) hds 50
    have hai := dtab_in (o := o) g6 hin 50
    have s1 := specDTable_is (n := 50) hF g1 (tableB_len g2) ho hds (by omega)
    have s2 := implDTable_is (n := 50) hF g1 (tableB_len g2) ho hds (by omega)
    rw [show ((50 : Nat) : Int) = 50 from rfl] at s1 s2
    rw [bind_of s1, bind_of s2, bind_of (specEvs_is hF hG (by omega) hrw), bind_of (implWorst_is hF hG (by omega) hrw)]
    have hz : (zeros x0).length = x0.Events.toNat := by unfold zeros; simp
    have hwl := wfold_len (dtab x0 x1 o (oneAt x0 x2 x3 true) 50) (zeros x0)
    have hev2 := implEvs_is (F := F) (T := dtab x0 x1 o (oneAt x0 x2 x3 true) 50) (w := (dtab x0 x1 o (oneAt x0 x2 x3 true) 50).foldl wmax (zeros x0)) hF (by omega) (fun e he => by
      rw [wfold_getD _ x0.Events.toNat e (by omega) (zeros x0) hz]
      have hze : (zeros x0).getD e 0 = 0 := by
        unfold zeros; rw [List.getD_eq_getElem?_getD, List.getElem?_replicate]; split <;> rfl
      rw [hze, (fmax_pos (i := e) (fun r hr => (hai r hr e).1) 0 (Int.le_refl 0)).2]; simp)
    rw [bind_of hev2, hwl, hz]
    refine ⟨_, rfl, rfl, ?_, fun _ hpos => ?_⟩
    · have := evs_len (dtab x0 x1 o (oneAt x0 x2 x3 true) 50) x0.Events.toNat
      simp only; omega
    · have hev1 := (graphB_true g1).1
      have hev2 := (graphB_true g1).2.1
      obtain ⟨i0, i1⟩ := inB_true.1 g4.1
      rw [wr (by omega) (by omega)] at i1
      have hlt : x2.toNat < x0.Events.toNat := by omega
      show x2 ∈ evs _ _
      unfold evs
      rw [List.mem_flatMap]
      refine ⟨x2.toNat, by simpa using hlt, ?_⟩
      have hany : ((dtab x0 x1 o (oneAt x0 x2 x3 true) 50).any fun r => decide (0 < r.getD x2.toNat 0)) = true := by
        rw [List.any_eq_true]
        have hrow := rowsD (T := dtab x0 x1 o (oneAt x0 x2 x3 true) 50) (k := 0) (by omega)
        refine ⟨_, List.mem_of_getElem? hrow, ?_⟩
        rw [dtab_get x0 x1 o _ 0 50 (by omega), if_pos rfl]
        have h1 := dround_ge x0 x1 o (dtab x0 x1 o (oneAt x0 x2 x3 true) 0) (oneAt x0 x2 x3 true) x2.toNat
        have h2 : (oneAt x0 x2 x3 true).getD x2.toNat 0 = x3 := by
          show (((List.replicate (max 0 (min x0.Events 10)).toNat (0 : Int)).set x2.toNat x3)).getD x2.toNat 0 = x3
          rw [set_getD, if_pos ⟨rfl, by rw [List.length_replicate]; omega⟩]
        exact decide_eq_true (by omega)
      rw [hany]
      show x2 ∈ [((x2.toNat : Nat) : Int)]
      simp; omega
  · rw [bT (neT hd), bT (neT hd)]
    exact ⟨_, rfl, rfl, by simp, fun h => absurd h hd⟩

/-- what a free slack is -/
structure FsOk (g : GEventGraph) (t : GTimetable) (e N : Int) : Prop where
  gr : graphB g = true
  tb : tableB g t = true
  lv : liveB g g.Events.toNat = true
  kp : keptB g t = true
  e0 : 0 ≤ e
  e1 : e < g.Events
  n0 : 0 ≤ N
  n1 : N ≤ 1000000
  le : ∀ k, k < g.Places.length → (plD g k).From = e → N ≤ slk1 t (plD g k)
  ex : N < 1000000 → ∃ k, k < g.Places.length ∧ (plD g k).From = e ∧ slk1 t (plD g k) = N
theorem fs_fold {g : GEventGraph} {t : GTimetable} {e : Int} (hk : keptB g t = true) : ∀ m, m ≤ g.Places.length →
    (0 ≤ (List.range m).foldl (sstep g t e) 1000000 ∧ (List.range m).foldl (sstep g t e) 1000000 ≤ 1000000 ∧ (∀ k, k < m → (plD g k).From = e → (List.range m).foldl (sstep g t e) 1000000 ≤ slk1 t (plD g k)) ∧ ((List.range m).foldl (sstep g t e) 1000000 < 1000000 → ∃ k, k < m ∧ (plD g k).From = e ∧ slk1 t (plD g k) = (List.range m).foldl (sstep g t e) 1000000)) := by
  intro m
  induction m with
  | zero => intro _; exact ⟨by simp, by simp, (fun k h => absurd h (Nat.not_lt_zero k)), fun h => absurd h (by simp)⟩
  | succ m ih =>
    intro hm
    obtain ⟨h1, h2, h3, h4⟩ := ih (by omega)
    rw [List.range_succ, List.foldl_append, List.foldl_cons, List.foldl_nil]
    generalize (List.range m).foldl (sstep g t e) 1000000 = a at h1 h2 h3 h4
    have hs := slk_nn hk (i := m) (by omega)
    have hsl : (slk g t).getD m 0 = slk1 t (plD g m) := by
      unfold slk; rw [List.getD_eq_getElem?_getD, List.getElem?_map, plD_of (by omega)]; rfl
    have hst : sstep g t e a m = if (plD g m).From = e then min a (slk1 t (plD g m)) else a := by
      unfold sstep
      rw [hsl]
      show (bif (plD g m).From == e then _ else _) = _
      by_cases h : (plD g m).From = e
      · rw [if_pos h, h, beq_self_eq_true, cond_true]
      · rw [if_neg h, beq_false_of_ne h, cond_false]
    rw [hst]
    by_cases h : (plD g m).From = e
    · rw [if_pos h]
      refine ⟨by omega, by omega, fun k hk2 hf => ?_, fun hlt => ?_⟩
      · by_cases hkm : k = m
        · subst hkm; omega
        · have := h3 k (by omega) hf; omega
      · by_cases hle : slk1 t (plD g m) ≤ a
        · exact ⟨m, by omega, h, by omega⟩
        · obtain ⟨k, k1, k2, k3⟩ := h4 (by omega)
          exact ⟨k, by omega, k2, by omega⟩
    · rw [if_neg h]
      refine ⟨h1, h2, fun k hk2 hf => ?_, fun hlt => ?_⟩
      · by_cases hkm : k = m
        · subst hkm; exact absurd hf h
        · exact h3 k (by omega) hf
      · obtain ⟨k, k1, k2, k3⟩ := h4 hlt
        exact ⟨k, by omega, k2, k3⟩
theorem val_FreeSlack {F : Nat} {x0 : GEventGraph} {x1 : GTimetable} {x2 : Int} (hF : 134217728 ≤ F) (h0 : x0.Places.length ≤ 1048576) (h1 : x1.Starts.length ≤ 1048576) :
    ∃ N c : Int, spec_FreeSlack F x0 x1 x2 = some (N, c) ∧ impl_FreeSlack F x0 x1 x2 = some (N, c) ∧ (c = 0 → FsOk x0 x1 x2 N) := by
  have hz := zer_len x0
  unfold spec_FreeSlack impl_FreeSlack
  rw [bind_of specOne0_is, mk_int _ (by omega) (by omega)]
  have hzz : (zer x0).length ≤ 1048576 := by omega
  show ∃ N c, _ ∧ (impl_within F x2 0 (IntKind.i64.wrap (((zer x0).length : Int) - 1))).bind _ = _ ∧ _
  simp only [specIn_is, within_is, Option.bind_some, specDelayCode_is hF h0 h1 hzz]
  have hi : ∀ ok, impl_checkDelays F x0 x1 (List.replicate (max 0 (min x0.Events 10)).toNat 0) ok = some (delayCode x0 x1 (zer x0) ok) := fun ok => implDelayCode_is hF h0 h1 hzz
  simp only [hi, Option.bind_some]
  have hc : delayCode x0 x1 (zer x0) (inB x2 0 (IntKind.i64.wrap (x0.Events - 1))) = delayCode x0 x1 (zer x0) (inB x2 0 (IntKind.i64.wrap (((zer x0).length : Int) - 1))) := by
    cases hg : graphB x0 with
    | false => unfold delayCode; rw [hg]; rfl
    | true =>
      obtain ⟨g1, g2, _⟩ := graphB_true hg
      rw [hz, show max 0 (min x0.Events 10) = x0.Events by omega]
  rw [← hc]
  by_cases hd : delayCode x0 x1 (zer x0) (inB x2 0 (IntKind.i64.wrap (x0.Events - 1))) = 0
  · rw [hd]
    obtain ⟨g1, g2, _⟩ := delayCode_zero hd
    have hgl := (graphB_true g1).2.2.1
    have hsl := slk_len x0 x1
    simp only [bne_self_eq_false, cond_false, specSlacks_is hF g1 (tableB_len g2), implSlacks_is hF g1 (tableB_len g2), Option.bind_some]
    have A := fold_loop (len := (slk x0 x1).length) (f := sstep x0 x1 x2) (L := spec_FreeSlack_L1 F x0 x2 (slk x0 x1)) (s := 1000000) (n := F) ?_ ?_ (by omega)
    have B := fold_loop (len := (slk x0 x1).length) (f := sstep x0 x1 x2) (L := impl_FreeSlack_L1 F x0 x2 (slk x0 x1)) (s := 1000000) (n := F) ?_ ?_ (by omega)
    · rw [A, B]
      refine ⟨_, _, rfl, rfl, fun _ => ?_⟩
      obtain ⟨_, q2, _, q4, q5, q6⟩ := delayCode_zero hd
      obtain ⟨f1, f2, f3, f4⟩ := fs_fold (e := x2) q6 (slk x0 x1).length (by omega)
      have hev := (graphB_true g1).1
      have hev2 := (graphB_true g1).2.1
      rw [inB_true, wr (by omega) (by omega)] at q4
      rw [hsl] at f1 f2 f3 f4 ⊢
      exact ⟨g1, q2, q5, q6, q4.1, by omega, f1, f2, f3, f4⟩
    · intro n s k hk
      simp only [impl_FreeSlack_L1, bdT (show (k : Int) < ((slk x0 x1).length : Int) by omega), idx_nat, getD_of hk, placeD (show k < x0.Places.length by omega), Option.bind_some, wrN (show k ≤ 67108864 by omega)]
      unfold sstep
      cases ((x0.Places.getD k ⟨0, 0, 0, 0⟩).From == x2) <;> rfl
    · intro n s
      simp only [impl_FreeSlack_L1, bdF (show ¬ ((slk x0 x1).length : Int) < ((slk x0 x1).length : Int) by omega)]
    · intro n s k hk
      simp only [spec_FreeSlack_L1, bdT (show (k : Int) < ((slk x0 x1).length : Int) by omega), idx_nat, getD_of hk, placeD (show k < x0.Places.length by omega), Option.bind_some, wrN (show k ≤ 67108864 by omega)]
      unfold sstep
      cases ((x0.Places.getD k ⟨0, 0, 0, 0⟩).From == x2) <;> rfl
    · intro n s
      simp only [spec_FreeSlack_L1, bdF (show ¬ ((slk x0 x1).length : Int) < ((slk x0 x1).length : Int) by omega)]
  · rw [bT (neT hd), bT (neT hd)]
    exact ⟨_, _, rfl, rfl, fun h => absurd h hd⟩

theorem draw_tot {F : Nat} {code : List Int} (hF : 134217728 ≤ F) (hc : COk code) : Tot (fun r : GEventGraph × GTimetable × Int × Int => r.1.Places.length ≤ 1048576 ∧ r.2.1.Starts.length ≤ 1048576) (spec_DrawDelayedEvents F code) := by
  unfold spec_DrawDelayedEvents
  refine Tot.bind (from_tot hF hc) fun r3 h3 => Tot.bind (l20Draw_tot hF hc h3 (fun g hg => lpS_tot hF hg) (fun g n hg => etS_tot hF hg)) fun r6 h6 => Tot.bind (next_tot hc h6.1) fun r18 h18 => Tot.cond (fun _ => ?_) fun _ => ?_
  · refine Tot.bind (P := fun r : Int × (List GPlace) × Int × (List Int) × Int × Int => r.2.1.length ≤ 1048576 ∧ r.2.2.2.1.length ≤ 1048576) ?_ ?_
    · exact Tot.bind (pick_tot hc h18.1 (by simp)) fun r77 h77 => Tot.bind (pick_tot hc h77.1 (by simp)) fun r81 h81 => Tot.pure ⟨h6.2.1, h6.2.2.1⟩
    · rintro ⟨a, b, c, d, e, f⟩ ⟨h1, h2⟩
      exact Tot.pure ⟨h1, h2⟩
  · exact Tot.bind (next_tot hc h18.1) fun r101 h101 => Tot.bind (next_tot hc h101.1) fun r103 h103 => Tot.pure ⟨h6.2.1, h6.2.2.1⟩
theorem set_twice {n e : Nat} {x y : Int} : ((List.replicate n (0 : Int)).set e x).set e y = (List.replicate n (0 : Int)).set e y := by
  rw [List.set_set]
theorem fs_total {F : Nat} {T : List (List Int)} (hF : 134217728 ≤ F) (hl : T.length = 7) (hr : ∀ r, r ∈ T → r.length ≤ 10) (hai : ∀ r, r ∈ T → allIn r) : laws_FnFreeSlacks_L5 F (T, 0) F 0 0 = some (T.map List.sum).sum := by
  refine for0 (L := laws_FnFreeSlacks_L5 F (T, 0)) (len := T.length) (fun k s => s = ((T.take k).map List.sum).sum ∧ 0 ≤ s ∧ s ≤ (k : Int) * 10000000) (R := fun r => r = some (T.map List.sum).sum) ?_ ?_ (by simp) (by omega)
  · rintro n k s hk ⟨rfl, s0, s1⟩
    have hrow := rowsD hk
    have hm := List.mem_of_getElem? hrow
    have hrl := hr _ hm
    obtain ⟨p1, p2, p3⟩ := sum_pos (allIn_mem (hai _ hm))
    have e : ((T.take (k + 1)).map List.sum).sum = ((T.take k).map List.sum).sum + (T.getD k []).sum := by
      rw [List.take_add_one, hrow, List.map_append, List.sum_append]; simp
    refine .inl ⟨_, ?_, rfl, ?_, ?_⟩
    · simp only [laws_FnFreeSlacks_L5, bdT (show (k : Int) < (T.length : Int) by omega), idx_nat, hrow, Option.bind_some, lawSum_loop (xs := T.getD k []) (by omega) (allIn_mem (hai _ hm)) hF, wr (show -9223372036854775808 ≤ ((T.take k).map List.sum).sum + (T.getD k []).sum by omega) (show ((T.take k).map List.sum).sum + (T.getD k []).sum ≤ 9223372036854775807 by omega), e, wrN (show k ≤ 67108864 by omega)]
    · omega
    · rw [e]; omega
  · rintro n s ⟨rfl, _, _⟩
    simp only [laws_FnFreeSlacks_L5, bdF (show ¬ (T.length : Int) < (T.length : Int) by omega), List.take_length]
theorem fs_table {F : Nat} {g : GEventGraph} {t : GTimetable} {e N : Int} (hF : 134217728 ≤ F) (h0 : g.Places.length ≤ 1048576) (h1 : t.Starts.length ≤ 1048576) (h : FsOk g t e N) {x : Int} (hx0 : 0 ≤ x) (hx1 : x ≤ 1000000) :
    ∃ o, fire (eP g.Places) g.Events.toNat g.Events.toNat [] = some o ∧ impl_DelayTable F g t ((zeros g).set e.toNat x) 7 = some (dtab g t o ((zeros g).set e.toNat x) 7, 0) ∧ (∀ r, r ∈ dtab g t o ((zeros g).set e.toNat x) 7 → r.length ≤ 10) ∧ ∀ r, r ∈ dtab g t o ((zeros g).set e.toNat x) 7 → allIn r := by
  obtain ⟨o, ho⟩ := liveB_some h.lv
  have h10 := (GOk.of h.gr).n10
  have hev := (graphB_true h.gr).1
  have hzl : (zeros g).length = g.Events.toNat := by unfold zeros; simp
  have hdl : ((zeros g).set e.toNat x).length = g.Events.toNat := by rw [List.length_set, hzl]
  have hdi : allIn ((zeros g).set e.toNat x) := by
    intro q
    rw [set_getD]
    split
    · exact ⟨hx0, hx1⟩
    · exact zeros_in g q
  have hst : startsB g ((zeros g).set e.toNat x) = true := by
    unfold startsB
    simp only [Bool.and_eq_true, beq_iff_eq, List.all_eq_true, inB_true]
    exact ⟨by omega, allIn_mem hdi⟩
  have hd : delayCode g t ((zeros g).set e.toNat x) true = 0 := by
    unfold delayCode
    rw [h.gr, h.tb, hst, h.lv, h.kp]; rfl
  have s2 := implDTable_is (n := 7) hF h.gr (tableB_len h.tb) ho hdl (by omega)
  rw [show ((7 : Nat) : Int) = 7 from rfl] at s2
  refine ⟨o, ho, ?_, fun r hr => by rw [dtab_rows hdl 7 r hr]; exact h10, dtab_in h.kp hdi 7⟩
  unfold impl_DelayTable
  simp only [within_is, Option.bind_some, show inB 7 0 50 = true by decide, implDelayCode_is hF h0 h1 (show ((zeros g).set e.toNat x).length ≤ 1048576 by omega), s2]
  rw [bF (neF hd)]
theorem fs_loop {F : Nat} {g : GEventGraph} {t : GTimetable} {e N : Int} (hF : 134217728 ≤ F) (h0 : g.Places.length ≤ 1048576) (h1 : t.Starts.length ≤ 1048576) (hok : FsOk g t e N) (hN : N < 1000000) : laws_FnFreeSlacks_L4 F (g, t, e) (N, 0) F (zeros g) 0 = some (.inr ()) := by
  have n0 := hok.n0
  have e0 := hok.e0
  have e1 := hok.e1
  have hzl : (zeros g).length = g.Events.toNat := by unfold zeros; simp
  have he : e.toNat < g.Events.toNat := by omega
  obtain ⟨o, ho, t1, t2, t3⟩ := fs_table hF h0 h1 hok (x := N) n0 (by omega)
  obtain ⟨o2, ho2, v1, v2, v3⟩ := fs_table hF h0 h1 hok (x := N + 1) (by omega) (by omega)
  obtain rfl : o = o2 := by rw [ho] at ho2; exact Option.some.inj ho2
  have hsl : ((zeros g).set e.toNat N).length = g.Events.toNat := by rw [List.length_set, hzl]
  have i1 : idx (zeros g) e = some ((zeros g).getD e.toNat 0) := getI e0 (by omega)
  have i2 : idx ((zeros g).set e.toNat N) e = some (((zeros g).set e.toNat N).getD e.toNat 0) := getI e0 (by omega)
  have w1 : IntKind.i64.wrap (N + 0) = N := by rw [Int.add_zero]; exact wr (by omega) (by omega)
  have w2 : IntKind.i64.wrap (N + 1) = N + 1 := wr (by omega) (by omega)
  have u1 : upd (zeros g) e N = some ((zeros g).set e.toNat N) := upd_int _ e0 (by omega)
  have u2 : upd ((zeros g).set e.toNat N) e (N + 1) = some ((zeros g).set e.toNat (N + 1)) := by
    rw [upd_int _ e0 (by omega), List.set_set]
  have hcalm : Calm e.toNat N ((zeros g).set e.toNat N) := by
    intro i
    rw [set_getD]
    by_cases hi : i = e.toNat
    · rw [if_pos ⟨hi, by omega⟩, if_pos hi]; omega
    · rw [if_neg (fun hh => hi hh.1)]
      exact calm_zeros g (e0 := e.toNat) (N := N) n0 i
  have hfrom : ∀ k, k < g.Places.length → (plD g k).From.toNat = e.toNat → N ≤ slk1 t (plD g k) := fun k hk hf => hok.le k hk (by
    obtain ⟨⟨p, hp, _⟩, _, _⟩ := PlOk.of hok.gr hk
    rw [hp] at hf ⊢
    simp only [Int.toNat_natCast] at hf
    omega)
  have hq7 := (calm_tab (o := o) (ds := (zeros g).set e.toNat N) hok.kp hfrom (by omega) n0 hcalm 7).2
  rw [if_neg (by decide)] at hq7
  have hsum : ((zeros g).set e.toNat N).sum = N := by unfold zeros; exact sum_set _ _ _ he
  rw [hsum] at hq7
  obtain ⟨k, k1, k2, k3⟩ := hok.ex hN
  have hm := spread_more hok.gr hok.kp ho he k1 (by rw [k2]; omega) k3 hN
  have l1 := dtab_len g t o ((zeros g).set e.toNat N) 7
  have l2 := dtab_len g t o ((zeros g).set e.toNat (N + 1)) 7
  have s1 := fs_total hF l1 t2 t3
  have s2 := fs_total hF l2 v2 v3
  have eg : GEventGraph.mk g.Events g.Places = g := rfl
  have et : GTimetable.mk t.Period t.Starts = t := rfl
  generalize dtab g t o ((zeros g).set e.toNat N) 7 = T1 at *
  generalize dtab g t o ((zeros g).set e.toNat (N + 1)) 7 = T2 at *
  generalize (T2.map List.sum).sum = m2 at *
  rw [hq7] at s1
  obtain ⟨F2, hF2⟩ : ∃ q, F = q + 3 := ⟨F - 3, by omega⟩
  have step0 : ∀ n, laws_FnFreeSlacks_L4 F (g, t, e) (N, 0) (n + 1) (zeros g) 0 = laws_FnFreeSlacks_L4 F (g, t, e) (N, 0) n ((zeros g).set e.toNat N) 1 := fun n => by
    simp only [laws_FnFreeSlacks_L4, bdT (show (0 : Int) < 2 by decide), i1, w1, u1, eg, et, t1, Option.bind_some, bne_self_eq_false, cond_false, l1, s1, dF (show ¬ N < N by omega)]
    rfl
  have step1 : ∀ n, laws_FnFreeSlacks_L4 F (g, t, e) (N, 0) (n + 1) ((zeros g).set e.toNat N) 1 = laws_FnFreeSlacks_L4 F (g, t, e) (N, 0) n ((zeros g).set e.toNat (N + 1)) 2 := fun n => by
    simp only [laws_FnFreeSlacks_L4, bdT (show (1 : Int) < 2 by decide), i2, w2, u2, eg, et, v1, Option.bind_some, bne_self_eq_false, cond_false, l2, s2, dT hm]
    rfl
  have step2 : ∀ n xs, laws_FnFreeSlacks_L4 F (g, t, e) (N, 0) (n + 1) xs 2 = some (.inr ()) := fun n xs => by
    simp only [laws_FnFreeSlacks_L4, bdF (show ¬ (2 : Int) < 2 by decide)]
  have h := (step0 (F2 + 2)).trans ((step1 (F2 + 1)).trans (step2 F2 _))
  rwa [show F2 + 2 + 1 = F by omega] at h
theorem law_FreeSlacks {F : Nat} {x0 : List Int} (hF0 : 9223372036854775808 ≤ F) (_ : x0.length ≤ 9223372036854775807) (hb : ∀ y, y ∈ x0 → 0 ≤ y ∧ y ≤ 255) : laws_FnFreeSlacks F x0 = some true := by
  have hF : 134217728 ≤ F := by omega
  unfold laws_FnFreeSlacks laws_big
  by_cases hbig : (4096 : Int) < (x0.length : Int)
  · simp only [Option.bind_some, dT hbig, cond_true]
  simp only [Option.bind_some, dF hbig, cond_false]
  have hc : COk x0 := ⟨by omega, hb⟩
  obtain ⟨⟨h, u, e, b⟩, hd, b0, b1⟩ := draw_tot hF hc
  have hfs : spec_DrawFreeSlack F x0 = some (h, u, e) := by
    unfold spec_DrawFreeSlack
    rw [hd]; rfl
  have eg : GEventGraph.mk h.Events h.Places = h := rfl
  have et : GTimetable.mk u.Period u.Starts = u := rfl
  have b0 : h.Places.length ≤ 1048576 := b0
  have b1 : u.Starts.length ≤ 1048576 := b1
  obtain ⟨N, c, f1, f2, f3⟩ := val_FreeSlack (x2 := e) hF b0 b1
  obtain ⟨⟨xs, c2⟩, d1, d2, d3, d4⟩ := val_DelayedEvents (x2 := e) (x3 := b) hF b0 b1
  have hcase : (bif (c2 == 0) then (bif (decide (0 < b)) then ((laws_hasInt F xs e).bind fun r65 => some (!r65)) else some false) else some false) = some false := by
    by_cases h0 : c2 = 0
    · rw [h0, beq_self_eq_true, cond_true]
      by_cases hb0 : 0 < b
      · rw [dT hb0, cond_true, hasInt_mem hF d3 (d4 h0 hb0)]; rfl
      · rw [dF hb0, cond_false]
    · rw [beq_false_of_ne h0, cond_false]
  simp only [hd, hfs, Option.bind_some, eg, et, f1, f2, d1, d2, bne_self_eq_false, cond_false, likeInts_self hF d3, Bool.not_true, hcase]
  by_cases hc0 : c = 0
  · by_cases hN : N = 1000000
    · rw [hN]
      simp only [hc0, bne_self_eq_false, cond_false, beq_self_eq_true, Option.bind_some, cond_true]
    · have hok := f3 hc0
      obtain ⟨gr, tb, lv, kp, e0, e1, n0, n1, le, ex⟩ := hok
      have hok := f3 hc0
      have hev := (graphB_true gr).1
      have hev2 := (graphB_true gr).2.1
      have hmk : mk h.Events (0 : Int) = some (zeros h) := mk_int _ (by omega) (by omega)
      simp only [hc0, bne_self_eq_false, cond_false, beq_false_of_ne hN, Option.bind_some, hmk]
      have hL := fs_loop hF b0 b1 hok (Int.lt_iff_le_and_ne.2 ⟨hok.n1, hN⟩)
      rw [hL]; rfl
  · simp only [neT hc0, cond_true, Option.bind_some]

end Go.Proofs.Ytebmlphobgaboaa
