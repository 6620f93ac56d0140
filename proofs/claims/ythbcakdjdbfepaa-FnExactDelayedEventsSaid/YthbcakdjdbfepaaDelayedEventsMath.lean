/- The reference and the program answer alike. -/
import Derived.Test.YthbcakdjdbfepaaDelayedEventsSmall
namespace Go.Proofs.Ythbcakdjdbfepaa

/-- zeros, with by at one place -/
def oneAt (g : GEventGraph) (e by' : Int) (ok : Bool) : List Int :=
  bif ok then (List.replicate (max 0 (min g.Events 10)).toNat (0 : Int)).set e.toNat by' else List.replicate (max 0 (min g.Events 10)).toNat 0
theorem oneAt_len (g : GEventGraph) (e b : Int) (ok : Bool) : ((oneAt g e b ok).length : Int) = max 0 (min g.Events 10) := by
  unfold oneAt; cases ok <;> simp <;> omega
theorem upd_rep {m : Nat} {e b : Int} (h : inB e 0 (IntKind.i64.wrap (((List.replicate m (0 : Int)).length : Int) - 1)) = true) (hm : m ≤ 10) : idx (List.replicate m (0 : Int)) e = some 0 ∧ upd (List.replicate m (0 : Int)) e b = some ((List.replicate m (0 : Int)).set e.toNat b) := by
  rw [List.length_replicate, inB_true, wr (by omega) (by omega)] at h
  refine ⟨?_, upd_int _ h.1 (by simp; omega)⟩
  rw [getI h.1 (by simp; omega), List.getD_eq_getElem?_getD, List.getElem?_replicate]
  split <;> rfl
theorem specOne_is {F : Nat} {g : GEventGraph} {e b : Int} : spec_l21One F g e b = some (oneAt g e b (inB e 0 (IntKind.i64.wrap (max 0 (min g.Events 10) - 1)))) := by
  unfold spec_l21One oneAt
  rw [show max 0 (min 10 g.Events) = max 0 (min g.Events 10) by omega, mk_int _ (by omega) (by omega)]
  simp only [specIn_is, Option.bind_some]
  have e1 : ((List.replicate (max 0 (min g.Events 10)).toNat (0 : Int)).length : Int) = max 0 (min g.Events 10) := by rw [List.length_replicate]; omega
  rw [e1]
  cases hi : inB e 0 (IntKind.i64.wrap (max 0 (min g.Events 10) - 1)) with
  | false => rfl
  | true =>
    obtain ⟨a1, a2⟩ := upd_rep (m := (max 0 (min g.Events 10)).toNat) (b := b) (by rw [e1]; exact hi) (by omega)
    simp only [cond_true, a1, a2, Option.bind_some]

theorem wfold_getD (T : List (List Int)) (n i : Nat) (hi : i < n) : ∀ (xs : List Int), xs.length = n → (T.foldl wmax xs).getD i 0 = T.foldl (fun m r => max m (r.getD i 0)) (xs.getD i 0) := by
  induction T with
  | nil => intro xs _; rfl
  | cons r T ih =>
    intro xs hx
    rw [List.foldl_cons, List.foldl_cons, ih _ (by rw [wmax_len]; exact hx)]
    congr 1
    unfold wmax
    rw [List.getD_eq_getElem?_getD, List.getElem?_map, List.getElem?_range (by omega)]; rfl
theorem fmax_pos {T : List (List Int)} {i : Nat} (h : ∀ r, r ∈ T → 0 ≤ r.getD i 0) : ∀ (m : Int), 0 ≤ m → 0 ≤ T.foldl (fun m r => max m (r.getD i 0)) m ∧ (T.foldl (fun m r => max m (r.getD i 0)) m != 0) = ((m != 0) || T.any fun r => decide (0 < r.getD i 0)) := by
  induction T with
  | nil => intro m hm; exact ⟨hm, by simp⟩
  | cons r T ih =>
    intro m hm
    have hr := h r (by simp)
    obtain ⟨h1, h2⟩ := ih (fun q hq => h q (by simp [hq])) (max m (r.getD i 0)) (by omega)
    rw [List.foldl_cons]
    refine ⟨h1, ?_⟩
    rw [h2, List.any_cons, ← Bool.or_assoc]
    congr 1
    by_cases h3 : m = 0
    · subst h3
      by_cases h4 : r.getD i 0 = 0
      · rw [h4]; rfl
      · rw [neT (show max 0 (r.getD i 0) ≠ 0 by omega), dT (show 0 < r.getD i 0 by omega)]; simp
    · rw [neT h3, neT (show max m (r.getD i 0) ≠ 0 by omega)]; rfl

def evs (T : List (List Int)) (n : Nat) : List Int := (List.range n).flatMap fun e => bif T.any (fun r => decide (0 < r.getD e 0)) then [(e : Int)] else []
theorem flat_len {α β : Type} {g : α → List β} (hg : ∀ x, (g x).length ≤ 1) (l : List α) : (l.flatMap g).length ≤ l.length := by
  induction l with
  | nil => simp
  | cons x l ih =>
    rw [List.flatMap_cons, List.length_append, List.length_cons]
    have := hg x
    omega
theorem evs_len (T : List (List Int)) (n : Nat) : (evs T n).length ≤ n := by
  have := flat_len (g := fun e : Nat => bif T.any (fun r => decide (0 < r.getD e 0)) then [(e : Int)] else []) (fun x => by cases (T.any fun r => decide (0 < r.getD x 0)) <;> simp) (List.range n)
  rw [List.length_range] at this
  exact this
theorem specEvs_is {F : Nat} {g : GEventGraph} {T : List (List Int)} (hF : 134217728 ≤ F) (hG : GOk g g.Events.toNat) (hl : T.length ≤ 50) (hr : ∀ r, r ∈ T → r.length = g.Events.toNat) : spec_DelayedEvents_L4 F g T F [] 0 = some (evs T g.Events.toNat) := by
  have h10 := hG.n10
  have hev := hG.ev
  have inner : ∀ e, e < g.Events.toNat → spec_DelayedEvents_L5 F T (e : Int) F false 0 = some (T.any fun r => decide (0 < r.getD e 0)) := by
    intro e he
    have H := for0 (L := spec_DelayedEvents_L5 F T (e : Int)) (len := T.length) (fun k s => s = (T.take k).any fun r => decide (0 < r.getD e 0)) (R := fun q => q = some (T.any fun r => decide (0 < r.getD e 0))) (s := false) (n := F) ?_ ?_ (by simp) (by omega)
    · exact H
    · rintro n k s hk rfl
      have hrow : T[k]? = some (T.getD k []) := by rw [List.getD_eq_getElem?_getD, List.getElem?_eq_getElem hk]; rfl
      have hlen := hr _ (List.mem_of_getElem? hrow)
      refine .inl ⟨_, ?_, rfl⟩
      simp only [spec_DelayedEvents_L5, bdT (show (k : Int) < (T.length : Int) by omega), idx_nat, hrow, getD_of (show e < (T.getD k []).length by omega), Option.bind_some, cond_or, wrN (show k ≤ 67108864 by omega)]
      rw [List.take_add_one, hrow, List.any_append]; simp
    · rintro n s rfl
      simp only [spec_DelayedEvents_L5, bdF (show ¬ (T.length : Int) < (T.length : Int) by omega), List.take_length]
  have H := grow_loop (ps := List.range g.Events.toNat) (g := fun e => bif T.any (fun r => decide (0 < r.getD e 0)) then [(e : Int)] else []) (L := spec_DelayedEvents_L4 F g T) (n := F) ?_ ?_ ?_ (by rw [List.length_range]; omega)
  · exact H
  · intro x; cases (T.any fun r => decide (0 < r.getD x 0)) <;> simp
  · intro n xs k x hk hx hxl
    rw [List.length_range] at hk
    have e : x = k := by rw [List.getElem?_range hk] at hx; cases hx; rfl
    subst e
    have hlt : decide ((x : Int) < g.Events) = true := by rw [hev]; exact decide_eq_true (by omega)
    have happ : app xs [(x : Int)] = some (xs ++ [(x : Int)]) := app_le (by simp only [List.length_singleton]; omega)
    simp only [spec_DelayedEvents_L4, hlt, cond_true, inner x hk, Option.bind_some, happ, wrN (show x ≤ 67108864 by omega)]
    cases (T.any fun r => decide (0 < r.getD x 0)) <;> simp
  · intro n xs
    rw [List.length_range]
    have hlt : decide ((g.Events.toNat : Int) < g.Events) = false := by rw [hev]; exact decide_eq_false (by omega)
    simp only [spec_DelayedEvents_L4, hlt, cond_false]
theorem implEvs_is {F : Nat} {T : List (List Int)} {w : List Int} (hF : 134217728 ≤ F) (hw : w.length ≤ 10) (h : ∀ e, e < w.length → (w.getD e 0 != 0) = T.any fun r => decide (0 < r.getD e 0)) : impl_DelayedEvents_L1 F w F [] 0 = some (evs T w.length) := by
  have H := grow_loop (ps := List.range w.length) (g := fun e => bif T.any (fun r => decide (0 < r.getD e 0)) then [(e : Int)] else []) (L := impl_DelayedEvents_L1 F w) (n := F) ?_ ?_ ?_ (by rw [List.length_range]; omega)
  · exact H
  · intro x; cases (T.any fun r => decide (0 < r.getD x 0)) <;> simp
  · intro n xs k x hk hx hxl
    rw [List.length_range] at hk
    have e : x = k := by rw [List.getElem?_range hk] at hx; cases hx; rfl
    subst e
    have happ : app xs [(x : Int)] = some (xs ++ [(x : Int)]) := app_le (by simp only [List.length_singleton]; omega)
    simp only [impl_DelayedEvents_L1, bdT (show (x : Int) < (w.length : Int) by omega), idx_nat, getD_of hk, Option.bind_some, h x hk, happ, wrN (show x ≤ 67108864 by omega)]
    cases (T.any fun r => decide (0 < r.getD x 0)) <;> simp
  · intro n xs
    rw [List.length_range]
    simp only [impl_DelayedEvents_L1, bdF (show ¬ (w.length : Int) < (w.length : Int) by omega)]

theorem delayCode_no {g : GEventGraph} {t : GTimetable} {ds ds' : List Int} : delayCode g t ds false = delayCode g t ds' false := by
  unfold delayCode; simp

theorem same_DelayedEvents {F : Nat} {x0 : GEventGraph} {x1 : GTimetable} {x2 x3 : Int} (hF : 134217728 ≤ F) (h0 : x0.Places.length ≤ 1048576) (h1 : x1.Starts.length ≤ 1048576) :
    ∃ r : List Int × Int, spec_DelayedEvents F x0 x1 x2 x3 = some r ∧ impl_DelayedEvents F x0 x1 x2 x3 = some r ∧ r.1.length ≤ 1048576 := by
  have hol := oneAt_len x0 x2 x3
  have hob : ∀ b, (oneAt x0 x2 x3 b).length ≤ 1048576 := fun b => by have := hol b; omega
  unfold spec_DelayedEvents impl_DelayedEvents
  rw [mk_int _ (by omega) (by omega)]
  have e1 : ((List.replicate (max 0 (min x0.Events 10)).toNat (0 : Int)).length : Int) = max 0 (min x0.Events 10) := by rw [List.length_replicate]; omega
  simp only [specIn_is, within_is, Option.bind_some, cond_and, specOne_is, specDelayCode_is hF h0 h1 (hob _), e1]
  -- the program's list
  have himp : (bif inB x2 0 (IntKind.i64.wrap (max 0 (min x0.Events 10) - 1)) && inB x3 0 1000000 then (idx (List.replicate (max 0 (min x0.Events 10)).toNat (0 : Int)) x2).bind fun _ => (upd (List.replicate (max 0 (min x0.Events 10)).toNat (0 : Int)) x2 x3).bind fun xs31 => some xs31 else some (List.replicate (max 0 (min x0.Events 10)).toNat (0 : Int))) = some (oneAt x0 x2 x3 (inB x2 0 (IntKind.i64.wrap (max 0 (min x0.Events 10) - 1)) && inB x3 0 1000000)) := by
    unfold oneAt
    cases hi : inB x2 0 (IntKind.i64.wrap (max 0 (min x0.Events 10) - 1)) with
    | false => rfl
    | true =>
      cases inB x3 0 1000000 with
      | false => rfl
      | true =>
        obtain ⟨a1, a2⟩ := upd_rep (m := (max 0 (min x0.Events 10)).toNat) (b := x3) (by rw [e1]; exact hi) (by omega)
        simp only [Bool.and_self, cond_true, a1, a2, Option.bind_some]
  rw [himp]
  simp only [Option.bind_some, implDelayCode_is hF h0 h1 (hob _)]
  have hc : delayCode x0 x1 (oneAt x0 x2 x3 (inB x2 0 (IntKind.i64.wrap (max 0 (min x0.Events 10) - 1)))) (inB x2 0 (IntKind.i64.wrap (x0.Events - 1)) && inB x3 0 1000000) = delayCode x0 x1 (oneAt x0 x2 x3 (inB x2 0 (IntKind.i64.wrap (max 0 (min x0.Events 10) - 1)) && inB x3 0 1000000)) (inB x2 0 (IntKind.i64.wrap (max 0 (min x0.Events 10) - 1)) && inB x3 0 1000000) := by
    cases hg : graphB x0 with
    | false => unfold delayCode; rw [hg]; rfl
    | true =>
      obtain ⟨g1, g2, _⟩ := graphB_true hg
      rw [show max 0 (min x0.Events 10) = x0.Events by omega]
      cases inB x3 0 1000000 with
      | false => rw [Bool.and_false]; exact delayCode_no
      | true => rw [Bool.and_true]
  rw [hc]
  by_cases hd : delayCode x0 x1 (oneAt x0 x2 x3 (inB x2 0 (IntKind.i64.wrap (max 0 (min x0.Events 10) - 1)) && inB x3 0 1000000)) (inB x2 0 (IntKind.i64.wrap (max 0 (min x0.Events 10) - 1)) && inB x3 0 1000000) = 0
  · rw [bF (neF hd), bF (neF hd)]
    obtain ⟨g1, g2, g3, g4, g5, g6⟩ := delayCode_zero hd
    rw [Bool.and_eq_true] at g4
    rw [g4.1, g4.2] at g3 ⊢
    simp only [Bool.and_self] at g3 ⊢
    obtain ⟨o, ho⟩ := liveB_some g5
    obtain ⟨hds, hin⟩ := startsB_len g3
    have hG := GOk.of g1
    have h10 := hG.n10
    have hl := dtab_len x0 x1 o (oneAt x0 x2 x3 true) 50
    have hrw := dtab_rows (g := x0) (t := x1) (o := o) hds 50
    have hai := dtab_in (o := o) g6 hin 50
    have s1 := specDTable_is (n := 50) hF g1 (tableB_len g2) ho hds (by omega)
    have s2 := implDTable_is (n := 50) hF g1 (tableB_len g2) ho hds (by omega)
    rw [show ((50 : Nat) : Int) = 50 from rfl] at s1 s2
    rw [bind_of s1, bind_of s2, bind_of (specEvs_is hF hG (by omega) hrw), bind_of (implWorst_is hF hG (by omega) hrw)]
    have hz : (zeros x0).length = x0.Events.toNat := by unfold zeros; simp
    have hwl := wfold_len (dtab x0 x1 o (oneAt x0 x2 x3 true) 50) (zeros x0)
    have hev2 := implEvs_is (F := F) (T := dtab x0 x1 o (oneAt x0 x2 x3 true) 50) (w := (dtab x0 x1 o (oneAt x0 x2 x3 true) 50).foldl wmax (zeros x0)) hF (by omega) (fun e he => by
      rw [wfold_getD _ x0.Events.toNat e (by omega) (zeros x0) hz]
      have hze : (zeros x0).getD e 0 = 0 := by
        unfold zeros; rw [List.getD_eq_getElem?_getD, List.getElem?_replicate]; split <;> rfl
      rw [hze, (fmax_pos (i := e) (fun r hr => (hai r hr e).1) 0 (Int.le_refl 0)).2]; simp)
    rw [bind_of hev2, hwl, hz]
    refine ⟨_, rfl, rfl, ?_⟩
    have := evs_len (dtab x0 x1 o (oneAt x0 x2 x3 true) 50) x0.Events.toNat
    simp only; omega
  · rw [bT (neT hd), bT (neT hd)]
    exact ⟨_, rfl, rfl, by simp⟩

end Go.Proofs.Ythbcakdjdbfepaa
