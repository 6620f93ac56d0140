/- The law's model answers true. -/
import Derived.Test.YtebmlphobgaboabLatestSmall
namespace Go.Proofs.Ytebmlphobgaboab

theorem likeInts_self {F : Nat} {xs : List Int} (hF : 134217728 ≤ F) (hl : xs.length ≤ 1048576) : laws_likeInts F xs xs = some true := by
  unfold laws_likeInts
  rw [bne_self_eq_false, cond_false]
  have H := same_loop (len := xs.length) (L := laws_likeInts_L1 F xs xs) (n := F) ?_ ?_ (by omega)
  · rw [H]; rfl
  · intro n k hk
    have hx : xs[k]? = some xs[k] := List.getElem?_eq_getElem hk
    simp only [laws_likeInts_L1, bdT (show (k : Int) < (xs.length : Int) by omega), idx_nat, hx, Option.bind_some, bne_self_eq_false, cond_false, wrN (show k ≤ 67108864 by omega)]
  · intro n
    simp only [laws_likeInts_L1, bdF (show ¬ (xs.length : Int) < (xs.length : Int) by omega)]
theorem likeT_self {F : Nat} {a : List (List Int)} (hF : 134217728 ≤ F) (hl : a.length ≤ 1048576) (hr : ∀ r, r ∈ a → r.length ≤ 1048576) : laws_likeTables9 F a a = some true := by
  unfold laws_likeTables9
  rw [bne_self_eq_false, cond_false]
  have H := same_loop (len := a.length) (L := laws_likeTables9_L1 F a a) (n := F) ?_ ?_ (by omega)
  · rw [H]; rfl
  · intro n k hk
    have hx : a[k]? = some a[k] := List.getElem?_eq_getElem hk
    simp only [laws_likeTables9_L1, bdT (show (k : Int) < (a.length : Int) by omega), idx_nat, hx, Option.bind_some, likeInts_self hF (hr _ (List.getElem_mem hk)), Bool.not_true, cond_false, wrN (show k ≤ 67108864 by omega)]
  · intro n
    simp only [laws_likeTables9_L1, bdF (show ¬ (a.length : Int) < (a.length : Int) by omega)]

theorem cpy_full {xs ys : List Int} (h : xs.length = ys.length) : cpy xs ys = ys := by
  unfold cpy; rw [h, List.take_length, List.drop_of_length_le (by omega), List.append_nil]
theorem same_DueOfLast {F : Nat} {x0 : GEventGraph} {x1 : Int} {x2 : List Int} (hF : 134217728 ≤ F) (h0 : x0.Places.length ≤ 1048576) (h2 : x2.length ≤ 1048576) :
    ∃ r : List (List Int) × Int, spec_DueOfLast F x0 x1 x2 = some r ∧ impl_DueOfLast F x0 x1 x2 = some r ∧ (r.1.length ≤ 1048576 ∧ offR r.1 r.1.length ≤ 1048576) := by
  have hz : (([] : List (List Int)).length ≤ 1048576 ∧ offR ([] : List (List Int)) ([] : List (List Int)).length ≤ 1048576) := by simp [offR_zero]
  unfold spec_DueOfLast impl_DueOfLast
  rw [specGraph_is hF h0, implGraph_is hF h0]
  simp only [Option.bind_some, specIn_is, within_is, implAllWithin_is hF h2]
  cases hg : graphB x0 with
  | false => exact ⟨([], 1), rfl, rfl, hz⟩
  | true =>
    obtain ⟨e1, e2, e3, -⟩ := graphB_true hg
    have hb : dueB x0 [x2] = rowB x0 x2 := by simp [dueB]
    rw [specDue_is (due := [x2]) hF hg (by simp) (by simpa using h2), hb]
    cases hi : inB x1 1 50 with
    | false => exact ⟨([], 2), rfl, rfl, hz⟩
    | true =>
      cases hr : rowB x0 x2 with
      | false =>
        refine ⟨([], 2), rfl, ?_, hz⟩
        unfold rowB at hr
        cases hl : ((x2.length : Int) == x0.Events) with
        | false => simp only [bne, hl]; rfl
        | true => rw [hl, Bool.true_and] at hr; simp only [bne, hl, hr]; rfl
      | true =>
        unfold rowB at hr
        rw [Bool.and_eq_true] at hr
        obtain ⟨hl, ha⟩ := hr
        have hl' : (x2.length : Int) = x0.Events := by simpa using hl
        obtain ⟨hx1, hx2⟩ := inB_true.1 hi
        obtain ⟨n, rfl⟩ : ∃ n : Nat, x1 = ((n + 1 : Nat) : Int) := ⟨x1.toNat - 1, by omega⟩
        have S5 : spec_DueOfLast_L5 F x0 F [] 0 = some ((List.range x2.length).map fun _ => (1000000 : Int)) := by
          refine tab_loop (n := F) ?_ ?_ (by omega)
          · intro n xs k hk hx
            simp only [spec_DueOfLast_L5, ← hl', bdT (show (k : Int) < (x2.length : Int) by omega), app_le (show xs.length + [(1000000 : Int)].length ≤ 67108864 by simp; omega), Option.bind_some, wrN (show k ≤ 67108864 by omega)]
          · intro n xs hx
            simp only [spec_DueOfLast_L5, ← hl', bdF (show ¬ (x2.length : Int) < (x2.length : Int) by omega)]
        generalize hrow : ((List.range x2.length).map fun _ => (1000000 : Int)) = row at S5
        have hrl : row.length = x2.length := by rw [← hrow]; simp
        have S4 : spec_DueOfLast_L4 F x0 ((n + 1 : Nat) : Int) F [] ((1 : Nat) : Int) = some ((List.range n).map fun _ => row) := by
          refine for_ind (spec_DueOfLast_L4 F x0 ((n + 1 : Nat) : Int)) (n + 1) (fun k s => 1 ≤ k ∧ s = (List.range (k - 1)).map (fun _ => row)) (fun o => o = some ((List.range n).map fun _ => row)) ?_ ?_ n 1 [] F (by omega) ⟨by omega, rfl⟩ (by omega)
          · rintro m k s hk ⟨h1, rfl⟩
            refine .inl ⟨(List.range k).map (fun _ => row), ?_, by omega, rfl⟩
            have hk1 : k = (k - 1) + 1 := by omega
            simp only [spec_DueOfLast_L4, bdT (show (k : Int) < ((n + 1 : Nat) : Int) by omega), S5, Option.bind_some, app_le (show ((List.range (k - 1)).map (fun _ => row)).length + [row].length ≤ 67108864 by simp; omega), wrN (show k ≤ 67108864 by omega)]
            conv => rhs; rw [hk1, List.range_succ, List.map_append]
            rw [← hk1]; rfl
          · rintro m s ⟨h1, rfl⟩
            simp only [spec_DueOfLast_L4, bdF (show ¬ ((n + 1 : Nat) : Int) < ((n + 1 : Nat) : Int) by omega)]; rfl
        have I := matrixBy_is (F := F) (m := n + 1) (n := x2.length) (en := fun a b => impl_DueOfLast_c1 F a b) (f := fun _ _ => 1000000) hF (by omega) h2 (fun i j _ _ => rfl)
        have hq : (tabM (n + 1) x2.length (fun _ _ => 1000000))[n]? = some row := by rw [tabM_row (by omega), hrow]
        have htl : (tabM (n + 1) x2.length (fun _ _ => (1000000 : Int))).length = n + 1 := tabM_len _ _ _
        have hset : (tabM (n + 1) x2.length (fun _ _ => (1000000 : Int))).set n x2 = ((List.range n).map fun _ => row) ++ [x2] := by
          unfold tabM
          rw [List.range_succ, List.map_append]
          simp only [hrow]
          rw [List.set_append_right _ _ (by simp)]
          simp
        refine ⟨(((List.range n).map fun _ => row) ++ [x2], 0), ?_, ?_, ?_, ?_⟩
        · have h4 : spec_DueOfLast_L4 F x0 ((n + 1 : Nat) : Int) F [] 1 = some ((List.range n).map fun _ => row) := S4
          simp only [h4, specOwn_is h2, Bool.not_true, cond_false, Option.bind_some, app_le (show ((List.range n).map (fun _ => row)).length + [x2].length ≤ 67108864 by simp; omega)]
        · simp only [bne, hl, ha, Bool.not_true, cond_false, Option.bind_some, I]
          rw [wr (show -9223372036854775808 ≤ ((n + 1 : Nat) : Int) - 1 by omega) (by omega), show ((n + 1 : Nat) : Int) - 1 = (n : Int) by omega]
          simp only [idx_nat, hq, Option.bind_some, cpy_full hrl, upd_nat _ (show n < (tabM (n + 1) x2.length (fun _ _ => (1000000 : Int))).length by omega), hset]
        · simp; omega
        · have hrw : ∀ r, r ∈ ((List.range n).map fun _ => row) ++ [x2] → r.length = x2.length := by
            intro r hr
            rw [List.mem_append, List.mem_map, List.mem_singleton] at hr
            rcases hr with ⟨_, _, rfl⟩ | rfl
            · exact hrl
            · rfl
          rw [off_rows hrw _ (Nat.le_refl _)]
          have h3 : (((List.range n).map fun _ => row) ++ [x2]).length = n + 1 := by simp
          have h5 : x2.length ≤ 10 := by omega
          have h4 := Nat.mul_le_mul (show n + 1 ≤ 50 by omega) h5
          rw [h3]; omega

theorem latest_out {F : Nat} {g : GEventGraph} {due : List (List Int)} (hF : 134217728 ≤ F) (h0 : g.Places.length ≤ 1048576) (h1 : due.length ≤ 1048576) (hrl : ∀ row, row ∈ due → row.length ≤ 1048576) :
    (∃ c : Int, c ≠ 0 ∧ spec_LatestTimes F g due = some ([], c) ∧ impl_LatestTimes F g due = some ([], c) ∧ spec_FloatsOf F g due = some ([], c) ∧ impl_FloatsOf F g due = some ([], c)) ∨
    (∃ o, graphB g = true ∧ due.length ≤ 50 ∧ LOk g due.length due ∧ fire (eP g.Places) g.Events.toNat g.Events.toNat [] = some o ∧ spec_LatestTimes F g due = some (ltab g due.length o due, 0) ∧ impl_LatestTimes F g due = some (ltab g due.length o due, 0) ∧
      spec_FloatsOf F g due = some (ftab (ttab g o (zeros g) due.length) g.Events.toNat due.length (ltab g due.length o due), 0) ∧ impl_FloatsOf F g due = some (ftab (ttab g o (zeros g) due.length) g.Events.toNat due.length (ltab g due.length o due), 0)) := by
  have hs := specDueCode_is hF h0 h1 hrl
  obtain ⟨b, hb⟩ := specDueTot (g := g) hF h1 hrl
  rw [hb] at hs
  simp only [Option.bind_some] at hs
  unfold spec_LatestTimes impl_LatestTimes spec_FloatsOf impl_FloatsOf
  rw [bind_of (implDueCode_is hF h0 h1 hrl), bind_of (implDueCode_is hF h0 h1 hrl), hb]
  simp only [Option.bind_some, hs]
  by_cases hd : dueCode g due = 0
  · right
    obtain ⟨g1, g2, o, ho⟩ := dueCode_zero hd
    obtain ⟨hn, hrow⟩ := dueB_true g1 g2
    obtain ⟨hok, hol⟩ := fire_ok (GOk.of g1).edge _ [] o (OrderOk.nil _ _) ho
    have h10 := (GOk.of g1).n10
    have hol' : o.length ≤ 1000 := by simp at hol; omega
    have hO : LOk g due.length due := ⟨rfl, fun r hr => (hrow r hr).1⟩
    refine ⟨o, g1, hn, hO, ho, ?_⟩
    simp only [bF (neF hd), specLatest_is hF g1 hO hn ho hok.lt hol', implLatest_is hF g1 hO hn ho hok.lt, specFloats_is hF g1 hO hn ho hok.lt hol', implFloats_is hF g1 hO hn ho hok.lt, Option.bind_some, and_self]
  · left
    refine ⟨dueCode g due, hd, ?_⟩
    simp only [bT (neT hd), and_self]
theorem gE_at {g : GEventGraph} {n k e : Nat} {ms : List (List Int)} (h : LOk g n ms) (hk : k < n) (he : e < g.Events.toNat) : ms[k]? = some (ms.getD k []) ∧ (ms.getD k [])[e]? = some (gE ms k e) := by
  obtain ⟨a, b⟩ := h.at' hk
  exact ⟨a, getD_of (by omega)⟩
theorem inner_is {F : Nat} {g : GEventGraph} {due X : List (List Int)} {k e : Nat} (hF : 134217728 ≤ F) (hg : graphB g = true) (hn : due.length ≤ 50) (hX : LOk g due.length X) (hk : k < due.length) : ∀ x : Int,
    laws_FnLatest_L21 F (g, due) (X, 0) ((k : Int) + 1) (e : Int) F x 0 = some ((List.range g.Places.length).foldl (lmin g due.length k e (gE X)) x) := by
  intro x
  have hP := (GOk.of hg).len
  refine fold_loop (len := g.Places.length) (f := lmin g due.length k e (gE X)) (L := laws_FnLatest_L21 F (g, due) (X, 0) ((k : Int) + 1) (e : Int)) ?_ ?_ (by omega)
  · intro n s i hi
    obtain ⟨_, ⟨v, hv, hvn⟩, ⟨w, hw, hw5⟩⟩ := PlOk.of hg hi
    have w1 : IntKind.i64.wrap ((k : Int) + 1 + (plD g i).Tokens) = (k : Int) + 1 + (w : Int) := by rw [hw]; exact wr (by omega) (by omega)
    have w2 : IntKind.i64.wrap ((k : Int) + 1 + (w : Int) - 1) = ((k + w : Nat) : Int) := by rw [wr (by omega) (by omega)]; omega
    simp only [laws_FnLatest_L21, bdT (show (i : Int) < (g.Places.length : Int) by omega), idx_nat, plD_of hi, Option.bind_some, w1, w2, wrN (show i ≤ 67108864 by omega)]
    unfold lmin
    by_cases hf : (plD g i).From = (e : Int)
    · rw [hf, beq_self_eq_true]
      by_cases hc : k + w < due.length
      · obtain ⟨a1, a2⟩ := gE_at hX hc hvn
        rw [dT (show (k : Int) + 1 + (w : Int) ≤ (due.length : Int) by omega), hw, dT (show (k : Int) + (w : Int) < (due.length : Int) by omega), hv]
        simp only [Option.bind_some, cond_true, idx_nat, a1, a2, Bool.and_self, Int.toNat_natCast]
      · rw [dF (show ¬ (k : Int) + 1 + (w : Int) ≤ (due.length : Int) by omega), hw, dF (show ¬ (k : Int) + (w : Int) < (due.length : Int) by omega)]
        rfl
    · rw [beq_false_of_ne hf]
      rfl
  · intro n s
    simp only [laws_FnLatest_L21, bdF (show ¬ (g.Places.length : Int) < (g.Places.length : Int) by omega)]
theorem round_is {F : Nat} {g : GEventGraph} {due : List (List Int)} {o : List Nat} {k : Nat} (hF : 134217728 ≤ F) (hg : graphB g = true) (hn : due.length ≤ 50) (hO : LOk g due.length due) (ho : fire (eP g.Places) g.Events.toNat g.Events.toNat [] = some o) (hk : k < due.length) :
    laws_FnLatest_L20 F (g, due) (ltab g due.length o due, 0) (ftab (ttab g o (zeros g) due.length) g.Events.toNat due.length (ltab g due.length o due), 0) (ttab g o (zeros g) due.length, 0) ((k : Int) + 1) F 0 = some (.inr ()) := by
  have hG := GOk.of hg
  have h10 := hG.n10
  have hev := hG.ev
  have hz : (zeros g).length = g.Events.toNat := by unfold zeros; simp
  have hT : LOk g due.length (ttab g o (zeros g) due.length) := ⟨ttab_len _ _ _ _, ttab_rows hz _⟩
  have hX : LOk g due.length (ltab g due.length o due) := hO.tab
  have hFl : LOk g due.length (ftab (ttab g o (zeros g) due.length) g.Events.toNat due.length (ltab g due.length o due)) := hX.ftab
  have hval : ∀ e, e < g.Events.toNat → gE (ftab (ttab g o (zeros g) due.length) g.Events.toNat due.length (ltab g due.length o due)) k e = IntKind.i64.wrap (gE (ltab g due.length o due) k e - gE (ttab g o (zeros g) due.length) k e) := fun e he => by
    have := ftab_val (T := ttab g o (zeros g) due.length) hX due.length (Nat.le_refl _) k e
    rw [if_pos ⟨hk, he⟩] at this
    exact this
  have hfix : ∀ e, e < g.Events.toNat → (List.range g.Places.length).foldl (lmin g due.length k e (gE (ltab g due.length o due))) (gE due k e) = gE (ltab g due.length o due) k e := fun e he => (ltab_val hg ho hO hk he).symm
  have hin : ∀ (e : Nat) (x : Int), laws_FnLatest_L21 F (g, due) (ltab g due.length o due, 0) ((k : Int) + 1) (e : Int) F x 0 = some ((List.range g.Places.length).foldl (lmin g due.length k e (gE (ltab g due.length o due))) x) := fun e x => inner_is hF hg hn hX hk x
  generalize ftab (ttab g o (zeros g) due.length) g.Events.toNat due.length (ltab g due.length o due) = Fl at *
  generalize ttab g o (zeros g) due.length = T at *
  generalize ltab g due.length o due = X at *
  have hw : IntKind.i64.wrap ((k : Int) + 1 - 1) = (k : Int) := by rw [wr (by omega) (by omega)]; omega
  refine same_loop (len := g.Events.toNat) (L := laws_FnLatest_L20 F (g, due) (X, 0) (Fl, 0) (T, 0) ((k : Int) + 1)) ?_ ?_ (by omega)
  · intro n e he
    obtain ⟨a1, a2⟩ := gE_at hO hk he
    obtain ⟨b1, b2⟩ := gE_at hX hk he
    obtain ⟨c1, c2⟩ := gE_at hFl hk he
    obtain ⟨d1, d2⟩ := gE_at hT hk he
    have hlt : decide ((e : Int) < g.Events) = true := by rw [hev]; exact decide_eq_true (by omega)
    simp only [laws_FnLatest_L20, hlt, cond_true, hw, idx_nat, a1, a2, b1, b2, c1, c2, d1, d2, Option.bind_some, hin, hfix e he, hval e he, bne_self_eq_false, cond_false, wrN (show e ≤ 67108864 by omega)]
  · intro n
    have hlt : decide ((g.Events.toNat : Int) < g.Events) = false := by rw [hev]; exact decide_eq_false (by omega)
    simp only [laws_FnLatest_L20, hlt, cond_false]
theorem rounds_is {F : Nat} {g : GEventGraph} {due : List (List Int)} {o : List Nat} (hF : 134217728 ≤ F) (hg : graphB g = true) (hn : due.length ≤ 50) (hO : LOk g due.length due) (ho : fire (eP g.Places) g.Events.toNat g.Events.toNat [] = some o) :
    laws_FnLatest_L16 F (g, due) (ltab g due.length o due, 0) (ftab (ttab g o (zeros g) due.length) g.Events.toNat due.length (ltab g due.length o due), 0) (ttab g o (zeros g) due.length, 0) F 1 = some (.inr ()) := by
  have H := same_loop (len := due.length) (L := fun m i => laws_FnLatest_L16 F (g, due) (ltab g due.length o due, 0) (ftab (ttab g o (zeros g) due.length) g.Events.toNat due.length (ltab g due.length o due), 0) (ttab g o (zeros g) due.length, 0) m (i + 1)) (n := F) ?_ ?_ (by omega)
  · exact H
  · intro n k hk
    have hr := round_is hF hg hn hO ho hk
    simp only [laws_FnLatest_L16, bdT (show (k : Int) + 1 ≤ (due.length : Int) by omega), hr, Option.bind_some]
    rw [wr (show -9223372036854775808 ≤ (k : Int) + 1 + 1 by omega) (by omega)]
    rfl
  · intro n
    simp only [laws_FnLatest_L16, bdF (show ¬ (due.length : Int) + 1 ≤ (due.length : Int) by omega)]
/-! ### The draws -/
theorem dlast_tot {F : Nat} {code : List Int} {r5 : (GEventGraph × Int) × Int × Int} {n : Nat} (hc : COk code) (hn : r5.1.1.Events = (n : Int)) (hn2 : n ≤ 1000) : ∀ (d k f : Nat) (p s : Int) (xs : List Int), k + d = n → d < f → xs.length = k → SOk code p s → Tot (fun r : Int × Int × List Int => SOk code r.1 r.2.1 ∧ r.2.2.length = n) (spec_DrawDueOfLast_L1 F code r5 f p s xs (k : Int)) := by
  intro d
  induction d with
  | zero =>
    intro k f p s xs hk hf hx hs
    obtain ⟨f, rfl⟩ : ∃ q, f = q + 1 := ⟨f - 1, by omega⟩
    simp only [spec_DrawDueOfLast_L1, hn, bdF (show ¬ (k : Int) < (n : Int) by omega)]
    exact Tot.pure ⟨hs, by simp only; omega⟩
  | succ d ih =>
    intro k f p s xs hk hf hx hs
    obtain ⟨f, rfl⟩ : ∃ q, f = q + 1 := ⟨f - 1, by omega⟩
    simp only [spec_DrawDueOfLast_L1, hn, bdT (show (k : Int) < (n : Int) by omega)]
    refine Tot.bind (next_tot hc hs) fun r1 h1 => Tot.bind (app_tot (by simp only [List.length_singleton]; omega)) fun ys hys => ?_
    rw [wrN (show k ≤ 67108864 by omega)]
    have hyl : ys.length = xs.length + 1 := by rw [hys]; simp
    exact ih (k + 1) f _ _ ys (by omega) (by omega) (by omega) h1.1
theorem l13Draw_tot {F : Nat} {code : List Int} {p s : Int} (hF : 134217728 ≤ F) (hc : COk code) (hs : SOk code p s) : Tot (fun r : (GEventGraph × Int) × Int × Int => SOk code r.2.1 r.2.2 ∧ r.1.1.Places.length ≤ 100 ∧ 0 ≤ r.1.1.Events ∧ r.1.1.Events ≤ 11) (spec_l13Draw F code p s) := by
  unfold spec_l13Draw
  refine Tot.bind (l11Draw_tot hF hc hs) fun r2 h2 => Tot.bind (next_tot hc h2.1) fun r9 h9 => ?_
  refine Tot.bind (P := fun r : Int × Int × Int × List GPlace => SOk code r.1 r.2.1 ∧ r.2.2.2.length ≤ 100 ∧ 0 ≤ r.2.2.1 ∧ r.2.2.1 ≤ 11) (Tot.cond (fun _ => Tot.bind (l12Draw_tot hF hc h9.1) fun r29 h29 => Tot.pure ⟨h29.1, h29.2.1, h29.2.2⟩) fun _ => Tot.pure ⟨h9.1, h2.2.1, h2.2.2⟩) ?_
  rintro ⟨p1, s1, E, ps⟩ ⟨h3, h4, h5, h6⟩
  simp only at h3 h4 h5 h6 ⊢
  refine Tot.bind (next_tot hc h3) fun r35 h35 => Tot.cond (fun _ => ?_) fun _ => ?_
  · exact Tot.bind (pick_tot hc h35.1 (by simp)) fun r h => Tot.pure ⟨h.1, h4, h5, h6⟩
  · exact Tot.bind (next_tot hc h35.1) fun r h => Tot.pure ⟨h.1, h4, h5, h6⟩
theorem drawLast_tot {F : Nat} {code : List Int} (hF : 134217728 ≤ F) (hc : COk code) : Tot (fun r : GEventGraph × Int × List Int => r.1.Places.length ≤ 100 ∧ r.2.2.length ≤ 1000) (spec_DrawDueOfLast F code) := by
  unfold spec_DrawDueOfLast
  refine Tot.bind (from_tot hF hc) fun r2 h2 => Tot.bind (l13Draw_tot hF hc h2) fun r5 h5 => ?_
  obtain ⟨n, hn⟩ : ∃ n : Nat, r5.1.1.Events = (n : Int) := ⟨r5.1.1.Events.toNat, by have := h5.2.2; omega⟩
  refine Tot.bind (dlast_tot hc hn (by have := h5.2.2; omega) n 0 F _ _ [] (by omega) (by have := h5.2.2; omega) rfl h5.1) ?_
  rintro ⟨p1, s1, xs⟩ ⟨h6, h7⟩
  simp only at h6 h7 ⊢
  have hn11 : n ≤ 11 := by have := h5.2.2; omega
  refine Tot.bind (next_tot hc h6) fun r77 h8 => Tot.bind (P := fun ys : List Int => ys.length ≤ 1000) (Tot.cond (fun _ => ?_) fun _ => Tot.pure (by omega)) fun ys hy => Tot.pure ⟨h5.2.1, hy⟩
  exact Tot.bind (pick_tot hc h8.1 (by simp)) fun r h => Tot.bind (app_tot (by simp only [List.length_singleton]; omega)) fun ys hy => Tot.pure (by rw [hy]; simp; omega)
theorem law_Latest {F : Nat} {x0 : List Int} (hF0 : 9223372036854775808 ≤ F) (_ : x0.length ≤ 9223372036854775807) (hb : ∀ y, y ∈ x0 → 0 ≤ y ∧ y ≤ 255) : laws_FnLatest F x0 = some true := by
  have hF : 134217728 ≤ F := by omega
  unfold laws_FnLatest laws_big
  by_cases hbig : (4096 : Int) < (x0.length : Int)
  · simp only [Option.bind_some, dT hbig, cond_true]
  simp only [Option.bind_some, dF hbig, cond_false]
  have hc : COk x0 := ⟨by omega, hb⟩
  obtain ⟨⟨g, due⟩, hd1, a0, a1, a2⟩ : Tot (fun r : GEventGraph × List (List Int) => r.1.Places.length ≤ 100 ∧ r.2.length ≤ 1000 ∧ ∀ q, q ∈ r.2 → q.length ≤ 1000) (spec_DrawLatestTimes F x0) := by
    unfold spec_DrawLatestTimes
    exact Tot.bind (from_tot hF hc) fun r2 h2 => Tot.bind (l22Draw_tot hF hc h2) fun r5 h5 => Tot.pure h5.2
  obtain ⟨⟨h, n, last⟩, hd2, b0, b1⟩ := drawLast_tot hF hc
  simp only at a0 a1 a2 b0 b1
  have eg : GEventGraph.mk g.Events g.Places = g := rfl
  have eh : GEventGraph.mk h.Events h.Places = h := rfl
  obtain ⟨⟨D, c2⟩, q1, q2, q3, q4⟩ := same_DueOfLast (F := F) (x0 := h) (x1 := n) (x2 := last) hF (by omega) (by omega)
  have D1 := likeT_self (F := F) (a := D) hF q3 (rows_le q4)
  have nilT : laws_likeTables9 F [] [] = some true := likeT_self hF (by simp) (by simp)
  simp only [hd1, hd2, Option.bind_some, eg, eh, q1, q2]
  rcases latest_out (F := F) (g := g) (due := due) hF (by omega) (by omega) (fun r hr => by have := a2 r hr; omega) with ⟨c, c0, e1, e2, e3, e4⟩ | ⟨o, g1, hn, hO, ho, e1, e2, e3, e4⟩
  · simp only [e1, e2, e3, e4, Option.bind_some, bne_self_eq_false, cond_false, nilT, D1, Bool.not_true, neT c0, cond_true]
  · have h10 := (GOk.of g1).n10
    have hX : LOk g due.length (ltab g due.length o due) := hO.tab
    have hFl : LOk g due.length (ftab (ttab g o (zeros g) due.length) g.Events.toNat due.length (ltab g due.length o due)) := hX.ftab
    have T1 := likeT_self (F := F) hF (show (ltab g due.length o due).length ≤ 1048576 by rw [hX.len]; omega) (fun r hr => by rw [hX.rws r hr]; omega)
    have T2 := likeT_self (F := F) hF (show (ftab (ttab g o (zeros g) due.length) g.Events.toNat due.length (ltab g due.length o due)).length ≤ 1048576 by rw [hFl.len]; omega) (fun r hr => by rw [hFl.rws r hr]; omega)
    simp only [e1, e2, e3, e4, Option.bind_some, bne_self_eq_false, cond_false, T1, T2, D1, Bool.not_true, implFiring_is hF g1 hn ho, rounds_is hF g1 hn hO ho]

end Go.Proofs.Ytebmlphobgaboab
