/-
  A range over slices.Backward: what a round keeps, the statement, the marks at a function's end.
-/
import Derived.Test.YtebmlphobgaboaaLiftN
namespace Go.Proofs.Ytebmlphobgaboaa
open Go.RowKit
variable {dd : List Deferred}

/-- the marks that loops leave among the calls put off -/
def mkd (bs : List Nat) : List Deferred := bs.map fun b => { target := .collected b, args := #[] }

theorem owns_cells {lo : Nat} {w : World} {e : TypeId} {s n : Nat} {v : Value} {xs : List Value} (h : w.ownsRow lo e s v n xs) {b : Nat} (hb : v.ownBlock = some b) : ∃ o : Obj, w.heap[b]? = some o ∧ o.isCells = true := by
  rcases h.2 with ⟨h1, _⟩ | ⟨g, cap, cur, h1, _, hc, _⟩
  · rw [h1] at hb; simp [Value.ownBlock] at hb
  · rw [h1] at hb
    simp only [Value.ownBlock, Option.some.injEq] at hb; subst hb
    exact ⟨_, hc, rfl⟩
def notMks : Res → Bool
  | .mks _ => false
  | _ => true
theorem res_cells {lo : Nat} {w : World} {r : Res} (h : r.holds lo w) (hn : notMks r = true) {b : Nat} (hb : r.has b) : ∃ o : Obj, w.heap[b]? = some o ∧ o.isCells = true := by
  cases r with
  | blk b' t cs =>
    have e : b = b' := hb
    subst e
    exact ⟨_, h.2, rfl⟩
  | row A n c e s xs => exact owns_cells h hb
  | mat A n c e e2 vs rows =>
    rcases hb with hb | ⟨i, v, hv, hb⟩
    · exact owns_cells h.1 hb
    · obtain ⟨row, R, c', _, _, h3⟩ := h.2.1.at hv
      exact owns_cells h3 hb
  | cub A n c e e2 e3 ts ms =>
    rcases hb with hb | ⟨i, t, ht, hb⟩
    · exact owns_cells h.1 hb
    · have hm := h.2.2.1 i t ht
      rcases hb with hb | ⟨j, u, hu, hb⟩
      · exact owns_cells hm.1 hb
      · obtain ⟨row, R, c', _, _, h3⟩ := hm.2.1.at hu
        exact owns_cells h3 hb
  | mks bs => cases hn

section
variable {μ : List Nat} {W X : World} {L : List Res}
theorem St.noLoop {l : Nat} {r : Loop} (h : St μ W X L) (hl : X.heap[l]? = some (.loop r)) : ∀ (i : Nat) (q : Res), L[i]? = some q → ¬ q.has l := fun i q hi hb => by
  cases hq : notMks q with
  | true =>
    obtain ⟨o, h1, h2⟩ := res_cells (h.res i q hi) hq hb
    rw [hl] at h1; cases h1; cases h2
  | false =>
    cases q with
    | mks bs =>
      have := ((h.res i _ hi).2 l hb).2
      rw [hl] at this; cases this
    | blk b t cs => cases hq
    | row A n c e s xs => cases hq
    | mat A n c e e2 vs rows => cases hq
    | cub A n c e e2 e3 ts ms => cases hq
theorem St.put {l : Nat} {r : Loop} (h : St μ W X L) (hl : X.heap[l]? = some (.loop r)) (hW : W.heap.size ≤ l) (o : Obj) : St μ W (X.putObj l o) L := by
  have hg := grownBy_putObj' X l o
  refine ⟨⟨hg.os.trans h.bm.os, hg.tape.trans h.bm.tape, hg.output.trans h.bm.output, Nat.le_trans h.bm.size hg.size, fun k hk hm => (hg.block k (Nat.lt_of_lt_of_le hk h.bm.size) (fun e => ?_)).trans (h.bm.old k hk hm)⟩, fun i q hi => Res.holds_same (h.res i q hi) fun b hb => hg.block b (Res.block_lt (h.res i q hi) hb).2 (fun e => ?_), h.own, h.sep⟩
  · cases e; omega
  · cases e; exact h.noLoop hl i q hi hb
theorem St.addMark {D i : Nat} {bs : List Nat} (h : St μ W X L) (hi : L[i]? = some (.mks bs)) (ho : ∀ (j : Nat) (r : Res), L[j]? = some r → j ≠ i → notMks r = true) (hD : X.heap[D]? = some (.deferred (some []))) (hlo : W.heap.size ≤ D) (hnew : D ∉ bs) : St μ W X (L.set i (.mks (D :: bs))) := by
  have hlt : i < L.length := (List.getElem?_eq_some_iff.1 hi).1
  have get : ∀ (j : Nat) (q : Res), (L.set i (.mks (D :: bs)))[j]? = some q → (j = i ∧ q = .mks (D :: bs)) ∨ (j ≠ i ∧ L[j]? = some q) := fun j q hq => by
    by_cases e : i = j
    · subst e
      rw [List.getElem?_set_self hlt] at hq
      exact .inl ⟨rfl, (Option.some.inj hq).symm⟩
    · rw [List.getElem?_set_ne e] at hq
      exact .inr ⟨fun e' => e e'.symm, hq⟩
  have apart : ∀ (j : Nat) (q : Res) (b : Nat), j ≠ i → L[j]? = some q → q.has b → b ∉ D :: bs := fun j q b hne hj hb hm => by
    rcases List.mem_cons.1 hm with rfl | hm
    · obtain ⟨o, h1, h2⟩ := res_cells (h.res j q hj) (ho j q hj hne) hb
      rw [hD] at h1; cases h1; cases h2
    · exact h.sep j i q _ hj hi hne b hb hm
  refine ⟨h.bm, fun j q hq => ?_, fun j q b hq hb => ?_, fun j k q p hj hk hjk b hb hpb => ?_⟩
  · rcases get j q hq with ⟨_, rfl⟩ | ⟨_, hj⟩
    · refine ⟨List.nodup_cons.2 ⟨hnew, (h.res i _ hi).1⟩, fun b hb => ?_⟩
      rcases List.mem_cons.1 hb with rfl | hb
      · exact ⟨Nat.zero_le _, hD⟩
      · exact (h.res i _ hi).2 b hb
    · exact h.res j q hj
  · rcases get j q hq with ⟨_, rfl⟩ | ⟨_, hj⟩
    · rcases List.mem_cons.1 hb with rfl | hb
      · exact .inl hlo
      · exact h.own i _ b hi hb
    · exact h.own j q b hj hb
  · rcases get j q hj with ⟨e1, rfl⟩ | ⟨n1, hj'⟩
    · rcases get k p hk with ⟨e2, rfl⟩ | ⟨n2, hk'⟩
      · exact hjk (e1.trans e2.symm)
      · exact apart k p b n2 hk' hpb hb
    · rcases get k p hk with ⟨e2, rfl⟩ | ⟨n2, hk'⟩
      · exact apart j q b n1 hj' hb hpb
      · exact h.sep j k q p hj' hk' hjk b hb hpb
theorem St.addMks (h : St μ W X L) : St μ W X (L ++ [.mks []]) := h.add (Below.refl _ _) ⟨List.nodup_nil, fun b hb => by cases hb⟩
/-- a round changes nothing that is no cells -/
theorem St.keepsObj {Y : World} {L L' : List Res} {k : Nat} {o : Obj} (h : St μ W X L) (hL : ∀ (i : Nat) (r : Res), L[i]? = some r → notMks r = true) (h' : St (muL L) X Y L') (hk : X.heap[k]? = some o) (ho : o.isCells = false) : Y.heap[k]? = some o := by
  refine (h'.bm.old k (Array.getElem?_eq_some_iff.1 hk).1 fun hm => ?_).trans hk
  obtain ⟨j, r, h1, h2⟩ := mem_muL.1 hm
  obtain ⟨o', h3, h4⟩ := res_cells (h.res j r h1) (hL j r h1) h2
  rw [hk] at h3; cases h3; rw [ho] at h4; cases h4
theorem owns_max {lo : Nat} {w : World} {e : TypeId} {s n c : Nat} {A : Option Addr} {xs : List Value} (h : w.ownsRow lo e s (.slice A n c) n xs) : n ≤ maxLen := by
  rcases h.2 with ⟨_, h2⟩ | ⟨g, cap, cur, h1, hg, hc, hn, hm, hz, ht⟩
  · omega
  · omega
end

/-- the elements with their places, the last one first -/
def revE (xs : List Int) : List (Int × Int) := (List.range xs.length).reverse.map fun (i : Nat) => ((i : Int), xs.getD i 0)
/-- the iterator's contract: it calls for each element, and nothing else happens -/
def Back (P : Program) (gf : Nat) (t : TypeId) : Prop := ∀ (l b n c : Nat) (A : Option Addr) (xs : List Int) (J : List (Int × Int) → World → Prop) (W1 : World), n = xs.length → n ≤ maxLen → J [] W1 →
  (∀ pre X, J pre X → X.heap[b]? = some (.cells #[.slice A n c] t (0, 0)) ∧ Rd X A (ints xs)) →
  (∀ pre x rest X, J pre X → pre ++ x :: rest = revE xs → YieldAt Fence.wide 0 P l #[.int .i64 x.1, .int .i64 x.2] X fun e X' => e = .returned (.bool true) ∧ J (pre ++ [x]) X') →
  Calls P gf #[.func (.yield l) #[] #[], .pointer (some ⟨b, 0, none⟩)] W1 fun e X => (∃ v, e = .returned v) ∧ J (revE xs) X

def allBut (im : Nat) (L : List Res) : Bool := (List.range L.length).all fun j => j == im || (L[j]?.map notMks).getD true
theorem allBut_spec {im : Nat} {L : List Res} (h : allBut im L = true) (j : Nat) (r : Res) (hj : L[j]? = some r) (hne : j ≠ im) : notMks r = true := by
  have h1 := List.all_eq_true.1 h j (by simpa using (List.getElem?_eq_some_iff.1 hj).1)
  rw [hj] at h1
  simpa [hne] using h1
theorem allMks_spec {L : List Res} (h : L.all notMks = true) (j : Nat) (r : Res) (hj : L[j]? = some r) : notMks r = true := List.all_eq_true.1 h r (List.mem_of_getElem? hj)
theorem wpL_range {P : Program} {g : Operand} {p1 p2 : Tmp} {assign body : Code} {r : List Code} {Q : Exit → Act → World → Prop} {a : Act} {w W : World} {μ : List Nat} {La L0 : List Res} {N : Nat} {E : Env} {gf b n c : Nat} {t e : TypeId} {A : Option Addr} {xs : List Int} {bs : List Nat} {ib ir im : Nat}
    (E1 : Int × Int → Env) (T : List (Int × Int) → List Res → Prop) (hback : Back P gf t)
    (hf : FrD (mkd bs) a N E) (hs : St μ W w (La ++ L0)) (hg : evalE E g = some (.func (.func gf) #[] #[.pointer (some ⟨b, 0, none⟩)])) (he : En P gf)
    (h1 : La[ib]? = some (.blk b t [.slice A n c])) (h2 : La[ir]? = some (.row A n c e 1 (ints xs))) (hn : n = xs.length) (h3 : La[im]? = some (.mks bs)) (hLa0 : allBut im La = true)
    (hT0 : ∀ pre L, T pre L → L.all notMks = true) (h0 : T [] L0) (hp1 : Nat.blt p1 N = true) (hp2 : Nat.blt p2 N = true)
    (hassign : ∀ lp x a' w', Fr a' N ((p2, .int .i64 x.2) :: (p1, .int .i64 x.1) :: E) → wpR P lp [assign] (fun e a'' w'' => e = .normal ∧ w'' = w' ∧ Fr a'' N (E1 x)) a' w')
    (hbody : ∀ lp pre x rest L w' a', T pre L → pre ++ x :: rest = revE xs → St μ W w' (La ++ L) → Fr a' N (E1 x) → wpR P lp [body] (fun e _ w'' => e = .normal ∧ ∃ L', T (pre ++ [x]) L' ∧ St (muL L) w' w'' L') a' w')
    (hdone : ∀ a' w' D L, T (revE xs) L → St μ W w' (La.set im (.mks (D :: bs)) ++ L) → FrD (mkd (D :: bs)) a' N E → wpL P r Q a' w') :
    wpL P (.rangeFunc g #[p1, p2] assign body :: r) Q a w := by
  have hLa := allBut_spec hLa0
  have hT := fun pre L h => allMks_spec (hT0 pre L h)
  refine (wpIn_wide (n := 1)).1 (wpIn_rangeFunc ?_)
  intro fn hfn
  obtain ⟨rec, hrec⟩ : ∃ rec : LoopState → Option Code → Loop, rec = fun st pe => { state := st, pending := pe, fn, tmps := a.tmps, params := #[p1, p2], assign, body, defers := w.heap.size } := ⟨_, rfl⟩
  obtain ⟨W1, hW1⟩ : ∃ W1, (w.alloc (.deferred (some []))).alloc (.loop (rec .ready none)) = W1 := ⟨_, rfl⟩
  have hL1 : W1.heap[w.heap.size + 1]? = some (.loop (rec .ready none)) := by
    rw [← hW1]; have := World.alloc_heap_new (w.alloc (.deferred (some []))) (.loop (rec .ready none)); rwa [World.size_alloc] at this
  have hD1 : W1.heap[w.heap.size]? = some (.deferred (some [])) := by
    rw [← hW1]; exact (Below.heap_alloc _ _ _ (by simp)).trans (World.alloc_heap_new w _)
  have hWw := hs.bm.size
  have hs1 : St μ W W1 (La ++ L0) := by
    rw [← hW1]
    exact (hs.ext ((Below.refl _ _).alloc (Nat.le_refl _) _)).ext ((Below.refl _ _).alloc (Nat.le_refl _) _)
  have hrow : (Res.row A n c e 1 (ints xs)).holds 0 w := hs.res ir _ (by rw [List.getElem?_append_left (List.getElem?_eq_some_iff.1 h2).1]; exact h2)
  have hbs : w.heap.size ∉ bs := fun hm => by
    have := (Res.block_lt (hs.res im (.mks bs) (by rw [List.getElem?_append_left (List.getElem?_eq_some_iff.1 h3).1]; exact h3)) hm).2
    omega
  have hmax : n ≤ maxLen := owns_max (show w.ownsRow 0 e 1 (.slice A n c) n (ints xs) from hrow)
  have inA : ∀ {j : Nat} {q : Res} {L : List Res}, La[j]? = some q → (La ++ L)[j]? = some q := fun {j q L} h => by
    rw [List.getElem?_append_left (List.getElem?_eq_some_iff.1 h).1]; exact h
  refine ⟨w.heap.size + 1, [{ target := .collected w.heap.size, args := #[] }], W1, { target := .fn (.func gf) #[.pointer (some ⟨b, 0, none⟩)], args := #[.func (.yield (w.heap.size + 1)) #[] #[]] }, W1, gf,
    #[.func (.yield (w.heap.size + 1)) #[] #[]] ++ #[.pointer (some ⟨b, 0, none⟩)], W1, ?_, ?_, fun _ _ => trivial, ?_, fun _ => Nat.le_refl 1, ?_⟩
  · rw [← hW1, hrec]; exact run_enterLoop_outer _ _ _ _ _
  · simp only [resolve, hf.eval hg]
    simp [go_sem, Deferred.ofValue]
  · have := he (#[.func (.yield (w.heap.size + 1)) #[] #[]] ++ #[.pointer (some ⟨b, 0, none⟩)]) W1
    simp [invoke] at this ⊢
    exact this
  · refine callsIn_wide.2 (Calls.mono (hback (w.heap.size + 1) b n c A xs (fun pre X => (∃ L, T pre L ∧ St μ W X (La ++ L)) ∧ X.heap[w.heap.size + 1]? = some (.loop (rec .ready none)) ∧ X.heap[w.heap.size]? = some (.deferred (some []))) W1 hn hmax ⟨⟨L0, h0, hs1⟩, hL1, hD1⟩ ?_ ?_) ?_)
    · rintro pre X ⟨⟨L, _, hX⟩, _, _⟩
      exact ⟨(hX.res ib _ (inA h1)).2, hX.rd (inA h2)⟩
    · rintro pre x rest X ⟨⟨L, hTL, hX⟩, hl, hD⟩ hpre
      have hlt : w.heap.size + 1 < X.heap.size := (Array.getElem?_eq_some_iff.1 hl).1
      have hy := run_yield (P := P) (args := #[.int .i64 x.1, .int .i64 x.2]) hl (by rw [hrec]; rfl)
      rw [hrec] at hy
      refine ⟨fn, _, assign, body, hy, roundIn_of_wpIn hfn ?_⟩
      clear hy
      have hfr : Fr { tmps := ((#[p1, p2] : Array Tmp).zip #[.int .i64 x.1, .int .i64 x.2]).foldl (fun t (p, v) => t.setIfInBounds p v) a.tmps, defers := [] } N ((p2, .int .i64 x.2) :: (p1, .int .i64 x.1) :: E) := by
        have hf0 : Fr { tmps := a.tmps, defers := [] } N E := ⟨⟨hf.size, hf.get⟩, rfl⟩
        have := (hf0.put (v := .int .i64 x.1) hp1).put (v := .int .i64 x.2) hp2
        simpa [Act.put] using this
      refine wpIn_mono (hassign (w.heap.size + 1) x _ X hfr) ?_
      rintro ex a2 X2 hex
      have hex : (Exit.then (wpR P (w.heap.size + 1) [] _) _) ex a2 X2 := hex
      cases ex with
      | normal =>
        obtain ⟨_, rfl, hf2⟩ := hex
        refine ⟨_, run_beginRound hl (by rw [hrec]), ?_⟩
        have hl2 : (X2.putObj (w.heap.size + 1) (.loop { rec .ready none with state := .busy })).heap[w.heap.size + 1]? = some (.loop { rec .ready none with state := .busy }) := World.putObj_heap_same hlt
        have hD2 : (X2.putObj (w.heap.size + 1) (.loop { rec .ready none with state := .busy })).heap[w.heap.size]? = some (.deferred (some [])) := (World.putObj_heap_other (by omega)).trans hD
        have hX2 := hX.put hl (by omega) (.loop { rec .ready none with state := .busy })
        generalize X2.putObj (w.heap.size + 1) (.loop { rec .ready none with state := .busy }) = Y at hl2 hD2 hX2
        refine wpIn_mono (hbody (w.heap.size + 1) pre x rest L Y a2 hTL hpre hX2 hf2) ?_
        rintro ey a3 Y3 hey
        cases ey with
        | normal =>
          obtain ⟨_, L', hT', hY3⟩ := hey
          have hsub : St μ W Y (La ++ L) := hX2
          have hLb : St (muL L) Y Y L := by
            refine ⟨⟨rfl, rfl, rfl, Nat.le_refl _, fun _ _ _ => rfl⟩, fun i q hi => hX2.res (La.length + i) q (by rw [List.getElem?_append_right (by omega), Nat.add_sub_cancel_left]; exact hi), fun i q k hi hk => .inr (mem_muL.2 ⟨i, q, hi, hk⟩), fun i j q p hi hj hij => hX2.sep (La.length + i) (La.length + j) q p (by rw [List.getElem?_append_right (by omega), Nat.add_sub_cancel_left]; exact hi) (by rw [List.getElem?_append_right (by omega), Nat.add_sub_cancel_left]; exact hj) (by omega)⟩
          have hl3 := hLb.keepsObj (hT pre L hTL) hY3 hl2 rfl
          have hD3 := hLb.keepsObj (hT pre L hTL) hY3 hD2 rfl
          have hs3 : St μ W Y3 (La ++ L') := hX2.mutTail hY3
          have hend := run_endRound (P := P) none hl3
          refine ⟨_, _, hend, rfl, ⟨L', hT', hs3.put hl3 (by omega) _⟩, ?_, (World.putObj_heap_other (by omega)).trans hD3⟩
          rw [World.putObj_heap_same (Array.getElem?_eq_some_iff.1 hl3).1, hrec]; rfl
        | ret => exact (by obtain ⟨h, _⟩ := hey; cases h)
        | exit id => exact (by obtain ⟨h, _⟩ := hey; cases h)
        | goto t => exact (by obtain ⟨h, _⟩ := hey; cases h)
        | panic ch => exact (by obtain ⟨h, _⟩ := hey; cases h)
        | outgrown => exact (by obtain ⟨h, _⟩ := hey; cases h)
      | ret => exact (by obtain ⟨h, _⟩ := hex; cases h)
      | exit id => exact (by obtain ⟨h, _⟩ := hex; cases h)
      | goto t => exact (by obtain ⟨h, _⟩ := hex; cases h)
      | panic ch => exact (by obtain ⟨h, _⟩ := hex; cases h)
      | outgrown => exact (by obtain ⟨h, _⟩ := hex; cases h)
    · rintro e3 X ⟨⟨v, rfl⟩, ⟨L, hTL, hX⟩, hl, hD⟩
      have hend := run_endLoop (P := P) hl (by rw [hrec]; simp)
      have hpend : (rec .ready none).pending = none := by rw [hrec]
      refine ⟨none, _, hend.trans (congrArg (fun p => Result.ok p _) hpend), ?_⟩
      have hX' := hX.put hl (by omega) (.loop { rec .ready none with state := .exhausted })
      have hD' : (X.putObj (w.heap.size + 1) (.loop { rec .ready none with state := .exhausted })).heap[w.heap.size]? = some (.deferred (some [])) := (World.putObj_heap_other (by omega)).trans hD
      refine hdone _ _ w.heap.size L hTL ?_ ⟨⟨hf.size, hf.get⟩, ?_⟩
      · have := hX'.addMark (i := im) (inA h3) (fun j q hj hne => ?_) hD' (by omega) hbs
        · rw [List.set_append, if_pos (List.getElem?_eq_some_iff.1 h3).1] at this; exact this
        · rw [List.getElem?_append] at hj
          split at hj
          · exact hLa j q hj hne
          · exact hT _ L hTL _ q hj
      · show [_] ++ a.defers = mkd (w.heap.size :: bs)
        rw [hf.defers]; rfl

/-! ### A function's end behind marks -/
theorem leaves_marks {P : Program} {fn : Func} {tmps : Array Value} {R : Ending → World → Prop} {v : Value} (hr : ∀ w, (results fn tmps).run P w = .ok v w) : ∀ (bs : List Nat) (w : World), (∀ b, b ∈ bs → w.heap[b]? = some (.deferred (some []))) → bs.Nodup →
    (∀ w', (∀ k, k ∉ bs → w'.heap[k]? = w.heap[k]?) → w'.heap.size = w.heap.size → w'.os = w.os → w'.tape = w.tape → w'.output = w.output → R (.returned v) w') → LeavesInM Fence.wide 1 P fn tmps R (mkd bs) .returning w
  | [], w, _, _, h => ⟨v, hr w, h w (fun _ _ => rfl) rfl rfl rfl rfl⟩
  | b :: bs, w, hb, hnd, h => by
    rw [List.nodup_cons] at hnd
    refine ⟨by simp, .inl ⟨b, _, rfl, run_takeDeferred (hb b (by simp)), leaves_marks hr bs _ (fun k hk => ?_) hnd.2 fun w' h1 h2 h3 h4 h5 => ?_⟩⟩
    · have hne : k ≠ b := fun e => hnd.1 (e ▸ hk)
      rw [World.putObj_heap_other (by omega)]; exact hb k (by simp [hk])
    · refine h w' (fun k hk => ?_) (by rw [h2]; simp [World.putObj]) h3 h4 h5
      rw [List.mem_cons, not_or] at hk
      rw [h1 k hk.2, World.putObj_heap_other (by omega)]

theorem Calls.enterM {P : Program} {f : FuncId} {fn : Func} {c : Code} {l : List Value} {R : Ending → World → Prop} {N : Nat} {w : World}
    (hf : P.funcs[f]? = some fn) (hb : fn.body = some c) (hn : fn.ntmps = N) (hl : Nat.ble l.length N = true)
    (h : ∀ a, Fr a N (envOf 0 l) → wpL P [c] (bodyPostM Fence.wide 1 P fn R) a w) : Calls P f l.toArray w R := by
  refine callsIn_wide.1 (callsIn_of_wp_marks (n := 1) hf hb trivial ?_)
  rw [hn]
  refine wpIn_wide.2 (wp_mono (c := c) (h _ (by simpa using Fr.start hl)) fun e a w he => ?_)
  cases e <;> exact he
theorem St.offMarks {μ : List Nat} {W w w' : World} {L : List Res} {i : Nat} {bs : List Nat} (h : St μ W w L) (hi : L[i]? = some (.mks bs)) (h1 : ∀ k, k ∉ bs → w'.heap[k]? = w.heap[k]?) (h2 : w'.heap.size = w.heap.size) (h3 : w'.os = w.os) (h4 : w'.tape = w.tape) (h5 : w'.output = w.output) : St μ W w' (L.eraseIdx i) := by
  have get : ∀ (k : Nat) (p : Res), (L.eraseIdx i)[k]? = some p → ∃ k' : Nat, k' ≠ i ∧ ((k < i → k' = k) ∧ (¬ k < i → k' = k + 1)) ∧ L[k']? = some p := fun k p hp => by
    rw [List.getElem?_eraseIdx] at hp
    by_cases hk : k < i
    · rw [if_pos hk] at hp; exact ⟨k, by omega, ⟨fun _ => rfl, fun h => absurd hk h⟩, hp⟩
    · rw [if_neg hk] at hp; exact ⟨k + 1, by omega, ⟨fun h => absurd h hk, fun _ => rfl⟩, hp⟩
  refine ⟨⟨h3.trans h.bm.os, h4.trans h.bm.tape, h5.trans h.bm.output, by rw [h2]; exact h.bm.size, fun k hk hm => (h1 k fun hb => ?_).trans (h.bm.old k hk hm)⟩, fun k p hp => ?_, fun k p b hp hb => ?_, fun k j p q hp hq hkj b hb hb' => ?_⟩
  · rcases h.own i _ k hi hb with h6 | h6
    · omega
    · exact hm h6
  · obtain ⟨k', hne, _, hk'⟩ := get k p hp
    exact Res.holds_same (h.res k' p hk') fun b hb => h1 b fun hm => h.sep k' i p _ hk' hi hne b hb hm
  · obtain ⟨k', _, _, hk'⟩ := get k p hp
    exact h.own k' p b hk' hb
  · obtain ⟨k', _, ⟨k1, k2⟩, hk'⟩ := get k p hp
    obtain ⟨j', _, ⟨j1, j2⟩, hj'⟩ := get j q hq
    refine h.sep k' j' p q hk' hj' ?_ b hb hb'
    by_cases a1 : k < i <;> by_cases a2 : j < i
    · rw [k1 a1, j1 a2]; exact hkj
    · rw [k1 a1, j2 a2]; omega
    · rw [k2 a1, j1 a2]; omega
    · rw [k2 a1, j2 a2]; omega
theorem retM_tmp {P : Program} {a : Act} {w W : World} {μ : List Nat} {L : List Res} {fn : Func} {R : Ending → World → Prop} {N t i : Nat} {E : Env} {v : Value} {bs : List Nat} (hr : fn.results = #[.tmp t]) (hf : FrD (mkd bs) a N E) (ht : look E t = some v) (hs : St μ W w L) (hi : L[i]? = some (.mks bs)) (h : ∀ w, St μ W w (L.eraseIdx i) → R (.returned v) w) : bodyPostM Fence.wide 1 P fn R .ret a w := by
  show LeavesInM Fence.wide 1 P fn a.tmps R a.defers .returning w
  rw [hf.defers]
  have hm := hs.res i _ hi
  exact leaves_marks (fun w => by rw [results_tmp hr, hf.get t v ht]) bs w (fun b hb => (hm.2 b hb).2) hm.1 fun w' h1 h2 h3 h4 h5 => h w' (hs.offMarks hi h1 h2 h3 h4 h5)

end Go.Proofs.Ytebmlphobgaboaa
