/- From 'the law's call returns true and leaves what was there alone' to the row's own closing condition; arguments opened into plain words on memory. -/
import Derived.ProofKit
import Derived.Below
import Derived.Deep.Slices
import Derived.Deep.Fields
import Derived.ChangeSame
import Derived.SizedLaws
import Derived.OpenShut
import Derived.Test.YtgkgimglgjfcjaaMem
namespace Go.Proofs.Ytgkgimglgjfcjaa
open Go.ChangeShapes Go.WideShapes Go.ChangeAt Go.RowKit Go.Deep

section
variable {H : Type} {enc : TypeId × Value → H} {P : Program}

theorem trodAll_below (hl : laidOutB P = true) {W W' : World} (hb : Below W.heap.size W W') {sp : Nat → Bool} :
    ∀ (ts : List TypeId) (vs : List Value) (ds : List (DataW H)) (ps : List MemPlace), (∀ t ∈ ts, P.readableRec t = true ∧ t < P.types.size) → DataW.TrodAll enc P W 0 (fun _ => true) true ts vs ds ps →
      (∀ x ∈ ps, x.block < W.heap.size) → (∀ x ∈ ps, sp x.block = true) → DataW.TrodAll enc P W' 0 sp true ts vs ds ps := by
  intro ts
  induction ts with
  | nil => intro vs ds ps _ h _ _; cases vs <;> cases ds <;> simp_all [DataW.TrodAll]
  | cons t ts ih =>
    intro vs ds ps ht h hlt hsp
    obtain ⟨v, vs', d, ds', p, q, rfl, rfl, rfl, h0, h1⟩ := trodAll_cons h
    refine ⟨p, q, ?_, ?_, rfl⟩
    · exact WideElems.Trod_stays hl (ht t (by simp)).1 (ht t (by simp)).2 h0 (fun x hx => hb.same (hlt x (by simp [hx]))) (fun x hx => hsp x (by simp [hx]))
    · exact ih _ _ _ (fun u hu => ht u (by simp [hu])) h1 (fun x hx => hlt x (by simp [hx])) (fun x hx => hsp x (by simp [hx]))

/-- THE LAW's ROW, FROM ITS CALL: true comes back, and nothing that was there has turned. -/
theorem post_law {f : Func} {s : ChangeSpec} {apart fresh handsOn again : Bool} {W W' : World} {args : Array Value} {ds : List (DataW H)} {before : List MemPlace} {tb : TypeId}
    (hl : laidOutB P = true) (hpB : (f.params.toList.all fun t => P.readableRec t && decide (t < P.types.size)) = true) (hrt : f.resultTypes = #[tb]) (hub : P.underlying tb = some .bool)
    (hv : s.vars = []) (hsr : (s.fn H (ds ++ [])).results = [.lit (.bool true)]) (hsa : (s.fn H (ds ++ [])).args = ds) (hsv : (s.fn H (ds ++ [])).vars = [])
    (hW : DataW.Whole enc P f.params.toList s.vars apart W args.toList ds [] before) (hb : Below W.heap.size W W') :
    s.post enc P f apart fresh handsOn again W args (.bool true) W' := by
  have hp : ∀ t ∈ f.params.toList, P.readableRec t = true ∧ t < P.types.size := fun t ht => by
    have := List.all_eq_true.1 hpB t ht
    simpa using this
  have hlt : ∀ p ∈ before, p.block < W.heap.size := fun p hp => hW.lt p hp
  obtain ⟨pp, qq, hA, hV, hbe, hz, hn⟩ := hW
  have hq : qq = [] := by rw [hv] at hV; simpa [DataW.TrodVars] using hV
  subst hq
  rw [List.append_nil] at hbe
  subst hbe
  have hargs : ∀ sp : Nat → Bool, (∀ p ∈ before, sp p.block = true) → DataW.TrodAll enc P W' 0 sp true f.params.toList args.toList (s.fn H (ds ++ [])).args before := fun sp hsp => by
    rw [hsa]; exact trodAll_below hl hb _ _ _ _ hp hA hlt hsp
  have hvars : ∀ sp : Nat → Bool, DataW.TrodVars enc P W' sp s.vars (s.fn H (ds ++ [])).vars [] := fun sp => by rw [hv, hsv]; rfl
  have hres : ∀ (b : Nat) (sp : Nat → Bool) (hd : Bool), DataW.TrodAll enc P W' b sp hd f.resultTypes.toList ((Value.bool true).resultList f.resultTypes.size) (s.fn H (ds ++ [])).results [] := fun b sp hd => by
    rw [hsr, hrt]; exact trodAll_mk1 (shut_bool hub true)
  have hold : ∀ p ∈ before, (fun b => decide (b < W.heap.size)) p.block = true := fun p hp => by simpa using hlt p hp
  refine ⟨ds, [], before, [], before, [], ⟨before, [], hA, hV, by simp, hz, hn⟩, hres _ _ _, hargs _ hold, hvars _, World.keptBut_mono (fun p hp => ⟨hp, by simp [hp]⟩) (hb.frame (· ∈ before)), fun _ => ?_⟩
  refine ⟨ok_one hrt rfl (okWide_bool_mk hub true), _, _, ([] ++ before) ++ [], ⟨[] ++ before, [], trodAll_append (hargs _ (fun _ _ => rfl)) (hres _ _ _), hvars _, rfl, ?_, ?_⟩, ?_⟩
  · intro b off hp
    have hin : MemPlace.cell b off ∈ before := by simpa using hp
    rw [hb.frozen (hlt _ hin)]
    exact hz b off hin
  · intro ha
    simpa using hn ha
  · intro p hp _
    simpa using hp

/-! arguments opened -/

variable {w : World} {base : Nat} {spare : Nat → Bool} {held : Bool}

/-- all fields numbers of one cell, laid one behind the other -/
def intFields (P : Program) (fs : Array Field) : Bool := (List.range fs.size).all fun i => match fs[i]? with
  | some f => f.offset == i && P.cellsOf f.type == 1 && (match P.underlying f.type with | some (.int .i64) => true | _ => false)
  | none => false

theorem intFields_at {fs : Array Field} (h : intFields P fs = true) (j : Nat) (f : Field) (hj : fs[j]? = some f) : f.offset = j ∧ P.cellsOf f.type = 1 ∧ P.underlying f.type = some (.int .i64) := by
  have hlt : j < fs.size := (Array.getElem?_eq_some_iff.1 hj).1
  have := (List.all_eq_true.1 h) j (List.mem_range.2 hlt)
  rw [hj] at this
  simp only [Bool.and_eq_true, beq_iff_eq] at this
  obtain ⟨⟨h1, h2⟩, h3⟩ := this
  refine ⟨h1, h2, ?_⟩
  split at h3
  · assumption
  · cases h3

theorem open_recs_cells {t e : TypeId} {fs : Array Field} {s : Nat} {fuel : Nat} {cs : List Value} {x : DataW H × List MemPlace} (ht : P.underlying t = some (.slice e)) (he : P.underlying e = some (.struct fs))
    (hone : intFields P fs = true) (hC : P.cellsOf e = s) (hs : fs.size = s) (hs0 : 0 < s) (h : DataW.trod enc P w base (fun _ => true) held fuel t cs = some x) :
    ∃ (A : Option Addr) (n c : Nat) (f : Nat → Nat → Int), cs = [.slice A n c] ∧ n ≤ maxLen ∧ RR w s A n f := by
  rcases open_slice ht h with ⟨rfl, _⟩ | ⟨a, len, cap, m, k, D, Pl, rfl, _, hl, hm, hmm, hx, hi⟩
  · exact ⟨none, 0, 0, fun _ _ => 0, rfl, Nat.zero_le _, fun i hi => absurd hi (Nat.not_lt_zero _)⟩
  · simp only [if_true] at hmm
    have hmm' := hmm.symm
    subst hmm'
    have each : ∀ i, i < len → ∃ g : Nat → Int, ∀ j, j < s → w.cell? (a.add (i * s + j)) = some (.int .i64 (g j)) := by
      intro i hil
      obtain ⟨cs', h1, h2⟩ := hi i (by omega)
      obtain ⟨xs, k', _, _, hlen, hxl, hf⟩ := DataW.trod_struct he h2
      obtain ⟨_, hcl, hat⟩ := World.cells?_some h1
      have each' : ∀ j, j < s → ∃ z : Int, w.cell? (a.add (i * s + j)) = some (.int .i64 z) := by
        intro j hj
        have hfj : fs[j]? = some (fs[j]'(by omega)) := Array.getElem?_eq_getElem (by omega)
        obtain ⟨ho, hk, hu⟩ := intFields_at hone j _ hfj
        have g0 := hf j _ hfj
        rw [ho, hk] at g0
        have hv : cs'[j]? = some (cs'[j]'(by omega)) := List.getElem?_eq_getElem (by omega)
        have hd : (cs'.drop j).take 1 = [cs'[j]'(by omega)] := by
          rw [List.drop_eq_getElem_cons (by omega)]; rfl
        rw [hd] at g0
        rw [List.getElem?_eq_getElem (show j < xs.length by omega)] at g0
        obtain ⟨z, hz, _⟩ := DataW.trod_int hu g0
        refine ⟨z, ?_⟩
        have hcell := hat j (by omega)
        rw [hC] at hcell
        rw [Go.Deep.add_add] at hcell
        rw [hcell, hv]
        simpa using hz
      exact choose_lt each'
    obtain ⟨f, hf⟩ := choose_lt each
    refine ⟨some a, len, cap, f, rfl, by omega, fun i hil => ?_⟩
    have h0 := hf i hil 0 hs0
    obtain ⟨b, off, spot⟩ := a
    have hspot' : spot = none := by simpa [Addr.add] using World.cell?_spot (hf 0 (by omega) 0 hs0)
    subst hspot'
    refine ⟨b, off, rfl, ?_, fun j hj => ?_⟩
    · have := World.block_lt_of_cell? w _ h0
      rw [add_plain] at this
      exact this
    · have := hf i hil j hj
      rw [add_plain] at this
      rw [Nat.add_assoc]; exact this

theorem open_recs {t e : TypeId} {fs : Array Field} {s : Nat} {v : Value} {d : DataW H} {p : List MemPlace} (ht : P.underlying t = some (.slice e)) (he : P.underlying e = some (.struct fs))
    (hone : intFields P fs = true) (hC : P.cellsOf e = s) (hs : fs.size = s) (hs0 : 0 < s) {r : Reach} {b0 : Nat} (hv : Value.okWide P w r b0 t v) (h : DataW.Trod enc P w base (fun _ => true) held t v d p) :
    ∃ (A : Option Addr) (n c : Nat) (f : Nat → Nat → Int), v = .slice A n c ∧ n ≤ maxLen ∧ RR w s A n f := by
  obtain ⟨a, len, cap, rfl⟩ := okWide_slice ht hv
  obtain ⟨fuel, hf⟩ := h
  obtain ⟨A, n, c, f, hcs, hn, hr⟩ := open_recs_cells ht he hone hC hs hs0 hf
  simp [Value.cells] at hcs
  obtain ⟨rfl, rfl, rfl⟩ := hcs
  exact ⟨_, _, _, f, rfl, hn, hr⟩

theorem maxLen_is : maxLen = 9223372036854775807 := rfl

theorem plain_addr {a : Addr} {v : Value} (h : w.cell? (a.add 0) = some v) : ∃ b off, a = ⟨b, off, none⟩ := by
  obtain ⟨b, off, spot⟩ := a
  have : spot = none := by simpa [Addr.add] using World.cell?_spot h
  exact ⟨b, off, by rw [this]⟩

/-- a slice of one-cell elements: each cell, and its own reading -/
theorem open_one {t e : TypeId} {fuel : Nat} {cs : List Value} {x : DataW H × List MemPlace} (ht : P.underlying t = some (.slice e)) (hC : P.cellsOf e = 1) (h : DataW.trod enc P w base (fun _ => true) held fuel t cs = some x) :
    ∃ (A : Option Addr) (n c k : Nat), cs = [.slice A n c] ∧ n ≤ maxLen ∧ ∀ i, i < n → ∃ b off v y, A = some ⟨b, off, none⟩ ∧ b < w.heap.size ∧ w.cell? ⟨b, off + i, none⟩ = some v ∧ DataW.trod enc P w base (fun _ => true) held k e [v] = some y := by
  rcases open_slice ht h with ⟨rfl, _⟩ | ⟨a, len, cap, m, k, D, Pl, rfl, _, hl, hm, hmm, hx, hi⟩
  · exact ⟨none, 0, 0, 0, rfl, Nat.zero_le _, fun i hi => absurd hi (Nat.not_lt_zero _)⟩
  · simp only [if_true] at hmm
    have hmm' := hmm.symm
    subst hmm'
    have each : ∀ i, i < len → ∃ v, w.cell? (a.add i) = some v ∧ DataW.trod enc P w base (fun _ => true) held k e [v] = some (D i, Pl i) := by
      intro i hil
      obtain ⟨cs', h1, h2⟩ := hi i (by omega)
      obtain ⟨_, hcl, hat⟩ := World.cells?_some h1
      rw [hC] at hcl
      match cs', hcl with
      | [v], _ =>
        have hcell := hat 0 (by omega)
        rw [hC, Go.Deep.add_add] at hcell
        refine ⟨v, ?_, h2⟩
        simpa using hcell
    refine ⟨some a, len, cap, k, rfl, by omega, fun i hil => ?_⟩
    obtain ⟨v0, h0, _⟩ := each 0 (by omega)
    obtain ⟨b, off, rfl⟩ := plain_addr h0
    obtain ⟨v, hv, ht'⟩ := each i hil
    rw [add_plain] at hv
    have hb := World.block_lt_of_cell? w _ hv
    exact ⟨b, off, v, _, rfl, hb, hv, ht'⟩

theorem open_i64s_cells {t e : TypeId} {fuel : Nat} {cs : List Value} {x : DataW H × List MemPlace} (ht : P.underlying t = some (.slice e)) (he : P.underlying e = some (.int .i64)) (hC : P.cellsOf e = 1) (h : DataW.trod enc P w base (fun _ => true) held fuel t cs = some x) :
    ∃ (A : Option Addr) (n c : Nat) (f : Nat → Int), cs = [.slice A n c] ∧ n ≤ maxLen ∧ RI w A n f := by
  obtain ⟨A, n, c, k, hcs, hn, hi⟩ := open_one ht hC h
  have each : ∀ i, i < n → ∃ z : Int, ∃ b off, A = some ⟨b, off, none⟩ ∧ b < w.heap.size ∧ w.cell? ⟨b, off + i, none⟩ = some (.int .i64 z) := by
    intro i hin
    obtain ⟨b, off, v, y, hA, hb, hv, ht'⟩ := hi i hin
    obtain ⟨z, hz, _⟩ := DataW.trod_int he ht'
    simp only [List.cons.injEq, and_true] at hz
    exact ⟨z, b, off, hA, hb, by rw [hv, hz]⟩
  obtain ⟨f, hf⟩ := choose_lt each
  exact ⟨A, n, c, f, hcs, hn, hf⟩

theorem open_i64ss_cells {t e q : TypeId} {fuel : Nat} {cs : List Value} {x : DataW H × List MemPlace} (ht : P.underlying t = some (.slice e)) (he : P.underlying e = some (.slice q)) (hq : P.underlying q = some (.int .i64)) (hC : P.cellsOf e = 1) (hCq : P.cellsOf q = 1) (h : DataW.trod enc P w base (fun _ => true) held fuel t cs = some x) :
    ∃ (A : Option Addr) (n c : Nat) (L : Nat → Nat) (f : Nat → Nat → Int), cs = [.slice A n c] ∧ n ≤ maxLen ∧ (∀ i, i < n → L i ≤ maxLen) ∧ RM w A n L f := by
  obtain ⟨A, n, c, k, hcs, hn, hi⟩ := open_one ht hC h
  have each : ∀ i, i < n → ∃ y : Nat × (Nat → Int), y.1 ≤ maxLen ∧ ∃ b off R cc, A = some ⟨b, off, none⟩ ∧ b < w.heap.size ∧ w.cell? ⟨b, off + i, none⟩ = some (.slice R y.1 cc) ∧ RI w R y.1 y.2 := by
    intro i hin
    obtain ⟨b, off, v, y, hA, hb, hv, ht'⟩ := hi i hin
    obtain ⟨R, l, cc, f, hz, hl, hr⟩ := open_i64s_cells he hq hCq ht'
    simp only [List.cons.injEq, and_true] at hz
    exact ⟨(l, f), hl, b, off, R, cc, hA, hb, by rw [hv, hz], hr⟩
  obtain ⟨y, hy⟩ := choose_lt each
  exact ⟨A, n, c, fun i => (y i).1, fun i => (y i).2, hcs, hn, fun i hin => (hy i hin).1, fun i hin => (hy i hin).2⟩

theorem open_i64sss_cells {t e q u : TypeId} {fuel : Nat} {cs : List Value} {x : DataW H × List MemPlace} (ht : P.underlying t = some (.slice e)) (he : P.underlying e = some (.slice q)) (hq : P.underlying q = some (.slice u)) (hu : P.underlying u = some (.int .i64)) (hC : P.cellsOf e = 1) (hCq : P.cellsOf q = 1) (hCu : P.cellsOf u = 1) (h : DataW.trod enc P w base (fun _ => true) held fuel t cs = some x) :
    ∃ (A : Option Addr) (n c : Nat) (N : Nat → Nat) (L : Nat → Nat → Nat) (f : Nat → Nat → Nat → Int), cs = [.slice A n c] ∧ n ≤ maxLen ∧ (∀ i, i < n → N i ≤ maxLen) ∧ (∀ i, i < n → ∀ j, j < N i → L i j ≤ maxLen) ∧ RC w A n N L f := by
  obtain ⟨A, n, c, k, hcs, hn, hi⟩ := open_one ht hC h
  have each : ∀ i, i < n → ∃ y : Nat × (Nat → Nat) × (Nat → Nat → Int), y.1 ≤ maxLen ∧ (∀ j, j < y.1 → y.2.1 j ≤ maxLen) ∧ ∃ b off R cc, A = some ⟨b, off, none⟩ ∧ b < w.heap.size ∧ w.cell? ⟨b, off + i, none⟩ = some (.slice R y.1 cc) ∧ RM w R y.1 y.2.1 y.2.2 := by
    intro i hin
    obtain ⟨b, off, v, y, hA, hb, hv, ht'⟩ := hi i hin
    obtain ⟨R, l, cc, L, f, hz, hl, hL, hr⟩ := open_i64ss_cells he hq hu hCq hCu ht'
    simp only [List.cons.injEq, and_true] at hz
    exact ⟨(l, L, f), hl, hL, b, off, R, cc, hA, hb, by rw [hv, hz], hr⟩
  obtain ⟨y, hy⟩ := choose_lt each
  exact ⟨A, n, c, fun i => (y i).1, fun i => (y i).2.1, fun i => (y i).2.2, hcs, hn, fun i hin => (hy i hin).1, fun i hin => (hy i hin).2.1, fun i hin => (hy i hin).2.2⟩

section
variable {t e q u : TypeId} {v : Value} {d : DataW H} {p : List MemPlace} {r : Reach} {b0 : Nat}
theorem open_i64s (ht : P.underlying t = some (.slice e)) (he : P.underlying e = some (.int .i64)) (hC : P.cellsOf e = 1) (hv : Value.okWide P w r b0 t v) (h : DataW.Trod enc P w base (fun _ => true) held t v d p) :
    ∃ (A : Option Addr) (n c : Nat) (f : Nat → Int), v = .slice A n c ∧ n ≤ maxLen ∧ RI w A n f := by
  obtain ⟨a, len, cap, rfl⟩ := okWide_slice ht hv
  obtain ⟨fuel, hf⟩ := h
  obtain ⟨A, n, c, f, hcs, hn, hr⟩ := open_i64s_cells ht he hC hf
  simp [Value.cells] at hcs
  obtain ⟨rfl, rfl, rfl⟩ := hcs
  exact ⟨_, _, _, f, rfl, hn, hr⟩
theorem open_i64ss (ht : P.underlying t = some (.slice e)) (he : P.underlying e = some (.slice q)) (hq : P.underlying q = some (.int .i64)) (hC : P.cellsOf e = 1) (hCq : P.cellsOf q = 1) (hv : Value.okWide P w r b0 t v) (h : DataW.Trod enc P w base (fun _ => true) held t v d p) :
    ∃ (A : Option Addr) (n c : Nat) (L : Nat → Nat) (f : Nat → Nat → Int), v = .slice A n c ∧ n ≤ maxLen ∧ (∀ i, i < n → L i ≤ maxLen) ∧ RM w A n L f := by
  obtain ⟨a, len, cap, rfl⟩ := okWide_slice ht hv
  obtain ⟨fuel, hf⟩ := h
  obtain ⟨A, n, c, L, f, hcs, hn, hL, hr⟩ := open_i64ss_cells ht he hq hC hCq hf
  simp [Value.cells] at hcs
  obtain ⟨rfl, rfl, rfl⟩ := hcs
  exact ⟨_, _, _, L, f, rfl, hn, hL, hr⟩
theorem open_i64sss (ht : P.underlying t = some (.slice e)) (he : P.underlying e = some (.slice q)) (hq : P.underlying q = some (.slice u)) (hu : P.underlying u = some (.int .i64)) (hC : P.cellsOf e = 1) (hCq : P.cellsOf q = 1) (hCu : P.cellsOf u = 1) (hv : Value.okWide P w r b0 t v) (h : DataW.Trod enc P w base (fun _ => true) held t v d p) :
    ∃ (A : Option Addr) (n c : Nat) (N : Nat → Nat) (L : Nat → Nat → Nat) (f : Nat → Nat → Nat → Int), v = .slice A n c ∧ n ≤ maxLen ∧ (∀ i, i < n → N i ≤ maxLen) ∧ (∀ i, i < n → ∀ j, j < N i → L i j ≤ maxLen) ∧ RC w A n N L f := by
  obtain ⟨a, len, cap, rfl⟩ := okWide_slice ht hv
  obtain ⟨fuel, hf⟩ := h
  obtain ⟨A, n, c, N, L, f, hcs, hn, hN, hL, hr⟩ := open_i64sss_cells ht he hq hu hC hCq hCu hf
  simp [Value.cells] at hcs
  obtain ⟨rfl, rfl, rfl⟩ := hcs
  exact ⟨_, _, _, N, L, f, rfl, hn, hN, hL, hr⟩

/-- a struct of a number and a slice -/
theorem open_pair {f0 f1 : Field} (hs : P.underlying t = some (.struct #[f0, f1])) (hone : oneCellFields P #[f0, f1] = true) (hcs : P.cellsOf t = 2) (h0 : P.underlying f0.type = some (.int .i64)) (hv : Value.okWide P w r b0 t v) (h : DataW.Trod enc P w base (fun _ => true) held t v d p) :
    ∃ (ev : Int) (c1 : Value) (y : DataW H × List MemPlace) (k : Nat), v = .agg #[.int .i64 ev, c1] ∧ DataW.trod enc P w base (fun _ => true) held k f1.type [c1] = some y := by
  obtain ⟨cs, rfl, hsz⟩ := okWide_struct hs hv
  obtain ⟨l⟩ := cs
  match l, hsz.trans hcs with
  | [c0, c1], _ =>
    obtain ⟨fuel, hf⟩ := h
    obtain ⟨xs, n, _, hx, _, hlen, hg⟩ := DataW.trod_struct hs hf
    obtain ⟨o0, k0⟩ := hone_of hone 0 f0 rfl
    obtain ⟨o1, k1⟩ := hone_of hone 1 f1 rfl
    match xs, hlen with
    | [y0, y1], _ =>
      have g0 : DataW.trod enc P w base (fun _ => true) held n f0.type [c0] = some y0 := by simpa [Value.cells, o0, k0] using hg 0 f0 rfl
      have g1 : DataW.trod enc P w base (fun _ => true) held n f1.type [c1] = some y1 := by simpa [Value.cells, o1, k1] using hg 1 f1 rfl
      obtain ⟨z, hz, _⟩ := DataW.trod_int h0 g0
      simp only [List.cons.injEq, and_true] at hz
      subst hz
      exact ⟨z, c1, y1, n, rfl, g1⟩

theorem open_graph {te : TypeId} {f0 f1 : Field} {fs : Array Field} (hs : P.underlying t = some (.struct #[f0, f1])) (hi : P.underlying f0.type = some (.int .i64)) (ht : P.underlying f1.type = some (.slice te)) (he : P.underlying te = some (.struct fs)) (hone : oneCellFields P #[f0, f1] = true) (hcs : P.cellsOf t = 2)
    (hf4 : intFields P fs = true) (hc4 : P.cellsOf te = 4) (hs4 : fs.size = 4) (hv : Value.okWide P w r b0 t v) (h : DataW.Trod enc P w base (fun _ => true) held t v d p) :
    ∃ (ev : Int) (A : Option Addr) (n c : Nat) (f : Nat → Nat → Int), v = .agg #[.int .i64 ev, .slice A n c] ∧ n ≤ maxLen ∧ RR w 4 A n f := by
  obtain ⟨ev, c1, y, k, rfl, hy⟩ := open_pair hs hone hcs hi hv h
  obtain ⟨A, n, c, f, hc1, hn, hr⟩ := open_recs_cells ht he hf4 hc4 hs4 (by omega) hy
  simp only [List.cons.injEq, and_true] at hc1
  subst hc1
  exact ⟨ev, A, n, c, f, rfl, hn, hr⟩

theorem open_table {te : TypeId} {f0 f1 : Field} (hs : P.underlying t = some (.struct #[f0, f1])) (hi : P.underlying f0.type = some (.int .i64)) (ht : P.underlying f1.type = some (.slice te)) (he : P.underlying te = some (.int .i64)) (hone : oneCellFields P #[f0, f1] = true) (hcs : P.cellsOf t = 2)
    (hc1 : P.cellsOf te = 1) (hv : Value.okWide P w r b0 t v) (h : DataW.Trod enc P w base (fun _ => true) held t v d p) :
    ∃ (ev : Int) (A : Option Addr) (n c : Nat) (f : Nat → Int), v = .agg #[.int .i64 ev, .slice A n c] ∧ n ≤ maxLen ∧ RI w A n f := by
  obtain ⟨ev, c1, y, k, rfl, hy⟩ := open_pair hs hone hcs hi hv h
  obtain ⟨A, n, c, f, hc1, hn, hr⟩ := open_i64s_cells ht he hc1 hy
  simp only [List.cons.injEq, and_true] at hc1
  subst hc1
  exact ⟨ev, A, n, c, f, rfl, hn, hr⟩

theorem open_system {ti tn : TypeId} {f0 f1 f2 : Field} (hs : P.underlying t = some (.struct #[f0, f1, f2])) (h0 : P.underlying f0.type = some (.slice ti)) (h1 : P.underlying f1.type = some (.slice tn)) (h2 : P.underlying f2.type = some (.slice tn)) (hti : P.underlying ti = some (.slice tn)) (hn' : P.underlying tn = some (.int .i64))
    (hone : oneCellFields P #[f0, f1, f2] = true) (hcs : P.cellsOf t = 3) (hc1 : P.cellsOf ti = 1) (hc2 : P.cellsOf tn = 1) (hv : Value.okWide P w r b0 t v) (h : DataW.Trod enc P w base (fun _ => true) held t v d p) :
    ∃ (A : Option Addr) (n c : Nat) (L : Nat → Nat) (f : Nat → Nat → Int) (B : Option Addr) (m cb : Nat) (x : Nat → Int) (C : Option Addr) (q cc : Nat) (y : Nat → Int), v = .agg #[.slice A n c, .slice B m cb, .slice C q cc] ∧ n ≤ maxLen ∧ (∀ i, i < n → L i ≤ maxLen) ∧ m ≤ maxLen ∧ q ≤ maxLen ∧ RM w A n L f ∧ RI w B m x ∧ RI w C q y := by
  obtain ⟨cs, rfl, hsz⟩ := okWide_struct hs hv
  obtain ⟨l⟩ := cs
  match l, hsz.trans hcs with
  | [c0, c1, c2], _ =>
    obtain ⟨fuel, hf⟩ := h
    obtain ⟨xs, n, _, hx, _, hlen, hg⟩ := DataW.trod_struct hs hf
    obtain ⟨o0, k0⟩ := hone_of hone 0 f0 rfl
    obtain ⟨o1, k1⟩ := hone_of hone 1 f1 rfl
    obtain ⟨o2, k2⟩ := hone_of hone 2 f2 rfl
    match xs, hlen with
    | [y0, y1, y2], _ =>
      have g0 : DataW.trod enc P w base (fun _ => true) held n f0.type [c0] = some y0 := by simpa [Value.cells, o0, k0] using hg 0 f0 rfl
      have g1 : DataW.trod enc P w base (fun _ => true) held n f1.type [c1] = some y1 := by simpa [Value.cells, o1, k1] using hg 1 f1 rfl
      have g2 : DataW.trod enc P w base (fun _ => true) held n f2.type [c2] = some y2 := by simpa [Value.cells, o2, k2] using hg 2 f2 rfl
      obtain ⟨A, na, ca, L, f, ha, hna, hL, hra⟩ := open_i64ss_cells h0 hti hn' hc1 hc2 g0
      obtain ⟨B, nb, cb, x, hb, hnb, hrb⟩ := open_i64s_cells h1 hn' hc2 g1
      obtain ⟨C, nc, cc, y, hc, hnc, hrc⟩ := open_i64s_cells h2 hn' hc2 g2
      simp only [List.cons.injEq, and_true] at ha hb hc
      subst ha; subst hb; subst hc
      exact ⟨A, na, ca, L, f, B, nb, cb, x, C, nc, cc, y, rfl, hna, hL, hnb, hnc, hra, hrb, hrc⟩
end

end
end Go.Proofs.Ytgkgimglgjfcjaa
