/-
  A calculus of its own for printed proofs: the frame as a list of slots with values, the memory as a list of things owned, one step an operation.
-/
import Derived.WalkKit
import Derived.Deep.Draws
import Derived.Deep.OwnRows
import Derived.Deep.Quiet
import Derived.Deep.AppendLies
namespace Go.Proofs.Ytgkgimglgjfcjaa
open Go.RowKit

theorem nbeq {d t : Nat} (e : ¬ d = t) : Nat.beq d t = false := by
  cases h : Nat.beq d t with
  | false => rfl
  | true => exact absurd (Nat.eq_of_beq_eq_true h) e

abbrev Env := List (Nat × Value)
/-- the first value that stands at a slot -/
def look : Env → Nat → Option Value
  | [], _ => none
  | (k, v) :: r, t => cond (Nat.beq k t) (some v) (look r t)

structure Fr0 (a : Act) (N : Nat) (E : Env) : Prop where
  size : a.tmps.size = N
  get : ∀ t v, look E t = some v → a.tmps.getD t undef = v
/-- and the calls that it has put off -/
structure FrD (dd : List Deferred) (a : Act) (N : Nat) (E : Env) : Prop extends Fr0 a N E where
  defers : a.defers = dd
abbrev Fr := FrD []

def evalE (E : Env) : Operand → Option Value
  | .tmp t => look E t
  | .const v => some v
  | .func f => some (.func (.func f) #[] #[])
  | .global g => some (.pointer (some ⟨g, 0, none⟩))

theorem Fr0.eval {a : Act} {N : Nat} {E : Env} {x : Operand} {v : Value} (h : Fr0 a N E) (hx : evalE E x = some v) : a.eval x = v := by
  cases x with
  | tmp t => exact h.get t v hx
  | const u => simpa [evalE, Act.eval] using hx
  | func f => simpa [evalE, Act.eval] using hx
  | global g => simpa [evalE, Act.eval] using hx

theorem FrD.put {dd : List Deferred} {a : Act} {N : Nat} {E : Env} {d : Nat} {v : Value} (h : FrD dd a N E) (hd : Nat.blt d N = true) : FrD dd (a.put (some d) v) N ((d, v) :: E) := by
  have hd' : d < a.tmps.size := by rw [h.size]; simpa using hd
  refine ⟨⟨by simpa [Act.put] using h.size, fun t u ht => ?_⟩, by simpa [Act.put] using h.defers⟩
  unfold look at ht
  by_cases e : d = t
  · subst e
    simp only [Nat.beq_refl, cond_true, Option.some.injEq] at ht
    subst ht
    simp [Act.put, Array.getD_eq_getD_getElem?, hd']
  · have hb : Nat.beq d t = false := nbeq e
    rw [hb, cond_false] at ht
    have := h.get t u ht
    rw [← this]
    simp [Act.put, Array.getD_eq_getD_getElem?, e]

theorem FrD.none {dd : List Deferred} {a : Act} {N : Nat} {E : Env} (h : FrD dd a N E) : FrD dd a N [] := ⟨⟨h.size, fun t v ht => by simp [look] at ht⟩, h.defers⟩
theorem FrD.pick {dd : List Deferred} {a : Act} {N : Nat} {E E' : Env} {t : Nat} {v : Value} (h' : FrD dd a N E') (h : FrD dd a N E) (ht : look E t = some v) : FrD dd a N ((t, v) :: E') := by
  refine ⟨⟨h.size, fun s u hs => ?_⟩, h.defers⟩
  unfold look at hs
  by_cases e : t = s
  · subst e
    simp only [Nat.beq_refl, cond_true, Option.some.injEq] at hs
    subst hs
    exact h.get _ _ ht
  · have hb : Nat.beq t s = false := nbeq e
    rw [hb, cond_false] at hs
    exact h'.get s u hs

/-- the arguments in their slots -/
def envOf : Nat → List Value → Env
  | _, [] => []
  | k, v :: r => (k, v) :: envOf (k + 1) r

theorem look_envOf : ∀ (l : List Value) (k t : Nat) (v : Value), look (envOf k l) t = some v → ∃ i, t = k + i ∧ l[i]? = some v
  | [], _, _, _, h => by simp [envOf, look] at h
  | u :: r, k, t, v, h => by
    unfold envOf look at h
    by_cases e : k = t
    · subst e
      simp only [Nat.beq_refl, cond_true, Option.some.injEq] at h
      exact ⟨0, rfl, by simp [h]⟩
    · have hb : Nat.beq k t = false := nbeq e
      rw [hb, cond_false] at h
      obtain ⟨i, h1, h2⟩ := look_envOf r (k + 1) t v h
      exact ⟨i + 1, by omega, by simpa using h2⟩

theorem Fr.start {l : List Value} {N : Nat} (h : Nat.ble l.length N = true) : Fr { tmps := l.toArray ++ Array.replicate (N - l.length) undef, defers := [] } N (envOf 0 l) := by
  have hl : l.length ≤ N := by simpa using h
  refine ⟨⟨by simp; omega, fun t v ht => ?_⟩, rfl⟩
  obtain ⟨i, h1, h2⟩ := look_envOf l 0 t v ht
  have hi : i < l.length := (List.getElem?_eq_some_iff.1 h2).1
  rw [h1, Nat.zero_add]
  simp only [Array.getD_eq_getD_getElem?]
  rw [Array.getElem?_append_left (by simpa using hi)]
  simp [h2]

section codes
variable {P : Program}

/-- codes one after the other -/
def wpL (P : Program) : List Code → (Exit → Act → World → Prop) → Act → World → Prop
  | [], Q, a, w => Q .normal a w
  | c :: r, Q, a, w => c.wp P (Exit.then (wpL P r Q) Q) a w

variable {Q : Exit → Act → World → Prop} {a : Act} {w : World} {r : List Code}

theorem wpL_seq {x y : Code} (h : wpL P (x :: y :: r) Q a w) : wpL P (.seq x y :: r) Q a w := by
  refine wp_seq (wp_mono (c := x) h fun e a w he => ?_)
  cases e <;> exact he

theorem wpL_skip (h : wpL P r Q a w) : wpL P (.skip :: r) Q a w := wp_skip h

theorem wpL_nil (h : Q .normal a w) : wpL P [] Q a w := h

theorem wpL_cond {dd : List Deferred} {N : Nat} {E : Env} {c : Operand} {x y : Code} {t : Bool} (hf : FrD dd a N E) (hc : evalE E c = some (.bool t))
    (h1 : t = true → wpL P (x :: r) Q a w) (h2 : t = false → wpL P (y :: r) Q a w) : wpL P (.cond c x y :: r) Q a w := by
  refine wp_cond (hf.eval hc) ?_
  cases t
  · exact h2 rfl
  · exact h1 rfl

/-- where the ways meet again -/
theorem wpL_cut {c : Code} (R : Act → World → Prop) (h1 : wpL P [c] (Exit.then R Q) a w) (h2 : ∀ a w, R a w → wpL P r Q a w) : wpL P (c :: r) Q a w := by
  refine wp_mono (c := c) h1 fun e a w he => ?_
  cases e with
  | normal => exact h2 _ _ he
  | exit id => exact he
  | goto l => exact he
  | ret => exact he
  | panic c => exact he
  | outgrown => exact he

theorem then_normal {R : Act → World → Prop} (h : R a w) : Exit.then R Q .normal a w := h
theorem then_ret {R : Act → World → Prop} (h : Q .ret a w) : Exit.then R Q .ret a w := h
/-- a block: its exit is its end -/
def Qb (id : Nat) (K : Act → World → Prop) (Q : Exit → Act → World → Prop) : Exit → Act → World → Prop
  | .normal, a, w => K a w
  | .exit i, a, w => if i = id then K a w else Q (.exit i) a w
  | e, a, w => Q e a w

theorem wpL_block {id : Nat} {c : Code} (R : Act → World → Prop) (h : wpL P [c] (Qb id R Q) a w) (h2 : ∀ a w, R a w → wpL P r Q a w) : wpL P (.block id c :: r) Q a w := by
  refine wp_block (wp_mono (c := c) h fun e a w he => ?_)
  cases e with
  | normal => exact h2 _ _ he
  | exit i =>
    by_cases e : i = id
    · subst e
      simp only [Exit.inBlock, if_true]
      have he' : (if i = i then R a w else Q (.exit i) a w) := he
      rw [if_pos rfl] at he'
      exact h2 _ _ he'
    · simp only [Exit.inBlock, if_neg e]
      have he' : (if i = id then R a w else Q (.exit i) a w) := he
      rw [if_neg e] at he'
      exact he'
  | goto l => exact he
  | ret => exact he
  | panic c => exact he
  | outgrown => exact he
/-- a block whose end is proved where it is reached -/
theorem wpL_block0 {id : Nat} {c : Code} (h : wpL P [c] (Qb id (wpL P r Q) Q) a w) : wpL P (.block id c :: r) Q a w := wpL_block _ h (fun _ _ h => h)

theorem Qb_normal {id : Nat} {K : Act → World → Prop} (h : K a w) : Qb id K Q .normal a w := h
theorem Qb_exit {id : Nat} {K : Act → World → Prop} (h : K a w) : Qb id K Q (.exit id) a w := by
  show (if id = id then K a w else Q (.exit id) a w)
  rw [if_pos rfl]; exact h
theorem Qb_exit_ne {id i : Nat} {K : Act → World → Prop} (hn : Nat.beq i id = false) (h : Q (.exit i) a w) : Qb id K Q (.exit i) a w := by
  show (if i = id then K a w else Q (.exit i) a w)
  rw [if_neg (Nat.ne_of_beq_eq_false hn)]; exact h
theorem Qb_ret {id : Nat} {K : Act → World → Prop} (h : Q .ret a w) : Qb id K Q .ret a w := h

/-- a loop: behind a round comes the next -/
def Ql (J : Act → World → Prop) (Q : Exit → Act → World → Prop) : Exit → Act → World → Prop
  | .normal, a, w => J a w
  | e, a, w => Q e a w
theorem Ql_normal {J : Act → World → Prop} (h : J a w) : Ql J Q .normal a w := h
theorem Ql_exit {J : Act → World → Prop} {i : Nat} (h : Q (.exit i) a w) : Ql J Q (.exit i) a w := h
theorem Ql_ret {J : Act → World → Prop} (h : Q .ret a w) : Ql J Q .ret a w := h

theorem wpL_loop {c : Code} (I : Nat → Act → World → Prop) (n : Nat) (h0 : I n a w) (hz : ∀ a w, ¬ I 0 a w)
    (hs : ∀ n a w, I (n + 1) a w → wpL P [c] (Ql (I n) Q) a w) : wpL P (.loop c :: r) Q a w := by
  intro b k cs
  have key : ∀ n a w, I n a w → ∃ e a' w', Exit.then (wpL P r Q) Q e a' w' ∧ Arrives P (lone (b.at a (.code c :: .inLoop c :: k)) cs w) b k cs e a' w' := by
    intro n
    induction n with
    | zero => exact fun a w h => absurd h (hz a w)
    | succ n ih =>
      intro a w hI
      obtain ⟨e, a1, w1, hq, harr⟩ := hs n a w hI b (.inLoop c :: k) cs
      cases e with
      | normal =>
        obtain ⟨e2, a2, w2, hq2, harr2⟩ := ih a1 w1 hq
        exact ⟨e2, a2, w2, hq2, .of_steps (Steps.trans harr (.one step_inLoop)) harr2⟩
      | exit id => exact ⟨.exit id, a1, w1, (show Q (.exit id) a1 w1 from hq), .pass (x := .inLoop c) rfl (fun _ _ => .inl (by simp)) harr⟩
      | goto l => exact ⟨.goto l, a1, w1, (show Q (.goto l) a1 w1 from hq), .pass (x := .inLoop c) rfl (fun _ _ => .inl (by simp)) harr⟩
      | ret => exact ⟨.ret, a1, w1, (show Q (.ret) a1 w1 from hq), .pass (x := .inLoop c) rfl (fun _ _ => .inl (by simp)) harr⟩
      | panic ch => exact ⟨.panic ch, a1, w1, (show Q (.panic ch) a1 w1 from hq), .pass (x := .inLoop c) rfl (fun _ _ => .inl (by simp)) harr⟩
      | outgrown => exact ⟨.outgrown, a1, w1, (show Q (.outgrown) a1 w1 from hq), .pass (x := .inLoop c) rfl (fun _ _ => .inl (by simp)) harr⟩
  obtain ⟨e, a', w', hq, harr⟩ := key n a w h0
  exact ⟨e, a', w', hq, .of_steps (.one step_loop) harr⟩

theorem wpL_exit {id : Nat} (h : Q (.exit id) a w) : wpL P (.exit id :: r) Q a w := wp_exit h
theorem wpL_ret (h : Q .ret a w) : wpL P (.ret :: r) Q a w := wp_ret h

theorem Calls.enter {f : FuncId} {fn : Func} {c : Code} {l : List Value} {R : Ending → World → Prop} {N : Nat}
    (hf : P.funcs[f]? = some fn) (hb : fn.body = some c) (hn : fn.ntmps = N) (hl : Nat.ble l.length N = true)
    (h : ∀ a, Fr a N (envOf 0 l) → wpL P [c] (bodyPost P fn R) a w) : Calls P f l.toArray w R := by
  refine calls_of_wp hf hb ?_
  rw [hn]
  refine wp_mono (c := c) (h _ (by simpa using Fr.start hl)) fun e a w he => ?_
  cases e <;> exact he

theorem ret_tmp {fn : Func} {R : Ending → World → Prop} {N t : Nat} {E : Env} {v : Value} (hr : fn.results = #[.tmp t]) (hf : Fr a N E) (ht : look E t = some v) (h : R (.returned v) w) : bodyPost P fn R .ret a w :=
  bodyPost_ret (by rw [results_tmp hr]; rw [hf.get t v ht]) hf.defers h
theorem ret_tmp2 {fn : Func} {R : Ending → World → Prop} {N t u : Nat} {E : Env} {v x : Value} (hr : fn.results = #[.tmp t, .tmp u]) (hf : Fr a N E) (ht : look E t = some v) (hu : look E u = some x) (h : R (.returned (.tuple #[v, x])) w) : bodyPost P fn R .ret a w :=
  bodyPost_ret (by rw [results_tmp2 hr]; rw [hf.get t v ht, hf.get u x hu]) hf.defers h
theorem ret_none {fn : Func} {R : Ending → World → Prop} {N : Nat} {E : Env} (hr : fn.results = #[]) (hf : Fr a N E) (h : R (.returned (.tuple #[])) w) : bodyPost P fn R .ret a w :=
  bodyPost_ret (results_none hr _ _ _) hf.defers h
theorem ret_end {fn : Func} {R : Ending → World → Prop} (h : bodyPost P fn R .ret a w) : bodyPost P fn R .normal a w := h

end codes

/-! ### Types -/

/-- a type's zero, as cells, and its bytes -/
def TI (P : Program) (t : TypeId) (zs : List Value) (bytes : Nat) : Prop := ∃ i z, P.info? t = some i ∧ i.zero = some z ∧ z.cells = zs.toArray ∧ i.size = zs.length ∧ i.bytes = bytes
theorem TI.of {P : Program} {t : TypeId} {z : Value} {s bytes : Nat} {zs : List Value} (h : (P.info? t).map (fun i => (i.zero, i.size, i.bytes)) = some (some z, s, bytes)) (hz : z.cells = zs.toArray) (hs : s = zs.length) : TI P t zs bytes := by
  cases hi : P.info? t with
  | none => rw [hi] at h; simp at h
  | some i =>
    rw [hi] at h
    simp only [Option.map_some, Option.some.injEq, Prod.mk.injEq] at h
    exact ⟨i, z, hi, h.1, hz, h.2.1.trans hs, h.2.2⟩
theorem TI.size {P : Program} {t : TypeId} {zs : List Value} {bytes : Nat} (h : TI P t zs bytes) (w : World) : (sizeOf t).run P w = .ok zs.length w := by
  obtain ⟨i, z, h1, h2, h3, h4, h5⟩ := h
  simp [Go.sizeOf, typeInfo, h1, h4, go_sem]
theorem TI.zero {P : Program} {t : TypeId} {zs : List Value} {bytes : Nat} (h : TI P t zs bytes) (w : World) : ∃ z, (zeroValue t).run P w = .ok z w ∧ z.cells = zs.toArray := by
  obtain ⟨i, z, h1, h2, h3, h4, h5⟩ := h
  exact ⟨z, by simp [zeroValue, typeInfo, h1, h2, go_sem], h3⟩

/-- is a type a struct (or an array) -/
def AG (P : Program) (t : TypeId) (b : Bool) : Prop := ∀ w, (isAgg t).run P w = .ok b w
/-- a field's place -/
def FO (P : Program) (s : TypeId) (f off : Nat) : Prop := ∀ (w : World) (b o : Nat), (Instr.fieldAt s (.pointer (some ⟨b, o, none⟩)) f).run P w = .ok (.pointer (some ⟨b, o + off, none⟩)) w
/-- an element's type -/
def EL (P : Program) (t e : TypeId) : Prop := P.underlying t = some (.slice e)

end Go.Proofs.Ytgkgimglgjfcjaa
