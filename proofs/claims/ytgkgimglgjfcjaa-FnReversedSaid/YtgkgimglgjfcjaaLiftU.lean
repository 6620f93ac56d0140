/-
  What printed proofs use besides: operations on lists that may fail, joins, choices of what is kept.
-/
import Derived.Test.YtgkgimglgjfcjaaLiftD
namespace Go.Proofs.Ytgkgimglgjfcjaa
open Go.RowKit
variable {dd : List Deferred}

theorem bind_some {α β : Type} {o : Option α} {f : α → Option β} {r : β} (h : o.bind f = some r) : ∃ x, o = some x ∧ f x = some r := by
  cases o with
  | none => simp at h
  | some x => exact ⟨x, rfl, h⟩
theorem bif_t {α : Type} {b : Bool} {x y : α} {r : α} (h : (bif b then x else y) = r) (hb : b = true) : x = r := by subst hb; exact h
theorem bif_f {α : Type} {b : Bool} {x y : α} {r : α} (h : (bif b then x else y) = r) (hb : b = false) : y = r := by subst hb; exact h

/-- a bound on what is made -/
def big : Nat := 67108864
def app {α : Type} (xs ys : List α) : Option (List α) := if xs.length + ys.length ≤ big then some (xs ++ ys) else none
theorem app_some {α : Type} {xs ys zs : List α} (h : app xs ys = some zs) : zs = xs ++ ys ∧ xs.length + ys.length ≤ big := by
  unfold app at h
  split at h
  · exact ⟨(Option.some.inj h).symm, by assumption⟩
  · simp at h
def upd {α : Type} (xs : List α) (i : Int) (x : α) : Option (List α) := if 0 ≤ i ∧ i < (xs.length : Int) then some (xs.set i.toNat x) else none
theorem upd_some {α : Type} {xs ys : List α} {i : Int} {x : α} (h : upd xs i x = some ys) : 0 ≤ i ∧ i < (xs.length : Int) ∧ ys = xs.set i.toNat x := by
  unfold upd at h
  split at h
  · rename_i h0; exact ⟨h0.1, h0.2, (Option.some.inj h).symm⟩
  · simp at h
theorem upd_len {α : Type} {xs ys : List α} {i : Int} {x : α} (h : upd xs i x = some ys) : ys.length = xs.length := by
  obtain ⟨_, _, rfl⟩ := upd_some h; simp
theorem ltn {n m : Nat} {j : Int} (h : n = m) (hj : j < (m : Int)) : j < (n : Int) := by rw [h]; exact hj
def mk {α : Type} (n : Int) (z : α) : Option (List α) := if 0 ≤ n ∧ n ≤ (big : Int) then some (List.replicate n.toNat z) else none
theorem mk_some {α : Type} {n : Int} {z : α} {ys : List α} (h : mk n z = some ys) : 0 ≤ n ∧ n ≤ (big : Int) ∧ ys = List.replicate n.toNat z := by
  unfold mk at h
  split at h
  · rename_i h0; exact ⟨h0.1, h0.2, (Option.some.inj h).symm⟩
  · simp at h

theorem nz_some {n : Int} {u : Unit} (h : (if n = 0 then none else some ()) = some u) : n ≠ 0 := by
  intro e; rw [if_pos e] at h; simp at h

/-- some of the things, by their numbers -/
def pickL (L : List Res) : List Nat → List Res
  | [] => []
  | i :: r => match L[i]? with
    | some x => x :: pickL L r
    | none => pickL L r
theorem pickL_at {L : List Res} : ∀ {is : List Nat} {k : Nat} {r : Res}, (pickL L is)[k]? = some r → ∃ i, i ∈ is ∧ L[i]? = some r
  | [], k, r, h => by simp [pickL] at h
  | i :: is, k, r, h => by
    unfold pickL at h
    split at h
    · rename_i x hx
      cases k with
      | zero => simp only [List.getElem?_cons_zero, Option.some.injEq] at h; exact ⟨i, List.mem_cons_self .., by rw [hx, h]⟩
      | succ k => obtain ⟨j, hj, h2⟩ := pickL_at (by simpa using h); exact ⟨j, List.mem_cons_of_mem _ hj, h2⟩
    · obtain ⟨j, hj, h2⟩ := pickL_at h; exact ⟨j, List.mem_cons_of_mem _ hj, h2⟩
theorem St.sel {μ : List Nat} {W w : World} {L : List Res} (h : St μ W w L) (is : List Nat) (hn : is.Nodup) : St μ W w (pickL L is) := by
  refine ⟨h.bm, fun k r hr => ?_, fun k r b hr hb => ?_, ?_⟩
  · obtain ⟨i, _, hi⟩ := pickL_at hr
    exact h.res i r hi
  · obtain ⟨i, _, hi⟩ := pickL_at hr
    exact h.own i r b hi hb
  · induction is with
    | nil => intro i j r q hi; simp [pickL] at hi
    | cons i is ih =>
      have hn' := List.nodup_cons.1 hn
      unfold pickL
      cases hx : L[i]? with
      | none => exact ih hn'.2
      | some x =>
        intro k l r q hk hl hkl b hr hq
        cases k with
        | zero =>
          simp only [List.getElem?_cons_zero, Option.some.injEq] at hk; subst hk
          cases l with
          | zero => exact hkl rfl
          | succ l =>
            obtain ⟨j, hj, h2⟩ := pickL_at (is := is) (by simpa using hl)
            exact h.sep i j _ q hx h2 (fun e => hn'.1 (by rw [e]; exact hj)) b hr hq
        | succ k =>
          cases l with
          | zero =>
            simp only [List.getElem?_cons_zero, Option.some.injEq] at hl; subst hl
            obtain ⟨j, hj, h2⟩ := pickL_at (is := is) (by simpa using hk)
            exact h.sep j i r _ h2 hx (fun e => hn'.1 (by rw [← e]; exact hj)) b hr hq
          | succ l => exact ih hn'.2 k l r q (by simpa using hk) (by simpa using hl) (by omega) b hr hq

section
variable {P : Program} {W : World} {μ : List Nat} {L : List Res} {N : Nat} {E : Env} {o : Oper} {ops : Array Oper} {Q : Exit → Act → World → Prop} {K : Act → World → Prop} {a : Act} {w : World} {rest : List Oper}

theorem Y_pickT {c x y : Operand} {v : Value} (ho : o.op = .pick c x y) (hc : evalE E c = some (.bool true)) (hx : evalE E x = some v) : Y P μ W L N E o v := fun a w hf _ => by
  simp [execOp, ho, hf.eval hc, hf.eval hx, asBool]
theorem Y_pickF {c x y : Operand} {v : Value} (ho : o.op = .pick c x y) (hc : evalE E c = some (.bool false)) (hx : evalE E y = some v) : Y P μ W L N E o v := fun a w hf _ => by
  simp [execOp, ho, hf.eval hc, hf.eval hx, asBool]
/-- a row made, its length a number that the walk has -/
theorem sMakeL {α : Type} {t e : TypeId} {x : Operand} {n : Int} {d by' : Nat} {zs : List Value} {z0 : α} {ys : List α} {enc : List α → List Value} (hf : FrD dd a N E) (hs : St μ W w L) (hg : o.guard = none) (hd : o.dst = some d) (hN : Nat.blt d N = true) (ho : o.op = .makeSlice t x x) (hx : evalE E x = some (.int .i64 n))
    (hm : mk n z0 = some ys) (he : EL P t e) (hz : TI P e zs by') (hb : Nat.ble by' 4096 = true) (hc : ∀ k, (madeCells zs.toArray (k * zs.length)).toList = enc (List.replicate k z0))
    (h : ∀ a w A, St μ W w (L ++ [.row A ys.length ys.length e zs.length (enc ys)]) → FrD dd a N ((d, .slice A ys.length ys.length) :: E) → wpO P ops Q K rest a w) : wpO P ops Q K (o :: rest) a w := by
  obtain ⟨h0, h1, rfl⟩ := mk_some hm
  have hb' := Nat.le_of_ble_eq_true hb
  have hn : ((n.toNat : Nat) : Int) = n := by omega
  have h2 : n.toNat ≤ 67108864 := by unfold big at h1; omega
  have hby : by' * n.toNat ≤ 281474976710656 := Nat.le_trans (Nat.mul_le_mul hb' h2) (by decide)
  refine sMake (n := n.toNat) hf hs hg hd hN ho (by rw [hn]; exact hx) (by rw [hn]; exact hx) he hz hby (by unfold maxLen; omega) (hc n.toNat) fun a w A hs hf => ?_
  refine h a w A ?_ ?_
  · rw [List.length_replicate]; exact hs
  · rw [List.length_replicate]; exact hf

/-- an append, as lists -/
theorem sAppendL {α : Type} {t e : TypeId} {x y : Operand} {A A' : Option Addr} {n m c c' i s d by' : Nat} {zs : List Value} {xs ys rs : List α} {enc : List α → List Value} (hf : FrD dd a N E) (hs : St μ W w L) (hg : o.guard = none) (hd : o.dst = some d) (hN : Nat.blt d N = true)
    (ho : o.op = .call { callee := .builtin .append, args := #[x, y], argTypes := #[t, t] }) (hx : evalE E x = some (.slice A n c)) (hy : evalE E y = some (.slice A' m c')) (hn : n = xs.length) (hn' : m = ys.length)
    (hL : L[i]? = some (.row A n c e s (enc xs))) (hm : app xs ys = some rs) (he : EL P t e) (hz : TI P e zs by') (hzs : zs.length = s) (hs0 : Nat.blt 0 s = true) (hb : Nat.ble by' 4096 = true) (hr : Rd w A' (enc ys)) (hy0 : 0 < ys.length)
    (hel : ∀ l : List α, (enc l).length = l.length * s) (hea : ∀ l l' : List α, enc (l ++ l') = enc l ++ enc l') (h1 : ∀ l : List α, ∀ u ∈ enc l, u.oneCell' = true)
    (h : ∀ a w A1 c1, St μ W w (L.set i (.row A1 rs.length c1 e s (enc rs))) → FrD dd a N ((d, .slice A1 rs.length c1) :: E) → wpO P ops Q K rest a w) : wpO P ops Q K (o :: rest) a w := by
  obtain ⟨rfl, hle⟩ := app_some hm
  subst hn hn'
  have hb' := Nat.le_of_ble_eq_true hb
  have hs0' : 0 < s := by simpa using hs0
  unfold big at hle
  have hA := hr.is (by rw [hel]; exact Nat.mul_pos hy0 hs0')
  have hA' : ∃ p, A' = some p := by obtain ⟨b, off, e⟩ := hA; exact ⟨_, e⟩
  refine sAppend hf hs hg hd hN ho hx hy hL he hz hzs hs0' hA' hr hA (hel ys) (h1 ys) (by unfold maxLen; omega) (Nat.le_trans (Nat.mul_le_mul hle hb') (by decide)) fun a w A1 c1 hs hf => ?_
  refine h a w A1 c1 ?_ ?_
  · rw [List.length_append, hea]; exact hs
  · rw [List.length_append]; exact hf

/-- a store into a row's element, as lists -/
theorem sStoreL {α : Type} {t e : TypeId} {x y : Operand} {A : Option Addr} {n c i s by' : Nat} {j : Int} {v : Value} {zs us : List Value} {xs ys : List α} {x0 : α} {enc : List α → List Value} (hf : FrD dd a N E) (hs : St μ W w L) (hg : o.guard = none) (hd : o.dst = none) (ho : o.op = .store t x y) (hx : evalE E x = some (.pointer (some (atA A (j.toNat * s))))) (hy : evalE E y = some v)
    (hL : L[i]? = some (.row A n c e s (enc xs))) (hn : n = xs.length) (hm : upd xs j x0 = some ys) (hz : TI P t zs by') (hv : v.cells = us.toArray) (hl : zs.length = us.length) (hus : us.length = s) (h1 : us.all Value.oneCell' = true) (h0 : Nat.blt 0 s = true)
    (hel : ∀ l : List α, (enc l).length = l.length * s) (hset : ∀ (l : List α) (k : Nat), k < l.length → (enc l).take (k * s) ++ us ++ (enc l).drop (k * s + us.length) = enc (l.set k x0))
    (h : ∀ w, St μ W w (L.set i (.row A n c e s (enc ys))) → wpO P ops Q K rest a w) : wpO P ops Q K (o :: rest) a w := by
  obtain ⟨h2, h3, rfl⟩ := upd_some hm
  subst hn
  have h0' : 0 < s := by simpa using h0
  have hlt : j.toNat < xs.length := by omega
  refine sStoreRow (k := j.toNat * s) (xs' := enc (xs.set j.toNat x0)) hf hs hg hd ho hx hy hL hz hv hl h1 (by omega) (by rw [hel, hus]; have := Nat.mul_le_mul_right s (show j.toNat + 1 ≤ xs.length from hlt); rw [Nat.add_mul] at this; omega) (hset xs j.toNat hlt) fun w hs => ?_
  exact h w hs
end

theorem ints_set (x : Int) (l : List Int) (k : Nat) (h : k < l.length) : (ints l).take (k * 1) ++ [Value.int .i64 x] ++ (ints l).drop (k * 1 + 1) = ints (l.set k x) := by
  rw [Nat.mul_one]
  unfold ints
  rw [List.map_set, List.set_eq_take_append_cons_drop, if_pos (by simpa using h)]
  simp
theorem ints_len1 (l : List Int) : (ints l).length = l.length * 1 := by simp [ints]
theorem ints_one (l : List Int) : ∀ u ∈ ints l, u.oneCell' = true := fun u hu => by
  obtain ⟨z, _, rfl⟩ := List.mem_map.1 hu; rfl
theorem ints_made (k : Nat) : (madeCells [Value.int .i64 0].toArray (k * [Value.int .i64 0].length)).toList = ints (List.replicate k 0) := by
  have := toList_madeCells_one (Value.int .i64 0) k
  simpa [ints] using this
theorem recs_one {α : Type} {f : α → List Value} (hf : ∀ x, ∀ u ∈ f x, u.oneCell' = true) (l : List α) : ∀ u ∈ recs f l, u.oneCell' = true := fun u hu => by
  obtain ⟨x, _, hx⟩ := List.mem_flatMap.1 hu; exact hf x u hx
theorem recs_set {α : Type} {f : α → List Value} {s : Nat} (hf : ∀ x, (f x).length = s) (x : α) (l : List α) (k : Nat) (h : k < l.length) : (recs f l).take (k * s) ++ f x ++ (recs f l).drop (k * s + (f x).length) = recs f (l.set k x) := by
  induction l generalizing k with
  | nil => simp at h
  | cons y l ih =>
    have e : recs f (y :: l) = f y ++ recs f l := rfl
    cases k with
    | zero =>
      have e2 : recs f ((y :: l).set 0 x) = f x ++ recs f l := rfl
      rw [e2, e, Nat.zero_mul, Nat.zero_add, hf, ← hf y, List.drop_left]
      simp
    | succ k =>
      have e2 : recs f ((y :: l).set (k + 1) x) = f y ++ recs f (l.set k x) := rfl
      rw [e2, e, ← ih k (by simpa using h), hf, Nat.add_mul, Nat.one_mul]
      have h1 : k * s + s = (f y).length + k * s := by rw [hf]; omega
      have h2 : k * s + s + s = (f y).length + (k * s + s) := by rw [hf]; omega
      rw [h2, h1, List.take_length_add_append, List.drop_length_add_append]
      simp [List.append_assoc]

end Go.Proofs.Ytgkgimglgjfcjaa
