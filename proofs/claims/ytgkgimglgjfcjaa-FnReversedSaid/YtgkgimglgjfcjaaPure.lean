/-
  Plain words for the models: reading, writing, making; loops that count up.
-/
import Derived.Test.YtgkgimglgjfcjaaLiftX
namespace Go.Proofs.Ytgkgimglgjfcjaa

theorem wr {n : Int} (h0 : -9223372036854775808 ≤ n) (h1 : n ≤ 9223372036854775807) : IntKind.i64.wrap n = n := by
  simp [IntKind.wrap, IntKind.bits, IntKind.signed]; omega
theorem wrN {k : Nat} (h : k ≤ 67108864) : IntKind.i64.wrap ((k : Int) + 1) = ((k + 1 : Nat) : Int) := by
  rw [wr (by omega) (by omega)]; omega
theorem big_is : big = 67108864 := rfl

theorem idx_nat {α : Type} (xs : List α) (k : Nat) : idx xs (k : Int) = xs[k]? := by
  unfold idx; rw [if_pos (by omega)]; rfl
theorem idx_lt {α : Type} {xs : List α} {k : Nat} (h : k < xs.length) : idx xs (k : Int) = some xs[k] := by
  rw [idx_nat]; exact List.getElem?_eq_getElem h
theorem idx_int {α : Type} {xs : List α} {i : Int} (h0 : 0 ≤ i) (h1 : i < (xs.length : Int)) : idx xs i = some (xs[i.toNat]'(by omega)) := by
  unfold idx; rw [if_pos h0]; exact List.getElem?_eq_getElem _
theorem app_le {α : Type} {xs ys : List α} (h : xs.length + ys.length ≤ 67108864) : app xs ys = some (xs ++ ys) := by
  unfold app; rw [if_pos (by rw [big_is]; exact h)]
theorem upd_nat {α : Type} {xs : List α} {k : Nat} (x : α) (h : k < xs.length) : upd xs (k : Int) x = some (xs.set k x) := by
  unfold upd; rw [if_pos ⟨by omega, by omega⟩]; rfl
theorem upd_int {α : Type} {xs : List α} {i : Int} (x : α) (h0 : 0 ≤ i) (h : i < (xs.length : Int)) : upd xs i x = some (xs.set i.toNat x) := by
  unfold upd; rw [if_pos ⟨h0, h⟩]
theorem mk_nat {α : Type} {k : Nat} (z : α) (h : k ≤ 67108864) : mk (k : Int) z = some (List.replicate k z) := by
  unfold mk; rw [if_pos ⟨by omega, by rw [big_is]; omega⟩]; rfl
theorem mk_int {α : Type} {k : Int} (z : α) (h0 : 0 ≤ k) (h : k ≤ 67108864) : mk k z = some (List.replicate k.toNat z) := by
  unfold mk; rw [if_pos ⟨h0, by rw [big_is]; omega⟩]
theorem dT {p : Prop} [Decidable p] (h : p) : decide p = true := decide_eq_true h
theorem dF {p : Prop} [Decidable p] (h : ¬ p) : decide p = false := decide_eq_false h
theorem bT {α : Type} {b : Bool} {x y : α} (h : b = true) : (bif b then x else y) = x := by rw [h]; rfl
theorem bF {α : Type} {b : Bool} {x y : α} (h : b = false) : (bif b then x else y) = y := by rw [h]; rfl
theorem bdT {α : Type} {p : Prop} [Decidable p] {x y : α} (h : p) : (bif decide p then x else y) = x := bT (decide_eq_true h)
theorem bdF {α : Type} {p : Prop} [Decidable p] {x y : α} (h : ¬ p) : (bif decide p then x else y) = y := bF (decide_eq_false h)
theorem bind_of {α β : Type} {o : Option α} {x : α} {f : α → Option β} (h : o = some x) : o.bind f = f x := by rw [h]; rfl
theorem neT {a b : Int} (h : a ≠ b) : (a != b) = true := by simp [h]
theorem neF {a b : Int} (h : a = b) : (a != b) = false := by simp [h]

/-- a loop that counts up to len, with a state -/
theorem for_ind {S T : Type} (L : Nat → S → Int → Option T) (len : Nat) (I : Nat → S → Prop) (R : Option T → Prop)
    (hstep : ∀ n k s, k < len → I k s → (∃ s', L (n + 1) s (k : Int) = L n s' ((k + 1 : Nat) : Int) ∧ I (k + 1) s') ∨ R (L (n + 1) s (k : Int)))
    (hend : ∀ n s, I len s → R (L (n + 1) s (len : Int))) :
    ∀ (d k : Nat) (s : S) (n : Nat), k + d = len → I k s → d < n → R (L n s (k : Int)) := by
  intro d
  induction d with
  | zero =>
    intro k s n hk hI hn
    obtain rfl : k = len := by omega
    cases n with
    | zero => omega
    | succ n => exact hend n s hI
  | succ d ih =>
    intro k s n hk hI hn
    cases n with
    | zero => omega
    | succ n =>
      rcases hstep n k s (by omega) hI with ⟨s', he, hI'⟩ | hr
      · rw [he]; exact ih (k + 1) s' n (by omega) hI' (by omega)
      · exact hr
/-- from the start -/
theorem for0 {S T : Type} {L : Nat → S → Int → Option T} {len : Nat} (I : Nat → S → Prop) {R : Option T → Prop}
    (hstep : ∀ n k s, k < len → I k s → (∃ s', L (n + 1) s (k : Int) = L n s' ((k + 1 : Nat) : Int) ∧ I (k + 1) s') ∨ R (L (n + 1) s (k : Int)))
    (hend : ∀ n s, I len s → R (L (n + 1) s (len : Int))) {s : S} {n : Nat} (h0 : I 0 s) (hn : len < n) : R (L n s 0) :=
  for_ind L len I R hstep hend len 0 s n (by omega) h0 hn

/-- a list filled cell by cell is the map -/
theorem fill_map {α β : Type} {ps : List α} {f : α → β} {ys : List β} (h : ys.length = ps.length) (he : ∀ i, i < ps.length → ys[i]? = (ps[i]?).map f) : ys = ps.map f := by
  apply List.ext_getElem?; intro i
  by_cases hi : i < ps.length
  · rw [he i hi, List.getElem?_map]
  · rw [List.getElem?_eq_none (by omega), List.getElem?_eq_none (by rw [List.length_map]; omega)]
theorem set_keep {α : Type} {xs : List α} {k : Nat} {x : α} {i : Nat} (h : i ≠ k) : (xs.set k x)[i]? = xs[i]? := by
  rw [List.getElem?_set_ne (Ne.symm h)]
theorem set_here {α : Type} {xs : List α} {k : Nat} {x : α} (h : k < xs.length) : (xs.set k x)[k]? = some x := by
  rw [List.getElem?_set_self h]

/-- to…S -/
theorem fill_loop {α β : Type} {ps : List α} {f : α → β} {L : Nat → List β → Int → Option (List β)}
    (hL : ∀ n xs k x, k < ps.length → ps[k]? = some x → xs.length = ps.length → L (n + 1) xs (k : Int) = L n (xs.set k (f x)) ((k + 1 : Nat) : Int))
    (hE : ∀ n xs, L (n + 1) xs (ps.length : Int) = some xs) {xs : List β} (hx : xs.length = ps.length) {n : Nat} (hn : ps.length < n) : L n xs 0 = some (ps.map f) := by
  refine for0 (L := L) (len := ps.length) (fun k ys => ys.length = ps.length ∧ ∀ i, i < k → ys[i]? = (ps[i]?).map f) (R := fun r => r = some (ps.map f)) ?_ ?_ ⟨hx, by intro i hi; omega⟩ hn
  · intro n k ys hk ⟨hl, hi⟩
    have hx : ps[k]? = some ps[k] := List.getElem?_eq_getElem hk
    refine .inl ⟨_, hL n ys k ps[k] hk hx hl, by rw [List.length_set]; exact hl, ?_⟩
    intro i hik
    by_cases h : i = k
    · subst h; rw [set_here (by omega), hx]; rfl
    · rw [set_keep h]; exact hi i (by omega)
  · intro n ys ⟨hl, hi⟩
    rw [hE n ys, fill_map hl hi]

/-- eq…S of the same -/
theorem same_loop {R : Type} {len : Nat} {L : Nat → Int → Option (Sum R Unit)}
    (hL : ∀ n k, k < len → L (n + 1) (k : Int) = L n ((k + 1 : Nat) : Int)) (hE : ∀ n, L (n + 1) (len : Int) = some (.inr ())) {n : Nat} (hn : len < n) : L n 0 = some (.inr ()) :=
  for0 (L := fun n (_ : Unit) i => L n i) (len := len) (fun _ _ => True) (R := fun r => r = some (.inr ())) (s := ()) (fun n k _ hk _ => .inl ⟨(), hL n k hk, trivial⟩) (fun n _ _ => hE n) trivial hn

/-- is there one? : a loop that leaves at the first that fails -/
theorem all_loop {α R : Type} {ps : List α} {g : α → Bool} {r : R} {L : Nat → Int → Option (Sum R Unit)}
    (hL : ∀ n k x, k < ps.length → ps[k]? = some x → L (n + 1) (k : Int) = bif g x then L n ((k + 1 : Nat) : Int) else some (.inl r)) (hE : ∀ n, L (n + 1) (ps.length : Int) = some (.inr ())) {n : Nat} (hn : ps.length < n) :
    L n 0 = some (bif ps.all g then .inr () else .inl r) := by
  refine for0 (L := fun n (_ : Unit) i => L n i) (len := ps.length) (fun k _ => ∀ i x, i < k → ps[i]? = some x → g x = true) (R := fun q => q = some (bif ps.all g then .inr () else .inl r)) (s := ()) ?_ ?_ (by intro i x hi; omega) hn
  · intro n k _ hk hI
    have hx : ps[k]? = some ps[k] := List.getElem?_eq_getElem hk
    cases hg : g ps[k] with
    | true =>
      refine .inl ⟨(), by rw [hL n k _ hk hx, hg]; rfl, ?_⟩
      intro i x hi hix
      by_cases h : i = k
      · subst h; rw [hx] at hix; cases hix; exact hg
      · exact hI i x (by omega) hix
    | false =>
      refine .inr ?_
      rw [hL n k _ hk hx, hg]
      rw [show ps.all g = false from by rw [List.all_eq_false]; exact ⟨ps[k], List.getElem_mem hk, by rw [hg]; decide⟩]; rfl
  · intro n _ hI
    rw [hE n, show ps.all g = true from by
      rw [List.all_eq_true]; intro x hx
      obtain ⟨i, hi, he⟩ := List.getElem_of_mem hx
      exact hI i x hi (by rw [List.getElem?_eq_getElem hi, he])]; rfl

/-- a loop that appends to a list, or not -/
theorem grow_loop {α β : Type} {ps : List α} {g : α → List β} {L : Nat → List β → Int → Option (List β)} (hg : ∀ x, (g x).length ≤ 1)
    (hL : ∀ n xs k x, k < ps.length → ps[k]? = some x → xs.length ≤ k → L (n + 1) xs (k : Int) = L n (xs ++ g x) ((k + 1 : Nat) : Int))
    (hE : ∀ n xs, L (n + 1) xs (ps.length : Int) = some xs) {n : Nat} (hn : ps.length < n) : L n [] 0 = some (ps.flatMap g) := by
  refine for0 (L := L) (len := ps.length) (fun k ys => ys.length ≤ k ∧ ys = (ps.take k).flatMap g) (R := fun r => r = some (ps.flatMap g)) ?_ ?_ ⟨by simp, by simp⟩ hn
  · intro n k ys hk ⟨hl, hi⟩
    have hx : ps[k]? = some ps[k] := List.getElem?_eq_getElem hk
    refine .inl ⟨_, hL n ys k ps[k] hk hx hl, ?_, ?_⟩
    · have := hg ps[k]; rw [List.length_append]; omega
    · rw [List.take_add_one, hx, List.flatMap_append, hi]; simp
  · intro n ys ⟨_, hi⟩
    rw [hE n ys, hi, List.take_length]

def findR {R : Type} (v : Nat → R) (o : Option Nat) : Sum R Unit := match o with | some k => .inl (v k) | none => .inr ()
def firstAt (o : Option Nat) : Int := match o with | some k => (k : Int) | none => -1
theorem any_not {α : Type} {g : α → Bool} (ps : List α) : (ps.any fun p => !g p) = !ps.all g := by
  induction ps with
  | nil => rfl
  | cons x ps ih => rw [List.any_cons, List.all_cons, ih]; cases g x <;> rfl
theorem flatMap_one {α β : Type} {f : α → β} (l : List α) : (l.flatMap fun x => [f x]) = l.map f := by
  induction l with
  | nil => rfl
  | cons x l ih => rw [List.flatMap_cons, ih]; rfl

/-- the first that fits -/
theorem find_loop {α R : Type} {ps : List α} {h : α → Bool} {v : Nat → R} {L : Nat → Int → Option (Sum R Unit)}
    (hL : ∀ n k x, k < ps.length → ps[k]? = some x → L (n + 1) (k : Int) = bif h x then some (.inl (v k)) else L n ((k + 1 : Nat) : Int)) (hE : ∀ n, L (n + 1) (ps.length : Int) = some (.inr ())) {n : Nat} (hn : ps.length < n) :
    L n 0 = some (findR v (ps.findIdx? h)) := by
  refine for0 (L := fun n (_ : Unit) i => L n i) (len := ps.length) (fun k _ => ∀ i (hi : i < ps.length), i < k → h ps[i] = false) (R := fun q => q = some (findR v (ps.findIdx? h))) (s := ()) ?_ ?_ (by intro i _ hi; omega) hn
  · intro n k _ hk hI
    have hx : ps[k]? = some ps[k] := List.getElem?_eq_getElem hk
    cases hg : h ps[k] with
    | false =>
      refine .inl ⟨(), by rw [hL n k _ hk hx, hg]; rfl, ?_⟩
      intro i hi hik
      by_cases e : i = k
      · subst e; exact hg
      · exact hI i hi (by omega)
    | true =>
      refine .inr ?_
      rw [hL n k _ hk hx, hg]
      rw [show ps.findIdx? h = some k from List.findIdx?_eq_some_iff_getElem.2 ⟨hk, hg, fun j hj => by rw [hI j (by omega) hj]; decide⟩]; rfl
  · intro n _ hI
    rw [hE n, show ps.findIdx? h = none from List.findIdx?_eq_none_iff.2 (fun x hx => by
      obtain ⟨i, hi, rfl⟩ := List.getElem_of_mem hx
      exact hI i hi hi)]; rfl
theorem find_any {α : Type} {ps : List α} {h : α → Bool} : decide ((0 : Int) ≤ firstAt (ps.findIdx? h)) = ps.any h := by
  cases hf : ps.findIdx? h with
  | none =>
    have := List.findIdx?_eq_none_iff.1 hf
    rw [show ps.any h = false from by rw [List.any_eq_false]; intro x hx; rw [this x hx]; decide]; rfl
  | some k =>
    obtain ⟨hk, hp, _⟩ := List.findIdx?_eq_some_iff_getElem.1 hf
    rw [show ps.any h = true from List.any_eq_true.2 ⟨_, List.getElem_mem hk, hp⟩]
    exact decide_eq_true (by simp only [firstAt]; omega)

/-- a table of len entries -/
theorem tab_loop {β : Type} {len : Nat} {f : Nat → β} {L : Nat → List β → Int → Option (List β)}
    (hL : ∀ n xs k, k < len → xs.length = k → L (n + 1) xs (k : Int) = L n (xs ++ [f k]) ((k + 1 : Nat) : Int))
    (hE : ∀ n xs, xs.length = len → L (n + 1) xs (len : Int) = some xs) {n : Nat} (hn : len < n) : L n [] 0 = some ((List.range len).map f) := by
  refine for0 (L := L) (len := len) (fun k ys => ys = (List.range k).map f) (R := fun r => r = some ((List.range len).map f)) ?_ ?_ (by simp) hn
  · rintro n k ys hk rfl
    refine .inl ⟨_, hL n _ k hk (by simp), ?_⟩
    rw [List.range_succ, List.map_append]; rfl
  · rintro n ys rfl
    rw [hE n _ (by simp)]

theorem getD_of {xs : List Int} {i : Nat} (h : i < xs.length) : xs[i]? = some (xs.getD i 0) := by
  rw [List.getD_eq_getElem?_getD, List.getElem?_eq_getElem h]; rfl
theorem cond_and {a b : Bool} : (bif a then some b else some false) = some (a && b) := by cases a <;> rfl
theorem cond_or {a b : Bool} : (bif a then some true else some b) = some (a || b) := by cases a <;> rfl
theorem condn {α : Type} {b : Bool} {x y : α} : (bif !b then x else y) = bif b then y else x := by cases b <;> rfl

end Go.Proofs.Ytgkgimglgjfcjaa
