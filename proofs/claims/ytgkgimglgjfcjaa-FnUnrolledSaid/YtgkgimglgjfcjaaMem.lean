/-
  Plain words on memory: a slice of numbers, of records of numbers, of slices, as it reads in a world; kept over what leaves old blocks alone.
-/
import Derived.WalkKit
import Derived.WalkSpells
import Derived.WalkLawsBesides
import Derived.Deep.Draws
import Derived.Deep.OwnRows
namespace Go.Proofs.Ytgkgimglgjfcjaa
open Go.RowKit

/-- a slice of n numbers at address A reads as f -/
def RI (w : World) (A : Option Addr) (n : Nat) (f : Nat → Int) : Prop :=
  ∀ i, i < n → ∃ b off, A = some ⟨b, off, none⟩ ∧ b < w.heap.size ∧ w.cell? ⟨b, off + i, none⟩ = some (.int .i64 (f i))

/-- a slice of n records of s numbers at address A reads as f -/
def RR (w : World) (s : Nat) (A : Option Addr) (n : Nat) (f : Nat → Nat → Int) : Prop :=
  ∀ i, i < n → ∃ b off, A = some ⟨b, off, none⟩ ∧ b < w.heap.size ∧ ∀ j, j < s → w.cell? ⟨b, off + i * s + j, none⟩ = some (.int .i64 (f i j))

theorem bcell {W w1 : World} (hb : Below W.heap.size W w1) : (∀ b o, b < W.heap.size → w1.cell? ⟨b, o, none⟩ = W.cell? ⟨b, o, none⟩) ∧ (∀ b o, b < W.heap.size → w1.frozen? ⟨b, o, none⟩ = W.frozen? ⟨b, o, none⟩) :=
  ⟨fun b o h => hb.cell (p := ⟨b, o, none⟩) h, fun b o h => hb.frozen (p := ⟨b, o, none⟩) h⟩

theorem RI.below {B : Nat} {w w' : World} {A : Option Addr} {n : Nat} {f : Nat → Int} (h : RI w A n f) (hb : Below B w w') (hB : w.heap.size ≤ B) : RI w' A n f := fun i hi => by
  obtain ⟨b, off, e, hl, hc⟩ := h i hi
  exact ⟨b, off, e, Nat.lt_of_lt_of_le hl hb.size, (hb.cell (p := ⟨b, off + i, none⟩) (Nat.lt_of_lt_of_le hl hB)).trans hc⟩

theorem RR.below {B : Nat} {w w' : World} {s : Nat} {A : Option Addr} {n : Nat} {f : Nat → Nat → Int} (h : RR w s A n f) (hb : Below B w w') (hB : w.heap.size ≤ B) : RR w' s A n f := fun i hi => by
  obtain ⟨b, off, e, hl, hc⟩ := h i hi
  exact ⟨b, off, e, Nat.lt_of_lt_of_le hl hb.size, fun j hj => (hb.cell (p := ⟨b, off + i * s + j, none⟩) (Nat.lt_of_lt_of_le hl hB)).trans (hc j hj)⟩

/-- what a size check leaves -/
def sz1 (left n : Int) : Int := if left < n then -1 else left - n

theorem ret_int {k : IntKind} {a b : Int} (h : a = b) : Ending.returned (.int k a) = .returned (.int k b) := by rw [h]
theorem ret_bool {a b : Bool} (h : a = b) : Ending.returned (.bool a) = .returned (.bool b) := by rw [h]

/-- make of n elements with room for c, elements of any number of cells -/
theorem run_make_rowN {P : Program} (t e : TypeId) (i : TypeInfo) (z : Value) (ht : P.underlying t = some (.slice e)) (hi : P.info? e = some i) (hz : i.zero = some z)
    (kl kc : IntKind) (n c : Nat) (hnc : n ≤ c) (hbytes : i.bytes * c ≤ 281474976710656) (h63 : c ≤ 9223372036854775807) (w : World) :
    (Instr.makeSlice t (.int kl (n : Int)) (.int kc (c : Int))).run P w = .ok (.slice (some ⟨w.heap.size, 0, none⟩) n c) (w.alloc (.cells (madeCells z.cells (c * i.size)) e)) := by
  have hb : (i.bytes : Int) * (c : Int) ≤ 281474976710656 := by
    have h : ((i.bytes * c : Nat) : Int) ≤ 281474976710656 := by omega
    rwa [Int.natCast_mul] at h
  have hr := run_make (P := P) w t e i z ht hi hz kl kc n c (by omega) (by omega) hb (by omega)
  simp only [Int.toNat_natCast] at hr
  exact hr

/-- the cells of a row of records of s numbers of which the first k are laid, the others 0 -/
def fillF (s k : Nat) (f : Nat → Nat → Int) (q : Nat) : Value := .int .i64 (if q < s * k then f (q / s) (q % s) else 0)

theorem made_ints (w : World) (cs : Array Value) (m : Nat) (t : TypeId) (hm : 0 < cs.size) (hz : ∀ i, i < cs.size → cs[i]? = some (.int .i64 0)) (s : Nat) (f : Nat → Nat → Int) :
    (w.alloc (.cells (madeCells cs m) t)).rowIs w.heap.size t m (fillF s 0 f) := by
  have h := World.rowIs_alloc w (madeCells cs m) t (fillF s 0 f) (fun i hi => by
    have hi' : i < m := by simpa [madeCells] using hi
    have hq := hz (i % cs.size) (Nat.mod_lt _ hm)
    rw [Array.getElem?_eq_getElem (Nat.mod_lt _ hm)] at hq
    simp only [Option.some.injEq] at hq
    simp [madeCells, hi', fillF, Nat.mod_lt _ hm, hq])
  simpa [madeCells] using h

theorem fill1 {w : World} {g t n k : Nat} {f : Nat → Nat → Int} (h : w.rowIs g t n (fillF 1 k f)) :
    (w.setCell ⟨g, k, none⟩ (.int .i64 (f k 0))).rowIs g t n (fillF 1 (k + 1) f) := by
  refine (h.set _ _).congr (fun q _ => ?_)
  unfold fillF
  by_cases h0 : q = k
  · rw [if_pos h0, if_pos (by omega), show q / 1 = k by omega, show q % 1 = 0 by omega]
  · rw [if_neg h0]
    by_cases h2 : q < 1 * k
    · rw [if_pos h2, if_pos (by omega)]
    · rw [if_neg h2, if_neg (by omega)]

theorem fill2 {w : World} {g t n k : Nat} {f : Nat → Nat → Int} (h : w.rowIs g t n (fillF 2 k f)) :
    ((w.setCell ⟨g, k * 2, none⟩ (.int .i64 (f k 0))).setCell ⟨g, k * 2 + 1, none⟩ (.int .i64 (f k 1))).rowIs g t n (fillF 2 (k + 1) f) := by
  refine ((h.set _ _).set _ _).congr (fun q _ => ?_)
  unfold fillF
  by_cases h1 : q = k * 2 + 1
  · rw [if_pos h1, if_pos (by omega), show q / 2 = k by omega, show q % 2 = 1 by omega]
  · by_cases h0 : q = k * 2
    · rw [if_neg h1, if_pos h0, if_pos (by omega), show q / 2 = k by omega, show q % 2 = 0 by omega]
    · rw [if_neg h1, if_neg h0]
      by_cases h2 : q < 2 * k
      · rw [if_pos h2, if_pos (by omega)]
      · rw [if_neg h2, if_neg (by omega)]

theorem fill3 {w : World} {g t n k : Nat} {f : Nat → Nat → Int} (h : w.rowIs g t n (fillF 3 k f)) :
    (((w.setCell ⟨g, k * 3, none⟩ (.int .i64 (f k 0))).setCell ⟨g, k * 3 + 1, none⟩ (.int .i64 (f k 1))).setCell ⟨g, k * 3 + 2, none⟩ (.int .i64 (f k 2))).rowIs g t n (fillF 3 (k + 1) f) := by
  refine (((h.set _ _).set _ _).set _ _).congr (fun q _ => ?_)
  unfold fillF
  by_cases h2 : q = k * 3 + 2
  · rw [if_pos h2, if_pos (by omega), show q / 3 = k by omega, show q % 3 = 2 by omega]
  · by_cases h1 : q = k * 3 + 1
    · rw [if_neg h2, if_pos h1, if_pos (by omega), show q / 3 = k by omega, show q % 3 = 1 by omega]
    · by_cases h0 : q = k * 3
      · rw [if_neg h2, if_neg h1, if_pos h0, if_pos (by omega), show q / 3 = k by omega, show q % 3 = 0 by omega]
      · rw [if_neg h2, if_neg h1, if_neg h0]
        by_cases h3 : q < 3 * k
        · rw [if_pos h3, if_pos (by omega)]
        · rw [if_neg h3, if_neg (by omega)]

theorem fill4 {w : World} {g t n k : Nat} {f : Nat → Nat → Int} (h : w.rowIs g t n (fillF 4 k f)) :
    ((((w.setCell ⟨g, k * 4, none⟩ (.int .i64 (f k 0))).setCell ⟨g, k * 4 + 1, none⟩ (.int .i64 (f k 1))).setCell ⟨g, k * 4 + 2, none⟩ (.int .i64 (f k 2))).setCell ⟨g, k * 4 + 3, none⟩ (.int .i64 (f k 3))).rowIs g t n (fillF 4 (k + 1) f) := by
  refine ((((h.set _ _).set _ _).set _ _).set _ _).congr (fun q _ => ?_)
  unfold fillF
  by_cases h3 : q = k * 4 + 3
  · rw [if_pos h3, if_pos (by omega), show q / 4 = k by omega, show q % 4 = 3 by omega]
  · by_cases h2 : q = k * 4 + 2
    · rw [if_neg h3, if_pos h2, if_pos (by omega), show q / 4 = k by omega, show q % 4 = 2 by omega]
    · by_cases h1 : q = k * 4 + 1
      · rw [if_neg h3, if_neg h2, if_pos h1, if_pos (by omega), show q / 4 = k by omega, show q % 4 = 1 by omega]
      · by_cases h0 : q = k * 4
        · rw [if_neg h3, if_neg h2, if_neg h1, if_pos h0, if_pos (by omega), show q / 4 = k by omega, show q % 4 = 0 by omega]
        · rw [if_neg h3, if_neg h2, if_neg h1, if_neg h0]
          by_cases h4 : q < 4 * k
          · rw [if_pos h4, if_pos (by omega)]
          · rw [if_neg h4, if_neg (by omega)]

/-- what lies at A, if anything is there, is memory from block lo on that may be written -/
def Fresh (w : World) (lo : Nat) (A : Option Addr) (n : Nat) : Prop :=
  0 < n → ∃ b off, A = some ⟨b, off, none⟩ ∧ lo ≤ b ∧ ∀ o, w.frozen? ⟨b, o, none⟩ = false

theorem RR.of_row {w : World} {g t n s : Nat} {f : Nat → Nat → Int} (h : w.rowIs g t (n * s) (fillF s n f)) : RR w s (some ⟨g, 0, none⟩) n f := fun i hi => by
  refine ⟨g, 0, rfl, h.lt, fun j hj => ?_⟩
  have hq : i * s + j < n * s := by
    have : (i + 1) * s ≤ n * s := Nat.mul_le_mul_right _ hi
    rw [Nat.add_mul] at this; omega
  rw [Nat.zero_add, h.cell hq]
  unfold fillF
  rw [if_pos (by rw [Nat.mul_comm s n]; exact hq), Nat.mul_comm i s, Nat.mul_add_div (by omega), Nat.mul_add_mod, Nat.mod_eq_of_lt hj, Nat.div_eq_of_lt hj, Nat.add_zero]

theorem Fresh.of_row {w : World} {lo g t m n : Nat} {h' : Nat → Value} (h : w.rowIs g t m h') (hg : lo ≤ g) : Fresh w lo (some ⟨g, 0, none⟩) n := fun _ => ⟨g, 0, rfl, hg, fun o => h.frozen o⟩

theorem or2 (a b : Prop) [Decidable a] [Decidable b] : a ∨ (decide a = false ∧ b) ∨ (decide a = false ∧ decide b = false) := by
  by_cases h1 : a <;> by_cases h2 : b <;> simp [h1, h2]
theorem or3 (a b c : Prop) [Decidable a] [Decidable b] [Decidable c] : a ∨ (decide a = false ∧ b) ∨ (decide a = false ∧ decide b = false ∧ c) ∨ (decide a = false ∧ decide b = false ∧ decide c = false) := by
  by_cases h1 : a <;> by_cases h2 : b <;> by_cases h3 : c <;> simp [h1, h2, h3]
theorem below_N {B : Nat} {a w : World} (h : Below B a w) (n : Nat) : Below B a (w.drewN n) := ⟨h.os, h.tape, h.output, h.size, h.block⟩

/-- a function with a body is entered -/
theorem enters_by {P : Program} {f : FuncId} {fn : Func} {c : Code} (hf : P.funcs[f]? = some fn) (hname : (fn.name == "runtime.NumGoroutine") = false) (hb : fn.body = some c) : ∀ (args : Array Value) (w : World), (callFunc f args).run P w = .ok (.enter f args) w := by
  intro args w
  have h1 : fn.name ≠ "runtime.NumGoroutine" := by simpa using hname
  simp [callFunc, hf, h1, hb, mark]

open Classical in
/-- is there an index below n at which p answers yes -/
noncomputable def anyB (p : Nat → Bool) (n : Nat) : Bool := decide (∃ i, i < n ∧ p i = true)
theorem anyB_yes {p : Nat → Bool} {n i : Nat} (h : i < n) (hp : p i = true) : anyB p n = true := by unfold anyB; simp; exact ⟨i, h, hp⟩
theorem anyB_no {p : Nat → Bool} {n : Nat} (h : ∀ i, i < n → p i = false) : anyB p n = false := by
  unfold anyB; simp; exact fun i hi => by simp [h i hi]
theorem anyB_is_true {p : Nat → Bool} {n : Nat} (h : anyB p n = true) : ∃ i, i < n ∧ p i = true := by unfold anyB at h; simpa using h
theorem anyB_is_false {p : Nat → Bool} {n : Nat} (h : anyB p n = false) : ∀ i, i < n → p i = false := by
  unfold anyB at h
  simpa using h

def IdxPost (p : Nat → Bool) (n : Nat) (W : World) (e : Ending) (w' : World) : Prop :=
  ∃ z : Int, e = .returned (.int .i64 z) ∧ ((0 ≤ z ∧ anyB p n = true) ∨ (z = -1 ∧ anyB p n = false)) ∧ Below W.heap.size W w'

/-- the world as it was, but for draws -/
def Drew (w w' : World) : Prop := ∃ m, w' = w.drewN m
theorem Drew.refl (w : World) : Drew w w := ⟨0, rfl⟩
theorem Drew.step {w w' : World} (h : Drew w w') (n : Nat) : Drew w (w'.drewN n) := by
  obtain ⟨m, rfl⟩ := h; exact ⟨m + n, by rw [World.drewN_drewN]⟩
theorem Drew.trans {a b c : World} (h : Drew a b) (k : Drew b c) : Drew a c := by
  obtain ⟨m, rfl⟩ := k; exact h.step m
theorem Drew.below {B : Nat} {w w' : World} (h : Drew w w') : Below B w w' := by
  obtain ⟨m, rfl⟩ := h; exact below_N (Below.refl _ _) _
theorem quietD {P : Program} {f : FuncId} {args : Array Value} {w : World} {n : Nat} {v : Value}
    (h : Calls P f args (w.drewN n) fun e w' => e = .returned v ∧ Drew (w.drewN n) w') : Calls P f args (w.drewN n) fun e w'' => e = .returned v ∧ ∃ m, w'' = w.drewN m :=
  h.mono fun _ _ ⟨he, m, hm⟩ => ⟨he, n + m, by rw [hm, World.drewN_drewN]⟩
theorem quietS {P : Program} {f : FuncId} {args : Array Value} {w : World} {n : Nat} {v : Value}
    (h : Calls P f args (w.drewN n) fun e w' => e = .returned v ∧ w.drewN n = w') : Calls P f args (w.drewN n) fun e w'' => e = .returned v ∧ ∃ m, w'' = w.drewN m :=
  h.mono fun _ _ ⟨he, hm⟩ => ⟨he, n, hm.symm⟩

/-! three new blocks, two new blocks, one: what their cells hold -/
section
variable (W : World) (a b c : Array Value) (s t u : TypeId) (i : Nat)
theorem c1a : (W.alloc (.cells a s)).cell? ⟨W.heap.size, i, none⟩ = a[i]? := World.cell?_alloc_new _ _ _ _
theorem c2a : ((W.alloc (.cells a s)).alloc (.cells b t)).cell? ⟨W.heap.size, i, none⟩ = a[i]? :=
  (World.cell?_alloc_lt (W.alloc (.cells a s)) (.cells b t) ⟨W.heap.size, i, none⟩ (by simp)).trans (c1a W a s i)
theorem c2b : ((W.alloc (.cells a s)).alloc (.cells b t)).cell? ⟨W.heap.size + 1, i, none⟩ = b[i]? := by
  have := c1a (W.alloc (.cells a s)) b t i
  rwa [World.size_alloc] at this
theorem c3a : (((W.alloc (.cells a s)).alloc (.cells b t)).alloc (.cells c u)).cell? ⟨W.heap.size, i, none⟩ = a[i]? :=
  (World.cell?_alloc_lt ((W.alloc (.cells a s)).alloc (.cells b t)) (.cells c u) ⟨W.heap.size, i, none⟩ (by simp; omega)).trans (c2a W a b s t i)
theorem c3b : (((W.alloc (.cells a s)).alloc (.cells b t)).alloc (.cells c u)).cell? ⟨W.heap.size + 1, i, none⟩ = b[i]? :=
  (World.cell?_alloc_lt ((W.alloc (.cells a s)).alloc (.cells b t)) (.cells c u) ⟨W.heap.size + 1, i, none⟩ (by simp)).trans (c2b W a b s t i)
theorem c3c : (((W.alloc (.cells a s)).alloc (.cells b t)).alloc (.cells c u)).cell? ⟨W.heap.size + 1 + 1, i, none⟩ = c[i]? := by
  have := c1a ((W.alloc (.cells a s)).alloc (.cells b t)) c u i
  rwa [World.size_alloc, World.size_alloc] at this
theorem f1a : (W.alloc (.cells a s)).frozen? ⟨W.heap.size, i, none⟩ = false := by simp [go_sem]
theorem f3b : (((W.alloc (.cells a s)).alloc (.cells b t)).alloc (.cells c u)).frozen? ⟨W.heap.size + 1, i, none⟩ = false := by simp [go_sem]
theorem f3c : (((W.alloc (.cells a s)).alloc (.cells b t)).alloc (.cells c u)).frozen? ⟨W.heap.size + 1 + 1, i, none⟩ = false := by simp [go_sem]
end

theorem RI.of_row {w : World} {g t n : Nat} {f : Nat → Int} (h : w.rowIs g t n (fun q => .int .i64 (f q))) : RI w (some ⟨g, 0, none⟩) n f := fun i hi =>
  ⟨g, 0, rfl, h.lt, by rw [Nat.zero_add]; exact h.cell hi⟩

theorem RI.drewN {w : World} {A : Option Addr} {n : Nat} {f : Nat → Int} (h : RI w A n f) (k : Nat) : RI (w.drewN k) A n f := h

theorem RI.congr {w : World} {A : Option Addr} {n : Nat} {f g : Nat → Int} (h : RI w A n f) (e : ∀ i, i < n → f i = g i) : RI w A n g := fun i hi => by
  obtain ⟨b, off, h1, h2, h3⟩ := h i hi
  exact ⟨b, off, h1, h2, by rw [h3, e i hi]⟩

/-- a slice of n slices of numbers, the i-th of L i numbers, reads as f -/
def RM (w : World) (A : Option Addr) (n : Nat) (L : Nat → Nat) (f : Nat → Nat → Int) : Prop :=
  ∀ i, i < n → ∃ b off R c, A = some ⟨b, off, none⟩ ∧ b < w.heap.size ∧ w.cell? ⟨b, off + i, none⟩ = some (.slice R (L i) c) ∧ RI w R (L i) (f i)

theorem RM.below {B : Nat} {w w' : World} {A : Option Addr} {n : Nat} {L : Nat → Nat} {f : Nat → Nat → Int} (h : RM w A n L f) (hb : Below B w w') (hB : w.heap.size ≤ B) : RM w' A n L f := fun i hi => by
  obtain ⟨b, off, R, c, e, hl, hc, hr⟩ := h i hi
  exact ⟨b, off, R, c, e, Nat.lt_of_lt_of_le hl hb.size, (hb.cell (p := ⟨b, off + i, none⟩) (Nat.lt_of_lt_of_le hl hB)).trans hc, hr.below hb hB⟩

theorem RM.drewN {w : World} {A : Option Addr} {n : Nat} {L : Nat → Nat} {f : Nat → Nat → Int} (h : RM w A n L f) (k : Nat) : RM (w.drewN k) A n L f := h

/-- the sum of the first n -/
def sumL (L : Nat → Nat) : Nat → Nat
  | 0 => 0
  | n + 1 => sumL L n + L n
theorem sumL_le {L : Nat → Nat} {i n : Nat} (h : i < n) : L i ≤ sumL L n := by
  induction n with
  | zero => omega
  | succ n ih =>
    unfold sumL
    by_cases e : i = n
    · subst e; omega
    · have := ih (by omega); omega
theorem sumL_mono {L : Nat → Nat} {k n : Nat} (h : k ≤ n) : sumL L k ≤ sumL L n := by
  induction n with
  | zero => obtain rfl : k = 0 := by omega
            exact Nat.le_refl _
  | succ n ih =>
    by_cases e : k = n + 1
    · subst e; exact Nat.le_refl _
    · have := ih (by omega); show sumL L k ≤ sumL L n + L n; omega

/-- a slice of n slices of slices of numbers -/
def RC (w : World) (A : Option Addr) (n : Nat) (N : Nat → Nat) (L : Nat → Nat → Nat) (f : Nat → Nat → Nat → Int) : Prop :=
  ∀ i, i < n → ∃ b off R c, A = some ⟨b, off, none⟩ ∧ b < w.heap.size ∧ w.cell? ⟨b, off + i, none⟩ = some (.slice R (N i) c) ∧ RM w R (N i) (L i) (f i)

theorem RC.below {B : Nat} {w w' : World} {A : Option Addr} {n : Nat} {N : Nat → Nat} {L : Nat → Nat → Nat} {f : Nat → Nat → Nat → Int} (h : RC w A n N L f) (hb : Below B w w') (hB : w.heap.size ≤ B) : RC w' A n N L f := fun i hi => by
  obtain ⟨b, off, R, c, e, hl, hc, hr⟩ := h i hi
  exact ⟨b, off, R, c, e, Nat.lt_of_lt_of_le hl hb.size, (hb.cell (p := ⟨b, off + i, none⟩) (Nat.lt_of_lt_of_le hl hB)).trans hc, hr.below hb hB⟩

/-- how much a slice of slices of slices counts -/
def cnt3 (n : Nat) (N : Nat → Nat) (L : Nat → Nat → Nat) : Nat := n + sumL (fun i => N i + sumL (L i) (N i)) n

end Go.Proofs.Ytgkgimglgjfcjaa
