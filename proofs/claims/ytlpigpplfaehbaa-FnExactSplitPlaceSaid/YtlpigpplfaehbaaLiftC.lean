/- Is a slice nothing? -/
import Derived.Test.YtlpigpplfaehbaaLiftX
namespace Go.Proofs.Ytlpigpplfaehbaa
open Go.RowKit

theorem rd_none_ints {w : World} {xs : List Int} (h : Rd w none (ints xs)) : xs = [] := by
  cases xs with
  | nil => rfl
  | cons x xs => obtain ⟨b, off, e, _⟩ := h 0 _ rfl; cases e
theorem rd_none_bools {w : World} {xs : List Bool} (h : Rd w none (bools xs)) : xs = [] := by
  cases xs with
  | nil => rfl
  | cons x xs => obtain ⟨b, off, e, _⟩ := h 0 _ rfl; cases e
theorem rd_none_recs {α : Type} {f : α → List Value} {s : Nat} (hf : ∀ x, (f x).length = s) (h0 : 0 < s) {w : World} {xs : List α} (h : Rd w none (recs f xs)) : xs = [] := by
  cases xs with
  | nil => rfl
  | cons x xs =>
    have hx : 0 < (f x).length := by rw [hf]; exact h0
    obtain ⟨b, off, e, _⟩ := h 0 ((f x)[0]'hx) (by
      have e : recs f (x :: xs) = f x ++ recs f xs := rfl
      rw [e, List.getElem?_append_left hx]; exact List.getElem?_eq_getElem hx)
    cases e

/-- the same slice, or nothing -/
def Al {α : Type} (A : Option Addr) (n c : Nat) (xs : List α) (A' : Option Addr) (n' c' : Nat) (xs' : List α) : Prop := (A' = A ∧ n' = n ∧ c' = c ∧ xs' = xs) ∨ (A' = none ∧ n' = 0 ∧ c' = 0 ∧ xs' = [])
theorem Al.rd {α : Type} {enc : List α → List Value} (he : enc [] = []) {A A' : Option Addr} {n c n' c' : Nat} {xs xs' : List α} {w : World} (h : Al A n c xs A' n' c' xs') (hr : Rd w A (enc xs)) : Rd w A' (enc xs') := by
  rcases h with ⟨rfl, rfl, rfl, rfl⟩ | ⟨rfl, rfl, rfl, rfl⟩
  · exact hr
  · rw [he]; exact Rd.nil w none
theorem Al.rdM {A A' : Option Addr} {n c n' c' : Nat} {xs xs' : List (List Int)} {w : World} (h : Al A n c xs A' n' c' xs') (hr : RdM w A xs) : RdM w A' xs' := by
  rcases h with ⟨rfl, rfl, rfl, rfl⟩ | ⟨rfl, rfl, rfl, rfl⟩
  · exact hr
  · exact RdM.nil w none
theorem St.alias {α : Type} {enc : List α → List Value} (he : enc [] = []) {μ : List Nat} {W w : World} {L : List Res} {i : Nat} {e : TypeId} {s : Nat} {A A' : Option Addr} {n c n' c' : Nat} {xs xs' : List α} (h : St μ W w L) (hi : L[i]? = some (.row A n c e s (enc xs))) (hal : Al A n c xs A' n' c' xs') : St μ W w (L.set i (.row A' n' c' e s (enc xs'))) := by
  rcases hal with ⟨rfl, rfl, rfl, rfl⟩ | ⟨rfl, rfl, rfl, rfl⟩
  · exact h.change hi ⟨rfl, rfl, rfl, Nat.le_refl _⟩ (fun _ _ _ => rfl) (h.res _ _ hi) (fun b hb => .inl hb)
  · rw [he]; exact h.change hi ⟨rfl, rfl, rfl, Nat.le_refl _⟩ (fun _ _ _ => rfl) ⟨by simp, Or.inl ⟨rfl, rfl⟩⟩ (fun b hb => by simp [Res.has, Value.ownBlock] at hb)
theorem St.aliasM {μ : List Nat} {W w : World} {L : List Res} {i : Nat} {e e2 : TypeId} {vs : List Value} {A A' : Option Addr} {n c n' c' : Nat} {xs xs' : List (List Int)} (h : St μ W w L) (hi : L[i]? = some (.mat A n c e e2 vs xs)) (hal : Al A n c xs A' n' c' xs') : ∃ vs', St μ W w (L.set i (.mat A' n' c' e e2 vs' xs')) := by
  rcases hal with ⟨rfl, rfl, rfl, rfl⟩ | ⟨rfl, rfl, rfl, rfl⟩
  · exact ⟨vs, h.change hi ⟨rfl, rfl, rfl, Nat.le_refl _⟩ (fun _ _ _ => rfl) (h.res _ _ hi) (fun b hb => .inl hb)⟩
  · exact ⟨[], h.change hi ⟨rfl, rfl, rfl, Nat.le_refl _⟩ (fun _ _ _ => rfl) ⟨⟨by simp, Or.inl ⟨rfl, rfl⟩⟩, ⟨rfl, fun i row h => by simp at h⟩, fun i j v u b h => by simp at h, fun i v b h => by simp at h⟩ (fun b hb => by simp [Res.has, Value.ownBlock] at hb)⟩

section
variable {P : Program} {W : World} {μ : List Nat} {L : List Res} {N : Nat} {E : Env} {o : Oper}
theorem eq_slice_nil {w : World} {t e : TypeId} {A : Option Addr} {n c : Nat} (ht : P.underlying t = some (.slice e)) : (Op.equal t (.slice A n c) (.slice none 0 0)).run P w = .ok A.isNone w := by
  have h : Op.equal t (.slice A n c) (.slice none 0 0) = Op.equalIn (9999 + 1) t (.slice A n c) (.slice none 0 0) := rfl
  rw [h]
  unfold Op.equalIn
  simp [underlying, ht]
  cases A <;> rfl
theorem Y_eqnil {t yt e : TypeId} {x y : Operand} {A : Option Addr} {n c : Nat} (ho : o.op = .binOp .eql t x y yt) (hx : evalE E x = some (.slice A n c)) (hy : evalE E y = some (.slice none 0 0)) (ht : P.underlying t = some (.slice e)) : Y P μ W L N E o (.bool A.isNone) := fun a w hf _ => by
  have h := eq_slice_nil (P := P) (w := w) (A := A) (n := n) (c := c) ht
  simp [execOp, ho, hf.eval hx, hf.eval hy, eqGuard, binOp, h]
end
end Go.Proofs.Ytlpigpplfaehbaa
