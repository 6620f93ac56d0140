/- The reference and the program answer alike. -/
import Derived.Test.YthbcakdjdbfepaaFreeSlackSmall
namespace Go.Proofs.Ythbcakdjdbfepaa

def zer (g : GEventGraph) : List Int := List.replicate (max 0 (min g.Events 10)).toNat 0
theorem zer_len (g : GEventGraph) : ((zer g).length : Int) = max 0 (min g.Events 10) := by unfold zer; rw [List.length_replicate]; omega
theorem specOne_is {F : Nat} {g : GEventGraph} {e : Int} : spec_l21One F g e 0 = some (zer g) := by
  have hz := zer_len g
  unfold spec_l21One
  rw [show max 0 (min 10 g.Events) = max 0 (min g.Events 10) by omega, mk_int _ (by omega) (by omega)]
  show (spec_l01In F e 0 (IntKind.i64.wrap (((zer g).length : Int) - 1))).bind _ = _
  simp only [specIn_is, Option.bind_some]
  cases hi : inB e 0 (IntKind.i64.wrap (((zer g).length : Int) - 1)) with
  | false => rfl
  | true =>
    rw [inB_true, wr (by omega) (by omega)] at hi
    have e1 : idx (zer g) e = some 0 := by
      rw [getI hi.1 (by omega)]
      unfold zer; rw [List.getD_eq_getElem?_getD, List.getElem?_replicate]
      split <;> rfl
    have e2 : upd (zer g) e 0 = some (zer g) := by
      rw [upd_int _ hi.1 (by omega)]
      refine congrArg some (set_same ?_)
      have h2 : e.toNat < (zer g).length := by omega
      unfold zer at h2 ⊢
      rw [List.length_replicate] at h2
      rw [List.getElem?_replicate, if_pos h2]
    simp only [cond_true]
    show ((idx (zer g) e).bind fun _ => (upd (zer g) e 0).bind fun xs19 => some xs19).bind _ = _
    rw [e1, e2]; rfl

def fstep (g : GEventGraph) (t : GTimetable) (e : Int) (acc : Int) (i : Nat) : Int := bif (g.Places.getD i ⟨0, 0, 0, 0⟩).From == e then min acc ((slk g t).getD i 0) else acc
theorem placeD {g : GEventGraph} {k : Nat} (h : k < g.Places.length) : g.Places[k]? = some (g.Places.getD k ⟨0, 0, 0, 0⟩) := by
  rw [List.getD_eq_getElem?_getD, List.getElem?_eq_getElem h]; rfl

theorem same_FreeSlack {F : Nat} {x0 : GEventGraph} {x1 : GTimetable} {x2 : Int} (hF : 134217728 ≤ F) (h0 : x0.Places.length ≤ 1048576) (h1 : x1.Starts.length ≤ 1048576) :
    ∃ r : Int × Int, spec_FreeSlack F x0 x1 x2 = some r ∧ impl_FreeSlack F x0 x1 x2 = some r := by
  have hz := zer_len x0
  unfold spec_FreeSlack impl_FreeSlack
  rw [bind_of specOne_is, mk_int _ (by omega) (by omega)]
  have hzz : (zer x0).length ≤ 1048576 := by omega
  show ∃ r, _ ∧ (impl_within F x2 0 (IntKind.i64.wrap (((zer x0).length : Int) - 1))).bind _ = _
  simp only [specIn_is, within_is, Option.bind_some, specDelayCode_is hF h0 h1 hzz]
  have hi : ∀ ok, impl_checkDelays F x0 x1 (List.replicate (max 0 (min x0.Events 10)).toNat 0) ok = some (delayCode x0 x1 (zer x0) ok) := fun ok => implDelayCode_is hF h0 h1 hzz
  simp only [hi, Option.bind_some]
  have hc : delayCode x0 x1 (zer x0) (inB x2 0 (IntKind.i64.wrap (x0.Events - 1))) = delayCode x0 x1 (zer x0) (inB x2 0 (IntKind.i64.wrap (((zer x0).length : Int) - 1))) := by
    cases hg : graphB x0 with
    | false => unfold delayCode; rw [hg]; rfl
    | true =>
      obtain ⟨g1, g2, _⟩ := graphB_true hg
      rw [hz, show max 0 (min x0.Events 10) = x0.Events by omega]
  rw [← hc]
  by_cases hd : delayCode x0 x1 (zer x0) (inB x2 0 (IntKind.i64.wrap (x0.Events - 1))) = 0
  · rw [hd]
    obtain ⟨g1, g2, _⟩ := delayCode_zero hd
    have hgl := (graphB_true g1).2.2.1
    have hsl := slk_len x0 x1
    simp only [bne_self_eq_false, cond_false, specSlacks_is hF g1 (tableB_len g2), implSlacks_is hF g1 (tableB_len g2), Option.bind_some]
    have A := fold_loop (len := (slk x0 x1).length) (f := fstep x0 x1 x2) (L := spec_FreeSlack_L1 F x0 x2 (slk x0 x1)) (s := 1000000) (n := F) ?_ ?_ (by omega)
    have B := fold_loop (len := (slk x0 x1).length) (f := fstep x0 x1 x2) (L := impl_FreeSlack_L1 F x0 x2 (slk x0 x1)) (s := 1000000) (n := F) ?_ ?_ (by omega)
    · rw [A, B]; exact ⟨_, rfl, rfl⟩
    · intro n s k hk
      simp only [impl_FreeSlack_L1, bdT (show (k : Int) < ((slk x0 x1).length : Int) by omega), idx_nat, getD_of hk, placeD (show k < x0.Places.length by omega), Option.bind_some, wrN (show k ≤ 67108864 by omega)]
      unfold fstep
      cases ((x0.Places.getD k ⟨0, 0, 0, 0⟩).From == x2) <;> rfl
    · intro n s
      simp only [impl_FreeSlack_L1, bdF (show ¬ ((slk x0 x1).length : Int) < ((slk x0 x1).length : Int) by omega)]
    · intro n s k hk
      simp only [spec_FreeSlack_L1, bdT (show (k : Int) < ((slk x0 x1).length : Int) by omega), idx_nat, getD_of hk, placeD (show k < x0.Places.length by omega), Option.bind_some, wrN (show k ≤ 67108864 by omega)]
      unfold fstep
      cases ((x0.Places.getD k ⟨0, 0, 0, 0⟩).From == x2) <;> rfl
    · intro n s
      simp only [spec_FreeSlack_L1, bdF (show ¬ ((slk x0 x1).length : Int) < ((slk x0 x1).length : Int) by omega)]
  · rw [bT (neT hd), bT (neT hd)]
    exact ⟨_, rfl, rfl⟩

end Go.Proofs.Ythbcakdjdbfepaa
