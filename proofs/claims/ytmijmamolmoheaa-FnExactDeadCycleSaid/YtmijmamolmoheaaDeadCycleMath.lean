/- The reference and the program answer alike. -/
import Derived.Test.YtmijmamolmoheaaDeadCycleSmall
namespace Go.Proofs.Ytmijmamolmoheaa

/-- the free places' table, as the reference lays it -/
def fR (g : GEventGraph) (v u : Nat) : Int := bif eP g.Places u v then 0 else (-1000000000000000)
theorem fR_ok (g : GEventGraph) (n : Nat) : TabOk (fR g) n := fun i j _ _ => by
  unfold fR
  cases eP g.Places j i
  · exact .inl rfl
  · exact .inr (by simp)
theorem arcs_same {g : GEventGraph} (h : graphB g = true) (u v : Nat) : arcB (dM g 0) u v = arcB (fR g) u v := by
  apply Bool.eq_iff_iff.2
  rw [arcB_true, arcB_true]
  have e : fR g v u ≠ -1000000000000000 ↔ eP g.Places u v = true := by
    unfold fR
    cases eP g.Places u v <;> simp
  rw [e]
  unfold eP dM
  rw [List.any_eq_true]
  constructor
  · intro hn
    rcases arcT_cases (t := plT) (f := plF) (w := fun p : GPlace => p.Delay) (g.Places.filter fun p => p.Tokens == 0) v u with e1 | ⟨p, hp, ht, hf, _⟩
    · exact absurd e1 hn
    · obtain ⟨hp, hz⟩ := List.mem_filter.1 hp
      obtain ⟨a1, a2, _, _⟩ := pl_at h hp
      exact ⟨p, hp, by rw [hz, a1, a2, ht, hf]; simp⟩
  · rintro ⟨p, hp, hq⟩
    simp only [Bool.and_eq_true, beq_iff_eq] at hq
    obtain ⟨hz, h1, h2⟩ := hq
    obtain ⟨a1, a2, _, _⟩ := pl_at h hp
    have h3 : plT p = v := by omega
    have h4 : plF p = u := by omega
    have hge := arcT_ge (t := plT) (f := plF) (w := fun p : GPlace => p.Delay) (l := g.Places.filter fun p => p.Tokens == 0) (x := p) (List.mem_filter.2 ⟨hp, by simpa using hz⟩)
    rw [h3, h4] at hge
    have := graphB_range h p hp
    omega
theorem cyc_same {g : GEventGraph} (h : graphB g = true) (n F : Nat) : firstCyc (fR g) n (fun w => decide (-1 < w)) F = firstCyc (dM g 0) n (fun _ => true) F := by
  unfold firstCyc
  congr 1
  funext v
  have fz : ∀ i j, arcB (fR g) j i = true → fR g i j = 0 := fun i j hb => by
    have := arcB_true.1 hb
    unfold fR at this ⊢
    cases he : eP g.Places j i with
    | true => rfl
    | false => rw [he] at this; exact absurd rfl this
  refine gdfs_congr (fun p => p ≠ [] ∧ pathw (fR g) p = 0) (fun p hp => ?_) (fun p v hp _ => ?_) (fun p v hp _ hc => ?_) ⟨by simp, rfl⟩
  · unfold accG
    rw [arcs_same h, Bool.and_true]
    cases hb : arcB (fR g) (lastN p) (headN p) with
    | false => rfl
    | true => rw [hp.2, fz _ _ hb]; rfl
  · unfold candW
    rw [arcs_same h]
  · unfold candW at hc
    rw [Bool.and_eq_true, Bool.and_eq_true] at hc
    exact ⟨by simp, by rw [pathw_snoc _ _ hp.1, hp.2, fz _ _ hc.1.2]; rfl⟩
theorem same_DeadCycle {F : Nat} {x0 : GEventGraph} (hF : 134217728 ≤ F) (h0 : x0.Places.length ≤ 1048576) :
    ∃ r : List Int × Int, spec_DeadCycle F x0 = some r ∧ impl_DeadCycle F x0 = some r ∧ r.1.length ≤ 1048576 := by
  unfold spec_DeadCycle impl_DeadCycle
  rw [specGraph_is hF h0, implGraph_is hF h0]
  cases hg : graphB x0 with
  | false => exact ⟨([], 1), rfl, rfl, by simp⟩
  | true =>
    have ho := GOk.of hg
    have n10 := ho.n10
    have hm : mat0 (eP x0.Places) x0.Events.toNat = tabM x0.Events.toNat x0.Events.toNat (fR x0) := rfl
    have hW : ∀ (l : List Int) (w : Int), (fun y0 y1 => impl_DeadCycle_c1 F y0 y1) l w = some ((fun _ => true) w) := fun l w => rfl
    have hS : spec_l12Dead F x0 = some ((firstCyc (dM x0 0) x0.Events.toNat (fun _ => true) F).elim [] nl) := by
      unfold spec_l12Dead
      rw [specFree_is hF ho, Option.bind_some, hm, specOverT_is (F := F) (over := -1) hF n10 (fR_ok x0 _), cyc_same hg]
      rfl
    simp only [Bool.not_true, cond_false, Option.bind_some, hS, implDelayM_is (m := 0) hF hg, implFirst_is (F := F) (good := fun _ => true) hF n10 (dM_ok hg 0 _) hW]
    cases hc : firstCyc (dM x0 0) x0.Events.toNat (fun _ => true) F with
    | none => exact ⟨([], 4), rfl, rfl, by simp⟩
    | some r =>
      obtain ⟨r0, r1, _⟩ := firstCyc_ne hc
      have := List.length_pos_iff.2 r0
      have he : (nl r).isEmpty = false := by
        cases r with
        | nil => exact absurd rfl r0
        | cons x r => rfl
      simp only [Option.elim_some, nl_len, beq_false_of_ne (show (r.length : Int) ≠ 0 by omega), cond_false, he]
      exact ⟨(nl r, 0), rfl, rfl, by simp only [nl_len]; omega⟩

end Go.Proofs.Ytmijmamolmoheaa
