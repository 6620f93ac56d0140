/- The reference and the program answer alike. -/
import Derived.Test.YtmijmamolmoheaaLeastPeriodSmall
namespace Go.Proofs.Ytmijmamolmoheaa

/-- the least period that is kept -/
def Feas (g : GEventGraph) (r : Int) : Prop := ¬ PosCyc (wT g r) g.Events.toNat
def LeastOk (g : GEventGraph) (x : Int) : Prop := 0 ≤ x ∧ x ≤ 10000 ∧ Feas g x ∧ ∀ r, 0 ≤ r → r ≤ 100000 → Feas g r → x ≤ r

theorem feas_mono {g : GEventGraph} (h : graphB g = true) {r s : Int} (h0 : 0 ≤ r) (hrs : r ≤ s) (hs : s ≤ 100000) (hf : Feas g r) : Feas g s := by
  intro hp
  cases hc : firstC g (fun d m => decide (0 < d - s * m)) 100 with
  | none => exact firstC_none h (by omega) hs (Nat.le_refl _) hp hc
  | some c =>
    have h1 := circ_bound h h0 (by omega) hf hc
    obtain ⟨hok, _, hg, _⟩ := firstC_some hc
    have h2 : 0 < sumD g c - s * sumM g c := of_decide_eq_true hg
    have hb := sums_bd h c hok.lt
    have h3 : r * sumM g c ≤ s * sumM g c := Int.mul_le_mul_of_nonneg_right hrs (by omega)
    omega

theorem ceil_is {F : Nat} {d m : Int} (hd : 0 ≤ d) (hd1 : d ≤ 10000) (hm : 1 ≤ m) (_ : m ≤ 1000) : ∃ c, spec_l01Ceil F d m = some c ∧ d ≤ c * m ∧ (c - 1) * m < d := by
  unfold spec_l01Ceil spec_l01Floor
  rw [wr (show -9223372036854775808 ≤ 0 - d by omega) (by omega)]
  have hne : ¬ m = 0 := by omega
  have e1 : m * (0 - d).tdiv m + (0 - d).tmod m = 0 - d := Int.mul_tdiv_add_tmod (0 - d) m
  have e2 : (0 - d).tmod m < m := Int.tmod_lt_of_pos _ (by omega)
  have e3 : -m < (0 - d).tmod m := Int.lt_tmod_of_pos _ (by omega)
  have e4 : ((0 - d).tdiv m).natAbs ≤ (0 - d).natAbs := by
    rw [Int.natAbs_tdiv]; exact Nat.div_le_self _ _
  generalize (0 - d).tdiv m = q at *
  generalize (0 - d).tmod m = t at *
  have hq0 : -10000 ≤ q ∧ q ≤ 10000 := by omega
  simp only [if_neg hne, Option.bind_some]
  have e5 : q * m = m * q := Int.mul_comm _ _
  by_cases ht : t < 0
  · refine ⟨-(q - 1), ?_, ?_, ?_⟩
    · rw [bdT ht, wr (show -9223372036854775808 ≤ q by omega) (by omega), wr (by omega) (by omega)]
      show some (IntKind.i64.wrap (0 - (q - 1))) = some (-(q - 1))
      rw [wr (by omega) (by omega)]
      exact congrArg some (by omega)
    · have : -(q - 1) * m = -(m * q) + m := by rw [Int.neg_mul, Int.sub_mul, e5]; omega
      omega
    · have : (-(q - 1) - 1) * m = -(m * q) := by rw [show -(q - 1) - 1 = -q by omega, Int.neg_mul, e5]
      omega
  · refine ⟨-q, ?_, ?_, ?_⟩
    · rw [bdF ht, wr (show -9223372036854775808 ≤ q by omega) (by omega)]
      show some (IntKind.i64.wrap (0 - q)) = some (-q)
      rw [wr (by omega) (by omega)]
      exact congrArg some (by omega)
    · have : -q * m = -(m * q) := by rw [Int.neg_mul, e5]
      omega
    · have : (-q - 1) * m = -(m * q) - m := by rw [Int.sub_mul, Int.neg_mul, e5]; omega
      omega

theorem spec_loop {F : Nat} {g : GEventGraph} (hF : 134217728 ≤ F) (h : graphB g = true) : ∀ (n : Nat) (x : Int), 0 ≤ x → x ≤ 10000 → 10001 - x < (n : Int) → (∀ r, 0 ≤ r → r ≤ 100000 → Feas g r → x ≤ r) →
    (∃ y, spec_LeastPeriod_L1 F g n x = some (.inl (y, 0)) ∧ LeastOk g y) ∨ (spec_LeastPeriod_L1 F g n x = some (.inr ()) ∧ ∀ r, 0 ≤ r → r ≤ 100000 → ¬ Feas g r) := by
  obtain ⟨e1, e2, e3, _, _⟩ := graphB_true h
  intro n
  induction n with
  | zero => intro x h0 h1 hn; omega
  | succ n ih =>
    intro x h0 h1 hn hx
    unfold spec_LeastPeriod_L1
    simp only [bdT (show x ≤ 100000 by omega), specOverC_is (over := 0) hF h h0 (show x ≤ 100000 by omega), Option.bind_some]
    cases hc : firstC g (fun d m => decide (0 < d - x * m)) F with
    | none =>
      refine .inl ⟨x, rfl, h0, h1, fun hp => ?_, hx⟩
      exact firstC_none h h0 (by omega) (by omega) hp hc
    | some c =>
      obtain ⟨hok, _, hg, _⟩ := firstC_some hc
      have h2 : 0 < sumD g c - x * sumM g c := of_decide_eq_true hg
      have hb := sums_bd h c hok.lt
      have hl := hok.len h
      have hlen : ((nl c).length : Int) ≠ 0 := by
        have := List.length_pos_iff.2 hok.ne
        rw [nl_len]; omega
      simp only [Option.elim_some, beq_false_of_ne hlen, cond_false, specSums_is hF h hok.lt (by omega), Option.bind_some]
      by_cases hm : sumM g c = 0
      · right
        refine ⟨by rw [hm]; rfl, fun r r0 r1 hf => ?_⟩
        have := circ_bound h r0 r1 hf hc
        rw [hm] at this h2
        omega
      · rw [beq_false_of_ne hm, cond_false]
        obtain ⟨y, hy, y1, y2⟩ := ceil_is (F := F) (d := sumD g c) (m := sumM g c) (by omega) (by omega) (by omega) (by omega)
        rw [hy, Option.bind_some]
        have hyx : x < y := by
          refine Int.lt_of_not_ge fun hle => ?_
          have : y * sumM g c ≤ x * sumM g c := Int.mul_le_mul_of_nonneg_right hle (by omega)
          omega
        have hy3 : y ≤ 10000 := by
          refine Int.le_of_not_gt fun hlt => ?_
          have : 10000 * sumM g c ≤ (y - 1) * sumM g c := Int.mul_le_mul_of_nonneg_right (by omega) (by omega)
          omega
        refine ih y (by omega) hy3 (by omega) fun r r0 r1 hf => ?_
        have h3 := circ_bound h r0 r1 hf hc
        refine Int.le_of_not_gt fun hlt => ?_
        have : r * sumM g c ≤ (y - 1) * sumM g c := Int.mul_le_mul_of_nonneg_right (by omega) (by omega)
        omega

theorem impl_loop {F : Nat} {g : GEventGraph} (hF : 134217728 ≤ F) (h : graphB g = true) : ∀ (n : Nat) (x y : Int), 0 ≤ x → x ≤ y → y ≤ 10000 → y - x < (n : Int) → Feas g y → (∀ r, 0 ≤ r → r ≤ 100000 → Feas g r → x ≤ r) →
    ∃ z, impl_LeastPeriod_L1 F g n x y = some z ∧ LeastOk g z := by
  intro n
  induction n with
  | zero => intro x y h0 h1 h2 hn; omega
  | succ n ih =>
    intro x y h0 h1 h2 hn hy hx
    unfold impl_LeastPeriod_L1
    by_cases hlt : x < y
    · have em : (x + y).tdiv 2 = (x + y) / 2 := Int.tdiv_eq_ediv_of_nonneg (by omega)
      have hm1 : x ≤ (x + y) / 2 := by omega
      have hm2 : (x + y) / 2 < y := by omega
      rw [bdT hlt, wr (show -9223372036854775808 ≤ x + y by omega) (by omega), em, wr (show -9223372036854775808 ≤ (x + y) / 2 by omega) (by omega)]
      generalize (x + y) / 2 = z at *
      obtain ⟨c, hc, hz⟩ := implBetter_is (F := F) (r := z) hF h (by omega) (by omega)
      rw [hc, Option.bind_some]
      cases he : c.isEmpty with
      | true =>
        rw [he] at hz
        exact ih x z h0 (by omega) (by omega) (by omega) (hz.1 rfl) hx
      | false =>
        have hnz : ¬ Feas g z := fun hf => by
          have := hz.2 hf
          rw [he] at this; cases this
        rw [cond_false, wr (show -9223372036854775808 ≤ z + 1 by omega) (by omega)]
        refine ih (z + 1) y (by omega) (by omega) h2 (by omega) hy fun r r0 r1 hf => ?_
        refine Int.le_of_not_gt fun hlt => ?_
        exact hnz (feas_mono h r0 (by omega) (by omega) hf)
    · obtain rfl : x = y := by omega
      exact ⟨x, by rw [bdF hlt], h0, h2, hy, hx⟩

theorem same_LeastPeriod {F : Nat} {x0 : GEventGraph} (hF : 134217728 ≤ F) (h0 : x0.Places.length ≤ 1048576) :
    ∃ r : Int × Int, spec_LeastPeriod F x0 = some r ∧ impl_LeastPeriod F x0 = some r := by
  unfold spec_LeastPeriod impl_LeastPeriod
  simp only [specGraph_is hF h0, implGraph_is hF h0, Option.bind_some]
  cases hg : graphB x0 with
  | false => exact ⟨(0, 1), rfl, rfl⟩
  | true =>
    simp only [Bool.not_true, cond_false]
    obtain ⟨c, hc, hz⟩ := implBetter_is (F := F) (r := 10000) hF hg (by omega) (by omega)
    rw [hc, Option.bind_some]
    rcases spec_loop hF hg F 0 (by omega) (by omega) (by omega) (fun r r0 _ _ => r0) with ⟨y, hy, hok⟩ | ⟨hy, hno⟩
    · rw [hy]
      have hf : Feas x0 10000 := feas_mono hg hok.1 hok.2.1 (by omega) hok.2.2.1
      rw [hz.2 hf]
      obtain ⟨z, h1, h2⟩ := impl_loop hF hg F 0 10000 (by omega) (by omega) (by omega) (by omega) hf (fun r r0 _ _ => r0)
      have e : z = y := by
        have a := hok.2.2.2 z h2.1 (by have := h2.2.1; omega) h2.2.2.1
        have b := h2.2.2.2 y hok.1 (by have := hok.2.1; omega) hok.2.2.1
        omega
      subst e
      refine ⟨(z, 0), rfl, ?_⟩
      rw [h1]; rfl
    · rw [hy]
      have he : c.isEmpty = false := by
        cases he : c.isEmpty with
        | false => rfl
        | true => exact absurd (hz.1 he) (hno 10000 (by omega) (by omega))
      rw [he]
      exact ⟨(0, 5), rfl, rfl⟩

end Go.Proofs.Ytmijmamolmoheaa
