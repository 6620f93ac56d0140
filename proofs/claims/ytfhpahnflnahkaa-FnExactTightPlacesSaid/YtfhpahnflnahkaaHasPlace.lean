/- slices.IndexFunc and slices.ContainsFunc at the element types that the program uses: is there an element at which the function answers yes. -/
import Derived.Test.YtfhpahnflnahkaaRows
import Derived.Test.YtfhpahnflnahkaaMem
namespace Go.Proofs.Ytfhpahnflnahkaa
open Go.RowKit

set_option maxRecDepth 100000 in
set_option maxHeartbeats 1000000 in
theorem indexPlace_any (A : Option Addr) (n c : Nat) (f : Nat → Nat → Int) (g : Nat) (lb : Array Value) (p : Nat → Bool) (W : World) (hn : n ≤ 9223372036854775807) (hf : RR W 4 A n f)
    (eg : ∀ (args : Array Value) (w : World), (callFunc g args).run Try.prog w = .ok (.enter g args) w)
    (hp : ∀ i, i < n → ∀ w, Below W.heap.size W w → Calls Try.prog g (#[.agg #[.int .i64 (f i 0), .int .i64 (f i 1), .int .i64 (f i 2), .int .i64 (f i 3)]] ++ lb) w fun e w' => e = .returned (.bool (p i)) ∧ Below w.heap.size w w') :
    Calls Try.prog 108 #[.slice A n c, .func (.func g) #[] lb] W (IdxPost p n W) := by
  have HP := Lib.hid hp; clear hp
  go_enter Try.func108, Try.ntmps108
  go_wp2
  go_loopw [8, 5] (fun i _ wr => ∃ k : Nat, k ≤ n ∧ i = .int .i64 k ∧ Below W.heap.size W wr ∧ (∀ i, i < k → p i = false)) (fun i _ _ => n - (intOf i).toNat)
  case atStart => exact ⟨0, Nat.zero_le _, rfl, Below.refl _ _, fun i hi => absurd hi (Nat.not_lt_zero _)⟩
  case round =>
    obtain ⟨k, hk, rfl, hbw, hno⟩ := hrel
    have HNO := Lib.hid hno; clear hno
    by_cases hlt : k < n
    · obtain ⟨b, off, rfl, hbl, hcell⟩ := (hf.below hbw (Nat.le_refl _)) k hlt
      have hc0 : wr.cell? ⟨b, off + k * 4, none⟩ = some (.int .i64 (f k 0)) := hcell 0 (by omega)
      have hc1 : wr.cell? ⟨b, off + k * 4 + 1, none⟩ = some (.int .i64 (f k 1)) := hcell 1 (by omega)
      have hc2 : wr.cell? ⟨b, off + k * 4 + 2, none⟩ = some (.int .i64 (f k 2)) := hcell 2 (by omega)
      have hc3 : wr.cell? ⟨b, off + k * 4 + 3, none⟩ = some (.int .i64 (f k 3)) := hcell 3 (by omega)
      clear hcell
      go_wp2_with fail
      cases hpk : p k with
      | true =>
        have HY := Lib.hid (anyB_yes hlt hpk)
        have HK := Lib.hid hpk; clear hpk
        refine (HP.out k hlt _ hbw).mono ?_
        rintro e w1 ⟨rfl, hb1⟩
        rw [HK.out]
        go_wp2
        go_ret
        exact ⟨k, rfl, .inl ⟨by omega, HY.out⟩, hbw.trans (hb1.mono hbw.size)⟩
      | false =>
        have HN := Lib.hid hpk; clear hpk
        refine (HP.out k hlt _ hbw).mono ?_
        rintro e w1 ⟨rfl, hb1⟩
        rw [HN.out]
        go_wp2
        go_roundw
        case rel => exact ⟨k + 1, by omega, by go_num, hbw.trans (hb1.mono hbw.size), fun i hi => by by_cases e : i = k; exact e ▸ HN.out; exact HNO.out i (by omega)⟩
        case measure => simp [intOf]; omega
    · obtain rfl : k = n := by omega
      go_wp2
      go_ret
      exact ⟨-1, rfl, .inr ⟨rfl, anyB_no HNO.out⟩, hbw⟩

set_option maxRecDepth 100000 in
set_option maxHeartbeats 1000000 in
theorem containsPlace_any (A : Option Addr) (n c : Nat) (f : Nat → Nat → Int) (g : Nat) (lb : Array Value) (p : Nat → Bool) (W : World) (hn : n ≤ 9223372036854775807) (hf : RR W 4 A n f)
    (eg : ∀ (args : Array Value) (w : World), (callFunc g args).run Try.prog w = .ok (.enter g args) w)
    (hp : ∀ i, i < n → ∀ w, Below W.heap.size W w → Calls Try.prog g (#[.agg #[.int .i64 (f i 0), .int .i64 (f i 1), .int .i64 (f i 2), .int .i64 (f i 3)]] ++ lb) w fun e w' => e = .returned (.bool (p i)) ∧ Below w.heap.size w w') :
    Calls Try.prog 104 #[.slice A n c, .func (.func g) #[] lb] W fun e w' => e = .returned (.bool (anyB p n)) ∧ Below W.heap.size W w' := by
  have H := Lib.hid (indexPlace_any A n c f g lb p W hn hf eg hp); clear hp eg
  go_enter Try.func104, Try.ntmps104
  go_wp2_with fail
  refine H.out.mono ?_
  rintro e w1 ⟨z, rfl, hz, hb1⟩
  rcases hz with ⟨hz, hany⟩ | ⟨rfl, hany⟩
  all_goals
    have HA := Lib.hid hany; clear hany
    go_wp2
    go_ret
    exact ⟨ret_bool HA.out.symm, hb1⟩

end Go.Proofs.Ytfhpahnflnahkaa
