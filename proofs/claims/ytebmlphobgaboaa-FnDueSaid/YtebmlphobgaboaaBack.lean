/-
  slices.Backward and its iterator.
-/
import Derived.Test.YtebmlphobgaboaaLiftJ
import Derived.Test.YtebmlphobgaboaaProg
namespace Go.Proofs.Ytebmlphobgaboaa
open Go.RowKit
variable {dd : List Deferred}

section
variable {P : Program} {ops : Array Oper} {Q : Exit → Act → World → Prop} {K : Act → World → Prop} {a : Act} {w : World} {N : Nat} {E : Env} {o : Oper} {rest : List Oper}
theorem wpL_regionW {id : Nat} {ls : List Oper} {r : List Code} (h : wpListIn Fence.wide 0 P ls.toArray (Exit.then (wpL P r Q) Q) ls a w) : wpL P (.region id ls.toArray false :: r) Q a w := (wpIn_wide (n := 0)).1 (wpIn_region_lit h)
theorem wY {v : Value} {d : Nat} (hf : FrD dd a N E) (hg : o.guard = none) (hd : o.dst = some d) (hN : Nat.blt d N = true) (hy : Y P [] w [] N E o v) (h : ∀ a, FrD dd a N ((d, v) :: E) → wpListIn Fence.wide 0 P ops Q rest a w) : wpListIn Fence.wide 0 P ops Q (o :: rest) a w := by
  unfold wpListIn
  rw [if_pos (wanted_none hg _)]
  refine ⟨fun _ _ => trivial, ?_⟩
  have e : (o.semAt Fence.wide.round a.eval).run P w = .ok (.value v) w := hy a w hf.toFr0 (St.start w)
  rw [e]
  show wpListIn _ _ _ _ _ rest (a.put o.dst v) w
  rw [hd]
  exact h _ (hf.put hN)
theorem wYield {l d : Nat} {x : Operand} {xs : List Operand} {ts : Array TypeId} {vs : List Value} {R : Ending → World → Prop} (hf : FrD dd a N E) (hg : o.guard = none) (hd : o.dst = some d) (hN : Nat.blt d N = true) (ho : o.op = .call { callee := .value x, args := xs.toArray, argTypes := ts })
    (hx : evalE E x = some (.func (.yield l) #[] #[])) (hv : evalEs E xs = some vs) (hY : YieldAt Fence.wide 0 P l vs.toArray w R) (h : ∀ e w', R e w' → ∃ v, e = .returned v ∧ ∀ a, FrD dd a N ((d, v) :: E) → wpListIn Fence.wide 0 P ops Q rest a w') : wpListIn Fence.wide 0 P ops Q (o :: rest) a w := by
  obtain ⟨fn, tmps, assign, body, hy, hR⟩ := hY
  unfold wpListIn
  rw [if_pos (wanted_none hg _)]
  refine ⟨fun _ _ => trivial, ?_⟩
  have e : (o.semAt Fence.wide.round a.eval).run P w = .ok (.round l fn tmps assign body) w := by
    show (execOp a.eval o).run P w = _
    simp [execOp, ho, resolve, hf.eval hx, Deferred.ofValue, invoke, hf.evals hv, hy]
  rw [e]
  refine ⟨fun e => absurd e Bool.false_ne_true, hR.mono fun e w' he => ?_⟩
  obtain ⟨v, rfl, h2⟩ := h e w' he
  show wpListIn _ _ _ _ _ rest (a.put o.dst v) w'
  rw [hd]
  exact h2 _ (hf.put hN)
end
theorem revE_len (xs : List Int) : (revE xs).length = xs.length := by unfold revE; simp
theorem revE_at {xs : List Int} {m : Nat} (h0 : 1 ≤ m) (h : m ≤ xs.length) : (revE xs)[xs.length - m]? = some ((m : Int) - 1, xs.getD (m - 1) 0) := by
  unfold revE
  rw [List.getElem?_map, List.getElem?_reverse (by simp; omega), List.length_range, List.getElem?_range (by omega), Option.map_some, show xs.length - 1 - (xs.length - m) = m - 1 by omega]
  congr 2
  omega
theorem revE_cut {xs : List Int} {m : Nat} (h0 : 1 ≤ m) (h : m ≤ xs.length) : (revE xs).take (xs.length - m) ++ ((m : Int) - 1, xs.getD (m - 1) 0) :: (revE xs).drop (xs.length - m + 1) = revE xs := by
  have hl : xs.length - m < (revE xs).length := by rw [revE_len]; omega
  have e : (revE xs)[xs.length - m] = ((m : Int) - 1, xs.getD (m - 1) 0) := by
    have := revE_at h0 h
    rw [List.getElem?_eq_getElem hl] at this
    exact Option.some.inj this
  rw [← e, ← List.drop_eq_getElem_cons hl, List.take_append_drop]
theorem revE_next {xs : List Int} {m : Nat} (h0 : 1 ≤ m) (h : m ≤ xs.length) : (revE xs).take (xs.length - m) ++ [((m : Int) - 1, xs.getD (m - 1) 0)] = (revE xs).take (xs.length - (m - 1)) := by
  rw [show xs.length - (m - 1) = xs.length - m + 1 by omega, List.take_add_one, revE_at h0 h]; rfl

theorem bk_el : EL Try.prog 23 2 := Try.underlying23

theorem bk_ti : TI Try.prog 2 [.int .i64 0] 8 := TI.of (z := .int .i64 0) (by kernel_rfl) rfl rfl

theorem bk_agS : AG Try.prog 23 false := fun w => by simp [isAgg, underlying, Try.underlying23, go_sem]

theorem bk_agI : AG Try.prog 2 false := fun w => by simp [isAgg, underlying, Try.underlying2, go_sem]

theorem bk_en : En Try.prog 210 := En.of Try.func210 rfl rfl

set_option maxRecDepth 100000 in
theorem back_ok : Back Try.prog 210 23 := by
  intro l b n c A xs J W1 hn hmax h0 hTK hY
  have hmx : n ≤ 9223372036854775807 := Nat.le_trans hmax (by decide)
  refine Calls.enter (l := [.func (.yield l) #[] #[], .pointer (some ⟨b, 0, none⟩)]) (N := 19) Try.func210 rfl rfl rfl (fun a hf => ?_)
  refine wpL_seq ?_
  refine wpL_region ?_
  refine sY hf (St.start W1) rfl rfl rfl (Y_load_pb rfl rfl (show PB W1 b _ [.slice A n c] from (hTK [] W1 h0).1) rfl bk_agS) ?_; clear hf; intro a hf
  refine sY hf (St.start W1) rfl rfl rfl (Y_lenH rfl rfl bk_el hn) ?_; clear hf; intro a hf
  refine sY hf (St.start W1) rfl rfl rfl (Y_sub rfl rfl rfl) ?_; clear hf; intro a hf
  refine sY hf (St.start W1) rfl rfl rfl (Y_assign rfl rfl) ?_; clear hf; intro a hf
  refine wpO_nil ?_
  have hw : IntKind.i64.wrap ((xs.length : Int) - 1) = (xs.length : Int) - 1 := by
    simp [IntKind.wrap, IntKind.bits, IntKind.signed]; omega
  rw [hw] at hf
  refine wpL_block (fun a w => Fr a 19 [] ∧ J (revE xs) w) ?_ ?_
  · refine wpL_loop (fun k a w => ∃ m, k = m + 1 ∧ m ≤ xs.length ∧ Fr a 19 [(0, .func (.yield l) #[] #[]), (1, .pointer (some ⟨b, 0, none⟩)), (3, .int .i64 ((m : Int) - 1))] ∧ J ((revE xs).take (xs.length - m)) w) (xs.length + 1) ?_ ?_ ?_
    · exact ⟨xs.length, rfl, Nat.le_refl _, FrD.pick (FrD.pick (FrD.pick hf.none hf rfl) hf rfl) hf rfl, by rw [Nat.sub_self]; exact h0⟩
    · rintro a w ⟨m, h, _⟩; omega
    · clear hf
      rintro k a w ⟨m, hk, hm, hf, hJ⟩
      obtain rfl : k = m := by omega
      refine wpL_seq ?_
      refine wpL_seq ?_
      refine wpL_region ?_
      refine sY hf (St.start w) rfl rfl rfl (Y_move rfl rfl) ?_; clear hf; intro a hf
      refine sY hf (St.start w) rfl rfl rfl (Y_geq rfl rfl rfl) ?_; clear hf; intro a hf
      refine wpO_nil ?_
      refine wpL_cond hf rfl (fun hb => ?_) (fun hb => ?_)
      · have hk1 : 1 ≤ k := by have := of_decide_eq_true hb; omega
        have hTw := hTK _ w hJ
        have hq : xs[k - 1]? = some (xs.getD (k - 1) 0) := by rw [List.getD_eq_getElem?_getD, List.getElem?_eq_getElem (by omega)]; rfl
        have hj : ((k : Int) - 1).toNat = k - 1 := by omega
        refine wpL_skip ?_
        refine wpL_seq ?_
        refine wpL_block0 ?_
        refine wpL_seq ?_
        refine wpL_regionW ?_
        refine wY hf rfl rfl rfl (Y_move rfl rfl) ?_; clear hf; intro a hf
        refine wY hf rfl rfl rfl (Y_move rfl rfl) ?_; clear hf; intro a hf
        refine wY hf rfl rfl rfl (Y_load_pb rfl rfl (show PB w b _ [.slice A n c] from hTw.1) rfl bk_agS) ?_; clear hf; intro a hf
        refine wY hf rfl rfl rfl (Y_move rfl rfl) ?_; clear hf; intro a hf
        refine wY hf rfl rfl rfl (Y_index rfl rfl rfl bk_el bk_ti (Rd.isAt hTw.2 (ints_at hq)) (by omega) (by omega)) ?_; clear hf; intro a hf
        refine wY hf rfl rfl rfl (Y_load_rd rfl rfl (fun w hs => hTw.2.at hs) (by rw [hj]; exact at1 (ints_at hq)) bk_agI) ?_; clear hf; intro a hf
        refine wYield (vs := [.int .i64 ((k : Int) - 1), .int .i64 (xs.getD (k - 1) 0)]) hf rfl rfl rfl rfl rfl rfl (hY _ ((k : Int) - 1, xs.getD (k - 1) 0) _ w hJ (revE_cut hk1 hm)) ?_
        rintro e w' ⟨rfl, hJ'⟩
        refine ⟨_, rfl, ?_⟩; clear hf; intro a hf
        rw [revE_next hk1 hm] at hJ'
        refine wY hf rfl rfl rfl (Y_not rfl rfl) ?_; clear hf; intro a hf
        refine then_normal ?_
        refine wpL_cond hf rfl (fun hb => by cases hb) (fun _ => ?_)
        refine wpL_skip ?_
        refine wpL_nil (Qb_normal ?_)
        refine wpL_region ?_
        refine sY hf (St.start w') rfl rfl rfl (Y_move rfl rfl) ?_; clear hf; intro a hf
        refine sY hf (St.start w') rfl rfl rfl (Y_sub rfl rfl rfl) ?_; clear hf; intro a hf
        refine sY hf (St.start w') rfl rfl rfl (Y_assign rfl rfl) ?_; clear hf; intro a hf
        refine wpO_nil ?_
        refine wpL_nil (Ql_normal ?_)
        have hw2 : IntKind.i64.wrap ((k : Int) - 1 - 1) = ((k - 1 : Nat) : Int) - 1 := by
          simp [IntKind.wrap, IntKind.bits, IntKind.signed]; omega
        rw [hw2] at hf
        exact ⟨k - 1, by omega, by omega, FrD.pick (FrD.pick (FrD.pick hf.none hf rfl) hf rfl) hf rfl, hJ'⟩
      · have hk0 : k = 0 := by have := of_decide_eq_false hb; omega
        subst hk0
        refine wpL_exit (Ql_exit (Qb_exit ?_))
        rw [Nat.sub_zero, ← revE_len, List.take_length] at hJ
        exact ⟨hf.none, hJ⟩
  · rintro a w ⟨hf, hJ⟩
    exact wpL_nil (ret_end (ret_none rfl hf ⟨⟨_, rfl⟩, hJ⟩))

theorem bk_en0 : En Try.prog 192 := En.of Try.func192 rfl rfl

theorem backward_ok (A : Option Addr) (n c : Nat) (W : World) : Calls Try.prog 192 #[.slice A n c] W fun e w' => ∃ v, e = .returned v ∧ ∃ b, v = .func (.func 210) #[] #[.pointer (some ⟨b, 0, none⟩)] ∧ St [] W w' [.blk b 23 [.slice A n c]] := by
  refine Calls.enter (l := [.slice A n c]) (N := 4) Try.func192 rfl rfl rfl (fun a hf => ?_)
  have hs := St.start W
  refine wpL_seq ?_
  refine wpL_region ?_
  refine sBox hf hs rfl rfl rfl rfl rfl (cs := [.slice A n c]) rfl ?_; clear hf hs; intro a w b hs hf
  refine sY hf hs rfl rfl rfl (Y_assign rfl rfl) ?_; clear hf; intro a hf
  refine wpO_nil ?_
  refine wpL_seq ?_
  refine wpL_region ?_
  refine sY hf hs rfl rfl rfl (Y_makeFunc (us := []) (vs := [.pointer (some ⟨b, 0, none⟩)]) rfl rfl rfl) ?_; clear hf; intro a hf
  refine sY hf hs rfl rfl rfl (Y_assign rfl rfl) ?_; clear hf; intro a hf
  refine wpO_nil ?_
  refine wpL_ret (ret_tmp rfl hf rfl ?_)
  exact ⟨_, rfl, b, rfl, hs⟩

end Go.Proofs.Ytebmlphobgaboaa
