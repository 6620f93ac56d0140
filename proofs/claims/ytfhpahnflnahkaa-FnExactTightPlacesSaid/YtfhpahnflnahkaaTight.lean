/- TightPlaces: the reference's list and the program's. -/
import Derived.Test.YtfhpahnflnahkaaSlacksI
namespace Go.Proofs.Ytfhpahnflnahkaa
open Go.RowKit

/-- the indices below k at which s is 0 -/
def tl (s : Nat → Int) (k : Nat) : List Int := ((List.range k).filter (fun i => decide (s i = 0))).map (fun (i : Nat) => (i : Int))
theorem tl_yes {s : Nat → Int} {k : Nat} (h : s k = 0) : tl s (k + 1) = tl s k ++ [(k : Int)] := by
  unfold tl; rw [List.range_succ, List.filter_append, List.map_append]; simp [h]
theorem tl_no {s : Nat → Int} {k : Nat} (h : ¬ s k = 0) : tl s (k + 1) = tl s k := by
  unfold tl; rw [List.range_succ, List.filter_append, List.map_append]; simp [h]
theorem tl_len_le (s : Nat → Int) (k : Nat) : (tl s k).length ≤ k := by
  unfold tl; rw [List.length_map]; exact Nat.le_trans (List.length_filter_le _ _) (by simp)

theorem SI.of_ownsL {w : World} {base : Nat} {e : TypeId} {v : Value} {xs : List Int} (h : w.ownsRow base e 1 v xs.length (xs.map (Value.int .i64))) : ∃ A c, v = .slice A xs.length c ∧ SI w base w.heap.size A xs.length (fun i => xs.getD i 0) := by
  refine SI.of_owns (e := e) (f := fun i => xs.getD i 0) ?_
  have e1 : numsOf (fun i => xs.getD i 0) xs.length = xs.map (Value.int .i64) := by
    apply List.ext_getElem
    · simp [numsOf]
    · intro i h1 h2
      have h3 : i < xs.length := by simpa using h2
      simp [numsOf, List.getD, h3]
  rw [e1]; exact h

set_option maxRecDepth 100000 in
set_option maxHeartbeats 2000000 in
theorem specTightPlaces_any (ev : Int) (A : Option Addr) (n c : Nat) (f : Nat → Nat → Int) (p : Int) (B : Option Addr) (m d : Nat) (x : Nat → Int) (W : World) (hn : n ≤ 1048576) (hm : m ≤ 1048576) (hf : RR W 4 A n f) (hx : RI W B m x) :
    Calls Try.prog 47 #[.agg #[.int .i64 ev, .slice A n c], .agg #[.int .i64 p, .slice B m d]] W (RetIE W (len3 (GraphP ev n f) (TimeP ev p m x) (tl (slk f x p) n).length) (fun i => (tl (slk f x p) n).getD i 0) (code3 (GraphP ev n f) (TimeP ev p m x))) := by
  have hb0 : Below W.heap.size W ((W.alloc (Obj.cells #[Value.int .i64 ev, Value.slice A n c] 52)).alloc (Obj.cells #[Value.int .i64 p, Value.slice B m d] 54)) := ((Below.refl _ _).alloc (Nat.le_refl _) _).alloc (by simp) _
  by_cases g : TableP ev n f p m x
  case pos =>
    have hn30 := g.1.2.1
    have HC := Lib.hid (code3_0 g.1 g.2)
    have HL := Lib.hid (len3_0 g.1 g.2 (tl (slk f x p) n).length)
    have HT := Lib.hid g; clear g
    obtain ⟨i0, hi0, hz0, hz1, hz2⟩ := info_parts infoInt64
    go_enter Try.func47, Try.ntmps47
    go_wp2_with fail
    refine (specCode_any ev A n c f p B m d x _ hn hm (hf.below hb0 (Nat.le_refl _)) (hx.below hb0 (Nat.le_refl _))).mono ?_
    rw [HC.out]
    rintro e w1 ⟨rfl, hb1⟩
    have s1 := hb1.size
    simp only [World.size_alloc] at s1
    have hB1 : Below W.heap.size W w1 := hb0.trans (hb1.mono (by simp <;> omega))
    have k0w1 : w1.cell? ⟨W.heap.size, 0, none⟩ = some (Value.int .i64 ev) := (hb1.cell (p := ⟨W.heap.size, 0, none⟩) (by simp <;> omega)).trans (c2a _ _ _ _ _ 0)
    have k1w1 : w1.cell? ⟨W.heap.size, 1, none⟩ = some (Value.slice A n c) := (hb1.cell (p := ⟨W.heap.size, 1, none⟩) (by simp <;> omega)).trans (c2a _ _ _ _ _ 1)
    have m0w1 : w1.cell? ⟨W.heap.size + 1, 0, none⟩ = some (Value.int .i64 p) := (hb1.cell (p := ⟨W.heap.size + 1, 0, none⟩) (by simp <;> omega)).trans (c2b _ _ _ _ _ 0)
    have m1w1 : w1.cell? ⟨W.heap.size + 1, 1, none⟩ = some (Value.slice B m d) := (hb1.cell (p := ⟨W.heap.size + 1, 1, none⟩) (by simp <;> omega)).trans (c2b _ _ _ _ _ 1)
    go_wp2_with fail
    refine (specSlacks_any ev A n c f p B m d x _ (hf.below hB1 (Nat.le_refl _)) (hx.below hB1 (Nat.le_refl _)) HT.out).mono ?_
    rintro e w2 ⟨R, cc, rfl, hsi, hb2⟩
    have HS := Lib.hid hsi.ri; clear hsi
    have s2 := hb2.size
    have hB2 : Below W.heap.size W w2 := hB1.trans (hb2.mono (by omega))
    clear k0w1 k1w1 m0w1 m1w1 hb0 hb1 hb2
    go_wp2
    go_loopw [8, 9] (fun o i wr => ∃ k : Nat, k ≤ n ∧ i = .int .i64 k ∧ Below w2.heap.size w2 wr ∧ wr.ownsRow w2.heap.size 2 1 o (tl (slk f x p) k).length ((tl (slk f x p) k).map (Value.int .i64))) (fun _ i _ => n - (intOf i).toNat)
    case atStart => exact ⟨0, Nat.zero_le _, rfl, (Below.refl _ _).alloc (Nat.le_refl _) _, owns_empty _ 1 (Nat.le_refl _)⟩
    case round =>
      obtain ⟨k, hk, rfl, hbw, hown⟩ := hrel
      have hsz := hbw.size
      by_cases hlt : k < n
      · obtain ⟨b, off, hA, hbl, hc0⟩ := (HS.out.below hbw (Nat.le_refl _)) k hlt
        subst hA
        have hl := tl_len_le (slk f x p) k
        by_cases hv : slk f x p k = 0
        · have HE := Lib.hid (tl_yes hv)
          have hd : (slk f x p k == 0) = true := by simpa using hv
          clear hv
          go_wp2_with (at_builtin; refine wpList_append_lies _ rfl _ _ _ rfl w2.heap.size 2 i0 _ 1 8 Try.underlying24 hi0 hz0 hz1 hz2 rfl (by omega) _ _ _ rfl (hown.alloc _) ⟨wr.heap.size, 0, none⟩ 1 1 [.int .i64 (k : Int)] rfl rfl (World.news_of_block (cs := #[.int .i64 (k : Int)]) (t := 2) (fr := (0, 0)) (heap_alloc_new wr _)) (by simp [Value.oneCell']) (by omega) (by simp [maxLen]; omega) (by omega) (by simp <;> omega) (wr.heap.size + 1) (by simp) ?_; intro gg cap w3 hown1 hgrow hat hlt')
          go_roundw
          case rel =>
            refine ⟨k + 1, by omega, by go_num, ?_, ?_⟩
            · exact below_grown (hbw.alloc hbw.size _) (Nat.le_refl _) hgrow (fun b hb => owns_base hown b hb)
            · rw [HE.out, List.map_append, List.length_append]; exact hown1
          case measure => simp [intOf]; omega
        · have HE := Lib.hid (tl_no hv)
          have hd : (slk f x p k == 0) = false := by simpa using hv
          clear hv
          go_wp2
          go_roundw
          case rel => exact ⟨k + 1, by omega, by go_num, hbw, by rw [HE.out]; exact hown⟩
          case measure => simp [intOf]; omega
      · obtain rfl : k = n := by omega
        obtain ⟨R', cc', rfl, hsi⟩ := SI.of_ownsL hown
        go_wp2
        go_ret2
        exact retIE_row (hB2.trans (hbw.mono (by omega))) rfl (hsi.wide (by omega) (Nat.le_refl _)) HL.out HC.out
  case neg =>
    have hcode : code3 (GraphP ev n f) (TimeP ev p m x) = 1 ∨ code3 (GraphP ev n f) (TimeP ev p m x) = 2 := by
      by_cases g1 : GraphP ev n f
      · exact Or.inr (code3_2 g1 (fun h => g ⟨g1, h⟩))
      · exact Or.inl (code3_1 g1)
    have hlen : len3 (GraphP ev n f) (TimeP ev p m x) (tl (slk f x p) n).length = 0 := by
      by_cases g1 : GraphP ev n f
      · exact len3_2 (fun h => g ⟨g1, h⟩) _
      · exact len3_1 g1 _
    have HL := Lib.hid hlen; clear hlen g
    obtain ⟨Z, hZ⟩ : ∃ Z, code3 (GraphP ev n f) (TimeP ev p m x) = Z := ⟨_, rfl⟩
    rw [hZ] at hcode
    have HC := Lib.hid hZ; clear hZ
    have hne : (Z != 0) = true := by rcases hcode with rfl | rfl <;> rfl
    go_enter Try.func47, Try.ntmps47
    go_wp2_with fail
    refine (specCode_any ev A n c f p B m d x _ hn hm (hf.below hb0 (Nat.le_refl _)) (hx.below hb0 (Nat.le_refl _))).mono ?_
    rw [HC.out]
    rintro e w1 ⟨rfl, hb1⟩
    have s1 := hb1.size
    simp only [World.size_alloc] at s1
    have hB1 : Below W.heap.size W w1 := hb0.trans (hb1.mono (by simp <;> omega))
    go_wp2
    go_ret2
    exact retIE_nil hB1 HL.out HC.out

set_option maxRecDepth 100000 in
set_option maxHeartbeats 2000000 in
theorem implTightPlaces_any (ev : Int) (A : Option Addr) (n c : Nat) (f : Nat → Nat → Int) (p : Int) (B : Option Addr) (m d : Nat) (x : Nat → Int) (W : World) (hn : n ≤ 1048576) (hm : m ≤ 1048576) (hf : RR W 4 A n f) (hx : RI W B m x) :
    Calls Try.prog 48 #[.agg #[.int .i64 ev, .slice A n c], .agg #[.int .i64 p, .slice B m d]] W (RetIE W (len3 (GraphP ev n f) (TimeP ev p m x) (tl (slk f x p) n).length) (fun i => (tl (slk f x p) n).getD i 0) (code3 (GraphP ev n f) (TimeP ev p m x))) := by
  have hb0 : Below W.heap.size W ((W.alloc (Obj.cells #[Value.int .i64 ev, Value.slice A n c] 52)).alloc (Obj.cells #[Value.int .i64 p, Value.slice B m d] 54)) := ((Below.refl _ _).alloc (Nat.le_refl _) _).alloc (by simp) _
  by_cases g : TableP ev n f p m x
  case pos =>
    have hn30 := g.1.2.1
    have HC := Lib.hid (code3_0 g.1 g.2)
    have HL := Lib.hid (len3_0 g.1 g.2 (tl (slk f x p) n).length)
    have HT := Lib.hid g; clear g
    obtain ⟨i0, hi0, hz0, hz1, hz2⟩ := info_parts infoInt64
    go_enter Try.func48, Try.ntmps48
    go_wp2_with fail
    refine (implCode_any ev A n c f p B m d x _ hn hm (hf.below hb0 (Nat.le_refl _)) (hx.below hb0 (Nat.le_refl _))).mono ?_
    rw [HC.out]
    rintro e w1 ⟨rfl, hb1⟩
    have s1 := hb1.size
    simp only [World.size_alloc] at s1
    have hB1 : Below W.heap.size W w1 := hb0.trans (hb1.mono (by simp <;> omega))
    have k0w1 : w1.cell? ⟨W.heap.size, 0, none⟩ = some (Value.int .i64 ev) := (hb1.cell (p := ⟨W.heap.size, 0, none⟩) (by simp <;> omega)).trans (c2a _ _ _ _ _ 0)
    have k1w1 : w1.cell? ⟨W.heap.size, 1, none⟩ = some (Value.slice A n c) := (hb1.cell (p := ⟨W.heap.size, 1, none⟩) (by simp <;> omega)).trans (c2a _ _ _ _ _ 1)
    have m0w1 : w1.cell? ⟨W.heap.size + 1, 0, none⟩ = some (Value.int .i64 p) := (hb1.cell (p := ⟨W.heap.size + 1, 0, none⟩) (by simp <;> omega)).trans (c2b _ _ _ _ _ 0)
    have m1w1 : w1.cell? ⟨W.heap.size + 1, 1, none⟩ = some (Value.slice B m d) := (hb1.cell (p := ⟨W.heap.size + 1, 1, none⟩) (by simp <;> omega)).trans (c2b _ _ _ _ _ 1)
    go_wp2_with fail
    refine (implSlacks_any ev A n c f p B m d x _ (hf.below hB1 (Nat.le_refl _)) (hx.below hB1 (Nat.le_refl _)) HT.out).mono ?_
    rintro e w2 ⟨R, cc, rfl, hsi, hb2⟩
    have HS := Lib.hid hsi.ri; clear hsi
    have s2 := hb2.size
    have hB2 : Below W.heap.size W w2 := hB1.trans (hb2.mono (by omega))
    clear k0w1 k1w1 m0w1 m1w1 hb0 hb1 hb2
    go_wp2
    go_loopw [7, 20, 8, 9] (fun o i _ _ wr => ∃ k : Nat, k ≤ n ∧ i = .int .i64 k ∧ Below w2.heap.size w2 wr ∧ wr.ownsRow w2.heap.size 2 1 o (tl (slk f x p) k).length ((tl (slk f x p) k).map (Value.int .i64))) (fun _ i _ _ _ => n - (intOf i).toNat)
    case atStart => exact ⟨0, Nat.zero_le _, rfl, Below.refl _ _, World.ownsRow_nil _ _ _ _⟩
    case round =>
      obtain ⟨k, hk, rfl, hbw, hown⟩ := hrel
      have hsz := hbw.size
      by_cases hlt : k < n
      · obtain ⟨b, off, hA, hbl, hc0⟩ := (HS.out.below hbw (Nat.le_refl _)) k hlt
        subst hA
        have hl := tl_len_le (slk f x p) k
        by_cases hv : slk f x p k = 0
        · have HE := Lib.hid (tl_yes hv)
          have hd : (slk f x p k == 0) = true := by simpa using hv
          clear hv
          go_wp2_with (at_builtin; refine wpList_append_lies _ rfl _ _ _ rfl w2.heap.size 2 i0 _ 1 8 Try.underlying24 hi0 hz0 hz1 hz2 rfl (by omega) _ _ _ rfl (hown.alloc _) ⟨wr.heap.size, 0, none⟩ 1 1 [.int .i64 (k : Int)] rfl rfl (World.news_of_block (cs := #[.int .i64 (k : Int)]) (t := 2) (fr := (0, 0)) (heap_alloc_new wr _)) (by simp [Value.oneCell']) (by omega) (by simp [maxLen]; omega) (by omega) (by simp <;> omega) (wr.heap.size + 1) (by simp) ?_; intro gg cap w3 hown1 hgrow hat hlt')
          go_roundw
          case rel =>
            refine ⟨k + 1, by omega, by go_num, ?_, ?_⟩
            · exact below_grown (hbw.alloc hbw.size _) (Nat.le_refl _) hgrow (fun b hb => owns_base hown b hb)
            · rw [HE.out, List.map_append, List.length_append]; exact hown1
          case measure => simp [intOf]; omega
        · have HE := Lib.hid (tl_no hv)
          have hd : (slk f x p k == 0) = false := by simpa using hv
          clear hv
          go_wp2
          go_roundw
          case rel => exact ⟨k + 1, by omega, by go_num, hbw, by rw [HE.out]; exact hown⟩
          case measure => simp [intOf]; omega
      · obtain rfl : k = n := by omega
        obtain ⟨R', cc', rfl, hsi⟩ := SI.of_ownsL hown
        go_wp2
        go_ret2
        exact retIE_row (hB2.trans (hbw.mono (by omega))) rfl (hsi.wide (by omega) (Nat.le_refl _)) HL.out HC.out
  case neg =>
    have hcode : code3 (GraphP ev n f) (TimeP ev p m x) = 1 ∨ code3 (GraphP ev n f) (TimeP ev p m x) = 2 := by
      by_cases g1 : GraphP ev n f
      · exact Or.inr (code3_2 g1 (fun h => g ⟨g1, h⟩))
      · exact Or.inl (code3_1 g1)
    have hlen : len3 (GraphP ev n f) (TimeP ev p m x) (tl (slk f x p) n).length = 0 := by
      by_cases g1 : GraphP ev n f
      · exact len3_2 (fun h => g ⟨g1, h⟩) _
      · exact len3_1 g1 _
    have HL := Lib.hid hlen; clear hlen g
    obtain ⟨Z, hZ⟩ : ∃ Z, code3 (GraphP ev n f) (TimeP ev p m x) = Z := ⟨_, rfl⟩
    rw [hZ] at hcode
    have HC := Lib.hid hZ; clear hZ
    have hne : (Z != 0) = true := by rcases hcode with rfl | rfl <;> rfl
    go_enter Try.func48, Try.ntmps48
    go_wp2_with fail
    refine (implCode_any ev A n c f p B m d x _ hn hm (hf.below hb0 (Nat.le_refl _)) (hx.below hb0 (Nat.le_refl _))).mono ?_
    rw [HC.out]
    rintro e w1 ⟨rfl, hb1⟩
    have s1 := hb1.size
    simp only [World.size_alloc] at s1
    have hB1 : Below W.heap.size W w1 := hb0.trans (hb1.mono (by simp <;> omega))
    go_wp2
    go_ret2
    exact retIE_nil hB1 HL.out HC.out

end Go.Proofs.Ytfhpahnflnahkaa
