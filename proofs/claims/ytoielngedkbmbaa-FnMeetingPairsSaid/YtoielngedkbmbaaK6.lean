/- Lists of indices, rectangles. -/
import Derived.Test.YtoielngedkbmbaaK2
import Derived.Test.YtoielngedkbmbaaR3
set_option linter.unusedSimpArgs false
set_option linter.unusedVariables false
set_option maxRecDepth 100000
namespace Go.Proofs.Ytoielngedkbmbaa
open Go.Sym
/-- The indices that are so. -/
def fl (q : Int → Bool) (n : Int) : List Int := ((List.range n.toNat).filter fun (i : Nat) => q i).map fun (i : Nat) => (i : Int)
theorem fl_succ (q : Int → Bool) {j : Int} (h : 0 ≤ j) : fl q (j + 1) = if q j = true then fl q j ++ [j] else fl q j := by
  unfold fl
  rw [show (j + 1).toNat = j.toNat + 1 by omega, List.range_succ, List.filter_append, List.map_append]
  have e : ((j.toNat : Nat) : Int) = j := by omega
  by_cases hq : q j = true
  · rw [if_pos hq]; simp [e, hq]
  · rw [if_neg hq]; simp [e, hq]
theorem mem_fl {q : Int → Bool} {n x : Int} : x ∈ fl q n ↔ (0 ≤ x ∧ x < n) ∧ q x = true := by
  unfold fl
  simp only [List.mem_map, List.mem_filter, List.mem_range]
  constructor
  · rintro ⟨i, ⟨h1, h2⟩, rfl⟩; exact ⟨by omega, h2⟩
  · rintro ⟨h1, h2⟩
    refine ⟨x.toNat, ⟨by omega, ?_⟩, by omega⟩
    rw [Int.toNat_of_nonneg h1.1]; exact h2
theorem fl_len (q : Int → Bool) (n : Int) : (fl q n).length ≤ n.toNat := by
  unfold fl
  rw [List.length_map]
  exact Nat.le_trans (List.length_filter_le _ _) (by simp)
def len' (l : List Int) : Int := (l.length : Nat)
theorem len'_nn (l : List Int) : 0 ≤ len' l := by unfold len'; omega
theorem fl_bd (q : Int → Bool) {n : Int} (h : 0 ≤ n) : 0 ≤ len' (fl q n) ∧ len' (fl q n) ≤ n := by
  have := fl_len q n
  unfold len'; omega
theorem fl_zero (q : Int → Bool) : fl q 0 = [] := rfl
theorem fl_yes {q : Int → Bool} {j : Int} (h : 0 ≤ j) (hq : q j = true) : fl q (j + 1) = fl q j ++ [j] := by rw [fl_succ q h, if_pos hq]
theorem fl_no {q : Int → Bool} {j : Int} (h : 0 ≤ j) (hq : q j = false) : fl q (j + 1) = fl q j := by rw [fl_succ q h, if_neg (by rw [hq]; decide)]
theorem len'_snoc (l : List Int) (x : Int) : len' (l ++ [x]) = len' l + 1 := by unfold len'; simp
theorem selL_old {l : List Int} {x i : Int} (h : 0 ≤ i) (h1 : i < len' l) : selL (l ++ [x]) i = selL l i := by
  unfold selL len' at *
  rw [List.getD_eq_getElem?_getD, List.getD_eq_getElem?_getD, List.getElem?_append_left (by omega)]
theorem selL_new {l : List Int} {x i : Int} (h1 : i = len' l) : selL (l ++ [x]) i = x := by
  unfold selL len' at *
  rw [List.getD_eq_getElem?_getD, List.getElem?_append_right (by omega)]
  simp [show i.toNat - l.length = 0 by omega]
theorem selL_mem {l : List Int} {i : Int} (h0 : 0 ≤ i) (h1 : i < len' l) : selL l i ∈ l := by
  unfold selL len' at *
  rw [List.getD_eq_getElem?_getD, List.getElem?_eq_getElem (by omega)]
  exact List.getElem_mem _
theorem selL_fl {q : Int → Bool} {n i : Int} (h0 : 0 ≤ i) (h1 : i < len' (fl q n)) : 0 ≤ selL (fl q n) i ∧ selL (fl q n) i < n := (mem_fl.1 (selL_mem h0 h1)).1
def eqB (Z : Int → Int) (m : Int) (V : Int → Int) (k : Int) : Bool := decide (m = k) && allB (fun i => decide (Z i = V i)) m
theorem eqB_refl (Z : Int → Int) (m : Int) : eqB Z m Z m = true := by
  unfold eqB
  rw [decide_eq_true rfl, Bool.true_and]
  exact allB_iff.2 fun i _ _ => decide_eq_true rfl
def isInB (Z : Int → Int) (m k : Int) : Bool := !(allB (fun i => !(decide (Z i = k))) m)
theorem isInB_iff {l : List Int} {k : Int} : isInB (selL l) (len' l) k = true ↔ k ∈ l := by
  unfold isInB
  rw [Bool.not_eq_true', ← Bool.not_eq_true, allB_iff]
  constructor
  · intro h
    refine Classical.byContradiction fun hk => h fun i h0 h1 => ?_
    have hm := selL_mem h0 h1
    simp only [Bool.not_eq_true', decide_eq_false_iff_not]
    intro e; rw [e] at hm; exact hk hm
  · intro hk h
    obtain ⟨i, hi, e⟩ := List.mem_iff_getElem.1 hk
    have := h (i : Nat) (by omega) (by unfold len'; omega)
    simp only [Bool.not_eq_true', decide_eq_false_iff_not] at this
    apply this
    unfold selL
    rw [Int.toNat_natCast, List.getD_eq_getElem?_getD, List.getElem?_eq_getElem hi]
    exact e
def rcB (lX lY hX hY : Int) : Bool := okP lX lY && okP hX hY && decide (lX < hX) && decide (lY < hY)
def inR (x y lX lY hX hY : Int) : Bool := decide (lX ≤ x) && decide (x ≤ hX) && decide (lY ≤ y) && decide (y ≤ hY)
def pir (X Y : Int → Int) (n lX lY hX hY : Int) : List Int := if listB X Y n && rcB lX lY hX hY then fl (fun i => inR (X i) (Y i) lX lY hX hY) n else []
theorem i_Rect_valid (rlX : Int) (rlY : Int) (rhX : Int) (rhY : Int) : RunsTo Try.prog 63 [(.agg [(.int .i64 (.v fun _ => rlX) (-9223372036854775808) 9223372036854775807), (.int .i64 (.v fun _ => rlY) (-9223372036854775808) 9223372036854775807), (.int .i64 (.v fun _ => rhX) (-9223372036854775808) 9223372036854775807), (.int .i64 (.v fun _ => rhY) (-9223372036854775808) 9223372036854775807)])] [] (.bool (.v fun _ => rcB rlX rlY rhX rhY)) [] := by
  refine RunsTo.go env Try.func63 rfl Try.call63 rfl rfl (fun _ _ => (.call (c_i_allValid (selL [rlX, rhX]) (selL [rlY, rhY]) 2) (.ite (.ite .ret .ret) .ret))) (G := (((-9223372036854775808) ≤ rlX ∧ rlX ≤ 9223372036854775807) ∧ (((-9223372036854775808) ≤ rlY ∧ rlY ≤ 9223372036854775807) ∧ (((-9223372036854775808) ≤ rhX ∧ rhX ≤ 9223372036854775807) ∧ ((-9223372036854775808) ≤ rhY ∧ rhY ≤ 9223372036854775807)))) → (True) → (((2 : Int) = 2) ∧ ((((2 : Int) = 2) ∧ ((∀ e2 : E, ((e2.den = 0) → ((rlX = (selL [rlX, rhX] (e2.den))) ∧ (rlY = (selL [rlY, rhY] (e2.den)))))) ∧ (∀ e1 : E, ((e1.den = 1) → ((rhX = (selL [rlX, rhX] (e1.den))) ∧ (rhY = (selL [rlY, rhY] (e1.den)))))))) ∧ ((((allB (fun i => okP (selL [rlX, rhX] i) (selL [rlY, rhY] i)) 2) = true) → (((rlX < rhX) → ((rlY < rhY) ↔ ((rcB rlX rlY rhX rhY) = true))) ∧ ((rhX ≤ rlX) → ((rcB rlX rlY rhX rhY) = false)))) ∧ (((allB (fun i => okP (selL [rlX, rhX] i) (selL [rlY, rhY] i)) 2) = false) → ((rcB rlX rlY rhX rhY) = false)))))) (by kernel_rfl) ?_
  intro h1 h2
  have allB2 := fun (q : Int → Bool) => (show allB q 2 = (q 0 && q 1) by simp [allB, List.range_succ])
  refine ⟨rfl, ?_, ?_, ?_⟩
  · refine ⟨rfl, ?_, ?_⟩
    · intro e2
      intro c3
      refine ⟨?_, ?_⟩
      · simp_all [selL]; done
      · simp_all [selL]; done
    · intro e1
      intro c4
      refine ⟨?_, ?_⟩
      · simp_all [selL]; done
      · simp_all [selL]; done
  · intro c5
    refine ⟨?_, ?_⟩
    · intro c6
      simp_all [rcB, allB2, selL]; done
    · intro c7
      simp_all [rcB, allB2, selL]; omega
  · intro c8
    simp_all [rcB, allB2, selL]; done
def c_i_Rect_valid (rlX : Int) (rlY : Int) (rhX : Int) (rhY : Int) : Cn Try.prog := ⟨_, _, _, _, _, i_Rect_valid rlX rlY rhX rhY⟩
theorem s_validRect (rlX : Int) (rlY : Int) (rhX : Int) (rhY : Int) : RunsTo Try.prog 59 [(.agg [(.int .i64 (.v fun _ => rlX) (-9223372036854775808) 9223372036854775807), (.int .i64 (.v fun _ => rlY) (-9223372036854775808) 9223372036854775807), (.int .i64 (.v fun _ => rhX) (-9223372036854775808) 9223372036854775807), (.int .i64 (.v fun _ => rhY) (-9223372036854775808) 9223372036854775807)])] [] (.bool (.v fun _ => rcB rlX rlY rhX rhY)) [] := by
  refine RunsTo.go env Try.func59 rfl Try.call59 rfl rfl (fun _ _ => (.call (c_s_validPoint rlX rlY) (.ite (.call (c_s_validPoint rhX rhY) (.ite (.ite .ret .ret) .ret)) .ret))) (G := (((-9223372036854775808) ≤ rlX ∧ rlX ≤ 9223372036854775807) ∧ (((-9223372036854775808) ≤ rlY ∧ rlY ≤ 9223372036854775807) ∧ (((-9223372036854775808) ≤ rhX ∧ rhX ≤ 9223372036854775807) ∧ ((-9223372036854775808) ≤ rhY ∧ rhY ≤ 9223372036854775807)))) → (True) → (((rlX = rlX) ∧ (rlY = rlY)) ∧ ((((okP rlX rlY) = true) → (((rhX = rhX) ∧ (rhY = rhY)) ∧ ((((okP rhX rhY) = true) → (((rlX < rhX) → ((rlY < rhY) ↔ ((rcB rlX rlY rhX rhY) = true))) ∧ ((rhX ≤ rlX) → ((rcB rlX rlY rhX rhY) = false)))) ∧ (((okP rhX rhY) = false) → ((rcB rlX rlY rhX rhY) = false))))) ∧ (((okP rlX rlY) = false) → ((rcB rlX rlY rhX rhY) = false))))) (by kernel_rfl) ?_
  intro h1 h2
  refine ⟨⟨rfl, rfl⟩, ?_, ?_⟩
  · intro c1
    refine ⟨⟨rfl, rfl⟩, ?_, ?_⟩
    · intro c2
      refine ⟨?_, ?_⟩
      · intro c3
        simp_all [rcB]; done
      · intro c4
        simp_all [rcB]; omega
    · intro c5
      simp_all [rcB]; done
  · intro c6
    simp_all [rcB]; done
def c_s_validRect (rlX : Int) (rlY : Int) (rhX : Int) (rhY : Int) : Cn Try.prog := ⟨_, _, _, _, _, s_validRect rlX rlY rhX rhY⟩
theorem s_inRect (rlX : Int) (rlY : Int) (rhX : Int) (rhY : Int) (pX : Int) (pY : Int) : RunsTo Try.prog 60 [(.agg [(.int .i64 (.v fun _ => rlX) (-9223372036854775808) 9223372036854775807), (.int .i64 (.v fun _ => rlY) (-9223372036854775808) 9223372036854775807), (.int .i64 (.v fun _ => rhX) (-9223372036854775808) 9223372036854775807), (.int .i64 (.v fun _ => rhY) (-9223372036854775808) 9223372036854775807)]), (.agg [(.int .i64 (.v fun _ => pX) (-9223372036854775808) 9223372036854775807), (.int .i64 (.v fun _ => pY) (-9223372036854775808) 9223372036854775807)])] [] (.bool (.v fun _ => inR pX pY rlX rlY rhX rhY)) [] := by
  refine RunsTo.go env Try.func60 rfl Try.call60 rfl rfl (fun _ _ => (.call (c_s_inRange pX rlX rhX) (.ite (.call (c_s_inRange pY rlY rhY) .ret) .ret))) (G := ((((-9223372036854775808) ≤ rlX ∧ rlX ≤ 9223372036854775807) ∧ (((-9223372036854775808) ≤ rlY ∧ rlY ≤ 9223372036854775807) ∧ (((-9223372036854775808) ≤ rhX ∧ rhX ≤ 9223372036854775807) ∧ ((-9223372036854775808) ≤ rhY ∧ rhY ≤ 9223372036854775807)))) ∧ (((-9223372036854775808) ≤ pX ∧ pX ≤ 9223372036854775807) ∧ ((-9223372036854775808) ≤ pY ∧ pY ≤ 9223372036854775807))) → (True) → (((pX = pX) ∧ ((rlX = rlX) ∧ (rhX = rhX))) ∧ ((((decide (rlX ≤ pX) && decide (pX ≤ rhX)) = true) → (((pY = pY) ∧ ((rlY = rlY) ∧ (rhY = rhY))) ∧ (((decide (rlY ≤ pY) && decide (pY ≤ rhY)) = true) ↔ ((inR pX pY rlX rlY rhX rhY) = true)))) ∧ (((decide (rlX ≤ pX) && decide (pX ≤ rhX)) = false) → ((inR pX pY rlX rlY rhX rhY) = false))))) (by kernel_rfl) ?_
  intro h1 h2
  refine ⟨⟨rfl, ⟨rfl, rfl⟩⟩, ?_, ?_⟩
  · intro c1
    refine ⟨⟨rfl, ⟨rfl, rfl⟩⟩, ?_⟩
    simp_all [inR]; done
  · intro c2
    simp_all [inR]; omega
def c_s_inRect (rlX : Int) (rlY : Int) (rhX : Int) (rhY : Int) (pX : Int) (pY : Int) : Cn Try.prog := ⟨_, _, _, _, _, s_inRect rlX rlY rhX rhY pX pY⟩
theorem PointsInRect1 (rlX : Int) (rlY : Int) (rhX : Int) (rhY : Int) (pX : Int) (pY : Int) : RunsTo Try.prog 65 [(.agg [(.int .i64 (.v fun _ => pX) (-9223372036854775808) 9223372036854775807), (.int .i64 (.v fun _ => pY) (-9223372036854775808) 9223372036854775807)]), (.ptr 0 4 (.lit 0) 0)] [some ⟨34, 4, true, (.lit [[(.int .i64 (.v fun _ => rlX) (-9223372036854775808) 9223372036854775807), (.int .i64 (.v fun _ => rlY) (-9223372036854775808) 9223372036854775807), (.int .i64 (.v fun _ => rhX) (-9223372036854775808) 9223372036854775807), (.int .i64 (.v fun _ => rhY) (-9223372036854775808) 9223372036854775807)]])⟩] (.bool (.v fun _ => inR pX pY rlX rlY rhX rhY)) [some ⟨34, 4, true, (.lit [[(.int .i64 (.v fun _ => rlX) (-9223372036854775808) 9223372036854775807), (.int .i64 (.v fun _ => rlY) (-9223372036854775808) 9223372036854775807), (.int .i64 (.v fun _ => rhX) (-9223372036854775808) 9223372036854775807), (.int .i64 (.v fun _ => rhY) (-9223372036854775808) 9223372036854775807)]])⟩] := by
  refine RunsTo.go env Try.func65 rfl Try.call65 rfl rfl (fun _ _ => (.call (c_i_within pX rlX rhX) (.ite (.call (c_i_within pY rlY rhY) .ret) .ret))) (G := (((-9223372036854775808) ≤ pX ∧ pX ≤ 9223372036854775807) ∧ ((-9223372036854775808) ≤ pY ∧ pY ≤ 9223372036854775807)) → (((-9223372036854775808) ≤ rlX ∧ rlX ≤ 9223372036854775807) ∧ (((-9223372036854775808) ≤ rlY ∧ rlY ≤ 9223372036854775807) ∧ (((-9223372036854775808) ≤ rhX ∧ rhX ≤ 9223372036854775807) ∧ ((-9223372036854775808) ≤ rhY ∧ rhY ≤ 9223372036854775807)))) → (((pX = pX) ∧ ((rlX = rlX) ∧ (rhX = rhX))) ∧ ((((decide (rlX ≤ pX) && decide (pX ≤ rhX)) = true) → (((pY = pY) ∧ ((rlY = rlY) ∧ (rhY = rhY))) ∧ ((((decide (rlY ≤ pY) && decide (pY ≤ rhY)) = true) ↔ ((inR pX pY rlX rlY rhX rhY) = true)) ∧ ((rlX = rlX) ∧ ((rlY = rlY) ∧ ((rhX = rhX) ∧ (rhY = rhY))))))) ∧ (((decide (rlX ≤ pX) && decide (pX ≤ rhX)) = false) → (((inR pX pY rlX rlY rhX rhY) = false) ∧ ((rlX = rlX) ∧ ((rlY = rlY) ∧ ((rhX = rhX) ∧ (rhY = rhY))))))))) (by kernel_rfl) ?_
  intro h1 h2
  refine ⟨⟨rfl, ⟨rfl, rfl⟩⟩, ?_, ?_⟩
  · intro c1
    refine ⟨⟨rfl, ⟨rfl, rfl⟩⟩, ?_, rfl, rfl, rfl, rfl⟩
    simp_all [inR]; done
  · intro c2
    refine ⟨?_, rfl, rfl, rfl, rfl⟩
    simp_all [inR]; omega
def c_PointsInRect1 (rlX : Int) (rlY : Int) (rhX : Int) (rhY : Int) (pX : Int) (pY : Int) : Cn Try.prog := ⟨_, _, _, _, _, PointsInRect1 rlX rlY rhX rhY pX pY⟩
theorem i_picked_r (X : Int → Int) (Y : Int → Int) (n : Int) (rlX : Int) (rlY : Int) (rhX : Int) (rhY : Int) : RunsTo Try.prog 64 [(.sl 0 2 (.lit 0) (.v fun _ => n) 20), (.fn 65 [(.ptr 1 4 (.lit 0) 0)])] [some ⟨32, 2, true, (.sym (.v fun _ => n) fun e => [(.int .i64 (.v fun _ => (X (e.den))) (-9223372036854775808) 9223372036854775807), (.int .i64 (.v fun _ => (Y (e.den))) (-9223372036854775808) 9223372036854775807)])⟩, some ⟨34, 4, true, (.lit [[(.int .i64 (.v fun _ => rlX) (-9223372036854775808) 9223372036854775807), (.int .i64 (.v fun _ => rlY) (-9223372036854775808) 9223372036854775807), (.int .i64 (.v fun _ => rhX) (-9223372036854775808) 9223372036854775807), (.int .i64 (.v fun _ => rhY) (-9223372036854775808) 9223372036854775807)]])⟩] (.sl 2 1 (.lit 0) (.v fun _ => len' (fl (fun i => inR (X (i)) (Y (i)) rlX rlY rhX rhY) n)) 1048576) [some ⟨32, 2, true, (.sym (.v fun _ => n) fun e => [(.int .i64 (.v fun _ => (X (e.den))) (-9223372036854775808) 9223372036854775807), (.int .i64 (.v fun _ => (Y (e.den))) (-9223372036854775808) 9223372036854775807)])⟩, some ⟨34, 4, true, (.lit [[(.int .i64 (.v fun _ => rlX) (-9223372036854775808) 9223372036854775807), (.int .i64 (.v fun _ => rlY) (-9223372036854775808) 9223372036854775807), (.int .i64 (.v fun _ => rhX) (-9223372036854775808) 9223372036854775807), (.int .i64 (.v fun _ => rhY) (-9223372036854775808) 9223372036854775807)]])⟩, some ⟨3, 1, true, (.sym (.v fun _ => len' (fl (fun i => inR (X (i)) (Y (i)) rlX rlY rhX rhY) n)) fun e => [(.int .i64 (.v fun _ => selL (fl (fun i => inR (X (i)) (Y (i)) rlX rlY rhX rhY) n) e.den) 0 1048576)])⟩] := by
  refine RunsTo.go env Try.func64 rfl Try.call64 rfl rfl (fun _ _ => (.need (.loop [] [0, 1, 2] (Int) (fun x1 => ⟨spl 32 0 [(1, (.fn 65 [(.ptr 1 4 (.lit 0) 0)])), (4, (.raw (.slice none 0 0))), (5, (.sl 2 1 (.lit 0) (.v fun _ => len' (fl (fun i => inR (X (i)) (Y (i)) rlX rlY rhX rhY) x1)) 1048576)), (11, (.sl 0 2 (.lit 0) (.v fun _ => n) 20)), (12, (.int .i64 (.v fun _ => n) 0 20)), (13, (.int .i64 (.v fun _ => x1) 0 20))], [some ⟨32, 2, true, (.sym (.v fun _ => n) fun e => [(.int .i64 (.v fun _ => (X (e.den))) (-9223372036854775808) 9223372036854775807), (.int .i64 (.v fun _ => (Y (e.den))) (-9223372036854775808) 9223372036854775807)])⟩, some ⟨34, 4, true, (.lit [[(.int .i64 (.v fun _ => rlX) (-9223372036854775808) 9223372036854775807), (.int .i64 (.v fun _ => rlY) (-9223372036854775808) 9223372036854775807), (.int .i64 (.v fun _ => rhX) (-9223372036854775808) 9223372036854775807), (.int .i64 (.v fun _ => rhY) (-9223372036854775808) 9223372036854775807)]])⟩, some ⟨3, 1, true, (.sym (.v fun _ => len' (fl (fun i => inR (X (i)) (Y (i)) rlX rlY rhX rhY) x1)) fun e => [(.int .i64 (.v fun _ => selL (fl (fun i => inR (X (i)) (Y (i)) rlX rlY rhX rhY) x1) (e.den)) 0 1048576)])⟩], 2⟩) (fun x1 => 0 ≤ x1 ∧ x1 ≤ n) (fun x1 => (n - x1).toNat) fun x1 => (.ite (.need (.need (.call (c_PointsInRect1 rlX rlY rhX rhY ((X (x1))) ((Y (x1)))) (.ite (.need (.next [0, 1, 2])) (.next [0, 1, 2]))))) (.out (.need .ret)))))) (G := (0 ≤ n ∧ n ≤ 20) → ((∀ e13 : E, ((0 ≤ e13.den ∧ e13.den < n) → (((-9223372036854775808) ≤ ((X (e13.den))) ∧ ((X (e13.den))) ≤ 9223372036854775807) ∧ ((-9223372036854775808) ≤ ((Y (e13.den))) ∧ ((Y (e13.den))) ≤ 9223372036854775807)))) ∧ (((-9223372036854775808) ≤ rlX ∧ rlX ≤ 9223372036854775807) ∧ (((-9223372036854775808) ≤ rlY ∧ rlY ≤ 9223372036854775807) ∧ (((-9223372036854775808) ≤ rhX ∧ rhX ≤ 9223372036854775807) ∧ ((-9223372036854775808) ≤ rhY ∧ rhY ≤ 9223372036854775807))))) → ((0 ≤ n) ∧ ((∃ y2 : Int, ((0 ≤ y2 ∧ y2 ≤ n) ∧ (((((.slice none 0 0) : Value) = (.slice none 0 0)) ∧ (((0 : Int) = (len' (fl (fun i => inR (X (i)) (Y (i)) rlX rlY rhX rhY) y2))) ∧ ((n = n) ∧ ((n = n) ∧ ((0 : Int) = y2))))) ∧ (((n ≤ n) ∧ (∀ e3 : E, ((0 ≤ e3.den ∧ e3.den < n) → ((((X (e3.den))) = ((X (e3.den)))) ∧ (((Y (e3.den))) = ((Y (e3.den)))))))) ∧ (((rlX = rlX) ∧ ((rlY = rlY) ∧ ((rhX = rhX) ∧ (rhY = rhY)))) ∧ ((len' (fl (fun i => inR (X (i)) (Y (i)) rlX rlY rhX rhY) y2)) = 0)))))) ∧ (∀ x1 : Int, ((0 ≤ x1 ∧ x1 ≤ n) → (((x1 < n) → ((((0 ≤ x1) ∧ (x1 < n))) ∧ ((x1 < n) ∧ (((((X (x1))) = ((X (x1)))) ∧ (((Y (x1))) = ((Y (x1))))) ∧ (((rlX = rlX) ∧ ((rlY = rlY) ∧ ((rhX = rhX) ∧ (rhY = rhY)))) ∧ ((((inR ((X (x1))) ((Y (x1))) rlX rlY rhX rhY) = true) → (((len' (fl (fun i => inR (X (i)) (Y (i)) rlX rlY rhX rhY) x1)) = (len' (fl (fun i => inR (X (i)) (Y (i)) rlX rlY rhX rhY) x1))) ∧ (∃ y4 : Int, ((0 ≤ y4 ∧ y4 ≤ n) ∧ ((((((.slice none 0 0) : Value) = (.slice none 0 0)) ∧ (((((len' (fl (fun i => inR (X (i)) (Y (i)) rlX rlY rhX rhY) x1)) + 1) = (len' (fl (fun i => inR (X (i)) (Y (i)) rlX rlY rhX rhY) y4))) ∧ ((((len' (fl (fun i => inR (X (i)) (Y (i)) rlX rlY rhX rhY) x1)) + 1) ≤ 1048577) → ((len' (fl (fun i => inR (X (i)) (Y (i)) rlX rlY rhX rhY) y4)) ≤ 1048576))) ∧ ((n = n) ∧ ((n = n) ∧ (((x1 + 1) = y4) ∧ ((1 ≤ (x1 + 1) ∧ (x1 + 1) ≤ 21) → (0 ≤ y4 ∧ y4 ≤ 20))))))) ∧ (((n ≤ n) ∧ (∀ e7 : E, ((0 ≤ e7.den ∧ e7.den < n) → ((((X (e7.den))) = ((X (e7.den)))) ∧ (((Y (e7.den))) = ((Y (e7.den)))))))) ∧ (((rlX = rlX) ∧ ((rlY = rlY) ∧ ((rhX = rhX) ∧ (rhY = rhY)))) ∧ (((0 : Int) ≤ (len' (fl (fun i => inR (X (i)) (Y (i)) rlX rlY rhX rhY) x1)) ∧ (len' (fl (fun i => inR (X (i)) (Y (i)) rlX rlY rhX rhY) y4)) = (len' (fl (fun i => inR (X (i)) (Y (i)) rlX rlY rhX rhY) x1)) + 1) ∧ ((((len' (fl (fun i => inR (X (i)) (Y (i)) rlX rlY rhX rhY) x1)) ≤ (len' (fl (fun i => inR (X (i)) (Y (i)) rlX rlY rhX rhY) x1))) ∧ (∀ e6 : E, ((0 ≤ e6.den ∧ e6.den < (len' (fl (fun i => inR (X (i)) (Y (i)) rlX rlY rhX rhY) x1))) → ((selL (fl (fun i => inR (X (i)) (Y (i)) rlX rlY rhX rhY) x1) (e6.den)) = (selL (fl (fun i => inR (X (i)) (Y (i)) rlX rlY rhX rhY) y4) (e6.den)))))) ∧ (∀ e5 : E, ((e5.den = (len' (fl (fun i => inR (X (i)) (Y (i)) rlX rlY rhX rhY) x1))) → (x1 = (selL (fl (fun i => inR (X (i)) (Y (i)) rlX rlY rhX rhY) y4) (e5.den)))))))))) ∧ ((n - y4).toNat < (n - x1).toNat)))))) ∧ (((inR ((X (x1))) ((Y (x1))) rlX rlY rhX rhY) = false) → (∃ y8 : Int, ((0 ≤ y8 ∧ y8 ≤ n) ∧ ((((((.slice none 0 0) : Value) = (.slice none 0 0)) ∧ (((len' (fl (fun i => inR (X (i)) (Y (i)) rlX rlY rhX rhY) x1)) = (len' (fl (fun i => inR (X (i)) (Y (i)) rlX rlY rhX rhY) y8))) ∧ ((n = n) ∧ ((n = n) ∧ (((x1 + 1) = y8) ∧ ((1 ≤ (x1 + 1) ∧ (x1 + 1) ≤ 21) → (0 ≤ y8 ∧ y8 ≤ 20))))))) ∧ (((n ≤ n) ∧ (∀ e10 : E, ((0 ≤ e10.den ∧ e10.den < n) → ((((X (e10.den))) = ((X (e10.den)))) ∧ (((Y (e10.den))) = ((Y (e10.den)))))))) ∧ (((rlX = rlX) ∧ ((rlY = rlY) ∧ ((rhX = rhX) ∧ (rhY = rhY)))) ∧ (((len' (fl (fun i => inR (X (i)) (Y (i)) rlX rlY rhX rhY) y8)) ≤ (len' (fl (fun i => inR (X (i)) (Y (i)) rlX rlY rhX rhY) x1))) ∧ (∀ e9 : E, ((0 ≤ e9.den ∧ e9.den < (len' (fl (fun i => inR (X (i)) (Y (i)) rlX rlY rhX rhY) y8))) → ((selL (fl (fun i => inR (X (i)) (Y (i)) rlX rlY rhX rhY) x1) (e9.den)) = (selL (fl (fun i => inR (X (i)) (Y (i)) rlX rlY rhX rhY) y8) (e9.den))))))))) ∧ ((n - y8).toNat < (n - x1).toNat))))))))))) ∧ ((n ≤ x1) → ((((0 ≤ (len' (fl (fun i => inR (X (i)) (Y (i)) rlX rlY rhX rhY) x1))) ∧ ((((len' (fl (fun i => inR (X (i)) (Y (i)) rlX rlY rhX rhY) x1)) ≤ (len' (fl (fun i => inR (X (i)) (Y (i)) rlX rlY rhX rhY) x1))) ∧ ((len' (fl (fun i => inR (X (i)) (Y (i)) rlX rlY rhX rhY) x1)) ≤ (len' (fl (fun i => inR (X (i)) (Y (i)) rlX rlY rhX rhY) x1))))))) ∧ (((len' (fl (fun i => inR (X (i)) (Y (i)) rlX rlY rhX rhY) x1)) = (len' (fl (fun i => inR (X (i)) (Y (i)) rlX rlY rhX rhY) n))) ∧ (((n ≤ n) ∧ (∀ e12 : E, ((0 ≤ e12.den ∧ e12.den < n) → ((((X (e12.den))) = ((X (e12.den)))) ∧ (((Y (e12.den))) = ((Y (e12.den)))))))) ∧ (((rlX = rlX) ∧ ((rlY = rlY) ∧ ((rhX = rhX) ∧ (rhY = rhY)))) ∧ (((len' (fl (fun i => inR (X (i)) (Y (i)) rlX rlY rhX rhY) n)) ≤ (len' (fl (fun i => inR (X (i)) (Y (i)) rlX rlY rhX rhY) x1))) ∧ (∀ e11 : E, ((0 ≤ e11.den ∧ e11.den < (len' (fl (fun i => inR (X (i)) (Y (i)) rlX rlY rhX rhY) n))) → ((selL (fl (fun i => inR (X (i)) (Y (i)) rlX rlY rhX rhY) x1) (e11.den)) = (selL (fl (fun i => inR (X (i)) (Y (i)) rlX rlY rhX rhY) n) e11.den)))))))))))))))) (by kernel_rfl) ?_
  intro h1 h2
  have hfb := fun j (h : 0 ≤ j) => fl_bd (fun i => inR (X (i)) (Y (i)) rlX rlY rhX rhY) (n := j) h
  refine ⟨?_, ?_, ?_⟩
  · omega
  · refine ⟨0, ?_⟩
    try dsimp only
    refine ⟨?_, ?_, ⟨Int.le_refl _, fun _ => fun _ => ⟨rfl, rfl⟩⟩, ⟨rfl, ⟨rfl, ⟨rfl, rfl⟩⟩⟩, ?_⟩
    · omega
    · refine ⟨rfl, ?_, rfl, rfl, ?_⟩
      · rfl
      · rfl
    · rfl
  · intro j
    intro I1
    refine ⟨?_, ?_⟩
    · intro c14
      refine ⟨?_, ?_, ⟨rfl, rfl⟩, ⟨rfl, ⟨rfl, ⟨rfl, rfl⟩⟩⟩, ?_, ?_⟩
      · omega
      · omega
      · intro c15
        refine ⟨?_, ?_⟩
        · rfl
        · refine ⟨j + 1, ?_⟩
          try dsimp only
          refine ⟨?_, ?_, ?_⟩
          · omega
          · refine ⟨?_, ⟨Int.le_refl _, fun _ => fun _ => ⟨rfl, rfl⟩⟩, ⟨rfl, ⟨rfl, ⟨rfl, rfl⟩⟩⟩, ?_, ?_, ?_⟩
            · refine ⟨rfl, ?_, rfl, rfl, ?_, ?_⟩
              · refine ⟨?_, ?_⟩
                · rw [fl_yes I1.1 (by assumption), len'_snoc] <;> omega
                · intro c16
                  have hb := hfb (j + 1) (by omega); omega
              · rfl
              · intro c17
                omega
            · have hb := hfb j I1.1; rw [fl_yes I1.1 (by assumption), len'_snoc]; omega
            · refine ⟨Int.le_refl _, ?_⟩
              intro e6
              intro c18
              rw [fl_yes I1.1 (by assumption), selL_old (by omega) (by omega)]; done
            · intro e5
              intro c19
              rw [fl_yes I1.1 (by assumption), selL_new (by assumption)]; done
          · omega
      · intro c20
        refine ⟨j + 1, ?_⟩
        try dsimp only
        refine ⟨?_, ?_, ?_⟩
        · omega
        · refine ⟨?_, ⟨Int.le_refl _, fun _ => fun _ => ⟨rfl, rfl⟩⟩, ⟨rfl, ⟨rfl, ⟨rfl, rfl⟩⟩⟩, ?_, ?_⟩
          · refine ⟨rfl, ?_, rfl, rfl, ?_, ?_⟩
            · rw [fl_no I1.1 (by assumption)] <;> omega
            · rfl
            · intro c21
              omega
          · rw [fl_no I1.1 (by assumption)] <;> omega
          · intro e9
            intro c22
            rw [fl_no I1.1 (by assumption)] <;> omega
        · omega
    · intro c23
      refine ⟨?_, ?_, ⟨Int.le_refl _, fun _ => fun _ => ⟨rfl, rfl⟩⟩, ⟨rfl, ⟨rfl, ⟨rfl, rfl⟩⟩⟩, ?_, ?_⟩
      · have hb := hfb j I1.1; omega
      · have e : j = n := (by omega); rw [e] <;> omega
      · have e : j = n := (by omega); rw [e] <;> omega
      · intro e11
        intro c24
        have e : j = n := (by omega); rw [e] <;> omega
def c_i_picked_r (X : Int → Int) (Y : Int → Int) (n : Int) (rlX : Int) (rlY : Int) (rhX : Int) (rhY : Int) : Cn Try.prog := ⟨_, _, _, _, _, i_picked_r X Y n rlX rlY rhX rhY⟩
theorem i_PointsInRect (X : Int → Int) (Y : Int → Int) (n : Int) (rlX : Int) (rlY : Int) (rhX : Int) (rhY : Int) : RunsTo Try.prog 19 [(.sl 0 2 (.lit 0) (.v fun _ => n) 1048576), (.agg [(.int .i64 (.v fun _ => rlX) (-9223372036854775808) 9223372036854775807), (.int .i64 (.v fun _ => rlY) (-9223372036854775808) 9223372036854775807), (.int .i64 (.v fun _ => rhX) (-9223372036854775808) 9223372036854775807), (.int .i64 (.v fun _ => rhY) (-9223372036854775808) 9223372036854775807)])] [some ⟨32, 2, true, (.sym (.v fun _ => n) fun e => [(.int .i64 (.v fun _ => (X (e.den))) (-9223372036854775808) 9223372036854775807), (.int .i64 (.v fun _ => (Y (e.den))) (-9223372036854775808) 9223372036854775807)])⟩] (.sl 1 1 (.lit 0) (.v fun _ => len' (pir X Y n rlX rlY rhX rhY)) 1048576) [some ⟨32, 2, true, (.sym (.v fun _ => n) fun e => [(.int .i64 (.v fun _ => (X (e.den))) (-9223372036854775808) 9223372036854775807), (.int .i64 (.v fun _ => (Y (e.den))) (-9223372036854775808) 9223372036854775807)])⟩, some ⟨3, 1, true, (.sym (.v fun _ => len' (pir X Y n rlX rlY rhX rhY)) fun e => [(.int .i64 (.v fun _ => selL (pir X Y n rlX rlY rhX rhY) e.den) 0 1048576)])⟩] := by
  refine RunsTo.go env Try.func19 rfl Try.call19 rfl rfl (fun _ _ => (.call (c_i_listOk X Y n) (.ite .ret (.call (c_i_Rect_valid rlX rlY rhX rhY) (.ite .ret (.call (c_i_picked_r X Y n rlX rlY rhX rhY) .ret)))))) (G := ((0 ≤ n ∧ n ≤ 1048576) ∧ (((-9223372036854775808) ≤ rlX ∧ rlX ≤ 9223372036854775807) ∧ (((-9223372036854775808) ≤ rlY ∧ rlY ≤ 9223372036854775807) ∧ (((-9223372036854775808) ≤ rhX ∧ rhX ≤ 9223372036854775807) ∧ ((-9223372036854775808) ≤ rhY ∧ rhY ≤ 9223372036854775807))))) → (∀ e7 : E, ((0 ≤ e7.den ∧ e7.den < n) → (((-9223372036854775808) ≤ ((X (e7.den))) ∧ ((X (e7.den))) ≤ 9223372036854775807) ∧ ((-9223372036854775808) ≤ ((Y (e7.den))) ∧ ((Y (e7.den))) ≤ 9223372036854775807)))) → ((n = n) ∧ (((n ≤ n) ∧ (∀ e1 : E, ((0 ≤ e1.den ∧ e1.den < n) → ((((X (e1.den))) = ((X (e1.den)))) ∧ (((Y (e1.den))) = ((Y (e1.den)))))))) ∧ ((((listB X Y n) = false) → (((0 : Int) = (len' (pir X Y n rlX rlY rhX rhY))) ∧ (((n ≤ n) ∧ (∀ e2 : E, ((0 ≤ e2.den ∧ e2.den < n) → ((((X (e2.den))) = ((X (e2.den)))) ∧ (((Y (e2.den))) = ((Y (e2.den)))))))) ∧ ((len' (pir X Y n rlX rlY rhX rhY)) = 0)))) ∧ (((listB X Y n) = true) → (((rlX = rlX) ∧ ((rlY = rlY) ∧ ((rhX = rhX) ∧ (rhY = rhY)))) ∧ ((((rcB rlX rlY rhX rhY) = false) → (((0 : Int) = (len' (pir X Y n rlX rlY rhX rhY))) ∧ (((n ≤ n) ∧ (∀ e3 : E, ((0 ≤ e3.den ∧ e3.den < n) → ((((X (e3.den))) = ((X (e3.den)))) ∧ (((Y (e3.den))) = ((Y (e3.den)))))))) ∧ ((len' (pir X Y n rlX rlY rhX rhY)) = 0)))) ∧ (((rcB rlX rlY rhX rhY) = true) → (((n = n) ∧ ((n ≤ 1048576) → (n ≤ 20))) ∧ ((((n ≤ n) ∧ (∀ e4 : E, ((0 ≤ e4.den ∧ e4.den < n) → ((((X (e4.den))) = ((X (e4.den)))) ∧ (((Y (e4.den))) = ((Y (e4.den)))))))) ∧ ((rlX = rlX) ∧ ((rlY = rlY) ∧ ((rhX = rhX) ∧ (rhY = rhY))))) ∧ (((len' (fl (fun i => inR ((X (i))) ((Y (i))) rlX rlY rhX rhY) n)) = (len' (pir X Y n rlX rlY rhX rhY))) ∧ (((n ≤ n) ∧ (∀ e6 : E, ((0 ≤ e6.den ∧ e6.den < n) → ((((X (e6.den))) = ((X (e6.den)))) ∧ (((Y (e6.den))) = ((Y (e6.den)))))))) ∧ (((len' (pir X Y n rlX rlY rhX rhY)) ≤ (len' (fl (fun i => inR ((X (i))) ((Y (i))) rlX rlY rhX rhY) n))) ∧ (∀ e5 : E, ((0 ≤ e5.den ∧ e5.den < (len' (pir X Y n rlX rlY rhX rhY))) → ((selL (fl (fun i => inR ((X (i))) ((Y (i))) rlX rlY rhX rhY) n) (e5.den)) = (selL (pir X Y n rlX rlY rhX rhY) e5.den))))))))))))))))) (by kernel_rfl) ?_
  intro h1 h2
  refine ⟨rfl, ⟨Int.le_refl _, fun _ => fun _ => ⟨rfl, rfl⟩⟩, ?_, ?_⟩
  · intro c8
    refine ⟨?_, ⟨Int.le_refl _, fun _ => fun _ => ⟨rfl, rfl⟩⟩, ?_⟩
    · simp [pir, len', *]; done
    · simp [pir, len', *]; done
  · intro c9
    refine ⟨⟨rfl, ⟨rfl, ⟨rfl, rfl⟩⟩⟩, ?_, ?_⟩
    · intro c10
      refine ⟨?_, ⟨Int.le_refl _, fun _ => fun _ => ⟨rfl, rfl⟩⟩, ?_⟩
      · simp [pir, len', *]; done
      · simp [pir, len', *]; done
    · intro c11
      refine ⟨?_, ⟨⟨Int.le_refl _, fun _ => fun _ => ⟨rfl, rfl⟩⟩, ⟨rfl, ⟨rfl, ⟨rfl, rfl⟩⟩⟩⟩, ?_, ⟨Int.le_refl _, fun _ => fun _ => ⟨rfl, rfl⟩⟩, ?_, ?_⟩
      · refine ⟨rfl, ?_⟩
        intro c12
        have hl := listB_n (show listB X Y n = true by assumption); omega
      · simp [pir, len', *]; done
      · simp [pir, len', *]; done
      · intro e5
        intro c13
        simp [pir, len', *]; done
def c_i_PointsInRect (X : Int → Int) (Y : Int → Int) (n : Int) (rlX : Int) (rlY : Int) (rhX : Int) (rhY : Int) : Cn Try.prog := ⟨_, _, _, _, _, i_PointsInRect X Y n rlX rlY rhX rhY⟩
theorem s_PointsInRect (X : Int → Int) (Y : Int → Int) (n : Int) (rlX : Int) (rlY : Int) (rhX : Int) (rhY : Int) : RunsTo Try.prog 16 [(.sl 0 2 (.lit 0) (.v fun _ => n) 1048576), (.agg [(.int .i64 (.v fun _ => rlX) (-9223372036854775808) 9223372036854775807), (.int .i64 (.v fun _ => rlY) (-9223372036854775808) 9223372036854775807), (.int .i64 (.v fun _ => rhX) (-9223372036854775808) 9223372036854775807), (.int .i64 (.v fun _ => rhY) (-9223372036854775808) 9223372036854775807)])] [some ⟨32, 2, true, (.sym (.v fun _ => n) fun e => [(.int .i64 (.v fun _ => (X (e.den))) (-9223372036854775808) 9223372036854775807), (.int .i64 (.v fun _ => (Y (e.den))) (-9223372036854775808) 9223372036854775807)])⟩] (.sl 1 1 (.lit 0) (.v fun _ => len' (pir X Y n rlX rlY rhX rhY)) 1048576) [some ⟨32, 2, true, (.sym (.v fun _ => n) fun e => [(.int .i64 (.v fun _ => (X (e.den))) (-9223372036854775808) 9223372036854775807), (.int .i64 (.v fun _ => (Y (e.den))) (-9223372036854775808) 9223372036854775807)])⟩, some ⟨3, 1, true, (.sym (.v fun _ => len' (pir X Y n rlX rlY rhX rhY)) fun e => [(.int .i64 (.v fun _ => selL (pir X Y n rlX rlY rhX rhY) e.den) 0 1048576)])⟩] := by
  refine RunsTo.go env Try.func16 rfl Try.call16 rfl rfl (fun _ _ => (.call (c_s_validPoints X Y n) (.ite .ret (.call (c_s_validRect rlX rlY rhX rhY) (.ite .ret (.loop [] [0, 1, 2] (Int) (fun x4 => ⟨spl 33 0 [(0, (.sl 0 2 (.lit 0) (.v fun _ => n) 1048576)), (3, (.ptr 1 4 (.lit 0) 0)), (4, (.raw (.slice none 0 0))), (5, (.sl 2 1 (.lit 0) (.v fun _ => len' (fl (fun i => inR (X (i)) (Y (i)) rlX rlY rhX rhY) x4)) 1048576)), (6, (.int .i64 (.v fun _ => x4) 0 1048576))], [some ⟨32, 2, true, (.sym (.v fun _ => n) fun e => [(.int .i64 (.v fun _ => ((X (e.den)))) (-9223372036854775808) 9223372036854775807), (.int .i64 (.v fun _ => ((Y (e.den)))) (-9223372036854775808) 9223372036854775807)])⟩, some ⟨34, 4, true, (.lit [[(.int .i64 (.v fun _ => rlX) (-9223372036854775808) 9223372036854775807), (.int .i64 (.v fun _ => rlY) (-9223372036854775808) 9223372036854775807), (.int .i64 (.v fun _ => rhX) (-9223372036854775808) 9223372036854775807), (.int .i64 (.v fun _ => rhY) (-9223372036854775808) 9223372036854775807)]])⟩, some ⟨3, 1, true, (.sym (.v fun _ => len' (fl (fun i => inR (X (i)) (Y (i)) rlX rlY rhX rhY) x4)) fun e => [(.int .i64 (.v fun _ => selL (fl (fun i => inR (X (i)) (Y (i)) rlX rlY rhX rhY) x4) (e.den)) 0 1048576)])⟩], 1⟩) (fun x4 => 0 ≤ x4 ∧ x4 ≤ n) (fun x4 => (n - x4).toNat) fun x4 => (.ite (.need (.need (.call (c_s_inRect rlX rlY rhX rhY ((X (x4))) ((Y (x4)))) (.ite (.need (.next [0, 1, 2])) (.next [0, 1, 2]))))) (.out .ret)))))))) (G := ((0 ≤ n ∧ n ≤ 1048576) ∧ (((-9223372036854775808) ≤ rlX ∧ rlX ≤ 9223372036854775807) ∧ (((-9223372036854775808) ≤ rlY ∧ rlY ≤ 9223372036854775807) ∧ (((-9223372036854775808) ≤ rhX ∧ rhX ≤ 9223372036854775807) ∧ ((-9223372036854775808) ≤ rhY ∧ rhY ≤ 9223372036854775807))))) → (∀ e16 : E, ((0 ≤ e16.den ∧ e16.den < n) → (((-9223372036854775808) ≤ ((X (e16.den))) ∧ ((X (e16.den))) ≤ 9223372036854775807) ∧ ((-9223372036854775808) ≤ ((Y (e16.den))) ∧ ((Y (e16.den))) ≤ 9223372036854775807)))) → ((n = n) ∧ (((n ≤ n) ∧ (∀ e1 : E, ((0 ≤ e1.den ∧ e1.den < n) → ((((X (e1.den))) = ((X (e1.den)))) ∧ (((Y (e1.den))) = ((Y (e1.den)))))))) ∧ ((((listB X Y n) = false) → (((0 : Int) = (len' (pir X Y n rlX rlY rhX rhY))) ∧ (((n ≤ n) ∧ (∀ e2 : E, ((0 ≤ e2.den ∧ e2.den < n) → ((((X (e2.den))) = ((X (e2.den)))) ∧ (((Y (e2.den))) = ((Y (e2.den)))))))) ∧ ((len' (pir X Y n rlX rlY rhX rhY)) = 0)))) ∧ (((listB X Y n) = true) → (((rlX = rlX) ∧ ((rlY = rlY) ∧ ((rhX = rhX) ∧ (rhY = rhY)))) ∧ ((((rcB rlX rlY rhX rhY) = false) → (((0 : Int) = (len' (pir X Y n rlX rlY rhX rhY))) ∧ (((n ≤ n) ∧ (∀ e3 : E, ((0 ≤ e3.den ∧ e3.den < n) → ((((X (e3.den))) = ((X (e3.den)))) ∧ (((Y (e3.den))) = ((Y (e3.den)))))))) ∧ ((len' (pir X Y n rlX rlY rhX rhY)) = 0)))) ∧ (((rcB rlX rlY rhX rhY) = true) → ((∃ y5 : Int, ((0 ≤ y5 ∧ y5 ≤ n) ∧ (((n = n) ∧ ((((.slice none 0 0) : Value) = (.slice none 0 0)) ∧ (((0 : Int) = (len' (fl (fun i => inR (X (i)) (Y (i)) rlX rlY rhX rhY) y5))) ∧ ((0 : Int) = y5)))) ∧ (((n ≤ n) ∧ (∀ e6 : E, ((0 ≤ e6.den ∧ e6.den < n) → ((((X (e6.den))) = ((X (e6.den)))) ∧ (((Y (e6.den))) = ((Y (e6.den)))))))) ∧ (((rlX = rlX) ∧ ((rlY = rlY) ∧ ((rhX = rhX) ∧ (rhY = rhY)))) ∧ ((len' (fl (fun i => inR (X (i)) (Y (i)) rlX rlY rhX rhY) y5)) = 0)))))) ∧ (∀ x4 : Int, ((0 ≤ x4 ∧ x4 ≤ n) → (((x4 < n) → ((((0 ≤ x4) ∧ (x4 < n))) ∧ ((x4 < n) ∧ ((((rlX = rlX) ∧ ((rlY = rlY) ∧ ((rhX = rhX) ∧ (rhY = rhY)))) ∧ ((((X (x4))) = ((X (x4)))) ∧ (((Y (x4))) = ((Y (x4)))))) ∧ ((((inR ((X (x4))) ((Y (x4))) rlX rlY rhX rhY) = true) → (((len' (fl (fun i => inR (X (i)) (Y (i)) rlX rlY rhX rhY) x4)) = (len' (fl (fun i => inR (X (i)) (Y (i)) rlX rlY rhX rhY) x4))) ∧ (∃ y7 : Int, ((0 ≤ y7 ∧ y7 ≤ n) ∧ ((((n = n) ∧ ((((.slice none 0 0) : Value) = (.slice none 0 0)) ∧ (((((len' (fl (fun i => inR (X (i)) (Y (i)) rlX rlY rhX rhY) x4)) + 1) = (len' (fl (fun i => inR (X (i)) (Y (i)) rlX rlY rhX rhY) y7))) ∧ ((((len' (fl (fun i => inR (X (i)) (Y (i)) rlX rlY rhX rhY) x4)) + 1) ≤ 1048577) → ((len' (fl (fun i => inR (X (i)) (Y (i)) rlX rlY rhX rhY) y7)) ≤ 1048576))) ∧ (((x4 + 1) = y7) ∧ ((1 ≤ (x4 + 1) ∧ (x4 + 1) ≤ 1048577) → (0 ≤ y7 ∧ y7 ≤ 1048576)))))) ∧ (((n ≤ n) ∧ (∀ e10 : E, ((0 ≤ e10.den ∧ e10.den < n) → ((((X (e10.den))) = ((X (e10.den)))) ∧ (((Y (e10.den))) = ((Y (e10.den)))))))) ∧ (((rlX = rlX) ∧ ((rlY = rlY) ∧ ((rhX = rhX) ∧ (rhY = rhY)))) ∧ (((0 : Int) ≤ (len' (fl (fun i => inR (X (i)) (Y (i)) rlX rlY rhX rhY) x4)) ∧ (len' (fl (fun i => inR (X (i)) (Y (i)) rlX rlY rhX rhY) y7)) = (len' (fl (fun i => inR (X (i)) (Y (i)) rlX rlY rhX rhY) x4)) + 1) ∧ ((((len' (fl (fun i => inR (X (i)) (Y (i)) rlX rlY rhX rhY) x4)) ≤ (len' (fl (fun i => inR (X (i)) (Y (i)) rlX rlY rhX rhY) x4))) ∧ (∀ e9 : E, ((0 ≤ e9.den ∧ e9.den < (len' (fl (fun i => inR (X (i)) (Y (i)) rlX rlY rhX rhY) x4))) → ((selL (fl (fun i => inR (X (i)) (Y (i)) rlX rlY rhX rhY) x4) (e9.den)) = (selL (fl (fun i => inR (X (i)) (Y (i)) rlX rlY rhX rhY) y7) (e9.den)))))) ∧ (∀ e8 : E, ((e8.den = (len' (fl (fun i => inR (X (i)) (Y (i)) rlX rlY rhX rhY) x4))) → (x4 = (selL (fl (fun i => inR (X (i)) (Y (i)) rlX rlY rhX rhY) y7) (e8.den)))))))))) ∧ ((n - y7).toNat < (n - x4).toNat)))))) ∧ (((inR ((X (x4))) ((Y (x4))) rlX rlY rhX rhY) = false) → (∃ y11 : Int, ((0 ≤ y11 ∧ y11 ≤ n) ∧ ((((n = n) ∧ ((((.slice none 0 0) : Value) = (.slice none 0 0)) ∧ (((len' (fl (fun i => inR (X (i)) (Y (i)) rlX rlY rhX rhY) x4)) = (len' (fl (fun i => inR (X (i)) (Y (i)) rlX rlY rhX rhY) y11))) ∧ (((x4 + 1) = y11) ∧ ((1 ≤ (x4 + 1) ∧ (x4 + 1) ≤ 1048577) → (0 ≤ y11 ∧ y11 ≤ 1048576)))))) ∧ (((n ≤ n) ∧ (∀ e13 : E, ((0 ≤ e13.den ∧ e13.den < n) → ((((X (e13.den))) = ((X (e13.den)))) ∧ (((Y (e13.den))) = ((Y (e13.den)))))))) ∧ (((rlX = rlX) ∧ ((rlY = rlY) ∧ ((rhX = rhX) ∧ (rhY = rhY)))) ∧ (((len' (fl (fun i => inR (X (i)) (Y (i)) rlX rlY rhX rhY) y11)) ≤ (len' (fl (fun i => inR (X (i)) (Y (i)) rlX rlY rhX rhY) x4))) ∧ (∀ e12 : E, ((0 ≤ e12.den ∧ e12.den < (len' (fl (fun i => inR (X (i)) (Y (i)) rlX rlY rhX rhY) y11))) → ((selL (fl (fun i => inR (X (i)) (Y (i)) rlX rlY rhX rhY) x4) (e12.den)) = (selL (fl (fun i => inR (X (i)) (Y (i)) rlX rlY rhX rhY) y11) (e12.den))))))))) ∧ ((n - y11).toNat < (n - x4).toNat)))))))))) ∧ ((n ≤ x4) → (((len' (fl (fun i => inR (X (i)) (Y (i)) rlX rlY rhX rhY) x4)) = (len' (pir X Y n rlX rlY rhX rhY))) ∧ (((n ≤ n) ∧ (∀ e15 : E, ((0 ≤ e15.den ∧ e15.den < n) → ((((X (e15.den))) = ((X (e15.den)))) ∧ (((Y (e15.den))) = ((Y (e15.den)))))))) ∧ (((len' (pir X Y n rlX rlY rhX rhY)) ≤ (len' (fl (fun i => inR (X (i)) (Y (i)) rlX rlY rhX rhY) x4))) ∧ (∀ e14 : E, ((0 ≤ e14.den ∧ e14.den < (len' (pir X Y n rlX rlY rhX rhY))) → ((selL (fl (fun i => inR (X (i)) (Y (i)) rlX rlY rhX rhY) x4) (e14.den)) = (selL (pir X Y n rlX rlY rhX rhY) e14.den)))))))))))))))))))) (by kernel_rfl) ?_
  intro h1 h2
  have hfb := fun j (h : 0 ≤ j) => fl_bd (fun i => inR (X (i)) (Y (i)) rlX rlY rhX rhY) (n := j) h
  refine ⟨rfl, ⟨Int.le_refl _, fun _ => fun _ => ⟨rfl, rfl⟩⟩, ?_, ?_⟩
  · intro c17
    refine ⟨?_, ⟨Int.le_refl _, fun _ => fun _ => ⟨rfl, rfl⟩⟩, ?_⟩
    · simp [pir, len', *]; done
    · simp [pir, len', *]; done
  · intro c18
    refine ⟨⟨rfl, ⟨rfl, ⟨rfl, rfl⟩⟩⟩, ?_, ?_⟩
    · intro c19
      refine ⟨?_, ⟨Int.le_refl _, fun _ => fun _ => ⟨rfl, rfl⟩⟩, ?_⟩
      · simp [pir, len', *]; done
      · simp [pir, len', *]; done
    · intro c20
      refine ⟨?_, ?_⟩
      · refine ⟨0, ?_⟩
        try dsimp only
        refine ⟨?_, ?_, ⟨Int.le_refl _, fun _ => fun _ => ⟨rfl, rfl⟩⟩, ⟨rfl, ⟨rfl, ⟨rfl, rfl⟩⟩⟩, ?_⟩
        · omega
        · refine ⟨rfl, rfl, ?_, ?_⟩
          · rfl
          · rfl
        · rfl
      · intro j
        intro I1
        refine ⟨?_, ?_⟩
        · intro c21
          refine ⟨?_, ?_, ⟨⟨rfl, ⟨rfl, ⟨rfl, rfl⟩⟩⟩, ⟨rfl, rfl⟩⟩, ?_, ?_⟩
          · omega
          · omega
          · intro c22
            refine ⟨?_, ?_⟩
            · rfl
            · refine ⟨j + 1, ?_⟩
              try dsimp only
              refine ⟨?_, ?_, ?_⟩
              · omega
              · refine ⟨?_, ⟨Int.le_refl _, fun _ => fun _ => ⟨rfl, rfl⟩⟩, ⟨rfl, ⟨rfl, ⟨rfl, rfl⟩⟩⟩, ?_, ?_, ?_⟩
                · refine ⟨rfl, rfl, ?_, ?_, ?_⟩
                  · refine ⟨?_, ?_⟩
                    · rw [fl_yes I1.1 (by assumption), len'_snoc] <;> omega
                    · intro c23
                      have hb := hfb (j + 1) (by omega); omega
                  · rfl
                  · intro c24
                    omega
                · have hb := hfb j I1.1; rw [fl_yes I1.1 (by assumption), len'_snoc]; omega
                · refine ⟨Int.le_refl _, ?_⟩
                  intro e9
                  intro c25
                  rw [fl_yes I1.1 (by assumption), selL_old (by omega) (by omega)]; done
                · intro e8
                  intro c26
                  rw [fl_yes I1.1 (by assumption), selL_new (by assumption)]; done
              · omega
          · intro c27
            refine ⟨j + 1, ?_⟩
            try dsimp only
            refine ⟨?_, ?_, ?_⟩
            · omega
            · refine ⟨?_, ⟨Int.le_refl _, fun _ => fun _ => ⟨rfl, rfl⟩⟩, ⟨rfl, ⟨rfl, ⟨rfl, rfl⟩⟩⟩, ?_, ?_⟩
              · refine ⟨rfl, rfl, ?_, ?_, ?_⟩
                · rw [fl_no I1.1 (by assumption)] <;> omega
                · rfl
                · intro c28
                  omega
              · rw [fl_no I1.1 (by assumption)] <;> omega
              · intro e12
                intro c29
                rw [fl_no I1.1 (by assumption)] <;> omega
            · omega
        · intro c30
          refine ⟨?_, ⟨Int.le_refl _, fun _ => fun _ => ⟨rfl, rfl⟩⟩, ?_, ?_⟩
          · have e : j = n := (by omega); simp [pir, e, *]; done
          · have e : j = n := (by omega); simp [pir, e, *]; done
          · intro e14
            intro c31
            have e : j = n := (by omega); simp [pir, e, *]; done
def c_s_PointsInRect (X : Int → Int) (Y : Int → Int) (n : Int) (rlX : Int) (rlY : Int) (rhX : Int) (rhY : Int) : Cn Try.prog := ⟨_, _, _, _, _, s_PointsInRect X Y n rlX rlY rhX rhY⟩
end Go.Proofs.Ytoielngedkbmbaa
