/- Lists of indices, rectangles. -/
import Derived.Test.YtljhomjaamjfaaaK2
import Derived.Test.YtljhomjaamjfaaaR3
set_option linter.unusedSimpArgs false
set_option linter.unusedVariables false
set_option maxRecDepth 100000
namespace Go.Proofs.Ytljhomjaamjfaaa
open Go.Sym
/-- The indices that are so. -/
def fl (q : Int → Bool) (n : Int) : List Int := ((List.range n.toNat).filter fun (i : Nat) => q i).map fun (i : Nat) => (i : Int)
theorem fl_succ (q : Int → Bool) {j : Int} (h : 0 ≤ j) : fl q (j + 1) = if q j = true then fl q j ++ [j] else fl q j := by
  unfold fl
  rw [show (j + 1).toNat = j.toNat + 1 by omega, List.range_succ, List.filter_append, List.map_append]
  have e : ((j.toNat : Nat) : Int) = j := by omega
  by_cases hq : q j = true
  · rw [if_pos hq]; simp [e, hq]
  · rw [if_neg hq]; simp [e, hq]
theorem mem_fl {q : Int → Bool} {n x : Int} : x ∈ fl q n ↔ (0 ≤ x ∧ x < n) ∧ q x = true := by
  unfold fl
  simp only [List.mem_map, List.mem_filter, List.mem_range]
  constructor
  · rintro ⟨i, ⟨h1, h2⟩, rfl⟩; exact ⟨by omega, h2⟩
  · rintro ⟨h1, h2⟩
    refine ⟨x.toNat, ⟨by omega, ?_⟩, by omega⟩
    rw [Int.toNat_of_nonneg h1.1]; exact h2
theorem fl_len (q : Int → Bool) (n : Int) : (fl q n).length ≤ n.toNat := by
  unfold fl
  rw [List.length_map]
  exact Nat.le_trans (List.length_filter_le _ _) (by simp)
def len' (l : List Int) : Int := (l.length : Nat)
theorem len'_nn (l : List Int) : 0 ≤ len' l := by unfold len'; omega
theorem fl_bd (q : Int → Bool) {n : Int} (h : 0 ≤ n) : 0 ≤ len' (fl q n) ∧ len' (fl q n) ≤ n := by
  have := fl_len q n
  unfold len'; omega
theorem fl_zero (q : Int → Bool) : fl q 0 = [] := rfl
theorem fl_yes {q : Int → Bool} {j : Int} (h : 0 ≤ j) (hq : q j = true) : fl q (j + 1) = fl q j ++ [j] := by rw [fl_succ q h, if_pos hq]
theorem fl_no {q : Int → Bool} {j : Int} (h : 0 ≤ j) (hq : q j = false) : fl q (j + 1) = fl q j := by rw [fl_succ q h, if_neg (by rw [hq]; decide)]
theorem len'_snoc (l : List Int) (x : Int) : len' (l ++ [x]) = len' l + 1 := by unfold len'; simp
theorem selL_old {l : List Int} {x i : Int} (h : 0 ≤ i) (h1 : i < len' l) : selL (l ++ [x]) i = selL l i := by
  unfold selL len' at *
  rw [List.getD_eq_getElem?_getD, List.getD_eq_getElem?_getD, List.getElem?_append_left (by omega)]
theorem selL_new {l : List Int} {x i : Int} (h1 : i = len' l) : selL (l ++ [x]) i = x := by
  unfold selL len' at *
  rw [List.getD_eq_getElem?_getD, List.getElem?_append_right (by omega)]
  simp [show i.toNat - l.length = 0 by omega]
theorem selL_mem {l : List Int} {i : Int} (h0 : 0 ≤ i) (h1 : i < len' l) : selL l i ∈ l := by
  unfold selL len' at *
  rw [List.getD_eq_getElem?_getD, List.getElem?_eq_getElem (by omega)]
  exact List.getElem_mem _
theorem selL_fl {q : Int → Bool} {n i : Int} (h0 : 0 ≤ i) (h1 : i < len' (fl q n)) : 0 ≤ selL (fl q n) i ∧ selL (fl q n) i < n := (mem_fl.1 (selL_mem h0 h1)).1
def eqB (Z : Int → Int) (m : Int) (V : Int → Int) (k : Int) : Bool := decide (m = k) && allB (fun i => decide (Z i = V i)) m
theorem eqB_refl (Z : Int → Int) (m : Int) : eqB Z m Z m = true := by
  unfold eqB
  rw [decide_eq_true rfl, Bool.true_and]
  exact allB_iff.2 fun i _ _ => decide_eq_true rfl
def isInB (Z : Int → Int) (m k : Int) : Bool := !(allB (fun i => !(decide (Z i = k))) m)
theorem isInB_iff {l : List Int} {k : Int} : isInB (selL l) (len' l) k = true ↔ k ∈ l := by
  unfold isInB
  rw [Bool.not_eq_true', ← Bool.not_eq_true, allB_iff]
  constructor
  · intro h
    refine Classical.byContradiction fun hk => h fun i h0 h1 => ?_
    have hm := selL_mem h0 h1
    simp only [Bool.not_eq_true', decide_eq_false_iff_not]
    intro e; rw [e] at hm; exact hk hm
  · intro hk h
    obtain ⟨i, hi, e⟩ := List.mem_iff_getElem.1 hk
    have := h (i : Nat) (by omega) (by unfold len'; omega)
    simp only [Bool.not_eq_true', decide_eq_false_iff_not] at this
    apply this
    unfold selL
    rw [Int.toNat_natCast, List.getD_eq_getElem?_getD, List.getElem?_eq_getElem hi]
    exact e
def rcB (lX lY hX hY : Int) : Bool := okP lX lY && okP hX hY && decide (lX < hX) && decide (lY < hY)
def inR (x y lX lY hX hY : Int) : Bool := decide (lX ≤ x) && decide (x ≤ hX) && decide (lY ≤ y) && decide (y ≤ hY)
def pir (X Y : Int → Int) (n lX lY hX hY : Int) : List Int := if listB X Y n && rcB lX lY hX hY then fl (fun i => inR (X i) (Y i) lX lY hX hY) n else []
theorem l_equalInts (Z : Int → Int) (m : Int) (V : Int → Int) (k : Int) : RunsTo Try.prog 6 [(.sl 0 1 (.lit 0) (.v fun _ => m) 1048576), (.sl 1 1 (.lit 0) (.v fun _ => k) 1048576)] [some ⟨3, 1, true, (.sym (.v fun _ => m) fun e => [(.int .i64 (.v fun _ => (Z (e.den))) 0 1048576)])⟩, some ⟨3, 1, true, (.sym (.v fun _ => k) fun e => [(.int .i64 (.v fun _ => (V (e.den))) 0 1048576)])⟩] (.bool (.v fun _ => eqB Z m V k)) [some ⟨3, 1, true, (.sym (.v fun _ => m) fun e => [(.int .i64 (.v fun _ => (Z (e.den))) 0 1048576)])⟩, some ⟨3, 1, true, (.sym (.v fun _ => k) fun e => [(.int .i64 (.v fun _ => (V (e.den))) 0 1048576)])⟩] := by
  refine RunsTo.go env Try.func6 rfl Try.call6 rfl rfl (fun _ _ => (.ite .ret (.loop [] [0, 1] (Int) (fun x3 => ⟨spl 26 0 [(0, (.sl 0 1 (.lit 0) (.v fun _ => m) 1048576)), (1, (.sl 1 1 (.lit 0) (.v fun _ => k) 1048576)), (5, (.int .i64 (.v fun _ => x3) 0 1048576))], [some ⟨3, 1, true, (.sym (.v fun _ => m) fun e => [(.int .i64 (.v fun _ => (Z (e.den))) 0 1048576)])⟩, some ⟨3, 1, true, (.sym (.v fun _ => k) fun e => [(.int .i64 (.v fun _ => (V (e.den))) 0 1048576)])⟩], 2⟩) (fun x3 => (0 ≤ x3 ∧ x3 ≤ m) ∧ ∀ i, 0 ≤ i → i < x3 → decide ((Z (i)) = (V (i))) = true) (fun x3 => (m - x3).toNat) fun x3 => (.ite (.need (.need (.need (.need (.ite (.out .ret) (.next [0, 1])))))) (.out .ret))))) (G := ((0 ≤ m ∧ m ≤ 1048576) ∧ (0 ≤ k ∧ k ≤ 1048576)) → ((∀ e15 : E, ((0 ≤ e15.den ∧ e15.den < m) → (0 ≤ ((Z (e15.den))) ∧ ((Z (e15.den))) ≤ 1048576))) ∧ (∀ e14 : E, ((0 ≤ e14.den ∧ e14.den < k) → (0 ≤ ((V (e14.den))) ∧ ((V (e14.den))) ≤ 1048576)))) → (((m ≠ k) → (((eqB Z m V k) = false) ∧ (((m ≤ m) ∧ (∀ e2 : E, ((0 ≤ e2.den ∧ e2.den < m) → (((Z (e2.den))) = ((Z (e2.den))))))) ∧ ((k ≤ k) ∧ (∀ e1 : E, ((0 ≤ e1.den ∧ e1.den < k) → (((V (e1.den))) = ((V (e1.den)))))))))) ∧ ((m = k) → ((∃ y4 : Int, (((0 ≤ y4 ∧ y4 ≤ m) ∧ ∀ i, 0 ≤ i → i < y4 → decide ((Z (i)) = (V (i))) = true) ∧ (((m = m) ∧ ((k = k) ∧ ((0 : Int) = y4))) ∧ (((m ≤ m) ∧ (∀ e6 : E, ((0 ≤ e6.den ∧ e6.den < m) → (((Z (e6.den))) = ((Z (e6.den))))))) ∧ ((k ≤ k) ∧ (∀ e5 : E, ((0 ≤ e5.den ∧ e5.den < k) → (((V (e5.den))) = ((V (e5.den))))))))))) ∧ (∀ x3 : Int, (((0 ≤ x3 ∧ x3 ≤ m) ∧ ∀ i, 0 ≤ i → i < x3 → decide ((Z (i)) = (V (i))) = true) → (((x3 < m) → ((((0 ≤ x3) ∧ (x3 < m))) ∧ ((x3 < m) ∧ ((((0 ≤ x3) ∧ (x3 < k))) ∧ ((x3 < k) ∧ (((((Z (x3))) ≠ ((V (x3)))) → (((eqB Z m V k) = false) ∧ (((m ≤ m) ∧ (∀ e8 : E, ((0 ≤ e8.den ∧ e8.den < m) → (((Z (e8.den))) = ((Z (e8.den))))))) ∧ ((k ≤ k) ∧ (∀ e7 : E, ((0 ≤ e7.den ∧ e7.den < k) → (((V (e7.den))) = ((V (e7.den)))))))))) ∧ ((((Z (x3))) = ((V (x3)))) → (∃ y9 : Int, (((0 ≤ y9 ∧ y9 ≤ m) ∧ ∀ i, 0 ≤ i → i < y9 → decide ((Z (i)) = (V (i))) = true) ∧ ((((m = m) ∧ ((k = k) ∧ (((x3 + 1) = y9) ∧ ((1 ≤ (x3 + 1) ∧ (x3 + 1) ≤ 1048577) → (0 ≤ y9 ∧ y9 ≤ 1048576))))) ∧ (((m ≤ m) ∧ (∀ e11 : E, ((0 ≤ e11.den ∧ e11.den < m) → (((Z (e11.den))) = ((Z (e11.den))))))) ∧ ((k ≤ k) ∧ (∀ e10 : E, ((0 ≤ e10.den ∧ e10.den < k) → (((V (e10.den))) = ((V (e10.den))))))))) ∧ ((m - y9).toNat < (m - x3).toNat))))))))))) ∧ ((m ≤ x3) → (((eqB Z m V k) = true) ∧ (((m ≤ m) ∧ (∀ e13 : E, ((0 ≤ e13.den ∧ e13.den < m) → (((Z (e13.den))) = ((Z (e13.den))))))) ∧ ((k ≤ k) ∧ (∀ e12 : E, ((0 ≤ e12.den ∧ e12.den < k) → (((V (e12.den))) = ((V (e12.den))))))))))))))))) (by kernel_rfl) ?_
  intro h1 h2
  refine ⟨?_, ?_⟩
  · intro c16
    refine ⟨?_, ⟨Int.le_refl _, fun _ => fun _ => rfl⟩, Int.le_refl _, fun _ => fun _ => rfl⟩
    simp [eqB]; omega
  · intro c17
    refine ⟨?_, ?_⟩
    · refine ⟨0, ?_⟩
      try dsimp only
      refine ⟨?_, ?_, ⟨Int.le_refl _, fun _ => fun _ => rfl⟩, Int.le_refl _, fun _ => fun _ => rfl⟩
      · refine ⟨by omega, fun i a b => ?_⟩; first | (exfalso; omega) | (by_cases e : i = j; (subst e; exact decide_eq_true (by assumption)); exact I1.2 i a (by omega))
      · refine ⟨rfl, rfl, ?_⟩
        rfl
    · intro j
      intro I1
      refine ⟨?_, ?_⟩
      · intro c18
        refine ⟨?_, ?_, ?_, ?_, ?_, ?_⟩
        · omega
        · omega
        · omega
        · omega
        · intro c19
          refine ⟨?_, ⟨Int.le_refl _, fun _ => fun _ => rfl⟩, Int.le_refl _, fun _ => fun _ => rfl⟩
          simp only [eqB]; rw [allB_false (q := fun i => decide (Z i = V i)) I1.1.1 (by omega) (decide_eq_false (by assumption))]; simp; done
        · intro c20
          refine ⟨j + 1, ?_⟩
          try dsimp only
          refine ⟨?_, ?_, ?_⟩
          · refine ⟨by omega, fun i a b => ?_⟩; first | (exfalso; omega) | (by_cases e : i = j; (subst e; exact decide_eq_true (by assumption)); exact I1.2 i a (by omega))
          · refine ⟨?_, ⟨Int.le_refl _, fun _ => fun _ => rfl⟩, Int.le_refl _, fun _ => fun _ => rfl⟩
            refine ⟨rfl, rfl, ?_, ?_⟩
            · rfl
            · intro c21
              omega
          · omega
      · intro c22
        refine ⟨?_, ⟨Int.le_refl _, fun _ => fun _ => rfl⟩, Int.le_refl _, fun _ => fun _ => rfl⟩
        simp only [eqB]; rw [allB_iff.2 fun i a b => I1.2 i a (by omega)]; simp; omega
def c_l_equalInts (Z : Int → Int) (m : Int) (V : Int → Int) (k : Int) : Cn Try.prog := ⟨_, _, _, _, _, l_equalInts Z m V k⟩
end Go.Proofs.Ytljhomjaamjfaaa
