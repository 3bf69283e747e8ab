/- Lists of indices, rectangles. -/
import Derived.Test.YtbldachljmhfjaaK2
import Derived.Test.YtbldachljmhfjaaR3
set_option linter.unusedSimpArgs false
set_option linter.unusedVariables false
set_option maxRecDepth 100000
namespace Go.Proofs.Ytbldachljmhfjaa
open Go.Sym
/-- The indices that are so. -/
def fl (q : Int → Bool) (n : Int) : List Int := ((List.range n.toNat).filter fun (i : Nat) => q i).map fun (i : Nat) => (i : Int)
theorem fl_succ (q : Int → Bool) {j : Int} (h : 0 ≤ j) : fl q (j + 1) = if q j = true then fl q j ++ [j] else fl q j := by
  unfold fl
  rw [show (j + 1).toNat = j.toNat + 1 by omega, List.range_succ, List.filter_append, List.map_append]
  have e : ((j.toNat : Nat) : Int) = j := by omega
  by_cases hq : q j = true
  · rw [if_pos hq]; simp [e, hq]
  · rw [if_neg hq]; simp [e, hq]
theorem mem_fl {q : Int → Bool} {n x : Int} : x ∈ fl q n ↔ (0 ≤ x ∧ x < n) ∧ q x = true := by
  unfold fl
  simp only [List.mem_map, List.mem_filter, List.mem_range]
  constructor
  · rintro ⟨i, ⟨h1, h2⟩, rfl⟩; exact ⟨by omega, h2⟩
  · rintro ⟨h1, h2⟩
    refine ⟨x.toNat, ⟨by omega, ?_⟩, by omega⟩
    rw [Int.toNat_of_nonneg h1.1]; exact h2
theorem fl_len (q : Int → Bool) (n : Int) : (fl q n).length ≤ n.toNat := by
  unfold fl
  rw [List.length_map]
  exact Nat.le_trans (List.length_filter_le _ _) (by simp)
def len' (l : List Int) : Int := (l.length : Nat)
theorem len'_nn (l : List Int) : 0 ≤ len' l := by unfold len'; omega
theorem fl_bd (q : Int → Bool) {n : Int} (h : 0 ≤ n) : 0 ≤ len' (fl q n) ∧ len' (fl q n) ≤ n := by
  have := fl_len q n
  unfold len'; omega
theorem fl_zero (q : Int → Bool) : fl q 0 = [] := rfl
theorem fl_yes {q : Int → Bool} {j : Int} (h : 0 ≤ j) (hq : q j = true) : fl q (j + 1) = fl q j ++ [j] := by rw [fl_succ q h, if_pos hq]
theorem fl_no {q : Int → Bool} {j : Int} (h : 0 ≤ j) (hq : q j = false) : fl q (j + 1) = fl q j := by rw [fl_succ q h, if_neg (by rw [hq]; decide)]
theorem len'_snoc (l : List Int) (x : Int) : len' (l ++ [x]) = len' l + 1 := by unfold len'; simp
theorem selL_old {l : List Int} {x i : Int} (h : 0 ≤ i) (h1 : i < len' l) : selL (l ++ [x]) i = selL l i := by
  unfold selL len' at *
  rw [List.getD_eq_getElem?_getD, List.getD_eq_getElem?_getD, List.getElem?_append_left (by omega)]
theorem selL_new {l : List Int} {x i : Int} (h1 : i = len' l) : selL (l ++ [x]) i = x := by
  unfold selL len' at *
  rw [List.getD_eq_getElem?_getD, List.getElem?_append_right (by omega)]
  simp [show i.toNat - l.length = 0 by omega]
theorem selL_mem {l : List Int} {i : Int} (h0 : 0 ≤ i) (h1 : i < len' l) : selL l i ∈ l := by
  unfold selL len' at *
  rw [List.getD_eq_getElem?_getD, List.getElem?_eq_getElem (by omega)]
  exact List.getElem_mem _
theorem selL_fl {q : Int → Bool} {n i : Int} (h0 : 0 ≤ i) (h1 : i < len' (fl q n)) : 0 ≤ selL (fl q n) i ∧ selL (fl q n) i < n := (mem_fl.1 (selL_mem h0 h1)).1
def eqB (Z : Int → Int) (m : Int) (V : Int → Int) (k : Int) : Bool := decide (m = k) && allB (fun i => decide (Z i = V i)) m
theorem eqB_refl (Z : Int → Int) (m : Int) : eqB Z m Z m = true := by
  unfold eqB
  rw [decide_eq_true rfl, Bool.true_and]
  exact allB_iff.2 fun i _ _ => decide_eq_true rfl
def isInB (Z : Int → Int) (m k : Int) : Bool := !(allB (fun i => !(decide (Z i = k))) m)
theorem isInB_iff {l : List Int} {k : Int} : isInB (selL l) (len' l) k = true ↔ k ∈ l := by
  unfold isInB
  rw [Bool.not_eq_true', ← Bool.not_eq_true, allB_iff]
  constructor
  · intro h
    refine Classical.byContradiction fun hk => h fun i h0 h1 => ?_
    have hm := selL_mem h0 h1
    simp only [Bool.not_eq_true', decide_eq_false_iff_not]
    intro e; rw [e] at hm; exact hk hm
  · intro hk h
    obtain ⟨i, hi, e⟩ := List.mem_iff_getElem.1 hk
    have := h (i : Nat) (by omega) (by unfold len'; omega)
    simp only [Bool.not_eq_true', decide_eq_false_iff_not] at this
    apply this
    unfold selL
    rw [Int.toNat_natCast, List.getD_eq_getElem?_getD, List.getElem?_eq_getElem hi]
    exact e
def rcB (lX lY hX hY : Int) : Bool := okP lX lY && okP hX hY && decide (lX < hX) && decide (lY < hY)
def inR (x y lX lY hX hY : Int) : Bool := decide (lX ≤ x) && decide (x ≤ hX) && decide (lY ≤ y) && decide (y ≤ hY)
def pir (X Y : Int → Int) (n lX lY hX hY : Int) : List Int := if listB X Y n && rcB lX lY hX hY then fl (fun i => inR (X i) (Y i) lX lY hX hY) n else []
end Go.Proofs.Ytbldachljmhfjaa
