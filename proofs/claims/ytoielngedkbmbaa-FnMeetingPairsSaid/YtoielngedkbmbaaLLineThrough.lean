/- FnLineThrough: the walk. -/
import Derived.Test.YtoielngedkbmbaaK12
set_option linter.unusedSimpArgs false
set_option linter.unusedVariables false
set_option maxRecDepth 100000
namespace Go.Proofs.Ytoielngedkbmbaa
open Go.Sym
theorem lt_line {aX aY bX bY : Int} : ltA (bX - aX) (bY - aY) * (bX - aX) + ltB (bX - aX) (bY - aY) * (bY - aY) = 0 := by
  have h1 := gcdI_right (bX - aX) (bY - aY)
  have h2 := gcdI_left (bX - aX) (bY - aY)
  unfold ltA ltB
  generalize gcdI (bX - aX) (bY - aY) = g at *
  obtain ⟨u, hu⟩ := h1
  obtain ⟨v, hv⟩ := h2
  rw [hu, hv]
  by_cases h0 : g = 0
  · subst h0; simp
  · rw [Int.mul_ediv_cancel_left _ h0, Int.mul_ediv_cancel_left _ h0]
    split <;> grind
theorem ediv_neg_of {x g : Int} (h : g ∣ x) : (0 - x) / g = -(x / g) := by rw [Int.zero_sub]; exact Int.neg_ediv_of_dvd h
theorem lt_symm {dX dY : Int} (h : dX ≠ 0 ∨ dY ≠ 0) : ltA (0 - dX) (0 - dY) = ltA dX dY ∧ ltB (0 - dX) (0 - dY) = ltB dX dY := by
  have e1 := ediv_neg_of (gcdI_right dX dY)
  have e2 := ediv_neg_of (gcdI_left dX dY)
  unfold ltA ltB
  rw [gcdI_neg, e1, e2]
  by_cases hs : dY < 0 ∨ (dY = 0 ∧ 0 < dX)
  · have s1 : ltS dX dY = true := by simp only [ltS, Bool.or_eq_true, Bool.and_eq_true, decide_eq_true_eq]; exact hs
    have s2 : ¬ ltS (0 - dX) (0 - dY) = true := by simp only [ltS, Bool.or_eq_true, Bool.and_eq_true, decide_eq_true_eq]; omega
    rw [if_pos s1, if_pos s1, if_neg s2, if_neg s2]; omega
  · have s1 : ¬ ltS dX dY = true := by simp only [ltS, Bool.or_eq_true, Bool.and_eq_true, decide_eq_true_eq]; exact hs
    have s2 : ltS (0 - dX) (0 - dY) = true := by simp only [ltS, Bool.or_eq_true, Bool.and_eq_true, decide_eq_true_eq]; omega
    rw [if_neg s1, if_neg s1, if_pos s2, if_pos s2]; omega
theorem lt_cop {dX dY : Int} (h : dX ≠ 0 ∨ dY ≠ 0) : gcdI (ltA dX dY) (ltB dX dY) = 1 := by
  have hp := g_pos h
  have hg : gcdI (dX / gcdI dX dY) (dY / gcdI dX dY) = 1 := by
    unfold gcdI
    unfold gcdI at hp
    have := Int.gcd_ediv_gcd_ediv_gcd (i := dX) (j := dY) (by omega)
    rw [this]; rfl
  unfold ltA ltB
  split
  · rw [show -(dY / gcdI dX dY) = 0 - dY / gcdI dX dY by omega, gcdI_neg_left, gcdI_comm]; exact hg
  · rw [show -(dX / gcdI dX dY) = 0 - dX / gcdI dX dY by omega, gcdI_neg_r, gcdI_comm]; exact hg
theorem ediv_sign {x g : Int} (hg : 1 ≤ g) (h : g ∣ x) : (0 < x → 0 < x / g) ∧ (x < 0 → x / g < 0) ∧ (x = 0 → x / g = 0) := by
  obtain ⟨u, hu⟩ := h
  subst hu
  rw [Int.mul_ediv_cancel_left _ (by omega)]
  refine ⟨fun h => ?_, fun h => ?_, fun h => ?_⟩
  · rcases Int.lt_or_le 0 u with h1 | h1
    · exact h1
    · have := Int.mul_nonneg (show 0 ≤ g by omega) (show 0 ≤ -u by omega)
      rw [Int.mul_neg] at this
      omega
  · rcases Int.lt_or_le u 0 with h1 | h1
    · exact h1
    · have := Int.mul_nonneg (show 0 ≤ g by omega) h1; omega
  · rcases Int.mul_eq_zero.1 h with h1 | h1 <;> omega
/-- The line through two points. -/
theorem lt_law {aX aY bX bY : Int} (h : ltOK aX aY bX bY = true) : (okL (liA aX aY bX bY) (liB aX aY bX bY) (liC aX aY bX bY) = true ∧ sideL (liA aX aY bX bY) (liB aX aY bX bY) (liC aX aY bX bY) aX aY = 0 ∧ sideL (liA aX aY bX bY) (liB aX aY bX bY) (liC aX aY bX bY) bX bY = 0) ∧
    ltOK bX bY aX aY = true ∧ liA bX bY aX aY = liA aX aY bX bY ∧ liB bX bY aX aY = liB aX aY bX bY ∧ liC bX bY aX aY = liC aX aY bX bY := by
  have h' := h
  simp only [ltOK, Bool.and_eq_true, Bool.not_eq_true', Bool.and_eq_false_iff, decide_eq_false_iff_not] at h'
  obtain ⟨⟨ha, hb⟩, hne⟩ := h'
  have hne : aX ≠ bX ∨ aY ≠ bY := hne
  have l1 := li_ok ha hb hne
  have l2 := li_ok hb ha (by omega : bX ≠ aX ∨ bY ≠ aY)
  have p1 := okP_iff.1 ha
  have p2 := okP_iff.1 hb
  have sy := lt_symm (dX := bX - aX) (dY := bY - aY) (by omega)
  rw [show 0 - (bX - aX) = aX - bX by omega, show 0 - (bY - aY) = aY - bY by omega] at sy
  have ln := lt_line (aX := aX) (aY := aY) (bX := bX) (bY := bY)
  have cp' := lt_cop (dX := bX - aX) (dY := bY - aY) (by omega)
  have bd := lt_bd (M := 2000) l1.2.1 (dX := bX - aX) (dY := bY - aY) (by omega) (by omega)
  have s1 := ediv_sign l1.2.1 (gcdI_right (bX - aX) (bY - aY))
  have s2 := ediv_sign l1.2.1 (gcdI_left (bX - aX) (bY - aY))
  have sg : 0 ≤ ltA (bX - aX) (bY - aY) ∧ (0 < ltA (bX - aX) (bY - aY) ∨ 0 < ltB (bX - aX) (bY - aY)) := by
    unfold ltA ltB
    by_cases hs : bY - aY < 0 ∨ (bY - aY = 0 ∧ 0 < bX - aX)
    · have hs' : ltS (bX - aX) (bY - aY) = true := by simp only [ltS, Bool.or_eq_true, Bool.and_eq_true, decide_eq_true_eq]; exact hs
      rw [if_pos hs', if_pos hs']; omega
    · have hs' : ¬ ltS (bX - aX) (bY - aY) = true := by simp only [ltS, Bool.or_eq_true, Bool.and_eq_true, decide_eq_true_eq]; exact hs
      rw [if_neg hs', if_neg hs']; omega
  rw [l1.2.2.1, l1.2.2.2.1, l1.2.2.2.2, l2.2.2.1, l2.2.2.2.1, l2.2.2.2.2, sy.1, sy.2]
  generalize ltA (bX - aX) (bY - aY) = A at *
  generalize ltB (bX - aX) (bY - aY) = B at *
  have m1 := mul_bd A aX 2000 1000 (by omega) (by omega) (by omega) (by omega)
  have m2 := mul_bd B aY 2000 1000 (by omega) (by omega) (by omega) (by omega)
  have e1 : A * bX + B * bY - (A * aX + B * aY) = 0 := by rw [Int.mul_sub, Int.mul_sub] at ln; omega
  have hk : okL A B (A * aX + B * aY) = true := by
    simp only [okL, Bool.and_eq_true, Bool.or_eq_true, decide_eq_true_eq]
    refine ⟨⟨⟨⟨sg.1, by omega⟩, by omega⟩, by omega⟩, sg.2, ?_⟩
    rw [cp']
    exact gcdI_of_dvd (by decide) (Int.one_dvd _)
  refine ⟨⟨hk, ?_, ?_⟩, l2.1, rfl, rfl, by omega⟩
  · simp only [sideL, hk, ha, Bool.and_self, if_true]
    rw [show A * aX + B * aY - (A * aX + B * aY) = 0 by omega]; rfl
  · simp only [sideL, hk, hb, Bool.and_self, if_true]
    rw [e1]; rfl
def pX (C : Int → Int) (n : Int) : Int := apX C (cut n) 0
def pY (C : Int → Int) (n : Int) : Int := apY C (cut n) 0
def rX (C : Int → Int) (n : Int) : Int := apX C (cut n) (q1 C n)
def rY (C : Int → Int) (n : Int) : Int := apY C (cut n) (q1 C n)
end Go.Proofs.Ytoielngedkbmbaa
