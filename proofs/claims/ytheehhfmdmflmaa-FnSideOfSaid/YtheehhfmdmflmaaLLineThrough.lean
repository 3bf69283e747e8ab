/- FnLineThrough: the walk. -/
import Derived.Test.YtheehhfmdmflmaaK12
set_option linter.unusedSimpArgs false
set_option linter.unusedVariables false
set_option maxRecDepth 100000
namespace Go.Proofs.Ytheehhfmdmflmaa
open Go.Sym
theorem lt_line {aX aY bX bY : Int} : ltA (bX - aX) (bY - aY) * (bX - aX) + ltB (bX - aX) (bY - aY) * (bY - aY) = 0 := by
  have h1 := gcdI_right (bX - aX) (bY - aY)
  have h2 := gcdI_left (bX - aX) (bY - aY)
  unfold ltA ltB
  generalize gcdI (bX - aX) (bY - aY) = g at *
  obtain ⟨u, hu⟩ := h1
  obtain ⟨v, hv⟩ := h2
  rw [hu, hv]
  by_cases h0 : g = 0
  · subst h0; simp
  · rw [Int.mul_ediv_cancel_left _ h0, Int.mul_ediv_cancel_left _ h0]
    split <;> grind
theorem ediv_neg_of {x g : Int} (h : g ∣ x) : (0 - x) / g = -(x / g) := by rw [Int.zero_sub]; exact Int.neg_ediv_of_dvd h
theorem lt_symm {dX dY : Int} (h : dX ≠ 0 ∨ dY ≠ 0) : ltA (0 - dX) (0 - dY) = ltA dX dY ∧ ltB (0 - dX) (0 - dY) = ltB dX dY := by
  have e1 := ediv_neg_of (gcdI_right dX dY)
  have e2 := ediv_neg_of (gcdI_left dX dY)
  unfold ltA ltB
  rw [gcdI_neg, e1, e2]
  by_cases hs : dY < 0 ∨ (dY = 0 ∧ 0 < dX)
  · have s1 : ltS dX dY = true := by simp only [ltS, Bool.or_eq_true, Bool.and_eq_true, decide_eq_true_eq]; exact hs
    have s2 : ¬ ltS (0 - dX) (0 - dY) = true := by simp only [ltS, Bool.or_eq_true, Bool.and_eq_true, decide_eq_true_eq]; omega
    rw [if_pos s1, if_pos s1, if_neg s2, if_neg s2]; omega
  · have s1 : ¬ ltS dX dY = true := by simp only [ltS, Bool.or_eq_true, Bool.and_eq_true, decide_eq_true_eq]; exact hs
    have s2 : ltS (0 - dX) (0 - dY) = true := by simp only [ltS, Bool.or_eq_true, Bool.and_eq_true, decide_eq_true_eq]; omega
    rw [if_neg s1, if_neg s1, if_pos s2, if_pos s2]; omega
theorem lt_cop {dX dY : Int} (h : dX ≠ 0 ∨ dY ≠ 0) : gcdI (ltA dX dY) (ltB dX dY) = 1 := by
  have hp := g_pos h
  have hg : gcdI (dX / gcdI dX dY) (dY / gcdI dX dY) = 1 := by
    unfold gcdI
    unfold gcdI at hp
    have := Int.gcd_ediv_gcd_ediv_gcd (i := dX) (j := dY) (by omega)
    rw [this]; rfl
  unfold ltA ltB
  split
  · rw [show -(dY / gcdI dX dY) = 0 - dY / gcdI dX dY by omega, gcdI_neg_left, gcdI_comm]; exact hg
  · rw [show -(dX / gcdI dX dY) = 0 - dX / gcdI dX dY by omega, gcdI_neg_r, gcdI_comm]; exact hg
theorem ediv_sign {x g : Int} (hg : 1 ≤ g) (h : g ∣ x) : (0 < x → 0 < x / g) ∧ (x < 0 → x / g < 0) ∧ (x = 0 → x / g = 0) := by
  obtain ⟨u, hu⟩ := h
  subst hu
  rw [Int.mul_ediv_cancel_left _ (by omega)]
  refine ⟨fun h => ?_, fun h => ?_, fun h => ?_⟩
  · rcases Int.lt_or_le 0 u with h1 | h1
    · exact h1
    · have := Int.mul_nonneg (show 0 ≤ g by omega) (show 0 ≤ -u by omega)
      rw [Int.mul_neg] at this
      omega
  · rcases Int.lt_or_le u 0 with h1 | h1
    · exact h1
    · have := Int.mul_nonneg (show 0 ≤ g by omega) h1; omega
  · rcases Int.mul_eq_zero.1 h with h1 | h1 <;> omega
/-- The line through two points. -/
theorem lt_law {aX aY bX bY : Int} (h : ltOK aX aY bX bY = true) : (okL (liA aX aY bX bY) (liB aX aY bX bY) (liC aX aY bX bY) = true ∧ sideL (liA aX aY bX bY) (liB aX aY bX bY) (liC aX aY bX bY) aX aY = 0 ∧ sideL (liA aX aY bX bY) (liB aX aY bX bY) (liC aX aY bX bY) bX bY = 0) ∧
    ltOK bX bY aX aY = true ∧ liA bX bY aX aY = liA aX aY bX bY ∧ liB bX bY aX aY = liB aX aY bX bY ∧ liC bX bY aX aY = liC aX aY bX bY := by
  have h' := h
  simp only [ltOK, Bool.and_eq_true, Bool.not_eq_true', Bool.and_eq_false_iff, decide_eq_false_iff_not] at h'
  obtain ⟨⟨ha, hb⟩, hne⟩ := h'
  have hne : aX ≠ bX ∨ aY ≠ bY := hne
  have l1 := li_ok ha hb hne
  have l2 := li_ok hb ha (by omega : bX ≠ aX ∨ bY ≠ aY)
  have p1 := okP_iff.1 ha
  have p2 := okP_iff.1 hb
  have sy := lt_symm (dX := bX - aX) (dY := bY - aY) (by omega)
  rw [show 0 - (bX - aX) = aX - bX by omega, show 0 - (bY - aY) = aY - bY by omega] at sy
  have ln := lt_line (aX := aX) (aY := aY) (bX := bX) (bY := bY)
  have cp' := lt_cop (dX := bX - aX) (dY := bY - aY) (by omega)
  have bd := lt_bd (M := 2000) l1.2.1 (dX := bX - aX) (dY := bY - aY) (by omega) (by omega)
  have s1 := ediv_sign l1.2.1 (gcdI_right (bX - aX) (bY - aY))
  have s2 := ediv_sign l1.2.1 (gcdI_left (bX - aX) (bY - aY))
  have sg : 0 ≤ ltA (bX - aX) (bY - aY) ∧ (0 < ltA (bX - aX) (bY - aY) ∨ 0 < ltB (bX - aX) (bY - aY)) := by
    unfold ltA ltB
    by_cases hs : bY - aY < 0 ∨ (bY - aY = 0 ∧ 0 < bX - aX)
    · have hs' : ltS (bX - aX) (bY - aY) = true := by simp only [ltS, Bool.or_eq_true, Bool.and_eq_true, decide_eq_true_eq]; exact hs
      rw [if_pos hs', if_pos hs']; omega
    · have hs' : ¬ ltS (bX - aX) (bY - aY) = true := by simp only [ltS, Bool.or_eq_true, Bool.and_eq_true, decide_eq_true_eq]; exact hs
      rw [if_neg hs', if_neg hs']; omega
  rw [l1.2.2.1, l1.2.2.2.1, l1.2.2.2.2, l2.2.2.1, l2.2.2.2.1, l2.2.2.2.2, sy.1, sy.2]
  generalize ltA (bX - aX) (bY - aY) = A at *
  generalize ltB (bX - aX) (bY - aY) = B at *
  have m1 := mul_bd A aX 2000 1000 (by omega) (by omega) (by omega) (by omega)
  have m2 := mul_bd B aY 2000 1000 (by omega) (by omega) (by omega) (by omega)
  have e1 : A * bX + B * bY - (A * aX + B * aY) = 0 := by rw [Int.mul_sub, Int.mul_sub] at ln; omega
  have hk : okL A B (A * aX + B * aY) = true := by
    simp only [okL, Bool.and_eq_true, Bool.or_eq_true, decide_eq_true_eq]
    refine ⟨⟨⟨⟨sg.1, by omega⟩, by omega⟩, by omega⟩, sg.2, ?_⟩
    rw [cp']
    exact gcdI_of_dvd (by decide) (Int.one_dvd _)
  refine ⟨⟨hk, ?_, ?_⟩, l2.1, rfl, rfl, by omega⟩
  · simp only [sideL, hk, ha, Bool.and_self, if_true]
    rw [show A * aX + B * aY - (A * aX + B * aY) = 0 by omega]; rfl
  · simp only [sideL, hk, hb, Bool.and_self, if_true]
    rw [e1]; rfl
def pX (C : Int → Int) (n : Int) : Int := apX C (cut n) 0
def pY (C : Int → Int) (n : Int) : Int := apY C (cut n) 0
def rX (C : Int → Int) (n : Int) : Int := apX C (cut n) (q1 C n)
def rY (C : Int → Int) (n : Int) : Int := apY C (cut n) (q1 C n)
theorem s_DrawLineThrough (C : Int → Int) (n : Int) : RunsTo Try.prog 30 [(.sl 0 1 (.lit 0) (.v fun _ => n) 9223372036854775807)] [some ⟨5, 1, false, (.sym (.v fun _ => n) fun e => [(.int .u8 (.v fun _ => (C (e.den))) 0 255)])⟩] (.tup [(.agg [(.int .i64 (.v fun _ => pX C n) (-1001) 1001), (.int .i64 (.v fun _ => pY C n) (-1001) 1001)]), (.agg [(.int .i64 (.v fun _ => rX C n) (-1001) 1001), (.int .i64 (.v fun _ => rY C n) (-1001) 1001)])]) [some ⟨5, 1, false, (.sym (.v fun _ => cut n) fun e => [(.int .u8 (.v fun _ => (C (e.den))) 0 255)])⟩] := by
  refine RunsTo.go env Try.func30 rfl Try.call30 rfl rfl (fun _ _ => (.call (c_s_threePoints C n) .ret)) (G := (0 ≤ n ∧ n ≤ 9223372036854775807) → (∀ e3 : E, ((0 ≤ e3.den ∧ e3.den < n) → (0 ≤ ((C (e3.den))) ∧ ((C (e3.den))) ≤ 255))) → ((n = n) ∧ (((n ≤ n) ∧ (∀ e1 : E, ((0 ≤ e1.den ∧ e1.den < n) → (((C (e1.den))) = ((C (e1.den))))))) ∧ (((((apX C (cut n) 0) = (pX C n)) ∧ ((apY C (cut n) 0) = (pY C n))) ∧ (((apX C (cut n) (q1 C n)) = (rX C n)) ∧ ((apY C (cut n) (q1 C n)) = (rY C n)))) ∧ (((cut n) ≤ (cut n)) ∧ (∀ e2 : E, ((0 ≤ e2.den ∧ e2.den < (cut n)) → (((C (e2.den))) = ((C (e2.den))))))))))) (by kernel_rfl) ?_
  intro h1 h2
  refine ⟨rfl, ⟨Int.le_refl _, fun _ => fun _ => rfl⟩, ?_, Int.le_refl _, fun _ => fun _ => rfl⟩
  refine ⟨?_, ?_, ?_⟩
  · refine ⟨?_, ?_⟩
      -- 1: (apX C (cut n) 0) = (pX C n)
    · first | rfl | omega
      -- 2: (apY C (cut n) 0) = (pY C n)
    · first | rfl | omega
    -- 3: (apX C (cut n) (q1 C n)) = (rX C n)
  · first | rfl | omega
    -- 4: (apY C (cut n) (q1 C n)) = (rY C n)
  · first | rfl | omega
def c_s_DrawLineThrough (C : Int → Int) (n : Int) : Cn Try.prog := ⟨_, _, _, _, _, s_DrawLineThrough C n⟩
theorem l_FnLineThrough (C : Int → Int) (n : Int) : RunsTo Try.prog 6 [(.sl 0 1 (.lit 0) (.v fun _ => n) 9223372036854775807)] [some ⟨5, 1, false, (.sym (.v fun _ => n) fun e => [(.int .u8 (.v fun _ => (C (e.den))) 0 255)])⟩] (.bool (.lit true)) [none] := by
  refine RunsTo.go env Try.func6 rfl Try.call6 rfl rfl (fun _ _ => (.ite .ret (.callF (c_s_DrawLineThrough C n) (.callF (c_i_LineThrough (pX C n) (pY C n) (rX C n) (rY C n)) (.callF (c_s_LineThrough (pX C n) (pY C n) (rX C n) (rY C n)) (.ite (.ite .ret .ret) (.ite (.ite .ret .ret) (.ite (.ite .ret .ret) (.callF (c_i_LineThrough (rX C n) (rY C n) (pX C n) (pY C n)) (.call (c_i_ValidLine (liA (pX C n) (pY C n) (rX C n) (rY C n)) (liB (pX C n) (pY C n) (rX C n) (rY C n)) (liC (pX C n) (pY C n) (rX C n) (rY C n))) (.ite (.callF (c_i_SideOf (liA (pX C n) (pY C n) (rX C n) (rY C n)) (liB (pX C n) (pY C n) (rX C n) (rY C n)) (liC (pX C n) (pY C n) (rX C n) (rY C n)) (pX C n) (pY C n)) (.ite (.callF (c_i_SideOf (liA (pX C n) (pY C n) (rX C n) (rY C n)) (liB (pX C n) (pY C n) (rX C n) (rY C n)) (liC (pX C n) (pY C n) (rX C n) (rY C n)) (rX C n) (rY C n)) (.ite (.ite .ret .ret) .ret)) .ret)) .ret))))))))))) (G := (0 ≤ n ∧ n ≤ 9223372036854775807) → (∀ e2 : E, ((0 ≤ e2.den ∧ e2.den < n) → (0 ≤ ((C (e2.den))) ∧ ((C (e2.den))) ≤ 255))) → ((n ≤ 1048576) → ((n = n) ∧ (((n ≤ n) ∧ (∀ e1 : E, ((0 ≤ e1.den ∧ e1.den < n) → (((C (e1.den))) = ((C (e1.den))))))) ∧ (((((-1001) ≤ (pX C n) ∧ (pX C n) ≤ 1001) ∧ ((-1001) ≤ (pY C n) ∧ (pY C n) ≤ 1001)) ∧ (((-1001) ≤ (rX C n) ∧ (rX C n) ≤ 1001) ∧ ((-1001) ≤ (rY C n) ∧ (rY C n) ≤ 1001))) → (((((pX C n) = (pX C n)) ∧ ((pY C n) = (pY C n))) ∧ (((rX C n) = (rX C n)) ∧ ((rY C n) = (rY C n)))) ∧ ((((-10000000) ≤ (liA (pX C n) (pY C n) (rX C n) (rY C n)) ∧ (liA (pX C n) (pY C n) (rX C n) (rY C n)) ≤ 10000000) ∧ (((-10000000) ≤ (liB (pX C n) (pY C n) (rX C n) (rY C n)) ∧ (liB (pX C n) (pY C n) (rX C n) (rY C n)) ≤ 10000000) ∧ ((-10000000) ≤ (liC (pX C n) (pY C n) (rX C n) (rY C n)) ∧ (liC (pX C n) (pY C n) (rX C n) (rY C n)) ≤ 10000000))) → (((((pX C n) = (pX C n)) ∧ ((pY C n) = (pY C n))) ∧ (((rX C n) = (rX C n)) ∧ ((rY C n) = (rY C n)))) ∧ ((((-10000000) ≤ (liA (pX C n) (pY C n) (rX C n) (rY C n)) ∧ (liA (pX C n) (pY C n) (rX C n) (rY C n)) ≤ 10000000) ∧ (((-10000000) ≤ (liB (pX C n) (pY C n) (rX C n) (rY C n)) ∧ (liB (pX C n) (pY C n) (rX C n) (rY C n)) ≤ 10000000) ∧ ((-10000000) ≤ (liC (pX C n) (pY C n) (rX C n) (rY C n)) ∧ (liC (pX C n) (pY C n) (rX C n) (rY C n)) ≤ 10000000))) → ((((((ltOK (pX C n) (pY C n) (rX C n) (rY C n)) = true) ↔ ((ltOK (pX C n) (pY C n) (rX C n) (rY C n)) = false))) → ((((((ltOK (pX C n) (pY C n) (rX C n) (rY C n)) = true) ↔ ((ltOK (pX C n) (pY C n) (rX C n) (rY C n)) = true))) → ((((liA (pX C n) (pY C n) (rX C n) (rY C n)) = (liA (pX C n) (pY C n) (rX C n) (rY C n))) ∧ ((((liB (pX C n) (pY C n) (rX C n) (rY C n)) = (liB (pX C n) (pY C n) (rX C n) (rY C n))) ∧ ((liC (pX C n) (pY C n) (rX C n) (rY C n)) = (liC (pX C n) (pY C n) (rX C n) (rY C n)))))))) ∧ (((((ltOK (pX C n) (pY C n) (rX C n) (rY C n)) = true) ↔ ((ltOK (pX C n) (pY C n) (rX C n) (rY C n)) = false))) → (False)))) ∧ (((((ltOK (pX C n) (pY C n) (rX C n) (rY C n)) = true) ↔ ((ltOK (pX C n) (pY C n) (rX C n) (rY C n)) = true))) → ((((((liA (pX C n) (pY C n) (rX C n) (rY C n)) ≠ (liA (pX C n) (pY C n) (rX C n) (rY C n))) ∨ ((((liB (pX C n) (pY C n) (rX C n) (rY C n)) ≠ (liB (pX C n) (pY C n) (rX C n) (rY C n))) ∨ ((liC (pX C n) (pY C n) (rX C n) (rY C n)) ≠ (liC (pX C n) (pY C n) (rX C n) (rY C n))))))) → ((((((ltOK (pX C n) (pY C n) (rX C n) (rY C n)) = true) ↔ ((ltOK (pX C n) (pY C n) (rX C n) (rY C n)) = true))) → ((((liA (pX C n) (pY C n) (rX C n) (rY C n)) = (liA (pX C n) (pY C n) (rX C n) (rY C n))) ∧ ((((liB (pX C n) (pY C n) (rX C n) (rY C n)) = (liB (pX C n) (pY C n) (rX C n) (rY C n))) ∧ ((liC (pX C n) (pY C n) (rX C n) (rY C n)) = (liC (pX C n) (pY C n) (rX C n) (rY C n)))))))) ∧ (((((ltOK (pX C n) (pY C n) (rX C n) (rY C n)) = true) ↔ ((ltOK (pX C n) (pY C n) (rX C n) (rY C n)) = false))) → (False)))) ∧ (((((liA (pX C n) (pY C n) (rX C n) (rY C n)) = (liA (pX C n) (pY C n) (rX C n) (rY C n))) ∧ ((((liB (pX C n) (pY C n) (rX C n) (rY C n)) = (liB (pX C n) (pY C n) (rX C n) (rY C n))) ∧ ((liC (pX C n) (pY C n) (rX C n) (rY C n)) = (liC (pX C n) (pY C n) (rX C n) (rY C n))))))) → ((((ltOK (pX C n) (pY C n) (rX C n) (rY C n)) = false) → ((((((ltOK (pX C n) (pY C n) (rX C n) (rY C n)) = true) ↔ ((ltOK (pX C n) (pY C n) (rX C n) (rY C n)) = true))) → ((((liA (pX C n) (pY C n) (rX C n) (rY C n)) = (liA (pX C n) (pY C n) (rX C n) (rY C n))) ∧ ((((liB (pX C n) (pY C n) (rX C n) (rY C n)) = (liB (pX C n) (pY C n) (rX C n) (rY C n))) ∧ ((liC (pX C n) (pY C n) (rX C n) (rY C n)) = (liC (pX C n) (pY C n) (rX C n) (rY C n)))))))) ∧ (((((ltOK (pX C n) (pY C n) (rX C n) (rY C n)) = true) ↔ ((ltOK (pX C n) (pY C n) (rX C n) (rY C n)) = false))) → (False)))) ∧ (((ltOK (pX C n) (pY C n) (rX C n) (rY C n)) = true) → (((((rX C n) = (rX C n)) ∧ ((rY C n) = (rY C n))) ∧ (((pX C n) = (pX C n)) ∧ ((pY C n) = (pY C n)))) ∧ ((((-10000000) ≤ (liA (rX C n) (rY C n) (pX C n) (pY C n)) ∧ (liA (rX C n) (rY C n) (pX C n) (pY C n)) ≤ 10000000) ∧ (((-10000000) ≤ (liB (rX C n) (rY C n) (pX C n) (pY C n)) ∧ (liB (rX C n) (rY C n) (pX C n) (pY C n)) ≤ 10000000) ∧ ((-10000000) ≤ (liC (rX C n) (rY C n) (pX C n) (pY C n)) ∧ (liC (rX C n) (rY C n) (pX C n) (pY C n)) ≤ 10000000))) → ((((liA (pX C n) (pY C n) (rX C n) (rY C n)) = (liA (pX C n) (pY C n) (rX C n) (rY C n))) ∧ (((liB (pX C n) (pY C n) (rX C n) (rY C n)) = (liB (pX C n) (pY C n) (rX C n) (rY C n))) ∧ ((liC (pX C n) (pY C n) (rX C n) (rY C n)) = (liC (pX C n) (pY C n) (rX C n) (rY C n))))) ∧ ((((okL (liA (pX C n) (pY C n) (rX C n) (rY C n)) (liB (pX C n) (pY C n) (rX C n) (rY C n)) (liC (pX C n) (pY C n) (rX C n) (rY C n))) = true) → (((((liA (pX C n) (pY C n) (rX C n) (rY C n)) = (liA (pX C n) (pY C n) (rX C n) (rY C n))) ∧ (((liB (pX C n) (pY C n) (rX C n) (rY C n)) = (liB (pX C n) (pY C n) (rX C n) (rY C n))) ∧ ((liC (pX C n) (pY C n) (rX C n) (rY C n)) = (liC (pX C n) (pY C n) (rX C n) (rY C n))))) ∧ (((pX C n) = (pX C n)) ∧ ((pY C n) = (pY C n)))) ∧ (((-1) ≤ (sideL (liA (pX C n) (pY C n) (rX C n) (rY C n)) (liB (pX C n) (pY C n) (rX C n) (rY C n)) (liC (pX C n) (pY C n) (rX C n) (rY C n)) (pX C n) (pY C n)) ∧ (sideL (liA (pX C n) (pY C n) (rX C n) (rY C n)) (liB (pX C n) (pY C n) (rX C n) (rY C n)) (liC (pX C n) (pY C n) (rX C n) (rY C n)) (pX C n) (pY C n)) ≤ 2) → ((((sideL (liA (pX C n) (pY C n) (rX C n) (rY C n)) (liB (pX C n) (pY C n) (rX C n) (rY C n)) (liC (pX C n) (pY C n) (rX C n) (rY C n)) (pX C n) (pY C n)) = 0) → (((((liA (pX C n) (pY C n) (rX C n) (rY C n)) = (liA (pX C n) (pY C n) (rX C n) (rY C n))) ∧ (((liB (pX C n) (pY C n) (rX C n) (rY C n)) = (liB (pX C n) (pY C n) (rX C n) (rY C n))) ∧ ((liC (pX C n) (pY C n) (rX C n) (rY C n)) = (liC (pX C n) (pY C n) (rX C n) (rY C n))))) ∧ (((rX C n) = (rX C n)) ∧ ((rY C n) = (rY C n)))) ∧ (((-1) ≤ (sideL (liA (pX C n) (pY C n) (rX C n) (rY C n)) (liB (pX C n) (pY C n) (rX C n) (rY C n)) (liC (pX C n) (pY C n) (rX C n) (rY C n)) (rX C n) (rY C n)) ∧ (sideL (liA (pX C n) (pY C n) (rX C n) (rY C n)) (liB (pX C n) (pY C n) (rX C n) (rY C n)) (liC (pX C n) (pY C n) (rX C n) (rY C n)) (rX C n) (rY C n)) ≤ 2) → ((((sideL (liA (pX C n) (pY C n) (rX C n) (rY C n)) (liB (pX C n) (pY C n) (rX C n) (rY C n)) (liC (pX C n) (pY C n) (rX C n) (rY C n)) (rX C n) (rY C n)) = 0) → ((((ltOK (rX C n) (rY C n) (pX C n) (pY C n)) = true) → ((((liA (rX C n) (rY C n) (pX C n) (pY C n)) = (liA (pX C n) (pY C n) (rX C n) (rY C n))) ∧ ((((liB (rX C n) (rY C n) (pX C n) (pY C n)) = (liB (pX C n) (pY C n) (rX C n) (rY C n))) ∧ ((liC (rX C n) (rY C n) (pX C n) (pY C n)) = (liC (pX C n) (pY C n) (rX C n) (rY C n)))))))) ∧ (((ltOK (rX C n) (rY C n) (pX C n) (pY C n)) = false) → (False)))) ∧ (((sideL (liA (pX C n) (pY C n) (rX C n) (rY C n)) (liB (pX C n) (pY C n) (rX C n) (rY C n)) (liC (pX C n) (pY C n) (rX C n) (rY C n)) (rX C n) (rY C n)) ≠ 0) → (False)))))) ∧ (((sideL (liA (pX C n) (pY C n) (rX C n) (rY C n)) (liB (pX C n) (pY C n) (rX C n) (rY C n)) (liC (pX C n) (pY C n) (rX C n) (rY C n)) (pX C n) (pY C n)) ≠ 0) → (False)))))) ∧ (((okL (liA (pX C n) (pY C n) (rX C n) (rY C n)) (liB (pX C n) (pY C n) (rX C n) (rY C n)) (liC (pX C n) (pY C n) (rX C n) (rY C n))) = false) → (False))))))))))))))))))))) (by kernel_rfl) ?_
  intro h1 h2
  intro c3
  refine ⟨rfl, ⟨Int.le_refl _, fun _ => fun _ => rfl⟩, ?_⟩
  intro c4
  refine ⟨⟨⟨rfl, rfl⟩, ⟨rfl, rfl⟩⟩, ?_⟩
  intro c5
  refine ⟨⟨⟨rfl, rfl⟩, ⟨rfl, rfl⟩⟩, ?_⟩
  intro c6
  refine ⟨?_, ?_⟩
  · intro c7
    refine ⟨?_, ?_⟩
    · intro c8
      -- 1: (((liA (pX C n) (pY C n) (rX C n) (rY C n)) = (liA (pX C n) (pY C n) (rX C n) (rY C n))) ∧ ((((liB (
      first | rfl | omega | (have hl := lt_law (aX := pX C n) (aY := pY C n) (bX := rX C n) (bY := rY C n) (by assumption); first | omega | exact hl.1.1 | exact hl.2.1 | exact hl.1.2.1 | exact hl.1.2.2 | exact hl.2.2.1 | exact hl.2.2.2.1 | exact hl.2.2.2.2 | (simp_all; done)) | (simp_all; done)
    · intro c9
      -- 2: False
      first | rfl | omega | (have hl := lt_law (aX := pX C n) (aY := pY C n) (bX := rX C n) (bY := rY C n) (by assumption); first | omega | exact hl.1.1 | exact hl.2.1 | exact hl.1.2.1 | exact hl.1.2.2 | exact hl.2.2.1 | exact hl.2.2.2.1 | exact hl.2.2.2.2 | (simp_all; done)) | (simp_all; done)
  · intro c10
    refine ⟨?_, ?_⟩
    · intro c11
      refine ⟨?_, ?_⟩
      · intro c12
        -- 3: (((liA (pX C n) (pY C n) (rX C n) (rY C n)) = (liA (pX C n) (pY C n) (rX C n) (rY C n))) ∧ ((((liB (
        first | rfl | omega | (have hl := lt_law (aX := pX C n) (aY := pY C n) (bX := rX C n) (bY := rY C n) (by assumption); first | omega | exact hl.1.1 | exact hl.2.1 | exact hl.1.2.1 | exact hl.1.2.2 | exact hl.2.2.1 | exact hl.2.2.2.1 | exact hl.2.2.2.2 | (simp_all; done)) | (simp_all; done)
      · intro c13
        -- 4: False
        first | rfl | omega | (have hl := lt_law (aX := pX C n) (aY := pY C n) (bX := rX C n) (bY := rY C n) (by assumption); first | omega | exact hl.1.1 | exact hl.2.1 | exact hl.1.2.1 | exact hl.1.2.2 | exact hl.2.2.1 | exact hl.2.2.2.1 | exact hl.2.2.2.2 | (simp_all; done)) | (simp_all; done)
    · intro c14
      refine ⟨?_, ?_⟩
      · intro c15
        refine ⟨?_, ?_⟩
        · intro c16
          -- 5: (((liA (pX C n) (pY C n) (rX C n) (rY C n)) = (liA (pX C n) (pY C n) (rX C n) (rY C n))) ∧ ((((liB (
          first | rfl | omega | (have hl := lt_law (aX := pX C n) (aY := pY C n) (bX := rX C n) (bY := rY C n) (by assumption); first | omega | exact hl.1.1 | exact hl.2.1 | exact hl.1.2.1 | exact hl.1.2.2 | exact hl.2.2.1 | exact hl.2.2.2.1 | exact hl.2.2.2.2 | (simp_all; done)) | (simp_all; done)
        · intro c17
          -- 6: False
          first | rfl | omega | (have hl := lt_law (aX := pX C n) (aY := pY C n) (bX := rX C n) (bY := rY C n) (by assumption); first | omega | exact hl.1.1 | exact hl.2.1 | exact hl.1.2.1 | exact hl.1.2.2 | exact hl.2.2.1 | exact hl.2.2.2.1 | exact hl.2.2.2.2 | (simp_all; done)) | (simp_all; done)
      · intro c18
        refine ⟨⟨⟨rfl, rfl⟩, ⟨rfl, rfl⟩⟩, ?_⟩
        intro c19
        refine ⟨⟨rfl, ⟨rfl, rfl⟩⟩, ?_, ?_⟩
        · intro c20
          refine ⟨⟨⟨rfl, ⟨rfl, rfl⟩⟩, ⟨rfl, rfl⟩⟩, ?_⟩
          intro c21
          refine ⟨?_, ?_⟩
          · intro c22
            refine ⟨⟨⟨rfl, ⟨rfl, rfl⟩⟩, ⟨rfl, rfl⟩⟩, ?_⟩
            intro c23
            refine ⟨?_, ?_⟩
            · intro c24
              refine ⟨?_, ?_⟩
              · intro c25
                -- 7: (((liA (rX C n) (rY C n) (pX C n) (pY C n)) = (liA (pX C n) (pY C n) (rX C n) (rY C n))) ∧ ((((liB (
                first | rfl | omega | (have hl := lt_law (aX := pX C n) (aY := pY C n) (bX := rX C n) (bY := rY C n) (by assumption); first | omega | exact hl.1.1 | exact hl.2.1 | exact hl.1.2.1 | exact hl.1.2.2 | exact hl.2.2.1 | exact hl.2.2.2.1 | exact hl.2.2.2.2 | (simp_all; done)) | (simp_all; done)
              · intro c26
                -- 8: False
                first | rfl | omega | (have hl := lt_law (aX := pX C n) (aY := pY C n) (bX := rX C n) (bY := rY C n) (by assumption); first | omega | exact hl.1.1 | exact hl.2.1 | exact hl.1.2.1 | exact hl.1.2.2 | exact hl.2.2.1 | exact hl.2.2.2.1 | exact hl.2.2.2.2 | (simp_all; done)) | (simp_all; done)
            · intro c27
              -- 9: False
              first | rfl | omega | (have hl := lt_law (aX := pX C n) (aY := pY C n) (bX := rX C n) (bY := rY C n) (by assumption); first | omega | exact hl.1.1 | exact hl.2.1 | exact hl.1.2.1 | exact hl.1.2.2 | exact hl.2.2.1 | exact hl.2.2.2.1 | exact hl.2.2.2.2 | (simp_all; done)) | (simp_all; done)
          · intro c28
            -- 10: False
            first | rfl | omega | (have hl := lt_law (aX := pX C n) (aY := pY C n) (bX := rX C n) (bY := rY C n) (by assumption); first | omega | exact hl.1.1 | exact hl.2.1 | exact hl.1.2.1 | exact hl.1.2.2 | exact hl.2.2.1 | exact hl.2.2.2.1 | exact hl.2.2.2.2 | (simp_all; done)) | (simp_all; done)
        · intro c29
          -- 11: False
          first | rfl | omega | (have hl := lt_law (aX := pX C n) (aY := pY C n) (bX := rX C n) (bY := rY C n) (by assumption); first | omega | exact hl.1.1 | exact hl.2.1 | exact hl.1.2.1 | exact hl.1.2.2 | exact hl.2.2.1 | exact hl.2.2.2.1 | exact hl.2.2.2.2 | (simp_all; done)) | (simp_all; done)
def c_l_FnLineThrough (C : Int → Int) (n : Int) : Cn Try.prog := ⟨_, _, _, _, _, l_FnLineThrough C n⟩
end Go.Proofs.Ytheehhfmdmflmaa
