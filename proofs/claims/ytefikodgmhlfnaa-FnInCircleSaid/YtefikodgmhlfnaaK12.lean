/- Lines. -/
import Derived.Test.YtefikodgmhlfnaaK11
import Derived.Test.YtefikodgmhlfnaaK3
set_option linter.unusedSimpArgs false
set_option linter.unusedVariables false
set_option maxRecDepth 100000
namespace Go.Proofs.Ytefikodgmhlfnaa
open Go.Sym
def okL (a b c : Int) : Bool := (decide (0 ≤ a) && decide (a ≤ 2000)) && (decide (-2000 ≤ b) && decide (b ≤ 2000)) && (decide (-4000000 ≤ c) && decide (c ≤ 4000000)) && ((decide (0 < a) || decide (0 < b)) && decide (gcdI (gcdI a b) c = 1))
def ltS (dX dY : Int) : Bool := decide (dY < 0) || (decide (dY = 0) && decide (0 < dX))
def ltA (dX dY : Int) : Int := if ltS dX dY = true then -(dY / gcdI dX dY) else dY / gcdI dX dY
def ltB (dX dY : Int) : Int := if ltS dX dY = true then dX / gcdI dX dY else -(dX / gcdI dX dY)
def sideL (a b c x y : Int) : Int := if okL a b c && okP x y then sgn (a * x + b * y - c) else 2
theorem gcdI_abs_right (a b : Int) : gcdI a (absI b) = gcdI a b := by unfold gcdI absI; simp [Int.gcd]
theorem gcdI_comm (a b : Int) : gcdI a b = gcdI b a := by unfold gcdI; rw [Int.gcd_comm]
theorem gcdI_neg_left (a b : Int) : gcdI (0 - a) b = gcdI a b := by unfold gcdI; simp [Int.gcd]
theorem gcdI_neg_r (a b : Int) : gcdI a (0 - b) = gcdI a b := by unfold gcdI; simp [Int.gcd]
theorem gcdI_of_dvd {g c : Int} (hg : 0 ≤ g) (h : g ∣ c) : gcdI g c = g := by
  unfold gcdI
  have : Int.gcd g c = g.natAbs := Nat.gcd_eq_left (Int.natAbs_dvd_natAbs.2 h)
  rw [this]; omega
theorem okL_bd {a b c : Int} (h : okL a b c = true) : (0 ≤ a ∧ a ≤ 2000) ∧ (-2000 ≤ b ∧ b ≤ 2000) ∧ (-4000000 ≤ c ∧ c ≤ 4000000) ∧ (0 < a ∨ 0 < b) ∧ gcdI (gcdI a b) c = 1 := by
  simp only [okL, Bool.and_eq_true, Bool.or_eq_true, decide_eq_true_eq] at h
  exact ⟨h.1.1.1, h.1.1.2, h.1.2, h.2.1, h.2.2⟩
def ltOK (aX aY bX bY : Int) : Bool := okP aX aY && okP bX bY && !(decide (aX = bX) && decide (aY = bY))
def liA (aX aY bX bY : Int) : Int := orZ (ltOK aX aY bX bY) (ltA (bX - aX) (bY - aY))
def liB (aX aY bX bY : Int) : Int := orZ (ltOK aX aY bX bY) (ltB (bX - aX) (bY - aY))
def liC (aX aY bX bY : Int) : Int := orZ (ltOK aX aY bX bY) (ltA (bX - aX) (bY - aY) * aX + ltB (bX - aX) (bY - aY) * aY)
theorem al2 (aX aY bX bY : Int) : allB (fun i => okP (selL [aX, bX] i) (selL [aY, bY] i)) 2 = (okP aX aY && okP bX bY) := by
  rw [allB2]; rfl
theorem tdiv_nn {x g : Int} (h : g ∣ x) : (0 - x).tdiv (0 - g) = x / g := by
  rw [Int.zero_sub, Int.zero_sub, Int.neg_tdiv, Int.tdiv_neg, Int.neg_neg, Int.tdiv_eq_ediv_of_dvd h]
theorem g_pos {dX dY : Int} (h : dX ≠ 0 ∨ dY ≠ 0) : 1 ≤ gcdI dX dY := by
  rcases h with h | h
  · rw [gcdI_comm]; exact gcdI_pos dY dX h
  · exact gcdI_pos dX dY h
theorem li_ok {aX aY bX bY : Int} (ha : okP aX aY = true) (hb : okP bX bY = true) (h : aX ≠ bX ∨ aY ≠ bY) : ltOK aX aY bX bY = true ∧ 1 ≤ gcdI (bX - aX) (bY - aY) ∧ liA aX aY bX bY = ltA (bX - aX) (bY - aY) ∧ liB aX aY bX bY = ltB (bX - aX) (bY - aY) ∧
    liC aX aY bX bY = ltA (bX - aX) (bY - aY) * aX + ltB (bX - aX) (bY - aY) * aY := by
  have ho : ltOK aX aY bX bY = true := by
    simp only [ltOK, ha, hb, Bool.and_self, Bool.true_and, Bool.not_eq_true', Bool.and_eq_false_iff, decide_eq_false_iff_not]
    exact h
  refine ⟨ho, g_pos (by omega), ?_, ?_, ?_⟩
  · simp [liA, orZ, ho]
  · simp [liB, orZ, ho]
  · simp [liC, orZ, ho]
theorem lt_pos {dX dY : Int} (h : dY < 0 ∨ (dY = 0 ∧ 0 < dX)) : ltA dX dY = Int.tdiv dY (0 - gcdI dX dY) ∧ ltB dX dY = Int.tdiv (0 - dX) (0 - gcdI dX dY) := by
  have hs : ltS dX dY = true := by simp only [ltS, Bool.or_eq_true, Bool.and_eq_true, decide_eq_true_eq]; exact h
  unfold ltA ltB
  rw [if_pos hs, if_pos hs, tdiv_nn (gcdI_left dX dY), (tdiv_g (gcdI_right dX dY)).2.1]
  exact ⟨rfl, rfl⟩
theorem lt_neg {dX dY : Int} (h : ¬ (dY < 0 ∨ (dY = 0 ∧ 0 < dX))) : ltA dX dY = Int.tdiv dY (gcdI dX dY) ∧ ltB dX dY = Int.tdiv (0 - dX) (gcdI dX dY) := by
  have hs : ¬ ltS dX dY = true := by simp only [ltS, Bool.or_eq_true, Bool.and_eq_true, decide_eq_true_eq]; exact h
  unfold ltA ltB
  rw [if_neg hs, if_neg hs, (tdiv_g (gcdI_left dX dY)).2.2, (tdiv_g (gcdI_right dX dY)).1]
  exact ⟨rfl, rfl⟩
theorem lt_bd {dX dY M : Int} (hg : 1 ≤ gcdI dX dY) (h1 : -M ≤ dX ∧ dX ≤ M) (h2 : -M ≤ dY ∧ dY ≤ M) : (-M ≤ ltA dX dY ∧ ltA dX dY ≤ M) ∧ -M ≤ ltB dX dY ∧ ltB dX dY ≤ M := by
  have b1 := ediv_bd dX (gcdI dX dY) M hg h1.1 h1.2
  have b2 := ediv_bd dY (gcdI dX dY) M hg h2.1 h2.2
  unfold ltA ltB
  split <;> omega
theorem liC_bd {aX aY bX bY : Int} (ha : -1001 ≤ aX ∧ aX ≤ 1001) (ha2 : -1001 ≤ aY ∧ aY ≤ 1001) (hb : -1001 ≤ bX ∧ bX ≤ 1001) (hb2 : -1001 ≤ bY ∧ bY ≤ 1001) (h : aX ≠ bX ∨ aY ≠ bY) :
    -10000000 ≤ ltA (bX - aX) (bY - aY) * aX + ltB (bX - aX) (bY - aY) * aY ∧ ltA (bX - aX) (bY - aY) * aX + ltB (bX - aX) (bY - aY) * aY ≤ 10000000 := by
  have hb := lt_bd (M := 2002) (g_pos (dX := bX - aX) (dY := bY - aY) (by omega)) (by omega) (by omega)
  have m1 := mul_bd (ltA (bX - aX) (bY - aY)) aX 2002 1001 (by omega) (by omega) (by omega) (by omega)
  have m2 := mul_bd (ltB (bX - aX) (bY - aY)) aY 2002 1001 (by omega) (by omega) (by omega) (by omega)
  omega
theorem spec_g (aX aY bX bY : Int) : gcdI (gcdI (bY - aY) (absI (aX - bX))) (absI ((bY - aY) * aX + (aX - bX) * aY)) = gcdI (bX - aX) (bY - aY) ∧
    gcdI (gcdI (0 - (bY - aY)) (absI (0 - (aX - bX)))) (absI (0 - ((bY - aY) * aX + (aX - bX) * aY))) = gcdI (bX - aX) (bY - aY) := by
  have e : aX - bX = 0 - (bX - aX) := by omega
  have e1 : gcdI (bY - aY) (aX - bX) = gcdI (bX - aX) (bY - aY) := by rw [e, gcdI_neg_r, gcdI_comm]
  have hd : gcdI (bX - aX) (bY - aY) ∣ (bY - aY) * aX + (aX - bX) * aY := by
    refine Int.dvd_add (Int.dvd_mul_of_dvd_left (gcdI_right _ _)) (Int.dvd_mul_of_dvd_left ?_)
    rw [e, Int.zero_sub]
    exact Int.dvd_neg.2 (gcdI_left _ _)
  have hg : 0 ≤ gcdI (bX - aX) (bY - aY) := by unfold gcdI; omega
  constructor
  · rw [gcdI_abs_right, gcdI_abs_right, e1]
    exact gcdI_of_dvd hg hd
  · rw [gcdI_abs_right, gcdI_abs_right, gcdI_neg_left, gcdI_neg_r, gcdI_neg_r, e1]
    exact gcdI_of_dvd hg hd
theorem spec_c {aX aY bX bY : Int} (hg : 1 ≤ gcdI (bX - aX) (bY - aY)) : Int.tdiv ((bY - aY) * aX + (aX - bX) * aY) (gcdI (bX - aX) (bY - aY)) = (bY - aY) / gcdI (bX - aX) (bY - aY) * aX - (bX - aX) / gcdI (bX - aX) (bY - aY) * aY := by
  have h1 := gcdI_right (bX - aX) (bY - aY)
  have h2 := gcdI_left (bX - aX) (bY - aY)
  generalize gcdI (bX - aX) (bY - aY) = g at *
  obtain ⟨u, hu⟩ := h1
  obtain ⟨v, hv⟩ := h2
  have e : aX - bX = g * (0 - v) := by rw [Int.mul_sub, ← hv]; omega
  have eC : (bY - aY) * aX + (aX - bX) * aY = g * (u * aX - v * aY) := by rw [hu, e]; grind
  rw [eC, hu, hv, Int.mul_ediv_cancel_left _ (by omega), Int.mul_ediv_cancel_left _ (by omega), Int.mul_tdiv_cancel_left _ (by omega)]
theorem spec_pos {aX aY bX bY : Int} (hne : aX ≠ bX ∨ aY ≠ bY) (h : bY - aY < 0 ∨ (bY - aY = 0 ∧ aX - bX < 0)) :
    Int.tdiv (0 - (bY - aY)) (gcdI (bX - aX) (bY - aY)) = ltA (bX - aX) (bY - aY) ∧ Int.tdiv (0 - (aX - bX)) (gcdI (bX - aX) (bY - aY)) = ltB (bX - aX) (bY - aY) ∧
    Int.tdiv (0 - ((bY - aY) * aX + (aX - bX) * aY)) (gcdI (bX - aX) (bY - aY)) = ltA (bX - aX) (bY - aY) * aX + ltB (bX - aX) (bY - aY) * aY := by
  have hs : ltS (bX - aX) (bY - aY) = true := by simp only [ltS, Bool.or_eq_true, Bool.and_eq_true, decide_eq_true_eq]; omega
  have hc := spec_c (g_pos (dX := bX - aX) (dY := bY - aY) (by omega))
  unfold ltA ltB
  rw [if_pos hs, if_pos hs, (tdiv_g (gcdI_right _ _)).2.2, show 0 - (aX - bX) = bX - aX by omega, (tdiv_g (gcdI_left _ _)).1, Int.zero_sub ((bY - aY) * aX + (aX - bX) * aY), Int.neg_tdiv, hc]
  refine ⟨rfl, rfl, ?_⟩
  rw [Int.neg_mul]; omega
theorem spec_neg {aX aY bX bY : Int} (hne : aX ≠ bX ∨ aY ≠ bY) (h : ¬ (bY - aY < 0 ∨ (bY - aY = 0 ∧ aX - bX < 0))) :
    Int.tdiv (bY - aY) (gcdI (bX - aX) (bY - aY)) = ltA (bX - aX) (bY - aY) ∧ Int.tdiv (aX - bX) (gcdI (bX - aX) (bY - aY)) = ltB (bX - aX) (bY - aY) ∧
    Int.tdiv ((bY - aY) * aX + (aX - bX) * aY) (gcdI (bX - aX) (bY - aY)) = ltA (bX - aX) (bY - aY) * aX + ltB (bX - aX) (bY - aY) * aY := by
  have hs : ¬ ltS (bX - aX) (bY - aY) = true := by simp only [ltS, Bool.or_eq_true, Bool.and_eq_true, decide_eq_true_eq]; omega
  have hc := spec_c (g_pos (dX := bX - aX) (dY := bY - aY) (by omega))
  unfold ltA ltB
  rw [if_neg hs, if_neg hs, (tdiv_g (gcdI_right _ _)).1, show aX - bX = 0 - (bX - aX) by omega, (tdiv_g (gcdI_left _ _)).2.2]
  rw [show aX - bX = 0 - (bX - aX) by omega] at hc
  refine ⟨rfl, rfl, ?_⟩
  rw [hc, Int.neg_mul]; omega
end Go.Proofs.Ytefikodgmhlfnaa
