/- The point where segments meet is on both lines. -/
import Derived.Test.YtoielngedkbmbaaK19
import Derived.Test.YtoielngedkbmbaaK20
import Derived.Test.YtoielngedkbmbaaLLineThrough
set_option linter.unusedSimpArgs false
set_option linter.unusedVariables false
set_option maxRecDepth 100000
namespace Go.Proofs.Ytoielngedkbmbaa
open Go.Sym
theorem red_neg {n d : Int} (hd : d ≠ 0) : redN (0 - n) (0 - d) = redN n d ∧ redD (0 - n) (0 - d) = redD n d := by
  have hg := gcdI_neg n d
  have h1 := Int.neg_ediv_of_dvd (gcdI_left n d)
  have h2 := Int.neg_ediv_of_dvd (gcdI_right n d)
  have e1 : (0 - n) / gcdI n d = -(n / gcdI n d) := by rw [Int.zero_sub]; exact h1
  have e2 : (0 - d) / gcdI n d = -(d / gcdI n d) := by rw [Int.zero_sub]; exact h2
  unfold redN redD
  rw [hg, e1, e2]
  by_cases h : d < 0
  · rw [if_neg (by omega), if_pos h, if_neg (by omega), if_pos h]; exact ⟨rfl, rfl⟩
  · rw [if_pos (by omega), if_neg h, if_pos (by omega), if_neg h]; omega
/-- A fraction in lowest terms: its value, and its bounds. -/
theorem red_all {n d : Int} (hd : d ≠ 0) : redN n d * d = n * redD n d ∧ gcdI (redN n d) (redD n d) = 1 ∧ 1 ≤ redD n d ∧ (∀ P, -P ≤ n → n ≤ P → -P ≤ redN n d ∧ redN n d ≤ P) ∧ (∀ P, -P ≤ d → d ≤ P → redD n d ≤ P) := by
  rcases (show 0 < d ∨ d ≤ 0 by omega) with h | h
  · exact ⟨red_val n d h, red_cop n d h, (redD_bd n d d h (Int.le_refl _)).1, fun P h1 h2 => redN_bd n d P h h1 h2, fun P h1 h2 => (redD_bd n d P h h2).2⟩
  · have e := red_neg (n := n) hd
    have hp : 1 ≤ 0 - d := by omega
    have v := red_val (0 - n) (0 - d) hp
    have c := red_cop (0 - n) (0 - d) hp
    have b := redD_bd (0 - n) (0 - d) (0 - d) hp (Int.le_refl _)
    have bn := fun P h1 h2 => redN_bd (0 - n) (0 - d) P hp h1 h2
    have bd := fun P h2 => redD_bd (0 - n) (0 - d) P hp h2
    rw [e.1, e.2] at v c
    rw [e.2] at b
    rw [e.1] at bn
    rw [e.2] at bd
    refine ⟨?_, c, b.1, fun P h1 h2 => bn P (by omega) (by omega), fun P h1 h2 => (bd P (by omega)).2⟩
    have : (redN n d * d - n * redD n d) = 0 := by
      have : redN n d * (0 - d) - (0 - n) * redD n d = 0 := by omega
      grind
    omega
theorem meet_swap (lA lB lC mA mB mC : Int) : mlH mA mB mC lA lB lC = mlH lA lB lC mA mB mC ∧ mlXN mA mB mC lA lB lC = mlXN lA lB lC mA mB mC ∧ mlXD mA mB mC lA lB lC = mlXD lA lB lC mA mB mC ∧ mlYN mA mB mC lA lB lC = mlYN lA lB lC mA mB mC ∧ mlYD mA mB mC lA lB lC = mlYD lA lB lC mA mB mC := by
  by_cases h1 : okL lA lB lC = true
  · by_cases h2 : okL mA mB mC = true
    · by_cases h3 : lA = mA ∧ lB = mB ∧ lC = mC
      · have a := ml_same h1 h2 h3
        have b := ml_same h2 h1 ⟨h3.1.symm, h3.2.1.symm, h3.2.2.symm⟩
        omega
      · have e0 : mA * lB - lA * mB = 0 - (lA * mB - mA * lB) := by omega
        by_cases h4 : lA * mB - mA * lB = 0
        · have a := ml_par h1 h2 h3 h4
          have b := ml_par h2 h1 (fun h => h3 ⟨h.1.symm, h.2.1.symm, h.2.2.symm⟩) (by omega)
          omega
        · have a := ml_one h1 h2 h4
          have b := ml_one h2 h1 (by omega)
          have r1 := red_neg (n := lC * mB - mC * lB) h4
          have r2 := red_neg (n := lA * mC - mA * lC) h4
          rw [e0, show mC * lB - lC * mB = 0 - (lC * mB - mC * lB) by omega, show mA * lC - lA * mC = 0 - (lA * mC - mA * lC) by omega] at b
          omega
    · have h2 : okL mA mB mC = false := by simpa using h2
      have a := ml_bad (lA := lA) (lB := lB) (lC := lC) (Or.inr h2)
      have b := ml_bad (mA := lA) (mB := lB) (mC := lC) (Or.inl h2)
      omega
  · have h1 : okL lA lB lC = false := by simpa using h1
    have a := ml_bad (mA := mA) (mB := mB) (mC := mC) (Or.inl h1)
    have b := ml_bad (lA := mA) (lB := mB) (lC := mC) (Or.inr h1)
    omega
theorem sor_zero {a b c D nx ny xN xD yN yD : Int} (hD : D ≠ 0) (h1 : xN * D = nx * xD) (h2 : yN * D = ny * yD) (h3 : a * nx + b * ny = c * D) (hx : 1 ≤ xD) (hy : 1 ≤ yD) :
    sorL a b c xN xD yN yD = 0 ∨ sorL a b c xN xD yN yD = 2 := by
  unfold sorL
  split
  · left
    have hg := gcdI_pos xD yD (by omega)
    have g1 := gcdI_left xD yD
    have g2 := gcdI_right xD yD
    generalize gcdI xD yD = g at *
    obtain ⟨u, hu⟩ := g1
    obtain ⟨v, hv⟩ := g2
    have eu : xD / g = u := by rw [hu, Int.mul_ediv_cancel_left _ (by omega)]
    have ev : yD / g = v := by rw [hv, Int.mul_ediv_cancel_left _ (by omega)]
    rw [eu, ev]
    have e : a * (xN * v) + b * (yN * u) - c * (u * yD) = 0 := by
      refine Int.eq_of_mul_eq_mul_right hD ?_
      have : (a * (xN * v) + b * (yN * u) - c * (u * yD)) * D = a * v * (xN * D) + b * u * (yN * D) - c * u * yD * D := by grind
      rw [this, h1, h2, hu, hv]
      have : a * v * (nx * (g * u)) + b * u * (ny * (g * v)) - c * u * (g * v) * D = (u * v * g) * (a * nx + b * ny - c * D) := by grind
      rw [this, h3]; simp
    rw [e]; rfl
  · right; rfl
theorem meet_law {lA lB lC mA mB mC : Int} (h : mlH lA lB lC mA mB mC = 1) : okR (mlXN lA lB lC mA mB mC) (mlXD lA lB lC mA mB mC) = true ∧ okR (mlYN lA lB lC mA mB mC) (mlYD lA lB lC mA mB mC) = true ∧
    (sorL lA lB lC (mlXN lA lB lC mA mB mC) (mlXD lA lB lC mA mB mC) (mlYN lA lB lC mA mB mC) (mlYD lA lB lC mA mB mC) = 0 ∨ sorL lA lB lC (mlXN lA lB lC mA mB mC) (mlXD lA lB lC mA mB mC) (mlYN lA lB lC mA mB mC) (mlYD lA lB lC mA mB mC) = 2) ∧
    (sorL mA mB mC (mlXN lA lB lC mA mB mC) (mlXD lA lB lC mA mB mC) (mlYN lA lB lC mA mB mC) (mlYD lA lB lC mA mB mC) = 0 ∨ sorL mA mB mC (mlXN lA lB lC mA mB mC) (mlXD lA lB lC mA mB mC) (mlYN lA lB lC mA mB mC) (mlYD lA lB lC mA mB mC) = 2) := by
  have h1 : okL lA lB lC = true := by
    rcases hb : okL lA lB lC with _ | _
    · have := (ml_bad (mA := mA) (mB := mB) (mC := mC) (Or.inl hb)).1; omega
    · rfl
  have h2 : okL mA mB mC = true := by
    rcases hb : okL mA mB mC with _ | _
    · have := (ml_bad (lA := lA) (lB := lB) (lC := lC) (Or.inr hb)).1; omega
    · rfl
  have h0 : lA * mB - mA * lB ≠ 0 := by
    intro h0
    by_cases h3 : lA = mA ∧ lB = mB ∧ lC = mC
    · have := (ml_same h1 h2 h3).1; omega
    · have := (ml_par h1 h2 h3 h0).1; omega
  have ho := ml_one h1 h2 h0
  have o1 := okL_bd h1
  have o2 := okL_bd h2
  have b1 := mul_bd lC mB 4000000 2000 (by omega) (by omega) (by omega) (by omega)
  have b2 := mul_bd mC lB 4000000 2000 (by omega) (by omega) (by omega) (by omega)
  have b3 := mul_bd lA mC 2000 4000000 (by omega) (by omega) (by omega) (by omega)
  have b4 := mul_bd mA lC 2000 4000000 (by omega) (by omega) (by omega) (by omega)
  have b5 := mul_bd lA mB 2000 2000 (by omega) (by omega) (by omega) (by omega)
  have b6 := mul_bd mA lB 2000 2000 (by omega) (by omega) (by omega) (by omega)
  rw [ho.2.1, ho.2.2.1, ho.2.2.2.1, ho.2.2.2.2]
  have hx := red_all (n := lC * mB - mC * lB) h0
  have hy := red_all (n := lA * mC - mA * lC) h0
  have k1 : lA * (lC * mB - mC * lB) + lB * (lA * mC - mA * lC) = lC * (lA * mB - mA * lB) := by grind
  have k2 : mA * (lC * mB - mC * lB) + mB * (lA * mC - mA * lC) = mC * (lA * mB - mA * lB) := by grind
  have p1 := hx.2.2.2.1 100000000000 (by omega) (by omega)
  have p2 := hx.2.2.2.2 20000000 (by omega) (by omega)
  have p3 := hy.2.2.2.1 100000000000 (by omega) (by omega)
  have p4 := hy.2.2.2.2 20000000 (by omega) (by omega)
  exact ⟨okR_of p1 ⟨hx.2.2.1, p2⟩ hx.2.1, okR_of p3 ⟨hy.2.2.1, p4⟩ hy.2.1, sor_zero h0 hx.1 hy.1 k1 hx.2.2.1 hy.2.2.1, sor_zero h0 hx.1 hy.1 k2 hx.2.2.1 hy.2.2.1⟩

/-- A point of a line through two points. -/
theorem line_of_trn {aX aY bX bY x y : Int} (ha : okP aX aY = true) (hb : okP bX bY = true) (hne : aX ≠ bX ∨ aY ≠ bY) (ht : trn aX aY bX bY x y = 0) : liA aX aY bX bY * x + liB aX aY bX bY * y = liC aX aY bX bY := by
  have l1 := li_ok ha hb hne
  rw [l1.2.2.1, l1.2.2.2.1, l1.2.2.2.2]
  have hg := l1.2.1
  have h1 := gcdI_right (bX - aX) (bY - aY)
  have h2 := gcdI_left (bX - aX) (bY - aY)
  unfold trn at ht
  have key : ltA (bX - aX) (bY - aY) * x + ltB (bX - aX) (bY - aY) * y - (ltA (bX - aX) (bY - aY) * aX + ltB (bX - aX) (bY - aY) * aY) = 0 := by
    unfold ltA ltB
    generalize gcdI (bX - aX) (bY - aY) = g at *
    obtain ⟨u, hu⟩ := h1
    obtain ⟨v, hv⟩ := h2
    have hu' : (bY - aY) / g = u := by rw [hu, Int.mul_ediv_cancel_left _ (by omega)]
    have hv' : (bX - aX) / g = v := by rw [hv, Int.mul_ediv_cancel_left _ (by omega)]
    rw [hu', hv']
    rw [hu, hv] at ht
    have e : v * (y - aY) - u * (x - aX) = 0 := by
      refine (Int.mul_eq_zero.1 (?_ : g * (v * (y - aY) - u * (x - aX)) = 0)).resolve_left (by omega)
      rw [← ht]; grind
    split <;> grind
  omega
theorem frac_bd {n d D m : Int} (hD : 1 ≤ D) (hd : 1 ≤ d) (h : n * D = m * d) (hb : -(3000 * D) ≤ m ∧ m ≤ 3000 * D) : -(3000 * d) ≤ n ∧ n ≤ 3000 * d := by
  constructor
  · refine Int.le_of_mul_le_mul_right (a := D) ?_ (by omega)
    rw [h]
    have := Int.mul_le_mul_of_nonneg_right hb.1 (show 0 ≤ d by omega)
    have e : -(3000 * d) * D = -(3000 * D) * d := by grind
    omega
  · refine Int.le_of_mul_le_mul_right (a := D) ?_ (by omega)
    rw [h]
    have := Int.mul_le_mul_of_nonneg_right hb.2 (show 0 ≤ d by omega)
    have e : 3000 * d * D = 3000 * D * d := by grind
    omega
theorem lcm_le {x y D : Int} (hx : 1 ≤ x) (hD : 1 ≤ D) (dx : x ∣ D) (dy : y ∣ D) : x / gcdI x y * y ≤ D := by
  have hg : 1 ≤ gcdI x y := by rw [gcdI_comm]; exact gcdI_pos y x (by omega)
  have hc : Int.gcd (x / gcdI x y) (y / gcdI x y) = 1 := by
    unfold gcdI at hg ⊢
    exact Int.gcd_ediv_gcd_ediv_gcd (i := x) (j := y) (by omega)
  have h1 := gcdI_left x y
  have h2 := gcdI_right x y
  generalize gcdI x y = g at *
  obtain ⟨u, hu⟩ := h1
  obtain ⟨v, hv⟩ := h2
  have eu : x / g = u := by rw [hu, Int.mul_ediv_cancel_left _ (by omega)]
  have ev : y / g = v := by rw [hv, Int.mul_ediv_cancel_left _ (by omega)]
  rw [eu, ev] at hc
  rw [eu]
  obtain ⟨k, hk⟩ := dy
  obtain ⟨j, hj⟩ := dx
  have e1 : u ∣ v * k := by
    refine ⟨j, ?_⟩
    refine Int.eq_of_mul_eq_mul_left (a := g) (by omega) ?_
    have e3 : g * (v * k) = D := by rw [hk, hv]; grind
    have e4 : g * (u * j) = D := by rw [hj, hu]; grind
    omega
  have e2 : u ∣ k := dvd_of_cop e1 hc
  obtain ⟨q, hq⟩ := e2
  refine Int.le_of_dvd (by omega) ⟨q, ?_⟩
  rw [hk, hq]; grind
theorem on_pos {a b c D nx ny xN xD yN yD : Int} (hl : okL a b c = true) (hD : 1 ≤ D) (hD2 : D ≤ 20000000) (h1 : xN * D = nx * xD) (h2 : yN * D = ny * yD) (g1 : gcdI xN xD = 1) (g2 : gcdI yN yD = 1) (hx : 1 ≤ xD) (hy : 1 ≤ yD)
    (bx : -(3000 * D) ≤ nx ∧ nx ≤ 3000 * D) (b2 : -(3000 * D) ≤ ny ∧ ny ≤ 3000 * D) (h3 : a * nx + b * ny = c * D) : sorL a b c xN xD yN yD = 0 := by
  have c1 : Int.gcd xD xN = 1 := by unfold gcdI at g1; rw [Int.gcd_comm]; omega
  have c2 : Int.gcd yD yN = 1 := by unfold gcdI at g2; rw [Int.gcd_comm]; omega
  have dx : xD ∣ D := dvd_of_cop (n := xN) ⟨nx, by rw [h1, Int.mul_comm]⟩ c1
  have dy : yD ∣ D := dvd_of_cop (n := yN) ⟨ny, by rw [h2, Int.mul_comm]⟩ c2
  have lx := Int.le_of_dvd (by omega) dx
  have ly := Int.le_of_dvd (by omega) dy
  have e1 := frac_bd hD hx h1 bx
  have e2 := frac_bd hD hy h2 b2
  have ll := lcm_le hx hD dx dy
  have hok : sorOK a b c xN xD yN yD = true := by
    unfold sorOK
    rw [hl, okR_of (n := xN) (d := xD) (by omega) (by omega) g1, okR_of (n := yN) (d := yD) (by omega) (by omega) g2, decide_eq_true (show xD / gcdI xD yD * yD ≤ 20000000 by omega), decide_eq_true (show absI xN ≤ 10000 * xD by unfold absI; omega), decide_eq_true (show absI yN ≤ 10000 * yD by unfold absI; omega)]
    rfl
  rcases sor_zero (show D ≠ 0 by omega) h1 h2 h3 hx hy with h | h
  · exact h
  · exfalso
    unfold sorL at h
    rw [if_pos hok] at h
    unfold sgn at h
    (repeat' split at h) <;> omega
theorem on_any {a b c D nx ny xN xD yN yD : Int} (hl : okL a b c = true) (hD : D ≠ 0) (hD2 : absI D ≤ 20000000) (h1 : xN * D = nx * xD) (h2 : yN * D = ny * yD) (g1 : gcdI xN xD = 1) (g2 : gcdI yN yD = 1) (hx : 1 ≤ xD) (hy : 1 ≤ yD)
    (bx : -(3000 * absI D) ≤ nx ∧ nx ≤ 3000 * absI D) (b2 : -(3000 * absI D) ≤ ny ∧ ny ≤ 3000 * absI D) (h3 : a * nx + b * ny = c * D) : sorL a b c xN xD yN yD = 0 := by
  unfold absI at *
  rcases (show 0 < D ∨ D < 0 by omega) with h | h
  · exact on_pos hl h (by omega) h1 h2 g1 g2 hx hy (by omega) (by omega) h3
  · exact on_pos (D := -D) (nx := -nx) (ny := -ny) hl (by omega) (by omega) (by rw [Int.mul_neg, h1, Int.neg_mul]) (by rw [Int.mul_neg, h2, Int.neg_mul]) g1 g2 hx hy (by omega) (by omega) (by rw [Int.mul_neg, Int.mul_neg, Int.mul_neg, ← h3]; omega)
def nX (sAX sAY sBX sBY tAX tAY tBX tBY : Int) : Int := sAX * mtDen sAX sAY sBX sBY tAX tAY tBX tBY + mtNum sAX sAY tAX tAY tBX tBY * (sBX - sAX)
def nY (sAX sAY sBX sBY tAX tAY tBX tBY : Int) : Int := sAY * mtDen sAX sAY sBX sBY tAX tAY tBX tBY + mtNum sAX sAY tAX tAY tBX tBY * (sBY - sAY)
theorem nX_eq (sAX sAY sBX sBY tAX tAY tBX tBY : Int) : nX sAX sAY sBX sBY tAX tAY tBX tBY = tAX * mtDen sAX sAY sBX sBY tAX tAY tBX tBY + ((tAX - sAX) * (sBY - sAY) - (tAY - sAY) * (sBX - sAX)) * (tBX - tAX) ∧ nY sAX sAY sBX sBY tAX tAY tBX tBY = tAY * mtDen sAX sAY sBX sBY tAX tAY tBX tBY + ((tAX - sAX) * (sBY - sAY) - (tAY - sAY) * (sBX - sAX)) * (tBY - tAY) := by
  unfold nX nY mtDen mtNum
  constructor <;> grind
theorem nX_swap (sAX sAY sBX sBY tAX tAY tBX tBY : Int) : nX tAX tAY tBX tBY sAX sAY sBX sBY = 0 - nX sAX sAY sBX sBY tAX tAY tBX tBY ∧ nY tAX tAY tBX tBY sAX sAY sBX sBY = 0 - nY sAX sAY sBX sBY tAX tAY tBX tBY ∧ mtDen tAX tAY tBX tBY sAX sAY sBX sBY = 0 - mtDen sAX sAY sBX sBY tAX tAY tBX tBY := by
  have h := nX_eq sAX sAY sBX sBY tAX tAY tBX tBY
  refine ⟨?_, ?_, ?_⟩
  · rw [h.1]; unfold nX mtDen mtNum; grind
  · rw [h.2]; unfold nY mtDen mtNum; grind
  · unfold mtDen; grind
/-- The lines of both segments at the point where they cross. -/
theorem cross_line {sAX sAY sBX sBY tAX tAY tBX tBY : Int} (hs : okS sAX sAY sBX sBY = true) (ht : okS tAX tAY tBX tBY = true) :
    liA sAX sAY sBX sBY * nX sAX sAY sBX sBY tAX tAY tBX tBY + liB sAX sAY sBX sBY * nY sAX sAY sBX sBY tAX tAY tBX tBY = liC sAX sAY sBX sBY * mtDen sAX sAY sBX sBY tAX tAY tBX tBY ∧
    liA tAX tAY tBX tBY * nX sAX sAY sBX sBY tAX tAY tBX tBY + liB tAX tAY tBX tBY * nY sAX sAY sBX sBY tAX tAY tBX tBY = liC tAX tAY tBX tBY * mtDen sAX sAY sBX sBY tAX tAY tBX tBY := by
  have h := nX_eq sAX sAY sBX sBY tAX tAY tBX tBY
  have o1 := okS_ne hs
  have o2 := okS_ne ht
  have l1 := li_ok (okP_iff.2 o1.1) (okP_iff.2 o1.2.1) (show sAX ≠ sBX ∨ sAY ≠ sBY by omega)
  have l2 := li_ok (okP_iff.2 o2.1) (okP_iff.2 o2.2.1) (show tAX ≠ tBX ∨ tAY ≠ tBY by omega)
  have z1 := lt_line (aX := sAX) (aY := sAY) (bX := sBX) (bY := sBY)
  have z2 := lt_line (aX := tAX) (aY := tAY) (bX := tBX) (bY := tBY)
  rw [l1.2.2.1, l1.2.2.2.1, l1.2.2.2.2, l2.2.2.1, l2.2.2.2.1, l2.2.2.2.2]
  constructor
  · unfold nX nY
    generalize ltA (sBX - sAX) (sBY - sAY) = A at *
    generalize ltB (sBX - sAX) (sBY - sAY) = B at *
    generalize mtDen sAX sAY sBX sBY tAX tAY tBX tBY = D at *
    generalize mtNum sAX sAY tAX tAY tBX tBY = N at *
    have e : A * (sAX * D + N * (sBX - sAX)) + B * (sAY * D + N * (sBY - sAY)) = (A * sAX + B * sAY) * D + N * (A * (sBX - sAX) + B * (sBY - sAY)) := by grind
    rw [e, z1]; omega
  · rw [h.1, h.2]
    generalize ltA (tBX - tAX) (tBY - tAY) = A at *
    generalize ltB (tBX - tAX) (tBY - tAY) = B at *
    generalize mtDen sAX sAY sBX sBY tAX tAY tBX tBY = D at *
    generalize (tAX - sAX) * (sBY - sAY) - (tAY - sAY) * (sBX - sAX) = N at *
    have e : A * (tAX * D + N * (tBX - tAX)) + B * (tAY * D + N * (tBY - tAY)) = (A * tAX + B * tAY) * D + N * (A * (tBX - tAX) + B * (tBY - tAY)) := by grind
    rw [e, z2]; omega
theorem cross_bd {sAX sAY sBX sBY tAX tAY tBX tBY : Int} (hs : okS sAX sAY sBX sBY = true) (ht : okS tAX tAY tBX tBY = true) (hc : crsB sAX sAY sBX sBY tAX tAY tBX tBY = true) :
    absI (mtDen sAX sAY sBX sBY tAX tAY tBX tBY) ≤ 20000000 ∧ (-(3000 * absI (mtDen sAX sAY sBX sBY tAX tAY tBX tBY)) ≤ nX sAX sAY sBX sBY tAX tAY tBX tBY ∧ nX sAX sAY sBX sBY tAX tAY tBX tBY ≤ 3000 * absI (mtDen sAX sAY sBX sBY tAX tAY tBX tBY)) ∧
    (-(3000 * absI (mtDen sAX sAY sBX sBY tAX tAY tBX tBY)) ≤ nY sAX sAY sBX sBY tAX tAY tBX tBY ∧ nY sAX sAY sBX sBY tAX tAY tBX tBY ≤ 3000 * absI (mtDen sAX sAY sBX sBY tAX tAY tBX tBY)) := by
  have o1 := okS_ne hs
  have o2 := okS_ne ht
  have m1 := mul_bd (sBX - sAX) (tBY - tAY) 2000 2000 (by omega) (by omega) (by omega) (by omega)
  have m2 := mul_bd (sBY - sAY) (tBX - tAX) 2000 2000 (by omega) (by omega) (by omega) (by omega)
  have hc' := hc
  unfold crsB at hc'
  simp only [Bool.and_eq_true, decide_eq_true_eq] at hc'
  have h2 := sgn_neg hc'.2
  have e := mt_den sAX sAY sBX sBY tAX tAY tBX tBY
  have e2 := mt_num sAX sAY tAX tAY tBX tBY
  have hN : -absI (mtDen sAX sAY sBX sBY tAX tAY tBX tBY) ≤ mtNum sAX sAY tAX tAY tBX tBY ∧ mtNum sAX sAY tAX tAY tBX tBY ≤ absI (mtDen sAX sAY sBX sBY tAX tAY tBX tBY) := by unfold absI; omega
  have hD : -absI (mtDen sAX sAY sBX sBY tAX tAY tBX tBY) ≤ mtDen sAX sAY sBX sBY tAX tAY tBX tBY ∧ mtDen sAX sAY sBX sBY tAX tAY tBX tBY ≤ absI (mtDen sAX sAY sBX sBY tAX tAY tBX tBY) := by unfold absI; omega
  have a1 := mul_bd (mtNum sAX sAY tAX tAY tBX tBY) (sBX - sAX) (absI (mtDen sAX sAY sBX sBY tAX tAY tBX tBY)) 2000 hN.1 hN.2 (by omega) (by omega)
  have a2 := mul_bd (mtNum sAX sAY tAX tAY tBX tBY) (sBY - sAY) (absI (mtDen sAX sAY sBX sBY tAX tAY tBX tBY)) 2000 hN.1 hN.2 (by omega) (by omega)
  have a3 := mul_bd sAX (mtDen sAX sAY sBX sBY tAX tAY tBX tBY) 1000 (absI (mtDen sAX sAY sBX sBY tAX tAY tBX tBY)) (by omega) (by omega) hD.1 hD.2
  have a4 := mul_bd sAY (mtDen sAX sAY sBX sBY tAX tAY tBX tBY) 1000 (absI (mtDen sAX sAY sBX sBY tAX tAY tBX tBY)) (by omega) (by omega) hD.1 hD.2
  refine ⟨?_, ?_, ?_⟩
  · unfold absI mtDen; omega
  · unfold nX; omega
  · unfold nY; omega
theorem p4_bd {a b c d j : Int} (ha : -1000 ≤ a ∧ a ≤ 1000) (hb : -1000 ≤ b ∧ b ≤ 1000) (hc : -1000 ≤ c ∧ c ≤ 1000) (hd : -1000 ≤ d ∧ d ≤ 1000) (h0 : 0 ≤ j) (h1 : j < 4) : -1000 ≤ p4X a b c d j ∧ p4X a b c d j ≤ 1000 := by
  have h := p4_0 a b c d
  obtain e | e | e | e : j = 0 ∨ j = 1 ∨ j = 2 ∨ j = 3 := by omega
  all_goals subst e; omega
/-- The common end of segments that touch. -/
theorem touch_pt {sAX sAY sBX sBY tAX tAY tBX tBY : Int} (hs : okS sAX sAY sBX sBY = true) (ht : okS tAX tAY tBX tBY = true) (h1 : cmN sAX sAY sBX sBY tAX tAY tBX tBY = 1) :
    (0 ≤ cm0 sAX sAY sBX sBY tAX tAY tBX tBY ∧ cm0 sAX sAY sBX sBY tAX tAY tBX tBY < 4) ∧ ccB sAX sAY sBX sBY tAX tAY tBX tBY (cm0 sAX sAY sBX sBY tAX tAY tBX tBY) = true ∧
    ∀ k : Int, 0 ≤ k → k < 4 → ccB sAX sAY sBX sBY tAX tAY tBX tBY k = true → p4X sAX sBX tAX tBX k = p4X sAX sBX tAX tBX (cm0 sAX sAY sBX sBY tAX tAY tBX tBY) ∧ p4X sAY sBY tAY tBY k = p4X sAY sBY tAY tBY (cm0 sAX sAY sBX sBY tAX tAY tBX tBY) := by
  have hN : len' (fl (cmQ sAX sAY sBX sBY tAX tAY tBX tBY) 4) = 1 := h1
  have hm := selL_mem (l := fl (cmQ sAX sAY sBX sBY tAX tAY tBX tBY) 4) (i := 0) (by omega) (by omega)
  rw [mem_fl] at hm
  obtain ⟨⟨a, b⟩, hq⟩ := hm
  have hx := cm_x0 hs ht h1
  have hl := cm_len hs ht
  unfold cm0 at hx ⊢
  generalize hi : selL (fl (cmQ sAX sAY sBX sBY tAX tAY tBX tBY) 4) 0 = i at *
  have e : ((i.toNat : Nat) : Int) = i := by omega
  have h2 := cm_same hs ht i.toNat (by omega)
  rw [e] at h2
  refine ⟨⟨a, b⟩, (h2.1 hq).1, fun k k0 k1 hk => ?_⟩
  have h3 := ((ceL_ok (p4X sAX sBX tAX tBX) (p4X sAY sBY tAY tBY) (ccB sAX sAY sBX sBY tAX tAY tBX tBY) 4).2 (p4X sAX sBX tAX tBX k) (p4X sAY sBY tAY tBY k)).2 ⟨k, ⟨k0, k1⟩, hk, rfl, rfl⟩
  obtain ⟨j, ⟨j0, j1⟩, j2, j3⟩ := h3
  have hn : ceN sAX sAY sBX sBY tAX tAY tBX tBY 4 = 1 := by omega
  have hj : j < ceN sAX sAY sBX sBY tAX tAY tBX tBY 4 := j1
  obtain rfl : j = 0 := by omega
  have j2' : ceX sAX sAY sBX sBY tAX tAY tBX tBY 4 0 = p4X sAX sBX tAX tBX k := j2
  have j3' : ceY sAX sAY sBX sBY tAX tAY tBX tBY 4 0 = p4X sAY sBY tAY tBY k := j3
  exact ⟨by rw [← j2', hx.1], by rw [← j3', hx.2]⟩
theorem touch_swap {sAX sAY sBX sBY tAX tAY tBX tBY : Int} (hs : okS sAX sAY sBX sBY = true) (ht : okS tAX tAY tBX tBY = true) (h1 : cmN sAX sAY sBX sBY tAX tAY tBX tBY = 1) (h2 : cmN tAX tAY tBX tBY sAX sAY sBX sBY = 1) :
    p4X tAX tBX sAX sBX (cm0 tAX tAY tBX tBY sAX sAY sBX sBY) = p4X sAX sBX tAX tBX (cm0 sAX sAY sBX sBY tAX tAY tBX tBY) ∧ p4X tAY tBY sAY sBY (cm0 tAX tAY tBX tBY sAX sAY sBX sBY) = p4X sAY sBY tAY tBY (cm0 sAX sAY sBX sBY tAX tAY tBX tBY) := by
  obtain ⟨_, _, c⟩ := touch_pt hs ht h1
  obtain ⟨⟨a', b'⟩, q', _⟩ := touch_pt ht hs h2
  generalize cm0 tAX tAY tBX tBY sAX sAY sBX sBY = j at *
  have f1 := p4_0 tAX tBX sAX sBX
  have f2 := p4_0 tAY tBY sAY sBY
  have g1 := p4_0 sAX sBX tAX tBX
  have g2 := p4_0 sAY sBY tAY tBY
  have go : ∀ k : Int, 0 ≤ k → k < 4 → p4X tAX tBX sAX sBX j = p4X sAX sBX tAX tBX k → p4X tAY tBY sAY sBY j = p4X sAY sBY tAY tBY k → p4X tAX tBX sAX sBX j = p4X sAX sBX tAX tBX (cm0 sAX sAY sBX sBY tAX tAY tBX tBY) ∧ p4X tAY tBY sAY sBY j = p4X sAY sBY tAY tBY (cm0 sAX sAY sBX sBY tAX tAY tBX tBY) := by
    intro k k0 k1 ex ey
    unfold ccB at q'
    rw [ex, ey, Bool.and_comm] at q'
    rw [ex, ey]
    exact c k k0 k1 q'
  obtain e | e | e | e : j = 0 ∨ j = 1 ∨ j = 2 ∨ j = 3 := by omega
  · subst e; exact go 2 (by decide) (by decide) (by rw [f1.1, g1.2.2.1]) (by rw [f2.1, g2.2.2.1])
  · subst e; exact go 3 (by decide) (by decide) (by rw [f1.2.1, g1.2.2.2]) (by rw [f2.2.1, g2.2.2.2])
  · subst e; exact go 0 (by decide) (by decide) (by rw [f1.2.2.1, g1.1]) (by rw [f2.2.2.1, g2.1])
  · subst e; exact go 1 (by decide) (by decide) (by rw [f1.2.2.2, g1.2.1]) (by rw [f2.2.2.2, g2.2.1])
/-- Where segments meet: the same from both sides, and on both lines. -/
theorem mp_law {sAX sAY sBX sBY tAX tAY tBX tBY : Int} (h : relR sAX sAY sBX sBY tAX tAY tBX tBY = 1 ∨ relR sAX sAY sBX sBY tAX tAY tBX tBY = 2) :
    (mtXN tAX tAY tBX tBY sAX sAY sBX sBY = mtXN sAX sAY sBX sBY tAX tAY tBX tBY ∧ mtXD tAX tAY tBX tBY sAX sAY sBX sBY = mtXD sAX sAY sBX sBY tAX tAY tBX tBY ∧ mtYN tAX tAY tBX tBY sAX sAY sBX sBY = mtYN sAX sAY sBX sBY tAX tAY tBX tBY ∧ mtYD tAX tAY tBX tBY sAX sAY sBX sBY = mtYD sAX sAY sBX sBY tAX tAY tBX tBY) ∧
    sorL (liA sAX sAY sBX sBY) (liB sAX sAY sBX sBY) (liC sAX sAY sBX sBY) (mtXN sAX sAY sBX sBY tAX tAY tBX tBY) (mtXD sAX sAY sBX sBY tAX tAY tBX tBY) (mtYN sAX sAY sBX sBY tAX tAY tBX tBY) (mtYD sAX sAY sBX sBY tAX tAY tBX tBY) = 0 ∧
    sorL (liA tAX tAY tBX tBY) (liB tAX tAY tBX tBY) (liC tAX tAY tBX tBY) (mtXN sAX sAY sBX sBY tAX tAY tBX tBY) (mtXD sAX sAY sBX sBY tAX tAY tBX tBY) (mtYN sAX sAY sBX sBY tAX tAY tBX tBY) (mtYD sAX sAY sBX sBY tAX tAY tBX tBY) = 0 := by
  obtain ⟨hs, ht, hc⟩ := relR_cases h
  have o1 := okS_ne hs
  have o2 := okS_ne ht
  have k1 := (lt_law (li_ok (okP_iff.2 o1.1) (okP_iff.2 o1.2.1) (show sAX ≠ sBX ∨ sAY ≠ sBY by omega)).1).1.1
  have k2 := (lt_law (li_ok (okP_iff.2 o2.1) (okP_iff.2 o2.2.1) (show tAX ≠ tBX ∨ tAY ≠ tBY by omega)).1).1.1
  have hr := (rel_law (sAX := sAX) (sAY := sAY) (sBX := sBX) (sBY := sBY) (tAX := tAX) (tAY := tAY) (tBX := tBX) (tBY := tBY) (by omega)).1
  rcases hc with ⟨r1, n1⟩ | ⟨r2, n0, hx⟩
  · have n2 : cmN tAX tAY tBX tBY sAX sAY sBX sBY = 1 := by
      obtain ⟨_, _, h9⟩ := relR_cases (Or.inl (show relR tAX tAY tBX tBY sAX sAY sBX sBY = 1 by omega))
      omega
    have t1 := mp_touch r1
    have t2 := mp_touch (show relR tAX tAY tBX tBY sAX sAY sBX sBY = 1 by omega)
    have sw := touch_swap hs ht n1 n2
    obtain ⟨⟨i0, i1⟩, hq, _⟩ := touch_pt hs ht n1
    have ex : ∀ {a b c d a' b' c' d' : Int}, mtOne a b c d a' b' c' d' = true → mtXN a b c d a' b' c' d' = p4X a c a' c' (cm0 a b c d a' b' c' d') ∧ mtYN a b c d a' b' c' d' = p4X b d b' d' (cm0 a b c d a' b' c' d') := by
      intro a b c d a' b' c' d' ho
      constructor
      · unfold mtXN; rw [if_pos ho]
      · unfold mtYN; rw [if_pos ho]
    have x1 := ex t1.1
    have x2 := ex t2.1
    unfold ccB at hq
    rw [Bool.and_eq_true] at hq
    have q1 := hq.1
    have q2 := hq.2
    unfold onB at q1 q2
    rw [Bool.and_eq_true, decide_eq_true_eq, decide_eq_true_eq] at q1 q2
    have bx := p4_bd (a := sAX) (b := sBX) (c := tAX) (d := tBX) (by omega) (by omega) (by omega) (by omega) i0 i1
    have b2 := p4_bd (a := sAY) (b := sBY) (c := tAY) (d := tBY) (by omega) (by omega) (by omega) (by omega) i0 i1
    have e1 := line_of_trn (okP_iff.2 o1.1) (okP_iff.2 o1.2.1) (by omega) q1.1
    have e2 := line_of_trn (okP_iff.2 o2.1) (okP_iff.2 o2.2.1) (by omega) q2.1
    rw [x2.1, x2.2, x1.1, x1.2, t1.2.2.2.2.1, t1.2.2.2.2.2, t2.2.2.2.2.1, t2.2.2.2.2.2]
    have g : ∀ z : Int, gcdI z 1 = 1 := fun z => by unfold gcdI; simp
    have ha : absI 1 = 1 := rfl
    refine ⟨⟨sw.1, rfl, sw.2, rfl⟩, ?_, ?_⟩
    · exact on_any (D := 1) k1 (by decide) (by decide) rfl rfl (g _) (g _) (by decide) (by decide) (by rw [ha]; omega) (by rw [ha]; omega) (by rw [e1]; omega)
    · exact on_any (D := 1) k2 (by decide) (by decide) rfl rfl (g _) (g _) (by decide) (by decide) (by rw [ha]; omega) (by rw [ha]; omega) (by rw [e2]; omega)
  · have t1 := mp_cross r2
    have t2 := mp_cross (show relR tAX tAY tBX tBY sAX sAY sBX sBY = 2 by omega)
    have sw := nX_swap sAX sAY sBX sBY tAX tAY tBX tBY
    have bd := cross_bd hs ht hx
    have ln := cross_line hs ht
    have u1 : mtXN tAX tAY tBX tBY sAX sAY sBX sBY = redN (nX tAX tAY tBX tBY sAX sAY sBX sBY) (mtDen tAX tAY tBX tBY sAX sAY sBX sBY) := t2.2.2.1
    have u2 : mtXD tAX tAY tBX tBY sAX sAY sBX sBY = redD (nX tAX tAY tBX tBY sAX sAY sBX sBY) (mtDen tAX tAY tBX tBY sAX sAY sBX sBY) := t2.2.2.2.1
    have u3 : mtYN tAX tAY tBX tBY sAX sAY sBX sBY = redN (nY tAX tAY tBX tBY sAX sAY sBX sBY) (mtDen tAX tAY tBX tBY sAX sAY sBX sBY) := t2.2.2.2.2.1
    have u4 : mtYD tAX tAY tBX tBY sAX sAY sBX sBY = redD (nY tAX tAY tBX tBY sAX sAY sBX sBY) (mtDen tAX tAY tBX tBY sAX sAY sBX sBY) := t2.2.2.2.2.2
    have v1 : mtXN sAX sAY sBX sBY tAX tAY tBX tBY = redN (nX sAX sAY sBX sBY tAX tAY tBX tBY) (mtDen sAX sAY sBX sBY tAX tAY tBX tBY) := t1.2.2.1
    have v2 : mtXD sAX sAY sBX sBY tAX tAY tBX tBY = redD (nX sAX sAY sBX sBY tAX tAY tBX tBY) (mtDen sAX sAY sBX sBY tAX tAY tBX tBY) := t1.2.2.2.1
    have v3 : mtYN sAX sAY sBX sBY tAX tAY tBX tBY = redN (nY sAX sAY sBX sBY tAX tAY tBX tBY) (mtDen sAX sAY sBX sBY tAX tAY tBX tBY) := t1.2.2.2.2.1
    have v4 : mtYD sAX sAY sBX sBY tAX tAY tBX tBY = redD (nY sAX sAY sBX sBY tAX tAY tBX tBY) (mtDen sAX sAY sBX sBY tAX tAY tBX tBY) := t1.2.2.2.2.2
    have hD := t1.2.1
    have rx := red_neg (n := nX sAX sAY sBX sBY tAX tAY tBX tBY) hD
    have ry := red_neg (n := nY sAX sAY sBX sBY tAX tAY tBX tBY) hD
    have ax := red_all (n := nX sAX sAY sBX sBY tAX tAY tBX tBY) hD
    have ay := red_all (n := nY sAX sAY sBX sBY tAX tAY tBX tBY) hD
    rw [u1, u2, u3, u4, v1, v2, v3, v4, sw.1, sw.2.1, sw.2.2]
    exact ⟨⟨rx.1, rx.2, ry.1, ry.2⟩, on_any k1 hD bd.1 ax.1 ay.1 ax.2.1 ay.2.1 ax.2.2.1 ay.2.2.1 bd.2.1 bd.2.2 ln.1, on_any k2 hD bd.1 ax.1 ay.1 ax.2.1 ay.2.1 ax.2.2.1 ay.2.2.1 bd.2.1 bd.2.2 ln.2⟩

end Go.Proofs.Ytoielngedkbmbaa
