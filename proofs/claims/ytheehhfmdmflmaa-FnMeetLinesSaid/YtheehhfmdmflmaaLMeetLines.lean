/- FnMeetLines: the walk. -/
import Derived.Test.YtheehhfmdmflmaaR12
import Derived.Test.YtheehhfmdmflmaaK16
set_option linter.unusedSimpArgs false
set_option linter.unusedVariables false
set_option maxRecDepth 100000
namespace Go.Proofs.Ytheehhfmdmflmaa
open Go.Sym
theorem red_neg {n d : Int} (hd : d ≠ 0) : redN (0 - n) (0 - d) = redN n d ∧ redD (0 - n) (0 - d) = redD n d := by
  have hg := gcdI_neg n d
  have h1 := Int.neg_ediv_of_dvd (gcdI_left n d)
  have h2 := Int.neg_ediv_of_dvd (gcdI_right n d)
  have e1 : (0 - n) / gcdI n d = -(n / gcdI n d) := by rw [Int.zero_sub]; exact h1
  have e2 : (0 - d) / gcdI n d = -(d / gcdI n d) := by rw [Int.zero_sub]; exact h2
  unfold redN redD
  rw [hg, e1, e2]
  by_cases h : d < 0
  · rw [if_neg (by omega), if_pos h, if_neg (by omega), if_pos h]; exact ⟨rfl, rfl⟩
  · rw [if_pos (by omega), if_neg h, if_pos (by omega), if_neg h]; omega
/-- A fraction in lowest terms: its value, and its bounds. -/
theorem red_all {n d : Int} (hd : d ≠ 0) : redN n d * d = n * redD n d ∧ gcdI (redN n d) (redD n d) = 1 ∧ 1 ≤ redD n d ∧ (∀ P, -P ≤ n → n ≤ P → -P ≤ redN n d ∧ redN n d ≤ P) ∧ (∀ P, -P ≤ d → d ≤ P → redD n d ≤ P) := by
  rcases (show 0 < d ∨ d ≤ 0 by omega) with h | h
  · exact ⟨red_val n d h, red_cop n d h, (redD_bd n d d h (Int.le_refl _)).1, fun P h1 h2 => redN_bd n d P h h1 h2, fun P h1 h2 => (redD_bd n d P h h2).2⟩
  · have e := red_neg (n := n) hd
    have hp : 1 ≤ 0 - d := by omega
    have v := red_val (0 - n) (0 - d) hp
    have c := red_cop (0 - n) (0 - d) hp
    have b := redD_bd (0 - n) (0 - d) (0 - d) hp (Int.le_refl _)
    have bn := fun P h1 h2 => redN_bd (0 - n) (0 - d) P hp h1 h2
    have bd := fun P h2 => redD_bd (0 - n) (0 - d) P hp h2
    rw [e.1, e.2] at v c
    rw [e.2] at b
    rw [e.1] at bn
    rw [e.2] at bd
    refine ⟨?_, c, b.1, fun P h1 h2 => bn P (by omega) (by omega), fun P h1 h2 => (bd P (by omega)).2⟩
    have : (redN n d * d - n * redD n d) = 0 := by
      have : redN n d * (0 - d) - (0 - n) * redD n d = 0 := by omega
      grind
    omega
theorem meet_swap (lA lB lC mA mB mC : Int) : mlH mA mB mC lA lB lC = mlH lA lB lC mA mB mC ∧ mlXN mA mB mC lA lB lC = mlXN lA lB lC mA mB mC ∧ mlXD mA mB mC lA lB lC = mlXD lA lB lC mA mB mC ∧ mlYN mA mB mC lA lB lC = mlYN lA lB lC mA mB mC ∧ mlYD mA mB mC lA lB lC = mlYD lA lB lC mA mB mC := by
  by_cases h1 : okL lA lB lC = true
  · by_cases h2 : okL mA mB mC = true
    · by_cases h3 : lA = mA ∧ lB = mB ∧ lC = mC
      · have a := ml_same h1 h2 h3
        have b := ml_same h2 h1 ⟨h3.1.symm, h3.2.1.symm, h3.2.2.symm⟩
        omega
      · have e0 : mA * lB - lA * mB = 0 - (lA * mB - mA * lB) := by omega
        by_cases h4 : lA * mB - mA * lB = 0
        · have a := ml_par h1 h2 h3 h4
          have b := ml_par h2 h1 (fun h => h3 ⟨h.1.symm, h.2.1.symm, h.2.2.symm⟩) (by omega)
          omega
        · have a := ml_one h1 h2 h4
          have b := ml_one h2 h1 (by omega)
          have r1 := red_neg (n := lC * mB - mC * lB) h4
          have r2 := red_neg (n := lA * mC - mA * lC) h4
          rw [e0, show mC * lB - lC * mB = 0 - (lC * mB - mC * lB) by omega, show mA * lC - lA * mC = 0 - (lA * mC - mA * lC) by omega] at b
          omega
    · have h2 : okL mA mB mC = false := by simpa using h2
      have a := ml_bad (lA := lA) (lB := lB) (lC := lC) (Or.inr h2)
      have b := ml_bad (mA := lA) (mB := lB) (mC := lC) (Or.inl h2)
      omega
  · have h1 : okL lA lB lC = false := by simpa using h1
    have a := ml_bad (mA := mA) (mB := mB) (mC := mC) (Or.inl h1)
    have b := ml_bad (lA := mA) (lB := mB) (lC := mC) (Or.inr h1)
    omega
theorem sor_zero {a b c D nx ny xN xD yN yD : Int} (hD : D ≠ 0) (h1 : xN * D = nx * xD) (h2 : yN * D = ny * yD) (h3 : a * nx + b * ny = c * D) (hx : 1 ≤ xD) (hy : 1 ≤ yD) :
    sorL a b c xN xD yN yD = 0 ∨ sorL a b c xN xD yN yD = 2 := by
  unfold sorL
  split
  · left
    have hg := gcdI_pos xD yD (by omega)
    have g1 := gcdI_left xD yD
    have g2 := gcdI_right xD yD
    generalize gcdI xD yD = g at *
    obtain ⟨u, hu⟩ := g1
    obtain ⟨v, hv⟩ := g2
    have eu : xD / g = u := by rw [hu, Int.mul_ediv_cancel_left _ (by omega)]
    have ev : yD / g = v := by rw [hv, Int.mul_ediv_cancel_left _ (by omega)]
    rw [eu, ev]
    have e : a * (xN * v) + b * (yN * u) - c * (u * yD) = 0 := by
      refine Int.eq_of_mul_eq_mul_right hD ?_
      have : (a * (xN * v) + b * (yN * u) - c * (u * yD)) * D = a * v * (xN * D) + b * u * (yN * D) - c * u * yD * D := by grind
      rw [this, h1, h2, hu, hv]
      have : a * v * (nx * (g * u)) + b * u * (ny * (g * v)) - c * u * (g * v) * D = (u * v * g) * (a * nx + b * ny - c * D) := by grind
      rw [this, h3]; simp
    rw [e]; rfl
  · right; rfl
theorem meet_law {lA lB lC mA mB mC : Int} (h : mlH lA lB lC mA mB mC = 1) : okR (mlXN lA lB lC mA mB mC) (mlXD lA lB lC mA mB mC) = true ∧ okR (mlYN lA lB lC mA mB mC) (mlYD lA lB lC mA mB mC) = true ∧
    (sorL lA lB lC (mlXN lA lB lC mA mB mC) (mlXD lA lB lC mA mB mC) (mlYN lA lB lC mA mB mC) (mlYD lA lB lC mA mB mC) = 0 ∨ sorL lA lB lC (mlXN lA lB lC mA mB mC) (mlXD lA lB lC mA mB mC) (mlYN lA lB lC mA mB mC) (mlYD lA lB lC mA mB mC) = 2) ∧
    (sorL mA mB mC (mlXN lA lB lC mA mB mC) (mlXD lA lB lC mA mB mC) (mlYN lA lB lC mA mB mC) (mlYD lA lB lC mA mB mC) = 0 ∨ sorL mA mB mC (mlXN lA lB lC mA mB mC) (mlXD lA lB lC mA mB mC) (mlYN lA lB lC mA mB mC) (mlYD lA lB lC mA mB mC) = 2) := by
  have h1 : okL lA lB lC = true := by
    rcases hb : okL lA lB lC with _ | _
    · have := (ml_bad (mA := mA) (mB := mB) (mC := mC) (Or.inl hb)).1; omega
    · rfl
  have h2 : okL mA mB mC = true := by
    rcases hb : okL mA mB mC with _ | _
    · have := (ml_bad (lA := lA) (lB := lB) (lC := lC) (Or.inr hb)).1; omega
    · rfl
  have h0 : lA * mB - mA * lB ≠ 0 := by
    intro h0
    by_cases h3 : lA = mA ∧ lB = mB ∧ lC = mC
    · have := (ml_same h1 h2 h3).1; omega
    · have := (ml_par h1 h2 h3 h0).1; omega
  have ho := ml_one h1 h2 h0
  have o1 := okL_bd h1
  have o2 := okL_bd h2
  have b1 := mul_bd lC mB 4000000 2000 (by omega) (by omega) (by omega) (by omega)
  have b2 := mul_bd mC lB 4000000 2000 (by omega) (by omega) (by omega) (by omega)
  have b3 := mul_bd lA mC 2000 4000000 (by omega) (by omega) (by omega) (by omega)
  have b4 := mul_bd mA lC 2000 4000000 (by omega) (by omega) (by omega) (by omega)
  have b5 := mul_bd lA mB 2000 2000 (by omega) (by omega) (by omega) (by omega)
  have b6 := mul_bd mA lB 2000 2000 (by omega) (by omega) (by omega) (by omega)
  rw [ho.2.1, ho.2.2.1, ho.2.2.2.1, ho.2.2.2.2]
  have hx := red_all (n := lC * mB - mC * lB) h0
  have hy := red_all (n := lA * mC - mA * lC) h0
  have k1 : lA * (lC * mB - mC * lB) + lB * (lA * mC - mA * lC) = lC * (lA * mB - mA * lB) := by grind
  have k2 : mA * (lC * mB - mC * lB) + mB * (lA * mC - mA * lC) = mC * (lA * mB - mA * lB) := by grind
  have p1 := hx.2.2.2.1 100000000000 (by omega) (by omega)
  have p2 := hx.2.2.2.2 20000000 (by omega) (by omega)
  have p3 := hy.2.2.2.1 100000000000 (by omega) (by omega)
  have p4 := hy.2.2.2.2 20000000 (by omega) (by omega)
  exact ⟨okR_of p1 ⟨hx.2.2.1, p2⟩ hx.2.1, okR_of p3 ⟨hy.2.2.1, p4⟩ hy.2.1, sor_zero h0 hx.1 hy.1 k1 hx.2.2.1 hy.2.2.1, sor_zero h0 hx.1 hy.1 k2 hx.2.2.1 hy.2.2.1⟩

def m1A (C : Int → Int) (n : Int) : Int := alA C (cut n) 0
def m1B (C : Int → Int) (n : Int) : Int := alB C (cut n) 0
def m1C (C : Int → Int) (n : Int) : Int := alC C (cut n) 0
def m2S (C : Int → Int) (n : Int) : Int := pk C (cut n) (alP C (cut n) (alP C (cut n) 0)) 6
def m2A (C : Int → Int) (n : Int) : Int := if m2S C n = 0 ∨ m2S C n = 1 then alA C (cut n) 0 else alA C (cut n) (alP C (cut n) 0)
def m2B (C : Int → Int) (n : Int) : Int := if m2S C n = 0 ∨ m2S C n = 1 then alB C (cut n) 0 else alB C (cut n) (alP C (cut n) 0)
def m2C (C : Int → Int) (n : Int) : Int := if m2S C n = 0 then alC C (cut n) 0 else if m2S C n = 1 then alC C (cut n) 0 + 1 else alC C (cut n) (alP C (cut n) 0)
theorem s_DrawMeetLines (C : Int → Int) (n : Int) : RunsTo Try.prog 51 [(.sl 0 1 (.lit 0) (.v fun _ => n) 9223372036854775807)] [some ⟨5, 1, false, (.sym (.v fun _ => n) fun e => [(.int .u8 (.v fun _ => (C (e.den))) 0 255)])⟩] (.tup [(.agg [(.int .i64 (.v fun _ => m1A C n) (-20000000) 20000000), (.int .i64 (.v fun _ => m1B C n) (-20000000) 20000000), (.int .i64 (.v fun _ => m1C C n) (-20000000) 20000000)]), (.agg [(.int .i64 (.v fun _ => m2A C n) (-20000000) 20000000), (.int .i64 (.v fun _ => m2B C n) (-20000000) 20000000), (.int .i64 (.v fun _ => m2C C n) (-20000000) 20000000)])]) [some ⟨5, 1, false, (.sym (.v fun _ => cut n) fun e => [(.int .u8 (.v fun _ => (C (e.den))) 0 255)])⟩] := by
  refine RunsTo.go env Try.func51 rfl Try.call51 rfl rfl (fun _ _ => (.call (c_s_newReader C n) (.call (c_anyLine C (cut n) 0) (.call (c_anyLine C (cut n) (alP C (cut n) 0)) (.call (c_pick_6 C (cut n) (alP C (cut n) (alP C (cut n) 0))) (.ite .ret (.ite .ret .ret))))))) (G := (0 ≤ n ∧ n ≤ 9223372036854775807) → (∀ e8 : E, ((0 ≤ e8.den ∧ e8.den < n) → (0 ≤ ((C (e8.den))) ∧ ((C (e8.den))) ≤ 255))) → ((n = n) ∧ (((n ≤ n) ∧ (∀ e1 : E, ((0 ≤ e1.den ∧ e1.den < n) → (((C (e1.den))) = ((C (e1.den))))))) ∧ (((((cut n) = (cut n)) ∧ ((0 : Int) = 0)) ∧ (((cut n) ≤ (cut n)) ∧ (∀ e2 : E, ((0 ≤ e2.den ∧ e2.den < (cut n)) → (((C (e2.den))) = ((C (e2.den)))))))) ∧ (((((cut n) = (cut n)) ∧ (((alP C (cut n) 0) = (alP C (cut n) 0)) ∧ ((0 ≤ (alP C (cut n) 0) ∧ (alP C (cut n) 0) ≤ 9999710) → (0 ≤ (alP C (cut n) 0) ∧ (alP C (cut n) 0) ≤ 9999700)))) ∧ (((cut n) ≤ (cut n)) ∧ (∀ e3 : E, ((0 ≤ e3.den ∧ e3.den < (cut n)) → (((C (e3.den))) = ((C (e3.den)))))))) ∧ (((((cut n) = (cut n)) ∧ ((alP C (cut n) (alP C (cut n) 0)) = (alP C (cut n) (alP C (cut n) 0)))) ∧ (((cut n) ≤ (cut n)) ∧ (∀ e4 : E, ((0 ≤ e4.den ∧ e4.den < (cut n)) → (((C (e4.den))) = ((C (e4.den)))))))) ∧ ((((pk C (cut n) (alP C (cut n) (alP C (cut n) 0)) 6) = 0) → (((((alA C (cut n) 0) = (m1A C n)) ∧ (((alB C (cut n) 0) = (m1B C n)) ∧ ((alC C (cut n) 0) = (m1C C n)))) ∧ (((alA C (cut n) 0) = (m2A C n)) ∧ (((alB C (cut n) 0) = (m2B C n)) ∧ ((alC C (cut n) 0) = (m2C C n))))) ∧ (((cut n) ≤ (cut n)) ∧ (∀ e5 : E, ((0 ≤ e5.den ∧ e5.den < (cut n)) → (((C (e5.den))) = ((C (e5.den))))))))) ∧ (((pk C (cut n) (alP C (cut n) (alP C (cut n) 0)) 6) ≠ 0) → ((((pk C (cut n) (alP C (cut n) (alP C (cut n) 0)) 6) = 1) → (((((alA C (cut n) 0) = (m1A C n)) ∧ (((alB C (cut n) 0) = (m1B C n)) ∧ ((alC C (cut n) 0) = (m1C C n)))) ∧ (((alA C (cut n) 0) = (m2A C n)) ∧ (((alB C (cut n) 0) = (m2B C n)) ∧ (((alC C (cut n) 0) + 1) = (m2C C n))))) ∧ (((cut n) ≤ (cut n)) ∧ (∀ e6 : E, ((0 ≤ e6.den ∧ e6.den < (cut n)) → (((C (e6.den))) = ((C (e6.den))))))))) ∧ (((pk C (cut n) (alP C (cut n) (alP C (cut n) 0)) 6) ≠ 1) → (((((alA C (cut n) 0) = (m1A C n)) ∧ (((alB C (cut n) 0) = (m1B C n)) ∧ ((alC C (cut n) 0) = (m1C C n)))) ∧ (((alA C (cut n) (alP C (cut n) 0)) = (m2A C n)) ∧ (((alB C (cut n) (alP C (cut n) 0)) = (m2B C n)) ∧ ((alC C (cut n) (alP C (cut n) 0)) = (m2C C n))))) ∧ (((cut n) ≤ (cut n)) ∧ (∀ e7 : E, ((0 ≤ e7.den ∧ e7.den < (cut n)) → (((C (e7.den))) = ((C (e7.den)))))))))))))))))) (by kernel_rfl) ?_
  intro h1 h2
  have ha := alP_bd C (cut n) 0
  have hb := alP_bd C (cut n) (alP C (cut n) 0)
  refine ⟨rfl, ⟨Int.le_refl _, fun _ => fun _ => rfl⟩, ⟨⟨rfl, rfl⟩, ⟨Int.le_refl _, fun _ => fun _ => rfl⟩⟩, ?_, ⟨⟨rfl, rfl⟩, ⟨Int.le_refl _, fun _ => fun _ => rfl⟩⟩, ?_, ?_⟩
  · refine ⟨?_, Int.le_refl _, fun _ => fun _ => rfl⟩
    refine ⟨rfl, rfl, ?_⟩
    intro c9
    -- 1: 0 ≤ (alP C (cut n) 0) ∧ (alP C (cut n) 0) ≤ 9999700
    first | rfl | omega | (simp_all [m2A, m2B, m2C, m2S]; done) | (simp_all [m2A, m2B, m2C, m2S]; omega)
  · intro c10
    refine ⟨?_, Int.le_refl _, fun _ => fun _ => rfl⟩
    refine ⟨?_, ?_, ?_, ?_⟩
    · refine ⟨?_, ?_, ?_⟩
        -- 2: (alA C (cut n) 0) = (m1A C n)
      · first | rfl | omega | (simp_all [m2A, m2B, m2C, m2S]; done) | (simp_all [m2A, m2B, m2C, m2S]; omega)
        -- 3: (alB C (cut n) 0) = (m1B C n)
      · first | rfl | omega | (simp_all [m2A, m2B, m2C, m2S]; done) | (simp_all [m2A, m2B, m2C, m2S]; omega)
        -- 4: (alC C (cut n) 0) = (m1C C n)
      · first | rfl | omega | (simp_all [m2A, m2B, m2C, m2S]; done) | (simp_all [m2A, m2B, m2C, m2S]; omega)
      -- 5: (alA C (cut n) 0) = (m2A C n)
    · first | rfl | omega | (simp_all [m2A, m2B, m2C, m2S]; done) | (simp_all [m2A, m2B, m2C, m2S]; omega)
      -- 6: (alB C (cut n) 0) = (m2B C n)
    · first | rfl | omega | (simp_all [m2A, m2B, m2C, m2S]; done) | (simp_all [m2A, m2B, m2C, m2S]; omega)
      -- 7: (alC C (cut n) 0) = (m2C C n)
    · first | rfl | omega | (simp_all [m2A, m2B, m2C, m2S]; done) | (simp_all [m2A, m2B, m2C, m2S]; omega)
  · intro c11
    refine ⟨?_, ?_⟩
    · intro c12
      refine ⟨?_, Int.le_refl _, fun _ => fun _ => rfl⟩
      refine ⟨?_, ?_, ?_, ?_⟩
      · refine ⟨?_, ?_, ?_⟩
          -- 8: (alA C (cut n) 0) = (m1A C n)
        · first | rfl | omega | (simp_all [m2A, m2B, m2C, m2S]; done) | (simp_all [m2A, m2B, m2C, m2S]; omega)
          -- 9: (alB C (cut n) 0) = (m1B C n)
        · first | rfl | omega | (simp_all [m2A, m2B, m2C, m2S]; done) | (simp_all [m2A, m2B, m2C, m2S]; omega)
          -- 10: (alC C (cut n) 0) = (m1C C n)
        · first | rfl | omega | (simp_all [m2A, m2B, m2C, m2S]; done) | (simp_all [m2A, m2B, m2C, m2S]; omega)
        -- 11: (alA C (cut n) 0) = (m2A C n)
      · first | rfl | omega | (simp_all [m2A, m2B, m2C, m2S]; done) | (simp_all [m2A, m2B, m2C, m2S]; omega)
        -- 12: (alB C (cut n) 0) = (m2B C n)
      · first | rfl | omega | (simp_all [m2A, m2B, m2C, m2S]; done) | (simp_all [m2A, m2B, m2C, m2S]; omega)
        -- 13: ((alC C (cut n) 0) + 1) = (m2C C n)
      · first | rfl | omega | (simp_all [m2A, m2B, m2C, m2S]; done) | (simp_all [m2A, m2B, m2C, m2S]; omega)
    · intro c13
      refine ⟨?_, Int.le_refl _, fun _ => fun _ => rfl⟩
      refine ⟨?_, ?_, ?_, ?_⟩
      · refine ⟨?_, ?_, ?_⟩
          -- 14: (alA C (cut n) 0) = (m1A C n)
        · first | rfl | omega | (simp_all [m2A, m2B, m2C, m2S]; done) | (simp_all [m2A, m2B, m2C, m2S]; omega)
          -- 15: (alB C (cut n) 0) = (m1B C n)
        · first | rfl | omega | (simp_all [m2A, m2B, m2C, m2S]; done) | (simp_all [m2A, m2B, m2C, m2S]; omega)
          -- 16: (alC C (cut n) 0) = (m1C C n)
        · first | rfl | omega | (simp_all [m2A, m2B, m2C, m2S]; done) | (simp_all [m2A, m2B, m2C, m2S]; omega)
        -- 17: (alA C (cut n) (alP C (cut n) 0)) = (m2A C n)
      · first | rfl | omega | (simp_all [m2A, m2B, m2C, m2S]; done) | (simp_all [m2A, m2B, m2C, m2S]; omega)
        -- 18: (alB C (cut n) (alP C (cut n) 0)) = (m2B C n)
      · first | rfl | omega | (simp_all [m2A, m2B, m2C, m2S]; done) | (simp_all [m2A, m2B, m2C, m2S]; omega)
        -- 19: (alC C (cut n) (alP C (cut n) 0)) = (m2C C n)
      · first | rfl | omega | (simp_all [m2A, m2B, m2C, m2S]; done) | (simp_all [m2A, m2B, m2C, m2S]; omega)
def c_s_DrawMeetLines (C : Int → Int) (n : Int) : Cn Try.prog := ⟨_, _, _, _, _, s_DrawMeetLines C n⟩
theorem l_FnMeetLines (C : Int → Int) (n : Int) : RunsTo Try.prog 13 [(.sl 0 1 (.lit 0) (.v fun _ => n) 9223372036854775807)] [some ⟨5, 1, false, (.sym (.v fun _ => n) fun e => [(.int .u8 (.v fun _ => (C (e.den))) 0 255)])⟩] (.bool (.lit true)) [none] := by
  refine RunsTo.go env Try.func13 rfl Try.call13 rfl rfl (fun _ _ => (.ite .ret (.callF (c_s_DrawMeetLines C n) (.callF (c_i_MeetLines (m1A C n) (m1B C n) (m1C C n) (m2A C n) (m2B C n) (m2C C n)) (.callF (c_s_MeetLines (m1A C n) (m1B C n) (m1C C n) (m2A C n) (m2B C n) (m2C C n)) (.callF (c_i_MeetLines (m2A C n) (m2B C n) (m2C C n) (m1A C n) (m1B C n) (m1C C n)) (.ite (.ite (.ite (.ite .ret .ret) .ret) .ret) (.ite (.ite (.ite (.ite .ret .ret) .ret) .ret) (.ite (.ite (.ite (.ite .ret .ret) .ret) .ret) (.ite (.ite (.ite (.ite .ret .ret) .ret) .ret) (.ite (.ite (.ite (.ite .ret .ret) .ret) .ret) (.callF (c_i_SideOfRat (m1A C n) (m1B C n) (m1C C n) (mlXN (m1A C n) (m1B C n) (m1C C n) (m2A C n) (m2B C n) (m2C C n)) (mlXD (m1A C n) (m1B C n) (m1C C n) (m2A C n) (m2B C n) (m2C C n)) (mlYN (m1A C n) (m1B C n) (m1C C n) (m2A C n) (m2B C n) (m2C C n)) (mlYD (m1A C n) (m1B C n) (m1C C n) (m2A C n) (m2B C n) (m2C C n))) (.callF (c_i_SideOfRat (m2A C n) (m2B C n) (m2C C n) (mlXN (m1A C n) (m1B C n) (m1C C n) (m2A C n) (m2B C n) (m2C C n)) (mlXD (m1A C n) (m1B C n) (m1C C n) (m2A C n) (m2B C n) (m2C C n)) (mlYN (m1A C n) (m1B C n) (m1C C n) (m2A C n) (m2B C n) (m2C C n)) (mlYD (m1A C n) (m1B C n) (m1C C n) (m2A C n) (m2B C n) (m2C C n))) (.ite (.ite (.call (c_i_ValidRat (mlXN (m1A C n) (m1B C n) (m1C C n) (m2A C n) (m2B C n) (m2C C n)) (mlXD (m1A C n) (m1B C n) (m1C C n) (m2A C n) (m2B C n) (m2C C n))) (.ite (.call (c_i_ValidRat (mlYN (m1A C n) (m1B C n) (m1C C n) (m2A C n) (m2B C n) (m2C C n)) (mlYD (m1A C n) (m1B C n) (m1C C n) (m2A C n) (m2B C n) (m2C C n))) .ret) .ret)) (.ite (.call (c_i_ValidRat (mlXN (m1A C n) (m1B C n) (m1C C n) (m2A C n) (m2B C n) (m2C C n)) (mlXD (m1A C n) (m1B C n) (m1C C n) (m2A C n) (m2B C n) (m2C C n))) (.ite (.call (c_i_ValidRat (mlYN (m1A C n) (m1B C n) (m1C C n) (m2A C n) (m2B C n) (m2C C n)) (mlYD (m1A C n) (m1B C n) (m1C C n) (m2A C n) (m2B C n) (m2C C n))) .ret) .ret)) .ret)) (.ite (.ite (.call (c_i_ValidRat (mlXN (m1A C n) (m1B C n) (m1C C n) (m2A C n) (m2B C n) (m2C C n)) (mlXD (m1A C n) (m1B C n) (m1C C n) (m2A C n) (m2B C n) (m2C C n))) (.ite (.call (c_i_ValidRat (mlYN (m1A C n) (m1B C n) (m1C C n) (m2A C n) (m2B C n) (m2C C n)) (mlYD (m1A C n) (m1B C n) (m1C C n) (m2A C n) (m2B C n) (m2C C n))) .ret) .ret)) (.ite (.call (c_i_ValidRat (mlXN (m1A C n) (m1B C n) (m1C C n) (m2A C n) (m2B C n) (m2C C n)) (mlXD (m1A C n) (m1B C n) (m1C C n) (m2A C n) (m2B C n) (m2C C n))) (.ite (.call (c_i_ValidRat (mlYN (m1A C n) (m1B C n) (m1C C n) (m2A C n) (m2B C n) (m2C C n)) (mlYD (m1A C n) (m1B C n) (m1C C n) (m2A C n) (m2B C n) (m2C C n))) .ret) .ret)) .ret)) .ret))))))))))))))) (G := (0 ≤ n ∧ n ≤ 9223372036854775807) → (∀ e2 : E, ((0 ≤ e2.den ∧ e2.den < n) → (0 ≤ ((C (e2.den))) ∧ ((C (e2.den))) ≤ 255))) → ((n ≤ 1048576) → ((n = n) ∧ (((n ≤ n) ∧ (∀ e1 : E, ((0 ≤ e1.den ∧ e1.den < n) → (((C (e1.den))) = ((C (e1.den))))))) ∧ (((((-20000000) ≤ (m1A C n) ∧ (m1A C n) ≤ 20000000) ∧ (((-20000000) ≤ (m1B C n) ∧ (m1B C n) ≤ 20000000) ∧ ((-20000000) ≤ (m1C C n) ∧ (m1C C n) ≤ 20000000))) ∧ (((-20000000) ≤ (m2A C n) ∧ (m2A C n) ≤ 20000000) ∧ (((-20000000) ≤ (m2B C n) ∧ (m2B C n) ≤ 20000000) ∧ ((-20000000) ≤ (m2C C n) ∧ (m2C C n) ≤ 20000000)))) → (((((m1A C n) = (m1A C n)) ∧ (((m1B C n) = (m1B C n)) ∧ ((m1C C n) = (m1C C n)))) ∧ (((m2A C n) = (m2A C n)) ∧ (((m2B C n) = (m2B C n)) ∧ ((m2C C n) = (m2C C n))))) ∧ (((((-4000000000000000000) ≤ (mlXN (m1A C n) (m1B C n) (m1C C n) (m2A C n) (m2B C n) (m2C C n)) ∧ (mlXN (m1A C n) (m1B C n) (m1C C n) (m2A C n) (m2B C n) (m2C C n)) ≤ 4000000000000000000) ∧ (((-4000000000000000000) ≤ (mlXD (m1A C n) (m1B C n) (m1C C n) (m2A C n) (m2B C n) (m2C C n)) ∧ (mlXD (m1A C n) (m1B C n) (m1C C n) (m2A C n) (m2B C n) (m2C C n)) ≤ 4000000000000000000) ∧ (((-4000000000000000000) ≤ (mlYN (m1A C n) (m1B C n) (m1C C n) (m2A C n) (m2B C n) (m2C C n)) ∧ (mlYN (m1A C n) (m1B C n) (m1C C n) (m2A C n) (m2B C n) (m2C C n)) ≤ 4000000000000000000) ∧ ((-4000000000000000000) ≤ (mlYD (m1A C n) (m1B C n) (m1C C n) (m2A C n) (m2B C n) (m2C C n)) ∧ (mlYD (m1A C n) (m1B C n) (m1C C n) (m2A C n) (m2B C n) (m2C C n)) ≤ 4000000000000000000)))) ∧ ((-1) ≤ (mlH (m1A C n) (m1B C n) (m1C C n) (m2A C n) (m2B C n) (m2C C n)) ∧ (mlH (m1A C n) (m1B C n) (m1C C n) (m2A C n) (m2B C n) (m2C C n)) ≤ 2)) → (((((m1A C n) = (m1A C n)) ∧ (((m1B C n) = (m1B C n)) ∧ ((m1C C n) = (m1C C n)))) ∧ (((m2A C n) = (m2A C n)) ∧ (((m2B C n) = (m2B C n)) ∧ ((m2C C n) = (m2C C n))))) ∧ (((((-4000000000000000000) ≤ (mlXN (m1A C n) (m1B C n) (m1C C n) (m2A C n) (m2B C n) (m2C C n)) ∧ (mlXN (m1A C n) (m1B C n) (m1C C n) (m2A C n) (m2B C n) (m2C C n)) ≤ 4000000000000000000) ∧ (((-4000000000000000000) ≤ (mlXD (m1A C n) (m1B C n) (m1C C n) (m2A C n) (m2B C n) (m2C C n)) ∧ (mlXD (m1A C n) (m1B C n) (m1C C n) (m2A C n) (m2B C n) (m2C C n)) ≤ 4000000000000000000) ∧ (((-4000000000000000000) ≤ (mlYN (m1A C n) (m1B C n) (m1C C n) (m2A C n) (m2B C n) (m2C C n)) ∧ (mlYN (m1A C n) (m1B C n) (m1C C n) (m2A C n) (m2B C n) (m2C C n)) ≤ 4000000000000000000) ∧ ((-4000000000000000000) ≤ (mlYD (m1A C n) (m1B C n) (m1C C n) (m2A C n) (m2B C n) (m2C C n)) ∧ (mlYD (m1A C n) (m1B C n) (m1C C n) (m2A C n) (m2B C n) (m2C C n)) ≤ 4000000000000000000)))) ∧ ((-1) ≤ (mlH (m1A C n) (m1B C n) (m1C C n) (m2A C n) (m2B C n) (m2C C n)) ∧ (mlH (m1A C n) (m1B C n) (m1C C n) (m2A C n) (m2B C n) (m2C C n)) ≤ 2)) → (((((m2A C n) = (m2A C n)) ∧ (((m2B C n) = (m2B C n)) ∧ ((m2C C n) = (m2C C n)))) ∧ (((m1A C n) = (m1A C n)) ∧ (((m1B C n) = (m1B C n)) ∧ ((m1C C n) = (m1C C n))))) ∧ (((((-4000000000000000000) ≤ (mlXN (m2A C n) (m2B C n) (m2C C n) (m1A C n) (m1B C n) (m1C C n)) ∧ (mlXN (m2A C n) (m2B C n) (m2C C n) (m1A C n) (m1B C n) (m1C C n)) ≤ 4000000000000000000) ∧ (((-4000000000000000000) ≤ (mlXD (m2A C n) (m2B C n) (m2C C n) (m1A C n) (m1B C n) (m1C C n)) ∧ (mlXD (m2A C n) (m2B C n) (m2C C n) (m1A C n) (m1B C n) (m1C C n)) ≤ 4000000000000000000) ∧ (((-4000000000000000000) ≤ (mlYN (m2A C n) (m2B C n) (m2C C n) (m1A C n) (m1B C n) (m1C C n)) ∧ (mlYN (m2A C n) (m2B C n) (m2C C n) (m1A C n) (m1B C n) (m1C C n)) ≤ 4000000000000000000) ∧ ((-4000000000000000000) ≤ (mlYD (m2A C n) (m2B C n) (m2C C n) (m1A C n) (m1B C n) (m1C C n)) ∧ (mlYD (m2A C n) (m2B C n) (m2C C n) (m1A C n) (m1B C n) (m1C C n)) ≤ 4000000000000000000)))) ∧ ((-1) ≤ (mlH (m2A C n) (m2B C n) (m2C C n) (m1A C n) (m1B C n) (m1C C n)) ∧ (mlH (m2A C n) (m2B C n) (m2C C n) (m1A C n) (m1B C n) (m1C C n)) ≤ 2)) → ((((mlH (m1A C n) (m1B C n) (m1C C n) (m2A C n) (m2B C n) (m2C C n)) ≠ (mlH (m1A C n) (m1B C n) (m1C C n) (m2A C n) (m2B C n) (m2C C n))) → ((((mlH (m1A C n) (m1B C n) (m1C C n) (m2A C n) (m2B C n) (m2C C n)) = (mlH (m1A C n) (m1B C n) (m1C C n) (m2A C n) (m2B C n) (m2C C n))) → ((((((mlXN (m1A C n) (m1B C n) (m1C C n) (m2A C n) (m2B C n) (m2C C n)) = (mlXN (m1A C n) (m1B C n) (m1C C n) (m2A C n) (m2B C n) (m2C C n))) ∧ ((((mlXD (m1A C n) (m1B C n) (m1C C n) (m2A C n) (m2B C n) (m2C C n)) = (mlXD (m1A C n) (m1B C n) (m1C C n) (m2A C n) (m2B C n) (m2C C n))) ∧ ((((mlYN (m1A C n) (m1B C n) (m1C C n) (m2A C n) (m2B C n) (m2C C n)) = (mlYN (m1A C n) (m1B C n) (m1C C n) (m2A C n) (m2B C n) (m2C C n))) ∧ ((mlYD (m1A C n) (m1B C n) (m1C C n) (m2A C n) (m2B C n) (m2C C n)) = (mlYD (m1A C n) (m1B C n) (m1C C n) (m2A C n) (m2B C n) (m2C C n))))))))) → ((((mlH (m2A C n) (m2B C n) (m2C C n) (m1A C n) (m1B C n) (m1C C n)) = (mlH (m1A C n) (m1B C n) (m1C C n) (m2A C n) (m2B C n) (m2C C n))) → ((((mlXN (m2A C n) (m2B C n) (m2C C n) (m1A C n) (m1B C n) (m1C C n)) = (mlXN (m1A C n) (m1B C n) (m1C C n) (m2A C n) (m2B C n) (m2C C n))) ∧ ((((mlXD (m2A C n) (m2B C n) (m2C C n) (m1A C n) (m1B C n) (m1C C n)) = (mlXD (m1A C n) (m1B C n) (m1C C n) (m2A C n) (m2B C n) (m2C C n))) ∧ ((((mlYN (m2A C n) (m2B C n) (m2C C n) (m1A C n) (m1B C n) (m1C C n)) = (mlYN (m1A C n) (m1B C n) (m1C C n) (m2A C n) (m2B C n) (m2C C n))) ∧ ((mlYD (m2A C n) (m2B C n) (m2C C n) (m1A C n) (m1B C n) (m1C C n)) = (mlYD (m1A C n) (m1B C n) (m1C C n) (m2A C n) (m2B C n) (m2C C n)))))))))) ∧ (((mlH (m2A C n) (m2B C n) (m2C C n) (m1A C n) (m1B C n) (m1C C n)) ≠ (mlH (m1A C n) (m1B C n) (m1C C n) (m2A C n) (m2B C n) (m2C C n))) → (False)))) ∧ (((((mlXN (m1A C n) (m1B C n) (m1C C n) (m2A C n) (m2B C n) (m2C C n)) ≠ (mlXN (m1A C n) (m1B C n) (m1C C n) (m2A C n) (m2B C n) (m2C C n))) ∨ ((((mlXD (m1A C n) (m1B C n) (m1C C n) (m2A C n) (m2B C n) (m2C C n)) ≠ (mlXD (m1A C n) (m1B C n) (m1C C n) (m2A C n) (m2B C n) (m2C C n))) ∨ ((((mlYN (m1A C n) (m1B C n) (m1C C n) (m2A C n) (m2B C n) (m2C C n)) ≠ (mlYN (m1A C n) (m1B C n) (m1C C n) (m2A C n) (m2B C n) (m2C C n))) ∨ ((mlYD (m1A C n) (m1B C n) (m1C C n) (m2A C n) (m2B C n) (m2C C n)) ≠ (mlYD (m1A C n) (m1B C n) (m1C C n) (m2A C n) (m2B C n) (m2C C n))))))))) → (False)))) ∧ (((mlH (m1A C n) (m1B C n) (m1C C n) (m2A C n) (m2B C n) (m2C C n)) ≠ (mlH (m1A C n) (m1B C n) (m1C C n) (m2A C n) (m2B C n) (m2C C n))) → (False)))) ∧ (((mlH (m1A C n) (m1B C n) (m1C C n) (m2A C n) (m2B C n) (m2C C n)) = (mlH (m1A C n) (m1B C n) (m1C C n) (m2A C n) (m2B C n) (m2C C n))) → ((((((mlXN (m1A C n) (m1B C n) (m1C C n) (m2A C n) (m2B C n) (m2C C n)) ≠ (mlXN (m1A C n) (m1B C n) (m1C C n) (m2A C n) (m2B C n) (m2C C n))) ∨ ((((mlXD (m1A C n) (m1B C n) (m1C C n) (m2A C n) (m2B C n) (m2C C n)) ≠ (mlXD (m1A C n) (m1B C n) (m1C C n) (m2A C n) (m2B C n) (m2C C n))) ∨ ((((mlYN (m1A C n) (m1B C n) (m1C C n) (m2A C n) (m2B C n) (m2C C n)) ≠ (mlYN (m1A C n) (m1B C n) (m1C C n) (m2A C n) (m2B C n) (m2C C n))) ∨ ((mlYD (m1A C n) (m1B C n) (m1C C n) (m2A C n) (m2B C n) (m2C C n)) ≠ (mlYD (m1A C n) (m1B C n) (m1C C n) (m2A C n) (m2B C n) (m2C C n))))))))) → ((((mlH (m1A C n) (m1B C n) (m1C C n) (m2A C n) (m2B C n) (m2C C n)) = (mlH (m1A C n) (m1B C n) (m1C C n) (m2A C n) (m2B C n) (m2C C n))) → ((((((mlXN (m1A C n) (m1B C n) (m1C C n) (m2A C n) (m2B C n) (m2C C n)) = (mlXN (m1A C n) (m1B C n) (m1C C n) (m2A C n) (m2B C n) (m2C C n))) ∧ ((((mlXD (m1A C n) (m1B C n) (m1C C n) (m2A C n) (m2B C n) (m2C C n)) = (mlXD (m1A C n) (m1B C n) (m1C C n) (m2A C n) (m2B C n) (m2C C n))) ∧ ((((mlYN (m1A C n) (m1B C n) (m1C C n) (m2A C n) (m2B C n) (m2C C n)) = (mlYN (m1A C n) (m1B C n) (m1C C n) (m2A C n) (m2B C n) (m2C C n))) ∧ ((mlYD (m1A C n) (m1B C n) (m1C C n) (m2A C n) (m2B C n) (m2C C n)) = (mlYD (m1A C n) (m1B C n) (m1C C n) (m2A C n) (m2B C n) (m2C C n))))))))) → ((((mlH (m2A C n) (m2B C n) (m2C C n) (m1A C n) (m1B C n) (m1C C n)) = (mlH (m1A C n) (m1B C n) (m1C C n) (m2A C n) (m2B C n) (m2C C n))) → ((((mlXN (m2A C n) (m2B C n) (m2C C n) (m1A C n) (m1B C n) (m1C C n)) = (mlXN (m1A C n) (m1B C n) (m1C C n) (m2A C n) (m2B C n) (m2C C n))) ∧ ((((mlXD (m2A C n) (m2B C n) (m2C C n) (m1A C n) (m1B C n) (m1C C n)) = (mlXD (m1A C n) (m1B C n) (m1C C n) (m2A C n) (m2B C n) (m2C C n))) ∧ ((((mlYN (m2A C n) (m2B C n) (m2C C n) (m1A C n) (m1B C n) (m1C C n)) = (mlYN (m1A C n) (m1B C n) (m1C C n) (m2A C n) (m2B C n) (m2C C n))) ∧ ((mlYD (m2A C n) (m2B C n) (m2C C n) (m1A C n) (m1B C n) (m1C C n)) = (mlYD (m1A C n) (m1B C n) (m1C C n) (m2A C n) (m2B C n) (m2C C n)))))))))) ∧ (((mlH (m2A C n) (m2B C n) (m2C C n) (m1A C n) (m1B C n) (m1C C n)) ≠ (mlH (m1A C n) (m1B C n) (m1C C n) (m2A C n) (m2B C n) (m2C C n))) → (False)))) ∧ (((((mlXN (m1A C n) (m1B C n) (m1C C n) (m2A C n) (m2B C n) (m2C C n)) ≠ (mlXN (m1A C n) (m1B C n) (m1C C n) (m2A C n) (m2B C n) (m2C C n))) ∨ ((((mlXD (m1A C n) (m1B C n) (m1C C n) (m2A C n) (m2B C n) (m2C C n)) ≠ (mlXD (m1A C n) (m1B C n) (m1C C n) (m2A C n) (m2B C n) (m2C C n))) ∨ ((((mlYN (m1A C n) (m1B C n) (m1C C n) (m2A C n) (m2B C n) (m2C C n)) ≠ (mlYN (m1A C n) (m1B C n) (m1C C n) (m2A C n) (m2B C n) (m2C C n))) ∨ ((mlYD (m1A C n) (m1B C n) (m1C C n) (m2A C n) (m2B C n) (m2C C n)) ≠ (mlYD (m1A C n) (m1B C n) (m1C C n) (m2A C n) (m2B C n) (m2C C n))))))))) → (False)))) ∧ (((mlH (m1A C n) (m1B C n) (m1C C n) (m2A C n) (m2B C n) (m2C C n)) ≠ (mlH (m1A C n) (m1B C n) (m1C C n) (m2A C n) (m2B C n) (m2C C n))) → (False)))) ∧ (((((mlXN (m1A C n) (m1B C n) (m1C C n) (m2A C n) (m2B C n) (m2C C n)) = (mlXN (m1A C n) (m1B C n) (m1C C n) (m2A C n) (m2B C n) (m2C C n))) ∧ ((((mlXD (m1A C n) (m1B C n) (m1C C n) (m2A C n) (m2B C n) (m2C C n)) = (mlXD (m1A C n) (m1B C n) (m1C C n) (m2A C n) (m2B C n) (m2C C n))) ∧ ((((mlYN (m1A C n) (m1B C n) (m1C C n) (m2A C n) (m2B C n) (m2C C n)) = (mlYN (m1A C n) (m1B C n) (m1C C n) (m2A C n) (m2B C n) (m2C C n))) ∧ ((mlYD (m1A C n) (m1B C n) (m1C C n) (m2A C n) (m2B C n) (m2C C n)) = (mlYD (m1A C n) (m1B C n) (m1C C n) (m2A C n) (m2B C n) (m2C C n))))))))) → ((((mlH (m2A C n) (m2B C n) (m2C C n) (m1A C n) (m1B C n) (m1C C n)) ≠ (mlH (m1A C n) (m1B C n) (m1C C n) (m2A C n) (m2B C n) (m2C C n))) → ((((mlH (m1A C n) (m1B C n) (m1C C n) (m2A C n) (m2B C n) (m2C C n)) = (mlH (m1A C n) (m1B C n) (m1C C n) (m2A C n) (m2B C n) (m2C C n))) → ((((((mlXN (m1A C n) (m1B C n) (m1C C n) (m2A C n) (m2B C n) (m2C C n)) = (mlXN (m1A C n) (m1B C n) (m1C C n) (m2A C n) (m2B C n) (m2C C n))) ∧ ((((mlXD (m1A C n) (m1B C n) (m1C C n) (m2A C n) (m2B C n) (m2C C n)) = (mlXD (m1A C n) (m1B C n) (m1C C n) (m2A C n) (m2B C n) (m2C C n))) ∧ ((((mlYN (m1A C n) (m1B C n) (m1C C n) (m2A C n) (m2B C n) (m2C C n)) = (mlYN (m1A C n) (m1B C n) (m1C C n) (m2A C n) (m2B C n) (m2C C n))) ∧ ((mlYD (m1A C n) (m1B C n) (m1C C n) (m2A C n) (m2B C n) (m2C C n)) = (mlYD (m1A C n) (m1B C n) (m1C C n) (m2A C n) (m2B C n) (m2C C n))))))))) → ((((mlH (m2A C n) (m2B C n) (m2C C n) (m1A C n) (m1B C n) (m1C C n)) = (mlH (m1A C n) (m1B C n) (m1C C n) (m2A C n) (m2B C n) (m2C C n))) → ((((mlXN (m2A C n) (m2B C n) (m2C C n) (m1A C n) (m1B C n) (m1C C n)) = (mlXN (m1A C n) (m1B C n) (m1C C n) (m2A C n) (m2B C n) (m2C C n))) ∧ ((((mlXD (m2A C n) (m2B C n) (m2C C n) (m1A C n) (m1B C n) (m1C C n)) = (mlXD (m1A C n) (m1B C n) (m1C C n) (m2A C n) (m2B C n) (m2C C n))) ∧ ((((mlYN (m2A C n) (m2B C n) (m2C C n) (m1A C n) (m1B C n) (m1C C n)) = (mlYN (m1A C n) (m1B C n) (m1C C n) (m2A C n) (m2B C n) (m2C C n))) ∧ ((mlYD (m2A C n) (m2B C n) (m2C C n) (m1A C n) (m1B C n) (m1C C n)) = (mlYD (m1A C n) (m1B C n) (m1C C n) (m2A C n) (m2B C n) (m2C C n)))))))))) ∧ (((mlH (m2A C n) (m2B C n) (m2C C n) (m1A C n) (m1B C n) (m1C C n)) ≠ (mlH (m1A C n) (m1B C n) (m1C C n) (m2A C n) (m2B C n) (m2C C n))) → (False)))) ∧ (((((mlXN (m1A C n) (m1B C n) (m1C C n) (m2A C n) (m2B C n) (m2C C n)) ≠ (mlXN (m1A C n) (m1B C n) (m1C C n) (m2A C n) (m2B C n) (m2C C n))) ∨ ((((mlXD (m1A C n) (m1B C n) (m1C C n) (m2A C n) (m2B C n) (m2C C n)) ≠ (mlXD (m1A C n) (m1B C n) (m1C C n) (m2A C n) (m2B C n) (m2C C n))) ∨ ((((mlYN (m1A C n) (m1B C n) (m1C C n) (m2A C n) (m2B C n) (m2C C n)) ≠ (mlYN (m1A C n) (m1B C n) (m1C C n) (m2A C n) (m2B C n) (m2C C n))) ∨ ((mlYD (m1A C n) (m1B C n) (m1C C n) (m2A C n) (m2B C n) (m2C C n)) ≠ (mlYD (m1A C n) (m1B C n) (m1C C n) (m2A C n) (m2B C n) (m2C C n))))))))) → (False)))) ∧ (((mlH (m1A C n) (m1B C n) (m1C C n) (m2A C n) (m2B C n) (m2C C n)) ≠ (mlH (m1A C n) (m1B C n) (m1C C n) (m2A C n) (m2B C n) (m2C C n))) → (False)))) ∧ (((mlH (m2A C n) (m2B C n) (m2C C n) (m1A C n) (m1B C n) (m1C C n)) = (mlH (m1A C n) (m1B C n) (m1C C n) (m2A C n) (m2B C n) (m2C C n))) → ((((((mlXN (m2A C n) (m2B C n) (m2C C n) (m1A C n) (m1B C n) (m1C C n)) ≠ (mlXN (m1A C n) (m1B C n) (m1C C n) (m2A C n) (m2B C n) (m2C C n))) ∨ ((((mlXD (m2A C n) (m2B C n) (m2C C n) (m1A C n) (m1B C n) (m1C C n)) ≠ (mlXD (m1A C n) (m1B C n) (m1C C n) (m2A C n) (m2B C n) (m2C C n))) ∨ ((((mlYN (m2A C n) (m2B C n) (m2C C n) (m1A C n) (m1B C n) (m1C C n)) ≠ (mlYN (m1A C n) (m1B C n) (m1C C n) (m2A C n) (m2B C n) (m2C C n))) ∨ ((mlYD (m2A C n) (m2B C n) (m2C C n) (m1A C n) (m1B C n) (m1C C n)) ≠ (mlYD (m1A C n) (m1B C n) (m1C C n) (m2A C n) (m2B C n) (m2C C n))))))))) → ((((mlH (m1A C n) (m1B C n) (m1C C n) (m2A C n) (m2B C n) (m2C C n)) = (mlH (m1A C n) (m1B C n) (m1C C n) (m2A C n) (m2B C n) (m2C C n))) → ((((((mlXN (m1A C n) (m1B C n) (m1C C n) (m2A C n) (m2B C n) (m2C C n)) = (mlXN (m1A C n) (m1B C n) (m1C C n) (m2A C n) (m2B C n) (m2C C n))) ∧ ((((mlXD (m1A C n) (m1B C n) (m1C C n) (m2A C n) (m2B C n) (m2C C n)) = (mlXD (m1A C n) (m1B C n) (m1C C n) (m2A C n) (m2B C n) (m2C C n))) ∧ ((((mlYN (m1A C n) (m1B C n) (m1C C n) (m2A C n) (m2B C n) (m2C C n)) = (mlYN (m1A C n) (m1B C n) (m1C C n) (m2A C n) (m2B C n) (m2C C n))) ∧ ((mlYD (m1A C n) (m1B C n) (m1C C n) (m2A C n) (m2B C n) (m2C C n)) = (mlYD (m1A C n) (m1B C n) (m1C C n) (m2A C n) (m2B C n) (m2C C n))))))))) → ((((mlH (m2A C n) (m2B C n) (m2C C n) (m1A C n) (m1B C n) (m1C C n)) = (mlH (m1A C n) (m1B C n) (m1C C n) (m2A C n) (m2B C n) (m2C C n))) → ((((mlXN (m2A C n) (m2B C n) (m2C C n) (m1A C n) (m1B C n) (m1C C n)) = (mlXN (m1A C n) (m1B C n) (m1C C n) (m2A C n) (m2B C n) (m2C C n))) ∧ ((((mlXD (m2A C n) (m2B C n) (m2C C n) (m1A C n) (m1B C n) (m1C C n)) = (mlXD (m1A C n) (m1B C n) (m1C C n) (m2A C n) (m2B C n) (m2C C n))) ∧ ((((mlYN (m2A C n) (m2B C n) (m2C C n) (m1A C n) (m1B C n) (m1C C n)) = (mlYN (m1A C n) (m1B C n) (m1C C n) (m2A C n) (m2B C n) (m2C C n))) ∧ ((mlYD (m2A C n) (m2B C n) (m2C C n) (m1A C n) (m1B C n) (m1C C n)) = (mlYD (m1A C n) (m1B C n) (m1C C n) (m2A C n) (m2B C n) (m2C C n)))))))))) ∧ (((mlH (m2A C n) (m2B C n) (m2C C n) (m1A C n) (m1B C n) (m1C C n)) ≠ (mlH (m1A C n) (m1B C n) (m1C C n) (m2A C n) (m2B C n) (m2C C n))) → (False)))) ∧ (((((mlXN (m1A C n) (m1B C n) (m1C C n) (m2A C n) (m2B C n) (m2C C n)) ≠ (mlXN (m1A C n) (m1B C n) (m1C C n) (m2A C n) (m2B C n) (m2C C n))) ∨ ((((mlXD (m1A C n) (m1B C n) (m1C C n) (m2A C n) (m2B C n) (m2C C n)) ≠ (mlXD (m1A C n) (m1B C n) (m1C C n) (m2A C n) (m2B C n) (m2C C n))) ∨ ((((mlYN (m1A C n) (m1B C n) (m1C C n) (m2A C n) (m2B C n) (m2C C n)) ≠ (mlYN (m1A C n) (m1B C n) (m1C C n) (m2A C n) (m2B C n) (m2C C n))) ∨ ((mlYD (m1A C n) (m1B C n) (m1C C n) (m2A C n) (m2B C n) (m2C C n)) ≠ (mlYD (m1A C n) (m1B C n) (m1C C n) (m2A C n) (m2B C n) (m2C C n))))))))) → (False)))) ∧ (((mlH (m1A C n) (m1B C n) (m1C C n) (m2A C n) (m2B C n) (m2C C n)) ≠ (mlH (m1A C n) (m1B C n) (m1C C n) (m2A C n) (m2B C n) (m2C C n))) → (False)))) ∧ (((((mlXN (m2A C n) (m2B C n) (m2C C n) (m1A C n) (m1B C n) (m1C C n)) = (mlXN (m1A C n) (m1B C n) (m1C C n) (m2A C n) (m2B C n) (m2C C n))) ∧ ((((mlXD (m2A C n) (m2B C n) (m2C C n) (m1A C n) (m1B C n) (m1C C n)) = (mlXD (m1A C n) (m1B C n) (m1C C n) (m2A C n) (m2B C n) (m2C C n))) ∧ ((((mlYN (m2A C n) (m2B C n) (m2C C n) (m1A C n) (m1B C n) (m1C C n)) = (mlYN (m1A C n) (m1B C n) (m1C C n) (m2A C n) (m2B C n) (m2C C n))) ∧ ((mlYD (m2A C n) (m2B C n) (m2C C n) (m1A C n) (m1B C n) (m1C C n)) = (mlYD (m1A C n) (m1B C n) (m1C C n) (m2A C n) (m2B C n) (m2C C n))))))))) → ((((mlH (m1A C n) (m1B C n) (m1C C n) (m2A C n) (m2B C n) (m2C C n)) ≠ 1) → ((((mlH (m1A C n) (m1B C n) (m1C C n) (m2A C n) (m2B C n) (m2C C n)) = (mlH (m1A C n) (m1B C n) (m1C C n) (m2A C n) (m2B C n) (m2C C n))) → ((((((mlXN (m1A C n) (m1B C n) (m1C C n) (m2A C n) (m2B C n) (m2C C n)) = (mlXN (m1A C n) (m1B C n) (m1C C n) (m2A C n) (m2B C n) (m2C C n))) ∧ ((((mlXD (m1A C n) (m1B C n) (m1C C n) (m2A C n) (m2B C n) (m2C C n)) = (mlXD (m1A C n) (m1B C n) (m1C C n) (m2A C n) (m2B C n) (m2C C n))) ∧ ((((mlYN (m1A C n) (m1B C n) (m1C C n) (m2A C n) (m2B C n) (m2C C n)) = (mlYN (m1A C n) (m1B C n) (m1C C n) (m2A C n) (m2B C n) (m2C C n))) ∧ ((mlYD (m1A C n) (m1B C n) (m1C C n) (m2A C n) (m2B C n) (m2C C n)) = (mlYD (m1A C n) (m1B C n) (m1C C n) (m2A C n) (m2B C n) (m2C C n))))))))) → ((((mlH (m2A C n) (m2B C n) (m2C C n) (m1A C n) (m1B C n) (m1C C n)) = (mlH (m1A C n) (m1B C n) (m1C C n) (m2A C n) (m2B C n) (m2C C n))) → ((((mlXN (m2A C n) (m2B C n) (m2C C n) (m1A C n) (m1B C n) (m1C C n)) = (mlXN (m1A C n) (m1B C n) (m1C C n) (m2A C n) (m2B C n) (m2C C n))) ∧ ((((mlXD (m2A C n) (m2B C n) (m2C C n) (m1A C n) (m1B C n) (m1C C n)) = (mlXD (m1A C n) (m1B C n) (m1C C n) (m2A C n) (m2B C n) (m2C C n))) ∧ ((((mlYN (m2A C n) (m2B C n) (m2C C n) (m1A C n) (m1B C n) (m1C C n)) = (mlYN (m1A C n) (m1B C n) (m1C C n) (m2A C n) (m2B C n) (m2C C n))) ∧ ((mlYD (m2A C n) (m2B C n) (m2C C n) (m1A C n) (m1B C n) (m1C C n)) = (mlYD (m1A C n) (m1B C n) (m1C C n) (m2A C n) (m2B C n) (m2C C n)))))))))) ∧ (((mlH (m2A C n) (m2B C n) (m2C C n) (m1A C n) (m1B C n) (m1C C n)) ≠ (mlH (m1A C n) (m1B C n) (m1C C n) (m2A C n) (m2B C n) (m2C C n))) → (False)))) ∧ (((((mlXN (m1A C n) (m1B C n) (m1C C n) (m2A C n) (m2B C n) (m2C C n)) ≠ (mlXN (m1A C n) (m1B C n) (m1C C n) (m2A C n) (m2B C n) (m2C C n))) ∨ ((((mlXD (m1A C n) (m1B C n) (m1C C n) (m2A C n) (m2B C n) (m2C C n)) ≠ (mlXD (m1A C n) (m1B C n) (m1C C n) (m2A C n) (m2B C n) (m2C C n))) ∨ ((((mlYN (m1A C n) (m1B C n) (m1C C n) (m2A C n) (m2B C n) (m2C C n)) ≠ (mlYN (m1A C n) (m1B C n) (m1C C n) (m2A C n) (m2B C n) (m2C C n))) ∨ ((mlYD (m1A C n) (m1B C n) (m1C C n) (m2A C n) (m2B C n) (m2C C n)) ≠ (mlYD (m1A C n) (m1B C n) (m1C C n) (m2A C n) (m2B C n) (m2C C n))))))))) → (False)))) ∧ (((mlH (m1A C n) (m1B C n) (m1C C n) (m2A C n) (m2B C n) (m2C C n)) ≠ (mlH (m1A C n) (m1B C n) (m1C C n) (m2A C n) (m2B C n) (m2C C n))) → (False)))) ∧ (((mlH (m1A C n) (m1B C n) (m1C C n) (m2A C n) (m2B C n) (m2C C n)) = 1) → (((((m1A C n) = (m1A C n)) ∧ (((m1B C n) = (m1B C n)) ∧ ((m1C C n) = (m1C C n)))) ∧ (((mlXN (m1A C n) (m1B C n) (m1C C n) (m2A C n) (m2B C n) (m2C C n)) = (mlXN (m1A C n) (m1B C n) (m1C C n) (m2A C n) (m2B C n) (m2C C n))) ∧ (((mlXD (m1A C n) (m1B C n) (m1C C n) (m2A C n) (m2B C n) (m2C C n)) = (mlXD (m1A C n) (m1B C n) (m1C C n) (m2A C n) (m2B C n) (m2C C n))) ∧ (((mlYN (m1A C n) (m1B C n) (m1C C n) (m2A C n) (m2B C n) (m2C C n)) = (mlYN (m1A C n) (m1B C n) (m1C C n) (m2A C n) (m2B C n) (m2C C n))) ∧ ((mlYD (m1A C n) (m1B C n) (m1C C n) (m2A C n) (m2B C n) (m2C C n)) = (mlYD (m1A C n) (m1B C n) (m1C C n) (m2A C n) (m2B C n) (m2C C n))))))) ∧ (((-1) ≤ (sorL (m1A C n) (m1B C n) (m1C C n) (mlXN (m1A C n) (m1B C n) (m1C C n) (m2A C n) (m2B C n) (m2C C n)) (mlXD (m1A C n) (m1B C n) (m1C C n) (m2A C n) (m2B C n) (m2C C n)) (mlYN (m1A C n) (m1B C n) (m1C C n) (m2A C n) (m2B C n) (m2C C n)) (mlYD (m1A C n) (m1B C n) (m1C C n) (m2A C n) (m2B C n) (m2C C n))) ∧ (sorL (m1A C n) (m1B C n) (m1C C n) (mlXN (m1A C n) (m1B C n) (m1C C n) (m2A C n) (m2B C n) (m2C C n)) (mlXD (m1A C n) (m1B C n) (m1C C n) (m2A C n) (m2B C n) (m2C C n)) (mlYN (m1A C n) (m1B C n) (m1C C n) (m2A C n) (m2B C n) (m2C C n)) (mlYD (m1A C n) (m1B C n) (m1C C n) (m2A C n) (m2B C n) (m2C C n))) ≤ 2) → (((((m2A C n) = (m2A C n)) ∧ (((m2B C n) = (m2B C n)) ∧ ((m2C C n) = (m2C C n)))) ∧ (((mlXN (m1A C n) (m1B C n) (m1C C n) (m2A C n) (m2B C n) (m2C C n)) = (mlXN (m1A C n) (m1B C n) (m1C C n) (m2A C n) (m2B C n) (m2C C n))) ∧ (((mlXD (m1A C n) (m1B C n) (m1C C n) (m2A C n) (m2B C n) (m2C C n)) = (mlXD (m1A C n) (m1B C n) (m1C C n) (m2A C n) (m2B C n) (m2C C n))) ∧ (((mlYN (m1A C n) (m1B C n) (m1C C n) (m2A C n) (m2B C n) (m2C C n)) = (mlYN (m1A C n) (m1B C n) (m1C C n) (m2A C n) (m2B C n) (m2C C n))) ∧ ((mlYD (m1A C n) (m1B C n) (m1C C n) (m2A C n) (m2B C n) (m2C C n)) = (mlYD (m1A C n) (m1B C n) (m1C C n) (m2A C n) (m2B C n) (m2C C n))))))) ∧ (((-1) ≤ (sorL (m2A C n) (m2B C n) (m2C C n) (mlXN (m1A C n) (m1B C n) (m1C C n) (m2A C n) (m2B C n) (m2C C n)) (mlXD (m1A C n) (m1B C n) (m1C C n) (m2A C n) (m2B C n) (m2C C n)) (mlYN (m1A C n) (m1B C n) (m1C C n) (m2A C n) (m2B C n) (m2C C n)) (mlYD (m1A C n) (m1B C n) (m1C C n) (m2A C n) (m2B C n) (m2C C n))) ∧ (sorL (m2A C n) (m2B C n) (m2C C n) (mlXN (m1A C n) (m1B C n) (m1C C n) (m2A C n) (m2B C n) (m2C C n)) (mlXD (m1A C n) (m1B C n) (m1C C n) (m2A C n) (m2B C n) (m2C C n)) (mlYN (m1A C n) (m1B C n) (m1C C n) (m2A C n) (m2B C n) (m2C C n)) (mlYD (m1A C n) (m1B C n) (m1C C n) (m2A C n) (m2B C n) (m2C C n))) ≤ 2) → ((((sorL (m1A C n) (m1B C n) (m1C C n) (mlXN (m1A C n) (m1B C n) (m1C C n) (m2A C n) (m2B C n) (m2C C n)) (mlXD (m1A C n) (m1B C n) (m1C C n) (m2A C n) (m2B C n) (m2C C n)) (mlYN (m1A C n) (m1B C n) (m1C C n) (m2A C n) (m2B C n) (m2C C n)) (mlYD (m1A C n) (m1B C n) (m1C C n) (m2A C n) (m2B C n) (m2C C n))) = 0) → ((((sorL (m2A C n) (m2B C n) (m2C C n) (mlXN (m1A C n) (m1B C n) (m1C C n) (m2A C n) (m2B C n) (m2C C n)) (mlXD (m1A C n) (m1B C n) (m1C C n) (m2A C n) (m2B C n) (m2C C n)) (mlYN (m1A C n) (m1B C n) (m1C C n) (m2A C n) (m2B C n) (m2C C n)) (mlYD (m1A C n) (m1B C n) (m1C C n) (m2A C n) (m2B C n) (m2C C n))) = 0) → ((((mlXN (m1A C n) (m1B C n) (m1C C n) (m2A C n) (m2B C n) (m2C C n)) = (mlXN (m1A C n) (m1B C n) (m1C C n) (m2A C n) (m2B C n) (m2C C n))) ∧ ((mlXD (m1A C n) (m1B C n) (m1C C n) (m2A C n) (m2B C n) (m2C C n)) = (mlXD (m1A C n) (m1B C n) (m1C C n) (m2A C n) (m2B C n) (m2C C n)))) ∧ ((((okR (mlXN (m1A C n) (m1B C n) (m1C C n) (m2A C n) (m2B C n) (m2C C n)) (mlXD (m1A C n) (m1B C n) (m1C C n) (m2A C n) (m2B C n) (m2C C n))) = true) → ((((mlYN (m1A C n) (m1B C n) (m1C C n) (m2A C n) (m2B C n) (m2C C n)) = (mlYN (m1A C n) (m1B C n) (m1C C n) (m2A C n) (m2B C n) (m2C C n))) ∧ ((mlYD (m1A C n) (m1B C n) (m1C C n) (m2A C n) (m2B C n) (m2C C n)) = (mlYD (m1A C n) (m1B C n) (m1C C n) (m2A C n) (m2B C n) (m2C C n)))) ∧ ((okR (mlYN (m1A C n) (m1B C n) (m1C C n) (m2A C n) (m2B C n) (m2C C n)) (mlYD (m1A C n) (m1B C n) (m1C C n) (m2A C n) (m2B C n) (m2C C n))) = true))) ∧ (((okR (mlXN (m1A C n) (m1B C n) (m1C C n) (m2A C n) (m2B C n) (m2C C n)) (mlXD (m1A C n) (m1B C n) (m1C C n) (m2A C n) (m2B C n) (m2C C n))) = false) → (False))))) ∧ (((sorL (m2A C n) (m2B C n) (m2C C n) (mlXN (m1A C n) (m1B C n) (m1C C n) (m2A C n) (m2B C n) (m2C C n)) (mlXD (m1A C n) (m1B C n) (m1C C n) (m2A C n) (m2B C n) (m2C C n)) (mlYN (m1A C n) (m1B C n) (m1C C n) (m2A C n) (m2B C n) (m2C C n)) (mlYD (m1A C n) (m1B C n) (m1C C n) (m2A C n) (m2B C n) (m2C C n))) ≠ 0) → ((((sorL (m2A C n) (m2B C n) (m2C C n) (mlXN (m1A C n) (m1B C n) (m1C C n) (m2A C n) (m2B C n) (m2C C n)) (mlXD (m1A C n) (m1B C n) (m1C C n) (m2A C n) (m2B C n) (m2C C n)) (mlYN (m1A C n) (m1B C n) (m1C C n) (m2A C n) (m2B C n) (m2C C n)) (mlYD (m1A C n) (m1B C n) (m1C C n) (m2A C n) (m2B C n) (m2C C n))) = 2) → ((((mlXN (m1A C n) (m1B C n) (m1C C n) (m2A C n) (m2B C n) (m2C C n)) = (mlXN (m1A C n) (m1B C n) (m1C C n) (m2A C n) (m2B C n) (m2C C n))) ∧ ((mlXD (m1A C n) (m1B C n) (m1C C n) (m2A C n) (m2B C n) (m2C C n)) = (mlXD (m1A C n) (m1B C n) (m1C C n) (m2A C n) (m2B C n) (m2C C n)))) ∧ ((((okR (mlXN (m1A C n) (m1B C n) (m1C C n) (m2A C n) (m2B C n) (m2C C n)) (mlXD (m1A C n) (m1B C n) (m1C C n) (m2A C n) (m2B C n) (m2C C n))) = true) → ((((mlYN (m1A C n) (m1B C n) (m1C C n) (m2A C n) (m2B C n) (m2C C n)) = (mlYN (m1A C n) (m1B C n) (m1C C n) (m2A C n) (m2B C n) (m2C C n))) ∧ ((mlYD (m1A C n) (m1B C n) (m1C C n) (m2A C n) (m2B C n) (m2C C n)) = (mlYD (m1A C n) (m1B C n) (m1C C n) (m2A C n) (m2B C n) (m2C C n)))) ∧ ((okR (mlYN (m1A C n) (m1B C n) (m1C C n) (m2A C n) (m2B C n) (m2C C n)) (mlYD (m1A C n) (m1B C n) (m1C C n) (m2A C n) (m2B C n) (m2C C n))) = true))) ∧ (((okR (mlXN (m1A C n) (m1B C n) (m1C C n) (m2A C n) (m2B C n) (m2C C n)) (mlXD (m1A C n) (m1B C n) (m1C C n) (m2A C n) (m2B C n) (m2C C n))) = false) → (False))))) ∧ (((sorL (m2A C n) (m2B C n) (m2C C n) (mlXN (m1A C n) (m1B C n) (m1C C n) (m2A C n) (m2B C n) (m2C C n)) (mlXD (m1A C n) (m1B C n) (m1C C n) (m2A C n) (m2B C n) (m2C C n)) (mlYN (m1A C n) (m1B C n) (m1C C n) (m2A C n) (m2B C n) (m2C C n)) (mlYD (m1A C n) (m1B C n) (m1C C n) (m2A C n) (m2B C n) (m2C C n))) ≠ 2) → (False)))))) ∧ (((sorL (m1A C n) (m1B C n) (m1C C n) (mlXN (m1A C n) (m1B C n) (m1C C n) (m2A C n) (m2B C n) (m2C C n)) (mlXD (m1A C n) (m1B C n) (m1C C n) (m2A C n) (m2B C n) (m2C C n)) (mlYN (m1A C n) (m1B C n) (m1C C n) (m2A C n) (m2B C n) (m2C C n)) (mlYD (m1A C n) (m1B C n) (m1C C n) (m2A C n) (m2B C n) (m2C C n))) ≠ 0) → ((((sorL (m1A C n) (m1B C n) (m1C C n) (mlXN (m1A C n) (m1B C n) (m1C C n) (m2A C n) (m2B C n) (m2C C n)) (mlXD (m1A C n) (m1B C n) (m1C C n) (m2A C n) (m2B C n) (m2C C n)) (mlYN (m1A C n) (m1B C n) (m1C C n) (m2A C n) (m2B C n) (m2C C n)) (mlYD (m1A C n) (m1B C n) (m1C C n) (m2A C n) (m2B C n) (m2C C n))) = 2) → ((((sorL (m2A C n) (m2B C n) (m2C C n) (mlXN (m1A C n) (m1B C n) (m1C C n) (m2A C n) (m2B C n) (m2C C n)) (mlXD (m1A C n) (m1B C n) (m1C C n) (m2A C n) (m2B C n) (m2C C n)) (mlYN (m1A C n) (m1B C n) (m1C C n) (m2A C n) (m2B C n) (m2C C n)) (mlYD (m1A C n) (m1B C n) (m1C C n) (m2A C n) (m2B C n) (m2C C n))) = 0) → ((((mlXN (m1A C n) (m1B C n) (m1C C n) (m2A C n) (m2B C n) (m2C C n)) = (mlXN (m1A C n) (m1B C n) (m1C C n) (m2A C n) (m2B C n) (m2C C n))) ∧ ((mlXD (m1A C n) (m1B C n) (m1C C n) (m2A C n) (m2B C n) (m2C C n)) = (mlXD (m1A C n) (m1B C n) (m1C C n) (m2A C n) (m2B C n) (m2C C n)))) ∧ ((((okR (mlXN (m1A C n) (m1B C n) (m1C C n) (m2A C n) (m2B C n) (m2C C n)) (mlXD (m1A C n) (m1B C n) (m1C C n) (m2A C n) (m2B C n) (m2C C n))) = true) → ((((mlYN (m1A C n) (m1B C n) (m1C C n) (m2A C n) (m2B C n) (m2C C n)) = (mlYN (m1A C n) (m1B C n) (m1C C n) (m2A C n) (m2B C n) (m2C C n))) ∧ ((mlYD (m1A C n) (m1B C n) (m1C C n) (m2A C n) (m2B C n) (m2C C n)) = (mlYD (m1A C n) (m1B C n) (m1C C n) (m2A C n) (m2B C n) (m2C C n)))) ∧ ((okR (mlYN (m1A C n) (m1B C n) (m1C C n) (m2A C n) (m2B C n) (m2C C n)) (mlYD (m1A C n) (m1B C n) (m1C C n) (m2A C n) (m2B C n) (m2C C n))) = true))) ∧ (((okR (mlXN (m1A C n) (m1B C n) (m1C C n) (m2A C n) (m2B C n) (m2C C n)) (mlXD (m1A C n) (m1B C n) (m1C C n) (m2A C n) (m2B C n) (m2C C n))) = false) → (False))))) ∧ (((sorL (m2A C n) (m2B C n) (m2C C n) (mlXN (m1A C n) (m1B C n) (m1C C n) (m2A C n) (m2B C n) (m2C C n)) (mlXD (m1A C n) (m1B C n) (m1C C n) (m2A C n) (m2B C n) (m2C C n)) (mlYN (m1A C n) (m1B C n) (m1C C n) (m2A C n) (m2B C n) (m2C C n)) (mlYD (m1A C n) (m1B C n) (m1C C n) (m2A C n) (m2B C n) (m2C C n))) ≠ 0) → ((((sorL (m2A C n) (m2B C n) (m2C C n) (mlXN (m1A C n) (m1B C n) (m1C C n) (m2A C n) (m2B C n) (m2C C n)) (mlXD (m1A C n) (m1B C n) (m1C C n) (m2A C n) (m2B C n) (m2C C n)) (mlYN (m1A C n) (m1B C n) (m1C C n) (m2A C n) (m2B C n) (m2C C n)) (mlYD (m1A C n) (m1B C n) (m1C C n) (m2A C n) (m2B C n) (m2C C n))) = 2) → ((((mlXN (m1A C n) (m1B C n) (m1C C n) (m2A C n) (m2B C n) (m2C C n)) = (mlXN (m1A C n) (m1B C n) (m1C C n) (m2A C n) (m2B C n) (m2C C n))) ∧ ((mlXD (m1A C n) (m1B C n) (m1C C n) (m2A C n) (m2B C n) (m2C C n)) = (mlXD (m1A C n) (m1B C n) (m1C C n) (m2A C n) (m2B C n) (m2C C n)))) ∧ ((((okR (mlXN (m1A C n) (m1B C n) (m1C C n) (m2A C n) (m2B C n) (m2C C n)) (mlXD (m1A C n) (m1B C n) (m1C C n) (m2A C n) (m2B C n) (m2C C n))) = true) → ((((mlYN (m1A C n) (m1B C n) (m1C C n) (m2A C n) (m2B C n) (m2C C n)) = (mlYN (m1A C n) (m1B C n) (m1C C n) (m2A C n) (m2B C n) (m2C C n))) ∧ ((mlYD (m1A C n) (m1B C n) (m1C C n) (m2A C n) (m2B C n) (m2C C n)) = (mlYD (m1A C n) (m1B C n) (m1C C n) (m2A C n) (m2B C n) (m2C C n)))) ∧ ((okR (mlYN (m1A C n) (m1B C n) (m1C C n) (m2A C n) (m2B C n) (m2C C n)) (mlYD (m1A C n) (m1B C n) (m1C C n) (m2A C n) (m2B C n) (m2C C n))) = true))) ∧ (((okR (mlXN (m1A C n) (m1B C n) (m1C C n) (m2A C n) (m2B C n) (m2C C n)) (mlXD (m1A C n) (m1B C n) (m1C C n) (m2A C n) (m2B C n) (m2C C n))) = false) → (False))))) ∧ (((sorL (m2A C n) (m2B C n) (m2C C n) (mlXN (m1A C n) (m1B C n) (m1C C n) (m2A C n) (m2B C n) (m2C C n)) (mlXD (m1A C n) (m1B C n) (m1C C n) (m2A C n) (m2B C n) (m2C C n)) (mlYN (m1A C n) (m1B C n) (m1C C n) (m2A C n) (m2B C n) (m2C C n)) (mlYD (m1A C n) (m1B C n) (m1C C n) (m2A C n) (m2B C n) (m2C C n))) ≠ 2) → (False)))))) ∧ (((sorL (m1A C n) (m1B C n) (m1C C n) (mlXN (m1A C n) (m1B C n) (m1C C n) (m2A C n) (m2B C n) (m2C C n)) (mlXD (m1A C n) (m1B C n) (m1C C n) (m2A C n) (m2B C n) (m2C C n)) (mlYN (m1A C n) (m1B C n) (m1C C n) (m2A C n) (m2B C n) (m2C C n)) (mlYD (m1A C n) (m1B C n) (m1C C n) (m2A C n) (m2B C n) (m2C C n))) ≠ 2) → (False)))))))))))))))))))))))))))))) (by kernel_rfl) ?_
  intro h1 h2
  intro c3
  refine ⟨rfl, ⟨Int.le_refl _, fun _ => fun _ => rfl⟩, ?_⟩
  intro c4
  refine ⟨⟨⟨rfl, ⟨rfl, rfl⟩⟩, ⟨rfl, ⟨rfl, rfl⟩⟩⟩, ?_⟩
  intro c5
  refine ⟨⟨⟨rfl, ⟨rfl, rfl⟩⟩, ⟨rfl, ⟨rfl, rfl⟩⟩⟩, ?_⟩
  intro c6
  refine ⟨⟨⟨rfl, ⟨rfl, rfl⟩⟩, ⟨rfl, ⟨rfl, rfl⟩⟩⟩, ?_⟩
  intro c7
  refine ⟨?_, ?_⟩
  · intro c8
    refine ⟨?_, ?_⟩
    · intro c9
      refine ⟨?_, ?_⟩
      · intro c10
        refine ⟨?_, ?_⟩
        · intro c11
          -- 1: (((mlXN (m2A C n) (m2B C n) (m2C C n) (m1A C n) (m1B C n) (m1C C n)) = (mlXN (m1A C n) (m1B C n) (m1
          first | rfl | omega | (have hm := meet_swap (m1A C n) (m1B C n) (m1C C n) (m2A C n) (m2B C n) (m2C C n); first | omega | (simp_all; done)) | (have hm := meet_law (lA := m1A C n) (lB := m1B C n) (lC := m1C C n) (mA := m2A C n) (mB := m2B C n) (mC := m2C C n) (by assumption); first | exact hm.1 | exact hm.2.1 | omega | (simp_all; done)) | (simp_all; done)
        · intro c12
          -- 2: False
          first | rfl | omega | (have hm := meet_swap (m1A C n) (m1B C n) (m1C C n) (m2A C n) (m2B C n) (m2C C n); first | omega | (simp_all; done)) | (have hm := meet_law (lA := m1A C n) (lB := m1B C n) (lC := m1C C n) (mA := m2A C n) (mB := m2B C n) (mC := m2C C n) (by assumption); first | exact hm.1 | exact hm.2.1 | omega | (simp_all; done)) | (simp_all; done)
      · intro c13
        -- 3: False
        first | rfl | omega | (have hm := meet_swap (m1A C n) (m1B C n) (m1C C n) (m2A C n) (m2B C n) (m2C C n); first | omega | (simp_all; done)) | (have hm := meet_law (lA := m1A C n) (lB := m1B C n) (lC := m1C C n) (mA := m2A C n) (mB := m2B C n) (mC := m2C C n) (by assumption); first | exact hm.1 | exact hm.2.1 | omega | (simp_all; done)) | (simp_all; done)
    · intro c14
      -- 4: False
      first | rfl | omega | (have hm := meet_swap (m1A C n) (m1B C n) (m1C C n) (m2A C n) (m2B C n) (m2C C n); first | omega | (simp_all; done)) | (have hm := meet_law (lA := m1A C n) (lB := m1B C n) (lC := m1C C n) (mA := m2A C n) (mB := m2B C n) (mC := m2C C n) (by assumption); first | exact hm.1 | exact hm.2.1 | omega | (simp_all; done)) | (simp_all; done)
  · intro c15
    refine ⟨?_, ?_⟩
    · intro c16
      refine ⟨?_, ?_⟩
      · intro c17
        refine ⟨?_, ?_⟩
        · intro c18
          refine ⟨?_, ?_⟩
          · intro c19
            -- 5: (((mlXN (m2A C n) (m2B C n) (m2C C n) (m1A C n) (m1B C n) (m1C C n)) = (mlXN (m1A C n) (m1B C n) (m1
            first | rfl | omega | (have hm := meet_swap (m1A C n) (m1B C n) (m1C C n) (m2A C n) (m2B C n) (m2C C n); first | omega | (simp_all; done)) | (have hm := meet_law (lA := m1A C n) (lB := m1B C n) (lC := m1C C n) (mA := m2A C n) (mB := m2B C n) (mC := m2C C n) (by assumption); first | exact hm.1 | exact hm.2.1 | omega | (simp_all; done)) | (simp_all; done)
          · intro c20
            -- 6: False
            first | rfl | omega | (have hm := meet_swap (m1A C n) (m1B C n) (m1C C n) (m2A C n) (m2B C n) (m2C C n); first | omega | (simp_all; done)) | (have hm := meet_law (lA := m1A C n) (lB := m1B C n) (lC := m1C C n) (mA := m2A C n) (mB := m2B C n) (mC := m2C C n) (by assumption); first | exact hm.1 | exact hm.2.1 | omega | (simp_all; done)) | (simp_all; done)
        · intro c21
          -- 7: False
          first | rfl | omega | (have hm := meet_swap (m1A C n) (m1B C n) (m1C C n) (m2A C n) (m2B C n) (m2C C n); first | omega | (simp_all; done)) | (have hm := meet_law (lA := m1A C n) (lB := m1B C n) (lC := m1C C n) (mA := m2A C n) (mB := m2B C n) (mC := m2C C n) (by assumption); first | exact hm.1 | exact hm.2.1 | omega | (simp_all; done)) | (simp_all; done)
      · intro c22
        -- 8: False
        first | rfl | omega | (have hm := meet_swap (m1A C n) (m1B C n) (m1C C n) (m2A C n) (m2B C n) (m2C C n); first | omega | (simp_all; done)) | (have hm := meet_law (lA := m1A C n) (lB := m1B C n) (lC := m1C C n) (mA := m2A C n) (mB := m2B C n) (mC := m2C C n) (by assumption); first | exact hm.1 | exact hm.2.1 | omega | (simp_all; done)) | (simp_all; done)
    · intro c23
      refine ⟨?_, ?_⟩
      · intro c24
        refine ⟨?_, ?_⟩
        · intro c25
          refine ⟨?_, ?_⟩
          · intro c26
            refine ⟨?_, ?_⟩
            · intro c27
              -- 9: (((mlXN (m2A C n) (m2B C n) (m2C C n) (m1A C n) (m1B C n) (m1C C n)) = (mlXN (m1A C n) (m1B C n) (m1
              first | rfl | omega | (have hm := meet_swap (m1A C n) (m1B C n) (m1C C n) (m2A C n) (m2B C n) (m2C C n); first | omega | (simp_all; done)) | (have hm := meet_law (lA := m1A C n) (lB := m1B C n) (lC := m1C C n) (mA := m2A C n) (mB := m2B C n) (mC := m2C C n) (by assumption); first | exact hm.1 | exact hm.2.1 | omega | (simp_all; done)) | (simp_all; done)
            · intro c28
              -- 10: False
              first | rfl | omega | (have hm := meet_swap (m1A C n) (m1B C n) (m1C C n) (m2A C n) (m2B C n) (m2C C n); first | omega | (simp_all; done)) | (have hm := meet_law (lA := m1A C n) (lB := m1B C n) (lC := m1C C n) (mA := m2A C n) (mB := m2B C n) (mC := m2C C n) (by assumption); first | exact hm.1 | exact hm.2.1 | omega | (simp_all; done)) | (simp_all; done)
          · intro c29
            -- 11: False
            first | rfl | omega | (have hm := meet_swap (m1A C n) (m1B C n) (m1C C n) (m2A C n) (m2B C n) (m2C C n); first | omega | (simp_all; done)) | (have hm := meet_law (lA := m1A C n) (lB := m1B C n) (lC := m1C C n) (mA := m2A C n) (mB := m2B C n) (mC := m2C C n) (by assumption); first | exact hm.1 | exact hm.2.1 | omega | (simp_all; done)) | (simp_all; done)
        · intro c30
          -- 12: False
          first | rfl | omega | (have hm := meet_swap (m1A C n) (m1B C n) (m1C C n) (m2A C n) (m2B C n) (m2C C n); first | omega | (simp_all; done)) | (have hm := meet_law (lA := m1A C n) (lB := m1B C n) (lC := m1C C n) (mA := m2A C n) (mB := m2B C n) (mC := m2C C n) (by assumption); first | exact hm.1 | exact hm.2.1 | omega | (simp_all; done)) | (simp_all; done)
      · intro c31
        refine ⟨?_, ?_⟩
        · intro c32
          refine ⟨?_, ?_⟩
          · intro c33
            refine ⟨?_, ?_⟩
            · intro c34
              refine ⟨?_, ?_⟩
              · intro c35
                -- 13: (((mlXN (m2A C n) (m2B C n) (m2C C n) (m1A C n) (m1B C n) (m1C C n)) = (mlXN (m1A C n) (m1B C n) (m1
                first | rfl | omega | (have hm := meet_swap (m1A C n) (m1B C n) (m1C C n) (m2A C n) (m2B C n) (m2C C n); first | omega | (simp_all; done)) | (have hm := meet_law (lA := m1A C n) (lB := m1B C n) (lC := m1C C n) (mA := m2A C n) (mB := m2B C n) (mC := m2C C n) (by assumption); first | exact hm.1 | exact hm.2.1 | omega | (simp_all; done)) | (simp_all; done)
              · intro c36
                -- 14: False
                first | rfl | omega | (have hm := meet_swap (m1A C n) (m1B C n) (m1C C n) (m2A C n) (m2B C n) (m2C C n); first | omega | (simp_all; done)) | (have hm := meet_law (lA := m1A C n) (lB := m1B C n) (lC := m1C C n) (mA := m2A C n) (mB := m2B C n) (mC := m2C C n) (by assumption); first | exact hm.1 | exact hm.2.1 | omega | (simp_all; done)) | (simp_all; done)
            · intro c37
              -- 15: False
              first | rfl | omega | (have hm := meet_swap (m1A C n) (m1B C n) (m1C C n) (m2A C n) (m2B C n) (m2C C n); first | omega | (simp_all; done)) | (have hm := meet_law (lA := m1A C n) (lB := m1B C n) (lC := m1C C n) (mA := m2A C n) (mB := m2B C n) (mC := m2C C n) (by assumption); first | exact hm.1 | exact hm.2.1 | omega | (simp_all; done)) | (simp_all; done)
          · intro c38
            -- 16: False
            first | rfl | omega | (have hm := meet_swap (m1A C n) (m1B C n) (m1C C n) (m2A C n) (m2B C n) (m2C C n); first | omega | (simp_all; done)) | (have hm := meet_law (lA := m1A C n) (lB := m1B C n) (lC := m1C C n) (mA := m2A C n) (mB := m2B C n) (mC := m2C C n) (by assumption); first | exact hm.1 | exact hm.2.1 | omega | (simp_all; done)) | (simp_all; done)
        · intro c39
          refine ⟨?_, ?_⟩
          · intro c40
            refine ⟨?_, ?_⟩
            · intro c41
              refine ⟨?_, ?_⟩
              · intro c42
                refine ⟨?_, ?_⟩
                · intro c43
                  -- 17: (((mlXN (m2A C n) (m2B C n) (m2C C n) (m1A C n) (m1B C n) (m1C C n)) = (mlXN (m1A C n) (m1B C n) (m1
                  first | rfl | omega | (have hm := meet_swap (m1A C n) (m1B C n) (m1C C n) (m2A C n) (m2B C n) (m2C C n); first | omega | (simp_all; done)) | (have hm := meet_law (lA := m1A C n) (lB := m1B C n) (lC := m1C C n) (mA := m2A C n) (mB := m2B C n) (mC := m2C C n) (by assumption); first | exact hm.1 | exact hm.2.1 | omega | (simp_all; done)) | (simp_all; done)
                · intro c44
                  -- 18: False
                  first | rfl | omega | (have hm := meet_swap (m1A C n) (m1B C n) (m1C C n) (m2A C n) (m2B C n) (m2C C n); first | omega | (simp_all; done)) | (have hm := meet_law (lA := m1A C n) (lB := m1B C n) (lC := m1C C n) (mA := m2A C n) (mB := m2B C n) (mC := m2C C n) (by assumption); first | exact hm.1 | exact hm.2.1 | omega | (simp_all; done)) | (simp_all; done)
              · intro c45
                -- 19: False
                first | rfl | omega | (have hm := meet_swap (m1A C n) (m1B C n) (m1C C n) (m2A C n) (m2B C n) (m2C C n); first | omega | (simp_all; done)) | (have hm := meet_law (lA := m1A C n) (lB := m1B C n) (lC := m1C C n) (mA := m2A C n) (mB := m2B C n) (mC := m2C C n) (by assumption); first | exact hm.1 | exact hm.2.1 | omega | (simp_all; done)) | (simp_all; done)
            · intro c46
              -- 20: False
              first | rfl | omega | (have hm := meet_swap (m1A C n) (m1B C n) (m1C C n) (m2A C n) (m2B C n) (m2C C n); first | omega | (simp_all; done)) | (have hm := meet_law (lA := m1A C n) (lB := m1B C n) (lC := m1C C n) (mA := m2A C n) (mB := m2B C n) (mC := m2C C n) (by assumption); first | exact hm.1 | exact hm.2.1 | omega | (simp_all; done)) | (simp_all; done)
          · intro c47
            refine ⟨⟨⟨rfl, ⟨rfl, rfl⟩⟩, ⟨rfl, ⟨rfl, ⟨rfl, rfl⟩⟩⟩⟩, ?_⟩
            intro c48
            refine ⟨⟨⟨rfl, ⟨rfl, rfl⟩⟩, ⟨rfl, ⟨rfl, ⟨rfl, rfl⟩⟩⟩⟩, ?_⟩
            intro c49
            refine ⟨?_, ?_⟩
            · intro c50
              refine ⟨?_, ?_⟩
              · intro c51
                refine ⟨⟨rfl, rfl⟩, ?_, ?_⟩
                · intro c52
                  refine ⟨⟨rfl, rfl⟩, ?_⟩
                  -- 21: (okR (mlYN (m1A C n) (m1B C n) (m1C C n) (m2A C n) (m2B C n) (m2C C n)) (mlYD (m1A C n) (m1B C n) (m
                  first | rfl | omega | (have hm := meet_swap (m1A C n) (m1B C n) (m1C C n) (m2A C n) (m2B C n) (m2C C n); first | omega | (simp_all; done)) | (have hm := meet_law (lA := m1A C n) (lB := m1B C n) (lC := m1C C n) (mA := m2A C n) (mB := m2B C n) (mC := m2C C n) (by assumption); first | exact hm.1 | exact hm.2.1 | omega | (simp_all; done)) | (simp_all; done)
                · intro c53
                  -- 22: False
                  first | rfl | omega | (have hm := meet_swap (m1A C n) (m1B C n) (m1C C n) (m2A C n) (m2B C n) (m2C C n); first | omega | (simp_all; done)) | (have hm := meet_law (lA := m1A C n) (lB := m1B C n) (lC := m1C C n) (mA := m2A C n) (mB := m2B C n) (mC := m2C C n) (by assumption); first | exact hm.1 | exact hm.2.1 | omega | (simp_all; done)) | (simp_all; done)
              · intro c54
                refine ⟨?_, ?_⟩
                · intro c55
                  refine ⟨⟨rfl, rfl⟩, ?_, ?_⟩
                  · intro c56
                    refine ⟨⟨rfl, rfl⟩, ?_⟩
                    -- 23: (okR (mlYN (m1A C n) (m1B C n) (m1C C n) (m2A C n) (m2B C n) (m2C C n)) (mlYD (m1A C n) (m1B C n) (m
                    first | rfl | omega | (have hm := meet_swap (m1A C n) (m1B C n) (m1C C n) (m2A C n) (m2B C n) (m2C C n); first | omega | (simp_all; done)) | (have hm := meet_law (lA := m1A C n) (lB := m1B C n) (lC := m1C C n) (mA := m2A C n) (mB := m2B C n) (mC := m2C C n) (by assumption); first | exact hm.1 | exact hm.2.1 | omega | (simp_all; done)) | (simp_all; done)
                  · intro c57
                    -- 24: False
                    first | rfl | omega | (have hm := meet_swap (m1A C n) (m1B C n) (m1C C n) (m2A C n) (m2B C n) (m2C C n); first | omega | (simp_all; done)) | (have hm := meet_law (lA := m1A C n) (lB := m1B C n) (lC := m1C C n) (mA := m2A C n) (mB := m2B C n) (mC := m2C C n) (by assumption); first | exact hm.1 | exact hm.2.1 | omega | (simp_all; done)) | (simp_all; done)
                · intro c58
                  -- 25: False
                  first | rfl | omega | (have hm := meet_swap (m1A C n) (m1B C n) (m1C C n) (m2A C n) (m2B C n) (m2C C n); first | omega | (simp_all; done)) | (have hm := meet_law (lA := m1A C n) (lB := m1B C n) (lC := m1C C n) (mA := m2A C n) (mB := m2B C n) (mC := m2C C n) (by assumption); first | exact hm.1 | exact hm.2.1 | omega | (simp_all; done)) | (simp_all; done)
            · intro c59
              refine ⟨?_, ?_⟩
              · intro c60
                refine ⟨?_, ?_⟩
                · intro c61
                  refine ⟨⟨rfl, rfl⟩, ?_, ?_⟩
                  · intro c62
                    refine ⟨⟨rfl, rfl⟩, ?_⟩
                    -- 26: (okR (mlYN (m1A C n) (m1B C n) (m1C C n) (m2A C n) (m2B C n) (m2C C n)) (mlYD (m1A C n) (m1B C n) (m
                    first | rfl | omega | (have hm := meet_swap (m1A C n) (m1B C n) (m1C C n) (m2A C n) (m2B C n) (m2C C n); first | omega | (simp_all; done)) | (have hm := meet_law (lA := m1A C n) (lB := m1B C n) (lC := m1C C n) (mA := m2A C n) (mB := m2B C n) (mC := m2C C n) (by assumption); first | exact hm.1 | exact hm.2.1 | omega | (simp_all; done)) | (simp_all; done)
                  · intro c63
                    -- 27: False
                    first | rfl | omega | (have hm := meet_swap (m1A C n) (m1B C n) (m1C C n) (m2A C n) (m2B C n) (m2C C n); first | omega | (simp_all; done)) | (have hm := meet_law (lA := m1A C n) (lB := m1B C n) (lC := m1C C n) (mA := m2A C n) (mB := m2B C n) (mC := m2C C n) (by assumption); first | exact hm.1 | exact hm.2.1 | omega | (simp_all; done)) | (simp_all; done)
                · intro c64
                  refine ⟨?_, ?_⟩
                  · intro c65
                    refine ⟨⟨rfl, rfl⟩, ?_, ?_⟩
                    · intro c66
                      refine ⟨⟨rfl, rfl⟩, ?_⟩
                      -- 28: (okR (mlYN (m1A C n) (m1B C n) (m1C C n) (m2A C n) (m2B C n) (m2C C n)) (mlYD (m1A C n) (m1B C n) (m
                      first | rfl | omega | (have hm := meet_swap (m1A C n) (m1B C n) (m1C C n) (m2A C n) (m2B C n) (m2C C n); first | omega | (simp_all; done)) | (have hm := meet_law (lA := m1A C n) (lB := m1B C n) (lC := m1C C n) (mA := m2A C n) (mB := m2B C n) (mC := m2C C n) (by assumption); first | exact hm.1 | exact hm.2.1 | omega | (simp_all; done)) | (simp_all; done)
                    · intro c67
                      -- 29: False
                      first | rfl | omega | (have hm := meet_swap (m1A C n) (m1B C n) (m1C C n) (m2A C n) (m2B C n) (m2C C n); first | omega | (simp_all; done)) | (have hm := meet_law (lA := m1A C n) (lB := m1B C n) (lC := m1C C n) (mA := m2A C n) (mB := m2B C n) (mC := m2C C n) (by assumption); first | exact hm.1 | exact hm.2.1 | omega | (simp_all; done)) | (simp_all; done)
                  · intro c68
                    -- 30: False
                    first | rfl | omega | (have hm := meet_swap (m1A C n) (m1B C n) (m1C C n) (m2A C n) (m2B C n) (m2C C n); first | omega | (simp_all; done)) | (have hm := meet_law (lA := m1A C n) (lB := m1B C n) (lC := m1C C n) (mA := m2A C n) (mB := m2B C n) (mC := m2C C n) (by assumption); first | exact hm.1 | exact hm.2.1 | omega | (simp_all; done)) | (simp_all; done)
              · intro c69
                -- 31: False
                first | rfl | omega | (have hm := meet_swap (m1A C n) (m1B C n) (m1C C n) (m2A C n) (m2B C n) (m2C C n); first | omega | (simp_all; done)) | (have hm := meet_law (lA := m1A C n) (lB := m1B C n) (lC := m1C C n) (mA := m2A C n) (mB := m2B C n) (mC := m2C C n) (by assumption); first | exact hm.1 | exact hm.2.1 | omega | (simp_all; done)) | (simp_all; done)
def c_l_FnMeetLines (C : Int → Int) (n : Int) : Cn Try.prog := ⟨_, _, _, _, _, l_FnMeetLines C n⟩
end Go.Proofs.Ytheehhfmdmflmaa
